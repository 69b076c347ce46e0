/- Texts that the proofs of this claim share, part 6: the abstract logic, plain Lean on values and batches, and walks. No condition but those typed in each lemma. -/
import Derived.Shelf.Sort.Plain
import Derived.Shelf.Slices.In.SortNone
import Derived.Test.YtchikjokpmdipaaP5
set_option linter.unusedSimpArgs false
set_option linter.unusedVariables false
namespace Go.Proofs
open Go Go.Al

/-! ### Keys collected in a map, sorted: the own form -/

/-- The last place of a key. -/
def lastAt : List GA → ByteArray → Nat → Option Nat
  | [], _, _ => none
  | x :: xs, k, i => match lastAt xs k (i + 1) with
    | some j => some j
    | none => if x.key = k then some i else none
def lastI (l : List GA) (k : ByteArray) : Nat := (lastAt l k 0).getD 0
def mks (l : List GA) : List ByteArray := l.foldl (fun acc x => mputK acc x.key) []
def mvs (l : List GA) : List AV := (mks l).map fun k => iv (lastI l k : Int)

theorem lastAt_snoc (k : ByteArray) (x : GA) : ∀ (m : List GA) (i : Nat), lastAt (m ++ [x]) k i = if x.key = k then some (i + m.length) else lastAt m k i
  | [], i => by simp only [List.nil_append, lastAt]; split <;> simp
  | y :: m, i => by
    simp only [List.cons_append, lastAt]
    rw [lastAt_snoc k x m (i + 1)]
    by_cases h : x.key = k
    · simp only [h, if_true, List.length_cons]; congr 1; omega
    · simp only [if_neg h]
theorem lastAt_lt {k : ByteArray} : ∀ {m : List GA} {i j : Nat}, lastAt m k i = some j → i ≤ j ∧ j < i + m.length
  | [], i, j, h => by simp [lastAt] at h
  | x :: xs, i, j, h => by
    simp only [lastAt] at h
    split at h
    · rename_i j' hj; cases h; have := lastAt_lt hj; simp; omega
    · split at h
      · cases h; simp
      · cases h
theorem mks_snoc (m : List GA) (x : GA) : mks (m ++ [x]) = mputK (mks m) x.key := by simp [mks, List.foldl_append]

theorem mfind_none : ∀ {l : List ByteArray} {s : ByteArray} {i : Nat}, mfind l s i = none ↔ s ∉ l
  | [], s, i => by simp [mfind]
  | x :: xs, s, i => by
    rw [mfind]
    by_cases h : s = x
    · simp [h]
    · simp [h, mfind_none]
theorem nodup_mks (l : List GA) : (mks l).Nodup := by
  have key : ∀ (l : List GA) (acc : List ByteArray), acc.Nodup → (l.foldl (fun acc x => mputK acc x.key) acc).Nodup := by
    intro l
    induction l with
    | nil => intro acc h; exact h
    | cons x l ih =>
      intro acc h
      refine ih _ ?_
      show (mputK acc x.key).Nodup
      unfold mputK
      split
      · exact h
      · rename_i hm
        have := mfind_none.1 hm
        rw [List.nodup_append]
        refine ⟨h, by simp, ?_⟩
        intro a ha b hb
        simp at hb; subst hb
        rintro rfl; exact this ha
  exact key l [] (by simp)
theorem mem_mputK {l : List ByteArray} {s k : ByteArray} : k ∈ mputK l s ↔ k = s ∨ k ∈ l := by
  unfold mputK
  split
  · rename_i j hm
    have := mfind_get hm
    have hs : s ∈ l := List.mem_of_getElem? this
    constructor
    · exact .inr
    · rintro (rfl | h)
      · exact hs
      · exact h
  · simp; exact Or.comm
theorem mks_spec (l : List GA) (k : ByteArray) : k ∈ mks l ↔ ∃ j, lastAt l k 0 = some j := by
  induction l using snocInd with
  | nil => simp [mks, lastAt]
  | snoc m x ih =>
    rw [mks_snoc, mem_mputK, lastAt_snoc, ih]
    by_cases h : x.key = k
    · simp [h]
    · have : ¬ k = x.key := fun e => h e.symm
      simp [h, this]
where
  snocInd {motive : List GA → Prop} (l : List GA) (nil : motive []) (snoc : ∀ m x, motive m → motive (m ++ [x])) : motive l := by
    have : ∀ n (l : List GA), l.length = n → motive l := by
      intro n
      induction n with
      | zero => intro l h; rw [List.eq_nil_of_length_eq_zero h]; exact nil
      | succ n ih =>
        intro l h
        have hne : l ≠ [] := by rintro rfl; simp at h
        rw [← List.dropLast_concat_getLast hne]
        exact snoc _ _ (ih _ (by simp [h]))
    exact this _ l rfl
theorem mvs_snoc (m : List GA) (x : GA) : mvs (m ++ [x]) = mputV (mks m) (mvs m) x.key (iv (m.length : Int)) := by
  have hl : ∀ k, lastI (m ++ [x]) k = if x.key = k then m.length else lastI m k := by
    intro k
    unfold lastI
    rw [lastAt_snoc]
    split <;> simp
  unfold mvs mputV
  rw [mks_snoc]
  unfold mputK
  cases hm : mfind (mks m) x.key 0 with
  | some i =>
    have h1 := mfind_lt hm
    have h2 := mfind_get hm
    simp only [Nat.sub_zero] at h2
    refine List.ext_getElem? fun j => ?_
    simp only [List.getElem?_map]
    by_cases hj : j = i
    · subst hj
      rw [h2, List.getElem?_set_self (by simp; omega)]
      simp [hl]
    · rw [List.getElem?_set_ne (Ne.symm hj), List.getElem?_map]
      cases hk : (mks m)[j]? with
      | none => rfl
      | some k =>
        have hne : ¬ x.key = k := by
          intro e
          rw [e] at h2
          have hn := nodup_mks m
          have hji : j < (mks m).length := (List.getElem?_eq_some_iff.1 hk).1
          have := (List.getElem?_inj hji hn).1 (hk.trans h2.symm)
          exact hj this
        simp [hl, hne]
  | none =>
    have h1 := mfind_none.1 hm
    simp only [List.map_append, List.map_cons, List.map_nil, hl, if_true]
    congr 1
    refine List.map_congr_left fun k hk => ?_
    rw [if_neg (fun e => h1 (by rw [e]; exact hk))]
theorem mks_len (l : List GA) : (mks l).length ≤ l.length := by
  have key : ∀ (l : List GA) (acc : List ByteArray), (l.foldl (fun acc x => mputK acc x.key) acc).length ≤ acc.length + l.length := by
    intro l
    induction l with
    | nil => intro acc; simp
    | cons x l ih =>
      intro acc
      have h1 := ih (mputK acc x.key)
      have h2 : (mputK acc x.key).length ≤ acc.length + 1 := by unfold mputK; split <;> simp
      simp only [List.foldl_cons, List.length_cons] at *; omega
  have := key l []
  simp only [List.length_nil, Nat.zero_add] at this
  exact this

/-! ### What stands under a key of the own form -/
theorem getA_intoP {l : List GA} {p : Option ByteArray} (a : GA) (k : ByteArray) (h : risA p l) : getA (intoA l a) k = if a.key = k then some a.val else getA l k := by
  induction l generalizing p with
  | nil => simp only [intoA, getA]
  | cons x xs ih =>
    rw [intoA]
    split
    · rename_i hx
      simp only [getA]
      rw [ih h.2]
      by_cases h1 : a.key = k
      · have : ¬ x.key = k := by rintro e; rw [e, h1, ltB_irrefl] at hx; cases hx
        simp [h1, this]
      · simp only [if_neg h1]
    · rename_i hx
      split
      · rename_i he
        simp only [getA]
        by_cases h1 : a.key = k
        · simp [h1]
        · have : ¬ x.key = k := by rw [he]; exact h1
          simp [h1, this]
      · simp only [getA]
theorem nthA_append_lt {m : List GA} {x : GA} {j : Nat} (h : j < m.length) : nthA (m ++ [x]) j = nthA m j := by
  unfold nthA nth; rw [List.getD_eq_getElem?_getD, List.getD_eq_getElem?_getD, List.getElem?_append_left h]
theorem nthA_append_last {m : List GA} {x : GA} : nthA (m ++ [x]) m.length = x := by
  unfold nthA nth; simp
theorem getA_canonAs (l : List GA) (k : ByteArray) : getA (canonAs l) k = (lastAt l k 0).map fun j => canonV (nthA l j).val := by
  unfold canonAs
  induction l using mks_spec.snocInd with
  | nil => rfl
  | snoc m x ih =>
    rw [List.map_append, List.map_cons, List.map_nil, intoAll_snoc, getA_intoP _ _ (ris_intoAll _ [] trivial), lastAt_snoc, ih]
    have e1 : (canonP x).key = x.key := by rw [canonP_eq]; rfl
    have e2 : (canonP x).val = canonV x.val := by rw [canonP_eq]; rfl
    rw [e1, e2]
    by_cases h : x.key = k
    · simp only [h, if_true, Option.map_some, Nat.zero_add, nthA_append_last]
    · simp only [if_neg h]
      cases hl : lastAt m k 0 with
      | none => rfl
      | some j =>
        have := lastAt_lt hl
        simp only [Option.map_some]
        rw [nthA_append_lt (by omega)]

theorem risA_ext : ∀ {l m : List GA} {p q : Option ByteArray}, risA p l → risA q m → (∀ k, getA l k = getA m k) → l = m
  | [], [], _, _, _, _, _ => rfl
  | [], y :: m, _, _, _, _, h => by have := h y.key; simp [getA] at this
  | x :: l, [], _, _, _, _, h => by have := h x.key; simp [getA] at this
  | x :: l, y :: m, p, q, h1, h2, h => by
    have memk : ∀ {l : List GA} {k : ByteArray} {v : GV}, getA l k = some v → ∃ a ∈ l, a.val = v ∧ a.key = k := getA_mem
    have hk : x.key = y.key := by
      have a1 := h x.key
      have a2 := h y.key
      simp only [getA, if_true] at a1 a2
      by_cases e : y.key = x.key
      · exact e.symm
      · have e' : ¬ x.key = y.key := fun q => e q.symm
        rw [if_neg e] at a1
        rw [if_neg e'] at a2
        obtain ⟨b, hb, _, hbk⟩ := memk a1.symm
        obtain ⟨c, hc, _, hck⟩ := memk a2
        have h3 := risA_mem h2.2 b hb
        have h4 := risA_mem h1.2 c hc
        rw [hbk] at h3; rw [hck] at h4
        rw [ltB_asymm h3] at h4; cases h4
    have hv : x.val = y.val := by
      have a1 := h x.key
      simp only [getA, if_true, hk] at a1
      exact Option.some.inj a1
    have hxy : x = y := by
      cases x; cases y; simp only [GA.key, GA.val] at hk hv; rw [hk, hv]
    subst hxy
    congr 1
    refine risA_ext h1.2 h2.2 fun k => ?_
    by_cases e : x.key = k
    · have none1 : ∀ {m : List GA}, risA (some x.key) m → getA m k = none := by
        intro m hm
        cases hg : getA m k with
        | none => rfl
        | some v =>
          obtain ⟨b, hb, _, hbk⟩ := memk hg
          have := risA_mem hm b hb
          rw [hbk, e, ltB_irrefl] at this; cases this
      rw [none1 h1.2, none1 h2.2]
    · have := h k
      simp only [getA, if_neg e] at this
      exact this

/-! ### Sorted -/
theorem bl_lt : ∀ a b : List UInt8, Op.bytesLess a b = decide (a < b)
  | [], [] => by simp [Op.bytesLess]
  | [], _ :: _ => by simp [Op.bytesLess]
  | _ :: _, [] => by simp [Op.bytesLess]
  | x :: a, y :: b => by
    have ih := bl_lt a b
    simp only [Op.bytesLess, List.cons_lt_cons_iff]
    by_cases h : x < y
    · simp [h]
    · by_cases h2 : y < x
      · have : ¬ x = y := by rintro rfl; exact absurd h2 (UInt8.lt_irrefl _)
        simp [h, h2, this]
      · have : x = y := UInt8.le_antisymm (UInt8.not_lt.1 h2) (UInt8.not_lt.1 h)
        subst this
        simp [h, ih]
theorem le_iff (s t : ByteArray) : decide (s.data.toList ≤ t.data.toList) = !ltB t s := by
  have e : ltB t s = decide (t.data.toList < s.data.toList) := by
    unfold ltB
    have hl : ∀ s : ByteArray, lst s = s.data.toList := fun s => rfl
    rw [hl, hl]; exact bl_lt _ _
  rw [e, ← decide_not]
  exact decide_eq_decide.2 List.not_lt.symm
theorem sortB_perm (l : List ByteArray) : (sortB l).Perm l := by
  have h := (List.mergeSort_perm (l.map fun s => s.data.toList) (fun x y => decide (x ≤ y))).map (fun b : List UInt8 => (⟨b.toArray⟩ : ByteArray))
  simpa [sortB, Function.comp_def] using h
theorem sortB_sorted (l : List ByteArray) : (sortB l).Pairwise fun s t => ltB t s = false := by
  have h := List.pairwise_mergeSort (le := fun x y : List UInt8 => decide (x ≤ y)) (fun a b c h1 h2 => by simp only [decide_eq_true_eq] at *; exact List.le_trans h1 h2) (fun a b => by simp only [Bool.or_eq_true, decide_eq_true_eq]; exact List.le_total a b) (l.map fun s => s.data.toList)
  unfold sortB
  rw [List.pairwise_map]
  refine h.imp ?_
  intro a b hab
  have := le_iff ⟨a.toArray⟩ ⟨b.toArray⟩
  simp only [List.toList_toArray] at this
  rw [hab] at this
  simpa using this.symm
theorem ris_of_pairwise {f : ByteArray → GA} (hf : ∀ k, (f k).key = k) : ∀ (l : List ByteArray) (p : Option ByteArray), (∀ q, p = some q → ∀ k ∈ l, ltB q k = true) → l.Pairwise (fun s t => ltB s t = true) → risA p (l.map f)
  | [], _, _, _ => trivial
  | k :: l, p, hp, h => by
    rw [List.pairwise_cons] at h
    simp only [List.map_cons, risA, hf]
    refine ⟨?_, ris_of_pairwise hf l _ (fun q e => by cases e; exact h.1) h.2⟩
    cases p with
    | none => trivial
    | some q => exact hp q rfl k List.mem_cons_self
theorem getA_mapped {v : ByteArray → GV} (k : ByteArray) : ∀ l : List ByteArray, (k ∈ l → getA (l.map fun k => GA.mk k (v k)) k = some (v k)) ∧ (k ∉ l → getA (l.map fun k => GA.mk k (v k)) k = none)
  | [] => ⟨fun h => by simp at h, fun _ => rfl⟩
  | x :: l => by
    have ih := getA_mapped (v := v) k l
    rw [List.map_cons, getA, List.mem_cons]
    by_cases h : (GA.mk x (v x)).key = k
    · rw [if_pos h]
      have h' : x = k := h
      subst h'
      exact ⟨fun _ => rfl, fun hk => absurd (.inl rfl) hk⟩
    · rw [if_neg h]
      have h' : ¬ k = x := fun e => h e.symm
      exact ⟨fun hk => ih.1 (hk.resolve_left h'), fun hk => ih.2 fun q => hk (.inr q)⟩

/-- The program's way to the own form. -/
theorem canonAs_sorted (l : List GA) {ks : List ByteArray} (h : ks.Perm (mks l)) : (sortB ks).map (fun k => GA.mk k (canonV (nthA l (lastI l k)).val)) = canonAs l := by
  have hp : (sortB ks).Perm (mks l) := (sortB_perm ks).trans h
  have hn : (sortB ks).Nodup := hp.nodup_iff.2 (nodup_mks l)
  have hs : (sortB ks).Pairwise fun s t => ltB s t = true := by
    have h1 := sortB_sorted ks
    have h2 : (sortB ks).Pairwise (· ≠ ·) := hn
    refine (h1.and h2).imp ?_
    rintro a b ⟨h3, h4⟩
    cases h5 : ltB a b with
    | true => rfl
    | false => exact absurd (ltB_tri h5 h3) h4
  refine risA_ext (p := none) (q := none) (ris_of_pairwise (f := fun k => GA.mk k (canonV (nthA l (lastI l k)).val)) (fun _ => rfl) _ none (fun q e => by cases e) hs) (ris_canonAs l) fun k => ?_
  have hgm := getA_mapped (v := fun k => canonV (nthA l (lastI l k)).val) k (sortB ks)
  rw [getA_canonAs]
  have hm : k ∈ sortB ks ↔ ∃ j, lastAt l k 0 = some j := (hp.mem_iff).trans (mks_spec l k)
  cases hl : lastAt l k 0 with
  | none =>
    rw [hgm.2 (fun hk => by obtain ⟨j, hj⟩ := hm.1 hk; rw [hl] at hj; cases hj)]; rfl
  | some j =>
    rw [hgm.1 (hm.2 ⟨j, hl⟩)]
    simp only [lastI, hl, Option.getD_some, Option.map_some]

/-- Who has seen all has seen each key once. -/
theorem seen_perm {ks : List ByteArray} {seen : List Nat} (hn : seen.Nodup) (hl : ∀ i ∈ seen, i < ks.length) (hall : ∀ i, i < ks.length → i ∈ seen) : (seen.map fun i => ks.getD i ⟨#[]⟩).Perm ks := by
  have h1 : seen.Perm (List.range ks.length) := by
    refine (List.perm_ext_iff_of_nodup hn List.nodup_range).2 fun i => ?_
    rw [List.mem_range]
    exact ⟨hl i, hall i⟩
  have h2 := h1.map fun i => ks.getD i ⟨#[]⟩
  have h3 : (List.range ks.length).map (fun i => ks.getD i ⟨#[]⟩) = ks := by
    refine List.ext_getElem (by simp) fun i h4 h5 => ?_
    rw [List.getElem_map, List.getElem_range, List.getD_eq_getElem?_getD, List.getElem?_eq_getElem h5]; rfl
  rw [h3] at h2
  exact h2
end Go.Proofs

namespace Go.Al
open Go.RowKit

/-! ### The step of a range over a map -/

/-- A region whose first operation goes one of several ways. -/
theorem aw_first {C : Cx} {id : Nat} {o : Oper} {os : List Oper} {ops : Array Oper} {st : St} {Q : Exit → St → Prop} (hl : ops.toList = o :: os) (hg : o.guard = none)
    (h : ∀ a w, Sim C (look st) a w → ∃ p : St, o.wp C.P a w (fun a' w' => Sim C (look (p ++ st)) a' w') (fun _ _ _ => False) ∧ Go1 C ops os (p ++ st) [] (fun st' _ => Q .normal st')) : AW C (.region id ops false) st Q := by
  intro a w S
  obtain ⟨p, h1, h2⟩ := h a w S
  obtain ⟨tr, st', r, f, k, _⟩ := Go1.sound _ _ _ _ h2
  refine wp_region ?_
  have h0 : ops[0]? = some o := by rw [← Array.getElem?_toList, hl]; rfl
  have hsz : ops.size = os.length + 1 := by rw [← Array.length_toList, hl]; rfl
  rw [List.range_eq_range', hsz, List.range'_succ]
  simp only [wpOps, h0]
  have hw : Region.wanted o (yielded ops a.tmps) = true := by simp [Region.wanted, hg]
  simp only [hw, if_true]
  refine .inl (wpOps_run.Oper.wp_mono' (fun a' w' S' => ?_) (fun _ _ _ h => h.elim) h1)
  exact wpOps_run os 1 _ tr a' w' (fun j => by rw [← Array.getElem?_toList, hl, Nat.add_comm, List.getElem?_cons_succ]) r S' (fun a' w' S' => ⟨st', k, f ▸ S'⟩)

theorem leftOf_mem {es : Array MapEntry} {seen : Array Nat} {e : MapEntry} (h : e ∈ (leftOf es seen).toList) : e ∈ es.toList ∧ e.born ∉ seen := by
  unfold leftOf at h
  simp at h
  simpa using h

theorem leftOf_none {es : Array MapEntry} {seen : Array Nat} (h : (leftOf es seen).size = 0) : ∀ e ∈ es.toList, e.born ∈ seen := by
  intro e he
  have h0 : leftOf es seen = #[] := Array.eq_empty_of_size_eq_zero h
  unfold leftOf at h0
  rw [Array.filter_eq_empty_iff] at h0
  have := h0 e (by simpa using he)
  simpa using this

section
variable {C : Cx} {d : Nat} {ty : TypeId} {pos : String} {af : Array Edge} {x : Operand}

/-- A draw, or none. -/
theorem SimG.draws {A : Nat → SV} {G : Gh} {a : Act} {w w1 : World} (S : SimG C A G a w) (h : w1 = w ∨ w1 = w.drew) : SimG C A G a w1 := by
  rcases h with rfl | rfl
  · exact S
  · exact S.heap rfl rfl rfl rfl

theorem wp_next {st : St} {a : Act} {w : World} {gi gm n : Nat} {seen : List Nat} {l : List ByteArray} {vs : List AV} (S : Sim C (look st) a w) (hN : Nat.blt d C.N = true) (hx : opS (look st) x = .ptr gi 0) (hg : look st gi = .itr gm n seen) (hm : look st gm = .mpr (strs l) vs) (hn : Nat.beq n l.length = true) (hgN : Nat.ble C.N gi = true) :
    ((∀ i, i < n → i ∈ seen) ∧ Oper.wp C.P ⟨some d, .next x false, ty, pos, af, none⟩ a w (fun a' w' => Sim C (look ([(d, .tup [.imm (.v (.bool false))])] ++ st)) a' w') (fun _ _ _ => False)) ∨
    ∃ i s v, i < n ∧ i ∉ seen ∧ l[i]? = some s ∧ vs[i]? = some v ∧
      Oper.wp C.P ⟨some d, .next x false, ty, pos, af, none⟩ a w (fun a' w' => Sim C (look ([(d, .tup [.imm (.v (.bool true)), .imm (.v (.string s)), .imm v]), (gi, .itr gm n (seen ++ [i]))] ++ st)) a' w') (fun _ _ _ => False) := by
  obtain ⟨G, S⟩ := S
  have hN' : d < C.N := by simpa [Nat.blt_eq] using hN
  have hgN' : C.N ≤ gi := Nat.le_of_ble_eq_true hgN
  have hn' : n = l.length := Nat.eq_of_beq_eq_true hn
  obtain ⟨c, hc1, hc2⟩ := S.opS hx rfl
  simp only [RepS] at hc1
  have hev : a.eval x = .pointer (some ⟨G.blk gi, 0, none⟩) := by rw [hc2, hc1]; rfl
  have hi := S.holds gi
  rw [hg] at hi
  simp only [Holds] at hi
  obtain ⟨ho1, hi1, hi2⟩ := hi
  have hb := S.holds gm
  rw [hm] at hb
  simp only [Holds] at hb
  obtain ⟨ho2, ⟨es, h1, h2, h3, h4⟩, hni⟩ := hb
  have hkeys : es.toList.map (·.key) = l.map Value.string := repVs_strs h3
  have hlen : es.size = l.length := by have := congrArg List.length hkeys; simpa using this
  have hold : ∀ x ∈ es.toList, x.born < n := by
    intro x hx
    obtain ⟨i, hi, rfl⟩ := List.getElem_of_mem hx
    have := h2 i (by simpa using hi)
    simp only [Array.getElem_toList, this]
    have : i < es.size := by simpa using hi
    omega
  have hes : es.size = n := by omega
  rcases run_next_at (P := C.P) w ty (G.blk gi) (G.blk gm) n n seen.toArray es es.size hi1 h1 hold (Nat.le_refl _) with ⟨h0, hrun⟩ | ⟨e, he, w1, hw1, hrun⟩
  · refine .inl ⟨fun i hi => ?_, ?_⟩
    · have hie : i < es.size := by omega
      have := leftOf_none h0 es[i] (by simp)
      rw [h2 i hie] at this
      simpa using this
    · unfold Oper.wp
      have : (execOp a.eval ⟨some d, .next x false, ty, pos, af, none⟩).run C.P w = .ok (.value (.tuple #[.bool false])) w := by
        simp only [execOp, hev, Sem.run_bind, hrun, Result.andThen_ok, Sem.run_pure]
      rw [this, Oper.upon_value]
      have S2 := S.put (d := d) hN' (x := .tup [.imm (.v (.bool false))]) (v := .tuple #[.bool false]) (by
        simp only [SlotS]
        exact ⟨[.bool false], rfl, .bool false, [], rfl, valS_imm.2 (rep_p _ _ rfl), rfl⟩)
      rw [upd_look] at S2
      exact ⟨G, S2⟩
  · obtain ⟨he1, he2⟩ := leftOf_mem he
    obtain ⟨i, hi, rfl⟩ := List.getElem_of_mem he1
    have hie : i < es.size := by simpa using hi
    have hbi := h2 i hie
    simp only [Array.getElem_toList] at he2 hrun ⊢
    have hki : es[i].key = .string (l[i]'(by omega)) := by
      have hk2 : (es.toList.map (·.key))[i]? = (l.map Value.string)[i]? := by rw [hkeys]
      simp only [List.getElem?_map, Array.getElem?_toList, Array.getElem?_eq_getElem hie, Option.map_some] at hk2
      rw [List.getElem?_eq_getElem (by omega), Option.map_some] at hk2
      exact Option.some.inj hk2
    have hvl := repVs_len h4
    have hvl' : vs.length = es.size := by simpa using hvl.symm
    obtain ⟨u, hu1, hu2⟩ := repVs_get h4 (List.getElem?_eq_getElem (show i < vs.length by omega))
    simp only [List.getElem?_map, Array.getElem?_toList, Array.getElem?_eq_getElem hie, Option.map_some, Option.some.injEq] at hu1
    refine .inr ⟨i, l[i]'(by omega), vs[i]'(by omega), by omega, ?_, List.getElem?_eq_getElem _, List.getElem?_eq_getElem _, ?_⟩
    · rw [hbi] at he2; simpa using he2
    · unfold Oper.wp
      have : (execOp a.eval ⟨some d, .next x false, ty, pos, af, none⟩).run C.P w = .ok (.value (.tuple #[.bool true, es[i].key, es[i].val])) (setBlk w1 (G.blk gi) (.mapIter (some (G.blk gm)) n (seen ++ [i]).toArray n)) := by
        simp only [execOp, hev, Sem.run_bind, hrun, Result.andThen_ok, Sem.run_pure]
        simp only [hbi, hes]
        congr 1
        simp only [ChangeMaps.setBlock, setBlk]
        congr 2
        simp
      rw [this, Oper.upon_value]
      have S1 := S.draws hw1
      have hhe : w1.heap = w.heap := by rcases hw1 with rfl | rfl <;> rfl
      have hle1 : Le w G.I w1 G.I := fun b o h => ⟨h, kp_of_block (by rw [hhe])⟩
      have S2 := S1.turnOG (g := gi) (X' := .itr gm n (seen ++ [i])) (o' := .mapIter (some (G.blk gm)) n (seen ++ [i]).toArray n) ⟨ho1.1, by rw [hhe]; exact ho1.2⟩ hi2 (by rw [hg]; simp [ownsB]) (fun b h => by simpa only [ownsB] using h) (fun hle => by
        simp only [Holds]
        exact ⟨⟨ho1.1, by rw [setBlk_size, hhe]; exact ho1.2⟩, setBlk_get (by rw [hhe]; exact ho1.2), hi2⟩)
      rw [upd_look] at S2
      have hle2 : Le w1 G.I (setBlk w1 (G.blk gi) (.mapIter (some (G.blk gm)) n (seen ++ [i]).toArray n)) G.I := fun b o h => ⟨h, by
        have : b ≠ G.blk gi := by rintro rfl; exact hi2 o h
        exact kp_of_block (setBlk_ne this)⟩
      have S3 := S2.put (d := d) hN' (x := .tup [.imm (.v (.bool true)), .imm (.v (.string (l[i]'(by omega)))), .imm (vs[i]'(by omega))]) (v := .tuple #[.bool true, es[i].key, es[i].val]) (by
        simp only [SlotS]
        refine ⟨[.bool true, es[i].key, es[i].val], rfl, .bool true, _, rfl, valS_imm.2 (rep_p _ _ rfl), es[i].key, _, rfl, valS_imm.2 (by rw [hki]; exact rep_p _ _ rfl), es[i].val, [], rfl, valS_imm.2 ?_, rfl⟩
        rw [hu1]; exact hu2.mono (hle1.trans hle2))
      rw [upd_look] at S3
      exact ⟨G, S3⟩

theorem aw_next {id : Nat} {ops : Array Oper} {os : List Oper} {st : St} {Q : Exit → St → Prop} {gi gm n : Nat} {seen : List Nat} {l : List ByteArray} {vs : List AV} (hl : ops.toList = ⟨some d, .next x false, ty, pos, af, none⟩ :: os)
    (hN : Nat.blt d C.N = true) (hx : opS (look st) x = .ptr gi 0) (hg : look st gi = .itr gm n seen) (hm : look st gm = .mpr (strs l) vs) (hn : Nat.beq n l.length = true) (hgN : Nat.ble C.N gi = true)
    (hdone : (∀ i, i < n → i ∈ seen) → Go1 C ops os ((d, .tup [.imm (.v (.bool false))]) :: st) [] (fun st' _ => Q .normal st'))
    (hmore : ∀ i s v, i < n → i ∉ seen → l[i]? = some s → vs[i]? = some v → Go1 C ops os ((d, .tup [.imm (.v (.bool true)), .imm (.v (.string s)), .imm v]) :: (gi, .itr gm n (seen ++ [i])) :: st) [] (fun st' _ => Q .normal st')) :
    AW C (.region id ops false) st Q := by
  refine aw_first hl rfl fun a w S => ?_
  rcases wp_next (ty := ty) (pos := pos) (af := af) S hN hx hg hm hn hgN with ⟨h1, h2⟩ | ⟨i, s, v, h1, h2, h3, h4, h5⟩
  · exact ⟨_, h2, hdone h1⟩
  · exact ⟨_, h5, hmore i s v h1 h2 h3 h4⟩
end
end Go.Al
namespace Go.Al
section
variable {C : Cx} {A : Nat → SV} {d : Nat} {ty : TypeId} {pos : String} {af : Array Edge} {gd : Option (Nat × Bool)} {x : Operand}
/-- What the step has handed out. -/
theorem s_entry {gi gm n i : Nat} {seen : List Nat} {l : List ByteArray} {vs : List AV} {s : ByteArray} {v : AV} (hN : Nat.blt d C.N = true) (hx : opS A x = .ptr gi 0) (hg : A gi = .itr gm n (seen ++ [i])) (hm : A gm = .mpr (strs l) vs) (hn : Nat.beq n l.length = true) (hs : l[i]? = some s) (hv : vs[i]? = some v) :
    StepU C ⟨some d, .entry x, ty, pos, af, gd⟩ (gi :: gm :: opR x) [] A [(d, .tup [.imm (.v (.string s)), .imm v])] := by
  refine StepU.value rfl hN fun A' G a w hR S => ?_
  have hgA : A' gi = .itr gm n (seen ++ [i]) := (hR gi (by simp)).trans hg
  have hmA : A' gm = .mpr (strs l) vs := (hR gm (by simp)).trans hm
  have hn' : n = l.length := Nat.eq_of_beq_eq_true hn
  obtain ⟨c, hc1, hc2⟩ := S.opS ((opS_congr (fun k hk => hR k (List.mem_cons_of_mem _ (List.mem_cons_of_mem _ hk)))).trans hx) rfl
  simp only [RepS] at hc1
  have hev : a.eval x = .pointer (some ⟨G.blk gi, 0, none⟩) := by rw [hc2, hc1]; rfl
  have hi := S.holds gi
  rw [hgA] at hi
  simp only [Holds] at hi
  obtain ⟨ho1, hi1, hi2⟩ := hi
  have hb := S.holds gm
  rw [hmA] at hb
  simp only [Holds] at hb
  obtain ⟨ho2, ⟨es, h1, h2, h3, h4⟩, hni⟩ := hb
  have hkeys : es.toList.map (·.key) = l.map Value.string := repVs_strs h3
  have hlen : es.size = l.length := by have := congrArg List.length hkeys; simpa using this
  have hil : i < l.length := (List.getElem?_eq_some_iff.1 hs).1
  have hie : i < es.size := by omega
  have hki : es[i].key = .string s := by
    have hk2 : (es.toList.map (·.key))[i]? = (l.map Value.string)[i]? := by rw [hkeys]
    simp only [List.getElem?_map, Array.getElem?_toList, Array.getElem?_eq_getElem hie, Option.map_some, hs] at hk2
    exact Option.some.inj hk2
  obtain ⟨u, hu1, hu2⟩ := repVs_get h4 hv
  simp only [List.getElem?_map, Array.getElem?_toList, Array.getElem?_eq_getElem hie, Option.map_some, Option.some.injEq] at hu1
  have hnd : (es.toList.map (·.born)).Nodup := by
    have : es.toList.map (·.born) = List.range es.size := by
      refine List.ext_getElem (by simp) fun j h5 h6 => ?_
      have : j < es.size := by simpa using h5
      simp [h2 j this]
    rw [this]; exact List.nodup_range
  have hi1' : w.heap[G.blk gi]? = some (.mapIter (some (G.blk gm)) n (seen.toArray.push es[i].born) es.size) := by
    rw [hi1, h2 i hie, hn', hlen]; simp
  have hrun := run_entry_at (P := C.P) w (G.blk gi) (G.blk gm) n seen.toArray es es.size es[i] hi1' h1 (by simp) hnd
  refine ⟨.tuple #[es[i].key, es[i].val], ?_, ?_⟩
  · simp only [execOp, hev, Sem.run_bind, hrun, Result.andThen_ok, Sem.run_pure]
  · simp only [SlotS]
    exact ⟨[es[i].key, es[i].val], rfl, es[i].key, _, rfl, valS_imm.2 (by rw [hki]; exact rep_p _ _ rfl), es[i].val, [], rfl, valS_imm.2 (by rw [hu1]; exact hu2), rfl⟩
end
theorem look_row {st : St} {k : Nat} {l m : List ByteArray} (h : look st k = .row l) (e : l = m) : look st k = .row m := by rw [h, e]
theorem look_units {st : St} {k g n m : Nat} (h : look st k = .slg g 0 (units n)) (e : n = m) : look st k = .slg g 0 (units m) := by rw [h, e]
theorem look_itr {st : St} {k g n m : Nat} {s t : List Nat} (h : look st k = .itr g n s) (e : n = m) (e2 : s = t) : look st k = .itr g m t := by rw [h, e, e2]
theorem look_mpr {st : St} {k : Nat} {a a' b b' : List AV} (h : look st k = .mpr a b) (e : a = a') (e2 : b = b') : look st k = .mpr a' b' := by rw [h, e, e2]
theorem strs_length (l : List ByteArray) : (strs l).length = l.length := by simp [strs]
end Go.Al

namespace Go.Proofs
open Go Go.Al

theorem sameVs_ne {a b : List GV} (h : a ≠ b) : sameVs a b = false := by cases hs : sameVs a b; rfl; exact absurd ((sameVs_iff _ _).1 hs) h
theorem sameA_ne {a b : GA} (h : a ≠ b) : sameA a b = false := by cases hs : sameA a b; rfl; exact absurd ((sameA_iff _ _).1 hs) h
theorem sameA_refl (a : GA) : sameA a a = true := (sameA_iff a a).2 rfl
theorem sameVs_refl (a : List GV) : sameVs a a = true := (sameVs_iff a a).2 rfl

/-! ### How deep -/
theorem max_if (a b : Int) : (if b > a then b else a) = max a b := by rw [Int.max_def]; split <;> split <;> omega
theorem deepVs_snoc (x : GV) : ∀ m : List GV, deepVs (m ++ [x]) = max (deepVs m) (deepV x)
  | [] => by simp only [List.nil_append, deepVs]; exact Int.max_comm _ _
  | y :: m => by simp only [List.cons_append, deepVs, deepVs_snoc x m]; rw [Int.max_assoc]
theorem deepAs_snoc (x : GA) : ∀ m : List GA, deepAs (m ++ [x]) = max (deepAs m) (deepA x)
  | [] => by simp only [List.nil_append, deepAs]; exact Int.max_comm _ _
  | y :: m => by simp only [List.cons_append, deepAs, deepAs_snoc x m]; rw [Int.max_assoc]
theorem deepA_eq (a : GA) : deepA a = deepV a.val := by cases a; rfl
theorem deepV_eq (v : GV) : deepV v = (if v.kind = 6 ∨ v.kind = 7 then 1 else 0) + max (deepVs v.list) (deepAs v.map) := by cases v; rfl
mutual
theorem deepV_bd : ∀ v : GV, 0 ≤ deepV v ∧ deepV v ≤ v.wt
  | .mk k t n b l m => by
    have h1 := deepVs_bd l
    have h2 := deepAs_bd m
    have e := (GV.mk k t n b l m).wt_eq
    simp only [GV.list_mk, GV.map_mk, GV.text_mk] at e
    rw [deepV]
    rw [Int.max_def]
    split <;> split <;> omega
theorem deepVs_bd : ∀ l : List GV, 0 ≤ deepVs l ∧ deepVs l ≤ wtVs l
  | [] => by simp [deepVs, wtVs]
  | x :: l => by
    have h1 := deepV_bd x
    have h2 := deepVs_bd l
    rw [deepVs, wtVs, Int.max_def]
    split <;> omega
theorem deepA_bd : ∀ a : GA, 0 ≤ deepA a ∧ deepA a ≤ a.wt
  | .mk k v => by
    have h1 := deepV_bd v
    have e := (GA.mk k v).wt_eq
    simp only [GA.key_mk, GA.val_mk] at e
    rw [deepA]; omega
theorem deepAs_bd : ∀ l : List GA, 0 ≤ deepAs l ∧ deepAs l ≤ wtAs l
  | [] => by simp [deepAs, wtAs]
  | x :: l => by
    have h1 := deepA_bd x
    have h2 := deepAs_bd l
    rw [deepAs, wtAs, Int.max_def]
    split <;> omega
end

/-! ### Keys met so far -/
theorem nodup_lt : ∀ (n : Nat) (s : List Nat), s.Nodup → (∀ i ∈ s, i < n) → s.length ≤ n
  | 0, s, _, h => by
    cases s with
    | nil => simp
    | cons x s => exact absurd (h x (by simp)) (by omega)
  | n + 1, s, hn, h => by
    by_cases hm : n ∈ s
    · have h1 := nodup_lt n (s.erase n) (hn.erase n) (fun i hi => by
        have h2 := h i (List.mem_of_mem_erase hi)
        have h3 := ((List.Nodup.mem_erase_iff hn).1 hi).1
        omega)
      have := List.length_erase_of_mem hm
      omega
    · have := nodup_lt n s hn (fun i hi => by
        have h1 := h i hi
        have : i ≠ n := by rintro rfl; exact hm hi
        omega)
      omega
def ksOf (l : List GA) (seen : List Nat) : List ByteArray := seen.map fun i => (mks l).getD i ⟨#[]⟩
theorem ksOf_snoc {l : List GA} {seen : List Nat} {q : Nat} {tx : ByteArray} (h : (mks l)[q]? = some tx) : ksOf l (seen ++ [q]) = ksOf l seen ++ [tx] := by
  simp only [ksOf, List.map_append, List.map_cons, List.map_nil, List.getD_eq_getElem?_getD, h, Option.getD_some]
theorem ksOf_len (l : List GA) (seen : List Nat) : (ksOf l seen).length = seen.length := by simp [ksOf]
theorem nodup_snoc {s : List Nat} {q : Nat} (h : s.Nodup) (hq : q ∉ s) : (s ++ [q]).Nodup := by
  rw [List.nodup_append]
  refine ⟨h, by simp, fun a ha b hb => ?_⟩
  simp at hb; subst hb; rintro rfl; exact hq ha
theorem look_key {l : List GA} {k : ByteArray} (h : k ∈ mks l) : ∃ p, mfind (mks l) k 0 = some p ∧ (mvs l)[p]? = some (iv (lastI l k : Int)) ∧ lastI l k < l.length := by
  cases hm : mfind (mks l) k 0 with
  | none => exact absurd h (mfind_none.1 hm)
  | some p =>
    have h1 := mfind_get hm
    simp only [Nat.sub_zero] at h1
    refine ⟨p, rfl, by unfold mvs; rw [List.getElem?_map, h1]; rfl, ?_⟩
    obtain ⟨j, hj⟩ := (mks_spec l k).1 h
    have := lastAt_lt hj
    unfold lastI
    rw [hj]; simp; omega
end Go.Proofs

namespace Go.Proofs
open Go Go.Al Go.Shelf
def Try.lays190_ren : Go.Shelf.Ren := ⟨fun | 190 => 31 | 125 => 40 | 258 => 39 | 128 => 55 | 129 => 56 | 302 => 46 | 303 => 47 | 304 => 48 | 305 => 49 | 306 => 50 | 307 => 51 | 308 => 52 | 309 => 53 | 310 => 54 | 333 => 60 | 329 => 61 | 330 => 62 | 334 => 63 | 335 => 64 | 336 => 65 | 344 => 66 | n => n, fun | 31 => 48 | 9 => 9 | 3 => 3 | 46 => 59 | 0 => 0 | 51 => 73 | 53 => 22 | 4 => 4 | 183 => 65 | 182 => 64 | 131 => 70 | 5 => 5 | 218 => 76 | 222 => 80 | 228 => 84 | 229 => 55 | n => n, fun | n => n⟩
theorem Try.lays190 : Go.Proofs.Lays.n190 Try.prog Try.lays190_ren := {
  mixed := by kernel_rfl
  f125 := Try.func40.trans (congrArg some (by kernel_rfl))
  f128 := Try.func55.trans (congrArg some (by kernel_rfl))
  f129 := Try.func56.trans (congrArg some (by kernel_rfl))
  f190 := Try.func31.trans (congrArg some (by kernel_rfl))
  f258 := Try.func39.trans (congrArg some (by kernel_rfl))
  f302 := Try.func46.trans (congrArg some (by kernel_rfl))
  f303 := Try.func47.trans (congrArg some (by kernel_rfl))
  f304 := Try.func48.trans (congrArg some (by kernel_rfl))
  f305 := Try.func49.trans (congrArg some (by kernel_rfl))
  f306 := Try.func50.trans (congrArg some (by kernel_rfl))
  f307 := Try.func51.trans (congrArg some (by kernel_rfl))
  f308 := Try.func52.trans (congrArg some (by kernel_rfl))
  f309 := Try.func53.trans (congrArg some (by kernel_rfl))
  f310 := Try.func54.trans (congrArg some (by kernel_rfl))
  f329 := Try.func61.trans (congrArg some (by kernel_rfl))
  f330 := Try.func62.trans (congrArg some (by kernel_rfl))
  f333 := Try.func60.trans (congrArg some (by kernel_rfl))
  f334 := Try.func63.trans (congrArg some (by kernel_rfl))
  f335 := Try.func64.trans (congrArg some (by kernel_rfl))
  f336 := Try.func65.trans (congrArg some (by kernel_rfl))
  f344 := Try.func66.trans (congrArg some (by kernel_rfl))
  t0 := Try.underlying0
  a0 := Try.isAgg0
  z0 := Try.sizeOf0
  v0 := Try.zeroValue0
  t3 := Try.underlying3
  a3 := Try.isAgg3
  z3 := Try.sizeOf3
  v3 := Try.zeroValue3
  t4 := Try.underlying4
  a4 := Try.isAgg4
  z4 := Try.sizeOf4
  v4 := Try.zeroValue4
  t5 := Try.underlying5
  a5 := Try.isAgg5
  z5 := Try.sizeOf5
  v5 := Try.zeroValue5
  t9 := Try.underlying9
  a9 := Try.isAgg9
  z9 := Try.sizeOf9
  v9 := Try.zeroValue9
  t31 := Try.underlying48
  a31 := Try.isAgg48
  z31 := Try.sizeOf48
  v31 := Try.zeroValue48
  t46 := Try.underlying59
  a46 := Try.isAgg59
  z46 := Try.sizeOf59
  v46 := Try.zeroValue59
  t51 := Try.underlying73
  a51 := Try.isAgg73
  z51 := Try.sizeOf73
  v51 := Try.zeroValue73
  t53 := Try.underlying22
  a53 := Try.isAgg22
  z53 := Try.sizeOf22
  v53 := Try.zeroValue22
  t131 := Try.underlying70
  a131 := Try.isAgg70
  z131 := Try.sizeOf70
  v131 := Try.zeroValue70
  t182 := Try.underlying64
  a182 := Try.isAgg64
  z182 := Try.sizeOf64
  v182 := Try.zeroValue64
  t183 := Try.underlying65
  a183 := Try.isAgg65
  z183 := Try.sizeOf65
  v183 := Try.zeroValue65
  t218 := Try.underlying76
  a218 := Try.isAgg76
  z218 := Try.sizeOf76
  v218 := Try.zeroValue76
  t222 := Try.underlying80
  a222 := Try.isAgg80
  z222 := Try.sizeOf80
  v222 := Try.zeroValue80
  t228 := Try.underlying84
  a228 := Try.isAgg84
  z228 := Try.sizeOf84
  v228 := Try.zeroValue84
  t229 := Try.underlying55
  a229 := Try.isAgg55
  z229 := Try.sizeOf55
  v229 := Try.zeroValue55 }
theorem sort_c : SortC Try.prog Γ0 31 where
  call := by kernel_rfl
  sorts := fun blk cap ss w hH hb hs => Any.slices_Sort_string Try.lays190 blk 0 cap ss w hH hb hs
  empty := ⟨by kernel_rfl, fun w I args hv hg hr => by
    simp only [RepVs] at hr
    obtain ⟨cc, r, rfl, h1, rfl⟩ := hr
    have e : mkV (.v (.slice none 0 0)) cc = .slice none 0 0 := by
      simp only [RepC] at h1
      rw [h1.1]; rfl
    rw [e]
    refine (Any.slices_Sort_string_none Try.lays190 none 0 w).mono ?_
    rintro e w' ⟨rfl, rfl⟩
    exact ⟨_, I, rfl, RowKit.Below.refl _ _, Le.refl _ _, fun b o h => .inl h, hv, [], rfl, by simp only [RepVs]⟩⟩
end Go.Proofs

namespace Go.Proofs
open Go Go.Al
set_option maxRecDepth 10000
set_option maxHeartbeats 1000000 in
theorem eqfV_c (a b : List GV) (fn : FuncId) (hl : a.length ≤ 1000000000) (hf : ∀ x ∈ a, ∀ y : GV, PCall Try.prog Γ0 fn ([] ++ [x.av, y.av] ++ []) [bv (sameV x y)]) : PCall Try.prog Γ0 30 [(.sl 6 (a.map avV)), (.sl 6 (b.map avV)), .fn (.func fn) [] []] [bv (sameVs a b)] := by
  refine pcall_of Try.func30 rfl Try.ntmps30 (by kernel_rfl) rfl fun w0 I0 G0 => ?_
  refine aw_seq ?_
  refine aw_region ?_
  refine g_u (s_as_imm rfl rfl) ?_
  refine g_nil ?_
  refine normal_thn ?_
  refine aw_seq ?_
  refine aw_seq ?_
  refine aw_region ?_
  refine g_u (s_mv_imm rfl rfl) ?_
  refine g_u (s_lenL rfl rfl Try.underlying23) ?_
  refine g_u (s_mv_imm rfl rfl) ?_
  refine g_u (s_lenL rfl rfl Try.underlying23) ?_
  refine g_u (s_neI rfl rfl rfl) ?_
  refine g_nil ?_
  refine normal_thn ?_
  refine aw_cond rfl (fun hb1 => ?_) (fun hb1 => ?_)
  · skip
    have q : ¬ a.length = b.length := by have e := bne_iff_ne.1 hb1; simp only [List.length_map] at e; omega
    refine aw_seq ?_
    refine aw_region ?_
    refine g_u (s_as_imm rfl rfl) ?_
    refine g_nil ?_
    refine normal_thn ?_
    refine aw_ret ?_
    refine ret_thn ?_
    exact ⟨⟨(rfl : toAV (Al.look _ _) = some _).trans (congrArg some (by (exact congrArg bv (by first | exact (sameVs_ne (fun e => q (by rw [e]))).symm | exact ((sameVs_iff _ _).2 (ext_nth v0 el (fun j hj => h2 j (by omega)))).symm)))), rfl⟩, trivial⟩
  · skip
    have el : a.length = b.length := by have e := bne_eq_false_iff_eq.1 hb1; simp only [List.length_map] at e; omega
    refine aw_skip ?_
    refine normal_thn ?_
    refine aw_seq ?_
    refine aw_seq ?_
    refine aw_region ?_
    refine g_u (s_mv_imm rfl rfl) ?_
    refine g_u (s_lenL rfl rfl Try.underlying23) ?_
    refine g_u (s_mv_imm rfl rfl) ?_
    refine g_nil ?_
    refine normal_thn ?_
    refine aw_block ?_
    refine aw_loop' (fun i : Nat => [(1, .imm (.sl 6 (b.map avV))), (2, .imm (.fn (.func fn) [] [])), (15, .imm (.sl 6 (a.map avV))), (16, .imm (iv (a.length : Int))), (17, .imm (iv (i : Int)))]) (fun i => i ≤ a.length ∧ ∀ j, j < i → nth a j v0 = nth b j v0) (fun i => a.length - i) (0) ?_ ⟨rfl, rfl, rfl, look_int rfl (by rw [List.length_map]), rfl, trivial⟩ ?_
    · exact ⟨Nat.zero_le _, fun j h => absurd h (Nat.not_lt_zero _)⟩
    · rintro i ⟨h1, h2⟩; (try dsimp only at h1 h2)
      refine aw_seq ?_
      refine aw_region ?_
      refine g_u (s_ltI rfl rfl rfl) ?_
      refine g_nil ?_
      refine normal_thn ?_
      refine aw_seq ?_
      refine aw_cond rfl (fun hb2 => ?_) (fun hb2 => ?_)
      · skip
        have hi : i < a.length := by have := of_decide_eq_true hb2; (try simp only [List.length_map] at this); omega
        have hib : i < b.length := by omega
        refine aw_skip ?_
        refine normal_thn ?_
        refine aw_seq ?_
        refine aw_block ?_
        refine aw_seq ?_
        refine aw_region ?_
        refine g_u (s_mv_imm rfl rfl) ?_
        refine g_u (s_indexAddr rfl rfl rfl Try.underlying23 tS26 (by omega) (ixV hi)) ?_
        refine g_u (s_load_cp rfl rfl tA26 tS26 rfl rfl) ?_
        refine g_uG (s_alloc' 1008 rfl rfl rfl tZ26) rfl ?_
        refine g_u (s_as_imm rfl rfl) ?_
        refine g_u (s_store_imm rfl rfl rfl tS26 rfl rfl) ?_
        refine g_nil ?_
        refine normal_thn ?_
        refine aw_seq ?_
        refine aw_region ?_
        refine g_u (s_mv_imm rfl rfl) ?_
        refine g_u (s_mv_imm rfl rfl) ?_
        refine g_u (s_indexAddr rfl rfl rfl Try.underlying23 tS26 (by omega) (ixV hib)) ?_
        refine g_u (s_load_cp rfl rfl tA26 tS26 rfl rfl) ?_
        refine g_uG (s_alloc' 1009 rfl rfl rfl tZ26) rfl ?_
        refine g_u (s_store_imm rfl rfl rfl tS26 rfl rfl) ?_
        refine g_nil ?_
        refine normal_thn ?_
        refine aw_seq ?_
        refine aw_region ?_
        refine g_u (s_mv_imm rfl rfl) ?_
        refine g_u (s_load_agg rfl rfl rfl tA26 tS26 rfl rfl) ?_
        refine g_u (s_load_agg rfl rfl rfl tA26 tS26 rfl rfl) ?_
        refine g_u (s_callv1 (hf _ (nthV_mem hi) _) rfl rfl rfl) ?_
        refine g_u (s_not rfl rfl) ?_
        refine g_nil ?_
        refine normal_thn ?_
        refine aw_cond rfl (fun hb3 => ?_) (fun hb3 => ?_)
        · skip
          have q : ¬ nthV a i = nthV b i := fun h => by have e := hb3; rw [h, sameV_refl] at e; cases e
          refine aw_seq ?_
          refine aw_region ?_
          refine g_u (s_as_imm rfl rfl) ?_
          refine g_nil ?_
          refine normal_thn ?_
          refine aw_ret ?_
          refine ret_blk ?_
          refine ret_thn ?_
          refine ret_thn ?_
          refine ret_blk ?_
          refine ret_thn ?_
          exact ⟨⟨(rfl : toAV (Al.look _ _) = some _).trans (congrArg some (by (exact congrArg bv (by first | exact (sameVs_ne (fun e => q (by rw [e]))).symm | exact ((sameVs_iff _ _).2 (ext_nth v0 el (fun j hj => h2 j (by omega)))).symm)))), rfl⟩, trivial⟩
        · skip
          have ev : nthV a i = nthV b i := (sameV_iff _ _).1 (by have e := hb3; simpa using e)
          refine aw_skip ?_
          refine normal_blk ?_
          refine normal_thn ?_
          refine aw_region ?_
          refine g_u (s_add rfl rfl rfl) ?_
          refine g_u (s_mv_imm rfl rfl) ?_
          refine g_nil ?_
          refine normal_thn ?_
          refine ⟨i + 1, ⟨hi, fun j hj => by rcases Nat.lt_or_ge j i with h | h; exact h2 j h; rw [show j = i by omega]; exact ev⟩, ⟨rfl, rfl, rfl, rfl, look_int rfl (by rw [wrap64 (by omega) (by omega)]; rfl), trivial⟩, by (try dsimp only); omega⟩
      · skip
        have hin : i = a.length := by have := of_decide_eq_false hb2; (try simp only [List.length_map] at this); omega
        refine aw_exit ?_
        refine exit_thn ?_
        refine exit_thn ?_
        refine exit_blk ?_
        refine normal_thn ?_
        refine aw_seq ?_
        refine aw_region ?_
        refine g_u (s_as_imm rfl rfl) ?_
        refine g_nil ?_
        refine normal_thn ?_
        refine aw_ret ?_
        exact ⟨⟨(rfl : toAV (Al.look _ _) = some _).trans (congrArg some (by (exact congrArg bv (by first | exact (sameVs_ne (fun e => q (by rw [e]))).symm | exact ((sameVs_iff _ _).2 (ext_nth v0 el (fun j hj => h2 j (by omega)))).symm)))), rfl⟩, trivial⟩

set_option maxHeartbeats 1000000 in
theorem eqfA_c (a b : List GA) (fn : FuncId) (hl : a.length ≤ 1000000000) (hf : ∀ x ∈ a, ∀ y : GA, PCall Try.prog Γ0 fn ([] ++ [x.av, y.av] ++ []) [bv (sameA x y)]) : PCall Try.prog Γ0 33 [(.sl 7 (a.map avA)), (.sl 7 (b.map avA)), .fn (.func fn) [] []] [bv (sameAs a b)] := by
  refine pcall_of Try.func33 rfl Try.ntmps33 (by kernel_rfl) rfl fun w0 I0 G0 => ?_
  refine aw_seq ?_
  refine aw_region ?_
  refine g_u (s_as_imm rfl rfl) ?_
  refine g_nil ?_
  refine normal_thn ?_
  refine aw_seq ?_
  refine aw_seq ?_
  refine aw_region ?_
  refine g_u (s_mv_imm rfl rfl) ?_
  refine g_u (s_lenL rfl rfl Try.underlying24) ?_
  refine g_u (s_mv_imm rfl rfl) ?_
  refine g_u (s_lenL rfl rfl Try.underlying24) ?_
  refine g_u (s_neI rfl rfl rfl) ?_
  refine g_nil ?_
  refine normal_thn ?_
  refine aw_cond rfl (fun hb1 => ?_) (fun hb1 => ?_)
  · skip
    have q : ¬ a.length = b.length := by have e := bne_iff_ne.1 hb1; simp only [List.length_map] at e; omega
    refine aw_seq ?_
    refine aw_region ?_
    refine g_u (s_as_imm rfl rfl) ?_
    refine g_nil ?_
    refine normal_thn ?_
    refine aw_ret ?_
    refine ret_thn ?_
    exact ⟨⟨(rfl : toAV (Al.look _ _) = some _).trans (congrArg some (by (exact congrArg bv (by first | exact (sameAs_ne (fun e => q (by rw [e]))).symm | exact ((sameAs_iff _ _).2 (ext_nth a0 el (fun j hj => h2 j (by omega)))).symm)))), rfl⟩, trivial⟩
  · skip
    have el : a.length = b.length := by have e := bne_eq_false_iff_eq.1 hb1; simp only [List.length_map] at e; omega
    refine aw_skip ?_
    refine normal_thn ?_
    refine aw_seq ?_
    refine aw_seq ?_
    refine aw_region ?_
    refine g_u (s_mv_imm rfl rfl) ?_
    refine g_u (s_lenL rfl rfl Try.underlying24) ?_
    refine g_u (s_mv_imm rfl rfl) ?_
    refine g_nil ?_
    refine normal_thn ?_
    refine aw_block ?_
    refine aw_loop' (fun i : Nat => [(1, .imm (.sl 7 (b.map avA))), (2, .imm (.fn (.func fn) [] [])), (15, .imm (.sl 7 (a.map avA))), (16, .imm (iv (a.length : Int))), (17, .imm (iv (i : Int)))]) (fun i => i ≤ a.length ∧ ∀ j, j < i → nth a j a0 = nth b j a0) (fun i => a.length - i) (0) ?_ ⟨rfl, rfl, rfl, look_int rfl (by rw [List.length_map]), rfl, trivial⟩ ?_
    · exact ⟨Nat.zero_le _, fun j h => absurd h (Nat.not_lt_zero _)⟩
    · rintro i ⟨h1, h2⟩; (try dsimp only at h1 h2)
      refine aw_seq ?_
      refine aw_region ?_
      refine g_u (s_ltI rfl rfl rfl) ?_
      refine g_nil ?_
      refine normal_thn ?_
      refine aw_seq ?_
      refine aw_cond rfl (fun hb2 => ?_) (fun hb2 => ?_)
      · skip
        have hi : i < a.length := by have := of_decide_eq_true hb2; (try simp only [List.length_map] at this); omega
        have hib : i < b.length := by omega
        refine aw_skip ?_
        refine normal_thn ?_
        refine aw_seq ?_
        refine aw_block ?_
        refine aw_seq ?_
        refine aw_region ?_
        refine g_u (s_mv_imm rfl rfl) ?_
        refine g_u (s_indexAddr rfl rfl rfl Try.underlying24 tS33 (by omega) (ixA hi)) ?_
        refine g_u (s_load_cp rfl rfl tA33 tS33 rfl rfl) ?_
        refine g_uG (s_alloc' 1008 rfl rfl rfl tZ33) rfl ?_
        refine g_u (s_as_imm rfl rfl) ?_
        refine g_u (s_store_imm rfl rfl rfl tS33 rfl rfl) ?_
        refine g_nil ?_
        refine normal_thn ?_
        refine aw_seq ?_
        refine aw_region ?_
        refine g_u (s_mv_imm rfl rfl) ?_
        refine g_u (s_mv_imm rfl rfl) ?_
        refine g_u (s_indexAddr rfl rfl rfl Try.underlying24 tS33 (by omega) (ixA hib)) ?_
        refine g_u (s_load_cp rfl rfl tA33 tS33 rfl rfl) ?_
        refine g_uG (s_alloc' 1009 rfl rfl rfl tZ33) rfl ?_
        refine g_u (s_store_imm rfl rfl rfl tS33 rfl rfl) ?_
        refine g_nil ?_
        refine normal_thn ?_
        refine aw_seq ?_
        refine aw_region ?_
        refine g_u (s_mv_imm rfl rfl) ?_
        refine g_u (s_load_agg rfl rfl rfl tA33 tS33 rfl rfl) ?_
        refine g_u (s_load_agg rfl rfl rfl tA33 tS33 rfl rfl) ?_
        refine g_u (s_callv1 (hf _ (nthA_mem hi) _) rfl rfl rfl) ?_
        refine g_u (s_not rfl rfl) ?_
        refine g_nil ?_
        refine normal_thn ?_
        refine aw_cond rfl (fun hb3 => ?_) (fun hb3 => ?_)
        · skip
          have q : ¬ nthA a i = nthA b i := fun h => by have e := hb3; rw [h, sameA_refl] at e; cases e
          refine aw_seq ?_
          refine aw_region ?_
          refine g_u (s_as_imm rfl rfl) ?_
          refine g_nil ?_
          refine normal_thn ?_
          refine aw_ret ?_
          refine ret_blk ?_
          refine ret_thn ?_
          refine ret_thn ?_
          refine ret_blk ?_
          refine ret_thn ?_
          exact ⟨⟨(rfl : toAV (Al.look _ _) = some _).trans (congrArg some (by (exact congrArg bv (by first | exact (sameAs_ne (fun e => q (by rw [e]))).symm | exact ((sameAs_iff _ _).2 (ext_nth a0 el (fun j hj => h2 j (by omega)))).symm)))), rfl⟩, trivial⟩
        · skip
          have ev : nthA a i = nthA b i := (sameA_iff _ _).1 (by have e := hb3; simpa using e)
          refine aw_skip ?_
          refine normal_blk ?_
          refine normal_thn ?_
          refine aw_region ?_
          refine g_u (s_add rfl rfl rfl) ?_
          refine g_u (s_mv_imm rfl rfl) ?_
          refine g_nil ?_
          refine normal_thn ?_
          refine ⟨i + 1, ⟨hi, fun j hj => by rcases Nat.lt_or_ge j i with h | h; exact h2 j h; rw [show j = i by omega]; exact ev⟩, ⟨rfl, rfl, rfl, rfl, look_int rfl (by rw [wrap64 (by omega) (by omega)]; rfl), trivial⟩, by (try dsimp only); omega⟩
      · skip
        have hin : i = a.length := by have := of_decide_eq_false hb2; (try simp only [List.length_map] at this); omega
        refine aw_exit ?_
        refine exit_thn ?_
        refine exit_thn ?_
        refine exit_blk ?_
        refine normal_thn ?_
        refine aw_seq ?_
        refine aw_region ?_
        refine g_u (s_as_imm rfl rfl) ?_
        refine g_nil ?_
        refine normal_thn ?_
        refine aw_ret ?_
        exact ⟨⟨(rfl : toAV (Al.look _ _) = some _).trans (congrArg some (by (exact congrArg bv (by first | exact (sameAs_ne (fun e => q (by rw [e]))).symm | exact ((sameAs_iff _ _).2 (ext_nth a0 el (fun j hj => h2 j (by omega)))).symm)))), rfl⟩, trivial⟩

set_option maxHeartbeats 400000 in
theorem psameA_st (a b : GA) (ih : PCall Try.prog Γ0 20 [a.val.av, b.val.av] [bv (sameV a.val b.val)]) : PCall Try.prog Γ0 34 [a.av, b.av] [bv (sameA a b)] := by
  refine pcall_of Try.func34 rfl Try.ntmps34 (by kernel_rfl) rfl fun w0 I0 G0 => ?_
  refine aw_seq ?_
  refine aw_region ?_
  refine g_uG (s_box_imm 1002 rfl rfl rfl rfl) rfl ?_
  refine g_uG (s_box_imm 1003 rfl rfl rfl rfl) rfl ?_
  refine g_u (s_as_imm rfl rfl) ?_
  refine g_nil ?_
  refine normal_thn ?_
  refine aw_seq ?_
  refine aw_region ?_
  refine g_u (s_fieldAddr rfl rfl fa33_0 rfl) ?_
  refine g_u (s_load_imm rfl rfl rfl tA9 tS9 rfl rfl) ?_
  refine g_u (s_fieldAddr rfl rfl fa33_0 rfl) ?_
  refine g_u (s_load_imm rfl rfl rfl tA9 tS9 rfl rfl) ?_
  refine g_u (s_eqS rfl rfl rfl) ?_
  refine g_u (s_mv_imm rfl rfl) ?_
  refine g_case (t := 10) rfl ?_
  rintro (hb1 | hb1)
  · rw [hb1]
    have ek : a.key = b.key := by have e := hb1; rw [str_beq] at e; exact of_decide_eq_true e
    refine g_run rfl rfl (s_fieldAddr rfl rfl fa33_1 rfl) ?_
    refine g_run rfl rfl (s_load_imm rfl rfl rfl tA26 tS26 rfl rfl) ?_
    refine g_run rfl rfl (s_fieldAddr rfl rfl fa33_1 rfl) ?_
    refine g_run rfl rfl (s_load_imm rfl rfl rfl tA26 tS26 rfl rfl) ?_
    refine g_run rfl rfl (s_call1 (ih) rfl rfl) ?_
    refine g_u (s_pick_t rfl rfl rfl) ?_
    refine g_u (s_as_imm rfl rfl) ?_
    refine g_nil ?_
    refine normal_thn ?_
    refine aw_ret ?_
    exact ⟨⟨(rfl : toAV (Al.look _ _) = some _).trans (congrArg some (by (exact congrArg bv (by first | exact (sameA_ne (fun e => q (by rw [e]))).symm | (rw [Bool.eq_iff_iff, sameV_iff, sameA_iff]; exact ⟨fun h => GA.ext' ek h, fun h => by rw [h]⟩))))), rfl⟩, trivial⟩
  · rw [hb1]
    have q : ¬ a.key = b.key := by have e := hb1; rw [str_beq] at e; exact of_decide_eq_false e
    refine g_skip rfl rfl rfl ?_
    refine g_skip rfl rfl rfl ?_
    refine g_skip rfl rfl rfl ?_
    refine g_skip rfl rfl rfl ?_
    refine g_skip rfl rfl rfl ?_
    refine g_u (s_pick_f rfl rfl rfl) ?_
    refine g_u (s_as_imm rfl rfl) ?_
    refine g_nil ?_
    refine normal_thn ?_
    refine aw_ret ?_
    exact ⟨⟨(rfl : toAV (Al.look _ _) = some _).trans (congrArg some (by (exact congrArg bv (by first | exact (sameA_ne (fun e => q (by rw [e]))).symm | (rw [Bool.eq_iff_iff, sameV_iff, sameA_iff]; exact ⟨fun h => GA.ext' ek h, fun h => by rw [h]⟩))))), rfl⟩, trivial⟩

set_option maxHeartbeats 400000 in
theorem psameAs_st (a b : List GA) (hl : a.length ≤ 1000000000) (ih : ∀ x ∈ a, ∀ y : GA, PCall Try.prog Γ0 20 [x.val.av, y.val.av] [bv (sameV x.val y.val)]) : PCall Try.prog Γ0 24 [.sl 7 (a.map avA), .sl 7 (b.map avA)] [bv (sameAs a b)] := by
  refine pcall_of Try.func24 rfl Try.ntmps24 (by kernel_rfl) rfl fun w0 I0 G0 => ?_
  refine aw_seq ?_
  refine aw_region ?_
  refine g_u (s_as_imm rfl rfl) ?_
  refine g_nil ?_
  refine normal_thn ?_
  refine aw_seq ?_
  refine aw_region ?_
  refine g_u (s_mv_imm rfl rfl) ?_
  refine g_u (s_mv_imm rfl rfl) ?_
  refine g_u (s_call1 (eqfA_c a b 34 hl (fun x hx y => psameA_st x y (ih x hx y))) rfl rfl) ?_
  refine g_u (s_as_imm rfl rfl) ?_
  refine g_nil ?_
  refine normal_thn ?_
  refine aw_ret ?_
  exact ⟨⟨(rfl : toAV (Al.look _ _) = some _).trans (congrArg some (by rfl)), rfl⟩, trivial⟩

set_option maxHeartbeats 2000000 in
theorem psameV_st (a b : GV) (ihl : PCall Try.prog Γ0 30 [.sl 6 (a.list.map avV), .sl 6 (b.list.map avV), .fn (.func 20) [] []] [bv (sameVs a.list b.list)]) (ihm : PCall Try.prog Γ0 24 [.sl 7 (a.map.map avA), .sl 7 (b.map.map avA)] [bv (sameAs a.map b.map)]) : PCall Try.prog Γ0 20 [a.av, b.av] [bv (sameV a b)] := by
  refine pcall_of Try.func20 rfl Try.ntmps20 (by kernel_rfl) rfl fun w0 I0 G0 => ?_
  refine aw_seq ?_
  refine aw_region ?_
  refine g_uG (s_box_imm 1002 rfl rfl rfl rfl) rfl ?_
  refine g_uG (s_box_imm 1003 rfl rfl rfl rfl) rfl ?_
  refine g_u (s_as_imm rfl rfl) ?_
  refine g_nil ?_
  refine normal_thn ?_
  refine aw_seq ?_
  refine aw_seq ?_
  refine aw_region ?_
  refine g_u (s_fieldAddr rfl rfl fa26_0 rfl) ?_
  refine g_u (s_load_imm rfl rfl rfl tA5 tS5 rfl rfl) ?_
  refine g_u (s_fieldAddr rfl rfl fa26_0 rfl) ?_
  refine g_u (s_load_imm rfl rfl rfl tA5 tS5 rfl rfl) ?_
  refine g_u (s_neI rfl rfl rfl) ?_
  refine g_u (s_mv_imm rfl rfl) ?_
  refine g_case (t := 10) rfl ?_
  rintro (hb1 | hb1)
  · rw [hb1]
    have q : ¬ a.kind = b.kind := bne_iff_ne.1 hb1
    refine g_skip rfl rfl rfl ?_
    refine g_skip rfl rfl rfl ?_
    refine g_skip rfl rfl rfl ?_
    refine g_skip rfl rfl rfl ?_
    refine g_skip rfl rfl rfl ?_
    refine g_u (s_pick_t rfl rfl rfl) ?_
    refine g_u (s_mv_imm rfl rfl) ?_
    refine g_skip rfl rfl rfl ?_
    refine g_skip rfl rfl rfl ?_
    refine g_skip rfl rfl rfl ?_
    refine g_skip rfl rfl rfl ?_
    refine g_skip rfl rfl rfl ?_
    refine g_u (s_pick_t rfl rfl rfl) ?_
    refine g_u (s_mv_imm rfl rfl) ?_
    refine g_skip rfl rfl rfl ?_
    refine g_skip rfl rfl rfl ?_
    refine g_skip rfl rfl rfl ?_
    refine g_skip rfl rfl rfl ?_
    refine g_skip rfl rfl rfl ?_
    refine g_u (s_pick_t rfl rfl rfl) ?_
    refine g_nil ?_
    refine normal_thn ?_
    refine aw_cond_true rfl ?_
    refine aw_seq ?_
    refine aw_region ?_
    refine g_u (s_as_imm rfl rfl) ?_
    refine g_nil ?_
    refine normal_thn ?_
    refine aw_ret ?_
    refine ret_thn ?_
    exact ⟨⟨(rfl : toAV (Al.look _ _) = some _).trans (congrArg some (by (exact congrArg bv (by first | exact (sameV_ne (fun e => q (by rw [e]))).symm | exact sameV_map e1 e2 e3 e4 e5)))), rfl⟩, trivial⟩
  · rw [hb1]
    have e1 : a.kind = b.kind := bne_eq_false_iff_eq.1 hb1
    refine g_run rfl rfl (s_fieldAddr rfl rfl fa26_1 rfl) ?_
    refine g_run rfl rfl (s_load_imm rfl rfl rfl tA9 tS9 rfl rfl) ?_
    refine g_run rfl rfl (s_fieldAddr rfl rfl fa26_1 rfl) ?_
    refine g_run rfl rfl (s_load_imm rfl rfl rfl tA9 tS9 rfl rfl) ?_
    refine g_run rfl rfl (s_neS rfl rfl rfl) ?_
    refine g_u (s_pick_f rfl rfl rfl) ?_
    refine g_u (s_mv_imm rfl rfl) ?_
    refine g_case (t := 17) rfl ?_
    rintro (hb2 | hb2)
    · rw [hb2]
      have q : ¬ a.text = b.text := by have e := hb2; rw [str_beq] at e; simpa using e
      refine g_skip rfl rfl rfl ?_
      refine g_skip rfl rfl rfl ?_
      refine g_skip rfl rfl rfl ?_
      refine g_skip rfl rfl rfl ?_
      refine g_skip rfl rfl rfl ?_
      refine g_u (s_pick_t rfl rfl rfl) ?_
      refine g_u (s_mv_imm rfl rfl) ?_
      refine g_skip rfl rfl rfl ?_
      refine g_skip rfl rfl rfl ?_
      refine g_skip rfl rfl rfl ?_
      refine g_skip rfl rfl rfl ?_
      refine g_skip rfl rfl rfl ?_
      refine g_u (s_pick_t rfl rfl rfl) ?_
      refine g_nil ?_
      refine normal_thn ?_
      refine aw_cond_true rfl ?_
      refine aw_seq ?_
      refine aw_region ?_
      refine g_u (s_as_imm rfl rfl) ?_
      refine g_nil ?_
      refine normal_thn ?_
      refine aw_ret ?_
      refine ret_thn ?_
      exact ⟨⟨(rfl : toAV (Al.look _ _) = some _).trans (congrArg some (by (exact congrArg bv (by first | exact (sameV_ne (fun e => q (by rw [e]))).symm | exact sameV_map e1 e2 e3 e4 e5)))), rfl⟩, trivial⟩
    · rw [hb2]
      have e2 : a.text = b.text := by have e := hb2; rw [str_beq] at e; simpa using e
      refine g_run rfl rfl (s_fieldAddr rfl rfl fa26_2 rfl) ?_
      refine g_run rfl rfl (s_load_imm rfl rfl rfl tA3 tS3 rfl rfl) ?_
      refine g_run rfl rfl (s_fieldAddr rfl rfl fa26_2 rfl) ?_
      refine g_run rfl rfl (s_load_imm rfl rfl rfl tA3 tS3 rfl rfl) ?_
      refine g_run rfl rfl (s_neI rfl rfl rfl) ?_
      refine g_u (s_pick_f rfl rfl rfl) ?_
      refine g_u (s_mv_imm rfl rfl) ?_
      refine g_case (t := 24) rfl ?_
      rintro (hb3 | hb3)
      · rw [hb3]
        have q : ¬ a.num = b.num := bne_iff_ne.1 hb3
        refine g_skip rfl rfl rfl ?_
        refine g_skip rfl rfl rfl ?_
        refine g_skip rfl rfl rfl ?_
        refine g_skip rfl rfl rfl ?_
        refine g_skip rfl rfl rfl ?_
        refine g_u (s_pick_t rfl rfl rfl) ?_
        refine g_nil ?_
        refine normal_thn ?_
        refine aw_cond_true rfl ?_
        refine aw_seq ?_
        refine aw_region ?_
        refine g_u (s_as_imm rfl rfl) ?_
        refine g_nil ?_
        refine normal_thn ?_
        refine aw_ret ?_
        refine ret_thn ?_
        exact ⟨⟨(rfl : toAV (Al.look _ _) = some _).trans (congrArg some (by (exact congrArg bv (by first | exact (sameV_ne (fun e => q (by rw [e]))).symm | exact sameV_map e1 e2 e3 e4 e5)))), rfl⟩, trivial⟩
      · rw [hb3]
        have e3 : a.num = b.num := bne_eq_false_iff_eq.1 hb3
        refine g_run rfl rfl (s_fieldAddr rfl rfl fa26_3 rfl) ?_
        refine g_run rfl rfl (s_load_imm rfl rfl rfl tA22 tS22 rfl rfl) ?_
        refine g_run rfl rfl (s_fieldAddr rfl rfl fa26_3 rfl) ?_
        refine g_run rfl rfl (s_load_imm rfl rfl rfl tA22 tS22 rfl rfl) ?_
        refine g_run rfl rfl (s_neI rfl rfl rfl) ?_
        refine g_u (s_pick_f rfl rfl rfl) ?_
        refine g_nil ?_
        refine normal_thn ?_
        refine aw_cond rfl (fun hb4 => ?_) (fun hb4 => ?_)
        · skip
          have q : ¬ a.bits = b.bits := bne_iff_ne.1 hb4
          refine aw_seq ?_
          refine aw_region ?_
          refine g_u (s_as_imm rfl rfl) ?_
          refine g_nil ?_
          refine normal_thn ?_
          refine aw_ret ?_
          refine ret_thn ?_
          exact ⟨⟨(rfl : toAV (Al.look _ _) = some _).trans (congrArg some (by (exact congrArg bv (by first | exact (sameV_ne (fun e => q (by rw [e]))).symm | exact sameV_map e1 e2 e3 e4 e5)))), rfl⟩, trivial⟩
        · skip
          have e4 : a.bits = b.bits := bne_eq_false_iff_eq.1 hb4
          refine aw_skip ?_
          refine normal_thn ?_
          refine aw_seq ?_
          refine aw_region ?_
          refine g_u (s_fieldAddr rfl rfl fa26_4 rfl) ?_
          refine g_u (s_load_imm rfl rfl rfl tA23 tS23 rfl rfl) ?_
          refine g_u (s_fieldAddr rfl rfl fa26_4 rfl) ?_
          refine g_u (s_load_imm rfl rfl rfl tA23 tS23 rfl rfl) ?_
          refine g_u (s_call1 (ihl) rfl rfl) ?_
          refine g_u (s_mv_imm rfl rfl) ?_
          refine g_case (t := 36) rfl ?_
          rintro (hb5 | hb5)
          · rw [hb5]
            have e5 : a.list = b.list := (sameVs_iff _ _).1 hb5
            refine g_run rfl rfl (s_fieldAddr rfl rfl fa26_5 rfl) ?_
            refine g_run rfl rfl (s_load_imm rfl rfl rfl tA24 tS24 rfl rfl) ?_
            refine g_run rfl rfl (s_fieldAddr rfl rfl fa26_5 rfl) ?_
            refine g_run rfl rfl (s_load_imm rfl rfl rfl tA24 tS24 rfl rfl) ?_
            refine g_run rfl rfl (s_call1 (ihm) rfl rfl) ?_
            refine g_u (s_pick_t rfl rfl rfl) ?_
            refine g_u (s_as_imm rfl rfl) ?_
            refine g_nil ?_
            refine normal_thn ?_
            refine aw_ret ?_
            exact ⟨⟨(rfl : toAV (Al.look _ _) = some _).trans (congrArg some (by (exact congrArg bv (by first | exact (sameV_ne (fun e => q (by rw [e]))).symm | exact sameV_map e1 e2 e3 e4 e5)))), rfl⟩, trivial⟩
          · rw [hb5]
            have q : ¬ a.list = b.list := fun h => by have e := hb5; rw [h, sameVs_refl] at e; cases e
            refine g_skip rfl rfl rfl ?_
            refine g_skip rfl rfl rfl ?_
            refine g_skip rfl rfl rfl ?_
            refine g_skip rfl rfl rfl ?_
            refine g_skip rfl rfl rfl ?_
            refine g_u (s_pick_f rfl rfl rfl) ?_
            refine g_u (s_as_imm rfl rfl) ?_
            refine g_nil ?_
            refine normal_thn ?_
            refine aw_ret ?_
            exact ⟨⟨(rfl : toAV (Al.look _ _) = some _).trans (congrArg some (by (exact congrArg bv (by first | exact (sameV_ne (fun e => q (by rw [e]))).symm | exact sameV_map e1 e2 e3 e4 e5)))), rfl⟩, trivial⟩

theorem psameV_c (a : GV) : a.wt ≤ 1000000000 → ∀ b : GV, PCall Try.prog Γ0 20 [a.av, b.av] [bv (sameV a b)] := by
  refine GV.ind (P := fun a => a.wt ≤ 1000000000 → ∀ b : GV, PCall Try.prog Γ0 20 [a.av, b.av] [bv (sameV a b)]) ?_ a
  intro a h1 h2 hw b
  have ek := a.wt_eq
  have la := len_wtAs a.map
  have lv := len_wtVs a.list
  exact psameV_st a b (eqfV_c a.list b.list 20 (by omega) fun y hy z => h1 y hy (by have := wtVs_mem hy; omega) z) (psameAs_st a.map b.map (by omega) fun x hx y => h2 x hx (by have := wtAs_mem hx; have := x.wt_eq; omega) y.val)
theorem psameAs_c (a b : List GA) (hw : wtAs a ≤ 1000000000) : PCall Try.prog Γ0 24 [.sl 7 (a.map avA), .sl 7 (b.map avA)] [bv (sameAs a b)] := by
  have la := len_wtAs a
  exact psameAs_st a b (by omega) fun x hx y => psameV_c x.val (by have := wtAs_mem hx; have := x.wt_eq; omega) y.val

set_option maxHeartbeats 2000000 in
theorem pcanonAs_st (l : List GA) (hl : l.length ≤ 10000000) (ih : ∀ a ∈ l, PCall Try.prog Γ0 17 [a.val.av] [(canonV a.val).av]) : PCall Try.prog Γ0 22 [(.sl 7 (l.map avA))] [.sl 7 ((canonAs l).map avA)] := by
  refine pcall_of Try.func22 rfl Try.ntmps22 (by kernel_rfl) rfl fun w0 I0 G0 => ?_
  refine aw_seq ?_
  refine aw_region ?_
  refine g_u (s_as_imm rfl rfl) ?_
  refine g_nil ?_
  refine normal_thn ?_
  refine aw_seq ?_
  refine aw_region ?_
  refine g_uG (s_makeMap 1011 rfl rfl rfl) rfl ?_
  refine g_u (s_as_mref rfl rfl) ?_
  refine g_nil ?_
  refine normal_thn ?_
  refine aw_seq ?_
  refine aw_seq ?_
  refine aw_region ?_
  refine g_u (s_mv_imm rfl rfl) ?_
  refine g_u (s_lenL rfl rfl Try.underlying24) ?_
  refine g_u (s_mv_imm rfl rfl) ?_
  refine g_nil ?_
  refine normal_thn ?_
  refine aw_block ?_
  refine aw_loop' (fun i : Nat => [(0, .imm (.sl 7 (l.map avA))), (3, .mref 1011), (1011, .mpr (strs (mks (l.take i))) (mvs (l.take i))), (12, .imm (.sl 7 (l.map avA))), (13, .imm (iv (l.length : Int))), (14, .imm (iv (i : Int)))]) (fun i => i ≤ l.length) (fun i => l.length - i) (0) ?_ ⟨rfl, rfl, rfl, rfl, look_int rfl (by rw [List.length_map]), rfl, trivial⟩ ?_
  · exact Nat.zero_le _
  · rintro i h1; have h1 : i ≤ l.length := h1
    refine aw_seq ?_
    refine aw_region ?_
    refine g_u (s_ltI rfl rfl rfl) ?_
    refine g_nil ?_
    refine normal_thn ?_
    refine aw_seq ?_
    refine aw_cond rfl (fun hb1 => ?_) (fun hb1 => ?_)
    · skip
      have hi : i < l.length := by have := of_decide_eq_true hb1; (try simp only [List.length_map] at this); omega
      refine aw_skip ?_
      refine normal_thn ?_
      refine aw_seq ?_
      refine aw_block ?_
      refine aw_seq ?_
      refine aw_region ?_
      refine g_u (s_mv_imm rfl rfl) ?_
      refine g_u (s_indexAddr rfl rfl rfl Try.underlying24 tS33 (by omega) (ixA hi)) ?_
      refine g_u (s_load_cp rfl rfl tA33 tS33 rfl rfl) ?_
      refine g_uG (s_alloc' 1005 rfl rfl rfl tZ33) rfl ?_
      refine g_u (s_as_imm rfl rfl) ?_
      refine g_u (s_store_imm rfl rfl rfl tS33 rfl rfl) ?_
      refine g_nil ?_
      refine normal_thn ?_
      refine aw_region ?_
      refine g_u (s_mv_mref rfl rfl) ?_
      refine g_u (s_fieldAddr rfl rfl fa33_0 rfl) ?_
      refine g_u (s_load_imm rfl rfl rfl tA9 tS9 rfl rfl) ?_
      refine g_u (s_mv_imm rfl rfl) ?_
      refine g_u (s_mapUpdate rfl rfl rfl rfl Try.underlying47 Try.underlying9) ?_
      refine g_nil ?_
      refine normal_blk ?_
      refine normal_thn ?_
      refine aw_region ?_
      refine g_u (s_add rfl rfl rfl) ?_
      refine g_u (s_mv_imm rfl rfl) ?_
      refine g_nil ?_
      refine normal_thn ?_
      have et : l.take (i + 1) = l.take i ++ [nthA l i] := take_snoc (nth_get (d := a0) hi)
      have el : (l.take i).length = i := by rw [List.length_take]; omega
      refine ⟨i + 1, hi, ⟨rfl, rfl, look_mpr rfl (by rw [et, mks_snoc]) (by rw [et, mvs_snoc, el]), rfl, rfl, look_int rfl (by rw [wrap64 (by omega) (by omega)]; rfl), trivial⟩, by (try dsimp only); omega⟩
    · skip
      have hin : i = l.length := by have := of_decide_eq_false hb1; (try simp only [List.length_map] at this); omega
      refine aw_exit ?_
      refine exit_thn ?_
      refine exit_thn ?_
      refine exit_blk ?_
      refine normal_thn ?_
      refine aw_seq ?_
      refine aw_region ?_
      refine g_u (s_as_imm rfl rfl) ?_
      refine g_nil ?_
      refine normal_thn ?_
      refine aw_newrow 3006 6 rfl rfl rfl rfl ?_
      refine aw_seq ?_
      refine aw_seq ?_
      refine aw_region ?_
      refine g_u (s_mv_mref rfl rfl) ?_
      refine g_uG (s_range 1025 rfl rfl rfl rfl rfl rfl Try.underlying47) rfl ?_
      refine g_nil ?_
      refine normal_thn ?_
      refine aw_block ?_
      refine aw_loop' (fun seen : List Nat => [(0, .imm (.sl 7 (l.map avA))), (3, .mref 1011), (1011, .mpr (strs (mks l)) (mvs l)), (6, .slg 3006 0 (units (ksOf l seen).length)), (3006, .row (ksOf l seen)), (25, .ptr 1025 0), (1025, .itr 1011 (mks l).length seen)]) (fun seen => seen.Nodup ∧ ∀ j ∈ seen, j < (mks l).length) (fun seen => (mks l).length - seen.length) ([]) ?_ ⟨rfl, rfl, look_mpr rfl (by rw [hin, List.take_length]) (by rw [hin, List.take_length]), rfl, rfl, rfl, look_itr rfl (by rw [hin, List.take_length, strs_length]) rfl, trivial⟩ ?_
      · exact ⟨List.nodup_nil, fun j h => by cases h⟩
      · rintro seen ⟨h1, h2⟩; (try dsimp only at h1 h2)
        have hsl := nodup_lt _ seen h1 h2
        have hml := mks_len l
        have hkl := ksOf_len l seen
        refine aw_seq ?_
        refine aw_next rfl rfl rfl rfl rfl (Nat.beq_refl _) rfl (fun hall => ?_) (fun q tx va hq hs hk hv => ?_)
        · skip
          have hp := seen_perm h1 h2 hall
          have hp : (ksOf l seen).Perm (mks l) := hp
          have hcs := canonAs_sorted l hp
          have hskl : (sortB (ksOf l seen)).length = seen.length := by rw [sortB_length, ksOf_len]
          refine g_u (s_extract rfl rfl rfl rfl) ?_
          refine g_nil ?_
          refine normal_thn ?_
          refine aw_seq ?_
          refine aw_cond_false rfl ?_
          refine aw_exit ?_
          refine exit_thn ?_
          refine exit_thn ?_
          refine exit_blk ?_
          refine normal_thn ?_
          refine aw_seq ?_
          refine aw_region ?_
          refine g_u (s_mv_slg rfl rfl) ?_
          refine g_u (s_sort 6 (sort_c) rfl rfl rfl rfl rfl rfl rfl rfl rfl (by omega)) ?_
          refine g_nil ?_
          refine normal_thn ?_
          refine aw_seq ?_
          refine aw_region ?_
          refine g_u (s_as_imm rfl rfl) ?_
          refine g_nil ?_
          refine normal_thn ?_
          refine aw_newtok 3008 8 7 rfl rfl rfl rfl ?_
          refine aw_seq ?_
          refine aw_seq ?_
          refine aw_region ?_
          refine g_u (s_mv_imm rfl rfl) ?_
          refine g_u (s_lenL rfl rfl Try.underlying48) ?_
          refine g_u (s_mv_imm rfl rfl) ?_
          refine g_nil ?_
          refine normal_thn ?_
          refine aw_block ?_
          refine aw_loop' (fun j : Nat => [(0, .imm (.sl 7 (l.map avA))), (3, .mref 1011), (1011, .mpr (strs (mks l)) (mvs l)), (36, .imm (.sl 1 (strs (sortB (ksOf l seen))))), (37, .imm (iv ((sortB (ksOf l seen)).length : Int))), (8, .slg 3008 7 (((sortB (ksOf l seen)).take j).map (fun k => (GA.mk k (canonV (nthA l (lastI l k)).val)).av))), (3008, .tok 7 (((sortB (ksOf l seen)).take j).map (fun k => (GA.mk k (canonV (nthA l (lastI l k)).val)).av))), (38, .imm (iv (j : Int)))]) (fun j => j ≤ (sortB (ksOf l seen)).length) (fun j => (sortB (ksOf l seen)).length - j) (0) ?_ ⟨rfl, rfl, rfl, rfl, look_int rfl (by rw [strs_length]), rfl, rfl, rfl, trivial⟩ ?_
          · exact Nat.zero_le _
          · rintro j g1; have g1 : j ≤ (sortB (ksOf l seen)).length := g1
            refine aw_seq ?_
            refine aw_region ?_
            refine g_u (s_ltI rfl rfl rfl) ?_
            refine g_nil ?_
            refine normal_thn ?_
            refine aw_seq ?_
            refine aw_cond rfl (fun hb2 => ?_) (fun hb2 => ?_)
            · skip
              have hj : j < (sortB (ksOf l seen)).length := by have := of_decide_eq_true hb2; omega
              obtain ⟨p, hp1, hp2, hp3⟩ := look_key (l := l) (k := nth (sortB (ksOf l seen)) j ⟨#[]⟩) (((sortB_perm _).trans hp).mem_iff.1 (nth_mem hj))
              refine aw_skip ?_
              refine normal_thn ?_
              refine aw_seq ?_
              refine aw_block ?_
              refine aw_seq ?_
              refine aw_region ?_
              refine g_u (s_indexAddr rfl rfl rfl Try.underlying48 tS9 (by omega) (str_nth hj)) ?_
              refine g_u (s_load_cp rfl rfl tA9 tS9 rfl rfl) ?_
              refine g_u (s_as_imm rfl rfl) ?_
              refine g_nil ?_
              refine normal_thn ?_
              refine aw_region ?_
              refine g_u (s_mv_slg rfl rfl) ?_
              refine g_u (s_mv_imm rfl rfl) ?_
              refine g_u (s_mv_imm rfl rfl) ?_
              refine g_u (s_mv_mref rfl rfl) ?_
              refine g_u (s_mv_imm rfl rfl) ?_
              refine g_u (s_lookup rfl rfl rfl rfl Try.underlying47 Try.underlying9 hp1 hp2) ?_
              refine g_u (s_indexAddr rfl rfl rfl Try.underlying24 tS33 (by omega) (ixA hp3)) ?_
              refine g_u (s_fieldAddr_cp rfl rfl fa33_1 rfl rfl) ?_
              refine g_u (s_load_cp rfl rfl tA26 tS26 rfl rfl) ?_
              refine g_u (s_call1 (ih _ (nthA_mem hp3)) rfl rfl) ?_
              refine g_u (s_build rfl tU33 us33 pl33 rfl rfl rfl rfl) ?_
              refine g_u (s_buildSlice (X0 := z33) rfl Try.underlying24 tS33 tZ33 rfl rfl rfl rfl rfl rfl rfl rfl) ?_
              refine g_u (s_append rfl rfl rfl rfl rfl Try.underlying24 Try.underlying24 tS33 zv33 rfl (by decide) by33 (by (try dsimp only); simp only [List.length_append, List.length_cons, List.length_nil, List.length_map, List.length_take]; omega) (by (try dsimp only); simp only [List.length_append, List.length_cons, List.length_nil, List.length_map, List.length_take]; omega)) ?_
              refine g_u (s_as_slg rfl rfl) ?_
              refine g_nil ?_
              refine normal_blk ?_
              refine normal_thn ?_
              refine aw_region ?_
              refine g_u (s_add rfl rfl rfl) ?_
              refine g_u (s_mv_imm rfl rfl) ?_
              refine g_nil ?_
              refine normal_thn ?_
              have et : (((sortB (ksOf l seen)).take (j + 1)).map (fun k => (GA.mk k (canonV (nthA l (lastI l k)).val)).av)) = (((sortB (ksOf l seen)).take j).map (fun k => (GA.mk k (canonV (nthA l (lastI l k)).val)).av)) ++ [(fun k => (GA.mk k (canonV (nthA l (lastI l k)).val)).av) (nth (sortB (ksOf l seen)) j ⟨#[]⟩)] := by rw [take_snoc (nth_get (d := ⟨#[]⟩) hj), List.map_append]; rfl
              refine ⟨j + 1, hj, ⟨rfl, rfl, rfl, rfl, rfl, look_slg rfl et.symm, look_tok rfl et.symm, look_int rfl (by rw [wrap64 (by omega) (by omega)]; rfl), trivial⟩, by (try dsimp only); omega⟩
            · skip
              have hjn : j = (sortB (ksOf l seen)).length := by have := of_decide_eq_false hb2; omega
              refine aw_exit ?_
              refine exit_thn ?_
              refine exit_thn ?_
              refine exit_blk ?_
              refine normal_thn ?_
              refine aw_seq ?_
              refine aw_region ?_
              refine g_u (s_mv_slg rfl rfl) ?_
              refine g_u (s_as_slg rfl rfl) ?_
              refine g_nil ?_
              refine normal_thn ?_
              refine aw_ret ?_
              exact ⟨⟨(rfl : toAV (Al.look _ _) = some _).trans (congrArg some (by (refine congrArg (AV.sl 7) ?_; rw [hjn, List.take_length, ← hcs, List.map_map]; exact List.map_congr_left fun k _ => (avA_eq _).symm))), rfl⟩, trivial⟩
        · skip
          refine g_u (s_extract rfl rfl rfl rfl) ?_
          refine g_nil ?_
          refine normal_thn ?_
          refine aw_seq ?_
          refine aw_cond_true rfl ?_
          refine aw_skip ?_
          refine normal_thn ?_
          refine aw_block ?_
          refine aw_seq ?_
          refine aw_region ?_
          refine g_u (s_entry rfl rfl rfl rfl (Nat.beq_refl _) hk hv) ?_
          refine g_u (s_extract rfl rfl rfl rfl) ?_
          refine g_u (s_as_imm rfl rfl) ?_
          refine g_nil ?_
          refine normal_thn ?_
          refine aw_region ?_
          refine g_u (s_mv_slg rfl rfl) ?_
          refine g_u (s_mv_imm rfl rfl) ?_
          refine g_u (s_buildSlice (X0 := z9) rfl Try.underlying48 tS9 tZ9 rfl rfl rfl rfl rfl rfl rfl rfl) ?_
          refine g_u (s_appendR rfl rfl rfl rfl rfl Try.underlying48 Try.underlying48 tS9 zv9 rfl by9 (by omega) (by omega)) ?_
          refine g_u (s_as_slg rfl rfl) ?_
          refine g_nil ?_
          refine normal_blk ?_
          refine normal_thn ?_
          have hn2 := nodup_snoc h1 hs
          have hl2 : ∀ j ∈ seen ++ [q], j < (mks l).length := fun j hj => by rcases List.mem_append.1 hj with h | h; exact h2 j h; rw [List.mem_singleton.1 h]; exact hq
          have hsl2 := nodup_lt _ _ hn2 hl2
          rw [List.length_append] at hsl2
          refine ⟨seen ++ [q], ⟨hn2, hl2⟩, ⟨rfl, rfl, rfl, look_units rfl (by rw [ksOf_snoc hk, List.length_append]; rfl), look_row rfl (ksOf_snoc hk).symm, rfl, rfl, trivial⟩, by (try dsimp only); rw [List.length_append]; simp only [List.length_cons, List.length_nil] at *; omega⟩

set_option maxHeartbeats 400000 in
theorem pcanonV_st (v : GV) (hw : v.wt ≤ 10000000) (ih : ∀ y ∈ v.list, PCall Try.prog Γ0 17 [y.av] [(canonV y).av]) (ihm : PCall Try.prog Γ0 22 [.sl 7 (v.map.map avA)] [.sl 7 ((canonAs v.map).map avA)]) : PCall Try.prog Γ0 17 [v.av] [(canonV v).av] := by
  have ek := v.wt_eq
  have lv := len_wtVs v.list
  refine pcall_of Try.func17 rfl Try.ntmps17 (by kernel_rfl) rfl fun w0 I0 G0 => ?_
  refine aw_seq ?_
  refine aw_region ?_
  refine g_uG (s_box_imm 1001 rfl rfl rfl rfl) rfl ?_
  refine g_uG (s_alloc' 1002 rfl rfl rfl tZ26) rfl ?_
  refine g_nil ?_
  refine normal_thn ?_
  refine aw_seq ?_
  refine aw_region ?_
  refine g_u (s_as_imm rfl rfl) ?_
  refine g_nil ?_
  refine normal_thn ?_
  refine aw_newtok 3003 3 6 rfl rfl rfl rfl ?_
  refine aw_seq ?_
  refine aw_seq ?_
  refine aw_region ?_
  refine g_u (s_fieldAddr rfl rfl fa26_4 rfl) ?_
  refine g_u (s_load_imm rfl rfl rfl tA23 tS23 rfl rfl) ?_
  refine g_u (s_lenL rfl rfl Try.underlying23) ?_
  refine g_u (s_mv_imm rfl rfl) ?_
  refine g_nil ?_
  refine normal_thn ?_
  refine aw_block ?_
  refine aw_loop' (fun i : Nat => [(1, .ptr 1001 0), (1001, .box 26 (.imm v.av)), (2, .ptr 1002 0), (1002, .box 26 (.imm z26)), (3, .slg 3003 6 ((v.list.take i).map fun x => (canonV x).av)), (3003, .tok 6 ((v.list.take i).map fun x => (canonV x).av)), (7, .imm (.sl 6 (v.list.map avV))), (8, .imm (iv (v.list.length : Int))), (9, .imm (iv (i : Int)))]) (fun i => i ≤ v.list.length) (fun i => v.list.length - i) (0) ?_ ⟨rfl, rfl, rfl, rfl, rfl, rfl, rfl, look_int rfl (by rw [List.length_map]), rfl, trivial⟩ ?_
  · exact Nat.zero_le _
  · rintro i h1; have h1 : i ≤ v.list.length := h1
    refine aw_seq ?_
    refine aw_region ?_
    refine g_u (s_ltI rfl rfl rfl) ?_
    refine g_nil ?_
    refine normal_thn ?_
    refine aw_seq ?_
    refine aw_cond rfl (fun hb1 => ?_) (fun hb1 => ?_)
    · skip
      have hi : i < v.list.length := by have := of_decide_eq_true hb1; (try simp only [List.length_map] at this); omega
      refine aw_skip ?_
      refine normal_thn ?_
      refine aw_seq ?_
      refine aw_block ?_
      refine aw_seq ?_
      refine aw_region ?_
      refine g_u (s_indexAddr rfl rfl rfl Try.underlying23 tS26 (by omega) (ixV hi)) ?_
      refine g_u (s_load_cp rfl rfl tA26 tS26 rfl rfl) ?_
      refine g_uG (s_alloc' 1005 rfl rfl rfl tZ26) rfl ?_
      refine g_u (s_store_imm rfl rfl rfl tS26 rfl rfl) ?_
      refine g_nil ?_
      refine normal_thn ?_
      refine aw_region ?_
      refine g_u (s_mv_slg rfl rfl) ?_
      refine g_u (s_load_agg rfl rfl rfl tA26 tS26 rfl rfl) ?_
      refine g_u (s_call1 (ih _ (nthV_mem hi)) rfl rfl) ?_
      refine g_u (s_buildSlice (X0 := z26) rfl Try.underlying23 tS26 tZ26 rfl rfl rfl rfl rfl rfl rfl rfl) ?_
      refine g_u (s_append rfl rfl rfl rfl rfl Try.underlying23 Try.underlying23 tS26 zv26 rfl (by decide) by26 (by (try dsimp only); simp only [List.length_append, List.length_cons, List.length_nil, List.length_map, List.length_take, List.length_drop]; omega) (by (try dsimp only); simp only [List.length_append, List.length_cons, List.length_nil, List.length_map, List.length_take, List.length_drop]; omega)) ?_
      refine g_u (s_as_slg rfl rfl) ?_
      refine g_nil ?_
      refine normal_blk ?_
      refine normal_thn ?_
      refine aw_region ?_
      refine g_u (s_add rfl rfl rfl) ?_
      refine g_u (s_mv_imm rfl rfl) ?_
      refine g_nil ?_
      refine normal_thn ?_
      have et : ((v.list.take (i + 1)).map fun x => (canonV x).av) = ((v.list.take i).map fun x => (canonV x).av) ++ [(canonV (nthV v.list i)).av] := by rw [take_snoc (nth_get (d := v0) hi), List.map_append]; rfl
      refine ⟨i + 1, hi, ⟨rfl, rfl, rfl, rfl, look_slg rfl et.symm, look_tok rfl et.symm, rfl, rfl, look_int rfl (by rw [wrap64 (by omega) (by omega)]; rfl), trivial⟩, by (try dsimp only); omega⟩
    · skip
      have hin : i = v.list.length := by have := of_decide_eq_false hb1; (try simp only [List.length_map] at this); omega
      refine aw_exit ?_
      refine exit_thn ?_
      refine exit_thn ?_
      refine exit_blk ?_
      refine normal_thn ?_
      refine aw_seq ?_
      refine aw_region ?_
      refine g_u (s_mv_slg rfl rfl) ?_
      refine g_u (s_fieldAddr rfl rfl fa26_5 rfl) ?_
      refine g_u (s_load_imm rfl rfl rfl tA24 tS24 rfl rfl) ?_
      refine g_u (s_call1 (ihm) rfl rfl) ?_
      refine g_u (s_fieldAddr rfl rfl fa26_4 rfl) ?_
      refine g_u (s_store rfl rfl rfl rfl tS23 rfl rfl) ?_
      refine g_u (s_fieldAddr rfl rfl fa26_5 rfl) ?_
      refine g_u (s_store_imm rfl rfl rfl tS24 rfl rfl) ?_
      refine g_nil ?_
      refine normal_thn ?_
      refine aw_seq ?_
      refine aw_region ?_
      refine g_u (s_load_agg rfl rfl rfl tA26 tS26 rfl rfl) ?_
      refine g_u (s_store_imm rfl rfl rfl tS26 rfl rfl) ?_
      refine g_nil ?_
      refine normal_thn ?_
      refine aw_ret ?_
      exact ⟨⟨_, _, _, _, _, _, _, rfl, rfl, tA26, tS26, rfl, rfl, (rfl : toAV _ = some _).trans (congrArg some (by (rw [canonV_eq, hin, List.take_length]; show AV.agg _ = AV.agg [_, _, _, _, .sl 6 ((v.list.map canonV).map avV), _]; rw [List.map_map, show avV ∘ canonV = fun x => (canonV x).av from funext fun x => avV_eq _]; rfl)))⟩, trivial⟩

theorem pcanonV_c (v : GV) : v.wt ≤ 10000000 → PCall Try.prog Γ0 17 [v.av] [(canonV v).av] := by
  refine GV.ind (P := fun v => v.wt ≤ 10000000 → PCall Try.prog Γ0 17 [v.av] [(canonV v).av]) ?_ v
  intro v h1 h2 hw
  have ek := v.wt_eq
  have la := len_wtAs v.map
  exact pcanonV_st v hw (fun y hy => h1 y hy (by have := wtVs_mem hy; omega)) (pcanonAs_st v.map (by omega) fun a ha => h2 a ha (by have := wtAs_mem ha; have := a.wt_eq; omega))
theorem pcanonAs_c (l : List GA) (hw : wtAs l ≤ 10000000) : PCall Try.prog Γ0 22 [.sl 7 (l.map avA)] [.sl 7 ((canonAs l).map avA)] := by
  have la := len_wtAs l
  exact pcanonAs_st l (by omega) fun a ha => pcanonV_c a.val (by have := wtAs_mem ha; have := a.wt_eq; omega)

end Go.Proofs

namespace Go.Proofs
open Go Go.Al
set_option maxRecDepth 10000
set_option maxHeartbeats 1000000 in
theorem pdeep_st (v : GV) (hw : v.wt ≤ 1000000000) (ih : ∀ y ∈ v.list, PCall Try.prog Γ0 15 [y.av] [iv (deepV y)]) (ihm : ∀ a ∈ v.map, PCall Try.prog Γ0 15 [a.val.av] [iv (deepV a.val)]) : PCall Try.prog Γ0 15 [v.av] [iv (deepV v)] := by
  have ek := v.wt_eq
  have lv := len_wtVs v.list
  have lm := len_wtAs v.map
  have db := deepVs_bd v.list
  have da := deepAs_bd v.map
  refine pcall_of Try.func15 rfl Try.ntmps15 (by kernel_rfl) rfl fun w0 I0 G0 => ?_
  refine aw_seq ?_
  refine aw_region ?_
  refine g_uG (s_box_imm 1001 rfl rfl rfl rfl) rfl ?_
  refine g_u (s_as_imm rfl rfl) ?_
  refine g_nil ?_
  refine normal_thn ?_
  refine aw_seq ?_
  refine aw_region ?_
  refine g_u (s_as_imm rfl rfl) ?_
  refine g_nil ?_
  refine normal_thn ?_
  refine aw_seq ?_
  refine aw_seq ?_
  refine aw_region ?_
  refine g_u (s_fieldAddr rfl rfl fa26_4 rfl) ?_
  refine g_u (s_load_imm rfl rfl rfl tA23 tS23 rfl rfl) ?_
  refine g_u (s_lenL rfl rfl Try.underlying23) ?_
  refine g_u (s_mv_imm rfl rfl) ?_
  refine g_nil ?_
  refine normal_thn ?_
  refine aw_block ?_
  refine aw_loop' (fun i : Nat => [(1, .ptr 1001 0), (1001, .box 26 (.imm v.av)), (3, .imm (iv (deepVs (v.list.take i)))), (9, .imm (.sl 6 (v.list.map avV))), (10, .imm (iv (v.list.length : Int))), (11, .imm (iv (i : Int)))]) (fun i => i ≤ v.list.length) (fun i => v.list.length - i) (0) ?_ ⟨rfl, rfl, rfl, rfl, look_int rfl (by rw [List.length_map]), rfl, trivial⟩ ?_
  · exact Nat.zero_le _
  · rintro i h1; have h1 : i ≤ v.list.length := h1
    refine aw_seq ?_
    refine aw_region ?_
    refine g_u (s_ltI rfl rfl rfl) ?_
    refine g_nil ?_
    refine normal_thn ?_
    refine aw_seq ?_
    refine aw_cond rfl (fun hb1 => ?_) (fun hb1 => ?_)
    · skip
      have hi : i < v.list.length := by have := of_decide_eq_true hb1; (try simp only [List.length_map] at this); omega
      refine aw_skip ?_
      refine normal_thn ?_
      refine aw_seq ?_
      refine aw_block ?_
      refine aw_seq ?_
      refine aw_region ?_
      refine g_u (s_indexAddr rfl rfl rfl Try.underlying23 tS26 (by omega) (ixV hi)) ?_
      refine g_u (s_load_cp rfl rfl tA26 tS26 rfl rfl) ?_
      refine g_uG (s_alloc' 1005 rfl rfl rfl tZ26) rfl ?_
      refine g_u (s_store_imm rfl rfl rfl tS26 rfl rfl) ?_
      refine g_nil ?_
      refine normal_thn ?_
      refine aw_region ?_
      refine g_u (s_mv_imm rfl rfl) ?_
      refine g_u (s_load_agg rfl rfl rfl tA26 tS26 rfl rfl) ?_
      refine g_u (s_call1 (ih _ (nthV_mem hi)) rfl rfl) ?_
      refine g_u (s_max rfl rfl rfl) ?_
      refine g_u (s_as_imm rfl rfl) ?_
      refine g_nil ?_
      refine normal_blk ?_
      refine normal_thn ?_
      refine aw_region ?_
      refine g_u (s_add rfl rfl rfl) ?_
      refine g_u (s_mv_imm rfl rfl) ?_
      refine g_nil ?_
      refine normal_thn ?_
      have et : deepVs (v.list.take (i + 1)) = max (deepVs (v.list.take i)) (deepV (nthV v.list i)) := by rw [take_snoc (nth_get (d := v0) hi), deepVs_snoc]; rfl
      refine ⟨i + 1, hi, ⟨rfl, rfl, look_int rfl (by rw [et]; exact max_if _ _), rfl, rfl, look_int rfl (by rw [wrap64 (by omega) (by omega)]; rfl), trivial⟩, by (try dsimp only); omega⟩
    · skip
      have hin : i = v.list.length := by have := of_decide_eq_false hb1; (try simp only [List.length_map] at this); omega
      refine aw_exit ?_
      refine exit_thn ?_
      refine exit_thn ?_
      refine exit_blk ?_
      refine normal_thn ?_
      refine aw_seq ?_
      refine aw_seq ?_
      refine aw_region ?_
      refine g_u (s_fieldAddr rfl rfl fa26_5 rfl) ?_
      refine g_u (s_load_imm rfl rfl rfl tA24 tS24 rfl rfl) ?_
      refine g_u (s_lenL rfl rfl Try.underlying24) ?_
      refine g_u (s_mv_imm rfl rfl) ?_
      refine g_nil ?_
      refine normal_thn ?_
      refine aw_block ?_
      refine aw_loop' (fun j : Nat => [(1, .ptr 1001 0), (1001, .box 26 (.imm v.av)), (3, .imm (iv (max (deepVs v.list) (deepAs (v.map.take j))))), (21, .imm (.sl 7 (v.map.map avA))), (22, .imm (iv (v.map.length : Int))), (23, .imm (iv (j : Int)))]) (fun j => j ≤ v.map.length) (fun j => v.map.length - j) (0) ?_ ⟨rfl, rfl, look_int rfl (by rw [hin, List.take_length]; show _ = max (deepVs v.list) 0; rw [Int.max_def]; split <;> omega), rfl, look_int rfl (by rw [List.length_map]), rfl, trivial⟩ ?_
      · exact Nat.zero_le _
      · rintro j g1; have g1 : j ≤ v.map.length := g1
        refine aw_seq ?_
        refine aw_region ?_
        refine g_u (s_ltI rfl rfl rfl) ?_
        refine g_nil ?_
        refine normal_thn ?_
        refine aw_seq ?_
        refine aw_cond rfl (fun hb2 => ?_) (fun hb2 => ?_)
        · skip
          have hj : j < v.map.length := by have := of_decide_eq_true hb2; (try simp only [List.length_map] at this); omega
          refine aw_skip ?_
          refine normal_thn ?_
          refine aw_seq ?_
          refine aw_block ?_
          refine aw_seq ?_
          refine aw_region ?_
          refine g_u (s_indexAddr rfl rfl rfl Try.underlying24 tS33 (by omega) (ixA hj)) ?_
          refine g_u (s_load_cp rfl rfl tA33 tS33 rfl rfl) ?_
          refine g_uG (s_alloc' 1007 rfl rfl rfl tZ33) rfl ?_
          refine g_u (s_store_imm rfl rfl rfl tS33 rfl rfl) ?_
          refine g_nil ?_
          refine normal_thn ?_
          refine aw_region ?_
          refine g_u (s_mv_imm rfl rfl) ?_
          refine g_u (s_fieldAddr rfl rfl fa33_1 rfl) ?_
          refine g_u (s_load_imm rfl rfl rfl tA26 tS26 rfl rfl) ?_
          refine g_u (s_call1 (ihm _ (nthA_mem hj)) rfl rfl) ?_
          refine g_u (s_max rfl rfl rfl) ?_
          refine g_u (s_as_imm rfl rfl) ?_
          refine g_nil ?_
          refine normal_blk ?_
          refine normal_thn ?_
          refine aw_region ?_
          refine g_u (s_add rfl rfl rfl) ?_
          refine g_u (s_mv_imm rfl rfl) ?_
          refine g_nil ?_
          refine normal_thn ?_
          have et : max (deepVs v.list) (deepAs (v.map.take (j + 1))) = max (max (deepVs v.list) (deepAs (v.map.take j))) (deepV (nthA v.map j).val) := by rw [take_snoc (nth_get (d := a0) hj), deepAs_snoc, deepA_eq, Int.max_assoc]; rfl
          refine ⟨j + 1, hj, ⟨rfl, rfl, look_int rfl (by rw [et]; exact max_if _ _), rfl, rfl, look_int rfl (by rw [wrap64 (by omega) (by omega)]; rfl), trivial⟩, by (try dsimp only); omega⟩
        · skip
          have hjn : j = v.map.length := by have := of_decide_eq_false hb2; (try simp only [List.length_map] at this); omega
          have hd : max (deepVs v.list) (deepAs (v.map.take j)) = max (deepVs v.list) (deepAs v.map) := by rw [hjn, List.take_length]
          have hdb : 0 ≤ max (deepVs v.list) (deepAs v.map) ∧ max (deepVs v.list) (deepAs v.map) ≤ 2000000000 := by rw [Int.max_def]; split <;> omega
          refine aw_exit ?_
          refine exit_thn ?_
          refine exit_thn ?_
          refine exit_blk ?_
          refine normal_thn ?_
          refine aw_seq ?_
          refine aw_seq ?_
          refine aw_region ?_
          refine g_u (s_load_imm rfl rfl rfl tA26 tS26 rfl rfl) ?_
          refine g_u (s_call1 (holds_c v) rfl rfl) ?_
          refine g_nil ?_
          refine normal_thn ?_
          refine aw_cond rfl (fun hb3 => ?_) (fun hb3 => ?_)
          · skip
            have hk : v.kind = 6 ∨ v.kind = 7 := by have e := hb3; simpa using e
            refine aw_region ?_
            refine g_u (s_mv_imm rfl rfl) ?_
            refine g_u (s_add rfl rfl rfl) ?_
            refine g_u (s_as_imm rfl rfl) ?_
            refine g_nil ?_
            refine normal_thn ?_
            refine aw_seq ?_
            refine aw_region ?_
            refine g_u (s_mv_imm rfl rfl) ?_
            refine g_u (s_as_imm rfl rfl) ?_
            refine g_nil ?_
            refine normal_thn ?_
            refine aw_ret ?_
            exact ⟨⟨(rfl : toAV (Al.look _ _) = some _).trans (congrArg some (by (exact congrArg iv (by rw [deepV_eq]; (try rw [hd]); first | (rw [if_pos hk, wrap64 (by omega) (by omega)]; omega) | (rw [if_neg hk]; omega))))), rfl⟩, trivial⟩
          · skip
            have hk : ¬ (v.kind = 6 ∨ v.kind = 7) := by have e := hb3; simpa using e
            refine aw_skip ?_
            refine normal_thn ?_
            refine aw_seq ?_
            refine aw_region ?_
            refine g_u (s_mv_imm rfl rfl) ?_
            refine g_u (s_as_imm rfl rfl) ?_
            refine g_nil ?_
            refine normal_thn ?_
            refine aw_ret ?_
            exact ⟨⟨(rfl : toAV (Al.look _ _) = some _).trans (congrArg some (by (exact congrArg iv (by rw [deepV_eq]; (try rw [hd]); first | (rw [if_pos hk, wrap64 (by omega) (by omega)]; omega) | (rw [if_neg hk]; omega))))), rfl⟩, trivial⟩

theorem pdeep_c (v : GV) : v.wt ≤ 1000000000 → PCall Try.prog Γ0 15 [v.av] [iv (deepV v)] := by
  refine GV.ind (P := fun v => v.wt ≤ 1000000000 → PCall Try.prog Γ0 15 [v.av] [iv (deepV v)]) ?_ v
  intro v h1 h2 hw
  have ek := v.wt_eq
  exact pdeep_st v hw (fun y hy => h1 y hy (by have := wtVs_mem hy; omega)) (fun a ha => h2 a ha (by have := wtAs_mem ha; have := a.wt_eq; omega))

set_option maxHeartbeats 1000000 in
theorem rdeep_st (v : GV) (hw : v.wt ≤ 1000000000) (ih : ∀ y ∈ v.list, PCall Try.prog Γ0 16 [y.av] [iv (deepV y)]) (ihm : ∀ a ∈ v.map, PCall Try.prog Γ0 16 [a.val.av] [iv (deepV a.val)]) : PCall Try.prog Γ0 16 [v.av] [iv (deepV v)] := by
  have ek := v.wt_eq
  have lv := len_wtVs v.list
  have lm := len_wtAs v.map
  have db := deepVs_bd v.list
  have da := deepAs_bd v.map
  refine pcall_of Try.func16 rfl Try.ntmps16 (by kernel_rfl) rfl fun w0 I0 G0 => ?_
  refine aw_seq ?_
  refine aw_region ?_
  refine g_uG (s_box_imm 1001 rfl rfl rfl rfl) rfl ?_
  refine g_u (s_as_imm rfl rfl) ?_
  refine g_nil ?_
  refine normal_thn ?_
  refine aw_seq ?_
  refine aw_region ?_
  refine g_u (s_as_imm rfl rfl) ?_
  refine g_nil ?_
  refine normal_thn ?_
  refine aw_seq ?_
  refine aw_seq ?_
  refine aw_region ?_
  refine g_u (s_as_imm rfl rfl) ?_
  refine g_nil ?_
  refine normal_thn ?_
  refine aw_block ?_
  refine aw_loop' (fun i : Nat => [(1, .ptr 1001 0), (1001, .box 26 (.imm v.av)), (3, .imm (iv (deepVs (v.list.take i)))), (4, .imm (iv (i : Int)))]) (fun i => i ≤ v.list.length) (fun i => v.list.length - i) (0) ?_ ⟨rfl, rfl, rfl, rfl, trivial⟩ ?_
  · exact Nat.zero_le _
  · rintro i h1; have h1 : i ≤ v.list.length := h1
    refine aw_seq ?_
    refine aw_seq ?_
    refine aw_region ?_
    refine g_u (s_mv_imm rfl rfl) ?_
    refine g_u (s_fieldAddr rfl rfl fa26_4 rfl) ?_
    refine g_u (s_load_imm rfl rfl rfl tA23 tS23 rfl rfl) ?_
    refine g_u (s_lenL rfl rfl Try.underlying23) ?_
    refine g_u (s_ltI rfl rfl rfl) ?_
    refine g_nil ?_
    refine normal_thn ?_
    refine aw_cond rfl (fun hb1 => ?_) (fun hb1 => ?_)
    · skip
      have hi : i < v.list.length := by have := of_decide_eq_true hb1; (try simp only [List.length_map] at this); omega
      refine aw_skip ?_
      refine normal_thn ?_
      refine aw_seq ?_
      refine aw_block ?_
      refine aw_region ?_
      refine g_u (s_mv_imm rfl rfl) ?_
      refine g_u (s_fieldAddr rfl rfl fa26_4 rfl) ?_
      refine g_u (s_load_imm rfl rfl rfl tA23 tS23 rfl rfl) ?_
      refine g_u (s_mv_imm rfl rfl) ?_
      refine g_u (s_indexAddr rfl rfl rfl Try.underlying23 tS26 (by omega) (ixV hi)) ?_
      refine g_u (s_load_cp rfl rfl tA26 tS26 rfl rfl) ?_
      refine g_u (s_call1 (ih _ (nthV_mem hi)) rfl rfl) ?_
      refine g_u (s_max rfl rfl rfl) ?_
      refine g_u (s_as_imm rfl rfl) ?_
      refine g_nil ?_
      refine normal_blk ?_
      refine normal_thn ?_
      refine aw_region ?_
      refine g_u (s_mv_imm rfl rfl) ?_
      refine g_u (s_add rfl rfl rfl) ?_
      refine g_u (s_as_imm rfl rfl) ?_
      refine g_nil ?_
      refine normal_thn ?_
      have et : deepVs (v.list.take (i + 1)) = max (deepVs (v.list.take i)) (deepV (nthV v.list i)) := by rw [take_snoc (nth_get (d := v0) hi), deepVs_snoc]; rfl
      refine ⟨i + 1, hi, ⟨rfl, rfl, look_int rfl (by rw [et]; exact max_if _ _), look_int rfl (by rw [wrap64 (by omega) (by omega)]; rfl), trivial⟩, by (try dsimp only); omega⟩
    · skip
      have hin : i = v.list.length := by have := of_decide_eq_false hb1; (try simp only [List.length_map] at this); omega
      refine aw_exit ?_
      refine exit_thn ?_
      refine exit_thn ?_
      refine exit_blk ?_
      refine normal_thn ?_
      refine aw_seq ?_
      refine aw_seq ?_
      refine aw_region ?_
      refine g_u (s_as_imm rfl rfl) ?_
      refine g_nil ?_
      refine normal_thn ?_
      refine aw_block ?_
      refine aw_loop' (fun j : Nat => [(1, .ptr 1001 0), (1001, .box 26 (.imm v.av)), (3, .imm (iv (max (deepVs v.list) (deepAs (v.map.take j))))), (5, .imm (iv (j : Int)))]) (fun j => j ≤ v.map.length) (fun j => v.map.length - j) (0) ?_ ⟨rfl, rfl, look_int rfl (by rw [hin, List.take_length]; show _ = max (deepVs v.list) 0; rw [Int.max_def]; split <;> omega), rfl, trivial⟩ ?_
      · exact Nat.zero_le _
      · rintro j g1; have g1 : j ≤ v.map.length := g1
        refine aw_seq ?_
        refine aw_seq ?_
        refine aw_region ?_
        refine g_u (s_mv_imm rfl rfl) ?_
        refine g_u (s_fieldAddr rfl rfl fa26_5 rfl) ?_
        refine g_u (s_load_imm rfl rfl rfl tA24 tS24 rfl rfl) ?_
        refine g_u (s_lenL rfl rfl Try.underlying24) ?_
        refine g_u (s_ltI rfl rfl rfl) ?_
        refine g_nil ?_
        refine normal_thn ?_
        refine aw_cond rfl (fun hb2 => ?_) (fun hb2 => ?_)
        · skip
          have hj : j < v.map.length := by have := of_decide_eq_true hb2; (try simp only [List.length_map] at this); omega
          refine aw_skip ?_
          refine normal_thn ?_
          refine aw_seq ?_
          refine aw_block ?_
          refine aw_region ?_
          refine g_u (s_mv_imm rfl rfl) ?_
          refine g_u (s_fieldAddr rfl rfl fa26_5 rfl) ?_
          refine g_u (s_load_imm rfl rfl rfl tA24 tS24 rfl rfl) ?_
          refine g_u (s_mv_imm rfl rfl) ?_
          refine g_u (s_indexAddr rfl rfl rfl Try.underlying24 tS33 (by omega) (ixA hj)) ?_
          refine g_u (s_fieldAddr_cp rfl rfl fa33_1 rfl rfl) ?_
          refine g_u (s_load_cp rfl rfl tA26 tS26 rfl rfl) ?_
          refine g_u (s_call1 (ihm _ (nthA_mem hj)) rfl rfl) ?_
          refine g_u (s_max rfl rfl rfl) ?_
          refine g_u (s_as_imm rfl rfl) ?_
          refine g_nil ?_
          refine normal_blk ?_
          refine normal_thn ?_
          refine aw_region ?_
          refine g_u (s_mv_imm rfl rfl) ?_
          refine g_u (s_add rfl rfl rfl) ?_
          refine g_u (s_as_imm rfl rfl) ?_
          refine g_nil ?_
          refine normal_thn ?_
          have et : max (deepVs v.list) (deepAs (v.map.take (j + 1))) = max (max (deepVs v.list) (deepAs (v.map.take j))) (deepV (nthA v.map j).val) := by rw [take_snoc (nth_get (d := a0) hj), deepAs_snoc, deepA_eq, Int.max_assoc]; rfl
          refine ⟨j + 1, hj, ⟨rfl, rfl, look_int rfl (by rw [et]; exact max_if _ _), look_int rfl (by rw [wrap64 (by omega) (by omega)]; rfl), trivial⟩, by (try dsimp only); omega⟩
        · skip
          have hjn : j = v.map.length := by have := of_decide_eq_false hb2; (try simp only [List.length_map] at this); omega
          have hd : max (deepVs v.list) (deepAs (v.map.take j)) = max (deepVs v.list) (deepAs v.map) := by rw [hjn, List.take_length]
          have hdb : 0 ≤ max (deepVs v.list) (deepAs v.map) ∧ max (deepVs v.list) (deepAs v.map) ≤ 2000000000 := by rw [Int.max_def]; split <;> omega
          refine aw_exit ?_
          refine exit_thn ?_
          refine exit_thn ?_
          refine exit_blk ?_
          refine normal_thn ?_
          refine aw_seq ?_
          refine aw_seq ?_
          refine aw_region ?_
          refine g_u (s_fieldAddr rfl rfl fa26_0 rfl) ?_
          refine g_u (s_load_imm rfl rfl rfl tA5 tS5 rfl rfl) ?_
          refine g_u (s_eqI rfl rfl rfl) ?_
          refine g_u (s_mv_imm rfl rfl) ?_
          refine g_case (t := 40) rfl ?_
          rintro (hb3 | hb3)
          · rw [hb3]
            have hk6 : v.kind = 6 := beq_iff_eq.1 hb3
            have hk : v.kind = 6 ∨ v.kind = 7 := .inl hk6
            refine g_skip rfl rfl rfl ?_
            refine g_skip rfl rfl rfl ?_
            refine g_skip rfl rfl rfl ?_
            refine g_u (s_pick_t rfl rfl rfl) ?_
            refine g_nil ?_
            refine normal_thn ?_
            refine aw_cond_true rfl ?_
            refine aw_seq ?_
            refine aw_region ?_
            refine g_u (s_mv_imm rfl rfl) ?_
            refine g_u (s_add rfl rfl rfl) ?_
            refine g_u (s_as_imm rfl rfl) ?_
            refine g_nil ?_
            refine normal_thn ?_
            refine aw_ret ?_
            refine ret_thn ?_
            exact ⟨⟨(rfl : toAV (Al.look _ _) = some _).trans (congrArg some (by (exact congrArg iv (by rw [deepV_eq]; (try rw [hd]); first | (rw [if_pos hk, wrap64 (by omega) (by omega)]; omega) | (rw [if_neg hk]; omega))))), rfl⟩, trivial⟩
          · rw [hb3]
            have hk6 : ¬ v.kind = 6 := beq_eq_false_iff_ne.1 hb3
            refine g_run rfl rfl (s_fieldAddr rfl rfl fa26_0 rfl) ?_
            refine g_run rfl rfl (s_load_imm rfl rfl rfl tA5 tS5 rfl rfl) ?_
            refine g_run rfl rfl (s_eqI rfl rfl rfl) ?_
            refine g_u (s_pick_f rfl rfl rfl) ?_
            refine g_nil ?_
            refine normal_thn ?_
            refine aw_cond rfl (fun hb4 => ?_) (fun hb4 => ?_)
            · skip
              have hk : v.kind = 6 ∨ v.kind = 7 := .inr (beq_iff_eq.1 hb4)
              refine aw_seq ?_
              refine aw_region ?_
              refine g_u (s_mv_imm rfl rfl) ?_
              refine g_u (s_add rfl rfl rfl) ?_
              refine g_u (s_as_imm rfl rfl) ?_
              refine g_nil ?_
              refine normal_thn ?_
              refine aw_ret ?_
              refine ret_thn ?_
              exact ⟨⟨(rfl : toAV (Al.look _ _) = some _).trans (congrArg some (by (exact congrArg iv (by rw [deepV_eq]; (try rw [hd]); first | (rw [if_pos hk, wrap64 (by omega) (by omega)]; omega) | (rw [if_neg hk]; omega))))), rfl⟩, trivial⟩
            · skip
              have hk : ¬ (v.kind = 6 ∨ v.kind = 7) := by have := beq_eq_false_iff_ne.1 hb4; omega
              refine aw_skip ?_
              refine normal_thn ?_
              refine aw_seq ?_
              refine aw_region ?_
              refine g_u (s_mv_imm rfl rfl) ?_
              refine g_u (s_as_imm rfl rfl) ?_
              refine g_nil ?_
              refine normal_thn ?_
              refine aw_ret ?_
              exact ⟨⟨(rfl : toAV (Al.look _ _) = some _).trans (congrArg some (by (exact congrArg iv (by rw [deepV_eq]; (try rw [hd]); first | (rw [if_pos hk, wrap64 (by omega) (by omega)]; omega) | (rw [if_neg hk]; omega))))), rfl⟩, trivial⟩

theorem rdeep_c (v : GV) : v.wt ≤ 1000000000 → PCall Try.prog Γ0 16 [v.av] [iv (deepV v)] := by
  refine GV.ind (P := fun v => v.wt ≤ 1000000000 → PCall Try.prog Γ0 16 [v.av] [iv (deepV v)]) ?_ v
  intro v h1 h2 hw
  have ek := v.wt_eq
  exact rdeep_st v hw (fun y hy => h1 y hy (by have := wtVs_mem hy; omega)) (fun a ha => h2 a ha (by have := wtAs_mem ha; have := a.wt_eq; omega))

end Go.Proofs

namespace Go.Proofs
open Go Go.Al

/-! ### What may be is its own form -/
theorem orC_eq0 {a b : Int} (h : orC a b = 0) : a = 0 ∧ b = 0 := by unfold orC at h; split at h <;> omega
theorem checkVs_mem {d : Int} : ∀ {l : List GV}, checkVs d l = 0 → ∀ y ∈ l, checkV d y = 0
  | x :: l, h, y, hy => by
    rw [checkVs] at h
    obtain ⟨h1, h2⟩ := orC_eq0 h
    rcases List.mem_cons.1 hy with rfl | hy
    · exact h1
    · exact checkVs_mem h2 y hy
theorem entC_mem {d : Int} : ∀ {l : List GA} {p : Option ByteArray}, entC d p l = 0 → risA p l ∧ ∀ a ∈ l, checkV d a.val = 0
  | [], p, _ => ⟨trivial, fun a h => by cases h⟩
  | x :: l, p, h => by
    rw [entC] at h
    obtain ⟨h1, h2⟩ := orC_eq0 h
    cases hb : prevBad p x.key
    · rw [hb, if_neg (by decide)] at h2
      obtain ⟨h3, h4⟩ := orC_eq0 h2
      obtain ⟨h5, h6⟩ := entC_mem h4
      rw [checkA_eq] at h3
      refine ⟨⟨?_, h5⟩, fun a ha => ?_⟩
      · cases p with
        | none => trivial
        | some q => simp only [prevBad] at hb; simpa using hb
      · rcases List.mem_cons.1 ha with rfl | ha
        · exact h3
        · exact h6 a ha
    · rw [hb, if_pos rfl] at h2; omega
theorem checkV_parts {d : Int} {v : GV} (h : checkV d v = 0) : checkVs (d + 1) v.list = 0 ∧ entC (d + 1) none v.map = 0 := by
  rw [checkV_eq] at h
  split at h; · omega
  split at h; · omega
  split at h; · omega
  split at h; · omega
  split at h; · omega
  exact orC_eq0 h
theorem map_id_of {α : Type} {f : α → α} : ∀ {l : List α}, (∀ x ∈ l, f x = x) → l.map f = l
  | [], _ => rfl
  | x :: l, h => by rw [List.map_cons, h x List.mem_cons_self, map_id_of fun y hy => h y (List.mem_cons_of_mem _ hy)]
theorem canonAs_of {l : List GA} (hr : risA none l) (h : ∀ a ∈ l, canonV a.val = a.val) : canonAs l = l := by
  have e : l.map canonP = l := map_id_of fun a ha => by rw [canonP_eq, h a ha]; cases a; rfl
  unfold canonAs
  rw [e, intoAll_ris l [] (by simpa using hr)]; rfl
theorem canon_of_check (v : GV) : ∀ d : Int, checkV d v = 0 → canonV v = v := by
  refine GV.ind (P := fun v => ∀ d : Int, checkV d v = 0 → canonV v = v) ?_ v
  intro v h1 h2 d hc
  obtain ⟨h3, h4⟩ := checkV_parts hc
  obtain ⟨h5, h6⟩ := entC_mem h4
  have e1 : v.list.map canonV = v.list := map_id_of fun y hy => h1 y hy _ (checkVs_mem h3 y hy)
  have e2 : canonAs v.map = v.map := canonAs_of h5 fun a ha => h2 a ha _ (h6 a ha)
  rw [canonV_eq, e1, e2]
  cases v; rfl
/-! ### Lists within one another -/
def nest : Nat → GV
  | 0 => .mk 3 ⟨#[]⟩ 7 0 [] []
  | k + 1 => .mk 6 ⟨#[]⟩ 0 0 [nest k] []
theorem nest_wt : ∀ k, (nest k).wt = k + 1
  | 0 => rfl
  | k + 1 => by
    have e := (nest (k + 1)).wt_eq
    have e2 : (nest (k + 1)).list = [nest k] := rfl
    have e3 : (nest (k + 1)).map = [] := rfl
    have e4 : (nest (k + 1)).text = ⟨#[]⟩ := rfl
    have e5 : (ByteArray.mk #[]).size = 0 := rfl
    rw [e2, e3, e4, e5] at e
    have := nest_wt k
    simp only [wtVs, wtAs] at e
    omega
theorem nest_check : ∀ (k : Nat) (d : Int), 0 ≤ d → d ≤ 16 → checkV d (nest k) = if 16 < d + k then 33 else 0
  | 0, d, h0, h => by
    rw [if_neg (by omega), nest, checkV]
    rw [if_neg (by decide), if_neg (by decide), if_neg (by omega), if_neg (by omega), if_neg (by omega)]
    rfl
  | k + 1, d, h0, h => by
    rw [nest, checkV, if_neg (by decide), if_neg (by rw [show emptyV (GV.mk 6 ⟨#[]⟩ 0 0 [nest k] []) = true from rfl]; decide)]
    by_cases hd : d = 16
    · rw [if_pos (by omega), if_pos (by omega)]
    · rw [if_neg (by omega), if_neg (by omega), if_neg (by omega), checkVs, checkVs, entC, orC_right, orC_right, nest_check k (d + 1) (by omega) (by omega)]
      split <;> split <;> omega
theorem nest_deep : ∀ k : Nat, deepV (nest k) = k
  | 0 => by decide
  | k + 1 => by
    rw [nest, deepV, if_pos (by decide), deepVs, deepVs, deepAs, nest_deep k]
    rw [Int.max_def, Int.max_def]
    (repeat' split) <;> omega

theorem leftV_le {v : GV} {n : Int} (h : ¬ leftV v n < 0) : (v.wt : Int) ≤ n := by
  unfold leftV at h
  split at h
  · omega
  · split at h <;> omega
theorem leftAs_leq {l : List GA} {n : Int} (h : ¬ leftAs l n < 0) : (wtAs l : Int) ≤ n := by
  unfold leftAs at h
  split at h
  · omega
  · split at h <;> omega
theorem nest_av (i : Nat) : AV.agg [.v (.int .u8 6), .v (.string .empty), .v (.int .i64 0), .v (.int .u64 0), .sl 6 [(nest i).av], .sl 7 []] = (nest (i + 1)).av := by
  show _ = AV.agg [_, _, _, _, .sl 6 ([nest i].map avV), _]
  rw [List.map_cons, avV_eq]; rfl
def one24 : GV := .mk 3 ⟨#[]⟩ 1 0 [] []
def m24 : GV := .mk 7 ⟨#[]⟩ 0 0 [] [.mk ⟨#[98]⟩ one24, .mk ⟨#[97]⟩ zeroV, .mk ⟨#[98]⟩ zeroV]
def c24 : GV := .mk 7 ⟨#[]⟩ 0 0 [] [.mk ⟨#[97]⟩ zeroV, .mk ⟨#[98]⟩ zeroV]
theorem m24_canon : canonV m24 = c24 := by rfl
theorem up24 {P : Program} {Γ : List (Nat × AV)} {f : FuncId} {rs : List AV} {n : Nat} (c : PCall P Γ f [.sl n [], .sl n []] rs) : PCall P Γ f [.v (.slice none 0 0), .v (.slice none 0 0)] rs := c.args ⟨Up.nil n, Up.nil n, Ups.refl []⟩
end Go.Proofs

namespace Go.Proofs
open Go Go.Al
set_option maxRecDepth 10000
set_option maxHeartbeats 400000 in
theorem pcheck_c (v : GV) (hw : v.wt ≤ 1000000000) : PCall Try.prog Γ0 11 [v.av] [iv (checkV 0 v)] := by
  refine pcall_of Try.func11 rfl Try.ntmps11 (by kernel_rfl) rfl fun w0 I0 G0 => ?_
  refine aw_seq ?_
  refine aw_region ?_
  refine g_uG (s_box_imm 1001 rfl rfl rfl rfl) rfl ?_
  refine g_u (s_as_imm rfl rfl) ?_
  refine g_nil ?_
  refine normal_thn ?_
  refine aw_seq ?_
  refine aw_region ?_
  refine g_u (s_load_imm rfl rfl rfl tA26 tS26 rfl rfl) ?_
  refine g_u (s_call1 (checkV_c v 0 ⟨by omega, by omega⟩) rfl rfl) ?_
  refine g_u (s_as_imm rfl rfl) ?_
  refine g_nil ?_
  refine normal_thn ?_
  refine aw_ret ?_
  exact ⟨⟨(rfl : toAV (Al.look _ _) = some _).trans (congrArg some (by rfl)), rfl⟩, trivial⟩

set_option maxRecDepth 100000 in
set_option maxHeartbeats 4000000 in
theorem works24_c : PCall Try.prog Γ0 8 [] [bv true] := by
  refine pcall_of Try.func8 rfl Try.ntmps8 (by kernel_rfl) rfl fun w0 I0 G0 => ?_
  refine aw_seq ?_
  refine aw_region ?_
  refine g_u (s_as_imm rfl rfl) ?_
  refine g_nil ?_
  refine normal_thn ?_
  refine aw_seq ?_
  refine aw_region ?_
  refine g_u (s_build rfl tU26 us26 pl26 rfl rfl rfl rfl) ?_
  refine g_uG (s_alloc' 1001 rfl rfl rfl tZ26) rfl ?_
  refine g_u (s_store_imm rfl rfl rfl tS26 rfl rfl) ?_
  refine g_nil ?_
  refine normal_thn ?_
  refine aw_seq ?_
  refine aw_region ?_
  refine g_u (s_load_agg rfl rfl rfl tA26 tS26 rfl rfl) ?_
  refine g_u (s_build rfl tU33 us33 pl33 rfl rfl rfl rfl) ?_
  refine g_u (s_build rfl tU33 us33 pl33 rfl rfl rfl rfl) ?_
  refine g_u (s_build rfl tU33 us33 pl33 rfl rfl rfl rfl) ?_
  refine g_u (s_buildSlice (X0 := z33) rfl Try.underlying24 tS33 tZ33 rfl rfl rfl rfl rfl rfl rfl rfl) ?_
  refine g_u (s_build rfl tU26 us26 pl26 rfl rfl rfl rfl) ?_
  refine g_uG (s_alloc' 1002 rfl rfl rfl tZ26) rfl ?_
  refine g_u (s_store_imm rfl rfl rfl tS26 rfl rfl) ?_
  refine g_nil ?_
  refine normal_thn ?_
  refine aw_seq ?_
  refine aw_region ?_
  refine g_u (s_load_agg rfl rfl rfl tA26 tS26 rfl rfl) ?_
  refine g_u (s_call1 ((show PCall Try.prog Γ0 17 [m24.av] [c24.av] from by rw [← m24_canon]; exact pcanonV_c m24 (by decide))) rfl rfl) ?_
  refine g_uG (s_alloc' 1003 rfl rfl rfl tZ26) rfl ?_
  refine g_u (s_store_imm rfl rfl rfl tS26 rfl rfl) ?_
  refine g_nil ?_
  refine normal_thn ?_
  refine aw_seq ?_
  refine aw_region ?_
  refine g_u (s_build rfl tU26 us26 pl26 rfl rfl rfl rfl) ?_
  refine g_u (s_call1 (pcheck_c (.mk 5 ⟨#[255]⟩ 0 0 [] []) (by decide)) rfl rfl) ?_
  refine g_u (s_eqI rfl rfl rfl) ?_
  refine g_u (s_mv_imm rfl rfl) ?_
  refine g_case (t := 17) rfl ?_
  rintro (hb1 | hb1)
  · rw [hb1]
    refine g_run rfl rfl (s_build rfl tU26 us26 pl26 rfl rfl rfl rfl) ?_
    refine g_run rfl rfl (s_call1 (pcheck_c (.mk 1 ⟨#[255]⟩ 0 0 [] []) (by decide)) rfl rfl) ?_
    refine g_run rfl rfl (s_eqI rfl rfl rfl) ?_
    refine g_u (s_pick_t rfl rfl rfl) ?_
    refine g_u (s_mv_imm rfl rfl) ?_
    refine g_case (t := 22) rfl ?_
    rintro (hb2 | hb2)
    · rw [hb2]
      refine g_run rfl rfl (s_build rfl tU26 us26 pl26 rfl rfl rfl rfl) ?_
      refine g_run rfl rfl (s_call1 (pcheck_c (.mk 4 ⟨#[]⟩ 1 0 [] []) (by decide)) rfl rfl) ?_
      refine g_run rfl rfl (s_eqI rfl rfl rfl) ?_
      refine g_u (s_pick_t rfl rfl rfl) ?_
      refine g_u (s_as_imm rfl rfl) ?_
      refine g_nil ?_
      refine normal_thn ?_
      refine aw_seq ?_
      refine aw_region ?_
      refine g_u (s_fieldAddr rfl rfl fa26_5 rfl) ?_
      refine g_u (s_load_imm rfl rfl rfl tA24 tS24 rfl rfl) ?_
      refine g_u (s_lenL rfl rfl Try.underlying24) ?_
      refine g_u (s_eqI rfl rfl rfl) ?_
      refine g_u (s_mv_imm rfl rfl) ?_
      refine g_case (t := 31) rfl ?_
      rintro (hb3 | hb3)
      · rw [hb3]
        refine g_run rfl rfl (s_fieldAddr rfl rfl fa26_5 rfl) ?_
        refine g_run rfl rfl (s_load_imm rfl rfl rfl tA24 tS24 rfl rfl) ?_
        refine g_run rfl rfl (s_indexAddr rfl rfl rfl Try.underlying24 tS33 (by decide) (ixA (l := c24.map) (i := 0) (by decide))) ?_
        refine g_run rfl rfl (s_fieldAddr_cp rfl rfl fa33_0 rfl rfl) ?_
        refine g_run rfl rfl (s_load_cp rfl rfl tA9 tS9 rfl rfl) ?_
        refine g_run rfl rfl (s_eqS rfl rfl rfl) ?_
        refine g_u (s_pick_t rfl rfl rfl) ?_
        refine g_u (s_mv_imm rfl rfl) ?_
        refine g_case (t := 39) rfl ?_
        rintro (hb4 | hb4)
        · rw [hb4]
          refine g_run rfl rfl (s_fieldAddr rfl rfl fa26_5 rfl) ?_
          refine g_run rfl rfl (s_load_imm rfl rfl rfl tA24 tS24 rfl rfl) ?_
          refine g_run rfl rfl (s_indexAddr rfl rfl rfl Try.underlying24 tS33 (by decide) (ixA (l := c24.map) (i := 1) (by decide))) ?_
          refine g_run rfl rfl (s_fieldAddr_cp rfl rfl fa33_1 rfl rfl) ?_
          refine g_run rfl rfl (s_fieldAddr_cp rfl rfl fa26_0 rfl rfl) ?_
          refine g_run rfl rfl (s_load_cp rfl rfl tA5 tS5 rfl rfl) ?_
          refine g_run rfl rfl (s_eqI rfl rfl rfl) ?_
          refine g_u (s_pick_t rfl rfl rfl) ?_
          refine g_u (s_mv_imm rfl rfl) ?_
          refine g_case (t := 48) rfl ?_
          rintro (hb5 | hb5)
          · rw [hb5]
            refine g_run rfl rfl (s_load_agg rfl rfl rfl tA26 tS26 rfl rfl) ?_
            refine g_run rfl rfl (s_call1 (pcheck_c m24 (by decide)) rfl rfl) ?_
            refine g_run rfl rfl (s_eqI rfl rfl rfl) ?_
            refine g_u (s_pick_t rfl rfl rfl) ?_
            refine g_u (s_mv_imm rfl rfl) ?_
            refine g_case (t := 53) rfl ?_
            rintro (hb6 | hb6)
            · rw [hb6]
              refine g_run rfl rfl (s_load_agg rfl rfl rfl tA26 tS26 rfl rfl) ?_
              refine g_run rfl rfl (s_call1 (pcheck_c c24 (by decide)) rfl rfl) ?_
              refine g_run rfl rfl (s_eqI rfl rfl rfl) ?_
              refine g_u (s_pick_t rfl rfl rfl) ?_
              refine g_u (s_mv_imm rfl rfl) ?_
              refine g_case (t := 58) rfl ?_
              rintro (hb7 | hb7)
              · rw [hb7]
                refine g_run rfl rfl (s_load_agg rfl rfl rfl tA26 tS26 rfl rfl) ?_
                refine g_run rfl rfl (s_call1 (pdeep_c c24 (by decide)) rfl rfl) ?_
                refine g_run rfl rfl (s_eqI rfl rfl rfl) ?_
                refine g_u (s_pick_t rfl rfl rfl) ?_
                refine g_u (s_mv_imm rfl rfl) ?_
                refine g_case (t := 63) rfl ?_
                rintro (hb8 | hb8)
                · rw [hb8]
                  refine g_run rfl rfl (s_load_agg rfl rfl rfl tA26 tS26 rfl rfl) ?_
                  refine g_run rfl rfl (s_load_agg rfl rfl rfl tA26 tS26 rfl rfl) ?_
                  refine g_run rfl rfl (s_call1 (psameV_c c24 (by decide) c24) rfl rfl) ?_
                  refine g_u (s_pick_t rfl rfl rfl) ?_
                  refine g_u (s_mv_imm rfl rfl) ?_
                  refine g_case (t := 68) rfl ?_
                  rintro (hb9 | hb9)
                  · rw [hb9]
                    refine g_run rfl rfl (s_load_agg rfl rfl rfl tA26 tS26 rfl rfl) ?_
                    refine g_run rfl rfl (s_load_agg rfl rfl rfl tA26 tS26 rfl rfl) ?_
                    refine g_run rfl rfl (s_call1 (psameV_c m24 (by decide) c24) rfl rfl) ?_
                    refine g_run rfl rfl (s_not rfl rfl) ?_
                    refine g_u (s_pick_t rfl rfl rfl) ?_
                    refine g_u (s_mv_imm rfl rfl) ?_
                    refine g_case (t := 74) rfl ?_
                    rintro (hb10 | hb10)
                    · rw [hb10]
                      refine g_run rfl rfl (s_call1 (keyP_c ⟨#[]⟩ (by decide)) rfl rfl) ?_
                      refine g_run rfl rfl (s_eqI rfl rfl rfl) ?_
                      refine g_u (s_pick_t rfl rfl rfl) ?_
                      refine g_u (s_mv_imm rfl rfl) ?_
                      refine g_case (t := 78) rfl ?_
                      rintro (hb11 | hb11)
                      · rw [hb11]
                        refine g_run rfl rfl (s_mv_imm rfl rfl) ?_
                        refine g_u (s_pick_t rfl rfl rfl) ?_
                        refine g_u (s_mv_imm rfl rfl) ?_
                        refine g_case (t := 81) rfl ?_
                        rintro (hb12 | hb12)
                        · rw [hb12]
                          refine g_run rfl rfl (s_call1 (up24 (psameAs_c [] [] (by decide))) rfl rfl) ?_
                          refine g_u (s_pick_t rfl rfl rfl) ?_
                          refine g_u (s_as_imm rfl rfl) ?_
                          refine g_nil ?_
                          refine normal_thn ?_
                          refine aw_ret ?_
                          exact ⟨⟨(rfl : toAV (Al.look _ _) = some _).trans (congrArg some (by (exact congrArg bv (sameAs_refl _)))), rfl⟩, trivial⟩
                        · exact killT hb12 (by first | rfl | decide +kernel)
                      · exact killT hb11 (by first | rfl | decide +kernel)
                    · exact killT hb10 (by first | rfl | decide +kernel)
                  · exact killT hb9 (by first | rfl | decide +kernel)
                · exact killT hb8 (by first | rfl | decide +kernel)
              · exact killT hb7 (by first | rfl | decide +kernel)
            · exact killT hb6 (by first | rfl | decide +kernel)
          · exact killT hb5 (by first | rfl | decide +kernel)
        · exact killT hb4 (by first | rfl | decide +kernel)
      · exact killT hb3 (by first | rfl | decide +kernel)
    · exact killT hb2 (by first | rfl | decide +kernel)
  · exact killT hb1 (by first | rfl | decide +kernel)

set_option maxHeartbeats 1000000 in
theorem valueChecks_c (v : GV) (l : List GA) (d : Int) : PCall Try.prog Γ0 3 [v.av, .sl 7 (l.map avA), iv d] [bv true] := by
  refine pcall_of Try.func3 rfl Try.ntmps3 (by kernel_rfl) rfl fun w0 I0 G0 => ?_
  refine aw_seq ?_
  refine aw_region ?_
  refine g_uG (s_box_imm 1003 rfl rfl rfl rfl) rfl ?_
  refine g_u (s_as_imm rfl rfl) ?_
  refine g_nil ?_
  refine normal_thn ?_
  refine aw_seq ?_
  refine aw_seq ?_
  refine aw_region ?_
  refine g_u (s_load_imm rfl rfl rfl tA26 tS26 rfl rfl) ?_
  refine g_u (s_call1 (leftV_c v 2000 (by decide)) rfl rfl) ?_
  refine g_u (s_ltI rfl rfl rfl) ?_
  refine g_u (s_mv_imm rfl rfl) ?_
  refine g_case (t := 11) rfl ?_
  rintro (hb1 | hb1)
  · rw [hb1]
    have z1 : leftV v 2000 < 0 := of_decide_eq_true hb1
    refine g_skip rfl rfl rfl ?_
    refine g_skip rfl rfl rfl ?_
    refine g_skip rfl rfl rfl ?_
    refine g_u (s_pick_t rfl rfl rfl) ?_
    refine g_u (s_mv_imm rfl rfl) ?_
    refine g_skip rfl rfl rfl ?_
    refine g_skip rfl rfl rfl ?_
    refine g_u (s_pick_t rfl rfl rfl) ?_
    refine g_u (s_mv_imm rfl rfl) ?_
    refine g_skip rfl rfl rfl ?_
    refine g_skip rfl rfl rfl ?_
    refine g_u (s_pick_t rfl rfl rfl) ?_
    refine g_nil ?_
    refine normal_thn ?_
    refine aw_cond_true rfl ?_
    refine aw_seq ?_
    refine aw_region ?_
    refine g_u (s_call1 (works24_c) rfl rfl) ?_
    refine g_u (s_as_imm rfl rfl) ?_
    refine g_nil ?_
    refine normal_thn ?_
    refine aw_ret ?_
    refine ret_thn ?_
    exact ⟨⟨(rfl : toAV (Al.look _ _) = some _).trans (congrArg some (by rfl)), rfl⟩, trivial⟩
  · rw [hb1]
    have z1 : ¬ leftV v 2000 < 0 := of_decide_eq_false hb1
    have hwv := leftV_le z1
    refine g_run rfl rfl (s_mv_imm rfl rfl) ?_
    refine g_run rfl rfl (s_call1 (leftAs_c l 2000 (by decide)) rfl rfl) ?_
    refine g_run rfl rfl (s_ltI rfl rfl rfl) ?_
    refine g_u (s_pick_f rfl rfl rfl) ?_
    refine g_u (s_mv_imm rfl rfl) ?_
    refine g_case (t := 16) rfl ?_
    rintro (hb2 | hb2)
    · rw [hb2]
      have z2 : leftAs l 2000 < 0 := of_decide_eq_true hb2
      refine g_skip rfl rfl rfl ?_
      refine g_skip rfl rfl rfl ?_
      refine g_u (s_pick_t rfl rfl rfl) ?_
      refine g_u (s_mv_imm rfl rfl) ?_
      refine g_skip rfl rfl rfl ?_
      refine g_skip rfl rfl rfl ?_
      refine g_u (s_pick_t rfl rfl rfl) ?_
      refine g_nil ?_
      refine normal_thn ?_
      refine aw_cond_true rfl ?_
      refine aw_seq ?_
      refine aw_region ?_
      refine g_u (s_call1 (works24_c) rfl rfl) ?_
      refine g_u (s_as_imm rfl rfl) ?_
      refine g_nil ?_
      refine normal_thn ?_
      refine aw_ret ?_
      refine ret_thn ?_
      exact ⟨⟨(rfl : toAV (Al.look _ _) = some _).trans (congrArg some (by rfl)), rfl⟩, trivial⟩
    · rw [hb2]
      have z2 : ¬ leftAs l 2000 < 0 := of_decide_eq_false hb2
      have hwl := leftAs_leq z2
      have ll := len_wtAs l
      refine g_run rfl rfl (s_mv_imm rfl rfl) ?_
      refine g_run rfl rfl (s_ltI rfl rfl rfl) ?_
      refine g_u (s_pick_f rfl rfl rfl) ?_
      refine g_u (s_mv_imm rfl rfl) ?_
      refine g_case (t := 20) rfl ?_
      rintro (hb3 | hb3)
      · rw [hb3]
        have z3 : d < 0 := of_decide_eq_true hb3
        refine g_skip rfl rfl rfl ?_
        refine g_skip rfl rfl rfl ?_
        refine g_u (s_pick_t rfl rfl rfl) ?_
        refine g_nil ?_
        refine normal_thn ?_
        refine aw_cond_true rfl ?_
        refine aw_seq ?_
        refine aw_region ?_
        refine g_u (s_call1 (works24_c) rfl rfl) ?_
        refine g_u (s_as_imm rfl rfl) ?_
        refine g_nil ?_
        refine normal_thn ?_
        refine aw_ret ?_
        refine ret_thn ?_
        exact ⟨⟨(rfl : toAV (Al.look _ _) = some _).trans (congrArg some (by rfl)), rfl⟩, trivial⟩
      · rw [hb3]
        have z3 : ¬ d < 0 := of_decide_eq_false hb3
        refine g_run rfl rfl (s_mv_imm rfl rfl) ?_
        refine g_run rfl rfl (s_gtI rfl rfl rfl) ?_
        refine g_u (s_pick_f rfl rfl rfl) ?_
        refine g_nil ?_
        refine normal_thn ?_
        refine aw_cond rfl (fun hb4 => ?_) (fun hb4 => ?_)
        · skip
          have z4 : d > 40 := of_decide_eq_true hb4
          refine aw_seq ?_
          refine aw_region ?_
          refine g_u (s_call1 (works24_c) rfl rfl) ?_
          refine g_u (s_as_imm rfl rfl) ?_
          refine g_nil ?_
          refine normal_thn ?_
          refine aw_ret ?_
          refine ret_thn ?_
          exact ⟨⟨(rfl : toAV (Al.look _ _) = some _).trans (congrArg some (by rfl)), rfl⟩, trivial⟩
        · skip
          have z4 : ¬ d > 40 := of_decide_eq_false hb4
          refine aw_skip ?_
          refine normal_thn ?_
          refine aw_seq ?_
          refine aw_seq ?_
          refine aw_region ?_
          refine g_u (s_as_imm rfl rfl) ?_
          refine g_nil ?_
          refine normal_thn ?_
          refine aw_block ?_
          refine aw_loop' (fun i : Nat => [(3, .ptr 1003 0), (1003, .box 26 (.imm v.av)), (1, .imm (.sl 7 (l.map avA))), (2, .imm (iv d)), (7, .imm (iv (i : Int)))]) (fun i => i ≤ l.length) (fun i => l.length - i) (0) ?_ ⟨rfl, rfl, rfl, rfl, rfl, trivial⟩ ?_
          · exact Nat.zero_le _
          · rintro i h1; have h1 : i ≤ l.length := h1
            refine aw_seq ?_
            refine aw_seq ?_
            refine aw_region ?_
            refine g_u (s_mv_imm rfl rfl) ?_
            refine g_u (s_mv_imm rfl rfl) ?_
            refine g_u (s_lenL rfl rfl Try.underlying24) ?_
            refine g_u (s_ltI rfl rfl rfl) ?_
            refine g_nil ?_
            refine normal_thn ?_
            refine aw_cond rfl (fun hb5 => ?_) (fun hb5 => ?_)
            · skip
              have hi : i < l.length := by have := of_decide_eq_true hb5; (try simp only [List.length_map] at this); omega
              have hw1 := wtAs_mem (nthA_mem hi)
              have hw2 := (nthA l i).wt_eq
              refine aw_skip ?_
              refine normal_thn ?_
              refine aw_seq ?_
              refine aw_block ?_
              refine aw_seq ?_
              refine aw_draw mixed ?_
              refine g_u (s_mv_imm rfl rfl) ?_
              refine g_u (s_mv_imm rfl rfl) ?_
              refine g_u (s_indexAddr rfl rfl rfl Try.underlying24 tS33 (by omega) (ixA hi)) ?_
              refine g_u (s_fieldAddr_cp rfl rfl fa33_0 rfl rfl) ?_
              refine g_u (s_load_cp rfl rfl tA9 tS9 rfl rfl) ?_
              refine g_u (s_call1 (keyP_c _ (by omega)) rfl rfl) ?_
              refine g_u (s_mv_imm rfl rfl) ?_
              refine g_u (s_mv_imm rfl rfl) ?_
              refine g_u (s_indexAddr rfl rfl rfl Try.underlying24 tS33 (by omega) (ixA hi)) ?_
              refine g_u (s_fieldAddr_cp rfl rfl fa33_0 rfl rfl) ?_
              refine g_u (s_load_cp rfl rfl tA9 tS9 rfl rfl) ?_
              refine g_u (s_call1 (rkeyP_c _ (by omega)) rfl rfl) ?_
              refine g_u (s_neI rfl rfl rfl) ?_
              refine g_nil ⟨by kernel_rfl, ?_⟩
              refine normal_thn ?_
              refine aw_cond rfl (fun hb6 => ?_) (fun hb6 => ?_)
              · exact killF hb6 ((by exact bne_self_eq_false _))
              · skip
                refine aw_skip ?_
                refine normal_blk ?_
                refine normal_thn ?_
                refine aw_region ?_
                refine g_u (s_mv_imm rfl rfl) ?_
                refine g_u (s_add rfl rfl rfl) ?_
                refine g_u (s_as_imm rfl rfl) ?_
                refine g_nil ?_
                refine normal_thn ?_
                refine ⟨i + 1, hi, ⟨rfl, rfl, rfl, rfl, look_int rfl (by rw [wrap64 (by omega) (by omega)]; rfl), trivial⟩, by (try dsimp only); omega⟩
            · skip
              have hin : i = l.length := by have := of_decide_eq_false hb5; (try simp only [List.length_map] at this); omega
              refine aw_exit ?_
              refine exit_thn ?_
              refine exit_thn ?_
              refine exit_blk ?_
              refine normal_thn ?_
              refine aw_seq ?_
              refine aw_draw mixed ?_
              refine g_u (s_load_imm rfl rfl rfl tA26 tS26 rfl rfl) ?_
              refine g_u (s_call1 (pcheck_c _ (by omega)) rfl rfl) ?_
              refine g_u (s_load_imm rfl rfl rfl tA26 tS26 rfl rfl) ?_
              refine g_u (s_call1 (rcheckV_c v 0 ⟨by omega, by omega⟩) rfl rfl) ?_
              refine g_u (s_eqI rfl rfl rfl) ?_
              refine g_u (s_mv_imm rfl rfl) ?_
              refine g_case (t := 49) rfl ?_
              rintro (hb7 | hb7)
              · rw [hb7]
                refine g_run rfl rfl (s_mv_imm rfl rfl) ?_
                refine g_run rfl rfl (s_mv_imm rfl rfl) ?_
                refine g_run rfl rfl (s_call1 (entC_c l d ⟨by omega, by omega⟩) rfl rfl) ?_
                refine g_run rfl rfl (s_mv_imm rfl rfl) ?_
                refine g_run rfl rfl (s_mv_imm rfl rfl) ?_
                refine g_run rfl rfl (s_call1 (rentC_c l d ⟨by omega, by omega⟩) rfl rfl) ?_
                refine g_run rfl rfl (s_eqI rfl rfl rfl) ?_
                refine g_u (s_pick_t rfl rfl rfl) ?_
                refine g_u (s_mv_imm rfl rfl) ?_
                refine g_case (t := 58) rfl ?_
                rintro (hb8 | hb8)
                · rw [hb8]
                  refine g_run rfl rfl (s_load_imm rfl rfl rfl tA26 tS26 rfl rfl) ?_
                  refine g_run rfl rfl (s_call1 (pdeep_c _ (by omega)) rfl rfl) ?_
                  refine g_run rfl rfl (s_load_imm rfl rfl rfl tA26 tS26 rfl rfl) ?_
                  refine g_run rfl rfl (s_call1 (rdeep_c _ (by omega)) rfl rfl) ?_
                  refine g_run rfl rfl (s_eqI rfl rfl rfl) ?_
                  refine g_u (s_pick_t rfl rfl rfl) ?_
                  refine g_u (s_mv_imm rfl rfl) ?_
                  refine g_case (t := 65) rfl ?_
                  rintro (hb9 | hb9)
                  · rw [hb9]
                    refine g_run rfl rfl (s_call1 (works24_c) rfl rfl) ?_
                    refine g_u (s_pick_t rfl rfl rfl) ?_
                    refine g_u (s_as_imm rfl rfl) ?_
                    refine g_nil ⟨by kernel_rfl, ?_⟩
                    refine normal_thn ?_
                    refine aw_ret ?_
                    exact ⟨⟨(rfl : toAV (Al.look _ _) = some _).trans (congrArg some (by rfl)), rfl⟩, trivial⟩
                  · exact killT hb9 ((by exact beq_self_eq_true _))
                · exact killT hb8 ((by exact beq_self_eq_true _))
              · exact killT hb7 ((by exact beq_self_eq_true _))

set_option maxHeartbeats 1000000 in
theorem valueCanon_c (v w : GV) : PCall Try.prog Γ0 4 [v.av, w.av] [bv true] := by
  refine pcall_of Try.func4 rfl Try.ntmps4 (by kernel_rfl) rfl fun w0 I0 G0 => ?_
  refine aw_seq ?_
  refine aw_region ?_
  refine g_uG (s_box_imm 1002 rfl rfl rfl rfl) rfl ?_
  refine g_uG (s_box_imm 1003 rfl rfl rfl rfl) rfl ?_
  refine g_u (s_as_imm rfl rfl) ?_
  refine g_nil ?_
  refine normal_thn ?_
  refine aw_seq ?_
  refine aw_seq ?_
  refine aw_region ?_
  refine g_u (s_load_imm rfl rfl rfl tA26 tS26 rfl rfl) ?_
  refine g_u (s_call1 (leftV_c _ 2000 (by decide)) rfl rfl) ?_
  refine g_u (s_ltI rfl rfl rfl) ?_
  refine g_u (s_mv_imm rfl rfl) ?_
  refine g_case (t := 9) rfl ?_
  rintro (hb1 | hb1)
  · rw [hb1]
    have z1 : leftV v 2000 < 0 := of_decide_eq_true hb1
    refine g_skip rfl rfl rfl ?_
    refine g_skip rfl rfl rfl ?_
    refine g_skip rfl rfl rfl ?_
    refine g_u (s_pick_t rfl rfl rfl) ?_
    refine g_nil ?_
    refine normal_thn ?_
    refine aw_cond_true rfl ?_
    refine aw_seq ?_
    refine aw_region ?_
    refine g_u (s_call1 (works24_c) rfl rfl) ?_
    refine g_u (s_as_imm rfl rfl) ?_
    refine g_nil ?_
    refine normal_thn ?_
    refine aw_ret ?_
    refine ret_thn ?_
    exact ⟨⟨(rfl : toAV (Al.look _ _) = some _).trans (congrArg some (by rfl)), rfl⟩, trivial⟩
  · rw [hb1]
    have z1 : ¬ leftV v 2000 < 0 := of_decide_eq_false hb1
    have hwv := leftV_le z1
    have hwc := wt_canonV v
    have ek := v.wt_eq
    have hwm := wt_canonAs v.map
    have hcc := wt_canonV (canonV v)
    refine g_run rfl rfl (s_load_imm rfl rfl rfl tA26 tS26 rfl rfl) ?_
    refine g_run rfl rfl (s_call1 (leftV_c _ 2000 (by decide)) rfl rfl) ?_
    refine g_run rfl rfl (s_ltI rfl rfl rfl) ?_
    refine g_u (s_pick_f rfl rfl rfl) ?_
    refine g_nil ?_
    refine normal_thn ?_
    refine aw_cond rfl (fun hb2 => ?_) (fun hb2 => ?_)
    · skip
      have z2 : leftV w 2000 < 0 := of_decide_eq_true hb2
      refine aw_seq ?_
      refine aw_region ?_
      refine g_u (s_call1 (works24_c) rfl rfl) ?_
      refine g_u (s_as_imm rfl rfl) ?_
      refine g_nil ?_
      refine normal_thn ?_
      refine aw_ret ?_
      refine ret_thn ?_
      exact ⟨⟨(rfl : toAV (Al.look _ _) = some _).trans (congrArg some (by rfl)), rfl⟩, trivial⟩
    · skip
      have z2 : ¬ leftV w 2000 < 0 := of_decide_eq_false hb2
      have hww := leftV_le z2
      refine aw_skip ?_
      refine normal_thn ?_
      refine aw_seq ?_
      refine aw_region ?_
      refine g_u (s_load_imm rfl rfl rfl tA26 tS26 rfl rfl) ?_
      refine g_u (s_call1 (pcanonV_c _ (by omega)) rfl rfl) ?_
      refine g_uG (s_alloc' 1005 rfl rfl rfl tZ26) rfl ?_
      refine g_u (s_store_imm rfl rfl rfl tS26 rfl rfl) ?_
      refine g_nil ?_
      refine normal_thn ?_
      refine aw_seq ?_
      refine aw_seq ?_
      refine aw_draw mixed ?_
      refine g_u (s_load_agg rfl rfl rfl tA26 tS26 rfl rfl) ?_
      refine g_u (s_load_imm rfl rfl rfl tA26 tS26 rfl rfl) ?_
      refine g_u (s_call1 (canonV_c v (by omega)) rfl rfl) ?_
      refine g_u (s_call1 (rsameV_c _ (by omega) _) rfl rfl) ?_
      refine g_u (s_not rfl rfl) ?_
      refine g_u (s_mv_imm rfl rfl) ?_
      refine g_case (t := 22) rfl ?_
      rintro (hb3 | hb3)
      · exact killF hb3 ((by rw [sameV_refl]; rfl))
      · rw [hb3]
        refine g_run rfl rfl (s_load_agg rfl rfl rfl tA26 tS26 rfl rfl) ?_
        refine g_run rfl rfl (s_call1 (pcanonV_c _ (by omega)) rfl rfl) ?_
        refine g_run rfl rfl (s_load_agg rfl rfl rfl tA26 tS26 rfl rfl) ?_
        refine g_run rfl rfl (s_call1 (psameV_c _ (by omega) _) rfl rfl) ?_
        refine g_run rfl rfl (s_not rfl rfl) ?_
        refine g_u (s_pick_f rfl rfl rfl) ?_
        refine g_nil ⟨by kernel_rfl, ?_⟩
        refine normal_thn ?_
        refine aw_cond rfl (fun hb4 => ?_) (fun hb4 => ?_)
        · exact killF hb4 ((by rw [canonV_idem, sameV_refl]; rfl))
        · skip
          refine aw_skip ?_
          refine normal_thn ?_
          refine aw_seq ?_
          refine aw_seq ?_
          refine aw_draw mixed ?_
          refine g_u (s_fieldAddr rfl rfl fa26_5 rfl) ?_
          refine g_u (s_load_imm rfl rfl rfl tA24 tS24 rfl rfl) ?_
          refine g_u (s_call1 (pcanonAs_c _ (by omega)) rfl rfl) ?_
          refine g_u (s_fieldAddr rfl rfl fa26_5 rfl) ?_
          refine g_u (s_load_imm rfl rfl rfl tA24 tS24 rfl rfl) ?_
          refine g_u (s_call1 (canonAs_c v.map (by omega)) rfl rfl) ?_
          refine g_u (s_call1 (rsameAs_c _ _ (by omega)) rfl rfl) ?_
          refine g_u (s_not rfl rfl) ?_
          refine g_nil ⟨by kernel_rfl, ?_⟩
          refine normal_thn ?_
          refine aw_cond rfl (fun hb5 => ?_) (fun hb5 => ?_)
          · exact killF hb5 ((by rw [sameAs_refl]; rfl))
          · skip
            refine aw_skip ?_
            refine normal_thn ?_
            refine aw_seq ?_
            refine aw_draw mixed ?_
            refine g_u (s_load_imm rfl rfl rfl tA26 tS26 rfl rfl) ?_
            refine g_u (s_load_imm rfl rfl rfl tA26 tS26 rfl rfl) ?_
            refine g_u (s_call1 (psameV_c _ (by omega) _) rfl rfl) ?_
            refine g_u (s_load_imm rfl rfl rfl tA26 tS26 rfl rfl) ?_
            refine g_u (s_load_imm rfl rfl rfl tA26 tS26 rfl rfl) ?_
            refine g_u (s_call1 (rsameV_c _ (by omega) _) rfl rfl) ?_
            refine g_u (s_eqB rfl rfl rfl Try.underlying4) ?_
            refine g_u (s_mv_imm rfl rfl) ?_
            refine g_case (t := 44) rfl ?_
            rintro (hb6 | hb6)
            · rw [hb6]
              refine g_run rfl rfl (s_fieldAddr rfl rfl fa26_5 rfl) ?_
              refine g_run rfl rfl (s_load_imm rfl rfl rfl tA24 tS24 rfl rfl) ?_
              refine g_run rfl rfl (s_fieldAddr rfl rfl fa26_5 rfl) ?_
              refine g_run rfl rfl (s_load_imm rfl rfl rfl tA24 tS24 rfl rfl) ?_
              refine g_run rfl rfl (s_call1 (psameAs_c _ _ (by omega)) rfl rfl) ?_
              refine g_run rfl rfl (s_fieldAddr rfl rfl fa26_5 rfl) ?_
              refine g_run rfl rfl (s_load_imm rfl rfl rfl tA24 tS24 rfl rfl) ?_
              refine g_run rfl rfl (s_fieldAddr rfl rfl fa26_5 rfl) ?_
              refine g_run rfl rfl (s_load_imm rfl rfl rfl tA24 tS24 rfl rfl) ?_
              refine g_run rfl rfl (s_call1 (rsameAs_c _ _ (by omega)) rfl rfl) ?_
              refine g_run rfl rfl (s_eqB rfl rfl rfl Try.underlying4) ?_
              refine g_u (s_pick_t rfl rfl rfl) ?_
              refine g_u (s_mv_imm rfl rfl) ?_
              refine g_case (t := 57) rfl ?_
              rintro (hb7 | hb7)
              · rw [hb7]
                refine g_run rfl rfl (s_call1 (works24_c) rfl rfl) ?_
                refine g_u (s_pick_t rfl rfl rfl) ?_
                refine g_u (s_as_imm rfl rfl) ?_
                refine g_nil ⟨by kernel_rfl, ?_⟩
                refine normal_thn ?_
                refine aw_ret ?_
                exact ⟨⟨(rfl : toAV (Al.look _ _) = some _).trans (congrArg some (by rfl)), rfl⟩, trivial⟩
              · exact killT hb7 ((by exact beq_self_eq_true _))
            · exact killT hb6 ((by exact beq_self_eq_true _))

set_option maxHeartbeats 1000000 in
theorem valueRight_c (v : GV) (n : Int) (hn : 0 ≤ n ∧ n < 256) : PCall Try.prog Γ0 5 [v.av, cv n] [bv true] := by
  obtain ⟨k, hk⟩ : ∃ k : Nat, n % 40 = (k : Int) := ⟨(n % 40).toNat, by omega⟩
  have hk40 : k < 40 := by omega
  refine pcall_of Try.func5 rfl Try.ntmps5 (by kernel_rfl) rfl fun w0 I0 G0 => ?_
  refine aw_seq ?_
  refine aw_region ?_
  refine g_uG (s_box_imm 1002 rfl rfl rfl rfl) rfl ?_
  refine g_u (s_as_imm rfl rfl) ?_
  refine g_nil ?_
  refine normal_thn ?_
  refine aw_seq ?_
  refine aw_seq ?_
  refine aw_region ?_
  refine g_u (s_load_imm rfl rfl rfl tA26 tS26 rfl rfl) ?_
  refine g_u (s_call1 (leftV_c _ 2000 (by decide)) rfl rfl) ?_
  refine g_u (s_ltI rfl rfl rfl) ?_
  refine g_nil ?_
  refine normal_thn ?_
  refine aw_cond rfl (fun hb1 => ?_) (fun hb1 => ?_)
  · skip
    have z1 : leftV v 2000 < 0 := of_decide_eq_true hb1
    refine aw_seq ?_
    refine aw_region ?_
    refine g_u (s_call1 (works24_c) rfl rfl) ?_
    refine g_u (s_as_imm rfl rfl) ?_
    refine g_nil ?_
    refine normal_thn ?_
    refine aw_ret ?_
    refine ret_thn ?_
    exact ⟨⟨(rfl : toAV (Al.look _ _) = some _).trans (congrArg some (by rfl)), rfl⟩, trivial⟩
  · skip
    have z1 : ¬ leftV v 2000 < 0 := of_decide_eq_false hb1
    have hwv := leftV_le z1
    have hwc := wt_canonV v
    refine aw_skip ?_
    refine normal_thn ?_
    refine aw_seq ?_
    refine aw_seq ?_
    refine aw_draw mixed ?_
    refine g_u (s_load_imm rfl rfl rfl tA26 tS26 rfl rfl) ?_
    refine g_u (s_call1 (pcheck_c _ (by omega)) rfl rfl) ?_
    refine g_u (s_eqI rfl rfl rfl) ?_
    refine g_u (s_mv_imm rfl rfl) ?_
    refine g_case (t := 16) rfl ?_
    rintro (hb2 | hb2)
    · rw [hb2]
      have hcan : canonV v = v := canon_of_check v 0 (beq_iff_eq.1 hb2)
      refine g_run rfl rfl (s_load_imm rfl rfl rfl tA26 tS26 rfl rfl) ?_
      refine g_run rfl rfl (s_call1 (pcanonV_c _ (by omega)) rfl rfl) ?_
      refine g_run rfl rfl (s_load_imm rfl rfl rfl tA26 tS26 rfl rfl) ?_
      refine g_run rfl rfl (s_call1 (psameV_c _ (by omega) _) rfl rfl) ?_
      refine g_run rfl rfl (s_not rfl rfl) ?_
      refine g_u (s_pick_t rfl rfl rfl) ?_
      refine g_nil ⟨by kernel_rfl, ?_⟩
      refine normal_thn ?_
      refine aw_cond rfl (fun hb3 => ?_) (fun hb3 => ?_)
      · exact killF hb3 ((by rw [hcan, sameV_refl]; rfl))
      · skip
        refine aw_skip ?_
        refine normal_thn ?_
        refine aw_seq ?_
        refine aw_region ?_
        refine g_u (s_build rfl tU26 us26 pl26 rfl rfl rfl rfl) ?_
        refine g_uG (s_alloc' 1005 rfl rfl rfl tZ26) rfl ?_
        refine g_u (s_store_imm rfl rfl rfl tS26 rfl rfl) ?_
        refine g_nil ?_
        refine normal_thn ?_
        refine aw_seq ?_
        refine aw_region ?_
        refine g_u (s_mv_imm rfl rfl) ?_
        refine g_u (s_rem rfl rfl rfl (by decide)) ?_
        refine g_u (s_cvII rfl rfl Try.underlying5 Try.underlying3) ?_
        refine g_u (s_as_imm rfl rfl) ?_
        refine g_nil ?_
        refine normal_thn ?_
        refine aw_weak [(2, .ptr 1002 0), (1002, .box 26 (.imm v.av)), (5, .ptr 1005 0), (1005, .box 26 (.imm (nest 0).av)), (6, .imm (iv (k : Int)))] ⟨rfl, rfl, rfl, rfl, look_int rfl (by rw [Int.tmod_eq_emod_of_nonneg hn.1, hk, wrap64 (by omega) (by omega)]), trivial⟩ ?_
        refine aw_seq ?_
        refine aw_seq ?_
        refine aw_region ?_
        refine g_u (s_as_imm rfl rfl) ?_
        refine g_nil ?_
        refine normal_thn ?_
        refine aw_block ?_
        refine aw_loop' (fun i : Nat => [(2, .ptr 1002 0), (1002, .box 26 (.imm v.av)), (5, .ptr 1005 0), (1005, .box 26 (.imm (nest i).av)), (6, .imm (iv (k : Int))), (7, .imm (iv (i : Int)))]) (fun i => i ≤ k) (fun i => k - i) (0) ?_ ⟨rfl, rfl, rfl, rfl, rfl, rfl, trivial⟩ ?_
        · exact Nat.zero_le _
        · rintro i h1; have h1 : i ≤ k := h1
          refine aw_seq ?_
          refine aw_seq ?_
          refine aw_region ?_
          refine g_u (s_mv_imm rfl rfl) ?_
          refine g_u (s_mv_imm rfl rfl) ?_
          refine g_u (s_ltI rfl rfl rfl) ?_
          refine g_nil ?_
          refine normal_thn ?_
          refine aw_cond rfl (fun hb4 => ?_) (fun hb4 => ?_)
          · skip
            have hi : i < k := by have := of_decide_eq_true hb4; omega
            refine aw_skip ?_
            refine normal_thn ?_
            refine aw_seq ?_
            refine aw_block ?_
            refine aw_region ?_
            refine g_u (s_load_imm rfl rfl rfl tA26 tS26 rfl rfl) ?_
            refine g_u (s_buildSlice (X0 := z26) rfl Try.underlying23 tS26 tZ26 rfl rfl rfl rfl rfl rfl rfl rfl) ?_
            refine g_u (s_build rfl tU26 us26 pl26 rfl rfl rfl rfl) ?_
            refine g_u (s_store_imm rfl rfl rfl tS26 rfl rfl) ?_
            refine g_nil ?_
            refine normal_blk ?_
            refine normal_thn ?_
            refine aw_region ?_
            refine g_u (s_mv_imm rfl rfl) ?_
            refine g_u (s_add rfl rfl rfl) ?_
            refine g_u (s_as_imm rfl rfl) ?_
            refine g_nil ?_
            refine normal_thn ?_
            refine ⟨i + 1, hi, ⟨rfl, rfl, rfl, look_bimm rfl (nest_av i), rfl, look_int rfl (by rw [wrap64 (by omega) (by omega)]; rfl), trivial⟩, by (try dsimp only); omega⟩
          · skip
            have hin : i = k := by have := of_decide_eq_false hb4; omega
            have hxw := nest_wt i
            have hxc := nest_check i 0 (by omega) (by omega)
            have hxd := nest_deep i
            refine aw_exit ?_
            refine exit_thn ?_
            refine exit_thn ?_
            refine exit_blk ?_
            refine normal_thn ?_
            refine aw_seq ?_
            refine aw_region ?_
            refine g_u (s_as_imm rfl rfl) ?_
            refine g_nil ?_
            refine normal_thn ?_
            refine aw_seq ?_
            refine aw_seq ?_
            refine aw_region ?_
            refine g_u (s_mv_imm rfl rfl) ?_
            refine g_u (s_gtI rfl rfl rfl) ?_
            refine g_nil ?_
            refine normal_thn ?_
            refine aw_cond rfl (fun hb5 => ?_) (fun hb5 => ?_)
            · skip
              have z5 : (k : Int) > 16 := of_decide_eq_true hb5
              refine aw_region ?_
              refine g_u (s_as_imm rfl rfl) ?_
              refine g_nil ?_
              refine normal_thn ?_
              refine aw_seq ?_
              refine aw_region ?_
              refine g_u (s_load_imm rfl rfl rfl tA26 tS26 rfl rfl) ?_
              refine g_u (s_call1 (pcheck_c _ (by omega)) rfl rfl) ?_
              refine g_u (s_mv_imm rfl rfl) ?_
              refine g_u (s_eqI rfl rfl rfl) ?_
              refine g_u (s_mv_imm rfl rfl) ?_
              refine g_case (t := 41) rfl ?_
              rintro (hb6 | hb6)
              · rw [hb6]
                refine g_run rfl rfl (s_load_imm rfl rfl rfl tA26 tS26 rfl rfl) ?_
                refine g_run rfl rfl (s_call1 (pdeep_c _ (by omega)) rfl rfl) ?_
                refine g_run rfl rfl (s_mv_imm rfl rfl) ?_
                refine g_run rfl rfl (s_eqI rfl rfl rfl) ?_
                refine g_u (s_pick_t rfl rfl rfl) ?_
                refine g_u (s_mv_imm rfl rfl) ?_
                refine g_case (t := 47) rfl ?_
                rintro (hb7 | hb7)
                · rw [hb7]
                  refine g_run rfl rfl (s_call1 (works24_c) rfl rfl) ?_
                  refine g_u (s_pick_t rfl rfl rfl) ?_
                  refine g_u (s_as_imm rfl rfl) ?_
                  refine g_nil ?_
                  refine normal_thn ?_
                  refine aw_ret ?_
                  exact ⟨⟨(rfl : toAV (Al.look _ _) = some _).trans (congrArg some (by rfl)), rfl⟩, trivial⟩
                · exact killT hb7 ((by rw [hxd, hin]; exact beq_self_eq_true _))
              · exact killT hb6 ((by rw [hxc]; first | (rw [if_pos (by omega)]; rfl) | (rw [if_neg (by omega)]; rfl)))
            · skip
              have z5 : ¬ (k : Int) > 16 := of_decide_eq_false hb5
              refine aw_skip ?_
              refine normal_thn ?_
              refine aw_seq ?_
              refine aw_region ?_
              refine g_u (s_load_imm rfl rfl rfl tA26 tS26 rfl rfl) ?_
              refine g_u (s_call1 (pcheck_c _ (by omega)) rfl rfl) ?_
              refine g_u (s_mv_imm rfl rfl) ?_
              refine g_u (s_eqI rfl rfl rfl) ?_
              refine g_u (s_mv_imm rfl rfl) ?_
              refine g_case (t := 41) rfl ?_
              rintro (hb8 | hb8)
              · rw [hb8]
                refine g_run rfl rfl (s_load_imm rfl rfl rfl tA26 tS26 rfl rfl) ?_
                refine g_run rfl rfl (s_call1 (pdeep_c _ (by omega)) rfl rfl) ?_
                refine g_run rfl rfl (s_mv_imm rfl rfl) ?_
                refine g_run rfl rfl (s_eqI rfl rfl rfl) ?_
                refine g_u (s_pick_t rfl rfl rfl) ?_
                refine g_u (s_mv_imm rfl rfl) ?_
                refine g_case (t := 47) rfl ?_
                rintro (hb9 | hb9)
                · rw [hb9]
                  refine g_run rfl rfl (s_call1 (works24_c) rfl rfl) ?_
                  refine g_u (s_pick_t rfl rfl rfl) ?_
                  refine g_u (s_as_imm rfl rfl) ?_
                  refine g_nil ?_
                  refine normal_thn ?_
                  refine aw_ret ?_
                  exact ⟨⟨(rfl : toAV (Al.look _ _) = some _).trans (congrArg some (by rfl)), rfl⟩, trivial⟩
                · exact killT hb9 ((by rw [hxd, hin]; exact beq_self_eq_true _))
              · exact killT hb8 ((by rw [hxc]; first | (rw [if_pos (by omega)]; rfl) | (rw [if_neg (by omega)]; rfl)))
    · rw [hb2]
      refine g_skip rfl rfl rfl ?_
      refine g_skip rfl rfl rfl ?_
      refine g_skip rfl rfl rfl ?_
      refine g_skip rfl rfl rfl ?_
      refine g_skip rfl rfl rfl ?_
      refine g_u (s_pick_f rfl rfl rfl) ?_
      refine g_nil ⟨by kernel_rfl, ?_⟩
      refine normal_thn ?_
      refine aw_cond_false rfl ?_
      refine aw_skip ?_
      refine normal_thn ?_
      refine aw_seq ?_
      refine aw_region ?_
      refine g_u (s_build rfl tU26 us26 pl26 rfl rfl rfl rfl) ?_
      refine g_uG (s_alloc' 1005 rfl rfl rfl tZ26) rfl ?_
      refine g_u (s_store_imm rfl rfl rfl tS26 rfl rfl) ?_
      refine g_nil ?_
      refine normal_thn ?_
      refine aw_seq ?_
      refine aw_region ?_
      refine g_u (s_mv_imm rfl rfl) ?_
      refine g_u (s_rem rfl rfl rfl (by decide)) ?_
      refine g_u (s_cvII rfl rfl Try.underlying5 Try.underlying3) ?_
      refine g_u (s_as_imm rfl rfl) ?_
      refine g_nil ?_
      refine normal_thn ?_
      refine aw_weak [(2, .ptr 1002 0), (1002, .box 26 (.imm v.av)), (5, .ptr 1005 0), (1005, .box 26 (.imm (nest 0).av)), (6, .imm (iv (k : Int)))] ⟨rfl, rfl, rfl, rfl, look_int rfl (by rw [Int.tmod_eq_emod_of_nonneg hn.1, hk, wrap64 (by omega) (by omega)]), trivial⟩ ?_
      refine aw_seq ?_
      refine aw_seq ?_
      refine aw_region ?_
      refine g_u (s_as_imm rfl rfl) ?_
      refine g_nil ?_
      refine normal_thn ?_
      refine aw_block ?_
      refine aw_loop' (fun i : Nat => [(2, .ptr 1002 0), (1002, .box 26 (.imm v.av)), (5, .ptr 1005 0), (1005, .box 26 (.imm (nest i).av)), (6, .imm (iv (k : Int))), (7, .imm (iv (i : Int)))]) (fun i => i ≤ k) (fun i => k - i) (0) ?_ ⟨rfl, rfl, rfl, rfl, rfl, rfl, trivial⟩ ?_
      · exact Nat.zero_le _
      · rintro i h1; have h1 : i ≤ k := h1
        refine aw_seq ?_
        refine aw_seq ?_
        refine aw_region ?_
        refine g_u (s_mv_imm rfl rfl) ?_
        refine g_u (s_mv_imm rfl rfl) ?_
        refine g_u (s_ltI rfl rfl rfl) ?_
        refine g_nil ?_
        refine normal_thn ?_
        refine aw_cond rfl (fun hb10 => ?_) (fun hb10 => ?_)
        · skip
          have hi : i < k := by have := of_decide_eq_true hb10; omega
          refine aw_skip ?_
          refine normal_thn ?_
          refine aw_seq ?_
          refine aw_block ?_
          refine aw_region ?_
          refine g_u (s_load_imm rfl rfl rfl tA26 tS26 rfl rfl) ?_
          refine g_u (s_buildSlice (X0 := z26) rfl Try.underlying23 tS26 tZ26 rfl rfl rfl rfl rfl rfl rfl rfl) ?_
          refine g_u (s_build rfl tU26 us26 pl26 rfl rfl rfl rfl) ?_
          refine g_u (s_store_imm rfl rfl rfl tS26 rfl rfl) ?_
          refine g_nil ?_
          refine normal_blk ?_
          refine normal_thn ?_
          refine aw_region ?_
          refine g_u (s_mv_imm rfl rfl) ?_
          refine g_u (s_add rfl rfl rfl) ?_
          refine g_u (s_as_imm rfl rfl) ?_
          refine g_nil ?_
          refine normal_thn ?_
          refine ⟨i + 1, hi, ⟨rfl, rfl, rfl, look_bimm rfl (nest_av i), rfl, look_int rfl (by rw [wrap64 (by omega) (by omega)]; rfl), trivial⟩, by (try dsimp only); omega⟩
        · skip
          have hin : i = k := by have := of_decide_eq_false hb10; omega
          have hxw := nest_wt i
          have hxc := nest_check i 0 (by omega) (by omega)
          have hxd := nest_deep i
          refine aw_exit ?_
          refine exit_thn ?_
          refine exit_thn ?_
          refine exit_blk ?_
          refine normal_thn ?_
          refine aw_seq ?_
          refine aw_region ?_
          refine g_u (s_as_imm rfl rfl) ?_
          refine g_nil ?_
          refine normal_thn ?_
          refine aw_seq ?_
          refine aw_seq ?_
          refine aw_region ?_
          refine g_u (s_mv_imm rfl rfl) ?_
          refine g_u (s_gtI rfl rfl rfl) ?_
          refine g_nil ?_
          refine normal_thn ?_
          refine aw_cond rfl (fun hb11 => ?_) (fun hb11 => ?_)
          · skip
            have z5 : (k : Int) > 16 := of_decide_eq_true hb11
            refine aw_region ?_
            refine g_u (s_as_imm rfl rfl) ?_
            refine g_nil ?_
            refine normal_thn ?_
            refine aw_seq ?_
            refine aw_region ?_
            refine g_u (s_load_imm rfl rfl rfl tA26 tS26 rfl rfl) ?_
            refine g_u (s_call1 (pcheck_c _ (by omega)) rfl rfl) ?_
            refine g_u (s_mv_imm rfl rfl) ?_
            refine g_u (s_eqI rfl rfl rfl) ?_
            refine g_u (s_mv_imm rfl rfl) ?_
            refine g_case (t := 41) rfl ?_
            rintro (hb12 | hb12)
            · rw [hb12]
              refine g_run rfl rfl (s_load_imm rfl rfl rfl tA26 tS26 rfl rfl) ?_
              refine g_run rfl rfl (s_call1 (pdeep_c _ (by omega)) rfl rfl) ?_
              refine g_run rfl rfl (s_mv_imm rfl rfl) ?_
              refine g_run rfl rfl (s_eqI rfl rfl rfl) ?_
              refine g_u (s_pick_t rfl rfl rfl) ?_
              refine g_u (s_mv_imm rfl rfl) ?_
              refine g_case (t := 47) rfl ?_
              rintro (hb13 | hb13)
              · rw [hb13]
                refine g_run rfl rfl (s_call1 (works24_c) rfl rfl) ?_
                refine g_u (s_pick_t rfl rfl rfl) ?_
                refine g_u (s_as_imm rfl rfl) ?_
                refine g_nil ?_
                refine normal_thn ?_
                refine aw_ret ?_
                exact ⟨⟨(rfl : toAV (Al.look _ _) = some _).trans (congrArg some (by rfl)), rfl⟩, trivial⟩
              · exact killT hb13 ((by rw [hxd, hin]; exact beq_self_eq_true _))
            · exact killT hb12 ((by rw [hxc]; first | (rw [if_pos (by omega)]; rfl) | (rw [if_neg (by omega)]; rfl)))
          · skip
            have z5 : ¬ (k : Int) > 16 := of_decide_eq_false hb11
            refine aw_skip ?_
            refine normal_thn ?_
            refine aw_seq ?_
            refine aw_region ?_
            refine g_u (s_load_imm rfl rfl rfl tA26 tS26 rfl rfl) ?_
            refine g_u (s_call1 (pcheck_c _ (by omega)) rfl rfl) ?_
            refine g_u (s_mv_imm rfl rfl) ?_
            refine g_u (s_eqI rfl rfl rfl) ?_
            refine g_u (s_mv_imm rfl rfl) ?_
            refine g_case (t := 41) rfl ?_
            rintro (hb14 | hb14)
            · rw [hb14]
              refine g_run rfl rfl (s_load_imm rfl rfl rfl tA26 tS26 rfl rfl) ?_
              refine g_run rfl rfl (s_call1 (pdeep_c _ (by omega)) rfl rfl) ?_
              refine g_run rfl rfl (s_mv_imm rfl rfl) ?_
              refine g_run rfl rfl (s_eqI rfl rfl rfl) ?_
              refine g_u (s_pick_t rfl rfl rfl) ?_
              refine g_u (s_mv_imm rfl rfl) ?_
              refine g_case (t := 47) rfl ?_
              rintro (hb15 | hb15)
              · rw [hb15]
                refine g_run rfl rfl (s_call1 (works24_c) rfl rfl) ?_
                refine g_u (s_pick_t rfl rfl rfl) ?_
                refine g_u (s_as_imm rfl rfl) ?_
                refine g_nil ?_
                refine normal_thn ?_
                refine aw_ret ?_
                exact ⟨⟨(rfl : toAV (Al.look _ _) = some _).trans (congrArg some (by rfl)), rfl⟩, trivial⟩
              · exact killT hb15 ((by rw [hxd, hin]; exact beq_self_eq_true _))
            · exact killT hb14 ((by rw [hxc]; first | (rw [if_pos (by omega)]; rfl) | (rw [if_neg (by omega)]; rfl)))

end Go.Proofs

