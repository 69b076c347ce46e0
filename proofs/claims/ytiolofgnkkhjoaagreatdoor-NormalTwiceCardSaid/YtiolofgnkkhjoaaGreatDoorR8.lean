/- Texts that the proofs of this claim share, part 8: the abstract logic, plain Lean on values and batches, and walks. No condition but those typed in each lemma. -/
import Derived.Test.YtiolofgnkkhjoaaGreatDoorR7
set_option linter.unusedSimpArgs false
set_option linter.unusedVariables false
set_option maxHeartbeats 400000
namespace Go.Al
open Go.RowKit
def gNames (g gm go gs : Nat) : Nat → Nat
  | 0 => g
  | 1 => gm
  | 2 => go
  | _ => gs
def gPut (TG TS n : Nat) (keys : List ByteArray) (nums : List AV) (es ls : List (List AV)) (bs : List Nat) (g gm go gs : Nat) : St :=
  [(g, .box TG (.agg [.mref gm, .slg go 2 (vB es bs)])), (gm, .mpr (strs keys) nums), (go, .tok 2 (vB es bs)), (gs, .gen (ScF TS n bs ls bs.length))]
def dis4 (g gm go gs : Nat) : Bool := yq [g, gm, go, gs]
theorem dis4_ne {g gm go gs : Nat} (h : dis4 g gm go gs = true) : (g ≠ gm ∧ g ≠ go ∧ g ≠ gs) ∧ (gm ≠ go ∧ gm ≠ gs) ∧ go ≠ gs := by
  unfold dis4 at h
  simp only [yq, List.elem_eq_mem, List.mem_cons, List.not_mem_nil, or_false, Bool.and_eq_true, Bool.not_eq_true', decide_eq_false_iff_not, not_or, not_false_eq_true, and_true, decide_false, Bool.not_false] at h
  exact h
section
variable {C : Cx} {c : Code} {st : St} {Q : Exit → St → Prop} {TG TS n : Nat} {keys : List ByteArray} {nums : List AV} {es ls : List (List AV)}
theorem SimG.openG {A : Nat → SV} {G : Gh} {a : Act} {w : World} (S : SimG C A G a w) (g gm go gs : Nat) (hd : dis4 g gm go gs = true) (hK : gm < C.K ∧ go < C.K ∧ gs < C.K)
    (hg : A g = .gen (GrpF TG TS n keys nums es ls)) (hf : ∀ k, k ∉ [g, gm, go, gs] → noG [gm, go, gs] (A k) = true) :
    ∃ bs G', bs.length = es.length ∧ ls.length = bs.length ∧ SimG C (upd A (gPut TG TS n keys nums es ls bs g gm go gs)) G' a w := by
  obtain ⟨⟨d1, d2, d3⟩, ⟨d4, d5⟩, d6⟩ := dis4_ne hd
  have hh := S.holds g
  rw [hg] at hh
  simp only [Holds] at hh
  obtain ⟨hown, hbl, hok, hap⟩ := hh
  obtain ⟨cur, hcur⟩ : ∃ cur, cur = G.cur g := ⟨_, rfl⟩
  rw [← hcur] at hown hbl hok hap
  obtain ⟨bs, hbs⟩ : ∃ bs, bs = gBs cur := ⟨_, rfl⟩
  rw [← hbs] at hbl hok hap
  let B : Nat → Nat → Prop := fun k b => zm (gGh (fun _ _ => False) (G.blk g) cur) k b (gSt TG TS n keys nums es ls bs k)
  have hownB : ∀ k b, k < 4 → B k b → Owned C.w0 C.E w b := fun k b hk hb => hown b ⟨k, hk, by rw [← hbs]; exact hb⟩
  have hownG : ∀ k b, k < 4 → B k b → zm G g b (A g) := fun k b hk hb => by
    rw [hg]; exact ⟨k, hk, by rw [← hcur, ← hbs]; exact hb⟩
  let G' : Gh := { G with blk := fun k => if k = gm then decB (vAt cur 0) else G.blk k, cur := fun k => if k = go then vAt cur 1 else if k = gs then vAt cur 2 else G.cur k, len := fun k => if k = go then decN (vAt cur 3) else G.len k }
  have hoff : ∀ k, k ∉ [gm, go, gs] → G'.blk k = G.blk k ∧ G'.cur k = G.cur k ∧ G'.len k = G.len k := fun k hk => by
    simp only [List.mem_cons, List.not_mem_nil, or_false, not_or] at hk
    exact ⟨by simp only [G', if_neg hk.1], by simp only [G', if_neg hk.2.1, if_neg hk.2.2], by simp only [G', if_neg hk.2.1]⟩
  have p0 : upd A (gPut TG TS n keys nums es ls bs g gm go gs) g = .box TG (.agg [.mref gm, .slg go 2 (vB es bs)]) := by simp [upd, gPut]
  have p1 : upd A (gPut TG TS n keys nums es ls bs g gm go gs) gm = .mpr (strs keys) nums := by simp [upd, gPut, zM d1]
  have p2 : upd A (gPut TG TS n keys nums es ls bs g gm go gs) go = .tok 2 (vB es bs) := by simp [upd, gPut, zM d2, zM d4]
  have p3 : upd A (gPut TG TS n keys nums es ls bs g gm go gs) gs = .gen (ScF TS n bs ls bs.length) := by simp [upd, gPut, zM d3, zM d5, zM d6]
  have own' : ∀ k b, k ∈ [g, gm, go, gs] → zm G' k b (upd A (gPut TG TS n keys nums es ls bs g gm go gs) k) → ∃ i, i < 4 ∧ gNames g gm go gs i = k ∧ B i b := by
    intro k b hk hb
    simp only [List.mem_cons, List.not_mem_nil, or_false] at hk
    rcases hk with rfl | rfl | rfl | rfl
    · rw [p0] at hb
      refine ⟨0, by omega, rfl, ?_⟩
      simp only [zm, G', if_neg d1] at hb
      simpa only [B, gSt, zm, gGh, if_true] using hb
    · rw [p1] at hb
      refine ⟨1, by omega, rfl, ?_⟩
      simp only [zm, G', if_true] at hb
      simpa [B, gSt, zm, gGh] using hb
    · rw [p2] at hb
      refine ⟨2, by omega, rfl, ?_⟩
      simp only [zm, G', if_true] at hb
      simpa only [B, gSt, zm, gGh, if_true] using hb
    · rw [p3] at hb
      refine ⟨3, by omega, rfl, ?_⟩
      simp only [zm, G', if_neg (Ne.symm d6), if_true] at hb
      exact hb
  have h0 := hok 0 (by omega); have h1 := hok 1 (by omega); have h2 := hok 2 (by omega); have h3 := hok 3 (by omega)
  refine ⟨bs, G', hbl, ?_, S.tellKs [g, gm, go, gs] [gm, go, gs] (Le.refl _ _) (fun k hk => ?_) (fun k hk => ?_) (fun k hk => ?_) hf (fun _ _ h => .inl h) ?_ ?_ ?_⟩
  · simp only [gSt, Holds, ScF] at h3
    exact h3.2.2.1
  · obtain ⟨e1, e2, e3⟩ := hoff k hk
    exact ⟨e1, .inl ⟨e2, e3⟩⟩
  · obtain ⟨e1, e2, e3⟩ := hoff k (by simp; omega)
    exact ⟨e1, .inl ⟨e2, e3⟩⟩
  · exact ⟨vm (by simpa [gPut, xS] using hk), hoff k (fun h => hk (List.mem_cons_of_mem _ h))⟩
  · intro k hk b hb
    obtain ⟨i, hi, _, hB⟩ := own' k b hk hb
    exact ⟨g, by simp, hownG i b hi hB⟩
  · intro k hk
    simp only [List.mem_cons, List.not_mem_nil, or_false] at hk
    rcases hk with rfl | rfl | rfl | rfl
    · rw [p0]
      simp only [gSt, Holds, BoxS] at h0 ⊢
      obtain ⟨q1, ⟨cs, fr, q2, q3, q4⟩, q5⟩ := h0
      have eb : G'.blk k = G.blk k := by simp only [G', if_neg d1]
      rw [eb]
      have eg : (gGh G.I (G.blk k) cur).blk 0 = G.blk k := rfl
      rw [eg] at q1 q2 q5
      refine ⟨hownB 0 _ (by omega) rfl, ⟨cs, fr, q2, ?_, q4⟩, q5⟩
      simp only [RepS, xK] at q3 ⊢
      obtain ⟨c1, c2, e1, e2, c3, c4, e3, e4, e5⟩ := q3
      refine ⟨c1, c2, e1, ?_, c3, c4, e3, ?_, e5⟩
      · rw [e2]; simp [G', gGh]
      · simpa [G', gGh] using e4
    · rw [p1]
      simp only [gSt, Holds, MprS] at h1 ⊢
      have eb : G'.blk k = decB (vAt cur 0) := by simp only [G', if_true]
      rw [eb]
      have eg : (gGh G.I (G.blk g) cur).blk 1 = decB (vAt cur 0) := rfl
      rw [eg] at h1
      exact ⟨hownB 1 _ (by omega) rfl, h1.2⟩
    · rw [p2]
      simp only [gSt, Holds] at h2 ⊢
      have ec : G'.cur k = vAt cur 1 := by simp only [G', if_true]
      have el : G'.len k = decN (vAt cur 3) := by simp only [G', if_true]
      rw [ec, el]
      obtain ⟨q1, q2⟩ := h2
      refine ⟨q1, ?_⟩
      rcases q2 with q2 | ⟨b, cap, e1, e2, e3, e4, e5, e6, e7⟩
      · exact .inl q2
      · exact .inr ⟨b, cap, e1, e2, e3, e4, hownB 2 b (by omega) ⟨⟨b, 0, none⟩, _, _, e1, rfl⟩, e6, e7⟩
    · rw [p3]
      simp only [gSt, Holds] at h3 ⊢
      have ec : G'.cur k = vAt cur 2 := by simp only [G', if_neg (Ne.symm d6), if_true]
      rw [ec]
      exact ⟨fun b hb => hownB 3 b (by omega) hb, h3.2⟩
  · intro k j b hk hj hkj hb1 hb2
    obtain ⟨i1, l1, e1, hB1⟩ := own' k b hk hb1
    obtain ⟨i2, l2, e2, hB2⟩ := own' j b hj hb2
    exact hap i1 i2 b l1 l2 (by rintro rfl; exact hkj (e1.symm.trans e2)) hB1 hB2
theorem aw_openG (g gm go gs : Nat) (hd : dis4 g gm go gs = true) (hK : (Nat.blt gm C.K && Nat.blt go C.K && Nat.blt gs C.K) = true) (hg : look st g = .gen (GrpF TG TS n keys nums es ls)) (hf : uE [gm, go, gs] st = true)
    (h : ∀ bs : List Nat, bs.length = es.length → ls.length = bs.length → AW C c (gPut TG TS n keys nums es ls bs g gm go gs ++ st) Q) : AW C c st Q := by
  intro a w ⟨G, S⟩
  simp only [Bool.and_eq_true, Nat.blt_eq] at hK
  obtain ⟨bs, G', h1, h2, S'⟩ := S.openG g gm go gs hd ⟨hK.1.1, hK.1.2, hK.2⟩ hg (fun k _ => wW st hf k)
  rw [vG] at S'
  exact h bs h1 h2 a w ⟨G', S'⟩
theorem SimG.closeG {A : Nat → SV} {G : Gh} {a : Act} {w : World} (S : SimG C A G a w) (g gm go gs : Nat) {bs : List Nat} (hd : dis4 g gm go gs = true) (hbl : bs.length = es.length)
    (h0 : A g = .box TG (.agg [.mref gm, .slg go 2 (vB es bs)])) (h1 : A gm = .mpr (strs keys) nums) (h2 : A go = .tok 2 (vB es bs)) (h3 : A gs = .gen (ScF TS n bs ls bs.length)) :
    ∃ G', SimG C (upd A [(g, .gen (GrpF TG TS n keys nums es ls)), (gm, .dead), (go, .dead), (gs, .dead)]) G' a w := by
  obtain ⟨⟨d1, d2, d3⟩, ⟨d4, d5⟩, d6⟩ := dis4_ne hd
  obtain ⟨cur, hcur⟩ : ∃ cur : Value, cur = .tuple #[.pointer (some ⟨G.blk gm, 0, none⟩), G.cur go, G.cur gs, .int .i64 (G.len go), .tuple (bs.map fun b => Value.pointer (some ⟨b, 0, none⟩)).toArray] := ⟨_, rfl⟩
  have v0 : decB (vAt cur 0) = G.blk gm := by subst hcur; rfl
  have v1 : vAt cur 1 = G.cur go := by subst hcur; rfl
  have v2 : vAt cur 2 = G.cur gs := by subst hcur; rfl
  have v3 : decN (vAt cur 3) = G.len go := by subst hcur; rfl
  have v4 : gBs cur = bs := by
    subst hcur
    show (tupV (.tuple (bs.map fun b => Value.pointer (some ⟨b, 0, none⟩)).toArray)).map decB = bs
    simp only [tupV, List.map_map]
    have : (decB ∘ fun b => Value.pointer (some ⟨b, 0, none⟩)) = id := rfl
    rw [this, List.map_id]
  let G' : Gh := { G with cur := fun k => if k = g then cur else G.cur k, len := fun k => if k = g then G.len g + 1 else G.len k }
  have hoff : ∀ k, k ≠ g → G'.blk k = G.blk k ∧ G'.cur k = G.cur k ∧ G'.len k = G.len k := fun k hk => ⟨rfl, by simp only [G', if_neg hk], by simp only [G', if_neg hk]⟩
  have p0 : upd A [(g, .gen (GrpF TG TS n keys nums es ls)), (gm, .dead), (go, .dead), (gs, .dead)] g = .gen (GrpF TG TS n keys nums es ls) := by simp [upd]
  have pd : ∀ k, k ∈ [gm, go, gs] → upd A [(g, .gen (GrpF TG TS n keys nums es ls)), (gm, .dead), (go, .dead), (gs, .dead)] k = .dead := by
    intro k hk
    simp only [List.mem_cons, List.not_mem_nil, or_false] at hk
    rcases hk with rfl | rfl | rfl
    · simp [upd, zM d1]
    · simp [upd, zM d2, zM d4]
    · simp [upd, zM d3, zM d5, zM d6]
  let nm := gNames g gm go gs
  have own : ∀ k b, k < 4 → zm (gGh (fun _ _ => False) (G.blk g) cur) k b (gSt TG TS n keys nums es ls bs k) → zm G (nm k) b (A (nm k)) := by
    intro k b hk hb
    rcases lt4 hk with rfl | rfl | rfl | rfl
    · simp only [nm, gNames, h0]; exact hb
    · simp only [nm, gNames, h1]
      simp only [gSt, zm] at hb ⊢
      rw [← v0]; exact hb
    · simp only [nm, gNames, h2]
      simp only [gSt, zm] at hb ⊢
      rw [← v1]; exact hb
    · simp only [nm, gNames, h3]
      simp only [gSt, zm] at hb ⊢
      rw [← v2]; exact hb
  have hinj : ∀ {i j : Nat}, i < 4 → j < 4 → i ≠ j → nm i ≠ nm j := by
    intro i j hi hj hij
    rcases lt4 hi with rfl | rfl | rfl | rfl <;> rcases lt4 hj with rfl | rfl | rfl | rfl <;> simp only [nm, gNames] <;> first | exact absurd rfl hij | assumption | (apply Ne.symm; assumption)
  have hmem : ∀ k, k < 4 → nm k ∈ [g, gm, go, gs] := by
    intro k hk
    rcases lt4 hk with rfl | rfl | rfl | rfl <;> simp [nm, gNames]
  have own' : ∀ k b, k ∈ [g, gm, go, gs] → zm G' k b (upd A [(g, .gen (GrpF TG TS n keys nums es ls)), (gm, .dead), (go, .dead), (gs, .dead)] k) → k = g ∧ ∃ i, i < 4 ∧ zm G (nm i) b (A (nm i)) := by
    intro k b hk hb
    by_cases e : k = g
    · subst e
      rw [p0] at hb
      simp only [zm, GrpF, G', if_true, v4] at hb
      obtain ⟨i, hi, hb⟩ := hb
      exact ⟨rfl, i, hi, own i b hi hb⟩
    · rw [pd k (by simpa [e] using hk)] at hb
      simp only [zm] at hb
  refine ⟨G', S.tellKs [g, gm, go, gs] [] (Le.refl _ _) (fun k _ => ?_) (fun k _ => ?_) (fun k hk => ?_) (fun k _ => xa.1 _) (fun _ _ h => .inl h) ?_ ?_ ?_⟩
  · refine ⟨rfl, ?_⟩
    by_cases e : k = g
    · subst e; right; simp only [G', if_true]; omega
    · left; exact (hoff k e).2
  · refine ⟨rfl, ?_⟩
    by_cases e : k = g
    · subst e; right; simp only [G', if_true]; omega
    · left; exact (hoff k e).2
  · exact ⟨vm (by simpa [xS] using hk), hoff k (by rintro rfl; exact hk (by simp))⟩
  · intro k hk b hb
    obtain ⟨_, i, hi, hb⟩ := own' k b hk hb
    exact ⟨nm i, hmem i hi, hb⟩
  · intro k hk
    by_cases e : k = g
    · subst e
      rw [p0]
      simp only [Holds, GrpF, G', if_true, v4]
      refine ⟨fun b ⟨i, hi, hb⟩ => (S.holds (nm i)).owned (own i b hi hb), hbl, fun i hi => ?_, fun i j b hi hj hij hb1 hb2 => S.apart (nm i) (nm j) b (hinj hi hj hij) (own i b hi hb1) (own j b hj hb2)⟩
      rcases lt4 hi with rfl | rfl | rfl | rfl
      · have q := S.holds k
        rw [h0] at q
        simp only [gSt, Holds, BoxS] at q ⊢
        obtain ⟨q1, ⟨cs, fr, q2, q3, q4⟩, q5⟩ := q
        refine ⟨⟨.inr trivial, q1.2⟩, ⟨cs, fr, q2, ?_, q4⟩, q5⟩
        simp only [RepS, xK] at q3 ⊢
        obtain ⟨c1, c2, e1, e2, c3, c4, e3, e4, e5⟩ := q3
        refine ⟨c1, c2, e1, ?_, c3, c4, e3, ?_, e5⟩
        · rw [e2]; simp [gGh, v0]
        · simpa [gGh, v1, v3] using e4
      · have q := S.holds gm
        rw [h1] at q
        simp only [gSt, Holds, MprS] at q ⊢
        have eb : (gGh G.I (G.blk k) cur).blk 1 = G.blk gm := v0
        rw [eb]
        exact ⟨⟨.inr trivial, q.1.2⟩, q.2⟩
      · have q := S.holds go
        rw [h2] at q
        simp only [gSt, Holds] at q ⊢
        have ec : (gGh G.I (G.blk k) cur).cur 2 = G.cur go := v1
        have el : (gGh G.I (G.blk k) cur).len 2 = G.len go := v3
        rw [ec, el]
        exact ⟨q.1, q.2.own.1⟩
      · have q := S.holds gs
        rw [h3] at q
        simp only [gSt, Holds] at q ⊢
        have ec : (gGh G.I (G.blk k) cur).cur 3 = G.cur gs := v2
        rw [ec]
        exact ⟨fun b hb => ⟨.inr trivial, (q.1 b hb).2⟩, q.2⟩
    · rw [pd k (by simpa [e] using hk)]
      simp only [Holds]
  · intro k j b hk hj hkj hb1 hb2
    exact hkj ((own' k b hk hb1).1.trans (own' j b hj hb2).1.symm)
theorem aw_closeG (g gm go gs : Nat) (bs : List Nat) (TG TS n : Nat) (keys : List ByteArray) (nums : List AV) (es ls : List (List AV)) (hd : dis4 g gm go gs = true) (hbl : bs.length = es.length)
    (h0 : look st g = .box TG (.agg [.mref gm, .slg go 2 (vB es bs)])) (h1 : look st gm = .mpr (strs keys) nums) (h2 : look st go = .tok 2 (vB es bs)) (h3 : look st gs = .gen (ScF TS n bs ls bs.length))
    (h : AW C c ((g, .gen (GrpF TG TS n keys nums es ls)) :: (gm, .dead) :: (go, .dead) :: (gs, .dead) :: st) Q) : AW C c st Q := by
  intro a w ⟨G, S⟩
  obtain ⟨G', S'⟩ := S.closeG g gm go gs hd hbl h0 h1 h2 h3
  rw [vG] at S'
  exact h a w ⟨G', S'⟩
end
end Go.Al
namespace Go.Al
open Go.RowKit
theorem snoc_get {α : Type} {l : List α} {x y : α} {j : Nat} (h : (l ++ [x])[j]? = some y) : (j < l.length ∧ l[j]? = some y) ∨ (j = l.length ∧ y = x) := by
  by_cases hj : j < l.length
  · rw [List.getElem?_append_left hj] at h; exact .inl ⟨hj, h⟩
  · rw [List.getElem?_append_right (by omega)] at h
    have hlt := (List.getElem?_eq_some_iff.1 h).1
    have : j - l.length = 0 := by simp at hlt; omega
    rw [this] at h
    exact .inr ⟨by omega, by simpa using h.symm⟩
section
variable {C : Cx} {c : Code} {st : St} {Q : Exit → St → Prop} {TG TS n : Nat}
theorem SimG.openOut {A : Nat → SV} {G : Gh} {a : Act} {w : World} (S : SimG C A G a w) (g gm go gs : Nat) {bs : List Nat} {ls : List (List AV)} {rows e : List AV} (hd : yq [g, go, gs] = true) (hK : gs < C.K)
    (ho : A go = .gen (OutF TS n rows e)) (hg : A g = .box TG (.agg [.mref gm, .slg go 0 (uN (rows ++ [.agg []]))])) (hs : A gs = .gen (ScF TS n bs ls bs.length)) :
    ∃ b G', SimG C (upd A [(g, .box TG (.agg [.mref gm, .slg go 2 (rows ++ [resX e b])])), (go, .tok 2 (rows ++ [resX e b])), (gs, .gen (ScF TS n (bs ++ [b]) (ls ++ [[]]) (bs ++ [b]).length))]) G' a w := by
  simp only [yq, List.elem_eq_mem, List.mem_cons, List.not_mem_nil, or_false, Bool.and_eq_true, Bool.not_eq_true', decide_eq_false_iff_not, not_or, not_false_eq_true, and_true, decide_false, Bool.not_false] at hd
  obtain ⟨⟨d1, d2⟩, d3⟩ := hd
  have h1 := S.holds go
  rw [ho] at h1
  simp only [Holds, OutF] at h1
  obtain ⟨how, hsc, hlen, htok, hself⟩ := h1
  obtain ⟨b, hb⟩ : ∃ b, b = G.blk go := ⟨_, rfl⟩
  rw [← hb] at how hsc htok hself
  have h3 := S.holds gs
  rw [hs] at h3
  simp only [Holds, ScF] at h3
  obtain ⟨sow, sl1, sl2, sok, _, sap, sself⟩ := h3
  have hex : ∀ {j : Nat} {c : Nat}, bs[j]? = some c → j ≠ bs.length := fun hc => by have := (List.getElem?_eq_some_iff.1 hc).1; omega
  let G' : Gh := { G with cur := fun k => if k = gs then .tuple (tupV (G.cur gs) ++ [Value.slice none 0 0]).toArray else G.cur k, len := fun k => if k = gs then G.len gs + 1 else G.len k }
  have hoff : ∀ k, k ≠ gs → G'.blk k = G.blk k ∧ G'.cur k = G.cur k ∧ G'.len k = G.len k := fun k hk => ⟨rfl, by simp only [G', if_neg hk], by simp only [G', if_neg hk]⟩
  have hcur : tupV (G'.cur gs) = tupV (G.cur gs) ++ [Value.slice none 0 0] := by simp only [G', if_true, tupV]
  have ownO : ∀ c, (c = b ∨ c ∈ hdrB (G.cur go)) → zm G go c (A go) := fun c hc => by rw [ho]; simp only [zm, OutF]; rw [← hb]; exact hc
  have ownS : ∀ {j c : Nat} {v : Value} {x : Nat}, bs[j]? = some c → (tupV (G.cur gs))[j]? = some v → (x = c ∨ x ∈ hdrB v) → zm G gs x (A gs) := fun h1 h2 h3 => by
    rw [hs]; exact ⟨_, _, _, h1, h2, h3.imp_right fun h => ⟨hex h1, h⟩⟩
  have part : ∀ {j c : Nat} {v : Value}, (bs ++ [b])[j]? = some c → (tupV (G.cur gs) ++ [Value.slice none 0 0])[j]? = some v → (j < bs.length ∧ bs[j]? = some c ∧ (tupV (G.cur gs))[j]? = some v) ∨ (j = bs.length ∧ c = b ∧ v = .slice none 0 0) := by
    intro j c v h1 h2
    rcases snoc_get h1 with ⟨q1, q2⟩ | ⟨q1, q2⟩ <;> rcases snoc_get h2 with ⟨r1, r2⟩ | ⟨r1, r2⟩
    · exact .inl ⟨q1, q2, r2⟩
    · omega
    · omega
    · exact .inr ⟨q1, q2, r2⟩
  have hnn : ∀ x, x ∉ hdrB (.slice none 0 0) := fun x h => by cases h
  have p1 : upd A [(g, .box TG (.agg [.mref gm, .slg go 2 (rows ++ [resX e b])])), (go, .tok 2 (rows ++ [resX e b])), (gs, .gen (ScF TS n (bs ++ [b]) (ls ++ [[]]) (bs ++ [b]).length))] g = .box TG (.agg [.mref gm, .slg go 2 (rows ++ [resX e b])]) := by simp [upd]
  have p2 : upd A [(g, .box TG (.agg [.mref gm, .slg go 2 (rows ++ [resX e b])])), (go, .tok 2 (rows ++ [resX e b])), (gs, .gen (ScF TS n (bs ++ [b]) (ls ++ [[]]) (bs ++ [b]).length))] go = .tok 2 (rows ++ [resX e b]) := by simp [upd, zM d1]
  have p3 : upd A [(g, .box TG (.agg [.mref gm, .slg go 2 (rows ++ [resX e b])])), (go, .tok 2 (rows ++ [resX e b])), (gs, .gen (ScF TS n (bs ++ [b]) (ls ++ [[]]) (bs ++ [b]).length))] gs = .gen (ScF TS n (bs ++ [b]) (ls ++ [[]]) (bs ++ [b]).length) := by simp [upd, zM d2, zM d3]
  have own' : ∀ k x, k ∈ [g, go, gs] → zm G' k x (upd A [(g, .box TG (.agg [.mref gm, .slg go 2 (rows ++ [resX e b])])), (go, .tok 2 (rows ++ [resX e b])), (gs, .gen (ScF TS n (bs ++ [b]) (ls ++ [[]]) (bs ++ [b]).length))] k) →
      (k = g ∧ zm G g x (A g)) ∨ (k = go ∧ x ∈ hdrB (G.cur go)) ∨ (k = gs ∧ (zm G gs x (A gs) ∨ x = b)) := by
    intro k x hk hx
    simp only [List.mem_cons, List.not_mem_nil, or_false] at hk
    rcases hk with rfl | rfl | rfl
    · rw [p1] at hx
      exact .inl ⟨rfl, by rw [hg]; exact hx⟩
    · rw [p2] at hx
      simp only [zm, G', if_neg d3] at hx
      obtain ⟨ad, m, cp, e1, e2⟩ := hx
      exact .inr (.inl ⟨rfl, by rw [e1, ← e2]; exact List.mem_singleton.2 rfl⟩)
    · rw [p3] at hx
      simp only [zm, ScF] at hx
      rw [hcur] at hx
      obtain ⟨j, c, v, h1, h2, h3⟩ := hx
      replace h3 : x = c ∨ x ∈ hdrB v := h3.imp_right And.right
      rcases part h1 h2 with ⟨_, q2, q3⟩ | ⟨_, rfl, rfl⟩
      · exact .inr (.inr ⟨rfl, .inl (ownS q2 q3 h3)⟩)
      · exact .inr (.inr ⟨rfl, .inr (h3.elim id fun h => absurd h (hnn x))⟩)
  have sepS : ∀ x, zm G gs x (A gs) → x ≠ b := fun x hx e => S.apart gs go x (Ne.symm d3) hx (ownO x (.inl e))
  refine ⟨b, G', S.tellKs [g, go, gs] [] (Le.refl _ _) (fun k _ => ?_) (fun k hk => ?_) (fun k hk => ?_) (fun k _ => xa.1 _) (fun _ _ h => .inl h) ?_ ?_ ?_⟩
  · refine ⟨rfl, ?_⟩
    by_cases h : k = gs
    · subst h; right; simp only [G', if_true]; omega
    · left; exact (hoff k h).2
  · refine ⟨rfl, .inl (hoff k (by omega)).2⟩
  · exact ⟨vm (by simpa [xS] using hk), hoff k (by rintro rfl; exact hk (by simp))⟩
  · intro k hk x hx
    rcases own' k x hk hx with ⟨_, h⟩ | ⟨_, h⟩ | ⟨_, h | h⟩
    · exact ⟨g, by simp, h⟩
    · exact ⟨go, by simp, ownO x (.inr h)⟩
    · exact ⟨gs, by simp, h⟩
    · exact ⟨go, by simp, ownO x (.inl h)⟩
  · intro k hk
    simp only [List.mem_cons, List.not_mem_nil, or_false] at hk
    rcases hk with rfl | rfl | rfl
    · rw [p1]
      have q := S.holds k
      rw [hg] at q
      simp only [Holds, BoxS] at q ⊢
      obtain ⟨q1, ⟨cs, fr, q2, q3, q4⟩, q5⟩ := q
      refine ⟨q1, ⟨cs, fr, q2, ?_, q4⟩, q5⟩
      simp only [RepS, xK] at q3 ⊢
      obtain ⟨c1, c2, e1, e2, c3, c4, e3, ⟨v, e4, e5, e6, e7⟩, e8⟩ := q3
      have hul : (uN (rows ++ [AV.agg []])).length = rows.length + 1 := by simp [uN]
      have hv : v = G.cur go := e7 (by rw [hul]; exact hlen.symm)
      refine ⟨c1, c2, e1, e2, c3, c4, e3, ⟨v, e4, ?_, by simp only [G', if_neg d3, List.length_append, List.length_singleton]; omega, fun _ => by simp only [G', if_neg d3]; exact hv⟩, e8⟩
      simp only [RepC]
      rcases htok with ⟨_, h⟩ | ⟨b', cap, t1, t2, t3, t4, _⟩
      · simp at h
      · exact ⟨v, rfl, .inr ⟨b', 0, cap, by rw [hv]; exact t1, t2, t3, t4⟩⟩
    · rw [p2]
      simp only [Holds, G', if_neg d3]
      refine ⟨by rw [hlen]; simp, ?_⟩
      rcases htok with h | ⟨b', cap, t1, t2, t3, t4, t5, t6, t7⟩
      · exact .inl h
      · exact .inr ⟨b', cap, t1, t2, t3, t4, how b' (.inr (by rw [t1]; exact List.mem_singleton.2 rfl)), t6, t7⟩
    · rw [p3]
      simp only [Holds, ScF]
      rw [hcur]
      refine ⟨?_, by simp [sl1], by simp [sl2], ?_, ?_, ?_, ?_⟩
      · rintro x ⟨j, c, v, h1, h2, h3⟩
        replace h3 : x = c ∨ x ∈ hdrB v := h3.imp_right And.right
        rcases part h1 h2 with ⟨_, q2, q3⟩ | ⟨_, rfl, rfl⟩
        · exact (S.holds k).owned (ownS q2 q3 h3)
        · exact how x (.inl (h3.elim id fun h => absurd h (hnn x)))
      · intro j c v l _ h1 h2 h4
        rcases part h1 h2 with ⟨q1, q2, q3⟩ | ⟨q1, rfl, rfl⟩
        · rw [List.getElem?_append_left (by omega)] at h4
          exact sok j c v l (hex q2) q2 q3 h4
        · have : l = [] := by
            rcases snoc_get h4 with ⟨r1, _⟩ | ⟨_, r2⟩
            · omega
            · exact r2
          subst this; exact hsc
      · intro c hc
        rw [List.getElem?_eq_none (Nat.le_refl _)] at hc; cases hc
      · intro j j' c c' v v' x hjj h1 h1' h2 h2' h4 h5
        replace h4 : x = c ∨ x ∈ hdrB v := h4.imp_right And.right
        replace h5 : x = c' ∨ x ∈ hdrB v' := h5.imp_right And.right
        rcases part h1 h2 with ⟨q1, q2, q3⟩ | ⟨q1, rfl, rfl⟩ <;> rcases part h1' h2' with ⟨r1, r2, r3⟩ | ⟨r1, rfl, rfl⟩
        · exact sap j j' c c' v v' x hjj q2 r2 q3 r3 (h4.imp_right fun h => ⟨hex q2, h⟩) (h5.imp_right fun h => ⟨hex r2, h⟩)
        · have hx : x = c' := h5.elim id fun h => absurd h (hnn x)
          exact sepS x (ownS q2 q3 h4) hx
        · have hx : x = c := h4.elim id fun h => absurd h (hnn x)
          exact sepS x (ownS r2 r3 h5) hx
        · omega
      · intro j c v _ h1 h2
        rcases part h1 h2 with ⟨q1, q2, q3⟩ | ⟨q1, rfl, rfl⟩
        · exact sself j c v (hex q2) q2 q3
        · exact hnn c
  · intro k j x hk hj hkj h1 h2
    rcases own' k x hk h1 with ⟨rfl, p⟩ | ⟨rfl, p⟩ | ⟨rfl, p⟩ <;> rcases own' j x hj h2 with ⟨rfl, q⟩ | ⟨rfl, q⟩ | ⟨rfl, q⟩
    · exact hkj rfl
    · exact S.apart k j x hkj p (ownO x (.inr q))
    · rcases q with q | q
      · exact S.apart k j x hkj p q
      · exact S.apart k go x d1 p (ownO x (.inl q))
    · exact S.apart j k x (Ne.symm hkj) q (ownO x (.inr p))
    · exact hkj rfl
    · rcases q with q | q
      · exact S.apart k j x hkj (ownO x (.inr p)) q
      · subst q; exact hself p
    · rcases p with p | p
      · exact S.apart k j x hkj p q
      · exact S.apart go j x (Ne.symm d1) (ownO x (.inl p)) q
    · rcases p with p | p
      · exact S.apart k j x hkj p (ownO x (.inr q))
      · subst p; exact hself q
    · exact hkj rfl
theorem aw_openOut (g gm go gs : Nat) (bs : List Nat) (ls : List (List AV)) (rows e : List AV) (TG TS n : Nat) (hd : yq [g, go, gs] = true) (hK : Nat.blt gs C.K = true)
    (ho : look st go = .gen (OutF TS n rows e)) (hg : look st g = .box TG (.agg [.mref gm, .slg go 0 (uN (rows ++ [.agg []]))])) (hs : look st gs = .gen (ScF TS n bs ls bs.length))
    (h : ∀ b : Nat, AW C c ((g, .box TG (.agg [.mref gm, .slg go 2 (rows ++ [resX e b])])) :: (go, .tok 2 (rows ++ [resX e b])) :: (gs, .gen (ScF TS n (bs ++ [b]) (ls ++ [[]]) (bs ++ [b]).length)) :: st) Q) : AW C c st Q := by
  intro a w ⟨G, S⟩
  obtain ⟨b, G', S'⟩ := S.openOut g gm go gs hd (by simpa [Nat.blt_eq] using hK) ho hg hs
  rw [vG] at S'
  exact h b a w ⟨G', S'⟩
def resA (n : Nat) (e l : List AV) : AV := .agg [.sl 7 e, .sl 3 [.agg [.v (.string .empty), .v (.string .empty), .sl n l]]]
theorem repM_res {w : World} {I I' : Nat → Nat → Prop} {T n : Nat} (hle : Le w I w I') : ∀ (es ls : List (List AV)) (bs : List Nat) (b o : Nat), es.length = bs.length → ls.length = bs.length →
    (∀ (j b : Nat) (l : List AV), bs[j]? = some b → ls[j]? = some l → (∀ o, I' b o) ∧ ∃ v, ScOk T n w I b v l) → RepM w I 2 (vB es bs) b o → RepM w I' 2 (List.zipWith (resA n) es ls) b o
  | [], [], [], _, _, _, _, _, _ => by simp only [List.zipWith_nil_left, RepM]
  | e :: es, l :: ls, c :: bs, b, o, h1, h2, h, r => by
    simp only [vB, List.zipWith_cons_cons, RepM] at r ⊢
    obtain ⟨⟨cs, k1, k2, k3⟩, k4⟩ := r
    refine ⟨⟨cs, k1, ?_, k3.mono hle⟩, repM_res hle es ls bs b (o + 2) (by simpa using h1) (by simpa using h2) (fun j => h (j + 1)) k4⟩
    obtain ⟨hI, v, hs⟩ := h 0 c l rfl rfl
    obtain ⟨s1, ⟨fr, s2, s3⟩, s4, s5⟩ := hs
    simp only [resX, resA, RepC, xH] at k2 ⊢
    obtain ⟨c1, c2, q1, q2, c3, c4, q3, ⟨q4, _⟩, q5⟩ := k2
    refine ⟨c1, c2, q1, RepC.mono hle (.sl 7 e) c1 (by simpa only [RepC] using q2), c3, c4, q3, ?_, q5⟩
    have q4' : c3 = [Value.slice (some ⟨c, 0, none⟩) 1 1] := by rw [q4]; rfl
    refine ⟨_, q4', .inr ⟨c, 0, 1, rfl, Nat.le_refl _, by unfold maxLen; omega, ?_⟩⟩
    simp only [RepM, RepC, xH]
    refine ⟨⟨[.string .empty, .string .empty, v], rfl, ⟨[.string .empty], [.string .empty, v], rfl, ⟨rfl, rfl⟩, [.string .empty], [v], rfl, ⟨rfl, rfl⟩, [v], [], rfl, ⟨v, rfl, ?_⟩, rfl⟩, fun j hj => ⟨?_, hI _⟩⟩, trivial⟩
    · rcases s5 with ⟨rfl, rfl⟩ | ⟨b', cap, t1, t2, t3, t4, _⟩
      · exact .inl (nil_sl n)
      · exact .inr ⟨b', 0, cap, t1, t2, t3, RepM.mono hle _ _ _ _ t4⟩
    · rw [u_ s2, Nat.zero_add, Array.getElem?_eq_getElem (by simpa using hj)]
      have : ∀ (j : Nat) (h1 : j < 3), (#[Value.string .empty, .string .empty, v] : Array Value)[j]'(by simpa using h1) = [Value.string .empty, .string .empty, v][j]'(by simpa using h1) := by
        intro j h1
        simp
      rw [this j (by simpa using hj)]
  | [], l :: ls, _, _, _, h1, h2, _, _ => by simp at h1 h2; omega
  | e :: es, [], _, _, _, h1, h2, _, _ => by simp at h1 h2; omega
  | [], [], c :: bs, _, _, h1, _, _, _ => by simp at h1
  | e :: es, l :: ls, [], _, _, h1, _, _, _ => by simp at h1
theorem SimG.finalG {A : Nat → SV} {G : Gh} {a : Act} {w : World} (S : SimG C A G a w) (g gm go gs : Nat) {bs : List Nat} {es ls : List (List AV)} (hd : yq [g, go, gs] = true) (h1 : es.length = bs.length) (h2 : ls.length = bs.length)
    (hg : A g = .box TG (.agg [.mref gm, .slg go 2 (vB es bs)])) (ho : A go = .tok 2 (vB es bs)) (hs : A gs = .gen (ScF TS n bs ls bs.length)) :
    ∃ G', SimG C (upd A [(g, .box TG (.agg [.mref gm, .imm (.sl 2 (List.zipWith (resA n) es ls))])), (go, .dead), (gs, .dead)]) G' a w := by
  simp only [yq, List.elem_eq_mem, List.mem_cons, List.not_mem_nil, or_false, Bool.and_eq_true, Bool.not_eq_true', decide_eq_false_iff_not, not_or, not_false_eq_true, and_true, decide_false, Bool.not_false] at hd
  obtain ⟨⟨d1, d2⟩, d3⟩ := hd
  have h3 := S.holds gs
  rw [hs] at h3
  simp only [Holds, ScF] at h3
  obtain ⟨sow, sl1, sl2, sok, _, sap, sself⟩ := h3
  have hex : ∀ {j : Nat} {c : Nat}, bs[j]? = some c → j ≠ bs.length := fun hc => by have := (List.getElem?_eq_some_iff.1 hc).1; omega
  let G' : Gh := { G with I := fun b o => G.I b o ∨ b ∈ bs }
  have hle : Le w G.I w G'.I := fun b o h => ⟨.inl h, rfl, fun _ _ h => h⟩
  have ownS : ∀ b, b ∈ bs → zm G gs b (A gs) := fun b hb => by
    obtain ⟨j, hj⟩ := List.getElem?_of_mem hb
    have hlt := (List.getElem?_eq_some_iff.1 hj).1
    rw [hs]
    exact ⟨j, b, (tupV (G.cur gs))[j]'(by omega), hj, List.getElem?_eq_getElem _, .inl rfl⟩
  have p1 : upd A [(g, .box TG (.agg [.mref gm, .imm (.sl 2 (List.zipWith (resA n) es ls))])), (go, .dead), (gs, .dead)] g = .box TG (.agg [.mref gm, .imm (.sl 2 (List.zipWith (resA n) es ls))]) := by simp [upd]
  have pd : ∀ k, k ∈ [go, gs] → upd A [(g, .box TG (.agg [.mref gm, .imm (.sl 2 (List.zipWith (resA n) es ls))])), (go, .dead), (gs, .dead)] k = .dead := by
    intro k hk
    simp only [List.mem_cons, List.not_mem_nil, or_false] at hk
    rcases hk with rfl | rfl
    · simp [upd, zM d1]
    · simp [upd, zM d2, zM d3]
  have own' : ∀ k x, k ∈ [g, go, gs] → zm G' k x (upd A [(g, .box TG (.agg [.mref gm, .imm (.sl 2 (List.zipWith (resA n) es ls))])), (go, .dead), (gs, .dead)] k) → k = g ∧ zm G g x (A g) := by
    intro k x hk hx
    by_cases e : k = g
    · subst e
      rw [p1] at hx
      exact ⟨rfl, by rw [hg]; exact hx⟩
    · rw [pd k (by simpa [e] using hk)] at hx
      simp only [zm] at hx
  refine ⟨G', S.tellKs [g, go, gs] [] hle (fun k _ => ⟨rfl, .inl ⟨rfl, rfl⟩⟩) (fun k _ => ⟨rfl, .inl ⟨rfl, rfl⟩⟩) (fun k hk => ⟨vm (by simpa [xS] using hk), rfl, rfl, rfl⟩) (fun k _ => xa.1 _) (fun b o h => h.imp_right fun h => ⟨gs, by simp, ownS b h⟩) ?_ ?_ ?_⟩
  · intro k hk x hx
    exact ⟨g, by simp, (own' k x hk hx).2⟩
  · intro k hk
    by_cases e : k = g
    · subst e
      rw [p1]
      have q := S.holds k
      rw [hg] at q
      simp only [Holds, BoxS] at q ⊢
      obtain ⟨q1, ⟨cs, fr, q2, q3, q4⟩, q5⟩ := q
      refine ⟨q1, ⟨cs, fr, q2, ?_, q4⟩, fun o h => ?_⟩
      · simp only [RepS, xK] at q3 ⊢
        obtain ⟨c1, c2, e1, e2, c3, c4, e3, ⟨v, e4, e5, _, _⟩, e8⟩ := q3
        refine ⟨c1, c2, e1, e2, c3, c4, e3, ?_, e8⟩
        have hzl : (List.zipWith (resA n) es ls).length = (vB es bs).length := by simp only [vB, List.length_zipWith]; omega
        simp only [RepC] at e5 ⊢
        obtain ⟨v', r0, r1⟩ := e5
        cases r0
        refine ⟨v, e4, ?_⟩
        rcases r1 with ⟨p, cap, r2, r3, r4⟩ | ⟨b', o', cap, r2, r3, r4, r5⟩
        · refine .inl ⟨p, cap, r2, ?_, r4⟩
          rw [r3] at hzl
          exact List.eq_nil_of_length_eq_zero hzl
        · refine .inr ⟨b', o', cap, by rw [hzl]; exact r2, by rw [hzl]; exact r3, r4, ?_⟩
          refine repM_res (T := TS) hle es ls bs b' o' h1 h2 (fun j b l hj hl => ?_) r5
          have hlt := (List.getElem?_eq_some_iff.1 hj).1
          obtain ⟨v, hv⟩ : ∃ v, (tupV (G.cur gs))[j]? = some v := ⟨_, List.getElem?_eq_getElem (by omega)⟩
          exact ⟨fun o => .inr (List.mem_of_getElem? hj), v, sok j b v l (hex hj) hj hv hl⟩
      · rcases h with h | h
        · exact q5 o h
        · exact S.apart k gs _ d2 (by rw [hg]; rfl) (ownS _ h)
    · rw [pd k (by simpa [e] using hk)]
      simp only [Holds]
  · intro k j x hk hj hkj h1 h2
    exact hkj ((own' k x hk h1).1.trans (own' j x hj h2).1.symm)
theorem aw_finalG (g gm go gs : Nat) (bs : List Nat) (es ls : List (List AV)) (TG TS n : Nat) (hd : yq [g, go, gs] = true) (h1 : es.length = bs.length) (h2 : ls.length = bs.length)
    (hg : look st g = .box TG (.agg [.mref gm, .slg go 2 (vB es bs)])) (ho : look st go = .tok 2 (vB es bs)) (hs : look st gs = .gen (ScF TS n bs ls bs.length))
    (h : AW C c ((g, .box TG (.agg [.mref gm, .imm (.sl 2 (List.zipWith (resA n) es ls))])) :: (go, .dead) :: (gs, .dead) :: st) Q) : AW C c st Q := by
  intro a w ⟨G, S⟩
  obtain ⟨G', S'⟩ := S.finalG g gm go gs hd h1 h2 hg ho hs
  rw [vG] at S'
  exact h a w ⟨G', S'⟩
end
end Go.Al
namespace Go.Al
open Go.RowKit
section
variable {C : Cx} {c : Code} {st : St} {Q : Exit → St → Prop} {TG TS n : Nat} {keys : List ByteArray} {nums : List AV} {es ls : List (List AV)}
theorem aw_openG' (g gm go gs : Nat) (hd : dis4 g gm go gs = true) (hK : (Nat.blt gm C.K && Nat.blt go C.K && Nat.blt gs C.K) = true) (hg : look st g = .gen (GrpF TG TS n keys nums es ls)) (hf : uE [gm, go, gs] st = true)
    (h : ∀ bs : List Nat, bs.length = es.length → ls.length = bs.length → AW C c ((g, .box TG (.agg [.mref gm, .slg go 2 (vB es bs)])) :: (gm, .mpr (strs keys) nums) :: (go, .tok 2 (vB es bs)) :: (gs, .gen (ScF TS n bs ls bs.length)) :: st) Q) : AW C c st Q :=
  aw_openG g gm go gs hd hK hg hf h
theorem aw_endG (g gm go gs : Nat) (bs : List Nat) (TG TS n : Nat) (keys : List ByteArray) (nums : List AV) (es ls : List (List AV)) (hd : dis4 g gm go gs = true) (hbl : bs.length = es.length)
    (h : AW C c st (thn (fun st' => look st' g = .box TG (.agg [.mref gm, .slg go 2 (vB es bs)]) ∧ look st' gm = .mpr (strs keys) nums ∧ look st' go = .tok 2 (vB es bs) ∧ look st' gs = .gen (ScF TS n bs ls bs.length) ∧
      Q .normal ((g, .gen (GrpF TG TS n keys nums es ls)) :: (gm, .dead) :: (go, .dead) :: (gs, .dead) :: st')) Q)) : AW C c st Q := by
  intro a w S n
  refine wpIn_mono (h a w S n) ?_
  rintro e a' w' ⟨st', q, S'⟩
  cases e with
  | normal =>
    obtain ⟨h0, h1, h2, h3, q⟩ := q
    obtain ⟨G, S'⟩ := S'
    obtain ⟨G', S2⟩ := S'.closeG g gm go gs hd hbl h0 h1 h2 h3
    rw [vG] at S2
    exact ⟨_, q, G', S2⟩
  | exit id => exact ⟨st', q, S'⟩
  | goto l => exact ⟨st', q, S'⟩
  | ret => exact ⟨st', q, S'⟩
  | panic c => exact ⟨st', q, S'⟩
  | outgrown => exact ⟨st', q, S'⟩
end
theorem rowsX_len {es : List (List AV)} {bs : List Nat} (h : bs.length = es.length) : (vB es bs).length = es.length := by
  simp only [vB, List.length_zipWith]; omega
theorem rowsX_snoc : ∀ {es : List (List AV)} {bs : List Nat} (e : List AV) (b : Nat), bs.length = es.length → vB es bs ++ [resX e b] = vB (es ++ [e]) (bs ++ [b])
  | [], [], e, b, _ => rfl
  | e0 :: es, b0 :: bs, e, b, h => by
    have := rowsX_snoc (es := es) (bs := bs) e b (by simpa using h)
    simp only [vB, List.zipWith_cons_cons, List.cons_append, List.cons.injEq, true_and] at this ⊢
    exact this
  | [], _ :: _, _, _, h => by simp at h
  | _ :: _, [], _, _, h => by simp at h
theorem rowsX_get : ∀ {es : List (List AV)} {bs : List Nat} {i : Nat} {e : List AV} {b : Nat}, es[i]? = some e → bs[i]? = some b → (vB es bs)[i]? = some (resX e b)
  | _ :: _, _ :: _, 0, e, b, h1, h2 => by simp at h1 h2; subst h1 h2; rfl
  | _ :: es, _ :: bs, i + 1, e, b, h1, h2 => by
    simp only [List.getElem?_cons_succ] at h1 h2
    simpa [vB] using rowsX_get h1 h2
  | [], _, _, _, _, h, _ => by simp at h
  | _ :: _, [], _, _, _, _, h => by simp at h
theorem get_nth {α : Type} {l : List α} {i n : Nat} (h : l.length = n) (hi : i < n) : ∃ x, l[i]? = some x := ⟨_, List.getElem?_eq_getElem (by omega)⟩
end Go.Al
namespace Go.Proofs
open Go Go.Al
def numsG (n : Nat) : List AV := (List.range n).map fun i : Nat => iv (i : Int)
theorem numsG_snoc (n : Nat) : numsG n ++ [iv (n : Int)] = numsG (n + 1) := by simp [numsG, List.range_succ]
theorem numsG_get {i n : Nat} (h : i < n) : (numsG n)[i]? = some (iv (i : Int)) := by simp [numsG, h]
def atG (k : ByteArray) : List AV := (yx [] k).map avA
def esG (g : Gp) : List (List AV) := g.map fun x => atG x.1
def lsG (g : Gp) : List (List AV) := g.map fun x => x.2.map GSpan.av
theorem esG_len (g : Gp) : (esG g).length = g.length := by simp [esG]
theorem lsG_len (g : Gp) : (lsG g).length = g.length := by simp [lsG]
theorem gput_none : ∀ {g : Gp} {k : ByteArray} {i : Nat} (s : GSpan), uH (yi g) k i = none → gput g k s = g ++ [(k, [s])]
  | [], k, i, s, _ => rfl
  | (k', l) :: g, k, i, s, h => by
    simp only [yi, List.map_cons, uH] at h
    split at h
    · cases h
    · rename_i hne
      rw [gput, if_neg (Ne.symm hne), gput_none (g := g) s h]; rfl
theorem gput_some : ∀ {g : Gp} {k : ByteArray} {i j : Nat} (s : GSpan), uH (yi g) k i = some j → ∃ l, g[j - i]? = some (k, l) ∧ gput g k s = g.set (j - i) (k, l ++ [s])
  | [], k, i, j, s, h => by simp [yi, uH] at h
  | (k', l) :: g, k, i, j, s, h => by
    simp only [yi, List.map_cons, uH] at h
    split at h
    · rename_i e; cases h; subst e
      refine ⟨l, by simp, ?_⟩
      rw [gput, if_pos rfl]; simp
    · rename_i hne
      have hlt := (rM h).1
      obtain ⟨l', h1, h2⟩ := gput_some (g := g) s h
      refine ⟨l', ?_, ?_⟩
      · rw [show j - i = (j - (i + 1)) + 1 by omega, List.getElem?_cons_succ]; exact h1
      · rw [gput, if_neg (Ne.symm hne), h2, show j - i = (j - (i + 1)) + 1 by omega]; rfl
theorem gput_len (g : Gp) (k : ByteArray) (s : GSpan) : (gput g k s).length ≤ g.length + 1 := by
  cases h : uH (yi g) k 0 with
  | none => rw [gput_none s h]; simp
  | some j => obtain ⟨l, _, h2⟩ := gput_some s h; rw [h2]; simp
theorem grpF_len : ∀ (l : List (ByteArray × GSpan)) (g : Gp), (grpF g l).length ≤ g.length + l.length
  | [], g => by simp [grpF]
  | x :: l, g => by
    have h := grpF_len l (gput g x.1 x.2)
    have h2 := gput_len g x.1 x.2
    show (grpF (gput g x.1 x.2) l).length ≤ _
    simp only [List.length_cons]; omega
theorem grp_len (l : List (ByteArray × GSpan)) : (grp l).length ≤ l.length := by have := grpF_len l []; simpa [grp] using this
theorem grp_row {l : List (ByteArray × GSpan)} {x : ByteArray × List GSpan} (h : x ∈ grp l) : x.2.length ≤ l.length := by
  have h1 := (tj l).length_eq
  rw [List.length_map] at h1
  have h2 : x.2.length ≤ ((grp l).flatMap (·.2)).length := by
    generalize grp l = g at h
    induction g with
    | nil => cases h
    | cons y g ih =>
      rw [List.flatMap_cons, List.length_append]
      rcases List.mem_cons.1 h with rfl | h
      · omega
      · have := ih h; omega
  omega
theorem zip_res : ∀ (g : Gp), List.zipWith (resA 42) (esG g) (lsG g) = (g.map resG).map GRes.av
  | [] => rfl
  | x :: g => by
    have := zip_res g
    simp only [esG, lsG, List.map_cons, List.zipWith_cons_cons] at this ⊢
    rw [this]; rfl
def GF (TG TS : Nat) (g : Gp) : Nat → Value → Nat → HRes := GrpF TG TS 42 (yi g) (numsG g.length) (esG g) (lsG g)
theorem GF_none {TG TS : Nat} {g : Gp} {k : ByteArray} (s : GSpan) (h : uH (yi g) k 0 = none) : GF TG TS (gput g k s) = GrpF TG TS 42 (yi g ++ [k]) (numsG (g.length + 1)) (esG g ++ [atG k]) (lsG g ++ [[s.av]]) := by
  unfold GF
  rw [gput_none s h]
  simp [yi, esG, lsG]
theorem GF_some {TG TS : Nat} {g : Gp} {k : ByteArray} {i : Nat} {l : List GSpan} (s : GSpan) (hg : g[i]? = some (k, l)) : GF TG TS (g.set i (k, l ++ [s])) = GrpF TG TS 42 (yi g) (numsG g.length) (esG g) ((lsG g).set i (l.map GSpan.av ++ [s.av])) := by
  have hi := (List.getElem?_eq_some_iff.1 hg).1
  have set_id : ∀ {α β : Type} (f : α → β) (l : List α) (i : Nat) (x y : α), l[i]? = some x → f y = f x → (l.set i y).map f = l.map f := by
    intro α β f l
    induction l with
    | nil => intro i x y h _; simp at h
    | cons z l ih =>
      intro i x y h hf
      cases i with
      | zero => simp at h; subst h; simp [hf]
      | succ i => simp only [List.set_cons_succ, List.map_cons]; rw [ih i x y (by simpa using h) hf]
  unfold GF
  have e1 : yi (g.set i (k, l ++ [s])) = yi g := set_id _ g i (k, l) _ hg rfl
  have e2 : esG (g.set i (k, l ++ [s])) = esG g := set_id _ g i (k, l) _ hg rfl
  have e3 : lsG (g.set i (k, l ++ [s])) = (lsG g).set i (l.map GSpan.av ++ [s.av]) := by
    unfold lsG; rw [List.map_set]; simp
  rw [e1, e2, e3, List.length_set]
theorem jI {α : Type} {l : List α} (x : α) {n : Nat} (h : l.length = n) : (l ++ [x])[n]? = some x := by subst h; simp
theorem set_snoc {α : Type} {l : List α} (x y : α) {n : Nat} (h : l.length = n) : (l ++ [x]).set n y = l ++ [y] := by subst h; simp
theorem grp_take {ks : List ByteArray} {ss : List GSpan} {i : Nat} (hi : i < (ks.zip ss).length) : grp ((ks.zip ss).take (i + 1)) = gput (grp ((ks.zip ss).take i)) (nth ks i ⟨#[]⟩) (nth ss i gs0) := by
  have e : nth (ks.zip ss) i rq0 = (nth ks i ⟨#[]⟩, nth ss i gs0) := zip_nth hi
  rw [yO (y6 (d := rq0) hi), e, grp_snoc]
theorem look_gen {st : Al.St} {k : Nat} {F F' : Nat → Value → Nat → HRes} (h : Al.look st k = .gen F) (e : F = F') : Al.look st k = .gen F' := by rw [h, e]
end Go.Proofs
namespace Go.Proofs
open Go Go.Al
set_option maxRecDepth 10000
set_option maxHeartbeats 8000000 in
theorem addNew_c (g : Gp) (k : ByteArray) (x : GSpan) (hm : uH (yi g) k 0 = none) (hg : g.length ≤ 9000000) : tE Tryz.prog Γ0 49 [.ptr 100001 0, .imm (sv k), .imm x.av] [(100001, .gen (GF 102 51 g))] (.tup []) [(100001, .gen (GF 102 51 (gput g k x)))] := by
  rw [GF_none x hm]
  refine vE (rs := []) Tryz.func49 rfl Tryz.ntmps49 (by kernel_rfl) rfl rfl rfl rfl rfl fun w0 I0 G0 E => ?_
  refine zD <| zB <| g_uG (zk 1005 rfl rfl rfl rfl) rfl <| zH <| zA <| zD ?_
  refine aw_openG' 100001 1090 3091 1092 rfl rfl rfl rfl (fun bs hb1 hb2 => ?_)
  have hb3 : bs.length = g.length := hb1.trans (esG_len g)
  have hrl : (vB (esG g) bs).length = g.length := by rw [rowsX_len hb1, esG_len]
  refine zB <| g_u (vq rfl rfl) <| g_u (xD rfl rfl) <| g_u (zF rfl rfl fa102_0 rfl) <| g_u (uV rfl rfl rfl tA100 tS100 rfl rfl rfl) <| g_u (zC rfl rfl) <| g_u (s_lookupNo rfl rfl rfl rfl Tryz.underlying100 Tryz.underlying9 hm zv3 rfl) <| g_u (xt rfl rfl) <| g_u (zp rfl rfl rfl rfl) <| g_u (zp rfl rfl rfl rfl) <| g_u (zE rfl rfl) <| g_u (zE rfl rfl) <| zH <| zA <| zD <| zD <| zB <| g_u (zC rfl rfl) <| g_u (uA rfl rfl) <| zH <| zA <| zs rfl <| zD <| zB <| g_u (vq rfl rfl) <| g_u (xD rfl rfl) <| g_u (zF rfl rfl fa102_1 rfl) <| g_u (xj rfl rfl rfl tA22 tS22 rfl rfl) <| g_u (z7 rfl rfl Tryz.underlying22) <| g_u (zE rfl rfl) <| zH <| zA <| zD <| zB <| g_u (vq rfl rfl) <| g_u (xD rfl rfl) <| g_u (zF rfl rfl fa102_0 rfl) <| g_u (uV rfl rfl rfl tA100 tS100 rfl rfl rfl) <| g_u (zC rfl rfl) <| g_u (zC rfl rfl) <| g_u (s_mapUpdate rfl rfl rfl rfl Tryz.underlying100 Tryz.underlying9) <| zH <| zA ?_
  rw [hrl]
  rw [show mputK (yi g) k = yi g ++ [k] from by simp only [mputK, hm], show mputV (yi g) (numsG g.length) k (iv (g.length : Int)) = numsG (g.length + 1) from by simp only [mputV, hm]; exact numsG_snoc _]
  refine y_ xR <| g_u (vq rfl rfl) <| g_u (vq rfl rfl) <| g_u (xD rfl rfl) <| g_u (zF rfl rfl fa102_1 rfl) <| g_u (xj rfl rfl rfl tA22 tS22 rfl rfl) <| g_u (zC rfl rfl) ?_
  refine g_u (zP (nil1 (n := 7) (named_c [] k trivial (by decide))) rfl rfl) ?_
  refine g_u (yj rfl tZ51 us51 pl51 rfl rfl rfl rfl) <| g_uG (s_buildOwn1 1039 (X0 := z51) rfl rfl rfl Tryz.underlying45 tS51 tZ51 rfl rfl rfl rfl rfl rfl rfl) rfl <| g_u (s_buildSV rfl tZ47 us47 pl47 rfl rfl) <| g_uG (s_buildOwn1 1041 (X0 := z47) rfl rfl rfl Tryz.underlying22 tS47 tZ47 rfl rfl rfl rfl rfl rfl rfl) rfl ?_
  refine g_uG (s_appendG 3093 42 rfl rfl rfl rfl rfl rfl rfl rfl rfl rfl rfl rfl rfl Tryz.underlying22 Tryz.underlying22 tS47 zv47 rfl by47 (by rw [hrl]; omega) (by rw [hrl]; omega)) rfl ?_
  refine g_u (xD rfl rfl) <| g_u (zF rfl rfl fa102_1 rfl) <| g_u (tC rfl rfl rfl rfl tS22 rfl rfl) ?_
  refine zH ⟨by kernel_rfl, ?_⟩
  refine zA ?_
  refine aw_openOut 100001 1090 3093 1092 bs (lsG g) (vB (esG g) bs) (atG k) 102 51 42 rfl rfl rfl rfl rfl (fun b => ?_)
  rw [rowsX_snoc (atG k) b hb1]
  refine zD ?_
  have hr := rowsX_get (jI (atG k) (esG_len g)) (jI b hb3)
  refine zB <| g_u (vq rfl rfl) <| g_u (xD rfl rfl) <| g_u (zF rfl rfl fa102_1 rfl) <| g_u (xj rfl rfl rfl tA22 tS22 rfl rfl) <| g_u (zC rfl rfl) ?_
  refine g_u (zR rfl rfl rfl Tryz.underlying22 tS47 (by omega) hr) ?_
  refine g_u (zf rfl rfl wj rfl rfl) <| g_u (zd rfl rfl tA45 tS45 rfl rfl) ?_
  refine g_u (s_ixRaw rfl rfl rfl Tryz.underlying45 tS51 (by decide)) ?_
  refine g_u (zE rfl rfl) <| zH <| zA ?_
  refine aw_endG 100001 1090 3093 1092 (bs ++ [b]) 102 51 42 (yi g ++ [k]) (numsG (g.length + 1)) (esG g ++ [atG k]) (lsG g ++ [[x.av]]) rfl (by simp only [List.length_append, hb1]; rfl) ?_
  refine y_ xR <| g_u (zC rfl rfl) <| g_u (zC rfl rfl) <| g_u (s_nilRaw rfl rfl) <| g_u (rD rfl rfl uM rfl) <| g_uG (s_loadSc 1092 3094 g.length rfl rfl rfl rfl rfl rfl rfl (jI b hb3) (jI [] (lsG_len g)) tA49 tS49) rfl ?_
  refine g_u (zG rfl rfl rfl tA63 tS63 rfl (by first | exact wh (GSpan.width _) rfl | rfl)) ?_
  refine g_u (zl (X0 := z63) rfl Tryz.underlying49 tS63 tZ63 rfl rfl rfl rfl rfl rfl rfl rfl) ?_
  refine g_u (yh rfl rfl rfl rfl rfl Tryz.underlying49 Tryz.underlying49 tS63 zv63 rfl (by decide) by63 (by (try dsimp only); simp only [List.length_append, List.length_cons, List.length_nil, List.length_map]; omega) (by (try dsimp only); simp only [List.length_append, List.length_cons, List.length_nil, List.length_map]; omega)) ?_
  refine g_u (s_nilRaw rfl rfl) <| g_u (rD rfl rfl uM rfl) <| g_u (s_storeSc 1092 3094 g.length rfl rfl rfl rfl rfl rfl (jI b hb3) tS49) ?_
  refine zH ⟨by kernel_rfl, ?_⟩
  refine zA ?_
  refine ⟨rfl, rfl, rfl, (by rw [← set_snoc (x := []) (y := [x.av]) (lsG_len g)]; rfl), ?_⟩
  exact ⟨trivial, ⟨rfl, trivial⟩⟩
set_option maxHeartbeats 8000000 in
theorem addOld_c (g : Gp) (k : ByteArray) (x : GSpan) (i : Nat) (l : List GSpan) (hm : uH (yi g) k 0 = some i) (hgi : g[i]? = some (k, l)) (hl : l.length ≤ 9000000) : tE Tryz.prog Γ0 49 [.ptr 100001 0, .imm (sv k), .imm x.av] [(100001, .gen (GF 102 51 g))] (.tup []) [(100001, .gen (GF 102 51 (g.set i (k, l ++ [x]))))] := by
  rw [GF_some x hgi]
  have hi : i < g.length := (List.getElem?_eq_some_iff.1 hgi).1
  have hls : (lsG g)[i]? = some (l.map GSpan.av) := by simp [lsG, hgi]
  refine vE (rs := []) Tryz.func49 rfl Tryz.ntmps49 (by kernel_rfl) rfl rfl rfl rfl rfl fun w0 I0 G0 E => ?_
  refine zD <| zB <| g_uG (zk 1005 rfl rfl rfl rfl) rfl <| zH <| zA <| zD ?_
  refine aw_openG' 100001 1090 3091 1092 rfl rfl rfl rfl (fun bs hb1 hb2 => ?_)
  have hb3 : bs.length = g.length := hb1.trans (esG_len g)
  have hrl : (vB (esG g) bs).length = g.length := by rw [rowsX_len hb1, esG_len]
  refine zB <| g_u (vq rfl rfl) <| g_u (xD rfl rfl) <| g_u (zF rfl rfl fa102_0 rfl) <| g_u (uV rfl rfl rfl tA100 tS100 rfl rfl rfl) <| g_u (zC rfl rfl) <| g_u (s_lookupYes rfl rfl rfl rfl Tryz.underlying100 Tryz.underlying9 hm (numsG_get hi)) <| g_u (xt rfl rfl) <| g_u (zp rfl rfl rfl rfl) <| g_u (zp rfl rfl rfl rfl) <| g_u (zE rfl rfl) <| g_u (zE rfl rfl) <| zH <| zA <| zD <| zD <| zB <| g_u (zC rfl rfl) <| g_u (uA rfl rfl) <| zH <| zA <| yD rfl <| zQ <| zA <| zD ?_
  obtain ⟨b, hb⟩ := get_nth hb3 hi
  have hr := rowsX_get (show (esG g)[i]? = some (atG k) by simp [esG, hgi]) hb
  refine zB <| g_u (vq rfl rfl) <| g_u (xD rfl rfl) <| g_u (zF rfl rfl fa102_1 rfl) <| g_u (xj rfl rfl rfl tA22 tS22 rfl rfl) <| g_u (zC rfl rfl) ?_
  refine g_u (zR rfl rfl rfl Tryz.underlying22 tS47 (by omega) hr) ?_
  refine g_u (zf rfl rfl wj rfl rfl) <| g_u (zd rfl rfl tA45 tS45 rfl rfl) ?_
  refine g_u (s_ixRaw rfl rfl rfl Tryz.underlying45 tS51 (by decide)) ?_
  refine g_u (zE rfl rfl) <| zH <| zA <| aw_endG 100001 1090 3091 1092 bs 102 51 42 (yi g) (numsG g.length) (esG g) ((lsG g).set i (l.map GSpan.av ++ [x.av])) rfl hb1 <| y_ xR <| g_u (zC rfl rfl) <| g_u (zC rfl rfl) <| g_u (s_nilRaw rfl rfl) <| g_u (rD rfl rfl uM rfl) <| g_uG (s_loadSc 1092 3094 i rfl rfl rfl rfl rfl rfl rfl hb hls tA49 tS49) rfl ?_
  refine g_u (zG rfl rfl rfl tA63 tS63 rfl (by first | exact wh (GSpan.width _) rfl | rfl)) ?_
  refine g_u (zl (X0 := z63) rfl Tryz.underlying49 tS63 tZ63 rfl rfl rfl rfl rfl rfl rfl rfl) ?_
  refine g_u (yh rfl rfl rfl rfl rfl Tryz.underlying49 Tryz.underlying49 tS63 zv63 rfl (by decide) by63 (by (try dsimp only); simp only [List.length_append, List.length_cons, List.length_nil, List.length_map]; omega) (by (try dsimp only); simp only [List.length_append, List.length_cons, List.length_nil, List.length_map]; omega)) ?_
  refine g_u (s_nilRaw rfl rfl) <| g_u (rD rfl rfl uM rfl) <| g_u (s_storeSc 1092 3094 i rfl rfl rfl rfl rfl rfl hb tS49) ?_
  refine zH ⟨by kernel_rfl, ?_⟩
  refine zA ?_
  refine ⟨rfl, rfl, rfl, rfl, ?_⟩
  exact ⟨trivial, ⟨rfl, trivial⟩⟩
theorem add_c (g : Gp) (k : ByteArray) (x : GSpan) (hg : g.length ≤ 9000000) (hl : ∀ y ∈ g, y.2.length ≤ 9000000) : tE Tryz.prog Γ0 49 [.ptr 100001 0, .imm (sv k), .imm x.av] [(100001, .gen (GF 102 51 g))] (.tup []) [(100001, .gen (GF 102 51 (gput g k x)))] := by
  cases h : uH (yi g) k 0 with
  | none => exact addNew_c g k x h hg
  | some i =>
    obtain ⟨l, h1, h2⟩ := gput_some x h
    rw [h2, Nat.sub_zero]
    rw [Nat.sub_zero] at h1
    exact addOld_c g k x i l h h1 (hl _ (List.mem_of_getElem? h1))
end Go.Proofs
namespace Go.Proofs
open Go Go.Al
set_option maxRecDepth 10000
set_option maxHeartbeats 8000000 in
theorem group_c (ks : List ByteArray) (ss : List GSpan) (hk : ks.length ≤ 9000000) (hs : ss.length ≤ 9000000) : zn Tryz.prog Γ0 27 [.sl 1 (ks.map fun x => sv x), .sl 42 (ss.map GSpan.av)] [ya (u2 (ks.zip ss))] := by
  have qz := zip_len ks ss
  refine z_ Tryz.func27 rfl Tryz.ntmps27 (by kernel_rfl) rfl fun w0 I0 G0 => ?_
  refine zD <| zB <| g_uG (zy 1004 rfl rfl rfl tZ24) rfl <| zH <| zA <| zD <| zB <| g_uG (s_makeMap 1007 rfl rfl rfl) rfl <| g_u (s_buildSV rfl tZ102 us102 pl102 rfl rfl) <| g_uG (s_box 1009 rfl rfl rfl rfl rfl rfl) rfl <| g_u (s_as_ptr rfl rfl) <| zH <| zA <| vQ 3009 1009 2 1 rfl rfl rfl rfl rfl rfl rfl <| aw_newSc 1092 51 42 rfl rfl rfl <| aw_closeG 1009 1007 3009 1092 [] 102 51 42 [] [] [] [] rfl rfl rfl rfl rfl rfl <| zD <| zD <| zB <| g_u (zC rfl rfl) <| g_u (z7 rfl rfl Tryz.underlying27) <| g_u (zC rfl rfl) <| g_u (z7 rfl rfl Tryz.underlying49) <| g_u (s_min rfl rfl rfl) <| g_u (zC rfl rfl) <| zH <| zA <| zU ?_
  refine zw (fun i : Nat => [(0, .imm (.sl 1 (ks.map fun x => sv x))), (1, .imm (.sl 42 (ss.map GSpan.av))), (4, .ptr 1004 0), (1004, .box 24 (.imm z24)), (5, .ptr 1009 0), (1009, .gen (GF 102 51 (grp ((ks.zip ss).take i)))), (14, .imm (iv ((ks.zip ss).length : Int))), (15, .imm (iv (i : Int)))]) (fun i => i ≤ (ks.zip ss).length) (fun i => (ks.zip ss).length - i) (0) ?_ ⟨rfl, rfl, rfl, rfl, rfl, rfl, zX rfl (by simp only [List.length_map]; omega), rfl, trivial⟩ ?_
  · exact Nat.zero_le _
  · rintro i h1; have h1 : i ≤ (ks.zip ss).length := h1
    refine zD <| zB <| g_u (ye rfl rfl rfl) <| zH <| zA <| zD ?_
    refine zN rfl (fun hb1 => ?_) (fun hb1 => ?_)
    · have hi : i < (ks.zip ss).length := by have := of_decide_eq_true hb1; (try simp only [List.length_map] at this); omega
      have hik : i < ks.length := by omega
      have his : i < ss.length := by omega
      have hgl := grp_len ((ks.zip ss).take i)
      have hgt : ((ks.zip ss).take i).length ≤ (ks.zip ss).length := by rw [List.length_take]; omega
      refine zQ <| zA <| zD <| zU <| zD <| zB <| g_u (zC rfl rfl) <| g_u (zE rfl rfl) <| zH <| zA <| y_ xR <| g_u (vq rfl rfl) <| g_u (zC rfl rfl) <| g_u (zC rfl rfl) ?_
      refine g_u (zR rfl rfl rfl Tryz.underlying27 tS9 (by omega) (ixStr hik)) ?_
      refine g_u (zd rfl rfl tA9 tS9 rfl rfl) <| g_u (zC rfl rfl) <| g_u (zC rfl rfl) ?_
      refine g_u (zR rfl rfl rfl Tryz.underlying49 tS63 (by omega) (ixS his)) ?_
      refine g_u (zd rfl rfl tA63 tS63 rfl (by first | exact wh (GSpan.width _) rfl | rfl)) ?_
      refine g_uG (vg [(100001, 1009)] (add_c (grp ((ks.zip ss).take i)) (nth ks i ⟨#[]⟩) (nth ss i gs0) (by omega) (fun y hy => by have := grp_row hy; omega)) rfl rfl ⟨.inl rfl, .inl rfl, .inl rfl, trivial⟩ ⟨rfl, trivial⟩ rfl rfl rfl) rfl ?_
      refine zH ⟨by kernel_rfl, ?_⟩
      refine zW <| zA <| zB <| g_u (z0 rfl rfl rfl) <| g_u (zC rfl rfl) <| zH <| zA ?_
      refine ⟨i + 1, hi, ⟨rfl, rfl, rfl, rfl, rfl, look_gen rfl (by rw [grp_take hi]), rfl, zX rfl (by rw [zO (by omega) (by omega)]; rfl), trivial⟩, by (try dsimp only); omega⟩
    · have hin : i = (ks.zip ss).length := by have := of_decide_eq_false hb1; omega
      subst hin
      refine zz <| zT <| zT <| zq <| zA <| zD ?_
      refine aw_openG' 1009 1090 3091 1092 rfl rfl rfl rfl (fun bs hb1 hb2 => ?_)
      refine aw_finalG 1009 1090 3091 1092 bs _ _ 102 51 42 rfl hb1.symm hb2 rfl rfl rfl <| zB <| g_u (vq rfl rfl) <| g_u (xD rfl rfl) <| g_u (zF rfl rfl fa102_1 rfl) <| g_u (zG rfl rfl rfl tA22 tS22 rfl rfl) <| g_u (yj rfl tU24 us24 pl24 rfl rfl rfl rfl) <| g_u (zV rfl rfl rfl tS24 rfl rfl) <| zH <| zA <| zL ?_
      exact ⟨⟨_, _, _, _, _, _, _, rfl, rfl, tA24, tS24, rfl, rfl, (rfl : toAV _ = some _).trans (congrArg some (by (rw [zip_res, List.take_length]; rfl)))⟩, trivial⟩
theorem nzB_c (b : List GRes) (ho : okB b) (hw : wtB b ≤ 9000000) (hr : ∀ r ∈ b, risA none r.attrs) : zn Tryz.prog Γ0 9 [ya b] [ya (nzB b)] := nzB0_c group_c b ho hw hr
end Go.Proofs
namespace Go.Proofs
open Go Go.Al
theorem plainsZ_wt (ks : List Int) : ∀ l : List GA, wtAs (l.map (yZ ks)) ≤ 151 * wtAs l
  | [] => by simp [wtAs]
  | x :: l => by simp only [List.map_cons, wtAs]; have := keptA_wt.plainA_wt' ks x; have := plainsZ_wt ks l; omega
theorem keptZ_wt (l : List GA) : wtAs (jF l) ≤ 151 * wtAs l := Nat.le_trans (dropA_wt kZ _) (plainsZ_wt nZ l)
theorem nzS_wt (s : GSpan) : (nzS s).wt ≤ 151 * s.wt := by
  have h1 := keptZ_wt s.attrs
  have h2 := xq (f := nzE) (g := GE.wt) 1 (fun e => by
    have q : e.wt = 1 + e.name.size + wtAs e.attrs := rfl
    have q2 : (nzE e).wt = 1 + e.name.size + 0 := rfl
    omega) s.events
  have q1 : (nzS s).wt = 1 + 0 + s.name.size + (if s.code = 2 then s.note else ⟨#[]⟩ : ByteArray).size + wtAs (jF s.attrs) + zg GE.wt (s.events.map nzE) + 0 := rfl
  have q2 : s.wt = 1 + s.state.size + s.name.size + s.note.size + wtAs s.attrs + zg GE.wt s.events + zg GL.wt s.links := rfl
  have q3 : (if s.code = 2 then s.note else ⟨#[]⟩ : ByteArray).size ≤ s.note.size := by split; exact Nat.le_refl _; exact Nat.zero_le _
  omega
theorem keptZ_ok {l : List GA} (ho : ∀ a ∈ l, a.ok) (hw : wtAs l ≤ 1000000) : ∀ a ∈ jF l, a.ok := fun a h => by
  obtain ⟨x, hx, rfl⟩ := List.mem_map.1 (wB h).1
  exact plainA_ok (ho x hx) (Nat.le_trans (xy hx) hw)
theorem nzS_ok {s : GSpan} (h : s.ok) (hw : s.wt ≤ 1000000) : (nzS s).ok := by
  have qw : s.wt = 1 + s.state.size + s.name.size + s.note.size + wtAs s.attrs + zg GE.wt s.events + zg GL.wt s.links := rfl
  have hr := ofR_rg (BegunM ⟨s.start, s.fin⟩) (LastsM ⟨s.start, s.fin⟩)
  refine ⟨h.1, ⟨e0_ok, h.2.1.2.1, ?_⟩, ⟨?_, hr.1, hr.2, h.2.2.1.2.2.2⟩, keptZ_ok h.2.2.2.1 (by omega), fun e he => ?_, fun e he => by cases he⟩
  · show (if s.code = 2 then s.note else ⟨#[]⟩ : ByteArray).size ≤ maxLen
    split
    · exact h.2.1.2.2
    · exact e0_ok
  · show i64 (if s.kind = 1 then 0 else s.kind)
    split
    · unfold i64; decide
    · exact h.2.2.1.1
  · obtain ⟨x, hx, rfl⟩ := List.mem_map.1 he
    exact ⟨wholeN_rg _, (h.2.2.2.2.1 x hx).2.1, fun a ha => by cases ha⟩
theorem sumBy_perm {α : Type} (f : α → Nat) {l m : List α} (h : l.Perm m) : zg f l = zg f m := by
  induction h with
  | nil => rfl
  | cons x _ ih => simp only [zg, ih]
  | swap x y l => simp only [zg]; omega
  | trans _ _ h1 h2 => exact h1.trans h2
def hK (k : ByteArray) : Nat := 15 + k.size
theorem groups_wt : ∀ g : Gp, wtB (g.map resG) ≤ zg hK (yi g) + zg GSpan.wt (g.flatMap (·.2))
  | [] => Nat.le_refl _
  | x :: g => by
    have ih := groups_wt g
    have h1 := namedM_wt [] x.1
    have q1 : (resG x).wt = 1 + wtAs (yx [] x.1) + (1 + 0 + 0 + zg GSpan.wt x.2 + 0) := rfl
    have q2 : wtB ((x :: g).map resG) = (resG x).wt + wtB (g.map resG) := rfl
    have q3 : zg hK (yi (x :: g)) = hK x.1 + zg hK (yi g) := rfl
    rw [q2, q3, List.flatMap_cons, xM]
    have : wtAs ([] : List GA) = 0 := rfl
    unfold hK at *
    omega
theorem keys_wt : ∀ (b : List GRes) (g : Gp), zg hK (yi (grpF g (yw b))) ≤ zg hK (yi g) + zg (fun r => hK (zu r)) b
  | [], g => by simp [yw, grpF, zg]
  | r :: b, g => by
    have e : yw (r :: b) = (zr r.scopes).map (fun s => (zu r, nzS s)) ++ yw b := List.flatMap_cons
    rw [e, ug]
    have ih := keys_wt b (grpF g ((zr r.scopes).map fun s => (zu r, nzS s)))
    have h1 := keys_one g (rows_one r)
    rw [zg]
    have : zg hK (yi (grpF g ((zr r.scopes).map fun s => (zu r, nzS s)))) ≤ zg hK (yi g) + hK (zu r) := by
      rw [h1]; split
      · omega
      · rw [xM, zg, zg]; omega
    omega
theorem allS_wt : ∀ b : List GRes, zg GSpan.wt (allS b) ≤ zg (fun r => zg GScope.wt r.scopes) b
  | [] => Nat.le_refl _
  | r :: b => by
    have e : allS (r :: b) = zr r.scopes ++ allS b := List.flatMap_cons
    rw [e, xM, zg]
    have := spansOf_wt r.scopes
    have := allS_wt b
    omega
theorem nzB_wt (b : List GRes) : wtB (nzB b) ≤ 400 * wtB b := by
  have h1 := groups_wt (grp (yw b))
  have h2 := keys_wt b []
  have h3 := sumBy_perm GSpan.wt (tj (yw b))
  rw [h3, ri] at h1
  have h4 := xq (f := nzS) (g := GSpan.wt) 151 nzS_wt (allS b)
  have h5 := allS_wt b
  have h6 : zg (fun r => hK (zu r)) b + 151 * zg (fun r => zg GScope.wt r.scopes) b ≤ 400 * wtB b := by
    clear h1 h2 h3 h4 h5
    induction b with
    | nil => exact Nat.zero_le _
    | cons r b ih =>
      have := ub r
      have q2 : r.wt = 1 + wtAs r.attrs + zg GScope.wt r.scopes := rfl
      have q3 : wtB (r :: b) = r.wt + wtB b := rfl
      rw [q3, zg, zg]
      unfold hK at *
      omega
  have q0 : zg hK (yi ([] : Gp)) = 0 := rfl
  unfold nzB u2
  unfold grp at h1 ⊢
  omega
theorem groupM_ok {l : List (ByteArray × GSpan)} (hk : ∀ x ∈ l, x.1.size ≤ maxLen) (hs : ∀ x ∈ l, x.2.ok) : okB (u2 l) := fun r hr => by
  obtain ⟨x, hx, rfl⟩ := List.mem_map.1 hr
  refine ⟨namedM_ok (fun a ha => by cases ha) ?_, fun c hc => ?_⟩
  · rcases keysMem l [] x.1 (List.mem_map.2 ⟨x, hx, rfl⟩) with h | ⟨y, hy, e⟩
    · cases h
    · rw [← e]; exact hk y hy
  · cases List.mem_singleton.1 hc
    refine ⟨e0_ok, e0_ok, fun s hs' => ?_⟩
    have h1 : s ∈ (grp l).flatMap (·.2) := List.mem_flatMap.2 ⟨x, hx, hs'⟩
    have h2 := (tj l).mem_iff.1 h1
    obtain ⟨y, hy, rfl⟩ := List.mem_map.1 h2
    exact hs y hy
theorem nzB_ok {b : List GRes} (h : okB b) (hw : wtB b ≤ 1000000) : okB (nzB b) := by
  refine groupM_ok (fun x hx => ?_) fun x hx => ?_
  · obtain ⟨r, hr, e, _⟩ := tK hx
    have h1 := ub r
    have h2 := yP GRes.wt hr
    rw [e]
    unfold wtB at hw
    unfold maxLen; omega
  · obtain ⟨r, hr, _, c, hc, s, hs, e⟩ := tK hx
    rw [e]
    have h2 := yP GRes.wt hr
    have q2 : r.wt = 1 + wtAs r.attrs + zg GScope.wt r.scopes := rfl
    have h3 := yP GScope.wt hc
    have q3 : c.wt = 1 + c.name.size + c.version.size + zg GSpan.wt c.spans := rfl
    have h4 := yP GSpan.wt hs
    unfold wtB at hw
    exact nzS_ok (((h r hr).2 c hc).2.2 s hs) (by omega)
theorem groupM_ris (l : List (ByteArray × GSpan)) : ∀ r ∈ u2 l, risA none r.attrs := fun r hr => by
  obtain ⟨x, _, rfl⟩ := List.mem_map.1 hr
  exact ris_named (l := []) trivial x.1
theorem nzB_ris (b : List GRes) : ∀ r ∈ nzB b, risA none r.attrs := groupM_ris _
end Go.Proofs
namespace Go.Proofs
open Go Go.Al
set_option maxRecDepth 10000
end Go.Proofs
namespace Go.Proofs
open Go Go.Al
theorem svc_small {r : GRes} (h : okRs r) : (zu r).size ≤ 1024 := (rl h.1 skey).2
def gk0 : GCore := ⟨[], [], [], ⟨#[]⟩, 0, 0⟩
def nthK (l : List GCore) (i : Nat) : GCore := nth l i gk0
theorem ixK {l : List GCore} {i : Nat} (h : i < l.length) : (l.map GCore.av)[((i : Nat) : Int).toNat]? = some (nthK l i).av := wq (d := gk0) h
end Go.Proofs
namespace Go.Proofs
open Go Go.Al
def flatV (v : GV) : Prop := v.wt ≤ 1 + (xA v).size
theorem flat_tv (t : ByteArray) : flatV (tv t) := by
  unfold flatV
  rw [s7, GV.wt_eq]
  show 1 + t.size + 0 + 0 ≤ _
  omega
theorem textM_size (v : GV) : (xA v).size = (textB v).length := ze _
theorem flat_of {v : GV} (hk : ¬ 7 < v.kind) (he : uJ v = true) (h0 : v.kind ≠ 6 ∧ v.kind ≠ 7) : flatV v := by
  unfold uJ at he
  simp only [Bool.and_eq_true, Bool.or_eq_true, beq_iff_eq, decide_eq_true_eq] at he
  obtain ⟨⟨⟨⟨h1, _⟩, _⟩, h4⟩, h5⟩ := he
  have hl : v.list = [] := by rcases h4 with h | h; exact absurd h h0.1; exact List.isEmpty_iff.1 h
  have hm : v.map = [] := by rcases h5 with h | h; exact absurd h h0.2; exact List.isEmpty_iff.1 h
  unfold flatV
  rw [GV.wt_eq, hl, hm, textM_size]
  have e : textB v = wE v := by unfold textB; rw [if_neg (by omega)]
  rw [e]
  show 1 + v.text.size + 0 + 0 ≤ _
  rcases h1 with (h | h) | h
  · unfold wE; rw [if_pos h, yE]; omega
  · unfold wE; rw [if_neg (by omega), if_neg (by omega), if_neg (by omega), if_neg (by omega), if_pos h, yG, yE]; omega
  · omega
theorem flat_plain {ks : List Int} (h6 : (ks.any fun x => x == 6) = true) (h7 : (ks.any fun x => x == 7) = true) {a : GA} (h : y9 0 a.val = 0) : flatV (yZ ks a).val := by
  unfold yZ
  split
  · exact flat_tv _
  · rename_i hn
    rw [z8] at h
    split at h
    · cases h
    rename_i h1
    split at h
    · cases h
    rename_i h2
    refine flat_of h1 (by simpa using h2) ⟨fun e => hn ?_, fun e => hn ?_⟩
    · rw [e]; exact h6
    · rw [e]; exact h7
theorem tS : ∀ {l : List GA}, (∀ a ∈ l, flatV a.val) → wtAs l ≤ yM l
  | [], _ => Nat.le_refl _
  | a :: l, h => by
    have h1 := h a List.mem_cons_self
    have h2 := tS fun x hx => h x (List.mem_cons_of_mem _ hx)
    have h3 := a.wt_eq
    unfold flatV at h1
    simp only [wtAs, yM]
    omega
def rU (l : List GA) : Prop := ∀ a ∈ l, flatV a.val
theorem jQ {ks : List Int} (h6 : (ks.any fun x => x == 6) = true) (h7 : (ks.any fun x => x == 7) = true) {l : List GA} (but : List ByteArray) (h : ym l = 0) : rU (xG but (l.map (yZ ks))) := fun a ha => by
  obtain ⟨x, hx, rfl⟩ := List.mem_map.1 (wB ha).1
  exact flat_plain h6 h7 ((vR.1 h).2.2 x hx).2.1
theorem flat_named {l : List GA} (h : rU l) (t : ByteArray) : rU (yx l t) := fun a ha => by
  unfold yx at ha
  split at ha
  · exact h a (wB ha).1
  · rcases jW ha with rfl | ha
    · exact flat_tv t
    · exact h a ha
def flatS (s : GSpan) : Prop := rU s.attrs ∧ (∀ e ∈ s.events, rU e.attrs) ∧ ∀ e ∈ s.links, rU e.attrs
theorem tI {α : Type} {f g : α → Nat} : ∀ {l : List α}, (∀ x ∈ l, f x ≤ g x) → zg f l ≤ zg g l
  | [], _ => Nat.le_refl _
  | x :: l, h => by simp only [zg]; have := h x List.mem_cons_self; have := tI fun y hy => h y (List.mem_cons_of_mem _ hy); omega
theorem flatS_wt {s : GSpan} (h : flatS s) (t : ByteArray) : s.wt ≤ wL s t := by
  have h1 := tS h.1
  have h2 : zg GE.wt s.events ≤ zg (fun e : GE => 64 + 6 * e.name.size + yM e.attrs) s.events := tI fun e he => by
    have := tS (h.2.1 e he)
    have q : e.wt = 1 + e.name.size + wtAs e.attrs := rfl
    omega
  have h3 : zg GL.wt s.links ≤ zg (fun e : GL => 64 + 6 * e.state.size + yM e.attrs) s.links := tI fun e he => by
    have := tS (h.2.2 e he)
    have q : e.wt = 1 + e.state.size + wtAs e.attrs := rfl
    omega
  have q : s.wt = 1 + s.state.size + s.name.size + s.note.size + wtAs s.attrs + zg GE.wt s.events + zg GL.wt s.links := rfl
  unfold wL
  omega
theorem flatB_wt {b : List GRes} (h : ∀ r ∈ b, rU r.attrs ∧ ∀ c ∈ r.scopes, ∀ s ∈ c.spans, flatS s) : wtB b ≤ vJ b := by
  unfold vJ wtB
  have : zg GRes.wt b ≤ zg resW b := tI fun r hr => by
    obtain ⟨h1, h2⟩ := h r hr
    have h3 := tS h1
    have h4 : zg GScope.wt r.scopes ≤ zg (fun s => xn s (zu r)) r.scopes := tI fun c hc => by
      have h5 : zg GSpan.wt c.spans ≤ zg (fun x => wL x (zu r)) c.spans := tI fun s hs => flatS_wt (h2 c hc s hs) _
      have q : c.wt = 1 + c.name.size + c.version.size + zg GSpan.wt c.spans := rfl
      unfold xn; omega
    have q : r.wt = 1 + wtAs r.attrs + zg GScope.wt r.scopes := rfl
    have q2 : resW r = 64 + yM r.attrs + zg (fun s => xn s (zu r)) r.scopes := rfl
    omega
  omega
theorem small_of {b : List GRes} (h : (chkF b).1 = 0) (hf : ∀ r ∈ b, rU r.attrs ∧ ∀ c ∈ r.scopes, ∀ s ∈ c.spans, flatS s) : wtB b ≤ 65536 := by
  have := (uR.1 h).2.2.2
  have := flatB_wt hf
  omega
end Go.Proofs
namespace Go.Proofs
open Go Go.Al
theorem nj_flat {b : List GRes} (h : (chkF b).1 = 0) : ∀ r ∈ njB b, rU r.attrs ∧ ∀ c ∈ r.scopes, ∀ s ∈ c.spans, flatS s := fun r hr => by
  have ho := (uR.1 h).2.1
  obtain ⟨x, hx, rfl⟩ := List.mem_map.1 hr
  obtain ⟨k1, k2, k3⟩ := ho x hx
  refine ⟨flat_named (jQ (by decide) (by decide) [] k1) _, fun c hc s hs => ?_⟩
  have hc : c ∈ wm ((zr x.scopes).map njS) := hc
  unfold wm at hc
  split at hc
  · cases List.mem_singleton.1 hc
    obtain ⟨t, ht, rfl⟩ := List.mem_map.1 hs
    obtain ⟨c, hc, ht⟩ := vH ht
    obtain ⟨_, _, _, _, _, a6, a7, _⟩ := (uU t).1 ((k3 c hc).2.2 t ht)
    refine ⟨jQ (by decide) (by decide) k4 a6, fun e he => ?_, fun e he => ?_⟩
    · obtain ⟨y, hy, rfl⟩ := List.mem_map.1 he
      unfold evsC at a7
      split at a7
      · cases a7
      · exact jQ (by decide) (by decide) [tg] (evC_iff.1 a7 y hy).2.2
    · obtain ⟨y, hy, rfl⟩ := List.mem_map.1 he
      exact fun a ha => by cases ha
  · cases hc
theorem nz_flat {b : List GRes} (h : (chkF b).1 = 0) : ∀ r ∈ nzB b, rU r.attrs ∧ ∀ c ∈ r.scopes, ∀ s ∈ c.spans, flatS s := fun r hr => by
  have ho := (uR.1 h).2.1
  obtain ⟨x, hx, rfl⟩ := List.mem_map.1 hr
  refine ⟨flat_named (fun a ha => by cases ha) _, fun c hc s hs => ?_⟩
  cases List.mem_singleton.1 hc
  obtain ⟨y, hy, rfl⟩ := List.mem_map.1 ((tj (yw b)).mem_iff.1 (List.mem_flatMap.2 ⟨x, hx, hs⟩))
  obtain ⟨r, hr, _, c, hc, t, ht, e⟩ := tK hy
  rw [e]
  obtain ⟨_, _, _, _, _, a6, _⟩ := (uU t).1 (((ho r hr).2.2 c hc).2.2 t ht)
  refine ⟨jQ (by decide) (by decide) kZ a6, fun e he => ?_, fun e he => by cases he⟩
  obtain ⟨y, hy, rfl⟩ := List.mem_map.1 he
  exact fun a ha => by cases ha
theorem fit_valid {b : List GRes} (h : (chkF b).1 = 0) (hw : wtB b ≤ 65536) : fitB b := by
  have ho := (uR.1 h).2.1
  refine ⟨by omega, fun r hr => ?_⟩
  obtain ⟨k1, k2, k3⟩ := ho r hr
  have h1 := yP GRes.wt hr
  have h2 : r.wt = 1 + wtAs r.attrs + zg GScope.wt r.scopes := rfl
  have h3 := svc_small (ho r hr)
  unfold wtB at hw
  exact ⟨by omega, by omega, by omega, fun c hc => by have := yP GScope.wt hc; omega⟩
def nkM (f : Int) (b : List GRes) : List GRes := if f = 2 then njB b else if f = 3 then nzB b else b
theorem nk_ok {f : Int} {b : List GRes} (h : okB b) (hw : wtB b ≤ 1000000) : okB (nkM f b) := by
  unfold nkM; split
  · exact njB_ok h hw
  · split
    · exact nzB_ok h hw
    · exact h
theorem nk_wt (f : Int) (b : List GRes) : wtB (nkM f b) ≤ 400 * wtB b := by
  have h1 := njB_wt b; have h2 := nzB_wt b
  unfold nkM; split
  · exact h1
  · split
    · exact h2
    · omega
theorem nk_ris {f : Int} {b : List GRes} (h : ∀ r ∈ b, risA none r.attrs) : ∀ r ∈ nkM f b, risA none r.attrs := by
  unfold nkM; split
  · exact njB_ris h
  · split
    · exact nzB_ris b
    · exact h
theorem nk_chk {f : Int} {b : List GRes} (ho : okB b) (h : (chkF b).1 = 0) : (chkF (nkM f b)).1 = 0 := by
  unfold nkM; split
  · exact chk_nj ho h
  · split
    · exact chk_nz ho h
    · exact h
theorem nk_cores {f : Int} {b : List GRes} (ho : okB b) : (y8 (nkM f b)).Perm (y8 b) := by
  unfold nkM; split
  · rw [cores_nj ho]
  · split
    · exact cores_nz ho
    · exact List.Perm.refl _
theorem nk_stays {f : Int} {b : List GRes} (ho : okB b) (hr : ∀ r ∈ b, risA none r.attrs) : nkM f (nkM f b) = nkM f b := by
  unfold nkM
  by_cases h2 : f = 2
  · simp only [if_pos h2]; exact njB_idem ho hr
  · by_cases h3 : f = 3
    · simp only [if_neg h2, if_pos h3]; exact nzB_stays ho
    · simp only [if_neg h2, if_neg h3]
theorem nk_small {f : Int} {b : List GRes} (ho : okB b) (h : (chkF b).1 = 0) (hw : wtB b ≤ 65536) : wtB (nkM f b) ≤ 65536 := by
  have h1 := nk_chk (f := f) ho h
  unfold nkM at h1 ⊢
  by_cases h2 : f = 2
  · rw [if_pos h2] at h1 ⊢; exact small_of h1 (nj_flat h)
  · by_cases h3 : f = 3
    · rw [if_neg h2, if_pos h3] at h1 ⊢; exact small_of h1 (nz_flat h)
    · rw [if_neg h2, if_neg h3]; exact hw
def kOtlp : ByteArray := ⟨#[111, 116, 108, 112]⟩
def kJaeger : ByteArray := ⟨#[106, 97, 101, 103, 101, 114]⟩
def kZipkin : ByteArray := ⟨#[122, 105, 112, 107, 105, 110]⟩
def vn (f : Int) : ByteArray := if f = 1 then kOtlp else if f = 2 then kJaeger else if f = 3 then kZipkin else ⟨#[]⟩
def findM (w : ByteArray) : Int := if vn 1 = w then 1 else if vn 2 = w then 2 else if vn 3 = w then 3 else 0
def fmtM (f : Int) : Bool := decide (1 ≤ f) && decide (f ≤ 3)
theorem countC_take {l : List GCore} {c : GCore} {i : Nat} (hi : i < l.length) : wX (l.take (i + 1)) c = wX (l.take i) c + (if nthK l i = c then 1 else 0) := by
  unfold wX
  rw [yO (y6 (d := gk0) hi), List.countP_append]
  congr 1
  show List.countP _ [nthK l i] = _
  rw [List.countP_cons, List.countP_nil]
  by_cases h : nthK l i = c <;> simp [h]
theorem countC_le (l : List GCore) (c : GCore) : wX l c ≤ l.length := List.countP_le_length
theorem coreB_iff (a b : GCore) : ((a.trace == b.trace) && ((a.id == b.id) && ((a.parent == b.parent) && ((a.name.toList == b.name.toList) && ((a.begun == b.begun) && ((a.lasts == b.lasts) && true)))))) = true ↔ a = b := by
  rw [yH]
  simp only [Bool.and_eq_true, beq_iff_eq, decide_eq_true_eq, and_true]
  exact ⟨fun ⟨h1, h2, h3, h4, h5, h6⟩ => GCore.ext' h1 h2 h3 h4 h5 h6, fun h => by subst h; exact ⟨rfl, rfl, rfl, rfl, rfl, rfl⟩⟩
theorem alike_len {x y : List GCore} (q : ¬ x.length = y.length) : jJ x y = false := by unfold jJ; rw [decide_eq_false q]; rfl
theorem alike_no {x y : List GCore} {i : Nat} (hi : i < x.length) (hq : ¬ wX x (nthK x i) = wX y (nthK x i)) : jJ x y = false := by
  unfold jJ
  rw [Bool.and_eq_false_iff]; right
  rw [List.all_eq_false]
  exact ⟨nthK x i, tz (d := gk0) hi, by simpa using hq⟩
theorem alike_yes {x y : List GCore} (el : x.length = y.length) (h : ∀ j, j < x.length → wX x (nthK x j) = wX y (nthK x j)) : jJ x y = true := by
  unfold jJ
  rw [decide_eq_true el, Bool.true_and, List.all_eq_true]
  intro c hc
  obtain ⟨j, hj⟩ := List.getElem?_of_mem hc
  have hlt := (List.getElem?_eq_some_iff.1 hj).1
  have e := y6 (d := gk0) hlt
  rw [hj] at e
  cases Option.some.inj e
  exact decide_eq_true (h j hlt)
theorem w1 {f : Int} (h : f = 1) : vn f = kOtlp := by subst h; rfl
theorem w2 {f : Int} (h : f = 2) : vn f = kJaeger := by subst h; rfl
theorem w3 {f : Int} (h : f = 3) : vn f = kZipkin := by subst h; rfl
theorem w4 {f : Int} (h1 : ¬ f = 1) (h2 : ¬ f = 2) (h3 : ¬ f = 3) : vn f = ⟨#[]⟩ := by unfold vn; rw [if_neg h1, if_neg h2, if_neg h3]
theorem nk2 {f : Int} (b : List GRes) (h : f = 2) : nkM f b = njB b := by subst h; rfl
theorem nk3 {f : Int} (b : List GRes) (h : f = 3) : nkM f b = nzB b := by subst h; rfl
theorem nk1 {f : Int} (b : List GRes) (h2 : ¬ f = 2) (h3 : ¬ f = 3) : nkM f b = b := by unfold nkM; rw [if_neg h2, if_neg h3]
theorem fmt_t {f : Int} (h : 1 ≤ f) : fmtM f = decide (f ≤ 3) := by unfold fmtM; rw [decide_eq_true h]; rfl
theorem fmt_f {f : Int} (h : ¬ 1 ≤ f) : fmtM f = false := by unfold fmtM; rw [decide_eq_false h]; rfl
theorem find_at {w : ByteArray} {i : Nat} (h : ∀ j : Nat, 1 ≤ j → j ≤ i → vn j ≠ w) (q : vn ((i : Int) + 1) = w) (hi : i < 3) : findM w = (i : Int) + 1 := by
  unfold findM
  rcases (show i = 0 ∨ i = 1 ∨ i = 2 by omega) with rfl | rfl | rfl
  · rw [if_pos (show vn 1 = w from q)]; rfl
  · rw [if_neg (show ¬ vn 1 = w from h 1 (by omega) (by omega)), if_pos (show vn 2 = w from q)]; rfl
  · rw [if_neg (show ¬ vn 1 = w from h 1 (by omega) (by omega)), if_neg (show ¬ vn 2 = w from h 2 (by omega) (by omega)), if_pos (show vn 3 = w from q)]; rfl
theorem find_no {w : ByteArray} (h : ∀ j : Nat, 1 ≤ j → j ≤ 3 → vn j ≠ w) : findM w = 0 := by
  unfold findM
  rw [if_neg (show ¬ vn 1 = w from h 1 (by omega) (by omega)), if_neg (show ¬ vn 2 = w from h 2 (by omega) (by omega)), if_neg (show ¬ vn 3 = w from h 3 (by omega) (by omega))]
theorem find_step {w : ByteArray} {i : Nat} (h : ∀ j : Nat, 1 ≤ j → j ≤ i → vn j ≠ w) (q : ¬ vn ((i : Int) + 1) = w) : ∀ j : Nat, 1 ≤ j → j ≤ i + 1 → vn j ≠ w := fun j h1 h2 => by
  rcases Nat.lt_or_ge i j with h3 | h3
  · rw [show j = i + 1 by omega]; exact q
  · exact h j h1 h3
theorem find_ne {i : Nat} : (((i : Int) + 1) != 0) = true := bne_iff_ne.2 (by omega)
end Go.Proofs
namespace Go.Proofs
open Go Go.Al
set_option maxRecDepth 10000
theorem cores_len (b : List GRes) : (y8 b).length ≤ wtB b := by
  have h1 := plR_len 0 b
  rw [ra] at h1
  show (List.map jT (allS b)).length ≤ _
  rw [List.length_map]; exact h1
theorem eq82 (a b : GCore) : eqV Tryz.prog 100 82 a.av b.av = some ((a.trace == b.trace) && ((a.id == b.id) && ((a.parent == b.parent) && ((a.name.toList == b.name.toList) && ((a.begun == b.begun) && ((a.lasts == b.lasts) && true)))))) := by kernel_rfl
set_option maxHeartbeats 4000000 in
theorem count31_c (l : List GCore) (c : GCore) (hl : l.length ≤ 9000000) : zn Tryz.prog Γ0 33 [.sl 35 (l.map GCore.av), c.av] [iv (wX l c : Nat)] := by
  have hle : ∀ i, wX (l.take i) c ≤ l.length := fun i => Nat.le_trans (countC_le _ _) (by rw [List.length_take]; omega)
  refine z_ Tryz.func33 rfl Tryz.ntmps33 (by kernel_rfl) rfl fun w0 I0 G0 => ?_
  refine zD <| zB <| g_uG (zk 1003 rfl rfl rfl rfl) rfl <| g_u (zE rfl rfl) <| zH <| zA <| zD <| zB <| g_u (zE rfl rfl) <| zH <| zA <| zD <| zD <| zB <| g_u (zE rfl rfl) <| zH <| zA <| zU ?_
  refine zw (fun i : Nat => [(0, .imm (.sl 35 (l.map GCore.av))), (3, .ptr 1003 0), (1003, .box 82 (.imm c.av)), (5, .imm (iv (wX (l.take i) c : Nat))), (6, .imm (iv (i : Int)))]) (fun i => i ≤ l.length) (fun i => l.length - i) (0) ?_ ⟨rfl, rfl, rfl, rfl, rfl, trivial⟩ ?_
  · exact Nat.zero_le _
  · rintro i h1; have h1 : i ≤ l.length := h1; have hc1 := hle i
    refine zD <| zD <| zB <| g_u (zC rfl rfl) <| g_u (zC rfl rfl) <| g_u (z7 rfl rfl Tryz.underlying78) <| g_u (ye rfl rfl rfl) <| zH <| zA ?_
    refine zN rfl (fun hb1 => ?_) (fun hb1 => ?_)
    · have hi : i < l.length := by have := of_decide_eq_true hb1; (try simp only [List.length_map] at this); omega
      refine zQ <| zA <| zD <| zU <| zD <| y_ xR <| g_u (zC rfl rfl) <| g_u (zC rfl rfl) ?_
      refine g_u (zR rfl rfl rfl Tryz.underlying78 tS82 (by omega) (ixK hi)) ?_
      refine g_u (zd rfl rfl tA82 tS82 rfl rfl) <| g_u (zG rfl rfl rfl tA82 tS82 rfl rfl) <| g_u (s_eqA rfl rfl rfl eg82 rfl rfl (eq82 _ _)) ?_
      refine zH ⟨by kernel_rfl, ?_⟩
      refine zA ?_
      refine zN rfl (fun hb2 => ?_) (fun hb2 => ?_)
      · have hq : wX (l.take (i + 1)) c = wX (l.take i) c + 1 := by rw [countC_take hi, if_pos ((coreB_iff (nthK l i) c).1 hb2)]
        refine zB <| g_u (zC rfl rfl) <| g_u (z0 rfl rfl rfl) <| g_u (zE rfl rfl) <| zH <| zW <| zA <| zB <| g_u (zC rfl rfl) <| g_u (z0 rfl rfl rfl) <| g_u (zE rfl rfl) <| zH <| zA ?_
        refine ⟨i + 1, hi, ⟨rfl, rfl, rfl, zX rfl (by first | (rw [hq]; done) | (rw [hq, zO (by omega) (by omega)]; rfl)), zX rfl (by rw [zO (by omega) (by omega)]; rfl), trivial⟩, by (try dsimp only); omega⟩
      · have hq : wX (l.take (i + 1)) c = wX (l.take i) c := by rw [countC_take hi, if_neg (fun h => by have e := hb2; rw [(coreB_iff (nthK l i) c).2 h] at e; cases e), Nat.add_zero]
        refine zQ <| zW <| zA <| zB <| g_u (zC rfl rfl) <| g_u (z0 rfl rfl rfl) <| g_u (zE rfl rfl) <| zH <| zA ?_
        refine ⟨i + 1, hi, ⟨rfl, rfl, rfl, zX rfl (by first | (rw [hq]; done) | (rw [hq, zO (by omega) (by omega)]; rfl)), zX rfl (by rw [zO (by omega) (by omega)]; rfl), trivial⟩, by (try dsimp only); omega⟩
    · have hin : i = l.length := by have := of_decide_eq_false hb1; (try simp only [List.length_map] at this); omega
      refine zz <| zT <| zT <| zq <| zA <| zD <| zB <| g_u (zC rfl rfl) <| g_u (zE rfl rfl) <| zH <| zA <| zL ?_
      exact ⟨⟨(rfl : toAV (Al.look _ _) = some _).trans (congrArg some (by (rw [hin, List.take_length]))), rfl⟩, trivial⟩
set_option maxHeartbeats 4000000 in
theorem alike_c (a b : List GRes) (ha : wtB a ≤ 9000000) (hb : wtB b ≤ 9000000) : zn Tryz.prog Γ0 11 [ya a, ya b] [bv (jJ (y8 a) (y8 b))] := by
  have la := cores_len a
  have lb := cores_len b
  refine z_ Tryz.func11 rfl Tryz.ntmps11 (by kernel_rfl) rfl fun w0 I0 G0 => ?_
  refine zD <| zB <| g_uG (zk 1002 rfl rfl rfl rfl) rfl <| g_uG (zk 1003 rfl rfl rfl rfl) rfl <| g_u (zE rfl rfl) <| zH <| zA <| zD <| y_ xR <| g_u (zG rfl rfl rfl tA24 tS24 rfl rfl) ?_
  refine g_u (zP (rcores_c _ (by assumption)) rfl rfl) ?_
  refine g_u (zG rfl rfl rfl tA24 tS24 rfl rfl) ?_
  refine g_u (zP (rcores_c _ (by assumption)) rfl rfl) ?_
  refine g_u (zE rfl rfl) <| g_u (zE rfl rfl) ?_
  refine zH ⟨by kernel_rfl, ?_⟩
  refine zA <| zD <| zD <| zB <| g_u (zC rfl rfl) <| g_u (z7 rfl rfl Tryz.underlying78) <| g_u (zC rfl rfl) <| g_u (z7 rfl rfl Tryz.underlying78) <| g_u (xl rfl rfl rfl) <| zH <| zA ?_
  refine zN rfl (fun hb1 => ?_) (fun hb1 => ?_)
  · have q : ¬ (y8 a).length = (y8 b).length := by have e := bne_iff_ne.1 hb1; simp only [List.length_map] at e; omega
    refine zD <| zB <| g_u (zE rfl rfl) <| zH <| zA <| zL <| zK ?_
    exact ⟨⟨(rfl : toAV (Al.look _ _) = some _).trans (congrArg some (by (exact congrArg bv (by first | exact (alike_len q).symm | exact (alike_no hi hq).symm | exact (alike_yes el (fun j hj => h2 j (by omega))).symm)))), rfl⟩, trivial⟩
  · have el : (y8 a).length = (y8 b).length := by have e := qd.1 hb1; simp only [List.length_map] at e; omega
    refine zQ <| zA <| zD <| zD <| zB <| g_u (zE rfl rfl) <| zH <| zA <| zU ?_
    refine zw (fun i : Nat => [(5, .imm (.sl 35 ((y8 a).map GCore.av))), (6, .imm (.sl 35 ((y8 b).map GCore.av))), (7, .imm (iv (i : Int)))]) (fun i => (i ≤ (y8 a).length ∧ ∀ j, j < i → wX (y8 a) (nthK (y8 a) j) = wX (y8 b) (nthK (y8 a) j))) (fun i => (y8 a).length - i) (0) ?_ ⟨rfl, rfl, rfl, trivial⟩ ?_
    · exact ⟨Nat.zero_le _, fun j h => absurd h (Nat.not_lt_zero _)⟩
    · rintro i ⟨h1, h2⟩; (try dsimp only at h1 h2)
      refine zD <| zD <| zB <| g_u (zC rfl rfl) <| g_u (zC rfl rfl) <| g_u (z7 rfl rfl Tryz.underlying78) <| g_u (ye rfl rfl rfl) <| zH <| zA ?_
      refine zN rfl (fun hb2 => ?_) (fun hb2 => ?_)
      · have hi : i < (y8 a).length := by have := of_decide_eq_true hb2; (try simp only [List.length_map] at this); omega
        refine zQ <| zA <| zD <| zU <| zD <| y_ xR <| g_u (zC rfl rfl) <| g_u (zC rfl rfl) <| g_u (zC rfl rfl) ?_
        refine g_u (zR rfl rfl rfl Tryz.underlying78 tS82 (by omega) (ixK hi)) ?_
        refine g_u (zd rfl rfl tA82 tS82 rfl rfl) ?_
        refine g_u (zP (count31_c _ (nthK (y8 a) i) (by omega)) rfl rfl) ?_
        refine g_u (zC rfl rfl) <| g_u (zC rfl rfl) <| g_u (zC rfl rfl) ?_
        refine g_u (zR rfl rfl rfl Tryz.underlying78 tS82 (by omega) (ixK hi)) ?_
        refine g_u (zd rfl rfl tA82 tS82 rfl rfl) ?_
        refine g_u (zP (count31_c _ (nthK (y8 a) i) (by omega)) rfl rfl) ?_
        refine g_u (xl rfl rfl rfl) ?_
        refine zH ⟨by kernel_rfl, ?_⟩
        refine zA ?_
        refine zN rfl (fun hb3 => ?_) (fun hb3 => ?_)
        · have hq : ¬ wX (y8 a) (nthK (y8 a) i) = wX (y8 b) (nthK (y8 a) i) := by have e := bne_iff_ne.1 hb3; omega
          refine zD <| zB <| g_u (zE rfl rfl) <| zH <| zA <| zL <| zt <| zK <| zK <| zt <| zK ?_
          exact ⟨⟨(rfl : toAV (Al.look _ _) = some _).trans (congrArg some (by (exact congrArg bv (by first | exact (alike_len q).symm | exact (alike_no hi hq).symm | exact (alike_yes el (fun j hj => h2 j (by omega))).symm)))), rfl⟩, trivial⟩
        · have hq : wX (y8 a) (nthK (y8 a) i) = wX (y8 b) (nthK (y8 a) i) := by have e := qd.1 hb3; omega
          refine zQ <| zW <| zA <| zB <| g_u (zC rfl rfl) <| g_u (z0 rfl rfl rfl) <| g_u (zE rfl rfl) <| zH <| zA ?_
          refine ⟨i + 1, ⟨hi, fun j hj => by rcases Nat.lt_or_ge j i with h | h; exact h2 j h; rw [show j = i by omega]; exact hq⟩, ⟨rfl, rfl, zX rfl (by rw [zO (by omega) (by omega)]; rfl), trivial⟩, by (try dsimp only); omega⟩
      · have hin : i = (y8 a).length := by have := of_decide_eq_false hb2; (try simp only [List.length_map] at this); omega
        refine zz <| zT <| zT <| zq <| zA <| zD <| zB <| g_u (zE rfl rfl) <| zH <| zA <| zL ?_
        exact ⟨⟨(rfl : toAV (Al.look _ _) = some _).trans (congrArg some (by (exact congrArg bv (by first | exact (alike_len q).symm | exact (alike_no hi hq).symm | exact (alike_yes el (fun j hj => h2 j (by omega))).symm)))), rfl⟩, trivial⟩
end Go.Proofs
namespace Go.Proofs
open Go Go.Al
set_option maxRecDepth 10000
end Go.Proofs
namespace Go.Proofs
open Go Go.Al
set_option maxRecDepth 10000
theorem fis_c (f : Int) : zn Tryz.prog Γ0 15 [iv f] [bv (fmtM f)] := by
  refine z_ Tryz.func15 rfl Tryz.ntmps15 (by kernel_rfl) rfl fun w0 I0 G0 => ?_
  refine zD <| zB <| g_u (zE rfl rfl) <| zH <| zA <| zD <| zB <| g_u (zC rfl rfl) <| g_u (tD rfl rfl rfl) <| g_u (zC rfl rfl) <| yB (t := 5) rfl ?_
  rintro (hb1 | hb1)
  · rw [hb1]
    have q5 : 1 ≤ f := of_decide_eq_true hb1
    refine zY rfl rfl (zC rfl rfl) <| zY rfl rfl (s_leI rfl rfl rfl) <| g_u (zZ rfl rfl rfl) <| g_u (zE rfl rfl) <| zH <| zA <| zL ?_
    exact ⟨⟨(rfl : toAV (Al.look _ _) = some _).trans (congrArg some (by (first | rw [fmt_t q5] | rw [fmt_f q5]))), rfl⟩, trivial⟩
  · rw [hb1]
    have q5 : ¬ 1 ≤ f := of_decide_eq_false hb1
    refine zI rfl rfl rfl <| zI rfl rfl rfl <| g_u (zh rfl rfl rfl) <| g_u (zE rfl rfl) <| zH <| zA <| zL ?_
    exact ⟨⟨(rfl : toAV (Al.look _ _) = some _).trans (congrArg some (by (first | rw [fmt_t q5] | rw [fmt_f q5]))), rfl⟩, trivial⟩
theorem fword_c (f : Int) : zn Tryz.prog Γ0 16 [iv f] [sv (vn f)] := by
  refine z_ Tryz.func16 rfl Tryz.ntmps16 (by kernel_rfl) rfl fun w0 I0 G0 => ?_
  refine zD <| zB <| g_u (zE rfl rfl) <| zH <| zA <| zD <| zD <| zB <| g_u (zC rfl rfl) <| zH <| zA <| zU <| zD <| zB <| g_u (yz rfl rfl rfl) <| g_u (zE rfl rfl) <| zH <| zA ?_
  refine zN rfl (fun hb1 => ?_) (fun hb1 => ?_)
  · have q1 : f = 1 := beq_iff_eq.1 hb1
    refine zD <| zB <| g_u (zE rfl rfl) <| zH <| zA <| zL <| zt <| zK ?_
    exact ⟨⟨(rfl : toAV (Al.look _ _) = some _).trans (congrArg some (by (first | (rw [w1 q1]; rfl) | (rw [w2 q2]; rfl) | (rw [w3 q3]; rfl) | (rw [w4 q1 q2 q3])))), rfl⟩, trivial⟩
  · have q1 : ¬ f = 1 := beq_eq_false_iff_ne.1 hb1
    refine zD <| zB <| g_u (yz rfl rfl rfl) <| g_u (zE rfl rfl) <| zH <| zA ?_
    refine zN rfl (fun hb2 => ?_) (fun hb2 => ?_)
    · have q2 : f = 2 := beq_iff_eq.1 hb2
      refine zD <| zB <| g_u (zE rfl rfl) <| zH <| zA <| zL <| zt <| zK ?_
      exact ⟨⟨(rfl : toAV (Al.look _ _) = some _).trans (congrArg some (by (first | (rw [w1 q1]; rfl) | (rw [w2 q2]; rfl) | (rw [w3 q3]; rfl) | (rw [w4 q1 q2 q3])))), rfl⟩, trivial⟩
    · have q2 : ¬ f = 2 := beq_eq_false_iff_ne.1 hb2
      refine zD <| zB <| g_u (yz rfl rfl rfl) <| g_u (zE rfl rfl) <| zH <| zA ?_
      refine zN rfl (fun hb3 => ?_) (fun hb3 => ?_)
      · have q3 : f = 3 := beq_iff_eq.1 hb3
        refine zD <| zB <| g_u (zE rfl rfl) <| zH <| zA <| zL <| zt <| zK ?_
        exact ⟨⟨(rfl : toAV (Al.look _ _) = some _).trans (congrArg some (by (first | (rw [w1 q1]; rfl) | (rw [w2 q2]; rfl) | (rw [w3 q3]; rfl) | (rw [w4 q1 q2 q3])))), rfl⟩, trivial⟩
      · have q3 : ¬ f = 3 := beq_eq_false_iff_ne.1 hb3
        refine zQ <| zW <| zA <| zD <| zB <| g_u (zE rfl rfl) <| zH <| zA <| zL ?_
        exact ⟨⟨(rfl : toAV (Al.look _ _) = some _).trans (congrArg some (by (first | (rw [w1 q1]; rfl) | (rw [w2 q2]; rfl) | (rw [w3 q3]; rfl) | (rw [w4 q1 q2 q3])))), rfl⟩, trivial⟩
theorem ffind_c (w : ByteArray) : zn Tryz.prog Γ0 34 [sv w] [iv (findM w), bv (findM w != 0)] := by
  refine z_ Tryz.func34 rfl Tryz.ntmps34 (by kernel_rfl) rfl fun w0 I0 G0 => ?_
  refine zD <| zB <| g_u (zE rfl rfl) <| g_u (zE rfl rfl) <| zH <| zA <| zD <| zD <| zB <| g_u (zE rfl rfl) <| zH <| zA <| zU ?_
  refine zw (fun i : Nat => [(0, .imm (sv w)), (4, .imm (iv ((i : Int) + 1)))]) (fun i => (i ≤ 3 ∧ ∀ j : Nat, 1 ≤ j → j ≤ i → vn j ≠ w)) (fun i => 3 - i) (0) ?_ ⟨rfl, rfl, trivial⟩ ?_
  · exact ⟨Nat.zero_le _, fun j h1 h2 => absurd h1 (by omega)⟩
  · rintro i ⟨h1, h2⟩; (try dsimp only at h1 h2)
    refine zD <| zD <| zB <| g_u (zC rfl rfl) <| g_u (zP (fis_c _) rfl rfl) <| zH <| zA ?_
    refine zN rfl (fun hb1 => ?_) (fun hb1 => ?_)
    · have hi : i < 3 := by have e := hb1; rw [fmt_t (by omega)] at e; have := of_decide_eq_true e; omega
      refine zQ <| zA <| zD <| zU <| zD <| zB <| g_u (zC rfl rfl) <| g_u (zP (fword_c _) rfl rfl) <| g_u (zC rfl rfl) <| g_u (jZ rfl rfl rfl) <| zH <| zA ?_
      refine zN rfl (fun hb2 => ?_) (fun hb2 => ?_)
      · have q : vn ((i : Int) + 1) = w := by have e := hb2; rw [yH] at e; exact of_decide_eq_true e
        refine zD <| zB <| g_u (zC rfl rfl) <| g_u (zE rfl rfl) <| g_u (zE rfl rfl) <| zH <| zA <| zL <| zt <| zK <| zK <| zt <| zK ?_
        exact ⟨⟨(rfl : toAV (Al.look _ _) = some _).trans (congrArg some (by (first | (rw [find_at h2 q hi]; first | done | rw [find_ne]) | (rw [find_no (fun j h3 h4 => h2 j h3 (by omega))]; first | done | rfl)))), rfl⟩, ⟨(rfl : toAV (Al.look _ _) = some _).trans (congrArg some (by (first | (rw [find_at h2 q hi]; first | done | rw [find_ne]) | (rw [find_no (fun j h3 h4 => h2 j h3 (by omega))]; first | done | rfl)))), rfl⟩, trivial⟩
      · have q : ¬ vn ((i : Int) + 1) = w := by have e := hb2; rw [yH] at e; exact of_decide_eq_false e
        refine zQ <| zW <| zA <| zB <| g_u (zC rfl rfl) <| g_u (z0 rfl rfl rfl) <| g_u (zE rfl rfl) <| zH <| zA ?_
        refine ⟨i + 1, ⟨by (try dsimp only); omega, find_step h2 q⟩, ⟨rfl, zX rfl (by rw [zO (by omega) (by omega)]; rfl), trivial⟩, by (try dsimp only); omega⟩
    · have hn : ¬ i < 3 := fun h => by have e := hb1; rw [fmt_t (by omega), decide_eq_true (by omega)] at e; cases e
      refine zz <| zT <| zT <| zq <| zA <| zD <| zB <| g_u (zE rfl rfl) <| g_u (zE rfl rfl) <| zH <| zA <| zL ?_
      exact ⟨⟨(rfl : toAV (Al.look _ _) = some _).trans (congrArg some (by (first | (rw [find_at h2 q hi]; first | done | rw [find_ne]) | (rw [find_no (fun j h3 h4 => h2 j h3 (by omega))]; first | done | rfl)))), rfl⟩, ⟨(rfl : toAV (Al.look _ _) = some _).trans (congrArg some (by (first | (rw [find_at h2 q hi]; first | done | rw [find_ne]) | (rw [find_no (fun j h3 h4 => h2 j h3 (by omega))]; first | done | rfl)))), rfl⟩, trivial⟩
theorem fsame_c (b : List GRes) : zn Tryz.prog Γ0 41 [ya b] [ya b] := by
  refine z_ Tryz.func41 rfl Tryz.ntmps41 (by kernel_rfl) rfl fun w0 I0 G0 => ?_
  refine zD <| zB <| g_uG (zk 1001 rfl rfl rfl rfl) rfl <| g_uG (zy 1002 rfl rfl rfl tZ24) rfl <| zH <| zA <| zD <| zB <| g_u (zG rfl rfl rfl tA24 tS24 rfl rfl) <| g_u (zV rfl rfl rfl tS24 rfl rfl) <| zH <| zA <| zL ?_
  exact ⟨⟨_, _, _, _, _, _, _, rfl, rfl, tA24, tS24, rfl, rfl, (rfl : toAV _ = some _).trans (congrArg some (by rfl))⟩, trivial⟩
theorem fkof_c (f : Int) (b : List GRes) (ho : okB b) (hw : wtB b ≤ 9000000) (hr : ∀ r ∈ b, risA none r.attrs) : zn Tryz.prog Γ0 19 [iv f, ya b] [ya (nkM f b)] := by
  refine z_ Tryz.func19 rfl Tryz.ntmps19 (by kernel_rfl) rfl fun w0 I0 G0 => ?_
  refine zD <| zB <| g_uG (zk 1003 rfl rfl rfl rfl) rfl <| g_uG (zy 1004 rfl rfl rfl tZ24) rfl <| zH <| zA <| zD <| zB <| g_u (zE rfl rfl) <| zH <| zA <| zD <| zD <| zB <| g_u (zC rfl rfl) <| zH <| zA <| zU <| zD <| zB <| g_u (yz rfl rfl rfl) <| g_u (zE rfl rfl) <| zH <| zA ?_
  refine zN rfl (fun hb1 => ?_) (fun hb1 => ?_)
  · have q2 : f = 2 := beq_iff_eq.1 hb1
    refine zB <| g_u (zE rfl rfl) <| zH <| zW <| zA <| zD <| zB <| g_u (zC rfl rfl) <| g_u (zG rfl rfl rfl tA24 tS24 rfl rfl) ?_
    refine g_u (wM ((by first | exact njB_c b ho hw hr | exact nzB_c b ho hw hr | exact fsame_c b)) rfl rfl rfl) ?_
    refine g_u (zV rfl rfl rfl tS24 rfl rfl) <| zH <| zA <| zL ?_
    exact ⟨⟨_, _, _, _, _, _, _, rfl, rfl, tA24, tS24, rfl, rfl, (rfl : toAV _ = some _).trans (congrArg some (by (first | rw [nk2 b q2] | rw [nk3 b q3] | rw [nk1 b q2 q3])))⟩, trivial⟩
  · have q2 : ¬ f = 2 := beq_eq_false_iff_ne.1 hb1
    refine zD <| zB <| g_u (yz rfl rfl rfl) <| g_u (zE rfl rfl) <| zH <| zA ?_
    refine zN rfl (fun hb2 => ?_) (fun hb2 => ?_)
    · have q3 : f = 3 := beq_iff_eq.1 hb2
      refine zB <| g_u (zE rfl rfl) <| zH <| zW <| zA <| zD <| zB <| g_u (zC rfl rfl) <| g_u (zG rfl rfl rfl tA24 tS24 rfl rfl) ?_
      refine g_u (wM ((by first | exact njB_c b ho hw hr | exact nzB_c b ho hw hr | exact fsame_c b)) rfl rfl rfl) ?_
      refine g_u (zV rfl rfl rfl tS24 rfl rfl) <| zH <| zA <| zL ?_
      exact ⟨⟨_, _, _, _, _, _, _, rfl, rfl, tA24, tS24, rfl, rfl, (rfl : toAV _ = some _).trans (congrArg some (by (first | rw [nk2 b q2] | rw [nk3 b q3] | rw [nk1 b q2 q3])))⟩, trivial⟩
    · have q3 : ¬ f = 3 := beq_eq_false_iff_ne.1 hb2
      refine zQ <| zW <| zA <| zD <| zB <| g_u (zC rfl rfl) <| g_u (zG rfl rfl rfl tA24 tS24 rfl rfl) ?_
      refine g_u (wM ((by first | exact njB_c b ho hw hr | exact nzB_c b ho hw hr | exact fsame_c b)) rfl rfl rfl) ?_
      refine g_u (zV rfl rfl rfl tS24 rfl rfl) <| zH <| zA <| zL ?_
      exact ⟨⟨_, _, _, _, _, _, _, rfl, rfl, tA24, tS24, rfl, rfl, (rfl : toAV _ = some _).trans (congrArg some (by (first | rw [nk2 b q2] | rw [nk3 b q3] | rw [nk1 b q2 q3])))⟩, trivial⟩
theorem fkept_c (f : Int) (b : List GRes) (ho : okB b) (hw : wtB b ≤ 2400000) (hr : ∀ r ∈ b, risA none r.attrs) : zn Tryz.prog Γ0 43 [.fn (.func 19) [iv f] [], ya b] [bv (decide (nkM f b = b))] := by
  refine z_ Tryz.func43 rfl Tryz.ntmps43 (by kernel_rfl) rfl fun w0 I0 G0 => ?_
  refine zD <| zB <| g_uG (zk 1003 rfl rfl rfl rfl) rfl <| g_u (zE rfl rfl) <| zH <| zA <| zD <| y_ xR <| g_u (zC rfl rfl) <| g_u (zG rfl rfl rfl tA24 tS24 rfl rfl) ?_
  refine g_u (wM (fkof_c f b ho (by omega) hr) rfl rfl rfl) ?_
  refine g_u (zG rfl rfl rfl tA24 tS24 rfl rfl) ?_
  refine g_u (zP (psameB_c (nkM f b) b (by have := nk_wt f b; omega)) rfl rfl) ?_
  refine g_u (zE rfl rfl) ?_
  refine zH ⟨by kernel_rfl, ?_⟩
  refine zA <| zL ?_
  exact ⟨⟨(rfl : toAV (Al.look _ _) = some _).trans (congrArg some (by rfl)), rfl⟩, trivial⟩
theorem fall_c (f : Int) (b : List GRes) (ho : okB b) (hw : wtB b ≤ 2400000) (hr : ∀ r ∈ b, risA none r.attrs) : zn Tryz.prog Γ0 20 [iv f, ya b] [bv (decide (nkM f b = b))] := by
  refine z_ Tryz.func20 rfl Tryz.ntmps20 (by kernel_rfl) rfl fun w0 I0 G0 => ?_
  refine zD <| zB <| g_uG (zk 1003 rfl rfl rfl rfl) rfl <| g_u (zE rfl rfl) <| zH <| zA <| zD <| zB <| g_u (zC rfl rfl) <| g_u (s_makeFunc rfl rfl rfl) <| g_u (zG rfl rfl rfl tA24 tS24 rfl rfl) <| g_u (zP (fkept_c _ _ ho hw hr) rfl rfl) <| g_u (zE rfl rfl) <| zH <| zA <| zL ?_
  exact ⟨⟨(rfl : toAV (Al.look _ _) = some _).trans (congrArg some (by rfl)), rfl⟩, trivial⟩
theorem fboth_c (f k : Int) (b : List GRes) (ho : okB b) (hw : wtB b ≤ 2400000) (hr : ∀ r ∈ b, risA none r.attrs) : zn Tryz.prog Γ0 21 [iv f, iv k, ya b] [bv (decide (nkM f b = nkM k b))] := by
  refine z_ Tryz.func21 rfl Tryz.ntmps21 (by kernel_rfl) rfl fun w0 I0 G0 => ?_
  refine zD <| zB <| g_uG (zk 1005 rfl rfl rfl rfl) rfl <| g_u (zE rfl rfl) <| zH <| zA <| zD <| y_ xR <| g_u (zC rfl rfl) <| g_u (zG rfl rfl rfl tA24 tS24 rfl rfl) ?_
  refine g_u (zP (fkof_c _ b ho (by omega) hr) rfl rfl) ?_
  refine g_u (zC rfl rfl) <| g_u (zG rfl rfl rfl tA24 tS24 rfl rfl) ?_
  refine g_u (zP (fkof_c _ b ho (by omega) hr) rfl rfl) ?_
  refine g_u (zP (psameB_c (nkM f b) (nkM k b) (by have := nk_wt f b; omega)) rfl rfl) ?_
  refine g_u (zE rfl rfl) ?_
  refine zH ⟨by kernel_rfl, ?_⟩
  refine zA <| zL ?_
  exact ⟨⟨(rfl : toAV (Al.look _ _) = some _).trans (congrArg some (by rfl)), rfl⟩, trivial⟩
def kKV34 : ByteArray := ⟨#[107, 61, 118]⟩
def gS34 : GSpan := ⟨1 :: List.replicate 15 0, 2 :: List.replicate 7 0, List.replicate 8 0, kKV34, ⟨#[]⟩, 0, 0, 0, [], [], [], 0, ⟨#[]⟩⟩
theorem gS34_ok : gS34.ok := ⟨⟨by decide, by decide, by decide⟩, ⟨by decide, by decide, by decide⟩, ⟨by unfold i64; decide, by unfold u64; decide, by unfold u64; decide, by unfold i64; decide⟩, (fun a h => by cases h), (fun a h => by cases h), (fun a h => by cases h)⟩
def b34 : List GRes := [⟨[], [⟨⟨#[]⟩, ⟨#[]⟩, [gS34]⟩]⟩]
theorem b34_ok : okB b34 := fun r hr => by
  cases List.mem_singleton.1 hr
  refine ⟨fun a h => (by cases h), fun c hc => ?_⟩
  cases List.mem_singleton.1 hc
  exact ⟨by decide, by decide, fun s hs => by cases List.mem_singleton.1 hs; exact gS34_ok⟩
theorem b34_ris : ∀ r ∈ b34, risA none r.attrs := fun r hr => by cases List.mem_singleton.1 hr; trivial
def sAv34 : AV := .agg [.agg (zx gS34.trace), .agg (zx gS34.id), .arr 8 gS34.parent, sv kKV34, sv ⟨#[]⟩, iv 0, uv 0, uv 0, .sl 7 [], .sl 3 [], .sl 26 [], .agg [iv 0, sv ⟨#[]⟩]]
theorem up34 : Up sAv34 gS34.av := Up.agg ⟨up_bytes rfl, up_bytes rfl, Up.refl _, Up.refl _, Up.refl _, Up.refl _, Up.refl _, Up.refl _, Up.refl _, Up.refl _, Up.refl _, Up.refl _, trivial⟩
def bAv34 : AV := .agg [.sl 2 [.agg [.sl 7 [], .sl 3 [.agg [sv ⟨#[]⟩, sv ⟨#[]⟩, .sl 42 [sAv34]]]]]]
theorem upb34 : Up bAv34 (ya b34) := Up.agg ⟨Up.sl ⟨Up.agg ⟨Up.refl _, Up.sl ⟨Up.agg ⟨Up.refl _, Up.refl _, Up.sl ⟨up34, trivial⟩, trivial⟩, trivial⟩, trivial⟩, trivial⟩, trivial⟩
theorem fall34 (f : Int) : zn Tryz.prog Γ0 20 [iv f, bAv34] [bv (decide (nkM f b34 = b34))] := (fall_c f b34 b34_ok (by decide) b34_ris).args ⟨Up.refl _, upb34, trivial⟩
theorem fkof34 (f : Int) : zn Tryz.prog Γ0 19 [iv f, bAv34] [ya (nkM f b34)] := (fkof_c f b34 b34_ok (by decide) b34_ris).args ⟨Up.refl _, upb34, trivial⟩
theorem fboth34 (f k : Int) : zn Tryz.prog Γ0 21 [iv f, iv k, bAv34] [bv (decide (nkM f b34 = nkM k b34))] := (fboth_c f k b34 b34_ok (by decide) b34_ris).args ⟨Up.refl _, Up.refl _, upb34, trivial⟩
theorem fall34b (f k : Int) : zn Tryz.prog Γ0 20 [iv f, ya (nkM k b34)] [bv (decide (nkM f (nkM k b34) = nkM k b34))] :=
  fall_c f _ (nk_ok b34_ok (by decide)) (Nat.le_trans (nk_wt k b34) (by decide)) (nk_ris b34_ris)
set_option maxRecDepth 100000 in
set_option maxHeartbeats 4000000 in
theorem r7 : zn Tryz.prog Γ0 12 [] [bv true] := by
  refine z_ Tryz.func12 rfl Tryz.ntmps12 (by kernel_rfl) rfl fun w0 I0 G0 => ?_
  refine zD <| zB <| g_u (zE rfl rfl) <| zH <| zA <| zD <| zB ?_
  refine g_u (vb ((by first | exact ffind_c kJaeger | exact ffind_c ⟨#[]⟩)) rfl rfl) ?_
  refine g_u (xt rfl rfl) <| g_u (zp rfl rfl rfl rfl) <| g_u (zp rfl rfl rfl rfl) <| g_u (zE rfl rfl) <| g_u (zE rfl rfl) <| zH <| zA <| zD <| zB ?_
  refine g_u (vb ((by first | exact ffind_c kJaeger | exact ffind_c ⟨#[]⟩)) rfl rfl) ?_
  refine g_u (xt rfl rfl) <| g_u (zp rfl rfl rfl rfl) <| g_u (zp rfl rfl rfl rfl) <| g_u (zE rfl rfl) <| g_u (zE rfl rfl) <| zH <| zA <| zD <| zB <| g_u (s_build_arr rfl tV54 Tryz.underlying54 tS5 rfl rfl rfl rfl) <| g_u (s_build_arr rfl tV56 Tryz.underlying56 tS5 rfl rfl rfl rfl) <| g_u (yj rfl tU63 us63 pl63 rfl rfl rfl rfl) <| g_uG (zy 1005 rfl rfl rfl tZ63) rfl ?_
  refine g_u (zV rfl rfl rfl tS63 (by first | exact beqW (GSpan.width _) | rfl) (by first | exact ur (z63_w.trans (GSpan.width _).symm) rfl | rfl)) ?_
  refine zH <| zA <| zD <| zB ?_
  refine g_u (zG rfl rfl rfl tA63 tS63 rfl (by first | exact wh (GSpan.width _) rfl | rfl)) ?_
  refine g_u (zl (X0 := z63) rfl Tryz.underlying49 tS63 tZ63 rfl rfl rfl rfl rfl rfl rfl rfl) <| g_u (yj rfl tU51 us51 pl51 rfl rfl rfl rfl) <| g_u (zl (X0 := z51) rfl Tryz.underlying45 tS51 tZ51 rfl rfl rfl rfl rfl rfl rfl rfl) <| g_u (yj rfl tU47 us47 pl47 rfl rfl rfl rfl) <| g_u (zl (X0 := z47) rfl Tryz.underlying22 tS47 tZ47 rfl rfl rfl rfl rfl rfl rfl rfl) <| g_u (yj rfl tU24 us24 pl24 rfl rfl rfl rfl) <| g_uG (zy 1006 rfl rfl rfl tZ24) rfl <| g_u (zV rfl rfl rfl tS24 rfl rfl) <| zH <| zA <| zD <| zB <| g_u (zC rfl rfl) <| g_u (yz rfl rfl rfl) <| g_u (zC rfl rfl) <| yB (t := 27) rfl ?_
  rintro (hb1 | hb1)
  · rw [hb1]
    refine zY rfl rfl (zC rfl rfl) <| g_u (zZ rfl rfl rfl) <| g_u (zC rfl rfl) <| yB (t := 30) rfl ?_
    rintro (hb2 | hb2)
    · rw [hb2]
      refine zY rfl rfl (zC rfl rfl) <| zY rfl rfl (uA rfl rfl) <| g_u (zZ rfl rfl rfl) <| g_u (zC rfl rfl) <| yB (t := 34) rfl ?_
      rintro (hb3 | hb3)
      · rw [hb3]
        refine zY rfl rfl (zP (fword_c _) rfl rfl) <| zY rfl rfl (jZ rfl rfl rfl) <| g_u (zZ rfl rfl rfl) <| g_u (zC rfl rfl) <| yB (t := 38) rfl ?_
        rintro (hb4 | hb4)
        · rw [hb4]
          refine zY rfl rfl (yC rfl rfl rfl tA24 tS24 rfl rfl) ?_
          refine zY rfl rfl (zP ((by first | exact fall34 _ | exact fall34b _ _)) rfl rfl) ?_
          refine g_u (zZ rfl rfl rfl) <| g_u (zC rfl rfl) <| yB (t := 42) rfl ?_
          rintro (hb5 | hb5)
          · rw [hb5]
            refine zY rfl rfl (zC rfl rfl) <| zY rfl rfl (yC rfl rfl rfl tA24 tS24 rfl rfl) ?_
            refine zY rfl rfl (zP ((by first | exact fall34 _ | exact fall34b _ _)) rfl rfl) ?_
            refine zY rfl rfl (uA rfl rfl) <| g_u (zZ rfl rfl rfl) <| g_u (zC rfl rfl) <| yB (t := 48) rfl ?_
            rintro (hb6 | hb6)
            · rw [hb6]
              refine zY rfl rfl (zC rfl rfl) <| zY rfl rfl (zC rfl rfl) <| zY rfl rfl (yC rfl rfl rfl tA24 tS24 rfl rfl) <| zY rfl rfl (zP (fkof34 _) rfl rfl) ?_
              refine zY rfl rfl (zP ((by first | exact fall34 _ | exact fall34b _ _)) rfl rfl) ?_
              refine g_u (zZ rfl rfl rfl) <| g_u (zC rfl rfl) <| yB (t := 55) rfl ?_
              rintro (hb7 | hb7)
              · rw [hb7]
                refine zY rfl rfl (yC rfl rfl rfl tA24 tS24 rfl rfl) <| zY rfl rfl (zP (fboth34 _ _) rfl rfl) <| g_u (zZ rfl rfl rfl) <| g_u (zC rfl rfl) <| yB (t := 59) rfl ?_
                rintro (hb8 | hb8)
                · rw [hb8]
                  refine zY rfl rfl (zP (fis_c _) rfl rfl) <| zY rfl rfl (uA rfl rfl) <| g_u (zZ rfl rfl rfl) <| g_u (zE rfl rfl) <| zH <| zA <| zL ?_
                  exact ⟨⟨(rfl : toAV (Al.look _ _) = some _).trans (congrArg some (by rfl)), rfl⟩, trivial⟩
                · exact killT hb8 (by first | rfl | decide +kernel)
              · exact killT hb7 (by first | rfl | decide +kernel)
            · exact killT hb6 (by first | rfl | decide +kernel)
          · exact killT hb5 (by first | rfl | decide +kernel)
        · exact killT hb4 (by first | rfl | decide +kernel)
      · exact killT hb3 (by first | rfl | decide +kernel)
    · exact killT hb2 (by first | rfl | decide +kernel)
  · exact killT hb1 (by first | rfl | decide +kernel)
set_option maxHeartbeats 4000000 in
theorem normalTwice_c (b : List GRes) (ns : List Int) (ho : okB b) : zn Tryz.prog Γ0 5 [ya b, .sl 1 (ns.map fun x => cv x)] [bv true] := by
  refine z_ Tryz.func5 rfl Tryz.ntmps5 (by kernel_rfl) rfl fun w0 I0 G0 => ?_
  refine zD <| zB <| g_uG (zk 1002 rfl rfl rfl rfl) rfl <| g_u (zE rfl rfl) <| zH <| zA <| zD <| zD <| zB <| g_u (zG rfl rfl rfl tA24 tS24 rfl rfl) ?_
  refine g_u (zP (leftR_c _ _ (by first | decide | omega)) rfl rfl) ?_
  refine g_u (ye rfl rfl rfl) <| g_u (zC rfl rfl) <| yB (t := 11) rfl ?_
  rintro (hb1 | hb1)
  · rw [hb1]
    have z1 : sL b 6000 < 0 := of_decide_eq_true hb1
    refine zI rfl rfl rfl <| zI rfl rfl rfl <| zI rfl rfl rfl <| g_u (zZ rfl rfl rfl) <| g_u (zC rfl rfl) <| zI rfl rfl rfl <| zI rfl rfl rfl <| zI rfl rfl rfl <| zI rfl rfl rfl <| g_u (zZ rfl rfl rfl) <| zH <| zA <| zs rfl <| zD <| zB <| g_u (zP (r7) rfl rfl) <| g_u (zE rfl rfl) <| zH <| zA <| zL <| zK ?_
    exact ⟨⟨(rfl : toAV (Al.look _ _) = some _).trans (congrArg some (by rfl)), rfl⟩, trivial⟩
  · rw [hb1]
    have z1 : ¬ sL b 6000 < 0 := of_decide_eq_false hb1
    have hwb := leftR_le z1
    have hfb : fitB b := fitB_small (by omega)
    refine zY rfl rfl (zC rfl rfl) <| zY rfl rfl (z7 rfl rfl Tryz.underlying42) <| zY rfl rfl (wD rfl rfl rfl) <| g_u (zh rfl rfl rfl) <| g_u (zC rfl rfl) <| yB (t := 16) rfl ?_
    rintro (hb2 | hb2)
    · rw [hb2]
      refine zI rfl rfl rfl <| zI rfl rfl rfl <| zI rfl rfl rfl <| zI rfl rfl rfl <| g_u (zZ rfl rfl rfl) <| zH <| zA <| zs rfl <| zD <| zB <| g_u (zP (r7) rfl rfl) <| g_u (zE rfl rfl) <| zH <| zA <| zL <| zK ?_
      exact ⟨⟨(rfl : toAV (Al.look _ _) = some _).trans (congrArg some (by rfl)), rfl⟩, trivial⟩
    · rw [hb2]
      have z2 : ns.length ≤ 8 := by have := of_decide_eq_false hb2; simp only [List.length_map] at this; omega
      refine zY rfl rfl (zG rfl rfl rfl tA24 tS24 rfl rfl) ?_
      refine zY rfl rfl (zP ((by first | exact rchk_c b ho hfb | exact rchk_c _ (hA _) (hF _))) rfl rfl) ?_
      refine zY rfl rfl (s_field rfl rfl rfl fa29_0 rfl rfl) <| zY rfl rfl (xl rfl rfl rfl) <| g_u (zh rfl rfl rfl) <| zH <| zA ?_
      refine zN rfl (fun hb3 => ?_) (fun hb3 => ?_)
      · have q1 : (chkF b).1 ≠ 0 := bne_iff_ne.1 hb3
        refine zD <| zB <| g_u (zP (r7) rfl rfl) <| g_u (zE rfl rfl) <| zH <| zA <| zL <| zK ?_
        exact ⟨⟨(rfl : toAV (Al.look _ _) = some _).trans (congrArg some (by rfl)), rfl⟩, trivial⟩
      · have q1 : (chkF b).1 = 0 := qd.1 hb3
        refine zQ <| zA <| zD <| zB <| g_u (zG rfl rfl rfl tA24 tS24 rfl rfl) <| g_uG (zy 1005 rfl rfl rfl tZ24) rfl <| g_u (zV rfl rfl rfl tS24 rfl rfl) <| zH <| zA <| zD <| zD <| zB <| g_u (zE rfl rfl) <| zH <| zA <| zU ?_
        refine zw (fun p : Nat × List GRes => [(1, .imm (.sl 1 (ns.map fun x => cv x))), (2, .ptr 1002 0), (1002, .box 24 (.imm (ya b))), (5, .ptr 1005 0), (1005, .box 24 (.imm (ya p.2))), (6, .imm (iv (p.1 : Int)))]) (fun p => (p.1 ≤ ns.length ∧ okB p.2 ∧ (chkF p.2).1 = 0 ∧ wtB p.2 ≤ 65536 ∧ (y8 p.2).Perm (y8 b))) (fun p => ns.length - p.1) ((0, b)) ?_ ⟨rfl, rfl, rfl, rfl, rfl, rfl, trivial⟩ ?_
        · exact ⟨Nat.zero_le _, ho, q1, by (try dsimp only); omega, List.Perm.refl _⟩
        · rintro ⟨i, x⟩ ⟨h1, ho2, hc2, hw2, hp2⟩; (try dsimp only at h1 ho2 hc2 hw2 hp2)
          have hA : ∀ f, okB (nkM f x) := fun f => nk_ok ho2 (by omega)
          have hW : ∀ f, wtB (nkM f x) ≤ 65536 := fun f => nk_small ho2 hc2 hw2
          have hC : ∀ f, (chkF (nkM f x)).1 = 0 := fun f => nk_chk ho2 hc2
          have hF : ∀ f, fitB (nkM f x) := fun f => fit_valid (hC f) (hW f)
          have hr2 := chk_ris hc2
          refine zD <| zD <| zB <| g_u (zC rfl rfl) <| g_u (zC rfl rfl) <| g_u (z7 rfl rfl Tryz.underlying42) <| g_u (ye rfl rfl rfl) <| zH <| zA ?_
          refine zN rfl (fun hb4 => ?_) (fun hb4 => ?_)
          · have hi : i < ns.length := by have := of_decide_eq_true hb4; (try simp only [List.length_map] at this); omega
            refine zQ <| zA <| zD <| zU <| zD <| zB <| g_u (zC rfl rfl) <| g_u (zC rfl rfl) ?_
            refine g_u (zR rfl rfl rfl Tryz.underlying42 tS5 (by omega) (wq (d := (0 : Int)) (f := fun x => cv x) hi)) ?_
            refine g_u (zd rfl rfl tA5 tS5 rfl rfl) ?_
            refine g_u (r8 rfl rfl rfl (by first | decide | omega | (((try simp only [decide_eq_true_eq, decide_eq_false_iff_not, bne_iff_ne, ne_eq, beq_iff_eq, qd, beq_eq_false_iff_ne, Bool.not_eq_true', Bool.not_eq_false', gt_iff_lt, ge_iff_le] at *); (repeat simp (disch := omega) only [zO, zi] at *)); omega))) ?_
            refine g_u (z0 rfl rfl rfl) <| g_u (xL rfl rfl Tryz.underlying5 Tryz.underlying36) <| g_u (zE rfl rfl) <| zH <| zA <| zD <| zB <| g_u (zC rfl rfl) <| g_u (zG rfl rfl rfl tA24 tS24 rfl rfl) ?_
            refine g_u (zP (fkof_c _ x ho2 (by omega) hr2) rfl rfl) ?_
            refine g_u (zV rfl rfl rfl tS24 rfl rfl) <| zH <| zA <| zD <| zB <| g_u (yC rfl rfl rfl tA24 tS24 rfl rfl) ?_
            refine g_u (zP ((by first | exact rchk_c b ho hfb | exact rchk_c _ (hA _) (hF _))) rfl rfl) ?_
            refine g_u (s_field rfl rfl rfl fa29_0 rfl rfl) <| g_u (xl rfl rfl rfl) <| g_u (zC rfl rfl) <| yB (t := 44) rfl ?_
            rintro (hb5 | hb5)
            · exact killF hb5 ((by exact qd.2 (hC _)))
            · rw [hb5]
              refine zY rfl rfl (zG rfl rfl rfl tA24 tS24 rfl rfl) <| zY rfl rfl (yC rfl rfl rfl tA24 tS24 rfl rfl) ?_
              refine zY rfl rfl (zP (alike_c b (nkM _ x) (by omega) (Nat.le_trans (hW _) (by decide))) rfl rfl) ?_
              refine zY rfl rfl (uA rfl rfl) <| g_u (zh rfl rfl rfl) <| g_u (zC rfl rfl) <| yB (t := 50) rfl ?_
              rintro (hb6 | hb6)
              · exact killF hb6 ((by rw [alike_perm ((List.Perm.trans (nk_cores ho2) hp2).symm)]; rfl))
              · rw [hb6]
                refine zY rfl rfl (zC rfl rfl) <| zY rfl rfl (yC rfl rfl rfl tA24 tS24 rfl rfl) ?_
                refine zY rfl rfl (zP (fall_c _ (nkM _ x) (hA _) (Nat.le_trans (hW _) (by decide)) (nk_ris hr2)) rfl rfl) ?_
                refine zY rfl rfl (uA rfl rfl) <| g_u (zh rfl rfl rfl) <| zH <| zA ?_
                refine zN rfl (fun hb7 => ?_) (fun hb7 => ?_)
                · exact killF hb7 ((by rw [decide_eq_true (nk_stays ho2 hr2)]; rfl))
                · refine zQ ?_
                  refine zW <| zA <| zB <| g_u (zC rfl rfl) <| g_u (z0 rfl rfl rfl) <| g_u (zE rfl rfl) <| zH <| zA ?_
                  refine ⟨(i + 1, nkM _ x), ⟨hi, hA _, hC _, hW _, (nk_cores ho2).trans hp2⟩, ⟨rfl, rfl, rfl, rfl, rfl, zX rfl (by rw [zO (by omega) (by omega)]; rfl), trivial⟩, by (try dsimp only); omega⟩
          · refine zz ?_
            refine zT <| zT <| zq <| zA <| zD <| zB <| g_u (zP (r7) rfl rfl) <| g_u (zE rfl rfl) <| zH <| zA <| zL ?_
            exact ⟨⟨(rfl : toAV (Al.look _ _) = some _).trans (congrArg some (by rfl)), rfl⟩, trivial⟩
end Go.Proofs
