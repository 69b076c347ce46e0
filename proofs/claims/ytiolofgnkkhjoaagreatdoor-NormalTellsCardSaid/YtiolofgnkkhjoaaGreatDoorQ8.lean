/- Texts that the proofs of this claim share, part 8: the abstract logic, plain Lean on values and batches, and walks. No condition but those typed in each lemma. -/
import Derived.Test.YtiolofgnkkhjoaaGreatDoorQ7
set_option linter.unusedSimpArgs false
set_option linter.unusedVariables false
set_option maxHeartbeats 400000
namespace Go.Al
open Go.RowKit
def resX (e : List AV) (b : Nat) : AV := .agg [.sl 7 e, .v (.slice (some ⟨b, 0, none⟩) 1 1)]
def unitsA (l : List AV) : List AV := l.map fun _ => .agg []
theorem repM_unitsA {w : World} {I : Nat → Nat → Prop} : ∀ (l : List AV) (b o : Nat), RepM w I 0 (unitsA l) b o
  | [], _, _ => by simp only [unitsA, List.map_nil, RepM]
  | x :: l, b, o => by
    simp only [unitsA, List.map_cons, RepM]
    exact ⟨⟨[], rfl, by simp only [RepC, y5], fun j hj => absurd hj (by simp)⟩, repM_unitsA l b (o + 0)⟩
def ZF (T : TypeId) (n b : Nat) : Nat → Value → Nat → HRes := fun _ _ _ =>
  { own := fun c => c = b
    ok := fun w I => ScOk T n w I b (.slice none 0 0) []
    keep := fun w I w' I' h hle ho => h.keep hle fun c hc => ho c (hc.elim id (fun h => by cases h))
    kind := fun w I c o h hc ho => by
      subst hc
      obtain ⟨_, ⟨fr, h2, _⟩, _⟩ := h
      rw [h2] at ho; cases ho; rfl }
def OutF (T : TypeId) (n : Nat) (rows e : List AV) : Nat → Value → Nat → HRes := fun blk cur len =>
  { own := fun c => c = blk ∨ c ∈ hdrB cur
    ok := fun w I => ScOk T n w I blk (.slice none 0 0) [] ∧ len = rows.length + 1 ∧ TokS w (fun _ => True) I w cur 2 (rows ++ [resX e blk]) ∧ blk ∉ hdrB cur
    keep := fun w I w' I' h hle ho => ⟨h.1.keep hle fun c hc => ho c (.inl (hc.elim id (fun h => by cases h))), h.2.1, h.2.2.1.keep hle fun c hc => ho c (.inr hc), h.2.2.2⟩
    kind := fun w I c o h hc ho => by
      rcases hc with rfl | hc
      · obtain ⟨_, ⟨fr, h2, _⟩, _⟩ := h.1
        rw [h2] at ho; cases ho; rfl
      · exact h.2.2.1.kind hc ho }
def zSc : AV := .agg [.v (.string .empty), .v (.string .empty), .v (.slice none 0 0)]
section
variable {C : Cx} {A : Nat → SV} {d : Nat} {ty : TypeId} {pos : String} {af : Array Edge} {gd : Option (Nat × Bool)} {T T' : TypeId}
theorem s_appendG (go' m : Nat) {kx ky go gz gx by_ : Nat} {rows e : List AV} {TS TR el T1 : TypeId} {z : Value}
    (hN : Nat.blt d C.N = true) (hkx : Nat.blt kx C.N = true) (hky : Nat.blt ky C.N = true) (hxy : Nat.beq kx ky = false) (hdy : Nat.beq d ky = false) (hgs : [go', go, gz, gx].all (Nat.ble C.N ·) = true) (hgK : Nat.blt go' C.K = true) (hdis : yq [go', go, gz, gx] = true)
    (hx : A kx = .slg go 2 rows) (hg : A go = .tok 2 rows) (hy : A ky = .osl gx 0 1 1) (hgx : A gx = .box TR (.agg [.imm (.sl 7 e), .osl gz 0 1 1])) (hgz : A gz = .box TS (.imm zSc))
    (hT : C.P.underlying T = some (.slice el)) (hT' : C.P.underlying T' = some (.slice T1)) (hn : yP C.P el = some 2) (hz : xz C.P el = some z) (hzn : z.cells.size = 2) (hb : (C.P.info? el).map (·.bytes) = some by_)
    (hB : (2 * (rows.length + 1) + 192) * by_ ≤ 281474976710656) (hL : rows.length + 1 < 9223372036854775808) :
    zr C ⟨some d, .call { callee := .builtin .append, args := #[.tmp kx, .tmp ky], argTypes := #[T, T'] }, ty, pos, af, gd⟩ [kx, ky, go, gz, gx] [go'] A
      [(go', .gen (OutF TS m rows e)), (d, .slg go' 0 (unitsA (rows ++ [.agg []]))), (go, .dead), (gz, .dead), (gx, .dead), (ky, .dead)] := by
  intro A' a w hR hF ⟨G, S⟩
  have hx : A' kx = _ := (hR kx (by simp)).trans hx
  have hg : A' go = _ := (hR go (by simp)).trans hg
  have hy : A' ky = _ := (hR ky (by simp)).trans hy
  have hgx : A' gx = _ := (hR gx (by simp)).trans hgx
  have hgz : A' gz = _ := (hR gz (by simp)).trans hgz
  simp only [List.all_cons, List.all_nil, Bool.and_eq_true, Bool.and_true] at hgs
  obtain ⟨n1, n2, n3, n4⟩ := hgs
  have n1 := Nat.le_of_ble_eq_true n1; have n2 := Nat.le_of_ble_eq_true n2; have n3 := Nat.le_of_ble_eq_true n3; have n4 := Nat.le_of_ble_eq_true n4
  have hdN : d < C.N := by simpa [Nat.blt_eq] using hN
  have hkxN : kx < C.N := by simpa [Nat.blt_eq] using hkx
  have hkyN : ky < C.N := by simpa [Nat.blt_eq] using hky
  have hg'K : go' < C.K := by simpa [Nat.blt_eq] using hgK
  have hxy' : kx ≠ ky := fun h => by rw [h, Nat.beq_refl] at hxy; cases hxy
  have hdy' : d ≠ ky := fun h => by rw [h, Nat.beq_refl] at hdy; cases hdy
  simp only [yq, List.elem_eq_mem, List.mem_cons, List.not_mem_nil, or_false, Bool.and_eq_true, Bool.not_eq_true', qb, not_or, not_false_eq_true, and_true, decide_false, Bool.not_false] at hdis
  obtain ⟨⟨d1, d2, d3⟩, ⟨d4, d5⟩, d6⟩ := hdis
  -- the row of one resource is shared
  have hbx := S.holds gx
  rw [hgx] at hbx
  simp only [Holds] at hbx
  obtain ⟨how, ⟨cs, fr, hb0, hrep, huf⟩, hni⟩ := hbx
  have hrepx := hrep
  simp only [RepS, xA] at hrep
  obtain ⟨c1, c2, hcs, hr1, c3, c4, hc34, hr3, hr4⟩ := hrep
  subst hr4 hr3
  have hc1l : c1.length = 1 := RepC.len _ _ hr1
  obtain ⟨S1, hle1, hcells⟩ := S.giveUp fr hgx hb0
  rw [setBlk_same hb0] at S1 hle1 hcells
  obtain ⟨I1, hI1⟩ : ∃ I1, I1 = fun b o => G.I b o ∨ (b = G.blk gx ∧ o < cs.size) := ⟨_, rfl⟩
  rw [← hI1] at S1 hle1 hcells
  have hcsl : cs.toList.length = 2 := by rw [hcs, hc34]; simp [hc1l]
  have hX : RepC w I1 (resX e (G.blk gz)) cs.toList := by
    simp only [resX, RepC, y5]
    exact ⟨c1, c2, hcs, RepC.mono hle1 _ _ hr1, c2, [], by simp, by rw [hc34]; simp [Value.cells, plain], rfl⟩
  let G1 : Gh := { G with I := I1 }
  let A2 : Nat → SV := upd A' [(ky, .imm (.sl 2 [resX e (G.blk gz)])), (gz, .gen (ZF TS m (G.blk gz))), (gx, .dead)]
  have hA2 : ∀ k, k ≠ ky → k ≠ gz → k ≠ gx → A2 k = A' k := fun k h1 h2 h3 => upd_off (by simp [xN, h1, h2, h3])
  have hA2y : A2 ky = .imm (.sl 2 [resX e (G.blk gz)]) := by simp [A2, upd]
  have hA2z : A2 gz = .gen (ZF TS m (G.blk gz)) := by simp [A2, upd, zO (show ky ≠ gz by omega)]
  have hA2x : A2 gx = .dead := by simp [A2, upd, zO (show ky ≠ gx by omega), zO d6]
  have hbz := S1.holds gz
  rw [upd_off (by simpa [xN] using d6), hgz] at hbz
  simp only [Holds, BoxS] at hbz
  obtain ⟨zow, ⟨zcs, zfr, zb, zrep, zuf⟩, zni⟩ := hbz
  have hzcs : zcs = #[.string .empty, .string .empty, .slice none 0 0] := by
    simp only [RepS, zSc, RepC, y5] at zrep
    obtain ⟨z1, z2, e1, ⟨e2, _⟩, z3, z4, e3, ⟨e4, _⟩, z5, z6, e5, ⟨e6, _⟩, e7⟩ := zrep
    apply Array.ext'
    rw [e1, e2, e3, e4, e5, e6, e7]; rfl
  subst hzcs
  have S2 : SimG C A2 G1 a w := by
    refine S1.tellKs [ky, gz] [] (Le.refl _ _) (GRel.refl _) (fun g _ => ⟨rfl, .inl ⟨rfl, rfl⟩⟩) (fun k hk => ⟨?_, rfl, rfl, rfl⟩) (fun k _ => xT.1 _) (fun b o h => .inl h) ?_ ?_ ?_
    · simp only [List.mem_cons, List.not_mem_nil, or_false, not_or] at hk
      by_cases h : k = gx
      · subst h; rw [hA2x]; simp [upd]
      · rw [hA2 k hk.1 hk.2 h, upd_off (by simpa [xN] using h)]
    · intro k hk b hb
      simp only [List.mem_cons, List.not_mem_nil, or_false] at hk
      rcases hk with rfl | rfl
      · rw [hA2y] at hb; simp only [zm] at hb
      · rw [hA2z] at hb
        simp only [zm, ZF] at hb
        refine ⟨k, by simp, ?_⟩
        rw [upd_off (by simpa [xN] using d6), hgz]; exact hb.symm
    · intro k hk
      simp only [List.mem_cons, List.not_mem_nil, or_false] at hk
      rcases hk with rfl | rfl
      · rw [hA2y]
        have hs := S1.holds k
        rw [upd_off (by simp [xN]; omega), hy] at hs
        simp only [Holds] at hs ⊢
        refine ⟨hs.1, ?_⟩
        obtain ⟨c, q1, q2⟩ := hs.2
        simp only [RepS] at q1
        rw [q2, q1]
        refine ⟨_, ?_, rfl⟩
        simp only [RepS, RepC]
        refine ⟨_, rfl, .inr ⟨G.blk gx, 0, 1, rfl, Nat.le_refl _, by unfold maxLen; omega, ?_⟩⟩
        simp only [RepM]
        exact ⟨⟨cs.toList, hcsl, hX, hcells⟩, trivial⟩
      · rw [hA2z]
        simp only [Holds, ZF]
        refine ⟨fun b hb => by subst hb; exact zow, zow.2, ⟨zfr, zb, zuf⟩, zni, .inl ⟨rfl, rfl⟩⟩
    · intro k j b hk hj hkj h1 h2
      simp only [List.mem_cons, List.not_mem_nil, or_false] at hk hj
      rcases hk with rfl | rfl
      · rw [hA2y] at h1; simp only [zm] at h1
      · rcases hj with rfl | rfl
        · rw [hA2y] at h2; simp only [zm] at h2
        · exact hkj rfl
  have step := yA (C := C) (A := A2) (d := d) (x := .tmp kx) (y := .tmp ky) (T := T) (T' := T') (ty := ty) (pos := pos) (af := af) (gd := gd) (g := go) (n := 2) (l := rows) (m := [resX e (G.blk gz)]) (z := z) (Nat.ble_eq_true_of_le n2) hN
    (by simp only [opS]; rw [hA2 kx hxy' (by omega) (by omega)]; exact hx) (by rw [hA2 go (by omega) d4 d5]; exact hg) (by simp only [opV, opS]; rw [hA2y]) hT hT' hn hz hzn (by decide) hb (by simpa using hB) (by simpa using hL)
  refine Oper.wp_mono (fun a' w' h => ?_) (step A2 a w (fun k _ => rfl) (fun k _ => xT.1 _) ⟨_, S2⟩)
  obtain ⟨G2, S3⟩ := h
  obtain ⟨b, hbdef⟩ : ∃ b, b = G.blk gz := ⟨_, rfl⟩
  rw [← hbdef] at S3 hA2z hA2y
  obtain ⟨A3, hA3⟩ : ∃ A3, A3 = upd A2 [(go, .tok 2 (rows ++ [resX e b])), (d, .slg go 2 (rows ++ [resX e b]))] := ⟨_, rfl⟩
  rw [← hA3] at S3
  have h3o : A3 go = .tok 2 (rows ++ [resX e b]) := by rw [hA3]; simp [upd]
  have h3d : A3 d = .slg go 2 (rows ++ [resX e b]) := by rw [hA3]; simp [upd, zO (show go ≠ d by omega)]
  have h3z : A3 gz = .gen (ZF TS m b) := by rw [hA3, upd_off (by simp [xN]; omega)]; exact hA2z
  have h3 : ∀ k, k ∉ [go', d, go, gz, gx, ky] → A3 k = A' k := by
    intro k hk
    simp only [List.mem_cons, List.not_mem_nil, or_false, not_or] at hk
    rw [hA3, upd_off (by simp [xN, hk.2.1, hk.2.2.1]), hA2 k hk.2.2.2.2.2 hk.2.2.2.1 hk.2.2.2.2.1]
  have hto := S3.holds go
  rw [h3o] at hto
  simp only [Holds] at hto
  have htz := S3.holds gz
  rw [h3z] at htz
  simp only [Holds, ZF] at htz
  have htd := S3.holds d
  rw [h3d] at htd
  simp only [Holds] at htd
  obtain ⟨hto1, hto2⟩ := hto
  obtain ⟨hs1, hs2⟩ := hto2.own
  have hsep : b ∉ hdrB (G2.cur go) := fun h => by
    obtain ⟨ad, n', c, e1, e2⟩ := hdrB_mem h
    exact S3.apart gz go b (Ne.symm d4) (by rw [h3z]; rfl) (by rw [h3o]; exact ⟨ad, n', c, e1, e2⟩)
  let G3 : Gh := { G2 with blk := fun k => if k = go' then b else G2.blk k, cur := fun k => if k = go' then G2.cur go else G2.cur k, len := fun k => if k = go' then G2.len go else G2.len k }
  have hP : ∀ k, k ∉ [go', d, go, gz, gx, ky] → upd A' [(go', .gen (OutF TS m rows e)), (d, .slg go' 0 (unitsA (rows ++ [.agg []]))), (go, .dead), (gz, .dead), (gx, .dead), (ky, .dead)] k = A' k := fun k hk => upd_off (by simpa [xN] using hk)
  have p1 : upd A' [(go', .gen (OutF TS m rows e)), (d, .slg go' 0 (unitsA (rows ++ [.agg []]))), (go, .dead), (gz, .dead), (gx, .dead), (ky, .dead)] go' = .gen (OutF TS m rows e) := by simp [upd]
  have p2 : upd A' [(go', .gen (OutF TS m rows e)), (d, .slg go' 0 (unitsA (rows ++ [.agg []]))), (go, .dead), (gz, .dead), (gx, .dead), (ky, .dead)] d = .slg go' 0 (unitsA (rows ++ [.agg []])) := by simp [upd, zO (show go' ≠ d by omega)]
  have p3 : ∀ k, k ∈ [go, gz, gx, ky] → upd A' [(go', .gen (OutF TS m rows e)), (d, .slg go' 0 (unitsA (rows ++ [.agg []]))), (go, .dead), (gz, .dead), (gx, .dead), (ky, .dead)] k = .dead := by
    intro k hk
    simp only [List.mem_cons, List.not_mem_nil, or_false] at hk
    have hq1 : go' ≠ k := by rcases hk with rfl | rfl | rfl | rfl <;> first | assumption | omega
    have hq2 : d ≠ k := by rcases hk with rfl | rfl | rfl | rfl <;> first | assumption | omega
    simp only [upd, zO hq1, zO hq2, cond_false]
    by_cases e1 : go = k
    · subst e1; simp
    rw [zO e1]
    by_cases e2 : gz = k
    · subst e2; simp
    rw [zO e2]
    by_cases e3 : gx = k
    · subst e3; simp
    rw [zO e3]
    have e4 : ky = k := by rcases hk with h | h | h | h <;> first | exact h.symm | exact absurd h.symm (by assumption)
    subst e4; simp
  have hs3 : ∀ k, k ∈ [go', d, go, gz, gx, ky] → k = go' ∨ k = d ∨ k ∈ [go, gz, gx, ky] := fun k hk => by
    simp only [List.mem_cons, List.not_mem_nil, or_false] at hk ⊢; omega
  have own3 : ∀ k, k ∈ [go', d, go, gz, gx, ky] → ∀ c, zm G3 k c (upd A' [(go', .gen (OutF TS m rows e)), (d, .slg go' 0 (unitsA (rows ++ [.agg []]))), (go, .dead), (gz, .dead), (gx, .dead), (ky, .dead)] k) → k = go' ∧ (c = b ∨ c ∈ hdrB (G2.cur go)) := by
    intro k hk c hc
    rcases hs3 k hk with rfl | rfl | h
    · rw [p1] at hc
      simp only [zm, OutF, G3, if_true] at hc
      exact ⟨rfl, hc⟩
    · rw [p2] at hc; simp only [zm] at hc
    · rw [p3 k h] at hc; simp only [zm] at hc
  refine ⟨G3, S3.tellKs [go', d, go, gz, gx, ky] [go'] (Le.refl _ _) (fun k hk => ?_) (fun g hgK => ?_) (fun k hk => ?_) (fun k hk => ?_) (fun _ _ h => .inl h) ?_ ?_ ?_⟩
  · have : k ≠ go' := by simpa using hk
    exact ⟨by simp only [G3, if_neg this], .inl ⟨by simp only [G3, if_neg this], by simp only [G3, if_neg this]⟩⟩
  · have : g ≠ go' := by omega
    exact ⟨by simp only [G3, if_neg this], .inl ⟨by simp only [G3, if_neg this], by simp only [G3, if_neg this]⟩⟩
  · have : k ≠ go' := fun h => hk (by simp [h])
    exact ⟨by rw [hP k hk, h3 k hk], by simp only [G3, if_neg this], by simp only [G3, if_neg this], by simp only [G3, if_neg this]⟩
  · rw [h3 k hk]
    exact hF k (has_off (by simpa [xN] using hk))
  · intro k hk c hc
    obtain ⟨rfl, h | h⟩ := own3 k hk c hc
    · exact ⟨gz, by simp, by rw [h3z]; exact h⟩
    · exact ⟨go, by simp, by rw [h3o]; exact hdrB_mem h⟩
  · intro k hk
    rcases hs3 k hk with rfl | rfl | h
    · rw [p1]
      simp only [Holds, OutF, G3, if_true]
      refine ⟨fun c hc => ?_, htz.2, by rw [hto1]; simp, hs1, hsep⟩
      rcases hc with rfl | hc
      · exact htz.1 _ rfl
      · exact hs2 c hc
    · rw [p2]
      simp only [Holds]
      refine ⟨htd.1, ?_⟩
      obtain ⟨c, ⟨v, rfl, q1, q2, q3⟩, q4⟩ := htd.2
      have hlen : (unitsA (rows ++ [AV.agg []])).length = (rows ++ [resX e b]).length := by simp [unitsA]
      refine ⟨[v], ?_, q4⟩
      simp only [RepS]
      refine ⟨v, rfl, ?_, by rw [hlen]; simpa only [G3, if_true] using q2, by rw [hlen]; simpa only [G3, if_true] using q3⟩
      simp only [RepC] at q1 ⊢
      obtain ⟨v', e0, q1⟩ := q1
      cases e0
      rcases q1 with ⟨p, cap, _, h, _⟩ | ⟨bb, o, cap, e1, e2, e3, _⟩
      · exact absurd h (by simp)
      · exact ⟨_, rfl, .inr ⟨bb, o, cap, by rw [hlen]; exact e1, by rw [hlen]; exact e2, e3, repM_unitsA _ _ _⟩⟩
    · rw [p3 k h]; simp only [Holds]
  · intro k j c hk hj hkj h1 h2
    exact hkj ((own3 k hk c h1).1.trans (own3 j hj c h2).1.symm)
end
end Go.Al
namespace Go.Al
open Go.RowKit
theorem lt_keep {w w' : World} {b : Nat} (h : w'.heap[b]? = w.heap[b]?) (hb : b < w.heap.size) : b < w'.heap.size := by
  rw [Array.getElem?_eq_getElem hb] at h
  exact (Array.getElem?_eq_some_iff.1 h).1
theorem Holds.keepT {G G' : Gh} {w w' : World} {k : Nat} {x : SV} (hx : x.res = true) (h : Holds w (fun _ => True) G act0 w k x)
    (hle : Le w G.I w' G'.I) (hg : GRel [] G G') (hk : G'.blk k = G.blk k ∧ G'.cur k = G.cur k ∧ G'.len k = G.len k)
    (ho : ∀ b, zm G k b x → w'.heap[b]? = w.heap[b]? ∧ ∀ o, G'.I b o → G.I b o) : Holds w' (fun _ => True) G' act0 w' k x := by
  obtain ⟨e1, e2, e3⟩ := hk
  cases x <;> first | cases hx | skip
  all_goals simp only [Holds] at h ⊢
  case box T x =>
    obtain ⟨h1, ⟨cs, fr, h2, h3, h4⟩, h5⟩ := h
    obtain ⟨k2, k3⟩ := ho (G.blk k) (by simp [zm])
    rw [e1]
    exact ⟨⟨.inr trivial, lt_keep k2 h1.2⟩, ⟨cs, fr, by rw [k2]; exact h2, RepS.mono hle hg _ _ (xT.1 _) h3, h4⟩, fun o hi => h5 o (k3 o hi)⟩
  case tok n l =>
    rw [e2, e3]
    refine ⟨h.1, ?_⟩
    rcases h.2 with h' | ⟨b, cap, h1, h2, h3, h4, h5, ⟨cs, T, fr, h6, h7, h8⟩, h9⟩
    · exact .inl h'
    · obtain ⟨e4, e5⟩ := ho b ⟨⟨b, 0, none⟩, _, _, h1, rfl⟩
      exact .inr ⟨b, cap, h1, h2, h3, RepM.mono hle n l b 0 h4, ⟨.inr trivial, lt_keep e4 h5.2⟩, ⟨cs, T, fr, by rw [e4]; exact h6, h7, h8⟩, fun o ho' hi => h9 o ho' (e5 o hi)⟩
  case row l =>
    rw [e2, e3]
    refine ⟨h.1, ?_⟩
    rcases h.2 with h' | ⟨b, cap, h1, h2, h3, h4, ⟨cs, T, h5, h6, h7⟩, h8⟩
    · exact .inl h'
    · obtain ⟨e4, e5⟩ := ho b ⟨⟨b, 0, none⟩, _, _, h1, rfl⟩
      exact .inr ⟨b, cap, h1, h2, h3, ⟨.inr trivial, lt_keep e4 h4.2⟩, ⟨cs, T, by rw [e4]; exact h5, h6, h7⟩, fun o hi => h8 o (e5 o hi)⟩
  case mpr ks vs =>
    obtain ⟨h1, ⟨es, h2, h3, h4, h5⟩, h6⟩ := h
    obtain ⟨k2, k3⟩ := ho (G.blk k) (by simp [zm])
    rw [e1]
    exact ⟨⟨.inr trivial, lt_keep k2 h1.2⟩, ⟨es, by rw [k2]; exact h2, h3, yc.mono hle _ _ h4, yc.mono hle _ _ h5⟩, fun o hi => h6 o (k3 o hi)⟩
  case gen R =>
    rw [e1, e2, e3]
    exact ⟨fun b hb => ⟨.inr trivial, lt_keep (ho b (by simpa only [zm] using hb)).1 (h.1 b hb).2⟩, (R _ _ _).keep _ _ _ _ h.2 hle fun b hb => ho b (by simpa only [zm] using hb)⟩
  case itr m n seen =>
    obtain ⟨h1, h2, h3⟩ := h
    obtain ⟨k2, k3⟩ := ho (G.blk k) (by simp [zm])
    have e4 := (hg m (by simp)).1
    rw [e1, e4]
    exact ⟨⟨.inr trivial, lt_keep k2 h1.2⟩, by rw [k2]; exact h2, fun o hi => h3 o (k3 o hi)⟩
def decB : Value → Nat
  | .pointer (some a) => a.block
  | _ => 0
def decN : Value → Nat
  | .int _ n => n.toNat
  | _ => 0
def vAt (v : Value) (i : Nat) : Value := (tupV v).getD i Go.undef
def gBs (cur : Value) : List Nat := (tupV (vAt cur 4)).map decB
def gGh (I : Nat → Nat → Prop) (blk : Nat) (cur : Value) : Gh :=
  ⟨I, fun k => if k = 0 then blk else decB (vAt cur 0), fun k => if k = 2 then vAt cur 1 else vAt cur 2, fun _ => decN (vAt cur 3)⟩
def wW (es : List (List AV)) (bs : List Nat) : List AV := List.zipWith resX es bs
def gSt (TG TS n : Nat) (keys : List ByteArray) (nums : List AV) (es ls : List (List AV)) (bs : List Nat) : Nat → SV
  | 0 => .box TG (.agg [.mref 1, .slg 2 2 (wW es bs)])
  | 1 => .mpr (strs keys) nums
  | 2 => .tok 2 (wW es bs)
  | _ => .gen (ScF TS n bs ls bs.length)
theorem gSt_res {TG TS n : Nat} {keys : List ByteArray} {nums : List AV} {es ls : List (List AV)} {bs : List Nat} (k : Nat) : (gSt TG TS n keys nums es ls bs k).res = true := by
  unfold gSt; split <;> rfl
theorem owns_gGh {I I' : Nat → Nat → Prop} {blk : Nat} {cur : Value} {k b : Nat} {x : SV} : zm (gGh I blk cur) k b x ↔ zm (gGh I' blk cur) k b x := by
  cases x <;> exact Iff.rfl
def GrpF (TG TS n : Nat) (keys : List ByteArray) (nums : List AV) (es ls : List (List AV)) : Nat → Value → Nat → HRes := fun blk cur _ =>
  { own := fun b => ∃ k, k < 4 ∧ zm (gGh (fun _ _ => False) blk cur) k b (gSt TG TS n keys nums es ls (gBs cur) k)
    ok := fun w I => (gBs cur).length = es.length ∧ (∀ k, k < 4 → Holds w (fun _ => True) (gGh I blk cur) act0 w k (gSt TG TS n keys nums es ls (gBs cur) k)) ∧
      ∀ k j b, k < 4 → j < 4 → k ≠ j → zm (gGh (fun _ _ => False) blk cur) k b (gSt TG TS n keys nums es ls (gBs cur) k) → zm (gGh (fun _ _ => False) blk cur) j b (gSt TG TS n keys nums es ls (gBs cur) j) → False
    keep := fun w I w' I' h hle ho => ⟨h.1, fun k hk => (h.2.1 k hk).keepT (G' := gGh I' blk cur) (gSt_res k) hle (fun _ _ => ⟨rfl, .inl ⟨rfl, rfl⟩⟩) ⟨rfl, rfl, rfl⟩ fun b hb => ho b ⟨k, hk, owns_gGh.1 hb⟩, h.2.2⟩
    kind := fun w I b o h ⟨k, hk, hb⟩ ho => (h.2.1 k hk).kind (owns_gGh.1 hb) ho }
theorem lt4 {k : Nat} (h : k < 4) : k = 0 ∨ k = 1 ∨ k = 2 ∨ k = 3 := by omega
section
variable {C : Cx} {c : Code} {st : St} {Q : Exit → St → Prop}
theorem aw_newSc (gs T n : Nat) (hgN : Nat.ble C.N gs = true) (hgK : Nat.blt gs C.K = true) (hf : freshB [gs] st = true) (h : AW C c ((gs, .gen (ScF T n [] [] 0)) :: st) Q) : AW C c st Q := by
  intro a w ⟨G, S⟩
  have hK : gs < C.K := by simpa [Nat.blt_eq] using hgK
  let G' : Gh := { G with cur := fun k => if k = gs then .tuple #[] else G.cur k }
  have hoff : ∀ k, k ≠ gs → G'.blk k = G.blk k ∧ G'.cur k = G.cur k ∧ G'.len k = G.len k := fun k hk => ⟨rfl, by simp only [G', if_neg hk], rfl⟩
  have hu : upd (look st) [(gs, .gen (ScF T n [] [] 0))] gs = .gen (ScF T n [] [] 0) := by simp [upd]
  have hno : ∀ b, ¬ zm G' gs b (.gen (ScF T n [] [] 0)) := by
    rintro b ⟨j, c, v, h1, _⟩
    simp at h1
  have S' : SimG C (upd (look st) [(gs, .gen (ScF T n [] [] 0))]) G' a w := by
    refine S.tellKs [gs] [gs] (Le.refl _ _) (fun k hk => ?_) (fun g hg => ?_) (fun k hk => ?_) (fun k hk => wA st hf k) (fun _ _ h => .inl h) ?_ ?_ ?_
    · obtain ⟨e1, e2, e3⟩ := hoff k (by simpa using hk)
      exact ⟨e1, .inl ⟨e2, e3⟩⟩
    · obtain ⟨e1, e2, e3⟩ := hoff g (by omega)
      exact ⟨e1, .inl ⟨e2, e3⟩⟩
    · exact ⟨upd_off (by simpa [xN] using hk), hoff k (by simpa using hk)⟩
    · intro k hk b hb
      rw [List.mem_singleton.1 hk, hu] at hb
      exact absurd hb (hno b)
    · intro k hk
      rw [List.mem_singleton.1 hk, hu]
      simp only [Holds]
      refine ⟨fun b hb => absurd hb (hno b), ?_⟩
      simp only [ScF, G', if_true]
      exact ⟨rfl, rfl, fun j c v l _ h => by simp at h, fun c h => by simp at h, fun j k c c' v v' b _ h => by simp at h, fun j c v _ h => by simp at h⟩
    · intro k j b hk hj hkj
      exact absurd ((List.mem_singleton.1 hk).trans (List.mem_singleton.1 hj).symm) hkj
  rw [x_] at S'
  exact h a w ⟨G', S'⟩
end
end Go.Al
namespace Go.Al
open Go.RowKit
def gNames (g gm go gs : Nat) : Nat → Nat
  | 0 => g
  | 1 => gm
  | 2 => go
  | _ => gs
def gPut (TG TS n : Nat) (keys : List ByteArray) (nums : List AV) (es ls : List (List AV)) (bs : List Nat) (g gm go gs : Nat) : St :=
  [(g, .box TG (.agg [.mref gm, .slg go 2 (wW es bs)])), (gm, .mpr (strs keys) nums), (go, .tok 2 (wW es bs)), (gs, .gen (ScF TS n bs ls bs.length))]
def dis4 (g gm go gs : Nat) : Bool := yq [g, gm, go, gs]
theorem dis4_ne {g gm go gs : Nat} (h : dis4 g gm go gs = true) : (g ≠ gm ∧ g ≠ go ∧ g ≠ gs) ∧ (gm ≠ go ∧ gm ≠ gs) ∧ go ≠ gs := by
  unfold dis4 at h
  simp only [yq, List.elem_eq_mem, List.mem_cons, List.not_mem_nil, or_false, Bool.and_eq_true, Bool.not_eq_true', qb, not_or, not_false_eq_true, and_true, decide_false, Bool.not_false] at h
  exact h
section
variable {C : Cx} {c : Code} {st : St} {Q : Exit → St → Prop} {TG TS n : Nat} {keys : List ByteArray} {nums : List AV} {es ls : List (List AV)}
theorem SimG.openG {A : Nat → SV} {G : Gh} {a : Act} {w : World} (S : SimG C A G a w) (g gm go gs : Nat) (hd : dis4 g gm go gs = true) (hK : gm < C.K ∧ go < C.K ∧ gs < C.K)
    (hg : A g = .gen (GrpF TG TS n keys nums es ls)) (hf : ∀ k, k ∉ [g, gm, go, gs] → noG [gm, go, gs] (A k) = true) :
    ∃ bs G', bs.length = es.length ∧ ls.length = bs.length ∧ SimG C (upd A (gPut TG TS n keys nums es ls bs g gm go gs)) G' a w := by
  obtain ⟨⟨d1, d2, d3⟩, ⟨d4, d5⟩, d6⟩ := dis4_ne hd
  have hh := S.holds g
  rw [hg] at hh
  simp only [Holds] at hh
  obtain ⟨hown, hbl, hok, hap⟩ := hh
  obtain ⟨cur, hcur⟩ : ∃ cur, cur = G.cur g := ⟨_, rfl⟩
  rw [← hcur] at hown hbl hok hap
  obtain ⟨bs, hbs⟩ : ∃ bs, bs = gBs cur := ⟨_, rfl⟩
  rw [← hbs] at hbl hok hap
  let B : Nat → Nat → Prop := fun k b => zm (gGh (fun _ _ => False) (G.blk g) cur) k b (gSt TG TS n keys nums es ls bs k)
  have hownB : ∀ k b, k < 4 → B k b → Owned C.w0 C.E w b := fun k b hk hb => hown b ⟨k, hk, by rw [← hbs]; exact hb⟩
  have hownG : ∀ k b, k < 4 → B k b → zm G g b (A g) := fun k b hk hb => by
    rw [hg]; exact ⟨k, hk, by rw [← hcur, ← hbs]; exact hb⟩
  let G' : Gh := { G with blk := fun k => if k = gm then decB (vAt cur 0) else G.blk k, cur := fun k => if k = go then vAt cur 1 else if k = gs then vAt cur 2 else G.cur k, len := fun k => if k = go then decN (vAt cur 3) else G.len k }
  have hoff : ∀ k, k ∉ [gm, go, gs] → G'.blk k = G.blk k ∧ G'.cur k = G.cur k ∧ G'.len k = G.len k := fun k hk => by
    simp only [List.mem_cons, List.not_mem_nil, or_false, not_or] at hk
    exact ⟨by simp only [G', if_neg hk.1], by simp only [G', if_neg hk.2.1, if_neg hk.2.2], by simp only [G', if_neg hk.2.1]⟩
  have p0 : upd A (gPut TG TS n keys nums es ls bs g gm go gs) g = .box TG (.agg [.mref gm, .slg go 2 (wW es bs)]) := by simp [upd, gPut]
  have p1 : upd A (gPut TG TS n keys nums es ls bs g gm go gs) gm = .mpr (strs keys) nums := by simp [upd, gPut, zO d1]
  have p2 : upd A (gPut TG TS n keys nums es ls bs g gm go gs) go = .tok 2 (wW es bs) := by simp [upd, gPut, zO d2, zO d4]
  have p3 : upd A (gPut TG TS n keys nums es ls bs g gm go gs) gs = .gen (ScF TS n bs ls bs.length) := by simp [upd, gPut, zO d3, zO d5, zO d6]
  have own' : ∀ k b, k ∈ [g, gm, go, gs] → zm G' k b (upd A (gPut TG TS n keys nums es ls bs g gm go gs) k) → ∃ i, i < 4 ∧ gNames g gm go gs i = k ∧ B i b := by
    intro k b hk hb
    simp only [List.mem_cons, List.not_mem_nil, or_false] at hk
    rcases hk with rfl | rfl | rfl | rfl
    · rw [p0] at hb
      refine ⟨0, by omega, rfl, ?_⟩
      simp only [zm, G', if_neg d1] at hb
      simpa only [B, gSt, zm, gGh, if_true] using hb
    · rw [p1] at hb
      refine ⟨1, by omega, rfl, ?_⟩
      simp only [zm, G', if_true] at hb
      simpa [B, gSt, zm, gGh] using hb
    · rw [p2] at hb
      refine ⟨2, by omega, rfl, ?_⟩
      simp only [zm, G', if_true] at hb
      simpa only [B, gSt, zm, gGh, if_true] using hb
    · rw [p3] at hb
      refine ⟨3, by omega, rfl, ?_⟩
      simp only [zm, G', if_neg (Ne.symm d6), if_true] at hb
      exact hb
  have h0 := hok 0 (by omega); have h1 := hok 1 (by omega); have h2 := hok 2 (by omega); have h3 := hok 3 (by omega)
  refine ⟨bs, G', hbl, ?_, S.tellKs [g, gm, go, gs] [gm, go, gs] (Le.refl _ _) (fun k hk => ?_) (fun k hk => ?_) (fun k hk => ?_) hf (fun _ _ h => .inl h) ?_ ?_ ?_⟩
  · simp only [gSt, Holds, ScF] at h3
    exact h3.2.2.1
  · obtain ⟨e1, e2, e3⟩ := hoff k hk
    exact ⟨e1, .inl ⟨e2, e3⟩⟩
  · obtain ⟨e1, e2, e3⟩ := hoff k (by simp; omega)
    exact ⟨e1, .inl ⟨e2, e3⟩⟩
  · exact ⟨upd_off (by simpa [gPut, xN] using hk), hoff k (fun h => hk (List.mem_cons_of_mem _ h))⟩
  · intro k hk b hb
    obtain ⟨i, hi, _, hB⟩ := own' k b hk hb
    exact ⟨g, by simp, hownG i b hi hB⟩
  · intro k hk
    simp only [List.mem_cons, List.not_mem_nil, or_false] at hk
    rcases hk with rfl | rfl | rfl | rfl
    · rw [p0]
      simp only [gSt, Holds, BoxS] at h0 ⊢
      obtain ⟨q1, ⟨cs, fr, q2, q3, q4⟩, q5⟩ := h0
      have eb : G'.blk k = G.blk k := by simp only [G', if_neg d1]
      rw [eb]
      have eg : (gGh G.I (G.blk k) cur).blk 0 = G.blk k := rfl
      rw [eg] at q1 q2 q5
      refine ⟨hownB 0 _ (by omega) rfl, ⟨cs, fr, q2, ?_, q4⟩, q5⟩
      simp only [RepS, xA] at q3 ⊢
      obtain ⟨c1, c2, e1, e2, c3, c4, e3, e4, e5⟩ := q3
      refine ⟨c1, c2, e1, ?_, c3, c4, e3, ?_, e5⟩
      · rw [e2]; simp [G', gGh]
      · simpa [G', gGh] using e4
    · rw [p1]
      simp only [gSt, Holds, MprS] at h1 ⊢
      have eb : G'.blk k = decB (vAt cur 0) := by simp only [G', if_true]
      rw [eb]
      have eg : (gGh G.I (G.blk g) cur).blk 1 = decB (vAt cur 0) := rfl
      rw [eg] at h1
      exact ⟨hownB 1 _ (by omega) rfl, h1.2⟩
    · rw [p2]
      simp only [gSt, Holds] at h2 ⊢
      have ec : G'.cur k = vAt cur 1 := by simp only [G', if_true]
      have el : G'.len k = decN (vAt cur 3) := by simp only [G', if_true]
      rw [ec, el]
      obtain ⟨q1, q2⟩ := h2
      refine ⟨q1, ?_⟩
      rcases q2 with q2 | ⟨b, cap, e1, e2, e3, e4, e5, e6, e7⟩
      · exact .inl q2
      · exact .inr ⟨b, cap, e1, e2, e3, e4, hownB 2 b (by omega) ⟨⟨b, 0, none⟩, _, _, e1, rfl⟩, e6, e7⟩
    · rw [p3]
      simp only [gSt, Holds] at h3 ⊢
      have ec : G'.cur k = vAt cur 2 := by simp only [G', if_neg (Ne.symm d6), if_true]
      rw [ec]
      exact ⟨fun b hb => hownB 3 b (by omega) hb, h3.2⟩
  · intro k j b hk hj hkj hb1 hb2
    obtain ⟨i1, l1, e1, hB1⟩ := own' k b hk hb1
    obtain ⟨i2, l2, e2, hB2⟩ := own' j b hj hb2
    exact hap i1 i2 b l1 l2 (by rintro rfl; exact hkj (e1.symm.trans e2)) hB1 hB2
theorem aw_openG (g gm go gs : Nat) (hd : dis4 g gm go gs = true) (hK : (Nat.blt gm C.K && Nat.blt go C.K && Nat.blt gs C.K) = true) (hg : look st g = .gen (GrpF TG TS n keys nums es ls)) (hf : freshB [gm, go, gs] st = true)
    (h : ∀ bs : List Nat, bs.length = es.length → ls.length = bs.length → AW C c (gPut TG TS n keys nums es ls bs g gm go gs ++ st) Q) : AW C c st Q := by
  intro a w ⟨G, S⟩
  simp only [Bool.and_eq_true, Nat.blt_eq] at hK
  obtain ⟨bs, G', h1, h2, S'⟩ := S.openG g gm go gs hd ⟨hK.1.1, hK.1.2, hK.2⟩ hg (fun k _ => wA st hf k)
  rw [x_] at S'
  exact h bs h1 h2 a w ⟨G', S'⟩
theorem SimG.closeG {A : Nat → SV} {G : Gh} {a : Act} {w : World} (S : SimG C A G a w) (g gm go gs : Nat) {bs : List Nat} (hd : dis4 g gm go gs = true) (hbl : bs.length = es.length)
    (h0 : A g = .box TG (.agg [.mref gm, .slg go 2 (wW es bs)])) (h1 : A gm = .mpr (strs keys) nums) (h2 : A go = .tok 2 (wW es bs)) (h3 : A gs = .gen (ScF TS n bs ls bs.length)) :
    ∃ G', SimG C (upd A [(g, .gen (GrpF TG TS n keys nums es ls)), (gm, .dead), (go, .dead), (gs, .dead)]) G' a w := by
  obtain ⟨⟨d1, d2, d3⟩, ⟨d4, d5⟩, d6⟩ := dis4_ne hd
  obtain ⟨cur, hcur⟩ : ∃ cur : Value, cur = .tuple #[.pointer (some ⟨G.blk gm, 0, none⟩), G.cur go, G.cur gs, .int .i64 (G.len go), .tuple (bs.map fun b => Value.pointer (some ⟨b, 0, none⟩)).toArray] := ⟨_, rfl⟩
  have v0 : decB (vAt cur 0) = G.blk gm := by subst hcur; rfl
  have v1 : vAt cur 1 = G.cur go := by subst hcur; rfl
  have v2 : vAt cur 2 = G.cur gs := by subst hcur; rfl
  have v3 : decN (vAt cur 3) = G.len go := by subst hcur; rfl
  have v4 : gBs cur = bs := by
    subst hcur
    show (tupV (.tuple (bs.map fun b => Value.pointer (some ⟨b, 0, none⟩)).toArray)).map decB = bs
    simp only [tupV, List.map_map]
    have : (decB ∘ fun b => Value.pointer (some ⟨b, 0, none⟩)) = id := rfl
    rw [this, List.map_id]
  let G' : Gh := { G with cur := fun k => if k = g then cur else G.cur k, len := fun k => if k = g then G.len g + 1 else G.len k }
  have hoff : ∀ k, k ≠ g → G'.blk k = G.blk k ∧ G'.cur k = G.cur k ∧ G'.len k = G.len k := fun k hk => ⟨rfl, by simp only [G', if_neg hk], by simp only [G', if_neg hk]⟩
  have p0 : upd A [(g, .gen (GrpF TG TS n keys nums es ls)), (gm, .dead), (go, .dead), (gs, .dead)] g = .gen (GrpF TG TS n keys nums es ls) := by simp [upd]
  have pd : ∀ k, k ∈ [gm, go, gs] → upd A [(g, .gen (GrpF TG TS n keys nums es ls)), (gm, .dead), (go, .dead), (gs, .dead)] k = .dead := by
    intro k hk
    simp only [List.mem_cons, List.not_mem_nil, or_false] at hk
    rcases hk with rfl | rfl | rfl
    · simp [upd, zO d1]
    · simp [upd, zO d2, zO d4]
    · simp [upd, zO d3, zO d5, zO d6]
  let nm := gNames g gm go gs
  have own : ∀ k b, k < 4 → zm (gGh (fun _ _ => False) (G.blk g) cur) k b (gSt TG TS n keys nums es ls bs k) → zm G (nm k) b (A (nm k)) := by
    intro k b hk hb
    rcases lt4 hk with rfl | rfl | rfl | rfl
    · simp only [nm, gNames, h0]; exact hb
    · simp only [nm, gNames, h1]
      simp only [gSt, zm] at hb ⊢
      rw [← v0]; exact hb
    · simp only [nm, gNames, h2]
      simp only [gSt, zm] at hb ⊢
      rw [← v1]; exact hb
    · simp only [nm, gNames, h3]
      simp only [gSt, zm] at hb ⊢
      rw [← v2]; exact hb
  have hinj : ∀ {i j : Nat}, i < 4 → j < 4 → i ≠ j → nm i ≠ nm j := by
    intro i j hi hj hij
    rcases lt4 hi with rfl | rfl | rfl | rfl <;> rcases lt4 hj with rfl | rfl | rfl | rfl <;> simp only [nm, gNames] <;> first | exact absurd rfl hij | assumption | (apply Ne.symm; assumption)
  have hmem : ∀ k, k < 4 → nm k ∈ [g, gm, go, gs] := by
    intro k hk
    rcases lt4 hk with rfl | rfl | rfl | rfl <;> simp [nm, gNames]
  have own' : ∀ k b, k ∈ [g, gm, go, gs] → zm G' k b (upd A [(g, .gen (GrpF TG TS n keys nums es ls)), (gm, .dead), (go, .dead), (gs, .dead)] k) → k = g ∧ ∃ i, i < 4 ∧ zm G (nm i) b (A (nm i)) := by
    intro k b hk hb
    by_cases e : k = g
    · subst e
      rw [p0] at hb
      simp only [zm, GrpF, G', if_true, v4] at hb
      obtain ⟨i, hi, hb⟩ := hb
      exact ⟨rfl, i, hi, own i b hi hb⟩
    · rw [pd k (by simpa [e] using hk)] at hb
      simp only [zm] at hb
  refine ⟨G', S.tellKs [g, gm, go, gs] [] (Le.refl _ _) (fun k _ => ?_) (fun k _ => ?_) (fun k hk => ?_) (fun k _ => xT.1 _) (fun _ _ h => .inl h) ?_ ?_ ?_⟩
  · refine ⟨rfl, ?_⟩
    by_cases e : k = g
    · subst e; right; simp only [G', if_true]; omega
    · left; exact (hoff k e).2
  · refine ⟨rfl, ?_⟩
    by_cases e : k = g
    · subst e; right; simp only [G', if_true]; omega
    · left; exact (hoff k e).2
  · exact ⟨upd_off (by simpa [xN] using hk), hoff k (by rintro rfl; exact hk (by simp))⟩
  · intro k hk b hb
    obtain ⟨_, i, hi, hb⟩ := own' k b hk hb
    exact ⟨nm i, hmem i hi, hb⟩
  · intro k hk
    by_cases e : k = g
    · subst e
      rw [p0]
      simp only [Holds, GrpF, G', if_true, v4]
      refine ⟨fun b ⟨i, hi, hb⟩ => (S.holds (nm i)).owned (own i b hi hb), hbl, fun i hi => ?_, fun i j b hi hj hij hb1 hb2 => S.apart (nm i) (nm j) b (hinj hi hj hij) (own i b hi hb1) (own j b hj hb2)⟩
      rcases lt4 hi with rfl | rfl | rfl | rfl
      · have q := S.holds k
        rw [h0] at q
        simp only [gSt, Holds, BoxS] at q ⊢
        obtain ⟨q1, ⟨cs, fr, q2, q3, q4⟩, q5⟩ := q
        refine ⟨⟨.inr trivial, q1.2⟩, ⟨cs, fr, q2, ?_, q4⟩, q5⟩
        simp only [RepS, xA] at q3 ⊢
        obtain ⟨c1, c2, e1, e2, c3, c4, e3, e4, e5⟩ := q3
        refine ⟨c1, c2, e1, ?_, c3, c4, e3, ?_, e5⟩
        · rw [e2]; simp [gGh, v0]
        · simpa [gGh, v1, v3] using e4
      · have q := S.holds gm
        rw [h1] at q
        simp only [gSt, Holds, MprS] at q ⊢
        have eb : (gGh G.I (G.blk k) cur).blk 1 = G.blk gm := v0
        rw [eb]
        exact ⟨⟨.inr trivial, q.1.2⟩, q.2⟩
      · have q := S.holds go
        rw [h2] at q
        simp only [gSt, Holds] at q ⊢
        have ec : (gGh G.I (G.blk k) cur).cur 2 = G.cur go := v1
        have el : (gGh G.I (G.blk k) cur).len 2 = G.len go := v3
        rw [ec, el]
        exact ⟨q.1, q.2.own.1⟩
      · have q := S.holds gs
        rw [h3] at q
        simp only [gSt, Holds] at q ⊢
        have ec : (gGh G.I (G.blk k) cur).cur 3 = G.cur gs := v2
        rw [ec]
        exact ⟨fun b hb => ⟨.inr trivial, (q.1 b hb).2⟩, q.2⟩
    · rw [pd k (by simpa [e] using hk)]
      simp only [Holds]
  · intro k j b hk hj hkj hb1 hb2
    exact hkj ((own' k b hk hb1).1.trans (own' j b hj hb2).1.symm)
theorem aw_closeG (g gm go gs : Nat) (bs : List Nat) (TG TS n : Nat) (keys : List ByteArray) (nums : List AV) (es ls : List (List AV)) (hd : dis4 g gm go gs = true) (hbl : bs.length = es.length)
    (h0 : look st g = .box TG (.agg [.mref gm, .slg go 2 (wW es bs)])) (h1 : look st gm = .mpr (strs keys) nums) (h2 : look st go = .tok 2 (wW es bs)) (h3 : look st gs = .gen (ScF TS n bs ls bs.length))
    (h : AW C c ((g, .gen (GrpF TG TS n keys nums es ls)) :: (gm, .dead) :: (go, .dead) :: (gs, .dead) :: st) Q) : AW C c st Q := by
  intro a w ⟨G, S⟩
  obtain ⟨G', S'⟩ := S.closeG g gm go gs hd hbl h0 h1 h2 h3
  rw [x_] at S'
  exact h a w ⟨G', S'⟩
end
end Go.Al
namespace Go.Al
open Go.RowKit
theorem snoc_get {α : Type} {l : List α} {x y : α} {j : Nat} (h : (l ++ [x])[j]? = some y) : (j < l.length ∧ l[j]? = some y) ∨ (j = l.length ∧ y = x) := by
  by_cases hj : j < l.length
  · rw [List.getElem?_append_left hj] at h; exact .inl ⟨hj, h⟩
  · rw [List.getElem?_append_right (by omega)] at h
    have hlt := (List.getElem?_eq_some_iff.1 h).1
    have : j - l.length = 0 := by simp at hlt; omega
    rw [this] at h
    exact .inr ⟨by omega, by simpa using h.symm⟩
section
variable {C : Cx} {c : Code} {st : St} {Q : Exit → St → Prop} {TG TS n : Nat}
theorem SimG.openOut {A : Nat → SV} {G : Gh} {a : Act} {w : World} (S : SimG C A G a w) (g gm go gs : Nat) {bs : List Nat} {ls : List (List AV)} {rows e : List AV} (hd : yq [g, go, gs] = true) (hK : gs < C.K)
    (ho : A go = .gen (OutF TS n rows e)) (hg : A g = .box TG (.agg [.mref gm, .slg go 0 (unitsA (rows ++ [.agg []]))])) (hs : A gs = .gen (ScF TS n bs ls bs.length)) :
    ∃ b G', SimG C (upd A [(g, .box TG (.agg [.mref gm, .slg go 2 (rows ++ [resX e b])])), (go, .tok 2 (rows ++ [resX e b])), (gs, .gen (ScF TS n (bs ++ [b]) (ls ++ [[]]) (bs ++ [b]).length))]) G' a w := by
  simp only [yq, List.elem_eq_mem, List.mem_cons, List.not_mem_nil, or_false, Bool.and_eq_true, Bool.not_eq_true', qb, not_or, not_false_eq_true, and_true, decide_false, Bool.not_false] at hd
  obtain ⟨⟨d1, d2⟩, d3⟩ := hd
  have h1 := S.holds go
  rw [ho] at h1
  simp only [Holds, OutF] at h1
  obtain ⟨how, hsc, hlen, htok, hself⟩ := h1
  obtain ⟨b, hb⟩ : ∃ b, b = G.blk go := ⟨_, rfl⟩
  rw [← hb] at how hsc htok hself
  have h3 := S.holds gs
  rw [hs] at h3
  simp only [Holds, ScF] at h3
  obtain ⟨sow, sl1, sl2, sok, _, sap, sself⟩ := h3
  have hex : ∀ {j : Nat} {c : Nat}, bs[j]? = some c → j ≠ bs.length := fun hc => by have := (List.getElem?_eq_some_iff.1 hc).1; omega
  let G' : Gh := { G with cur := fun k => if k = gs then .tuple (tupV (G.cur gs) ++ [Value.slice none 0 0]).toArray else G.cur k, len := fun k => if k = gs then G.len gs + 1 else G.len k }
  have hoff : ∀ k, k ≠ gs → G'.blk k = G.blk k ∧ G'.cur k = G.cur k ∧ G'.len k = G.len k := fun k hk => ⟨rfl, by simp only [G', if_neg hk], by simp only [G', if_neg hk]⟩
  have hcur : tupV (G'.cur gs) = tupV (G.cur gs) ++ [Value.slice none 0 0] := by simp only [G', if_true, tupV]
  have ownO : ∀ c, (c = b ∨ c ∈ hdrB (G.cur go)) → zm G go c (A go) := fun c hc => by rw [ho]; simp only [zm, OutF]; rw [← hb]; exact hc
  have ownS : ∀ {j c : Nat} {v : Value} {x : Nat}, bs[j]? = some c → (tupV (G.cur gs))[j]? = some v → (x = c ∨ x ∈ hdrB v) → zm G gs x (A gs) := fun h1 h2 h3 => by
    rw [hs]; exact ⟨_, _, _, h1, h2, h3.imp_right fun h => ⟨hex h1, h⟩⟩
  have part : ∀ {j c : Nat} {v : Value}, (bs ++ [b])[j]? = some c → (tupV (G.cur gs) ++ [Value.slice none 0 0])[j]? = some v → (j < bs.length ∧ bs[j]? = some c ∧ (tupV (G.cur gs))[j]? = some v) ∨ (j = bs.length ∧ c = b ∧ v = .slice none 0 0) := by
    intro j c v h1 h2
    rcases snoc_get h1 with ⟨q1, q2⟩ | ⟨q1, q2⟩ <;> rcases snoc_get h2 with ⟨r1, r2⟩ | ⟨r1, r2⟩
    · exact .inl ⟨q1, q2, r2⟩
    · omega
    · omega
    · exact .inr ⟨q1, q2, r2⟩
  have hnn : ∀ x, x ∉ hdrB (.slice none 0 0) := fun x h => by cases h
  have p1 : upd A [(g, .box TG (.agg [.mref gm, .slg go 2 (rows ++ [resX e b])])), (go, .tok 2 (rows ++ [resX e b])), (gs, .gen (ScF TS n (bs ++ [b]) (ls ++ [[]]) (bs ++ [b]).length))] g = .box TG (.agg [.mref gm, .slg go 2 (rows ++ [resX e b])]) := by simp [upd]
  have p2 : upd A [(g, .box TG (.agg [.mref gm, .slg go 2 (rows ++ [resX e b])])), (go, .tok 2 (rows ++ [resX e b])), (gs, .gen (ScF TS n (bs ++ [b]) (ls ++ [[]]) (bs ++ [b]).length))] go = .tok 2 (rows ++ [resX e b]) := by simp [upd, zO d1]
  have p3 : upd A [(g, .box TG (.agg [.mref gm, .slg go 2 (rows ++ [resX e b])])), (go, .tok 2 (rows ++ [resX e b])), (gs, .gen (ScF TS n (bs ++ [b]) (ls ++ [[]]) (bs ++ [b]).length))] gs = .gen (ScF TS n (bs ++ [b]) (ls ++ [[]]) (bs ++ [b]).length) := by simp [upd, zO d2, zO d3]
  have own' : ∀ k x, k ∈ [g, go, gs] → zm G' k x (upd A [(g, .box TG (.agg [.mref gm, .slg go 2 (rows ++ [resX e b])])), (go, .tok 2 (rows ++ [resX e b])), (gs, .gen (ScF TS n (bs ++ [b]) (ls ++ [[]]) (bs ++ [b]).length))] k) →
      (k = g ∧ zm G g x (A g)) ∨ (k = go ∧ x ∈ hdrB (G.cur go)) ∨ (k = gs ∧ (zm G gs x (A gs) ∨ x = b)) := by
    intro k x hk hx
    simp only [List.mem_cons, List.not_mem_nil, or_false] at hk
    rcases hk with rfl | rfl | rfl
    · rw [p1] at hx
      exact .inl ⟨rfl, by rw [hg]; exact hx⟩
    · rw [p2] at hx
      simp only [zm, G', if_neg d3] at hx
      obtain ⟨ad, m, cp, e1, e2⟩ := hx
      exact .inr (.inl ⟨rfl, by rw [e1, ← e2]; exact List.mem_singleton.2 rfl⟩)
    · rw [p3] at hx
      simp only [zm, ScF] at hx
      rw [hcur] at hx
      obtain ⟨j, c, v, h1, h2, h3⟩ := hx
      replace h3 : x = c ∨ x ∈ hdrB v := h3.imp_right And.right
      rcases part h1 h2 with ⟨_, q2, q3⟩ | ⟨_, rfl, rfl⟩
      · exact .inr (.inr ⟨rfl, .inl (ownS q2 q3 h3)⟩)
      · exact .inr (.inr ⟨rfl, .inr (h3.elim id fun h => absurd h (hnn x))⟩)
  have sepS : ∀ x, zm G gs x (A gs) → x ≠ b := fun x hx e => S.apart gs go x (Ne.symm d3) hx (ownO x (.inl e))
  refine ⟨b, G', S.tellKs [g, go, gs] [] (Le.refl _ _) (fun k _ => ?_) (fun k hk => ?_) (fun k hk => ?_) (fun k _ => xT.1 _) (fun _ _ h => .inl h) ?_ ?_ ?_⟩
  · refine ⟨rfl, ?_⟩
    by_cases h : k = gs
    · subst h; right; simp only [G', if_true]; omega
    · left; exact (hoff k h).2
  · refine ⟨rfl, .inl (hoff k (by omega)).2⟩
  · exact ⟨upd_off (by simpa [xN] using hk), hoff k (by rintro rfl; exact hk (by simp))⟩
  · intro k hk x hx
    rcases own' k x hk hx with ⟨_, h⟩ | ⟨_, h⟩ | ⟨_, h | h⟩
    · exact ⟨g, by simp, h⟩
    · exact ⟨go, by simp, ownO x (.inr h)⟩
    · exact ⟨gs, by simp, h⟩
    · exact ⟨go, by simp, ownO x (.inl h)⟩
  · intro k hk
    simp only [List.mem_cons, List.not_mem_nil, or_false] at hk
    rcases hk with rfl | rfl | rfl
    · rw [p1]
      have q := S.holds k
      rw [hg] at q
      simp only [Holds, BoxS] at q ⊢
      obtain ⟨q1, ⟨cs, fr, q2, q3, q4⟩, q5⟩ := q
      refine ⟨q1, ⟨cs, fr, q2, ?_, q4⟩, q5⟩
      simp only [RepS, xA] at q3 ⊢
      obtain ⟨c1, c2, e1, e2, c3, c4, e3, ⟨v, e4, e5, e6, e7⟩, e8⟩ := q3
      have hul : (unitsA (rows ++ [AV.agg []])).length = rows.length + 1 := by simp [unitsA]
      have hv : v = G.cur go := e7 (by rw [hul]; exact hlen.symm)
      refine ⟨c1, c2, e1, e2, c3, c4, e3, ⟨v, e4, ?_, by simp only [G', if_neg d3, List.length_append, List.length_singleton]; omega, fun _ => by simp only [G', if_neg d3]; exact hv⟩, e8⟩
      simp only [RepC]
      rcases htok with ⟨_, h⟩ | ⟨b', cap, t1, t2, t3, t4, _⟩
      · simp at h
      · exact ⟨v, rfl, .inr ⟨b', 0, cap, by rw [hv]; exact t1, t2, t3, t4⟩⟩
    · rw [p2]
      simp only [Holds, G', if_neg d3]
      refine ⟨by rw [hlen]; simp, ?_⟩
      rcases htok with h | ⟨b', cap, t1, t2, t3, t4, t5, t6, t7⟩
      · exact .inl h
      · exact .inr ⟨b', cap, t1, t2, t3, t4, how b' (.inr (by rw [t1]; exact List.mem_singleton.2 rfl)), t6, t7⟩
    · rw [p3]
      simp only [Holds, ScF]
      rw [hcur]
      refine ⟨?_, by simp [sl1], by simp [sl2], ?_, ?_, ?_, ?_⟩
      · rintro x ⟨j, c, v, h1, h2, h3⟩
        replace h3 : x = c ∨ x ∈ hdrB v := h3.imp_right And.right
        rcases part h1 h2 with ⟨_, q2, q3⟩ | ⟨_, rfl, rfl⟩
        · exact (S.holds k).owned (ownS q2 q3 h3)
        · exact how x (.inl (h3.elim id fun h => absurd h (hnn x)))
      · intro j c v l _ h1 h2 h4
        rcases part h1 h2 with ⟨q1, q2, q3⟩ | ⟨q1, rfl, rfl⟩
        · rw [List.getElem?_append_left (by omega)] at h4
          exact sok j c v l (hex q2) q2 q3 h4
        · have : l = [] := by
            rcases snoc_get h4 with ⟨r1, _⟩ | ⟨_, r2⟩
            · omega
            · exact r2
          subst this; exact hsc
      · intro c hc
        rw [List.getElem?_eq_none (Nat.le_refl _)] at hc; cases hc
      · intro j j' c c' v v' x hjj h1 h1' h2 h2' h4 h5
        replace h4 : x = c ∨ x ∈ hdrB v := h4.imp_right And.right
        replace h5 : x = c' ∨ x ∈ hdrB v' := h5.imp_right And.right
        rcases part h1 h2 with ⟨q1, q2, q3⟩ | ⟨q1, rfl, rfl⟩ <;> rcases part h1' h2' with ⟨r1, r2, r3⟩ | ⟨r1, rfl, rfl⟩
        · exact sap j j' c c' v v' x hjj q2 r2 q3 r3 (h4.imp_right fun h => ⟨hex q2, h⟩) (h5.imp_right fun h => ⟨hex r2, h⟩)
        · have hx : x = c' := h5.elim id fun h => absurd h (hnn x)
          exact sepS x (ownS q2 q3 h4) hx
        · have hx : x = c := h4.elim id fun h => absurd h (hnn x)
          exact sepS x (ownS r2 r3 h5) hx
        · omega
      · intro j c v _ h1 h2
        rcases part h1 h2 with ⟨q1, q2, q3⟩ | ⟨q1, rfl, rfl⟩
        · exact sself j c v (hex q2) q2 q3
        · exact hnn c
  · intro k j x hk hj hkj h1 h2
    rcases own' k x hk h1 with ⟨rfl, p⟩ | ⟨rfl, p⟩ | ⟨rfl, p⟩ <;> rcases own' j x hj h2 with ⟨rfl, q⟩ | ⟨rfl, q⟩ | ⟨rfl, q⟩
    · exact hkj rfl
    · exact S.apart k j x hkj p (ownO x (.inr q))
    · rcases q with q | q
      · exact S.apart k j x hkj p q
      · exact S.apart k go x d1 p (ownO x (.inl q))
    · exact S.apart j k x (Ne.symm hkj) q (ownO x (.inr p))
    · exact hkj rfl
    · rcases q with q | q
      · exact S.apart k j x hkj (ownO x (.inr p)) q
      · subst q; exact hself p
    · rcases p with p | p
      · exact S.apart k j x hkj p q
      · exact S.apart go j x (Ne.symm d1) (ownO x (.inl p)) q
    · rcases p with p | p
      · exact S.apart k j x hkj p (ownO x (.inr q))
      · subst p; exact hself q
    · exact hkj rfl
theorem aw_openOut (g gm go gs : Nat) (bs : List Nat) (ls : List (List AV)) (rows e : List AV) (TG TS n : Nat) (hd : yq [g, go, gs] = true) (hK : Nat.blt gs C.K = true)
    (ho : look st go = .gen (OutF TS n rows e)) (hg : look st g = .box TG (.agg [.mref gm, .slg go 0 (unitsA (rows ++ [.agg []]))])) (hs : look st gs = .gen (ScF TS n bs ls bs.length))
    (h : ∀ b : Nat, AW C c ((g, .box TG (.agg [.mref gm, .slg go 2 (rows ++ [resX e b])])) :: (go, .tok 2 (rows ++ [resX e b])) :: (gs, .gen (ScF TS n (bs ++ [b]) (ls ++ [[]]) (bs ++ [b]).length)) :: st) Q) : AW C c st Q := by
  intro a w ⟨G, S⟩
  obtain ⟨b, G', S'⟩ := S.openOut g gm go gs hd (by simpa [Nat.blt_eq] using hK) ho hg hs
  rw [x_] at S'
  exact h b a w ⟨G', S'⟩
def resA (n : Nat) (e l : List AV) : AV := .agg [.sl 7 e, .sl 3 [.agg [.v (.string .empty), .v (.string .empty), .sl n l]]]
theorem repM_res {w : World} {I I' : Nat → Nat → Prop} {T n : Nat} (hle : Le w I w I') : ∀ (es ls : List (List AV)) (bs : List Nat) (b o : Nat), es.length = bs.length → ls.length = bs.length →
    (∀ (j b : Nat) (l : List AV), bs[j]? = some b → ls[j]? = some l → (∀ o, I' b o) ∧ ∃ v, ScOk T n w I b v l) → RepM w I 2 (wW es bs) b o → RepM w I' 2 (List.zipWith (resA n) es ls) b o
  | [], [], [], _, _, _, _, _, _ => by simp only [List.zipWith_nil_left, RepM]
  | e :: es, l :: ls, c :: bs, b, o, h1, h2, h, r => by
    simp only [wW, List.zipWith_cons_cons, RepM] at r ⊢
    obtain ⟨⟨cs, k1, k2, k3⟩, k4⟩ := r
    refine ⟨⟨cs, k1, ?_, k3.mono hle⟩, repM_res hle es ls bs b (o + 2) (by simpa using h1) (by simpa using h2) (fun j => h (j + 1)) k4⟩
    obtain ⟨hI, v, hs⟩ := h 0 c l rfl rfl
    obtain ⟨s1, ⟨fr, s2, s3⟩, s4, s5⟩ := hs
    simp only [resX, resA, RepC, y5] at k2 ⊢
    obtain ⟨c1, c2, q1, q2, c3, c4, q3, ⟨q4, _⟩, q5⟩ := k2
    refine ⟨c1, c2, q1, RepC.mono hle (.sl 7 e) c1 (by simpa only [RepC] using q2), c3, c4, q3, ?_, q5⟩
    have q4' : c3 = [Value.slice (some ⟨c, 0, none⟩) 1 1] := by rw [q4]; rfl
    refine ⟨_, q4', .inr ⟨c, 0, 1, rfl, Nat.le_refl _, by unfold maxLen; omega, ?_⟩⟩
    simp only [RepM, RepC, y5]
    refine ⟨⟨[.string .empty, .string .empty, v], rfl, ⟨[.string .empty], [.string .empty, v], rfl, ⟨rfl, rfl⟩, [.string .empty], [v], rfl, ⟨rfl, rfl⟩, [v], [], rfl, ⟨v, rfl, ?_⟩, rfl⟩, fun j hj => ⟨?_, hI _⟩⟩, trivial⟩
    · rcases s5 with ⟨rfl, rfl⟩ | ⟨b', cap, t1, t2, t3, t4, _⟩
      · exact .inl (nil_sl n)
      · exact .inr ⟨b', 0, cap, t1, t2, t3, RepM.mono hle _ _ _ _ t4⟩
    · rw [cell_at s2, Nat.zero_add, Array.getElem?_eq_getElem (by simpa using hj)]
      have : ∀ (j : Nat) (h1 : j < 3), (#[Value.string .empty, .string .empty, v] : Array Value)[j]'(by simpa using h1) = [Value.string .empty, .string .empty, v][j]'(by simpa using h1) := by
        intro j h1
        simp
      rw [this j (by simpa using hj)]
  | [], l :: ls, _, _, _, h1, h2, _, _ => by simp at h1 h2; omega
  | e :: es, [], _, _, _, h1, h2, _, _ => by simp at h1 h2; omega
  | [], [], c :: bs, _, _, h1, _, _, _ => by simp at h1
  | e :: es, l :: ls, [], _, _, h1, _, _, _ => by simp at h1
theorem SimG.finalG {A : Nat → SV} {G : Gh} {a : Act} {w : World} (S : SimG C A G a w) (g gm go gs : Nat) {bs : List Nat} {es ls : List (List AV)} (hd : yq [g, go, gs] = true) (h1 : es.length = bs.length) (h2 : ls.length = bs.length)
    (hg : A g = .box TG (.agg [.mref gm, .slg go 2 (wW es bs)])) (ho : A go = .tok 2 (wW es bs)) (hs : A gs = .gen (ScF TS n bs ls bs.length)) :
    ∃ G', SimG C (upd A [(g, .box TG (.agg [.mref gm, .imm (.sl 2 (List.zipWith (resA n) es ls))])), (go, .dead), (gs, .dead)]) G' a w := by
  simp only [yq, List.elem_eq_mem, List.mem_cons, List.not_mem_nil, or_false, Bool.and_eq_true, Bool.not_eq_true', qb, not_or, not_false_eq_true, and_true, decide_false, Bool.not_false] at hd
  obtain ⟨⟨d1, d2⟩, d3⟩ := hd
  have h3 := S.holds gs
  rw [hs] at h3
  simp only [Holds, ScF] at h3
  obtain ⟨sow, sl1, sl2, sok, _, sap, sself⟩ := h3
  have hex : ∀ {j : Nat} {c : Nat}, bs[j]? = some c → j ≠ bs.length := fun hc => by have := (List.getElem?_eq_some_iff.1 hc).1; omega
  let G' : Gh := { G with I := fun b o => G.I b o ∨ b ∈ bs }
  have hle : Le w G.I w G'.I := fun b o h => ⟨.inl h, rfl, fun _ _ h => h⟩
  have ownS : ∀ b, b ∈ bs → zm G gs b (A gs) := fun b hb => by
    obtain ⟨j, hj⟩ := List.getElem?_of_mem hb
    have hlt := (List.getElem?_eq_some_iff.1 hj).1
    rw [hs]
    exact ⟨j, b, (tupV (G.cur gs))[j]'(by omega), hj, List.getElem?_eq_getElem _, .inl rfl⟩
  have p1 : upd A [(g, .box TG (.agg [.mref gm, .imm (.sl 2 (List.zipWith (resA n) es ls))])), (go, .dead), (gs, .dead)] g = .box TG (.agg [.mref gm, .imm (.sl 2 (List.zipWith (resA n) es ls))]) := by simp [upd]
  have pd : ∀ k, k ∈ [go, gs] → upd A [(g, .box TG (.agg [.mref gm, .imm (.sl 2 (List.zipWith (resA n) es ls))])), (go, .dead), (gs, .dead)] k = .dead := by
    intro k hk
    simp only [List.mem_cons, List.not_mem_nil, or_false] at hk
    rcases hk with rfl | rfl
    · simp [upd, zO d1]
    · simp [upd, zO d2, zO d3]
  have own' : ∀ k x, k ∈ [g, go, gs] → zm G' k x (upd A [(g, .box TG (.agg [.mref gm, .imm (.sl 2 (List.zipWith (resA n) es ls))])), (go, .dead), (gs, .dead)] k) → k = g ∧ zm G g x (A g) := by
    intro k x hk hx
    by_cases e : k = g
    · subst e
      rw [p1] at hx
      exact ⟨rfl, by rw [hg]; exact hx⟩
    · rw [pd k (by simpa [e] using hk)] at hx
      simp only [zm] at hx
  refine ⟨G', S.tellKs [g, go, gs] [] hle (fun k _ => ⟨rfl, .inl ⟨rfl, rfl⟩⟩) (fun k _ => ⟨rfl, .inl ⟨rfl, rfl⟩⟩) (fun k hk => ⟨upd_off (by simpa [xN] using hk), rfl, rfl, rfl⟩) (fun k _ => xT.1 _) (fun b o h => h.imp_right fun h => ⟨gs, by simp, ownS b h⟩) ?_ ?_ ?_⟩
  · intro k hk x hx
    exact ⟨g, by simp, (own' k x hk hx).2⟩
  · intro k hk
    by_cases e : k = g
    · subst e
      rw [p1]
      have q := S.holds k
      rw [hg] at q
      simp only [Holds, BoxS] at q ⊢
      obtain ⟨q1, ⟨cs, fr, q2, q3, q4⟩, q5⟩ := q
      refine ⟨q1, ⟨cs, fr, q2, ?_, q4⟩, fun o h => ?_⟩
      · simp only [RepS, xA] at q3 ⊢
        obtain ⟨c1, c2, e1, e2, c3, c4, e3, ⟨v, e4, e5, _, _⟩, e8⟩ := q3
        refine ⟨c1, c2, e1, e2, c3, c4, e3, ?_, e8⟩
        have hzl : (List.zipWith (resA n) es ls).length = (wW es bs).length := by simp only [wW, List.length_zipWith]; omega
        simp only [RepC] at e5 ⊢
        obtain ⟨v', r0, r1⟩ := e5
        cases r0
        refine ⟨v, e4, ?_⟩
        rcases r1 with ⟨p, cap, r2, r3, r4⟩ | ⟨b', o', cap, r2, r3, r4, r5⟩
        · refine .inl ⟨p, cap, r2, ?_, r4⟩
          rw [r3] at hzl
          exact List.eq_nil_of_length_eq_zero hzl
        · refine .inr ⟨b', o', cap, by rw [hzl]; exact r2, by rw [hzl]; exact r3, r4, ?_⟩
          refine repM_res (T := TS) hle es ls bs b' o' h1 h2 (fun j b l hj hl => ?_) r5
          have hlt := (List.getElem?_eq_some_iff.1 hj).1
          obtain ⟨v, hv⟩ : ∃ v, (tupV (G.cur gs))[j]? = some v := ⟨_, List.getElem?_eq_getElem (by omega)⟩
          exact ⟨fun o => .inr (List.mem_of_getElem? hj), v, sok j b v l (hex hj) hj hv hl⟩
      · rcases h with h | h
        · exact q5 o h
        · exact S.apart k gs _ d2 (by rw [hg]; rfl) (ownS _ h)
    · rw [pd k (by simpa [e] using hk)]
      simp only [Holds]
  · intro k j x hk hj hkj h1 h2
    exact hkj ((own' k x hk h1).1.trans (own' j x hj h2).1.symm)
theorem aw_finalG (g gm go gs : Nat) (bs : List Nat) (es ls : List (List AV)) (TG TS n : Nat) (hd : yq [g, go, gs] = true) (h1 : es.length = bs.length) (h2 : ls.length = bs.length)
    (hg : look st g = .box TG (.agg [.mref gm, .slg go 2 (wW es bs)])) (ho : look st go = .tok 2 (wW es bs)) (hs : look st gs = .gen (ScF TS n bs ls bs.length))
    (h : AW C c ((g, .box TG (.agg [.mref gm, .imm (.sl 2 (List.zipWith (resA n) es ls))])) :: (go, .dead) :: (gs, .dead) :: st) Q) : AW C c st Q := by
  intro a w ⟨G, S⟩
  obtain ⟨G', S'⟩ := S.finalG g gm go gs hd h1 h2 hg ho hs
  rw [x_] at S'
  exact h a w ⟨G', S'⟩
end
end Go.Al
namespace Go.Al
open Go.RowKit
section
variable {C : Cx} {c : Code} {st : St} {Q : Exit → St → Prop} {TG TS n : Nat} {keys : List ByteArray} {nums : List AV} {es ls : List (List AV)}
theorem aw_openG' (g gm go gs : Nat) (hd : dis4 g gm go gs = true) (hK : (Nat.blt gm C.K && Nat.blt go C.K && Nat.blt gs C.K) = true) (hg : look st g = .gen (GrpF TG TS n keys nums es ls)) (hf : freshB [gm, go, gs] st = true)
    (h : ∀ bs : List Nat, bs.length = es.length → ls.length = bs.length → AW C c ((g, .box TG (.agg [.mref gm, .slg go 2 (wW es bs)])) :: (gm, .mpr (strs keys) nums) :: (go, .tok 2 (wW es bs)) :: (gs, .gen (ScF TS n bs ls bs.length)) :: st) Q) : AW C c st Q :=
  aw_openG g gm go gs hd hK hg hf h
theorem aw_endG (g gm go gs : Nat) (bs : List Nat) (TG TS n : Nat) (keys : List ByteArray) (nums : List AV) (es ls : List (List AV)) (hd : dis4 g gm go gs = true) (hbl : bs.length = es.length)
    (h : AW C c st (thn (fun st' => look st' g = .box TG (.agg [.mref gm, .slg go 2 (wW es bs)]) ∧ look st' gm = .mpr (strs keys) nums ∧ look st' go = .tok 2 (wW es bs) ∧ look st' gs = .gen (ScF TS n bs ls bs.length) ∧
      Q .normal ((g, .gen (GrpF TG TS n keys nums es ls)) :: (gm, .dead) :: (go, .dead) :: (gs, .dead) :: st')) Q)) : AW C c st Q := by
  intro a w S n
  refine wpIn_mono (h a w S n) ?_
  rintro e a' w' ⟨st', q, S'⟩
  cases e with
  | normal =>
    obtain ⟨h0, h1, h2, h3, q⟩ := q
    obtain ⟨G, S'⟩ := S'
    obtain ⟨G', S2⟩ := S'.closeG g gm go gs hd hbl h0 h1 h2 h3
    rw [x_] at S2
    exact ⟨_, q, G', S2⟩
  | exit id => exact ⟨st', q, S'⟩
  | goto l => exact ⟨st', q, S'⟩
  | ret => exact ⟨st', q, S'⟩
  | panic c => exact ⟨st', q, S'⟩
  | outgrown => exact ⟨st', q, S'⟩
end
theorem rowsX_len {es : List (List AV)} {bs : List Nat} (h : bs.length = es.length) : (wW es bs).length = es.length := by
  simp only [wW, List.length_zipWith]; omega
theorem rowsX_snoc : ∀ {es : List (List AV)} {bs : List Nat} (e : List AV) (b : Nat), bs.length = es.length → wW es bs ++ [resX e b] = wW (es ++ [e]) (bs ++ [b])
  | [], [], e, b, _ => rfl
  | e0 :: es, b0 :: bs, e, b, h => by
    have := rowsX_snoc (es := es) (bs := bs) e b (by simpa using h)
    simp only [wW, List.zipWith_cons_cons, List.cons_append, List.cons.injEq, true_and] at this ⊢
    exact this
  | [], _ :: _, _, _, h => by simp at h
  | _ :: _, [], _, _, h => by simp at h
theorem rowsX_get : ∀ {es : List (List AV)} {bs : List Nat} {i : Nat} {e : List AV} {b : Nat}, es[i]? = some e → bs[i]? = some b → (wW es bs)[i]? = some (resX e b)
  | _ :: _, _ :: _, 0, e, b, h1, h2 => by simp at h1 h2; subst h1 h2; rfl
  | _ :: es, _ :: bs, i + 1, e, b, h1, h2 => by
    simp only [List.getElem?_cons_succ] at h1 h2
    simpa [wW] using rowsX_get h1 h2
  | [], _, _, _, _, h, _ => by simp at h
  | _ :: _, [], _, _, _, _, h => by simp at h
theorem get_nth {α : Type} {l : List α} {i n : Nat} (h : l.length = n) (hi : i < n) : ∃ x, l[i]? = some x := ⟨_, List.getElem?_eq_getElem (by omega)⟩
end Go.Al
namespace Go.Proofs
open Go Go.Al
def numsG (n : Nat) : List AV := (List.range n).map fun i : Nat => iv (i : Int)
theorem numsG_snoc (n : Nat) : numsG n ++ [iv (n : Int)] = numsG (n + 1) := by simp [numsG, List.range_succ]
theorem numsG_get {i n : Nat} (h : i < n) : (numsG n)[i]? = some (iv (i : Int)) := by simp [numsG, h]
def atG (k : ByteArray) : List AV := (wP [] k).map avA
def esG (g : Gp) : List (List AV) := g.map fun x => atG x.1
def lsG (g : Gp) : List (List AV) := g.map fun x => x.2.map GSpan.av
theorem esG_len (g : Gp) : (esG g).length = g.length := by simp [esG]
theorem lsG_len (g : Gp) : (lsG g).length = g.length := by simp [lsG]
theorem gput_none : ∀ {g : Gp} {k : ByteArray} {i : Nat} (s : GSpan), mfind (ym g) k i = none → gput g k s = g ++ [(k, [s])]
  | [], k, i, s, _ => rfl
  | (k', l) :: g, k, i, s, h => by
    simp only [ym, List.map_cons, mfind] at h
    split at h
    · cases h
    · rename_i hne
      rw [gput, if_neg (Ne.symm hne), gput_none (g := g) s h]; rfl
theorem gput_some : ∀ {g : Gp} {k : ByteArray} {i j : Nat} (s : GSpan), mfind (ym g) k i = some j → ∃ l, g[j - i]? = some (k, l) ∧ gput g k s = g.set (j - i) (k, l ++ [s])
  | [], k, i, j, s, h => by simp [ym, mfind] at h
  | (k', l) :: g, k, i, j, s, h => by
    simp only [ym, List.map_cons, mfind] at h
    split at h
    · rename_i e; cases h; subst e
      refine ⟨l, by simp, ?_⟩
      rw [gput, if_pos rfl]; simp
    · rename_i hne
      have hlt := (mfind_lt h).1
      obtain ⟨l', h1, h2⟩ := gput_some (g := g) s h
      refine ⟨l', ?_, ?_⟩
      · rw [show j - i = (j - (i + 1)) + 1 by omega, List.getElem?_cons_succ]; exact h1
      · rw [gput, if_neg (Ne.symm hne), h2, show j - i = (j - (i + 1)) + 1 by omega]; rfl
theorem gput_len (g : Gp) (k : ByteArray) (s : GSpan) : (gput g k s).length ≤ g.length + 1 := by
  cases h : mfind (ym g) k 0 with
  | none => rw [gput_none s h]; simp
  | some j => obtain ⟨l, _, h2⟩ := gput_some s h; rw [h2]; simp
theorem grpF_len : ∀ (l : List (ByteArray × GSpan)) (g : Gp), (grpF g l).length ≤ g.length + l.length
  | [], g => by simp [grpF]
  | x :: l, g => by
    have h := grpF_len l (gput g x.1 x.2)
    have h2 := gput_len g x.1 x.2
    show (grpF (gput g x.1 x.2) l).length ≤ _
    simp only [List.length_cons]; omega
theorem grp_len (l : List (ByteArray × GSpan)) : (grp l).length ≤ l.length := by have := grpF_len l []; simpa [grp] using this
theorem grp_row {l : List (ByteArray × GSpan)} {x : ByteArray × List GSpan} (h : x ∈ grp l) : x.2.length ≤ l.length := by
  have h1 := (grp_perm l).length_eq
  rw [List.length_map] at h1
  have h2 : x.2.length ≤ ((grp l).flatMap (·.2)).length := by
    generalize grp l = g at h
    induction g with
    | nil => cases h
    | cons y g ih =>
      rw [List.flatMap_cons, List.length_append]
      rcases List.mem_cons.1 h with rfl | h
      · omega
      · have := ih h; omega
  omega
theorem zip_res : ∀ (g : Gp), List.zipWith (resA 42) (esG g) (lsG g) = (g.map resG).map GRes.av
  | [] => rfl
  | x :: g => by
    have := zip_res g
    simp only [esG, lsG, List.map_cons, List.zipWith_cons_cons] at this ⊢
    rw [this]; rfl
def GF (TG TS : Nat) (g : Gp) : Nat → Value → Nat → HRes := GrpF TG TS 42 (ym g) (numsG g.length) (esG g) (lsG g)
theorem GF_none {TG TS : Nat} {g : Gp} {k : ByteArray} (s : GSpan) (h : mfind (ym g) k 0 = none) : GF TG TS (gput g k s) = GrpF TG TS 42 (ym g ++ [k]) (numsG (g.length + 1)) (esG g ++ [atG k]) (lsG g ++ [[s.av]]) := by
  unfold GF
  rw [gput_none s h]
  simp [ym, esG, lsG]
theorem GF_some {TG TS : Nat} {g : Gp} {k : ByteArray} {i : Nat} {l : List GSpan} (s : GSpan) (hg : g[i]? = some (k, l)) : GF TG TS (g.set i (k, l ++ [s])) = GrpF TG TS 42 (ym g) (numsG g.length) (esG g) ((lsG g).set i (l.map GSpan.av ++ [s.av])) := by
  have hi := (List.getElem?_eq_some_iff.1 hg).1
  have set_id : ∀ {α β : Type} (f : α → β) (l : List α) (i : Nat) (x y : α), l[i]? = some x → f y = f x → (l.set i y).map f = l.map f := by
    intro α β f l
    induction l with
    | nil => intro i x y h _; simp at h
    | cons z l ih =>
      intro i x y h hf
      cases i with
      | zero => simp at h; subst h; simp [hf]
      | succ i => simp only [List.set_cons_succ, List.map_cons]; rw [ih i x y (by simpa using h) hf]
  unfold GF
  have e1 : ym (g.set i (k, l ++ [s])) = ym g := set_id _ g i (k, l) _ hg rfl
  have e2 : esG (g.set i (k, l ++ [s])) = esG g := set_id _ g i (k, l) _ hg rfl
  have e3 : lsG (g.set i (k, l ++ [s])) = (lsG g).set i (l.map GSpan.av ++ [s.av]) := by
    unfold lsG; rw [List.map_set]; simp
  rw [e1, e2, e3, List.length_set]
theorem get_snoc {α : Type} {l : List α} (x : α) {n : Nat} (h : l.length = n) : (l ++ [x])[n]? = some x := by subst h; simp
theorem set_snoc {α : Type} {l : List α} (x y : α) {n : Nat} (h : l.length = n) : (l ++ [x]).set n y = l ++ [y] := by subst h; simp
theorem grp_take {ks : List ByteArray} {ss : List GSpan} {i : Nat} (hi : i < (ks.zip ss).length) : grp ((ks.zip ss).take (i + 1)) = gput (grp ((ks.zip ss).take i)) (nth ks i ⟨#[]⟩) (nth ss i gs0) := by
  have e : nth (ks.zip ss) i rq0 = (nth ks i ⟨#[]⟩, nth ss i gs0) := zip_nth hi
  rw [zx (yZ (d := rq0) hi), e, grp_snoc]
theorem look_gen {st : Al.St} {k : Nat} {F F' : Nat → Value → Nat → HRes} (h : Al.look st k = .gen F) (e : F = F') : Al.look st k = .gen F' := by rw [h, e]
end Go.Proofs
namespace Go.Proofs
open Go Go.Al
set_option maxRecDepth 10000
set_option maxHeartbeats 8000000 in
theorem addNew_c (g : Gp) (k : ByteArray) (x : GSpan) (hm : mfind (ym g) k 0 = none) (hg : g.length ≤ 9000000) : MCall Tryz.prog Γ0 49 [.ptr 100001 0, .imm (sv k), .imm x.av] [(100001, .gen (GF 102 51 g))] (.tup []) [(100001, .gen (GF 102 51 (gput g k x)))] := by
  rw [GF_none x hm]
  refine wd (rs := []) Tryz.func49 rfl Tryz.ntmps49 (by kernel_rfl) rfl rfl rfl rfl rfl fun w0 I0 G0 E => ?_
  refine zD <| zB <| g_uG (zi 1005 rfl rfl rfl rfl) rfl <| zI <| zA <| zD ?_
  refine aw_openG' 100001 1090 3091 1092 rfl rfl rfl rfl (fun bs hb1 hb2 => ?_)
  have hb3 : bs.length = g.length := hb1.trans (esG_len g)
  have hrl : (wW (esG g) bs).length = g.length := by rw [rowsX_len hb1, esG_len]
  refine zB <| g_u (s_mv_ptr rfl rfl) <| g_u (y3 rfl rfl) <| g_u (zF rfl rfl fa102_0 rfl) <| g_u (s_load_box rfl rfl rfl tA100 tS100 rfl rfl rfl) <| g_u (zC rfl rfl) <| g_u (s_lookupNo rfl rfl rfl rfl Tryz.underlying100 Tryz.underlying9 hm zv3 rfl) <| g_u (y8 rfl rfl) <| g_u (zj rfl rfl rfl rfl) <| g_u (zj rfl rfl rfl rfl) <| g_u (zE rfl rfl) <| g_u (zE rfl rfl) <| zI <| zA <| zD <| zD <| zB <| g_u (zC rfl rfl) <| g_u (wZ rfl rfl) <| zI <| zA <| zg rfl <| zD <| zB <| g_u (s_mv_ptr rfl rfl) <| g_u (y3 rfl rfl) <| g_u (zF rfl rfl fa102_1 rfl) <| g_u (yj rfl rfl rfl tA22 tS22 rfl rfl) <| g_u (zw rfl rfl Tryz.underlying22) <| g_u (zE rfl rfl) <| zI <| zA <| zD <| zB <| g_u (s_mv_ptr rfl rfl) <| g_u (y3 rfl rfl) <| g_u (zF rfl rfl fa102_0 rfl) <| g_u (s_load_box rfl rfl rfl tA100 tS100 rfl rfl rfl) <| g_u (zC rfl rfl) <| g_u (zC rfl rfl) <| g_u (s_mapUpdate rfl rfl rfl rfl Tryz.underlying100 Tryz.underlying9) <| zI <| zA ?_
  rw [hrl]
  rw [show mputK (ym g) k = ym g ++ [k] from by simp only [mputK, hm], show mputV (ym g) (numsG g.length) k (iv (g.length : Int)) = numsG (g.length + 1) from by simp only [mputV, hm]; exact numsG_snoc _]
  refine yE yt <| g_u (s_mv_ptr rfl rfl) <| g_u (s_mv_ptr rfl rfl) <| g_u (y3 rfl rfl) <| g_u (zF rfl rfl fa102_1 rfl) <| g_u (yj rfl rfl rfl tA22 tS22 rfl rfl) <| g_u (zC rfl rfl) ?_
  refine g_u (zP (nil1 (n := 7) (named_c [] k trivial (by decide))) rfl rfl) ?_
  refine g_u (y_ rfl tZ51 us51 pl51 rfl rfl rfl rfl) <| g_uG (s_buildOwn1 1039 (X0 := z51) rfl rfl rfl Tryz.underlying45 tS51 tZ51 rfl rfl rfl rfl rfl rfl rfl) rfl <| g_u (s_buildSV rfl tZ47 us47 pl47 rfl rfl) <| g_uG (s_buildOwn1 1041 (X0 := z47) rfl rfl rfl Tryz.underlying22 tS47 tZ47 rfl rfl rfl rfl rfl rfl rfl) rfl ?_
  refine g_uG (s_appendG 3093 42 rfl rfl rfl rfl rfl rfl rfl rfl rfl rfl rfl rfl rfl Tryz.underlying22 Tryz.underlying22 tS47 zv47 rfl by47 (by rw [hrl]; omega) (by rw [hrl]; omega)) rfl ?_
  refine g_u (y3 rfl rfl) <| g_u (zF rfl rfl fa102_1 rfl) <| g_u (xO rfl rfl rfl rfl tS22 rfl rfl) ?_
  refine zI ⟨by kernel_rfl, ?_⟩
  refine zA ?_
  refine aw_openOut 100001 1090 3093 1092 bs (lsG g) (wW (esG g) bs) (atG k) 102 51 42 rfl rfl rfl rfl rfl (fun b => ?_)
  rw [rowsX_snoc (atG k) b hb1]
  refine zD ?_
  have hr := rowsX_get (get_snoc (atG k) (esG_len g)) (get_snoc b hb3)
  refine zB <| g_u (s_mv_ptr rfl rfl) <| g_u (y3 rfl rfl) <| g_u (zF rfl rfl fa102_1 rfl) <| g_u (yj rfl rfl rfl tA22 tS22 rfl rfl) <| g_u (zC rfl rfl) ?_
  refine g_u (zJ rfl rfl rfl Tryz.underlying22 tS47 (by omega) hr) ?_
  refine g_u (zV rfl rfl wR rfl rfl) <| g_u (zT rfl rfl tA45 tS45 rfl rfl) ?_
  refine g_u (s_ixRaw rfl rfl rfl Tryz.underlying45 tS51 (by decide)) ?_
  refine g_u (zE rfl rfl) <| zI <| zA ?_
  refine aw_endG 100001 1090 3093 1092 (bs ++ [b]) 102 51 42 (ym g ++ [k]) (numsG (g.length + 1)) (esG g ++ [atG k]) (lsG g ++ [[x.av]]) rfl (by simp only [List.length_append, hb1]; rfl) ?_
  refine yE yt <| g_u (zC rfl rfl) <| g_u (zC rfl rfl) <| g_u (s_nilRaw rfl rfl) <| g_u (s_fieldRaw rfl rfl wm rfl) <| g_uG (s_loadSc 1092 3094 g.length rfl rfl rfl rfl rfl rfl rfl (get_snoc b hb3) (get_snoc [] (lsG_len g)) tA49 tS49) rfl ?_
  refine g_u (zG rfl rfl rfl tA63 tS63 rfl (by first | exact xP (GSpan.width _) rfl | rfl)) ?_
  refine g_u (za (X0 := z63) rfl Tryz.underlying49 tS63 tZ63 rfl rfl rfl rfl rfl rfl rfl rfl) ?_
  refine g_u (yA rfl rfl rfl rfl rfl Tryz.underlying49 Tryz.underlying49 tS63 zv63 rfl (by decide) by63 (by (try dsimp only); simp only [List.length_append, List.length_cons, List.length_nil, List.length_map]; omega) (by (try dsimp only); simp only [List.length_append, List.length_cons, List.length_nil, List.length_map]; omega)) ?_
  refine g_u (s_nilRaw rfl rfl) <| g_u (s_fieldRaw rfl rfl wm rfl) <| g_u (s_storeSc 1092 3094 g.length rfl rfl rfl rfl rfl rfl (get_snoc b hb3) tS49) ?_
  refine zI ⟨by kernel_rfl, ?_⟩
  refine zA ?_
  refine ⟨rfl, rfl, rfl, (by rw [← set_snoc (x := []) (y := [x.av]) (lsG_len g)]; rfl), ?_⟩
  exact ⟨trivial, ⟨rfl, trivial⟩⟩
set_option maxHeartbeats 8000000 in
theorem addOld_c (g : Gp) (k : ByteArray) (x : GSpan) (i : Nat) (l : List GSpan) (hm : mfind (ym g) k 0 = some i) (hgi : g[i]? = some (k, l)) (hl : l.length ≤ 9000000) : MCall Tryz.prog Γ0 49 [.ptr 100001 0, .imm (sv k), .imm x.av] [(100001, .gen (GF 102 51 g))] (.tup []) [(100001, .gen (GF 102 51 (g.set i (k, l ++ [x]))))] := by
  rw [GF_some x hgi]
  have hi : i < g.length := (List.getElem?_eq_some_iff.1 hgi).1
  have hls : (lsG g)[i]? = some (l.map GSpan.av) := by simp [lsG, hgi]
  refine wd (rs := []) Tryz.func49 rfl Tryz.ntmps49 (by kernel_rfl) rfl rfl rfl rfl rfl fun w0 I0 G0 E => ?_
  refine zD <| zB <| g_uG (zi 1005 rfl rfl rfl rfl) rfl <| zI <| zA <| zD ?_
  refine aw_openG' 100001 1090 3091 1092 rfl rfl rfl rfl (fun bs hb1 hb2 => ?_)
  have hb3 : bs.length = g.length := hb1.trans (esG_len g)
  have hrl : (wW (esG g) bs).length = g.length := by rw [rowsX_len hb1, esG_len]
  refine zB <| g_u (s_mv_ptr rfl rfl) <| g_u (y3 rfl rfl) <| g_u (zF rfl rfl fa102_0 rfl) <| g_u (s_load_box rfl rfl rfl tA100 tS100 rfl rfl rfl) <| g_u (zC rfl rfl) <| g_u (s_lookupYes rfl rfl rfl rfl Tryz.underlying100 Tryz.underlying9 hm (numsG_get hi)) <| g_u (y8 rfl rfl) <| g_u (zj rfl rfl rfl rfl) <| g_u (zj rfl rfl rfl rfl) <| g_u (zE rfl rfl) <| g_u (zE rfl rfl) <| zI <| zA <| zD <| zD <| zB <| g_u (zC rfl rfl) <| g_u (wZ rfl rfl) <| zI <| zA <| yF rfl <| zY <| zA <| zD ?_
  obtain ⟨b, hb⟩ := get_nth hb3 hi
  have hr := rowsX_get (show (esG g)[i]? = some (atG k) by simp [esG, hgi]) hb
  refine zB <| g_u (s_mv_ptr rfl rfl) <| g_u (y3 rfl rfl) <| g_u (zF rfl rfl fa102_1 rfl) <| g_u (yj rfl rfl rfl tA22 tS22 rfl rfl) <| g_u (zC rfl rfl) ?_
  refine g_u (zJ rfl rfl rfl Tryz.underlying22 tS47 (by omega) hr) ?_
  refine g_u (zV rfl rfl wR rfl rfl) <| g_u (zT rfl rfl tA45 tS45 rfl rfl) ?_
  refine g_u (s_ixRaw rfl rfl rfl Tryz.underlying45 tS51 (by decide)) ?_
  refine g_u (zE rfl rfl) <| zI <| zA <| aw_endG 100001 1090 3091 1092 bs 102 51 42 (ym g) (numsG g.length) (esG g) ((lsG g).set i (l.map GSpan.av ++ [x.av])) rfl hb1 <| yE yt <| g_u (zC rfl rfl) <| g_u (zC rfl rfl) <| g_u (s_nilRaw rfl rfl) <| g_u (s_fieldRaw rfl rfl wm rfl) <| g_uG (s_loadSc 1092 3094 i rfl rfl rfl rfl rfl rfl rfl hb hls tA49 tS49) rfl ?_
  refine g_u (zG rfl rfl rfl tA63 tS63 rfl (by first | exact xP (GSpan.width _) rfl | rfl)) ?_
  refine g_u (za (X0 := z63) rfl Tryz.underlying49 tS63 tZ63 rfl rfl rfl rfl rfl rfl rfl rfl) ?_
  refine g_u (yA rfl rfl rfl rfl rfl Tryz.underlying49 Tryz.underlying49 tS63 zv63 rfl (by decide) by63 (by (try dsimp only); simp only [List.length_append, List.length_cons, List.length_nil, List.length_map]; omega) (by (try dsimp only); simp only [List.length_append, List.length_cons, List.length_nil, List.length_map]; omega)) ?_
  refine g_u (s_nilRaw rfl rfl) <| g_u (s_fieldRaw rfl rfl wm rfl) <| g_u (s_storeSc 1092 3094 i rfl rfl rfl rfl rfl rfl hb tS49) ?_
  refine zI ⟨by kernel_rfl, ?_⟩
  refine zA ?_
  refine ⟨rfl, rfl, rfl, rfl, ?_⟩
  exact ⟨trivial, ⟨rfl, trivial⟩⟩
theorem add_c (g : Gp) (k : ByteArray) (x : GSpan) (hg : g.length ≤ 9000000) (hl : ∀ y ∈ g, y.2.length ≤ 9000000) : MCall Tryz.prog Γ0 49 [.ptr 100001 0, .imm (sv k), .imm x.av] [(100001, .gen (GF 102 51 g))] (.tup []) [(100001, .gen (GF 102 51 (gput g k x)))] := by
  cases h : mfind (ym g) k 0 with
  | none => exact addNew_c g k x h hg
  | some i =>
    obtain ⟨l, h1, h2⟩ := gput_some x h
    rw [h2, Nat.sub_zero]
    rw [Nat.sub_zero] at h1
    exact addOld_c g k x i l h h1 (hl _ (List.mem_of_getElem? h1))
end Go.Proofs
namespace Go.Proofs
open Go Go.Al
set_option maxRecDepth 10000
set_option maxHeartbeats 8000000 in
theorem group_c (ks : List ByteArray) (ss : List GSpan) (hk : ks.length ≤ 9000000) (hs : ss.length ≤ 9000000) : zo Tryz.prog Γ0 27 [.sl 1 (ks.map fun x => sv x), .sl 42 (ss.map GSpan.av)] [yK (groupM (ks.zip ss))] := by
  have qz := zip_len ks ss
  refine z_ Tryz.func27 rfl Tryz.ntmps27 (by kernel_rfl) rfl fun w0 I0 G0 => ?_
  refine zD <| zB <| g_uG (zl 1004 rfl rfl rfl tZ24) rfl <| zI <| zA <| zD <| zB <| g_uG (s_makeMap 1007 rfl rfl rfl) rfl <| g_u (s_buildSV rfl tZ102 us102 pl102 rfl rfl) <| g_uG (s_box 1009 rfl rfl rfl rfl rfl rfl) rfl <| g_u (s_as_ptr rfl rfl) <| zI <| zA <| yn 3009 1009 2 1 rfl rfl rfl rfl rfl rfl rfl <| aw_newSc 1092 51 42 rfl rfl rfl <| aw_closeG 1009 1007 3009 1092 [] 102 51 42 [] [] [] [] rfl rfl rfl rfl rfl rfl <| zD <| zD <| zB <| g_u (zC rfl rfl) <| g_u (zw rfl rfl Tryz.underlying27) <| g_u (zC rfl rfl) <| g_u (zw rfl rfl Tryz.underlying49) <| g_u (s_min rfl rfl rfl) <| g_u (zC rfl rfl) <| zI <| zA <| zU ?_
  refine zp (fun i : Nat => [(0, .imm (.sl 1 (ks.map fun x => sv x))), (1, .imm (.sl 42 (ss.map GSpan.av))), (4, .ptr 1004 0), (1004, .box 24 (.imm z24)), (5, .ptr 1009 0), (1009, .gen (GF 102 51 (grp ((ks.zip ss).take i)))), (14, .imm (iv ((ks.zip ss).length : Int))), (15, .imm (iv (i : Int)))]) (fun i => i ≤ (ks.zip ss).length) (fun i => (ks.zip ss).length - i) (0) ?_ ⟨rfl, rfl, rfl, rfl, rfl, rfl, zZ rfl (by simp only [List.length_map]; omega), rfl, trivial⟩ ?_
  · exact Nat.zero_le _
  · rintro i h1; have h1 : i ≤ (ks.zip ss).length := h1
    refine zD <| zB <| g_u (yb rfl rfl rfl) <| zI <| zA <| zD ?_
    refine zW rfl (fun hb1 => ?_) (fun hb1 => ?_)
    · have hi : i < (ks.zip ss).length := by have := of_decide_eq_true hb1; (try simp only [List.length_map] at this); omega
      have hik : i < ks.length := by omega
      have his : i < ss.length := by omega
      have hgl := grp_len ((ks.zip ss).take i)
      have hgt : ((ks.zip ss).take i).length ≤ (ks.zip ss).length := by rw [List.length_take]; omega
      refine zY <| zA <| zD <| zU <| zD <| zB <| g_u (zC rfl rfl) <| g_u (zE rfl rfl) <| zI <| zA <| yE yt <| g_u (s_mv_ptr rfl rfl) <| g_u (zC rfl rfl) <| g_u (zC rfl rfl) ?_
      refine g_u (zJ rfl rfl rfl Tryz.underlying27 tS9 (by omega) (ixStr hik)) ?_
      refine g_u (zT rfl rfl tA9 tS9 rfl rfl) <| g_u (zC rfl rfl) <| g_u (zC rfl rfl) ?_
      refine g_u (zJ rfl rfl rfl Tryz.underlying49 tS63 (by omega) (ixS his)) ?_
      refine g_u (zT rfl rfl tA63 tS63 rfl (by first | exact xP (GSpan.width _) rfl | rfl)) ?_
      refine g_uG (s_mcall [(100001, 1009)] (add_c (grp ((ks.zip ss).take i)) (nth ks i ⟨#[]⟩) (nth ss i gs0) (by omega) (fun y hy => by have := grp_row hy; omega)) rfl rfl ⟨.inl rfl, .inl rfl, .inl rfl, trivial⟩ ⟨rfl, trivial⟩ rfl rfl rfl) rfl ?_
      refine zI ⟨by kernel_rfl, ?_⟩
      refine zX <| zA <| zB <| g_u (yG rfl rfl rfl) <| g_u (zC rfl rfl) <| zI <| zA ?_
      refine ⟨i + 1, hi, ⟨rfl, rfl, rfl, rfl, rfl, look_gen rfl (by rw [grp_take hi]), rfl, zZ rfl (by rw [ze (by omega) (by omega)]; rfl), trivial⟩, by (try dsimp only); omega⟩
    · have hin : i = (ks.zip ss).length := by have := of_decide_eq_false hb1; omega
      subst hin
      refine zu <| zR <| zR <| zn <| zA <| zD ?_
      refine aw_openG' 1009 1090 3091 1092 rfl rfl rfl rfl (fun bs hb1 hb2 => ?_)
      refine aw_finalG 1009 1090 3091 1092 bs _ _ 102 51 42 rfl hb1.symm hb2 rfl rfl rfl <| zB <| g_u (s_mv_ptr rfl rfl) <| g_u (y3 rfl rfl) <| g_u (zF rfl rfl fa102_1 rfl) <| g_u (zG rfl rfl rfl tA22 tS22 rfl rfl) <| g_u (y_ rfl tU24 us24 pl24 rfl rfl rfl rfl) <| g_u (zK rfl rfl rfl tS24 rfl rfl) <| zI <| zA <| zL ?_
      exact ⟨⟨_, _, _, _, _, _, _, rfl, rfl, tA24, tS24, rfl, rfl, (rfl : toAV _ = some _).trans (congrArg some (by (rw [zip_res, List.take_length]; rfl)))⟩, trivial⟩
theorem nzB_c (b : List GRes) (ho : okB b) (hw : wtB b ≤ 9000000) (hr : ∀ r ∈ b, risA none r.attrs) : zo Tryz.prog Γ0 9 [yK b] [yK (nzB b)] := nzB0_c group_c b ho hw hr
end Go.Proofs
namespace Go.Proofs
open Go Go.Al
theorem plainsZ_wt (ks : List Int) : ∀ l : List GA, wtAs (l.map (yl ks)) ≤ 151 * wtAs l
  | [] => by simp [wtAs]
  | x :: l => by simp only [List.map_cons, wtAs]; have := keptA_wt.plainA_wt' ks x; have := plainsZ_wt ks l; omega
theorem keptZ_wt (l : List GA) : wtAs (keptZ l) ≤ 151 * wtAs l := Nat.le_trans (dropA_wt kZ _) (plainsZ_wt nZ l)
theorem nzS_wt (s : GSpan) : (nzS s).wt ≤ 151 * s.wt := by
  have h1 := keptZ_wt s.attrs
  have h2 := xj (f := nzE) (g := GE.wt) 1 (fun e => by
    have q : e.wt = 1 + e.name.size + wtAs e.attrs := rfl
    have q2 : (nzE e).wt = 1 + e.name.size + 0 := rfl
    omega) s.events
  have q1 : (nzS s).wt = 1 + 0 + s.name.size + (if s.code = 2 then s.note else ⟨#[]⟩ : ByteArray).size + wtAs (keptZ s.attrs) + z7 GE.wt (s.events.map nzE) + 0 := rfl
  have q2 : s.wt = 1 + s.state.size + s.name.size + s.note.size + wtAs s.attrs + z7 GE.wt s.events + z7 GL.wt s.links := rfl
  have q3 : (if s.code = 2 then s.note else ⟨#[]⟩ : ByteArray).size ≤ s.note.size := by split; exact Nat.le_refl _; exact Nat.zero_le _
  omega
theorem keptZ_ok {l : List GA} (ho : ∀ a ∈ l, a.ok) (hw : wtAs l ≤ 1000000) : ∀ a ∈ keptZ l, a.ok := fun a h => by
  obtain ⟨x, hx, rfl⟩ := List.mem_map.1 (wU h).1
  exact plainA_ok (ho x hx) (Nat.le_trans (xa hx) hw)
theorem nzS_ok {s : GSpan} (h : s.ok) (hw : s.wt ≤ 1000000) : (nzS s).ok := by
  have qw : s.wt = 1 + s.state.size + s.name.size + s.note.size + wtAs s.attrs + z7 GE.wt s.events + z7 GL.wt s.links := rfl
  have hr := ofR_rg (BegunM ⟨s.start, s.fin⟩) (LastsM ⟨s.start, s.fin⟩)
  refine ⟨h.1, ⟨e0_ok, h.2.1.2.1, ?_⟩, ⟨?_, hr.1, hr.2, h.2.2.1.2.2.2⟩, keptZ_ok h.2.2.2.1 (by omega), fun e he => ?_, fun e he => by cases he⟩
  · show (if s.code = 2 then s.note else ⟨#[]⟩ : ByteArray).size ≤ maxLen
    split
    · exact h.2.1.2.2
    · exact e0_ok
  · show i64 (if s.kind = 1 then 0 else s.kind)
    split
    · unfold i64; decide
    · exact h.2.2.1.1
  · obtain ⟨x, hx, rfl⟩ := List.mem_map.1 he
    exact ⟨wholeN_rg _, (h.2.2.2.2.1 x hx).2.1, fun a ha => by cases ha⟩
theorem sumBy_perm {α : Type} (f : α → Nat) {l m : List α} (h : l.Perm m) : z7 f l = z7 f m := by
  induction h with
  | nil => rfl
  | cons x _ ih => simp only [z7, ih]
  | swap x y l => simp only [z7]; omega
  | trans _ _ h1 h2 => exact h1.trans h2
def hK (k : ByteArray) : Nat := 15 + k.size
theorem groups_wt : ∀ g : Gp, wtB (g.map resG) ≤ z7 hK (ym g) + z7 GSpan.wt (g.flatMap (·.2))
  | [] => Nat.le_refl _
  | x :: g => by
    have ih := groups_wt g
    have h1 := namedM_wt [] x.1
    have q1 : (resG x).wt = 1 + wtAs (wP [] x.1) + (1 + 0 + 0 + z7 GSpan.wt x.2 + 0) := rfl
    have q2 : wtB ((x :: g).map resG) = (resG x).wt + wtB (g.map resG) := rfl
    have q3 : z7 hK (ym (x :: g)) = hK x.1 + z7 hK (ym g) := rfl
    rw [q2, q3, List.flatMap_cons, wr]
    have : wtAs ([] : List GA) = 0 := rfl
    unfold hK at *
    omega
theorem keys_wt : ∀ (b : List GRes) (g : Gp), z7 hK (ym (grpF g (y9 b))) ≤ z7 hK (ym g) + z7 (fun r => hK (yg r)) b
  | [], g => by simp [y9, grpF, z7]
  | r :: b, g => by
    have e : y9 (r :: b) = (zz r.scopes).map (fun s => (yg r, nzS s)) ++ y9 b := List.flatMap_cons
    rw [e, grpF_append]
    have ih := keys_wt b (grpF g ((zz r.scopes).map fun s => (yg r, nzS s)))
    have h1 := keys_one g (rows_one r)
    rw [z7]
    have : z7 hK (ym (grpF g ((zz r.scopes).map fun s => (yg r, nzS s)))) ≤ z7 hK (ym g) + hK (yg r) := by
      rw [h1]; split
      · omega
      · rw [wr, z7, z7]; omega
    omega
theorem allS_wt : ∀ b : List GRes, z7 GSpan.wt (allS b) ≤ z7 (fun r => z7 GScope.wt r.scopes) b
  | [] => Nat.le_refl _
  | r :: b => by
    have e : allS (r :: b) = zz r.scopes ++ allS b := List.flatMap_cons
    rw [e, wr, z7]
    have := spansOf_wt r.scopes
    have := allS_wt b
    omega
theorem nzB_wt (b : List GRes) : wtB (nzB b) ≤ 400 * wtB b := by
  have h1 := groups_wt (grp (y9 b))
  have h2 := keys_wt b []
  have h3 := sumBy_perm GSpan.wt (grp_perm (y9 b))
  rw [h3, rowsZ_spans] at h1
  have h4 := xj (f := nzS) (g := GSpan.wt) 151 nzS_wt (allS b)
  have h5 := allS_wt b
  have h6 : z7 (fun r => hK (yg r)) b + 151 * z7 (fun r => z7 GScope.wt r.scopes) b ≤ 400 * wtB b := by
    clear h1 h2 h3 h4 h5
    induction b with
    | nil => exact Nat.zero_le _
    | cons r b ih =>
      have := serviceM_le r
      have q2 : r.wt = 1 + wtAs r.attrs + z7 GScope.wt r.scopes := rfl
      have q3 : wtB (r :: b) = r.wt + wtB b := rfl
      rw [q3, z7, z7]
      unfold hK at *
      omega
  have q0 : z7 hK (ym ([] : Gp)) = 0 := rfl
  unfold nzB groupM
  unfold grp at h1 ⊢
  omega
theorem groupM_ok {l : List (ByteArray × GSpan)} (hk : ∀ x ∈ l, x.1.size ≤ maxLen) (hs : ∀ x ∈ l, x.2.ok) : okB (groupM l) := fun r hr => by
  obtain ⟨x, hx, rfl⟩ := List.mem_map.1 hr
  refine ⟨namedM_ok (fun a ha => by cases ha) ?_, fun c hc => ?_⟩
  · rcases keysMem l [] x.1 (List.mem_map.2 ⟨x, hx, rfl⟩) with h | ⟨y, hy, e⟩
    · cases h
    · rw [← e]; exact hk y hy
  · cases List.mem_singleton.1 hc
    refine ⟨e0_ok, e0_ok, fun s hs' => ?_⟩
    have h1 : s ∈ (grp l).flatMap (·.2) := List.mem_flatMap.2 ⟨x, hx, hs'⟩
    have h2 := (grp_perm l).mem_iff.1 h1
    obtain ⟨y, hy, rfl⟩ := List.mem_map.1 h2
    exact hs y hy
theorem nzB_ok {b : List GRes} (h : okB b) (hw : wtB b ≤ 1000000) : okB (nzB b) := by
  refine groupM_ok (fun x hx => ?_) fun x hx => ?_
  · obtain ⟨r, hr, e, _⟩ := rowsZ_mem hx
    have h1 := serviceM_le r
    have h2 := yD GRes.wt hr
    rw [e]
    unfold wtB at hw
    unfold maxLen; omega
  · obtain ⟨r, hr, _, c, hc, s, hs, e⟩ := rowsZ_mem hx
    rw [e]
    have h2 := yD GRes.wt hr
    have q2 : r.wt = 1 + wtAs r.attrs + z7 GScope.wt r.scopes := rfl
    have h3 := yD GScope.wt hc
    have q3 : c.wt = 1 + c.name.size + c.version.size + z7 GSpan.wt c.spans := rfl
    have h4 := yD GSpan.wt hs
    unfold wtB at hw
    exact nzS_ok (((h r hr).2 c hc).2.2 s hs) (by omega)
theorem groupM_ris (l : List (ByteArray × GSpan)) : ∀ r ∈ groupM l, risA none r.attrs := fun r hr => by
  obtain ⟨x, _, rfl⟩ := List.mem_map.1 hr
  exact ris_named (l := []) trivial x.1
theorem nzB_ris (b : List GRes) : ∀ r ∈ nzB b, risA none r.attrs := groupM_ris _
end Go.Proofs
namespace Go.Proofs
open Go Go.Al
set_option maxRecDepth 10000
end Go.Proofs
namespace Go.Proofs
open Go Go.Al
end Go.Proofs
namespace Go.Proofs
open Go Go.Al
end Go.Proofs
namespace Go.Proofs
open Go Go.Al
def nkM (f : Int) (b : List GRes) : List GRes := if f = 2 then njB b else if f = 3 then nzB b else b
theorem nk_ok {f : Int} {b : List GRes} (h : okB b) (hw : wtB b ≤ 1000000) : okB (nkM f b) := by
  unfold nkM; split
  · exact njB_ok h hw
  · split
    · exact nzB_ok h hw
    · exact h
theorem nk_wt (f : Int) (b : List GRes) : wtB (nkM f b) ≤ 400 * wtB b := by
  have h1 := njB_wt b; have h2 := nzB_wt b
  unfold nkM; split
  · exact h1
  · split
    · exact h2
    · omega
theorem nk_ris {f : Int} {b : List GRes} (h : ∀ r ∈ b, risA none r.attrs) : ∀ r ∈ nkM f b, risA none r.attrs := by
  unfold nkM; split
  · exact njB_ris h
  · split
    · exact nzB_ris b
    · exact h
def kOtlp : ByteArray := ⟨#[111, 116, 108, 112]⟩
def kJaeger : ByteArray := ⟨#[106, 97, 101, 103, 101, 114]⟩
def kZipkin : ByteArray := ⟨#[122, 105, 112, 107, 105, 110]⟩
def vJ (f : Int) : ByteArray := if f = 1 then kOtlp else if f = 2 then kJaeger else if f = 3 then kZipkin else ⟨#[]⟩
def findM (w : ByteArray) : Int := if vJ 1 = w then 1 else if vJ 2 = w then 2 else if vJ 3 = w then 3 else 0
def fmtM (f : Int) : Bool := decide (1 ≤ f) && decide (f ≤ 3)
theorem w1 {f : Int} (h : f = 1) : vJ f = kOtlp := by subst h; rfl
theorem w2 {f : Int} (h : f = 2) : vJ f = kJaeger := by subst h; rfl
theorem w3 {f : Int} (h : f = 3) : vJ f = kZipkin := by subst h; rfl
theorem w4 {f : Int} (h1 : ¬ f = 1) (h2 : ¬ f = 2) (h3 : ¬ f = 3) : vJ f = ⟨#[]⟩ := by unfold vJ; rw [if_neg h1, if_neg h2, if_neg h3]
theorem nk2 {f : Int} (b : List GRes) (h : f = 2) : nkM f b = njB b := by subst h; rfl
theorem nk3 {f : Int} (b : List GRes) (h : f = 3) : nkM f b = nzB b := by subst h; rfl
theorem nk1 {f : Int} (b : List GRes) (h2 : ¬ f = 2) (h3 : ¬ f = 3) : nkM f b = b := by unfold nkM; rw [if_neg h2, if_neg h3]
theorem fmt_t {f : Int} (h : 1 ≤ f) : fmtM f = decide (f ≤ 3) := by unfold fmtM; rw [decide_eq_true h]; rfl
theorem fmt_f {f : Int} (h : ¬ 1 ≤ f) : fmtM f = false := by unfold fmtM; rw [decide_eq_false h]; rfl
theorem find_at {w : ByteArray} {i : Nat} (h : ∀ j : Nat, 1 ≤ j → j ≤ i → vJ j ≠ w) (q : vJ ((i : Int) + 1) = w) (hi : i < 3) : findM w = (i : Int) + 1 := by
  unfold findM
  rcases (show i = 0 ∨ i = 1 ∨ i = 2 by omega) with rfl | rfl | rfl
  · rw [if_pos (show vJ 1 = w from q)]; rfl
  · rw [if_neg (show ¬ vJ 1 = w from h 1 (by omega) (by omega)), if_pos (show vJ 2 = w from q)]; rfl
  · rw [if_neg (show ¬ vJ 1 = w from h 1 (by omega) (by omega)), if_neg (show ¬ vJ 2 = w from h 2 (by omega) (by omega)), if_pos (show vJ 3 = w from q)]; rfl
theorem find_no {w : ByteArray} (h : ∀ j : Nat, 1 ≤ j → j ≤ 3 → vJ j ≠ w) : findM w = 0 := by
  unfold findM
  rw [if_neg (show ¬ vJ 1 = w from h 1 (by omega) (by omega)), if_neg (show ¬ vJ 2 = w from h 2 (by omega) (by omega)), if_neg (show ¬ vJ 3 = w from h 3 (by omega) (by omega))]
theorem find_step {w : ByteArray} {i : Nat} (h : ∀ j : Nat, 1 ≤ j → j ≤ i → vJ j ≠ w) (q : ¬ vJ ((i : Int) + 1) = w) : ∀ j : Nat, 1 ≤ j → j ≤ i + 1 → vJ j ≠ w := fun j h1 h2 => by
  rcases Nat.lt_or_ge i j with h3 | h3
  · rw [show j = i + 1 by omega]; exact q
  · exact h j h1 h3
theorem find_ne {i : Nat} : (((i : Int) + 1) != 0) = true := bne_iff_ne.2 (by omega)
end Go.Proofs
namespace Go.Proofs
open Go Go.Al
set_option maxRecDepth 10000
end Go.Proofs
namespace Go.Proofs
open Go Go.Al
set_option maxRecDepth 10000
end Go.Proofs
namespace Go.Proofs
open Go Go.Al
set_option maxRecDepth 10000
theorem fis_c (f : Int) : zo Tryz.prog Γ0 15 [iv f] [bv (fmtM f)] := by
  refine z_ Tryz.func15 rfl Tryz.ntmps15 (by kernel_rfl) rfl fun w0 I0 G0 => ?_
  refine zD <| zB <| g_u (zE rfl rfl) <| zI <| zA <| zD <| zB <| g_u (zC rfl rfl) <| g_u (s_geI rfl rfl rfl) <| g_u (zC rfl rfl) <| z0 (t := 5) rfl ?_
  rintro (hb1 | hb1)
  · rw [hb1]
    have q5 : 1 ≤ f := of_decide_eq_true hb1
    refine zN rfl rfl (zC rfl rfl) <| zN rfl rfl (s_leI rfl rfl rfl) <| g_u (zQ rfl rfl rfl) <| g_u (zE rfl rfl) <| zI <| zA <| zL ?_
    exact ⟨⟨(rfl : toAV (Al.look _ _) = some _).trans (congrArg some (by (first | rw [fmt_t q5] | rw [fmt_f q5]))), rfl⟩, trivial⟩
  · rw [hb1]
    have q5 : ¬ 1 ≤ f := of_decide_eq_false hb1
    refine zH rfl rfl rfl <| zH rfl rfl rfl <| g_u (zh rfl rfl rfl) <| g_u (zE rfl rfl) <| zI <| zA <| zL ?_
    exact ⟨⟨(rfl : toAV (Al.look _ _) = some _).trans (congrArg some (by (first | rw [fmt_t q5] | rw [fmt_f q5]))), rfl⟩, trivial⟩
theorem fword_c (f : Int) : zo Tryz.prog Γ0 16 [iv f] [sv (vJ f)] := by
  refine z_ Tryz.func16 rfl Tryz.ntmps16 (by kernel_rfl) rfl fun w0 I0 G0 => ?_
  refine zD <| zB <| g_u (zE rfl rfl) <| zI <| zA <| zD <| zD <| zB <| g_u (zC rfl rfl) <| zI <| zA <| zU <| zD <| zB <| g_u (y6 rfl rfl rfl) <| g_u (zE rfl rfl) <| zI <| zA ?_
  refine zW rfl (fun hb1 => ?_) (fun hb1 => ?_)
  · have q1 : f = 1 := beq_iff_eq.1 hb1
    refine zD <| zB <| g_u (zE rfl rfl) <| zI <| zA <| zL <| zq <| zM ?_
    exact ⟨⟨(rfl : toAV (Al.look _ _) = some _).trans (congrArg some (by (first | (rw [w1 q1]; rfl) | (rw [w2 q2]; rfl) | (rw [w3 q3]; rfl) | (rw [w4 q1 q2 q3])))), rfl⟩, trivial⟩
  · have q1 : ¬ f = 1 := qe.1 hb1
    refine zD <| zB <| g_u (y6 rfl rfl rfl) <| g_u (zE rfl rfl) <| zI <| zA ?_
    refine zW rfl (fun hb2 => ?_) (fun hb2 => ?_)
    · have q2 : f = 2 := beq_iff_eq.1 hb2
      refine zD <| zB <| g_u (zE rfl rfl) <| zI <| zA <| zL <| zq <| zM ?_
      exact ⟨⟨(rfl : toAV (Al.look _ _) = some _).trans (congrArg some (by (first | (rw [w1 q1]; rfl) | (rw [w2 q2]; rfl) | (rw [w3 q3]; rfl) | (rw [w4 q1 q2 q3])))), rfl⟩, trivial⟩
    · have q2 : ¬ f = 2 := qe.1 hb2
      refine zD <| zB <| g_u (y6 rfl rfl rfl) <| g_u (zE rfl rfl) <| zI <| zA ?_
      refine zW rfl (fun hb3 => ?_) (fun hb3 => ?_)
      · have q3 : f = 3 := beq_iff_eq.1 hb3
        refine zD <| zB <| g_u (zE rfl rfl) <| zI <| zA <| zL <| zq <| zM ?_
        exact ⟨⟨(rfl : toAV (Al.look _ _) = some _).trans (congrArg some (by (first | (rw [w1 q1]; rfl) | (rw [w2 q2]; rfl) | (rw [w3 q3]; rfl) | (rw [w4 q1 q2 q3])))), rfl⟩, trivial⟩
      · have q3 : ¬ f = 3 := qe.1 hb3
        refine zY <| zX <| zA <| zD <| zB <| g_u (zE rfl rfl) <| zI <| zA <| zL ?_
        exact ⟨⟨(rfl : toAV (Al.look _ _) = some _).trans (congrArg some (by (first | (rw [w1 q1]; rfl) | (rw [w2 q2]; rfl) | (rw [w3 q3]; rfl) | (rw [w4 q1 q2 q3])))), rfl⟩, trivial⟩
theorem rfword_c (f : Int) : zo Tryz.prog Γ0 17 [iv f] [sv (vJ f)] := by
  refine z_ Tryz.func17 rfl Tryz.ntmps17 (by kernel_rfl) rfl fun w0 I0 G0 => ?_
  refine zD <| zB <| g_u (zE rfl rfl) <| zI <| zA <| zD <| zD <| zB <| g_u (zC rfl rfl) <| g_u (y6 rfl rfl rfl) <| zI <| zA ?_
  refine zW rfl (fun hb1 => ?_) (fun hb1 => ?_)
  · have q1 : f = 1 := beq_iff_eq.1 hb1
    refine zD <| zB <| g_u (zE rfl rfl) <| zI <| zA <| zL <| zM ?_
    exact ⟨⟨(rfl : toAV (Al.look _ _) = some _).trans (congrArg some (by (first | (rw [w1 q1]; rfl) | (rw [w2 q2]; rfl) | (rw [w3 q3]; rfl) | (rw [w4 q1 q2 q3])))), rfl⟩, trivial⟩
  · have q1 : ¬ f = 1 := qe.1 hb1
    refine zY <| zA <| zD <| zD <| zB <| g_u (zC rfl rfl) <| g_u (y6 rfl rfl rfl) <| zI <| zA ?_
    refine zW rfl (fun hb2 => ?_) (fun hb2 => ?_)
    · have q2 : f = 2 := beq_iff_eq.1 hb2
      refine zD <| zB <| g_u (zE rfl rfl) <| zI <| zA <| zL <| zM ?_
      exact ⟨⟨(rfl : toAV (Al.look _ _) = some _).trans (congrArg some (by (first | (rw [w1 q1]; rfl) | (rw [w2 q2]; rfl) | (rw [w3 q3]; rfl) | (rw [w4 q1 q2 q3])))), rfl⟩, trivial⟩
    · have q2 : ¬ f = 2 := qe.1 hb2
      refine zY <| zA <| zD <| zD <| zB <| g_u (zC rfl rfl) <| g_u (y6 rfl rfl rfl) <| zI <| zA ?_
      refine zW rfl (fun hb3 => ?_) (fun hb3 => ?_)
      · have q3 : f = 3 := beq_iff_eq.1 hb3
        refine zD <| zB <| g_u (zE rfl rfl) <| zI <| zA <| zL <| zM ?_
        exact ⟨⟨(rfl : toAV (Al.look _ _) = some _).trans (congrArg some (by (first | (rw [w1 q1]; rfl) | (rw [w2 q2]; rfl) | (rw [w3 q3]; rfl) | (rw [w4 q1 q2 q3])))), rfl⟩, trivial⟩
      · have q3 : ¬ f = 3 := qe.1 hb3
        refine zY <| zA <| zD <| zB <| g_u (zE rfl rfl) <| zI <| zA <| zL ?_
        exact ⟨⟨(rfl : toAV (Al.look _ _) = some _).trans (congrArg some (by (first | (rw [w1 q1]; rfl) | (rw [w2 q2]; rfl) | (rw [w3 q3]; rfl) | (rw [w4 q1 q2 q3])))), rfl⟩, trivial⟩
theorem ffind_c (w : ByteArray) : zo Tryz.prog Γ0 34 [sv w] [iv (findM w), bv (findM w != 0)] := by
  refine z_ Tryz.func34 rfl Tryz.ntmps34 (by kernel_rfl) rfl fun w0 I0 G0 => ?_
  refine zD <| zB <| g_u (zE rfl rfl) <| g_u (zE rfl rfl) <| zI <| zA <| zD <| zD <| zB <| g_u (zE rfl rfl) <| zI <| zA <| zU ?_
  refine zp (fun i : Nat => [(0, .imm (sv w)), (4, .imm (iv ((i : Int) + 1)))]) (fun i => (i ≤ 3 ∧ ∀ j : Nat, 1 ≤ j → j ≤ i → vJ j ≠ w)) (fun i => 3 - i) (0) ?_ ⟨rfl, rfl, trivial⟩ ?_
  · exact ⟨Nat.zero_le _, fun j h1 h2 => absurd h1 (by omega)⟩
  · rintro i ⟨h1, h2⟩; (try dsimp only at h1 h2)
    refine zD <| zD <| zB <| g_u (zC rfl rfl) <| g_u (zP (fis_c _) rfl rfl) <| zI <| zA ?_
    refine zW rfl (fun hb1 => ?_) (fun hb1 => ?_)
    · have hi : i < 3 := by have e := hb1; rw [fmt_t (by omega)] at e; have := of_decide_eq_true e; omega
      refine zY <| zA <| zD <| zU <| zD <| zB <| g_u (zC rfl rfl) <| g_u (zP (fword_c _) rfl rfl) <| g_u (zC rfl rfl) <| g_u (s_eqS rfl rfl rfl) <| zI <| zA ?_
      refine zW rfl (fun hb2 => ?_) (fun hb2 => ?_)
      · have q : vJ ((i : Int) + 1) = w := by have e := hb2; rw [yN] at e; exact of_decide_eq_true e
        refine zD <| zB <| g_u (zC rfl rfl) <| g_u (zE rfl rfl) <| g_u (zE rfl rfl) <| zI <| zA <| zL <| zq <| zM <| zM <| zq <| zM ?_
        exact ⟨⟨(rfl : toAV (Al.look _ _) = some _).trans (congrArg some (by (first | (rw [find_at h2 q hi]; first | done | rw [find_ne]) | (rw [find_no (fun j h3 h4 => h2 j h3 (by omega))]; first | done | rfl)))), rfl⟩, ⟨(rfl : toAV (Al.look _ _) = some _).trans (congrArg some (by (first | (rw [find_at h2 q hi]; first | done | rw [find_ne]) | (rw [find_no (fun j h3 h4 => h2 j h3 (by omega))]; first | done | rfl)))), rfl⟩, trivial⟩
      · have q : ¬ vJ ((i : Int) + 1) = w := by have e := hb2; rw [yN] at e; exact of_decide_eq_false e
        refine zY <| zX <| zA <| zB <| g_u (zC rfl rfl) <| g_u (yG rfl rfl rfl) <| g_u (zE rfl rfl) <| zI <| zA ?_
        refine ⟨i + 1, ⟨by (try dsimp only); omega, find_step h2 q⟩, ⟨rfl, zZ rfl (by rw [ze (by omega) (by omega)]; rfl), trivial⟩, by (try dsimp only); omega⟩
    · have hn : ¬ i < 3 := fun h => by have e := hb1; rw [fmt_t (by omega), decide_eq_true (by omega)] at e; cases e
      refine zu <| zR <| zR <| zn <| zA <| zD <| zB <| g_u (zE rfl rfl) <| g_u (zE rfl rfl) <| zI <| zA <| zL ?_
      exact ⟨⟨(rfl : toAV (Al.look _ _) = some _).trans (congrArg some (by (first | (rw [find_at h2 q hi]; first | done | rw [find_ne]) | (rw [find_no (fun j h3 h4 => h2 j h3 (by omega))]; first | done | rfl)))), rfl⟩, ⟨(rfl : toAV (Al.look _ _) = some _).trans (congrArg some (by (first | (rw [find_at h2 q hi]; first | done | rw [find_ne]) | (rw [find_no (fun j h3 h4 => h2 j h3 (by omega))]; first | done | rfl)))), rfl⟩, trivial⟩
theorem fsame_c (b : List GRes) : zo Tryz.prog Γ0 41 [yK b] [yK b] := by
  refine z_ Tryz.func41 rfl Tryz.ntmps41 (by kernel_rfl) rfl fun w0 I0 G0 => ?_
  refine zD <| zB <| g_uG (zi 1001 rfl rfl rfl rfl) rfl <| g_uG (zl 1002 rfl rfl rfl tZ24) rfl <| zI <| zA <| zD <| zB <| g_u (zG rfl rfl rfl tA24 tS24 rfl rfl) <| g_u (zK rfl rfl rfl tS24 rfl rfl) <| zI <| zA <| zL ?_
  exact ⟨⟨_, _, _, _, _, _, _, rfl, rfl, tA24, tS24, rfl, rfl, (rfl : toAV _ = some _).trans (congrArg some (by rfl))⟩, trivial⟩
theorem fkof_c (f : Int) (b : List GRes) (ho : okB b) (hw : wtB b ≤ 9000000) (hr : ∀ r ∈ b, risA none r.attrs) : zo Tryz.prog Γ0 19 [iv f, yK b] [yK (nkM f b)] := by
  refine z_ Tryz.func19 rfl Tryz.ntmps19 (by kernel_rfl) rfl fun w0 I0 G0 => ?_
  refine zD <| zB <| g_uG (zi 1003 rfl rfl rfl rfl) rfl <| g_uG (zl 1004 rfl rfl rfl tZ24) rfl <| zI <| zA <| zD <| zB <| g_u (zE rfl rfl) <| zI <| zA <| zD <| zD <| zB <| g_u (zC rfl rfl) <| zI <| zA <| zU <| zD <| zB <| g_u (y6 rfl rfl rfl) <| g_u (zE rfl rfl) <| zI <| zA ?_
  refine zW rfl (fun hb1 => ?_) (fun hb1 => ?_)
  · have q2 : f = 2 := beq_iff_eq.1 hb1
    refine zB <| g_u (zE rfl rfl) <| zI <| zX <| zA <| zD <| zB <| g_u (zC rfl rfl) <| g_u (zG rfl rfl rfl tA24 tS24 rfl rfl) ?_
    refine g_u (xv ((by first | exact njB_c b ho hw hr | exact nzB_c b ho hw hr | exact fsame_c b)) rfl rfl rfl) ?_
    refine g_u (zK rfl rfl rfl tS24 rfl rfl) <| zI <| zA <| zL ?_
    exact ⟨⟨_, _, _, _, _, _, _, rfl, rfl, tA24, tS24, rfl, rfl, (rfl : toAV _ = some _).trans (congrArg some (by (first | rw [nk2 b q2] | rw [nk3 b q3] | rw [nk1 b q2 q3])))⟩, trivial⟩
  · have q2 : ¬ f = 2 := qe.1 hb1
    refine zD <| zB <| g_u (y6 rfl rfl rfl) <| g_u (zE rfl rfl) <| zI <| zA ?_
    refine zW rfl (fun hb2 => ?_) (fun hb2 => ?_)
    · have q3 : f = 3 := beq_iff_eq.1 hb2
      refine zB <| g_u (zE rfl rfl) <| zI <| zX <| zA <| zD <| zB <| g_u (zC rfl rfl) <| g_u (zG rfl rfl rfl tA24 tS24 rfl rfl) ?_
      refine g_u (xv ((by first | exact njB_c b ho hw hr | exact nzB_c b ho hw hr | exact fsame_c b)) rfl rfl rfl) ?_
      refine g_u (zK rfl rfl rfl tS24 rfl rfl) <| zI <| zA <| zL ?_
      exact ⟨⟨_, _, _, _, _, _, _, rfl, rfl, tA24, tS24, rfl, rfl, (rfl : toAV _ = some _).trans (congrArg some (by (first | rw [nk2 b q2] | rw [nk3 b q3] | rw [nk1 b q2 q3])))⟩, trivial⟩
    · have q3 : ¬ f = 3 := qe.1 hb2
      refine zY <| zX <| zA <| zD <| zB <| g_u (zC rfl rfl) <| g_u (zG rfl rfl rfl tA24 tS24 rfl rfl) ?_
      refine g_u (xv ((by first | exact njB_c b ho hw hr | exact nzB_c b ho hw hr | exact fsame_c b)) rfl rfl rfl) ?_
      refine g_u (zK rfl rfl rfl tS24 rfl rfl) <| zI <| zA <| zL ?_
      exact ⟨⟨_, _, _, _, _, _, _, rfl, rfl, tA24, tS24, rfl, rfl, (rfl : toAV _ = some _).trans (congrArg some (by (first | rw [nk2 b q2] | rw [nk3 b q3] | rw [nk1 b q2 q3])))⟩, trivial⟩
theorem rfkof_c (f : Int) (b : List GRes) (ho : okB b) (hw : wtB b ≤ 9000000) (hr : ∀ r ∈ b, risA none r.attrs) : zo Tryz.prog Γ0 14 [iv f, yK b] [yK (nkM f b)] := by
  refine z_ Tryz.func14 rfl Tryz.ntmps14 (by kernel_rfl) rfl fun w0 I0 G0 => ?_
  refine zD <| zB <| g_uG (zi 1003 rfl rfl rfl rfl) rfl <| g_uG (zl 1004 rfl rfl rfl tZ24) rfl <| zI <| zA <| zD <| zD <| zB <| g_u (zC rfl rfl) <| g_u (y6 rfl rfl rfl) <| zI <| zA ?_
  refine zW rfl (fun hb1 => ?_) (fun hb1 => ?_)
  · have q2 : f = 2 := beq_iff_eq.1 hb1
    refine zD <| zB <| g_u (zG rfl rfl rfl tA24 tS24 rfl rfl) <| g_u (zP (rnjB_c b ho hw hr) rfl rfl) <| g_u (zK rfl rfl rfl tS24 rfl rfl) <| zI <| zA <| zL <| zM ?_
    exact ⟨⟨_, _, _, _, _, _, _, rfl, rfl, tA24, tS24, rfl, rfl, (rfl : toAV _ = some _).trans (congrArg some (by (first | rw [nk2 b q2] | rw [nk3 b q3] | rw [nk1 b q2 q3])))⟩, trivial⟩
  · have q2 : ¬ f = 2 := qe.1 hb1
    refine zY <| zA <| zD <| zD <| zB <| g_u (zC rfl rfl) <| g_u (y6 rfl rfl rfl) <| zI <| zA ?_
    refine zW rfl (fun hb2 => ?_) (fun hb2 => ?_)
    · have q3 : f = 3 := beq_iff_eq.1 hb2
      refine zD <| zB <| g_u (zG rfl rfl rfl tA24 tS24 rfl rfl) <| g_u (zP (rnzB_c b ho hw) rfl rfl) <| g_u (zK rfl rfl rfl tS24 rfl rfl) <| zI <| zA <| zL <| zM ?_
      exact ⟨⟨_, _, _, _, _, _, _, rfl, rfl, tA24, tS24, rfl, rfl, (rfl : toAV _ = some _).trans (congrArg some (by (first | rw [nk2 b q2] | rw [nk3 b q3] | rw [nk1 b q2 q3])))⟩, trivial⟩
    · have q3 : ¬ f = 3 := qe.1 hb2
      refine zY <| zA <| zD <| zB <| g_u (zG rfl rfl rfl tA24 tS24 rfl rfl) <| g_u (zK rfl rfl rfl tS24 rfl rfl) <| zI <| zA <| zL ?_
      exact ⟨⟨_, _, _, _, _, _, _, rfl, rfl, tA24, tS24, rfl, rfl, (rfl : toAV _ = some _).trans (congrArg some (by (first | rw [nk2 b q2] | rw [nk3 b q3] | rw [nk1 b q2 q3])))⟩, trivial⟩
theorem fkept_c (f : Int) (b : List GRes) (ho : okB b) (hw : wtB b ≤ 2400000) (hr : ∀ r ∈ b, risA none r.attrs) : zo Tryz.prog Γ0 43 [.fn (.func 19) [iv f] [], yK b] [bv (decide (nkM f b = b))] := by
  refine z_ Tryz.func43 rfl Tryz.ntmps43 (by kernel_rfl) rfl fun w0 I0 G0 => ?_
  refine zD <| zB <| g_uG (zi 1003 rfl rfl rfl rfl) rfl <| g_u (zE rfl rfl) <| zI <| zA <| zD <| yE yt <| g_u (zC rfl rfl) <| g_u (zG rfl rfl rfl tA24 tS24 rfl rfl) ?_
  refine g_u (xv (fkof_c f b ho (by omega) hr) rfl rfl rfl) ?_
  refine g_u (zG rfl rfl rfl tA24 tS24 rfl rfl) ?_
  refine g_u (zP (psameB_c (nkM f b) b (by have := nk_wt f b; omega)) rfl rfl) ?_
  refine g_u (zE rfl rfl) ?_
  refine zI ⟨by kernel_rfl, ?_⟩
  refine zA <| zL ?_
  exact ⟨⟨(rfl : toAV (Al.look _ _) = some _).trans (congrArg some (by rfl)), rfl⟩, trivial⟩
theorem fall_c (f : Int) (b : List GRes) (ho : okB b) (hw : wtB b ≤ 2400000) (hr : ∀ r ∈ b, risA none r.attrs) : zo Tryz.prog Γ0 20 [iv f, yK b] [bv (decide (nkM f b = b))] := by
  refine z_ Tryz.func20 rfl Tryz.ntmps20 (by kernel_rfl) rfl fun w0 I0 G0 => ?_
  refine zD <| zB <| g_uG (zi 1003 rfl rfl rfl rfl) rfl <| g_u (zE rfl rfl) <| zI <| zA <| zD <| zB <| g_u (zC rfl rfl) <| g_u (s_makeFunc rfl rfl rfl) <| g_u (zG rfl rfl rfl tA24 tS24 rfl rfl) <| g_u (zP (fkept_c _ _ ho hw hr) rfl rfl) <| g_u (zE rfl rfl) <| zI <| zA <| zL ?_
  exact ⟨⟨(rfl : toAV (Al.look _ _) = some _).trans (congrArg some (by rfl)), rfl⟩, trivial⟩
theorem fboth_c (f k : Int) (b : List GRes) (ho : okB b) (hw : wtB b ≤ 2400000) (hr : ∀ r ∈ b, risA none r.attrs) : zo Tryz.prog Γ0 21 [iv f, iv k, yK b] [bv (decide (nkM f b = nkM k b))] := by
  refine z_ Tryz.func21 rfl Tryz.ntmps21 (by kernel_rfl) rfl fun w0 I0 G0 => ?_
  refine zD <| zB <| g_uG (zi 1005 rfl rfl rfl rfl) rfl <| g_u (zE rfl rfl) <| zI <| zA <| zD <| yE yt <| g_u (zC rfl rfl) <| g_u (zG rfl rfl rfl tA24 tS24 rfl rfl) ?_
  refine g_u (zP (fkof_c _ b ho (by omega) hr) rfl rfl) ?_
  refine g_u (zC rfl rfl) <| g_u (zG rfl rfl rfl tA24 tS24 rfl rfl) ?_
  refine g_u (zP (fkof_c _ b ho (by omega) hr) rfl rfl) ?_
  refine g_u (zP (psameB_c (nkM f b) (nkM k b) (by have := nk_wt f b; omega)) rfl rfl) ?_
  refine g_u (zE rfl rfl) ?_
  refine zI ⟨by kernel_rfl, ?_⟩
  refine zA <| zL ?_
  exact ⟨⟨(rfl : toAV (Al.look _ _) = some _).trans (congrArg some (by rfl)), rfl⟩, trivial⟩
def kKV34 : ByteArray := ⟨#[107, 61, 118]⟩
def gS34 : GSpan := ⟨1 :: List.replicate 15 0, 2 :: List.replicate 7 0, List.replicate 8 0, kKV34, ⟨#[]⟩, 0, 0, 0, [], [], [], 0, ⟨#[]⟩⟩
theorem gS34_ok : gS34.ok := ⟨⟨by decide, by decide, by decide⟩, ⟨by decide, by decide, by decide⟩, ⟨by unfold i64; decide, by unfold u64; decide, by unfold u64; decide, by unfold i64; decide⟩, (fun a h => by cases h), (fun a h => by cases h), (fun a h => by cases h)⟩
def b34 : List GRes := [⟨[], [⟨⟨#[]⟩, ⟨#[]⟩, [gS34]⟩]⟩]
theorem b34_ok : okB b34 := fun r hr => by
  cases List.mem_singleton.1 hr
  refine ⟨fun a h => (by cases h), fun c hc => ?_⟩
  cases List.mem_singleton.1 hc
  exact ⟨by decide, by decide, fun s hs => by cases List.mem_singleton.1 hs; exact gS34_ok⟩
theorem b34_ris : ∀ r ∈ b34, risA none r.attrs := fun r hr => by cases List.mem_singleton.1 hr; trivial
def sAv34 : AV := .agg [.agg (zs gS34.trace), .agg (zs gS34.id), .arr 8 gS34.parent, sv kKV34, sv ⟨#[]⟩, iv 0, uv 0, uv 0, .sl 7 [], .sl 3 [], .sl 26 [], .agg [iv 0, sv ⟨#[]⟩]]
theorem up34 : Up sAv34 gS34.av := Up.agg ⟨up_bytes rfl, up_bytes rfl, Up.refl _, Up.refl _, Up.refl _, Up.refl _, Up.refl _, Up.refl _, Up.refl _, Up.refl _, Up.refl _, Up.refl _, trivial⟩
def bAv34 : AV := .agg [.sl 2 [.agg [.sl 7 [], .sl 3 [.agg [sv ⟨#[]⟩, sv ⟨#[]⟩, .sl 42 [sAv34]]]]]]
theorem upb34 : Up bAv34 (yK b34) := Up.agg ⟨Up.sl ⟨Up.agg ⟨Up.refl _, Up.sl ⟨Up.agg ⟨Up.refl _, Up.refl _, Up.sl ⟨up34, trivial⟩, trivial⟩, trivial⟩, trivial⟩, trivial⟩, trivial⟩
theorem fall34 (f : Int) : zo Tryz.prog Γ0 20 [iv f, bAv34] [bv (decide (nkM f b34 = b34))] := (fall_c f b34 b34_ok (by decide) b34_ris).args ⟨Up.refl _, upb34, trivial⟩
theorem fkof34 (f : Int) : zo Tryz.prog Γ0 19 [iv f, bAv34] [yK (nkM f b34)] := (fkof_c f b34 b34_ok (by decide) b34_ris).args ⟨Up.refl _, upb34, trivial⟩
theorem fboth34 (f k : Int) : zo Tryz.prog Γ0 21 [iv f, iv k, bAv34] [bv (decide (nkM f b34 = nkM k b34))] := (fboth_c f k b34 b34_ok (by decide) b34_ris).args ⟨Up.refl _, Up.refl _, upb34, trivial⟩
theorem fall34b (f k : Int) : zo Tryz.prog Γ0 20 [iv f, yK (nkM k b34)] [bv (decide (nkM f (nkM k b34) = nkM k b34))] :=
  fall_c f _ (nk_ok b34_ok (by decide)) (Nat.le_trans (nk_wt k b34) (by decide)) (nk_ris b34_ris)
set_option maxRecDepth 100000 in
set_option maxHeartbeats 4000000 in
theorem works34_c : zo Tryz.prog Γ0 12 [] [bv true] := by
  refine z_ Tryz.func12 rfl Tryz.ntmps12 (by kernel_rfl) rfl fun w0 I0 G0 => ?_
  refine zD <| zB <| g_u (zE rfl rfl) <| zI <| zA <| zD <| zB ?_
  refine g_u (xu ((by first | exact ffind_c kJaeger | exact ffind_c ⟨#[]⟩)) rfl rfl) ?_
  refine g_u (y8 rfl rfl) <| g_u (zj rfl rfl rfl rfl) <| g_u (zj rfl rfl rfl rfl) <| g_u (zE rfl rfl) <| g_u (zE rfl rfl) <| zI <| zA <| zD <| zB ?_
  refine g_u (xu ((by first | exact ffind_c kJaeger | exact ffind_c ⟨#[]⟩)) rfl rfl) ?_
  refine g_u (y8 rfl rfl) <| g_u (zj rfl rfl rfl rfl) <| g_u (zj rfl rfl rfl rfl) <| g_u (zE rfl rfl) <| g_u (zE rfl rfl) <| zI <| zA <| zD <| zB <| g_u (s_build_arr rfl tV54 Tryz.underlying54 tS5 rfl rfl rfl rfl) <| g_u (s_build_arr rfl tV56 Tryz.underlying56 tS5 rfl rfl rfl rfl) <| g_u (y_ rfl tU63 us63 pl63 rfl rfl rfl rfl) <| g_uG (zl 1005 rfl rfl rfl tZ63) rfl ?_
  refine g_u (zK rfl rfl rfl tS63 (by first | exact beqW (GSpan.width _) | rfl) (by first | exact xy (z63_w.trans (GSpan.width _).symm) rfl | rfl)) ?_
  refine zI <| zA <| zD <| zB ?_
  refine g_u (zG rfl rfl rfl tA63 tS63 rfl (by first | exact xP (GSpan.width _) rfl | rfl)) ?_
  refine g_u (za (X0 := z63) rfl Tryz.underlying49 tS63 tZ63 rfl rfl rfl rfl rfl rfl rfl rfl) <| g_u (y_ rfl tU51 us51 pl51 rfl rfl rfl rfl) <| g_u (za (X0 := z51) rfl Tryz.underlying45 tS51 tZ51 rfl rfl rfl rfl rfl rfl rfl rfl) <| g_u (y_ rfl tU47 us47 pl47 rfl rfl rfl rfl) <| g_u (za (X0 := z47) rfl Tryz.underlying22 tS47 tZ47 rfl rfl rfl rfl rfl rfl rfl rfl) <| g_u (y_ rfl tU24 us24 pl24 rfl rfl rfl rfl) <| g_uG (zl 1006 rfl rfl rfl tZ24) rfl <| g_u (zK rfl rfl rfl tS24 rfl rfl) <| zI <| zA <| zD <| zB <| g_u (zC rfl rfl) <| g_u (y6 rfl rfl rfl) <| g_u (zC rfl rfl) <| z0 (t := 27) rfl ?_
  rintro (hb1 | hb1)
  · rw [hb1]
    refine zN rfl rfl (zC rfl rfl) <| g_u (zQ rfl rfl rfl) <| g_u (zC rfl rfl) <| z0 (t := 30) rfl ?_
    rintro (hb2 | hb2)
    · rw [hb2]
      refine zN rfl rfl (zC rfl rfl) <| zN rfl rfl (wZ rfl rfl) <| g_u (zQ rfl rfl rfl) <| g_u (zC rfl rfl) <| z0 (t := 34) rfl ?_
      rintro (hb3 | hb3)
      · rw [hb3]
        refine zN rfl rfl (zP (fword_c _) rfl rfl) <| zN rfl rfl (s_eqS rfl rfl rfl) <| g_u (zQ rfl rfl rfl) <| g_u (zC rfl rfl) <| z0 (t := 38) rfl ?_
        rintro (hb4 | hb4)
        · rw [hb4]
          refine zN rfl rfl (zk rfl rfl rfl tA24 tS24 rfl rfl) ?_
          refine zN rfl rfl (zP ((by first | exact fall34 _ | exact fall34b _ _)) rfl rfl) ?_
          refine g_u (zQ rfl rfl rfl) <| g_u (zC rfl rfl) <| z0 (t := 42) rfl ?_
          rintro (hb5 | hb5)
          · rw [hb5]
            refine zN rfl rfl (zC rfl rfl) <| zN rfl rfl (zk rfl rfl rfl tA24 tS24 rfl rfl) ?_
            refine zN rfl rfl (zP ((by first | exact fall34 _ | exact fall34b _ _)) rfl rfl) ?_
            refine zN rfl rfl (wZ rfl rfl) <| g_u (zQ rfl rfl rfl) <| g_u (zC rfl rfl) <| z0 (t := 48) rfl ?_
            rintro (hb6 | hb6)
            · rw [hb6]
              refine zN rfl rfl (zC rfl rfl) <| zN rfl rfl (zC rfl rfl) <| zN rfl rfl (zk rfl rfl rfl tA24 tS24 rfl rfl) <| zN rfl rfl (zP (fkof34 _) rfl rfl) ?_
              refine zN rfl rfl (zP ((by first | exact fall34 _ | exact fall34b _ _)) rfl rfl) ?_
              refine g_u (zQ rfl rfl rfl) <| g_u (zC rfl rfl) <| z0 (t := 55) rfl ?_
              rintro (hb7 | hb7)
              · rw [hb7]
                refine zN rfl rfl (zk rfl rfl rfl tA24 tS24 rfl rfl) <| zN rfl rfl (zP (fboth34 _ _) rfl rfl) <| g_u (zQ rfl rfl rfl) <| g_u (zC rfl rfl) <| z0 (t := 59) rfl ?_
                rintro (hb8 | hb8)
                · rw [hb8]
                  refine zN rfl rfl (zP (fis_c _) rfl rfl) <| zN rfl rfl (wZ rfl rfl) <| g_u (zQ rfl rfl rfl) <| g_u (zE rfl rfl) <| zI <| zA <| zL ?_
                  exact ⟨⟨(rfl : toAV (Al.look _ _) = some _).trans (congrArg some (by rfl)), rfl⟩, trivial⟩
                · exact killT hb8 (by first | rfl | decide +kernel)
              · exact killT hb7 (by first | rfl | decide +kernel)
            · exact killT hb6 (by first | rfl | decide +kernel)
          · exact killT hb5 (by first | rfl | decide +kernel)
        · exact killT hb4 (by first | rfl | decide +kernel)
      · exact killT hb3 (by first | rfl | decide +kernel)
    · exact killT hb2 (by first | rfl | decide +kernel)
  · exact killT hb1 (by first | rfl | decide +kernel)
set_option maxHeartbeats 4000000 in
theorem normalTells_c (f k : Int) (b : List GRes) (ho : okB b) : zo Tryz.prog Γ0 4 [iv f, iv k, yK b] [bv true] := by
  refine z_ Tryz.func4 rfl Tryz.ntmps4 (by kernel_rfl) rfl fun w0 I0 G0 => ?_
  refine zD <| zB <| g_uG (zi 1005 rfl rfl rfl rfl) rfl <| g_u (zE rfl rfl) <| zI <| zA <| zD <| zD <| zB <| g_u (zG rfl rfl rfl tA24 tS24 rfl rfl) ?_
  refine g_u (zP (leftR_c _ _ (by first | decide | omega)) rfl rfl) ?_
  refine g_u (yb rfl rfl rfl) <| zI <| zA ?_
  refine zW rfl (fun hb1 => ?_) (fun hb1 => ?_)
  · have z1 : leftR b 6000 < 0 := of_decide_eq_true hb1
    refine zD <| zB <| g_u (zP (works34_c) rfl rfl) <| g_u (zE rfl rfl) <| zI <| zA <| zL <| zM ?_
    exact ⟨⟨(rfl : toAV (Al.look _ _) = some _).trans (congrArg some (by rfl)), rfl⟩, trivial⟩
  · have z1 : ¬ leftR b 6000 < 0 := of_decide_eq_false hb1
    have hwb := leftR_le z1
    have hob := ok_canonB ho
    have hcb := wt_canonB b
    have hrb : ∀ r ∈ xx b, risA none r.attrs := fun r hr => by obtain ⟨x, _, rfl⟩ := List.mem_map.1 hr; exact ris_canonAs _
    have hnw := nzB_wt (xx b)
    have hpl := plR_len 0 (xx b)
    have qwc : wtB (xx b) = z7 GRes.wt (xx b) := rfl
    have hwc : wtB (xx b) ≤ 6000 := by omega
    have hnf := nk_wt f (xx b)
    refine zY <| zA <| zD <| zB <| g_u (zG rfl rfl rfl tA24 tS24 rfl rfl) ?_
    refine g_u (zP (canonB_c b (by omega)) rfl rfl) ?_
    refine g_u (zC rfl rfl) <| g_uG (zl 1007 rfl rfl rfl tZ24) rfl <| g_u (zK rfl rfl rfl tS24 rfl rfl) <| g_u (zE rfl rfl) <| zI <| zA <| zD <| yE yt <| g_u (zC rfl rfl) <| g_u (zk rfl rfl rfl tA24 tS24 rfl rfl) ?_
    refine g_u (zP (rfkof_c _ (xx b) hob (by omega) hrb) rfl rfl) ?_
    refine g_u (zC rfl rfl) <| g_u (zk rfl rfl rfl tA24 tS24 rfl rfl) ?_
    refine g_u (zP (rfkof_c _ (xx b) hob (by omega) hrb) rfl rfl) ?_
    refine g_uG (zl 1009 rfl rfl rfl tZ24) rfl <| g_uG (zl 1010 rfl rfl rfl tZ24) rfl <| g_u (zK rfl rfl rfl tS24 rfl rfl) <| g_u (zK rfl rfl rfl tS24 rfl rfl) ?_
    refine zI ⟨by kernel_rfl, ?_⟩
    refine zA <| zD <| zD <| yE yt <| g_u (zC rfl rfl) <| g_u (zP (fis_c _) rfl rfl) <| g_u (zC rfl rfl) <| g_u (s_geI rfl rfl rfl) <| g_u (zC rfl rfl) <| z0 (t := 28) rfl ?_
    rintro (hb2 | hb2)
    · rw [hb2]
      have q5 : 1 ≤ f := of_decide_eq_true hb2
      refine zN rfl rfl (zC rfl rfl) <| zN rfl rfl (s_leI rfl rfl rfl) <| g_u (zQ rfl rfl rfl) <| g_u (s_neB rfl rfl rfl Tryz.underlying4) <| g_u (zC rfl rfl) <| z0 (t := 33) rfl ?_
      rintro (hb3 | hb3)
      · exact killF hb3 ((by first | (rw [fmt_t q5]; exact bne_self_eq_false _) | (rw [fmt_f q5]; rfl)))
      · rw [hb3]
        refine zN rfl rfl (zC rfl rfl) <| zN rfl rfl (zP (fword_c _) rfl rfl) <| zN rfl rfl (zC rfl rfl) <| zN rfl rfl (zP (rfword_c _) rfl rfl) <| zN rfl rfl (s_neS rfl rfl rfl) <| g_u (zh rfl rfl rfl) <| g_u (zC rfl rfl) <| z0 (t := 40) rfl ?_
        rintro (hb4 | hb4)
        · exact killF hb4 ((by simp))
        · rw [hb4]
          refine zN rfl rfl (zC rfl rfl) <| zN rfl rfl (zk rfl rfl rfl tA24 tS24 rfl rfl) ?_
          refine zN rfl rfl (zP (fkof_c f (xx b) hob (by omega) hrb) rfl rfl) ?_
          refine zN rfl rfl (zk rfl rfl rfl tA24 tS24 rfl rfl) ?_
          refine zN rfl rfl (zP (rsameB_c (nkM f (xx b)) _ (by omega)) rfl rfl) ?_
          refine zN rfl rfl (wZ rfl rfl) <| g_u (zh rfl rfl rfl) <| g_u (zC rfl rfl) <| z0 (t := 48) rfl ?_
          rintro (hb5 | hb5)
          · exact killF hb5 ((by simp))
          · rw [hb5]
            refine zN rfl rfl (zC rfl rfl) <| zN rfl rfl (zk rfl rfl rfl tA24 tS24 rfl rfl) ?_
            refine zN rfl rfl (zP (fall_c f (xx b) hob (by omega) hrb) rfl rfl) ?_
            refine zN rfl rfl (zk rfl rfl rfl tA24 tS24 rfl rfl) <| zN rfl rfl (zk rfl rfl rfl tA24 tS24 rfl rfl) ?_
            refine zN rfl rfl (zP (rsameB_c (nkM f (xx b)) _ (by omega)) rfl rfl) ?_
            refine zN rfl rfl (s_neB rfl rfl rfl Tryz.underlying4) <| g_u (zh rfl rfl rfl) ?_
            refine zI ⟨by kernel_rfl, ?_⟩
            refine zA ?_
            refine zW rfl (fun hb6 => ?_) (fun hb6 => ?_)
            · exact killF hb6 ((by exact bne_self_eq_false _))
            · refine zY ?_
              refine zA <| zD <| yE yt <| g_u (zC rfl rfl) <| g_u (zC rfl rfl) <| g_u (zk rfl rfl rfl tA24 tS24 rfl rfl) ?_
              refine g_u (zP (fboth_c f k (xx b) hob (by omega) hrb) rfl rfl) ?_
              refine g_u (zk rfl rfl rfl tA24 tS24 rfl rfl) <| g_u (zk rfl rfl rfl tA24 tS24 rfl rfl) ?_
              refine g_u (zP (rsameB_c (nkM f (xx b)) _ (by omega)) rfl rfl) ?_
              refine g_u (s_eqB rfl rfl rfl Tryz.underlying4) <| g_u (zC rfl rfl) <| z0 (t := 65) rfl ?_
              rintro (hb7 | hb7)
              · rw [hb7]
                refine zN rfl rfl (zP (works34_c) rfl rfl) <| g_u (zQ rfl rfl rfl) <| g_u (zE rfl rfl) ?_
                refine zI ⟨by kernel_rfl, ?_⟩
                refine zA <| zL ?_
                exact ⟨⟨(rfl : toAV (Al.look _ _) = some _).trans (congrArg some (by rfl)), rfl⟩, trivial⟩
              · exact killT hb7 ((by exact beq_self_eq_true _))
    · rw [hb2]
      have q5 : ¬ 1 ≤ f := of_decide_eq_false hb2
      refine zH rfl rfl rfl <| zH rfl rfl rfl <| g_u (zh rfl rfl rfl) <| g_u (s_neB rfl rfl rfl Tryz.underlying4) <| g_u (zC rfl rfl) <| z0 (t := 33) rfl ?_
      rintro (hb8 | hb8)
      · exact killF hb8 ((by first | (rw [fmt_t q5]; exact bne_self_eq_false _) | (rw [fmt_f q5]; rfl)))
      · rw [hb8]
        refine zN rfl rfl (zC rfl rfl) <| zN rfl rfl (zP (fword_c _) rfl rfl) <| zN rfl rfl (zC rfl rfl) <| zN rfl rfl (zP (rfword_c _) rfl rfl) <| zN rfl rfl (s_neS rfl rfl rfl) <| g_u (zh rfl rfl rfl) <| g_u (zC rfl rfl) <| z0 (t := 40) rfl ?_
        rintro (hb9 | hb9)
        · exact killF hb9 ((by simp))
        · rw [hb9]
          refine zN rfl rfl (zC rfl rfl) <| zN rfl rfl (zk rfl rfl rfl tA24 tS24 rfl rfl) ?_
          refine zN rfl rfl (zP (fkof_c f (xx b) hob (by omega) hrb) rfl rfl) ?_
          refine zN rfl rfl (zk rfl rfl rfl tA24 tS24 rfl rfl) ?_
          refine zN rfl rfl (zP (rsameB_c (nkM f (xx b)) _ (by omega)) rfl rfl) ?_
          refine zN rfl rfl (wZ rfl rfl) <| g_u (zh rfl rfl rfl) <| g_u (zC rfl rfl) <| z0 (t := 48) rfl ?_
          rintro (hb10 | hb10)
          · exact killF hb10 ((by simp))
          · rw [hb10]
            refine zN rfl rfl (zC rfl rfl) <| zN rfl rfl (zk rfl rfl rfl tA24 tS24 rfl rfl) ?_
            refine zN rfl rfl (zP (fall_c f (xx b) hob (by omega) hrb) rfl rfl) ?_
            refine zN rfl rfl (zk rfl rfl rfl tA24 tS24 rfl rfl) <| zN rfl rfl (zk rfl rfl rfl tA24 tS24 rfl rfl) ?_
            refine zN rfl rfl (zP (rsameB_c (nkM f (xx b)) _ (by omega)) rfl rfl) ?_
            refine zN rfl rfl (s_neB rfl rfl rfl Tryz.underlying4) <| g_u (zh rfl rfl rfl) ?_
            refine zI ⟨by kernel_rfl, ?_⟩
            refine zA ?_
            refine zW rfl (fun hb11 => ?_) (fun hb11 => ?_)
            · exact killF hb11 ((by exact bne_self_eq_false _))
            · refine zY ?_
              refine zA <| zD <| yE yt <| g_u (zC rfl rfl) <| g_u (zC rfl rfl) <| g_u (zk rfl rfl rfl tA24 tS24 rfl rfl) ?_
              refine g_u (zP (fboth_c f k (xx b) hob (by omega) hrb) rfl rfl) ?_
              refine g_u (zk rfl rfl rfl tA24 tS24 rfl rfl) <| g_u (zk rfl rfl rfl tA24 tS24 rfl rfl) ?_
              refine g_u (zP (rsameB_c (nkM f (xx b)) _ (by omega)) rfl rfl) ?_
              refine g_u (s_eqB rfl rfl rfl Tryz.underlying4) <| g_u (zC rfl rfl) <| z0 (t := 65) rfl ?_
              rintro (hb12 | hb12)
              · rw [hb12]
                refine zN rfl rfl (zP (works34_c) rfl rfl) <| g_u (zQ rfl rfl rfl) <| g_u (zE rfl rfl) ?_
                refine zI ⟨by kernel_rfl, ?_⟩
                refine zA <| zL ?_
                exact ⟨⟨(rfl : toAV (Al.look _ _) = some _).trans (congrArg some (by rfl)), rfl⟩, trivial⟩
              · exact killT hb12 ((by exact beq_self_eq_true _))
end Go.Proofs
