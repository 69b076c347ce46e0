/- Texts that the proofs of this claim share, part 2: the abstract logic, plain Lean on values and batches, and walks. No condition but those typed in each lemma. -/
import Derived.Laws.Externs
import Derived.Lib.Bytealg
import Derived.Test.YtiolofgnkkhjoaaP1
set_option linter.unusedSimpArgs false
set_option linter.unusedVariables false
set_option maxHeartbeats 400000
namespace Go.Al
open Go.RowKit
def ren : List (Nat × Nat) → Nat → Nat
  | [], g => g
  | (f, a) :: r, g => bif Nat.beq f g then a else ren r g
mutual
def SV.ren (σ : List (Nat × Nat)) : SV → SV
  | .ptr g off => .ptr (Al.ren σ g) off
  | .slg g n l => .slg (Al.ren σ g) n l
  | .osl g o a b => .osl (Al.ren σ g) o a b
  | .agg fs => .agg (SV.rens σ fs)
  | .tup fs => .tup (SV.rens σ fs)
  | .box T x => .box T (SV.ren σ x)
  | .fnv f a b => .fnv f (SV.rens σ a) (SV.rens σ b)
  | .mref g => .mref (Al.ren σ g)
  | .itr m n s => .itr (Al.ren σ m) n s
  | .ifp T g off => .ifp T (Al.ren σ g) off
  | .gen R => .gen R
  | .dead => .dead
  | .undef => .undef
  | .imm x => .imm x
  | .tok n l => .tok n l
  | .mpr ks vs => .mpr ks vs
  | .row l => .row l
def SV.rens (σ : List (Nat × Nat)) : List SV → List SV
  | [] => []
  | x :: xs => SV.ren σ x :: SV.rens σ xs
end
def Gh.at (G : Gh) (ρ : Nat → Nat) : Gh := ⟨G.I, fun g => G.blk (ρ g), fun g => G.cur (ρ g), fun g => G.len (ρ g)⟩
theorem ren_isAgg (σ : List (Nat × Nat)) (x : SV) : (x.ren σ).isAgg = x.isAgg := by cases x <;> rfl
theorem ren_mkS (σ : List (Nat × Nat)) (x : SV) (cs : List Value) : mkS (x.ren σ) cs = mkS x cs := by simp only [mkS, ren_isAgg]
mutual
theorem repS_ren {w : World} {G : Gh} {σ : List (Nat × Nat)} : ∀ (x : SV) (cs : List Value), RepS w G (x.ren σ) cs ↔ RepS w (G.at (Al.ren σ)) x cs
  | .imm x, cs => by simp only [SV.ren, RepS, Gh.at]
  | .ptr g off, cs => by simp only [SV.ren, RepS, Gh.at]
  | .slg g n l, cs => by simp only [SV.ren, RepS, Gh.at]
  | .osl g o a b, cs => by simp only [SV.ren, RepS, Gh.at]
  | .agg fs, cs => by simp only [SV.ren, RepS]; exact repSs_ren fs cs
  | .fnv f a b, cs => by
    simp only [SV.ren, RepS]
    constructor
    · rintro ⟨fs, gs, h1, h2, h3⟩; exact ⟨fs, gs, h1, (vE a fs).1 h2, (vE b gs).1 h3⟩
    · rintro ⟨fs, gs, h1, h2, h3⟩; exact ⟨fs, gs, h1, (vE a fs).2 h2, (vE b gs).2 h3⟩
  | .mref g, cs => by simp only [SV.ren, RepS, Gh.at]
  | .dead, cs => by simp only [SV.ren, RepS]
  | .undef, cs => by simp only [SV.ren, RepS]
  | .tup fs, cs => by simp only [SV.ren, RepS]
  | .box T x, cs => by simp only [SV.ren, RepS]
  | .tok n l, cs => by simp only [SV.ren, RepS]
  | .mpr ks vs, cs => by simp only [SV.ren, RepS]
  | .row l, cs => by simp only [SV.ren, RepS]
  | .itr m n s, cs => by simp only [SV.ren, RepS]
  | .ifp T g off, cs => by simp only [SV.ren, RepS, Gh.at]
  | .gen R, cs => by simp only [SV.ren, RepS]
theorem repSs_ren {w : World} {G : Gh} {σ : List (Nat × Nat)} : ∀ (xs : List SV) (cs : List Value), yX w G (SV.rens σ xs) cs ↔ yX w (G.at (Al.ren σ)) xs cs
  | [], cs => by simp only [SV.rens, yX]
  | x :: xs, cs => by
    simp only [SV.rens, yX]
    constructor
    · rintro ⟨c1, c2, h1, h2, h3⟩; exact ⟨c1, c2, h1, (repS_ren x c1).1 h2, (repSs_ren xs c2).1 h3⟩
    · rintro ⟨c1, c2, h1, h2, h3⟩; exact ⟨c1, c2, h1, (repS_ren x c1).2 h2, (repSs_ren xs c2).2 h3⟩
theorem vE {w : World} {G : Gh} {σ : List (Nat × Nat)} : ∀ (xs : List SV) (cs : List Value), xK w G (SV.rens σ xs) cs ↔ xK w (G.at (Al.ren σ)) xs cs
  | [], cs => by simp only [SV.rens, xK]
  | x :: xs, cs => by
    simp only [SV.rens, xK, ren_mkS]
    constructor
    · rintro ⟨c1, c2, h1, h2, h3⟩; exact ⟨c1, c2, h1, (repS_ren x c1).1 h2, (vE xs c2).1 h3⟩
    · rintro ⟨c1, c2, h1, h2, h3⟩; exact ⟨c1, c2, h1, (repS_ren x c1).2 h2, (vE xs c2).2 h3⟩
end
theorem xv {w : World} {G : Gh} {σ : List (Nat × Nat)} {x : SV} {v : Value} : ValS w G (x.ren σ) v ↔ ValS w (G.at (Al.ren σ)) x v := by
  simp only [ValS, repS_ren, ren_mkS]
theorem valSs_ren {w : World} {G : Gh} {σ : List (Nat × Nat)} : ∀ {xs : List SV} {vs : List Value}, yx w G (SV.rens σ xs) vs ↔ yx w (G.at (Al.ren σ)) xs vs
  | [], vs => by simp only [SV.rens, yx]
  | x :: xs, vs => by
    simp only [SV.rens, yx, xv]
    constructor
    · rintro ⟨v, r, h1, h2, h3⟩; exact ⟨v, r, h1, h2, valSs_ren.1 h3⟩
    · rintro ⟨v, r, h1, h2, h3⟩; exact ⟨v, r, h1, h2, valSs_ren.2 h3⟩
theorem slotS_ren {w : World} {G : Gh} {σ : List (Nat × Nat)} {x : SV} {v : Value} : yO w G (x.ren σ) v ↔ yO w (G.at (Al.ren σ)) x v := by
  cases x <;> simp only [SV.ren, yO] <;> first | exact Iff.rfl | skip
  case tup fs => simp only [valSs_ren]
  all_goals first | exact xv (σ := σ) (x := .imm _) | exact xv (σ := σ) (x := .ptr _ _) | exact xv (σ := σ) (x := .slg _ _ _) | exact xv (σ := σ) (x := .osl _ _ _ _) | exact xv (σ := σ) (x := .agg _) | exact xv (σ := σ) (x := .fnv _ _ _) | exact xv (σ := σ) (x := .mref _) | exact xv (σ := σ) (x := .ifp _ _ _)
theorem ownsB_ren {G : Gh} {σ : List (Nat × Nat)} {k b : Nat} {x : SV} : zR G (ren σ k) b (x.ren σ) ↔ zR (G.at (ren σ)) k b x := by
  cases x <;> simp only [SV.ren, zR, Gh.at]
theorem holds_ren {w0 : World} {E : Nat → Prop} {G : Gh} {a : Act} {w : World} {σ : List (Nat × Nat)} {k : Nat} {x : SV} (hx : x.res = true) :
    Holds w0 E G a w (ren σ k) (x.ren σ) ↔ Holds w0 E (G.at (ren σ)) a w k x := by
  cases x <;> first | cases hx | skip
  case box T x => simp only [SV.ren, Holds, BoxS, Gh.at, repS_ren]
  case tok n l => simp only [SV.ren, Holds, Gh.at]
  case mpr ks vs => simp only [SV.ren, Holds, Gh.at]
  case row l => simp only [SV.ren, Holds, Gh.at]
  case itr m n s => simp only [SV.ren, Holds, Gh.at]
  case gen R => simp only [SV.ren, Holds, Gh.at]
def Agree (gs : List Nat) (G1 G2 : Gh) : Prop := ∀ g ∈ gs, G2.blk g = G1.blk g ∧ G2.cur g = G1.cur g ∧ G2.len g = G1.len g
theorem Agree.left {xs ys : List Nat} {G1 G2 : Gh} (h : Agree (xs ++ ys) G1 G2) : Agree xs G1 G2 := fun g hg => h g (List.mem_append_left _ hg)
theorem Agree.right {xs ys : List Nat} {G1 G2 : Gh} (h : Agree (xs ++ ys) G1 G2) : Agree ys G1 G2 := fun g hg => h g (List.mem_append_right _ hg)
mutual
theorem RepS.agree {w : World} {G1 G2 : Gh} (hI : G2.I = G1.I) : ∀ (x : SV) (cs : List Value), Agree (xE x) G1 G2 → RepS w G1 x cs → RepS w G2 x cs
  | .imm x, cs, h, r => by simp only [RepS] at r ⊢; rw [hI]; exact r
  | .ptr g off, cs, h, r => by simp only [RepS] at r ⊢; rw [(h g (by simp [xE])).1]; exact r
  | .slg g n l, cs, h, r => by simp only [RepS] at r ⊢; rw [hI, (h g (by simp [xE])).2.1, (h g (by simp [xE])).2.2]; exact r
  | .osl g o a b, cs, h, r => by simp only [RepS] at r ⊢; rw [(h g (by simp [xE])).1]; exact r
  | .agg fs, cs, h, r => by simp only [RepS] at r ⊢; exact yX.agree hI fs cs (by simpa only [xE] using h) r
  | .fnv f a b, cs, h, r => by
    simp only [RepS] at r ⊢
    simp only [xE] at h
    obtain ⟨fs, gs, h1, h2, h3⟩ := r
    exact ⟨fs, gs, h1, xK.agree hI a fs h.left h2, xK.agree hI b gs h.right h3⟩
  | .mref g, cs, h, r => by simp only [RepS] at r ⊢; rw [(h g (by simp [xE])).1]; exact r
  | .dead, _, _, r => by simp only [RepS] at r
  | .undef, _, _, r => by simp only [RepS] at r
  | .tup _, _, _, r => by simp only [RepS] at r
  | .box _ _, _, _, r => by simp only [RepS] at r
  | .tok _ _, _, _, r => by simp only [RepS] at r
  | .mpr _ _, _, _, r => by simp only [RepS] at r
  | .row _, _, _, r => by simp only [RepS] at r
  | .itr _ _ _, _, _, r => by simp only [RepS] at r
  | .gen _, _, _, r => by simp only [RepS] at r
  | .ifp T g off, cs, h, r => by simp only [RepS] at r ⊢; rw [(h g (by simp [xE])).1]; exact r
theorem yX.agree {w : World} {G1 G2 : Gh} (hI : G2.I = G1.I) : ∀ (xs : List SV) (cs : List Value), Agree (vA xs) G1 G2 → yX w G1 xs cs → yX w G2 xs cs
  | [], cs, h, r => by simpa only [yX] using r
  | x :: xs, cs, h, r => by
    simp only [yX] at r ⊢
    simp only [vA] at h
    obtain ⟨c1, c2, h1, h2, h3⟩ := r
    exact ⟨c1, c2, h1, RepS.agree hI x c1 h.left h2, yX.agree hI xs c2 h.right h3⟩
theorem xK.agree {w : World} {G1 G2 : Gh} (hI : G2.I = G1.I) : ∀ (xs : List SV) (cs : List Value), Agree (vA xs) G1 G2 → xK w G1 xs cs → xK w G2 xs cs
  | [], cs, h, r => by simpa only [xK] using r
  | x :: xs, cs, h, r => by
    simp only [xK] at r ⊢
    simp only [vA] at h
    obtain ⟨c1, c2, h1, h2, h3⟩ := r
    exact ⟨c1, c2, h1, RepS.agree hI x c1 h.left h2, xK.agree hI xs c2 h.right h3⟩
end
theorem ValS.agree {w : World} {G1 G2 : Gh} (hI : G2.I = G1.I) {x : SV} {v : Value} (h : Agree (xE x) G1 G2) (r : ValS w G1 x v) : ValS w G2 x v :=
  let ⟨c, h1, h2⟩ := r; ⟨c, RepS.agree hI x c h h1, h2⟩
theorem yx.agree {w : World} {G1 G2 : Gh} (hI : G2.I = G1.I) : ∀ {xs : List SV} {vs : List Value}, Agree (vA xs) G1 G2 → yx w G1 xs vs → yx w G2 xs vs
  | [], _, _, r => r
  | x :: xs, vs, h, ⟨v, r, h1, h2, h3⟩ => by
    simp only [vA] at h
    exact ⟨v, r, h1, h2.agree hI h.left, yx.agree hI h.right h3⟩
theorem yO.agree {w : World} {G1 G2 : Gh} (hI : G2.I = G1.I) {x : SV} {v : Value} (h : Agree (xE x) G1 G2) (r : yO w G1 x v) : yO w G2 x v := by
  cases x <;> simp only [yO] at r ⊢
  case undef => exact r
  case tup fs => obtain ⟨vs, h1, h2⟩ := r; exact ⟨vs, h1, h2.agree hI (by simpa only [xE] using h)⟩
  all_goals exact ValS.agree hI h r
theorem Holds.agree {w0 : World} {E : Nat → Prop} {G1 G2 : Gh} {a : Act} {w : World} {k : Nat} {x : SV} (hI : G2.I = G1.I) (hx : x.res = true) (h : Agree (k :: xE x) G1 G2) (r : Holds w0 E G1 a w k x) : Holds w0 E G2 a w k x := by
  obtain ⟨e1, e2, e3⟩ := h k List.mem_cons_self
  have hm : Agree (xE x) G1 G2 := fun g hg => h g (List.mem_cons_of_mem _ hg)
  cases x <;> first | cases hx | skip
  case box T x =>
    simp only [Holds] at r ⊢
    obtain ⟨h1, ⟨cs, fr, h2, h3, h4⟩, h5⟩ := r
    rw [e1]
    exact ⟨h1, ⟨cs, fr, h2, RepS.agree hI _ _ (by simpa only [xE] using hm) h3, h4⟩, by rw [hI]; exact h5⟩
  case tok n l => simp only [Holds] at r ⊢; rw [e2, e3, hI]; exact r
  case mpr ks vs => simp only [Holds] at r ⊢; rw [e1, hI]; exact r
  case row l => simp only [Holds] at r ⊢; rw [e2, e3, hI]; exact r
  case itr m n s => simp only [Holds] at r ⊢; rw [e1, hI, (hm m (by simp [xE])).1]; exact r
  case gen R => simp only [Holds] at r ⊢; rw [hI, e1, e2, e3]; exact r
theorem ownsB_agree {G1 G2 : Gh} {k b : Nat} {x : SV} (h : G2.blk k = G1.blk k ∧ G2.cur k = G1.cur k ∧ G2.len k = G1.len k) : zR G2 k b x ↔ zR G1 k b x := by
  cases x <;> simp only [zR, h.1, h.2.1, h.2.2]
theorem Holds.reown {w0 w1 : World} {E E' : Nat → Prop} {G : Gh} {a a' : Act} {w : World} {k : Nat} {x : SV} (hx : x.res = true) (r : Holds w0 E G a w k x) (h : ∀ b, zR G k b x → b < w.heap.size → (w0.heap.size ≤ b ∨ E b) → w1.heap.size ≤ b ∨ E' b) : Holds w1 E' G a' w k x := by
  cases x <;> first | cases hx | skip
  case box T x =>
    simp only [Holds] at r ⊢
    exact ⟨⟨h _ (by simp [zR]) r.1.2 r.1.1, r.1.2⟩, r.2⟩
  case tok n l =>
    simp only [Holds] at r ⊢
    refine ⟨r.1, ?_⟩
    rcases r.2 with h' | ⟨b, cap, h1, h2, h3, h4, h5, h6⟩
    · exact .inl h'
    · exact .inr ⟨b, cap, h1, h2, h3, h4, ⟨h b ⟨_, _, _, h1, rfl⟩ h5.2 h5.1, h5.2⟩, h6⟩
  case row l =>
    simp only [Holds] at r ⊢
    refine ⟨r.1, ?_⟩
    rcases r.2 with h' | ⟨b, cap, h1, h2, h3, h4, h5⟩
    · exact .inl h'
    · exact .inr ⟨b, cap, h1, h2, h3, ⟨h b ⟨_, _, _, h1, rfl⟩ h4.2 h4.1, h4.2⟩, h5⟩
  case mpr ks vs =>
    simp only [Holds] at r ⊢
    exact ⟨⟨h _ (by simp [zR]) r.1.2 r.1.1, r.1.2⟩, r.2⟩
  case itr m n s =>
    simp only [Holds] at r ⊢
    exact ⟨⟨h _ (by simp [zR]) r.1.2 r.1.1, r.1.2⟩, r.2⟩
  case gen R =>
    simp only [Holds] at r ⊢
    exact ⟨fun b hb => ⟨h b (by simpa only [zR] using hb) (r.1 b hb).2 (r.1 b hb).1, (r.1 b hb).2⟩, r.2⟩
theorem Holds.owned {w0 : World} {E : Nat → Prop} {G : Gh} {a : Act} {w : World} {k b : Nat} {x : SV} (r : Holds w0 E G a w k x) (h : zR G k b x) : (w0.heap.size ≤ b ∨ E b) ∧ b < w.heap.size := by
  cases x <;> simp only [zR] at h <;> simp only [Holds] at r
  case box T x => rw [← h]; exact r.1
  case mpr ks vs => rw [← h]; exact r.1
  case row l =>
    obtain ⟨ad, n', c, h1, h2⟩ := h
    rcases r.2 with ⟨e, _⟩ | ⟨b', cap, e, _, _, h5, _⟩
    · rw [e] at h1; cases h1
    · rw [e] at h1; cases h1; rw [← h2]; exact h5
  case itr m n s => rw [← h]; exact r.1
  case gen R => exact r.1 b h
  case tok n l =>
    obtain ⟨ad, n', c, h1, h2⟩ := h
    rcases r.2 with ⟨e, _⟩ | ⟨b', cap, e, _, _, _, h5, _⟩
    · rw [e] at h1; cases h1
    · rw [e] at h1; cases h1; rw [← h2]; exact h5
def HOwn (G : Gh) (H : St) (b : Nat) : Prop := ∃ k, zR G k b (look H k)
def act0 : Act := ⟨#[], []⟩
def MPre (Γ : List (Nat × AV)) (w : World) (G : Gh) (xs : List SV) (H : St) (args : List Value) : Prop :=
  (∀ b o, G.I b o → b < w.heap.size) ∧ Glob Γ w G.I ∧ yx w G xs args ∧ (∀ k, Holds w (HOwn G H) G act0 w k (look H k)) ∧ ∀ k j b, k ≠ j → zR G k b (look H k) → zR G j b (look H j) → False
structure MDone (w : World) (G : Gh) (K : Nat) (H : St) (r : SV) (H' : St) (w' : World) (v : Value) (G' : Gh) : Prop where
  os : w'.os = w.os
  tape : w'.tape = w.tape
  output : w'.output = w.output
  size : w.heap.size ≤ w'.heap.size
  block : ∀ k, k < w.heap.size → ¬ HOwn G H k → w'.heap[k]? = w.heap[k]?
  le : Le w G.I w' G'.I
  new : ∀ b o, G'.I b o → G.I b o ∨ w.heap.size ≤ b ∨ HOwn G H b
  val : ∀ b o, G'.I b o → b < w'.heap.size
  rel : ∀ g, K ≤ g → Turns G G' g
  holds : ∀ k, Holds w (HOwn G H) G' act0 w' k (look H' k)
  apart : ∀ k j b, k ≠ j → zR G' k b (look H' k) → zR G' j b (look H' j) → False
  res : yO w' G' r v
def MPost (w : World) (G : Gh) (K : Nat) (H : St) (r : SV) (H' : St) (e : Ending) (w' : World) : Prop :=
  ∃ v G', e = .returned v ∧ MDone w G K H r H' w' v G'
def MCall (P : Program) (Γ : List (Nat × AV)) (f : FuncId) (xs : List SV) (H : St) (r : SV) (H' : St) : Prop :=
  xY P f = true ∧ ∀ w G args, MPre Γ w G xs H args → Calls P f (List.toArray args) w (MPost w G 100000 H r H')
def paramsS : Nat → List SV → St → St
  | _, [], H => H
  | k, x :: xs, H => (k, x) :: paramsS (k + 1) xs H
theorem paramsS_look : ∀ (xs : List SV) (H : St) (k j : Nat) (x : SV), xs[j]? = some x → look (paramsS k xs H) (k + j) = x
  | [], _, _, _, _, h => by simp at h
  | y :: xs, H, k, 0, x, h => by simp at h; subst h; simp [paramsS, look, upd]
  | y :: xs, H, k, j + 1, x, h => by
    simp only [paramsS, look, upd]
    rw [zL (by omega)]
    have := paramsS_look xs H (k + 1) j x (by simpa using h)
    simp only [cond_false]
    rw [show k + (j + 1) = k + 1 + j from by omega]
    exact this
theorem paramsS_none : ∀ (xs : List SV) (H : St) (k i : Nat), (i < k ∨ k + xs.length ≤ i) → look (paramsS k xs H) i = look H i
  | [], _, _, _, _ => rfl
  | y :: xs, H, k, i, h => by
    simp only [paramsS, look, upd]
    rw [zL (by simp at h; omega)]
    exact paramsS_none xs H (k + 1) i (by simp at h; omega)
theorem valSs_len {w : World} {G : Gh} : ∀ {xs : List SV} {vs : List Value}, yx w G xs vs → vs.length = xs.length
  | [], _, h => by simp only [yx] at h; simp [h]
  | x :: xs, vs, ⟨v, r, h1, _, h3⟩ => by simp [h1, valSs_len h3]
def x_ (N : Nat) : St → Bool
  | [] => true
  | (k, x) :: r => x.res && Nat.ble N k && x_ N r
theorem xm {N : Nat} : ∀ {H : St}, x_ N H = true → ∀ k, look H k = .dead ∨ ((look H k).res = true ∧ N ≤ k)
  | [], _, k => .inl rfl
  | (j, x) :: r, h, k => by
    simp only [x_, Bool.and_eq_true] at h
    simp only [look, upd]
    cases hb : Nat.beq j k
    · exact xm h.2 k
    · have := Nat.eq_of_beq_eq_true hb
      subst this
      exact .inr ⟨h.1.1, Nat.le_of_ble_eq_true h.1.2⟩
theorem start_simM {P : Program} {Γ : List (Nat × AV)} {w : World} {G : Gh} {xs : List SV} {H : St} {args : List Value} {N K : Nat} (h : MPre Γ w G xs H args) (hN : xs.length ≤ N) (hH : x_ N H = true) (hs : xs.all SV.slotty = true) :
    Sim ⟨P, w, G.I, HOwn G H, N, K, G, Γ, [], none⟩ (look (paramsS 0 xs H)) { tmps := (List.toArray args) ++ Array.replicate (N - (List.toArray args).size) Go.undef, defers := [] } w := by
  obtain ⟨hv, hgl, hargs, hh, hap⟩ := h
  have hl := valSs_len hargs
  have own : ∀ k b, zR G k b (look (paramsS 0 xs H) k) → zR G k b (look H k) := by
    intro k b hb
    cases hx : xs[k]? with
    | none => rw [paramsS_none xs H 0 k (.inr (by simpa using hx))] at hb; exact hb
    | some x =>
      have := paramsS_look xs H 0 k x hx
      rw [Nat.zero_add] at this
      rw [this] at hb
      have hsl := List.all_eq_true.1 hs x (List.mem_of_getElem? hx)
      cases x <;> first | (simp only [zR] at hb; done) | cases hsl
  refine ⟨G, rfl, rfl, rfl, Nat.le_refl _, fun _ _ _ => rfl, Le.refl _ _, fun _ _ => ⟨rfl, .inl ⟨rfl, rfl⟩⟩, hgl, fun _ _ h => .inl h, hv, by simp; omega, rfl, fun k => ?_, fun k j b hkj h1 h2 => hap k j b hkj (own k b h1) (own j b h2)⟩
  cases hx : xs[k]? with
  | none =>
    rw [paramsS_none xs H 0 k (.inr (by simpa using hx))]
    rcases xm hH k with e | ⟨e, _⟩
    · rw [e]; simp only [Holds]
    · exact (hh k).reown e (fun b _ _ h => h)
  | some x =>
    have := paramsS_look xs H 0 k x hx
    rw [Nat.zero_add] at this
    rw [this]
    obtain ⟨v, h1, h2⟩ := valSs_get hargs hx
    have hk : k < args.length := (List.getElem?_eq_some_iff.1 h1).1
    have hsl := List.all_eq_true.1 hs x (List.mem_of_getElem? hx)
    refine Holds.slot (by simp; omega) (xl hsl ?_)
    have : (List.toArray args ++ Array.replicate (N - (List.toArray args).size) Go.undef).getD k Go.undef = v := by
      rw [Array.getD_eq_getD_getElem?]
      rw [Array.getElem?_append_left (by simpa using hk)]
      simp [h1]
    rw [this]; exact h2
def retOneM (P : Program) (st : St) (rv : ResultVar) (r : SV) : Prop :=
  (∃ y, r = .imm y ∧ retOne P st rv y) ∨ (∃ t, rv = .tmp t ∧ look st t = r ∧ r.slotty = true)
def retAllM (P : Program) (st : St) : List ResultVar → List SV → Prop
  | [], [] => True
  | x :: xs, r :: rs => retOneM P st x r ∧ retAllM P st xs rs
  | _, _ => False
theorem ret_one {C : Cx} {st : St} {G : Gh} {a : Act} {w : World} (S : SimG C (look st) G a w) {x : ResultVar} {r : AV} (h : retOne C.P st x r) : ∃ v, (rvSem a.tmps x).run C.P w = .ok v w ∧ Rep w G.I r v := by
  obtain ⟨vs, h1, h2⟩ := ret_run S [x] [r] ⟨h, trivial⟩
  simp only [List.mapM_cons, List.mapM_nil, Sem.run_bind, Sem.run_pure] at h1
  cases hx : (rvSem a.tmps x).run C.P w with
  | ok v w1 =>
    rw [hx] at h1
    simp only [Result.andThen_ok, Result.ok.injEq] at h1
    obtain ⟨rfl, rfl⟩ := h1
    obtain ⟨v', h3, h4⟩ := yb (j := 0) h2 rfl
    simp at h3; subst h3
    exact ⟨v, rfl, h4⟩
  | halt s w1 => rw [hx] at h1; simp [Result.andThen] at h1
theorem ret_runM {C : Cx} {st : St} {G : Gh} {a : Act} {w : World} (S : SimG C (look st) G a w) : ∀ (xs : List ResultVar) (rs : List SV), retAllM C.P st xs rs →
    ∃ vs, (xs.mapM (rvSem a.tmps)).run C.P w = .ok vs w ∧ yx w G rs vs
  | [], [], _ => ⟨[], by simp, rfl⟩
  | [], _ :: _, h => h.elim
  | _ :: _, [], h => h.elim
  | x :: xs, r :: rs, h => by
    obtain ⟨h1, h2⟩ := h
    obtain ⟨vs, h3, h4⟩ := ret_runM S xs rs h2
    have key : ∃ v, (rvSem a.tmps x).run C.P w = .ok v w ∧ ValS w G r v := by
      rcases h1 with ⟨y, rfl, h1⟩ | ⟨t, rfl, h1, hs⟩
      · obtain ⟨v, k1, k2⟩ := ret_one S h1
        exact ⟨v, k1, zm.2 k2⟩
      · exact ⟨_, rfl, vI hs (S.slot h1 (SV.slotty_res hs))⟩
    obtain ⟨v, m1, m2⟩ := key
    exact ⟨v :: vs, by simp only [List.mapM_cons, Sem.run_bind, m1, Result.andThen_ok, h3, Sem.run_pure], v, vs, rfl, m2, h4⟩
def resM : List SV → SV
  | [r] => r
  | rs => .tup rs
def PostM (P : Program) (fn : Func) (rs : List SV) (H' : St) : Exit → St → Prop
  | .normal, st => retAllM P st fn.results.toList rs ∧ sub st H'
  | .ret, st => retAllM P st fn.results.toList rs ∧ sub st H'
  | _, _ => False
theorem mcall_of {P : Program} {Γ : List (Nat × AV)} {f : FuncId} {fn : Func} {c : Code} {N : Nat} {xs rs : List SV} {H H' : St} (hf : P.funcs[f]? = some fn) (hb : fn.body = some c) (hnt : fn.ntmps = N) (hcal : xY P f = true)
    (hN : Nat.ble xs.length N = true) (hH : x_ N H = true) (hH' : x_ 0 H' = true) (hs : xs.all SV.slotty = true) (hrs : rs.all SV.slotty = true)
    (h : ∀ w0 I0 G0 E, AW ⟨P, w0, I0, E, N, 100000, G0, Γ, [], none⟩ c (paramsS 0 xs H) (PostM P fn rs H')) : MCall P Γ f xs H (resM rs) H' := by
  refine ⟨hcal, fun w G args hpre => ?_⟩
  refine calls_of_wp hf hb ?_
  rw [hnt]
  have S0 := start_simM (P := P) (K := 100000) hpre (Nat.le_of_ble_eq_true hN) hH hs
  refine wp_mono ((wpIn_wide (n := 0)).1 (h w G.I G (HOwn G H) _ w S0 0)) ?_
  rintro e a' w' ⟨st', q, G', S⟩
  have fin : retAllM P st' fn.results.toList rs ∧ sub st' H' → a'.defers = [] ∧ ∃ v, (results fn a'.tmps).run P w' = .ok v w' ∧ MPost w G 100000 H (resM rs) H' (.returned v) w' := by
    rintro ⟨q, hsub⟩
    refine ⟨S.dfs, ?_⟩
    obtain ⟨vs, h1, h2⟩ := ret_runM S _ _ q
    have hrun : (results fn a'.tmps).run P w' = .ok (if h : vs.length = 1 then vs[0] else .tuple (List.toArray vs)) w' := by
      have e : results fn a'.tmps = (do let vs ← fn.results.mapM (rvSem a'.tmps); pure (if h : vs.size = 1 then vs[0] else .tuple vs)) := by
        unfold results
        congr 1
      rw [e, Array.mapM_eq_mapM_toList]
      simp only [Sem.run_bind, Sem.run_map, h1, Result.andThen_ok, Sem.run_pure]
      simp
    have hlen := valSs_len h2
    have hdead : ∀ k, look H' k = .dead ∨ (look H' k = look st' k ∧ (look H' k).res = true) := by
      intro k
      rcases xo hsub k with e | e
      · exact .inl e
      · rcases xm hH' k with e' | ⟨e', _⟩
        · exact .inl e'
        · exact .inr ⟨e, e'⟩
    refine ⟨_, hrun, _, G', rfl, S.os, S.tape, S.output, S.size, S.block, S.sub, S.new, S.val, S.rel, fun k => ?_, fun k j b hkj k1 k2 => ?_, ?_⟩
    · rcases hdead k with e | ⟨e, hr⟩
      · rw [e]; simp only [Holds]
      · have := S.holds k
        rw [← e] at this
        exact this.reown hr (fun b _ _ h => h)
    · rcases hdead k with e | ⟨e, _⟩
      · rw [e] at k1; simp only [zR] at k1
      · rcases hdead j with e' | ⟨e', _⟩
        · rw [e'] at k2; simp only [zR] at k2
        · rw [e] at k1; rw [e'] at k2; exact S.apart k j b hkj k1 k2
    · match rs, h2, hrs with
      | [], h2, _ =>
        simp only [yx] at h2; subst h2
        simp only [resM, yO]
        exact ⟨[], rfl, rfl⟩
      | [r], h2, hrs =>
        obtain ⟨v, q', rfl, h3, rfl⟩ := h2
        simp only [resM]
        exact xl (by simpa using hrs) (by simpa using h3)
      | r :: s :: rs, h2, _ =>
        have : ¬ vs.length = 1 := by simp at hlen; omega
        rw [dif_neg this]
        simp only [resM, yO]
        exact ⟨vs, rfl, h2⟩
  cases e <;> first | exact fin q | exact q.elim
def argsOk (σ : List (Nat × Nat)) : List SV → List SV → Prop
  | [], [] => True
  | a :: as, x :: xs => (a = x.ren σ ∨ ∃ y, toAV a = some y ∧ x = .imm y) ∧ argsOk σ as xs
  | _, _ => False
theorem argsOk_spec {w : World} {G : Gh} {σ : List (Nat × Nat)} : ∀ {as xs : List SV} {vs : List Value}, argsOk σ as xs → yx w G as vs → yx w (G.at (ren σ)) xs vs
  | [], [], _, _, r => r
  | a :: as, x :: xs, vs, ⟨h1, h2⟩, ⟨v, r, e, h3, h4⟩ => by
    refine ⟨v, r, e, ?_, argsOk_spec h2 h4⟩
    rcases h1 with rfl | ⟨y, hy, rfl⟩
    · exact xv.1 h3
    · obtain ⟨c, k1, k2⟩ := h3
      exact zm.2 ⟨c, xc (G := G) a y c hy k1, by rw [k2, mkS, mkV, toAV_agg hy]⟩
  | [], _ :: _, _, h, _ => h.elim
  | _ :: _, [], _, h, _ => h.elim
def opSl (A : Nat → SV) (xs : List Operand) : List SV := xs.map (opS A)
theorem opSl_congr {A A' : Nat → SV} : ∀ {xs : List Operand}, (∀ k ∈ opRs xs, A' k = A k) → opSl A' xs = opSl A xs
  | [], _ => rfl
  | x :: xs, h => by
    simp only [opSl, List.map_cons]
    rw [zt (fun k hk => h k (List.mem_append_left _ hk))]
    have := opSl_congr (A := A) (A' := A') (xs := xs) (fun k hk => h k (List.mem_append_right _ hk))
    simp only [opSl] at this
    rw [this]
theorem SimG.opSl {C : Cx} {A : Nat → SV} {G : Gh} {a : Act} {w : World} (S : SimG C A G a w) : ∀ {xs : List Operand}, (Al.opSl A xs).all SV.slotty = true → yx w G (Al.opSl A xs) (xs.map a.eval)
  | [], _ => rfl
  | x :: xs, h => by
    simp only [Al.opSl, List.map_cons, List.all_cons, Bool.and_eq_true] at h
    exact ⟨_, _, rfl, vI h.1 (S.opS rfl (SV.slotty_res h.1)), SimG.opSl S h.2⟩
theorem valSs_append {w : World} {G : Gh} : ∀ {xs ys : List SV} {us vs : List Value}, yx w G xs us → yx w G ys vs → yx w G (xs ++ ys) (us ++ vs)
  | [], _, _, _, h1, h2 => by simp only [yx] at h1; subst h1; exact h2
  | x :: xs, ys, us, vs, ⟨v, r, e, h3, h4⟩, h2 => by subst e; exact ⟨v, _, rfl, h3, valSs_append h4 h2⟩
theorem repSv_val {w : World} {G : Gh} : ∀ {xs : List SV} {vs : List Value}, xK w G xs vs → yx w G xs vs
  | [], _, h => by simpa only [xK, yx] using h
  | x :: xs, vs, h => by
    simp only [xK] at h
    obtain ⟨c, r, h1, h2, h3⟩ := h
    exact ⟨_, r, h1, ⟨c, h2, rfl⟩, repSv_val h3⟩
def cod (σ : List (Nat × Nat)) : List Nat := σ.map (·.2)
def dom (σ : List (Nat × Nat)) : List Nat := σ.map (·.1)
def yj : List Nat → Bool
  | [] => true
  | x :: xs => !(xs.elem x) && yj xs
theorem ren_mem {σ : List (Nat × Nat)} : ∀ {k : Nat}, k ∈ dom σ → ren σ k ∈ cod σ := by
  induction σ with
  | nil => intro k h; cases h
  | cons p r ih =>
    intro k h
    obtain ⟨f, a⟩ := p
    simp only [ren]
    cases hb : Nat.beq f k
    · simp only [dom, List.map_cons, List.mem_cons] at h
      rcases h with h | h
      · subst h; rw [Nat.beq_refl] at hb; cases hb
      · exact List.mem_cons_of_mem _ (ih h)
    · exact List.mem_cons_self
theorem ren_inj {σ : List (Nat × Nat)} (hc : yj (cod σ) = true) : ∀ {j k : Nat}, j ∈ dom σ → k ∈ dom σ → ren σ j = ren σ k → j = k := by
  induction σ with
  | nil => intro j k h; cases h
  | cons p r ih =>
    intro j k hj hk h
    obtain ⟨f, a⟩ := p
    simp only [cod, List.map_cons, yj, Bool.and_eq_true, Bool.not_eq_true'] at hc
    have hne : ∀ i, i ∈ dom r → ren r i ≠ a := by
      intro i hi e
      have := ren_mem hi
      rw [e] at this
      have h2 : (List.map (fun x => x.2) r).elem a = true := List.elem_eq_true_of_mem this
      rw [h2] at hc
      exact absurd hc.1 (by simp)
    have hmem : ∀ i, i ∈ dom ((f, a) :: r) → Nat.beq f i = false → i ∈ dom r := by
      intro i hi hb
      simp only [dom, List.map_cons, List.mem_cons] at hi
      rcases hi with rfl | hi
      · rw [Nat.beq_refl] at hb; cases hb
      · exact hi
    simp only [ren] at h
    cases hbj : Nat.beq f j <;> cases hbk : Nat.beq f k <;> rw [hbj, hbk] at h <;> simp only [cond_true, cond_false] at h
    · exact ih hc.2 (hmem j hj hbj) (hmem k hk hbk) h
    · exact absurd h (hne j (hmem j hj hbj))
    · exact absurd h.symm (hne k (hmem k hk hbk))
    · rw [← Nat.eq_of_beq_eq_true hbj, ← Nat.eq_of_beq_eq_true hbk]
theorem ren_surj {σ : List (Nat × Nat)} (hd : yj (dom σ) = true) : ∀ {g : Nat}, g ∈ cod σ → ∃ k, k ∈ dom σ ∧ ren σ k = g := by
  induction σ with
  | nil => intro g h; cases h
  | cons p r ih =>
    intro g h
    obtain ⟨f, a⟩ := p
    simp only [dom, List.map_cons, yj, Bool.and_eq_true, Bool.not_eq_true'] at hd
    simp only [cod, List.map_cons, List.mem_cons] at h
    rcases h with rfl | h
    · exact ⟨f, List.mem_cons_self, by simp [ren, Nat.beq_refl]⟩
    · obtain ⟨k, h1, h2⟩ := ih hd.2 h
      refine ⟨k, List.mem_cons_of_mem _ h1, ?_⟩
      have : f ≠ k := by
        rintro rfl
        have h3 : (List.map (fun x => x.1) r).elem f = true := List.elem_eq_true_of_mem h1
        rw [h3] at hd
        exact absurd hd.1 (by simp)
      simp only [ren, zL this, cond_false]; exact h2
def wg (σ : List (Nat × Nat)) (H' : St) : St := σ.map fun p => (p.2, (look H' p.1).ren σ)
theorem postOf_has {σ : List (Nat × Nat)} {H' : St} {g : Nat} : has (wg σ H') g = true ↔ g ∈ cod σ := by
  rw [wW]
  simp only [xL, wg, cod, List.map_map]
  exact Iff.rfl
theorem postOf_look {σ : List (Nat × Nat)} {H' : St} (hd : yj (dom σ) = true) (hc : yj (cod σ) = true) (A : Nat → SV) {k : Nat} (hk : k ∈ dom σ) : upd A (wg σ H') (ren σ k) = (look H' k).ren σ := by
  have key : ∀ (τ : List (Nat × Nat)), (∀ p ∈ τ, ren σ p.1 = p.2 ∧ p.1 ∈ dom σ) → k ∈ dom τ → upd A (τ.map fun p => (p.2, (look H' p.1).ren σ)) (ren σ k) = (look H' k).ren σ := by
    intro τ
    induction τ with
    | nil => intro _ h; cases h
    | cons p r ih =>
      intro hp hk'
      obtain ⟨f, a⟩ := p
      obtain ⟨h1, h2⟩ := hp (f, a) List.mem_cons_self
      simp only at h1 h2
      simp only [List.map_cons, upd]
      by_cases hfk : f = k
      · subst hfk; rw [h1, Nat.beq_refl]; rfl
      · have : a ≠ ren σ k := by
          intro e; rw [← h1] at e; exact hfk (ren_inj hc h2 hk e)
        rw [zL this]
        simp only [cond_false]
        refine ih (fun p hp' => hp p (List.mem_cons_of_mem _ hp')) ?_
        simp only [dom, List.map_cons, List.mem_cons] at hk'
        rcases hk' with e | h
        · exact absurd e.symm hfk
        · exact h
  refine key σ ?_ hk
  have aux : ∀ (τ : List (Nat × Nat)), yj (dom τ) = true → ∀ p ∈ τ, ren τ p.1 = p.2 := by
    intro τ
    induction τ with
    | nil => intro _ p h; cases h
    | cons q r ih =>
      intro h p hp
      obtain ⟨f, a⟩ := q
      simp only [dom, List.map_cons, yj, Bool.and_eq_true, Bool.not_eq_true'] at h
      rcases List.mem_cons.1 hp with rfl | hp'
      · simp [ren, Nat.beq_refl]
      · have hne : f ≠ p.1 := by
          rintro rfl
          have h3 : (List.map (fun x => x.1) r).elem p.1 = true := List.elem_eq_true_of_mem (List.mem_map_of_mem hp')
          rw [h3] at h
          exact absurd h.1 (by simp)
        simp only [ren, zL hne, cond_false]
        exact ih h.2 p hp'
  exact fun p hp => ⟨aux σ hd p hp, List.mem_map_of_mem hp⟩
def newOf (σ : List (Nat × Nat)) : List Nat := (σ.filter fun p => Nat.blt p.1 100000).map (·.2)
def hasAll (A : Nat → SV) (σ : List (Nat × Nat)) : St → Prop
  | [] => True
  | (k, x) :: r => A (ren σ k) = x.ren σ ∧ hasAll A σ r
def within (σ : List (Nat × Nat)) (l : List Nat) : Bool := l.all fun g => (dom σ).elem g
theorem hasAll_spec {A : Nat → SV} {σ : List (Nat × Nat)} : ∀ {H : St}, hasAll A σ H → ∀ k, look H k = .dead ∨ (A (ren σ k) = (look H k).ren σ ∧ k ∈ xL H)
  | [], _, k => .inl rfl
  | (j, x) :: r, ⟨h1, h2⟩, k => by
    simp only [look, upd]
    cases hb : Nat.beq j k
    · rcases hasAll_spec h2 k with e | ⟨e, e2⟩
      · exact .inl e
      · exact .inr ⟨e, by simp only [xL, List.map_cons]; exact List.mem_cons_of_mem _ e2⟩
    · have := Nat.eq_of_beq_eq_true hb
      subst this
      exact .inr ⟨h1, List.mem_cons_self⟩
theorem hasAll_congr {A A' : Nat → SV} {σ : List (Nat × Nat)} (h : ∀ g ∈ cod σ, A' g = A g) : ∀ {H : St}, (∀ k ∈ xL H, k ∈ dom σ) → hasAll A σ H → hasAll A' σ H
  | [], _, _ => trivial
  | (j, x) :: r, hk, ⟨h1, h2⟩ => ⟨(h _ (ren_mem (hk j List.mem_cons_self))).trans h1, hasAll_congr h (fun k hk' => hk k (List.mem_cons_of_mem _ hk')) h2⟩
def inv : List (Nat × Nat) → Nat → Option Nat
  | [], _ => none
  | (f, a) :: r, g => bif Nat.beq a g then some f else inv r g
theorem inv_ren {σ : List (Nat × Nat)} (hd : yj (dom σ) = true) (hc : yj (cod σ) = true) {k : Nat} (hk : k ∈ dom σ) : inv σ (ren σ k) = some k := by
  have key : ∀ (τ : List (Nat × Nat)), (∀ p ∈ τ, ren σ p.1 = p.2 ∧ p.1 ∈ dom σ) → k ∈ dom τ → inv τ (ren σ k) = some k := by
    intro τ
    induction τ with
    | nil => intro _ h; cases h
    | cons p r ih =>
      intro hp hk'
      obtain ⟨f, a⟩ := p
      obtain ⟨h1, h2⟩ := hp (f, a) List.mem_cons_self
      simp only at h1 h2
      simp only [inv]
      by_cases hfk : f = k
      · subst hfk; rw [h1, Nat.beq_refl]; rfl
      · have : a ≠ ren σ k := by
          intro e; rw [← h1] at e; exact hfk (ren_inj hc h2 hk e)
        rw [zL this]
        simp only [cond_false]
        refine ih (fun p hp' => hp p (List.mem_cons_of_mem _ hp')) ?_
        simp only [dom, List.map_cons, List.mem_cons] at hk'
        rcases hk' with e | h
        · exact absurd e.symm hfk
        · exact h
  refine key σ ?_ hk
  have aux : ∀ (τ : List (Nat × Nat)), yj (dom τ) = true → ∀ p ∈ τ, ren τ p.1 = p.2 := by
    intro τ
    induction τ with
    | nil => intro _ p h; cases h
    | cons q r ih =>
      intro h p hp
      obtain ⟨f, a⟩ := q
      simp only [dom, List.map_cons, yj, Bool.and_eq_true, Bool.not_eq_true'] at h
      rcases List.mem_cons.1 hp with rfl | hp'
      · simp [ren, Nat.beq_refl]
      · have hne : f ≠ p.1 := by
          rintro rfl
          have h3 : (List.map (fun x => x.1) r).elem p.1 = true := List.elem_eq_true_of_mem (List.mem_map_of_mem hp')
          rw [h3] at h
          exact absurd h.1 (by simp)
        simp only [ren, zL hne, cond_false]
        exact ih h.2 p hp'
  exact fun p hp => ⟨aux σ hd p hp, List.mem_map_of_mem hp⟩
theorem inv_none {σ : List (Nat × Nat)} : ∀ {g : Nat}, g ∉ cod σ → inv σ g = none := by
  induction σ with
  | nil => intro g _; rfl
  | cons p r ih =>
    intro g h
    obtain ⟨f, a⟩ := p
    simp only [cod, List.map_cons, List.mem_cons, not_or] at h
    simp only [inv, zL (Ne.symm h.1), cond_false]
    exact ih h.2
def xg (G G' : Gh) (σ : List (Nat × Nat)) : Gh :=
  ⟨G'.I, fun g => match inv σ g with | some k => G'.blk k | none => G.blk g, fun g => match inv σ g with | some k => G'.cur k | none => G.cur g, fun g => match inv σ g with | some k => G'.len k | none => G.len g⟩
def renOk (N K : Nat) (σ : List (Nat × Nat)) (H H' : St) (r : SV) : Bool :=
  yj (dom σ) && yj (cod σ) && within σ (xL H) && within σ (xL H') && within σ (y7 H') && within σ (xE r) && (cod σ).all (Nat.ble N ·) && (newOf σ).all (Nat.blt · K) && (xL H).all (fun k => Nat.ble 100000 k)
theorem xN {σ : List (Nat × Nat)} {l : List Nat} (h : within σ l = true) : ∀ g ∈ l, g ∈ dom σ := fun g hg => by
  have := List.all_eq_true.1 h g hg
  exact List.elem_iff.1 this
theorem ments_look : ∀ (H : St) (k : Nat), ∀ g ∈ xE (look H k), g ∈ y7 H
  | [], k, g, h => by simp [look, upd, xE] at h
  | (j, x) :: r, k, g, h => by
    simp only [look, upd] at h
    simp only [y7, List.mem_append]
    cases hb : Nat.beq j k <;> rw [hb] at h
    · exact .inr (ments_look r k g h)
    · exact .inl h
theorem SimG.mcalled {C : Cx} {A : Nat → SV} {G : Gh} {a : Act} {w w' : World} (S : SimG C A G a w) {σ : List (Nat × Nat)} {H H' : St} {r : SV} {v : Value} {G' : Gh}
    (hok : renOk C.N C.K σ H H' r = true) (hres : x_ 0 H = true) (hres' : x_ 0 H' = true) (hH : hasAll A σ H) (hF : ∀ k, k ∉ cod σ → noG (newOf σ) (A k) = true)
    (D : MDone w (G.at (ren σ)) 100000 H r H' w' v G') :
    SimG C (upd A (wg σ H')) (xg G G' σ) a w' ∧ yO w' (xg G G' σ) (r.ren σ) v := by
  simp only [renOk, Bool.and_eq_true] at hok
  obtain ⟨⟨⟨⟨⟨⟨⟨⟨hd, hc⟩, hkH⟩, hkH'⟩, hmH'⟩, hmr⟩, hcN⟩, hnK⟩, h105⟩ := hok
  have hkH := xN hkH
  have hkH' := xN hkH'
  have hmH' := xN hmH'
  have hmr := xN hmr
  -- the merged ghosts, by formal names
  have hat : ∀ k ∈ dom σ, (xg G G' σ).blk (ren σ k) = G'.blk k ∧ (xg G G' σ).cur (ren σ k) = G'.cur k ∧ (xg G G' σ).len (ren σ k) = G'.len k := by
    intro k hk
    simp only [xg, inv_ren hd hc hk]; exact ⟨trivial, trivial, trivial⟩
  have hoff : ∀ g, g ∉ cod σ → (xg G G' σ).blk g = G.blk g ∧ (xg G G' σ).cur g = G.cur g ∧ (xg G G' σ).len g = G.len g := by
    intro g hg
    simp only [xg, inv_none hg]; exact ⟨trivial, trivial, trivial⟩
  have hag : ∀ l : List Nat, (∀ g ∈ l, g ∈ dom σ) → Agree l G' ((xg G G' σ).at (ren σ)) := fun l hl g hg => by
    obtain ⟨e1, e2, e3⟩ := hat g (hl g hg)
    exact ⟨e1, e2, e3⟩
  have hIe : ((xg G G' σ).at (ren σ)).I = G'.I := rfl
  -- what is owned by the handed-over memory
  have hown : ∀ b, HOwn (G.at (ren σ)) H b → ∃ k, k ∈ dom σ ∧ zR G (ren σ k) b (A (ren σ k)) := by
    rintro b ⟨k, hb⟩
    rcases hasAll_spec hH k with e | ⟨e, hk⟩
    · rw [e] at hb; simp only [zR] at hb
    · exact ⟨k, hkH k hk, by rw [e]; exact ownsB_ren.2 hb⟩
  have hownE : ∀ b, HOwn (G.at (ren σ)) H b → C.w0.heap.size ≤ b ∨ C.E b := by
    intro b hb
    obtain ⟨k, _, h⟩ := hown b hb
    exact ((S.holds _).owned h).1
  -- how the ghosts turn
  have hturn : ∀ g, g ∉ newOf σ → Turns G (xg G G' σ) g := by
    intro g hg
    by_cases hgc : g ∈ cod σ
    · obtain ⟨k, hk, rfl⟩ := ren_surj hd hgc
      have hk5 : 100000 ≤ k := by
        rcases Nat.lt_or_ge k 100000 with h | h
        · refine absurd ?_ hg
          have aux : ∀ (τ : List (Nat × Nat)), k ∈ dom τ → ren τ k ∈ newOf τ := by
            intro τ
            induction τ with
            | nil => intro h; cases h
            | cons p r ih =>
              intro hk'
              obtain ⟨f, a⟩ := p
              simp only [ren]
              cases hb : Nat.beq f k
              · simp only [dom, List.map_cons, List.mem_cons] at hk'
                rcases hk' with e | e
                · subst e; rw [Nat.beq_refl] at hb; cases hb
                · have := ih e
                  simp only [cond_false]
                  simp only [newOf, List.filter_cons] at this ⊢
                  split
                  · exact List.mem_cons_of_mem _ this
                  · exact this
              · have := Nat.eq_of_beq_eq_true hb
                subst this
                simp only [cond_true, newOf, List.filter_cons]
                rw [if_pos (by simpa [Nat.blt_eq] using h)]
                exact List.mem_cons_self
          exact aux σ hk
        · exact h
      obtain ⟨e1, e2, e3⟩ := hat k hk
      have := D.rel k hk5
      refine ⟨by rw [e1]; exact this.1, ?_⟩
      rw [e2, e3]; exact this.2
    · obtain ⟨e1, e2, e3⟩ := hoff g hgc
      exact ⟨e1, .inl ⟨e2, e3⟩⟩
  have hrel : GRel (newOf σ) G (xg G G' σ) := fun g hg => hturn g hg
  have hle : Le w G.I w' (xg G G' σ).I := D.le
  have hnK' : ∀ g ∈ newOf σ, g < C.K := fun g hg => by simpa [Nat.blt_eq] using List.all_eq_true.1 hnK g hg
  -- the states of keys
  have hin : ∀ k ∈ dom σ, upd A (wg σ H') (ren σ k) = (look H' k).ren σ := fun k hk => postOf_look hd hc A hk
  have hout : ∀ g, g ∉ cod σ → upd A (wg σ H') g = A g := fun g hg => y5 _ _ _ (by
    cases hh : has (wg σ H') g
    · rfl
    · exact absurd (postOf_has.1 hh) hg)
  have howned' : ∀ k b, zR G' k b (look H' k) → (w.heap.size ≤ b ∨ HOwn (G.at (ren σ)) H b) ∧ b < w'.heap.size := fun k b hb => (D.holds k).owned hb
  -- who owns what, behind it
  have conv : ∀ g b, zR (xg G G' σ) g b (upd A (wg σ H') g) → (∃ k, k ∈ dom σ ∧ g = ren σ k ∧ zR G' k b (look H' k)) ∨ (g ∉ cod σ ∧ zR G g b (A g)) := by
    intro g b hb
    by_cases hgc : g ∈ cod σ
    · obtain ⟨k, hk, rfl⟩ := ren_surj hd hgc
      rw [hin k hk] at hb
      have := ownsB_ren.1 hb
      obtain ⟨e1, e2, e3⟩ := hat k hk
      exact .inl ⟨k, hk, rfl, (ownsB_agree (G1 := G') (G2 := (xg G G' σ).at (ren σ)) ⟨e1, e2, e3⟩).1 this⟩
    · rw [hout g hgc] at hb
      obtain ⟨e1, e2, e3⟩ := hoff g hgc
      exact .inr ⟨hgc, (ownsB_agree ⟨e1, e2, e3⟩).1 hb⟩
  have hsep : ∀ g b, g ∉ cod σ → zR G g b (A g) → b < w.heap.size ∧ ¬ HOwn (G.at (ren σ)) H b := by
    intro g b hg hb
    refine ⟨xu S hb, fun h => ?_⟩
    obtain ⟨k, hk, hkb⟩ := hown b h
    exact S.apart (ren σ k) g b (by rintro rfl; exact hg (ren_mem hk)) hkb hb
  refine ⟨⟨D.os.trans S.os, D.tape.trans S.tape, D.output.trans S.output, Nat.le_trans S.size D.size, fun k h1 h2 => ?_, S.sub.trans hle, fun g hg => ?_, S.glob.mono hle, fun b o h => ?_, D.val, S.nts, S.dfs, fun g => ?_, fun g j b hgj h1 h2 => ?_⟩, ?_⟩
  · rw [D.block k (Nat.lt_of_lt_of_le h1 S.size) (fun h => by
      rcases hownE k h with h | h
      · omega
      · exact h2 h)]
    exact S.block k h1 h2
  · exact (S.rel g hg).trans (hturn g (fun h => by have := hnK' g h; omega))
  · rcases D.new b o h with h | h | h
    · exact S.new b o h
    · exact .inr (.inl (Nat.le_trans S.size h))
    · exact .inr (hownE b h)
  · by_cases hgc : g ∈ cod σ
    · obtain ⟨k, hk, rfl⟩ := ren_surj hd hgc
      rw [hin k hk]
      rcases xm hres' k with e | ⟨e, _⟩
      · rw [e]; simp only [SV.ren, Holds]
      · refine (holds_ren e).2 ?_
        have h1 := D.holds k
        have h2 : Holds w (HOwn (G.at (ren σ)) H) ((xg G G' σ).at (ren σ)) act0 w' k (look H' k) := h1.agree hIe e (hag _ (fun g hg => by
          rcases List.mem_cons.1 hg with rfl | hg
          · exact hk
          · exact hmH' g (ments_look H' k g hg)))
        refine h2.reown e fun b hb _ ho => ?_
        rcases ho with ho | ho
        · exact .inl (Nat.le_trans S.size ho)
        · exact hownE b ho
    · rw [hout g hgc]
      refine (S.holds g).keep hle hrel (hF g hgc) D.size (fun h => ⟨h, rfl⟩) (fun _ => hoff g hgc) (fun b hb => ?_)
      obtain ⟨h1, h2⟩ := hsep g b hgc hb
      refine ⟨D.block b h1 h2, fun o hi => ?_⟩
      rcases D.new b o hi with h | h | h
      · exact h
      · omega
      · exact absurd h h2
  · rcases conv g b h1 with ⟨k, hk, rfl, e1⟩ | ⟨hg, e1⟩
    · rcases conv j b h2 with ⟨k', hk', rfl, e2⟩ | ⟨hj, e2⟩
      · exact D.apart k k' b (by rintro rfl; exact hgj rfl) e1 e2
      · obtain ⟨h3, h4⟩ := hsep j b hj e2
        rcases (howned' k b e1).1 with h | h
        · omega
        · exact h4 h
    · rcases conv j b h2 with ⟨k', hk', rfl, e2⟩ | ⟨hj, e2⟩
      · obtain ⟨h3, h4⟩ := hsep g b hg e1
        rcases (howned' k' b e2).1 with h | h
        · omega
        · exact h4 h
      · exact S.apart g j b hgj e1 e2
  · exact slotS_ren.2 (D.res.agree hIe (hag _ hmr))
theorem SimG.mpre {C : Cx} {A : Nat → SV} {G : Gh} {a : Act} {w : World} (S : SimG C A G a w) {σ : List (Nat × Nat)} {H : St} {as xs : List SV} {vs : List Value} (hres : x_ 0 H = true) (hc : yj (cod σ) = true) (hkH : ∀ k ∈ xL H, k ∈ dom σ)
    (hH : hasAll A σ H) (hv : yx w G as vs) (ha : argsOk σ as xs) : MPre C.Γ w (G.at (ren σ)) xs H vs := by
  refine ⟨S.val, S.glob, argsOk_spec ha hv, fun k => ?_, fun k j b hkj h1 h2 => ?_⟩
  · rcases hasAll_spec hH k with e | ⟨e, hk⟩
    · rw [e]; simp only [Holds]
    · rcases xm hres k with e' | ⟨e', _⟩
      · rw [e']; simp only [Holds]
      · have h := S.holds (ren σ k)
        rw [e] at h
        exact ((holds_ren e').1 h).reown e' fun b hb _ _ => .inr ⟨k, hb⟩
  · have conv : ∀ k, zR (G.at (ren σ)) k b (look H k) → k ∈ dom σ ∧ zR G (ren σ k) b (A (ren σ k)) := by
      intro k hb
      rcases hasAll_spec hH k with e | ⟨e, hk⟩
      · rw [e] at hb; simp only [zR] at hb
      · exact ⟨hkH k hk, by rw [e]; exact ownsB_ren.2 hb⟩
    obtain ⟨e1, e2⟩ := conv k h1
    obtain ⟨e3, e4⟩ := conv j h2
    exact S.apart _ _ b (fun e => hkj (ren_inj hc e1 e3 e)) e2 e4
section
variable {C : Cx} {A : Nat → SV} {d : Nat} {ty : TypeId} {pos : String} {af : Array Edge} {gd : Option (Nat × Bool)} {x y : Operand} {T T' : TypeId}
def fnOf : SV → Option (FuncId × List SV × List SV)
  | .fnv (.func f) a b => some (f, a, b)
  | .imm (.fn (.func f) a b) => some (f, a.map .imm, b.map .imm)
  | _ => none
theorem repVs_valSs {w : World} {G : Gh} : ∀ {xs : List AV} {vs : List Value}, zg w G.I xs vs → yx w G (xs.map .imm) vs
  | [], _, h => by simpa only [zg, List.map_nil, yx] using h
  | x :: xs, vs, h => by
    simp only [zg] at h
    obtain ⟨c, r, h1, h2, h3⟩ := h
    exact ⟨_, r, h1, zm.2 ⟨c, h2, rfl⟩, repVs_valSs h3⟩
theorem fnOf_spec {w : World} {G : Gh} {x : SV} {f : FuncId} {first caps : List SV} {v : Value} (h : fnOf x = some (f, first, caps)) (hx : yO w G x v) :
    ∃ fs gs, v = .func (.func f) (List.toArray fs) (List.toArray gs) ∧ yx w G first fs ∧ yx w G caps gs := by
  unfold fnOf at h
  split at h
  · cases h
    obtain ⟨c, h1, h2⟩ := hx
    simp only [RepS] at h1
    obtain ⟨fs, gs, rfl, h3, h4⟩ := h1
    exact ⟨fs, gs, h2, repSv_val h3, repSv_val h4⟩
  · cases h
    obtain ⟨c, h1, h2⟩ := zm.1 hx
    simp only [RepC] at h1
    obtain ⟨fs, gs, rfl, h3, h4⟩ := h1
    exact ⟨fs, gs, h2, repVs_valSs h3, repVs_valSs h4⟩
  · cases h
theorem fnOf_res {x : SV} {p : FuncId × List SV × List SV} (h : fnOf x = some p) : x.res = false := by
  cases x <;> first | rfl | cases h
def dstPost (d : Option Nat) (r : SV) : St := match d with | some d => [(d, r)] | none => []
def dstOk (N : Nat) (d : Option Nat) (r : SV) : Bool := match d with | some d => Nat.blt d N | none => true
theorem s_mcallv {d : Option Nat} {f : FuncId} {cal : Operand} {args : Array Operand} {ats : Array TypeId} {first caps xs : List SV} {H H' : St} {r : SV} (σ : List (Nat × Nat)) (hc : MCall C.P C.Γ f xs H r H') (hN : dstOk C.N d (r.ren σ) = true)
    (hf : fnOf (opS A cal) = some (f, first, caps)) (hsl : (opSl A args.toList).all SV.slotty = true) (ha : argsOk σ (first ++ opSl A args.toList ++ caps) xs) (hH : hasAll A σ H)
    (hok : renOk C.N C.K σ H H' r = true) (hres : x_ 0 H = true) (hres' : x_ 0 H' = true) :
    zZ C ⟨d, .call { callee := .value cal, args := args, argTypes := ats }, ty, pos, af, gd⟩ (cod σ ++ (opR cal ++ opRs args.toList)) (newOf σ) A (dstPost d (r.ren σ) ++ wg σ H') := by
  intro A' a w hR hF ⟨G, S⟩
  have hok0 := hok
  simp only [renOk, Bool.and_eq_true] at hok0
  obtain ⟨⟨⟨⟨⟨⟨⟨⟨hd, hcd⟩, hkH⟩, hkH'⟩, _⟩, _⟩, hcN⟩, _⟩, _⟩ := hok0
  rw [← zt (fun k hk => hR k (List.mem_append_right _ (List.mem_append_left _ hk)))] at hf
  have eS := opSl_congr (A := A) (A' := A') (xs := args.toList) (fun k hk => hR k (List.mem_append_right _ (List.mem_append_right _ hk)))
  rw [← eS] at hsl ha
  have hH' := hasAll_congr (A := A) (A' := A') (fun g hg => hR g (List.mem_append_left _ hg)) (xN hkH) hH
  have hSc := S.opS rfl (fnOf_res hf)
  obtain ⟨fs, gs, hev, h3, h4⟩ := fnOf_spec hf hSc
  have hargs := S.opSl hsl
  have hvals := valSs_append (valSs_append h3 hargs) h4
  have hpre := S.mpre hres hcd (xN hkH) hH' hvals ha
  have hcall := hc.2 w _ _ hpre
  have hrun : (execOp a.eval ⟨d, .call { callee := .value cal, args := args, argTypes := ats }, ty, pos, af, gd⟩).run C.P w = .ok (.enter f (List.toArray (fs ++ args.toList.map a.eval ++ gs))) w := by
    simp only [execOp, resolve, hev, Deferred.ofValue, Sem.run_bind, Sem.run_pure, Result.andThen_ok, invoke, run_callFunc hc.1]
    congr 1
    simp
  unfold Oper.wp
  rw [hrun, Oper.upon_enter]
  refine hcall.mono ?_
  rintro e w' ⟨v, G', rfl, D⟩
  have hF' : ∀ k, k ∉ cod σ → noG (newOf σ) (A' k) = true ∨ d = some k := by
    intro k hk
    by_cases hdk : d = some k
    · exact .inr hdk
    · refine .inl (hF k ?_)
      cases hh : has (dstPost d (r.ren σ) ++ wg σ H') k
      · rfl
      · exfalso
        have h1 := (wW _ _).1 hh
        simp only [xL, List.map_append, List.mem_append] at h1
        rcases h1 with h1 | h1
        · cases d with
          | none => simp [dstPost] at h1
          | some d => simp [dstPost] at h1; exact hdk (by rw [h1])
        · exact hk (postOf_has.1 ((wW _ _).2 h1))
  cases d with
  | none =>
    obtain ⟨S', _⟩ := S.mcalled hok hres hres' hH' (fun k hk => (hF' k hk).resolve_right (by simp)) D
    exact ⟨_, by simpa [dstPost, Act.put] using S'⟩
  | some d =>
    have hdN : d < C.N := by simpa [dstOk, Nat.blt_eq] using hN
    have hdc : d ∉ cod σ := fun h => by
      have := Nat.le_of_ble_eq_true (List.all_eq_true.1 hcN d h)
      omega
    -- what stood in the slot of the result matters no more
    have Sw := S.weak (B := upd A' [(d, .dead)]) (fun k => by
      rw [xB]
      split
      · exact .inl rfl
      · exact .inr rfl)
    have hHw : hasAll (upd A' [(d, .dead)]) σ H := hasAll_congr (A := A') (fun g hg => by
      rw [xB, if_neg (by rintro rfl; exact hdc hg)]) (xN hkH) hH'
    obtain ⟨S', hv⟩ := Sw.mcalled hok hres hres' hHw (fun k hk => by
      rw [xB]
      split
      · rfl
      · rename_i hkd
        exact (hF' k hk).resolve_right (fun e => hkd (by cases e; rfl))) D
    have S2 := S'.put hdN hv
    have e : upd (upd (upd A' [(d, .dead)]) (wg σ H')) [(d, r.ren σ)] = upd A' (dstPost (some d) (r.ren σ) ++ wg σ H') := by
      funext k
      rw [xB]
      simp only [dstPost, List.cons_append, List.nil_append, upd]
      by_cases hkd : k = d
      · subst hkd; simp [Nat.beq_refl]
      · rw [if_neg hkd, zL (Ne.symm hkd)]
        simp only [cond_false]
        cases hh : has (wg σ H') k
        · rw [y5 _ _ _ hh, y5 _ _ _ hh]
          first | (rw [xB, if_neg hkd]; done) | (rw [zL (Ne.symm hkd)]; rfl)
        · exact wx _ _ hh
    rw [e] at S2
    exact ⟨_, S2⟩
theorem s_mcall {d : Option Nat} {f : FuncId} {args : Array Operand} {ats : Array TypeId} {xs : List SV} {H H' : St} {r : SV} (σ : List (Nat × Nat)) (hc : MCall C.P C.Γ f xs H r H') (hN : dstOk C.N d (r.ren σ) = true)
    (hsl : (opSl A args.toList).all SV.slotty = true) (ha : argsOk σ (opSl A args.toList) xs) (hH : hasAll A σ H)
    (hok : renOk C.N C.K σ H H' r = true) (hres : x_ 0 H = true) (hres' : x_ 0 H' = true) :
    zZ C ⟨d, .call { callee := .value (.func f), args := args, argTypes := ats }, ty, pos, af, gd⟩ (cod σ ++ opRs args.toList) (newOf σ) A (dstPost d (r.ren σ) ++ wg σ H') := by
  have := s_mcallv (C := C) (A := A) (d := d) (ty := ty) (pos := pos) (af := af) (gd := gd) (cal := .func f) (ats := ats) (first := []) (caps := []) σ hc hN rfl hsl (by simpa using ha) hH hok hres hres'
  exact this
end
end Go.Al
namespace Go.Al
open Go.RowKit
mutual
def yl (g : Nat) (y : AV) : SV → SV
  | .ptr g' off => bif Nat.beq g' g && Nat.beq off 0 then .imm (.cp y) else .ptr g' off
  | .agg fs => .agg (yo g y fs)
  | .tup fs => .tup (yo g y fs)
  | .box T x => .box T (yl g y x)
  | .fnv f a b => match wF (yo g y a), wF (yo g y b) with
    | some p, some q => .imm (.fn f p q)
    | _, _ => .fnv f (yo g y a) (yo g y b)
  | .dead => .dead
  | .undef => .undef
  | .imm x => .imm x
  | .slg g n l => .slg g n l
  | .osl g o a b => .osl g o a b
  | .tok n l => .tok n l
  | .mref g => .mref g
  | .mpr a b => .mpr a b
  | .row l => .row l
  | .itr m n s => .itr m n s
  | .ifp T g' off => bif Nat.beq g' g && Nat.beq off 0 then .imm (.ifc T (.cp y)) else .ifp T g' off
  | .gen R => .gen R
def yo (g : Nat) (y : AV) : List SV → List SV
  | [] => []
  | x :: xs => yl g y x :: yo g y xs
end
theorem share_isAgg (g : Nat) (y : AV) (x : SV) : (yl g y x).isAgg = x.isAgg := by
  cases x <;> first | rfl | simp only [yl]
  case ptr g' off => cases Nat.beq g' g && Nat.beq off 0 <;> rfl
  case ifp T g' off => cases Nat.beq g' g && Nat.beq off 0 <;> rfl
  case fnv f a b => cases wF (yo g y a) <;> cases wF (yo g y b) <;> rfl
section
variable {w : World} {G : Gh} {g : Nat} {y : AV} {cs0 : List Value} (hy : RepC w G.I y cs0) (hc : yQ w G.I (G.blk g) 0 cs0)
include hy hc
mutual
theorem repS_share : ∀ (x : SV) (cs : List Value), RepS w G x cs → RepS w G (yl g y x) cs
  | .ptr g' off, cs, r => by
    simp only [yl]
    cases hb : Nat.beq g' g && Nat.beq off 0
    · exact r
    · simp only [Bool.and_eq_true] at hb
      have e1 := Nat.eq_of_beq_eq_true hb.1
      have e2 := Nat.eq_of_beq_eq_true hb.2
      subst e1; subst e2
      simp only [RepS] at r
      simp only [cond_true, RepS, RepC]
      exact ⟨_, _, cs0, r, hy, hc⟩
  | .agg fs, cs, r => by simp only [yl, RepS] at r ⊢; exact repSs_share fs cs r
  | .fnv f a b, cs, r => by
    simp only [RepS] at r
    obtain ⟨fs, gs, h1, h2, h3⟩ := r
    have k2 := repSv_share a fs h2
    have k3 := repSv_share b gs h3
    simp only [yl]
    split
    · rename_i p q hp hq
      simp only [RepS, RepC]
      exact ⟨fs, gs, h1, wu _ _ _ hp k2, wu _ _ _ hq k3⟩
    · simp only [RepS]; exact ⟨fs, gs, h1, k2, k3⟩
  | .imm x, cs, r => by simpa only [yl] using r
  | .slg g n l, cs, r => by simpa only [yl] using r
  | .osl g o a b, cs, r => by simpa only [yl] using r
  | .mref g, cs, r => by simpa only [yl] using r
  | .dead, _, r => by simp only [RepS] at r
  | .undef, _, r => by simp only [RepS] at r
  | .tup _, _, r => by simp only [RepS] at r
  | .box _ _, _, r => by simp only [RepS] at r
  | .tok _ _, _, r => by simp only [RepS] at r
  | .mpr _ _, _, r => by simp only [RepS] at r
  | .row _, _, r => by simp only [RepS] at r
  | .itr _ _ _, _, r => by simp only [RepS] at r
  | .gen _, _, r => by simp only [RepS] at r
  | .ifp T g' off, cs, r => by
    simp only [yl]
    cases hb : Nat.beq g' g && Nat.beq off 0
    · exact r
    · simp only [Bool.and_eq_true] at hb
      have e1 := Nat.eq_of_beq_eq_true hb.1
      have e2 := Nat.eq_of_beq_eq_true hb.2
      subst e1; subst e2
      simp only [RepS] at r
      simp only [cond_true, RepS, RepC]
      exact ⟨[.pointer (some ⟨G.blk g', 0, none⟩)], r, _, _, cs0, rfl, hy, hc⟩
theorem repSs_share : ∀ (xs : List SV) (cs : List Value), yX w G xs cs → yX w G (yo g y xs) cs
  | [], cs, r => by have _ := hy; have _ := hc; simpa only [yo] using r
  | x :: xs, cs, r => by
    simp only [yo, yX] at r ⊢
    obtain ⟨c1, c2, h1, h2, h3⟩ := r
    exact ⟨c1, c2, h1, repS_share x c1 h2, repSs_share xs c2 h3⟩
theorem repSv_share : ∀ (xs : List SV) (cs : List Value), xK w G xs cs → xK w G (yo g y xs) cs
  | [], cs, r => by have _ := hy; have _ := hc; simpa only [yo] using r
  | x :: xs, cs, r => by
    simp only [yo, xK] at r ⊢
    obtain ⟨c1, c2, h1, h2, h3⟩ := r
    exact ⟨c1, c2, by rw [h1, mkS, mkS, share_isAgg], repS_share x c1 h2, repSv_share xs c2 h3⟩
end
theorem vJ {x : SV} {v : Value} (r : ValS w G x v) : ValS w G (yl g y x) v :=
  let ⟨c, h1, h2⟩ := r; ⟨c, repS_share hy hc x c h1, by rw [h2, mkS, mkS, share_isAgg]⟩
theorem valSs_share : ∀ {xs : List SV} {vs : List Value}, yx w G xs vs → yx w G (yo g y xs) vs
  | [], _, r => r
  | x :: xs, vs, ⟨v, q, h1, h2, h3⟩ => ⟨v, q, h1, vJ hy hc h2, valSs_share h3⟩
theorem slotS_share {x : SV} {v : Value} (r : yO w G x v) : yO w G (yl g y x) v := by
  cases x
  case tup fs =>
    obtain ⟨vs, h1, h2⟩ := r
    simp only [yl, yO]
    exact ⟨vs, h1, valSs_share hy hc h2⟩
  case agg fs => exact vJ hy hc (x := .agg fs) r
  case ptr g' off =>
    refine xl ?_ (vJ hy hc (x := .ptr g' off) r)
    simp only [yl]
    cases Nat.beq g' g && Nat.beq off 0 <;> rfl
  case ifp T g' off =>
    refine xl ?_ (vJ hy hc (x := .ifp T g' off) r)
    simp only [yl]
    cases Nat.beq g' g && Nat.beq off 0 <;> rfl
  case fnv f a b =>
    refine xl ?_ (vJ hy hc (x := .fnv f a b) r)
    simp only [yl]
    cases wF (yo g y a) <;> cases wF (yo g y b) <;> rfl
  all_goals exact r
end
theorem holds_share {w0 : World} {E : Nat → Prop} {G : Gh} {a : Act} {w : World} {g : Nat} {y : AV} {cs0 : List Value} (hy : RepC w G.I y cs0) (hc : yQ w G.I (G.blk g) 0 cs0) {k : Nat} {x : SV} (h : Holds w0 E G a w k x) : Holds w0 E G a w k (yl g y x) := by
  cases x
  case box T x =>
    simp only [yl, Holds] at h ⊢
    obtain ⟨h1, ⟨cs, fr, h2, h3, h4⟩, h5⟩ := h
    exact ⟨h1, ⟨cs, fr, h2, repS_share hy hc x _ h3, h4⟩, h5⟩
  case tok n l => exact h
  case mpr ks vs => exact h
  case row l => exact h
  case itr m n s => exact h
  case gen R => exact h
  case dead => exact h
  all_goals exact Holds.slot h.1 (slotS_share hy hc h.2)
theorem ownsB_share {G : Gh} {k b g : Nat} {y : AV} {x : SV} : zR G k b (yl g y x) → zR G k b x := by
  cases x <;> simp only [yl] <;> first | exact id | skip
  case ptr g' off => cases Nat.beq g' g && Nat.beq off 0 <;> exact id
  case ifp T g' off => cases Nat.beq g' g && Nat.beq off 0 <;> exact id
  case fnv f a b => cases wF (yo g y a) <;> cases wF (yo g y b) <;> (intro h; simp only [zR] at h)
def shareSt (g : Nat) (y : AV) : St → St
  | [] => []
  | (k, x) :: r => (k, yl g y x) :: shareSt g y r
theorem look_share (g : Nat) (y : AV) : ∀ (st : St) (k : Nat), look (shareSt g y st) k = yl g y (look st k)
  | [], k => rfl
  | (j, x) :: r, k => by
    simp only [shareSt, look, upd]
    cases Nat.beq j k
    · exact look_share g y r k
    · rfl
theorem aw_share {C : Cx} {c : Code} {st : St} {Q : Exit → St → Prop} (g : Nat) {T : TypeId} {X : SV} {y : AV} (hg : look st g = .box T X) (hy : toAV X = some y)
    (h : AW C c ((g, .dead) :: shareSt g y st) Q) : AW C c st Q := by
  intro a w ⟨G, S⟩
  refine h a w ?_
  have hb := S.holds g
  rw [hg] at hb
  simp only [Holds] at hb
  obtain ⟨how, ⟨cs, fr, hb2, hb3, hb4⟩, hni⟩ := hb
  obtain ⟨S1, hle, hcell⟩ := S.giveUp fr hg hb2
  have hw : zn w (G.blk g) (.cells cs T fr) = w := setBlk_same hb2
  rw [hw] at S1 hle hcell
  have hyc : RepC w (fun b o => G.I b o ∨ (b = G.blk g ∧ o < cs.size)) y cs.toList := RepC.mono hle _ _ (xc X y _ hy hb3)
  refine ⟨_, S1.os, S1.tape, S1.output, S1.size, S1.block, S1.sub, S1.rel, S1.glob, S1.new, S1.val, S1.nts, S1.dfs, fun k => ?_, fun k j b hkj h1 h2 => ?_⟩
  · have hk := S1.holds k
    rw [upd_dead] at hk
    have e : look ((g, .dead) :: shareSt g y st) k = if k = g then .dead else yl g y (look st k) := by
      have := upd_dead (look (shareSt g y st)) g k
      rw [look_share] at this
      exact this
    rw [e]
    split
    · simp only [Holds]
    · rename_i hkg
      rw [if_neg hkg] at hk
      exact holds_share hyc hcell hk
  · have conv : ∀ k b, zR { G with I := fun b o => G.I b o ∨ (b = G.blk g ∧ o < cs.size) } k b (look ((g, .dead) :: shareSt g y st) k) → zR { G with I := fun b o => G.I b o ∨ (b = G.blk g ∧ o < cs.size) } k b (upd (look st) [(g, .dead)] k) := by
      intro k b hk
      have e : look ((g, .dead) :: shareSt g y st) k = if k = g then .dead else yl g y (look st k) := by
        have := upd_dead (look (shareSt g y st)) g k
        rw [look_share] at this
        exact this
      rw [e] at hk
      rw [upd_dead]
      split at hk
      · simp only [zR] at hk
      · rename_i hkg
        rw [if_neg hkg]
        exact ownsB_share hk
    exact S1.apart k j b hkj (conv k b h1) (conv j b h2)
section
variable {C : Cx} {A : Nat → SV} {d : Nat} {ty : TypeId} {pos : String} {af : Array Edge} {gd : Option (Nat × Bool)} {x y : Operand} {T T' : TypeId}
theorem s_makeFunc {fn : Fn} {first caps : Array Operand} {fs cs : List AV} (hN : Nat.blt d C.N = true) (h1 : opVs A first.toList = some fs) (h2 : opVs A caps.toList = some cs) :
    zZ C ⟨some d, .makeFunc fn first caps, ty, pos, af, gd⟩ (opRs first.toList ++ opRs caps.toList) [] A [(d, .imm (.fn fn fs cs))] := by
  refine zZ.value rfl hN fun A' G a w hR S => ?_
  rw [← vH (fun k hk => hR k (List.mem_append_left _ hk))] at h1
  rw [← vH (fun k hk => hR k (List.mem_append_right _ hk))] at h2
  refine ⟨.func fn (first.map a.eval) (caps.map a.eval), ?_, zm.2 ⟨[.func fn (first.map a.eval) (caps.map a.eval)], ?_, rfl⟩⟩
  · simp only [execOp, Instr.makeFunc, Sem.run_bind, Sem.run_pure, Result.andThen_ok]
  · simp only [RepC]
    have e : ∀ z : Array Operand, (z.toList.map a.eval).toArray = z.map a.eval := fun z => by rw [← Array.toList_map]
    exact ⟨first.toList.map a.eval, caps.toList.map a.eval, by rw [e, e], S.opVs h1, S.opVs h2⟩
theorem s_mv_mref {g : Nat} (hN : Nat.blt d C.N = true) (h : opS A x = .mref g) : zZ C ⟨some d, .move x, ty, pos, af, gd⟩ (opR x) [] A [(d, .mref g)] := s_copy (.inl rfl) hN h rfl
theorem s_as_mref {g : Nat} (hN : Nat.blt d C.N = true) (h : opS A x = .mref g) : zZ C ⟨some d, .assign x, ty, pos, af, gd⟩ (opR x) [] A [(d, .mref g)] := s_copy (.inr rfl) hN h rfl
end
end Go.Al
namespace Go.Al
open Go.RowKit
section
variable {C : Cx} {A : Nat → SV} {d : Nat} {ty : TypeId} {pos : String} {af : Array Edge} {gd : Option (Nat × Bool)} {x y : Operand} {T T' : TypeId}
theorem s_ixOwn {g off n : Nat} {el : TypeId} {i : Int} {k : IntKind} (hN : Nat.blt d C.N = true) (hx : opS A x = .ptr g off) (hy : opV A y = some (.v (.int k i))) (hT : C.P.underlying T = some (.array n el)) (hn : zr C.P el = some 1)
    (h : 0 ≤ i ∧ i < n) : zZ C ⟨some d, .indexAddr T x y, ty, pos, af, gd⟩ (opR x ++ opR y) [] A [(d, .ptr g (off + i.toNat))] := by
  refine zZ.value rfl hN fun A' G a w hR S => ?_
  obtain ⟨c, hc1, hc2⟩ := S.opS ((zt (fun k hk => hR k (List.mem_append_left _ hk))).trans hx) rfl
  simp only [RepS] at hc1
  have hev : a.eval x = .pointer (some ⟨G.blk g, off, none⟩) := by rw [hc2, hc1]; rfl
  rw [← z5 (fun k hk => hR k (List.mem_append_right _ hk))] at hy
  have hi := yM (S.opV hy)
  refine ⟨.pointer (some ⟨G.blk g, off + i.toNat, none⟩), ?_, [.pointer (some ⟨G.blk g, off + i.toNat, none⟩)], by simp only [RepS], rfl⟩
  simp only [execOp, Instr.indexAt, hi, hev, asIntOf, Instr.sureAddr, Sem.run_bind, Sem.run_pure, Result.andThen_ok, zM hT, h, and_self, if_true, yJ hn, wM, Nat.mul_one]
end
end Go.Al
namespace Go.Al
open Go.RowKit
def Up (x y : AV) : Prop := y.isAgg = x.isAgg ∧ y.width = x.width ∧ ∀ w I c, RepC w I x c → RepC w I y c
theorem Up.refl (x : AV) : Up x x := ⟨rfl, rfl, fun _ _ _ h => h⟩
theorem Up.trans {x y z : AV} (h : Up x y) (k : Up y z) : Up x z := ⟨k.1.trans h.1, k.2.1.trans h.2.1, fun w I c r => k.2.2 w I c (h.2.2 w I c r)⟩
theorem Up.nil (n : Nat) : Up (.v (.slice none 0 0)) (.sl n []) := by
  refine ⟨rfl, rfl, fun w I c h => ?_⟩
  simp only [RepC] at h ⊢
  exact ⟨_, h.1, .inl ⟨none, 0, rfl, trivial, Nat.zero_le _, fun _ => rfl⟩⟩
theorem Up.rep {x y : AV} (h : Up x y) {w : World} {I : Nat → Nat → Prop} {v : Value} (r : Rep w I x v) : Rep w I y v :=
  let ⟨c, h1, h2⟩ := r; ⟨c, h.2.2 w I c h1, by rw [h2, mkV, mkV, h.1]⟩
theorem Up.eq {x y : AV} (h : x = y) : Up x y := h ▸ Up.refl x
def Ups : List AV → List AV → Prop
  | [], [] => True
  | x :: xs, y :: ys => Up x y ∧ Ups xs ys
  | _, _ => False
theorem Ups.refl : ∀ xs : List AV, Ups xs xs
  | [] => trivial
  | x :: xs => ⟨Up.refl x, Ups.refl xs⟩
theorem Ups.cs {w : World} {I : Nat → Nat → Prop} : ∀ {xs ys : List AV} {c : List Value}, Ups xs ys → yL w I xs c → yL w I ys c
  | [], [], _, _, r => r
  | x :: xs, y :: ys, c, h, r => by
    simp only [yL] at r ⊢
    obtain ⟨c1, c2, h1, h2, h3⟩ := r
    exact ⟨c1, c2, h1, h.1.2.2 w I c1 h2, Ups.cs h.2 h3⟩
  | [], _ :: _, _, h, _ => h.elim
  | _ :: _, [], _, h, _ => h.elim
theorem Ups.width : ∀ {xs ys : List AV}, Ups xs ys → AV.widths ys = AV.widths xs
  | [], [], _ => rfl
  | x :: xs, y :: ys, h => by simp only [AV.widths, h.1.2.1, Ups.width h.2]
  | [], _ :: _, h => h.elim
  | _ :: _, [], h => h.elim
theorem Ups.vs {w : World} {I : Nat → Nat → Prop} : ∀ {xs ys : List AV} {c : List Value}, Ups xs ys → zg w I xs c → zg w I ys c
  | [], [], _, _, r => r
  | x :: xs, y :: ys, c, h, r => by
    simp only [zg] at r ⊢
    obtain ⟨c1, c2, h1, h2, h3⟩ := r
    exact ⟨c1, c2, by rw [h1, mkV, mkV, h.1.1], h.1.2.2 w I c1 h2, Ups.vs h.2 h3⟩
  | [], _ :: _, _, h, _ => h.elim
  | _ :: _, [], _, h, _ => h.elim
theorem Up.agg {xs ys : List AV} (h : Ups xs ys) : Up (.agg xs) (.agg ys) := by
  refine ⟨rfl, by simp only [AV.width]; exact h.width, fun w I c r => ?_⟩
  simp only [RepC] at r ⊢
  exact h.cs r
theorem Up.ifc {x y : AV} (t : TypeId) (h : Up x y) : Up (.ifc t x) (.ifc t y) := by
  refine ⟨rfl, rfl, fun w I c r => ?_⟩
  simp only [RepC] at r ⊢
  obtain ⟨c', h1, h2⟩ := r
  exact ⟨c', by rw [h1, mkV, mkV, h.1], h.2.2 w I c' h2⟩
theorem Up.sl {n : Nat} : ∀ {xs ys : List AV}, Ups xs ys → Up (.sl n xs) (.sl n ys) := by
  intro xs ys h
  have hl : ys.length = xs.length := by
    revert ys
    induction xs with
    | nil => intro ys h; cases ys with
      | nil => rfl
      | cons _ _ => exact h.elim
    | cons x xs ih => intro ys h; cases ys with
      | nil => exact h.elim
      | cons y ys => simp [ih h.2]
  refine ⟨rfl, rfl, fun w I c r => ?_⟩
  simp only [RepC] at r ⊢
  obtain ⟨v, hv, ⟨p, cap, h1, rfl, h2⟩ | ⟨b, o, cap, h1, h2, h3, h4⟩⟩ := r
  · exact ⟨v, hv, .inl ⟨p, cap, h1, List.eq_nil_of_length_eq_zero (by rw [hl]; rfl), h2⟩⟩
  · refine ⟨v, hv, .inr ⟨b, o, cap, by rw [hl]; exact h1, by rw [hl]; exact h2, h3, ?_⟩⟩
    clear hv h1 h2 h3 hl
    revert ys o
    induction xs with
    | nil => intro ys h o _; cases ys with
      | nil => simp only [RepM]
      | cons _ _ => exact h.elim
    | cons x xs ih => intro ys h o h4; cases ys with
      | nil => exact h.elim
      | cons y ys =>
        simp only [RepM] at h4 ⊢
        obtain ⟨⟨c', k1, k2, k3⟩, k4⟩ := h4
        exact ⟨⟨c', k1, h.1.2.2 w I c' k2, k3⟩, ih h.2 (o + n) k4⟩
theorem z8.args {P : Program} {Γ : List (Nat × AV)} {f : FuncId} {xs xs' rs : List AV} (c : z8 P Γ f xs rs) (h : Ups xs' xs) : z8 P Γ f xs' rs :=
  ⟨c.1, fun w I args hv hg hr => c.2 w I args hv hg (h.vs hr)⟩
theorem resV_up {w : World} {I : Nat → Nat → Prop} {rs rs' : List AV} {v : Value} (h : Ups rs rs') (r : resV w I rs v) : resV w I rs' v := by
  match rs, rs', h, r with
  | [], [], _, r => exact r
  | [x], [y], h, r => exact h.1.rep r
  | x :: x2 :: xs, y :: y2 :: ys, h, ⟨vs, h1, h2⟩ => exact ⟨vs, h1, h.vs h2⟩
  | [], _ :: _, h, _ => exact h.elim
  | _ :: _, [], h, _ => exact h.elim
  | [_], _ :: _ :: _, h, _ => exact h.2.elim
  | _ :: _ :: _, [_], h, _ => exact h.2.elim
theorem z8.res {P : Program} {Γ : List (Nat × AV)} {f : FuncId} {xs rs rs' : List AV} (c : z8 P Γ f xs rs) (h : Ups rs rs') : z8 P Γ f xs rs' := by
  refine ⟨c.1, fun w I args hv hg hr => (c.2 w I args hv hg hr).mono ?_⟩
  rintro e w' ⟨v, I', h1, h2, h3, h4, h5, h6⟩
  exact ⟨v, I', h1, h2, h3, h4, h5, resV_up h h6⟩
def PostU (P : Program) (fn : Func) (rs : List AV) (e : Exit) (st : St) : Prop := ∃ rs0, Post P fn rs0 e st ∧ Ups rs0 rs
theorem pcall_ofU {P : Program} {Γ : List (Nat × AV)} {f : FuncId} {fn : Func} {c : Code} {N : Nat} {xs rs : List AV} (hf : P.funcs[f]? = some fn) (hb : fn.body = some c) (hnt : fn.ntmps = N) (hcal : xY P f = true)
    (hN : Nat.ble xs.length N = true) (h : ∀ w0 I0 G0, AW ⟨P, w0, I0, fun _ => False, N, 100000, G0, Γ, [], none⟩ c (params 0 xs) (PostU P fn rs)) : z8 P Γ f xs rs := by
  refine ⟨hcal, fun w I args hv hgl hr => ?_⟩
  refine calls_of_wp hf hb ?_
  rw [hnt]
  have S0 := start_sim (P := P) (K := 100000) hv hgl hr (Nat.le_of_ble_eq_true hN)
  refine wp_mono ((wpIn_wide (n := 0)).1 (h w I _ _ w S0 0)) ?_
  rintro e a' w' ⟨st', ⟨rs0, q, hup⟩, G, S⟩
  have fin : retAll P st' fn.results.toList rs0 → a'.defers = [] ∧ ∃ v, (results fn a'.tmps).run P w' = .ok v w' ∧ Leaves w I rs (.returned v) w' := by
    intro q
    refine ⟨S.dfs, ?_⟩
    obtain ⟨vs, h1, h2⟩ := ret_run S _ _ q
    have hb : Below w.heap.size w w' := ⟨S.os, S.tape, S.output, S.size, fun k hk => S.block k hk (fun h => h)⟩
    have hle : Le w I w' G.I := S.sub
    have hni : NewI w I G.I := fun b o hi => by
      rcases S.new b o hi with h | h | h
      · exact .inl h
      · exact .inr h
      · exact h.elim
    have hrun : (results fn a'.tmps).run P w' = .ok (if h : vs.length = 1 then vs[0] else .tuple (List.toArray vs)) w' := by
      have e : results fn a'.tmps = (do let vs ← fn.results.mapM (rvSem a'.tmps); pure (if h : vs.size = 1 then vs[0] else .tuple vs)) := by
        unfold results
        congr 1
      rw [e, Array.mapM_eq_mapM_toList]
      simp only [Sem.run_bind, Sem.run_map, h1, Result.andThen_ok, Sem.run_pure]
      simp
    refine ⟨_, hrun, _, G.I, rfl, hb, hle, hni, S.val, resV_up hup ?_⟩
    have hlen := yy h2
    unfold resV
    split
    · rename_i r
      simp at hlen
      rw [dif_pos hlen]
      obtain ⟨v, h3, h4⟩ := yb (j := 0) h2 rfl
      have : vs[0] = v := by rw [List.getElem?_eq_getElem (by omega)] at h3; exact Option.some.inj h3
      rw [this]; exact h4
    · rename_i h0
      have : ¬ vs.length = 1 := by
        intro h1
        rw [h1] at hlen
        match rs0, hlen with
        | [r], _ => exact h0 r rfl
      rw [dif_neg this]
      exact ⟨vs, rfl, h2⟩
  cases e <;> first | exact fin q | exact q.elim
section
variable {C : Cx} {A : Nat → SV} {d : Nat} {ty : TypeId} {pos : String} {af : Array Edge} {gd : Option (Nat × Bool)} {x y : Operand} {T T' : TypeId}
end
end Go.Al
namespace Go.Al
open Go.RowKit
section
variable {C : Cx} {A : Nat → SV} {d : Nat} {ty : TypeId} {pos : String} {af : Array Edge} {gd : Option (Nat × Bool)} {x y : Operand} {T T' : TypeId}
end
def Fz (g g' n len cap : Nat) (l : List AV) (x y : SV) : Prop :=
  y = x ∨ (x = .osl g 0 len cap ∧ y = .slg g' n l) ∨ ∃ T, x = .box T (.osl g 0 len cap) ∧ y = .box T (.slg g' n l)
theorem SimG.freezeW {C : Cx} {A B : Nat → SV} {G : Gh} {a : Act} {w : World} (S : SimG C A G a w) {g g' n len cap : Nat} {T0 : TypeId} {xs l : List AV} (hgN : C.N ≤ g) (hgN' : C.N ≤ g') (hgK : g' < C.K) (hgg : g ≠ g') (hg : A g = .box T0 (.imm (.agg xs)))
    (hw : ∀ x ∈ xs, x.width = n) (hcap : cap = xs.length) (hlen : len ≤ cap) (hmax : cap ≤ maxLen) (hl : xs.take len = l) (hf : ∀ j, noG [g'] (A j) = true) (hB : ∀ j, j ≠ g' → B j = .dead ∨ Fz g g' n len cap l (A j) (B j)) (hBg : B g = .dead) (hB' : B g' = .tok n l) :
    Sim C B a w := by
  subst hl
  have hb := S.holds g
  rw [hg] at hb
  simp only [Holds] at hb
  obtain ⟨how, ⟨cs, fr, hb2, hb3, hb4⟩, hni⟩ := hb
  simp only [RepS, RepC] at hb3
  have hE := (repCs_E hw).1 hb3
  have hcl := hE.len
  simp only [Array.length_toList] at hcl
  obtain ⟨q1, _⟩ := hE.split len (by omega)
  let I' : Nat → Nat → Prop := fun b o => G.I b o ∨ (b = G.blk g ∧ o < len * n)
  let G' : Gh := { I := I', blk := G.blk, cur := fun j => if j = g' then .slice (some ⟨G.blk g, 0, none⟩) len cap else G.cur j, len := fun j => if j = g' then len else G.len j }
  have hle : Le w G.I w I' := fun b o h => ⟨.inl h, zy rfl⟩
  have hrel : GRel [g'] G G' := fun j hj => by
    have hjg : j ≠ g' := by simpa using hj
    exact ⟨rfl, .inl ⟨by simp only [G', if_neg hjg], by simp only [G', if_neg hjg]⟩⟩
  have hmul : len * n ≤ cap * n := mul_le_of hlen
  have hcells : yQ w I' (G.blk g) 0 (cs.toList.take (len * n)) := by
    intro j hj
    rw [List.length_take, Array.length_toList] at hj
    refine ⟨?_, .inr ⟨rfl, by omega⟩⟩
    rw [wm hb2, Nat.zero_add]
    simp only [List.getElem_take]
    rw [Array.getElem?_eq_getElem (by omega)]
    simp
  have hM : RepM w I' n (xs.take len) (G.blk g) 0 := (q1.mono hle).mem hcells
  have htl : (xs.take len).length = len := by rw [List.length_take]; omega
  have hslgc : RepS w G' (.slg g' n (xs.take len)) [.slice (some ⟨G.blk g, 0, none⟩) len cap] := by
    simp only [RepS, RepC]
    refine ⟨_, rfl, ⟨_, rfl, .inr ⟨G.blk g, 0, cap, by rw [htl], by rw [htl]; exact hlen, hmax, hM⟩⟩, by simp only [G', if_true, htl]; omega, fun _ => by simp only [G', if_true]⟩
  have hslg : ∀ v, ValS w G (.osl g 0 len cap) v → ValS w G' (.slg g' n (xs.take len)) v := by
    rintro v ⟨c, h1, h2⟩
    simp only [RepS] at h1
    subst h1
    exact ⟨_, hslgc, h2⟩
  have own' : ∀ j b, zR G' j b (B j) → (j = g' ∧ b = G.blk g) ∨ (j ≠ g' ∧ j ≠ g ∧ zR G j b (A j)) := by
    intro j b h
    by_cases hj : j = g'
    · subst hj
      rw [hB'] at h
      simp only [zR, G', if_true] at h
      obtain ⟨ad, n', c', h1, h2⟩ := h
      simp only [Value.slice.injEq, Option.some.injEq] at h1
      exact .inl ⟨rfl, by rw [← h2, ← h1.1]⟩
    · by_cases hjg : j = g
      · subst hjg; rw [hBg] at h; simp only [zR] at h
      · refine .inr ⟨hj, hjg, ?_⟩
        rcases hB j hj with e | e | ⟨_, e⟩ | ⟨T, e1, e⟩
        · rw [e] at h; simp only [zR] at h
        · rw [e] at h
          revert h
          generalize A j = y
          cases y <;> simp only [zR, G', if_neg hj] <;> exact id
        · rw [e] at h; simp only [zR] at h
        · rw [e] at h; rw [e1]; simpa only [zR] using h
  refine ⟨G', S.os, S.tape, S.output, S.size, S.block, S.sub.trans hle, fun j hj => (S.rel j hj).trans (hrel j (by simp; omega)), S.glob.mono hle, fun b o h => ?_, fun b o h => ?_, S.nts, S.dfs, fun j => ?_, fun j j' b hj h1 h2 => ?_⟩
  · rcases h with h | ⟨rfl, _⟩
    · exact S.new b o h
    · exact .inr how.1
  · rcases h with h | ⟨rfl, _⟩
    · exact S.val b o h
    · exact how.2
  · by_cases hj : j = g'
    · subst hj
      rw [hB']
      simp only [Holds, G', if_true, htl]
      refine ⟨trivial, .inr ⟨G.blk g, cap, by rw [htl], by rw [htl]; exact hlen, hmax, hM, how, ⟨cs, T0, fr, hb2, by rw [hcl, hcap], hb4⟩, ?_⟩⟩
      intro o ho hi
      rw [htl] at ho
      rcases hi with hi | ⟨_, h2⟩
      · exact hni o hi
      · omega
    · by_cases hjg : j = g
      · subst hjg; rw [hBg]; simp only [Holds]
      · have keep : Holds C.w0 C.E G' a w j (A j) := (S.holds j).keep hle hrel (hf j) (Nat.le_refl _) (fun h => ⟨h, rfl⟩) (fun _ => ⟨rfl, by simp only [G', if_neg hj], by simp only [G', if_neg hj]⟩) (fun b hbk => ⟨rfl, fun o hi => by
          rcases hi with hi | ⟨rfl, _⟩
          · exact hi
          · exact (S.apart j g _ hjg hbk (by rw [hg]; simp [zR])).elim⟩)
        rcases hB j hj with e | e | ⟨e1, e⟩ | ⟨T, e1, e⟩
        · rw [e]; simp only [Holds]
        · rw [e]; exact keep
        · rw [e]
          have hk := S.holds j
          rw [e1] at hk
          exact ⟨hk.1, hslg _ hk.2⟩
        · rw [e]
          have hk := S.holds j
          rw [e1] at hk keep
          simp only [Holds] at hk keep ⊢
          obtain ⟨m1, ⟨cs1, fr1, m2, m3, m4⟩, m5⟩ := hk
          refine ⟨keep.1, ⟨cs1, fr1, m2, ?_, m4⟩, keep.2.2⟩
          simp only [RepS] at m3
          show RepS w G' (.slg g' n (xs.take len)) cs1.toList
          rw [m3]; exact hslgc
  · rcases own' j b h1 with ⟨e1, e2⟩ | ⟨e1, e2, e3⟩
    · rcases own' j' b h2 with ⟨e4, e5⟩ | ⟨e4, e5, e6⟩
      · exact hj (e1.trans e4.symm)
      · subst e2; exact S.apart j' g _ e5 e6 (by rw [hg]; simp [zR])
    · rcases own' j' b h2 with ⟨e4, e5⟩ | ⟨e4, e5, e6⟩
      · subst e5; exact S.apart j g _ e2 e3 (by rw [hg]; simp [zR])
      · exact S.apart j j' b hj e3 e6
end Go.Al
namespace Go.Al
open Go.RowKit
section
variable {C : Cx} {A : Nat → SV} {d : Nat} {ty : TypeId} {pos : String} {af : Array Edge} {gd : Option (Nat × Bool)} {x y : Operand} {T T' : TypeId}
end
def W1 (xs : List AV) : Prop := ∀ x ∈ xs, x.width = 1
theorem W1.bytes (l : List UInt8) : W1 (xV l) := by
  intro x hx
  simp only [xV, List.mem_map] at hx
  obtain ⟨b, _, rfl⟩ := hx
  rfl
theorem W1.nil : W1 [] := fun x hx => by cases hx
theorem W1.cons {n : Int} {b : List AV} (k : W1 b) : W1 (.v (.int .u8 n) :: b) := fun x hx => (List.mem_cons.1 hx).elim (fun h => by rw [h]; rfl) (k x)
end Go.Al
namespace Go.Al
open Go.RowKit
end Go.Al
namespace Go.Al
open Go.RowKit
section
variable {C : Cx} {A : Nat → SV} {d : Nat} {ty : TypeId} {pos : String} {af : Array Edge} {gd : Option (Nat × Bool)} {x y : Operand} {T T' : TypeId}
end
end Go.Al
namespace Go.Al
open Go.RowKit
mutual
theorem noG_split {g g' : Nat} : ∀ x : SV, noG [g, g'] x = true → noG [g] x = true ∧ noG [g'] x = true
  | .ptr k _, h => by simp only [noG] at h ⊢; simp at h ⊢; exact h
  | .slg k _ _, h => by simp only [noG] at h ⊢; simp at h ⊢; exact h
  | .osl k _ _ _, h => by simp only [noG] at h ⊢; simp at h ⊢; exact h
  | .mref k, h => by simp only [noG] at h ⊢; simp at h ⊢; exact h
  | .itr k _ _, h => by simp only [noG] at h ⊢; simp at h ⊢; exact h
  | .agg fs, h => by simp only [noG] at h ⊢; exact xS fs h
  | .tup fs, h => by simp only [noG] at h ⊢; exact xS fs h
  | .box _ x, h => by simp only [noG] at h ⊢; exact noG_split x h
  | .fnv _ a b, h => by
    simp only [noG, Bool.and_eq_true] at h ⊢
    exact ⟨⟨(xS a h.1).1, (xS b h.2).1⟩, (xS a h.1).2, (xS b h.2).2⟩
  | .imm _, _ => by simp only [noG]; trivial
  | .dead, _ => by simp only [noG]; trivial
  | .undef, _ => by simp only [noG]; trivial
  | .tok _ _, _ => by simp only [noG]; trivial
  | .mpr _ _, _ => by simp only [noG]; trivial
  | .row _, _ => by simp only [noG]; trivial
  | .gen _, _ => by simp only [noG]; trivial
  | .ifp _ k _, h => by simp only [noG] at h ⊢; simp at h ⊢; exact h
theorem xS {g g' : Nat} : ∀ xs : List SV, noGs [g, g'] xs = true → noGs [g] xs = true ∧ noGs [g'] xs = true
  | [], _ => ⟨rfl, rfl⟩
  | x :: xs, h => by
    simp only [noGs, Bool.and_eq_true] at h ⊢
    exact ⟨⟨(noG_split x h.1).1, (xS xs h.2).1⟩, (noG_split x h.1).2, (xS xs h.2).2⟩
end
theorem SimG.drop {C : Cx} {A B : Nat → SV} {G : Gh} {a : Act} {w : World} (S : SimG C A G a w) (h : ∀ k, B k = A k ∨ B k = .dead) : SimG C B G a w := by
  refine ⟨S.os, S.tape, S.output, S.size, S.block, S.sub, S.rel, S.glob, S.new, S.val, S.nts, S.dfs, fun k => ?_, fun k j b hkj h1 h2 => ?_⟩
  · rcases h k with e | e
    · rw [e]; exact S.holds k
    · rw [e]; simp only [Holds]
  · rcases h k with e | e
    · rcases h j with e' | e'
      · rw [e] at h1; rw [e'] at h2; exact S.apart k j b hkj h1 h2
      · rw [e'] at h2; simp only [zR] at h2
    · rw [e] at h1; simp only [zR] at h1
section
variable {C : Cx} {A : Nat → SV} {d : Nat} {ty : TypeId} {pos : String} {af : Array Edge} {gd : Option (Nat × Bool)} {x y : Operand} {T T' : TypeId}
theorem run_buildSlice0 {P : Program} {w : World} {T el : TypeId} {n : Nat} (hT : P.underlying T = some (.slice el)) (hn : zr P el = some n) :
    (Instr.buildSlice T 0 #[]).run P w = .ok (.slice (some ⟨w.heap.size, 0, none⟩) 0 0) (w.alloc (.cells #[] el)) := by
  simp only [Instr.buildSlice, Sem.run_bind, zM hT, Result.andThen_ok, yJ hn, Nat.zero_mul]
  rw [if_neg (by omega)]
  simp only [Sem.run_bind, Sem.run_pure, Result.andThen_ok, if_true]
  simp only [Instr.fill, newRow, run_newObj, Sem.run_bind, Result.andThen_ok, Sem.run_pure]
  rw [show Array.range 0 = #[] from rfl, Array.map_empty]
  rfl
theorem s_build0 (g g' : Nat) {el : TypeId} {n : Nat} (hgN : Nat.ble C.N g = true) (hgN' : Nat.ble C.N g' = true) (hgK : Nat.blt g C.K = true) (hgK' : Nat.blt g' C.K = true) (hgg : Nat.beq g g' = false) (hN : Nat.blt d C.N = true) (hT : C.P.underlying T = some (.slice el)) (hn : zr C.P el = some n) :
    zZ C ⟨some d, .buildSlice T 0 #[], ty, pos, af, gd⟩ [] [g, g'] A [(g', .tok n []), (d, .slg g' n []), (g, .dead)] := by
  intro A' a w hR hF ⟨G, S⟩
  have hN' : d < C.N := by simpa [Nat.blt_eq] using hN
  have hgd : g ≠ d := by have := Nat.le_of_ble_eq_true hgN; omega
  have hgd' : g' ≠ d := by have := Nat.le_of_ble_eq_true hgN'; omega
  have hne : g ≠ g' := by rintro rfl; rw [Nat.beq_refl] at hgg; cases hgg
  have k1 := run_buildSlice0 (w := w) hT hn
  let A0 : Nat → SV := fun k => if k = g' then .dead else A' k
  have S0 : SimG C A0 G a w := S.drop fun k => by by_cases h : k = g' <;> simp [A0, h]
  have hfr : ∀ k, k ≠ g → k ≠ d → noG [g, g'] (A0 k) = true := by
    intro k h1 h2
    by_cases h3 : k = g'
    · simp [A0, h3, noG]
    · have := hF k (by simp only [has, zL (Ne.symm h3), zL (Ne.symm h2), zL (Ne.symm h1)]; rfl)
      simpa [A0, h3] using this
  have hb1 := S0.allocBox (T := el) (cs := #[]) (x := .imm (.agg [])) hgd (by simpa [Nat.blt_eq] using hgK) hN' (by simp only [RepS, RepC, yL]) (by simp only [noG]) (fun k hk => by
    simp only [has, Bool.or_eq_false_iff] at hk
    have h1 : k ≠ g := by rintro rfl; rw [Nat.beq_refl] at hk; cases hk.1
    have h2 : k ≠ d := by rintro rfl; rw [Nat.beq_refl] at hk; cases hk.2.1
    exact (noG_split _ (hfr k h1 h2)).1)
  obtain ⟨G1, S1⟩ := hb1
  have hgA : G1.blk g = w.heap.size := by
    have h1 := S1.holds d
    have e : upd A0 [(g, .box el (.imm (.agg []))), (d, .ptr g 0)] d = .ptr g 0 := by simp only [upd]; rw [zL hgd]; simp
    rw [e] at h1
    obtain ⟨_, c, h2, h3⟩ := h1
    simp only [RepS] at h2
    rw [h2] at h3
    have e2 : (a.put (some d) (.pointer (some ⟨w.heap.size, 0, none⟩))).tmps.getD d Go.undef = .pointer (some ⟨w.heap.size, 0, none⟩) := by simp [Act.put, S.nts, hN']
    rw [e2] at h3
    simp only [mkS, SV.isAgg, Bool.false_eq_true, if_false, List.headD_cons, Value.pointer.injEq, Option.some.injEq, Addr.mk.injEq] at h3
    exact h3.1.symm
  have S2 := S1.put hN' (x := .osl g 0 0 0) (v := .slice (some ⟨w.heap.size, 0, none⟩) 0 0) ⟨[.slice (some ⟨G1.blk g, 0, none⟩) 0 0], by simp only [RepS], by simp only [mkS, SV.isAgg, hgA]; rfl⟩
  rw [Act.put_put] at S2
  have eu : ∀ k, upd (upd A0 [(g, .box el (.imm (.agg []))), (d, .ptr g 0)]) [(d, .osl g 0 0 0)] k = if k = g then .box el (.imm (.agg [])) else if k = d then .osl g 0 0 0 else A0 k := by
    intro k
    simp only [upd]
    by_cases hkd : d = k
    · subst hkd; rw [if_neg (Ne.symm hgd)]; simp
    · rw [zL hkd]
      by_cases hkg : g = k
      · subst hkg; simp
      · rw [zL hkg, if_neg (Ne.symm hkg), if_neg (Ne.symm hkd)]; simp
  have S3 := S2.freezeW (B := upd A' [(g', .tok n []), (d, .slg g' n []), (g, .dead)]) (g := g) (g' := g') (n := n) (len := 0) (cap := 0) (T0 := el) (xs := []) (l := []) (Nat.le_of_ble_eq_true hgN) (Nat.le_of_ble_eq_true hgN') (by simpa [Nat.blt_eq] using hgK') hne (by rw [eu, if_pos rfl]) (by simp) rfl (Nat.le_refl _) (Nat.zero_le _) rfl
    (fun j => by
      rw [eu]
      split
      · simp only [noG]
      · split
        · simp only [noG]; simp [hne]
        · rename_i h1 h2; exact (noG_split _ (hfr j h1 h2)).2)
    (fun j hj => by
      rw [eu]
      simp only [upd, zL (Ne.symm hj), cond_false]
      by_cases hjd : d = j
      · subst hjd; rw [Nat.beq_refl, if_neg (Ne.symm hgd), if_pos rfl]; exact .inr (.inr (.inl ⟨rfl, rfl⟩))
      · rw [zL hjd]
        by_cases hjg : g = j
        · subst hjg; left; simp
        · rw [zL hjg, if_neg (Ne.symm hjg), if_neg (Ne.symm hjd)]; right; left; simp [A0, hj])
    (by simp only [upd, zL (Ne.symm hne), zL (Ne.symm hgd), cond_false, Nat.beq_refl, cond_true]) (by simp only [upd, Nat.beq_refl, cond_true])
  unfold Oper.wp
  simp only [execOp, Sem.run_bind, Array.map_empty, k1, Result.andThen_ok, Sem.run_pure, Oper.upon_value]
  exact S3
end
end Go.Al
namespace Go.Al
open Go.RowKit
theorem SimG.newtokB {C : Cx} {A : Nat → SV} {G : Gh} {a : Act} {w : World} (S : SimG C A G a w) {g b n off : Nat} {T : TypeId} {X X' : SV} (hgN : C.N ≤ g) (hgK : g < C.K) (hgb : g ≠ b) (hb : A b = .box T X) (hY : getS 8 X off 1 false = some (.imm (.v (.slice none 0 0))))
    (hX : setS 8 X off (.slg g n []) = some X') (hf : ∀ j, noG [g] (A j) = true) : Sim C (upd A [(g, .tok n []), (b, .box T X')]) a w := by
  let G' : Gh := { G with cur := fun j => if j = g then .slice none 0 0 else G.cur j, len := fun j => if j = g then 0 else G.len j }
  have hg : GRel [g] G G' := fun j hj => by
    have hjg : j ≠ g := by simpa using hj
    exact ⟨rfl, .inl ⟨by simp only [G', if_neg hjg], by simp only [G', if_neg hjg]⟩⟩
  have hle := Le.refl w G.I
  have hu : ∀ j, upd A [(g, .tok n []), (b, .box T X')] j = if j = g then .tok n [] else if j = b then .box T X' else A j := by
    intro j
    simp only [upd]
    by_cases h1 : j = g
    · subst h1; simp
    · rw [zL (Ne.symm h1), if_neg h1]
      by_cases h2 : j = b
      · subst h2; simp
      · rw [zL (Ne.symm h2), if_neg h2]; rfl
  have own' : ∀ j k, zR G' j k (upd A [(g, .tok n []), (b, .box T X')] j) → j ≠ g ∧ zR G j k (A j) := by
    intro j k h
    rw [hu] at h
    split at h
    · rename_i hj
      simp only [zR, G', hj, if_true] at h
      obtain ⟨_, _, _, h1, _⟩ := h
      cases h1
    · rename_i hj
      refine ⟨hj, ?_⟩
      split at h
      · rename_i hjb; subst hjb; rw [hb]; simpa only [zR] using h
      · revert h
        generalize A j = y
        cases y <;> simp only [zR, G', if_neg hj] <;> exact id
  refine ⟨G', S.os, S.tape, S.output, S.size, S.block, S.sub.trans hle, fun j hj => (S.rel j hj).trans (hg j (by simp; omega)), S.glob, S.new, S.val, S.nts, S.dfs, fun j => ?_, fun j j' k hj h1 h2 => S.apart j j' k hj (own' j k h1).2 (own' j' k h2).2⟩
  rw [hu]
  split
  · rename_i hj; subst hj
    simp only [Holds, G', if_true]
    exact ⟨rfl, .inl ⟨rfl, rfl⟩⟩
  · rename_i hj
    split
    · rename_i hjb; subst hjb
      have hh := S.holds j
      have hn := hf j
      rw [hb] at hh hn
      simp only [Holds] at hh ⊢
      simp only [noG] at hn
      obtain ⟨m1, ⟨cs, fr, m2, m3, m4⟩, m5⟩ := hh
      refine ⟨m1, ⟨cs, fr, m2, ?_, m4⟩, m5⟩
      obtain ⟨y1, _, _, y4⟩ := xy 8 X cs.toList off 1 false _ m3 hY
      simp only [RepS, RepC] at y1
      have m3' : RepS w G' X cs.toList := RepS.mono (G' := G') hle hg _ _ hn m3
      have hnil : RepS w G' (.slg g n []) [.slice none 0 0] := by
        simp only [RepS, RepC]
        exact ⟨_, rfl, ⟨_, rfl, .inl (by simpa using nil_sl 0)⟩, by simp, fun _ => by simp only [G', if_true]⟩
      obtain ⟨z1, _⟩ := wS hnil 8 X cs.toList off X' m3' hX
      have e : cs.toList.take off ++ [Value.slice none 0 0] ++ cs.toList.drop (off + [Value.slice none 0 0].length) = cs.toList := by
        have e1 : (cs.toList.drop off).take 1 = [Value.slice none 0 0] := (by simpa [Value.cells] using y1 : _ ∧ _).1
        rw [← e1]
        simp only [List.length_take, List.length_drop]
        rw [List.append_assoc, show off + min 1 (cs.toList.length - off) = off + 1 from by omega, ← List.drop_drop, List.take_append_drop, List.take_append_drop]
      rw [e] at z1
      exact z1
    · exact (S.holds j).keep hle hg (hf j) (Nat.le_refl _) (fun h => ⟨h, rfl⟩) (fun _ => ⟨rfl, by simp only [G', if_neg hj], by simp only [G', if_neg hj]⟩) (fun b _ => ⟨rfl, fun _ h => h⟩)
theorem aw_newtokB {C : Cx} {c : Code} {st : St} {Q : Exit → St → Prop} (g b n off : Nat) {T : TypeId} {X X' : SV} (hgN : Nat.ble C.N g = true) (hgK : Nat.blt g C.K = true) (hgb : Nat.beq g b = false) (hb : look st b = .box T X)
    (hY : getS 8 X off 1 false = some (.imm (.v (.slice none 0 0)))) (hX : setS 8 X off (.slg g n []) = some X') (hf : vD [g] st = true)
    (h : AW C c ((g, .tok n []) :: (b, .box T X') :: st) Q) : AW C c st Q := by
  intro a w ⟨G, S⟩
  have hgne : g ≠ b := by rintro rfl; rw [Nat.beq_refl] at hgb; cases hgb
  have := S.newtokB (n := n) (Nat.le_of_ble_eq_true hgN) (by simpa [Nat.blt_eq] using hgK) hgne hb hY hX (xj st hf)
  rw [xM] at this
  exact h a w this
end Go.Al
