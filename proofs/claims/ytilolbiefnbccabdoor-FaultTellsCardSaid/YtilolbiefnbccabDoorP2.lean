/- Texts that the proofs of this claim share, part 2: the abstract logic, plain Lean on values and batches, and walks. No condition but those typed in each lemma. -/
import Derived.Laws.Externs
import Derived.Lib.Bytealg
import Derived.Test.YtilolbiefnbccabDoorP1
set_option linter.unusedSimpArgs false
set_option linter.unusedVariables false
namespace Go.Al
open Go.RowKit

/-! ### Ghosts under other names -/

def ren : List (Nat × Nat) → Nat → Nat
  | [], g => g
  | (f, a) :: r, g => bif Nat.beq f g then a else ren r g

mutual
def SV.ren (σ : List (Nat × Nat)) : SV → SV
  | .ptr g off => .ptr (Al.ren σ g) off
  | .slg g n l => .slg (Al.ren σ g) n l
  | .osl g o a b => .osl (Al.ren σ g) o a b
  | .agg fs => .agg (SV.rens σ fs)
  | .tup fs => .tup (SV.rens σ fs)
  | .box T x => .box T (SV.ren σ x)
  | .fnv f a b => .fnv f (SV.rens σ a) (SV.rens σ b)
  | .mref g => .mref (Al.ren σ g)
  | .itr m n s => .itr (Al.ren σ m) n s
  | .ifp T g off => .ifp T (Al.ren σ g) off
  | .gen R => .gen R
  | .dead => .dead
  | .undef => .undef
  | .imm x => .imm x
  | .tok n l => .tok n l
  | .mpr ks vs => .mpr ks vs
  | .row l => .row l
def SV.rens (σ : List (Nat × Nat)) : List SV → List SV
  | [] => []
  | x :: xs => SV.ren σ x :: SV.rens σ xs
end

def Gh.at (G : Gh) (ρ : Nat → Nat) : Gh := ⟨G.I, fun g => G.blk (ρ g), fun g => G.cur (ρ g), fun g => G.len (ρ g)⟩

theorem ren_isAgg (σ : List (Nat × Nat)) (x : SV) : (x.ren σ).isAgg = x.isAgg := by cases x <;> rfl
theorem ren_mkS (σ : List (Nat × Nat)) (x : SV) (cs : List Value) : mkS (x.ren σ) cs = mkS x cs := by simp only [mkS, ren_isAgg]

mutual
theorem repS_ren {w : World} {G : Gh} {σ : List (Nat × Nat)} : ∀ (x : SV) (cs : List Value), RepS w G (x.ren σ) cs ↔ RepS w (G.at (Al.ren σ)) x cs
  | .imm x, cs => by simp only [SV.ren, RepS, Gh.at]
  | .ptr g off, cs => by simp only [SV.ren, RepS, Gh.at]
  | .slg g n l, cs => by simp only [SV.ren, RepS, Gh.at]
  | .osl g o a b, cs => by simp only [SV.ren, RepS, Gh.at]
  | .agg fs, cs => by simp only [SV.ren, RepS]; exact repSs_ren fs cs
  | .fnv f a b, cs => by
    simp only [SV.ren, RepS]
    constructor
    · rintro ⟨fs, gs, h1, h2, h3⟩; exact ⟨fs, gs, h1, (repSv_ren a fs).1 h2, (repSv_ren b gs).1 h3⟩
    · rintro ⟨fs, gs, h1, h2, h3⟩; exact ⟨fs, gs, h1, (repSv_ren a fs).2 h2, (repSv_ren b gs).2 h3⟩
  | .mref g, cs => by simp only [SV.ren, RepS, Gh.at]
  | .dead, cs => by simp only [SV.ren, RepS]
  | .undef, cs => by simp only [SV.ren, RepS]
  | .tup fs, cs => by simp only [SV.ren, RepS]
  | .box T x, cs => by simp only [SV.ren, RepS]
  | .tok n l, cs => by simp only [SV.ren, RepS]
  | .mpr ks vs, cs => by simp only [SV.ren, RepS]
  | .row l, cs => by simp only [SV.ren, RepS]
  | .itr m n s, cs => by simp only [SV.ren, RepS]
  | .ifp T g off, cs => by simp only [SV.ren, RepS, Gh.at]
  | .gen R, cs => by simp only [SV.ren, RepS]
theorem repSs_ren {w : World} {G : Gh} {σ : List (Nat × Nat)} : ∀ (xs : List SV) (cs : List Value), RepSs w G (SV.rens σ xs) cs ↔ RepSs w (G.at (Al.ren σ)) xs cs
  | [], cs => by simp only [SV.rens, RepSs]
  | x :: xs, cs => by
    simp only [SV.rens, RepSs]
    constructor
    · rintro ⟨c1, c2, h1, h2, h3⟩; exact ⟨c1, c2, h1, (repS_ren x c1).1 h2, (repSs_ren xs c2).1 h3⟩
    · rintro ⟨c1, c2, h1, h2, h3⟩; exact ⟨c1, c2, h1, (repS_ren x c1).2 h2, (repSs_ren xs c2).2 h3⟩
theorem repSv_ren {w : World} {G : Gh} {σ : List (Nat × Nat)} : ∀ (xs : List SV) (cs : List Value), RepSv w G (SV.rens σ xs) cs ↔ RepSv w (G.at (Al.ren σ)) xs cs
  | [], cs => by simp only [SV.rens, RepSv]
  | x :: xs, cs => by
    simp only [SV.rens, RepSv, ren_mkS]
    constructor
    · rintro ⟨c1, c2, h1, h2, h3⟩; exact ⟨c1, c2, h1, (repS_ren x c1).1 h2, (repSv_ren xs c2).1 h3⟩
    · rintro ⟨c1, c2, h1, h2, h3⟩; exact ⟨c1, c2, h1, (repS_ren x c1).2 h2, (repSv_ren xs c2).2 h3⟩
end

theorem valS_ren {w : World} {G : Gh} {σ : List (Nat × Nat)} {x : SV} {v : Value} : ValS w G (x.ren σ) v ↔ ValS w (G.at (Al.ren σ)) x v := by
  simp only [ValS, repS_ren, ren_mkS]
theorem valSs_ren {w : World} {G : Gh} {σ : List (Nat × Nat)} : ∀ {xs : List SV} {vs : List Value}, ValSs w G (SV.rens σ xs) vs ↔ ValSs w (G.at (Al.ren σ)) xs vs
  | [], vs => by simp only [SV.rens, ValSs]
  | x :: xs, vs => by
    simp only [SV.rens, ValSs, valS_ren]
    constructor
    · rintro ⟨v, r, h1, h2, h3⟩; exact ⟨v, r, h1, h2, valSs_ren.1 h3⟩
    · rintro ⟨v, r, h1, h2, h3⟩; exact ⟨v, r, h1, h2, valSs_ren.2 h3⟩
theorem slotS_ren {w : World} {G : Gh} {σ : List (Nat × Nat)} {x : SV} {v : Value} : SlotS w G (x.ren σ) v ↔ SlotS w (G.at (Al.ren σ)) x v := by
  cases x <;> simp only [SV.ren, SlotS] <;> first | exact Iff.rfl | skip
  case tup fs => simp only [valSs_ren]
  all_goals first | exact valS_ren (σ := σ) (x := .imm _) | exact valS_ren (σ := σ) (x := .ptr _ _) | exact valS_ren (σ := σ) (x := .slg _ _ _) | exact valS_ren (σ := σ) (x := .osl _ _ _ _) | exact valS_ren (σ := σ) (x := .agg _) | exact valS_ren (σ := σ) (x := .fnv _ _ _) | exact valS_ren (σ := σ) (x := .mref _) | exact valS_ren (σ := σ) (x := .ifp _ _ _)

theorem ownsB_ren {G : Gh} {σ : List (Nat × Nat)} {k b : Nat} {x : SV} : ownsB G (ren σ k) b (x.ren σ) ↔ ownsB (G.at (ren σ)) k b x := by
  cases x <;> simp only [SV.ren, ownsB, Gh.at]

theorem holds_ren {w0 : World} {E : Nat → Prop} {G : Gh} {a : Act} {w : World} {σ : List (Nat × Nat)} {k : Nat} {x : SV} (hx : x.res = true) :
    Holds w0 E G a w (ren σ k) (x.ren σ) ↔ Holds w0 E (G.at (ren σ)) a w k x := by
  cases x <;> first | cases hx | skip
  case box T x => simp only [SV.ren, Holds, BoxS, Gh.at, repS_ren]
  case tok n l => simp only [SV.ren, Holds, Gh.at]
  case mpr ks vs => simp only [SV.ren, Holds, Gh.at]
  case row l => simp only [SV.ren, Holds, Gh.at]
  case itr m n s => simp only [SV.ren, Holds, Gh.at]
  case gen R => simp only [SV.ren, Holds, Gh.at]

/-! ### Ghosts that agree -/

def Agree (gs : List Nat) (G1 G2 : Gh) : Prop := ∀ g ∈ gs, G2.blk g = G1.blk g ∧ G2.cur g = G1.cur g ∧ G2.len g = G1.len g

theorem Agree.left {xs ys : List Nat} {G1 G2 : Gh} (h : Agree (xs ++ ys) G1 G2) : Agree xs G1 G2 := fun g hg => h g (List.mem_append_left _ hg)
theorem Agree.right {xs ys : List Nat} {G1 G2 : Gh} (h : Agree (xs ++ ys) G1 G2) : Agree ys G1 G2 := fun g hg => h g (List.mem_append_right _ hg)

mutual
theorem RepS.agree {w : World} {G1 G2 : Gh} (hI : G2.I = G1.I) : ∀ (x : SV) (cs : List Value), Agree (ments x) G1 G2 → RepS w G1 x cs → RepS w G2 x cs
  | .imm x, cs, h, r => by simp only [RepS] at r ⊢; rw [hI]; exact r
  | .ptr g off, cs, h, r => by simp only [RepS] at r ⊢; rw [(h g (by simp [ments])).1]; exact r
  | .slg g n l, cs, h, r => by simp only [RepS] at r ⊢; rw [hI, (h g (by simp [ments])).2.1, (h g (by simp [ments])).2.2]; exact r
  | .osl g o a b, cs, h, r => by simp only [RepS] at r ⊢; rw [(h g (by simp [ments])).1]; exact r
  | .agg fs, cs, h, r => by simp only [RepS] at r ⊢; exact RepSs.agree hI fs cs (by simpa only [ments] using h) r
  | .fnv f a b, cs, h, r => by
    simp only [RepS] at r ⊢
    simp only [ments] at h
    obtain ⟨fs, gs, h1, h2, h3⟩ := r
    exact ⟨fs, gs, h1, RepSv.agree hI a fs h.left h2, RepSv.agree hI b gs h.right h3⟩
  | .mref g, cs, h, r => by simp only [RepS] at r ⊢; rw [(h g (by simp [ments])).1]; exact r
  | .dead, _, _, r => by simp only [RepS] at r
  | .undef, _, _, r => by simp only [RepS] at r
  | .tup _, _, _, r => by simp only [RepS] at r
  | .box _ _, _, _, r => by simp only [RepS] at r
  | .tok _ _, _, _, r => by simp only [RepS] at r
  | .mpr _ _, _, _, r => by simp only [RepS] at r
  | .row _, _, _, r => by simp only [RepS] at r
  | .itr _ _ _, _, _, r => by simp only [RepS] at r
  | .gen _, _, _, r => by simp only [RepS] at r
  | .ifp T g off, cs, h, r => by simp only [RepS] at r ⊢; rw [(h g (by simp [ments])).1]; exact r
theorem RepSs.agree {w : World} {G1 G2 : Gh} (hI : G2.I = G1.I) : ∀ (xs : List SV) (cs : List Value), Agree (mentss xs) G1 G2 → RepSs w G1 xs cs → RepSs w G2 xs cs
  | [], cs, h, r => by simpa only [RepSs] using r
  | x :: xs, cs, h, r => by
    simp only [RepSs] at r ⊢
    simp only [mentss] at h
    obtain ⟨c1, c2, h1, h2, h3⟩ := r
    exact ⟨c1, c2, h1, RepS.agree hI x c1 h.left h2, RepSs.agree hI xs c2 h.right h3⟩
theorem RepSv.agree {w : World} {G1 G2 : Gh} (hI : G2.I = G1.I) : ∀ (xs : List SV) (cs : List Value), Agree (mentss xs) G1 G2 → RepSv w G1 xs cs → RepSv w G2 xs cs
  | [], cs, h, r => by simpa only [RepSv] using r
  | x :: xs, cs, h, r => by
    simp only [RepSv] at r ⊢
    simp only [mentss] at h
    obtain ⟨c1, c2, h1, h2, h3⟩ := r
    exact ⟨c1, c2, h1, RepS.agree hI x c1 h.left h2, RepSv.agree hI xs c2 h.right h3⟩
end

theorem ValS.agree {w : World} {G1 G2 : Gh} (hI : G2.I = G1.I) {x : SV} {v : Value} (h : Agree (ments x) G1 G2) (r : ValS w G1 x v) : ValS w G2 x v :=
  let ⟨c, h1, h2⟩ := r; ⟨c, RepS.agree hI x c h h1, h2⟩
theorem ValSs.agree {w : World} {G1 G2 : Gh} (hI : G2.I = G1.I) : ∀ {xs : List SV} {vs : List Value}, Agree (mentss xs) G1 G2 → ValSs w G1 xs vs → ValSs w G2 xs vs
  | [], _, _, r => r
  | x :: xs, vs, h, ⟨v, r, h1, h2, h3⟩ => by
    simp only [mentss] at h
    exact ⟨v, r, h1, h2.agree hI h.left, ValSs.agree hI h.right h3⟩
theorem SlotS.agree {w : World} {G1 G2 : Gh} (hI : G2.I = G1.I) {x : SV} {v : Value} (h : Agree (ments x) G1 G2) (r : SlotS w G1 x v) : SlotS w G2 x v := by
  cases x <;> simp only [SlotS] at r ⊢
  case undef => exact r
  case tup fs => obtain ⟨vs, h1, h2⟩ := r; exact ⟨vs, h1, h2.agree hI (by simpa only [ments] using h)⟩
  all_goals exact ValS.agree hI h r

theorem Holds.agree {w0 : World} {E : Nat → Prop} {G1 G2 : Gh} {a : Act} {w : World} {k : Nat} {x : SV} (hI : G2.I = G1.I) (hx : x.res = true) (h : Agree (k :: ments x) G1 G2) (r : Holds w0 E G1 a w k x) : Holds w0 E G2 a w k x := by
  obtain ⟨e1, e2, e3⟩ := h k List.mem_cons_self
  have hm : Agree (ments x) G1 G2 := fun g hg => h g (List.mem_cons_of_mem _ hg)
  cases x <;> first | cases hx | skip
  case box T x =>
    simp only [Holds] at r ⊢
    obtain ⟨h1, ⟨cs, fr, h2, h3, h4⟩, h5⟩ := r
    rw [e1]
    exact ⟨h1, ⟨cs, fr, h2, RepS.agree hI _ _ (by simpa only [ments] using hm) h3, h4⟩, by rw [hI]; exact h5⟩
  case tok n l => simp only [Holds] at r ⊢; rw [e2, e3, hI]; exact r
  case mpr ks vs => simp only [Holds] at r ⊢; rw [e1, hI]; exact r
  case row l => simp only [Holds] at r ⊢; rw [e2, e3, hI]; exact r
  case itr m n s => simp only [Holds] at r ⊢; rw [e1, hI, (hm m (by simp [ments])).1]; exact r
  case gen R => simp only [Holds] at r ⊢; rw [hI]; exact r

theorem ownsB_agree {G1 G2 : Gh} {k b : Nat} {x : SV} (h : G2.blk k = G1.blk k ∧ G2.cur k = G1.cur k) : ownsB G2 k b x ↔ ownsB G1 k b x := by
  cases x <;> simp only [ownsB, h.1, h.2]

/-- Whose a block is may be told anew. -/
theorem Holds.reown {w0 w1 : World} {E E' : Nat → Prop} {G : Gh} {a a' : Act} {w : World} {k : Nat} {x : SV} (hx : x.res = true) (r : Holds w0 E G a w k x) (h : ∀ b, ownsB G k b x → b < w.heap.size → (w0.heap.size ≤ b ∨ E b) → w1.heap.size ≤ b ∨ E' b) : Holds w1 E' G a' w k x := by
  cases x <;> first | cases hx | skip
  case box T x =>
    simp only [Holds] at r ⊢
    exact ⟨⟨h _ (by simp [ownsB]) r.1.2 r.1.1, r.1.2⟩, r.2⟩
  case tok n l =>
    simp only [Holds] at r ⊢
    refine ⟨r.1, ?_⟩
    rcases r.2 with h' | ⟨b, cap, h1, h2, h3, h4, h5, h6⟩
    · exact .inl h'
    · exact .inr ⟨b, cap, h1, h2, h3, h4, ⟨h b ⟨_, _, _, h1, rfl⟩ h5.2 h5.1, h5.2⟩, h6⟩
  case row l =>
    simp only [Holds] at r ⊢
    refine ⟨r.1, ?_⟩
    rcases r.2 with h' | ⟨b, cap, h1, h2, h3, h4, h5⟩
    · exact .inl h'
    · exact .inr ⟨b, cap, h1, h2, h3, ⟨h b ⟨_, _, _, h1, rfl⟩ h4.2 h4.1, h4.2⟩, h5⟩
  case mpr ks vs =>
    simp only [Holds] at r ⊢
    exact ⟨⟨h _ (by simp [ownsB]) r.1.2 r.1.1, r.1.2⟩, r.2⟩
  case itr m n s =>
    simp only [Holds] at r ⊢
    exact ⟨⟨h _ (by simp [ownsB]) r.1.2 r.1.1, r.1.2⟩, r.2⟩
  case gen R =>
    simp only [Holds] at r ⊢
    exact ⟨fun b hb => ⟨h b (by simpa only [ownsB] using hb) (r.1 b hb).2 (r.1 b hb).1, (r.1 b hb).2⟩, r.2⟩

theorem Holds.owned {w0 : World} {E : Nat → Prop} {G : Gh} {a : Act} {w : World} {k b : Nat} {x : SV} (r : Holds w0 E G a w k x) (h : ownsB G k b x) : (w0.heap.size ≤ b ∨ E b) ∧ b < w.heap.size := by
  cases x <;> simp only [ownsB] at h <;> simp only [Holds] at r
  case box T x => rw [← h]; exact r.1
  case mpr ks vs => rw [← h]; exact r.1
  case row l =>
    obtain ⟨ad, n', c, h1, h2⟩ := h
    rcases r.2 with ⟨e, _⟩ | ⟨b', cap, e, _, _, h5, _⟩
    · rw [e] at h1; cases h1
    · rw [e] at h1; cases h1; rw [← h2]; exact h5
  case itr m n s => rw [← h]; exact r.1
  case gen R => exact r.1 b h
  case tok n l =>
    obtain ⟨ad, n', c, h1, h2⟩ := h
    rcases r.2 with ⟨e, _⟩ | ⟨b', cap, e, _, _, _, h5, _⟩
    · rw [e] at h1; cases h1
    · rw [e] at h1; cases h1; rw [← h2]; exact h5

/-! ### Contracts of functions that turn what they are handed -/

/-- The blocks of some ghosts. -/
def HOwn (G : Gh) (H : St) (b : Nat) : Prop := ∃ k, ownsB G k b (look H k)

def act0 : Act := ⟨#[], []⟩

def MPre (Γ : List (Nat × AV)) (w : World) (G : Gh) (xs : List SV) (H : St) (args : List Value) : Prop :=
  (∀ b o, G.I b o → b < w.heap.size) ∧ Glob Γ w G.I ∧ ValSs w G xs args ∧ (∀ k, Holds w (HOwn G H) G act0 w k (look H k)) ∧ ∀ k j b, k ≠ j → ownsB G k b (look H k) → ownsB G j b (look H j) → False

structure MDone (w : World) (G : Gh) (K : Nat) (H : St) (r : SV) (H' : St) (w' : World) (v : Value) (G' : Gh) : Prop where
  os : w'.os = w.os
  tape : w'.tape = w.tape
  output : w'.output = w.output
  size : w.heap.size ≤ w'.heap.size
  block : ∀ k, k < w.heap.size → ¬ HOwn G H k → w'.heap[k]? = w.heap[k]?
  le : Le w G.I w' G'.I
  new : ∀ b o, G'.I b o → G.I b o ∨ w.heap.size ≤ b ∨ HOwn G H b
  val : ∀ b o, G'.I b o → b < w'.heap.size
  rel : ∀ g, K ≤ g → Turns G G' g
  holds : ∀ k, Holds w (HOwn G H) G' act0 w' k (look H' k)
  apart : ∀ k j b, k ≠ j → ownsB G' k b (look H' k) → ownsB G' j b (look H' j) → False
  res : SlotS w' G' r v

def MPost (w : World) (G : Gh) (K : Nat) (H : St) (r : SV) (H' : St) (e : Ending) (w' : World) : Prop :=
  ∃ v G', e = .returned v ∧ MDone w G K H r H' w' v G'

/-- What a function does with what it is handed, and with what is owned by some ghosts; those from K on are the caller's. -/
def MCall (P : Program) (Γ : List (Nat × AV)) (f : FuncId) (xs : List SV) (H : St) (r : SV) (H' : St) : Prop :=
  callable P f = true ∧ ∀ w G args, MPre Γ w G xs H args → Calls P f (List.toArray args) w (MPost w G 100000 H r H')

/-! #### The function's side -/

def paramsS : Nat → List SV → St → St
  | _, [], H => H
  | k, x :: xs, H => (k, x) :: paramsS (k + 1) xs H

theorem paramsS_look : ∀ (xs : List SV) (H : St) (k j : Nat) (x : SV), xs[j]? = some x → look (paramsS k xs H) (k + j) = x
  | [], _, _, _, _, h => by simp at h
  | y :: xs, H, k, 0, x, h => by simp at h; subst h; simp [paramsS, look, upd]
  | y :: xs, H, k, j + 1, x, h => by
    simp only [paramsS, look, upd]
    rw [nat_beq_false (by omega)]
    have := paramsS_look xs H (k + 1) j x (by simpa using h)
    simp only [cond_false]
    rw [show k + (j + 1) = k + 1 + j from by omega]
    exact this
theorem paramsS_none : ∀ (xs : List SV) (H : St) (k i : Nat), (i < k ∨ k + xs.length ≤ i) → look (paramsS k xs H) i = look H i
  | [], _, _, _, _ => rfl
  | y :: xs, H, k, i, h => by
    simp only [paramsS, look, upd]
    rw [nat_beq_false (by simp at h; omega)]
    exact paramsS_none xs H (k + 1) i (by simp at h; omega)

theorem valSs_len {w : World} {G : Gh} : ∀ {xs : List SV} {vs : List Value}, ValSs w G xs vs → vs.length = xs.length
  | [], _, h => by simp only [ValSs] at h; simp [h]
  | x :: xs, vs, ⟨v, r, h1, _, h3⟩ => by simp [h1, valSs_len h3]

/-- All that is handed over lies under ghosts from N on; all else is what slots may hold. -/
def resAll (N : Nat) : St → Bool
  | [] => true
  | (k, x) :: r => x.res && Nat.ble N k && resAll N r

theorem resAll_spec {N : Nat} : ∀ {H : St}, resAll N H = true → ∀ k, look H k = .dead ∨ ((look H k).res = true ∧ N ≤ k)
  | [], _, k => .inl rfl
  | (j, x) :: r, h, k => by
    simp only [resAll, Bool.and_eq_true] at h
    simp only [look, upd]
    cases hb : Nat.beq j k
    · exact resAll_spec h.2 k
    · have := Nat.eq_of_beq_eq_true hb
      subst this
      exact .inr ⟨h.1.1, Nat.le_of_ble_eq_true h.1.2⟩

theorem start_simM {P : Program} {Γ : List (Nat × AV)} {w : World} {G : Gh} {xs : List SV} {H : St} {args : List Value} {N K : Nat} (h : MPre Γ w G xs H args) (hN : xs.length ≤ N) (hH : resAll N H = true) (hs : xs.all SV.slotty = true) :
    Sim ⟨P, w, G.I, HOwn G H, N, K, G, Γ, [], none⟩ (look (paramsS 0 xs H)) { tmps := (List.toArray args) ++ Array.replicate (N - (List.toArray args).size) Go.undef, defers := [] } w := by
  obtain ⟨hv, hgl, hargs, hh, hap⟩ := h
  have hl := valSs_len hargs
  have own : ∀ k b, ownsB G k b (look (paramsS 0 xs H) k) → ownsB G k b (look H k) := by
    intro k b hb
    cases hx : xs[k]? with
    | none => rw [paramsS_none xs H 0 k (.inr (by simpa using hx))] at hb; exact hb
    | some x =>
      have := paramsS_look xs H 0 k x hx
      rw [Nat.zero_add] at this
      rw [this] at hb
      have hsl := List.all_eq_true.1 hs x (List.mem_of_getElem? hx)
      cases x <;> first | (simp only [ownsB] at hb; done) | cases hsl
  refine ⟨G, rfl, rfl, rfl, Nat.le_refl _, fun _ _ _ => rfl, Le.refl _ _, fun _ _ => ⟨rfl, .inl ⟨rfl, rfl⟩⟩, hgl, fun _ _ h => .inl h, hv, by simp; omega, rfl, fun k => ?_, fun k j b hkj h1 h2 => hap k j b hkj (own k b h1) (own j b h2)⟩
  cases hx : xs[k]? with
  | none =>
    rw [paramsS_none xs H 0 k (.inr (by simpa using hx))]
    rcases resAll_spec hH k with e | ⟨e, _⟩
    · rw [e]; simp only [Holds]
    · exact (hh k).reown e (fun b _ _ h => h)
  | some x =>
    have := paramsS_look xs H 0 k x hx
    rw [Nat.zero_add] at this
    rw [this]
    obtain ⟨v, h1, h2⟩ := valSs_get hargs hx
    have hk : k < args.length := (List.getElem?_eq_some_iff.1 h1).1
    have hsl := List.all_eq_true.1 hs x (List.mem_of_getElem? hx)
    refine Holds.slot (by simp; omega) (val_slotty hsl ?_)
    have : (List.toArray args ++ Array.replicate (N - (List.toArray args).size) Go.undef).getD k Go.undef = v := by
      rw [Array.getD_eq_getD_getElem?]
      rw [Array.getElem?_append_left (by simpa using hk)]
      simp [h1]
    rw [this]; exact h2

/-- One result. -/
def retOneM (P : Program) (st : St) (rv : ResultVar) (r : SV) : Prop :=
  (∃ y, r = .imm y ∧ retOne P st rv y) ∨ (∃ t, rv = .tmp t ∧ look st t = r ∧ r.slotty = true)

def retAllM (P : Program) (st : St) : List ResultVar → List SV → Prop
  | [], [] => True
  | x :: xs, r :: rs => retOneM P st x r ∧ retAllM P st xs rs
  | _, _ => False

theorem ret_one {C : Cx} {st : St} {G : Gh} {a : Act} {w : World} (S : SimG C (look st) G a w) {x : ResultVar} {r : AV} (h : retOne C.P st x r) : ∃ v, (rvSem a.tmps x).run C.P w = .ok v w ∧ Rep w G.I r v := by
  obtain ⟨vs, h1, h2⟩ := ret_run S [x] [r] ⟨h, trivial⟩
  simp only [List.mapM_cons, List.mapM_nil, Sem.run_bind, Sem.run_pure] at h1
  cases hx : (rvSem a.tmps x).run C.P w with
  | ok v w1 =>
    rw [hx] at h1
    simp only [Result.andThen_ok, Result.ok.injEq] at h1
    obtain ⟨rfl, rfl⟩ := h1
    obtain ⟨v', h3, h4⟩ := repVs_get (j := 0) h2 rfl
    simp at h3; subst h3
    exact ⟨v, rfl, h4⟩
  | halt s w1 => rw [hx] at h1; simp [Result.andThen] at h1

theorem ret_runM {C : Cx} {st : St} {G : Gh} {a : Act} {w : World} (S : SimG C (look st) G a w) : ∀ (xs : List ResultVar) (rs : List SV), retAllM C.P st xs rs →
    ∃ vs, (xs.mapM (rvSem a.tmps)).run C.P w = .ok vs w ∧ ValSs w G rs vs
  | [], [], _ => ⟨[], by simp, rfl⟩
  | [], _ :: _, h => h.elim
  | _ :: _, [], h => h.elim
  | x :: xs, r :: rs, h => by
    obtain ⟨h1, h2⟩ := h
    obtain ⟨vs, h3, h4⟩ := ret_runM S xs rs h2
    have key : ∃ v, (rvSem a.tmps x).run C.P w = .ok v w ∧ ValS w G r v := by
      rcases h1 with ⟨y, rfl, h1⟩ | ⟨t, rfl, h1, hs⟩
      · obtain ⟨v, k1, k2⟩ := ret_one S h1
        exact ⟨v, k1, valS_imm.2 k2⟩
      · exact ⟨_, rfl, slotty_val hs (S.slot h1 (SV.slotty_res hs))⟩
    obtain ⟨v, m1, m2⟩ := key
    exact ⟨v :: vs, by simp only [List.mapM_cons, Sem.run_bind, m1, Result.andThen_ok, h3, Sem.run_pure], v, vs, rfl, m2, h4⟩

def resM : List SV → SV
  | [r] => r
  | rs => .tup rs

def PostM (P : Program) (fn : Func) (rs : List SV) (H' : St) : Exit → St → Prop
  | .normal, st => retAllM P st fn.results.toList rs ∧ sub st H'
  | .ret, st => retAllM P st fn.results.toList rs ∧ sub st H'
  | _, _ => False

theorem mcall_of {P : Program} {Γ : List (Nat × AV)} {f : FuncId} {fn : Func} {c : Code} {N : Nat} {xs rs : List SV} {H H' : St} (hf : P.funcs[f]? = some fn) (hb : fn.body = some c) (hnt : fn.ntmps = N) (hcal : callable P f = true)
    (hN : Nat.ble xs.length N = true) (hH : resAll N H = true) (hH' : resAll 0 H' = true) (hs : xs.all SV.slotty = true) (hrs : rs.all SV.slotty = true)
    (h : ∀ w0 I0 G0 E, AW ⟨P, w0, I0, E, N, 100000, G0, Γ, [], none⟩ c (paramsS 0 xs H) (PostM P fn rs H')) : MCall P Γ f xs H (resM rs) H' := by
  refine ⟨hcal, fun w G args hpre => ?_⟩
  refine calls_of_wp hf hb ?_
  rw [hnt]
  have S0 := start_simM (P := P) (K := 100000) hpre (Nat.le_of_ble_eq_true hN) hH hs
  refine wp_mono ((wpIn_wide (n := 0)).1 (h w G.I G (HOwn G H) _ w S0 0)) ?_
  rintro e a' w' ⟨st', q, G', S⟩
  have fin : retAllM P st' fn.results.toList rs ∧ sub st' H' → a'.defers = [] ∧ ∃ v, (results fn a'.tmps).run P w' = .ok v w' ∧ MPost w G 100000 H (resM rs) H' (.returned v) w' := by
    rintro ⟨q, hsub⟩
    refine ⟨S.dfs, ?_⟩
    obtain ⟨vs, h1, h2⟩ := ret_runM S _ _ q
    have hrun : (results fn a'.tmps).run P w' = .ok (if h : vs.length = 1 then vs[0] else .tuple (List.toArray vs)) w' := by
      have e : results fn a'.tmps = (do let vs ← fn.results.mapM (rvSem a'.tmps); pure (if h : vs.size = 1 then vs[0] else .tuple vs)) := by
        unfold results
        congr 1
      rw [e, Array.mapM_eq_mapM_toList]
      simp only [Sem.run_bind, Sem.run_map, h1, Result.andThen_ok, Sem.run_pure]
      simp
    have hlen := valSs_len h2
    have hdead : ∀ k, look H' k = .dead ∨ (look H' k = look st' k ∧ (look H' k).res = true) := by
      intro k
      rcases sub_spec hsub k with e | e
      · exact .inl e
      · rcases resAll_spec hH' k with e' | ⟨e', _⟩
        · exact .inl e'
        · exact .inr ⟨e, e'⟩
    refine ⟨_, hrun, _, G', rfl, S.os, S.tape, S.output, S.size, S.block, S.sub, S.new, S.val, S.rel, fun k => ?_, fun k j b hkj k1 k2 => ?_, ?_⟩
    · rcases hdead k with e | ⟨e, hr⟩
      · rw [e]; simp only [Holds]
      · have := S.holds k
        rw [← e] at this
        exact this.reown hr (fun b _ _ h => h)
    · rcases hdead k with e | ⟨e, _⟩
      · rw [e] at k1; simp only [ownsB] at k1
      · rcases hdead j with e' | ⟨e', _⟩
        · rw [e'] at k2; simp only [ownsB] at k2
        · rw [e] at k1; rw [e'] at k2; exact S.apart k j b hkj k1 k2
    · match rs, h2, hrs with
      | [], h2, _ =>
        simp only [ValSs] at h2; subst h2
        simp only [resM, SlotS]
        exact ⟨[], rfl, rfl⟩
      | [r], h2, hrs =>
        obtain ⟨v, q', rfl, h3, rfl⟩ := h2
        simp only [resM]
        exact val_slotty (by simpa using hrs) (by simpa using h3)
      | r :: s :: rs, h2, _ =>
        have : ¬ vs.length = 1 := by simp at hlen; omega
        rw [dif_neg this]
        simp only [resM, SlotS]
        exact ⟨vs, rfl, h2⟩
  cases e <;> first | exact fin q | exact q.elim

/-! #### The caller's side -/

/-- What is handed fits what is asked. -/
def argsOk (σ : List (Nat × Nat)) : List SV → List SV → Prop
  | [], [] => True
  | a :: as, x :: xs => (a = x.ren σ ∨ ∃ y, toAV a = some y ∧ x = .imm y) ∧ argsOk σ as xs
  | _, _ => False

theorem argsOk_spec {w : World} {G : Gh} {σ : List (Nat × Nat)} : ∀ {as xs : List SV} {vs : List Value}, argsOk σ as xs → ValSs w G as vs → ValSs w (G.at (ren σ)) xs vs
  | [], [], _, _, r => r
  | a :: as, x :: xs, vs, ⟨h1, h2⟩, ⟨v, r, e, h3, h4⟩ => by
    refine ⟨v, r, e, ?_, argsOk_spec h2 h4⟩
    rcases h1 with rfl | ⟨y, hy, rfl⟩
    · exact valS_ren.1 h3
    · obtain ⟨c, k1, k2⟩ := h3
      exact valS_imm.2 ⟨c, toAV_spec (G := G) a y c hy k1, by rw [k2, mkS, mkV, toAV_agg hy]⟩
  | [], _ :: _, _, h, _ => h.elim
  | _ :: _, [], _, h, _ => h.elim

def opSl (A : Nat → SV) (xs : List Operand) : List SV := xs.map (opS A)

theorem opSl_congr {A A' : Nat → SV} : ∀ {xs : List Operand}, (∀ k ∈ opRs xs, A' k = A k) → opSl A' xs = opSl A xs
  | [], _ => rfl
  | x :: xs, h => by
    simp only [opSl, List.map_cons]
    rw [opS_congr (fun k hk => h k (List.mem_append_left _ hk))]
    have := opSl_congr (A := A) (A' := A') (xs := xs) (fun k hk => h k (List.mem_append_right _ hk))
    simp only [opSl] at this
    rw [this]

theorem SimG.opSl {C : Cx} {A : Nat → SV} {G : Gh} {a : Act} {w : World} (S : SimG C A G a w) : ∀ {xs : List Operand}, (Al.opSl A xs).all SV.slotty = true → ValSs w G (Al.opSl A xs) (xs.map a.eval)
  | [], _ => rfl
  | x :: xs, h => by
    simp only [Al.opSl, List.map_cons, List.all_cons, Bool.and_eq_true] at h
    exact ⟨_, _, rfl, slotty_val h.1 (S.opS rfl (SV.slotty_res h.1)), SimG.opSl S h.2⟩

theorem valSs_append {w : World} {G : Gh} : ∀ {xs ys : List SV} {us vs : List Value}, ValSs w G xs us → ValSs w G ys vs → ValSs w G (xs ++ ys) (us ++ vs)
  | [], _, _, _, h1, h2 => by simp only [ValSs] at h1; subst h1; exact h2
  | x :: xs, ys, us, vs, ⟨v, r, e, h3, h4⟩, h2 => by subst e; exact ⟨v, _, rfl, h3, valSs_append h4 h2⟩

theorem repSv_val {w : World} {G : Gh} : ∀ {xs : List SV} {vs : List Value}, RepSv w G xs vs → ValSs w G xs vs
  | [], _, h => by simpa only [RepSv, ValSs] using h
  | x :: xs, vs, h => by
    simp only [RepSv] at h
    obtain ⟨c, r, h1, h2, h3⟩ := h
    exact ⟨_, r, h1, ⟨c, h2, rfl⟩, repSv_val h3⟩

/-- The names that a renaming gives, and the places where it does. -/
def cod (σ : List (Nat × Nat)) : List Nat := σ.map (·.2)
def dom (σ : List (Nat × Nat)) : List Nat := σ.map (·.1)

def distinct : List Nat → Bool
  | [] => true
  | x :: xs => !(xs.elem x) && distinct xs

theorem ren_mem {σ : List (Nat × Nat)} : ∀ {k : Nat}, k ∈ dom σ → ren σ k ∈ cod σ := by
  induction σ with
  | nil => intro k h; cases h
  | cons p r ih =>
    intro k h
    obtain ⟨f, a⟩ := p
    simp only [ren]
    cases hb : Nat.beq f k
    · simp only [dom, List.map_cons, List.mem_cons] at h
      rcases h with h | h
      · subst h; rw [Nat.beq_refl] at hb; cases hb
      · exact List.mem_cons_of_mem _ (ih h)
    · exact List.mem_cons_self

theorem ren_inj {σ : List (Nat × Nat)} (hc : distinct (cod σ) = true) : ∀ {j k : Nat}, j ∈ dom σ → k ∈ dom σ → ren σ j = ren σ k → j = k := by
  induction σ with
  | nil => intro j k h; cases h
  | cons p r ih =>
    intro j k hj hk h
    obtain ⟨f, a⟩ := p
    simp only [cod, List.map_cons, distinct, Bool.and_eq_true, Bool.not_eq_true'] at hc
    have hne : ∀ i, i ∈ dom r → ren r i ≠ a := by
      intro i hi e
      have := ren_mem hi
      rw [e] at this
      have h2 : (List.map (fun x => x.2) r).elem a = true := List.elem_eq_true_of_mem this
      rw [h2] at hc
      exact absurd hc.1 (by simp)
    have hmem : ∀ i, i ∈ dom ((f, a) :: r) → Nat.beq f i = false → i ∈ dom r := by
      intro i hi hb
      simp only [dom, List.map_cons, List.mem_cons] at hi
      rcases hi with rfl | hi
      · rw [Nat.beq_refl] at hb; cases hb
      · exact hi
    simp only [ren] at h
    cases hbj : Nat.beq f j <;> cases hbk : Nat.beq f k <;> rw [hbj, hbk] at h <;> simp only [cond_true, cond_false] at h
    · exact ih hc.2 (hmem j hj hbj) (hmem k hk hbk) h
    · exact absurd h (hne j (hmem j hj hbj))
    · exact absurd h.symm (hne k (hmem k hk hbk))
    · rw [← Nat.eq_of_beq_eq_true hbj, ← Nat.eq_of_beq_eq_true hbk]

theorem ren_surj {σ : List (Nat × Nat)} (hd : distinct (dom σ) = true) : ∀ {g : Nat}, g ∈ cod σ → ∃ k, k ∈ dom σ ∧ ren σ k = g := by
  induction σ with
  | nil => intro g h; cases h
  | cons p r ih =>
    intro g h
    obtain ⟨f, a⟩ := p
    simp only [dom, List.map_cons, distinct, Bool.and_eq_true, Bool.not_eq_true'] at hd
    simp only [cod, List.map_cons, List.mem_cons] at h
    rcases h with rfl | h
    · exact ⟨f, List.mem_cons_self, by simp [ren, Nat.beq_refl]⟩
    · obtain ⟨k, h1, h2⟩ := ih hd.2 h
      refine ⟨k, List.mem_cons_of_mem _ h1, ?_⟩
      have : f ≠ k := by
        rintro rfl
        have h3 : (List.map (fun x => x.1) r).elem f = true := List.elem_eq_true_of_mem h1
        rw [h3] at hd
        exact absurd hd.1 (by simp)
      simp only [ren, nat_beq_false this, cond_false]; exact h2

/-- What stands under the actual names behind the call. -/
def postOf (σ : List (Nat × Nat)) (H' : St) : St := σ.map fun p => (p.2, (look H' p.1).ren σ)

theorem postOf_has {σ : List (Nat × Nat)} {H' : St} {g : Nat} : has (postOf σ H') g = true ↔ g ∈ cod σ := by
  rw [has_iff]
  simp only [keysOf, postOf, cod, List.map_map]
  exact Iff.rfl

theorem postOf_look {σ : List (Nat × Nat)} {H' : St} (hd : distinct (dom σ) = true) (hc : distinct (cod σ) = true) (A : Nat → SV) {k : Nat} (hk : k ∈ dom σ) : upd A (postOf σ H') (ren σ k) = (look H' k).ren σ := by
  have key : ∀ (τ : List (Nat × Nat)), (∀ p ∈ τ, ren σ p.1 = p.2 ∧ p.1 ∈ dom σ) → k ∈ dom τ → upd A (τ.map fun p => (p.2, (look H' p.1).ren σ)) (ren σ k) = (look H' k).ren σ := by
    intro τ
    induction τ with
    | nil => intro _ h; cases h
    | cons p r ih =>
      intro hp hk'
      obtain ⟨f, a⟩ := p
      obtain ⟨h1, h2⟩ := hp (f, a) List.mem_cons_self
      simp only at h1 h2
      simp only [List.map_cons, upd]
      by_cases hfk : f = k
      · subst hfk; rw [h1, Nat.beq_refl]; rfl
      · have : a ≠ ren σ k := by
          intro e; rw [← h1] at e; exact hfk (ren_inj hc h2 hk e)
        rw [nat_beq_false this]
        simp only [cond_false]
        refine ih (fun p hp' => hp p (List.mem_cons_of_mem _ hp')) ?_
        simp only [dom, List.map_cons, List.mem_cons] at hk'
        rcases hk' with e | h
        · exact absurd e.symm hfk
        · exact h
  refine key σ ?_ hk
  have aux : ∀ (τ : List (Nat × Nat)), distinct (dom τ) = true → ∀ p ∈ τ, ren τ p.1 = p.2 := by
    intro τ
    induction τ with
    | nil => intro _ p h; cases h
    | cons q r ih =>
      intro h p hp
      obtain ⟨f, a⟩ := q
      simp only [dom, List.map_cons, distinct, Bool.and_eq_true, Bool.not_eq_true'] at h
      rcases List.mem_cons.1 hp with rfl | hp'
      · simp [ren, Nat.beq_refl]
      · have hne : f ≠ p.1 := by
          rintro rfl
          have h3 : (List.map (fun x => x.1) r).elem p.1 = true := List.elem_eq_true_of_mem (List.mem_map_of_mem hp')
          rw [h3] at h
          exact absurd h.1 (by simp)
        simp only [ren, nat_beq_false hne, cond_false]
        exact ih h.2 p hp'
  exact fun p hp => ⟨aux σ hd p hp, List.mem_map_of_mem hp⟩

/-- Which ghosts are named anew: those of the function's own. -/
def newOf (σ : List (Nat × Nat)) : List Nat := (σ.filter fun p => Nat.blt p.1 100000).map (·.2)

/-- The handed-over memory is there, under the actual names. -/
def hasAll (A : Nat → SV) (σ : List (Nat × Nat)) : St → Prop
  | [] => True
  | (k, x) :: r => A (ren σ k) = x.ren σ ∧ hasAll A σ r

def within (σ : List (Nat × Nat)) (l : List Nat) : Bool := l.all fun g => (dom σ).elem g

theorem hasAll_spec {A : Nat → SV} {σ : List (Nat × Nat)} : ∀ {H : St}, hasAll A σ H → ∀ k, look H k = .dead ∨ (A (ren σ k) = (look H k).ren σ ∧ k ∈ keysOf H)
  | [], _, k => .inl rfl
  | (j, x) :: r, ⟨h1, h2⟩, k => by
    simp only [look, upd]
    cases hb : Nat.beq j k
    · rcases hasAll_spec h2 k with e | ⟨e, e2⟩
      · exact .inl e
      · exact .inr ⟨e, by simp only [keysOf, List.map_cons]; exact List.mem_cons_of_mem _ e2⟩
    · have := Nat.eq_of_beq_eq_true hb
      subst this
      exact .inr ⟨h1, List.mem_cons_self⟩

theorem hasAll_congr {A A' : Nat → SV} {σ : List (Nat × Nat)} (h : ∀ g ∈ cod σ, A' g = A g) : ∀ {H : St}, (∀ k ∈ keysOf H, k ∈ dom σ) → hasAll A σ H → hasAll A' σ H
  | [], _, _ => trivial
  | (j, x) :: r, hk, ⟨h1, h2⟩ => ⟨(h _ (ren_mem (hk j List.mem_cons_self))).trans h1, hasAll_congr h (fun k hk' => hk k (List.mem_cons_of_mem _ hk')) h2⟩

def inv : List (Nat × Nat) → Nat → Option Nat
  | [], _ => none
  | (f, a) :: r, g => bif Nat.beq a g then some f else inv r g

theorem inv_ren {σ : List (Nat × Nat)} (hd : distinct (dom σ) = true) (hc : distinct (cod σ) = true) {k : Nat} (hk : k ∈ dom σ) : inv σ (ren σ k) = some k := by
  have key : ∀ (τ : List (Nat × Nat)), (∀ p ∈ τ, ren σ p.1 = p.2 ∧ p.1 ∈ dom σ) → k ∈ dom τ → inv τ (ren σ k) = some k := by
    intro τ
    induction τ with
    | nil => intro _ h; cases h
    | cons p r ih =>
      intro hp hk'
      obtain ⟨f, a⟩ := p
      obtain ⟨h1, h2⟩ := hp (f, a) List.mem_cons_self
      simp only at h1 h2
      simp only [inv]
      by_cases hfk : f = k
      · subst hfk; rw [h1, Nat.beq_refl]; rfl
      · have : a ≠ ren σ k := by
          intro e; rw [← h1] at e; exact hfk (ren_inj hc h2 hk e)
        rw [nat_beq_false this]
        simp only [cond_false]
        refine ih (fun p hp' => hp p (List.mem_cons_of_mem _ hp')) ?_
        simp only [dom, List.map_cons, List.mem_cons] at hk'
        rcases hk' with e | h
        · exact absurd e.symm hfk
        · exact h
  refine key σ ?_ hk
  have aux : ∀ (τ : List (Nat × Nat)), distinct (dom τ) = true → ∀ p ∈ τ, ren τ p.1 = p.2 := by
    intro τ
    induction τ with
    | nil => intro _ p h; cases h
    | cons q r ih =>
      intro h p hp
      obtain ⟨f, a⟩ := q
      simp only [dom, List.map_cons, distinct, Bool.and_eq_true, Bool.not_eq_true'] at h
      rcases List.mem_cons.1 hp with rfl | hp'
      · simp [ren, Nat.beq_refl]
      · have hne : f ≠ p.1 := by
          rintro rfl
          have h3 : (List.map (fun x => x.1) r).elem p.1 = true := List.elem_eq_true_of_mem (List.mem_map_of_mem hp')
          rw [h3] at h
          exact absurd h.1 (by simp)
        simp only [ren, nat_beq_false hne, cond_false]
        exact ih h.2 p hp'
  exact fun p hp => ⟨aux σ hd p hp, List.mem_map_of_mem hp⟩
theorem inv_none {σ : List (Nat × Nat)} : ∀ {g : Nat}, g ∉ cod σ → inv σ g = none := by
  induction σ with
  | nil => intro g _; rfl
  | cons p r ih =>
    intro g h
    obtain ⟨f, a⟩ := p
    simp only [cod, List.map_cons, List.mem_cons, not_or] at h
    simp only [inv, nat_beq_false (Ne.symm h.1), cond_false]
    exact ih h.2

/-- The ghosts behind a call. -/
def mergeG (G G' : Gh) (σ : List (Nat × Nat)) : Gh :=
  ⟨G'.I, fun g => match inv σ g with | some k => G'.blk k | none => G.blk g, fun g => match inv σ g with | some k => G'.cur k | none => G.cur g, fun g => match inv σ g with | some k => G'.len k | none => G.len g⟩

/-- What a renaming has to be like. -/
def renOk (N K : Nat) (σ : List (Nat × Nat)) (H H' : St) (r : SV) : Bool :=
  distinct (dom σ) && distinct (cod σ) && within σ (keysOf H) && within σ (keysOf H') && within σ (mentsOf H') && within σ (ments r) && (cod σ).all (Nat.ble N ·) && (newOf σ).all (Nat.blt · K) && (keysOf H).all (fun k => Nat.ble 100000 k)

theorem within_spec {σ : List (Nat × Nat)} {l : List Nat} (h : within σ l = true) : ∀ g ∈ l, g ∈ dom σ := fun g hg => by
  have := List.all_eq_true.1 h g hg
  exact List.elem_iff.1 this

theorem ments_look : ∀ (H : St) (k : Nat), ∀ g ∈ ments (look H k), g ∈ mentsOf H
  | [], k, g, h => by simp [look, upd, ments] at h
  | (j, x) :: r, k, g, h => by
    simp only [look, upd] at h
    simp only [mentsOf, List.mem_append]
    cases hb : Nat.beq j k <;> rw [hb] at h
    · exact .inr (ments_look r k g h)
    · exact .inl h

/-- The call's state behind it. -/
theorem SimG.mcalled {C : Cx} {A : Nat → SV} {G : Gh} {a : Act} {w w' : World} (S : SimG C A G a w) {σ : List (Nat × Nat)} {H H' : St} {r : SV} {v : Value} {G' : Gh}
    (hok : renOk C.N C.K σ H H' r = true) (hres : resAll 0 H = true) (hres' : resAll 0 H' = true) (hH : hasAll A σ H) (hF : ∀ k, k ∉ cod σ → noG (newOf σ) (A k) = true)
    (D : MDone w (G.at (ren σ)) 100000 H r H' w' v G') :
    SimG C (upd A (postOf σ H')) (mergeG G G' σ) a w' ∧ SlotS w' (mergeG G G' σ) (r.ren σ) v := by
  simp only [renOk, Bool.and_eq_true] at hok
  obtain ⟨⟨⟨⟨⟨⟨⟨⟨hd, hc⟩, hkH⟩, hkH'⟩, hmH'⟩, hmr⟩, hcN⟩, hnK⟩, h105⟩ := hok
  have hkH := within_spec hkH
  have hkH' := within_spec hkH'
  have hmH' := within_spec hmH'
  have hmr := within_spec hmr
  -- the merged ghosts, by formal names
  have hat : ∀ k ∈ dom σ, (mergeG G G' σ).blk (ren σ k) = G'.blk k ∧ (mergeG G G' σ).cur (ren σ k) = G'.cur k ∧ (mergeG G G' σ).len (ren σ k) = G'.len k := by
    intro k hk
    simp only [mergeG, inv_ren hd hc hk]; exact ⟨trivial, trivial, trivial⟩
  have hoff : ∀ g, g ∉ cod σ → (mergeG G G' σ).blk g = G.blk g ∧ (mergeG G G' σ).cur g = G.cur g ∧ (mergeG G G' σ).len g = G.len g := by
    intro g hg
    simp only [mergeG, inv_none hg]; exact ⟨trivial, trivial, trivial⟩
  have hag : ∀ l : List Nat, (∀ g ∈ l, g ∈ dom σ) → Agree l G' ((mergeG G G' σ).at (ren σ)) := fun l hl g hg => by
    obtain ⟨e1, e2, e3⟩ := hat g (hl g hg)
    exact ⟨e1, e2, e3⟩
  have hIe : ((mergeG G G' σ).at (ren σ)).I = G'.I := rfl
  -- what is owned by the handed-over memory
  have hown : ∀ b, HOwn (G.at (ren σ)) H b → ∃ k, k ∈ dom σ ∧ ownsB G (ren σ k) b (A (ren σ k)) := by
    rintro b ⟨k, hb⟩
    rcases hasAll_spec hH k with e | ⟨e, hk⟩
    · rw [e] at hb; simp only [ownsB] at hb
    · exact ⟨k, hkH k hk, by rw [e]; exact ownsB_ren.2 hb⟩
  have hownE : ∀ b, HOwn (G.at (ren σ)) H b → C.w0.heap.size ≤ b ∨ C.E b := by
    intro b hb
    obtain ⟨k, _, h⟩ := hown b hb
    exact ((S.holds _).owned h).1
  -- how the ghosts turn
  have hturn : ∀ g, g ∉ newOf σ → Turns G (mergeG G G' σ) g := by
    intro g hg
    by_cases hgc : g ∈ cod σ
    · obtain ⟨k, hk, rfl⟩ := ren_surj hd hgc
      have hk5 : 100000 ≤ k := by
        rcases Nat.lt_or_ge k 100000 with h | h
        · refine absurd ?_ hg
          have aux : ∀ (τ : List (Nat × Nat)), k ∈ dom τ → ren τ k ∈ newOf τ := by
            intro τ
            induction τ with
            | nil => intro h; cases h
            | cons p r ih =>
              intro hk'
              obtain ⟨f, a⟩ := p
              simp only [ren]
              cases hb : Nat.beq f k
              · simp only [dom, List.map_cons, List.mem_cons] at hk'
                rcases hk' with e | e
                · subst e; rw [Nat.beq_refl] at hb; cases hb
                · have := ih e
                  simp only [cond_false]
                  simp only [newOf, List.filter_cons] at this ⊢
                  split
                  · exact List.mem_cons_of_mem _ this
                  · exact this
              · have := Nat.eq_of_beq_eq_true hb
                subst this
                simp only [cond_true, newOf, List.filter_cons]
                rw [if_pos (by simpa [Nat.blt_eq] using h)]
                exact List.mem_cons_self
          exact aux σ hk
        · exact h
      obtain ⟨e1, e2, e3⟩ := hat k hk
      have := D.rel k hk5
      refine ⟨by rw [e1]; exact this.1, ?_⟩
      rw [e2, e3]; exact this.2
    · obtain ⟨e1, e2, e3⟩ := hoff g hgc
      exact ⟨e1, .inl ⟨e2, e3⟩⟩
  have hrel : GRel (newOf σ) G (mergeG G G' σ) := fun g hg => hturn g hg
  have hle : Le w G.I w' (mergeG G G' σ).I := D.le
  have hnK' : ∀ g ∈ newOf σ, g < C.K := fun g hg => by simpa [Nat.blt_eq] using List.all_eq_true.1 hnK g hg
  -- the states of keys
  have hin : ∀ k ∈ dom σ, upd A (postOf σ H') (ren σ k) = (look H' k).ren σ := fun k hk => postOf_look hd hc A hk
  have hout : ∀ g, g ∉ cod σ → upd A (postOf σ H') g = A g := fun g hg => upd_of_not _ _ _ (by
    cases hh : has (postOf σ H') g
    · rfl
    · exact absurd (postOf_has.1 hh) hg)
  have howned' : ∀ k b, ownsB G' k b (look H' k) → (w.heap.size ≤ b ∨ HOwn (G.at (ren σ)) H b) ∧ b < w'.heap.size := fun k b hb => (D.holds k).owned hb
  -- who owns what, behind it
  have conv : ∀ g b, ownsB (mergeG G G' σ) g b (upd A (postOf σ H') g) → (∃ k, k ∈ dom σ ∧ g = ren σ k ∧ ownsB G' k b (look H' k)) ∨ (g ∉ cod σ ∧ ownsB G g b (A g)) := by
    intro g b hb
    by_cases hgc : g ∈ cod σ
    · obtain ⟨k, hk, rfl⟩ := ren_surj hd hgc
      rw [hin k hk] at hb
      have := ownsB_ren.1 hb
      obtain ⟨e1, e2, _⟩ := hat k hk
      exact .inl ⟨k, hk, rfl, (ownsB_agree (G1 := G') (G2 := (mergeG G G' σ).at (ren σ)) ⟨e1, e2⟩).1 this⟩
    · rw [hout g hgc] at hb
      obtain ⟨e1, e2, _⟩ := hoff g hgc
      exact .inr ⟨hgc, (ownsB_agree ⟨e1, e2⟩).1 hb⟩
  have hsep : ∀ g b, g ∉ cod σ → ownsB G g b (A g) → b < w.heap.size ∧ ¬ HOwn (G.at (ren σ)) H b := by
    intro g b hg hb
    refine ⟨ownsB_lt S hb, fun h => ?_⟩
    obtain ⟨k, hk, hkb⟩ := hown b h
    exact S.apart (ren σ k) g b (by rintro rfl; exact hg (ren_mem hk)) hkb hb
  refine ⟨⟨D.os.trans S.os, D.tape.trans S.tape, D.output.trans S.output, Nat.le_trans S.size D.size, fun k h1 h2 => ?_, S.sub.trans hle, fun g hg => ?_, S.glob.mono hle, fun b o h => ?_, D.val, S.nts, S.dfs, fun g => ?_, fun g j b hgj h1 h2 => ?_⟩, ?_⟩
  · rw [D.block k (Nat.lt_of_lt_of_le h1 S.size) (fun h => by
      rcases hownE k h with h | h
      · omega
      · exact h2 h)]
    exact S.block k h1 h2
  · exact (S.rel g hg).trans (hturn g (fun h => by have := hnK' g h; omega))
  · rcases D.new b o h with h | h | h
    · exact S.new b o h
    · exact .inr (.inl (Nat.le_trans S.size h))
    · exact .inr (hownE b h)
  · by_cases hgc : g ∈ cod σ
    · obtain ⟨k, hk, rfl⟩ := ren_surj hd hgc
      rw [hin k hk]
      rcases resAll_spec hres' k with e | ⟨e, _⟩
      · rw [e]; simp only [SV.ren, Holds]
      · refine (holds_ren e).2 ?_
        have h1 := D.holds k
        have h2 : Holds w (HOwn (G.at (ren σ)) H) ((mergeG G G' σ).at (ren σ)) act0 w' k (look H' k) := h1.agree hIe e (hag _ (fun g hg => by
          rcases List.mem_cons.1 hg with rfl | hg
          · exact hk
          · exact hmH' g (ments_look H' k g hg)))
        refine h2.reown e fun b hb _ ho => ?_
        rcases ho with ho | ho
        · exact .inl (Nat.le_trans S.size ho)
        · exact hownE b ho
    · rw [hout g hgc]
      refine (S.holds g).keep hle hrel (hF g hgc) D.size (fun h => ⟨h, rfl⟩) (fun _ => hoff g hgc) (fun b hb => ?_)
      obtain ⟨h1, h2⟩ := hsep g b hgc hb
      refine ⟨D.block b h1 h2, fun o hi => ?_⟩
      rcases D.new b o hi with h | h | h
      · exact h
      · omega
      · exact absurd h h2
  · rcases conv g b h1 with ⟨k, hk, rfl, e1⟩ | ⟨hg, e1⟩
    · rcases conv j b h2 with ⟨k', hk', rfl, e2⟩ | ⟨hj, e2⟩
      · exact D.apart k k' b (by rintro rfl; exact hgj rfl) e1 e2
      · obtain ⟨h3, h4⟩ := hsep j b hj e2
        rcases (howned' k b e1).1 with h | h
        · omega
        · exact h4 h
    · rcases conv j b h2 with ⟨k', hk', rfl, e2⟩ | ⟨hj, e2⟩
      · obtain ⟨h3, h4⟩ := hsep g b hg e1
        rcases (howned' k' b e2).1 with h | h
        · omega
        · exact h4 h
      · exact S.apart g j b hgj e1 e2
  · exact slotS_ren.2 (D.res.agree hIe (hag _ hmr))

/-- What the caller hands over is what is asked. -/
theorem SimG.mpre {C : Cx} {A : Nat → SV} {G : Gh} {a : Act} {w : World} (S : SimG C A G a w) {σ : List (Nat × Nat)} {H : St} {as xs : List SV} {vs : List Value} (hres : resAll 0 H = true) (hc : distinct (cod σ) = true) (hkH : ∀ k ∈ keysOf H, k ∈ dom σ)
    (hH : hasAll A σ H) (hv : ValSs w G as vs) (ha : argsOk σ as xs) : MPre C.Γ w (G.at (ren σ)) xs H vs := by
  refine ⟨S.val, S.glob, argsOk_spec ha hv, fun k => ?_, fun k j b hkj h1 h2 => ?_⟩
  · rcases hasAll_spec hH k with e | ⟨e, hk⟩
    · rw [e]; simp only [Holds]
    · rcases resAll_spec hres k with e' | ⟨e', _⟩
      · rw [e']; simp only [Holds]
      · have h := S.holds (ren σ k)
        rw [e] at h
        exact ((holds_ren e').1 h).reown e' fun b hb _ _ => .inr ⟨k, hb⟩
  · have conv : ∀ k, ownsB (G.at (ren σ)) k b (look H k) → k ∈ dom σ ∧ ownsB G (ren σ k) b (A (ren σ k)) := by
      intro k hb
      rcases hasAll_spec hH k with e | ⟨e, hk⟩
      · rw [e] at hb; simp only [ownsB] at hb
      · exact ⟨hkH k hk, by rw [e]; exact ownsB_ren.2 hb⟩
    obtain ⟨e1, e2⟩ := conv k h1
    obtain ⟨e3, e4⟩ := conv j h2
    exact S.apart _ _ b (fun e => hkj (ren_inj hc e1 e3 e)) e2 e4

section
variable {C : Cx} {A : Nat → SV} {d : Nat} {ty : TypeId} {pos : String} {af : Array Edge} {gd : Option (Nat × Bool)} {x y : Operand} {T T' : TypeId}

/-- What a slot says of the function in it. -/
def fnOf : SV → Option (FuncId × List SV × List SV)
  | .fnv (.func f) a b => some (f, a, b)
  | .imm (.fn (.func f) a b) => some (f, a.map .imm, b.map .imm)
  | _ => none

theorem repVs_valSs {w : World} {G : Gh} : ∀ {xs : List AV} {vs : List Value}, RepVs w G.I xs vs → ValSs w G (xs.map .imm) vs
  | [], _, h => by simpa only [RepVs, List.map_nil, ValSs] using h
  | x :: xs, vs, h => by
    simp only [RepVs] at h
    obtain ⟨c, r, h1, h2, h3⟩ := h
    exact ⟨_, r, h1, valS_imm.2 ⟨c, h2, rfl⟩, repVs_valSs h3⟩

theorem fnOf_spec {w : World} {G : Gh} {x : SV} {f : FuncId} {first caps : List SV} {v : Value} (h : fnOf x = some (f, first, caps)) (hx : SlotS w G x v) :
    ∃ fs gs, v = .func (.func f) (List.toArray fs) (List.toArray gs) ∧ ValSs w G first fs ∧ ValSs w G caps gs := by
  unfold fnOf at h
  split at h
  · cases h
    obtain ⟨c, h1, h2⟩ := hx
    simp only [RepS] at h1
    obtain ⟨fs, gs, rfl, h3, h4⟩ := h1
    exact ⟨fs, gs, h2, repSv_val h3, repSv_val h4⟩
  · cases h
    obtain ⟨c, h1, h2⟩ := valS_imm.1 hx
    simp only [RepC] at h1
    obtain ⟨fs, gs, rfl, h3, h4⟩ := h1
    exact ⟨fs, gs, h2, repVs_valSs h3, repVs_valSs h4⟩
  · cases h

theorem fnOf_res {x : SV} {p : FuncId × List SV × List SV} (h : fnOf x = some p) : x.res = false := by
  cases x <;> first | rfl | cases h

def dstPost (d : Option Nat) (r : SV) : St := match d with | some d => [(d, r)] | none => []
def dstOk (N : Nat) (d : Option Nat) (r : SV) : Bool := match d with | some d => Nat.blt d N | none => true

/-- A call that turns what is handed. -/
theorem s_mcallv {d : Option Nat} {f : FuncId} {cal : Operand} {args : Array Operand} {ats : Array TypeId} {first caps xs : List SV} {H H' : St} {r : SV} (σ : List (Nat × Nat)) (hc : MCall C.P C.Γ f xs H r H') (hN : dstOk C.N d (r.ren σ) = true)
    (hf : fnOf (opS A cal) = some (f, first, caps)) (hsl : (opSl A args.toList).all SV.slotty = true) (ha : argsOk σ (first ++ opSl A args.toList ++ caps) xs) (hH : hasAll A σ H)
    (hok : renOk C.N C.K σ H H' r = true) (hres : resAll 0 H = true) (hres' : resAll 0 H' = true) :
    StepU C ⟨d, .call { callee := .value cal, args := args, argTypes := ats }, ty, pos, af, gd⟩ (cod σ ++ (opR cal ++ opRs args.toList)) (newOf σ) A (dstPost d (r.ren σ) ++ postOf σ H') := by
  intro A' a w hR hF ⟨G, S⟩
  have hok0 := hok
  simp only [renOk, Bool.and_eq_true] at hok0
  obtain ⟨⟨⟨⟨⟨⟨⟨⟨hd, hcd⟩, hkH⟩, hkH'⟩, _⟩, _⟩, hcN⟩, _⟩, _⟩ := hok0
  rw [← opS_congr (fun k hk => hR k (List.mem_append_right _ (List.mem_append_left _ hk)))] at hf
  have eS := opSl_congr (A := A) (A' := A') (xs := args.toList) (fun k hk => hR k (List.mem_append_right _ (List.mem_append_right _ hk)))
  rw [← eS] at hsl ha
  have hH' := hasAll_congr (A := A) (A' := A') (fun g hg => hR g (List.mem_append_left _ hg)) (within_spec hkH) hH
  have hSc := S.opS rfl (fnOf_res hf)
  obtain ⟨fs, gs, hev, h3, h4⟩ := fnOf_spec hf hSc
  have hargs := S.opSl hsl
  have hvals := valSs_append (valSs_append h3 hargs) h4
  have hpre := S.mpre hres hcd (within_spec hkH) hH' hvals ha
  have hcall := hc.2 w _ _ hpre
  have hrun : (execOp a.eval ⟨d, .call { callee := .value cal, args := args, argTypes := ats }, ty, pos, af, gd⟩).run C.P w = .ok (.enter f (List.toArray (fs ++ args.toList.map a.eval ++ gs))) w := by
    simp only [execOp, resolve, hev, Deferred.ofValue, Sem.run_bind, Sem.run_pure, Result.andThen_ok, invoke, run_callFunc hc.1]
    congr 1
    simp
  unfold Oper.wp
  rw [hrun, Oper.upon_enter]
  refine hcall.mono ?_
  rintro e w' ⟨v, G', rfl, D⟩
  have hF' : ∀ k, k ∉ cod σ → noG (newOf σ) (A' k) = true ∨ d = some k := by
    intro k hk
    by_cases hdk : d = some k
    · exact .inr hdk
    · refine .inl (hF k ?_)
      cases hh : has (dstPost d (r.ren σ) ++ postOf σ H') k
      · rfl
      · exfalso
        have h1 := (has_iff _ _).1 hh
        simp only [keysOf, List.map_append, List.mem_append] at h1
        rcases h1 with h1 | h1
        · cases d with
          | none => simp [dstPost] at h1
          | some d => simp [dstPost] at h1; exact hdk (by rw [h1])
        · exact hk (postOf_has.1 ((has_iff _ _).2 h1))
  cases d with
  | none =>
    obtain ⟨S', _⟩ := S.mcalled hok hres hres' hH' (fun k hk => (hF' k hk).resolve_right (by simp)) D
    exact ⟨_, by simpa [dstPost, Act.put] using S'⟩
  | some d =>
    have hdN : d < C.N := by simpa [dstOk, Nat.blt_eq] using hN
    have hdc : d ∉ cod σ := fun h => by
      have := Nat.le_of_ble_eq_true (List.all_eq_true.1 hcN d h)
      omega
    -- what stood in the slot of the result matters no more
    have Sw := S.weak (B := upd A' [(d, .dead)]) (fun k => by
      rw [upd_one]
      split
      · exact .inl rfl
      · exact .inr rfl)
    have hHw : hasAll (upd A' [(d, .dead)]) σ H := hasAll_congr (A := A') (fun g hg => by
      rw [upd_one, if_neg (by rintro rfl; exact hdc hg)]) (within_spec hkH) hH'
    obtain ⟨S', hv⟩ := Sw.mcalled hok hres hres' hHw (fun k hk => by
      rw [upd_one]
      split
      · rfl
      · rename_i hkd
        exact (hF' k hk).resolve_right (fun e => hkd (by cases e; rfl))) D
    have S2 := S'.put hdN hv
    have e : upd (upd (upd A' [(d, .dead)]) (postOf σ H')) [(d, r.ren σ)] = upd A' (dstPost (some d) (r.ren σ) ++ postOf σ H') := by
      funext k
      rw [upd_one]
      simp only [dstPost, List.cons_append, List.nil_append, upd]
      by_cases hkd : k = d
      · subst hkd; simp [Nat.beq_refl]
      · rw [if_neg hkd, nat_beq_false (Ne.symm hkd)]
        simp only [cond_false]
        cases hh : has (postOf σ H') k
        · rw [upd_of_not _ _ _ hh, upd_of_not _ _ _ hh]
          first | (rw [upd_one, if_neg hkd]; done) | (rw [nat_beq_false (Ne.symm hkd)]; rfl)
        · exact upd_congr _ _ hh
    rw [e] at S2
    exact ⟨_, S2⟩

theorem s_mcall {d : Option Nat} {f : FuncId} {args : Array Operand} {ats : Array TypeId} {xs : List SV} {H H' : St} {r : SV} (σ : List (Nat × Nat)) (hc : MCall C.P C.Γ f xs H r H') (hN : dstOk C.N d (r.ren σ) = true)
    (hsl : (opSl A args.toList).all SV.slotty = true) (ha : argsOk σ (opSl A args.toList) xs) (hH : hasAll A σ H)
    (hok : renOk C.N C.K σ H H' r = true) (hres : resAll 0 H = true) (hres' : resAll 0 H' = true) :
    StepU C ⟨d, .call { callee := .value (.func f), args := args, argTypes := ats }, ty, pos, af, gd⟩ (cod σ ++ opRs args.toList) (newOf σ) A (dstPost d (r.ren σ) ++ postOf σ H') := by
  have := s_mcallv (C := C) (A := A) (d := d) (ty := ty) (pos := pos) (af := af) (gd := gd) (cal := .func f) (ats := ats) (first := []) (caps := []) σ hc hN rfl hsl (by simpa using ha) hH hok hres hres'
  exact this

end
end Go.Al

namespace Go.Al
open Go.RowKit

/-! ### What was a variable's box is shared, and read only from now on -/


section
variable {w : World} {G : Gh} {g : Nat} {y : AV} {cs0 : List Value} (hy : RepC w G.I y cs0) (hc : CellsAt w G.I (G.blk g) 0 cs0)
include hy hc
end

/-! ### Functions made, interfaces -/
section
variable {C : Cx} {A : Nat → SV} {d : Nat} {ty : TypeId} {pos : String} {af : Array Edge} {gd : Option (Nat × Bool)} {x y : Operand} {T T' : TypeId}

def notIface (P : Program) (T : TypeId) : Prop := ∃ u, P.underlying T = some u ∧ (match u with | .interface _ => false | _ => true) = true

end
end Go.Al

namespace Go.Al
open Go.RowKit

/-! ### Arrays of bytes -/
section
variable {C : Cx} {A : Nat → SV} {d : Nat} {ty : TypeId} {pos : String} {af : Array Edge} {gd : Option (Nat × Bool)} {x y : Operand} {T T' : TypeId}

/-- The address of an element of an array of one's own. -/
theorem s_ixOwn {g off n : Nat} {el : TypeId} {i : Int} {k : IntKind} (hN : Nat.blt d C.N = true) (hx : opS A x = .ptr g off) (hy : opV A y = some (.v (.int k i))) (hT : C.P.underlying T = some (.array n el)) (hn : tySize C.P el = some 1)
    (h : 0 ≤ i ∧ i < n) : StepU C ⟨some d, .indexAddr T x y, ty, pos, af, gd⟩ (opR x ++ opR y) [] A [(d, .ptr g (off + i.toNat))] := by
  refine StepU.value rfl hN fun A' G a w hR S => ?_
  obtain ⟨c, hc1, hc2⟩ := S.opS ((opS_congr (fun k hk => hR k (List.mem_append_left _ hk))).trans hx) rfl
  simp only [RepS] at hc1
  have hev : a.eval x = .pointer (some ⟨G.blk g, off, none⟩) := by rw [hc2, hc1]; rfl
  rw [← opV_congr (fun k hk => hR k (List.mem_append_right _ hk))] at hy
  have hi := rep_int (S.opV hy)
  refine ⟨.pointer (some ⟨G.blk g, off + i.toNat, none⟩), ?_, [.pointer (some ⟨G.blk g, off + i.toNat, none⟩)], by simp only [RepS], rfl⟩
  simp only [execOp, Instr.indexAt, hi, hev, asIntOf, Instr.sureAddr, Sem.run_bind, Sem.run_pure, Result.andThen_ok, run_underlying' hT, h, and_self, if_true, run_sizeOf hn, addr_add, Nat.mul_one]

/-- A byte put into an array of one's own. -/
theorem s_storeByte {g o n : Nat} {l : List UInt8} {v : Int} {T0 : TypeId} (h : opS A x = .ptr g o) (hg : A g = .box T0 (.imm (.arr n l))) (hy : opV A y = some (.v (.int .u8 v))) (hn : tySize C.P T = some 1) (ho : o < n) (hv : 0 ≤ v ∧ v < 256) :
    StepU C ⟨none, .store T x y, ty, pos, af, gd⟩ (g :: (opR x ++ opR y)) [] A [(g, .box T0 (.imm (.arr n (l.set o (ofI v)))))] := by
  intro A' a w hR hF ⟨G, S⟩
  have hgA : A' g = .box T0 (.imm (.arr n l)) := (hR g List.mem_cons_self).trans hg
  obtain ⟨c, hc1, hc2⟩ := S.opS ((opS_congr (fun k hk => hR k (List.mem_cons_of_mem _ (List.mem_append_left _ hk)))).trans h) rfl
  simp only [RepS] at hc1
  have hev : a.eval x = .pointer (some ⟨G.blk g, o, none⟩) := by rw [hc2, hc1]; rfl
  rw [← opV_congr (fun k hk => hR k (List.mem_cons_of_mem _ (List.mem_append_right _ hk)))] at hy
  have hi := rep_int (S.opV hy)
  have hb := S.holds g
  rw [hgA] at hb
  simp only [Holds] at hb
  obtain ⟨_, ⟨cs, fr, hb2, hb3, hb4⟩, _⟩ := hb
  simp only [RepS, RepC] at hb3
  have hsz : cs.size = n := by rw [← Array.length_toList, hb3.1, List.length_map, hb3.2]
  have hcl : (a.eval y).cells.toList = [.int .u8 v] := by rw [hi]; rfl
  unfold Oper.wp
  have hrun : (storeVar T ⟨G.blk g, o, none⟩ (a.eval y)).run C.P w = .ok () (setBlk w (G.blk g) (.cells (splice cs o [.int .u8 v]) T0 fr)) := by
    simp only [storeVar, Sem.run_bind, run_sizeOf hn, Result.andThen_ok]
    rw [if_neg (by rw [hi]; simp [Value.cells])]
    rw [hcl]
    exact run_storeCells' _ w cs hb2 hb4 (by simp; omega) rfl
  simp only [execOp, Instr.storeAt, Instr.sureAddr, hev, Sem.run_bind, Sem.run_pure, Result.andThen_ok, hrun]
  rw [Oper.upon_skip]
  refine S.storeBox hgA hb2 (splice_size _ _ _) ?_
  rw [splice_list _ _ _ (by simp; omega)]
  simp only [RepS, RepC, List.length_set]
  refine ⟨?_, hb3.2⟩
  rw [hb3.1]
  have e : byteV (ofI v) = .int .u8 v := by
    have := byteV_ofInt hv
    simpa [ofI] using this
  rw [← e]
  apply List.ext_getElem
  · simp; omega
  · intro i h1 h2
    simp only [List.getElem_map, List.getElem_set]
    simp only [List.length_append, List.length_take, List.length_map, List.length_cons, List.length_nil, List.length_drop] at h1
    by_cases hio : o = i
    · subst hio
      rw [if_pos rfl, List.getElem_append_left (by simp; omega), List.getElem_append_right (by simp only [List.length_take, List.length_map]; omega)]
      simp
    · rw [if_neg hio]
      by_cases hlt : i < o
      · rw [List.getElem_append_left (by simp; omega), List.getElem_append_left (by simp; omega)]
        simp
      · rw [List.getElem_append_right (by simp; omega)]
        simp only [List.getElem_drop, List.getElem_map]
        congr 2
        simp
        omega

/-- A slice of an array that is only read. -/
theorem run_slArr {P : Program} {w : World} {I : Nat → Nat → Prop} {n lo : Nat} {l : List UInt8} {v : Value} {el : TypeId} (hv : Rep w I (.cp (.arr n l)) v) (hT : P.underlying T = some (.array n el)) (hn : tySize P el = some 1) (hl : lo ≤ n) (hm : n ≤ maxLen) {ylo : Option Value}
    (h2 : (match ylo with | some v => ∃ k i, v = .int k i ∧ i = (lo : Int) | none => lo = 0)) :
    ∃ u, (Instr.sliceAt T v ylo none none).run P w = .ok u w ∧ Rep w I (.sl 1 (bytesL (l.drop lo))) u := by
  obtain ⟨b, o, c, rfl, hc, hat⟩ := rep_cp hv
  simp only [RepC] at hc
  obtain ⟨rfl, hln⟩ := hc
  have hrun : (Instr.sliceAt T (.pointer (some ⟨b, o, none⟩)) ylo none none).run P w = .ok (.slice (some (if n = lo then ⟨b, o, none⟩ else ⟨b, o + lo, none⟩)) (n - lo) (n - lo)) w := by
    have hb : (Instr.sliceBounds false n n ylo none none).run P w = .ok (lo, n, n) w := by
      cases ylo with
      | none => simp only [] at h2; subst h2; simp only [Instr.sliceBounds, Sem.run_bind, Sem.run_pure, Result.andThen_ok]
      | some u =>
        obtain ⟨k, i, rfl, hi⟩ := h2
        simp only [Instr.sliceBounds, Sem.run_bind, Sem.run_pure, Result.andThen_ok, Option.isSome_none, Bool.false_eq_true, if_false, run_bound hi hl]
    simp only [Instr.sliceAt, Sem.run_bind, run_underlying' hT, Result.andThen_ok, Instr.sureAddr, Sem.run_pure, hb, run_sizeOf hn, addr_add, Nat.mul_one]
  refine ⟨_, hrun, [_], ?_, rfl⟩
  simp only [RepC]
  refine ⟨_, rfl, ?_⟩
  have hlen : (bytesL (l.drop lo)).length = n - lo := by simp [bytesL, hln]
  by_cases h0 : n = lo
  · left
    refine ⟨some ⟨b, o, none⟩, 0, by rw [if_pos h0]; simp [h0], ?_, Nat.zero_le _, fun h => by cases h⟩
    exact List.eq_nil_of_length_eq_zero (by rw [hlen]; omega)
  · right
    refine ⟨b, o + lo, n - lo, by rw [if_neg h0, hlen], by rw [hlen]; exact Nat.le_refl _, by omega, ?_⟩
    refine (repE_bytes (w := w) (I := I) (l.drop lo)).mem ?_
    have := hat.sub lo (n - lo) (by simp; omega)
    have e : ((l.map byteV).drop lo).take (n - lo) = (l.drop lo).map byteV := by
      rw [← List.map_drop, List.take_of_length_le (by simp; omega)]
    rw [e] at this
    exact this

end
end Go.Al

namespace Go.Al
open Go.RowKit

/-! ### A nil slice read as an empty list of whatever -/

def Up (x y : AV) : Prop := y.isAgg = x.isAgg ∧ y.width = x.width ∧ ∀ w I c, RepC w I x c → RepC w I y c

theorem Up.refl (x : AV) : Up x x := ⟨rfl, rfl, fun _ _ _ h => h⟩
theorem Up.trans {x y z : AV} (h : Up x y) (k : Up y z) : Up x z := ⟨k.1.trans h.1, k.2.1.trans h.2.1, fun w I c r => k.2.2 w I c (h.2.2 w I c r)⟩
theorem Up.nil (n : Nat) : Up (.v (.slice none 0 0)) (.sl n []) := by
  refine ⟨rfl, rfl, fun w I c h => ?_⟩
  simp only [RepC] at h ⊢
  exact ⟨_, h.1, .inl ⟨none, 0, rfl, trivial, Nat.zero_le _, fun _ => rfl⟩⟩
theorem Up.rep {x y : AV} (h : Up x y) {w : World} {I : Nat → Nat → Prop} {v : Value} (r : Rep w I x v) : Rep w I y v :=
  let ⟨c, h1, h2⟩ := r; ⟨c, h.2.2 w I c h1, by rw [h2, mkV, mkV, h.1]⟩
def Ups : List AV → List AV → Prop
  | [], [] => True
  | x :: xs, y :: ys => Up x y ∧ Ups xs ys
  | _, _ => False
theorem Ups.refl : ∀ xs : List AV, Ups xs xs
  | [] => trivial
  | x :: xs => ⟨Up.refl x, Ups.refl xs⟩
theorem Ups.cs {w : World} {I : Nat → Nat → Prop} : ∀ {xs ys : List AV} {c : List Value}, Ups xs ys → RepCs w I xs c → RepCs w I ys c
  | [], [], _, _, r => r
  | x :: xs, y :: ys, c, h, r => by
    simp only [RepCs] at r ⊢
    obtain ⟨c1, c2, h1, h2, h3⟩ := r
    exact ⟨c1, c2, h1, h.1.2.2 w I c1 h2, Ups.cs h.2 h3⟩
  | [], _ :: _, _, h, _ => h.elim
  | _ :: _, [], _, h, _ => h.elim
theorem Ups.width : ∀ {xs ys : List AV}, Ups xs ys → AV.widths ys = AV.widths xs
  | [], [], _ => rfl
  | x :: xs, y :: ys, h => by simp only [AV.widths, h.1.2.1, Ups.width h.2]
  | [], _ :: _, h => h.elim
  | _ :: _, [], h => h.elim
theorem Ups.vs {w : World} {I : Nat → Nat → Prop} : ∀ {xs ys : List AV} {c : List Value}, Ups xs ys → RepVs w I xs c → RepVs w I ys c
  | [], [], _, _, r => r
  | x :: xs, y :: ys, c, h, r => by
    simp only [RepVs] at r ⊢
    obtain ⟨c1, c2, h1, h2, h3⟩ := r
    exact ⟨c1, c2, by rw [h1, mkV, mkV, h.1.1], h.1.2.2 w I c1 h2, Ups.vs h.2 h3⟩
  | [], _ :: _, _, h, _ => h.elim
  | _ :: _, [], _, h, _ => h.elim
theorem Up.agg {xs ys : List AV} (h : Ups xs ys) : Up (.agg xs) (.agg ys) := by
  refine ⟨rfl, by simp only [AV.width]; exact h.width, fun w I c r => ?_⟩
  simp only [RepC] at r ⊢
  exact h.cs r
theorem Up.ifc {x y : AV} (t : TypeId) (h : Up x y) : Up (.ifc t x) (.ifc t y) := by
  refine ⟨rfl, rfl, fun w I c r => ?_⟩
  simp only [RepC] at r ⊢
  obtain ⟨c', h1, h2⟩ := r
  exact ⟨c', by rw [h1, mkV, mkV, h.1], h.2.2 w I c' h2⟩
/-- Elements read otherwise. -/
theorem Up.sl {n : Nat} : ∀ {xs ys : List AV}, Ups xs ys → Up (.sl n xs) (.sl n ys) := by
  intro xs ys h
  have hl : ys.length = xs.length := by
    revert ys
    induction xs with
    | nil => intro ys h; cases ys with
      | nil => rfl
      | cons _ _ => exact h.elim
    | cons x xs ih => intro ys h; cases ys with
      | nil => exact h.elim
      | cons y ys => simp [ih h.2]
  refine ⟨rfl, rfl, fun w I c r => ?_⟩
  simp only [RepC] at r ⊢
  obtain ⟨v, hv, ⟨p, cap, h1, rfl, h2⟩ | ⟨b, o, cap, h1, h2, h3, h4⟩⟩ := r
  · exact ⟨v, hv, .inl ⟨p, cap, h1, List.eq_nil_of_length_eq_zero (by rw [hl]; rfl), h2⟩⟩
  · refine ⟨v, hv, .inr ⟨b, o, cap, by rw [hl]; exact h1, by rw [hl]; exact h2, h3, ?_⟩⟩
    clear hv h1 h2 h3 hl
    revert ys o
    induction xs with
    | nil => intro ys h o _; cases ys with
      | nil => simp only [RepM]
      | cons _ _ => exact h.elim
    | cons x xs ih => intro ys h o h4; cases ys with
      | nil => exact h.elim
      | cons y ys =>
        simp only [RepM] at h4 ⊢
        obtain ⟨⟨c', k1, k2, k3⟩, k4⟩ := h4
        exact ⟨⟨c', k1, h.1.2.2 w I c' k2, k3⟩, ih h.2 (o + n) k4⟩

theorem PCall.args {P : Program} {Γ : List (Nat × AV)} {f : FuncId} {xs xs' rs : List AV} (c : PCall P Γ f xs rs) (h : Ups xs' xs) : PCall P Γ f xs' rs :=
  ⟨c.1, fun w I args hv hg hr => c.2 w I args hv hg (h.vs hr)⟩

theorem resV_up {w : World} {I : Nat → Nat → Prop} {rs rs' : List AV} {v : Value} (h : Ups rs rs') (r : resV w I rs v) : resV w I rs' v := by
  match rs, rs', h, r with
  | [], [], _, r => exact r
  | [x], [y], h, r => exact h.1.rep r
  | x :: x2 :: xs, y :: y2 :: ys, h, ⟨vs, h1, h2⟩ => exact ⟨vs, h1, h.vs h2⟩
  | [], _ :: _, h, _ => exact h.elim
  | _ :: _, [], h, _ => exact h.elim
  | [_], _ :: _ :: _, h, _ => exact h.2.elim
  | _ :: _ :: _, [_], h, _ => exact h.2.elim

theorem PCall.res {P : Program} {Γ : List (Nat × AV)} {f : FuncId} {xs rs rs' : List AV} (c : PCall P Γ f xs rs) (h : Ups rs rs') : PCall P Γ f xs rs' := by
  refine ⟨c.1, fun w I args hv hg hr => (c.2 w I args hv hg hr).mono ?_⟩
  rintro e w' ⟨v, I', h1, h2, h3, h4, h5, h6⟩
  exact ⟨v, I', h1, h2, h3, h4, h5, resV_up h h6⟩

section
variable {C : Cx} {A : Nat → SV} {d : Nat} {ty : TypeId} {pos : String} {af : Array Edge} {gd : Option (Nat × Bool)} {x y : Operand} {T T' : TypeId}
end
end Go.Al

namespace Go.Al
open Go.RowKit

section
variable {C : Cx} {A : Nat → SV} {d : Nat} {ty : TypeId} {pos : String} {af : Array Edge} {gd : Option (Nat × Bool)} {x y : Operand} {T T' : TypeId}

/-! ### Package variables, arrays -/

def glk : List (Nat × AV) → Nat → Option AV
  | [], _ => none
  | (g, x) :: r, k => bif Nat.beq g k then some x else glk r k
theorem glk_mem : ∀ {Γ : List (Nat × AV)} {k : Nat} {x : AV}, glk Γ k = some x → (k, x) ∈ Γ
  | (g, y) :: r, k, x, h => by
    simp only [glk] at h
    cases hb : Nat.beq g k <;> rw [hb] at h
    · exact List.mem_cons_of_mem _ (glk_mem h)
    · have := Nat.eq_of_beq_eq_true hb
      simp only [cond_true, Option.some.injEq] at h
      subst this; subst h; exact List.mem_cons_self

end

/-! ### A row of one's own that grows from now on, wherever it is named -/

def Fz (g g' n len cap : Nat) (l : List AV) (x y : SV) : Prop :=
  y = x ∨ (x = .osl g 0 len cap ∧ y = .slg g' n l) ∨ ∃ T, x = .box T (.osl g 0 len cap) ∧ y = .box T (.slg g' n l)

def subF (g g' n len cap : Nat) (l : List AV) (st : St) : St → Prop
  | [] => True
  | (k, y) :: r => Fz g g' n len cap l (look st k) y ∧ subF g g' n len cap l st r

theorem subF_spec {g g' n len cap : Nat} {l : List AV} {st : St} : ∀ {st' : St}, subF g g' n len cap l st st' → ∀ k, look st' k = .dead ∨ Fz g g' n len cap l (look st k) (look st' k)
  | [], _, k => .inl rfl
  | (j, x) :: r, h, k => by
    simp only [look, upd]
    cases hb : Nat.beq j k
    · exact subF_spec h.2 k
    · have := Nat.eq_of_beq_eq_true hb
      subst this
      exact .inr h.1

theorem SimG.freezeW {C : Cx} {A B : Nat → SV} {G : Gh} {a : Act} {w : World} (S : SimG C A G a w) {g g' n len cap : Nat} {T0 : TypeId} {xs l : List AV} (hgN : C.N ≤ g) (hgN' : C.N ≤ g') (hgK : g' < C.K) (hgg : g ≠ g') (hg : A g = .box T0 (.imm (.agg xs)))
    (hw : ∀ x ∈ xs, x.width = n) (hcap : cap = xs.length) (hlen : len ≤ cap) (hmax : cap ≤ maxLen) (hl : xs.take len = l) (hf : ∀ j, noG [g'] (A j) = true) (hB : ∀ j, j ≠ g' → B j = .dead ∨ Fz g g' n len cap l (A j) (B j)) (hBg : B g = .dead) (hB' : B g' = .tok n l) :
    Sim C B a w := by
  subst hl
  have hb := S.holds g
  rw [hg] at hb
  simp only [Holds] at hb
  obtain ⟨how, ⟨cs, fr, hb2, hb3, hb4⟩, hni⟩ := hb
  simp only [RepS, RepC] at hb3
  have hE := (repCs_E hw).1 hb3
  have hcl := hE.len
  simp only [Array.length_toList] at hcl
  obtain ⟨q1, _⟩ := hE.split len (by omega)
  let I' : Nat → Nat → Prop := fun b o => G.I b o ∨ (b = G.blk g ∧ o < len * n)
  let G' : Gh := { I := I', blk := G.blk, cur := fun j => if j = g' then .slice (some ⟨G.blk g, 0, none⟩) len cap else G.cur j, len := fun j => if j = g' then len else G.len j }
  have hle : Le w G.I w I' := fun b o h => ⟨.inl h, kp_of_block rfl⟩
  have hrel : GRel [g'] G G' := fun j hj => by
    have hjg : j ≠ g' := by simpa using hj
    exact ⟨rfl, .inl ⟨by simp only [G', if_neg hjg], by simp only [G', if_neg hjg]⟩⟩
  have hmul : len * n ≤ cap * n := mul_le_of hlen
  have hcells : CellsAt w I' (G.blk g) 0 (cs.toList.take (len * n)) := by
    intro j hj
    rw [List.length_take, Array.length_toList] at hj
    refine ⟨?_, .inr ⟨rfl, by omega⟩⟩
    rw [cell_at hb2, Nat.zero_add]
    simp only [List.getElem_take]
    rw [Array.getElem?_eq_getElem (by omega)]
    simp
  have hM : RepM w I' n (xs.take len) (G.blk g) 0 := (q1.mono hle).mem hcells
  have htl : (xs.take len).length = len := by rw [List.length_take]; omega
  have hslgc : RepS w G' (.slg g' n (xs.take len)) [.slice (some ⟨G.blk g, 0, none⟩) len cap] := by
    simp only [RepS, RepC]
    refine ⟨_, rfl, ⟨_, rfl, .inr ⟨G.blk g, 0, cap, by rw [htl], by rw [htl]; exact hlen, hmax, hM⟩⟩, by simp only [G', if_true, htl]; omega, fun _ => by simp only [G', if_true]⟩
  have hslg : ∀ v, ValS w G (.osl g 0 len cap) v → ValS w G' (.slg g' n (xs.take len)) v := by
    rintro v ⟨c, h1, h2⟩
    simp only [RepS] at h1
    subst h1
    exact ⟨_, hslgc, h2⟩
  have own' : ∀ j b, ownsB G' j b (B j) → (j = g' ∧ b = G.blk g) ∨ (j ≠ g' ∧ j ≠ g ∧ ownsB G j b (A j)) := by
    intro j b h
    by_cases hj : j = g'
    · subst hj
      rw [hB'] at h
      simp only [ownsB, G', if_true] at h
      obtain ⟨ad, n', c', h1, h2⟩ := h
      simp only [Value.slice.injEq, Option.some.injEq] at h1
      exact .inl ⟨rfl, by rw [← h2, ← h1.1]⟩
    · by_cases hjg : j = g
      · subst hjg; rw [hBg] at h; simp only [ownsB] at h
      · refine .inr ⟨hj, hjg, ?_⟩
        rcases hB j hj with e | e | ⟨_, e⟩ | ⟨T, e1, e⟩
        · rw [e] at h; simp only [ownsB] at h
        · rw [e] at h
          revert h
          generalize A j = y
          cases y <;> simp only [ownsB, G', if_neg hj] <;> exact id
        · rw [e] at h; simp only [ownsB] at h
        · rw [e] at h; rw [e1]; simpa only [ownsB] using h
  refine ⟨G', S.os, S.tape, S.output, S.size, S.block, S.sub.trans hle, fun j hj => (S.rel j hj).trans (hrel j (by simp; omega)), S.glob.mono hle, fun b o h => ?_, fun b o h => ?_, S.nts, S.dfs, fun j => ?_, fun j j' b hj h1 h2 => ?_⟩
  · rcases h with h | ⟨rfl, _⟩
    · exact S.new b o h
    · exact .inr how.1
  · rcases h with h | ⟨rfl, _⟩
    · exact S.val b o h
    · exact how.2
  · by_cases hj : j = g'
    · subst hj
      rw [hB']
      simp only [Holds, G', if_true, htl]
      refine ⟨trivial, .inr ⟨G.blk g, cap, by rw [htl], by rw [htl]; exact hlen, hmax, hM, how, ⟨cs, T0, fr, hb2, by rw [hcl, hcap], hb4⟩, ?_⟩⟩
      intro o ho hi
      rw [htl] at ho
      rcases hi with hi | ⟨_, h2⟩
      · exact hni o hi
      · omega
    · by_cases hjg : j = g
      · subst hjg; rw [hBg]; simp only [Holds]
      · have keep : Holds C.w0 C.E G' a w j (A j) := (S.holds j).keep hle hrel (hf j) (Nat.le_refl _) (fun h => ⟨h, rfl⟩) (fun _ => ⟨rfl, by simp only [G', if_neg hj], by simp only [G', if_neg hj]⟩) (fun b hbk => ⟨rfl, fun o hi => by
          rcases hi with hi | ⟨rfl, _⟩
          · exact hi
          · exact (S.apart j g _ hjg hbk (by rw [hg]; simp [ownsB])).elim⟩)
        rcases hB j hj with e | e | ⟨e1, e⟩ | ⟨T, e1, e⟩
        · rw [e]; simp only [Holds]
        · rw [e]; exact keep
        · rw [e]
          have hk := S.holds j
          rw [e1] at hk
          exact ⟨hk.1, hslg _ hk.2⟩
        · rw [e]
          have hk := S.holds j
          rw [e1] at hk keep
          simp only [Holds] at hk keep ⊢
          obtain ⟨m1, ⟨cs1, fr1, m2, m3, m4⟩, m5⟩ := hk
          refine ⟨keep.1, ⟨cs1, fr1, m2, ?_, m4⟩, keep.2.2⟩
          simp only [RepS] at m3
          show RepS w G' (.slg g' n (xs.take len)) cs1.toList
          rw [m3]; exact hslgc
  · rcases own' j b h1 with ⟨e1, e2⟩ | ⟨e1, e2, e3⟩
    · rcases own' j' b h2 with ⟨e4, e5⟩ | ⟨e4, e5, e6⟩
      · exact hj (e1.trans e4.symm)
      · subst e2; exact S.apart j' g _ e5 e6 (by rw [hg]; simp [ownsB])
    · rcases own' j' b h2 with ⟨e4, e5⟩ | ⟨e4, e5, e6⟩
      · subst e5; exact S.apart j g _ e2 e3 (by rw [hg]; simp [ownsB])
      · exact S.apart j j' b hj e3 e6

theorem aw_freezeW {C : Cx} {c : Code} {st : St} {Q : Exit → St → Prop} (g g' n : Nat) {len cap : Nat} {T0 : TypeId} {xs : List AV} (l : List AV) (st' : St) (hgN : Nat.ble C.N g = true) (hgN' : Nat.ble C.N g' = true) (hgK : Nat.blt g' C.K = true) (hgg : Nat.beq g g' = false)
    (hg : look st g = .box T0 (.imm (.agg xs))) (hf : freshB [g'] st = true) (hd : look st' g = .dead) (hs : subF g g' n len cap l st st')
    (hw : ∀ x ∈ xs, x.width = n) (hcap : cap = xs.length) (hlen : len ≤ cap) (hmax : cap ≤ maxLen) (hl : xs.take len = l)
    (h : AW C c ((g', .tok n l) :: st') Q) : AW C c st Q := by
  intro a w ⟨G, S⟩
  refine h a w ?_
  have hgne : g ≠ g' := by rintro rfl; rw [Nat.beq_refl] at hgg; cases hgg
  have e : ∀ j, look ((g', .tok n l) :: st') j = if j = g' then .tok n l else look st' j := by
    intro j
    have := upd_one (look st') g' (.tok n l) j
    rw [upd_look] at this
    exact this
  refine S.freezeW (Nat.le_of_ble_eq_true hgN) (Nat.le_of_ble_eq_true hgN') (by simpa [Nat.blt_eq] using hgK) hgne hg hw hcap hlen hmax hl (freshB_spec st hf) (fun j hj => ?_) ?_ ?_
  · rw [e, if_neg hj]
    exact subF_spec hs j
  · rw [e, if_neg hgne]; exact hd
  · rw [e, if_pos rfl]

end Go.Al

namespace Go.Al
open Go.RowKit

section
variable {C : Cx} {A : Nat → SV} {d : Nat} {ty : TypeId} {pos : String} {af : Array Edge} {gd : Option (Nat × Bool)} {x y : Operand} {T T' : TypeId}

theorem slOwn_aux {g n : Nat} {l : List UInt8} {T0 el : TypeId} {ylo : Option Operand} {lo : Nat} {R : List Nat} (hN : Nat.blt d C.N = true) (hgN : Nat.ble C.N g = true) (hx : ∀ A' : Nat → SV, (∀ k ∈ R, A' k = A k) → opS A' x = .ptr g 0) (hg : ∀ A' : Nat → SV, (∀ k ∈ R, A' k = A k) → A' g = .box T0 (.imm (.arr n l)))
    (hT : C.P.underlying T = some (.array n el)) (hn : tySize C.P el = some 1) (hm : n ≤ maxLen) (hl : lo ≤ n)
    (h2 : ∀ A' G a w, (∀ k ∈ R, A' k = A k) → SimG C A' G a w → (match ylo.map a.eval with | some v => ∃ k i, v = .int k i ∧ i = (lo : Int) | none => lo = 0)) :
    StepU C ⟨some d, .slice T x ylo none none, ty, pos, af, gd⟩ R [] A [(g, .dead), (d, .imm (.sl 1 (bytesL (l.drop lo))))] := by
  intro A' a w hR hF ⟨G, S⟩
  have hN' : d < C.N := by simpa [Nat.blt_eq] using hN
  have hgd : g ≠ d := by have := Nat.le_of_ble_eq_true hgN; omega
  have hgA := hg A' hR
  obtain ⟨c, hc1, hc2⟩ := S.opS (hx A' hR) rfl
  simp only [RepS] at hc1
  have hev : a.eval x = .pointer (some ⟨G.blk g, 0, none⟩) := by rw [hc2, hc1]; rfl
  have hb := S.holds g
  rw [hgA] at hb
  simp only [Holds] at hb
  obtain ⟨how, ⟨cs, fr, hb2, hb3, hb4⟩, hni⟩ := hb
  simp only [RepS] at hb3
  have h2' := h2 A' G a w hR S
  obtain ⟨S1, hle, hcell⟩ := S.giveUp fr hgA hb2
  have hw : setBlk w (G.blk g) (.cells cs T0 fr) = w := setBlk_same hb2
  rw [hw] at S1 hle hcell
  have hrep : Rep w (fun b o => G.I b o ∨ (b = G.blk g ∧ o < cs.size)) (.cp (.arr n l)) (a.eval x) := by
    rw [hev]
    exact rep_cp_mk (RepC.mono hle _ _ hb3) hcell
  obtain ⟨u, k1, k2⟩ := run_slArr (ylo := ylo.map a.eval) hrep hT hn hl hm h2'
  have S2 := S1.put hN' (x := .imm (.sl 1 (bytesL (l.drop lo)))) (v := u) (valS_imm.2 k2)
  have eu : upd (upd A' [(g, .dead)]) [(d, .imm (.sl 1 (bytesL (l.drop lo))))] = upd A' [(g, .dead), (d, .imm (.sl 1 (bytesL (l.drop lo))))] := by
    funext k
    simp only [upd]
    by_cases hkd : d = k
    · subst hkd; rw [nat_beq_false hgd]; simp
    · rw [nat_beq_false hkd]; simp
  rw [eu] at S2
  unfold Oper.wp
  have hrun : (execOp a.eval ⟨some d, .slice T x ylo none none, ty, pos, af, gd⟩).run C.P w = .ok (.value u) w := by
    simp only [execOp, Option.map_none, Sem.run_bind, k1, Result.andThen_ok, Sem.run_pure]
  rw [hrun, Oper.upon_value]
  exact ⟨_, S2⟩

/-- A slice of an array of one's own, which is only read from now on. -/
theorem s_slOwn_l {g n : Nat} {l : List UInt8} {T0 el : TypeId} {k : IntKind} {i : Int} (hN : Nat.blt d C.N = true) (hgN : Nat.ble C.N g = true) (hx : opS A x = .ptr g 0) (hg : A g = .box T0 (.imm (.arr n l))) (hy : opV A y = some (.v (.int k i))) (hT : C.P.underlying T = some (.array n el)) (hn : tySize C.P el = some 1) (hm : Nat.ble n maxLen = true) (h : 0 ≤ i ∧ i ≤ n) :
    StepU C ⟨some d, .slice T x (some y) none none, ty, pos, af, gd⟩ (g :: (opR x ++ opR y)) [] A [(g, .dead), (d, .imm (.sl 1 (bytesL (l.drop i.toNat))))] := by
  refine slOwn_aux hN hgN (fun A' hR => (opS_congr (fun k hk => hR k (List.mem_cons_of_mem _ (List.mem_append_left _ hk)))).trans hx) (fun A' hR => (hR g List.mem_cons_self).trans hg) hT hn (Nat.le_of_ble_eq_true hm) (by omega) ?_
  intro A' G a w hR S
  rw [← opV_congr (fun k hk => hR k (List.mem_cons_of_mem _ (List.mem_append_right _ hk)))] at hy
  exact ⟨k, i, rep_int (S.opV hy), by omega⟩
end

/-! ### Widths of elements -/
def W1 (xs : List AV) : Prop := ∀ x ∈ xs, x.width = 1
theorem W1.bytes (l : List UInt8) : W1 (bytesL l) := by
  intro x hx
  simp only [bytesL, List.mem_map] at hx
  obtain ⟨b, _, rfl⟩ := hx
  rfl
theorem W1.nil : W1 [] := fun x hx => by cases hx
theorem W1.cons {n : Int} {b : List AV} (k : W1 b) : W1 (.v (.int .u8 n) :: b) := fun x hx => (List.mem_cons.1 hx).elim (fun h => by rw [h]; rfl) (k x)
theorem bytesL_app (a b : List UInt8) : bytesL a ++ bytesL b = bytesL (a ++ b) := by simp [bytesL]
theorem bytesL_len (l : List UInt8) : (bytesL l).length = l.length := by simp [bytesL]
/-- What a new row holds behind the copying. -/
theorem cp_take {m xs : List AV} {len : Nat} (h : len = m.length) (h2 : len ≤ xs.length) : (m.take (min m.length len) ++ xs.drop (min m.length len)).take len = m := by
  subst h
  rw [Nat.min_self, List.take_append_of_le_length (by simp), List.take_take, Nat.min_self, List.take_of_length_le (Nat.le_refl _)]
theorem cp_len {m xs : List AV} {len : Nat} (h : len = m.length) (h2 : len ≤ xs.length) : xs.length = (m.take (min m.length len) ++ xs.drop (min m.length len)).length := by
  subst h
  rw [Nat.min_self, List.length_append, List.length_take, List.length_drop]; omega
theorem cp_w {n len cap : Nat} {m : List AV} {X0 : AV} (h : ∀ x ∈ m, x.width = n) (h0 : X0.width = n) : ∀ x ∈ m.take (min m.length len) ++ (List.replicate cap X0).drop (min m.length len), x.width = n := by
  intro x hx
  rcases List.mem_append.1 hx with hx | hx
  · exact h x (List.mem_of_mem_take hx)
  · rw [List.eq_of_mem_replicate (List.mem_of_mem_drop hx)]; exact h0

/-! ### A nil slice handed to what grows it -/
theorem nil1 {P : Program} {Γ : List (Nat × AV)} {f : FuncId} {n : Nat} {xs rs : List AV} (c : PCall P Γ f (.sl n [] :: xs) rs) : PCall P Γ f (.v (.slice none 0 0) :: xs) rs :=
  c.args ⟨Up.nil n, Ups.refl xs⟩

end Go.Al

namespace Go.Al
open Go.RowKit

/-! ### A row that grows takes the name of a shorter one -/

end Go.Al

namespace Go.Al
open Go.RowKit
section
variable {C : Cx} {A : Nat → SV} {d : Nat} {ty : TypeId} {pos : String} {af : Array Edge} {gd : Option (Nat × Bool)} {x y : Operand} {T T' : TypeId}

end
end Go.Al

namespace Go.Al
open Go.RowKit

mutual
theorem noG_split {g g' : Nat} : ∀ x : SV, noG [g, g'] x = true → noG [g] x = true ∧ noG [g'] x = true
  | .ptr k _, h => by simp only [noG] at h ⊢; simp at h ⊢; exact h
  | .slg k _ _, h => by simp only [noG] at h ⊢; simp at h ⊢; exact h
  | .osl k _ _ _, h => by simp only [noG] at h ⊢; simp at h ⊢; exact h
  | .mref k, h => by simp only [noG] at h ⊢; simp at h ⊢; exact h
  | .itr k _ _, h => by simp only [noG] at h ⊢; simp at h ⊢; exact h
  | .agg fs, h => by simp only [noG] at h ⊢; exact noGs_split fs h
  | .tup fs, h => by simp only [noG] at h ⊢; exact noGs_split fs h
  | .box _ x, h => by simp only [noG] at h ⊢; exact noG_split x h
  | .fnv _ a b, h => by
    simp only [noG, Bool.and_eq_true] at h ⊢
    exact ⟨⟨(noGs_split a h.1).1, (noGs_split b h.2).1⟩, (noGs_split a h.1).2, (noGs_split b h.2).2⟩
  | .imm _, _ => by simp only [noG]; trivial
  | .dead, _ => by simp only [noG]; trivial
  | .undef, _ => by simp only [noG]; trivial
  | .tok _ _, _ => by simp only [noG]; trivial
  | .mpr _ _, _ => by simp only [noG]; trivial
  | .row _, _ => by simp only [noG]; trivial
  | .gen _, _ => by simp only [noG]; trivial
  | .ifp _ k _, h => by simp only [noG] at h ⊢; simp at h ⊢; exact h
theorem noGs_split {g g' : Nat} : ∀ xs : List SV, noGs [g, g'] xs = true → noGs [g] xs = true ∧ noGs [g'] xs = true
  | [], _ => ⟨rfl, rfl⟩
  | x :: xs, h => by
    simp only [noGs, Bool.and_eq_true] at h ⊢
    exact ⟨⟨(noG_split x h.1).1, (noGs_split xs h.2).1⟩, (noG_split x h.1).2, (noGs_split xs h.2).2⟩
end

theorem SimG.drop {C : Cx} {A B : Nat → SV} {G : Gh} {a : Act} {w : World} (S : SimG C A G a w) (h : ∀ k, B k = A k ∨ B k = .dead) : SimG C B G a w := by
  refine ⟨S.os, S.tape, S.output, S.size, S.block, S.sub, S.rel, S.glob, S.new, S.val, S.nts, S.dfs, fun k => ?_, fun k j b hkj h1 h2 => ?_⟩
  · rcases h k with e | e
    · rw [e]; exact S.holds k
    · rw [e]; simp only [Holds]
  · rcases h k with e | e
    · rcases h j with e' | e'
      · rw [e] at h1; rw [e'] at h2; exact S.apart k j b hkj h1 h2
      · rw [e'] at h2; simp only [ownsB] at h2
    · rw [e] at h1; simp only [ownsB] at h1

section
variable {C : Cx} {A : Nat → SV} {d : Nat} {ty : TypeId} {pos : String} {af : Array Edge} {gd : Option (Nat × Bool)} {x y : Operand} {T T' : TypeId}

theorem run_buildSlice0 {P : Program} {w : World} {T el : TypeId} {n : Nat} (hT : P.underlying T = some (.slice el)) (hn : tySize P el = some n) :
    (Instr.buildSlice T 0 #[]).run P w = .ok (.slice (some ⟨w.heap.size, 0, none⟩) 0 0) (w.alloc (.cells #[] el)) := by
  simp only [Instr.buildSlice, Sem.run_bind, run_underlying' hT, Result.andThen_ok, run_sizeOf hn, Nat.zero_mul]
  rw [if_neg (by omega)]
  simp only [Sem.run_bind, Sem.run_pure, Result.andThen_ok, if_true]
  simp only [Instr.fill, newRow, run_newObj, Sem.run_bind, Result.andThen_ok, Sem.run_pure]
  rw [show Array.range 0 = #[] from rfl, Array.map_empty]
  rfl

/-- A row of nothing, that grows from now on. -/
theorem s_build0 (g g' : Nat) {el : TypeId} {n : Nat} (hgN : Nat.ble C.N g = true) (hgN' : Nat.ble C.N g' = true) (hgK : Nat.blt g C.K = true) (hgK' : Nat.blt g' C.K = true) (hgg : Nat.beq g g' = false) (hN : Nat.blt d C.N = true) (hT : C.P.underlying T = some (.slice el)) (hn : tySize C.P el = some n) :
    StepU C ⟨some d, .buildSlice T 0 #[], ty, pos, af, gd⟩ [] [g, g'] A [(g', .tok n []), (d, .slg g' n []), (g, .dead)] := by
  intro A' a w hR hF ⟨G, S⟩
  have hN' : d < C.N := by simpa [Nat.blt_eq] using hN
  have hgd : g ≠ d := by have := Nat.le_of_ble_eq_true hgN; omega
  have hgd' : g' ≠ d := by have := Nat.le_of_ble_eq_true hgN'; omega
  have hne : g ≠ g' := by rintro rfl; rw [Nat.beq_refl] at hgg; cases hgg
  have k1 := run_buildSlice0 (w := w) hT hn
  let A0 : Nat → SV := fun k => if k = g' then .dead else A' k
  have S0 : SimG C A0 G a w := S.drop fun k => by by_cases h : k = g' <;> simp [A0, h]
  have hfr : ∀ k, k ≠ g → k ≠ d → noG [g, g'] (A0 k) = true := by
    intro k h1 h2
    by_cases h3 : k = g'
    · simp [A0, h3, noG]
    · have := hF k (by simp only [has, nat_beq_false (Ne.symm h3), nat_beq_false (Ne.symm h2), nat_beq_false (Ne.symm h1)]; rfl)
      simpa [A0, h3] using this
  have hb1 := S0.allocBox (T := el) (cs := #[]) (x := .imm (.agg [])) hgd (by simpa [Nat.blt_eq] using hgK) hN' (by simp only [RepS, RepC, RepCs]) (by simp only [noG]) (fun k hk => by
    simp only [has, Bool.or_eq_false_iff] at hk
    have h1 : k ≠ g := by rintro rfl; rw [Nat.beq_refl] at hk; cases hk.1
    have h2 : k ≠ d := by rintro rfl; rw [Nat.beq_refl] at hk; cases hk.2.1
    exact (noG_split _ (hfr k h1 h2)).1)
  obtain ⟨G1, S1⟩ := hb1
  have hgA : G1.blk g = w.heap.size := by
    have h1 := S1.holds d
    have e : upd A0 [(g, .box el (.imm (.agg []))), (d, .ptr g 0)] d = .ptr g 0 := by simp only [upd]; rw [nat_beq_false hgd]; simp
    rw [e] at h1
    obtain ⟨_, c, h2, h3⟩ := h1
    simp only [RepS] at h2
    rw [h2] at h3
    have e2 : (a.put (some d) (.pointer (some ⟨w.heap.size, 0, none⟩))).tmps.getD d Go.undef = .pointer (some ⟨w.heap.size, 0, none⟩) := by simp [Act.put, S.nts, hN']
    rw [e2] at h3
    simp only [mkS, SV.isAgg, Bool.false_eq_true, if_false, List.headD_cons, Value.pointer.injEq, Option.some.injEq, Addr.mk.injEq] at h3
    exact h3.1.symm
  have S2 := S1.put hN' (x := .osl g 0 0 0) (v := .slice (some ⟨w.heap.size, 0, none⟩) 0 0) ⟨[.slice (some ⟨G1.blk g, 0, none⟩) 0 0], by simp only [RepS], by simp only [mkS, SV.isAgg, hgA]; rfl⟩
  rw [Act.put_put] at S2
  have eu : ∀ k, upd (upd A0 [(g, .box el (.imm (.agg []))), (d, .ptr g 0)]) [(d, .osl g 0 0 0)] k = if k = g then .box el (.imm (.agg [])) else if k = d then .osl g 0 0 0 else A0 k := by
    intro k
    simp only [upd]
    by_cases hkd : d = k
    · subst hkd; rw [if_neg (Ne.symm hgd)]; simp
    · rw [nat_beq_false hkd]
      by_cases hkg : g = k
      · subst hkg; simp
      · rw [nat_beq_false hkg, if_neg (Ne.symm hkg), if_neg (Ne.symm hkd)]; simp
  have S3 := S2.freezeW (B := upd A' [(g', .tok n []), (d, .slg g' n []), (g, .dead)]) (g := g) (g' := g') (n := n) (len := 0) (cap := 0) (T0 := el) (xs := []) (l := []) (Nat.le_of_ble_eq_true hgN) (Nat.le_of_ble_eq_true hgN') (by simpa [Nat.blt_eq] using hgK') hne (by rw [eu, if_pos rfl]) (by simp) rfl (Nat.le_refl _) (Nat.zero_le _) rfl
    (fun j => by
      rw [eu]
      split
      · simp only [noG]
      · split
        · simp only [noG]; simp [hne]
        · rename_i h1 h2; exact (noG_split _ (hfr j h1 h2)).2)
    (fun j hj => by
      rw [eu]
      simp only [upd, nat_beq_false (Ne.symm hj), cond_false]
      by_cases hjd : d = j
      · subst hjd; rw [Nat.beq_refl, if_neg (Ne.symm hgd), if_pos rfl]; exact .inr (.inr (.inl ⟨rfl, rfl⟩))
      · rw [nat_beq_false hjd]
        by_cases hjg : g = j
        · subst hjg; left; simp
        · rw [nat_beq_false hjg, if_neg (Ne.symm hjg), if_neg (Ne.symm hjd)]; right; left; simp [A0, hj])
    (by simp only [upd, nat_beq_false (Ne.symm hne), nat_beq_false (Ne.symm hgd), cond_false, Nat.beq_refl, cond_true]) (by simp only [upd, Nat.beq_refl, cond_true])
  unfold Oper.wp
  simp only [execOp, Sem.run_bind, Array.map_empty, k1, Result.andThen_ok, Sem.run_pure, Oper.upon_value]
  exact S3
end
end Go.Al

namespace Go.Al
open Go.RowKit

/-! ### A field of one's own box that holds no row yet: a row that grows from now on -/

end Go.Al

