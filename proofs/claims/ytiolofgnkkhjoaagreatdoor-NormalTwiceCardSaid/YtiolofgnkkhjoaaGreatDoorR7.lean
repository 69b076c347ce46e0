/- Texts that the proofs of this claim share, part 7: the abstract logic, plain Lean on values and batches, and walks. No condition but those typed in each lemma. -/
import Derived.Stop.Asserts
import Derived.Laws.Externs
import Derived.Test.YtiolofgnkkhjoaaGreatDoorR6
set_option linter.unusedSimpArgs false
set_option linter.unusedVariables false
set_option maxHeartbeats 400000
namespace Go.Proofs
open Go Go.Al
theorem plC_app (i : Nat) : ∀ (k : Nat) (l m : List GScope), plC i k (l ++ m) = plC i k l ++ plC i (k + l.length) m
  | k, [], m => by simp [plC]
  | k, x :: l, m => by
    simp only [List.cons_append, plC, plC_app i (k + 1) l m, List.append_assoc, List.length_cons]
    rw [show k + 1 + l.length = k + (l.length + 1) by omega]
theorem plR_app : ∀ (i : Nat) (l m : List GRes), plR i (l ++ m) = plR i l ++ plR (i + l.length) m
  | i, [], m => by simp [plR]
  | i, x :: l, m => by
    simp only [List.cons_append, plR, plR_app (i + 1) l m, List.append_assoc, List.length_cons]
    rw [show i + 1 + l.length = i + (l.length + 1) by omega]
theorem nthC_at {l : List GScope} {k : Nat} (h : k < l.length) : l = l.take k ++ nthC l k :: l.drop (k + 1) := by
  have : nthC l k = l[k] := by simp [nthC, nth, h]
  rw [this, List.getElem_cons_drop, List.take_append_drop]
theorem nthR_at {l : List GRes} {k : Nat} (h : k < l.length) : l = l.take k ++ nthR l k :: l.drop (k + 1) := by
  have : nthR l k = l[k] := by simp [nthR, nth, h]
  rw [this, List.getElem_cons_drop, List.take_append_drop]
theorem plC_at {i : Nat} {l : List GScope} {k m : Nat} (hk : k < l.length) (hm : m < (nthC l k).spans.length) : (plC i 0 l)[(plC i 0 (l.take k)).length + m]? = some (i, k, m) := by
  conv => lhs; arg 1; rw [nthC_at hk]
  have hlen : (l.take k).length = k := by rw [List.length_take]; omega
  rw [plC_app, List.getElem?_append_right (by omega), Nat.add_sub_cancel_left, Nat.zero_add, hlen, plC, List.getElem?_append_left (by simpa using hm)]
  simp [hm]
theorem pl_at {b : List GRes} {i k m : Nat} (hi : i < b.length) (hk : k < (nthR b i).scopes.length) (hm : m < (nthC (nthR b i).scopes k).spans.length) :
    (plR 0 b)[(plR 0 (b.take i)).length + (plC i 0 ((nthR b i).scopes.take k)).length + m]? = some (i, k, m) := by
  conv => lhs; arg 1; rw [nthR_at hi]
  have hlen : (b.take i).length = i := by rw [List.length_take]; omega
  rw [plR_app, Nat.add_assoc, List.getElem?_append_right (by omega), Nat.add_sub_cancel_left, Nat.zero_add, hlen, plR]
  have h1 := plC_at (i := i) hk hm
  rw [List.getElem?_append_left (List.getElem?_eq_some_iff.1 h1).1]
  exact h1
def spAt (b : List GRes) (p : Nat × Nat × Nat) : GSpan := nthS (nthC (nthR b p.1).scopes p.2.1).spans p.2.2
theorem plR_mem' : ∀ {l m : List GRes} {p : Nat × Nat × Nat}, p ∈ plR m.length l → p.1 < (m ++ l).length ∧ p.2.1 < (nthR (m ++ l) p.1).scopes.length ∧ p.2.2 < (nthC (nthR (m ++ l) p.1).scopes p.2.1).spans.length
  | [], m, p, h => by simp [plR] at h
  | r :: l, m, p, h => by
    rw [plR] at h
    rcases List.mem_append.1 h with h | h
    · have hr : nthR (m ++ r :: l) m.length = r := by simp [nthR, nth]
      have h1 : p.1 = m.length := by
        have : ∀ (k : Nat) (cs : List GScope), p ∈ plC m.length k cs → p.1 = m.length := by
          intro k cs
          induction cs generalizing k with
          | nil => intro h; simp [plC] at h
          | cons c cs ih =>
            intro h
            rw [plC] at h
            rcases List.mem_append.1 h with h | h
            · obtain ⟨j, _, rfl⟩ := List.mem_map.1 h; rfl
            · exact ih _ h
        exact this _ _ h
      have h2 := plC_mem (i := m.length) (l := r.scopes) (m := []) (p := p) h
      rw [h1, hr]
      exact ⟨by simp, h2⟩
    · have := plR_mem' (l := l) (m := m ++ [r]) (p := p) (by simpa using h)
      simpa using this
theorem pl_mem {b : List GRes} {p : Nat × Nat × Nat} (h : p ∈ plR 0 b) : p.1 < b.length ∧ p.2.1 < (nthR b p.1).scopes.length ∧ p.2.2 < (nthC (nthR b p.1).scopes p.2.1).spans.length := plR_mem' (m := []) h
theorem pl_mem_iff {b : List GRes} {p : Nat × Nat × Nat} : p ∈ plR 0 b ↔ p.1 < b.length ∧ p.2.1 < (nthR b p.1).scopes.length ∧ p.2.2 < (nthC (nthR b p.1).scopes p.2.1).spans.length :=
  ⟨pl_mem, fun ⟨h1, h2, h3⟩ => List.mem_of_getElem? (pl_at h1 h2 h3)⟩
def zS : GSpan := ⟨List.replicate 16 0, List.replicate 8 0, List.replicate 8 0, ⟨#[]⟩, ⟨#[]⟩, 0, 0, 0, [], [], [], 0, ⟨#[]⟩⟩
def inB (b : List GRes) (p : Int × Int × Int) : Bool :=
  decide (0 ≤ p.1) && decide (p.1 < b.length) && (decide (0 ≤ p.2.1) && decide (p.2.1 < (nthR b p.1.toNat).scopes.length)) && (decide (0 ≤ p.2.2) && decide (p.2.2 < (nthC (nthR b p.1.toNat).scopes p.2.1.toNat).spans.length))
def natP (p : Int × Int × Int) : Nat × Nat × Nat := (p.1.toNat, p.2.1.toNat, p.2.2.toNat)
def intP (p : Nat × Nat × Nat) : Int × Int × Int := ((p.1 : Int), (p.2.1 : Int), (p.2.2 : Int))
def placeAv (p : Int × Int × Int) : AV := .agg [iv p.1, iv p.2.1, iv p.2.2]
def atS (b : List GRes) (p : Int × Int × Int) : GSpan := if inB b p then spAt b (natP p) else zS
theorem inB_iff {b : List GRes} {p : Int × Int × Int} : inB b p = true ↔ 0 ≤ p.1 ∧ p.1 < b.length ∧ (0 ≤ p.2.1 ∧ p.2.1 < (nthR b p.1.toNat).scopes.length) ∧ 0 ≤ p.2.2 ∧ p.2.2 < (nthC (nthR b p.1.toNat).scopes p.2.1.toNat).spans.length := by
  simp only [inB, Bool.and_eq_true, decide_eq_true_eq, and_assoc]
theorem inB_mem {b : List GRes} {p : Int × Int × Int} : inB b p = true ↔ ∃ q ∈ plR 0 b, intP q = p := by
  rw [inB_iff]
  constructor
  · rintro ⟨h1, h2, ⟨h3, h4⟩, h5, h6⟩
    refine ⟨natP p, pl_mem_iff.2 ⟨by show p.1.toNat < _; omega, by show p.2.1.toNat < (nthR b p.1.toNat).scopes.length; omega, by show p.2.2.toNat < (nthC (nthR b p.1.toNat).scopes p.2.1.toNat).spans.length; omega⟩, ?_⟩
    obtain ⟨x, y, z⟩ := p
    simp only [intP, natP]
    dsimp only at h1 h3 h5
    rw [Int.toNat_of_nonneg h1, Int.toNat_of_nonneg h3, Int.toNat_of_nonneg h5]
  · rintro ⟨q, hq, rfl⟩
    obtain ⟨h1, h2, h3⟩ := pl_mem hq
    simp only [intP, Int.toNat_natCast]
    omega
theorem inB_nat {b : List GRes} {q : Nat × Nat × Nat} (h : q ∈ plR 0 b) : inB b (intP q) = true := inB_mem.2 ⟨q, h, rfl⟩
theorem atS_nat {b : List GRes} {q : Nat × Nat × Nat} (h : q ∈ plR 0 b) : atS b (intP q) = spAt b q := by
  unfold atS; rw [if_pos (inB_nat h)]; rfl
end Go.Proofs
namespace Go.Al
section
variable {C : Cx} {A : Nat → SV} {d : Nat} {ty : TypeId} {pos : String} {af : Array Edge} {gd : Option (Nat × Bool)} {x y : Operand} {T T' : TypeId}
end
end Go.Al
namespace Go.Proofs
open Go Go.Al
set_option maxRecDepth 10000
set_option maxHeartbeats 4000000 in
theorem eqdS_c (a b : List GSpan) (fn : FuncId) (hl : a.length ≤ 1000000000) (hf : ∀ x ∈ a, ∀ y : GSpan, zn Tryz.prog Γ0 fn ([] ++ [x.av, y.av] ++ []) [bv (decide (x = y))]) : zn Tryz.prog Γ0 132 [(.sl 42 (a.map GSpan.av)), (.sl 42 (b.map GSpan.av)), .fn (.func fn) [] []] [bv (decide (a = b))] := by
  refine z_ Tryz.func132 rfl Tryz.ntmps132 (by kernel_rfl) rfl fun w0 I0 G0 => ?_
  refine zD <| zB <| g_u (zE rfl rfl) <| zH <| zA <| zD <| zD <| zB <| g_u (zC rfl rfl) <| g_u (z7 rfl rfl Tryz.underlying49) <| g_u (zC rfl rfl) <| g_u (z7 rfl rfl Tryz.underlying49) <| g_u (xl rfl rfl rfl) <| zH <| zA ?_
  refine zN rfl (fun hb1 => ?_) (fun hb1 => ?_)
  · have q : ¬ a.length = b.length := by have e := bne_iff_ne.1 hb1; simp only [List.length_map] at e; omega
    refine zD <| zB <| g_u (zE rfl rfl) <| zH <| zA <| zL <| zK ?_
    exact ⟨⟨(rfl : toAV (Al.look _ _) = some _).trans (congrArg some (by (exact congrArg bv (by first | exact (decide_eq_false (fun e => q (by rw [e]))).symm | exact (decide_eq_true (xc gs0 el (fun j hj => h2 j (by omega)))).symm)))), rfl⟩, trivial⟩
  · have el : a.length = b.length := by have e := qd.1 hb1; simp only [List.length_map] at e; omega
    refine zQ <| zA <| zD <| zD <| zB <| g_u (zC rfl rfl) <| g_u (z7 rfl rfl Tryz.underlying49) <| g_u (zC rfl rfl) <| zH <| zA <| zU ?_
    refine zw (fun i : Nat => [(1, .imm (.sl 42 (b.map GSpan.av))), (2, .imm (.fn (.func fn) [] [])), (15, .imm (.sl 42 (a.map GSpan.av))), (16, .imm (iv (a.length : Int))), (17, .imm (iv (i : Int)))]) (fun i => i ≤ a.length ∧ ∀ j, j < i → nth a j gs0 = nth b j gs0) (fun i => a.length - i) (0) ?_ ⟨rfl, rfl, rfl, zX rfl (by rw [List.length_map]), rfl, trivial⟩ ?_
    · exact ⟨Nat.zero_le _, fun j h => absurd h (Nat.not_lt_zero _)⟩
    · rintro i ⟨h1, h2⟩; (try dsimp only at h1 h2)
      refine zD <| zB <| g_u (ye rfl rfl rfl) <| zH <| zA <| zD ?_
      refine zN rfl (fun hb2 => ?_) (fun hb2 => ?_)
      · have hi : i < a.length := by have := of_decide_eq_true hb2; (try simp only [List.length_map] at this); omega
        have hib : i < b.length := by omega
        refine zQ <| zA <| zD <| zU <| zD <| zB <| g_u (zC rfl rfl) ?_
        refine g_u (zR rfl rfl rfl Tryz.underlying49 tS63 (by omega) (ixS hi)) ?_
        refine g_u (zd rfl rfl tA63 tS63 rfl (by first | exact wh (GSpan.width _) rfl | rfl)) ?_
        refine g_uG (zy 1008 rfl rfl rfl tZ63) rfl <| g_u (zE rfl rfl) ?_
        refine g_u (zV rfl rfl rfl tS63 (by first | exact beqW (GSpan.width _) | rfl) (by first | exact ur (z63_w.trans (GSpan.width _).symm) rfl | rfl)) ?_
        refine zH <| zA <| zD <| zB <| g_u (zC rfl rfl) <| g_u (zC rfl rfl) ?_
        refine g_u (zR rfl rfl rfl Tryz.underlying49 tS63 (by omega) (ixS hib)) ?_
        refine g_u (zd rfl rfl tA63 tS63 rfl (by first | exact wh (GSpan.width _) rfl | rfl)) ?_
        refine g_uG (zy 1009 rfl rfl rfl tZ63) rfl ?_
        refine g_u (zV rfl rfl rfl tS63 (by first | exact beqW (GSpan.width _) | rfl) (by first | exact ur (z63_w.trans (GSpan.width _).symm) rfl | rfl)) ?_
        refine zH <| zA <| zD <| zB <| g_u (zC rfl rfl) ?_
        refine g_u (zG rfl rfl rfl tA63 tS63 rfl (by first | exact wh (GSpan.width _) rfl | rfl)) ?_
        refine g_u (zG rfl rfl rfl tA63 tS63 rfl (by first | exact wh (GSpan.width _) rfl | rfl)) ?_
        refine g_u (wM (hf _ (uO hi) _) rfl rfl rfl) <| g_u (uA rfl rfl) <| zH <| zA ?_
        refine zN rfl (fun hb3 => ?_) (fun hb3 => ?_)
        · have q : ¬ nthS a i = nthS b i := fun h => by have e := hb3; rw [decide_eq_true h] at e; cases e
          refine zD <| zB <| g_u (zE rfl rfl) <| zH <| zA <| zL <| zt <| zK <| zK <| zt <| zK ?_
          exact ⟨⟨(rfl : toAV (Al.look _ _) = some _).trans (congrArg some (by (exact congrArg bv (by first | exact (decide_eq_false (fun e => q (by rw [e]))).symm | exact (decide_eq_true (xc gs0 el (fun j hj => h2 j (by omega)))).symm)))), rfl⟩, trivial⟩
        · have ev : nthS a i = nthS b i := by have e := hb3; simpa using e
          refine zQ <| zW <| zA <| zB <| g_u (z0 rfl rfl rfl) <| g_u (zC rfl rfl) <| zH <| zA ?_
          refine ⟨i + 1, ⟨hi, fun j hj => by rcases Nat.lt_or_ge j i with h | h; exact h2 j h; rw [show j = i by omega]; exact ev⟩, ⟨rfl, rfl, rfl, rfl, zX rfl (by rw [zO (by omega) (by omega)]; rfl), trivial⟩, by (try dsimp only); omega⟩
      · have hin : i = a.length := by have := of_decide_eq_false hb2; (try simp only [List.length_map] at this); omega
        refine zz <| zT <| zT <| zq <| zA <| zD <| zB <| g_u (zE rfl rfl) <| zH <| zA <| zL ?_
        exact ⟨⟨(rfl : toAV (Al.look _ _) = some _).trans (congrArg some (by (exact congrArg bv (by first | exact (decide_eq_false (fun e => q (by rw [e]))).symm | exact (decide_eq_true (xc gs0 el (fun j hj => h2 j (by omega)))).symm)))), rfl⟩, trivial⟩
set_option maxHeartbeats 4000000 in
theorem eqdC_c (a b : List GScope) (fn : FuncId) (hl : a.length ≤ 1000000000) (hf : ∀ x ∈ a, ∀ y : GScope, zn Tryz.prog Γ0 fn ([] ++ [x.av, y.av] ++ []) [bv (decide (x = y))]) : zn Tryz.prog Γ0 101 [(.sl 3 (a.map GScope.av)), (.sl 3 (b.map GScope.av)), .fn (.func fn) [] []] [bv (decide (a = b))] := by
  refine z_ Tryz.func101 rfl Tryz.ntmps101 (by kernel_rfl) rfl fun w0 I0 G0 => ?_
  refine zD <| zB <| g_u (zE rfl rfl) <| zH <| zA <| zD <| zD <| zB <| g_u (zC rfl rfl) <| g_u (z7 rfl rfl Tryz.underlying45) <| g_u (zC rfl rfl) <| g_u (z7 rfl rfl Tryz.underlying45) <| g_u (xl rfl rfl rfl) <| zH <| zA ?_
  refine zN rfl (fun hb1 => ?_) (fun hb1 => ?_)
  · have q : ¬ a.length = b.length := by have e := bne_iff_ne.1 hb1; simp only [List.length_map] at e; omega
    refine zD <| zB <| g_u (zE rfl rfl) <| zH <| zA <| zL <| zK ?_
    exact ⟨⟨(rfl : toAV (Al.look _ _) = some _).trans (congrArg some (by (exact congrArg bv (by first | exact (decide_eq_false (fun e => q (by rw [e]))).symm | exact (decide_eq_true (xc gc0 el (fun j hj => h2 j (by omega)))).symm)))), rfl⟩, trivial⟩
  · have el : a.length = b.length := by have e := qd.1 hb1; simp only [List.length_map] at e; omega
    refine zQ <| zA <| zD <| zD <| zB <| g_u (zC rfl rfl) <| g_u (z7 rfl rfl Tryz.underlying45) <| g_u (zC rfl rfl) <| zH <| zA <| zU ?_
    refine zw (fun i : Nat => [(1, .imm (.sl 3 (b.map GScope.av))), (2, .imm (.fn (.func fn) [] [])), (15, .imm (.sl 3 (a.map GScope.av))), (16, .imm (iv (a.length : Int))), (17, .imm (iv (i : Int)))]) (fun i => i ≤ a.length ∧ ∀ j, j < i → nth a j gc0 = nth b j gc0) (fun i => a.length - i) (0) ?_ ⟨rfl, rfl, rfl, zX rfl (by rw [List.length_map]), rfl, trivial⟩ ?_
    · exact ⟨Nat.zero_le _, fun j h => absurd h (Nat.not_lt_zero _)⟩
    · rintro i ⟨h1, h2⟩; (try dsimp only at h1 h2)
      refine zD <| zB <| g_u (ye rfl rfl rfl) <| zH <| zA <| zD ?_
      refine zN rfl (fun hb2 => ?_) (fun hb2 => ?_)
      · have hi : i < a.length := by have := of_decide_eq_true hb2; (try simp only [List.length_map] at this); omega
        have hib : i < b.length := by omega
        refine zQ <| zA <| zD <| zU <| zD <| zB <| g_u (zC rfl rfl) ?_
        refine g_u (zR rfl rfl rfl Tryz.underlying45 tS51 (by omega) (ixC hi)) ?_
        refine g_u (zd rfl rfl tA51 tS51 rfl rfl) <| g_uG (zy 1008 rfl rfl rfl tZ51) rfl <| g_u (zE rfl rfl) <| g_u (zV rfl rfl rfl tS51 rfl rfl) <| zH <| zA <| zD <| zB <| g_u (zC rfl rfl) <| g_u (zC rfl rfl) ?_
        refine g_u (zR rfl rfl rfl Tryz.underlying45 tS51 (by omega) (ixC hib)) ?_
        refine g_u (zd rfl rfl tA51 tS51 rfl rfl) <| g_uG (zy 1009 rfl rfl rfl tZ51) rfl <| g_u (zV rfl rfl rfl tS51 rfl rfl) <| zH <| zA <| zD <| zB <| g_u (zC rfl rfl) <| g_u (yC rfl rfl rfl tA51 tS51 rfl rfl) <| g_u (yC rfl rfl rfl tA51 tS51 rfl rfl) <| g_u (wM (hf _ (vy hi) _) rfl rfl rfl) <| g_u (uA rfl rfl) <| zH <| zA ?_
        refine zN rfl (fun hb3 => ?_) (fun hb3 => ?_)
        · have q : ¬ nthC a i = nthC b i := fun h => by have e := hb3; rw [decide_eq_true h] at e; cases e
          refine zD <| zB <| g_u (zE rfl rfl) <| zH <| zA <| zL <| zt <| zK <| zK <| zt <| zK ?_
          exact ⟨⟨(rfl : toAV (Al.look _ _) = some _).trans (congrArg some (by (exact congrArg bv (by first | exact (decide_eq_false (fun e => q (by rw [e]))).symm | exact (decide_eq_true (xc gc0 el (fun j hj => h2 j (by omega)))).symm)))), rfl⟩, trivial⟩
        · have ev : nthC a i = nthC b i := by have e := hb3; simpa using e
          refine zQ <| zW <| zA <| zB <| g_u (z0 rfl rfl rfl) <| g_u (zC rfl rfl) <| zH <| zA ?_
          refine ⟨i + 1, ⟨hi, fun j hj => by rcases Nat.lt_or_ge j i with h | h; exact h2 j h; rw [show j = i by omega]; exact ev⟩, ⟨rfl, rfl, rfl, rfl, zX rfl (by rw [zO (by omega) (by omega)]; rfl), trivial⟩, by (try dsimp only); omega⟩
      · have hin : i = a.length := by have := of_decide_eq_false hb2; (try simp only [List.length_map] at this); omega
        refine zz <| zT <| zT <| zq <| zA <| zD <| zB <| g_u (zE rfl rfl) <| zH <| zA <| zL ?_
        exact ⟨⟨(rfl : toAV (Al.look _ _) = some _).trans (congrArg some (by (exact congrArg bv (by first | exact (decide_eq_false (fun e => q (by rw [e]))).symm | exact (decide_eq_true (xc gc0 el (fun j hj => h2 j (by omega)))).symm)))), rfl⟩, trivial⟩
set_option maxHeartbeats 4000000 in
theorem eqdR_c (a b : List GRes) (fn : FuncId) (hl : a.length ≤ 1000000000) (hf : ∀ x ∈ a, ∀ y : GRes, zn Tryz.prog Γ0 fn ([] ++ [x.av, y.av] ++ []) [bv (decide (x = y))]) : zn Tryz.prog Γ0 71 [(.sl 2 (a.map GRes.av)), (.sl 2 (b.map GRes.av)), .fn (.func fn) [] []] [bv (decide (a = b))] := by
  refine z_ Tryz.func71 rfl Tryz.ntmps71 (by kernel_rfl) rfl fun w0 I0 G0 => ?_
  refine zD <| zB <| g_u (zE rfl rfl) <| zH <| zA <| zD <| zD <| zB <| g_u (zC rfl rfl) <| g_u (z7 rfl rfl Tryz.underlying22) <| g_u (zC rfl rfl) <| g_u (z7 rfl rfl Tryz.underlying22) <| g_u (xl rfl rfl rfl) <| zH <| zA ?_
  refine zN rfl (fun hb1 => ?_) (fun hb1 => ?_)
  · have q : ¬ a.length = b.length := by have e := bne_iff_ne.1 hb1; simp only [List.length_map] at e; omega
    refine zD <| zB <| g_u (zE rfl rfl) <| zH <| zA <| zL <| zK ?_
    exact ⟨⟨(rfl : toAV (Al.look _ _) = some _).trans (congrArg some (by (exact congrArg bv (by first | exact (decide_eq_false (fun e => q (by rw [e]))).symm | exact (decide_eq_true (xc gr0 el (fun j hj => h2 j (by omega)))).symm)))), rfl⟩, trivial⟩
  · have el : a.length = b.length := by have e := qd.1 hb1; simp only [List.length_map] at e; omega
    refine zQ <| zA <| zD <| zD <| zB <| g_u (zC rfl rfl) <| g_u (z7 rfl rfl Tryz.underlying22) <| g_u (zC rfl rfl) <| zH <| zA <| zU ?_
    refine zw (fun i : Nat => [(1, .imm (.sl 2 (b.map GRes.av))), (2, .imm (.fn (.func fn) [] [])), (15, .imm (.sl 2 (a.map GRes.av))), (16, .imm (iv (a.length : Int))), (17, .imm (iv (i : Int)))]) (fun i => i ≤ a.length ∧ ∀ j, j < i → nth a j gr0 = nth b j gr0) (fun i => a.length - i) (0) ?_ ⟨rfl, rfl, rfl, zX rfl (by rw [List.length_map]), rfl, trivial⟩ ?_
    · exact ⟨Nat.zero_le _, fun j h => absurd h (Nat.not_lt_zero _)⟩
    · rintro i ⟨h1, h2⟩; (try dsimp only at h1 h2)
      refine zD <| zB <| g_u (ye rfl rfl rfl) <| zH <| zA <| zD ?_
      refine zN rfl (fun hb2 => ?_) (fun hb2 => ?_)
      · have hi : i < a.length := by have := of_decide_eq_true hb2; (try simp only [List.length_map] at this); omega
        have hib : i < b.length := by omega
        refine zQ <| zA <| zD <| zU <| zD <| zB <| g_u (zC rfl rfl) ?_
        refine g_u (zR rfl rfl rfl Tryz.underlying22 tS47 (by omega) (ixR hi)) ?_
        refine g_u (zd rfl rfl tA47 tS47 rfl rfl) <| g_uG (zy 1008 rfl rfl rfl tZ47) rfl <| g_u (zE rfl rfl) <| g_u (zV rfl rfl rfl tS47 rfl rfl) <| zH <| zA <| zD <| zB <| g_u (zC rfl rfl) <| g_u (zC rfl rfl) ?_
        refine g_u (zR rfl rfl rfl Tryz.underlying22 tS47 (by omega) (ixR hib)) ?_
        refine g_u (zd rfl rfl tA47 tS47 rfl rfl) <| g_uG (zy 1009 rfl rfl rfl tZ47) rfl <| g_u (zV rfl rfl rfl tS47 rfl rfl) <| zH <| zA <| zD <| zB <| g_u (zC rfl rfl) <| g_u (yC rfl rfl rfl tA47 tS47 rfl rfl) <| g_u (yC rfl rfl rfl tA47 tS47 rfl rfl) <| g_u (wM (hf _ (w_ hi) _) rfl rfl rfl) <| g_u (uA rfl rfl) <| zH <| zA ?_
        refine zN rfl (fun hb3 => ?_) (fun hb3 => ?_)
        · have q : ¬ nthR a i = nthR b i := fun h => by have e := hb3; rw [decide_eq_true h] at e; cases e
          refine zD <| zB <| g_u (zE rfl rfl) <| zH <| zA <| zL <| zt <| zK <| zK <| zt <| zK ?_
          exact ⟨⟨(rfl : toAV (Al.look _ _) = some _).trans (congrArg some (by (exact congrArg bv (by first | exact (decide_eq_false (fun e => q (by rw [e]))).symm | exact (decide_eq_true (xc gr0 el (fun j hj => h2 j (by omega)))).symm)))), rfl⟩, trivial⟩
        · have ev : nthR a i = nthR b i := by have e := hb3; simpa using e
          refine zQ <| zW <| zA <| zB <| g_u (z0 rfl rfl rfl) <| g_u (zC rfl rfl) <| zH <| zA ?_
          refine ⟨i + 1, ⟨hi, fun j hj => by rcases Nat.lt_or_ge j i with h | h; exact h2 j h; rw [show j = i by omega]; exact ev⟩, ⟨rfl, rfl, rfl, rfl, zX rfl (by rw [zO (by omega) (by omega)]; rfl), trivial⟩, by (try dsimp only); omega⟩
      · have hin : i = a.length := by have := of_decide_eq_false hb2; (try simp only [List.length_map] at this); omega
        refine zz <| zT <| zT <| zq <| zA <| zD <| zB <| g_u (zE rfl rfl) <| zH <| zA <| zL ?_
        exact ⟨⟨(rfl : toAV (Al.look _ _) = some _).trans (congrArg some (by (exact congrArg bv (by first | exact (decide_eq_false (fun e => q (by rw [e]))).symm | exact (decide_eq_true (xc gr0 el (fun j hj => h2 j (by omega)))).symm)))), rfl⟩, trivial⟩
set_option maxHeartbeats 4000000 in
theorem psameC_c (a b : GScope) (hw : a.wt ≤ 1000000000) : zn Tryz.prog Γ0 102 [a.av, b.av] [bv (decide (a = b))] := by
  have qw : a.wt = 1 + a.name.size + a.version.size + zg GSpan.wt a.spans := rfl
  have ql := yX GSpan.wt (fun e => by unfold GSpan.wt; omega) a.spans
  refine z_ Tryz.func102 rfl Tryz.ntmps102 (by kernel_rfl) rfl fun w0 I0 G0 => ?_
  refine zD <| zB <| g_uG (zk 1002 rfl rfl rfl rfl) rfl <| g_uG (zk 1003 rfl rfl rfl rfl) rfl <| g_u (zE rfl rfl) <| zH <| zA <| zD <| zB <| g_u (zF rfl rfl fa51_0 rfl) <| g_u (zG rfl rfl rfl tA9 tS9 rfl rfl) <| g_u (zF rfl rfl fa51_0 rfl) <| g_u (zG rfl rfl rfl tA9 tS9 rfl rfl) <| g_u (jZ rfl rfl rfl) <| g_u (zC rfl rfl) <| yB (t := 10) rfl ?_
  rintro (hb1 | hb1)
  · rw [hb1]
    have f1 : a.name = b.name := by have e := hb1; rw [yH] at e; simpa using e
    refine zY rfl rfl (zF rfl rfl fa51_1 rfl) <| zY rfl rfl (zG rfl rfl rfl tA9 tS9 rfl rfl) <| zY rfl rfl (zF rfl rfl fa51_1 rfl) <| zY rfl rfl (zG rfl rfl rfl tA9 tS9 rfl rfl) <| zY rfl rfl (jZ rfl rfl rfl) <| g_u (zZ rfl rfl rfl) <| g_u (zC rfl rfl) <| yB (t := 17) rfl ?_
    rintro (hb2 | hb2)
    · rw [hb2]
      have f2 : a.version = b.version := by have e := hb2; rw [yH] at e; simpa using e
      refine zY rfl rfl (zF rfl rfl uM rfl) <| zY rfl rfl (zG rfl rfl rfl tA49 tS49 rfl rfl) <| zY rfl rfl (zF rfl rfl uM rfl) <| zY rfl rfl (zG rfl rfl rfl tA49 tS49 rfl rfl) ?_
      refine zY rfl rfl (zP (eqdS_c a.spans b.spans 133 (by omega) (fun x hx y => psameS_c x y (by have h5 := yP GSpan.wt hx; omega))) rfl rfl) ?_
      refine g_u (zZ rfl rfl rfl) <| g_u (zE rfl rfl) <| zH <| zA <| zL ?_
      exact ⟨⟨(rfl : toAV (Al.look _ _) = some _).trans (congrArg some (by (exact congrArg bv (by first | exact (decide_eq_false (fun e => q (by rw [e]))).symm | (rw [Bool.eq_iff_iff, decide_eq_true_iff, decide_eq_true_iff]; exact ⟨fun h => GScope.ext' f1 f2 h, fun h => by rw [h]⟩))))), rfl⟩, trivial⟩
    · rw [hb2]
      have q : ¬ a.version = b.version := by have e := hb2; rw [yH] at e; simpa using e
      refine zI rfl rfl rfl <| zI rfl rfl rfl <| zI rfl rfl rfl <| zI rfl rfl rfl <| zI rfl rfl rfl <| g_u (zh rfl rfl rfl) <| g_u (zE rfl rfl) <| zH <| zA <| zL ?_
      exact ⟨⟨(rfl : toAV (Al.look _ _) = some _).trans (congrArg some (by (exact congrArg bv (by first | exact (decide_eq_false (fun e => q (by rw [e]))).symm | (rw [Bool.eq_iff_iff, decide_eq_true_iff, decide_eq_true_iff]; exact ⟨fun h => GScope.ext' f1 f2 h, fun h => by rw [h]⟩))))), rfl⟩, trivial⟩
  · rw [hb1]
    have q : ¬ a.name = b.name := by have e := hb1; rw [yH] at e; simpa using e
    refine zI rfl rfl rfl <| zI rfl rfl rfl <| zI rfl rfl rfl <| zI rfl rfl rfl <| zI rfl rfl rfl <| g_u (zh rfl rfl rfl) <| g_u (zC rfl rfl) <| zI rfl rfl rfl <| zI rfl rfl rfl <| zI rfl rfl rfl <| zI rfl rfl rfl <| zI rfl rfl rfl <| g_u (zh rfl rfl rfl) <| g_u (zE rfl rfl) <| zH <| zA <| zL ?_
    exact ⟨⟨(rfl : toAV (Al.look _ _) = some _).trans (congrArg some (by (exact congrArg bv (by first | exact (decide_eq_false (fun e => q (by rw [e]))).symm | (rw [Bool.eq_iff_iff, decide_eq_true_iff, decide_eq_true_iff]; exact ⟨fun h => GScope.ext' f1 f2 h, fun h => by rw [h]⟩))))), rfl⟩, trivial⟩
set_option maxHeartbeats 4000000 in
theorem psameR_c (a b : GRes) (hw : a.wt ≤ 1000000000) : zn Tryz.prog Γ0 72 [a.av, b.av] [bv (decide (a = b))] := by
  have qw : a.wt = 1 + wtAs a.attrs + zg GScope.wt a.scopes := rfl
  have ql := yX GScope.wt (fun e => by unfold GScope.wt; omega) a.scopes
  refine z_ Tryz.func72 rfl Tryz.ntmps72 (by kernel_rfl) rfl fun w0 I0 G0 => ?_
  refine zD <| zB <| g_uG (zk 1002 rfl rfl rfl rfl) rfl <| g_uG (zk 1003 rfl rfl rfl rfl) rfl <| g_u (zE rfl rfl) <| zH <| zA <| zD <| zB <| g_u (zF rfl rfl fa47_0 rfl) <| g_u (zG rfl rfl rfl tA44 tS44 rfl rfl) <| g_u (zF rfl rfl fa47_0 rfl) <| g_u (zG rfl rfl rfl tA44 tS44 rfl rfl) ?_
  refine g_u (zP (jU a.attrs b.attrs (by omega)) rfl rfl) ?_
  refine g_u (zC rfl rfl) <| yB (t := 10) rfl ?_
  rintro (hb1 | hb1)
  · rw [hb1]
    have f1 : a.attrs = b.attrs := (yy _ _).1 hb1
    refine zY rfl rfl (zF rfl rfl wj rfl) <| zY rfl rfl (zG rfl rfl rfl tA45 tS45 rfl rfl) <| zY rfl rfl (zF rfl rfl wj rfl) <| zY rfl rfl (zG rfl rfl rfl tA45 tS45 rfl rfl) ?_
    refine zY rfl rfl (zP (eqdC_c a.scopes b.scopes 102 (by omega) (fun x hx y => psameC_c x y (by have h5 := yP GScope.wt hx; omega))) rfl rfl) ?_
    refine g_u (zZ rfl rfl rfl) <| g_u (zE rfl rfl) <| zH <| zA <| zL ?_
    exact ⟨⟨(rfl : toAV (Al.look _ _) = some _).trans (congrArg some (by (exact congrArg bv (by first | exact (decide_eq_false (fun e => q (by rw [e]))).symm | (rw [Bool.eq_iff_iff, decide_eq_true_iff, decide_eq_true_iff]; exact ⟨fun h => GRes.ext' f1 h, fun h => by rw [h]⟩))))), rfl⟩, trivial⟩
  · rw [hb1]
    have q : ¬ a.attrs = b.attrs := fun h => by have e := hb1; rw [h, sameAs_refl] at e; cases e
    refine zI rfl rfl rfl <| zI rfl rfl rfl <| zI rfl rfl rfl <| zI rfl rfl rfl <| zI rfl rfl rfl <| g_u (zh rfl rfl rfl) <| g_u (zE rfl rfl) <| zH <| zA <| zL ?_
    exact ⟨⟨(rfl : toAV (Al.look _ _) = some _).trans (congrArg some (by (exact congrArg bv (by first | exact (decide_eq_false (fun e => q (by rw [e]))).symm | (rw [Bool.eq_iff_iff, decide_eq_true_iff, decide_eq_true_iff]; exact ⟨fun h => GRes.ext' f1 h, fun h => by rw [h]⟩))))), rfl⟩, trivial⟩
theorem psameB_c (a b : List GRes) (hw : wtB a ≤ 1000000000) : zn Tryz.prog Γ0 44 [ya a, ya b] [bv (decide (a = b))] := by
  have ql := yX GRes.wt (fun e => by unfold GRes.wt; omega) a
  have qw : wtB a = zg GRes.wt a := rfl
  refine z_ Tryz.func44 rfl Tryz.ntmps44 (by kernel_rfl) rfl fun w0 I0 G0 => ?_
  refine zD <| zB <| g_uG (zk 1002 rfl rfl rfl rfl) rfl <| g_uG (zk 1003 rfl rfl rfl rfl) rfl <| g_u (zE rfl rfl) <| zH <| zA <| zD <| zB <| g_u (zF rfl rfl uC rfl) <| g_u (zG rfl rfl rfl tA22 tS22 rfl rfl) <| g_u (zF rfl rfl uC rfl) <| g_u (zG rfl rfl rfl tA22 tS22 rfl rfl) ?_
  refine g_u (zP (eqdR_c a b 72 (by omega) (fun x hx y => psameR_c x y (by have h5 := yP GRes.wt hx; omega))) rfl rfl) ?_
  refine g_u (zE rfl rfl) <| zH <| zA <| zL ?_
  exact ⟨⟨(rfl : toAV (Al.look _ _) = some _).trans (congrArg some (by rfl)), rfl⟩, trivial⟩
end Go.Proofs
namespace Go.Proofs
open Go Go.Al
set_option maxRecDepth 10000
end Go.Proofs
namespace Go.Proofs
open Go Go.Al
set_option maxRecDepth 10000
end Go.Proofs
namespace Go.Proofs
open Go Go.Al
set_option maxRecDepth 10000
set_option maxHeartbeats 4000000 in
theorem rspan28_c (b : List GRes) (p : Int × Int × Int) (h : inB b p = true) : zn Tryz.prog Γ0 59 [ya b, placeAv p] [(atS b p).av] := by
  have h9 := inB_iff.1 h
  have n1 : (p.1.toNat : Int) = p.1 := Int.toNat_of_nonneg (by omega)
  have n2 : (p.2.1.toNat : Int) = p.2.1 := Int.toNat_of_nonneg (by omega)
  have n3 : (p.2.2.toNat : Int) = p.2.2 := Int.toNat_of_nonneg (by omega)
  refine z_ Tryz.func59 rfl Tryz.ntmps59 (by kernel_rfl) rfl fun w0 I0 G0 => ?_
  refine zD <| zB <| g_uG (zk 1002 rfl rfl rfl rfl) rfl <| g_uG (zk 1003 rfl rfl rfl rfl) rfl <| g_uG (zy 1004 rfl rfl rfl tZ63) rfl <| zH <| zA <| zD <| y_ xR <| g_u (zF rfl rfl uC rfl) <| g_u (zG rfl rfl rfl tA22 tS22 rfl rfl) <| g_u (zF rfl rfl fa98_0 rfl) <| g_u (zG rfl rfl rfl tA3 tS3 rfl rfl) ?_
  refine g_u (zR rfl rfl rfl Tryz.underlying22 tS47 (by omega) (wq (d := gr0) (show p.1.toNat < b.length by omega))) ?_
  refine g_u (zf rfl rfl wj rfl rfl) <| g_u (zd rfl rfl tA45 tS45 rfl rfl) <| g_u (zF rfl rfl fa98_1 rfl) <| g_u (zG rfl rfl rfl tA3 tS3 rfl rfl) ?_
  refine g_u (zR rfl rfl rfl Tryz.underlying45 tS51 (by omega) (wq (d := gc0) (show p.2.1.toNat < (nthR b p.1.toNat).scopes.length by omega))) ?_
  refine g_u (zf rfl rfl uM rfl rfl) <| g_u (zd rfl rfl tA49 tS49 rfl rfl) <| g_u (zF rfl rfl fa98_2 rfl) <| g_u (zG rfl rfl rfl tA3 tS3 rfl rfl) ?_
  refine g_u (zR rfl rfl rfl Tryz.underlying49 tS63 (by omega) (wq (d := gs0) (show p.2.2.toNat < (nthC (nthR b p.1.toNat).scopes p.2.1.toNat).spans.length by omega))) ?_
  refine g_u (zd rfl rfl tA63 tS63 rfl (by first | exact wh (GSpan.width _) rfl | rfl)) ?_
  refine g_u (zV rfl rfl rfl tS63 (by first | exact beqW (GSpan.width _) | rfl) (by first | exact ur (z63_w.trans (GSpan.width _).symm) rfl | rfl)) ?_
  refine zH ⟨by kernel_rfl, ?_⟩
  refine zA <| zL ?_
  exact ⟨⟨_, _, _, _, _, _, _, rfl, rfl, tA63, tS63, rfl, rfl, (rfl : toAV _ = some _).trans (congrArg some (by (unfold atS; rw [h]; rfl)))⟩, trivial⟩
end Go.Proofs
namespace Go.Proofs
open Go Go.Al
set_option maxRecDepth 10000
end Go.Proofs
namespace Go.Proofs
open Go Go.Al
def rt (s : ByteArray) : Prop := wv s = -1
theorem rt_app {s t : ByteArray} (h : rt s) (k : rt t) : rt (s ++ t) := (joins1 s t h k).1
def rB (l : Bs) : Prop := rt (yF l)
theorem uK {a b : Bs} (h : rB a) (k : rB b) : rB (a ++ b) := by unfold rB; rw [← wR]; exact rt_app h k
theorem rB_iff (l : Bs) : rB l ↔ ∃ c, Path (fM (yF l)) 0 l.length c := by
  have hz : (yF l).size = l.length := ze l
  constructor
  · intro h
    have p := (u3 (yF l)).1
    rw [(sd _).1 h, hz] at p
    exact ⟨_, p⟩
  · rintro ⟨c, p⟩
    rw [← hz] at p
    exact (sd _).2 (by rw [end_iff _ _ p])
theorem rB_nil : rB [] := (rB_iff _).2 ⟨0, .refl _⟩
theorem sf (l : Bs) (i : Nat) : bAt (yF l) i = ((l.getD i 0).toNat : Int) := by
  unfold bAt; rw [xU, Int.toNat_natCast]
theorem rB_one {c : UInt8} (h : c.toNat < 128) : rB [c] := by
  have hz : (yF [c]).size = 1 := ze [c]
  have hb : bAt (yF [c]) 0 = c.toNat := sf [c] 0
  have hf : fM (yF [c]) 0 = 1 := by
    rw [fM_DS _ _ (Int.le_refl _)]; unfold DS; rw [hb]; unfold D4; rw [if_neg (by omega), if_pos (by omega)]
  refine (rB_iff _).2 ⟨0 + 1, .step (by rw [hf]; decide) ?_⟩
  rw [hf]; exact .refl _
theorem vS : ∀ {l : Bs}, (∀ c ∈ l, c.toNat < 128) → rB l
  | [], _ => rB_nil
  | c :: l, h => uK (a := [c]) (rB_one (h c List.mem_cons_self)) (vS fun x hx => h x (List.mem_cons_of_mem _ hx))
theorem path_app3 {s t : ByteArray} {p q c : Int} (h : Path (fM (s ++ t)) p q c) (hp : (s.size : Int) ≤ p) : Path (fM t) (p - s.size) (q - s.size) c := by
  induction h with
  | refl p => exact .refl _
  | @step p q c h k ih =>
    have h2 := f_pos _ _ h
    have hz := zo s t
    have e := f_same (s := s ++ t) (t := t) (p := p) (q := p - s.size) h2.1 (by omega) h (by omega) (fun i a b => by
      have := bAt_app2 s t (p - s.size + i) (by omega)
      rw [show (s.size : Int) + (p - s.size + i) = p + i by omega] at this
      rw [this])
    refine .step (by rw [e]; exact h) ?_
    rw [e]
    have := ih (by omega)
    rwa [show p + fM (s ++ t) p - (s.size : Int) = p - s.size + fM (s ++ t) p by omega] at this
theorem D4_high {n b0 b1 b2 b3 : Int} (h : (D4 n b0 b1 b2 b3).2 ≠ 0) : (b0 < 128 ∧ (D4 n b0 b1 b2 b3).2 = 1) ∨
    (128 ≤ b0 ∧ (1 < (D4 n b0 b1 b2 b3).2 → 128 ≤ b1) ∧ (2 < (D4 n b0 b1 b2 b3).2 → 128 ≤ b2) ∧ (3 < (D4 n b0 b1 b2 b3).2 → 128 ≤ b3) ∧ (D4 n b0 b1 b2 b3).2 ≤ 4) := by
  unfold D4 at h ⊢
  by_cases a0 : n < 1
  · rw [if_pos a0] at h; exact absurd rfl h
  rw [if_neg a0] at *
  by_cases a1 : b0 < 128
  · rw [if_pos a1]; exact .inl ⟨a1, rfl⟩
  rw [if_neg a1] at *
  right
  refine ⟨by omega, ?_⟩
  by_cases a2 : ok2 n b0 b1
  · rw [if_pos a2]; obtain ⟨o1, o2, o3, o4⟩ := a2; unfold isC at o4; dsimp only; omega
  rw [if_neg a2] at *
  by_cases a3 : ok3 n b0 b1 b2
  · rw [if_pos a3]; obtain ⟨o1, o2, o3, o4, o5, _⟩ := a3; unfold isC at o4 o5; dsimp only; omega
  rw [if_neg a3] at *
  by_cases a4 : ok4 n b0 b1 b2 b3
  · rw [if_pos a4]; obtain ⟨o1, o2, o3, o4, o5, o6, _⟩ := a4; unfold isC at o4 o5 o6; dsimp only; omega
  · rw [if_neg a4] at h; exact absurd rfl h
theorem rB_head {c : UInt8} {l : Bs} (h : rB (c :: l)) : (c.toNat < 128 ∧ rB l) ∨ ∃ a b : Bs, c :: l = a ++ b ∧ a ≠ [] ∧ rB a ∧ rB b ∧ ∀ x ∈ a, 128 ≤ x.toNat := by
  obtain ⟨n, p⟩ := (rB_iff _).1 h
  have hz : (yF (c :: l)).size = (c :: l).length := ze _
  obtain ⟨hf, m, p2⟩ := p.first (by simp only [List.length_cons]; omega)
  have h2 := f_pos _ _ hf
  rw [Int.zero_add] at p2
  generalize hk : fM (yF (c :: l)) 0 = k at *
  obtain ⟨k, rfl⟩ : ∃ j : Nat, k = j := ⟨k.toNat, by omega⟩
  have hlen : ((c :: l).take k).length = k := by rw [List.length_take]; omega
  have es : yF (c :: l) = yF ((c :: l).take k) ++ yF ((c :: l).drop k) := by rw [wR, List.take_append_drop]
  have sa : (yF ((c :: l).take k)).size = k := (ze _).trans hlen
  have hb : rB ((c :: l).drop k) := by
    rw [es] at p2
    have := path_app3 p2 (by omega)
    refine (rB_iff _).2 ⟨m, ?_⟩
    rwa [sa, Int.sub_self, show (((c :: l).length : Nat) : Int) - (k : Int) = (((c :: l).drop k).length : Int) by rw [List.length_drop]; omega] at this
  have ha : rB ((c :: l).take k) := by
    have e := f_same (s := yF (c :: l)) (t := yF ((c :: l).take k)) (p := 0) (q := 0) (by omega) (by omega) (by rw [hk]; omega) (by rw [hk]; omega) (fun i a b => by
      rw [hk] at b
      rw [es]; exact bAt_app1 _ _ _ (by omega) (by omega))
    refine (rB_iff _).2 ⟨0 + 1, .step (by rw [e, hk]; omega) ?_⟩
    rw [e, hk, hlen, Int.zero_add]; exact .refl _
  have e1 := fM_DS (yF (c :: l)) 0 (Int.le_refl _)
  rw [hk] at e1
  unfold DS at e1
  have hd := D4_high (n := (yF (c :: l)).size - 0) (b0 := bAt (yF (c :: l)) 0) (b1 := bAt (yF (c :: l)) (0 + 1)) (b2 := bAt (yF (c :: l)) (0 + 2)) (b3 := bAt (yF (c :: l)) (0 + 3)) (by rw [← e1]; omega)
  rw [← e1] at hd
  have g0 := sf (c :: l) 0
  have g1 := sf (c :: l) 1
  have g2 := sf (c :: l) 2
  have g3 := sf (c :: l) 3
  rcases hd with ⟨d1, d2⟩ | ⟨d1, d2, d3, d4, d5⟩
  · left
    obtain rfl : k = 1 := by omega
    exact ⟨by have : ((c.toNat : Nat) : Int) < 128 := by rw [show bAt (yF (c :: l)) 0 = _ from g0] at d1; simpa using d1
              omega, hb⟩
  · right
    refine ⟨_, _, (List.take_append_drop k (c :: l)).symm, fun h0 => by rw [h0] at hlen; simp at hlen; omega, ha, hb, fun x hx => ?_⟩
    obtain ⟨j, hj, rfl⟩ := List.mem_iff_getElem.1 hx
    have hjk : j < k := by omega
    have ej : ((c :: l).take k)[j] = (c :: l).getD j 0 := by
      rw [List.getElem_take, List.getD_eq_getElem?_getD, List.getElem?_eq_getElem]; rfl
    rw [ej]
    rcases j with _ | _ | _ | _ | j
    · rw [show bAt (yF (c :: l)) 0 = _ from g0] at d1; omega
    · have := d2 (by omega); rw [show bAt (yF (c :: l)) (0 + 1) = _ from g1] at this; show 128 ≤ ((c :: l).getD 1 0).toNat; omega
    · have := d3 (by omega); rw [show bAt (yF (c :: l)) (0 + 2) = _ from g2] at this; show 128 ≤ ((c :: l).getD 2 0).toNat; omega
    · have := d4 (by omega); rw [show bAt (yF (c :: l)) (0 + 3) = _ from g3] at this; show 128 ≤ ((c :: l).getD 3 0).toNat; omega
    · omega
theorem hexD_ascii {n : Nat} (h : n < 16) : (hexD n).toNat < 128 := by
  unfold hexD; rw [UInt8.toNat_ofNat']; split <;> omega
theorem sz : ∀ l : Bs, ∀ x ∈ hexB l, x.toNat < 128
  | c :: l, x, h => by
    have hc := UInt8.toNat_lt c
    rw [hexB] at h
    rcases List.mem_cons.1 h with rfl | h
    · exact hexD_ascii (by omega)
    rcases List.mem_cons.1 h with rfl | h
    · exact hexD_ascii (by omega)
    · exact sz l x h
theorem escB_ascii {c : UInt8} (h : c.toNat < 128) : ∀ x ∈ escB c, x.toNat < 128 := by
  unfold escB
  split
  · intro x hx; rcases List.mem_cons.1 hx with rfl | hx
    · decide
    · cases List.mem_singleton.1 hx; exact h
  split
  · intro x hx
    simp only [List.mem_cons] at hx
    rcases hx with rfl | rfl | rfl | rfl | hx
    · decide
    · decide
    · decide
    · decide
    · exact sz _ x hx
  · intro x hx; cases List.mem_singleton.1 hx; exact h
theorem escs_high : ∀ {l : Bs}, (∀ x ∈ l, 128 ≤ x.toNat) → escs l = l
  | [], _ => rfl
  | c :: l, h => by
    have hc := h c List.mem_cons_self
    rw [escs, escs_high fun x hx => h x (List.mem_cons_of_mem _ hx)]
    unfold escB
    rw [if_neg, if_neg]
    · rfl
    · intro h2; have : c.toNat < (32 : UInt8).toNat := UInt8.lt_iff_toNat_lt.1 h2
      have e : (32 : UInt8).toNat = 32 := rfl
      omega
    · rintro (rfl | rfl)
      · exact absurd hc (by decide)
      · exact absurd hc (by decide)
theorem rB_escs : ∀ (n : Nat) (l : Bs), l.length ≤ n → rB l → rB (escs l)
  | _, [], _, _ => rB_nil
  | n + 1, c :: l, hn, h => by
    rcases rB_head h with ⟨hc, h⟩ | ⟨a, b, e, hne, ha, hb, hx⟩
    · rw [escs]; exact uK (vS (escB_ascii hc)) (rB_escs n l (by simpa using hn) h)
    · have : b.length ≤ n := by
        have h1 := congrArg List.length e
        have h2 : a.length ≠ 0 := fun h => hne (List.eq_nil_of_length_eq_zero h)
        rw [List.length_append] at h1
        omega
      rw [e, rX, escs_high hx]; exact uK ha (rB_escs n b this hb)
theorem rB_quote {l : Bs} (h : rB l) : rB (vZ l) :=
  uK (a := [34]) (rB_one (by decide)) (uK (rB_escs _ l (Nat.le_refl _) h) (rB_one (by decide)))
theorem natF_ascii : ∀ (f n : Nat), ∀ x ∈ natF f n, x.toNat < 128
  | 0, _, x, h => by cases h
  | f + 1, n, x, h => by
    rw [natF] at h
    split at h
    · cases List.mem_singleton.1 h; rw [UInt8.toNat_ofNat']; omega
    · rcases List.mem_append.1 h with h | h
      · exact natF_ascii f _ x h
      · cases List.mem_singleton.1 h; rw [UInt8.toNat_ofNat']; omega
theorem decB_ascii (n : Int) : ∀ x ∈ decB n, x.toNat < 128 := by
  unfold decB; split
  · intro x h; rcases List.mem_cons.1 h with rfl | h
    · decide
    · exact natF_ascii _ _ x h
  · exact natF_ascii _ _
theorem rB_simp {v : GV} (h : v.kind = 1 → rt v.text) : rB (wE v) := by
  unfold wE
  split
  · rename_i h1; unfold rB; rw [jH]; exact h h1
  split
  · split
    · exact vS (by decide)
    · exact vS (by decide)
  split
  · exact vS (decB_ascii _)
  split
  · have := uK (a := [48, 120]) (b := hexB (be 8 v.bits.toNat)) (vS (by decide)) (vS (sz _)); exact this
  split
  · exact vS (sz _)
  · exact rB_nil
theorem checkV_text {d : Int} {v : GV} (h : y9 d v = 0) (h1 : v.kind = 1) : rt v.text := by
  rw [z8] at h
  split at h; · omega
  split at h; · omega
  split at h; · omega
  split at h
  · omega
  · rename_i h4
    by_cases hr : wv v.text = -1
    · exact hr
    · exact absurd ⟨h1, hr⟩ h4
theorem keyC_right {k : ByteArray} (h : keyC k = 0) : rt k := by
  unfold keyC at h
  split at h; · omega
  split at h
  · omega
  · rename_i h2
    by_cases hr : wv k = -1
    · exact hr
    · exact absurd hr h2
theorem entC_iff {d : Int} : ∀ {l : List GA} {p : Option ByteArray}, entC d p l = 0 ↔ risA p l ∧ ∀ a ∈ l, keyC a.key = 0 ∧ y9 d a.val = 0
  | [], p => ⟨fun _ => ⟨trivial, fun a h => by cases h⟩, fun _ => by rw [entC]⟩
  | x :: l, p => by
    have ih := entC_iff (d := d) (l := l) (p := some x.key)
    have hp : sE p x.key = false ↔ (match p with | some q => ltB q x.key = true | none => True) := by
      cases p with
      | none => exact ⟨fun _ => trivial, fun _ => rfl⟩
      | some q => simp only [sE]; cases ltB q x.key <;> simp
    rw [entC, checkA_eq]
    constructor
    · intro h
      obtain ⟨h1, h2⟩ := xu h
      cases hb : sE p x.key
      · rw [hb, if_neg (by decide)] at h2
        obtain ⟨h3, h4⟩ := xu h2
        obtain ⟨h5, h6⟩ := ih.1 h4
        refine ⟨⟨hp.1 hb, h5⟩, fun a ha => ?_⟩
        rcases List.mem_cons.1 ha with rfl | ha
        · exact ⟨h1, h3⟩
        · exact h6 a ha
      · rw [hb, if_pos rfl] at h2; omega
    · rintro ⟨⟨h1, h2⟩, h3⟩
      have h4 := h3 x List.mem_cons_self
      rw [hp.2 h1, if_neg (by decide), zJ _ _ h4.1, zJ _ _ h4.2]
      exact ih.2 ⟨h2, fun a ha => h3 a (List.mem_cons_of_mem _ ha)⟩
theorem rB_comma (f : Bool) : rB (sk f) := by cases f <;> exact vS (by decide)
theorem rB_json (v : GV) : ∀ d : Int, y9 d v = 0 → rB (xC v) := by
  refine GV.ind (P := fun v => ∀ d : Int, y9 d v = 0 → rB (xC v)) ?_ v
  intro v h1 h2 d hc
  obtain ⟨h3, h4⟩ := checkV_parts hc
  have h5 := (entC_iff.1 h4).2
  have hv : ∀ (l : List GV) (f : Bool), (∀ y ∈ l, rB (xC y)) → rB (wu f l) := by
    intro l
    induction l with
    | nil => intro f _; rw [wu]; exact rB_nil
    | cons x xs ih =>
      intro f h
      rw [wu]
      exact uK (uK (rB_comma f) (h x List.mem_cons_self)) (ih false fun y hy => h y (List.mem_cons_of_mem _ hy))
  have ha : ∀ (l : List GA) (f : Bool), (∀ y ∈ l, rt y.key ∧ rB (xC y.val)) → rB (vC f l) := by
    intro l
    induction l with
    | nil => intro f _; rw [vC]; exact rB_nil
    | cons x xs ih =>
      intro f h
      have hx := h x List.mem_cons_self
      rw [vC, s6]
      refine uK (uK (rB_comma f) (uK (uK (rB_quote ?_) (rB_one (by decide))) hx.2)) (ih false fun y hy => h y (List.mem_cons_of_mem _ hy))
      unfold rB; rw [jH]; exact hx.1
  have hs : rB (wE v) := rB_simp fun h => checkV_text hc h
  rw [sA]
  split
  · exact vS (by decide)
  split
  · exact rB_quote hs
  split
  · exact uK (a := [91]) (rB_one (by decide)) (uK (hv _ _ fun y hy => h1 y hy _ (checkVs_mem h3 y hy)) (rB_one (by decide)))
  split
  · exact uK (a := [123]) (rB_one (by decide)) (uK (ha _ _ fun y hy => ⟨keyC_right (h5 y hy).1, h2 y hy _ (h5 y hy).2⟩) (rB_one (by decide)))
  · exact hs
theorem rt_text {v : GV} {d : Int} (h : y9 d v = 0) : rt (xA v) := by
  show rB (textB v)
  unfold textB; split
  · exact rB_json v d h
  · exact rB_simp fun h1 => checkV_text h h1
end Go.Proofs
namespace Go.Proofs
open Go Go.Al
theorem vR {l : List GA} : ym l = 0 ↔ l.length ≤ 32 ∧ risA none l ∧ ∀ a ∈ l, keyC a.key = 0 ∧ y9 0 a.val = 0 ∧ (xA a.val).size ≤ 1024 := by
  unfold ym
  constructor
  · intro h
    split at h
    · omega
    · rename_i hl
      obtain ⟨h1, h2⟩ := xu h
      obtain ⟨h3, h4⟩ := entC_iff.1 h1
      refine ⟨by omega, h3, fun a ha => ⟨(h4 a ha).1, (h4 a ha).2, ?_⟩⟩
      split at h2
      · omega
      · rename_i h5
        have h6 : ¬ decide (1024 < (xA a.val).size) = true := fun h => h5 (List.any_eq_true.2 ⟨a, ha, h⟩)
        simpa using h6
  · rintro ⟨h1, h2, h3⟩
    rw [if_neg (by omega), zJ _ _ (entC_iff.2 ⟨h2, fun a ha => ⟨(h3 a ha).1, (h3 a ha).2.1⟩⟩), if_neg]
    intro h
    obtain ⟨a, ha, hd⟩ := List.any_eq_true.1 h
    have := (h3 a ha).2.2
    have : 1024 < (xA a.val).size := of_decide_eq_true hd
    omega
theorem check_tv {t : ByteArray} (h : rt t) (d : Int) : y9 d (tv t) = 0 := by
  have hk : (tv t).kind = 1 := rfl
  have ht : (tv t).text = t := rfl
  rw [z8, if_neg (by omega), if_neg (by rw [show uJ (tv t) = true from rfl]; decide), if_neg (by omega), if_neg (by rintro ⟨_, h2⟩; exact h2 (ht ▸ h)), if_neg (by omega)]
  show orC (vo (d + 1) []) (entC (d + 1) none []) = 0
  rw [vo, entC]; rfl
theorem rr (ks : List Int) (a : GA) : xA (yZ ks a).val = xA a.val := by
  unfold yZ; split
  · exact s7 (xA a.val)
  · rfl
theorem check_plain (ks : List Int) {a : GA} {d : Int} (h : y9 d a.val = 0) : y9 d (yZ ks a).val = 0 := by
  unfold yZ; split
  · exact check_tv (rt_text h) d
  · exact h
theorem sB (ks : List Int) (but : List ByteArray) {l : List GA} (h : ym l = 0) : ym (xG but (l.map (yZ ks))) = 0 := by
  obtain ⟨h1, h2, h3⟩ := vR.1 h
  refine vR.2 ⟨?_, sT _ (ris_plain _ h2), fun a ha => ?_⟩
  · have := tN but (l.map (yZ ks)); rw [List.length_map] at this; omega
  · obtain ⟨x, hx, rfl⟩ := List.mem_map.1 (wB ha).1
    have h4 := h3 x hx
    rw [wg, rr]
    exact ⟨h4.1, check_plain ks h4.2.1, h4.2.2⟩
theorem rt_empty : rt ⟨#[]⟩ := rB_nil
theorem r9 : ∀ {l : List GA} {k : ByteArray} {v : GV}, getA l k = some v → ∃ a ∈ l, a.key = k ∧ a.val = v
  | x :: l, k, v, h => by
    rw [getA] at h
    split at h
    · exact ⟨x, List.mem_cons_self, by assumption, Option.some.inj h⟩
    · obtain ⟨a, h1, h2⟩ := r9 h
      exact ⟨a, List.mem_cons_of_mem _ h1, h2⟩
theorem rl {l : List GA} (h : ym l = 0) (k : ByteArray) : rt (un l k) ∧ (un l k).size ≤ 1024 := by
  unfold un
  cases e : getA l k with
  | none => rw [Option.getD_none, tR]; exact ⟨rt_empty, Nat.zero_le _⟩
  | some v =>
    obtain ⟨a, ha, _, rfl⟩ := r9 e
    have := (vR.1 h).2.2 a ha
    rw [Option.getD_some]
    exact ⟨rt_text this.2.1, this.2.2⟩
theorem len_intoR : ∀ {l : List GA} {a : GA} {p : Option ByteArray}, risA p l → (xf l a).length = if (getA l a.key).isSome then l.length else l.length + 1
  | [], a, p, _ => rfl
  | x :: l, a, p, h => by
    rw [xf, getA]
    by_cases hl : ltB x.key a.key = true
    · have hne : x.key ≠ a.key := by rintro e; rw [e, xT] at hl; cases hl
      rw [if_pos hl, if_neg hne, List.length_cons, len_intoR h.2]
      split <;> simp
    · rw [if_neg hl]
      by_cases he : x.key = a.key
      · rw [if_pos he, if_pos he]; rfl
      · rw [if_neg he, if_neg he]
        have hk : ltB a.key x.key = true := by
          cases hb : ltB a.key x.key
          · exact absurd (ltB_tri (by simpa using hl) hb) he
          · rfl
        have : getA l a.key = none := by
          cases e : getA l a.key with
          | none => rfl
          | some v =>
            obtain ⟨b, hb, hbk, _⟩ := r9 e
            exact absurd hbk (ris_ne (jN h.2 hk) b hb)
        rw [this]; rfl
theorem keyC_skey : keyC skey = 0 := by
  unfold keyC
  rw [if_neg (by decide), if_neg (by rw [show wv skey = -1 from vS (l := lst skey) (by decide)]; decide), if_neg (by decide)]
theorem attrsC_named {l : List GA} {t : ByteArray} (h : ym l = 0) (hr : rt t) (hs : t.size ≤ 1024) (hl : t = ⟨#[]⟩ ∨ (getA l skey).isSome = true ∨ l.length < 32) : ym (yx l t) = 0 := by
  obtain ⟨h1, h2, h3⟩ := vR.1 h
  refine vR.2 ⟨?_, ris_named h2 t, fun a ha => ?_⟩
  · unfold yx; split
    · have := tN [skey] l; omega
    · rename_i hne
      rw [len_intoR h2]
      split
      · exact h1
      · rename_i hn
        rcases hl with hl | hl | hl
        · exact absurd hl hne
        · exact absurd hl hn
        · omega
  · unfold yx at ha; split at ha
    · exact h3 a (wB ha).1
    · rcases jW ha with rfl | ha
      · refine ⟨keyC_skey, check_tv hr 0, ?_⟩
        show (xA (tv t)).size ≤ 1024
        rw [s7]; exact hs
      · exact h3 a ha
theorem getA_plain (ks : List Int) (k : ByteArray) : ∀ l : List GA, (getA (l.map (yZ ks)) k).isSome = (getA l k).isSome
  | [] => rfl
  | x :: l => by
    rw [List.map_cons, getA, getA, wg]
    split
    · rfl
    · exact getA_plain ks k l
theorem attrsC_njR {l : List GA} (h : ym l = 0) : ym (yx (xx [] l) (un l skey)) = 0 := by
  have hr := rl h skey
  refine attrsC_named (sB nJ [] h) hr.1 hr.2 ?_
  cases e : getA l skey with
  | none => exact .inl (by unfold un; rw [e, Option.getD_none, tR])
  | some v => right; left; rw [sR, getA_plain, e]; rfl
theorem uU (s : GSpan) : vP s = 0 ↔ (xg s.trace || xg s.id) = false ∧ xE s.state = 0 ∧ xE s.name = 0 ∧ (0 ≤ s.kind ∧ s.kind ≤ 5) ∧ xr ⟨s.start, s.fin⟩ = 0 ∧ ym s.attrs = 0 ∧ evsC s.events = 0 ∧ lksC s.links = 0 ∧ (0 ≤ s.code ∧ s.code ≤ 2) ∧ xE s.note = 0 := by
  unfold vP
  simp only [firstC]
  constructor
  · intro h
    obtain ⟨a1, h⟩ := xu h
    obtain ⟨a2, h⟩ := xu h
    obtain ⟨a3, h⟩ := xu h
    obtain ⟨a4, h⟩ := xu h
    obtain ⟨a5, h⟩ := xu h
    obtain ⟨a6, h⟩ := xu h
    obtain ⟨a7, h⟩ := xu h
    obtain ⟨a8, h⟩ := xu h
    obtain ⟨a9, h⟩ := xu h
    obtain ⟨b1, h⟩ := xu h
    refine ⟨?_, a2, a3, ?_, a5, a6, a7, a8, ?_, b1⟩
    · cases hz : (xg s.trace || xg s.id)
      · rfl
      · rw [hz, if_pos rfl] at a1; omega
    · split at a4 <;> omega
    · split at a9 <;> omega
  · rintro ⟨a1, a2, a3, a4, a5, a6, a7, a8, a9, b1⟩
    rw [a1, if_neg (by decide), a2, a3, if_neg (by omega), a5, a6, a7, a8, if_neg (by omega), b1]
    rfl
theorem wU : xE ⟨#[]⟩ = 0 := by
  unfold xE
  rw [if_neg (by rw [show wv ⟨#[]⟩ = -1 from rB_nil]; decide), if_neg (by decide)]
theorem evC_iff : ∀ {l : List GE}, evC l = 0 ↔ ∀ e ∈ l, e.time ≤ 9223372036854775807 ∧ xE e.name = 0 ∧ ym e.attrs = 0
  | [] => Iff.intro (fun _ e h => by cases h) (fun _ => rfl)
  | x :: l => by
    have ih := evC_iff (l := l)
    rw [evC]
    constructor
    · intro h
      split at h
      · omega
      · obtain ⟨h1, h2⟩ := xu h
        obtain ⟨h3, h4⟩ := xu h1
        intro e he
        rcases List.mem_cons.1 he with rfl | he
        · exact ⟨by omega, h3, h4⟩
        · exact ih.1 h2 e he
    · intro h
      have h1 := h x List.mem_cons_self
      rw [if_neg (by omega), h1.2.1, h1.2.2, zJ _ _ rfl]
      exact ih.2 fun e he => h e (List.mem_cons_of_mem _ he)
theorem lkC_iff : ∀ {l : List GL}, lkC l = 0 ↔ ∀ e ∈ l, (xg e.trace || xg e.span) = false ∧ xE e.state = 0 ∧ ym e.attrs = 0
  | [] => Iff.intro (fun _ e h => by cases h) (fun _ => rfl)
  | x :: l => by
    have ih := lkC_iff (l := l)
    rw [lkC]
    constructor
    · intro h
      split at h
      · omega
      · rename_i hz
        obtain ⟨h1, h2⟩ := xu h
        obtain ⟨h3, h4⟩ := xu h1
        intro e he
        rcases List.mem_cons.1 he with rfl | he
        · exact ⟨by cases hb : (xg e.trace || xg e.span) <;> first | rfl | exact absurd hb hz, h3, h4⟩
        · exact ih.1 h2 e he
    · intro h
      have h1 := h x List.mem_cons_self
      rw [h1.1, if_neg (by decide), h1.2.1, h1.2.2, zJ _ _ rfl]
      exact ih.2 fun e he => h e (List.mem_cons_of_mem _ he)
theorem attrsC_nil : ym [] = 0 := vR.2 ⟨by simp, trivial, fun a h => by cases h⟩
theorem evsC_map {f : GE → GE} (hf : ∀ e, e.time ≤ 9223372036854775807 ∧ xE e.name = 0 ∧ ym e.attrs = 0 → (f e).time ≤ 9223372036854775807 ∧ xE (f e).name = 0 ∧ ym (f e).attrs = 0) {l : List GE} (h : evsC l = 0) : evsC (l.map f) = 0 := by
  unfold evsC at h ⊢
  rw [List.length_map]
  split at h
  · omega
  · rw [if_neg (by assumption)]
    refine evC_iff.2 fun e he => ?_
    obtain ⟨x, hx, rfl⟩ := List.mem_map.1 he
    exact hf x (evC_iff.1 h x hx)
theorem wholeN_le (n : Int) : sK n ≤ 9223372036854775807 := by have := nano_rg (se n); unfold sK; omega
theorem whole_check {s e : Int} (hs : u64 s) (he : u64 e) : xr ⟨(yt ⟨s, e⟩).lo, (yt ⟨s, e⟩).hi⟩ = 0 := by
  rcases whole_facts s e hs.1 he.1 hs.2 he.2 with ⟨_, h⟩ | ⟨_, A, B, h, h2, _⟩
  · rw [h]; rfl
  · rw [h]; exact h2
theorem spanOk_nj {s : GSpan} (ho : s.ok) (h : vP s = 0) : vP (njS s) = 0 := by
  obtain ⟨a1, a2, a3, a4, a5, a6, a7, a8, a9, b1⟩ := (uU s).1 h
  refine (uU _).2 ⟨a1, wU, a3, a4, whole_check ho.2.2.1.2.1 ho.2.2.1.2.2.1, sB nJ k4 a6, ?_, ?_, a9, b1⟩
  · exact evsC_map (f := njE) (fun e he => ⟨wholeN_le _, he.2.1, sB nJ [tg] he.2.2⟩) a7
  · show lksC (s.links.map njL) = 0
    unfold lksC at a8 ⊢
    rw [List.length_map]
    split at a8
    · omega
    · rw [if_neg (by assumption)]
      refine lkC_iff.2 fun e he => ?_
      obtain ⟨x, hx, rfl⟩ := List.mem_map.1 he
      exact ⟨(lkC_iff.1 a8 x hx).1, wU, attrsC_nil⟩
theorem ry (ks : List ByteArray) : ∀ l : List GA, yM (xG ks l) ≤ yM l
  | [] => Nat.le_refl _
  | x :: l => by
    have := ry ks l
    rw [xG]; split
    · rw [yM]; omega
    · rw [yM, yM]; omega
theorem attrsW_plain (ks : List Int) : ∀ l : List GA, yM (l.map (yZ ks)) = yM l
  | [] => rfl
  | x :: l => by rw [List.map_cons, yM, yM, wg, rr, attrsW_plain ks l]
theorem tm (ks : List Int) (but : List ByteArray) (l : List GA) : yM (xG but (l.map (yZ ks))) ≤ yM l := by
  have := ry but (l.map (yZ ks)); rw [attrsW_plain] at this; exact this
theorem attrsW_into {a : GA} {v : GV} (ht : xA a.val = xA v) : ∀ {l : List GA} {p : Option ByteArray}, risA p l → getA l a.key = some v → yM (xf l a) ≤ yM l
  | x :: l, p, h, hg => by
    rw [getA] at hg
    rw [xf]
    split at hg
    · rename_i hk
      have hn : ¬ ltB x.key a.key = true := by rw [hk, xT]; decide
      rw [if_neg hn, if_pos hk, yM, yM, ht, ← Option.some.inj hg, hk]; exact Nat.le_refl _
    · rename_i hk
      have ih := attrsW_into ht h.2 hg
      split
      · rw [yM, yM]; omega
      · rename_i hl
        exfalso
        have hk' : ltB a.key x.key = true := by
          cases hb : ltB a.key x.key
          · exact absurd (ltB_tri (by simpa using hl) hb) hk
          · rfl
        obtain ⟨b, hb, hbk, _⟩ := r9 hg
        exact ris_ne (jN h.2 hk') b hb hbk
theorem getA_plain_text (ks : List Int) (k : ByteArray) : ∀ {l : List GA} {v : GV}, getA l k = some v → ∃ u, getA (l.map (yZ ks)) k = some u ∧ xA u = xA v
  | x :: l, v, h => by
    rw [getA] at h
    rw [List.map_cons, getA, wg]
    split at h
    · rename_i hk
      rw [if_pos hk]
      exact ⟨_, rfl, by rw [rr, Option.some.inj h]⟩
    · rename_i hk
      rw [if_neg hk]
      exact getA_plain_text ks k h
theorem attrsW_njR {l : List GA} (hr : risA none l) : yM (yx (xx [] l) (un l skey)) ≤ yM l := by
  have h0 : yM (xx [] l) ≤ yM l := tm nJ [] l
  unfold yx
  split
  · exact Nat.le_trans (ry _ _) h0
  · rename_i hne
    cases e : getA l skey with
    | none => exact absurd (by unfold un; rw [e, Option.getD_none, tR]) hne
    | some v =>
      obtain ⟨u, h1, h2⟩ := getA_plain_text nJ skey e
      have ht : un l skey = xA v := by unfold un; rw [e]; rfl
      refine Nat.le_trans (attrsW_into (a := .mk skey (tv (un l skey))) (v := u) ?_ (ris_kept [] hr) (by rw [sR]; exact h1)) h0
      show xA (tv _) = _
      rw [s7, ht, h2]
theorem wG {α : Type} {f : α → α} {g : α → Nat} : ∀ {l : List α}, (∀ x ∈ l, g (f x) ≤ g x) → zg g (l.map f) ≤ zg g l
  | [], _ => Nat.le_refl _
  | x :: l, h => by
    rw [List.map_cons, zg, zg]
    have h1 := h x List.mem_cons_self
    have h2 := wG (f := f) (g := g) (l := l) fun y hy => h y (List.mem_cons_of_mem _ hy)
    omega
theorem spanW_nj (s : GSpan) (t : ByteArray) : wL (njS s) t ≤ wL s t := by
  have h1 : yM (xx k4 s.attrs) ≤ yM s.attrs := tm nJ k4 s.attrs
  have h2 : zg (fun e : GE => 64 + 6 * e.name.size + yM e.attrs) (s.events.map njE) ≤ zg (fun e : GE => 64 + 6 * e.name.size + yM e.attrs) s.events :=
    wG fun e _ => by
      have : yM (xx [tg] e.attrs) ≤ yM e.attrs := tm nJ [tg] e.attrs
      show 64 + 6 * e.name.size + yM (xx [tg] e.attrs) ≤ _
      omega
  have h3 : zg (fun e : GL => 64 + 6 * e.state.size + yM e.attrs) (s.links.map njL) ≤ zg (fun e : GL => 64 + 6 * e.state.size + yM e.attrs) s.links :=
    wG fun e _ => by
      show 64 + 6 * 0 + 0 ≤ _
      omega
  show 512 + 6 * (t.size + 0 + s.name.size + s.note.size) + yM (xx k4 s.attrs) + zg _ (s.events.map njE) + zg _ (s.links.map njL) ≤ _
  unfold wL
  omega
theorem jd (t : ByteArray) : ∀ l : List GScope, 64 * l.length + zg (fun x => wL x t) (zr l) ≤ zg (fun s => xn s t) l
  | [] => by simp [zr, zg]
  | c :: l => by
    have ih := jd t l
    rw [zr, xM, zg, List.length_cons]
    unfold xn
    unfold xn at ih
    omega
theorem service_nj {r : GRes} (h : risA none r.attrs) : zu (njR r) = zu r := (rj h (zu r)).2
theorem resW_nj {r : GRes} (h : risA none r.attrs) : resW (njR r) ≤ resW r := by
  have h1 := attrsW_njR h
  have h2 := jd (zu r) r.scopes
  have h3 : zg (fun x => wL x (zu r)) ((zr r.scopes).map njS) ≤ zg (fun x => wL x (zu r)) (zr r.scopes) := wG fun s _ => spanW_nj s _
  have h4 : zg (fun s => xn s (zu r)) (wm ((zr r.scopes).map njS)) ≤ zg (fun s => xn s (zu r)) r.scopes := by
    unfold wm
    split
    · rename_i hl
      have hc : 1 ≤ r.scopes.length := by
        rw [List.length_map] at hl
        cases e : r.scopes with
        | nil => rw [e] at hl; simp [zr] at hl
        | cons => simp
      rw [zg, zg]
      show 64 + 6 * (0 + 0) + zg _ ((zr r.scopes).map njS) + 0 ≤ _
      omega
    · exact Nat.zero_le _
  unfold resW
  rw [service_nj h]
  show 64 + yM (yx (xx [] r.attrs) (un r.attrs skey)) + zg _ (wm _) ≤ _
  omega
theorem batchW_nj {b : List GRes} (h : ∀ r ∈ b, risA none r.attrs) : vJ (njB b) ≤ vJ b := by
  unfold vJ njB
  have := wG (f := njR) (g := resW) (l := b) fun r hr => resW_nj (h r hr)
  omega
end Go.Proofs
namespace Go.Al
open Go.RowKit
section
variable {P : Program} {w : World} {p : Array (String × TypeId)}
end
section
variable {C : Cx} {A : Nat → SV} {d : Nat} {ty : TypeId} {pos : String} {af : Array Edge} {gd : Option (Nat × Bool)} {x y : Operand} {T T' : TypeId}
theorem SimG.ptr {C : Cx} {A : Nat → SV} {G : Gh} {a : Act} {w : World} (S : SimG C A G a w) {x : Operand} {g off : Nat} (h : Al.opS A x = .ptr g off) : a.eval x = .pointer (some ⟨G.blk g, off, none⟩) := by
  obtain ⟨c, h1, h2⟩ := S.opS h rfl
  simp only [RepS] at h1
  rw [h2, h1]; rfl
theorem SimG.ifp {C : Cx} {A : Nat → SV} {G : Gh} {a : Act} {w : World} (S : SimG C A G a w) {x : Operand} {T g off : Nat} (h : Al.opS A x = .ifp T g off) : a.eval x = .iface T (.pointer (some ⟨G.blk g, off, none⟩)) := by
  obtain ⟨c, h1, h2⟩ := S.opS h rfl
  simp only [RepS] at h1
  rw [h2, h1]; rfl
theorem xD {g off : Nat} (hN : Nat.blt d C.N = true) (hx : opS A x = .ptr g off) : zv C ⟨some d, .nilCheck x, ty, pos, af, gd⟩ (opR x) [] A [(d, .ptr g off)] := by
  refine zv.value rfl hN fun A' G a w hR S => ?_
  have hev := S.ptr ((yd hR).trans hx)
  refine ⟨a.eval x, by simp only [execOp, hev]; rfl, ?_⟩
  rw [hev]
  exact ⟨[.pointer (some ⟨G.blk g, off, none⟩)], by simp only [RepS], rfl⟩
end
end Go.Al
namespace Go.Al
open Go.RowKit
section
variable {C : Cx} {A : Nat → SV} {d : Nat} {ty : TypeId} {pos : String} {af : Array Edge} {gd : Option (Nat × Bool)} {x y : Operand} {T T' : TypeId} {h fl h2 fl2 : Value}
end
end Go.Al
namespace Go.Al
open Go.RowKit
section
variable {C : Cx} {A : Nat → SV} {ty : TypeId} {pos : String} {af : Array Edge} {gd : Option (Nat × Bool)} {x y : Operand} {T T' : TypeId}
end
end Go.Al
namespace Go.Proofs
open Go Go.Al
abbrev Fl := Int × List ByteArray
theorem ixStr {l : List ByteArray} {i : Nat} (h : i < l.length) : (l.map fun x => sv x)[((i : Nat) : Int).toNat]? = some (sv (nth l i ⟨#[]⟩)) := wq (d := (⟨#[]⟩ : ByteArray)) (f := fun x => sv x) h
end Go.Proofs
namespace Go.Proofs
open Go Go.Al
def kSpan : ByteArray := ⟨#[115, 112, 97, 110]⟩
def kScope : ByteArray := ⟨#[115, 99, 111, 112, 101]⟩
def kRes : ByteArray := ⟨#[114, 101, 115, 111, 117, 114, 99, 101]⟩
def sO (k : ByteArray) (i : Nat) : ByteArray := yF (lst k ++ 32 :: decB i)
def t_ : Nat → List GSpan → Fl
  | _, [] => (0, [])
  | i, x :: xs => if vP x = 0 then t_ (i + 1) xs else (vP x, [sO kSpan i])
def wN (s : GScope) : Fl := if xE s.name ≠ 0 then (xE s.name, []) else if xE s.version ≠ 0 then (xE s.version, []) else t_ 0 s.spans
def vf : Nat → List GScope → Fl
  | _, [] => (0, [])
  | i, s :: ss => if (wN s).1 = 0 then vf (i + 1) ss else ((wN s).1, sO kScope i :: (wN s).2)
def resF (r : GRes) : Fl := if ym r.attrs ≠ 0 then (ym r.attrs, []) else if 16 < r.scopes.length then (34, []) else vf 0 r.scopes
def tp : Nat → List GRes → Fl
  | _, [] => (0, [])
  | i, r :: rs => if (resF r).1 = 0 then tp (i + 1) rs else ((resF r).1, sO kRes i :: (resF r).2)
def chkF (b : List GRes) : Fl :=
  if 32 < b.length then (34, []) else if (tp 0 b).1 ≠ 0 then tp 0 b else if 100 < (plR 0 b).length then (34, []) else if 65536 < vJ b then (36, []) else (0, [])
theorem rH : ∀ {l : List GSpan} {i : Nat}, (t_ i l).1 = 0 ↔ ∀ x ∈ l, vP x = 0
  | [], i => Iff.intro (fun _ x h => by cases h) (fun _ => rfl)
  | x :: l, i => by
    rw [t_]
    constructor
    · intro h
      split at h
      · rename_i hx
        intro y hy
        rcases List.mem_cons.1 hy with rfl | hy
        · exact hx
        · exact rH.1 h y hy
      · rename_i hx; exact absurd h hx
    · intro h
      rw [if_pos (h x List.mem_cons_self)]
      exact rH.2 fun y hy => h y (List.mem_cons_of_mem _ hy)
def okSc (s : GScope) : Prop := xE s.name = 0 ∧ xE s.version = 0 ∧ ∀ x ∈ s.spans, vP x = 0
theorem scopeF_iff {s : GScope} : (wN s).1 = 0 ↔ okSc s := by
  unfold wN okSc
  constructor
  · intro h
    split at h
    · rename_i h1; exact absurd h h1
    split at h
    · rename_i h1; exact absurd h h1
    · rename_i h1 h2; exact ⟨by omega, by omega, rH.1 h⟩
  · rintro ⟨h1, h2, h3⟩
    rw [if_neg (by omega), if_neg (by omega)]; exact rH.2 h3
theorem tw : ∀ {l : List GScope} {i : Nat}, (vf i l).1 = 0 ↔ ∀ x ∈ l, okSc x
  | [], i => Iff.intro (fun _ x h => by cases h) (fun _ => rfl)
  | x :: l, i => by
    rw [vf]
    constructor
    · intro h
      split at h
      · rename_i hx
        intro y hy
        rcases List.mem_cons.1 hy with rfl | hy
        · exact scopeF_iff.1 hx
        · exact tw.1 h y hy
      · rename_i hx; exact absurd h hx
    · intro h
      rw [if_pos (scopeF_iff.2 (h x List.mem_cons_self))]
      exact tw.2 fun y hy => h y (List.mem_cons_of_mem _ hy)
def okRs (r : GRes) : Prop := ym r.attrs = 0 ∧ r.scopes.length ≤ 16 ∧ ∀ x ∈ r.scopes, okSc x
theorem resF_iff {r : GRes} : (resF r).1 = 0 ↔ okRs r := by
  unfold resF okRs
  constructor
  · intro h
    split at h
    · rename_i h1; exact absurd h h1
    split at h
    · exact absurd h (by decide)
    · rename_i h1 h2; exact ⟨by omega, by omega, tw.1 h⟩
  · rintro ⟨h1, h2, h3⟩
    rw [if_neg (by omega), if_neg (by omega)]; exact tw.2 h3
theorem jE : ∀ {l : List GRes} {i : Nat}, (tp i l).1 = 0 ↔ ∀ x ∈ l, okRs x
  | [], i => Iff.intro (fun _ x h => by cases h) (fun _ => rfl)
  | x :: l, i => by
    rw [tp]
    constructor
    · intro h
      split at h
      · rename_i hx
        intro y hy
        rcases List.mem_cons.1 hy with rfl | hy
        · exact resF_iff.1 hx
        · exact jE.1 h y hy
      · rename_i hx; exact absurd h hx
    · intro h
      rw [if_pos (resF_iff.2 (h x List.mem_cons_self))]
      exact jE.2 fun y hy => h y (List.mem_cons_of_mem _ hy)
theorem uR {b : List GRes} : (chkF b).1 = 0 ↔ b.length ≤ 32 ∧ (∀ r ∈ b, okRs r) ∧ (plR 0 b).length ≤ 100 ∧ vJ b ≤ 65536 := by
  unfold chkF
  constructor
  · intro h
    split at h
    · exact absurd h (by decide)
    split at h
    · rename_i h1; exact absurd h h1
    split at h
    · exact absurd h (by decide)
    split at h
    · exact absurd h (by decide)
    · rename_i h1 h2 h3 h4; have h5 : (tp 0 b).1 = 0 := by omega
      exact ⟨by omega, jE.1 h5, by omega, by omega⟩
  · rintro ⟨h1, h2, h3, h4⟩
    rw [if_neg (by omega), if_neg (by have h5 : (tp 0 b).1 = 0 := jE.2 h2; omega), if_neg (by omega), if_neg (by omega)]
def allS (b : List GRes) : List GSpan := b.flatMap fun r => zr r.scopes
theorem ra : ∀ (i : Nat) (b : List GRes), (plR i b).length = (allS b).length
  | _, [] => rfl
  | i, r :: b => by rw [plR, allS, List.flatMap_cons, List.length_append, List.length_append, plC_len, ra (i + 1) b]; rfl
theorem plR_spans : ∀ (l m : List GRes), (plR m.length l).map (fun p => spAt (m ++ l) p) = allS l
  | [], m => rfl
  | r :: l, m => by
    rw [plR, List.map_append, allS, List.flatMap_cons]
    congr 1
    · have hr : nthR (m ++ r :: l) m.length = r := by simp [nthR, nth]
      have h := plC_spans m.length r.scopes []
      rw [← h]
      refine List.map_congr_left fun p hp => ?_
      have h1 : p.1 = m.length := plC_fst _ _ _ _ hp
      unfold spAt; rw [h1, hr]; rfl
    · have := plR_spans l (m ++ [r])
      simp only [List.length_append, List.length_cons, List.length_nil, List.append_assoc, List.cons_append, List.nil_append] at this
      exact this
where
  plC_fst (i : Nat) : ∀ (k : Nat) (l : List GScope) (p : Nat × Nat × Nat), p ∈ plC i k l → p.1 = i
    | _, [], p, h => by simp [plC] at h
    | k, c :: l, p, h => by
      rw [plC] at h
      rcases List.mem_append.1 h with h | h
      · obtain ⟨j, _, rfl⟩ := List.mem_map.1 h; rfl
      · exact plC_fst i (k + 1) l p h
theorem allS_eq (b : List GRes) : (plR 0 b).map (spAt b) = allS b := plR_spans b []
theorem allS_mem {b : List GRes} {s : GSpan} (h : s ∈ allS b) : ∃ r ∈ b, ∃ c ∈ r.scopes, s ∈ c.spans := by
  obtain ⟨r, hr, hs⟩ := List.mem_flatMap.1 h
  obtain ⟨c, hc, hs⟩ := vH hs
  exact ⟨r, hr, c, hc, hs⟩
theorem allS_nj : ∀ b : List GRes, allS (njB b) = (allS b).map njS
  | [] => rfl
  | r :: b => by
    have ih := allS_nj b
    unfold allS njB at ih ⊢
    rw [List.map_cons, List.flatMap_cons, List.flatMap_cons, List.map_append, ih]
    congr 1
    exact spansOf_scopeJ _
theorem chk_ris {b : List GRes} (h : (chkF b).1 = 0) : ∀ r ∈ b, risA none r.attrs := fun r hr => (vR.1 ((uR.1 h).2.1 r hr).1).2.1
theorem chk_nj {b : List GRes} (ho : okB b) (h : (chkF b).1 = 0) : (chkF (njB b)).1 = 0 := by
  have hr := chk_ris h
  obtain ⟨h1, h2, h3, h4⟩ := uR.1 h
  refine uR.2 ⟨by unfold njB; rw [List.length_map]; exact h1, fun r hr => ?_, ?_, Nat.le_trans (batchW_nj hr) h4⟩
  · obtain ⟨x, hx, rfl⟩ := List.mem_map.1 hr
    obtain ⟨k1, k2, k3⟩ := h2 x hx
    refine ⟨attrsC_njR k1, ?_, fun c hc => ?_⟩
    · show (wm _).length ≤ 16
      unfold wm; split <;> simp
    · have hc : c ∈ wm ((zr x.scopes).map njS) := hc
      unfold wm at hc
      split at hc
      · cases List.mem_singleton.1 hc
        refine ⟨wU, wU, fun s hs => ?_⟩
        obtain ⟨t, ht, rfl⟩ := List.mem_map.1 hs
        obtain ⟨c, hc, ht⟩ := vH ht
        exact spanOk_nj (((ho x hx).2 c hc).2.2 t ht) ((k3 c hc).2.2 t ht)
      · cases hc
  · rw [ra, allS_nj, List.length_map, ← ra 0]; exact h3
structure GCore where
  trace : Bs
  id : Bs
  parent : Bs
  name : ByteArray
  begun : Int
  lasts : Int
def GCore.av (c : GCore) : AV := .agg [.arr 16 c.trace, .arr 8 c.id, .arr 8 c.parent, sv c.name, iv c.begun, iv c.lasts]
def jT (s : GSpan) : GCore := ⟨s.trace, s.id, s.parent, s.name, uL s.start s.fin, uI s.start s.fin⟩
theorem GCore.ext' {a b : GCore} (h1 : a.trace = b.trace) (h2 : a.id = b.id) (h3 : a.parent = b.parent) (h4 : a.name = b.name) (h5 : a.begun = b.begun) (h6 : a.lasts = b.lasts) : a = b := by cases a; cases b; simp_all
instance : DecidableEq GCore := fun a b => decidable_of_iff (a.trace = b.trace ∧ a.id = b.id ∧ a.parent = b.parent ∧ a.name = b.name ∧ a.begun = b.begun ∧ a.lasts = b.lasts) ⟨fun h => GCore.ext' h.1 h.2.1 h.2.2.1 h.2.2.2.1 h.2.2.2.2.1 h.2.2.2.2.2, fun h => by rw [h]; exact ⟨rfl, rfl, rfl, rfl, rfl, rfl⟩⟩
def y8 (b : List GRes) : List GCore := (allS b).map jT
theorem core_times {s e : Int} (hs : u64 s) (he : u64 e) : uL (yt ⟨s, e⟩).lo (yt ⟨s, e⟩).hi = uL s e ∧ uI (yt ⟨s, e⟩).lo (yt ⟨s, e⟩).hi = uI s e := by
  rcases whole_facts s e hs.1 he.1 hs.2 he.2 with ⟨hf, h⟩ | ⟨_, A, B, h, _, _, h3, h4, _⟩
  · have e1 : uL s e = 0 := by unfold uL; rw [hf]; rfl
    have e2 : uI s e = 0 := by unfold uI; rw [hf]; rfl
    rw [h, e1, e2]
    exact ⟨by show uL 0 0 = 0; decide, by show uI 0 0 = 0; decide⟩
  · rw [h]
    rw [tells3, tells3] at h3
    rw [tells4, tells4] at h4
    exact ⟨h3, h4⟩
theorem core_nj {s : GSpan} (ho : s.ok) : jT (njS s) = jT s := by
  have h := core_times ho.2.2.1.2.1 ho.2.2.1.2.2.1
  exact GCore.ext' rfl rfl rfl rfl h.1 h.2
theorem cores_nj {b : List GRes} (ho : okB b) : y8 (njB b) = y8 b := by
  unfold y8
  rw [allS_nj, List.map_map]
  refine List.map_congr_left fun s hs => ?_
  obtain ⟨r, hr, c, hc, hs⟩ := allS_mem hs
  exact core_nj (((ho r hr).2 c hc).2.2 s hs)
end Go.Proofs
namespace Go.Proofs
open Go Go.Al
def nZ : List Int := [0, 2, 3, 4, 5, 6, 7]
def kZ : List ByteArray := [k_error, k_code]
def jF (l : List GA) : List GA := xG kZ (l.map (yZ nZ))
def nzE (e : GE) : GE := ⟨sK e.time, e.name, []⟩
def nzS (s : GSpan) : GSpan :=
  { s with state := ⟨#[]⟩, kind := if s.kind = 1 then 0 else s.kind, start := (yt ⟨s.start, s.fin⟩).lo, fin := (yt ⟨s.start, s.fin⟩).hi, attrs := jF s.attrs, events := s.events.map nzE, links := [], note := if s.code = 2 then s.note else ⟨#[]⟩ }
abbrev Gp := List (ByteArray × List GSpan)
def gput : Gp → ByteArray → GSpan → Gp
  | [], k, s => [(k, [s])]
  | (k', l) :: g, k, s => if k' = k then (k', l ++ [s]) :: g else (k', l) :: gput g k s
def grpF (g : Gp) (l : List (ByteArray × GSpan)) : Gp := l.foldl (fun g x => gput g x.1 x.2) g
def grp (l : List (ByteArray × GSpan)) : Gp := grpF [] l
def resG (x : ByteArray × List GSpan) : GRes := ⟨yx [] x.1, [⟨⟨#[]⟩, ⟨#[]⟩, x.2⟩]⟩
def u2 (l : List (ByteArray × GSpan)) : List GRes := (grp l).map resG
def yw (b : List GRes) : List (ByteArray × GSpan) := b.flatMap fun r => (zr r.scopes).map fun s => (zu r, nzS s)
def nzB (b : List GRes) : List GRes := u2 (yw b)
theorem ug (g : Gp) (l m : List (ByteArray × GSpan)) : grpF g (l ++ m) = grpF (grpF g l) m := List.foldl_append ..
theorem grp_snoc (l : List (ByteArray × GSpan)) (k : ByteArray) (s : GSpan) : grp (l ++ [(k, s)]) = gput (grp l) k s := ug _ _ _
instance decMemB (k : ByteArray) (l : List ByteArray) : Decidable (k ∈ l) := decidable_of_iff ((l.any fun x => decide (x = k)) = true) (by
  rw [List.any_eq_true]
  constructor
  · rintro ⟨x, hx, h⟩; exact of_decide_eq_true h ▸ hx
  · exact fun h => ⟨k, h, decide_eq_true rfl⟩)
def yi (g : Gp) : List ByteArray := g.map (·.1)
theorem jA : ∀ (g : Gp) (k : ByteArray) (s : GSpan), yi (gput g k s) = if k ∈ yi g then yi g else yi g ++ [k]
  | [], k, s => by simp [gput, yi]
  | (k', l) :: g, k, s => by
    rw [gput]
    by_cases h : k' = k
    · rw [if_pos h]; simp [yi, h]
    · rw [if_neg h]
      have ih := jA g k s
      unfold yi at ih ⊢
      rw [List.map_cons, List.map_cons, ih]
      have h2 : ¬ k = k' := fun e => h e.symm
      by_cases hk : k ∈ g.map (·.1)
      · rw [if_pos hk, if_pos (List.mem_cons_of_mem _ hk)]
      · rw [if_neg hk, if_neg (by intro hm; rcases List.mem_cons.1 hm with e | e; exact h2 e; exact hk e)]; rfl
theorem keys_nodup_put {g : Gp} (h : (yi g).Nodup) (k : ByteArray) (s : GSpan) : (yi (gput g k s)).Nodup := by
  rw [jA]
  split
  · exact h
  · rename_i hk
    rw [List.nodup_append]
    exact ⟨h, by simp, fun a ha b hb e => by cases List.mem_singleton.1 hb; exact hk (e ▸ ha)⟩
theorem keys_nodupF : ∀ (l : List (ByteArray × GSpan)) {g : Gp}, (yi g).Nodup → (yi (grpF g l)).Nodup
  | [], g, h => h
  | x :: l, g, h => keys_nodupF l (keys_nodup_put h x.1 x.2)
theorem keys_nodup (l : List (ByteArray × GSpan)) : (yi (grp l)).Nodup := keys_nodupF l (by simp [yi])
theorem keys_one {k : ByteArray} : ∀ {l : List (ByteArray × GSpan)} (g : Gp), (∀ x ∈ l, x.1 = k) → yi (grpF g l) = if l = [] ∨ k ∈ yi g then yi g else yi g ++ [k]
  | [], g, _ => by simp [grpF]
  | x :: l, g, h => by
    have hx := h x List.mem_cons_self
    have ih := keys_one (k := k) (l := l) (gput g x.1 x.2) fun y hy => h y (List.mem_cons_of_mem _ hy)
    show yi (grpF (gput g x.1 x.2) l) = _
    rw [ih, jA, hx]
    by_cases hk : k ∈ yi g
    · rw [if_pos hk, if_pos (.inr hk), if_pos (.inr hk)]
    · rw [if_neg hk, if_pos (.inr (by simp)), if_neg (by rintro (e | e); cases e; exact hk e)]
theorem gput_perm : ∀ (g : Gp) (k : ByteArray) (s : GSpan), ((gput g k s).flatMap (·.2)).Perm (g.flatMap (·.2) ++ [s])
  | [], k, s => by simp [gput]
  | (k', l) :: g, k, s => by
    rw [gput]
    split
    · rw [List.flatMap_cons, List.flatMap_cons, List.append_assoc, List.append_assoc]
      exact List.Perm.append_left l List.perm_append_comm
    · rw [List.flatMap_cons, List.flatMap_cons, List.append_assoc]
      exact List.Perm.append_left l (gput_perm g k s)
theorem grpF_perm : ∀ (l : List (ByteArray × GSpan)) (g : Gp), ((grpF g l).flatMap (·.2)).Perm (g.flatMap (·.2) ++ l.map (·.2))
  | [], g => by simp [grpF]
  | x :: l, g => by
    refine (grpF_perm l (gput g x.1 x.2)).trans ?_
    rw [List.map_cons]
    have h := (gput_perm g x.1 x.2).append_right (l.map (·.2))
    rwa [List.append_assoc] at h
theorem tj (l : List (ByteArray × GSpan)) : ((grp l).flatMap (·.2)).Perm (l.map (·.2)) := grpF_perm l []
theorem allS_group (g : Gp) : allS (g.map resG) = g.flatMap (·.2) := by
  unfold allS
  rw [List.flatMap_map]
  refine congrArg (fun f => List.flatMap f g) (funext fun x => ?_)
  show zr [⟨_, _, x.2⟩] = x.2
  simp [zr]
theorem ri (b : List GRes) : (yw b).map (·.2) = (allS b).map nzS := by
  unfold yw allS
  rw [List.map_flatMap, List.map_flatMap]
  refine congrArg (fun f => List.flatMap f b) (funext fun r => ?_)
  rw [List.map_map]; rfl
theorem allS_nz (b : List GRes) : (allS (nzB b)).Perm ((allS b).map nzS) := by
  unfold nzB u2
  rw [allS_group, ← ri]; exact tj _
theorem code_note (s : GSpan) (h : xE s.note = 0) : xE (if s.code = 2 then s.note else ⟨#[]⟩) = 0 := by split; exact h; exact wU
theorem spanOk_nz {s : GSpan} (ho : s.ok) (h : vP s = 0) : vP (nzS s) = 0 := by
  obtain ⟨a1, a2, a3, a4, a5, a6, a7, a8, a9, b1⟩ := (uU s).1 h
  refine (uU _).2 ⟨a1, wU, a3, ?_, whole_check ho.2.2.1.2.1 ho.2.2.1.2.2.1, sB nZ kZ a6, ?_, ?_, a9, code_note s b1⟩
  · show 0 ≤ (if s.kind = 1 then 0 else s.kind) ∧ (if s.kind = 1 then 0 else s.kind) ≤ 5
    split <;> omega
  · exact evsC_map (f := nzE) (fun e he => ⟨wholeN_le _, he.2.1, attrsC_nil⟩) a7
  · show lksC [] = 0
    rfl
theorem service_resG (x : ByteArray × List GSpan) : zu (resG x) = x.1 := (rj (l := []) trivial x.1).2
theorem textW {l : List GA} {k : ByteArray} {v : GV} (h : getA l k = some v) : 64 + 6 * k.size + 12 * (xA v).size ≤ yM l := by
  induction l with
  | nil => rw [getA] at h; cases h
  | cons x l ih =>
    rw [getA] at h
    rw [yM]
    split at h
    · rename_i hk; rw [← hk, ← Option.some.inj h]; omega
    · have := ih h; omega
theorem head_le (r : GRes) : yM (yx [] (zu r)) ≤ yM r.attrs := by
  unfold yx
  split
  · exact Nat.zero_le _
  · rename_i hne
    show 64 + 6 * skey.size + 12 * (xA (tv (zu r))).size + 0 ≤ _
    rw [s7]
    unfold zu un at hne ⊢
    cases e : getA r.attrs skey with
    | none => rw [e, Option.getD_none, tR] at hne; exact absurd rfl hne
    | some v => have := textW e; rw [Option.getD_some]; omega
theorem spanW_nz (s : GSpan) (t : ByteArray) : wL (nzS s) t ≤ wL s t := by
  have h1 : yM (jF s.attrs) ≤ yM s.attrs := tm nZ kZ s.attrs
  have h2 : zg (fun e : GE => 64 + 6 * e.name.size + yM e.attrs) (s.events.map nzE) ≤ zg (fun e : GE => 64 + 6 * e.name.size + yM e.attrs) s.events :=
    wG fun e _ => by show 64 + 6 * e.name.size + 0 ≤ _; omega
  have h4 : (if s.code = 2 then s.note else ⟨#[]⟩ : ByteArray).size ≤ s.note.size := by split; exact Nat.le_refl _; exact Nat.zero_le _
  show 512 + 6 * (t.size + 0 + s.name.size + (if s.code = 2 then s.note else ⟨#[]⟩ : ByteArray).size) + yM (jF s.attrs) + zg _ (s.events.map nzE) + 0 ≤ _
  unfold wL
  omega
def headW (k : ByteArray) : Nat := 128 + yM (yx [] k)
def gW (g : Gp) : Nat := zg (fun x : ByteArray × List GSpan => zg (fun s => wL s x.1) x.2) g
theorem resW_resG (x : ByteArray × List GSpan) : resW (resG x) = headW x.1 + zg (fun s => wL s x.1) x.2 := by
  unfold resW
  rw [service_resG]
  show 64 + yM (yx [] x.1) + (64 + 6 * (0 + 0) + zg (fun s => wL s x.1) x.2 + 0) = _
  unfold headW
  omega
theorem batchW_group (g : Gp) : vJ (g.map resG) = 16 + (zg headW (yi g) + gW g) := by
  unfold vJ
  congr 1
  induction g with
  | nil => rfl
  | cons x g ih =>
    have e : yi (x :: g) = x.1 :: yi g := rfl
    have e2 : gW (x :: g) = zg (fun s => wL s x.1) x.2 + gW g := rfl
    rw [List.map_cons, zg, ih, resW_resG, e, e2, zg]
    omega
theorem gW_put : ∀ (g : Gp) (k : ByteArray) (s : GSpan), gW (gput g k s) = gW g + wL s k
  | [], k, s => by simp [gput, gW, zg]
  | (k', l) :: g, k, s => by
    have ih := gW_put g k s
    rw [gput]
    have e : ∀ (l : List GSpan) (g : Gp), gW ((k', l) :: g) = zg (fun s => wL s k') l + gW g := fun _ _ => rfl
    split
    · rename_i h
      rw [e, e, xM, h]; simp only [zg]; omega
    · rw [e, e, ih]; omega
theorem gW_F : ∀ (l : List (ByteArray × GSpan)) (g : Gp), gW (grpF g l) = gW g + zg (fun x : ByteArray × GSpan => wL x.2 x.1) l
  | [], g => by simp [grpF, zg]
  | x :: l, g => by
    show gW (grpF (gput g x.1 x.2) l) = _
    rw [gW_F l, gW_put, zg]; omega
theorem rows_one (r : GRes) : ∀ x ∈ (zr r.scopes).map (fun s => (zu r, nzS s)), x.1 = zu r := fun x hx => by
  obtain ⟨s, _, rfl⟩ := List.mem_map.1 hx; rfl
theorem rowsW (t : ByteArray) : ∀ l : List GSpan, zg (fun x : ByteArray × GSpan => wL x.2 x.1) (l.map fun s => (t, nzS s)) ≤ zg (fun s => wL s t) l
  | [] => Nat.le_refl _
  | s :: l => by rw [List.map_cons, zg, zg]; have := rowsW t l; have := spanW_nz s t; dsimp only; omega
theorem spansOf_none : ∀ {l : List GScope}, zr l ≠ [] → 1 ≤ l.length
  | [], h => absurd rfl h
  | _ :: _, _ => by simp
theorem groupsW : ∀ (b : List GRes) (g : Gp), zg headW (yi (grpF g (yw b))) + gW (grpF g (yw b)) ≤ zg headW (yi g) + gW g + zg resW b
  | [], g => by simp [yw, grpF, zg]
  | r :: b, g => by
    have e : yw (r :: b) = (zr r.scopes).map (fun s => (zu r, nzS s)) ++ yw b := List.flatMap_cons
    rw [e, ug]
    have ih := groupsW b (grpF g ((zr r.scopes).map fun s => (zu r, nzS s)))
    have h1 := keys_one g (rows_one r)
    have h2 := gW_F ((zr r.scopes).map fun s => (zu r, nzS s)) g
    have h3 := rowsW (zu r) (zr r.scopes)
    have h4 := jd (zu r) r.scopes
    have h5 : zg headW (yi (grpF g ((zr r.scopes).map fun s => (zu r, nzS s)))) ≤ zg headW (yi g) + (64 + yM r.attrs + 64 * r.scopes.length) := by
      rw [h1]
      split
      · omega
      · rename_i hn
        have hne : zr r.scopes ≠ [] := fun h0 => hn (.inl (by rw [h0]; rfl))
        have h6 := spansOf_none hne
        have h7 := head_le r
        rw [xM, zg, zg]
        unfold headW
        omega
    have h8 : resW r = 64 + yM r.attrs + zg (fun s => xn s (zu r)) r.scopes := rfl
    rw [zg]
    omega
theorem batchW_nz (b : List GRes) : vJ (nzB b) ≤ vJ b := by
  have h := groupsW b []
  have e := batchW_group (grp (yw b))
  have e2 : zg headW (yi []) + gW [] = 0 := rfl
  unfold nzB u2
  unfold grp at e ⊢
  rw [e]
  unfold vJ
  omega
theorem keysLen : ∀ (b : List GRes) (g : Gp), (yi (grpF g (yw b))).length ≤ (yi g).length + b.length
  | [], g => by simp [yw, grpF]
  | r :: b, g => by
    have e : yw (r :: b) = (zr r.scopes).map (fun s => (zu r, nzS s)) ++ yw b := List.flatMap_cons
    rw [e, ug]
    have ih := keysLen b (grpF g ((zr r.scopes).map fun s => (zu r, nzS s)))
    have h1 := keys_one g (rows_one r)
    rw [List.length_cons]
    have : (yi (grpF g ((zr r.scopes).map fun s => (zu r, nzS s)))).length ≤ (yi g).length + 1 := by
      rw [h1]; split
      · omega
      · simp
    omega
theorem keysMem : ∀ (l : List (ByteArray × GSpan)) (g : Gp) (k : ByteArray), k ∈ yi (grpF g l) → k ∈ yi g ∨ ∃ x ∈ l, x.1 = k
  | [], g, k, h => .inl h
  | x :: l, g, k, h => by
    rcases keysMem l _ k h with h | ⟨y, hy, e⟩
    · rw [jA] at h
      split at h
      · exact .inl h
      · rcases List.mem_append.1 h with h | h
        · exact .inl h
        · exact .inr ⟨x, List.mem_cons_self, (List.mem_singleton.1 h).symm⟩
    · exact .inr ⟨y, List.mem_cons_of_mem _ hy, e⟩
theorem tK {b : List GRes} {x : ByteArray × GSpan} (h : x ∈ yw b) : ∃ r ∈ b, x.1 = zu r ∧ ∃ c ∈ r.scopes, ∃ s ∈ c.spans, x.2 = nzS s := by
  obtain ⟨r, hr, hx⟩ := List.mem_flatMap.1 h
  obtain ⟨s, hs, rfl⟩ := List.mem_map.1 hx
  obtain ⟨c, hc, hs⟩ := vH hs
  exact ⟨r, hr, rfl, c, hc, s, hs, rfl⟩
theorem chk_nz {b : List GRes} (ho : okB b) (h : (chkF b).1 = 0) : (chkF (nzB b)).1 = 0 := by
  obtain ⟨h1, h2, h3, h4⟩ := uR.1 h
  have hk := keysLen b []
  refine uR.2 ⟨?_, fun r hr => ?_, ?_, Nat.le_trans (batchW_nz b) h4⟩
  · unfold nzB u2 grp
    rw [List.length_map]
    have e : (yi (grpF [] (yw b))).length = (grpF [] (yw b)).length := List.length_map ..
    have e0 : (yi []).length = 0 := rfl
    omega
  · obtain ⟨x, hx, rfl⟩ := List.mem_map.1 hr
    have hkm : x.1 ∈ yi (grpF [] (yw b)) := List.mem_map.2 ⟨x, hx, rfl⟩
    rcases keysMem _ _ _ hkm with h0 | ⟨y, hy, e⟩
    · cases h0
    obtain ⟨r, hr, e2, _⟩ := tK hy
    have ht := rl (h2 r hr).1 skey
    have hsv : x.1 = un r.attrs skey := e.symm.trans e2
    refine ⟨attrsC_named attrsC_nil (hsv ▸ ht.1) (hsv ▸ ht.2) (.inr (.inr (by decide))), by show 1 ≤ 16; decide, fun c hc => ?_⟩
    cases List.mem_singleton.1 hc
    refine ⟨wU, wU, fun s hs => ?_⟩
    have hs : s ∈ x.2 := hs
    have hm : s ∈ (grp (yw b)).flatMap (·.2) := List.mem_flatMap.2 ⟨x, hx, hs⟩
    obtain ⟨y, hy, rfl⟩ := List.mem_map.1 ((tj (yw b)).mem_iff.1 hm)
    obtain ⟨r, hr, _, c, hc, t, ht, e⟩ := tK hy
    rw [e]
    exact spanOk_nz (((ho r hr).2 c hc).2.2 t ht) (((h2 r hr).2.2 c hc).2.2 t ht)
  · rw [ra, (allS_nz b).length_eq, List.length_map, ← ra 0]; exact h3
theorem core_nz {s : GSpan} (ho : s.ok) : jT (nzS s) = jT s := by
  have h := core_times ho.2.2.1.2.1 ho.2.2.1.2.2.1
  exact GCore.ext' rfl rfl rfl rfl h.1 h.2
theorem cores_nz {b : List GRes} (ho : okB b) : (y8 (nzB b)).Perm (y8 b) := by
  unfold y8
  refine ((allS_nz b).map jT).trans ?_
  rw [List.map_map]
  refine List.Perm.of_eq (List.map_congr_left fun s hs => ?_)
  obtain ⟨r, hr, c, hc, hs⟩ := allS_mem hs
  exact core_nz (((ho r hr).2 c hc).2.2 s hs)
def wX (l : List GCore) (c : GCore) : Nat := l.countP fun x => decide (x = c)
def jJ (x y : List GCore) : Bool := decide (x.length = y.length) && x.all fun c => decide (wX x c = wX y c)
theorem alike_perm {x y : List GCore} (h : x.Perm y) : jJ x y = true := by
  unfold jJ
  rw [decide_eq_true h.length_eq, Bool.true_and, List.all_eq_true]
  exact fun c _ => decide_eq_true (h.countP_eq _)
theorem keptZ_idem (l : List GA) : jF (jF l) = jF l := by
  unfold jF
  rw [← uT nZ kZ (l.map (yZ nZ)), jS, tJ]
theorem nzS_idem {s : GSpan} (h : s.ok) : nzS (nzS s) = nzS s := by
  have hw := wholeM_idem h.2.2.1.2.1 h.2.2.1.2.2.1
  refine GSpan.ext' rfl rfl rfl rfl rfl ?_ ?_ ?_ ?_ ?_ rfl rfl ?_
  · show (if (if s.kind = 1 then 0 else s.kind) = 1 then 0 else (if s.kind = 1 then 0 else s.kind)) = (if s.kind = 1 then 0 else s.kind)
    by_cases h1 : s.kind = 1
    · rw [if_pos h1]; rfl
    · rw [if_neg h1, if_neg h1]
  · show (yt ⟨(yt ⟨s.start, s.fin⟩).lo, (yt ⟨s.start, s.fin⟩).hi⟩).lo = _; rw [hw]; rfl
  · show (yt ⟨(yt ⟨s.start, s.fin⟩).lo, (yt ⟨s.start, s.fin⟩).hi⟩).hi = _; rw [hw]; rfl
  · exact keptZ_idem s.attrs
  · show (s.events.map nzE).map nzE = s.events.map nzE
    rw [List.map_map]; exact List.map_congr_left fun e he => by
      show nzE (nzE e) = nzE e
      unfold nzE; dsimp only; rw [wholeN_idem (h.2.2.2.2.1 e he).1]
  · show (if s.code = 2 then (if s.code = 2 then s.note else ⟨#[]⟩) else ⟨#[]⟩) = (if s.code = 2 then s.note else ⟨#[]⟩ : ByteArray)
    split <;> rfl
theorem gput_new : ∀ {g : Gp} {k : ByteArray} {s : GSpan}, k ∉ yi g → gput g k s = g ++ [(k, [s])]
  | [], k, s, _ => rfl
  | (k', l) :: g, k, s, h => by
    have h1 : k' ≠ k := fun e => h (by rw [e]; simp [yi])
    have h2 : k ∉ yi g := fun e => h (List.mem_cons_of_mem _ e)
    rw [gput, if_neg h1, gput_new h2]; rfl
theorem gput_last : ∀ {g : Gp} {k : ByteArray} {l : List GSpan} {s : GSpan}, k ∉ yi g → gput (g ++ [(k, l)]) k s = g ++ [(k, l ++ [s])]
  | [], k, l, s, _ => by rw [List.nil_append, gput, if_pos rfl]; rfl
  | (k', m) :: g, k, l, s, h => by
    have h1 : k' ≠ k := fun e => h (by rw [e]; simp [yi])
    have h2 : k ∉ yi g := fun e => h (List.mem_cons_of_mem _ e)
    rw [List.cons_append, gput, if_neg h1, gput_last h2]; rfl
theorem grpF_last {g : Gp} {k : ByteArray} (hk : k ∉ yi g) : ∀ (m l : List GSpan), grpF (g ++ [(k, l)]) (m.map fun s => (k, s)) = g ++ [(k, l ++ m)]
  | [], l => by simp [grpF]
  | s :: m, l => by
    show grpF (gput (g ++ [(k, l)]) k s) (m.map fun s => (k, s)) = _
    rw [gput_last hk, grpF_last hk m (l ++ [s]), List.append_assoc]; rfl
theorem grpF_new {g : Gp} {k : ByteArray} (hk : k ∉ yi g) {m : List GSpan} (hm : m ≠ []) : grpF g (m.map fun s => (k, s)) = g ++ [(k, m)] := by
  cases m with
  | nil => exact absurd rfl hm
  | cons s m =>
    show grpF (gput g k s) (m.map fun s => (k, s)) = _
    rw [gput_new hk]; exact grpF_last hk m [s]
theorem regroup : ∀ (m g : Gp), (yi (g ++ m)).Nodup → (∀ x ∈ m, x.2 ≠ []) → grpF g (m.flatMap fun x => x.2.map fun s => (x.1, s)) = g ++ m
  | [], g, _, _ => by simp [grpF]
  | x :: m, g, hn, he => by
    have hk : x.1 ∉ yi g := fun h => by
      unfold yi at hn h
      rw [List.map_append, List.nodup_append] at hn
      exact hn.2.2 _ h _ (List.mem_map.2 ⟨x, List.mem_cons_self, rfl⟩) rfl
    rw [List.flatMap_cons, ug, grpF_new hk (he x List.mem_cons_self)]
    have := regroup m (g ++ [(x.1, x.2)]) (by rw [List.append_assoc]; exact hn) fun y hy => he y (List.mem_cons_of_mem _ hy)
    rw [this, List.append_assoc]; rfl
theorem gput_ne : ∀ {g : Gp} (k : ByteArray) (s : GSpan), (∀ x ∈ g, x.2 ≠ []) → ∀ x ∈ gput g k s, x.2 ≠ []
  | [], k, s, _, x, h => by cases List.mem_singleton.1 h; simp
  | (k', l) :: g, k, s, he, x, h => by
    rw [gput] at h
    split at h
    · rcases List.mem_cons.1 h with rfl | h
      · simp
      · exact he x (List.mem_cons_of_mem _ h)
    · rcases List.mem_cons.1 h with rfl | h
      · exact he _ List.mem_cons_self
      · exact gput_ne k s (fun y hy => he y (List.mem_cons_of_mem _ hy)) x h
theorem grpF_ne : ∀ (l : List (ByteArray × GSpan)) {g : Gp}, (∀ x ∈ g, x.2 ≠ []) → ∀ x ∈ grpF g l, x.2 ≠ []
  | [], _, h => h
  | x :: l, _, h => grpF_ne l (gput_ne x.1 x.2 h)
theorem group_stays (l : List (ByteArray × GSpan)) (h : ∀ x ∈ l, nzS x.2 = x.2) : nzB (u2 l) = u2 l := by
  have e : yw (u2 l) = (grp l).flatMap fun x => x.2.map fun s => (x.1, s) := by
    unfold yw u2
    rw [List.flatMap_map]
    have hm : ∀ x ∈ grp l, ∀ s ∈ x.2, nzS s = s := fun x hx s hs => by
      obtain ⟨y, hy, rfl⟩ := List.mem_map.1 ((tj l).mem_iff.1 (List.mem_flatMap.2 ⟨x, hx, hs⟩))
      exact h y hy
    have key : ∀ g : Gp, (∀ x ∈ g, ∀ s ∈ x.2, nzS s = s) → g.flatMap (fun a => (zr (resG a).scopes).map fun s => (zu (resG a), nzS s)) = g.flatMap fun x => x.2.map fun s => (x.1, s) := by
      intro g
      induction g with
      | nil => intro _; rfl
      | cons x g ih =>
        intro hg
        rw [List.flatMap_cons, List.flatMap_cons, ih fun y hy => hg y (List.mem_cons_of_mem _ hy)]
        congr 1
        rw [show zr (resG x).scopes = x.2 by show zr [⟨_, _, x.2⟩] = x.2; simp [zr], service_resG]
        exact List.map_congr_left fun s hs => by rw [hg x List.mem_cons_self s hs]
    exact key _ hm
  have hr := regroup (grp l) [] (by rw [List.nil_append]; exact keys_nodup l) (grpF_ne l (by simp))
  show (grp (yw (u2 l))).map resG = _
  rw [e]
  show (grpF [] _).map resG = _
  rw [hr, List.nil_append]; rfl
theorem nzB_stays {b : List GRes} (ho : okB b) : nzB (nzB b) = nzB b := group_stays _ fun x hx => by
  obtain ⟨r, hr, _, c, hc, s, hs, e⟩ := tK hx
  rw [e]; exact nzS_idem (((ho r hr).2 c hc).2.2 s hs)
end Go.Proofs
namespace Go.Proofs
open Go Go.Al
def rq0 : ByteArray × GSpan := (⟨#[]⟩, gs0)
def nthQ (l : List (ByteArray × GSpan)) (i : Nat) : ByteArray × GSpan := nth l i rq0
end Go.Proofs
namespace Go.Proofs
open Go Go.Al
def flAv (f : Fl) : AV := .agg [iv f.1, .sl 1 (f.2.map sv)]
def upF (ab : List ByteArray) (f : Fl) : Fl := if f.1 = 0 then (0, []) else (f.1, ab ++ f.2)
theorem sQ {ab : List ByteArray} {f : Fl} (h : f.1 ≠ 0) : upF ab f = (f.1, ab ++ f.2) := if_neg h
theorem upF_zero {ab : List ByteArray} {f : Fl} (h : f.1 = 0) : upF ab f = (0, []) := if_pos h
theorem upF_code (ab : List ByteArray) (f : Fl) : (upF ab f).1 = f.1 := by
  unfold upF; split
  · rename_i h; exact h.symm
  · rfl
theorem part_cat (k : ByteArray) (n : Nat) : (k ++ ⟨#[32]⟩) ++ yF (decB n) = sO k n := by
  unfold sO
  have h1 : yF (lst k) = k := jH k
  have h2 : (⟨#[32]⟩ : ByteArray) = yF [32] := rfl
  conv => lhs; rw [← h1]
  rw [h2, wR, wR, List.append_assoc]; rfl
theorem spansF_drop {l : List GSpan} {i : Nat} (h : i < l.length) : t_ i (l.drop i) = if vP (nthS l i) = 0 then t_ (i + 1) (l.drop (i + 1)) else (vP (nthS l i), [sO kSpan i]) := by
  rw [xW (d := gs0) h, t_]; rfl
theorem scopesF_drop {l : List GScope} {i : Nat} (h : i < l.length) : vf i (l.drop i) = if (wN (nthC l i)).1 = 0 then vf (i + 1) (l.drop (i + 1)) else ((wN (nthC l i)).1, sO kScope i :: (wN (nthC l i)).2) := by
  rw [xW (d := gc0) h, vf]; rfl
theorem ressF_drop {l : List GRes} {i : Nat} (h : i < l.length) : tp i (l.drop i) = if (resF (nthR l i)).1 = 0 then tp (i + 1) (l.drop (i + 1)) else ((resF (nthR l i)).1, sO kRes i :: (resF (nthR l i)).2) := by
  rw [xW (d := gr0) h, tp]; rfl
section
variable {s : GScope} {ab : List ByteArray} {i : Nat}
theorem scopeF_1 (h : xE s.name ≠ 0) : wN s = (xE s.name, []) := if_pos h
theorem scopeF_2 (h1 : xE s.name = 0) (h : xE s.version ≠ 0) : wN s = (xE s.version, []) := by unfold wN; rw [if_neg (by omega), if_pos h]
theorem scopeF_3 (h1 : xE s.name = 0) (h2 : xE s.version = 0) : wN s = t_ 0 s.spans := by unfold wN; rw [if_neg (by omega), if_neg (by omega)]
theorem sc1 (h : xE s.name ≠ 0) : AV.agg [iv (xE s.name), .sl 1 (ab.map sv)] = flAv (upF ab (wN s)) := by
  rw [scopeF_1 h, sQ (f := (xE s.name, [])) h, List.append_nil]; rfl
theorem sc2 (h1 : xE s.name = 0) (h : xE s.version ≠ 0) : AV.agg [iv (xE s.version), .sl 1 (ab.map sv)] = flAv (upF ab (wN s)) := by
  rw [scopeF_2 h1 h, sQ (f := (xE s.version, [])) h, List.append_nil]; rfl
theorem sc3 (h1 : xE s.name = 0) (h2 : xE s.version = 0) (h : t_ 0 s.spans = t_ i (s.spans.drop i)) (hi : i < s.spans.length) (hn : vP (nthS s.spans i) ≠ 0) :
    AV.agg [iv (vP (nthS s.spans i)), .sl 1 (ab.map sv ++ [sv (sO kSpan i)])] = flAv (upF ab (wN s)) := by
  rw [scopeF_3 h1 h2, h, spansF_drop hi, if_neg hn, sQ (f := (vP (nthS s.spans i), [sO kSpan i])) hn]
  unfold flAv
  rw [List.map_append]; rfl
theorem sc4 (h1 : xE s.name = 0) (h2 : xE s.version = 0) (h : t_ 0 s.spans = (0, [])) : AV.agg [iv 0, .sl 1 []] = flAv (upF ab (wN s)) := by
  rw [scopeF_3 h1 h2, h, upF_zero rfl]; rfl
end
section
variable {r : GRes} {a : ByteArray} {i : Nat}
theorem rs1 (h : ym r.attrs ≠ 0) : AV.agg [iv (ym r.attrs), .sl 1 [sv a]] = flAv (upF [a] (resF r)) := by
  rw [show resF r = (ym r.attrs, []) from if_pos h, sQ (f := (ym r.attrs, [])) h]; rfl
theorem rs2 (h1 : ym r.attrs = 0) (h : 16 < r.scopes.length) : AV.agg [iv 34, .sl 1 [sv a]] = flAv (upF [a] (resF r)) := by
  rw [show resF r = (34, []) by unfold resF; rw [if_neg (by omega), if_pos h], sQ (f := (34, [])) (by decide)]; rfl
theorem resF_3 (h1 : ym r.attrs = 0) (h : ¬ 16 < r.scopes.length) : resF r = vf 0 r.scopes := by unfold resF; rw [if_neg (by omega), if_neg h]
theorem rs3 (h1 : ym r.attrs = 0) (h2 : ¬ 16 < r.scopes.length) (h : vf 0 r.scopes = vf i (r.scopes.drop i)) (hi : i < r.scopes.length) (hn : (wN (nthC r.scopes i)).1 ≠ 0) :
    flAv (upF [a, sO kScope i] (wN (nthC r.scopes i))) = flAv (upF [a] (resF r)) := by
  rw [resF_3 h1 h2, h, scopesF_drop hi, if_neg hn, sQ hn, sQ (f := ((wN (nthC r.scopes i)).1, sO kScope i :: (wN (nthC r.scopes i)).2)) hn]; rfl
theorem rs4 (h1 : ym r.attrs = 0) (h2 : ¬ 16 < r.scopes.length) (h : vf 0 r.scopes = (0, [])) : AV.agg [iv 0, .sl 1 []] = flAv (upF [a] (resF r)) := by
  rw [resF_3 h1 h2, h, upF_zero rfl]; rfl
end
section
variable {b : List GRes} {i : Nat}
theorem ck1 (h : 32 < b.length) : chkF b = (34, []) := if_pos h
theorem ck2 (h1 : ¬ 32 < b.length) (h : tp 0 b = tp i (b.drop i)) (hi : i < b.length) (hn : (resF (nthR b i)).1 ≠ 0) : upF [sO kRes i] (resF (nthR b i)) = chkF b := by
  have e : tp 0 b = ((resF (nthR b i)).1, sO kRes i :: (resF (nthR b i)).2) := by rw [h, ressF_drop hi, if_neg hn]
  unfold chkF
  rw [if_neg h1, e, if_pos hn, sQ hn]; rfl
theorem ck3 (h1 : ¬ 32 < b.length) (h : tp 0 b = (0, [])) (h2 : 100 < (plR 0 b).length) : chkF b = (34, []) := by
  unfold chkF; rw [if_neg h1, h, if_neg (by decide), if_pos h2]
theorem ck4 (h1 : ¬ 32 < b.length) (h : tp 0 b = (0, [])) (h2 : ¬ 100 < (plR 0 b).length) (h3 : 65536 < vJ b) : chkF b = (36, []) := by
  unfold chkF; rw [if_neg h1, h, if_neg (by decide), if_neg h2, if_pos h3]
theorem ck5 (h1 : ¬ 32 < b.length) (h : tp 0 b = (0, [])) (h2 : ¬ 100 < (plR 0 b).length) (h3 : ¬ 65536 < vJ b) : chkF b = (0, []) := by
  unfold chkF; rw [if_neg h1, h, if_neg (by decide), if_neg h2, if_neg h3]
theorem flN {x : Fl} {c : Int} (h : x = (c, [])) : Up (.agg [iv c, .v (.slice none 0 0)]) (flAv x) := by rw [h]; exact Up.agg ⟨Up.refl _, Up.nil 1, trivial⟩
theorem flE {x : Fl} {c : Int} (h : x = (c, [])) : Up (.agg [iv c, .sl 1 []]) (flAv x) := by rw [h]; exact Up.refl _
theorem flU {x y : Fl} (h : x = y) : Up (flAv x) (flAv y) := by rw [h]; exact Up.refl _
end
end Go.Proofs
namespace Go.Proofs
open Go Go.Al
set_option maxRecDepth 10000
theorem rpart_c (k : ByteArray) (n : Nat) (hk : k.size ≤ 100) (hn : n ≤ 1000000000) : zn Tryz.prog Γ0 25 [sv k, iv (n : Int)] [sv (sO k n)] := by
  refine z_ Tryz.func25 rfl Tryz.ntmps25 (by kernel_rfl) rfl fun w0 I0 G0 => ?_
  refine zD <| zB <| g_u (zE rfl rfl) <| zH <| zA <| zD <| zB <| g_u (zC rfl rfl) ?_
  refine g_u (y5 rfl rfl rfl (by show _ ≤ (9223372036854775807 : Int); have h1 := tx (n : Int); have h2 : (ByteArray.mk #[32]).size = 1 := rfl; have h3 : (yF (decB (n : Int))).size = (decB (n : Int)).length := ze _; (try dsimp only); (try simp only [zo]); omega)) ?_
  refine g_u (zC rfl rfl) ?_
  refine g_u (zP (rdec_c _ (by omega)) rfl rfl) ?_
  refine g_u (y5 rfl rfl rfl (by show _ ≤ (9223372036854775807 : Int); have h1 := tx (n : Int); have h2 : (ByteArray.mk #[32]).size = 1 := rfl; have h3 : (yF (decB (n : Int))).size = (decB (n : Int)).length := ze _; (try dsimp only); (try simp only [zo]); omega)) ?_
  refine g_u (zE rfl rfl) <| zH <| zA <| zL ?_
  exact ⟨⟨(rfl : toAV (Al.look _ _) = some _).trans (congrArg some (by (exact congrArg sv (part_cat k n)))), rfl⟩, trivial⟩
set_option maxHeartbeats 4000000 in
theorem rscope30_c (s : GScope) (ab : List ByteArray) (ho : s.ok) (hw : s.wt ≤ 1000000) (ha : ab.length ≤ 10) : zn Tryz.prog Γ0 47 [s.av, .sl 1 (ab.map sv)] [flAv (upF ab (wN s))] := by
  have qw : s.wt = 1 + s.name.size + s.version.size + zg GSpan.wt s.spans := rfl
  have ql := yX GSpan.wt (fun e => by unfold GSpan.wt; omega) s.spans
  refine z_ Tryz.func47 rfl Tryz.ntmps47 (by kernel_rfl) rfl fun w0 I0 G0 => ?_
  refine zD <| zB <| g_uG (zk 1002 rfl rfl rfl rfl) rfl <| g_uG (zy 1004 rfl rfl rfl tZ29) rfl <| zH <| zA <| zD <| zD <| zB <| g_u (zF rfl rfl fa51_0 rfl) <| g_u (zG rfl rfl rfl tA9 tS9 rfl rfl) ?_
  refine g_u (zP (rh _ (by omega)) rfl rfl) ?_
  refine g_u (zE rfl rfl) <| zH <| zA <| zD <| zB <| g_u (zC rfl rfl) <| g_u (xl rfl rfl rfl) <| zH <| zA ?_
  refine zN rfl (fun hb1 => ?_) (fun hb1 => ?_)
  · have q1 : xE s.name ≠ 0 := bne_iff_ne.1 hb1
    refine zD <| zB <| g_u (zC rfl rfl) <| g_u (zC rfl rfl) <| g_u (yj rfl tU29 us29 pl29 rfl rfl rfl rfl) <| g_u (zV rfl rfl rfl tS29 rfl rfl) <| zH <| zA <| zL <| zK ?_
    exact ⟨⟨_, _, _, _, _, _, _, rfl, rfl, tA29, tS29, rfl, rfl, (rfl : toAV _ = some _).trans (congrArg some (by (exact sc1 q1)))⟩, trivial⟩
  · have q1 : xE s.name = 0 := qd.1 hb1
    refine zQ <| zA <| zD <| zD <| zB <| g_u (zF rfl rfl fa51_1 rfl) <| g_u (zG rfl rfl rfl tA9 tS9 rfl rfl) ?_
    refine g_u (zP (rh _ (by omega)) rfl rfl) ?_
    refine g_u (zE rfl rfl) <| zH <| zA <| zD <| zB <| g_u (zC rfl rfl) <| g_u (xl rfl rfl rfl) <| zH <| zA ?_
    refine zN rfl (fun hb2 => ?_) (fun hb2 => ?_)
    · have q2 : xE s.version ≠ 0 := bne_iff_ne.1 hb2
      refine zD <| zB <| g_u (zC rfl rfl) <| g_u (zC rfl rfl) <| g_u (yj rfl tU29 us29 pl29 rfl rfl rfl rfl) <| g_u (zV rfl rfl rfl tS29 rfl rfl) <| zH <| zA <| zL <| zK ?_
      exact ⟨⟨_, _, _, _, _, _, _, rfl, rfl, tA29, tS29, rfl, rfl, (rfl : toAV _ = some _).trans (congrArg some (by (exact sc2 q1 q2)))⟩, trivial⟩
    · have q2 : xE s.version = 0 := qd.1 hb2
      refine zQ <| zA <| zD <| zD <| zB <| g_u (zE rfl rfl) <| zH <| zA <| zU ?_
      refine zw (fun i : Nat => [(2, .ptr 1002 0), (1002, .box 51 (.imm s.av)), (1, .imm (.sl 1 (ab.map sv))), (4, .ptr 1004 0), (1004, .box 29 (.imm z29)), (7, .imm (iv (i : Int)))]) (fun i => i ≤ s.spans.length ∧ t_ 0 s.spans = t_ i (s.spans.drop i)) (fun i => s.spans.length - i) (0) ?_ ⟨rfl, rfl, rfl, rfl, rfl, rfl, trivial⟩ ?_
      · exact ⟨Nat.zero_le _, rfl⟩
      · rintro i ⟨h1, h2⟩; (try dsimp only at h1 h2)
        refine zD <| zD <| zB <| g_u (zC rfl rfl) <| g_u (zF rfl rfl uM rfl) <| g_u (zG rfl rfl rfl tA49 tS49 rfl rfl) <| g_u (z7 rfl rfl Tryz.underlying49) <| g_u (ye rfl rfl rfl) <| zH <| zA ?_
        refine zN rfl (fun hb3 => ?_) (fun hb3 => ?_)
        · have hi : i < s.spans.length := by have := of_decide_eq_true hb3; (try simp only [List.length_map] at this); omega
          have hsx := yP GSpan.wt (uO hi)
          have hso := ho.2.2 _ (uO hi)
          refine zQ <| zA <| zD <| zU <| zD <| zB <| g_u (zF rfl rfl uM rfl) <| g_u (zG rfl rfl rfl tA49 tS49 rfl rfl) <| g_u (zC rfl rfl) ?_
          refine g_u (zR rfl rfl rfl Tryz.underlying49 tS63 (by omega) (ixS hi)) ?_
          refine g_u (zd rfl rfl tA63 tS63 rfl (by first | exact wh (GSpan.width _) rfl | rfl)) ?_
          refine g_u (zP (rspanCheck_c _ hso (by omega)) rfl rfl) ?_
          refine g_u (zE rfl rfl) <| zH <| zA <| zD <| zB <| g_u (zC rfl rfl) <| g_u (xl rfl rfl rfl) <| zH <| zA ?_
          refine zN rfl (fun hb4 => ?_) (fun hb4 => ?_)
          · have hz : vP (nthS s.spans i) ≠ 0 := bne_iff_ne.1 hb4
            refine zD <| zB <| g_u (zC rfl rfl) <| g_uG (s_build0 1041 3041 rfl rfl rfl rfl rfl rfl Tryz.underlying27 tS9) rfl <| g_u (zC rfl rfl) ?_
            refine g_u (yh rfl rfl rfl rfl rfl Tryz.underlying27 Tryz.underlying27 tS9 zv9 rfl (by decide) by9 (by (try dsimp only); simp only [List.length_append, List.length_cons, List.length_nil, List.length_map]; omega) (by (try dsimp only); simp only [List.length_append, List.length_cons, List.length_nil, List.length_map]; omega)) ?_
            refine g_u (zC rfl rfl) ?_
            refine g_u (zP (rpart_c kSpan i (by decide) (by omega)) rfl rfl) ?_
            refine g_u (zl (X0 := z9) rfl Tryz.underlying27 tS9 tZ9 rfl rfl rfl rfl rfl rfl rfl rfl) ?_
            refine g_u (yh rfl rfl rfl rfl rfl Tryz.underlying27 Tryz.underlying27 tS9 zv9 rfl (by decide) by9 (by (try dsimp only); simp only [List.length_append, List.length_cons, List.length_nil, List.length_map]; omega) (by (try dsimp only); simp only [List.length_append, List.length_cons, List.length_nil, List.length_map]; omega)) ?_
            refine g_u (yj rfl tU29 us29 pl29 rfl rfl rfl rfl) <| g_u (zV rfl rfl rfl tS29 rfl rfl) <| zH <| zA <| zL <| zt <| zK <| zK <| zt <| zK ?_
            exact ⟨⟨_, _, _, _, _, _, _, rfl, rfl, tA29, tS29, rfl, rfl, (rfl : toAV _ = some _).trans (congrArg some (by (first | exact sc3 q1 q2 h2 hi hz | exact sc4 q1 q2 (by rw [h2, hin, List.drop_length]; rfl))))⟩, trivial⟩
          · have hz : vP (nthS s.spans i) = 0 := qd.1 hb4
            refine zQ <| zW <| zA <| zB <| g_u (zC rfl rfl) <| g_u (z0 rfl rfl rfl) <| g_u (zE rfl rfl) <| zH <| zA ?_
            refine ⟨i + 1, ⟨hi, by (try dsimp only); rw [h2, spansF_drop hi, if_pos hz]⟩, ⟨rfl, rfl, rfl, rfl, rfl, zX rfl (by rw [zO (by omega) (by omega)]; rfl), trivial⟩, by (try dsimp only); omega⟩
        · have hin : i = s.spans.length := by have := of_decide_eq_false hb3; (try simp only [List.length_map] at this); omega
          refine zz <| zT <| zT <| zq <| zA <| zD <| zB <| g_u (yj rfl tU29 us29 pl29 rfl rfl rfl rfl) <| g_u (zV rfl rfl rfl tS29 rfl rfl) <| zH <| zA <| zL ?_
          exact ⟨⟨_, _, _, _, _, _, _, rfl, rfl, tA29, tS29, rfl, rfl, (rfl : toAV _ = some _).trans (congrArg some (by (first | exact sc3 q1 q2 h2 hi hz | exact sc4 q1 q2 (by rw [h2, hin, List.drop_length]; rfl))))⟩, trivial⟩
set_option maxHeartbeats 4000000 in
theorem rres30_c (r : GRes) (a : ByteArray) (ho : r.ok) (hf : fitR r) : zn Tryz.prog Γ0 24 [r.av, sv a] [flAv (upF [a] (resF r))] := by
  have hwa := hf.1
  have ql := hf.2.1
  refine z_ Tryz.func24 rfl Tryz.ntmps24 (by kernel_rfl) rfl fun w0 I0 G0 => ?_
  refine zD <| zB <| g_uG (zk 1002 rfl rfl rfl rfl) rfl <| g_uG (zy 1004 rfl rfl rfl tZ29) rfl <| zH <| zA <| zD <| zD <| zB <| g_u (zF rfl rfl fa47_0 rfl) <| g_u (zG rfl rfl rfl tA44 tS44 rfl rfl) ?_
  refine g_u (zP (sx _ ho.1 (by omega)) rfl rfl) ?_
  refine g_u (zE rfl rfl) <| zH <| zA <| zD <| zB <| g_u (zC rfl rfl) <| g_u (xl rfl rfl rfl) <| zH <| zA ?_
  refine zN rfl (fun hb1 => ?_) (fun hb1 => ?_)
  · have q1 : ym r.attrs ≠ 0 := bne_iff_ne.1 hb1
    refine zD <| zB <| g_u (zC rfl rfl) <| g_u (zC rfl rfl) <| g_u (zl (X0 := z9) rfl Tryz.underlying27 tS9 tZ9 rfl rfl rfl rfl rfl rfl rfl rfl) <| g_u (yj rfl tU29 us29 pl29 rfl rfl rfl rfl) <| g_u (zV rfl rfl rfl tS29 rfl rfl) <| zH <| zA <| zL <| zK ?_
    exact ⟨⟨_, _, _, _, _, _, _, rfl, rfl, tA29, tS29, rfl, rfl, (rfl : toAV _ = some _).trans (congrArg some (by (exact rs1 q1)))⟩, trivial⟩
  · have q1 : ym r.attrs = 0 := qd.1 hb1
    refine zQ <| zA <| zD <| zD <| zB <| g_u (zF rfl rfl wj rfl) <| g_u (zG rfl rfl rfl tA45 tS45 rfl rfl) <| g_u (z7 rfl rfl Tryz.underlying45) <| g_u (wD rfl rfl rfl) <| zH <| zA ?_
    refine zN rfl (fun hb2 => ?_) (fun hb2 => ?_)
    · have q2 : 16 < r.scopes.length := by have := of_decide_eq_true hb2; (try simp only [List.length_map] at this); omega
      refine zD <| zB <| g_u (zC rfl rfl) <| g_u (zl (X0 := z9) rfl Tryz.underlying27 tS9 tZ9 rfl rfl rfl rfl rfl rfl rfl rfl) <| g_u (yj rfl tU29 us29 pl29 rfl rfl rfl rfl) <| g_u (zV rfl rfl rfl tS29 rfl rfl) <| zH <| zA <| zL <| zK ?_
      exact ⟨⟨_, _, _, _, _, _, _, rfl, rfl, tA29, tS29, rfl, rfl, (rfl : toAV _ = some _).trans (congrArg some (by (exact rs2 q1 q2)))⟩, trivial⟩
    · have q2 : ¬ 16 < r.scopes.length := by have := of_decide_eq_false hb2; (try simp only [List.length_map] at this); omega
      refine zQ <| zA <| zD <| zD <| zB <| g_u (zE rfl rfl) <| zH <| zA <| zU ?_
      refine zw (fun i : Nat => [(2, .ptr 1002 0), (1002, .box 47 (.imm r.av)), (1, .imm (sv a)), (4, .ptr 1004 0), (1004, .box 29 (.imm z29)), (6, .imm (iv (i : Int)))]) (fun i => i ≤ r.scopes.length ∧ vf 0 r.scopes = vf i (r.scopes.drop i)) (fun i => r.scopes.length - i) (0) ?_ ⟨rfl, rfl, rfl, rfl, rfl, rfl, trivial⟩ ?_
      · exact ⟨Nat.zero_le _, rfl⟩
      · rintro i ⟨h1, h2⟩; (try dsimp only at h1 h2)
        refine zD <| zD <| zB <| g_u (zC rfl rfl) <| g_u (zF rfl rfl wj rfl) <| g_u (zG rfl rfl rfl tA45 tS45 rfl rfl) <| g_u (z7 rfl rfl Tryz.underlying45) <| g_u (ye rfl rfl rfl) <| zH <| zA ?_
        refine zN rfl (fun hb3 => ?_) (fun hb3 => ?_)
        · have hi : i < r.scopes.length := by have := of_decide_eq_true hb3; (try simp only [List.length_map] at this); omega
          have hsx := hf.2.2.2 _ (vy hi)
          have hso := ho.2 _ (vy hi)
          refine zQ <| zA <| zD <| zU <| zD <| y_ xR <| g_u (zF rfl rfl wj rfl) <| g_u (zG rfl rfl rfl tA45 tS45 rfl rfl) <| g_u (zC rfl rfl) ?_
          refine g_u (zR rfl rfl rfl Tryz.underlying45 tS51 (by omega) (ixC hi)) ?_
          refine g_u (zd rfl rfl tA51 tS51 rfl rfl) <| g_u (zC rfl rfl) <| g_u (zC rfl rfl) ?_
          refine g_u (zP (rpart_c kScope i (by decide) (by omega)) rfl rfl) ?_
          refine g_u (zl (X0 := z9) rfl Tryz.underlying27 tS9 tZ9 rfl rfl rfl rfl rfl rfl rfl rfl) ?_
          refine g_u (zP (rscope30_c (nthC r.scopes i) [a, sO kScope i] hso (by omega) (by show 2 ≤ 10; decide)) rfl rfl) ?_
          refine g_uG (zy 1007 rfl rfl rfl tZ29) rfl <| g_u (zV rfl rfl rfl tS29 rfl rfl) ?_
          refine zH ⟨by kernel_rfl, ?_⟩
          refine zA <| zD <| zB <| g_u (zF rfl rfl fa29_0 rfl) <| g_u (zG rfl rfl rfl tA26 tS26 rfl rfl) <| g_u (xl rfl rfl rfl) <| zH <| zA ?_
          refine zN rfl (fun hb4 => ?_) (fun hb4 => ?_)
          · have hz : (wN (nthC r.scopes i)).1 ≠ 0 := by have e := bne_iff_ne.1 hb4; rw [upF_code] at e; exact e
            refine zD <| zB <| g_u (yC rfl rfl rfl tA29 tS29 rfl rfl) <| g_u (zV rfl rfl rfl tS29 rfl rfl) <| zH <| zA <| zL <| zt <| zK <| zK <| zt <| zK ?_
            exact ⟨⟨_, _, _, _, _, _, _, rfl, rfl, tA29, tS29, rfl, rfl, (rfl : toAV _ = some _).trans (congrArg some (by (first | exact rs3 q1 q2 h2 hi hz | exact rs4 q1 q2 (by rw [h2, hin, List.drop_length]; rfl))))⟩, trivial⟩
          · have hz : (wN (nthC r.scopes i)).1 = 0 := by have e := qd.1 hb4; rw [upF_code] at e; exact e
            refine zQ <| zW <| zA <| zB <| g_u (zC rfl rfl) <| g_u (z0 rfl rfl rfl) <| g_u (zE rfl rfl) <| zH <| zA ?_
            refine ⟨i + 1, ⟨hi, by (try dsimp only); rw [h2, scopesF_drop hi, if_pos hz]⟩, ⟨rfl, rfl, rfl, rfl, rfl, zX rfl (by rw [zO (by omega) (by omega)]; rfl), trivial⟩, by (try dsimp only); omega⟩
        · have hin : i = r.scopes.length := by have := of_decide_eq_false hb3; (try simp only [List.length_map] at this); omega
          refine zz <| zT <| zT <| zq <| zA <| zD <| zB <| g_u (yj rfl tU29 us29 pl29 rfl rfl rfl rfl) <| g_u (zV rfl rfl rfl tS29 rfl rfl) <| zH <| zA <| zL ?_
          exact ⟨⟨_, _, _, _, _, _, _, rfl, rfl, tA29, tS29, rfl, rfl, (rfl : toAV _ = some _).trans (congrArg some (by (first | exact rs3 q1 q2 h2 hi hz | exact rs4 q1 q2 (by rw [h2, hin, List.drop_length]; rfl))))⟩, trivial⟩
set_option maxHeartbeats 8000000 in
theorem rchk_c (b : List GRes) (ho : okB b) (hf : fitB b) : zn Tryz.prog Γ0 7 [ya b] [flAv (chkF b)] := by
  have hw := hf.1
  have qw : wtB b = zg GRes.wt b := rfl
  have ql := yX GRes.wt (fun e => by unfold GRes.wt; omega) b
  have qb : vJ b ≤ 16 + 100000000 * 3000000 := by have h5 := sumBy_le3 (F := resW) (k := 100000000) (G := GRes.wt) b (fun r hr => resW_le r (hf.2 r hr).2.2.1); have qe : vJ b = 16 + zg resW b := rfl; omega
  refine pcall_ofU Tryz.func7 rfl Tryz.ntmps7 (by kernel_rfl) rfl fun w0 I0 G0 => ?_
  refine zD <| zB <| g_uG (zk 1001 rfl rfl rfl rfl) rfl <| g_uG (zy 1002 rfl rfl rfl tZ29) rfl <| zH <| zA <| zD <| zD <| zB <| g_u (zF rfl rfl uC rfl) <| g_u (zG rfl rfl rfl tA22 tS22 rfl rfl) <| g_u (z7 rfl rfl Tryz.underlying22) <| g_u (wD rfl rfl rfl) <| zH <| zA ?_
  refine zN rfl (fun hb1 => ?_) (fun hb1 => ?_)
  · have q1 : 32 < b.length := by have := of_decide_eq_true hb1; (try simp only [List.length_map] at this); omega
    refine zD <| zB <| g_u (yj rfl tU29 us29 pl29 rfl rfl rfl rfl) <| g_u (zV rfl rfl rfl tS29 rfl rfl) <| zH <| zA <| zL <| zK ?_
    exact ⟨[_], ⟨⟨_, _, _, _, _, _, _, rfl, rfl, tA29, tS29, rfl, rfl, rfl⟩, trivial⟩, ⟨(by first | exact flN (ck1 q1) | exact flU (ck2 q1 h2 hi hz) | exact flN (ck3 q1 hall q3) | exact flN (ck4 q1 hall q3 q4) | exact flE (ck5 q1 hall q3 q4)), trivial⟩⟩
  · have q1 : ¬ 32 < b.length := by have := of_decide_eq_false hb1; (try simp only [List.length_map] at this); omega
    refine zQ <| zA <| zD <| zD <| zB <| g_u (zE rfl rfl) <| zH <| zA <| zU ?_
    refine zw (fun i : Nat => [(1, .ptr 1001 0), (1001, .box 24 (.imm (ya b))), (2, .ptr 1002 0), (1002, .box 29 (.imm z29)), (3, .imm (iv (i : Int)))]) (fun i => i ≤ b.length ∧ tp 0 b = tp i (b.drop i)) (fun i => b.length - i) (0) ?_ ⟨rfl, rfl, rfl, rfl, rfl, trivial⟩ ?_
    · exact ⟨Nat.zero_le _, rfl⟩
    · rintro i ⟨h1, h2⟩; (try dsimp only at h1 h2)
      refine zD <| zD <| zB <| g_u (zC rfl rfl) <| g_u (zF rfl rfl uC rfl) <| g_u (zG rfl rfl rfl tA22 tS22 rfl rfl) <| g_u (z7 rfl rfl Tryz.underlying22) <| g_u (ye rfl rfl rfl) <| zH <| zA ?_
      refine zN rfl (fun hb2 => ?_) (fun hb2 => ?_)
      · have hi : i < b.length := by have := of_decide_eq_true hb2; (try simp only [List.length_map] at this); omega
        have hrm := hf.2 _ (w_ hi)
        have hro := ho _ (w_ hi)
        refine zQ <| zA <| zD <| zU <| zD <| y_ xR <| g_u (zF rfl rfl uC rfl) <| g_u (zG rfl rfl rfl tA22 tS22 rfl rfl) <| g_u (zC rfl rfl) ?_
        refine g_u (zR rfl rfl rfl Tryz.underlying22 tS47 (by omega) (ixR hi)) ?_
        refine g_u (zd rfl rfl tA47 tS47 rfl rfl) <| g_u (zC rfl rfl) ?_
        refine g_u (zP (rpart_c kRes i (by decide) (by omega)) rfl rfl) ?_
        refine g_u (zP (rres30_c (nthR b i) (sO kRes i) hro hrm) rfl rfl) <| g_uG (zy 1004 rfl rfl rfl tZ29) rfl <| g_u (zV rfl rfl rfl tS29 rfl rfl) ?_
        refine zH ⟨by kernel_rfl, ?_⟩
        refine zA <| zD <| zB <| g_u (zF rfl rfl fa29_0 rfl) <| g_u (zG rfl rfl rfl tA26 tS26 rfl rfl) <| g_u (xl rfl rfl rfl) <| zH <| zA ?_
        refine zN rfl (fun hb3 => ?_) (fun hb3 => ?_)
        · have hz : (resF (nthR b i)).1 ≠ 0 := by have e := bne_iff_ne.1 hb3; rw [upF_code] at e; exact e
          refine zD <| zB <| g_u (yC rfl rfl rfl tA29 tS29 rfl rfl) <| g_u (zV rfl rfl rfl tS29 rfl rfl) <| zH <| zA <| zL <| zt <| zK <| zK <| zt <| zK ?_
          exact ⟨[_], ⟨⟨_, _, _, _, _, _, _, rfl, rfl, tA29, tS29, rfl, rfl, rfl⟩, trivial⟩, ⟨(by first | exact flN (ck1 q1) | exact flU (ck2 q1 h2 hi hz) | exact flN (ck3 q1 hall q3) | exact flN (ck4 q1 hall q3 q4) | exact flE (ck5 q1 hall q3 q4)), trivial⟩⟩
        · have hz : (resF (nthR b i)).1 = 0 := by have e := qd.1 hb3; rw [upF_code] at e; exact e
          refine zQ <| zW <| zA <| zB <| g_u (zC rfl rfl) <| g_u (z0 rfl rfl rfl) <| g_u (zE rfl rfl) <| zH <| zA ?_
          refine ⟨i + 1, ⟨hi, by (try dsimp only); rw [h2, ressF_drop hi, if_pos hz]⟩, ⟨rfl, rfl, rfl, rfl, zX rfl (by rw [zO (by omega) (by omega)]; rfl), trivial⟩, by (try dsimp only); omega⟩
      · have hin : i = b.length := by have := of_decide_eq_false hb2; (try simp only [List.length_map] at this); omega
        have hall : tp 0 b = (0, []) := by rw [h2, hin, List.drop_length]; rfl
        refine zz <| zT <| zT <| zq <| zA <| zD <| zD <| zB <| g_u (zG rfl rfl rfl tA24 tS24 rfl rfl) ?_
        refine g_u (zP (places_c b (by omega)) rfl rfl) ?_
        refine g_u (z7 rfl rfl Tryz.underlying66) <| g_u (wD rfl rfl rfl) <| zH <| zA ?_
        refine zN rfl (fun hb4 => ?_) (fun hb4 => ?_)
        · have q3 : 100 < (plR 0 b).length := by have := of_decide_eq_true hb4; (try simp only [List.length_map] at this); omega
          refine zD <| zB <| g_u (yj rfl tU29 us29 pl29 rfl rfl rfl rfl) <| g_u (zV rfl rfl rfl tS29 rfl rfl) <| zH <| zA <| zL <| zK ?_
          exact ⟨[_], ⟨⟨_, _, _, _, _, _, _, rfl, rfl, tA29, tS29, rfl, rfl, rfl⟩, trivial⟩, ⟨(by first | exact flN (ck1 q1) | exact flU (ck2 q1 h2 hi hz) | exact flN (ck3 q1 hall q3) | exact flN (ck4 q1 hall q3 q4) | exact flE (ck5 q1 hall q3 q4)), trivial⟩⟩
        · have q3 : ¬ 100 < (plR 0 b).length := by have := of_decide_eq_false hb4; (try simp only [List.length_map] at this); omega
          refine zQ <| zA <| zD <| zD <| zB <| g_u (zG rfl rfl rfl tA24 tS24 rfl rfl) <| g_u (zP (rbatchWX_c b ho hf) rfl rfl) <| g_u (wD rfl rfl rfl) <| zH <| zA ?_
          refine zN rfl (fun hb5 => ?_) (fun hb5 => ?_)
          · have q4 : 65536 < vJ b := by have := of_decide_eq_true hb5; omega
            refine zD <| zB <| g_u (yj rfl tU29 us29 pl29 rfl rfl rfl rfl) <| g_u (zV rfl rfl rfl tS29 rfl rfl) <| zH <| zA <| zL <| zK ?_
            exact ⟨[_], ⟨⟨_, _, _, _, _, _, _, rfl, rfl, tA29, tS29, rfl, rfl, rfl⟩, trivial⟩, ⟨(by first | exact flN (ck1 q1) | exact flU (ck2 q1 h2 hi hz) | exact flN (ck3 q1 hall q3) | exact flN (ck4 q1 hall q3 q4) | exact flE (ck5 q1 hall q3 q4)), trivial⟩⟩
          · have q4 : ¬ 65536 < vJ b := by have := of_decide_eq_false hb5; omega
            refine zQ <| zA <| zD <| zB <| g_u (yj rfl tU29 us29 pl29 rfl rfl rfl rfl) <| g_u (zV rfl rfl rfl tS29 rfl rfl) <| zH <| zA <| zL ?_
            exact ⟨[_], ⟨⟨_, _, _, _, _, _, _, rfl, rfl, tA29, tS29, rfl, rfl, rfl⟩, trivial⟩, ⟨(by first | exact flN (ck1 q1) | exact flU (ck2 q1 h2 hi hz) | exact flN (ck3 q1 hall q3) | exact flN (ck4 q1 hall q3 q4) | exact flE (ck5 q1 hall q3 q4)), trivial⟩⟩
end Go.Proofs
namespace Go.Proofs
open Go Go.Al
set_option maxRecDepth 10000
theorem rspan31_c (b : List GRes) (p : Nat × Nat × Nat) (hp : p ∈ plR 0 b) : zn Tryz.prog Γ0 59 [ya b, plav p] [(spAt b p).av] := by
  have h := rspan28_c b (intP p) (inB_nat hp)
  rw [atS_nat hp] at h; exact h
set_option maxHeartbeats 2000000 in
theorem rof31_c (s : GSpan) : zn Tryz.prog Γ0 58 [s.av] [(jT s).av] := by
  refine z_ Tryz.func58 rfl Tryz.ntmps58 (by kernel_rfl) rfl fun w0 I0 G0 => ?_
  refine zD <| zB <| g_uG (zk 1001 rfl rfl rfl rfl) rfl <| g_uG (zy 1002 rfl rfl rfl tZ82) rfl <| zH <| zA <| zD <| y_ xR <| g_u (zF rfl rfl fa63_0 rfl) <| g_u (zG rfl rfl rfl tA54 tS54 rfl rfl) <| g_u (zF rfl rfl fa63_1 rfl) <| g_u (zG rfl rfl rfl tA56 tS56 rfl rfl) <| g_u (zF rfl rfl fa63_2 rfl) <| g_u (zG rfl rfl rfl tA56 tS56 rfl rfl) <| g_u (zF rfl rfl fa63_4 rfl) <| g_u (zG rfl rfl rfl tA9 tS9 rfl rfl) <| g_u (zF rfl rfl fa63_6 rfl) <| g_u (zG rfl rfl rfl tA57 tS57 rfl rfl) <| g_u (zF rfl rfl fa63_7 rfl) <| g_u (zG rfl rfl rfl tA57 tS57 rfl rfl) <| g_u (zP (rbegun_c _ _) rfl rfl) <| g_u (zF rfl rfl fa63_6 rfl) <| g_u (zG rfl rfl rfl tA57 tS57 rfl rfl) <| g_u (zF rfl rfl fa63_7 rfl) <| g_u (zG rfl rfl rfl tA57 tS57 rfl rfl) <| g_u (zP (rlasts_c _ _) rfl rfl) <| g_u (yj rfl tU82 us82 pl82 rfl rfl rfl rfl) <| g_u (zV rfl rfl rfl tS82 rfl rfl) ?_
  refine zH ⟨by kernel_rfl, ?_⟩
  refine zA <| zL ?_
  exact ⟨⟨_, _, _, _, _, _, _, rfl, rfl, tA82, tS82, rfl, rfl, (rfl : toAV _ = some _).trans (congrArg some (by rfl))⟩, trivial⟩
set_option maxHeartbeats 4000000 in
theorem rcores_c (b : List GRes) (hw : wtB b ≤ 9000000) : zn Tryz.prog Γ0 32 [ya b] [.sl 35 ((y8 b).map GCore.av)] := by
  have hpl := plR_len 0 b
  have qw : wtB b = zg GRes.wt b := rfl
  refine z_ Tryz.func32 rfl Tryz.ntmps32 (by kernel_rfl) rfl fun w0 I0 G0 => ?_
  refine zD <| zB <| g_uG (zk 1001 rfl rfl rfl rfl) rfl <| g_u (zE rfl rfl) <| zH <| zA <| zD <| zB <| g_u (zG rfl rfl rfl tA24 tS24 rfl rfl) ?_
  refine g_u (zP (places_c b (by omega)) rfl rfl) ?_
  refine g_u (zE rfl rfl) <| zH <| zA <| zD <| zB <| g_u (zE rfl rfl) <| zH <| zA <| zD <| zD <| um 3004 4 35 rfl rfl rfl rfl <| zB <| g_u (zE rfl rfl) <| zH <| zA <| zU ?_
  refine zw (fun i : Nat => [(1, .ptr 1001 0), (1001, .box 24 (.imm (ya b))), (3, .imm (.sl 3 ((plR 0 b).map plav))), (4, .slg 3004 35 (((plR 0 b).take i).map fun p => (jT (spAt b p)).av)), (3004, .tok 35 (((plR 0 b).take i).map fun p => (jT (spAt b p)).av)), (5, .imm (iv (i : Int)))]) (fun i => i ≤ (plR 0 b).length) (fun i => (plR 0 b).length - i) (0) ?_ ⟨rfl, rfl, rfl, rfl, rfl, rfl, trivial⟩ ?_
  · exact Nat.zero_le _
  · rintro i h1; have h1 : i ≤ (plR 0 b).length := h1
    refine zD <| zD <| zB <| g_u (zC rfl rfl) <| g_u (zC rfl rfl) <| g_u (z7 rfl rfl Tryz.underlying66) <| g_u (ye rfl rfl rfl) <| zH <| zA ?_
    refine zN rfl (fun hb1 => ?_) (fun hb1 => ?_)
    · have hi : i < (plR 0 b).length := by have := of_decide_eq_true hb1; (try simp only [List.length_map] at this); omega
      refine zQ <| zA <| zD <| zU <| y_ xR <| g_u (yW rfl rfl) <| g_u (zG rfl rfl rfl tA24 tS24 rfl rfl) <| g_u (zC rfl rfl) <| g_u (zC rfl rfl) ?_
      refine g_u (zR rfl rfl rfl Tryz.underlying66 tS98 (by omega) (ixP hi)) ?_
      refine g_u (zd rfl rfl tA98 tS98 rfl rfl) <| g_u (zP (rspan31_c b (nthP (plR 0 b) i) (nthP_mem hi)) rfl rfl) <| g_u (zP (rof31_c _) rfl rfl) <| g_u (zl (X0 := z82) rfl Tryz.underlying78 tS82 tZ82 rfl rfl rfl rfl rfl rfl rfl rfl) ?_
      refine g_u (yh rfl rfl rfl rfl rfl Tryz.underlying78 Tryz.underlying78 tS82 zv82 rfl (by decide) by82 (by (try dsimp only); simp only [List.length_append, List.length_cons, List.length_nil, List.length_map, List.length_take]; omega) (by (try dsimp only); simp only [List.length_append, List.length_cons, List.length_nil, List.length_map, List.length_take]; omega)) ?_
      refine g_u (yY rfl rfl) ?_
      refine zH ⟨by kernel_rfl, ?_⟩
      refine zW <| zA <| zB <| g_u (zC rfl rfl) <| g_u (z0 rfl rfl rfl) <| g_u (zE rfl rfl) <| zH <| zA ?_
      have et : (((plR 0 b).take (i + 1)).map fun p => (jT (spAt b p)).av) = (((plR 0 b).take i).map fun p => (jT (spAt b p)).av) ++ [(jT (spAt b (nthP (plR 0 b) i))).av] := by rw [yO (y6 (d := p00) hi), List.map_append]; rfl
      refine ⟨i + 1, hi, ⟨rfl, rfl, rfl, yl rfl et.symm, yf rfl et.symm, zX rfl (by rw [zO (by omega) (by omega)]; rfl), trivial⟩, by (try dsimp only); omega⟩
    · have hin : i = (plR 0 b).length := by have := of_decide_eq_false hb1; (try simp only [List.length_map] at this); omega
      refine zz <| zT <| zT <| zq <| zA <| zD <| zB <| g_u (yW rfl rfl) <| g_u (yY rfl rfl) <| zH <| zA <| zL ?_
      exact ⟨⟨(rfl : toAV (Al.look _ _) = some _).trans (congrArg some (by (rw [hin, List.take_length]; show _ = AV.sl 35 (List.map GCore.av (List.map jT (allS b))); rw [← allS_eq, List.map_map, List.map_map]; rfl))), rfl⟩, trivial⟩
end Go.Proofs
namespace Go.Proofs
open Go Go.Al
set_option maxRecDepth 10000
theorem zst_c (c : Int) (n : ByteArray) : zn Tryz.prog Γ0 29 [.agg [iv c, sv n]] [.agg [iv c, sv (if c = 2 then n else ⟨#[]⟩)]] := by
  refine z_ Tryz.func29 rfl Tryz.ntmps29 (by kernel_rfl) rfl fun w0 I0 G0 => ?_
  refine zD <| zB <| g_uG (zk 1001 rfl rfl rfl rfl) rfl <| g_uG (zy 1002 rfl rfl rfl tZ61) rfl <| zH <| zA <| zD <| zD <| zB <| g_u (zF rfl rfl fa61_0 rfl) <| g_u (zG rfl rfl rfl tA3 tS3 rfl rfl) <| g_u (xl rfl rfl rfl) <| zH <| zA ?_
  refine zN rfl (fun hb1 => ?_) (fun hb1 => ?_)
  · have q : ¬ c = 2 := bne_iff_ne.1 hb1
    refine zB <| g_u (zF rfl rfl fa61_1 rfl) <| g_u (zV rfl rfl rfl tS9 rfl rfl) <| zH <| zA <| zD <| zB <| g_u (yC rfl rfl rfl tA61 tS61 rfl rfl) <| g_u (zV rfl rfl rfl tS61 rfl rfl) <| zH <| zA <| zL ?_
    exact ⟨⟨_, _, _, _, _, _, _, rfl, rfl, tA61, tS61, rfl, rfl, (rfl : toAV _ = some _).trans (congrArg some (by (first | (rw [if_neg q]; done) | (rw [if_neg q]; rfl))))⟩, trivial⟩
  · have q : c = 2 := qd.1 hb1
    refine zQ <| zA <| zD <| zB <| g_u (zG rfl rfl rfl tA61 tS61 rfl rfl) <| g_u (zV rfl rfl rfl tS61 rfl rfl) <| zH <| zA <| zL ?_
    exact ⟨⟨_, _, _, _, _, _, _, rfl, rfl, tA61, tS61, rfl, rfl, (rfl : toAV _ = some _).trans (congrArg some (by (rw [if_pos q])))⟩, trivial⟩
theorem wholeZ_c (n : Int) : zn Tryz.prog Γ0 53 [uv n] [uv (sK n)] := by
  refine z_ Tryz.func53 rfl Tryz.ntmps53 (by kernel_rfl) rfl fun w0 I0 G0 => ?_
  refine zD <| zB <| g_u (zE rfl rfl) <| zH <| zA <| zD <| zB <| g_u (zC rfl rfl) <| g_u (zP (micro_c _) rfl rfl) <| g_u (vb (nano_c _) rfl rfl) <| g_u (xt rfl rfl) <| g_u (zp rfl rfl rfl rfl) <| g_u (zp rfl rfl rfl rfl) <| g_u (zE rfl rfl) <| g_u (zE rfl rfl) <| zH <| zA <| zD <| zB <| g_u (zC rfl rfl) <| g_u (zE rfl rfl) <| zH <| zA <| zL ?_
  exact ⟨⟨(rfl : toAV (Al.look _ _) = some _).trans (congrArg some (by rfl)), rfl⟩, trivial⟩
set_option maxHeartbeats 8000000 in
theorem nzS_c (s : GSpan) (ho : s.ok) (hw : s.wt ≤ 9000000) : zn Tryz.prog Γ0 28 [s.av] [(nzS s).av] := by
  have qw : s.wt = 1 + s.state.size + s.name.size + s.note.size + wtAs s.attrs + zg GE.wt s.events + zg GL.wt s.links := rfl
  have ql := yX GE.wt (fun e => by unfold GE.wt; omega) s.events
  have hl := yv s.attrs
  have hd : ∀ a ∈ xG kZ s.attrs, a.ok := fun a h => ho.2.2.2.1 a (wB h).1
  have hwd := dropA_wt kZ s.attrs
  refine z_ Tryz.func28 rfl Tryz.ntmps28 (by kernel_rfl) rfl fun w0 I0 G0 => ?_
  refine zD <| zB <| g_uG (zk 1001 rfl rfl rfl rfl) rfl <| g_uG (zy 1002 rfl rfl rfl tZ63) rfl <| zH <| zA <| zD <| zB <| g_u (zF rfl rfl fa63_6 rfl) <| g_u (zG rfl rfl rfl tA57 tS57 rfl rfl) <| g_u (zF rfl rfl fa63_7 rfl) <| g_u (zG rfl rfl rfl tA57 tS57 rfl rfl) <| g_u (yj rfl tU105 us105 pl105 rfl rfl rfl rfl) <| g_u (zP (whole_c ⟨_, _⟩) rfl rfl) <| g_uG (zy 1003 rfl rfl rfl tZ105) rfl <| g_u (zV rfl rfl rfl tX rfl rfl) <| zH <| zA <| zD <| y_ xR <| g_u (zF rfl rfl fa63_0 rfl) <| g_u (zG rfl rfl rfl tA54 tS54 rfl rfl) <| g_u (zF rfl rfl fa63_1 rfl) <| g_u (zG rfl rfl rfl tA56 tS56 rfl rfl) <| g_u (zF rfl rfl fa63_2 rfl) <| g_u (zG rfl rfl rfl tA56 tS56 rfl rfl) <| g_u (zF rfl rfl fa63_4 rfl) <| g_u (zG rfl rfl rfl tA9 tS9 rfl rfl) <| g_u (zF rfl rfl fa63_5 rfl) <| g_u (zG rfl rfl rfl tA3 tS3 rfl rfl) <| g_u (zF rfl rfl fa105_0 rfl) <| g_u (zG rfl rfl rfl tA57 tS57 rfl rfl) <| g_u (zF rfl rfl fa105_1 rfl) <| g_u (zG rfl rfl rfl tA57 tS57 rfl rfl) <| g_u (zF rfl rfl tf rfl) <| g_u (zG rfl rfl rfl tA61 tS61 rfl rfl) <| g_u (zP (zst_c _ _) rfl rfl) <| g_u (yj rfl tZ63 us63 pl63 rfl rfl rfl rfl) <| g_uG (zy 1004 rfl rfl rfl tZ63) rfl ?_
  refine g_u (zV rfl rfl rfl tS63 (by first | exact beqW (GSpan.width _) | rfl) (by first | exact ur (z63_w.trans (GSpan.width _).symm) rfl | rfl)) ?_
  refine zH ⟨by kernel_rfl, ?_⟩
  refine zA <| zD <| zD <| zB <| g_u (zF rfl rfl fa63_5 rfl) <| g_u (zG rfl rfl rfl tA3 tS3 rfl rfl) <| g_u (yz rfl rfl rfl) <| zH <| zA ?_
  refine zN rfl (fun hb1 => ?_) (fun hb1 => ?_)
  · have hk : (if s.kind = 1 then 0 else s.kind) = 0 := if_pos (beq_iff_eq.1 hb1)
    refine zB <| g_u (zF rfl rfl fa63_5 rfl) <| g_u (zV rfl rfl rfl tS3 rfl rfl) <| zH <| zA <| zD <| zB <| g_u (zF rfl rfl si rfl) <| g_u (zG rfl rfl rfl tA44 tS44 rfl rfl) <| g_u (zl (X0 := z5) rfl Tryz.underlying42 tS5 tZ5 rfl rfl rfl rfl rfl rfl rfl rfl) ?_
    refine g_u (zP (plainAs_c s.attrs nZ ho.2.2.2.1 (by omega) (by decide)) rfl rfl) ?_
    refine g_u (zE rfl rfl) <| zH <| zA <| zD <| zB <| g_u (zC rfl rfl) <| g_u (zl (X0 := z9) rfl Tryz.underlying27 tS9 tZ9 rfl rfl rfl rfl rfl rfl rfl rfl) ?_
    refine g_u (zP (drop_c (s.attrs.map (yZ nZ)) kZ (by rw [List.length_map]; omega) (by decide)) rfl rfl) ?_
    refine g_u (zF rfl rfl si rfl) <| g_u (zV rfl rfl rfl tS44 rfl rfl) <| zH <| zA <| zD <| zD <| vQ 3009 1004 3 38 rfl rfl rfl rfl rfl rfl rfl <| vQ 3010 1004 26 39 rfl rfl rfl rfl rfl rfl rfl <| zB <| g_u (zF rfl rfl vN rfl) <| g_u (zG rfl rfl rfl tA58 tS58 rfl rfl) <| g_u (z7 rfl rfl Tryz.underlying58) <| g_u (zC rfl rfl) <| zH <| zA <| zU ?_
    refine zw (fun i : Nat => [(1, .ptr 1001 0), (1001, .box 63 (.imm s.av)), (2, .ptr 1002 0), (1002, .box 63 (.imm z63)), (4, .ptr 1004 0), (1004, .box 63 (.agg [.imm (.arr 16 s.trace), .imm (.arr 8 s.id), .imm (.arr 8 s.parent), .imm (sv ⟨#[]⟩), .imm (sv s.name), .imm (iv (if s.kind = 1 then 0 else s.kind)), .imm (uv (yt ⟨s.start, s.fin⟩).lo), .imm (uv (yt ⟨s.start, s.fin⟩).hi), .imm (.sl 7 ((jF s.attrs).map avA)), .slg 3009 3 ((s.events.take i).map fun e => (nzE e).av), .slg 3010 26 [], .imm (.agg [iv s.code, sv (if s.code = 2 then s.note else ⟨#[]⟩)])])), (3009, .tok 3 ((s.events.take i).map fun e => (nzE e).av)), (3010, .tok 26 []), (45, .imm (.sl 3 (s.events.map GE.av))), (46, .imm (iv (s.events.length : Int))), (47, .imm (iv (i : Int)))]) (fun i => i ≤ s.events.length) (fun i => s.events.length - i) (0) ?_ ⟨rfl, rfl, rfl, rfl, rfl, (by rw [hk]; first | rfl | (unfold jF; rw [uT]; rfl)), rfl, rfl, rfl, zX rfl (by rw [List.length_map]), rfl, trivial⟩ ?_
    · exact Nat.zero_le _
    · rintro i h1; have h1 : i ≤ s.events.length := h1
      refine zD <| zB <| g_u (ye rfl rfl rfl) <| zH <| zA <| zD ?_
      refine zN rfl (fun hb2 => ?_) (fun hb2 => ?_)
      · have hi : i < s.events.length := by have := of_decide_eq_true hb2; (try simp only [List.length_map] at this); omega
        have hex := yP GE.wt (v_ hi)
        have heq : (nthE s.events i).wt = 1 + (nthE s.events i).name.size + wtAs (nthE s.events i).attrs := rfl
        have heo := ho.2.2.2.2.1 _ (v_ hi)
        refine zQ <| zA <| zD <| zU <| zD <| zB ?_
        refine g_u (zR rfl rfl rfl Tryz.underlying58 tS92 (by omega) (ixE hi)) ?_
        refine g_u (zd rfl rfl tA92 tS92 rfl rfl) <| g_uG (zy 1007 rfl rfl rfl tZ92) rfl <| g_u (zV rfl rfl rfl tS92 rfl rfl) <| zH <| zA <| y_ xR <| g_u (zF rfl rfl vN rfl) <| g_u (xj rfl rfl rfl tA58 tS58 rfl rfl) <| g_u (zF rfl rfl fa92_0 rfl) <| g_u (zG rfl rfl rfl tA57 tS57 rfl rfl) <| g_u (zP (wholeZ_c _) rfl rfl) <| g_u (zF rfl rfl jK rfl) <| g_u (zG rfl rfl rfl tA9 tS9 rfl rfl) <| g_u (yj rfl tU92 us92 pl92 rfl rfl rfl rfl) <| g_u (zl (X0 := z92) rfl Tryz.underlying58 tS92 tZ92 rfl rfl rfl rfl rfl rfl rfl rfl) ?_
        refine g_u (yh rfl rfl rfl rfl rfl Tryz.underlying58 Tryz.underlying58 tS92 zv92 rfl (by decide) by92 (by (try dsimp only); simp only [List.length_append, List.length_cons, List.length_nil, List.length_map, List.length_take, List.length_drop]; omega) (by (try dsimp only); simp only [List.length_append, List.length_cons, List.length_nil, List.length_map, List.length_take, List.length_drop]; omega)) ?_
        refine g_u (zF rfl rfl vN rfl) <| g_u (tC rfl rfl rfl rfl tS58 rfl rfl) ?_
        refine zH ⟨by kernel_rfl, ?_⟩
        refine zW <| zA <| zB <| g_u (z0 rfl rfl rfl) <| g_u (zC rfl rfl) <| zH <| zA ?_
        have et : ((s.events.take (i + 1)).map fun e => (nzE e).av) = ((s.events.take i).map fun e => (nzE e).av) ++ [(nzE (nthE s.events i)).av] := by rw [yO (y6 (d := ge0) hi), List.map_append]; rfl
        refine ⟨i + 1, hi, ⟨rfl, rfl, rfl, rfl, rfl, (by rw [et]; rfl), yf rfl et.symm, rfl, rfl, rfl, zX rfl (by rw [zO (by omega) (by omega)]; rfl), trivial⟩, by (try dsimp only); omega⟩
      · have hin : i = s.events.length := by have := of_decide_eq_false hb2; (try simp only [List.length_map] at this); omega
        refine zz <| zT <| zT <| zq <| zA <| zD <| zB <| g_u (yC rfl rfl rfl tA63 tS63 rfl rfl) ?_
        refine g_u (zV rfl rfl rfl tS63 (by first | exact beqW (GSpan.width _) | rfl) (by first | exact ur (z63_w.trans (GSpan.width _).symm) rfl | rfl)) ?_
        refine zH <| zA <| zL ?_
        exact ⟨⟨_, _, _, _, _, _, _, rfl, rfl, tA63, tS63, rfl, rfl, (rfl : toAV _ = some _).trans (congrArg some (by (rw [hin, List.take_length]; show _ = GSpan.av (nzS s); simp only [GSpan.av, nzS, List.map_map]; rfl)))⟩, trivial⟩
  · have hk : (if s.kind = 1 then 0 else s.kind) = s.kind := if_neg (beq_eq_false_iff_ne.1 hb1)
    refine zQ <| zA <| zD <| zB <| g_u (zF rfl rfl si rfl) <| g_u (zG rfl rfl rfl tA44 tS44 rfl rfl) <| g_u (zl (X0 := z5) rfl Tryz.underlying42 tS5 tZ5 rfl rfl rfl rfl rfl rfl rfl rfl) ?_
    refine g_u (zP (plainAs_c s.attrs nZ ho.2.2.2.1 (by omega) (by decide)) rfl rfl) ?_
    refine g_u (zE rfl rfl) <| zH <| zA <| zD <| zB <| g_u (zC rfl rfl) <| g_u (zl (X0 := z9) rfl Tryz.underlying27 tS9 tZ9 rfl rfl rfl rfl rfl rfl rfl rfl) ?_
    refine g_u (zP (drop_c (s.attrs.map (yZ nZ)) kZ (by rw [List.length_map]; omega) (by decide)) rfl rfl) ?_
    refine g_u (zF rfl rfl si rfl) <| g_u (zV rfl rfl rfl tS44 rfl rfl) <| zH <| zA <| zD <| zD <| vQ 3009 1004 3 38 rfl rfl rfl rfl rfl rfl rfl <| vQ 3010 1004 26 39 rfl rfl rfl rfl rfl rfl rfl <| zB <| g_u (zF rfl rfl vN rfl) <| g_u (zG rfl rfl rfl tA58 tS58 rfl rfl) <| g_u (z7 rfl rfl Tryz.underlying58) <| g_u (zC rfl rfl) <| zH <| zA <| zU ?_
    refine zw (fun i : Nat => [(1, .ptr 1001 0), (1001, .box 63 (.imm s.av)), (2, .ptr 1002 0), (1002, .box 63 (.imm z63)), (4, .ptr 1004 0), (1004, .box 63 (.agg [.imm (.arr 16 s.trace), .imm (.arr 8 s.id), .imm (.arr 8 s.parent), .imm (sv ⟨#[]⟩), .imm (sv s.name), .imm (iv (if s.kind = 1 then 0 else s.kind)), .imm (uv (yt ⟨s.start, s.fin⟩).lo), .imm (uv (yt ⟨s.start, s.fin⟩).hi), .imm (.sl 7 ((jF s.attrs).map avA)), .slg 3009 3 ((s.events.take i).map fun e => (nzE e).av), .slg 3010 26 [], .imm (.agg [iv s.code, sv (if s.code = 2 then s.note else ⟨#[]⟩)])])), (3009, .tok 3 ((s.events.take i).map fun e => (nzE e).av)), (3010, .tok 26 []), (45, .imm (.sl 3 (s.events.map GE.av))), (46, .imm (iv (s.events.length : Int))), (47, .imm (iv (i : Int)))]) (fun i => i ≤ s.events.length) (fun i => s.events.length - i) (0) ?_ ⟨rfl, rfl, rfl, rfl, rfl, (by rw [hk]; first | rfl | (unfold jF; rw [uT]; rfl)), rfl, rfl, rfl, zX rfl (by rw [List.length_map]), rfl, trivial⟩ ?_
    · exact Nat.zero_le _
    · rintro i h1; have h1 : i ≤ s.events.length := h1
      refine zD <| zB <| g_u (ye rfl rfl rfl) <| zH <| zA <| zD ?_
      refine zN rfl (fun hb3 => ?_) (fun hb3 => ?_)
      · have hi : i < s.events.length := by have := of_decide_eq_true hb3; (try simp only [List.length_map] at this); omega
        have hex := yP GE.wt (v_ hi)
        have heq : (nthE s.events i).wt = 1 + (nthE s.events i).name.size + wtAs (nthE s.events i).attrs := rfl
        have heo := ho.2.2.2.2.1 _ (v_ hi)
        refine zQ <| zA <| zD <| zU <| zD <| zB ?_
        refine g_u (zR rfl rfl rfl Tryz.underlying58 tS92 (by omega) (ixE hi)) ?_
        refine g_u (zd rfl rfl tA92 tS92 rfl rfl) <| g_uG (zy 1007 rfl rfl rfl tZ92) rfl <| g_u (zV rfl rfl rfl tS92 rfl rfl) <| zH <| zA <| y_ xR <| g_u (zF rfl rfl vN rfl) <| g_u (xj rfl rfl rfl tA58 tS58 rfl rfl) <| g_u (zF rfl rfl fa92_0 rfl) <| g_u (zG rfl rfl rfl tA57 tS57 rfl rfl) <| g_u (zP (wholeZ_c _) rfl rfl) <| g_u (zF rfl rfl jK rfl) <| g_u (zG rfl rfl rfl tA9 tS9 rfl rfl) <| g_u (yj rfl tU92 us92 pl92 rfl rfl rfl rfl) <| g_u (zl (X0 := z92) rfl Tryz.underlying58 tS92 tZ92 rfl rfl rfl rfl rfl rfl rfl rfl) ?_
        refine g_u (yh rfl rfl rfl rfl rfl Tryz.underlying58 Tryz.underlying58 tS92 zv92 rfl (by decide) by92 (by (try dsimp only); simp only [List.length_append, List.length_cons, List.length_nil, List.length_map, List.length_take, List.length_drop]; omega) (by (try dsimp only); simp only [List.length_append, List.length_cons, List.length_nil, List.length_map, List.length_take, List.length_drop]; omega)) ?_
        refine g_u (zF rfl rfl vN rfl) <| g_u (tC rfl rfl rfl rfl tS58 rfl rfl) ?_
        refine zH ⟨by kernel_rfl, ?_⟩
        refine zW <| zA <| zB <| g_u (z0 rfl rfl rfl) <| g_u (zC rfl rfl) <| zH <| zA ?_
        have et : ((s.events.take (i + 1)).map fun e => (nzE e).av) = ((s.events.take i).map fun e => (nzE e).av) ++ [(nzE (nthE s.events i)).av] := by rw [yO (y6 (d := ge0) hi), List.map_append]; rfl
        refine ⟨i + 1, hi, ⟨rfl, rfl, rfl, rfl, rfl, (by rw [et]; rfl), yf rfl et.symm, rfl, rfl, rfl, zX rfl (by rw [zO (by omega) (by omega)]; rfl), trivial⟩, by (try dsimp only); omega⟩
      · have hin : i = s.events.length := by have := of_decide_eq_false hb3; (try simp only [List.length_map] at this); omega
        refine zz <| zT <| zT <| zq <| zA <| zD <| zB <| g_u (yC rfl rfl rfl tA63 tS63 rfl rfl) ?_
        refine g_u (zV rfl rfl rfl tS63 (by first | exact beqW (GSpan.width _) | rfl) (by first | exact ur (z63_w.trans (GSpan.width _).symm) rfl | rfl)) ?_
        refine zH <| zA <| zL ?_
        exact ⟨⟨_, _, _, _, _, _, _, rfl, rfl, tA63, tS63, rfl, rfl, (rfl : toAV _ = some _).trans (congrArg some (by (rw [hin, List.take_length]; show _ = GSpan.av (nzS s); simp only [GSpan.av, nzS, List.map_map]; rfl)))⟩, trivial⟩
end Go.Proofs
namespace Go.Proofs
open Go Go.Al
theorem zip_len (ks : List ByteArray) (ss : List GSpan) : (ks.zip ss).length = min ks.length ss.length := List.length_zip
theorem zip_nth {ks : List ByteArray} {ss : List GSpan} {i : Nat} (h : i < (ks.zip ss).length) : nthQ (ks.zip ss) i = (nth ks i ⟨#[]⟩, nth ss i gs0) := by
  have h1 := y6 (d := rq0) h
  have hl := zip_len ks ss
  have h2 := y6 (d := (⟨#[]⟩ : ByteArray)) (show i < ks.length by omega)
  have h3 := y6 (d := gs0) (show i < ss.length by omega)
  rw [List.getElem?_zip_eq_some] at h1
  rw [h2, h3] at h1
  exact Prod.ext (Option.some.inj h1.1).symm (Option.some.inj h1.2).symm
end Go.Proofs
namespace Go.Proofs
open Go Go.Al
set_option maxRecDepth 10000
end Go.Proofs
namespace Go.Proofs
open Go Go.Al
theorem zip_fs {α β : Type} : ∀ l : List (α × β), (l.map (·.1)).zip (l.map (·.2)) = l
  | [] => rfl
  | x :: l => by rw [List.map_cons, List.map_cons, List.zip_cons_cons, zip_fs l]
def xe (r : GRes) (l : List GSpan) : List (ByteArray × GSpan) := l.map fun s => (zu r, nzS s)
theorem rowsZ_take {b : List GRes} {i : Nat} (h : i < b.length) : yw (b.take (i + 1)) = yw (b.take i) ++ xe (nthR b i) (zr (nthR b i).scopes) := by
  rw [yO (y6 (d := gr0) h)]
  unfold yw
  rw [List.flatMap_append]
  congr 1
  show [nthR b i].flatMap _ = _
  rw [List.flatMap_cons]; simp [xe]
theorem rowsF_app (r : GRes) (a b : List GSpan) : xe r (a ++ b) = xe r a ++ xe r b := List.map_append ..
theorem rowsZ_len (b : List GRes) : (yw b).length = (allS b).length := by
  have := congrArg List.length (ri b)
  rwa [List.length_map, List.length_map] at this
theorem rowsZ_part {b : List GRes} {i k m : Nat} (hi : i < b.length) (hk : k < (nthR b i).scopes.length) (hm : m < (nthC (nthR b i).scopes k).spans.length) : (yw (b.take i) ++ xe (nthR b i) (zr ((nthR b i).scopes.take k)) ++ xe (nthR b i) ((nthC (nthR b i).scopes k).spans.take m)).length + 1 ≤ (yw b).length := by
  have e0 : yw b = yw (b.take (i + 1)) ++ yw (b.drop (i + 1)) := by
    conv => lhs; rw [← List.take_append_drop (i + 1) b]
    unfold yw; rw [List.flatMap_append]
  have e1 : zr (nthR b i).scopes = zr ((nthR b i).scopes.take (k + 1)) ++ zr ((nthR b i).scopes.drop (k + 1)) := by
    conv => lhs; rw [← List.take_append_drop (k + 1) (nthR b i).scopes]
    rw [vu]
  rw [e0, rowsZ_take hi, e1, ux hk]
  simp only [List.length_append, xe, List.length_map, List.length_take]
  omega
end Go.Proofs
namespace Go.Proofs
open Go Go.Al
set_option maxRecDepth 10000
theorem rowsZ_plR (b : List GRes) : (yw b).length ≤ zg GRes.wt b := by
  rw [rowsZ_len, ← ra 0 b]; exact plR_len 0 b
end Go.Proofs
namespace Go.Proofs
open Go Go.Al
set_option maxRecDepth 10000
set_option maxHeartbeats 8000000 in
theorem nzB0_c (hG : ∀ (ks : List ByteArray) (ss : List GSpan), ks.length ≤ 9000000 → ss.length ≤ 9000000 → zn Tryz.prog Γ0 27 [.sl 1 (ks.map fun x => sv x), .sl 42 (ss.map GSpan.av)] [ya (u2 (ks.zip ss))]) (b : List GRes) (ho : okB b) (hw : wtB b ≤ 9000000) (hr : ∀ r ∈ b, risA none r.attrs) : zn Tryz.prog Γ0 9 [ya b] [ya (nzB b)] := by
  have qz := rowsZ_plR b
  have qw : wtB b = zg GRes.wt b := rfl
  have ql := yX GRes.wt (fun e => by unfold GRes.wt; omega) b
  refine z_ Tryz.func9 rfl Tryz.ntmps9 (by kernel_rfl) rfl fun w0 I0 G0 => ?_
  refine zD <| zB <| g_uG (zk 1001 rfl rfl rfl rfl) rfl <| g_uG (zy 1002 rfl rfl rfl tZ24) rfl <| zH <| zA <| zD <| zB <| g_u (zE rfl rfl) <| zH <| zA <| zD <| zB <| g_u (zE rfl rfl) <| zH <| zA <| zD <| zD <| um 3003 3 1 rfl rfl rfl rfl <| um 3004 4 42 rfl rfl rfl rfl <| zB <| g_u (zF rfl rfl uC rfl) <| g_u (zG rfl rfl rfl tA22 tS22 rfl rfl) <| g_u (z7 rfl rfl Tryz.underlying22) <| g_u (zC rfl rfl) <| zH <| zA <| zU ?_
  refine zw (fun i : Nat => [(1, .ptr 1001 0), (1001, .box 24 (.imm (ya b))), (2, .ptr 1002 0), (1002, .box 24 (.imm z24)), (3, .slg 3003 1 (((yw (b.take i))).map fun x => sv x.1)), (3003, .tok 1 (((yw (b.take i))).map fun x => sv x.1)), (4, .slg 3004 42 (((yw (b.take i))).map fun x => x.2.av)), (3004, .tok 42 (((yw (b.take i))).map fun x => x.2.av)), (13, .imm (.sl 2 (b.map GRes.av))), (14, .imm (iv (b.length : Int))), (15, .imm (iv (i : Int)))]) (fun i => i ≤ b.length) (fun i => b.length - i) (0) ?_ ⟨rfl, rfl, rfl, rfl, rfl, rfl, rfl, rfl, rfl, zX rfl (by rw [List.length_map]), rfl, trivial⟩ ?_
  · exact Nat.zero_le _
  · rintro i h1; have h1 : i ≤ b.length := h1
    refine zD <| zB <| g_u (ye rfl rfl rfl) <| zH <| zA <| zD ?_
    refine zN rfl (fun hb1 => ?_) (fun hb1 => ?_)
    · have hi : i < b.length := by have := of_decide_eq_true hb1; (try simp only [List.length_map] at this); omega
      have hro := ho _ (w_ hi)
      have hrr := hr _ (w_ hi)
      have hrx := yP GRes.wt (w_ hi)
      have hrq : (nthR b i).wt = 1 + wtAs (nthR b i).attrs + zg GScope.wt (nthR b i).scopes := rfl
      have hcl := yX GScope.wt (fun e => by unfold GScope.wt; omega) (nthR b i).scopes
      refine zQ <| zA <| zD <| zU <| zD <| zB ?_
      refine g_u (zR rfl rfl rfl Tryz.underlying22 tS47 (by omega) (ixR hi)) ?_
      refine g_u (zd rfl rfl tA47 tS47 rfl rfl) <| g_uG (zy 1006 rfl rfl rfl tZ47) rfl <| g_u (zV rfl rfl rfl tS47 rfl rfl) <| zH <| zA <| zD <| zB <| g_u (yC rfl rfl rfl tA47 tS47 rfl rfl) ?_
      refine g_u (zP (service_c (nthR b i) hro.1 (by omega) hrr) rfl rfl) ?_
      refine g_u (zE rfl rfl) <| zH <| zA <| zD <| zB <| g_u (zF rfl rfl wj rfl) <| g_u (zG rfl rfl rfl tA45 tS45 rfl rfl) <| g_u (z7 rfl rfl Tryz.underlying45) <| g_u (zC rfl rfl) <| zH <| zA <| zU ?_
      refine zw (fun k : Nat => [(1, .ptr 1001 0), (1001, .box 24 (.imm (ya b))), (2, .ptr 1002 0), (1002, .box 24 (.imm z24)), (3, .slg 3003 1 (((yw (b.take i)) ++ (xe (nthR b i) (zr ((nthR b i).scopes.take k)))).map fun x => sv x.1)), (3003, .tok 1 (((yw (b.take i)) ++ (xe (nthR b i) (zr ((nthR b i).scopes.take k)))).map fun x => sv x.1)), (4, .slg 3004 42 (((yw (b.take i)) ++ (xe (nthR b i) (zr ((nthR b i).scopes.take k)))).map fun x => x.2.av)), (3004, .tok 42 (((yw (b.take i)) ++ (xe (nthR b i) (zr ((nthR b i).scopes.take k)))).map fun x => x.2.av)), (13, .imm (.sl 2 (b.map GRes.av))), (14, .imm (iv (b.length : Int))), (15, .imm (iv (i : Int))), (7, .imm (sv (zu (nthR b i)))), (22, .imm (.sl 3 ((nthR b i).scopes.map GScope.av))), (23, .imm (iv ((nthR b i).scopes.length : Int))), (24, .imm (iv (k : Int)))]) (fun k => k ≤ (nthR b i).scopes.length) (fun k => (nthR b i).scopes.length - k) (0) ?_ ⟨rfl, rfl, rfl, rfl, yl rfl (by simp [xe, zr]), yf rfl (by simp [xe, zr]), yl rfl (by simp [xe, zr]), yf rfl (by simp [xe, zr]), rfl, rfl, rfl, rfl, rfl, zX rfl (by rw [List.length_map]), rfl, trivial⟩ ?_
      · exact Nat.zero_le _
      · rintro k h2; have h2 : k ≤ (nthR b i).scopes.length := h2
        refine zD <| zB <| g_u (ye rfl rfl rfl) <| zH <| zA <| zD ?_
        refine zN rfl (fun hb2 => ?_) (fun hb2 => ?_)
        · have hk : k < (nthR b i).scopes.length := by have := of_decide_eq_true hb2; (try simp only [List.length_map] at this); omega
          have hcx := yP GScope.wt (vy hk)
          have hco := hro.2 _ (vy hk)
          have hcq : (nthC (nthR b i).scopes k).wt = 1 + (nthC (nthR b i).scopes k).name.size + (nthC (nthR b i).scopes k).version.size + zg GSpan.wt (nthC (nthR b i).scopes k).spans := rfl
          have hsl := yX GSpan.wt (fun e => by unfold GSpan.wt; omega) (nthC (nthR b i).scopes k).spans
          refine zQ <| zA <| zD <| zU <| zD <| zB ?_
          refine g_u (zR rfl rfl rfl Tryz.underlying45 tS51 (by omega) (ixC hk)) ?_
          refine g_u (zd rfl rfl tA51 tS51 rfl rfl) <| g_uG (zy 1009 rfl rfl rfl tZ51) rfl <| g_u (zV rfl rfl rfl tS51 rfl rfl) <| zH <| zA <| zD <| zB <| g_u (zF rfl rfl uM rfl) <| g_u (zG rfl rfl rfl tA49 tS49 rfl rfl) <| g_u (z7 rfl rfl Tryz.underlying49) <| g_u (zC rfl rfl) <| zH <| zA <| zU ?_
          refine zw (fun m : Nat => [(1, .ptr 1001 0), (1001, .box 24 (.imm (ya b))), (2, .ptr 1002 0), (1002, .box 24 (.imm z24)), (3, .slg 3003 1 (((yw (b.take i)) ++ (xe (nthR b i) (zr ((nthR b i).scopes.take k))) ++ (xe (nthR b i) ((nthC (nthR b i).scopes k).spans.take m))).map fun x => sv x.1)), (3003, .tok 1 (((yw (b.take i)) ++ (xe (nthR b i) (zr ((nthR b i).scopes.take k))) ++ (xe (nthR b i) ((nthC (nthR b i).scopes k).spans.take m))).map fun x => sv x.1)), (4, .slg 3004 42 (((yw (b.take i)) ++ (xe (nthR b i) (zr ((nthR b i).scopes.take k))) ++ (xe (nthR b i) ((nthC (nthR b i).scopes k).spans.take m))).map fun x => x.2.av)), (3004, .tok 42 (((yw (b.take i)) ++ (xe (nthR b i) (zr ((nthR b i).scopes.take k))) ++ (xe (nthR b i) ((nthC (nthR b i).scopes k).spans.take m))).map fun x => x.2.av)), (13, .imm (.sl 2 (b.map GRes.av))), (14, .imm (iv (b.length : Int))), (15, .imm (iv (i : Int))), (7, .imm (sv (zu (nthR b i)))), (22, .imm (.sl 3 ((nthR b i).scopes.map GScope.av))), (23, .imm (iv ((nthR b i).scopes.length : Int))), (24, .imm (iv (k : Int))), (29, .imm (.sl 42 ((nthC (nthR b i).scopes k).spans.map GSpan.av))), (30, .imm (iv ((nthC (nthR b i).scopes k).spans.length : Int))), (31, .imm (iv (m : Int)))]) (fun m => m ≤ (nthC (nthR b i).scopes k).spans.length) (fun m => (nthC (nthR b i).scopes k).spans.length - m) (0) ?_ ⟨rfl, rfl, rfl, rfl, yl rfl (by simp [xe]), yf rfl (by simp [xe]), yl rfl (by simp [xe]), yf rfl (by simp [xe]), rfl, rfl, rfl, rfl, rfl, rfl, rfl, rfl, zX rfl (by rw [List.length_map]), rfl, trivial⟩ ?_
          · exact Nat.zero_le _
          · rintro m h3; have h3 : m ≤ (nthC (nthR b i).scopes k).spans.length := h3
            refine zD <| zB <| g_u (ye rfl rfl rfl) <| zH <| zA <| zD ?_
            refine zN rfl (fun hb3 => ?_) (fun hb3 => ?_)
            · have hm : m < (nthC (nthR b i).scopes k).spans.length := by have := of_decide_eq_true hb3; (try simp only [List.length_map] at this); omega
              have hsx := yP GSpan.wt (uO hm)
              have hso := hco.2.2 _ (uO hm)
              have q1 := rowsZ_part hi hk hm
              refine zQ <| zA <| zD <| zU <| zD <| zB ?_
              refine g_u (zR rfl rfl rfl Tryz.underlying49 tS63 (by omega) (ixS hm)) ?_
              refine g_u (zd rfl rfl tA63 tS63 rfl (by first | exact wh (GSpan.width _) rfl | rfl)) ?_
              refine g_uG (zy 1011 rfl rfl rfl tZ63) rfl ?_
              refine g_u (zV rfl rfl rfl tS63 (by first | exact beqW (GSpan.width _) | rfl) (by first | exact ur (z63_w.trans (GSpan.width _).symm) rfl | rfl)) ?_
              refine zH <| zA <| y_ xR <| g_u (yW rfl rfl) <| g_u (zC rfl rfl) <| g_u (zl (X0 := z9) rfl Tryz.underlying27 tS9 tZ9 rfl rfl rfl rfl rfl rfl rfl rfl) ?_
              refine g_u (yh rfl rfl rfl rfl rfl Tryz.underlying27 Tryz.underlying27 tS9 zv9 rfl (by decide) by9 (by (try dsimp only); simp only [List.length_append, List.length_cons, List.length_nil, List.length_map] at q1 ⊢; omega) (by (try dsimp only); simp only [List.length_append, List.length_cons, List.length_nil, List.length_map] at q1 ⊢; omega)) ?_
              refine g_u (yW rfl rfl) ?_
              refine g_u (zG rfl rfl rfl tA63 tS63 rfl (by first | exact wh (GSpan.width _) rfl | rfl)) ?_
              refine g_u (zP (nzS_c _ hso (by omega)) rfl rfl) ?_
              refine g_u (zl (X0 := z63) rfl Tryz.underlying49 tS63 tZ63 rfl rfl rfl rfl rfl rfl rfl rfl) ?_
              refine g_u (yh rfl rfl rfl rfl rfl Tryz.underlying49 Tryz.underlying49 tS63 zv63 rfl (by decide) by63 (by (try dsimp only); simp only [List.length_append, List.length_cons, List.length_nil, List.length_map] at q1 ⊢; omega) (by (try dsimp only); simp only [List.length_append, List.length_cons, List.length_nil, List.length_map] at q1 ⊢; omega)) ?_
              refine g_u (yY rfl rfl) <| g_u (yY rfl rfl) ?_
              refine zH ⟨by kernel_rfl, ?_⟩
              refine zW <| zA <| zB <| g_u (z0 rfl rfl rfl) <| g_u (zC rfl rfl) <| zH <| zA ?_
              have et : (xe (nthR b i) ((nthC (nthR b i).scopes k).spans.take (m + 1))) = (xe (nthR b i) ((nthC (nthR b i).scopes k).spans.take m)) ++ [(zu (nthR b i), nzS (nthS (nthC (nthR b i).scopes k).spans m))] := by unfold xe; rw [yO (y6 (d := gs0) hm), List.map_append]; rfl
              have ek : (((yw (b.take i)) ++ (xe (nthR b i) (zr ((nthR b i).scopes.take k))) ++ (xe (nthR b i) ((nthC (nthR b i).scopes k).spans.take (m + 1)))).map fun x => sv x.1) = (((yw (b.take i)) ++ (xe (nthR b i) (zr ((nthR b i).scopes.take k))) ++ (xe (nthR b i) ((nthC (nthR b i).scopes k).spans.take m))).map fun x => sv x.1) ++ [sv (zu (nthR b i))] := by rw [et, ← List.append_assoc, List.map_append]; rfl
              have es : (((yw (b.take i)) ++ (xe (nthR b i) (zr ((nthR b i).scopes.take k))) ++ (xe (nthR b i) ((nthC (nthR b i).scopes k).spans.take (m + 1)))).map fun x => x.2.av) = (((yw (b.take i)) ++ (xe (nthR b i) (zr ((nthR b i).scopes.take k))) ++ (xe (nthR b i) ((nthC (nthR b i).scopes k).spans.take m))).map fun x => x.2.av) ++ [(nzS (nthS (nthC (nthR b i).scopes k).spans m)).av] := by rw [et, ← List.append_assoc, List.map_append]; rfl
              refine ⟨m + 1, hm, ⟨rfl, rfl, rfl, rfl, yl rfl ek.symm, yf rfl ek.symm, yl rfl es.symm, yf rfl es.symm, rfl, rfl, rfl, rfl, rfl, rfl, rfl, rfl, rfl, zX rfl (by rw [zO (by omega) (by omega)]; rfl), trivial⟩, by (try dsimp only); omega⟩
            · have hmn : m = (nthC (nthR b i).scopes k).spans.length := by have := of_decide_eq_false hb3; (try simp only [List.length_map] at this); omega
              refine zz <| zT <| zT <| zq <| zW <| zA <| zB <| g_u (z0 rfl rfl rfl) <| g_u (zC rfl rfl) <| zH <| zA ?_
              have et : (yw (b.take i)) ++ (xe (nthR b i) (zr ((nthR b i).scopes.take (k + 1)))) = (yw (b.take i)) ++ (xe (nthR b i) (zr ((nthR b i).scopes.take k))) ++ (xe (nthR b i) ((nthC (nthR b i).scopes k).spans.take m)) := by rw [ux hk, rowsF_app, hmn, List.take_length, List.append_assoc]
              refine ⟨k + 1, hk, ⟨rfl, rfl, rfl, rfl, yl rfl (by rw [et]), yf rfl (by rw [et]), yl rfl (by rw [et]), yf rfl (by rw [et]), rfl, rfl, rfl, rfl, rfl, rfl, zX rfl (by rw [zO (by omega) (by omega)]; rfl), trivial⟩, by (try dsimp only); omega⟩
        · have hkn : k = (nthR b i).scopes.length := by have := of_decide_eq_false hb2; (try simp only [List.length_map] at this); omega
          refine zz <| zT <| zT <| zq <| zW <| zA <| zB <| g_u (z0 rfl rfl rfl) <| g_u (zC rfl rfl) <| zH <| zA ?_
          have et : (yw (b.take (i + 1))) = (yw (b.take i)) ++ (xe (nthR b i) (zr ((nthR b i).scopes.take k))) := by rw [rowsZ_take hi, hkn, List.take_length]
          refine ⟨i + 1, hi, ⟨rfl, rfl, rfl, rfl, yl rfl (by rw [et]), yf rfl (by rw [et]), yl rfl (by rw [et]), yf rfl (by rw [et]), rfl, rfl, zX rfl (by rw [zO (by omega) (by omega)]; rfl), trivial⟩, by (try dsimp only); omega⟩
    · have hin : i = b.length := by have := of_decide_eq_false hb1; (try simp only [List.length_map] at this); omega
      rw [hin, List.take_length]
      refine zz <| zT <| zT <| zq <| zA <| zD <| zB <| g_u (yW rfl rfl) <| g_u (yW rfl rfl) ?_
      refine g_u (zP ((show zn Tryz.prog Γ0 27 [.sl 1 ((yw b).map fun x => sv x.1), .sl 42 ((yw b).map fun x => x.2.av)] [ya (nzB b)] from by have h := hG ((yw b).map (·.1)) ((yw b).map (·.2)) (by rw [List.length_map]; omega) (by rw [List.length_map]; omega); rw [zip_fs, List.map_map, List.map_map] at h; exact h)) rfl rfl) ?_
      refine g_u (zV rfl rfl rfl tS24 rfl rfl) <| zH <| zA <| zL ?_
      exact ⟨⟨_, _, _, _, _, _, _, rfl, rfl, tA24, tS24, rfl, rfl, (rfl : toAV _ = some _).trans (congrArg some (by rfl))⟩, trivial⟩
end Go.Proofs
namespace Go.Al
open Go.RowKit
section
variable {C : Cx} {A : Nat → SV} {d : Nat} {ty : TypeId} {pos : String} {af : Array Edge} {gd : Option (Nat × Bool)} {x y : Operand} {T T' : TypeId}
end
end Go.Al
namespace Go.Al
open Go.RowKit
section
variable {C : Cx} {A : Nat → SV} {d : Nat} {ty : TypeId} {pos : String} {af : Array Edge} {gd : Option (Nat × Bool)} {x y : Operand} {T T' : TypeId}
theorem s_lookupYes {g : Nat} {kt vt : TypeId} {l : List ByteArray} {vs : List AV} {s : ByteArray} {v : AV} {i : Nat} (hN : Nat.blt d C.N = true) (hx : opS A x = .mref g) (hg : A g = .mpr (strs l) vs) (hy : opV A y = some (.v (.string s)))
    (hT : C.P.underlying T = some (.map kt vt)) (hk : C.P.underlying kt = some .string) (hm : uH l s 0 = some i) (hv : vs[i]? = some v) :
    zv C ⟨some d, .lookup T x y true, ty, pos, af, gd⟩ (g :: (opR x ++ opR y)) [] A [(d, .tup [.imm v, .imm (.v (.bool true))])] := by
  refine zv.value rfl hN fun A' G a w hR S => ?_
  have hgA : A' g = .mpr (strs l) vs := (hR g List.mem_cons_self).trans hg
  obtain ⟨c, hc1, hc2⟩ := S.opS ((yd (fun k hk => hR k (List.mem_cons_of_mem _ (List.mem_append_left _ hk)))).trans hx) rfl
  simp only [RepS] at hc1
  have hev : a.eval x = .map (some (G.blk g)) := by rw [hc2, hc1]; rfl
  rw [← yU (fun k hk => hR k (List.mem_cons_of_mem _ (List.mem_append_right _ hk)))] at hy
  have hys := xk (S.opV hy)
  have hb := S.holds g
  rw [hgA] at hb
  simp only [Holds] at hb
  obtain ⟨how, ⟨es, h1, h2, h3, h4⟩, hni⟩ := hb
  have hkeys : es.toList.map (·.key) = l.map Value.string := s8 h3
  have hlen : es.size = l.length := by have := congrArg List.length hkeys; simpa using this
  have hi := rM hm
  have hie : i < es.size := by omega
  have hfind := rY (P := C.P) (s := s) hk hkeys w
  have hobj := run_getMap (P := C.P) h1
  have e2 : (es.toList[i]?).map (fun e => (i, e.val)) = some (i, es[i].val) := by rw [Array.getElem?_toList, Array.getElem?_eq_getElem hie]; rfl
  obtain ⟨u, hu1, hu2⟩ := tQ h4 hv
  simp only [List.getElem?_map, Array.getElem?_toList, Array.getElem?_eq_getElem hie, Option.map_some, Option.some.injEq] at hu1
  refine ⟨.tuple #[u, .bool true], ?_, ⟨[u, .bool true], rfl, _, _, rfl, yg.2 hu2, _, _, rfl, yg.2 (xm _ _ rfl), rfl⟩⟩
  simp only [execOp, Instr.lookup, Sem.run_bind, za hT, Result.andThen_ok, hev, hobj, hys, Sem.run_pure, uz hk, hfind, hm, Option.bind_some, e2, if_true, hu1]
theorem s_lookupNo {g : Nat} {kt vt : TypeId} {l : List ByteArray} {vs : List AV} {s : ByteArray} {z : Value} (hN : Nat.blt d C.N = true) (hx : opS A x = .mref g) (hg : A g = .mpr (strs l) vs) (hy : opV A y = some (.v (.string s)))
    (hT : C.P.underlying T = some (.map kt vt)) (hk : C.P.underlying kt = some .string) (hm : uH l s 0 = none) (hz : wS C.P vt = some z) (hzp : plain z = true) :
    zv C ⟨some d, .lookup T x y true, ty, pos, af, gd⟩ (g :: (opR x ++ opR y)) [] A [(d, .tup [.imm (.v z), .imm (.v (.bool false))])] := by
  refine zv.value rfl hN fun A' G a w hR S => ?_
  have hgA : A' g = .mpr (strs l) vs := (hR g List.mem_cons_self).trans hg
  obtain ⟨c, hc1, hc2⟩ := S.opS ((yd (fun k hk => hR k (List.mem_cons_of_mem _ (List.mem_append_left _ hk)))).trans hx) rfl
  simp only [RepS] at hc1
  have hev : a.eval x = .map (some (G.blk g)) := by rw [hc2, hc1]; rfl
  rw [← yU (fun k hk => hR k (List.mem_cons_of_mem _ (List.mem_append_right _ hk)))] at hy
  have hys := xk (S.opV hy)
  have hb := S.holds g
  rw [hgA] at hb
  simp only [Holds] at hb
  obtain ⟨how, ⟨es, h1, h2, h3, h4⟩, hni⟩ := hb
  have hkeys : es.toList.map (·.key) = l.map Value.string := s8 h3
  have hfind := rY (P := C.P) (s := s) hk hkeys w
  have hobj := run_getMap (P := C.P) h1
  refine ⟨.tuple #[z, .bool false], ?_, ⟨[z, .bool false], rfl, _, _, rfl, yg.2 (xm _ _ hzp), _, _, rfl, yg.2 (xm _ _ rfl), rfl⟩⟩
  simp only [execOp, Instr.lookup, Sem.run_bind, za hT, Result.andThen_ok, hev, hobj, hys, Sem.run_pure, uz hk, hfind, hm, Option.bind_none, xB hz, if_true]
theorem s_ixRaw {el : TypeId} {b o n cap len : Nat} {i : Int} {k : IntKind} (hN : Nat.blt d C.N = true) (hx : opV A x = some (.v (.slice (some ⟨b, o, none⟩) len cap))) (hy : opV A y = some (.v (.int k i))) (hT : C.P.underlying T = some (.slice el)) (hn : yJ C.P el = some n)
    (h : 0 ≤ i ∧ i < len) : zv C ⟨some d, .indexAddr T x y, ty, pos, af, gd⟩ (opR x ++ opR y) [] A [(d, .imm (.v (.pointer (some ⟨b, o + i.toNat * n, none⟩))))] := by
  refine zv.op2 rfl hN hx hy fun w I ρ h1 h2 => ?_
  have hi := yV h2
  have hv := u9 h1 rfl
  refine ⟨_, ?_, xm w I rfl⟩
  simp only [execOp, Instr.indexAt, hi, hv, asIntOf, Sem.run_bind, Sem.run_pure, Result.andThen_ok, za hT, h, and_self, if_true, yI hn, xX]
end
end Go.Al
namespace Go.Al
open Go.RowKit
theorem SimG.anew {C : Cx} {A A' : Nat → SV} {G G' : Gh} {a : Act} {w : World} (S : SimG C A G a w) (hI : G'.I = G.I) (hrel : ∀ g, C.K ≤ g → G'.blk g = G.blk g ∧ G'.cur g = G.cur g ∧ G'.len g = G.len g)
    (hh : ∀ k, Holds C.w0 C.E G' a w k (A' k)) (hap : ∀ k j b, k ≠ j → zm G' k b (A' k) → zm G' j b (A' j) → False) : SimG C A' G' a w :=
  ⟨S.os, S.tape, S.output, S.size, S.block, by rw [hI]; exact S.sub, fun g hg => (S.rel g hg).trans ⟨(hrel g hg).1, .inl (hrel g hg).2⟩, by rw [hI]; exact S.glob, by rw [hI]; exact S.new, by rw [hI]; exact S.val, S.nts, S.dfs, hh, hap⟩
def hdrB : Value → List Nat
  | .slice (some a) _ _ => [a.block]
  | _ => []
def ScOk (T : TypeId) (n : Nat) (w : World) (I : Nat → Nat → Prop) (b : Nat) (v : Value) (l : List AV) : Prop :=
  b < w.heap.size ∧ (∃ fr, w.heap[b]? = some (.cells #[.string .empty, .string .empty, v] T fr) ∧ sC fr 3) ∧ (∀ o, ¬ I b o) ∧ TokS w (fun _ => True) I w v n l
theorem TokS.keep {w w' : World} {I I' : Nat → Nat → Prop} {v : Value} {n : Nat} {l : List AV} (h : TokS w (fun _ => True) I w v n l) (hle : Le w I w' I') (ho : ∀ b, b ∈ hdrB v → w'.heap[b]? = w.heap[b]? ∧ ∀ o, I' b o → I b o) : TokS w' (fun _ => True) I' w' v n l := by
  rcases h with h | ⟨b, cap, h1, h2, h3, h4, h5, ⟨cs, T, fr, h6, h7, h8⟩, h9⟩
  · exact .inl h
  · obtain ⟨e4, e5⟩ := ho b (by rw [h1]; exact List.mem_singleton.2 rfl)
    have hb : b < w'.heap.size := by
      have := e4.trans h6
      exact (Array.getElem?_eq_some_iff.1 this).1
    exact .inr ⟨b, cap, h1, h2, h3, RepM.mono hle n l b 0 h4, ⟨.inr trivial, hb⟩, ⟨cs, T, fr, by rw [e4]; exact h6, h7, h8⟩, fun o ho' hi => h9 o ho' (e5 o hi)⟩
theorem ScOk.keep {T : TypeId} {n : Nat} {w w' : World} {I I' : Nat → Nat → Prop} {b : Nat} {v : Value} {l : List AV} (h : ScOk T n w I b v l) (hle : Le w I w' I') (ho : ∀ c, c = b ∨ c ∈ hdrB v → w'.heap[c]? = w.heap[c]? ∧ ∀ o, I' c o → I c o) : ScOk T n w' I' b v l := by
  obtain ⟨h1, ⟨fr, h2, h3⟩, h4, h5⟩ := h
  obtain ⟨e1, e2⟩ := ho b (.inl rfl)
  have h2' := e1.trans h2
  exact ⟨(Array.getElem?_eq_some_iff.1 h2').1, ⟨fr, h2', h3⟩, fun o hi => h4 o (e2 o hi), h5.keep hle fun c hc => ho c (.inr hc)⟩
theorem TokS.kind {w : World} {I : Nat → Nat → Prop} {v : Value} {n : Nat} {l : List AV} (h : TokS w (fun _ => True) I w v n l) {b : Nat} (hb : b ∈ hdrB v) {o : Obj} (ho : w.heap[b]? = some o) : isBook o = false := by
  rcases h with ⟨rfl, _⟩ | ⟨b', cap, h1, _, _, _, _, ⟨cs, T, fr, h6, _⟩, _⟩
  · cases hb
  · rw [h1] at hb
    cases List.mem_singleton.1 hb
    rw [h6] at ho; cases ho; rfl
def tupV : Value → List Value
  | .tuple vs => vs.toList
  | _ => []
def HoleOk (T : TypeId) (w : World) (I : Nat → Nat → Prop) (b : Nat) : Prop := b < w.heap.size ∧ (∃ fr v, w.heap[b]? = some (.cells #[.string .empty, .string .empty, v] T fr) ∧ sC fr 3) ∧ ∀ o, ¬ I b o
theorem HoleOk.keep {T : TypeId} {w w' : World} {I I' : Nat → Nat → Prop} {b : Nat} (h : HoleOk T w I b) (ho : w'.heap[b]? = w.heap[b]? ∧ ∀ o, I' b o → I b o) : HoleOk T w' I' b := by
  obtain ⟨h1, ⟨fr, v, h2, h3⟩, h4⟩ := h
  have h2' := ho.1.trans h2
  exact ⟨(Array.getElem?_eq_some_iff.1 h2').1, ⟨fr, v, h2', h3⟩, fun o hi => h4 o (ho.2 o hi)⟩
def ScF (T : TypeId) (n : Nat) (bs : List Nat) (ls : List (List AV)) (ex : Nat) : Nat → Value → Nat → HRes := fun _ cur _ =>
  { own := fun b => ∃ j c v, bs[j]? = some c ∧ (tupV cur)[j]? = some v ∧ (b = c ∨ (j ≠ ex ∧ b ∈ hdrB v))
    ok := fun w I => (tupV cur).length = bs.length ∧ ls.length = bs.length ∧ (∀ j c v l, j ≠ ex → bs[j]? = some c → (tupV cur)[j]? = some v → ls[j]? = some l → ScOk T n w I c v l) ∧
      (∀ c, bs[ex]? = some c → HoleOk T w I c) ∧
      (∀ j k c c' v v' b, j ≠ k → bs[j]? = some c → bs[k]? = some c' → (tupV cur)[j]? = some v → (tupV cur)[k]? = some v' → (b = c ∨ (j ≠ ex ∧ b ∈ hdrB v)) → (b = c' ∨ (k ≠ ex ∧ b ∈ hdrB v')) → False) ∧
      (∀ j c v, j ≠ ex → bs[j]? = some c → (tupV cur)[j]? = some v → c ∉ hdrB v)
    keep := fun w I w' I' h hle ho => ⟨h.1, h.2.1, fun j c v l hj hc hv hl => (h.2.2.1 j c v l hj hc hv hl).keep hle fun b hb => ho b ⟨j, c, v, hc, hv, hb.imp_right fun hb => ⟨hj, hb⟩⟩,
      fun c hc => (h.2.2.2.1 c hc).keep (by
        have hlt := (List.getElem?_eq_some_iff.1 hc).1
        exact ho c ⟨ex, c, (tupV cur)[ex]'(by rw [h.1]; exact hlt), hc, List.getElem?_eq_getElem _, .inl rfl⟩), h.2.2.2.2⟩
    kind := fun w I b o h hb ho => by
      obtain ⟨j, c, v, hc, hv, hb⟩ := hb
      by_cases hj : j = ex
      · subst hj
        rcases hb with rfl | ⟨hb, _⟩
        · obtain ⟨_, ⟨fr, v', h2, _⟩, _⟩ := h.2.2.2.1 _ hc
          rw [h2] at ho; cases ho; rfl
        · exact absurd rfl hb
      · have hlt : j < ls.length := by rw [h.2.1]; exact (List.getElem?_eq_some_iff.1 hc).1
        have hok := h.2.2.1 j c v ls[j] hj hc hv (List.getElem?_eq_getElem hlt)
        rcases hb with rfl | ⟨_, hb⟩
        · obtain ⟨_, ⟨fr, h2, _⟩, _⟩ := hok
          rw [h2] at ho; cases ho; rfl
        · exact hok.2.2.2.kind hb ho }
end Go.Al
namespace Go.Al
open Go.RowKit
theorem SimG.takeRow {C : Cx} {A : Nat → SV} {G : Gh} {a : Act} {w : World} (S : SimG C A G a w) {gs gT n i b : Nat} {T : TypeId} {bs : List Nat} {ls : List (List AV)} {l : List AV}
    (hTN : C.N ≤ gT) (hTK : gT < C.K) (h3 : gs ≠ gT) (hg : A gs = .gen (ScF T n bs ls bs.length)) (hb : bs[i]? = some b) (hl : ls[i]? = some l) (hf : ∀ k, k ≠ gT → noG [gT] (A k) = true) :
    ∃ G' v, SimG C (upd A [(gT, .tok n l), (gs, .gen (ScF T n bs ls i))]) G' a w ∧ w.cell? ⟨b, 2, none⟩ = some v ∧ xZ w G' (.slg gT n l) v := by
  have hgs := S.holds gs
  rw [hg] at hgs
  simp only [Holds] at hgs
  obtain ⟨hown, hlen, hll, hok, hhole, hap, hself⟩ := hgs
  have hi : i < bs.length := (List.getElem?_eq_some_iff.1 hb).1
  have hex : ∀ {j : Nat} {c : Nat}, bs[j]? = some c → j ≠ bs.length := fun hc => by have := (List.getElem?_eq_some_iff.1 hc).1; omega
  obtain ⟨v, hv⟩ : ∃ v, (tupV (G.cur gs))[i]? = some v := ⟨_, List.getElem?_eq_getElem (by omega)⟩
  have hoki := hok i b v l (hex hb) hb hv hl
  obtain ⟨k1, ⟨fr, k2, k3⟩, k4, k5⟩ := hoki
  let G' : Gh := { G with cur := fun k => if k = gT then v else G.cur k, len := fun k => if k = gT then l.length else G.len k }
  have hrel : GRel [gT] G G' := fun g hg' => by
    have e2 : g ≠ gT := fun e => hg' (by simp [e])
    exact ⟨rfl, .inl ⟨by simp only [G', if_neg e2], by simp only [G', if_neg e2]⟩⟩
  have hu : ∀ k, upd A [(gT, .tok n l), (gs, .gen (ScF T n bs ls i))] k = if k = gT then .tok n l else if k = gs then .gen (ScF T n bs ls i) else A k := by
    intro k
    simp only [upd]
    by_cases e3 : k = gT
    · subst e3; simp [Nat.beq_refl]
    · rw [zM (Ne.symm e3), if_neg e3]
      by_cases e4 : k = gs
      · subst e4; simp [Nat.beq_refl]
      · rw [zM (Ne.symm e4), if_neg e4]; rfl
  have ownG : ∀ c, (c = b ∨ c ∈ hdrB v) → zm G gs c (A gs) := fun c hc => by
    rw [hg]; exact ⟨i, b, v, hb, hv, hc.imp_right fun h => ⟨hex hb, h⟩⟩
  refine ⟨G', v, S.anew rfl (fun g hgK => ?_) (fun k => ?_) ?_, ?_, ?_⟩
  · exact ⟨rfl, by simp only [G']; rw [if_neg (by omega)], by simp only [G']; rw [if_neg (by omega)]⟩
  · rw [hu]
    split
    · rename_i e; subst e
      simp only [Holds, G', if_true]
      refine ⟨trivial, ?_⟩
      rcases k5 with h | ⟨b', cap, e1, e2, e3, e4, e5, e6, e7⟩
      · exact .inl h
      · exact .inr ⟨b', cap, e1, e2, e3, e4, hown b' ⟨i, b, v, hb, hv, .inr ⟨hex hb, by rw [e1]; exact List.mem_singleton.2 rfl⟩⟩, e6, e7⟩
    split
    · rename_i _ e; subst e
      simp only [Holds, G', if_neg h3]
      exact ⟨fun c ⟨j, c', v', hc, hv', hbb⟩ => hown c ⟨j, c', v', hc, hv', hbb.imp_right fun h => ⟨hex hc, h.2⟩⟩, hlen, hll, fun j c v' l' hj hc hv' hl' => hok j c v' l' (hex hc) hc hv' hl',
        fun c hc => by rw [hb] at hc; cases hc; exact ⟨k1, ⟨fr, v, k2, k3⟩, k4⟩,
        fun j j' c c' v1 v2 bb hjj hc hc' hv1 hv2 hb1 hb2 => hap j j' c c' v1 v2 bb hjj hc hc' hv1 hv2 (hb1.imp_right fun h => ⟨hex hc, h.2⟩) (hb2.imp_right fun h => ⟨hex hc', h.2⟩), fun j c v' hj hc hv' => hself j c v' (hex hc) hc hv'⟩
    · rename_i n3 n4
      exact (S.holds k).keep (Gs := [gT]) (Le.refl _ _) hrel (hf k n3) (Nat.le_refl _) (fun h => ⟨h, rfl⟩) (fun _ => ⟨rfl, by simp only [G', if_neg n3], by simp only [G', if_neg n3]⟩) (fun c _ => ⟨rfl, fun _ h => h⟩)
  · have conv : ∀ k c, zm G' k c (upd A [(gT, .tok n l), (gs, .gen (ScF T n bs ls i))] k) →
        (k = gT ∧ c ∈ hdrB v) ∨ (k = gs ∧ ∃ j c' v', bs[j]? = some c' ∧ (tupV (G.cur gs))[j]? = some v' ∧ (c = c' ∨ (j ≠ i ∧ c ∈ hdrB v'))) ∨ (k ≠ gs ∧ zm G k c (A k)) := by
      intro k c hc
      rw [hu] at hc
      split at hc
      · rename_i e; subst e
        simp only [zm, G', if_true] at hc
        obtain ⟨ad, m, cp, e1, e2⟩ := hc
        exact .inl ⟨rfl, by rw [e1, ← e2]; exact List.mem_singleton.2 rfl⟩
      split at hc
      · rename_i _ e; subst e
        simp only [zm, G', if_neg h3] at hc
        exact .inr (.inl ⟨rfl, hc⟩)
      · rename_i n3 n4
        exact .inr (.inr ⟨n4, (uf (G1 := G) (G2 := G') (k := k) (b := c) (x := A k) ⟨rfl, by simp only [G', if_neg n3], by simp only [G', if_neg n3]⟩).1 hc⟩)
    have old : ∀ k c, (k = gT ∧ c ∈ hdrB v) ∨ (k = gs ∧ ∃ j c' v', bs[j]? = some c' ∧ (tupV (G.cur gs))[j]? = some v' ∧ (c = c' ∨ (j ≠ i ∧ c ∈ hdrB v'))) → zm G gs c (A gs) := by
      rintro k c (⟨_, e⟩ | ⟨_, j, c', v', hc', hv', hbb⟩)
      · exact ownG c (.inr e)
      · rw [hg]; exact ⟨j, c', v', hc', hv', hbb.imp_right fun h => ⟨hex hc', h.2⟩⟩
    intro k j c hkj hk hj
    have sep : ∀ {c : Nat}, c ∈ hdrB v → (∃ j c' v', bs[j]? = some c' ∧ (tupV (G.cur gs))[j]? = some v' ∧ (c = c' ∨ (j ≠ i ∧ c ∈ hdrB v'))) → False := by
      rintro c hc ⟨j', c', v', hc', hv', hbb⟩
      by_cases e : j' = i
      · subst e
        rw [hb] at hc'; cases hc'
        rcases hbb with rfl | ⟨h, _⟩
        · exact hself j' c v (hex hb) hb hv hc
        · exact h rfl
      · exact hap i j' b c' v v' c (Ne.symm e) hb hc' hv hv' (.inr ⟨hex hb, hc⟩) (hbb.imp_right fun h => ⟨hex hc', h.2⟩)
    rcases conv k c hk with p | p | ⟨pn, p⟩ <;> rcases conv j c hj with q | q | ⟨qn, q⟩
    · exact hkj (p.1.trans q.1.symm)
    · exact sep p.2 q.2
    · exact S.apart gs j c (Ne.symm qn) (old k c (.inl p)) q
    · exact sep q.2 p.2
    · exact hkj (p.1.trans q.1.symm)
    · exact S.apart gs j c (Ne.symm qn) (old k c (.inr p)) q
    · exact S.apart k gs c pn p (old j c (.inl q))
    · exact S.apart k gs c pn p (old j c (.inr q))
    · exact S.apart k j c hkj p q
  · simp only [World.cell?, k2]; rfl
  · refine ⟨[v], ?_, rfl⟩
    simp only [RepS]
    refine ⟨v, rfl, ?_, ?_, ?_⟩
    · simp only [RepC]
      rcases k5 with ⟨rfl, rfl⟩ | ⟨b', cap, e1, e2, e3, e4, _⟩
      · exact ⟨_, rfl, .inl ⟨none, 0, rfl, rfl, Nat.zero_le _, fun _ => rfl⟩⟩
      · exact ⟨_, rfl, .inr ⟨b', 0, cap, e1, e2, e3, e4⟩⟩
    · simp only [G', if_true]; exact Nat.le_refl _
    · intro _; simp only [G', if_true]
section
variable {C : Cx} {A : Nat → SV} {d : Nat} {ty : TypeId} {pos : String} {af : Array Edge} {gd : Option (Nat × Bool)} {x y : Operand} {T1 : TypeId}
theorem s_loadSc (gs gT i : Nat) {n b : Nat} {T : TypeId} {bs : List Nat} {ls : List (List AV)} {l : List AV} (hgs : Nat.ble C.N gs = true) (hTN : Nat.ble C.N gT = true) (hTK : Nat.blt gT C.K = true) (hsT : Nat.beq gs gT = false) (hN : Nat.blt d C.N = true)
    (hx : opV A x = some (.v (.pointer (some ⟨b, 2, none⟩)))) (hg : A gs = .gen (ScF T n bs ls bs.length)) (hb : bs[i]? = some b) (hl : ls[i]? = some l) (hq : xd C.P T1 = some false) (hn : yJ C.P T1 = some 1) :
    zv C ⟨some d, .load T1 x, ty, pos, af, gd⟩ (gs :: opR x) [gT] A [(d, .slg gT n l), (gT, .tok n l), (gs, .gen (ScF T n bs ls i))] := by
  intro A' a w hR hF ⟨G, S⟩
  have hgA : A' gs = .gen (ScF T n bs ls bs.length) := (hR gs List.mem_cons_self).trans hg
  rw [← yU (fun k hk => hR k (List.mem_cons_of_mem _ hk))] at hx
  have hev := u9 (S.opV hx) rfl
  have hN' : d < C.N := by simpa [Nat.blt_eq] using hN
  have hgsN := Nat.le_of_ble_eq_true hgs
  have hTN' := Nat.le_of_ble_eq_true hTN
  have hds : gs ≠ d := by omega
  have hdT : gT ≠ d := by omega
  have hne : gs ≠ gT := by rintro rfl; rw [Nat.beq_refl] at hsT; cases hsT
  let A0 : Nat → SV := fun k => if k = d then .dead else A' k
  have S0 : SimG C A0 G a w := S.drop fun k => by by_cases h : k = d <;> simp [A0, h]
  have hfr : ∀ k, k ≠ gT → noG [gT] (A0 k) = true := by
    intro k h1
    by_cases h2 : k = d
    · simp [A0, h2, noG]
    · by_cases h3 : k = gs
      · have : A0 k = .gen (ScF T n bs ls bs.length) := by simp only [A0, if_neg h2]; rw [h3]; exact hgA
        rw [this]; rfl
      · have := hF k (by simp only [has, zM (Ne.symm h1), zM (Ne.symm h2), zM (Ne.symm h3)]; rfl)
        simpa [A0, h2] using this
  have hA0 : A0 gs = .gen (ScF T n bs ls bs.length) := by simp only [A0, if_neg hds]; exact hgA
  obtain ⟨G', v, S1, hc, hv⟩ := S0.takeRow hTN' (by simpa [Nat.blt_eq] using hTK) hne hA0 hb hl hfr
  have S2 := S1.put hN' hv
  have hrun : (execOp a.eval ⟨some d, .load T1 x, ty, pos, af, gd⟩).run C.P w = .ok (.value v) w := by
    simp only [execOp, Instr.loadAt, Instr.sureAddr, hev, Sem.run_bind, Sem.run_pure, Result.andThen_ok]
    rw [vh (cs := [v]) hq hn (fun _ => rfl) (fun j hj => by
      have hj0 : j = 0 := by simpa using hj
      subst hj0; simpa using hc)]
    rfl
  unfold Oper.wp
  rw [hrun, Oper.upon_value]
  refine ⟨G', ?_⟩
  have e : upd (upd A0 [(gT, .tok n l), (gs, .gen (ScF T n bs ls i))]) [(d, .slg gT n l)] = upd A' [(d, .slg gT n l), (gT, .tok n l), (gs, .gen (ScF T n bs ls i))] := by
    funext k
    simp only [upd]
    by_cases h1 : d = k
    · subst h1; rw [Nat.beq_refl]; rfl
    · rw [zM h1]
      cases Nat.beq gT k
      · cases Nat.beq gs k
        · simp only [cond_false, A0, if_neg (Ne.symm h1)]
        · rfl
      · rfl
  rw [← e]; exact S2
end
theorem SimG.turnB {C : Cx} {A : Nat → SV} {G : Gh} {a : Act} {w : World} (S : SimG C A G a w) {g b0 : Nat} {X' : SV} {o' : Obj}
    (how : Owned C.w0 C.E w b0) (hni : ∀ o, ¬ G.I b0 o) (hown : zm G g b0 (A g)) (hown' : ∀ b, zm G g b X' → zm G g b (A g))
    (hnew : Le w G.I (yR w b0 o') G.I → Holds C.w0 C.E G a (yR w b0 o') g X') :
    SimG C (upd A [(g, X')]) G a (yR w b0 o') := by
  have hlt : b0 < w.heap.size := how.2
  have hle : Le w G.I (yR w b0 o') G.I := fun b o h => ⟨h, by
    have : b ≠ b0 := by rintro rfl; exact hni o h
    exact y7 (xJ this)⟩
  have hu : ∀ k, upd A [(g, X')] k = if k = g then X' else A k := wO A g X'
  have conv : ∀ k b, zm G k b (upd A [(g, X')] k) → zm G k b (A k) := by
    intro k b h
    rw [hu] at h
    split at h
    · rename_i hk; subst hk; exact hown' b h
    · exact h
  refine ⟨S.os, S.tape, S.output, by rw [yT]; exact S.size, fun k h1 h2 => ?_, S.sub.trans hle, S.rel, S.glob.mono hle, S.new, fun b o h => by rw [yT]; exact S.val b o h, S.nts, S.dfs, fun k => ?_, fun k j b hkj h1 h2 => S.apart k j b hkj (conv k b h1) (conv j b h2)⟩
  · have : k ≠ b0 := by
      rintro rfl
      rcases how.1 with h | h
      · omega
      · exact h2 h
    rw [xJ this]; exact S.block k h1 h2
  · rw [hu]
    split
    · rename_i hk; subst hk; exact hnew hle
    · rename_i hk
      refine (S.holds k).keep hle (GRel.refl G) (xa.1 _) (by rw [yT]; exact Nat.le_refl _) (fun h => ⟨h, rfl⟩) (fun _ => ⟨rfl, rfl, rfl⟩) (fun b hb => ⟨?_, fun _ h => h⟩)
      have : b ≠ b0 := by
        rintro rfl
        exact S.apart k g _ hk hb hown
      exact xJ this
end Go.Al
namespace Go.Al
open Go.RowKit
theorem TokS.own {w0 : World} {E : Nat → Prop} {I : Nat → Nat → Prop} {w : World} {v : Value} {n : Nat} {l : List AV} (h : TokS w0 E I w v n l) : TokS w (fun _ => True) I w v n l ∧ ∀ b, b ∈ hdrB v → Owned w0 E w b := by
  rcases h with ⟨rfl, rfl⟩ | ⟨b, cap, h1, h2, h3, h4, h5, h6, h7⟩
  · exact ⟨.inl ⟨rfl, rfl⟩, fun b hb => by cases hb⟩
  · refine ⟨.inr ⟨b, cap, h1, h2, h3, h4, ⟨.inr trivial, h5.2⟩, h6, h7⟩, fun c hc => ?_⟩
    rw [h1] at hc
    cases List.mem_singleton.1 hc
    exact h5
theorem hdrB_mem {v : Value} {c : Nat} (h : c ∈ hdrB v) : ∃ a n m, v = .slice (some a) n m ∧ a.block = c := by
  unfold hdrB at h
  split at h
  · exact ⟨_, _, _, rfl, (List.mem_singleton.1 h).symm⟩
  · cases h
theorem SimG.putRow {C : Cx} {A : Nat → SV} {G : Gh} {a : Act} {w : World} (S : SimG C A G a w) {gs gT n i b : Nat} {T : TypeId} {bs : List Nat} {ls : List (List AV)} {l' : List AV}
    (hgK : gs < C.K) (h3 : gs ≠ gT) (hg : A gs = .gen (ScF T n bs ls i)) (hT : A gT = .tok n l') (hb : bs[i]? = some b) :
    ∃ fr v0, w.heap[b]? = some (.cells #[.string .empty, .string .empty, v0] T fr) ∧ sC fr 3 ∧
      ∃ G', SimG C (upd A [(gT, .dead), (gs, .gen (ScF T n bs (ls.set i l') bs.length))]) G' a (yR w b (.cells #[.string .empty, .string .empty, G.cur gT] T fr)) := by
  have hgs := S.holds gs
  rw [hg] at hgs
  simp only [Holds] at hgs
  obtain ⟨hown, hlen, hll, hok, hhole, hap, hself⟩ := hgs
  obtain ⟨k1, ⟨fr, v0, k2, k3⟩, k4⟩ := hhole b hb
  have hi : i < bs.length := (List.getElem?_eq_some_iff.1 hb).1
  obtain ⟨vi, hvi⟩ : ∃ v, (tupV (G.cur gs))[i]? = some v := ⟨_, List.getElem?_eq_getElem (by omega)⟩
  have hbo := hown b ⟨i, b, vi, hb, hvi, .inl rfl⟩
  have hgo : ∀ {j c : Nat} {v : Value} {c' : Nat}, bs[j]? = some c → (tupV (G.cur gs))[j]? = some v → (c' = c ∨ (j ≠ i ∧ c' ∈ hdrB v)) → zm G gs c' (A gs) := fun h1 h2 h3 => by rw [hg]; exact ⟨_, _, _, h1, h2, h3⟩
  have htok := S.holds gT
  rw [hT] at htok
  simp only [Holds] at htok
  obtain ⟨htl, hts⟩ := htok
  obtain ⟨hts1, hts2⟩ := hts.own
  have hTo : ∀ c, c ∈ hdrB (G.cur gT) → zm G gT c (A gT) := fun c hc => by
    rw [hT]; exact hdrB_mem hc
  have hTb : ∀ {j c : Nat} {v : Value} {c' : Nat}, bs[j]? = some c → (tupV (G.cur gs))[j]? = some v → (c' = c ∨ (j ≠ i ∧ c' ∈ hdrB v)) → c' ∈ hdrB (G.cur gT) → False := fun h1 h2 h4 h5 => S.apart gs gT _ h3 (hgo h1 h2 h4) (hTo _ h5)
  refine ⟨fr, v0, k2, k3, ?_⟩
  have hne : ∀ {k : Nat}, k ≠ b → (yR w b (.cells #[.string .empty, .string .empty, G.cur gT] T fr)).heap[k]? = w.heap[k]? := fun h => xJ h
  have S1 := S.turnB (g := gs) (b0 := b) (X' := .gen (ScF T n bs ls i)) (o' := .cells #[.string .empty, .string .empty, G.cur gT] T fr) hbo k4 (hgo hb hvi (.inl rfl)) (fun c h => by rw [hg]; exact h) (fun hle => by
    simp only [Holds]
    refine ⟨fun c hc => ⟨(hown c hc).1, by rw [yT]; exact (hown c hc).2⟩, hlen, hll, fun j c v l hj hc hv hl => (hok j c v l hj hc hv hl).keep hle fun c2 hc2 => ⟨hne ?_, fun _ h => h⟩, fun c hc => ?_, hap, hself⟩
    · rintro rfl
      exact hap j i c _ v vi _ hj hc hb hv hvi (hc2.imp_right fun h => ⟨hj, h⟩) (.inl rfl)
    · rw [hb] at hc; cases hc
      exact ⟨by rw [yT]; exact k1, ⟨fr, _, wI k1, k3⟩, k4⟩)
  let G' : Gh := { G with cur := fun k => if k = gs then .tuple ((tupV (G.cur gs)).set i (G.cur gT)).toArray else G.cur k, len := fun k => if k = gs then G.len gs + 1 else G.len k }
  have hrel : GRel [] G G' := fun g _ => ⟨rfl, by
    by_cases e : g = gs
    · subst e; right; simp only [G', if_true]; omega
    · left; exact ⟨by simp only [G', if_neg e], by simp only [G', if_neg e]⟩⟩
  have hu : ∀ k, upd A [(gT, .dead), (gs, .gen (ScF T n bs (ls.set i l') bs.length))] k = if k = gT then .dead else if k = gs then .gen (ScF T n bs (ls.set i l') bs.length) else A k := by
    intro k
    simp only [upd]
    by_cases e3 : k = gT
    · subst e3; simp [Nat.beq_refl]
    · rw [zM (Ne.symm e3), if_neg e3]
      by_cases e4 : k = gs
      · subst e4; simp [Nat.beq_refl]
      · rw [zM (Ne.symm e4), if_neg e4]; rfl
  have hcur : tupV (G'.cur gs) = (tupV (G.cur gs)).set i (G.cur gT) := by simp only [G', if_true, tupV]
  have hget : ∀ {j : Nat} {v : Value}, ((tupV (G.cur gs)).set i (G.cur gT))[j]? = some v → (j = i ∧ v = G.cur gT) ∨ (j ≠ i ∧ (tupV (G.cur gs))[j]? = some v) := by
    intro j v h
    by_cases e : j = i
    · subst e
      rw [List.getElem?_set_self (by omega)] at h
      exact .inl ⟨rfl, (Option.some.inj h).symm⟩
    · rw [List.getElem?_set_ne (Ne.symm e)] at h
      exact .inr ⟨e, h⟩
  -- whose a block of the scopes is
  have part : ∀ {j c : Nat} {v : Value} {c' : Nat}, bs[j]? = some c → ((tupV (G.cur gs)).set i (G.cur gT))[j]? = some v → (c' = c ∨ c' ∈ hdrB v) → zm G gs c' (A gs) ∨ c' ∈ hdrB (G.cur gT) := by
    intro j c v c' hc hv hh
    rcases hget hv with ⟨rfl, rfl⟩ | ⟨hj, hv'⟩
    · rcases hh with rfl | hh
      · exact .inl (hgo hc hvi (.inl rfl))
      · exact .inr hh
    · exact .inl (hgo hc hv' (hh.imp_right fun h => ⟨hj, h⟩))
  have hw' : ∀ c, c ∈ hdrB (G.cur gT) → c ≠ b := fun c hc e => by subst e; exact hTb hb hvi (.inl rfl) hc
  have hle : Le w G.I (yR w b (.cells #[.string .empty, .string .empty, G.cur gT] T fr)) G.I := fun c o h => ⟨h, y7 (hne (by rintro rfl; exact k4 o h))⟩
  refine ⟨G', S1.anew rfl (fun g hgK' => ?_) (fun k => ?_) ?_⟩
  · have : g ≠ gs := by omega
    exact ⟨rfl, by simp only [G', if_neg this], by simp only [G', if_neg this]⟩
  · rw [hu]
    split
    · trivial
    split
    · rename_i _ e; subst e
      simp only [Holds, ScF]
      rw [hcur]
      refine ⟨?_, by rw [List.length_set]; exact hlen, by rw [List.length_set]; exact hll, ?_, ?_, ?_, ?_⟩
      · rintro c ⟨j, c', v, hc, hv, hh⟩
        have hh' : c = c' ∨ c ∈ hdrB v := hh.imp_right And.right
        rcases part hc hv hh' with h | h
        · have := (S.holds k).owned h
          exact ⟨this.1, by rw [yT]; exact this.2⟩
        · have := hts2 c h
          exact ⟨this.1, by rw [yT]; exact this.2⟩
      · intro j c v l _ hc hv hl
        rcases hget hv with ⟨rfl, rfl⟩ | ⟨hj, hv'⟩
        · rw [hb] at hc; cases hc
          rw [List.getElem?_set_self (by omega)] at hl
          cases hl
          exact ⟨by rw [yT]; exact k1, ⟨fr, wI k1, k3⟩, k4, hts1.keep hle fun c hc => ⟨hne (hw' c hc), fun _ h => h⟩⟩
        · rw [List.getElem?_set_ne (Ne.symm hj)] at hl
          refine (hok j c v l hj hc hv' hl).keep hle fun c2 hc2 => ⟨hne ?_, fun _ h => h⟩
          rintro rfl
          exact hap j i c _ v vi _ hj hc hb hv' hvi (hc2.imp_right fun h => ⟨hj, h⟩) (.inl rfl)
      · intro c hc
        rw [List.getElem?_eq_none (Nat.le_refl _)] at hc; cases hc
      · intro j j' c c' v v' bb hjj hc hc' hv hv' h1 h2
        have h1 : bb = c ∨ bb ∈ hdrB v := h1.imp_right And.right
        have h2 : bb = c' ∨ bb ∈ hdrB v' := h2.imp_right And.right
        rcases hget hv with ⟨rfl, rfl⟩ | ⟨hj, hv1⟩ <;> rcases hget hv' with ⟨e, rfl⟩ | ⟨hj', hv2⟩
        · exact hjj e.symm
        · rcases h1 with rfl | h1
          · exact hap j j' _ c' vi v' _ hjj hc hc' hvi hv2 (.inl rfl) (h2.imp_right fun h => ⟨hj', h⟩)
          · exact hTb hc' hv2 (h2.imp_right fun h => ⟨hj', h⟩) h1
        · subst e
          rcases h2 with rfl | h2
          · exact hap j j' c _ v vi _ hjj hc hc' hv1 hvi (h1.imp_right fun h => ⟨hj, h⟩) (.inl rfl)
          · exact hTb hc hv1 (h1.imp_right fun h => ⟨hj, h⟩) h2
        · exact hap j j' c c' v v' bb hjj hc hc' hv1 hv2 (h1.imp_right fun h => ⟨hj, h⟩) (h2.imp_right fun h => ⟨hj', h⟩)
      · intro j c v _ hc hv
        rcases hget hv with ⟨rfl, rfl⟩ | ⟨hj, hv1⟩
        · rw [hb] at hc; cases hc
          exact fun h => hw' _ h rfl
        · exact hself j c v hj hc hv1
    · rename_i n3 n4
      have hk := S1.holds k
      rw [show upd A [(gs, .gen (ScF T n bs ls i))] k = A k by rw [wO, if_neg n4]] at hk
      exact hk.keep (Gs := []) (Le.refl _ _) hrel (xa.1 _) (Nat.le_refl _) (fun h => ⟨h, rfl⟩) (fun _ => ⟨rfl, by simp only [G', if_neg n4], by simp only [G', if_neg n4]⟩) (fun c _ => ⟨rfl, fun _ h => h⟩)
  · have conv : ∀ k c, zm G' k c (upd A [(gT, .dead), (gs, .gen (ScF T n bs (ls.set i l') bs.length))] k) → (k = gs ∧ (zm G gs c (A gs) ∨ zm G gT c (A gT))) ∨ (k ≠ gs ∧ k ≠ gT ∧ zm G k c (A k)) := by
      intro k c hc
      rw [hu] at hc
      split at hc
      · simp only [zm] at hc
      split at hc
      · rename_i _ e; subst e
        simp only [zm, ScF] at hc
        rw [hcur] at hc
        obtain ⟨j, c', v, h1, h2, hh⟩ := hc
        exact .inl ⟨rfl, (part h1 h2 (hh.imp_right And.right)).imp_right (hTo c)⟩
      · rename_i n3 n4
        exact .inr ⟨n4, n3, (uf (G1 := G) (G2 := G') (k := k) (b := c) (x := A k) ⟨rfl, by simp only [G', if_neg n4], by simp only [G', if_neg n4]⟩).1 hc⟩
    intro k j c hkj hk hj
    rcases conv k c hk with ⟨pk, p⟩ | ⟨pn, pn', p⟩ <;> rcases conv j c hj with ⟨qk, q⟩ | ⟨qn, qn', q⟩
    · exact hkj (pk.trans qk.symm)
    · rcases p with p | p
      · exact S.apart gs j c (Ne.symm qn) p q
      · exact S.apart gT j c (Ne.symm qn') p q
    · rcases q with q | q
      · exact S.apart k gs c pn p q
      · exact S.apart k gT c pn' p q
    · exact S.apart k j c hkj p q
end Go.Al
namespace Go.Al
open Go.RowKit
theorem SimG.tellKs {C : Cx} {A A' : Nat → SV} {G G' : Gh} {a : Act} {w : World} (S : SimG C A G a w) (ks Gs : List Nat)
    (hle : Le w G.I w G'.I) (hrel : GRel Gs G G') (hK : ∀ g, C.K ≤ g → Turns G G' g)
    (hsame : ∀ k, k ∉ ks → A' k = A k ∧ G'.blk k = G.blk k ∧ G'.cur k = G.cur k ∧ G'.len k = G.len k)
    (hfresh : ∀ k, k ∉ ks → noG Gs (A k) = true)
    (hI : ∀ b o, G'.I b o → G.I b o ∨ ∃ k, k ∈ ks ∧ zm G k b (A k))
    (hown : ∀ k, k ∈ ks → ∀ b, zm G' k b (A' k) → ∃ j, j ∈ ks ∧ zm G j b (A j))
    (hh : ∀ k, k ∈ ks → Holds C.w0 C.E G' a w k (A' k))
    (hap : ∀ k j b, k ∈ ks → j ∈ ks → k ≠ j → zm G' k b (A' k) → zm G' j b (A' j) → False) : SimG C A' G' a w := by
  have hnot : ∀ k b, k ∉ ks → zm G k b (A k) → ∀ j, j ∈ ks → ¬ zm G j b (A j) := fun k b hk h j hj h' => S.apart k j b (by rintro rfl; exact hk hj) h h'
  have hoff : ∀ k b, k ∉ ks → zm G' k b (A' k) → zm G k b (A k) := fun k b hk h => by
    obtain ⟨e, e1, e2, e3⟩ := hsame k hk
    rw [e] at h; exact (uf ⟨e1, e2, e3⟩).1 h
  refine ⟨S.os, S.tape, S.output, S.size, S.block, S.sub.trans hle, fun g hg => (S.rel g hg).trans (hK g hg), S.glob.mono hle, fun b o h => ?_, fun b o h => ?_, S.nts, S.dfs, fun k => ?_, fun k j b hkj h1 h2 => ?_⟩
  · rcases hI b o h with h | ⟨k, _, h⟩
    · exact S.new b o h
    · exact .inr (((S.holds k).owned h).1)
  · rcases hI b o h with h | ⟨k, _, h⟩
    · exact S.val b o h
    · exact vr S h
  · by_cases hk : k ∈ ks
    · exact hh k hk
    · obtain ⟨e, e1, e2, e3⟩ := hsame k hk
      rw [e]
      exact (S.holds k).keep hle hrel (hfresh k hk) (Nat.le_refl _) (fun h => ⟨h, rfl⟩) (fun _ => ⟨e1, e2, e3⟩) (fun b hb => ⟨rfl, fun o ho => by
        rcases hI b o ho with h | ⟨j, hj, h⟩
        · exact h
        · exact absurd h (hnot k b hk hb j hj)⟩)
  · by_cases hk : k ∈ ks <;> by_cases hj : j ∈ ks
    · exact hap k j b hk hj hkj h1 h2
    · obtain ⟨i, hi, h3⟩ := hown k hk b h1
      exact hnot j b hj (hoff j b hj h2) i hi h3
    · obtain ⟨i, hi, h3⟩ := hown j hj b h2
      exact hnot k b hk (hoff k b hk h1) i hi h3
    · exact S.apart k j b hkj (hoff k b hk h1) (hoff j b hj h2)
section
variable {C : Cx} {A : Nat → SV} {d : Nat} {ty : TypeId} {pos : String} {af : Array Edge} {gd : Option (Nat × Bool)} {x y : Operand} {T : TypeId}
theorem s_nilRaw {b o : Nat} (hN : Nat.blt d C.N = true) (hx : opV A x = some (.v (.pointer (some ⟨b, o, none⟩)))) :
    zv C ⟨some d, .nilCheck x, ty, pos, af, gd⟩ (opR x) [] A [(d, .imm (.v (.pointer (some ⟨b, o, none⟩))))] :=
  zv.op1 rfl hN hx fun w I ρ h => by
    have e := u9 h rfl
    exact ⟨ρ x, by simp only [execOp, e]; rfl, h⟩
theorem rD {b p o n : Nat} {f : Nat} {q : Bool} (hN : Nat.blt d C.N = true) (hx : opV A x = some (.v (.pointer (some ⟨b, p, none⟩)))) (hf : fieldAt C.P T f o n q) (h0 : Nat.blt 0 n = true) :
    zv C ⟨some d, .fieldAddr T x f, ty, pos, af, gd⟩ (opR x) [] A [(d, .imm (.v (.pointer (some ⟨b, p + o, none⟩))))] := by
  refine zv.op1 rfl hN hx fun w I ρ h => ?_
  have e := u9 h rfl
  obtain ⟨fs, fld, hU, hfs, hoff, hn, hq⟩ := hf
  have hn0 : n ≠ 0 := by have : 0 < n := by simpa [Nat.blt_eq] using h0
                         omega
  refine ⟨_, ?_, xm w I rfl⟩
  simp only [execOp, Instr.fieldAt, Instr.sureAddr, e, Sem.run_bind, za hU, Result.andThen_ok, hfs, Sem.run_pure, fieldPlace, yI hn, hn0, if_false, xX, hoff]
theorem s_storeSc (gs gT i : Nat) {n b : Nat} {T0 : TypeId} {bs : List Nat} {ls : List (List AV)} {l' : List AV} (hgK : Nat.blt gs C.K = true) (hsT : Nat.beq gs gT = false)
    (hx : opV A x = some (.v (.pointer (some ⟨b, 2, none⟩)))) (hy : opS A y = .slg gT n l') (hT : A gT = .tok n l') (hg : A gs = .gen (ScF T0 n bs ls i)) (hb : bs[i]? = some b) (hn : yJ C.P T = some 1) :
    zv C ⟨none, .store T x y, ty, pos, af, gd⟩ (gs :: gT :: (opR x ++ opR y)) [] A [(gT, .dead), (gs, .gen (ScF T0 n bs (ls.set i l') bs.length))] := by
  intro A' a w hR hF ⟨G, S⟩
  have hgA : A' gs = .gen (ScF T0 n bs ls i) := (hR gs List.mem_cons_self).trans hg
  have hTA : A' gT = .tok n l' := (hR gT (List.mem_cons_of_mem _ List.mem_cons_self)).trans hT
  rw [← yU (fun k hk => hR k (List.mem_cons_of_mem _ (List.mem_cons_of_mem _ (List.mem_append_left _ hk))))] at hx
  rw [← yd (fun k hk => hR k (List.mem_cons_of_mem _ (List.mem_cons_of_mem _ (List.mem_append_right _ hk))))] at hy
  have hev := u9 (S.opV hx) rfl
  obtain ⟨c, hc1, hc2⟩ := S.opS hy rfl
  simp only [RepS] at hc1
  obtain ⟨v, rfl, hv1, hv2, hv3⟩ := hc1
  have htok := S.holds gT
  rw [hTA] at htok
  simp only [Holds] at htok
  have hcur : v = G.cur gT := hv3 htok.1.symm
  have hne : gs ≠ gT := by rintro rfl; rw [Nat.beq_refl] at hsT; cases hsT
  obtain ⟨fr, v0, k2, k3, G', S1⟩ := S.putRow (by simpa [Nat.blt_eq] using hgK) hne hgA hTA hb
  have hpl : [v].all plain = true := RepC.plain _ _ hv1
  have hvy : a.eval y = v := hc2
  have hcl : v.cells.toList = [v] := by
    have := tP hv1
    simpa [mkV, AV.isAgg] using this
  have hrun : (storeVar T ⟨b, 2, none⟩ (a.eval y)).run C.P w = .ok () (yR w b (.cells #[.string .empty, .string .empty, G.cur gT] T0 fr)) := by
    simp only [storeVar, Sem.run_bind, yI hn, Result.andThen_ok]
    have hsz : (a.eval y).cells.size = 1 := by rw [hvy, ← Array.length_toList, hcl]; rfl
    rw [if_neg (by omega), hvy, hcl]
    have := wY (P := C.P) (b := b) (o := 2) [v] w _ k2 k3 (Nat.le_refl _) hpl
    rw [this, hcur]; rfl
  unfold Oper.wp
  simp only [execOp, Instr.storeAt, Instr.sureAddr, hev, Sem.run_bind, Sem.run_pure, Result.andThen_ok, hrun]
  rw [Oper.upon_skip]
  exact ⟨G', S1⟩
end
end Go.Al
namespace Go.Al
open Go.RowKit
theorem has_off {l : List (Nat × SV)} {k : Nat} (h : k ∉ xS l) : has l k = false := by
  cases hb : has l k
  · rfl
  · exact absurd ((sg l k).1 hb) h
theorem vm {A : Nat → SV} {l : List (Nat × SV)} {k : Nat} (h : k ∉ xS l) : upd A l k = A k := vM A l k (has_off h)
def buildSV (pl : Nat → Option (Nat × Nat)) : List (Nat × SV) → SV → Option SV
  | [], X => some X
  | (i, v) :: ps, X => match pl i with
    | some (off, n) => bif Nat.beq v.width n then (match setS 8 X off v with | some X' => buildSV pl ps X' | none => none) else none
    | none => none
def opSv (A : Nat → SV) (xs : List (Nat × Operand)) : List (Nat × SV) := xs.map fun p => (p.1, opS A p.2)
theorem opSv_congr {A A' : Nat → SV} : ∀ {xs : List (Nat × Operand)}, (∀ k ∈ opPRs xs, A' k = A k) → opSv A' xs = opSv A xs
  | [], _ => rfl
  | (i, x) :: xs, h => by
    simp only [opSv, List.map_cons]
    have h2 := opSv_congr (xs := xs) (fun k hk => h k (List.mem_append_right _ hk))
    simp only [opSv] at h2
    rw [yd (fun k hk => h k (List.mem_append_left _ hk)), h2]
theorem run_fillSV {w : World} {G : Gh} {pl : Nat → Option (Nat × Nat)} {ρ : Operand → Value} : ∀ (ps : List (Nat × Operand)) (qs : List (Nat × SV)) (cs : Array Value) (X Y : SV),
    (∀ i : Nat, ∀ x : Operand, ∀ j : Nat, ps[j]? = some (i, x) → ∃ v, qs[j]? = some (i, v) ∧ ValS w G v (ρ x)) → qs.length = ps.length → RepS w G X cs.toList → buildSV pl qs X = some Y →
    ∃ cs', Instr.fill pl cs (ps.map fun p => (p.1, ρ p.2)) = some cs' ∧ RepS w G Y cs'.toList
  | [], qs, cs, X, Y, _, hl, hX, hb => by
    cases qs with
    | nil => simp only [buildSV] at hb; cases hb; exact ⟨cs, rfl, hX⟩
    | cons q qs => simp at hl
  | (i, x) :: ps, qs, cs, X, Y, h, hl, hX, hb => by
    obtain ⟨v, h1, h2⟩ := h i x 0 rfl
    cases qs with
    | nil => simp at h1
    | cons q qs =>
      simp at h1; subst h1
      simp only [buildSV] at hb
      cases hpl : pl i with
      | none => rw [hpl] at hb; cases hb
      | some on =>
        obtain ⟨off, n⟩ := on
        rw [hpl] at hb
        simp only [] at hb
        cases hw : Nat.beq v.width n
        · rw [hw] at hb; cases hb
        · rw [hw] at hb
          simp only [cond_true] at hb
          cases hs : setS 8 X off v with
          | none => rw [hs] at hb; cases hb
          | some X' =>
            rw [hs] at hb
            simp only [] at hb
            have hv : RepS w G v (ρ x).cells.toList := h2.cells
            have hvl := RepS.len _ _ hv
            simp only [Array.length_toList] at hvl
            have hn := Nat.eq_of_beq_eq_true hw
            obtain ⟨m1, m2⟩ := tV hv 8 X cs.toList off X' hX hs
            simp only [Array.length_toList] at m2
            have e : (ρ x).cells.zipIdx.foldl (fun (cs : Array Value) (p : Value × Nat) => cs.setIfInBounds (off + p.2) p.1) cs = y3 cs off (ρ x).cells.toList := by
              rw [← Array.foldl_toList, Array.toList_zipIdx]
              exact ua _ cs off 0
            obtain ⟨cs', m3, m4⟩ := run_fillSV ps qs (y3 cs off (ρ x).cells.toList) X' Y (fun i x j hj => h i x (j + 1) (by simpa using hj)) (by simpa using hl)
              (by rw [xQ _ _ _ (by simpa using m2)]; exact m1) hb
            refine ⟨cs', ?_, m4⟩
            simp only [List.map_cons, Instr.fill, hpl]
            rw [if_neg (by simp; omega)]
            rw [e]; exact m3
section
variable {C : Cx} {A : Nat → SV} {d : Nat} {ty : TypeId} {pos : String} {af : Array Edge} {gd : Option (Nat × Bool)} {x y : Operand} {T T' : TypeId}
theorem s_buildSV {fs : Array Field} {pl : List (Nat × Nat)} {parts : Array (Nat × Operand)} {X0 : AV} {Y : List SV} (hN : Nat.blt d C.N = true) (hz : yu C.P T X0) (hU : C.P.underlying T = some (.struct fs)) (hpl : wA C.P fs.toList = some pl)
    (hp : (opSv A parts.toList).all (fun p => p.2.slotty) = true) (hb : buildSV (pl[·]?) (opSv A parts.toList) (.imm X0) = some (.agg Y)) :
    zv C ⟨some d, .build T parts, ty, pos, af, gd⟩ (opPRs parts.toList) [] A [(d, .agg Y)] := by
  refine zv.value rfl hN fun A' G a w hR S => ?_
  rw [← opSv_congr hR] at hp hb
  obtain ⟨z, hz1, hz2⟩ := hz
  have hp' := List.all_eq_true.1 hp
  have h2 : ∀ i : Nat, ∀ x : Operand, ∀ j : Nat, parts.toList[j]? = some (i, x) → ∃ v, (opSv A' parts.toList)[j]? = some (i, v) ∧ ValS w G v (a.eval x) := by
    intro i x j hj
    refine ⟨opS A' x, by simp only [opSv, List.getElem?_map, hj, Option.map_some], ?_⟩
    have hs := hp' (i, opS A' x) (by simp only [opSv]; exact List.mem_map.2 ⟨(i, x), List.mem_of_getElem? hj, rfl⟩)
    exact uW hs (S.opS rfl (SV.slotty_res hs))
  obtain ⟨cs', h3, h4⟩ := run_fillSV (w := w) (G := G) (ρ := a.eval) parts.toList (opSv A' parts.toList) z.cells (.imm X0) (.agg Y) h2 (by simp [opSv]) (by simpa only [RepS] using wJ X0 _ hz2) hb
  refine ⟨.agg cs', ?_, ⟨cs'.toList, h4, by simp [mkS, SV.isAgg]⟩⟩
  simp only [execOp, Instr.build, Sem.run_bind, xB hz1, Result.andThen_ok, za hU, Sem.run_pure]
  rw [Array.mapM_eq_mapM_toList]
  simp only [Sem.run_map, run_places _ _ hpl, Result.andThen_ok]
  have e : (parts.map fun (p : Nat × Operand) => (p.1, a.eval p.2)).toList = parts.toList.map fun p => (p.1, a.eval p.2) := by simp
  simp only [e]
  have e2 : (fun (i : Nat) => (pl.toArray)[i]?) = (fun i => pl[i]?) := by funext i; simp
  simp only [e2, h3]
  rfl
theorem run_buildSlice1 {P : Program} {w : World} {T el : TypeId} {n : Nat} {z v : Value} (hT : P.underlying T = some (.slice el)) (hn : yJ P el = some n) (hz : wS P el = some z) (hzn : z.cells.size = n) (h0 : 0 < n) (hb : n ≤ 16777216) (hv : v.cells.size = n) :
    (Instr.buildSlice T 1 #[(0, v)]).run P w = .ok (.slice (some ⟨w.heap.size, 0, none⟩) 1 1) (w.alloc (.cells v.cells el)) := by
  have hcs : ((Array.range (1 * n)).map (z.cells[· % z.cells.size]!)).size = n := by simp
  have hne : ¬ (1 * n = 0) := by omega
  simp only [Instr.buildSlice, Sem.run_bind, za hT, Result.andThen_ok, yI hn]
  rw [if_neg (by omega)]
  simp only [Sem.run_bind, Sem.run_pure, Result.andThen_ok, hne, if_false, xB hz]
  have e : v.cells.zipIdx.foldl (fun (cs : Array Value) (p : Value × Nat) => cs.setIfInBounds (0 * n + p.2) p.1) ((Array.range (1 * n)).map (z.cells[· % z.cells.size]!)) = v.cells := by
    rw [← Array.foldl_toList, Array.toList_zipIdx, ua]
    apply Array.ext'
    rw [xQ _ _ _ (by rw [hcs, Array.length_toList]; omega)]
    simp [hv]
  have hf : Instr.fill (fun i => some (i * n, n)) ((Array.range (1 * n)).map (z.cells[· % z.cells.size]!)) [(0, v)] = some v.cells := by
    simp only [Instr.fill]
    rw [if_neg (by rw [hv]; simp), e]
  simp only [hf]
  simp only [Sem.run_bind, newRow, run_newObj, Result.andThen_ok, Sem.run_pure]
  rfl
theorem s_buildOwn1 (g : Nat) {el : TypeId} {n : Nat} {X0 : AV} {Y : SV} (hgN : Nat.ble C.N g = true) (hgK : Nat.blt g C.K = true) (hN : Nat.blt d C.N = true) (hT : C.P.underlying T = some (.slice el)) (hn : yJ C.P el = some n) (hz : yu C.P el X0) (hX : Nat.beq X0.width n = true)
    (h0 : Nat.blt 0 n = true) (hb : Nat.ble n 16777216 = true) (hy : opS A x = Y) (hs : Y.slotty = true) (hw : Nat.beq Y.width n = true) (hf : noG [g] Y = true) :
    zv C ⟨some d, .buildSlice T 1 #[(0, x)], ty, pos, af, gd⟩ (opR x) [g] A [(g, .box el Y), (d, .osl g 0 1 1)] := by
  intro A' a w hR hF ⟨G, S⟩
  have hN' : d < C.N := by simpa [Nat.blt_eq] using hN
  have hgd : g ≠ d := by have := Nat.le_of_ble_eq_true hgN; omega
  have hv : ValS w G Y (a.eval x) := uW hs (S.opS ((yd hR).trans hy) (SV.slotty_res hs))
  obtain ⟨z, hz1, hz2⟩ := hz
  have hzl : z.cells.size = n := by
    have := RepC.len X0 _ (wJ (w := w) (I := G.I) X0 _ hz2)
    rw [← Array.length_toList, this]; exact Nat.eq_of_beq_eq_true hX
  have hvc := hv.cells
  have hvl : (a.eval x).cells.size = n := by
    have := RepS.len _ _ hvc
    rw [← Array.length_toList, this]; exact Nat.eq_of_beq_eq_true hw
  have k1 := run_buildSlice1 (w := w) hT hn hz1 hzl (by simpa [Nat.blt_eq] using h0) (Nat.le_of_ble_eq_true hb) hvl
  have hb1 := S.allocBox (T := el) (cs := (a.eval x).cells) hgd (by simpa [Nat.blt_eq] using hgK) hN' hvc hf (fun k hk => hF k (by simpa only [has] using hk))
  obtain ⟨G1, S1⟩ := hb1
  have hgA : G1.blk g = w.heap.size := by
    have h1 := S1.holds d
    have e : upd A' [(g, .box el Y), (d, .ptr g 0)] d = .ptr g 0 := by simp only [upd]; rw [zM hgd]; simp
    rw [e] at h1
    obtain ⟨_, c, h2, h3⟩ := h1
    simp only [RepS] at h2
    rw [h2] at h3
    have e2 : (a.put (some d) (.pointer (some ⟨w.heap.size, 0, none⟩))).tmps.getD d Go.undef = .pointer (some ⟨w.heap.size, 0, none⟩) := by simp [Act.put, S.nts, hN']
    rw [e2] at h3
    simp only [mkS, SV.isAgg, Bool.false_eq_true, if_false, List.headD_cons, Value.pointer.injEq, Option.some.injEq, Addr.mk.injEq] at h3
    exact h3.1.symm
  unfold Oper.wp
  have hrun : (execOp a.eval ⟨some d, .buildSlice T 1 #[(0, x)], ty, pos, af, gd⟩).run C.P w = .ok (.value (.slice (some ⟨w.heap.size, 0, none⟩) 1 1)) (w.alloc (.cells (a.eval x).cells el)) := by
    simp only [execOp, Sem.run_bind]
    have e : (#[(0, x)] : Array (Nat × Operand)).map (fun (p : Nat × Operand) => (p.1, a.eval p.2)) = #[(0, a.eval x)] := by simp
    simp only [e, k1, Result.andThen_ok, Sem.run_pure]
  rw [hrun, Oper.upon_value]
  have S2 := S1.put (d := d) hN' (x := .osl g 0 1 1) (v := .slice (some ⟨w.heap.size, 0, none⟩) 1 1) ⟨[.slice (some ⟨w.heap.size, 0, none⟩) 1 1], by simp only [RepS, hgA], rfl⟩
  have hu : upd (upd A' [(g, .box el Y), (d, .ptr g 0)]) [(d, .osl g 0 1 1)] = upd A' [(g, .box el Y), (d, .osl g 0 1 1)] := by
    funext k
    simp only [upd]
    by_cases h1 : g = k
    · subst h1; rw [zM (Ne.symm hgd), Nat.beq_refl]; rfl
    · rw [zM h1]
      by_cases h2 : d = k
      · subst h2; rw [Nat.beq_refl]; rfl
      · rw [zM h2]; rfl
  rw [hu, Act.put_put] at S2
  exact ⟨G1, S2⟩
end
end Go.Al
namespace Go.Al
open Go.RowKit
def resX (e : List AV) (b : Nat) : AV := .agg [.sl 7 e, .v (.slice (some ⟨b, 0, none⟩) 1 1)]
def uN (l : List AV) : List AV := l.map fun _ => .agg []
theorem repM_unitsA {w : World} {I : Nat → Nat → Prop} : ∀ (l : List AV) (b o : Nat), RepM w I 0 (uN l) b o
  | [], _, _ => by simp only [uN, List.map_nil, RepM]
  | x :: l, b, o => by
    simp only [uN, List.map_cons, RepM]
    exact ⟨⟨[], rfl, by simp only [RepC, xH], fun j hj => absurd hj (by simp)⟩, repM_unitsA l b (o + 0)⟩
def ZF (T : TypeId) (n b : Nat) : Nat → Value → Nat → HRes := fun _ _ _ =>
  { own := fun c => c = b
    ok := fun w I => ScOk T n w I b (.slice none 0 0) []
    keep := fun w I w' I' h hle ho => h.keep hle fun c hc => ho c (hc.elim id (fun h => by cases h))
    kind := fun w I c o h hc ho => by
      subst hc
      obtain ⟨_, ⟨fr, h2, _⟩, _⟩ := h
      rw [h2] at ho; cases ho; rfl }
def OutF (T : TypeId) (n : Nat) (rows e : List AV) : Nat → Value → Nat → HRes := fun blk cur len =>
  { own := fun c => c = blk ∨ c ∈ hdrB cur
    ok := fun w I => ScOk T n w I blk (.slice none 0 0) [] ∧ len = rows.length + 1 ∧ TokS w (fun _ => True) I w cur 2 (rows ++ [resX e blk]) ∧ blk ∉ hdrB cur
    keep := fun w I w' I' h hle ho => ⟨h.1.keep hle fun c hc => ho c (.inl (hc.elim id (fun h => by cases h))), h.2.1, h.2.2.1.keep hle fun c hc => ho c (.inr hc), h.2.2.2⟩
    kind := fun w I c o h hc ho => by
      rcases hc with rfl | hc
      · obtain ⟨_, ⟨fr, h2, _⟩, _⟩ := h.1
        rw [h2] at ho; cases ho; rfl
      · exact h.2.2.1.kind hc ho }
def zSc : AV := .agg [.v (.string .empty), .v (.string .empty), .v (.slice none 0 0)]
section
variable {C : Cx} {A : Nat → SV} {d : Nat} {ty : TypeId} {pos : String} {af : Array Edge} {gd : Option (Nat × Bool)} {T T' : TypeId}
theorem s_appendG (go' m : Nat) {kx ky go gz gx by_ : Nat} {rows e : List AV} {TS TR el T1 : TypeId} {z : Value}
    (hN : Nat.blt d C.N = true) (hkx : Nat.blt kx C.N = true) (hky : Nat.blt ky C.N = true) (hxy : Nat.beq kx ky = false) (hdy : Nat.beq d ky = false) (hgs : [go', go, gz, gx].all (Nat.ble C.N ·) = true) (hgK : Nat.blt go' C.K = true) (hdis : yq [go', go, gz, gx] = true)
    (hx : A kx = .slg go 2 rows) (hg : A go = .tok 2 rows) (hy : A ky = .osl gx 0 1 1) (hgx : A gx = .box TR (.agg [.imm (.sl 7 e), .osl gz 0 1 1])) (hgz : A gz = .box TS (.imm zSc))
    (hT : C.P.underlying T = some (.slice el)) (hT' : C.P.underlying T' = some (.slice T1)) (hn : yJ C.P el = some 2) (hz : wS C.P el = some z) (hzn : z.cells.size = 2) (hb : (C.P.info? el).map (·.bytes) = some by_)
    (hB : (2 * (rows.length + 1) + 192) * by_ ≤ 281474976710656) (hL : rows.length + 1 < 9223372036854775808) :
    zv C ⟨some d, .call { callee := .builtin .append, args := #[.tmp kx, .tmp ky], argTypes := #[T, T'] }, ty, pos, af, gd⟩ [kx, ky, go, gz, gx] [go'] A
      [(go', .gen (OutF TS m rows e)), (d, .slg go' 0 (uN (rows ++ [.agg []]))), (go, .dead), (gz, .dead), (gx, .dead), (ky, .dead)] := by
  intro A' a w hR hF ⟨G, S⟩
  have hx : A' kx = _ := (hR kx (by simp)).trans hx
  have hg : A' go = _ := (hR go (by simp)).trans hg
  have hy : A' ky = _ := (hR ky (by simp)).trans hy
  have hgx : A' gx = _ := (hR gx (by simp)).trans hgx
  have hgz : A' gz = _ := (hR gz (by simp)).trans hgz
  simp only [List.all_cons, List.all_nil, Bool.and_eq_true, Bool.and_true] at hgs
  obtain ⟨n1, n2, n3, n4⟩ := hgs
  have n1 := Nat.le_of_ble_eq_true n1; have n2 := Nat.le_of_ble_eq_true n2; have n3 := Nat.le_of_ble_eq_true n3; have n4 := Nat.le_of_ble_eq_true n4
  have hdN : d < C.N := by simpa [Nat.blt_eq] using hN
  have hkxN : kx < C.N := by simpa [Nat.blt_eq] using hkx
  have hkyN : ky < C.N := by simpa [Nat.blt_eq] using hky
  have hg'K : go' < C.K := by simpa [Nat.blt_eq] using hgK
  have hxy' : kx ≠ ky := fun h => by rw [h, Nat.beq_refl] at hxy; cases hxy
  have hdy' : d ≠ ky := fun h => by rw [h, Nat.beq_refl] at hdy; cases hdy
  simp only [yq, List.elem_eq_mem, List.mem_cons, List.not_mem_nil, or_false, Bool.and_eq_true, Bool.not_eq_true', decide_eq_false_iff_not, not_or, not_false_eq_true, and_true, decide_false, Bool.not_false] at hdis
  obtain ⟨⟨d1, d2, d3⟩, ⟨d4, d5⟩, d6⟩ := hdis
  -- the row of one resource is shared
  have hbx := S.holds gx
  rw [hgx] at hbx
  simp only [Holds] at hbx
  obtain ⟨how, ⟨cs, fr, hb0, hrep, huf⟩, hni⟩ := hbx
  have hrepx := hrep
  simp only [RepS, xK] at hrep
  obtain ⟨c1, c2, hcs, hr1, c3, c4, hc34, hr3, hr4⟩ := hrep
  subst hr4 hr3
  have hc1l : c1.length = 1 := RepC.len _ _ hr1
  obtain ⟨S1, hle1, hcells⟩ := S.giveUp fr hgx hb0
  rw [rn hb0] at S1 hle1 hcells
  obtain ⟨I1, hI1⟩ : ∃ I1, I1 = fun b o => G.I b o ∨ (b = G.blk gx ∧ o < cs.size) := ⟨_, rfl⟩
  rw [← hI1] at S1 hle1 hcells
  have hcsl : cs.toList.length = 2 := by rw [hcs, hc34]; simp [hc1l]
  have hX : RepC w I1 (resX e (G.blk gz)) cs.toList := by
    simp only [resX, RepC, xH]
    exact ⟨c1, c2, hcs, RepC.mono hle1 _ _ hr1, c2, [], by simp, by rw [hc34]; simp [Value.cells, plain], rfl⟩
  let G1 : Gh := { G with I := I1 }
  let A2 : Nat → SV := upd A' [(ky, .imm (.sl 2 [resX e (G.blk gz)])), (gz, .gen (ZF TS m (G.blk gz))), (gx, .dead)]
  have hA2 : ∀ k, k ≠ ky → k ≠ gz → k ≠ gx → A2 k = A' k := fun k h1 h2 h3 => vm (by simp [xS, h1, h2, h3])
  have hA2y : A2 ky = .imm (.sl 2 [resX e (G.blk gz)]) := by simp [A2, upd]
  have hA2z : A2 gz = .gen (ZF TS m (G.blk gz)) := by simp [A2, upd, zM (show ky ≠ gz by omega)]
  have hA2x : A2 gx = .dead := by simp [A2, upd, zM (show ky ≠ gx by omega), zM d6]
  have hbz := S1.holds gz
  rw [vm (by simpa [xS] using d6), hgz] at hbz
  simp only [Holds, BoxS] at hbz
  obtain ⟨zow, ⟨zcs, zfr, zb, zrep, zuf⟩, zni⟩ := hbz
  have hzcs : zcs = #[.string .empty, .string .empty, .slice none 0 0] := by
    simp only [RepS, zSc, RepC, xH] at zrep
    obtain ⟨z1, z2, e1, ⟨e2, _⟩, z3, z4, e3, ⟨e4, _⟩, z5, z6, e5, ⟨e6, _⟩, e7⟩ := zrep
    apply Array.ext'
    rw [e1, e2, e3, e4, e5, e6, e7]; rfl
  subst hzcs
  have S2 : SimG C A2 G1 a w := by
    refine S1.tellKs [ky, gz] [] (Le.refl _ _) (GRel.refl _) (fun g _ => ⟨rfl, .inl ⟨rfl, rfl⟩⟩) (fun k hk => ⟨?_, rfl, rfl, rfl⟩) (fun k _ => xa.1 _) (fun b o h => .inl h) ?_ ?_ ?_
    · simp only [List.mem_cons, List.not_mem_nil, or_false, not_or] at hk
      by_cases h : k = gx
      · subst h; rw [hA2x]; simp [upd]
      · rw [hA2 k hk.1 hk.2 h, vm (by simpa [xS] using h)]
    · intro k hk b hb
      simp only [List.mem_cons, List.not_mem_nil, or_false] at hk
      rcases hk with rfl | rfl
      · rw [hA2y] at hb; simp only [zm] at hb
      · rw [hA2z] at hb
        simp only [zm, ZF] at hb
        refine ⟨k, by simp, ?_⟩
        rw [vm (by simpa [xS] using d6), hgz]; exact hb.symm
    · intro k hk
      simp only [List.mem_cons, List.not_mem_nil, or_false] at hk
      rcases hk with rfl | rfl
      · rw [hA2y]
        have hs := S1.holds k
        rw [vm (by simp [xS]; omega), hy] at hs
        simp only [Holds] at hs ⊢
        refine ⟨hs.1, ?_⟩
        obtain ⟨c, q1, q2⟩ := hs.2
        simp only [RepS] at q1
        rw [q2, q1]
        refine ⟨_, ?_, rfl⟩
        simp only [RepS, RepC]
        refine ⟨_, rfl, .inr ⟨G.blk gx, 0, 1, rfl, Nat.le_refl _, by unfold maxLen; omega, ?_⟩⟩
        simp only [RepM]
        exact ⟨⟨cs.toList, hcsl, hX, hcells⟩, trivial⟩
      · rw [hA2z]
        simp only [Holds, ZF]
        refine ⟨fun b hb => by subst hb; exact zow, zow.2, ⟨zfr, zb, zuf⟩, zni, .inl ⟨rfl, rfl⟩⟩
    · intro k j b hk hj hkj h1 h2
      simp only [List.mem_cons, List.not_mem_nil, or_false] at hk hj
      rcases hk with rfl | rfl
      · rw [hA2y] at h1; simp only [zm] at h1
      · rcases hj with rfl | rfl
        · rw [hA2y] at h2; simp only [zm] at h2
        · exact hkj rfl
  have step := yh (C := C) (A := A2) (d := d) (x := .tmp kx) (y := .tmp ky) (T := T) (T' := T') (ty := ty) (pos := pos) (af := af) (gd := gd) (g := go) (n := 2) (l := rows) (m := [resX e (G.blk gz)]) (z := z) (Nat.ble_eq_true_of_le n2) hN
    (by simp only [opS]; rw [hA2 kx hxy' (by omega) (by omega)]; exact hx) (by rw [hA2 go (by omega) d4 d5]; exact hg) (by simp only [opV, opS]; rw [hA2y]) hT hT' hn hz hzn (by decide) hb (by simpa using hB) (by simpa using hL)
  refine Oper.wp_mono (fun a' w' h => ?_) (step A2 a w (fun k _ => rfl) (fun k _ => xa.1 _) ⟨_, S2⟩)
  obtain ⟨G2, S3⟩ := h
  obtain ⟨b, hbdef⟩ : ∃ b, b = G.blk gz := ⟨_, rfl⟩
  rw [← hbdef] at S3 hA2z hA2y
  obtain ⟨A3, hA3⟩ : ∃ A3, A3 = upd A2 [(go, .tok 2 (rows ++ [resX e b])), (d, .slg go 2 (rows ++ [resX e b]))] := ⟨_, rfl⟩
  rw [← hA3] at S3
  have h3o : A3 go = .tok 2 (rows ++ [resX e b]) := by rw [hA3]; simp [upd]
  have h3d : A3 d = .slg go 2 (rows ++ [resX e b]) := by rw [hA3]; simp [upd, zM (show go ≠ d by omega)]
  have h3z : A3 gz = .gen (ZF TS m b) := by rw [hA3, vm (by simp [xS]; omega)]; exact hA2z
  have h3 : ∀ k, k ∉ [go', d, go, gz, gx, ky] → A3 k = A' k := by
    intro k hk
    simp only [List.mem_cons, List.not_mem_nil, or_false, not_or] at hk
    rw [hA3, vm (by simp [xS, hk.2.1, hk.2.2.1]), hA2 k hk.2.2.2.2.2 hk.2.2.2.1 hk.2.2.2.2.1]
  have hto := S3.holds go
  rw [h3o] at hto
  simp only [Holds] at hto
  have htz := S3.holds gz
  rw [h3z] at htz
  simp only [Holds, ZF] at htz
  have htd := S3.holds d
  rw [h3d] at htd
  simp only [Holds] at htd
  obtain ⟨hto1, hto2⟩ := hto
  obtain ⟨hs1, hs2⟩ := hto2.own
  have hsep : b ∉ hdrB (G2.cur go) := fun h => by
    obtain ⟨ad, n', c, e1, e2⟩ := hdrB_mem h
    exact S3.apart gz go b (Ne.symm d4) (by rw [h3z]; rfl) (by rw [h3o]; exact ⟨ad, n', c, e1, e2⟩)
  let G3 : Gh := { G2 with blk := fun k => if k = go' then b else G2.blk k, cur := fun k => if k = go' then G2.cur go else G2.cur k, len := fun k => if k = go' then G2.len go else G2.len k }
  have hP : ∀ k, k ∉ [go', d, go, gz, gx, ky] → upd A' [(go', .gen (OutF TS m rows e)), (d, .slg go' 0 (uN (rows ++ [.agg []]))), (go, .dead), (gz, .dead), (gx, .dead), (ky, .dead)] k = A' k := fun k hk => vm (by simpa [xS] using hk)
  have p1 : upd A' [(go', .gen (OutF TS m rows e)), (d, .slg go' 0 (uN (rows ++ [.agg []]))), (go, .dead), (gz, .dead), (gx, .dead), (ky, .dead)] go' = .gen (OutF TS m rows e) := by simp [upd]
  have p2 : upd A' [(go', .gen (OutF TS m rows e)), (d, .slg go' 0 (uN (rows ++ [.agg []]))), (go, .dead), (gz, .dead), (gx, .dead), (ky, .dead)] d = .slg go' 0 (uN (rows ++ [.agg []])) := by simp [upd, zM (show go' ≠ d by omega)]
  have p3 : ∀ k, k ∈ [go, gz, gx, ky] → upd A' [(go', .gen (OutF TS m rows e)), (d, .slg go' 0 (uN (rows ++ [.agg []]))), (go, .dead), (gz, .dead), (gx, .dead), (ky, .dead)] k = .dead := by
    intro k hk
    simp only [List.mem_cons, List.not_mem_nil, or_false] at hk
    have hq1 : go' ≠ k := by rcases hk with rfl | rfl | rfl | rfl <;> first | assumption | omega
    have hq2 : d ≠ k := by rcases hk with rfl | rfl | rfl | rfl <;> first | assumption | omega
    simp only [upd, zM hq1, zM hq2, cond_false]
    by_cases e1 : go = k
    · subst e1; simp
    rw [zM e1]
    by_cases e2 : gz = k
    · subst e2; simp
    rw [zM e2]
    by_cases e3 : gx = k
    · subst e3; simp
    rw [zM e3]
    have e4 : ky = k := by rcases hk with h | h | h | h <;> first | exact h.symm | exact absurd h.symm (by assumption)
    subst e4; simp
  have hs3 : ∀ k, k ∈ [go', d, go, gz, gx, ky] → k = go' ∨ k = d ∨ k ∈ [go, gz, gx, ky] := fun k hk => by
    simp only [List.mem_cons, List.not_mem_nil, or_false] at hk ⊢; omega
  have own3 : ∀ k, k ∈ [go', d, go, gz, gx, ky] → ∀ c, zm G3 k c (upd A' [(go', .gen (OutF TS m rows e)), (d, .slg go' 0 (uN (rows ++ [.agg []]))), (go, .dead), (gz, .dead), (gx, .dead), (ky, .dead)] k) → k = go' ∧ (c = b ∨ c ∈ hdrB (G2.cur go)) := by
    intro k hk c hc
    rcases hs3 k hk with rfl | rfl | h
    · rw [p1] at hc
      simp only [zm, OutF, G3, if_true] at hc
      exact ⟨rfl, hc⟩
    · rw [p2] at hc; simp only [zm] at hc
    · rw [p3 k h] at hc; simp only [zm] at hc
  refine ⟨G3, S3.tellKs [go', d, go, gz, gx, ky] [go'] (Le.refl _ _) (fun k hk => ?_) (fun g hgK => ?_) (fun k hk => ?_) (fun k hk => ?_) (fun _ _ h => .inl h) ?_ ?_ ?_⟩
  · have : k ≠ go' := by simpa using hk
    exact ⟨by simp only [G3, if_neg this], .inl ⟨by simp only [G3, if_neg this], by simp only [G3, if_neg this]⟩⟩
  · have : g ≠ go' := by omega
    exact ⟨by simp only [G3, if_neg this], .inl ⟨by simp only [G3, if_neg this], by simp only [G3, if_neg this]⟩⟩
  · have : k ≠ go' := fun h => hk (by simp [h])
    exact ⟨by rw [hP k hk, h3 k hk], by simp only [G3, if_neg this], by simp only [G3, if_neg this], by simp only [G3, if_neg this]⟩
  · rw [h3 k hk]
    exact hF k (has_off (by simpa [xS] using hk))
  · intro k hk c hc
    obtain ⟨rfl, h | h⟩ := own3 k hk c hc
    · exact ⟨gz, by simp, by rw [h3z]; exact h⟩
    · exact ⟨go, by simp, by rw [h3o]; exact hdrB_mem h⟩
  · intro k hk
    rcases hs3 k hk with rfl | rfl | h
    · rw [p1]
      simp only [Holds, OutF, G3, if_true]
      refine ⟨fun c hc => ?_, htz.2, by rw [hto1]; simp, hs1, hsep⟩
      rcases hc with rfl | hc
      · exact htz.1 _ rfl
      · exact hs2 c hc
    · rw [p2]
      simp only [Holds]
      refine ⟨htd.1, ?_⟩
      obtain ⟨c, ⟨v, rfl, q1, q2, q3⟩, q4⟩ := htd.2
      have hlen : (uN (rows ++ [AV.agg []])).length = (rows ++ [resX e b]).length := by simp [uN]
      refine ⟨[v], ?_, q4⟩
      simp only [RepS]
      refine ⟨v, rfl, ?_, by rw [hlen]; simpa only [G3, if_true] using q2, by rw [hlen]; simpa only [G3, if_true] using q3⟩
      simp only [RepC] at q1 ⊢
      obtain ⟨v', e0, q1⟩ := q1
      cases e0
      rcases q1 with ⟨p, cap, _, h, _⟩ | ⟨bb, o, cap, e1, e2, e3, _⟩
      · exact absurd h (by simp)
      · exact ⟨_, rfl, .inr ⟨bb, o, cap, by rw [hlen]; exact e1, by rw [hlen]; exact e2, e3, repM_unitsA _ _ _⟩⟩
    · rw [p3 k h]; simp only [Holds]
  · intro k j c hk hj hkj h1 h2
    exact hkj ((own3 k hk c h1).1.trans (own3 j hj c h2).1.symm)
end
end Go.Al
namespace Go.Al
open Go.RowKit
theorem lt_keep {w w' : World} {b : Nat} (h : w'.heap[b]? = w.heap[b]?) (hb : b < w.heap.size) : b < w'.heap.size := by
  rw [Array.getElem?_eq_getElem hb] at h
  exact (Array.getElem?_eq_some_iff.1 h).1
theorem Holds.keepT {G G' : Gh} {w w' : World} {k : Nat} {x : SV} (hx : x.res = true) (h : Holds w (fun _ => True) G act0 w k x)
    (hle : Le w G.I w' G'.I) (hg : GRel [] G G') (hk : G'.blk k = G.blk k ∧ G'.cur k = G.cur k ∧ G'.len k = G.len k)
    (ho : ∀ b, zm G k b x → w'.heap[b]? = w.heap[b]? ∧ ∀ o, G'.I b o → G.I b o) : Holds w' (fun _ => True) G' act0 w' k x := by
  obtain ⟨e1, e2, e3⟩ := hk
  cases x <;> first | cases hx | skip
  all_goals simp only [Holds] at h ⊢
  case box T x =>
    obtain ⟨h1, ⟨cs, fr, h2, h3, h4⟩, h5⟩ := h
    obtain ⟨k2, k3⟩ := ho (G.blk k) (by simp [zm])
    rw [e1]
    exact ⟨⟨.inr trivial, lt_keep k2 h1.2⟩, ⟨cs, fr, by rw [k2]; exact h2, RepS.mono hle hg _ _ (xa.1 _) h3, h4⟩, fun o hi => h5 o (k3 o hi)⟩
  case tok n l =>
    rw [e2, e3]
    refine ⟨h.1, ?_⟩
    rcases h.2 with h' | ⟨b, cap, h1, h2, h3, h4, h5, ⟨cs, T, fr, h6, h7, h8⟩, h9⟩
    · exact .inl h'
    · obtain ⟨e4, e5⟩ := ho b ⟨⟨b, 0, none⟩, _, _, h1, rfl⟩
      exact .inr ⟨b, cap, h1, h2, h3, RepM.mono hle n l b 0 h4, ⟨.inr trivial, lt_keep e4 h5.2⟩, ⟨cs, T, fr, by rw [e4]; exact h6, h7, h8⟩, fun o ho' hi => h9 o ho' (e5 o hi)⟩
  case row l =>
    rw [e2, e3]
    refine ⟨h.1, ?_⟩
    rcases h.2 with h' | ⟨b, cap, h1, h2, h3, h4, ⟨cs, T, h5, h6, h7⟩, h8⟩
    · exact .inl h'
    · obtain ⟨e4, e5⟩ := ho b ⟨⟨b, 0, none⟩, _, _, h1, rfl⟩
      exact .inr ⟨b, cap, h1, h2, h3, ⟨.inr trivial, lt_keep e4 h4.2⟩, ⟨cs, T, by rw [e4]; exact h5, h6, h7⟩, fun o hi => h8 o (e5 o hi)⟩
  case mpr ks vs =>
    obtain ⟨h1, ⟨es, h2, h3, h4, h5⟩, h6⟩ := h
    obtain ⟨k2, k3⟩ := ho (G.blk k) (by simp [zm])
    rw [e1]
    exact ⟨⟨.inr trivial, lt_keep k2 h1.2⟩, ⟨es, by rw [k2]; exact h2, h3, yc.mono hle _ _ h4, yc.mono hle _ _ h5⟩, fun o hi => h6 o (k3 o hi)⟩
  case gen R =>
    rw [e1, e2, e3]
    exact ⟨fun b hb => ⟨.inr trivial, lt_keep (ho b (by simpa only [zm] using hb)).1 (h.1 b hb).2⟩, (R _ _ _).keep _ _ _ _ h.2 hle fun b hb => ho b (by simpa only [zm] using hb)⟩
  case itr m n seen =>
    obtain ⟨h1, h2, h3⟩ := h
    obtain ⟨k2, k3⟩ := ho (G.blk k) (by simp [zm])
    have e4 := (hg m (by simp)).1
    rw [e1, e4]
    exact ⟨⟨.inr trivial, lt_keep k2 h1.2⟩, by rw [k2]; exact h2, fun o hi => h3 o (k3 o hi)⟩
def decB : Value → Nat
  | .pointer (some a) => a.block
  | _ => 0
def decN : Value → Nat
  | .int _ n => n.toNat
  | _ => 0
def vAt (v : Value) (i : Nat) : Value := (tupV v).getD i Go.undef
def gBs (cur : Value) : List Nat := (tupV (vAt cur 4)).map decB
def gGh (I : Nat → Nat → Prop) (blk : Nat) (cur : Value) : Gh :=
  ⟨I, fun k => if k = 0 then blk else decB (vAt cur 0), fun k => if k = 2 then vAt cur 1 else vAt cur 2, fun _ => decN (vAt cur 3)⟩
def vB (es : List (List AV)) (bs : List Nat) : List AV := List.zipWith resX es bs
def gSt (TG TS n : Nat) (keys : List ByteArray) (nums : List AV) (es ls : List (List AV)) (bs : List Nat) : Nat → SV
  | 0 => .box TG (.agg [.mref 1, .slg 2 2 (vB es bs)])
  | 1 => .mpr (strs keys) nums
  | 2 => .tok 2 (vB es bs)
  | _ => .gen (ScF TS n bs ls bs.length)
theorem gSt_res {TG TS n : Nat} {keys : List ByteArray} {nums : List AV} {es ls : List (List AV)} {bs : List Nat} (k : Nat) : (gSt TG TS n keys nums es ls bs k).res = true := by
  unfold gSt; split <;> rfl
theorem owns_gGh {I I' : Nat → Nat → Prop} {blk : Nat} {cur : Value} {k b : Nat} {x : SV} : zm (gGh I blk cur) k b x ↔ zm (gGh I' blk cur) k b x := by
  cases x <;> exact Iff.rfl
def GrpF (TG TS n : Nat) (keys : List ByteArray) (nums : List AV) (es ls : List (List AV)) : Nat → Value → Nat → HRes := fun blk cur _ =>
  { own := fun b => ∃ k, k < 4 ∧ zm (gGh (fun _ _ => False) blk cur) k b (gSt TG TS n keys nums es ls (gBs cur) k)
    ok := fun w I => (gBs cur).length = es.length ∧ (∀ k, k < 4 → Holds w (fun _ => True) (gGh I blk cur) act0 w k (gSt TG TS n keys nums es ls (gBs cur) k)) ∧
      ∀ k j b, k < 4 → j < 4 → k ≠ j → zm (gGh (fun _ _ => False) blk cur) k b (gSt TG TS n keys nums es ls (gBs cur) k) → zm (gGh (fun _ _ => False) blk cur) j b (gSt TG TS n keys nums es ls (gBs cur) j) → False
    keep := fun w I w' I' h hle ho => ⟨h.1, fun k hk => (h.2.1 k hk).keepT (G' := gGh I' blk cur) (gSt_res k) hle (fun _ _ => ⟨rfl, .inl ⟨rfl, rfl⟩⟩) ⟨rfl, rfl, rfl⟩ fun b hb => ho b ⟨k, hk, owns_gGh.1 hb⟩, h.2.2⟩
    kind := fun w I b o h ⟨k, hk, hb⟩ ho => (h.2.1 k hk).kind (owns_gGh.1 hb) ho }
theorem lt4 {k : Nat} (h : k < 4) : k = 0 ∨ k = 1 ∨ k = 2 ∨ k = 3 := by omega
section
variable {C : Cx} {c : Code} {st : St} {Q : Exit → St → Prop}
theorem aw_newSc (gs T n : Nat) (hgN : Nat.ble C.N gs = true) (hgK : Nat.blt gs C.K = true) (hf : uE [gs] st = true) (h : AW C c ((gs, .gen (ScF T n [] [] 0)) :: st) Q) : AW C c st Q := by
  intro a w ⟨G, S⟩
  have hK : gs < C.K := by simpa [Nat.blt_eq] using hgK
  let G' : Gh := { G with cur := fun k => if k = gs then .tuple #[] else G.cur k }
  have hoff : ∀ k, k ≠ gs → G'.blk k = G.blk k ∧ G'.cur k = G.cur k ∧ G'.len k = G.len k := fun k hk => ⟨rfl, by simp only [G', if_neg hk], rfl⟩
  have hu : upd (look st) [(gs, .gen (ScF T n [] [] 0))] gs = .gen (ScF T n [] [] 0) := by simp [upd]
  have hno : ∀ b, ¬ zm G' gs b (.gen (ScF T n [] [] 0)) := by
    rintro b ⟨j, c, v, h1, _⟩
    simp at h1
  have S' : SimG C (upd (look st) [(gs, .gen (ScF T n [] [] 0))]) G' a w := by
    refine S.tellKs [gs] [gs] (Le.refl _ _) (fun k hk => ?_) (fun g hg => ?_) (fun k hk => ?_) (fun k hk => wW st hf k) (fun _ _ h => .inl h) ?_ ?_ ?_
    · obtain ⟨e1, e2, e3⟩ := hoff k (by simpa using hk)
      exact ⟨e1, .inl ⟨e2, e3⟩⟩
    · obtain ⟨e1, e2, e3⟩ := hoff g (by omega)
      exact ⟨e1, .inl ⟨e2, e3⟩⟩
    · exact ⟨vm (by simpa [xS] using hk), hoff k (by simpa using hk)⟩
    · intro k hk b hb
      rw [List.mem_singleton.1 hk, hu] at hb
      exact absurd hb (hno b)
    · intro k hk
      rw [List.mem_singleton.1 hk, hu]
      simp only [Holds]
      refine ⟨fun b hb => absurd hb (hno b), ?_⟩
      simp only [ScF, G', if_true]
      exact ⟨rfl, rfl, fun j c v l _ h => by simp at h, fun c h => by simp at h, fun j k c c' v v' b _ h => by simp at h, fun j c v _ h => by simp at h⟩
    · intro k j b hk hj hkj
      exact absurd ((List.mem_singleton.1 hk).trans (List.mem_singleton.1 hj).symm) hkj
  rw [vG] at S'
  exact h a w ⟨G', S'⟩
end
end Go.Al
