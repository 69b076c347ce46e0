/- Texts that the proofs of this claim share, part 5: the abstract logic, plain Lean on values and batches, and walks. No condition but those typed in each lemma. -/
import Derived.Shelf.Sort.Plain
import Derived.Shelf.Slices.In.SortNone
import Derived.RangeFuncLeaves
import Derived.RangeFuncRecord
import Derived.RangeFuncSeq
import Derived.Stop.Asserts
import Derived.Laws.Externs
import Derived.Test.YtilolbiefnbccaaGreatDoorQ4
set_option linter.unusedSimpArgs false
set_option linter.unusedVariables false
set_option maxHeartbeats 400000
namespace Go.Proofs
open Go Go.Al
end Go.Proofs
namespace Go.Al
open Go.RowKit
section
variable {C : Cx} {d : Nat} {ty : TypeId} {pos : String} {af : Array Edge} {x : Operand}
end
end Go.Al
namespace Go.Al
section
variable {C : Cx} {A : Nat → SV} {d : Nat} {ty : TypeId} {pos : String} {af : Array Edge} {gd : Option (Nat × Bool)} {x : Operand}
end
end Go.Al
namespace Go.Proofs
open Go Go.Al
end Go.Proofs
namespace Go.Proofs
open Go Go.Al Go.Shelf
end Go.Proofs
namespace Go.Proofs
open Go Go.Al
set_option maxRecDepth 10000
end Go.Proofs
namespace Go.Proofs
open Go Go.Al
set_option maxRecDepth 10000
end Go.Proofs
namespace Go.Proofs
open Go Go.Al
theorem orC_eq0 {a b : Int} (h : orC a b = 0) : a = 0 ∧ b = 0 := by unfold orC at h; split at h <;> omega
end Go.Proofs
namespace Go.Proofs
open Go Go.Al
set_option maxRecDepth 10000
end Go.Proofs
namespace Go.Proofs
open Go Go.Al
def xy : List Int → Int
  | [] => 0
  | c :: cs => orC c (xy cs)
abbrev FN := FuncId × List AV × List AV × Int
def fnA (x : FN) : AV := .fn (.func x.1) x.2.1 x.2.2.1
def fnd : FN := (0, [], [], 0)
def wb (l : List FN) : List Int := l.map fun x => x.2.2.2
theorem firstC_drop {l : List FN} {i : Nat} (h : i < l.length) : xy (wb (l.drop i)) = orC (nth l i fnd).2.2.2 (xy (wb (l.drop (i + 1)))) := by
  rw [x9 (d := fnd) h]; rfl
theorem evC_drop {l : List GE} {i : Nat} (h : i < l.length) : evC (l.drop i) = if 9223372036854775807 < (nthE l i).time then 11 else orC (orC (yU (nthE l i).name) (yO (nthE l i).attrs)) (evC (l.drop (i + 1))) := by
  rw [x9 (d := ge0) h, evC]; rfl
theorem lkC_drop {l : List GL} {i : Nat} (h : i < l.length) : lkC (l.drop i) = if x1 (nthL l i).trace || x1 (nthL l i).span then 10 else orC (orC (yU (nthL l i).state) (yO (nthL l i).attrs)) (lkC (l.drop (i + 1))) := by
  rw [x9 (d := gl0) h, lkC]; rfl
theorem xv : ∀ {n : Nat} {l : Bs}, l.length = n → (l == List.replicate n 0) = x1 l
  | 0, [], _ => rfl
  | n + 1, x :: l, h => by
    have ih := xv (n := n) (l := l) (by simpa using h)
    rw [List.replicate_succ, List.cons_beq_cons, ih]; rfl
def wL (s : GSpan) : Int :=
  xy [if x1 s.trace || x1 s.id then 10 else 0, yU s.state, yU s.name, if s.kind < 0 ∨ 5 < s.kind then 7 else 0, wQ ⟨s.start, s.fin⟩, yO s.attrs, evsC s.events, lksC s.links, if s.code < 0 ∨ 2 < s.code then 7 else 0, yU s.note]
end Go.Proofs
namespace Go.Al
section
variable {P : Program} {b : Frame} {a : Act} {k : List Item} {cs : List Frame} {w : World}
theorem x4 {c : Code} : step P (lone (b.atR a (.code (.scope c) :: k)) cs w) = .next (lone (b.atR a (.code c :: .inScope c :: k)) cs w) :=
  step_lone_go (by simp [stepG, stepG.exec, Frame.atR])
theorem stepR_inScope {c : Code} : step P (lone (b.atR a (.inScope c :: k)) cs w) = .next (lone (b.atR a k) cs w) :=
  step_lone_go (by simp [stepG, stepG.exec, Frame.atR])
end
theorem wpIn_scope {F : Fence} {n : Nat} {P : Program} {Q : Exit → Act → World → Prop} {a : Act} {w : World} {c : Code} (hn : ∀ l a w, ¬ Q (.goto l) a w) (h : c.wpIn F n P Q a w) : (Code.scope c).wpIn F n P Q a w := by
  intro b k cs hro hb hr
  have h0 : (lone (b.atR a (.code (.scope c) :: k)) cs w).fenced P F := fenced_calm hb hr rfl
  obtain ⟨e, a₁, w₁, hq, harr⟩ := h b (.inScope c :: k) cs hro hb hr
  cases e with
  | normal => exact ⟨.normal, a₁, w₁, hq, .head h0 x4 (StepsIn.trans harr (.one (fenced_calm hb hr rfl) stepR_inScope))⟩
  | exit id =>
    have hx : exitTo id (.inScope c :: k) = exitTo id k := by simp [exitTo]
    exact ⟨_, a₁, w₁, hq, fun k' hk => .head h0 x4 (harr.1 k' (by rw [hx]; exact hk)),
      fun hr' hk => let ⟨k₁, h1, h2⟩ := harr.2 hr' (by rw [hx]; exact hk); ⟨k₁, h1, .head h0 x4 h2⟩⟩
  | goto l => exact (hn _ _ _ hq).elim
  | ret => exact ⟨_, a₁, w₁, hq, .of_steps (.one h0 x4) harr⟩
  | panic ch => exact ⟨_, a₁, w₁, hq, .of_steps (.one h0 x4) harr⟩
  | outgrown => exact ⟨_, a₁, w₁, hq, .of_steps (.one h0 x4) harr⟩
def scp (Q : Exit → St → Prop) : Exit → St → Prop
  | .goto _, _ => False
  | e, st => Q e st
theorem ret_scp {st : St} {Q : Exit → St → Prop} (h : Q .ret st) : scp Q .ret st := h
theorem aw_scope {C : Cx} {c : Code} {st : St} {Q : Exit → St → Prop} (h : AW C c st (scp Q)) : AW C (.scope c) st Q := by
  intro a w S n
  refine wpIn_mono (wpIn_scope ?_ (h a w S n)) ?_
  · rintro l a w ⟨st', q, _⟩; exact q
  · rintro e a' w' ⟨st', q, S'⟩
    cases e with
    | goto l => exact q.elim
    | normal => exact ⟨st', q, S'⟩
    | exit id => exact ⟨st', q, S'⟩
    | ret => exact ⟨st', q, S'⟩
    | panic c => exact ⟨st', q, S'⟩
    | outgrown => exact ⟨st', q, S'⟩
theorem aw_label {C : Cx} {l : Nat} {st : St} {Q : Exit → St → Prop} (h : Q .normal st) : AW C (.label l) st Q := fun _ _ S _ => wpIn_label ⟨st, h, S⟩
end Go.Al
namespace Go.Proofs
open Go Go.Al
set_option maxRecDepth 10000
end Go.Proofs
namespace Go.Proofs
open Go Go.Al
set_option maxRecDepth 10000
end Go.Proofs
namespace Go.Proofs
open Go Go.Al
set_option maxRecDepth 10000
theorem words_c (t : ByteArray) (ht : t.size < 9223372036854775808) : zg Tryz.prog Γ0 117 [sv t] [iv (yU t)] := by
  have cr := check_range t
  refine zU Tryz.func117 rfl Tryz.ntmps117 (by kernel_rfl) rfl fun w0 I0 G0 => ?_
  refine zC <| zB <| g_u (zE rfl rfl) <| zF <| zA <| zC <| zT <| zC <| zB <| g_u (zD rfl rfl) ?_
  refine g_u (zQ (check_c _ (by omega)) rfl rfl) ?_
  refine g_u (s_geI rfl rfl rfl) <| g_u (zE rfl rfl) <| zF <| zA ?_
  refine zL rfl (fun hb1 => ?_) (fun hb1 => ?_)
  · have q := of_decide_eq_true hb1
    refine zC <| zB <| g_u (zE rfl rfl) <| zF <| zA <| zI <| zd <| zP ?_
    exact ⟨⟨(rfl : toAV (Al.look _ _) = some _).trans (congrArg some (by (exact congrArg iv (by unfold yU; (repeat' split) <;> first | rfl | omega)))), rfl⟩, trivial⟩
  · have q := of_decide_eq_false hb1
    refine zC <| zB <| g_u (zD rfl rfl) <| g_u (xT rfl rfl Tryz.underlying9) <| g_u (wh rfl rfl rfl) <| g_u (zE rfl rfl) <| zF <| zA ?_
    refine zL rfl (fun hb2 => ?_) (fun hb2 => ?_)
    · have q := of_decide_eq_true hb2
      refine zC <| zB <| g_u (zE rfl rfl) <| zF <| zA <| zI <| zd <| zP ?_
      exact ⟨⟨(rfl : toAV (Al.look _ _) = some _).trans (congrArg some (by (exact congrArg iv (by unfold yU; (repeat' split) <;> first | rfl | omega)))), rfl⟩, trivial⟩
    · have q := of_decide_eq_false hb2
      refine zO <| zJ <| zA <| zC <| zB <| g_u (zE rfl rfl) <| zF <| zA <| zI ?_
      exact ⟨⟨(rfl : toAV (Al.look _ _) = some _).trans (congrArg some (by (exact congrArg iv (by unfold yU; (repeat' split) <;> first | rfl | omega)))), rfl⟩, trivial⟩
theorem spanName_c (t : ByteArray) (ht : t.size < 9223372036854775808) : zg Tryz.prog Γ0 83 [sv t] [iv (yU t)] := by
  refine zU Tryz.func83 rfl Tryz.ntmps83 (by kernel_rfl) rfl fun w0 I0 G0 => ?_
  refine zC <| zB <| g_u (zE rfl rfl) <| zF <| zA <| zC <| zB <| g_u (zD rfl rfl) ?_
  refine g_u (zQ (words_c _ (by omega)) rfl rfl) ?_
  refine g_u (zE rfl rfl) <| zF <| zA <| zI ?_
  exact ⟨⟨(rfl : toAV (Al.look _ _) = some _).trans (congrArg some (by rfl)), rfl⟩, trivial⟩
theorem when_c (b : Bool) (c : Int) : zg Tryz.prog Γ0 120 [bv b, iv c] [iv (if b then c else 0)] := by
  refine zU Tryz.func120 rfl Tryz.ntmps120 (by kernel_rfl) rfl fun w0 I0 G0 => ?_
  refine zC <| zB <| g_u (zE rfl rfl) <| zF <| zA <| zC <| zC <| zB <| g_u (zD rfl rfl) <| zF <| zA ?_
  refine zL rfl (fun hb1 => ?_) (fun hb1 => ?_)
  · have q : b = true := hb1
    refine zC <| zB <| g_u (zD rfl rfl) <| g_u (zE rfl rfl) <| zF <| zA <| zI <| zP ?_
    exact ⟨⟨(rfl : toAV (Al.look _ _) = some _).trans (congrArg some (by (rw [q]; rfl))), rfl⟩, trivial⟩
  · have q : b = false := hb1
    refine zO <| zA <| zC <| zB <| g_u (zE rfl rfl) <| zF <| zA <| zI ?_
    exact ⟨⟨(rfl : toAV (Al.look _ _) = some _).trans (congrArg some (by (rw [q]; rfl))), rfl⟩, trivial⟩
theorem first_c (l : List FN) (hl : l.length ≤ 1000) (hf : ∀ x ∈ l, zg Tryz.prog Γ0 x.1 (x.2.1 ++ [] ++ x.2.2.1) [iv x.2.2.2]) : zg Tryz.prog Γ0 118 [.sl 1 (l.map fnA)] [iv (xy (wb l))] := by
  refine zU Tryz.func118 rfl Tryz.ntmps118 (by kernel_rfl) rfl fun w0 I0 G0 => ?_
  refine zC <| zB <| g_u (zE rfl rfl) <| zF <| zA <| zC <| zC <| zB <| g_u (zD rfl rfl) <| g_u (yM rfl rfl Tryz.underlying242) <| g_u (zD rfl rfl) <| zF <| zA <| zT ?_
  refine z4 (fun i : Nat => [(6, .imm (.sl 1 (l.map fnA))), (7, .imm (iv (l.length : Int))), (8, .imm (iv (i : Int)))]) (fun i => i ≤ l.length ∧ xy (wb l) = xy (wb (l.drop i))) (fun i => l.length - i) (0) ?_ ⟨rfl, z_ rfl (by rw [List.length_map]), rfl, trivial⟩ ?_
  · exact ⟨Nat.zero_le _, rfl⟩
  · rintro i ⟨h1, h2⟩; (try dsimp only at h1 h2)
    refine zC <| zB <| g_u (yh rfl rfl rfl) <| zF <| zA <| zC ?_
    refine zL rfl (fun hb1 => ?_) (fun hb1 => ?_)
    · have hi : i < l.length := by have := of_decide_eq_true hb1; (try simp only [List.length_map] at this); omega
      refine zO <| zA <| zC <| zT <| zC <| zB ?_
      refine g_u (zq rfl rfl rfl Tryz.underlying242 tS201 (by omega) (nth_map (d := fnd) hi)) ?_
      refine g_u (zb rfl rfl tA201 tS201 rfl rfl) <| g_u (zE rfl rfl) <| zF <| zA <| zC <| zB <| g_u (zD rfl rfl) <| g_u (wO (hf _ (nth_mem hi)) rfl rfl rfl) <| g_u (zE rfl rfl) <| zF <| zA <| zC <| zB <| g_u (zD rfl rfl) <| g_u (xi rfl rfl rfl) <| zF <| zA ?_
      refine zL rfl (fun hb2 => ?_) (fun hb2 => ?_)
      · have q := qc.1 hb2
        refine zC <| zB <| g_u (zD rfl rfl) <| g_u (zE rfl rfl) <| zF <| zA <| zI <| zd <| zP <| zP <| zd <| zP ?_
        exact ⟨⟨(rfl : toAV (Al.look _ _) = some _).trans (congrArg some (by (exact congrArg iv (by first | (rw [h2, firstC_drop hi, yB _ _ q]; done) | (rw [h2, hin, List.drop_length]; rfl))))), rfl⟩, trivial⟩
      · have q := qd.1 hb2
        refine zO <| zJ <| zA <| zB <| g_u (z6 rfl rfl rfl) <| g_u (zD rfl rfl) <| zF <| zA ?_
        refine ⟨i + 1, ⟨hi, by (try dsimp only); rw [h2, firstC_drop hi, zm _ _ q]⟩, ⟨rfl, rfl, z_ rfl (by rw [zR (by omega) (by omega)]; rfl), trivial⟩, by (try dsimp only); omega⟩
    · have hin : i = l.length := by have := of_decide_eq_false hb1; (try simp only [List.length_map] at this); omega
      refine yJ <| ze <| ze <| z8 <| zA <| zC <| zB <| g_u (zE rfl rfl) <| zF <| zA <| zI ?_
      exact ⟨⟨(rfl : toAV (Al.look _ _) = some _).trans (congrArg some (by (exact congrArg iv (by first | (rw [h2, firstC_drop hi, yB _ _ q]; done) | (rw [h2, hin, List.drop_length]; rfl))))), rfl⟩, trivial⟩
theorem ev1_c (e : GE) (ho : e.name.size < 9223372036854775808) : zg Tryz.prog Γ0 182 [.cp e.av] [iv (yU e.name)] := by
  refine zU Tryz.func182 rfl Tryz.ntmps182 (by kernel_rfl) rfl fun w0 I0 G0 => ?_
  refine zC <| zB <| g_u (zE rfl rfl) <| zF <| zA <| zC <| zB <| g_u (zY rfl rfl fa95_1 rfl rfl) <| g_u (zb rfl rfl tA9 tS9 rfl rfl) ?_
  refine g_u (zQ (words_c _ (by omega)) rfl rfl) ?_
  refine g_u (zE rfl rfl) <| zF <| zA <| zI ?_
  exact ⟨⟨(rfl : toAV (Al.look _ _) = some _).trans (congrArg some (by rfl)), rfl⟩, trivial⟩
theorem ev2_c (e : GE) (ho : ∀ a ∈ e.attrs, a.ok) (hw : wtAs e.attrs ≤ 1000000) : zg Tryz.prog Γ0 183 [.cp e.av] [iv (yO e.attrs)] := by
  refine zU Tryz.func183 rfl Tryz.ntmps183 (by kernel_rfl) rfl fun w0 I0 G0 => ?_
  refine zC <| zB <| g_u (zE rfl rfl) <| zF <| zA <| zC <| zB <| g_u (zY rfl rfl fa95_2 rfl rfl) <| g_u (zb rfl rfl tA46 tS46 rfl rfl) ?_
  refine g_u (zQ (checkAs_c _ ho (by omega)) rfl rfl) ?_
  refine g_u (zE rfl rfl) <| zF <| zA <| zI ?_
  exact ⟨⟨(rfl : toAV (Al.look _ _) = some _).trans (congrArg some (by rfl)), rfl⟩, trivial⟩
set_option maxHeartbeats 2000000 in
theorem events_c (l : List GE) (ho : ∀ e ∈ l, e.ok) (hw : zu GE.wt l ≤ 1000000) : zg Tryz.prog Γ0 127 [.sl 3 (l.map GE.av)] [iv (evsC l)] := by
  have ql := yW GE.wt (fun e => by unfold GE.wt; omega) l
  refine zU Tryz.func127 rfl Tryz.ntmps127 (by kernel_rfl) rfl fun w0 I0 G0 => ?_
  refine zC <| zB <| g_u (zE rfl rfl) <| zF <| zA <| aw_scope <| zC <| zC <| zB <| g_u (zD rfl rfl) <| g_u (yM rfl rfl Tryz.underlying47) <| g_u (wh rfl rfl rfl) <| zF <| zA ?_
  refine zL rfl (fun hb1 => ?_) (fun hb1 => ?_)
  · have q16 : 16 < l.length := by have := of_decide_eq_true hb1; (try simp only [List.length_map] at this); omega
    refine zC <| zB <| g_u (zE rfl rfl) <| zF <| zA <| zI <| zP <| ret_scp ?_
    exact ⟨⟨(rfl : toAV (Al.look _ _) = some _).trans (congrArg some (by (exact congrArg iv (by unfold evsC; first | (rw [if_pos q16]; done) | (rw [if_neg q16, h2, hin, List.drop_length]; rfl) | (rw [if_neg q16, h2, E, if_pos qt]; done) | (rw [if_neg q16, h2, E, if_neg qt, yB _ _ (by simpa [xy, wb, yx] using q)]; simp [xy, wb, yx]; done))))), rfl⟩, trivial⟩
  · have q16 : ¬ 16 < l.length := by have := of_decide_eq_false hb1; (try simp only [List.length_map] at this); omega
    refine zO <| zA <| zC <| zB <| g_u (zE rfl rfl) <| zF <| zA <| zC <| aw_label <| zA <| zC <| zC <| zB <| g_u (zD rfl rfl) <| g_u (yM rfl rfl Tryz.underlying47) <| g_u (zD rfl rfl) <| zF <| zA <| zT ?_
    refine z4 (fun i : Nat => [(3, .imm (iv 0)), (9, .imm (.sl 3 (l.map GE.av))), (10, .imm (iv (l.length : Int))), (11, .imm (iv (i : Int)))]) (fun i => i ≤ l.length ∧ evC l = evC (l.drop i)) (fun i => l.length - i) (0) ?_ ⟨rfl, rfl, z_ rfl (by rw [List.length_map]), rfl, trivial⟩ ?_
    · exact ⟨Nat.zero_le _, rfl⟩
    · rintro i ⟨h1, h2⟩; (try dsimp only at h1 h2)
      refine zC <| zB <| g_u (yh rfl rfl rfl) <| zF <| zA <| zC ?_
      refine zL rfl (fun hb2 => ?_) (fun hb2 => ?_)
      · have hi : i < l.length := by have := of_decide_eq_true hb2; (try simp only [List.length_map] at this); omega
        have hx := yn GE.wt (nthE_mem hi)
        have hx2 : (nthE l i).wt = 1 + (nthE l i).name.size + wtAs (nthE l i).attrs := rfl
        have hxo := ho _ (nthE_mem hi)
        have c1 := ev1_c (nthE l i) (by omega)
        have c2 := ev2_c (nthE l i) hxo.2.2 (by omega)
        have E := evC_drop hi
        refine zO <| zA <| zC <| zT <| zC <| zB ?_
        refine g_u (zq rfl rfl rfl Tryz.underlying47 tS95 (by omega) (ixE hi)) ?_
        refine g_u (zb rfl rfl tA95 tS95 rfl rfl) <| g_uG (zx 1005 rfl rfl rfl tZ95) rfl <| g_u (zM rfl rfl rfl tS95 rfl rfl) <| zF <| zA <| zC <| zT <| zC <| zB <| g_u (zH rfl rfl fa95_0 rfl) <| g_u (zG rfl rfl rfl tA45 tS45 rfl rfl) <| g_u (wh rfl rfl rfl) <| g_u (zE rfl rfl) <| zF <| zA ?_
        refine zL rfl (fun hb3 => ?_) (fun hb3 => ?_)
        · have qt : 9223372036854775807 < (nthE l i).time := of_decide_eq_true hb3
          refine zC <| zB <| g_u (zE rfl rfl) <| zF <| zA <| yJ <| we rfl <| ze <| we rfl <| ze <| ze <| z8 <| zA <| zC <| zB <| g_u (zD rfl rfl) <| g_u (zE rfl rfl) <| zF <| zA <| zI <| ret_scp ?_
          exact ⟨⟨(rfl : toAV (Al.look _ _) = some _).trans (congrArg some (by (exact congrArg iv (by unfold evsC; first | (rw [if_pos q16]; done) | (rw [if_neg q16, h2, hin, List.drop_length]; rfl) | (rw [if_neg q16, h2, E, if_pos qt]; done) | (rw [if_neg q16, h2, E, if_neg qt, yB _ _ (by simpa [xy, wb, yx] using q)]; simp [xy, wb, yx]; done))))), rfl⟩, trivial⟩
        · have qt : ¬ 9223372036854775807 < (nthE l i).time := of_decide_eq_false hb3
          refine aw_share 1005 rfl rfl <| zB <| g_u (yK rfl rfl rfl) <| g_u (yK rfl rfl rfl) <| g_u (zt (X0 := z201) rfl Tryz.underlying242 tS201 tZ201 rfl rfl rfl rfl rfl rfl rfl rfl) ?_
          refine g_u (zQ (first_c [(182, [], [.cp (nthE l i).av], yU (nthE l i).name), (183, [], [.cp (nthE l i).av], yO (nthE l i).attrs)] (by simp only [List.length_cons, List.length_nil]; omega) (fun x hx => by simp only [List.mem_cons, List.not_mem_nil, or_false] at hx; rcases hx with rfl | rfl <;> assumption)) rfl rfl) ?_
          refine g_u (zE rfl rfl) <| zF <| zJ <| zA <| zC <| zB <| g_u (zD rfl rfl) <| g_u (xi rfl rfl rfl) <| zF <| zA ?_
          refine zL rfl (fun hb4 => ?_) (fun hb4 => ?_)
          · have q := qc.1 hb4
            refine yJ <| we rfl <| ze <| ze <| z8 <| zA <| zC <| zB <| g_u (zD rfl rfl) <| g_u (zE rfl rfl) <| zF <| zA <| zI <| ret_scp ?_
            exact ⟨⟨(rfl : toAV (Al.look _ _) = some _).trans (congrArg some (by (exact congrArg iv (by unfold evsC; first | (rw [if_pos q16]; done) | (rw [if_neg q16, h2, hin, List.drop_length]; rfl) | (rw [if_neg q16, h2, E, if_pos qt]; done) | (rw [if_neg q16, h2, E, if_neg qt, yB _ _ (by simpa [xy, wb, yx] using q)]; simp [xy, wb, yx]; done))))), rfl⟩, trivial⟩
          · have q := qd.1 hb4
            refine zO <| zJ <| zA <| zB <| g_u (z6 rfl rfl rfl) <| g_u (zD rfl rfl) <| zF <| zA ?_
            refine ⟨i + 1, ⟨hi, by (try dsimp only); rw [h2, E, if_neg qt]; exact zm _ _ (by simpa [xy, wb, yx] using q)⟩, ⟨z_ rfl q, rfl, rfl, z_ rfl (by rw [zR (by omega) (by omega)]; rfl), trivial⟩, by (try dsimp only); omega⟩
      · have hin : i = l.length := by have := of_decide_eq_false hb2; (try simp only [List.length_map] at this); omega
        refine yJ <| ze <| ze <| z8 <| zA <| zC <| zB <| g_u (zD rfl rfl) <| g_u (zE rfl rfl) <| zF <| zA <| zI <| ret_scp ?_
        exact ⟨⟨(rfl : toAV (Al.look _ _) = some _).trans (congrArg some (by (exact congrArg iv (by unfold evsC; first | (rw [if_pos q16]; done) | (rw [if_neg q16, h2, hin, List.drop_length]; rfl) | (rw [if_neg q16, h2, E, if_pos qt]; done) | (rw [if_neg q16, h2, E, if_neg qt, yB _ _ (by simpa [xy, wb, yx] using q)]; simp [xy, wb, yx]; done))))), rfl⟩, trivial⟩
theorem lk1_c (e : GL) (h1 : e.trace.length = 16) (h2 : e.span.length = 8) : zg Tryz.prog Γ0 184 [.cp e.av] [iv (if x1 e.trace || x1 e.span then 10 else 0)] := by
  refine zU Tryz.func184 rfl Tryz.ntmps184 (by kernel_rfl) rfl fun w0 I0 G0 => ?_
  refine zC <| zB <| g_u (zE rfl rfl) <| zF <| zA <| zC <| zB <| g_u (zY rfl rfl fa107_0 rfl rfl) <| g_u (zb rfl rfl tA42 tS42 rfl rfl) <| g_u (y4 rfl tU42 Tryz.underlying42 tS5 rfl rfl rfl rfl) <| g_u (s_eqA rfl rfl rfl eg42 rfl rfl (eq42 _ _)) <| g_u (zD rfl rfl) <| yQ (t := 6) rfl ?_
  rintro (hb1 | hb1)
  · rw [hb1]
    have q : x1 e.trace = true := by have e := hb1; rw [xv h1] at e; exact e
    refine zS rfl rfl rfl <| zS rfl rfl rfl <| zS rfl rfl rfl <| zS rfl rfl rfl <| g_u (zo rfl rfl rfl) <| g_u (zQ (when_c _ _) rfl rfl) <| g_u (zE rfl rfl) <| zF <| zA <| zI ?_
    exact ⟨⟨(rfl : toAV (Al.look _ _) = some _).trans (congrArg some (by (exact congrArg iv (by first | (rw [q, xv h2, Bool.false_or]; done) | (rw [q, Bool.true_or]; done) | (rw [q, Bool.true_or]; rfl))))), rfl⟩, trivial⟩
  · rw [hb1]
    have q : x1 e.trace = false := by have e := hb1; rw [xv h1] at e; exact e
    refine zf rfl rfl (zY rfl rfl fa107_1 rfl rfl) <| zf rfl rfl (zb rfl rfl tA44 tS44 rfl rfl) <| zf rfl rfl (y4 rfl tU44 Tryz.underlying44 tS5 rfl rfl rfl rfl) <| zf rfl rfl (s_eqA rfl rfl rfl eg44 rfl rfl (eq44 _ _)) <| g_u (z2 rfl rfl rfl) <| g_u (zQ (when_c _ _) rfl rfl) <| g_u (zE rfl rfl) <| zF <| zA <| zI ?_
    exact ⟨⟨(rfl : toAV (Al.look _ _) = some _).trans (congrArg some (by (exact congrArg iv (by first | (rw [q, xv h2, Bool.false_or]; done) | (rw [q, Bool.true_or]; done) | (rw [q, Bool.true_or]; rfl))))), rfl⟩, trivial⟩
theorem lk2_c (e : GL) (ho : e.state.size < 9223372036854775808) : zg Tryz.prog Γ0 185 [.cp e.av] [iv (yU e.state)] := by
  refine zU Tryz.func185 rfl Tryz.ntmps185 (by kernel_rfl) rfl fun w0 I0 G0 => ?_
  refine zC <| zB <| g_u (zE rfl rfl) <| zF <| zA <| zC <| zB <| g_u (zY rfl rfl fa107_2 rfl rfl) <| g_u (zb rfl rfl tA9 tS9 rfl rfl) ?_
  refine g_u (zQ (words_c _ (by omega)) rfl rfl) ?_
  refine g_u (zE rfl rfl) <| zF <| zA <| zI ?_
  exact ⟨⟨(rfl : toAV (Al.look _ _) = some _).trans (congrArg some (by rfl)), rfl⟩, trivial⟩
theorem lk3_c (e : GL) (ho : ∀ a ∈ e.attrs, a.ok) (hw : wtAs e.attrs ≤ 1000000) : zg Tryz.prog Γ0 186 [.cp e.av] [iv (yO e.attrs)] := by
  refine zU Tryz.func186 rfl Tryz.ntmps186 (by kernel_rfl) rfl fun w0 I0 G0 => ?_
  refine zC <| zB <| g_u (zE rfl rfl) <| zF <| zA <| zC <| zB <| g_u (zY rfl rfl fa107_3 rfl rfl) <| g_u (zb rfl rfl tA46 tS46 rfl rfl) ?_
  refine g_u (zQ (checkAs_c _ ho (by omega)) rfl rfl) ?_
  refine g_u (zE rfl rfl) <| zF <| zA <| zI ?_
  exact ⟨⟨(rfl : toAV (Al.look _ _) = some _).trans (congrArg some (by rfl)), rfl⟩, trivial⟩
set_option maxHeartbeats 4000000 in
theorem links_c (l : List GL) (ho : ∀ e ∈ l, e.ok) (hw : zu GL.wt l ≤ 1000000) : zg Tryz.prog Γ0 129 [.sl 26 (l.map GL.av)] [iv (lksC l)] := by
  have ql := yW GL.wt (fun e => by unfold GL.wt; omega) l
  refine zU Tryz.func129 rfl Tryz.ntmps129 (by kernel_rfl) rfl fun w0 I0 G0 => ?_
  refine zC <| zB <| g_u (zE rfl rfl) <| zF <| zA <| aw_scope <| zC <| zC <| zB <| g_u (zD rfl rfl) <| g_u (yM rfl rfl Tryz.underlying48) <| g_u (wh rfl rfl rfl) <| zF <| zA ?_
  refine zL rfl (fun hb1 => ?_) (fun hb1 => ?_)
  · have q16 : 16 < l.length := by have := of_decide_eq_true hb1; (try simp only [List.length_map] at this); omega
    refine zC <| zB <| g_u (zE rfl rfl) <| zF <| zA <| zI <| zP <| ret_scp ?_
    exact ⟨⟨(rfl : toAV (Al.look _ _) = some _).trans (congrArg some (by (exact congrArg iv (by unfold lksC; first | (rw [if_pos q16]; done) | (rw [if_neg q16, h2, hin, List.drop_length]; rfl) | (rw [if_neg q16, h2, E]; rw [EF] at q ⊢; split at q; (rename_i hz; rw [if_pos hz, if_pos hz]); (rename_i hz; rw [if_neg hz, if_neg hz, yB _ _ q])))))), rfl⟩, trivial⟩
  · have q16 : ¬ 16 < l.length := by have := of_decide_eq_false hb1; (try simp only [List.length_map] at this); omega
    refine zO <| zA <| zC <| zB <| g_u (zE rfl rfl) <| zF <| zA <| zC <| aw_label <| zA <| zC <| zC <| zB <| g_u (zD rfl rfl) <| g_u (yM rfl rfl Tryz.underlying48) <| g_u (zD rfl rfl) <| zF <| zA <| zT ?_
    refine z4 (fun i : Nat => [(3, .imm (iv 0)), (9, .imm (.sl 26 (l.map GL.av))), (10, .imm (iv (l.length : Int))), (11, .imm (iv (i : Int)))]) (fun i => i ≤ l.length ∧ lkC l = lkC (l.drop i)) (fun i => l.length - i) (0) ?_ ⟨rfl, rfl, z_ rfl (by rw [List.length_map]), rfl, trivial⟩ ?_
    · exact ⟨Nat.zero_le _, rfl⟩
    · rintro i ⟨h1, h2⟩; (try dsimp only at h1 h2)
      refine zC <| zB <| g_u (yh rfl rfl rfl) <| zF <| zA <| zC ?_
      refine zL rfl (fun hb2 => ?_) (fun hb2 => ?_)
      · have hi : i < l.length := by have := of_decide_eq_true hb2; (try simp only [List.length_map] at this); omega
        have hx := yn GL.wt (nthL_mem hi)
        have hx2 : (nthL l i).wt = 1 + (nthL l i).state.size + wtAs (nthL l i).attrs := rfl
        have hxo := ho _ (nthL_mem hi)
        have c1 := lk1_c (nthL l i) hxo.1 hxo.2.1
        have c2 := lk2_c (nthL l i) (by omega)
        have c3 := lk3_c (nthL l i) hxo.2.2.2 (by omega)
        have E := lkC_drop hi
        have EF : xy (wb [(184, [], [.cp (nthL l i).av], (if x1 (nthL l i).trace || x1 (nthL l i).span then 10 else 0)), (185, [], [.cp (nthL l i).av], yU (nthL l i).state), (186, [], [.cp (nthL l i).av], yO (nthL l i).attrs)]) = if x1 (nthL l i).trace || x1 (nthL l i).span then 10 else orC (yU (nthL l i).state) (yO (nthL l i).attrs) := by show orC (if x1 (nthL l i).trace || x1 (nthL l i).span then 10 else 0) (orC (yU (nthL l i).state) (orC (yO (nthL l i).attrs) 0)) = _; rw [yx]; split; exact yB _ _ (by decide); exact zm _ _ rfl
        refine zO <| zA <| zC <| zT <| zC <| zB ?_
        refine g_u (zq rfl rfl rfl Tryz.underlying48 tS107 (by omega) (ixL hi)) ?_
        refine g_u (zb rfl rfl tA107 tS107 rfl (by first | exact getS_w (GL.width _) rfl | rfl)) ?_
        refine g_uG (zx 1005 rfl rfl rfl tZ107) rfl ?_
        refine g_u (zM rfl rfl rfl tS107 (by first | exact beqW (GL.width _) | rfl) (by first | exact setS_w (z107_w.trans (GL.width _).symm) rfl | rfl)) ?_
        refine zF <| zA <| zC <| aw_share 1005 rfl rfl <| zB <| g_u (yK rfl rfl rfl) <| g_u (yK rfl rfl rfl) <| g_u (yK rfl rfl rfl) <| g_u (zt (X0 := z201) rfl Tryz.underlying242 tS201 tZ201 rfl rfl rfl rfl rfl rfl rfl rfl) ?_
        refine g_u (zQ (first_c [(184, [], [.cp (nthL l i).av], (if x1 (nthL l i).trace || x1 (nthL l i).span then 10 else 0)), (185, [], [.cp (nthL l i).av], yU (nthL l i).state), (186, [], [.cp (nthL l i).av], yO (nthL l i).attrs)] (by simp only [List.length_cons, List.length_nil]; omega) (fun x hx => by simp only [List.mem_cons, List.not_mem_nil, or_false] at hx; rcases hx with rfl | rfl | rfl <;> assumption)) rfl rfl) ?_
        refine g_u (zE rfl rfl) <| zF <| zA <| zC <| zB <| g_u (zD rfl rfl) <| g_u (xi rfl rfl rfl) <| zF <| zA ?_
        refine zL rfl (fun hb3 => ?_) (fun hb3 => ?_)
        · have q := qc.1 hb3
          refine yJ <| we rfl <| ze <| ze <| z8 <| zA <| zC <| zB <| g_u (zD rfl rfl) <| g_u (zE rfl rfl) <| zF <| zA <| zI <| ret_scp ?_
          exact ⟨⟨(rfl : toAV (Al.look _ _) = some _).trans (congrArg some (by (exact congrArg iv (by unfold lksC; first | (rw [if_pos q16]; done) | (rw [if_neg q16, h2, hin, List.drop_length]; rfl) | (rw [if_neg q16, h2, E]; rw [EF] at q ⊢; split at q; (rename_i hz; rw [if_pos hz, if_pos hz]); (rename_i hz; rw [if_neg hz, if_neg hz, yB _ _ q])))))), rfl⟩, trivial⟩
        · have q := qd.1 hb3
          refine zO <| zJ <| zA <| zB <| g_u (z6 rfl rfl rfl) <| g_u (zD rfl rfl) <| zF <| zA ?_
          have qz := q
          rw [EF] at qz
          refine ⟨i + 1, ⟨hi, by (try dsimp only); rw [h2, E]; split at qz; (exact absurd qz (by decide)); (rename_i hz; rw [if_neg hz, zm _ _ qz])⟩, ⟨z_ rfl q, rfl, rfl, z_ rfl (by rw [zR (by omega) (by omega)]; rfl), trivial⟩, by (try dsimp only); omega⟩
      · have hin : i = l.length := by have := of_decide_eq_false hb2; (try simp only [List.length_map] at this); omega
        refine yJ <| ze <| ze <| z8 <| zA <| zC <| zB <| g_u (zD rfl rfl) <| g_u (zE rfl rfl) <| zF <| zA <| zI <| ret_scp ?_
        exact ⟨⟨(rfl : toAV (Al.look _ _) = some _).trans (congrArg some (by (exact congrArg iv (by unfold lksC; first | (rw [if_pos q16]; done) | (rw [if_neg q16, h2, hin, List.drop_length]; rfl) | (rw [if_neg q16, h2, E]; rw [EF] at q ⊢; split at q; (rename_i hz; rw [if_pos hz, if_pos hz]); (rename_i hz; rw [if_neg hz, if_neg hz, yB _ _ q])))))), rfl⟩, trivial⟩
end Go.Proofs
namespace Go.Proofs
open Go Go.Al
set_option maxRecDepth 10000
set_option maxHeartbeats 1000000 in
theorem ck1_c (s : GSpan) (h1 : s.trace.length = 16) (h2 : s.id.length = 8) : zg Tryz.prog Γ0 119 [.cp s.av] [iv (if x1 s.trace || x1 s.id then 10 else 0)] := by
  refine zU Tryz.func119 rfl Tryz.ntmps119 (by kernel_rfl) rfl fun w0 I0 G0 => ?_
  refine zC <| zB <| g_u (zE rfl rfl) <| zF <| zA <| zC <| zB <| g_u (zY rfl rfl fa52_0 rfl rfl) <| g_u (zb rfl rfl tA42 tS42 rfl rfl) <| g_u (y4 rfl tU42 Tryz.underlying42 tS5 rfl rfl rfl rfl) <| g_u (s_eqA rfl rfl rfl eg42 rfl rfl (eq42 _ _)) <| g_u (zD rfl rfl) <| yQ (t := 6) rfl ?_
  rintro (hb1 | hb1)
  · rw [hb1]
    have q : x1 s.trace = true := by have e := hb1; rw [xv h1] at e; exact e
    refine zS rfl rfl rfl <| zS rfl rfl rfl <| zS rfl rfl rfl <| zS rfl rfl rfl <| g_u (zo rfl rfl rfl) <| g_u (zQ (when_c _ _) rfl rfl) <| g_u (zE rfl rfl) <| zF <| zA <| zI ?_
    exact ⟨⟨(rfl : toAV (Al.look _ _) = some _).trans (congrArg some (by (exact congrArg iv (by first | (rw [q, xv h2, Bool.false_or]; done) | (rw [q, Bool.true_or]; done) | (rw [q, Bool.true_or]; rfl))))), rfl⟩, trivial⟩
  · rw [hb1]
    have q : x1 s.trace = false := by have e := hb1; rw [xv h1] at e; exact e
    refine zf rfl rfl (zY rfl rfl fa52_1 rfl rfl) <| zf rfl rfl (zb rfl rfl tA44 tS44 rfl rfl) <| zf rfl rfl (y4 rfl tU44 Tryz.underlying44 tS5 rfl rfl rfl rfl) <| zf rfl rfl (s_eqA rfl rfl rfl eg44 rfl rfl (eq44 _ _)) <| g_u (z2 rfl rfl rfl) <| g_u (zQ (when_c _ _) rfl rfl) <| g_u (zE rfl rfl) <| zF <| zA <| zI ?_
    exact ⟨⟨(rfl : toAV (Al.look _ _) = some _).trans (congrArg some (by (exact congrArg iv (by first | (rw [q, xv h2, Bool.false_or]; done) | (rw [q, Bool.true_or]; done) | (rw [q, Bool.true_or]; rfl))))), rfl⟩, trivial⟩
set_option maxHeartbeats 1000000 in
theorem ck2_c (s : GSpan) (ht : s.state.size < 9223372036854775808) : zg Tryz.prog Γ0 121 [.cp s.av] [iv (yU s.state)] := by
  refine zU Tryz.func121 rfl Tryz.ntmps121 (by kernel_rfl) rfl fun w0 I0 G0 => ?_
  refine zC <| zB <| g_u (zE rfl rfl) <| zF <| zA <| zC <| zB <| g_u (zY rfl rfl fa52_3 rfl rfl) <| g_u (zb rfl rfl tA9 tS9 rfl rfl) ?_
  refine g_u (zQ (words_c _ (by omega)) rfl rfl) ?_
  refine g_u (zE rfl rfl) <| zF <| zA <| zI ?_
  exact ⟨⟨(rfl : toAV (Al.look _ _) = some _).trans (congrArg some (by rfl)), rfl⟩, trivial⟩
set_option maxHeartbeats 1000000 in
theorem ck3_c (s : GSpan) (ht : s.name.size < 9223372036854775808) : zg Tryz.prog Γ0 122 [.cp s.av] [iv (yU s.name)] := by
  refine zU Tryz.func122 rfl Tryz.ntmps122 (by kernel_rfl) rfl fun w0 I0 G0 => ?_
  refine zC <| zB <| g_u (zE rfl rfl) <| zF <| zA <| zC <| zB <| g_u (zY rfl rfl fa52_4 rfl rfl) <| g_u (zb rfl rfl tA9 tS9 rfl rfl) ?_
  refine g_u (zQ (words_c _ (by omega)) rfl rfl) ?_
  refine g_u (zE rfl rfl) <| zF <| zA <| zI ?_
  exact ⟨⟨(rfl : toAV (Al.look _ _) = some _).trans (congrArg some (by rfl)), rfl⟩, trivial⟩
set_option maxHeartbeats 1000000 in
theorem ck9_c (s : GSpan) (ht : s.note.size < 9223372036854775808) : zg Tryz.prog Γ0 131 [.cp s.av] [iv (yU s.note)] := by
  refine zU Tryz.func131 rfl Tryz.ntmps131 (by kernel_rfl) rfl fun w0 I0 G0 => ?_
  refine zC <| zB <| g_u (zE rfl rfl) <| zF <| zA <| zC <| zB <| g_u (zY rfl rfl fa52_11 rfl rfl) <| g_u (zY rfl rfl fa50_1 rfl rfl) <| g_u (zb rfl rfl tA9 tS9 rfl rfl) ?_
  refine g_u (zQ (words_c _ (by omega)) rfl rfl) ?_
  refine g_u (zE rfl rfl) <| zF <| zA <| zI ?_
  exact ⟨⟨(rfl : toAV (Al.look _ _) = some _).trans (congrArg some (by rfl)), rfl⟩, trivial⟩
set_option maxHeartbeats 1000000 in
theorem ck4_c (s : GSpan) : zg Tryz.prog Γ0 123 [.cp s.av] [iv (if s.kind < 0 ∨ 5 < s.kind then 7 else 0)] := by
  refine zU Tryz.func123 rfl Tryz.ntmps123 (by kernel_rfl) rfl fun w0 I0 G0 => ?_
  refine zC <| zB <| g_u (zE rfl rfl) <| zF <| zA <| zC <| zB <| g_u (zY rfl rfl fa52_5 rfl rfl) <| g_u (zb rfl rfl tA3 tS3 rfl rfl) <| g_u (yh rfl rfl rfl) <| g_u (zD rfl rfl) <| yQ (t := 5) rfl ?_
  rintro (hb1 | hb1)
  · rw [hb1]
    have q : s.kind < 0 := of_decide_eq_true hb1
    refine zS rfl rfl rfl <| zS rfl rfl rfl <| zS rfl rfl rfl <| g_u (zo rfl rfl rfl) <| g_u (zQ (when_c _ _) rfl rfl) <| g_u (zE rfl rfl) <| zF <| zA <| zI ?_
    exact ⟨⟨(rfl : toAV (Al.look _ _) = some _).trans (congrArg some (by (exact congrArg iv (by first | (rw [if_pos (Or.inl q)]; done) | (rw [if_pos (Or.inl q)]; rfl) | (simp only [qa, gt_iff_lt]; (repeat' split) <;> omega))))), rfl⟩, trivial⟩
  · rw [hb1]
    have q : ¬ s.kind < 0 := of_decide_eq_false hb1
    refine zf rfl rfl (zY rfl rfl fa52_5 rfl rfl) <| zf rfl rfl (zb rfl rfl tA3 tS3 rfl rfl) <| zf rfl rfl (wh rfl rfl rfl) <| g_u (z2 rfl rfl rfl) <| g_u (zQ (when_c _ _) rfl rfl) <| g_u (zE rfl rfl) <| zF <| zA <| zI ?_
    exact ⟨⟨(rfl : toAV (Al.look _ _) = some _).trans (congrArg some (by (exact congrArg iv (by first | (rw [if_pos (Or.inl q)]; done) | (rw [if_pos (Or.inl q)]; rfl) | (simp only [qa, gt_iff_lt]; (repeat' split) <;> omega))))), rfl⟩, trivial⟩
set_option maxHeartbeats 1000000 in
theorem ck8_c (s : GSpan) : zg Tryz.prog Γ0 130 [.cp s.av] [iv (if s.code < 0 ∨ 2 < s.code then 7 else 0)] := by
  refine zU Tryz.func130 rfl Tryz.ntmps130 (by kernel_rfl) rfl fun w0 I0 G0 => ?_
  refine zC <| zB <| g_u (zE rfl rfl) <| zF <| zA <| zC <| zB <| g_u (zY rfl rfl fa52_11 rfl rfl) <| g_u (zY rfl rfl fa50_0 rfl rfl) <| g_u (zb rfl rfl tA3 tS3 rfl rfl) <| g_u (yh rfl rfl rfl) <| g_u (zD rfl rfl) <| yQ (t := 6) rfl ?_
  rintro (hb1 | hb1)
  · rw [hb1]
    have q : s.code < 0 := of_decide_eq_true hb1
    refine zS rfl rfl rfl <| zS rfl rfl rfl <| zS rfl rfl rfl <| zS rfl rfl rfl <| g_u (zo rfl rfl rfl) <| g_u (zQ (when_c _ _) rfl rfl) <| g_u (zE rfl rfl) <| zF <| zA <| zI ?_
    exact ⟨⟨(rfl : toAV (Al.look _ _) = some _).trans (congrArg some (by (exact congrArg iv (by first | (rw [if_pos (Or.inl q)]; done) | (rw [if_pos (Or.inl q)]; rfl) | (simp only [qa, gt_iff_lt]; (repeat' split) <;> omega))))), rfl⟩, trivial⟩
  · rw [hb1]
    have q : ¬ s.code < 0 := of_decide_eq_false hb1
    refine zf rfl rfl (zY rfl rfl fa52_11 rfl rfl) <| zf rfl rfl (zY rfl rfl fa50_0 rfl rfl) <| zf rfl rfl (zb rfl rfl tA3 tS3 rfl rfl) <| zf rfl rfl (wh rfl rfl rfl) <| g_u (z2 rfl rfl rfl) <| g_u (zQ (when_c _ _) rfl rfl) <| g_u (zE rfl rfl) <| zF <| zA <| zI ?_
    exact ⟨⟨(rfl : toAV (Al.look _ _) = some _).trans (congrArg some (by (exact congrArg iv (by first | (rw [if_pos (Or.inl q)]; done) | (rw [if_pos (Or.inl q)]; rfl) | (simp only [qa, gt_iff_lt]; (repeat' split) <;> omega))))), rfl⟩, trivial⟩
set_option maxHeartbeats 1000000 in
theorem ck5_c (s : GSpan) (ho : ∀ a ∈ s.attrs, a.ok) (hw : wtAs s.attrs ≤ 1000000) : zg Tryz.prog Γ0 125 [.cp s.av] [iv (yO s.attrs)] := by
  refine zU Tryz.func125 rfl Tryz.ntmps125 (by kernel_rfl) rfl fun w0 I0 G0 => ?_
  refine zC <| zB <| g_u (zE rfl rfl) <| zF <| zA <| zC <| zB <| g_u (zY rfl rfl fa52_8 rfl rfl) <| g_u (zb rfl rfl tA46 tS46 rfl rfl) ?_
  refine g_u (zQ (checkAs_c _ ho (by omega)) rfl rfl) ?_
  refine g_u (zE rfl rfl) <| zF <| zA <| zI ?_
  exact ⟨⟨(rfl : toAV (Al.look _ _) = some _).trans (congrArg some (by rfl)), rfl⟩, trivial⟩
set_option maxHeartbeats 1000000 in
theorem ck6_c (s : GSpan) (ho : ∀ e ∈ s.events, e.ok) (hw : zu GE.wt s.events ≤ 1000000) : zg Tryz.prog Γ0 126 [.cp s.av] [iv (evsC s.events)] := by
  refine zU Tryz.func126 rfl Tryz.ntmps126 (by kernel_rfl) rfl fun w0 I0 G0 => ?_
  refine zC <| zB <| g_u (zE rfl rfl) <| zF <| zA <| zC <| zB <| g_u (zY rfl rfl fa52_9 rfl rfl) <| g_u (zb rfl rfl tA47 tS47 rfl rfl) ?_
  refine g_u (zQ (events_c _ ho (by omega)) rfl rfl) ?_
  refine g_u (zE rfl rfl) <| zF <| zA <| zI ?_
  exact ⟨⟨(rfl : toAV (Al.look _ _) = some _).trans (congrArg some (by rfl)), rfl⟩, trivial⟩
set_option maxHeartbeats 1000000 in
theorem ck7_c (s : GSpan) (ho : ∀ e ∈ s.links, e.ok) (hw : zu GL.wt s.links ≤ 1000000) : zg Tryz.prog Γ0 128 [.cp s.av] [iv (lksC s.links)] := by
  refine zU Tryz.func128 rfl Tryz.ntmps128 (by kernel_rfl) rfl fun w0 I0 G0 => ?_
  refine zC <| zB <| g_u (zE rfl rfl) <| zF <| zA <| zC <| zB <| g_u (zY rfl rfl fa52_10 rfl rfl) <| g_u (zb rfl rfl tA48 tS48 rfl rfl) ?_
  refine g_u (zQ (links_c _ ho (by omega)) rfl rfl) ?_
  refine g_u (zE rfl rfl) <| zF <| zA <| zI ?_
  exact ⟨⟨(rfl : toAV (Al.look _ _) = some _).trans (congrArg some (by rfl)), rfl⟩, trivial⟩
set_option maxHeartbeats 8000000 in
theorem spanCheck_c (s : GSpan) (ho : s.ok) (hw : s.wt ≤ 1000000) : zg Tryz.prog Γ0 84 [s.av] [iv (wL s)] := by
  have qw : s.wt = 1 + s.state.size + s.name.size + s.note.size + wtAs s.attrs + zu GE.wt s.events + zu GL.wt s.links := rfl
  have ql := yW GE.wt (fun e => by unfold GE.wt; omega) s.events
  have qm := yW GL.wt (fun e => by unfold GL.wt; omega) s.links
  obtain ⟨⟨o1, o2, o3⟩, ⟨o4, o5, o6⟩, o7, ho8, ho9, ho10⟩ := ho
  have c1 := ck1_c s o1 o2
  have c2 := ck2_c s (by omega)
  have c3 := ck3_c s (by omega)
  have c4 := ck4_c s
  have c5 : zg Tryz.prog Γ0 124 ([.agg [uv s.start, uv s.fin]] ++ [] ++ []) [iv (wQ ⟨s.start, s.fin⟩)] := rgCheck_c ⟨s.start, s.fin⟩
  have c6 := ck5_c s ho8 (by omega)
  have c7 := ck6_c s ho9 (by omega)
  have c8 := ck7_c s ho10 (by omega)
  have c9 := ck8_c s
  have c10 := ck9_c s (by omega)
  refine zU Tryz.func84 rfl Tryz.ntmps84 (by kernel_rfl) rfl fun w0 I0 G0 => ?_
  refine zC <| zB <| g_uG (zl 1001 rfl rfl rfl rfl) rfl <| g_u (zE rfl rfl) <| zF <| zA <| zC <| aw_share 1001 rfl rfl <| zB <| g_u (yK rfl rfl rfl) <| g_u (yK rfl rfl rfl) <| g_u (yK rfl rfl rfl) <| g_u (yK rfl rfl rfl) <| g_u (zY rfl rfl fa52_6 rfl rfl) <| g_u (zb rfl rfl tA45 tS45 rfl rfl) <| g_u (zY rfl rfl fa52_7 rfl rfl) <| g_u (zb rfl rfl tA45 tS45 rfl rfl) <| g_u (xB rfl tU181 us181 pl181 rfl rfl rfl rfl) <| g_u (yK rfl rfl rfl) <| g_u (yK rfl rfl rfl) <| g_u (yK rfl rfl rfl) <| g_u (yK rfl rfl rfl) <| g_u (yK rfl rfl rfl) <| g_u (yK rfl rfl rfl) <| g_u (zt (X0 := z201) rfl Tryz.underlying242 tS201 tZ201 rfl rfl rfl rfl rfl rfl rfl rfl) ?_
  refine g_u (zQ (first_c [(119, [], [.cp s.av], if x1 s.trace || x1 s.id then 10 else 0), (121, [], [.cp s.av], yU s.state), (122, [], [.cp s.av], yU s.name), (123, [], [.cp s.av], if s.kind < 0 ∨ 5 < s.kind then 7 else 0), (124, [.agg [uv s.start, uv s.fin]], [], wQ ⟨s.start, s.fin⟩), (125, [], [.cp s.av], yO s.attrs), (126, [], [.cp s.av], evsC s.events), (128, [], [.cp s.av], lksC s.links), (130, [], [.cp s.av], if s.code < 0 ∨ 2 < s.code then 7 else 0), (131, [], [.cp s.av], yU s.note)] (by simp only [List.length_cons, List.length_nil]; omega) (fun x hx => by simp only [List.mem_cons, List.not_mem_nil, or_false] at hx; rcases hx with rfl | rfl | rfl | rfl | rfl | rfl | rfl | rfl | rfl | rfl <;> assumption)) rfl rfl) ?_
  refine g_u (zE rfl rfl) <| zF <| zA <| zI ?_
  exact ⟨⟨(rfl : toAV (Al.look _ _) = some _).trans (congrArg some (by rfl)), rfl⟩, trivial⟩
end Go.Proofs
namespace Go.Al
open Go.RowKit
section
variable {C : Cx} {A : Nat → SV} {d : Nat} {ty : TypeId} {pos : String} {af : Array Edge} {gd : Option (Nat × Bool)} {x y : Operand} {T T' : TypeId}
end
end Go.Al
namespace Go.Proofs
open Go Go.Al
end Go.Proofs
namespace Go.Proofs
open Go Go.Al
set_option maxRecDepth 10000
end Go.Proofs
namespace Go.Proofs
open Go Go.Al
set_option maxRecDepth 10000
end Go.Proofs
namespace Go.Proofs
open Go Go.Al
set_option maxRecDepth 10000
end Go.Proofs
namespace Go.Al
open Go.RowKit
def base (P : Program) (Γ : List (Nat × AV)) (N : Nat) (w : World) (G : Gh) : Cx := ⟨P, w, G.I, fun _ => False, N, 100000, G, Γ, [], none⟩
def noRes : St → Bool
  | [] => true
  | (_, x) :: st => !x.res && noRes st
theorem noRes_spec : ∀ {st : St}, noRes st = true → ∀ k, (look st k).res = false
  | [], _, k => rfl
  | (d, x) :: st, h, k => by
    simp only [noRes, Bool.and_eq_true, Bool.not_eq_true'] at h
    simp only [look, upd]
    cases Nat.beq d k
    · exact noRes_spec h.2 k
    · exact h.1
theorem notOwn_res {G : Gh} {k b : Nat} {x : SV} (h : x.res = false) : ¬ zi G k b x := by cases x <;> simp [SV.res, zi] at h ⊢
theorem Holds.mono_slot {w0 w1 : World} {E E' : Nat → Prop} {G G' : Gh} {a : Act} {w w' : World} {k : Nat} {x : SV} (hx : x.res = false) (hle : Le w G.I w' G'.I) (hg : GRel [] G G') (h : Holds w0 E G a w k x) : Holds w1 E' G' a w' k x := by
  cases x <;> simp only [Holds] at h ⊢ <;> first | trivial | exact ⟨h.1, yj.mono hle hg (wK.1 _) h.2⟩ | cases hx
theorem SimG.rebase {C : Cx} {A : Nat → SV} {G : Gh} {a : Act} {w : World} (S : SimG C A G a w) (hD : C.D = []) (hr : ∀ k, (A k).res = false) : SimG (base C.P C.Γ C.N w G) A G a w :=
  ⟨rfl, rfl, rfl, Nat.le_refl _, fun _ _ _ => rfl, Le.refl _ _, fun _ _ => ⟨rfl, .inl ⟨rfl, rfl⟩⟩, S.glob, fun _ _ h => .inl h, S.val, S.nts, S.dfs.trans hD,
    fun k => (S.holds k).mono_slot (hr k) (Le.refl _ _) (GRel.refl _), fun k _ _ _ h _ => notOwn_res (hr k) h⟩
theorem SimG.turned {P : Program} {Γ : List (Nat × AV)} {N : Nat} {A : Nat → SV} {G : Gh} {a : Act} {w w' : World} {I' : Nat → Nat → Prop} (S : SimG (base P Γ N w G) A G a w) (hr : ∀ k, (A k).res = false)
    (hle : Le w G.I w' I') (hv : ValI w' I') : SimG (base P Γ N w' { G with I := I' }) A { G with I := I' } a w' :=
  ⟨rfl, rfl, rfl, Nat.le_refl _, fun _ _ _ => rfl, Le.refl _ _, fun _ _ => ⟨rfl, .inl ⟨rfl, rfl⟩⟩, S.glob.mono hle, fun _ _ h => .inl h, hv, S.nts, S.dfs,
    fun k => (S.holds k).mono_slot (hr k) hle (fun _ _ => ⟨rfl, .inl ⟨rfl, rfl⟩⟩), fun k _ _ _ h _ => notOwn_res (hr k) h⟩
def Grow {ι : Type} (J : ι → (Nat → Nat → Prop) → World → Prop) : Prop :=
  ∀ j I w I' w', J j I w → Below w.heap.size w w' → Le w I w' I' → NewI w I I' → ValI w' I' → J j I' w'
section
variable {ι : Type} {P : Program} {Γ : List (Nat × AV)} {N n : Nat} {J : ι → (Nat → Nat → Prop) → World → Prop}
def AWJ (P : Program) (Γ : List (Nat × AV)) (N n : Nat) (J : ι → (Nat → Nat → Prop) → World → Prop) (c : Code) (st : St) (j : ι) (Q : Exit → St → ι → Prop) : Prop :=
  ∀ a w G, SimG (base P Γ N w G) (look st) G a w → J j G.I w →
    c.wpIn (fen none) n P (fun e a' w' => ∃ st' j' G', Q e st' j' ∧ SimG (base P Γ N w' G') (look st') G' a' w' ∧ J j' G'.I w') a w
def thnJ (K : St → ι → Prop) (Q : Exit → St → ι → Prop) : Exit → St → ι → Prop
  | .normal, st, j => K st j
  | e, st, j => Q e st j
def blkJ (id : Nat) (K : St → ι → Prop) (Q : Exit → St → ι → Prop) : Exit → St → ι → Prop
  | .normal, st, j => K st j
  | .exit i, st, j => if i = id then K st j else Q (.exit i) st j
  | e, st, j => Q e st j
variable {c x y : Code} {st : St} {j : ι} {K : St → ι → Prop} {Q : Exit → St → ι → Prop}
theorem ret_thnJ (h : Q .ret st j) : thnJ K Q .ret st j := h
theorem exit_thnJ {i : Nat} (h : Q (.exit i) st j) : thnJ K Q (.exit i) st j := h
theorem z1 (h : K st j) : thnJ K Q .normal st j := h
theorem ret_blkJ {id : Nat} (h : Q .ret st j) : blkJ id K Q .ret st j := h
theorem normal_blkJ {id : Nat} (h : K st j) : blkJ id K Q .normal st j := h
theorem exit_blkJ {id : Nat} (h : K st j) : blkJ id K Q (.exit id) st j := by simp only [blkJ, if_true]; exact h
theorem awj_skip (h : Q .normal st j) : AWJ P Γ N n J .skip st j Q := fun _ _ G S k => wpIn_skip ⟨st, j, G, h, S, k⟩
theorem awj_ret (h : Q .ret st j) : AWJ P Γ N n J .ret st j Q := fun _ _ G S k => wpIn_ret ⟨st, j, G, h, S, k⟩
theorem awj_exit {i : Nat} (h : Q (.exit i) st j) : AWJ P Γ N n J (.exit i) st j Q := fun _ _ G S k => wpIn_exit ⟨st, j, G, h, S, k⟩
theorem xF (h : AWJ P Γ N n J x st j (thnJ (fun st' j' => AWJ P Γ N n J y st' j' Q) Q)) : AWJ P Γ N n J (.seq x y) st j Q := by
  intro a w G S k
  refine wpIn_seq (wpIn_mono (h a w G S k) ?_)
  rintro e a' w' ⟨st', j', G', q, S', k'⟩
  cases e with
  | normal => exact q a' w' G' S' k'
  | exit id => exact ⟨st', j', G', q, S', k'⟩
  | goto l => exact ⟨st', j', G', q, S', k'⟩
  | ret => exact ⟨st', j', G', q, S', k'⟩
  | panic c => exact ⟨st', j', G', q, S', k'⟩
  | outgrown => exact ⟨st', j', G', q, S', k'⟩
theorem awj_block {id : Nat} (h : AWJ P Γ N n J c st j (blkJ id (fun st' j' => Q .normal st' j') Q)) : AWJ P Γ N n J (.block id c) st j Q := by
  intro a w G S k
  refine wpIn_block (wpIn_mono (h a w G S k) ?_)
  rintro e a' w' ⟨st', j', G', q, S', k'⟩
  cases e with
  | normal => exact ⟨st', j', G', q, S', k'⟩
  | exit i =>
    simp only [blkJ] at q
    simp only [Exit.inBlock]
    split
    · rename_i hi; rw [if_pos hi] at q; exact ⟨st', j', G', q, S', k'⟩
    · rename_i hi; rw [if_neg hi] at q; exact ⟨st', j', G', q, S', k'⟩
  | goto l => exact ⟨st', j', G', q, S', k'⟩
  | ret => exact ⟨st', j', G', q, S', k'⟩
  | panic c => exact ⟨st', j', G', q, S', k'⟩
  | outgrown => exact ⟨st', j', G', q, S', k'⟩
theorem awj_cond {t : Nat} {b : Bool} (hc : look st t = .imm (.v (.bool b))) (ht : b = true → AWJ P Γ N n J x st j Q) (hf : b = false → AWJ P Γ N n J y st j Q) : AWJ P Γ N n J (.cond (.tmp t) x y) st j Q := by
  intro a w G S k
  have hev : a.eval (.tmp t) = .bool b := wi (S.imm hc)
  exact wpIn_cond_split hev (fun h => ht h a w G S k) (fun h => hf h a w G S k)
theorem awj_cond_true {t : Nat} (hc : look st t = .imm (.v (.bool true))) (h : AWJ P Γ N n J x st j Q) : AWJ P Γ N n J (.cond (.tmp t) x y) st j Q := awj_cond hc (fun _ => h) (fun h => by cases h)
theorem awj_cond_false {t : Nat} (hc : look st t = .imm (.v (.bool false))) (h : AWJ P Γ N n J y st j Q) : AWJ P Γ N n J (.cond (.tmp t) x y) st j Q := awj_cond hc (fun h => by cases h) (fun _ => h)
theorem awj_loop' {κ : Type} (Inv : κ → St) (jx : κ → ι) (ok : κ → Prop) (μ : κ → Nat) (i0 : κ) (hj : j = jx i0) (ok0 : ok i0) (h0 : sub st (Inv i0))
    (round : ∀ i, ok i → AWJ P Γ N n J c (Inv i) (jx i) (thnJ (fun st' j' => ∃ i', ok i' ∧ sub st' (Inv i') ∧ j' = jx i' ∧ μ i' < μ i) Q)) : AWJ P Γ N n J (.loop c) st j Q := by
  intro a w G S k
  refine wpIn_loop_ghost (fun m a w => ∃ i G, μ i = m ∧ ok i ∧ SimG (base P Γ N w G) (look (Inv i)) G a w ∧ J (jx i) G.I w) (μ i0) ⟨i0, G, rfl, ok0, S.weak (wR h0), hj ▸ k⟩ ?_
  rintro m a w ⟨i, G, rfl, hok, S, k⟩
  refine wpIn_mono (round i hok a w G S k) ?_
  rintro e a' w' ⟨st', j', G', q, S', k'⟩
  cases e with
  | normal =>
    obtain ⟨i', hok', hs, rfl, hlt⟩ := q
    exact ⟨μ i', hlt, i', G', rfl, hok', S'.weak (wR hs), k'⟩
  | exit id => exact ⟨st', j', G', q, S', k'⟩
  | goto l => exact ⟨st', j', G', q, S', k'⟩
  | ret => exact ⟨st', j', G', q, S', k'⟩
  | panic c => exact ⟨st', j', G', q, S', k'⟩
  | outgrown => exact ⟨st', j', G', q, S', k'⟩
theorem awj_of_aw (hJ : Grow J) (h : ∀ w G, AW (base P Γ N w G) c st (fun e st' => noRes st' = true ∧ Q e st' j)) : AWJ P Γ N n J c st j Q := by
  intro a w G S k
  refine wpIn_mono (h w G a w ⟨G, S⟩ n) ?_
  rintro e a' w' ⟨st', ⟨hn, q⟩, G', S'⟩
  refine ⟨st', j, G', q, S'.rebase rfl (noRes_spec hn), hJ _ _ _ _ _ k ⟨S'.os, S'.tape, S'.output, S'.size, fun k hk => S'.block k hk (fun h => h)⟩ S'.sub (fun b o hi => ?_) S'.val⟩
  rcases S'.new b o hi with h | h | h
  · exact .inl h
  · exact .inr h
  · exact h.elim
theorem yd (hJ : Grow J) {id : Nat} {ops : Array Oper} (h : ∀ w0 G0, Go1 (base P Γ N w0 G0) ops ops.toList st [] (fun st' _ => noRes st' = true ∧ Q .normal st' j)) (hnd : noDef ops.toList = true := by rfl) : AWJ P Γ N n J (.region id ops false) st j Q :=
  awj_of_aw hJ fun w G => zB (h w G) hnd
theorem Go1.mono {C : Cx} {ops : Array Oper} {K K' : St → List Tr → Prop} (hK : ∀ st tr, K st tr → K' st tr) : ∀ {os : List Oper} {st : St} {tr : List Tr}, Go1 C ops os st tr K → Go1 C ops os st tr K'
  | [], _, _, h => hK _ _ h
  | _ :: _, _, _, ⟨t, h1, h2, h3⟩ => ⟨t, h1, h2, Go1.mono hK h3⟩
def GoJ (P : Program) (Γ : List (Nat × AV)) (N n : Nat) (J : ι → (Nat → Nat → Prop) → World → Prop) (ops : Array Oper) (os : List Oper) (st : St) (j : ι) (Q : Exit → St → ι → Prop) : Prop :=
  ∀ k a w G, (∀ i, os[i]? = ops[k + i]?) → SimG (base P Γ N w G) (look st) G a w → J j G.I w →
    wpOpsIn (fen none) n P ops (fun e a' w' => ∃ st' j' G', Q e st' j' ∧ SimG (base P Γ N w' G') (look st') G' a' w' ∧ J j' G'.I w') (List.range' k os.length) a w
theorem awj_regionJ {id : Nat} {ops : Array Oper} (h : GoJ P Γ N n J ops ops.toList st j Q) : AWJ P Γ N n J (.region id ops false) st j Q := by
  intro a w G S k
  refine wpIn_region ?_
  have := h 0 a w G (by simp) S k
  simpa [List.range_eq_range'] using this
theorem goj_nil {ops : Array Oper} (h : Q .normal st j) : GoJ P Γ N n J ops [] st j Q := by
  intro k a w G _ S hk
  simp only [List.length_nil, List.range'_zero, wpOpsIn]
  exact ⟨st, j, G, h, S, hk⟩
theorem wpOps_front {C : Cx} {ops : Array Oper} {n : Nat} {Q : Exit → Act → World → Prop} (hnd : noDef ops.toList = true) : ∀ (os : List Oper) (k : Nat) (A : Nat → SV) (tr : List Tr) (a : Act) (w : World) (rest : List Nat),
    (∀ j, j < os.length → os[j]? = ops[k + j]?) → Run C ops os A tr → Sim C A a w → (∀ a w, Sim C (fin tr A) a w → wpOpsIn (fen C.R) n C.P ops Q rest a w) →
    wpOpsIn (fen C.R) n C.P ops Q (List.range' k os.length ++ rest) a w
  | [], k, A, [], a, w, _, _, _, S, hQ => by simpa using hQ a w S
  | [], _, _, _ :: _, _, _, _, _, h, _, _ => h.elim
  | _ :: _, _, _, [], _, _, _, _, h, _, _ => h.elim
  | o :: os, k, A, t :: ts, a, w, rest, hl, h, S, hQ => by
    have h0 : ops[k]? = some o := by simpa using (hl 0 (by simp)).symm
    obtain ⟨h1, h2, h3⟩ := h
    have h4 := h1 A a w (fun _ _ => rfl) (fun k _ => h2 k) S
    simp only [List.length_cons, List.range'_succ, List.cons_append, wpOpsIn, h0]
    have hl' : ∀ j, j < os.length → os[j]? = ops[k + 1 + j]? := fun j hj => by have := hl (j + 1) (by simpa using hj); simpa [Nat.add_assoc, Nat.add_comm 1 j] using this
    split
    · rename_i hw
      simp only [hw, if_true] at h4
      refine Oper.wpIn_of_wp (noDef_get hnd h0) (wpOps_run.Oper.wp_mono' ?_ ?_ h4)
      · intro a' w' S'
        exact wpOps_front hnd os (k + 1) _ ts a' w' rest hl' h3 S' hQ
      · exact fun _ _ _ h => h.elim
    · rename_i hw
      simp only [hw] at h4
      exact ⟨fun _ _ => trivial, wpOps_front hnd os (k + 1) _ ts _ w rest hl' h3 h4 hQ⟩
theorem goj_run (hJ : Grow J) {ops : Array Oper} {os os1 os2 : List Oper} (hs : os = os1 ++ os2) (hnd : noDef ops.toList = true)
    (h : ∀ w0 G0, Go1 (base P Γ N w0 G0) ops os1 st [] (fun st' _ => noRes st' = true ∧ GoJ P Γ N n J ops os2 st' j Q)) : GoJ P Γ N n J ops os st j Q := by
  subst hs
  intro k a w G hi S hk
  obtain ⟨tr, st', r, f, ⟨hn, q⟩, _⟩ := Go1.sound _ _ _ _ (h w G)
  have e : List.range' k (os1 ++ os2).length = List.range' k os1.length ++ List.range' (k + os1.length) os2.length := by
    rw [List.length_append]; exact (List.range'_append_1 ..).symm
  rw [e]
  refine wpOps_front (C := base P Γ N w G) hnd os1 k (look st) tr a w _ (fun i h => ?_) r ⟨G, S⟩ (fun a' w' S' => ?_)
  · have := hi i
    rw [List.getElem?_append_left h] at this; exact this
  · obtain ⟨G', S'⟩ := S'
    rw [f] at S'
    refine q (k + os1.length) a' w' G' (fun i => ?_) (S'.rebase rfl (noRes_spec hn)) (hJ _ _ _ _ _ hk ⟨S'.os, S'.tape, S'.output, S'.size, fun k hk => S'.block k hk (fun h => h)⟩ S'.sub (fun b o hi => ?_) S'.val)
    · have := hi (os1.length + i)
      rw [List.getElem?_append_right (by omega), Nat.add_sub_cancel_left] at this
      rw [this, Nat.add_assoc]
    · rcases S'.new b o hi with h | h | h
      · exact .inl h
      · exact .inr h
      · exact h.elim
theorem goj_take (m : Nat) (hJ : Grow J) {ops : Array Oper} {os : List Oper} (hnd : noDef ops.toList = true)
    (h : ∀ w0 G0, Go1 (base P Γ N w0 G0) ops (os.take m) st [] (fun st' _ => noRes st' = true ∧ GoJ P Γ N n J ops (os.drop m) st' j Q)) : GoJ P Γ N n J ops os st j Q :=
  goj_run hJ (List.take_append_drop m os).symm hnd h
theorem goj_end (hJ : Grow J) {ops : Array Oper} {os : List Oper} (hnd : noDef ops.toList = true)
    (h : ∀ w0 G0, Go1 (base P Γ N w0 G0) ops os st [] (fun st' _ => noRes st' = true ∧ Q .normal st' j)) : GoJ P Γ N n J ops os st j Q :=
  goj_run hJ (List.append_nil os).symm hnd (fun w0 G0 => by
    refine Go1.mono ?_ (h w0 G0)
    rintro st' tr ⟨h1, h2⟩
    exact ⟨h1, goj_nil h2⟩)
def YPost (J : ι → (Nat → Nat → Prop) → World → Prop) (I : Nat → Nat → Prop) (w : World) (jt jf : ι) (e : Ending) (w' : World) : Prop :=
  ∃ (b : Bool) (I' : Nat → Nat → Prop), e = .returned (.bool b) ∧ Le w I w' I' ∧ ValI w' I' ∧ J (if b then jt else jf) I' w'
theorem goj_yield {ops : Array Oper} {os : List Oper} {d l : Nat} {cal : Operand} {args : Array Operand} {ats : Array TypeId} {ty : TypeId} {pos : String} {af : Array Edge} {xs : List AV} {jt jf : ι} (hN : Nat.blt d N = true)
    (hr : noRes st = true) (hf : opV (look st) cal = some (.v (.func (.yield l) #[] #[]))) (hx : opVs (look st) args.toList = some xs)
    (hy : ∀ I w vs, J j I w → yA w I xs vs → YieldAt (fen none) (n - 1) P l (List.toArray vs) w (YPost J I w jt jf))
    (h : ∀ b : Bool, GoJ P Γ N n J ops os ((d, .imm (.v (.bool b))) :: st) (if b then jt else jf) Q) :
    GoJ P Γ N n J ops (⟨some d, .call { callee := .value cal, args := args, argTypes := ats }, ty, pos, af, none⟩ :: os) st j Q := by
  intro k a w G hi S hk
  have h0 := (hi 0).symm
  simp only [List.getElem?_cons_zero, Nat.add_zero] at h0
  simp only [List.length_cons, List.range'_succ, wpOpsIn, h0]
  have hw : Region.wanted (⟨some d, .call { callee := .value cal, args := args, argTypes := ats }, ty, pos, af, none⟩ : Oper) (yielded ops a.tmps) = true := rfl
  simp only [hw, if_true]
  obtain ⟨c, h1, h2⟩ := S.opV hf
  simp only [RepC] at h1
  have hev : a.eval cal = .func (.yield l) #[] #[] := by
    rw [h2, h1.1]; rfl
  obtain ⟨fn, tmps, assign, body, hrun, hround⟩ := hy G.I w _ hk (S.opVs hx)
  refine ⟨fun _ _ => trivial, ?_⟩
  have hsem : (Oper.semAt (fen none).round a.eval (⟨some d, .call { callee := .value cal, args := args, argTypes := ats }, ty, pos, af, none⟩ : Oper)).run P w = .ok (.round l fn tmps assign body) w := by
    rw [Oper.semAt_eq _ _ _ (by intro c hc; cases hc)]
    simp only [execOp, resolve, hev, Deferred.ofValue, Sem.run_bind, Sem.run_pure, Result.andThen_ok, invoke]
    have e : (#[] ++ Array.map a.eval args : Array Value) = List.toArray (args.toList.map a.eval) := by
      rw [Array.empty_append]
      apply Array.ext'
      simp
    rw [e]; exact hrun
  rw [hsem, Oper.uponIn_round]
  refine ⟨fun h => by simp [fen, Fence.wide] at h, hround.mono ?_⟩
  rintro e w' ⟨b, I', rfl, hle, hv, hj⟩
  have S' := (SimG.turned S (noRes_spec hr) hle hv).put (d := d) (by simpa [Nat.blt_eq, base] using hN) (x := .imm (.v (.bool b))) (v := .bool b) (zn.2 ⟨[.bool b], by simp [RepC, Value.cells, plain], rfl⟩)
  refine h b (k + 1) _ w' { G with I := I' } (fun i => ?_) ?_ hj
  · have := hi (i + 1)
    simpa [Nat.add_assoc, Nat.add_comm 1 i] using this
  · exact S'
end
def SeqC (P : Program) (Γ : List (Nat × AV)) (f : FuncId) (caps : List AV) (L : List (List AV)) : Prop :=
  x6 P f = true ∧ ∀ n l (J : Option Nat → (Nat → Nat → Prop) → World → Prop) w I lb, Grow J → ValI w I → Glob Γ w I → yA w I caps lb →
    (∀ i xs I w vs, L[i]? = some xs → J (some i) I w → yA w I xs vs → YieldAt (fen none) (n - 1) P l (List.toArray vs) w (YPost J I w (some (i + 1)) none)) →
    J (some 0) I w →
    CallsIn (fen none) n P f (#[.func (.yield l) #[] #[]] ++ List.toArray lb) w (fun e w' => ∃ v I', e = .returned v ∧ (J (some L.length) I' w' ∨ J none I' w'))
theorem seqc_of {P : Program} {Γ : List (Nat × AV)} {f : FuncId} {fn : Func} {c : Code} {N : Nat} {caps : List AV} {L : List (List AV)} (hf : P.funcs[f]? = some fn) (hb : fn.body = some c) (hnt : fn.ntmps = N) (hcal : x6 P f = true)
    (hres : fn.results = #[]) (hN : Nat.ble (caps.length + 1) N = true)
    (h : ∀ n l (J : Option Nat → (Nat → Nat → Prop) → World → Prop), Grow J →
      (∀ i xs I w vs, L[i]? = some xs → J (some i) I w → yA w I xs vs → YieldAt (fen none) (n - 1) P l (List.toArray vs) w (YPost J I w (some (i + 1)) none)) →
      AWJ P Γ N n J c (params 0 (.v (.func (.yield l) #[] #[]) :: caps)) (some 0) (fun e _ j => (e = .normal ∨ e = .ret) ∧ (j = some L.length ∨ j = none))) : SeqC P Γ f caps L := by
  refine ⟨hcal, fun n l J w I lb hJ hv hgl hr hy h0 => ?_⟩
  refine callsIn_of_wp hf hb trivial ?_
  rw [hnt]
  have hrep : yA w I (.v (.func (.yield l) #[] #[]) :: caps) (.func (.yield l) #[] #[] :: lb) := by
    simp only [yA]
    exact ⟨[.func (.yield l) #[] #[]], lb, rfl, by simp [RepC, Value.cells, plain], hr⟩
  have S0 := start_simG (P := P) (Γ := Γ) (N := N) (K := 100000) hv hgl hrep (by simpa using Nat.le_of_ble_eq_true hN)
  have e : (#[.func (.yield l) #[] #[]] ++ List.toArray lb : Array Value) = List.toArray (.func (.yield l) #[] #[] :: lb) := by simp
  rw [e]
  refine wpIn_mono (h n l J hJ hy _ w (gh0 I) S0 h0) ?_
  rintro e a' w' ⟨st', j', G', ⟨he, hj⟩, S', k'⟩
  have fin : a'.defers = [] ∧ ∃ v, (results fn a'.tmps).run P w' = .ok v w' ∧ ∃ v' I', Ending.returned v = .returned v' ∧ (J (some L.length) I' w' ∨ J none I' w') := by
    refine ⟨S'.dfs, .tuple #[], ?_, _, G'.I, rfl, ?_⟩
    · unfold results; rw [hres]; simp
    · rcases hj with rfl | rfl
      · exact .inl k'
      · exact .inr k'
  rcases he with rfl | rfl <;> exact fin
end Go.Al
namespace Go.Al
open Go.RowKit
theorem Holds.kind {w0 : World} {E : Nat → Prop} {G : Gh} {a : Act} {w : World} {k b : Nat} {x : SV} (r : Holds w0 E G a w k x) (h : zi G k b x) {o : Obj} (ho : w.heap[b]? = some o) : isBook o = false := by
  cases x <;> simp only [zi] at h <;> simp only [Holds] at r
  case box T x =>
    obtain ⟨_, ⟨cs, fr, h1, _⟩, _⟩ := r
    rw [h, ho] at h1; cases h1; rfl
  case mpr ks vs =>
    obtain ⟨_, ⟨es, h1, _⟩, _⟩ := r
    rw [h, ho] at h1; cases h1; rfl
  case gen R => exact R.kind _ _ _ _ r.2 h ho
  case row l =>
    obtain ⟨ad, n', c, h1, h2⟩ := h
    rcases r.2 with ⟨e, _⟩ | ⟨b', cap, e, _, _, _, ⟨cs, T, h5, _⟩, _⟩
    · rw [e] at h1; cases h1
    · rw [e] at h1; cases h1; rw [← h2, h5] at ho; cases ho; rfl
  case itr m n s =>
    have h1 := r.2.1
    rw [h, ho] at h1; cases h1; rfl
  case tok n l =>
    obtain ⟨ad, n', c, h1, h2⟩ := h
    rcases r.2 with ⟨e, _⟩ | ⟨b', cap, e, _, _, _, _, ⟨cs, T, fr, h5, _⟩, _⟩
    · rw [e] at h1; cases h1
    · rw [e] at h1; cases h1; rw [← h2, h5] at ho; cases ho; rfl
theorem cell_book {w : World} {d : Nat} {o : Obj} (h : w.heap[d]? = some o) (ho : isBook o = true) (n : Nat) : w.cell? ⟨d, n, none⟩ = none := by
  unfold World.cell?
  cases o <;> simp_all [isBook]
theorem putObj_size (w : World) (d : Nat) (o : Obj) : (w.putObj d o).heap.size = w.heap.size := by simp [World.putObj]
theorem SimG.book {C : Cx} {A : Nat → SV} {G : Gh} {a : Act} {w : World} (S : SimG C A G a w) {d : Nat} {o o' : Obj} (h : w.heap[d]? = some o) (ho : isBook o = true) (ho' : isBook o' = true) (hd : C.w0.heap.size ≤ d ∨ C.E d) :
    SimG C A G a (w.putObj d o') := by
  have hlt : d < w.heap.size := (Array.getElem?_eq_some_iff.1 h).1
  have hsame : (w.putObj d o').heap[d]? = some o' := World.putObj_heap_same hlt
  have hoth : ∀ k, k ≠ d → (w.putObj d o').heap[k]? = w.heap[k]? := fun k hk => World.putObj_heap_other hk
  have hle : Le w G.I (w.putObj d o') G.I := by
    intro b n hi
    refine ⟨hi, ?_⟩
    by_cases e : b = d
    · subst e
      refine ⟨by rw [cell_book hsame ho', cell_book h ho], fun es ck h1 => ?_⟩
      rw [h] at h1; cases h1; cases ho
    · exact yL (hoth b e)
  refine ⟨S.os, S.tape, S.output, by rw [putObj_size]; exact S.size, fun k h1 h2 => ?_, S.sub.trans hle, S.rel, S.glob.mono hle, S.new, fun b o h => by rw [putObj_size]; exact S.val b o h, S.nts, S.dfs, fun k => ?_, S.apart⟩
  · have : k ≠ d := by
      rintro rfl
      rcases hd with hd | hd
      · omega
      · exact h2 hd
    rw [hoth k this]; exact S.block k h1 h2
  · refine (S.holds k).keep (Gs := []) hle (fun _ _ => ⟨rfl, .inl ⟨rfl, rfl⟩⟩) (wK.1 _) (by rw [putObj_size]; exact Nat.le_refl _) (fun h => ⟨h, rfl⟩) (fun _ => ⟨rfl, rfl, rfl⟩) (fun b hbk => ?_)
    have hne : b ≠ d := by
      rintro rfl
      have := (S.holds k).kind hbk h
      rw [ho] at this; cases this
    exact ⟨hoth b hne, fun _ hi => hi⟩
theorem SimG.newBook {C : Cx} {A : Nat → SV} {G : Gh} {a : Act} {w : World} (S : SimG C A G a w) (o : Obj) : SimG C A G a (w.alloc o) := by
  have hb : Below w.heap.size w (w.alloc o) := (Below.refl _ w).alloc (Nat.le_refl _) _
  have hle : Le w G.I (w.alloc o) G.I := fun b n hi => ⟨hi, yL (hb.block b (S.val b n hi))⟩
  exact S.called hb hle (fun _ _ h => .inl h) (fun b n hi => by have := S.val b n hi; simp; omega)
def own (A : Nat → SV) (G : Gh) (b : Nat) : Prop := ∃ k, zi G k b (A k)
theorem SimG.switch {C : Cx} {A : Nat → SV} {G : Gh} {a : Act} {w : World} (S : SimG C A G a w) (K : Nat) : SimG ⟨C.P, w, G.I, own A G, C.N, K, G, C.Γ, C.D, C.R⟩ A G a w := by
  refine ⟨rfl, rfl, rfl, Nat.le_refl _, fun _ _ _ => rfl, Le.refl _ _, fun _ _ => ⟨rfl, .inl ⟨rfl, rfl⟩⟩, S.glob, fun _ _ h => .inl h, S.val, S.nts, S.dfs, fun k => ?_, S.apart⟩
  cases hr : (A k).res
  · exact (S.holds k).mono_slot hr (Le.refl _ _) (GRel.refl _)
  · exact (S.holds k).reown hr (fun b h1 _ _ => .inr ⟨k, h1⟩)
theorem SimG.back {C : Cx} {A A' : Nat → SV} {G G' : Gh} {a a' : Act} {w w' : World} (S : SimG C A G a w) {K : Nat} {D : List Deferred} {R : Option Nat} (hK : K ≤ C.K)
    (S' : SimG ⟨C.P, w, G.I, own A G, C.N, K, G, C.Γ, D, R⟩ A' G' a' w') : SimG ⟨C.P, C.w0, C.I0, C.E, C.N, C.K, C.G0, C.Γ, D, R⟩ A' G' a' w' := by
  have hown : ∀ b, own A G b → C.w0.heap.size ≤ b ∨ C.E b := fun b ⟨k, hk⟩ => ((S.holds k).owned hk).1
  have hsz : w.heap.size ≤ w'.heap.size := S'.size
  refine ⟨S'.os.trans S.os, S'.tape.trans S.tape, S'.output.trans S.output, Nat.le_trans S.size hsz, fun k h1 h2 => ?_, S.sub.trans S'.sub, fun g hg => (S.rel g hg).trans (S'.rel g (Nat.le_trans hK hg)), S'.glob, fun b o hi => ?_, S'.val, S'.nts, S'.dfs, fun k => ?_, S'.apart⟩
  · have hno : ¬ own A G k := by
      intro ho
      rcases hown k ho with h | h
      · exact absurd h1 (by show ¬ k < C.w0.heap.size; omega)
      · exact h2 h
    exact (S'.block k (Nat.lt_of_lt_of_le h1 S.size) hno).trans (S.block k h1 h2)
  · rcases S'.new b o hi with h | h | h
    · exact S.new b o h
    · exact .inr (.inl (Nat.le_trans S.size h))
    · exact .inr (hown b h)
  · cases hr : (A' k).res
    · exact (S'.holds k).mono_slot hr (Le.refl _ _) (GRel.refl _)
    · exact (S'.holds k).reown hr (fun b _ _ h => by
        rcases h with h | h
        · exact .inl (Nat.le_trans S.size h)
        · exact hown b h)
theorem SimG.redefer {P : Program} {w0 : World} {I0 : Nat → Nat → Prop} {E : Nat → Prop} {N K : Nat} {G0 : Gh} {Γ : List (Nat × AV)} {D : List Deferred} {R : Option Nat} {A : Nat → SV} {G : Gh} {a : Act} {w : World}
    (S : SimG ⟨P, w0, I0, E, N, K, G0, Γ, D, R⟩ A G a w) (D' : List Deferred) (R' : Option Nat) : SimG ⟨P, w0, I0, E, N, K, G0, Γ, D', R'⟩ A G { tmps := a.tmps, defers := D' } w := by
  refine ⟨S.os, S.tape, S.output, S.size, S.block, S.sub, S.rel, S.glob, S.new, S.val, S.nts, rfl, fun k => ?_, S.apart⟩
  have h := S.holds k
  generalize A k = x at h
  cases x <;> simp only [Holds] at h ⊢ <;> exact h
def mark (d : Nat) : Deferred := { target := .collected d, args := #[] }
structure Sw (C : Cx) (w1 : World) (I1 : Nat → Nat → Prop) (E1 : Nat → Prop) (G1 : Gh) (Ds : List Nat) : Prop where
  os : w1.os = C.w0.os
  tape : w1.tape = C.w0.tape
  output : w1.output = C.w0.output
  size : C.w0.heap.size ≤ w1.heap.size
  block : ∀ k, k < C.w0.heap.size → ¬ C.E k → w1.heap[k]? = C.w0.heap[k]?
  own : ∀ b, (w1.heap.size ≤ b ∨ E1 b) → C.w0.heap.size ≤ b ∨ C.E b
  sub : Le C.w0 C.I0 w1 I1
  rel : ∀ g, C.K ≤ g → Turns C.G0 G1 g
  new : ∀ b o, I1 b o → C.I0 b o ∨ C.w0.heap.size ≤ b ∨ C.E b
  marks : ∀ d ∈ Ds, d < w1.heap.size ∧ ¬ E1 d ∧ C.w0.heap.size ≤ d ∧ w1.heap[d]? = some (.deferred (some []))
  nodup : Ds.Nodup
def upC (C : Cx) (w1 : World) (I1 : Nat → Nat → Prop) (E1 : Nat → Prop) (G1 : Gh) (D1 : List Deferred) : Cx := ⟨C.P, w1, I1, E1, C.N, C.K, G1, C.Γ, D1, C.R⟩
def SimX (C : Cx) (A : Nat → SV) (a : Act) (w : World) : Prop := ∃ w1 I1 E1 G1 Ds, Sw C w1 I1 E1 G1 Ds ∧ Sim (upC C w1 I1 E1 G1 (Ds.map mark)) A a w
theorem Sw.start (C : Cx) : Sw C C.w0 C.I0 C.E C.G0 [] :=
  ⟨rfl, rfl, rfl, Nat.le_refl _, fun _ _ _ => rfl, fun _ h => h, Le.refl _ _, fun _ _ => ⟨rfl, .inl ⟨rfl, rfl⟩⟩, fun _ _ h => .inl h, fun d h => (by cases h), List.nodup_nil⟩
theorem Sw.back {C : Cx} {w1 : World} {I1 : Nat → Nat → Prop} {E1 : Nat → Prop} {G1 : Gh} {Ds : List Nat} (h : Sw C w1 I1 E1 G1 Ds) {D1 : List Deferred} {A : Nat → SV} {G : Gh} {a : Act} {w : World} (S : SimG (upC C w1 I1 E1 G1 D1) A G a w) :
    SimG ⟨C.P, C.w0, C.I0, C.E, C.N, C.K, C.G0, C.Γ, D1, C.R⟩ A G a w := by
  refine ⟨S.os.trans h.os, S.tape.trans h.tape, S.output.trans h.output, Nat.le_trans h.size S.size, fun k h1 h2 => ?_, h.sub.trans S.sub, fun g hg => (h.rel g hg).trans (S.rel g hg), S.glob, fun b o hi => ?_, S.val, S.nts, S.dfs, fun k => ?_, S.apart⟩
  · have hno : ¬ E1 k := by
      intro ho
      rcases h.own k (.inr ho) with h3 | h3
      · exact absurd h1 (by show ¬ k < C.w0.heap.size; omega)
      · exact h2 h3
    exact (S.block k (Nat.lt_of_lt_of_le h1 h.size) hno).trans (h.block k h1 h2)
  · rcases S.new b o hi with h3 | h3 | h3
    · exact h.new b o h3
    · exact .inr (h.own b (.inl h3))
    · exact .inr (h.own b (.inr h3))
  · cases hr : (A k).res
    · exact (S.holds k).mono_slot hr (Le.refl _ _) (GRel.refl _)
    · exact (S.holds k).reown hr (fun b _ _ h3 => h.own b h3)
theorem Sw.mark_at {C : Cx} {w1 : World} {I1 : Nat → Nat → Prop} {E1 : Nat → Prop} {G1 : Gh} {Ds : List Nat} (h : Sw C w1 I1 E1 G1 Ds) {D1 : List Deferred} {A : Nat → SV} {G : Gh} {a : Act} {w : World} (S : SimG (upC C w1 I1 E1 G1 D1) A G a w) :
    ∀ d ∈ Ds, w.heap[d]? = some (.deferred (some [])) ∧ C.w0.heap.size ≤ d ∧ d < w1.heap.size := by
  intro d hd
  obtain ⟨h1, h2, h3, h4⟩ := h.marks d hd
  exact ⟨(S.block d h1 h2).trans h4, h3, h1⟩
def FW (C : Cx) (c : Code) (st : St) (Q : Exit → St → Prop) : Prop :=
  ∀ a w, SimX C (look st) a w → ∀ n, c.wpIn (fen C.R) n C.P (fun e a' w' => ∃ st', Q e st' ∧ SimX C (look st') a' w') a w
theorem fw_aw {P : Program} {w0 : World} {I0 : Nat → Nat → Prop} {E : Nat → Prop} {N : Nat} {G0 : Gh} {Γ : List (Nat × AV)} {c : Code} {st : St} {Q : Exit → St → Prop}
    (h : ∀ w1 I1 E1 G1 D1, AW ⟨P, w1, I1, E1, N, 100000, G1, Γ, D1, none⟩ c st Q) : FW ⟨P, w0, I0, E, N, 100000, G0, Γ, [], none⟩ c st Q := by
  rintro a w ⟨w1, I1, E1, G1, Ds, sw, S⟩ n
  refine wpIn_mono (h w1 I1 E1 G1 _ a w S n) ?_
  rintro e a' w' ⟨st', q, S'⟩
  exact ⟨st', q, w1, I1, E1, G1, Ds, sw, S'⟩
theorem fw_seq {C : Cx} {x y : Code} {st : St} {Q : Exit → St → Prop} (h : FW C x st (thn (fun st' => FW C y st' Q) Q)) : FW C (.seq x y) st Q := by
  intro a w S n
  refine wpIn_seq (wpIn_mono (h a w S n) ?_)
  rintro e a' w' ⟨st', q, S'⟩
  cases e with
  | normal => exact q a' w' S' n
  | exit id => exact ⟨st', q, S'⟩
  | goto l => exact ⟨st', q, S'⟩
  | ret => exact ⟨st', q, S'⟩
  | panic c => exact ⟨st', q, S'⟩
  | outgrown => exact ⟨st', q, S'⟩
theorem fw_block {C : Cx} {id : Nat} {c : Code} {st : St} {Q : Exit → St → Prop} (h : FW C c st (blk id (fun st' => Q .normal st') Q)) : FW C (.block id c) st Q := by
  intro a w S n
  refine wpIn_block (wpIn_mono (h a w S n) ?_)
  rintro e a' w' ⟨st', q, S'⟩
  cases e with
  | normal => exact ⟨st', q, S'⟩
  | exit i =>
    simp only [blk] at q
    simp only [Exit.inBlock]
    split
    · rename_i hi; rw [if_pos hi] at q; exact ⟨st', q, S'⟩
    · rename_i hi; rw [if_neg hi] at q; exact ⟨st', q, S'⟩
  | goto l => exact ⟨st', q, S'⟩
  | ret => exact ⟨st', q, S'⟩
  | panic c => exact ⟨st', q, S'⟩
  | outgrown => exact ⟨st', q, S'⟩
theorem leaves_of {P : Program} {w : World} {I : Nat → Nat → Prop} {N K : Nat} {G0 : Gh} {Γ : List (Nat × AV)} {D : List Deferred} {R : Option Nat} {st : St} {G : Gh} {a : Act} {w' : World} {fn : Func} {rs : List AV}
    (S : SimG ⟨P, w, I, fun _ => False, N, K, G0, Γ, D, R⟩ (look st) G a w') (q : retAll P st fn.results.toList rs) : ∃ v, (results fn a.tmps).run P w' = .ok v w' ∧ Leaves w I rs (.returned v) w' := by
  obtain ⟨vs, h1, h2⟩ := ret_run S _ _ q
  have hb : Below w.heap.size w w' := ⟨S.os, S.tape, S.output, S.size, fun k hk => S.block k hk (fun h => h)⟩
  have hni : NewI w I G.I := fun b o hi => by
    rcases S.new b o hi with h | h | h
    · exact .inl h
    · exact .inr h
    · exact h.elim
  have hrun : (results fn a.tmps).run P w' = .ok (if h : vs.length = 1 then vs[0] else .tuple (List.toArray vs)) w' := by
    have e : results fn a.tmps = (do let vs ← fn.results.mapM (rvSem a.tmps); pure (if h : vs.size = 1 then vs[0] else .tuple vs)) := by
      unfold results
      congr 1
    rw [e, Array.mapM_eq_mapM_toList]
    simp only [Sem.run_bind, Sem.run_map, h1, Result.andThen_ok, Sem.run_pure]
    simp
  refine ⟨_, hrun, _, G.I, rfl, hb, S.sub, hni, S.val, ?_⟩
  have hlen := wa h2
  unfold resV
  split
  · rename_i r
    simp at hlen
    rw [dif_pos hlen]
    obtain ⟨v, h3, h4⟩ := repVs_get (j := 0) h2 rfl
    have : vs[0] = v := by rw [List.getElem?_eq_getElem (by omega)] at h3; exact Option.some.inj h3
    rw [this]; exact h4
  · rename_i h0
    have : ¬ vs.length = 1 := by
      intro h1
      rw [h1] at hlen
      match rs, hlen with
      | [r], _ => exact h0 r rfl
    rw [dif_neg this]
    exact ⟨vs, rfl, h2⟩
theorem leavesM {P : Program} {w : World} {I : Nat → Nat → Prop} {N K : Nat} {G0 : Gh} {Γ : List (Nat × AV)} {D : List Deferred} {R : Option Nat} {st : St} {G : Gh} {a : Act} {fn : Func} {rs : List AV} {n : Nat} (q : retAll P st fn.results.toList rs) :
    ∀ (Ds : List Nat) (w' : World), Ds.Nodup → (∀ d ∈ Ds, w'.heap[d]? = some (.deferred (some [])) ∧ w.heap.size ≤ d) → SimG ⟨P, w, I, fun _ => False, N, K, G0, Γ, D, R⟩ (look st) G a w' →
    LeavesInM Fence.wide n P fn a.tmps (Leaves w I rs) (Ds.map mark) .returning w'
  | [], w', _, _, S => leaves_of S q
  | d :: Ds, w', hn, hm, S => by
    obtain ⟨h1, h2⟩ := hm d List.mem_cons_self
    refine ⟨by simp, .inl ⟨d, _, rfl, run_takeDeferred h1, ?_⟩⟩
    rw [List.nodup_cons] at hn
    refine leavesM q Ds _ hn.2 (fun d' hd' => ?_) (S.book h1 rfl rfl (.inl h2))
    obtain ⟨h3, h4⟩ := hm d' (List.mem_cons_of_mem _ hd')
    have : d' ≠ d := by rintro rfl; exact hn.1 hd'
    exact ⟨(World.putObj_heap_other this).trans h3, h4⟩
theorem pcall_of_fw {P : Program} {Γ : List (Nat × AV)} {f : FuncId} {fn : Func} {c : Code} {N : Nat} {xs rs : List AV} (hf : P.funcs[f]? = some fn) (hb : fn.body = some c) (hnt : fn.ntmps = N) (hcal : x6 P f = true)
    (hN : Nat.ble xs.length N = true) (h : ∀ w0 I0 G0, FW ⟨P, w0, I0, fun _ => False, N, 100000, G0, Γ, [], none⟩ c (params 0 xs) (Post P fn rs)) : zg P Γ f xs rs := by
  refine ⟨hcal, fun w I args hv hgl hr => (callsIn_wide (n := 0)).1 (callsIn_of_wp_marks hf hb trivial ?_)⟩
  rw [hnt]
  have S0 := start_simG (P := P) (K := 100000) hv hgl hr (Nat.le_of_ble_eq_true hN)
  refine wpIn_mono (h w I (gh0 I) _ w ⟨_, _, _, _, _, Sw.start _, _, S0⟩ 0) ?_
  rintro e a' w' ⟨st', q, w1, I1, E1, G1, Ds, sw, G, S⟩
  have fin : retAll P st' fn.results.toList rs → LeavesInM Fence.wide 0 P fn a'.tmps (Leaves w I rs) a'.defers .returning w' := by
    intro q
    have hd : a'.defers = Ds.map mark := S.dfs
    rw [hd]
    exact leavesM q Ds w' sw.nodup (fun d hd => ⟨(sw.mark_at S d hd).1, (sw.mark_at S d hd).2.1⟩) (sw.back S)
  cases e <;> first | exact fin q | exact q.elim
end Go.Al
namespace Go.Al
open Go.RowKit
theorem le_book {w : World} {I : Nat → Nat → Prop} {d : Nat} {o o' : Obj} (h : w.heap[d]? = some o) (ho : isBook o = true) (ho' : isBook o' = true) : Le w I (w.putObj d o') I := by
  have hlt : d < w.heap.size := (Array.getElem?_eq_some_iff.1 h).1
  have hsame : (w.putObj d o').heap[d]? = some o' := World.putObj_heap_same hlt
  intro b n hi
  refine ⟨hi, ?_⟩
  by_cases e : b = d
  · subst e
    refine ⟨by rw [cell_book hsame ho', cell_book h ho], fun es ck h1 => ?_⟩
    rw [h] at h1; cases h1; cases ho
  · exact yL (World.putObj_heap_other e)
def okT (N : Nat) : St → Bool
  | [] => true
  | (k, x) :: st => Nat.blt k N && (match x with | .imm _ => true | .ptr g _ => Nat.ble 50000 g | _ => false) && okT N st
theorem okT_spec {N : Nat} : ∀ {T : St}, okT N T = true → ∀ k, has T k = true → (∃ x, look T k = .imm x) ∨ ∃ g o, look T k = .ptr g o ∧ 50000 ≤ g
  | [], _, k, h => by simp [has] at h
  | (j, x) :: T, h, k, hk => by
    simp only [okT, Bool.and_eq_true] at h
    simp only [look, upd]
    simp only [has, Bool.or_eq_true] at hk
    cases hb : Nat.beq j k
    · exact okT_spec h.2 k (by simpa [hb] using hk)
    · cases x with
      | imm x => exact .inl ⟨x, rfl⟩
      | ptr g o => exact .inr ⟨g, o, rfl, Nat.le_of_ble_eq_true h.1.2⟩
      | _ => exact absurd h.1.2 (by simp)
theorem look_in {T H : St} {k : Nat} (h : has T k = true) : look (T ++ H) k = look T k := by
  rw [← wP]
  show upd (look H) T k = upd (fun _ => .dead) T k
  exact upd_congr T k h
theorem look_out {T H : St} {k : Nat} (h : has T k = false) : look (T ++ H) k = look H k := by
  rw [← wP]; exact y8 _ _ _ h
theorem next_round {C : Cx} {T H H' st2 : St} {G G2 : Gh} {a0 a2 : Act} {w w3 : World} {D2 : List Deferred} {R : Option Nat} (S : SimG C (look (T ++ H)) G a0 w)
    (S3 : SimG ⟨C.P, C.w0, C.I0, C.E, C.N, C.K, C.G0, C.Γ, D2, R⟩ (look st2) G2 a2 w3) (hle : Le w G.I w3 G2.I) (hrel : ∀ g, 50000 ≤ g → G2.blk g = G.blk g)
    (hT : okT C.N T = true) (hH : xR C.N H' = true) (hs : sub st2 H') : SimG C (look (T ++ H')) G2 a0 w3 := by
  have hown : ∀ k b, zi G2 k b (look (T ++ H') k) → zi G2 k b (look st2 k) := by
    intro k b h
    cases hk : has T k
    · rw [look_out hk] at h
      rcases wR hs k with e | e
      · rw [e] at h; simp only [zi] at h
      · rw [e] at h; exact h
    · rw [look_in hk] at h
      rcases okT_spec hT k hk with ⟨x, e⟩ | ⟨g, o, e, _⟩ <;> rw [e] at h <;> simp only [zi] at h
  refine ⟨S3.os, S3.tape, S3.output, S3.size, S3.block, S3.sub, S3.rel, S3.glob, S3.new, S3.val, S.nts, S.dfs, fun k => ?_, fun k j b hkj h1 h2 => S3.apart k j b hkj (hown k b h1) (hown j b h2)⟩
  cases hk : has T k
  · rw [look_out hk]
    rcases x3 hH k with e | ⟨e, _⟩
    · rw [e]; simp only [Holds]
    · rcases wR hs k with e1 | e1
      · rw [e1]; simp only [Holds]
      · have h := S3.holds k
        rw [← e1] at h
        exact h.reown e (fun b _ _ h => h)
  · have hS := S.holds k
    rw [look_in hk] at hS ⊢
    rcases okT_spec hT k hk with ⟨x, e⟩ | ⟨g, o, e, hg⟩
    · rw [e] at hS ⊢
      simp only [Holds] at hS ⊢
      refine ⟨hS.1, ?_⟩
      obtain ⟨c, h1, h2⟩ := hS.2
      simp only [RepS] at h1
      exact ⟨c, by simp only [RepS]; exact RepC.mono hle _ _ h1, h2⟩
    · rw [e] at hS ⊢
      simp only [Holds] at hS ⊢
      refine ⟨hS.1, ?_⟩
      obtain ⟨c, h1, h2⟩ := hS.2
      simp only [RepS] at h1
      exact ⟨c, by simp only [RepS]; rw [hrel g hg]; exact h1, h2⟩
def putsSt : List Nat → List AV → St → St
  | p :: ps, x :: xs, st => putsSt ps xs ((p, .imm x) :: st)
  | _, _, st => st
theorem SimG.puts {C : Cx} {G : Gh} {w : World} : ∀ (ps : List Nat) (xs : List AV) (vs : List Value) (st : St) (a : Act), ps.all (fun p => Nat.blt p C.N) = true → yA w G.I xs vs → SimG C (look st) G a w →
    SimG C (look (putsSt ps xs st)) G { tmps := (ps.zip vs).foldl (fun t (p : Nat × Value) => t.setIfInBounds p.1 p.2) a.tmps, defers := a.defers } w
  | [], _, _, st, a, _, _, S => by simpa [putsSt] using S
  | p :: ps, [], vs, st, a, _, h, S => by simp only [yA] at h; subst h; simpa [putsSt] using S
  | p :: ps, x :: xs, vs, st, a, hp, h, S => by
    simp only [yA] at h
    obtain ⟨c, r, rfl, h1, h2⟩ := h
    simp only [List.all_cons, Bool.and_eq_true] at hp
    have S1 := S.put (d := p) (by simpa [Nat.blt_eq] using hp.1) (x := .imm x) (v := mkV x c) (zn.2 ⟨c, h1, rfl⟩)
    have S2 := SimG.puts ps xs r ((p, .imm x) :: st) (a.put (some p) (mkV x c)) hp.2 h2 S1
    simpa [putsSt, Act.put] using S2
def bodyQ (N : Nat) (T : St) (H : Nat → St) (ok : Nat → Prop) (Q : Exit → St → Prop) (i : Nat) : Exit → St → Prop
  | .normal, st => ok (i + 1) ∧ sub st (H (i + 1))
  | .exit id, st => ∃ Hx, xR N Hx = true ∧ sub st Hx ∧ Q (.exit id) (T ++ Hx)
  | .ret, st => ∃ Hx, xR N Hx = true ∧ sub st Hx ∧ Q .ret (T ++ Hx)
  | _, _ => False
def RJ (C1 : Cx) (T : St) (H : Nat → St) (ok : Nat → Prop) (Q : Exit → St → Prop) (a0 : Act) (l d : Nat) (rec : LoopState → Option Code → Loop) : Option Nat → (Nat → Nat → Prop) → World → Prop
  | some i, I, W => ∃ G : Gh, ok i ∧ G.I = I ∧ SimG C1 (look (T ++ H i)) G a0 W ∧ W.heap[l]? = some (.loop (rec .ready none)) ∧ W.heap[d]? = some (.deferred (some []))
  | none, I, W => ∃ (G : Gh) (c : Code) (Hx : St), G.I = I ∧ SimG C1 (look (T ++ Hx)) G a0 W ∧ W.heap[l]? = some (.loop (rec .done (some c))) ∧ W.heap[d]? = some (.deferred (some [])) ∧
      ((∃ id, c = .exit id ∧ Q (.exit id) (T ++ Hx)) ∨ (c = .ret ∧ Q .ret (T ++ Hx)))
theorem rj_grow {C1 : Cx} {T : St} {H : Nat → St} {ok : Nat → Prop} {Q : Exit → St → Prop} {a0 : Act} {l d : Nat} {rec : LoopState → Option Code → Loop} : Grow (RJ C1 T H ok Q a0 l d rec) := by
  intro j I w I' w' h hb hle hn hv
  have keep : ∀ {k : Nat} {o : Obj}, w.heap[k]? = some o → w'.heap[k]? = some o := fun h => (hb.block _ (Array.getElem?_eq_some_iff.1 h).1).trans h
  cases j with
  | some i =>
    obtain ⟨G, h0, rfl, S, h1, h2⟩ := h
    exact ⟨{ G with I := I' }, h0, rfl, S.called hb hle hn hv, keep h1, keep h2⟩
  | none =>
    obtain ⟨G, c, Hx, rfl, S, h1, h2, h3⟩ := h
    exact ⟨{ G with I := I' }, c, Hx, rfl, S.called hb hle hn hv, keep h1, keep h2, h3⟩
theorem not_own {C : Cx} {A : Nat → SV} {G : Gh} {a : Act} {w : World} (S : SimG C A G a w) {k : Nat} {o : Obj} (h : w.heap[k]? = some o) (ho : isBook o = true) : ¬ own A G k := by
  rintro ⟨j, hj⟩
  have := (S.holds j).kind hj h
  rw [ho] at this; cases this
theorem rj_round {P : Program} {w1 : World} {I1 : Nat → Nat → Prop} {E1 : Nat → Prop} {N : Nat} {G1 : Gh} {Γ : List (Nat × AV)} {T : St} {H : Nat → St} {ok : Nat → Prop} {Q : Exit → St → Prop} {a0 : Act} {l d m : Nat} {fn : FuncId} {ps : Array Tmp} {assign body : Code}
    {L : List (List AV)} (hD0 : a0.defers = []) (hl1 : w1.heap.size ≤ l) (hT : okT N T = true) (hld : l ≠ d) (hH : ∀ i, xR N (H i) = true) (hps : ∀ xs ∈ L, xs.length = ps.size) (hpN : ps.toList.all (fun p => Nat.blt p N) = true)
    (hbody : ∀ i xs, ok i → L[i]? = some xs → ∀ w1 I1 E1 G1 R, AW ⟨P, w1, I1, E1, N, 50000, G1, Γ, [], R⟩ assign (putsSt ps.toList xs (T ++ H i))
      (thn (fun st1 => ∀ w1 I1 E1 G1, AW ⟨P, w1, I1, E1, N, 50000, G1, Γ, [], R⟩ body st1 (bodyQ N T H ok Q i)) (fun _ _ => False)))
    {i : Nat} {xs : List AV} {I : Nat → Nat → Prop} {W : World} {vs : List Value} (hx : L[i]? = some xs)
    (hj : RJ ⟨P, w1, I1, E1, N, 100000, G1, Γ, [], none⟩ T H ok Q a0 l d (fun st pe => { state := st, pending := pe, fn, tmps := a0.tmps, params := ps, assign, body, defers := d }) (some i) I W) (hv : yA W I xs vs) :
    YieldAt (fen none) m P l (List.toArray vs) W (YPost (RJ ⟨P, w1, I1, E1, N, 100000, G1, Γ, [], none⟩ T H ok Q a0 l d (fun st pe => { state := st, pending := pe, fn, tmps := a0.tmps, params := ps, assign, body, defers := d })) I W (some (i + 1)) none) := by
  obtain ⟨G, hok, rfl, S, hl, hd⟩ := hj
  have hlen : (List.toArray vs).size = ps.size := by
    have := wa hv
    rw [hps xs (List.mem_of_getElem? hx)] at this
    simpa using this
  have hy := run_yield (P := P) (args := List.toArray vs) hl hlen
  refine ⟨fn, _, assign, body, hy, roundIn_of_wpIn trivial ?_⟩
  have Sp := SimG.puts ps.toList xs vs _ a0 hpN hv S
  have htm : (ps.zip (List.toArray vs)).foldl (fun (t : Array Value) (p : Nat × Value) => t.setIfInBounds p.1 p.2) a0.tmps = (ps.toList.zip vs).foldl (fun t (p : Nat × Value) => t.setIfInBounds p.1 p.2) a0.tmps := by
    rw [← Array.foldl_toList]
    simp
  have Sa := (Sp.switch 50000).redefer [] (some l)
  rw [hD0] at Sa
  have haw := hbody i xs hok hx W G.I _ G (some l) _ W ⟨G, Sa⟩ m
  have hact : ({ tmps := (ps.zip (List.toArray vs)).foldl (fun (t : Array Value) (p : Nat × Value) => t.setIfInBounds p.1 p.2) a0.tmps, defers := [] } : Act) = { tmps := (ps.toList.zip vs).foldl (fun t (p : Nat × Value) => t.setIfInBounds p.1 p.2) a0.tmps, defers := [] } := by rw [htm]
  refine hact ▸ wpIn_mono haw ?_
  rintro e a1 W2 ⟨st1, q, G2, S2⟩
  cases e with
  | normal =>
    have hl2 := (S2.block l (Array.getElem?_eq_some_iff.1 hl).1 (not_own Sp hl rfl)).trans hl
    have hd2 := (S2.block d (Array.getElem?_eq_some_iff.1 hd).1 (not_own Sp hd rfl)).trans hd
    refine ⟨_, run_beginRound hl2 rfl, ?_⟩
    have S2' := Sp.back (K := 50000) (by show 50000 ≤ 100000; omega) S2
    have S3 := S2'.book hl2 (o' := .loop { state := .busy, pending := none, fn, tmps := a0.tmps, params := ps, assign, body, defers := d }) rfl rfl (.inl hl1)
    have hle23 : Le W2 G2.I (W2.putObj l (.loop { state := .busy, pending := none, fn, tmps := a0.tmps, params := ps, assign, body, defers := d })) G2.I := le_book hl2 rfl rfl
    have hl3 : (W2.putObj l (.loop { state := .busy, pending := none, fn, tmps := a0.tmps, params := ps, assign, body, defers := d })).heap[l]? = some (.loop { state := .busy, pending := none, fn, tmps := a0.tmps, params := ps, assign, body, defers := d }) := World.putObj_heap_same (Array.getElem?_eq_some_iff.1 hl2).1
    have hd3 : (W2.putObj l (.loop { state := .busy, pending := none, fn, tmps := a0.tmps, params := ps, assign, body, defers := d })).heap[d]? = some (.deferred (some [])) := (World.putObj_heap_other (Ne.symm hld)).trans hd2
    generalize (W2.putObj l (.loop { state := .busy, pending := none, fn, tmps := a0.tmps, params := ps, assign, body, defers := d })) = W3 at S3 hle23 hl3 hd3 ⊢
    refine wpIn_mono (q W3 G2.I _ G2 a1 W3 ⟨G2, S3.switch 50000⟩ m) ?_
    rintro e a3 W4 ⟨st3, q3, G3, S4⟩
    have S4' := S3.back (K := 50000) (by show 50000 ≤ 100000; omega) S4
    have hl4 := (S4.block l (Array.getElem?_eq_some_iff.1 hl3).1 (not_own S3 hl3 rfl)).trans hl3
    have hd4 := (S4.block d (Array.getElem?_eq_some_iff.1 hd3).1 (not_own S3 hd3 rfl)).trans hd3
    have hle : Le W G.I W4 G3.I := (S2.sub.trans hle23).trans S4.sub
    have hrel : ∀ g, 50000 ≤ g → G3.blk g = G.blk g := fun g hg => (S4.rel g hg).1.trans (S2.rel g hg).1
    have fin : ∀ (jump : Option Code) (Hx : St), xR N Hx = true → sub st3 Hx → ∃ W5, (Instr.endRound l jump).run P W4 = .ok (.bool jump.isNone) W5 ∧ Le W G.I W5 G3.I ∧ ValI W5 G3.I ∧
        SimG ⟨P, w1, I1, E1, N, 100000, G1, Γ, [], none⟩ (look (T ++ Hx)) G3 a0 W5 ∧ W5.heap[l]? = some (.loop { state := if jump.isNone then .ready else .done, pending := jump, fn, tmps := a0.tmps, params := ps, assign, body, defers := d }) ∧ W5.heap[d]? = some (.deferred (some [])) := by
      intro jump Hx hres hsub
      have Sn := next_round (C := ⟨P, w1, I1, E1, N, 100000, G1, Γ, [], none⟩) S S4' hle hrel hT hres hsub
      have S5 := Sn.book hl4 (o' := .loop { state := if jump.isNone then .ready else .done, pending := jump, fn, tmps := a0.tmps, params := ps, assign, body, defers := d }) rfl rfl (.inl hl1)
      exact ⟨_, run_endRound jump hl4, hle.trans (le_book hl4 rfl rfl), S5.val, S5, World.putObj_heap_same (Array.getElem?_eq_some_iff.1 hl4).1, (World.putObj_heap_other (Ne.symm hld)).trans hd4⟩
    cases e with
    | normal =>
      obtain ⟨W5, h1, h2, h3, h4, h5, h6⟩ := fin none _ (hH (i + 1)) q3.2
      exact ⟨_, W5, h1, true, G3.I, rfl, h2, h3, G3, q3.1, rfl, h4, h5, h6⟩
    | exit id =>
      obtain ⟨Hx, k1, k2, k3⟩ := q3
      obtain ⟨W5, h1, h2, h3, h4, h5, h6⟩ := fin (some (.exit id)) Hx k1 k2
      exact ⟨_, W5, h1, false, G3.I, rfl, h2, h3, G3, _, Hx, rfl, h4, h5, h6, .inl ⟨id, rfl, k3⟩⟩
    | ret =>
      obtain ⟨Hx, k1, k2, k3⟩ := q3
      obtain ⟨W5, h1, h2, h3, h4, h5, h6⟩ := fin (some .ret) Hx k1 k2
      exact ⟨_, W5, h1, false, G3.I, rfl, h2, h3, G3, _, Hx, rfl, h4, h5, h6, .inr ⟨rfl, k3⟩⟩
    | goto t => exact q3.elim
    | panic ch => exact q3.elim
    | outgrown => exact q3.elim
  | exit id => exact q.elim
  | goto t => exact q.elim
  | ret => exact q.elim
  | panic ch => exact q.elim
  | outgrown => exact q.elim
theorem simx_after {C : Cx} {w1 : World} {I1 : Nat → Nat → Prop} {E1 : Nat → Prop} {G1 : Gh} {Ds : List Nat} (hR : C.R = none) (sw : Sw C w1 I1 E1 G1 Ds) {X : St} {G : Gh} {a : Act} {W : World} {d : Nat} (hd1 : w1.heap.size ≤ d)
    (hd : W.heap[d]? = some (.deferred (some []))) (S : SimG (upC C w1 I1 E1 G1 []) (look X) G { tmps := a.tmps, defers := [] } W) (ha : a.defers = Ds.map mark) :
    SimX C (look X) { a with defers := [{ target := .collected d, args := #[] }] ++ a.defers } W := by
  have Sb := sw.back S
  refine ⟨W, G.I, own (look X) G, G, d :: Ds, ⟨Sb.os, Sb.tape, Sb.output, Sb.size, Sb.block, fun b h => ?_, Sb.sub, Sb.rel, Sb.new, fun d' h => ?_, ?_⟩, G, ?_⟩
  · rcases h with h | ⟨k, hk⟩
    · exact .inl (Nat.le_trans Sb.size h)
    · exact ((Sb.holds k).owned hk).1
  · rcases List.mem_cons.1 h with rfl | h
    · exact ⟨(Array.getElem?_eq_some_iff.1 hd).1, not_own Sb hd rfl, Nat.le_trans sw.size hd1, hd⟩
    · obtain ⟨h1, h2, h3⟩ := sw.mark_at S d' h
      exact ⟨(Array.getElem?_eq_some_iff.1 h1).1, not_own Sb h1 rfl, h2, h1⟩
  · rw [List.nodup_cons]
    refine ⟨fun h => ?_, sw.nodup⟩
    have := (sw.mark_at S d h).2.2
    omega
  · have S1 := (S.switch C.K).redefer ((d :: Ds).map mark) C.R
    have e : ({ a with defers := [{ target := .collected d, args := #[] }] ++ a.defers } : Act) = { tmps := a.tmps, defers := (d :: Ds).map mark } := by rw [ha]; rfl
    rw [e]; exact S1
theorem fw_range {P : Program} {w0 : World} {I0 : Nat → Nat → Prop} {E : Nat → Prop} {N : Nat} {G0 : Gh} {Γ : List (Nat × AV)} {gop : Operand} {ps : Array Tmp} {assign body : Code} {st : St} {Q : Exit → St → Prop} {f : FuncId} {caps : List AV} {L : List (List AV)}
    (T : St) (H : Nat → St) (ok : Nat → Prop) (ok0 : ok 0) (hseq : SeqC P Γ f caps L) (hg : opV (look st) gop = some (.fn (.func f) [] caps)) (h0 : sub st (T ++ H 0)) (hT : okT N T = true) (hH : ∀ i, xR N (H i) = true)
    (hps : ∀ xs ∈ L, xs.length = ps.size) (hpN : ps.toList.all (fun p => Nat.blt p N) = true)
    (hbody : ∀ i xs, ok i → L[i]? = some xs → ∀ w1 I1 E1 G1 R, AW ⟨P, w1, I1, E1, N, 50000, G1, Γ, [], R⟩ assign (putsSt ps.toList xs (T ++ H i))
      (thn (fun st1 => ∀ w1 I1 E1 G1, AW ⟨P, w1, I1, E1, N, 50000, G1, Γ, [], R⟩ body st1 (bodyQ N T H ok Q i)) (fun _ _ => False)))
    (hdone : ok L.length → Q .normal (T ++ H L.length)) : FW ⟨P, w0, I0, E, N, 100000, G0, Γ, [], none⟩ (.rangeFunc gop ps assign body) st Q := by
  rintro a w ⟨w1, I1, E1, G1, Ds, sw, G, S⟩ n
  obtain ⟨c, h1, h2⟩ := S.opV hg
  simp only [RepC, yA] at h1
  obtain ⟨fs, gs, rfl, rfl, hgs⟩ := h1
  have hev : a.eval gop = .func (.func f) #[] (List.toArray gs) := by rw [h2]; rfl
  have hda : a.defers = Ds.map mark := S.dfs
  have hsz : w1.heap.size ≤ w.heap.size := S.size
  refine wpIn_rangeFunc ?_
  intro fn hfn
  obtain ⟨W1, hW1⟩ : ∃ W1, (w.alloc (.deferred (some []))).alloc (.loop { state := .ready, pending := none, fn, tmps := a.tmps, params := ps, assign, body, defers := w.heap.size }) = W1 := ⟨_, rfl⟩
  have hL1 : W1.heap[w.heap.size + 1]? = some (.loop { state := .ready, pending := none, fn, tmps := a.tmps, params := ps, assign, body, defers := w.heap.size }) := by
    rw [← hW1]; have := World.alloc_heap_new (w.alloc (.deferred (some []))) (.loop { state := .ready, pending := none, fn, tmps := a.tmps, params := ps, assign, body, defers := w.heap.size }); rwa [World.size_alloc] at this
  have hK1 : W1.heap[w.heap.size]? = some (.deferred (some [])) := by
    rw [← hW1]; exact (Below.heap_alloc _ _ _ (by simp)).trans (World.alloc_heap_new w _)
  have S1 : SimG ⟨P, w1, I1, E1, N, 100000, G1, Γ, [], none⟩ (look (T ++ H 0)) G { tmps := a.tmps, defers := [] } W1 := by
    rw [← hW1]; exact (((S.weak (wR h0)).newBook _).newBook _).redefer [] none
  have hle1 : Le w G.I W1 G.I := by
    intro b o hi
    refine ⟨hi, yL ?_⟩
    have hb := S.val b o hi
    rw [← hW1, Below.heap_alloc _ _ _ (by simp; omega), Below.heap_alloc _ _ _ hb]
  refine ⟨w.heap.size + 1, [{ target := .collected w.heap.size, args := #[] }], W1, { target := .fn (.func f) (List.toArray gs), args := #[.func (.yield (w.heap.size + 1)) #[] #[]] }, W1, f,
    #[.func (.yield (w.heap.size + 1)) #[] #[]] ++ List.toArray gs, W1, ?_, ?_, fun _ _ => trivial, ?_, fun h => by simp [fen, Fence.wide] at h, ?_⟩
  · rw [← hW1]; exact run_enterLoop_outer _ _ _ _ _
  · simp only [resolve, hev]
    simp [go_sem]
  · simp only [invoke, wF hseq.1]
  · have hcall := hseq.2 (n - 1) (w.heap.size + 1) (RJ ⟨P, w1, I1, E1, N, 100000, G1, Γ, [], none⟩ T H ok Q { tmps := a.tmps, defers := [] } (w.heap.size + 1) w.heap.size (fun st pe => { state := st, pending := pe, fn, tmps := a.tmps, params := ps, assign, body, defers := w.heap.size }))
      W1 G.I gs rj_grow S1.val S1.glob (yA.mono hle1 _ _ hgs)
      (fun i xs I W vs hx hj hv => rj_round rfl (by omega) hT (by omega) hH hps hpN hbody hx hj hv) ⟨G, ok0, rfl, S1, hL1, hK1⟩
    refine hcall.mono ?_
    rintro e W2 ⟨v, I', rfl, ⟨G2, hok, _, S2, hl2, hd2⟩ | ⟨G2, c, Hx, _, S2, hl2, hd2, hc⟩⟩
    · refine ⟨none, _, run_endLoop hl2 (by simp), T ++ H L.length, hdone hok, ?_⟩
      exact simx_after rfl sw hsz ((World.putObj_heap_other (by omega)).trans hd2) (S2.book hl2 rfl rfl (.inl (by show w1.heap.size ≤ _; omega))) hda
    · refine ⟨some c, _, run_endLoop hl2 (by simp), ?_⟩
      have hx := simx_after rfl sw hsz ((World.putObj_heap_other (by omega)).trans hd2) (S2.book hl2 (o' := .loop { state := .exhausted, pending := some c, fn, tmps := a.tmps, params := ps, assign, body, defers := w.heap.size }) rfl rfl (.inl (by show w1.heap.size ≤ _; omega))) hda
      rcases hc with ⟨id, rfl, hq⟩ | ⟨rfl, hq⟩
      · exact wpIn_exit ⟨_, hq, hx⟩
      · exact wpIn_ret ⟨_, hq, hx⟩
end Go.Al
namespace Go.Proofs
open Go Go.Al
theorem plC_app (i : Nat) : ∀ (k : Nat) (l m : List GScope), plC i k (l ++ m) = plC i k l ++ plC i (k + l.length) m
  | k, [], m => by simp [plC]
  | k, x :: l, m => by
    simp only [List.cons_append, plC, plC_app i (k + 1) l m, List.append_assoc, List.length_cons]
    rw [show k + 1 + l.length = k + (l.length + 1) by omega]
theorem plR_app : ∀ (i : Nat) (l m : List GRes), plR i (l ++ m) = plR i l ++ plR (i + l.length) m
  | i, [], m => by simp [plR]
  | i, x :: l, m => by
    simp only [List.cons_append, plR, plR_app (i + 1) l m, List.append_assoc, List.length_cons]
    rw [show i + 1 + l.length = i + (l.length + 1) by omega]
theorem nthC_at {l : List GScope} {k : Nat} (h : k < l.length) : l = l.take k ++ nthC l k :: l.drop (k + 1) := by
  have : nthC l k = l[k] := by simp [nthC, nth, h]
  rw [this, List.getElem_cons_drop, List.take_append_drop]
theorem nthR_at {l : List GRes} {k : Nat} (h : k < l.length) : l = l.take k ++ nthR l k :: l.drop (k + 1) := by
  have : nthR l k = l[k] := by simp [nthR, nth, h]
  rw [this, List.getElem_cons_drop, List.take_append_drop]
theorem plC_at {i : Nat} {l : List GScope} {k m : Nat} (hk : k < l.length) (hm : m < (nthC l k).spans.length) : (plC i 0 l)[(plC i 0 (l.take k)).length + m]? = some (i, k, m) := by
  conv => lhs; arg 1; rw [nthC_at hk]
  have hlen : (l.take k).length = k := by rw [List.length_take]; omega
  rw [plC_app, List.getElem?_append_right (by omega), Nat.add_sub_cancel_left, Nat.zero_add, hlen, plC, List.getElem?_append_left (by simpa using hm)]
  simp [hm]
theorem pl_at {b : List GRes} {i k m : Nat} (hi : i < b.length) (hk : k < (nthR b i).scopes.length) (hm : m < (nthC (nthR b i).scopes k).spans.length) :
    (plR 0 b)[(plR 0 (b.take i)).length + (plC i 0 ((nthR b i).scopes.take k)).length + m]? = some (i, k, m) := by
  conv => lhs; arg 1; rw [nthR_at hi]
  have hlen : (b.take i).length = i := by rw [List.length_take]; omega
  rw [plR_app, Nat.add_assoc, List.getElem?_append_right (by omega), Nat.add_sub_cancel_left, Nat.zero_add, hlen, plR]
  have h1 := plC_at (i := i) hk hm
  rw [List.getElem?_append_left (List.getElem?_eq_some_iff.1 h1).1]
  exact h1
def spAt (b : List GRes) (p : Nat × Nat × Nat) : GSpan := nthS (nthC (nthR b p.1).scopes p.2.1).spans p.2.2
def rowAt (b : List GRes) (p : Nat × Nat × Nat) : List AV := [plav p, (spAt b p).av]
def seqB (b : List GRes) : List (List AV) := (plR 0 b).map (rowAt b)
theorem seqB_len (b : List GRes) : (seqB b).length = (plR 0 b).length := List.length_map ..
theorem seqB_two (b : List GRes) : ∀ xs ∈ seqB b, xs.length = 2 := by
  intro xs h
  obtain ⟨p, _, rfl⟩ := List.mem_map.1 h
  rfl
theorem seqB_get {b : List GRes} {i : Nat} {xs : List AV} (h : (seqB b)[i]? = some xs) : ∃ p, (plR 0 b)[i]? = some p ∧ xs = [plav p, (spAt b p).av] := by
  unfold seqB at h
  rw [List.getElem?_map] at h
  cases hp : (plR 0 b)[i]? with
  | none => rw [hp] at h; cases h
  | some p => rw [hp] at h; exact ⟨p, rfl, (Option.some.inj h).symm⟩
theorem seq_at {b : List GRes} {i k m : Nat} (hi : i < b.length) (hk : k < (nthR b i).scopes.length) (hm : m < (nthC (nthR b i).scopes k).spans.length) :
    (seqB b)[(plR 0 (b.take i)).length + (plC i 0 ((nthR b i).scopes.take k)).length + m]? = some [plav (i, k, m), (nthS (nthC (nthR b i).scopes k).spans m).av] := by
  unfold seqB
  rw [List.getElem?_map, pl_at hi hk hm]; rfl
end Go.Proofs
namespace Go.Al
section
variable {C : Cx} {A : Nat → SV} {d : Nat} {ty : TypeId} {pos : String} {af : Array Edge} {gd : Option (Nat × Bool)} {x y : Operand} {T T' : TypeId}
end
theorem aw_upB {C : Cx} {c : Code} {st : St} {Q : Exit → St → Prop} (g : Nat) {T : TypeId} {X : SV} {x : AV} (y : AV) (hg : look st g = .box T X) (hx : toAV X = some x) (hu : Up x y) (h : AW C c ((g, .box T (.imm y)) :: st) Q) : AW C c st Q := by
  intro a w ⟨G, S⟩
  refine h a w ⟨G, S.os, S.tape, S.output, S.size, S.block, S.sub, S.rel, S.glob, S.new, S.val, S.nts, S.dfs, fun j => ?_, fun j j' b hj h1 h2 => ?_⟩
  · have e := yq (look st) g (.box T (.imm y)) j
    rw [wP] at e
    rw [show ((g, SV.box T (.imm y)) :: st) = [(g, SV.box T (.imm y))] ++ st from rfl, e]
    split
    · rename_i hjk; subst hjk
      have := S.holds j
      rw [hg] at this
      simp only [Holds, BoxS] at this ⊢
      obtain ⟨h1, ⟨cs, fr, hb, hr, hf⟩, h2⟩ := this
      exact ⟨h1, ⟨cs, fr, hb, by simp only [RepS]; exact hu.2.2 _ _ _ (xG X x _ hx hr), hf⟩, h2⟩
    · exact S.holds j
  · have conv : ∀ j b, zi G j b (look ((g, SV.box T (.imm y)) :: st) j) → zi G j b (look st j) := by
      intro j b hb
      have e := yq (look st) g (.box T (.imm y)) j
      rw [wP] at e
      rw [show ((g, SV.box T (.imm y)) :: st) = [(g, SV.box T (.imm y))] ++ st from rfl, e] at hb
      split at hb
      · rename_i hjk; subst hjk; rw [hg]; simp only [zi] at hb ⊢; exact hb
      · exact hb
    exact S.apart j j' b hj (conv j b h1) (conv j' b h2)
end Go.Al
namespace Go.Proofs
open Go Go.Al
set_option maxRecDepth 10000
end Go.Proofs
namespace Go.Proofs
open Go Go.Al
set_option maxRecDepth 10000
end Go.Proofs
namespace Go.Proofs
open Go Go.Al
set_option maxRecDepth 10000
end Go.Proofs
namespace Go.Proofs
open Go Go.Al
set_option maxRecDepth 10000
set_option maxHeartbeats 4000000 in
theorem all1_c (b : List GRes) (hw : wtB b ≤ 9000000) : SeqC Tryz.prog Γ0 85 [.cp (xp b)] (seqB b) := by
  have ql := yW GRes.wt (fun e => by unfold GRes.wt; omega) b
  have qw : wtB b = zu GRes.wt b := rfl
  refine seqc_of Tryz.func85 rfl Tryz.ntmps85 (by kernel_rfl) rfl rfl fun n l J hJ hy => ?_
  refine xF ?_
  refine yd hJ (fun w0 G0 => ?_)
  refine g_u (zY rfl rfl fa24_0 rfl rfl) <| g_u (zb rfl rfl tA22 tS22 rfl rfl) <| g_u (yM rfl rfl Tryz.underlying22) <| g_u (zD rfl rfl) ?_
  refine zF ⟨rfl, ?_⟩
  refine z1 <| awj_block ?_
  refine awj_loop' (fun i : Nat => [(0, .imm (.v (.func (.yield l) #[] #[]))), (1, .imm (.cp (xp b))), (9, .imm (iv (b.length : Int))), (10, .imm (iv (i : Int)))]) (fun i : Nat => some (plR 0 (b.take i)).length) (fun i => i ≤ b.length) (fun i => b.length - i) (0) (rfl) ?_ ⟨rfl, rfl, z_ rfl (by rw [List.length_map]), rfl, trivial⟩ ?_
  · exact Nat.zero_le _
  · rintro i h1; have h1 : i ≤ b.length := h1
    refine xF ?_
    refine yd hJ (fun w0 G0 => ?_)
    refine g_u (yh rfl rfl rfl) ?_
    refine zF ⟨rfl, ?_⟩
    refine z1 <| xF ?_
    refine awj_cond rfl (fun hb1 => ?_) (fun hb1 => ?_)
    · have hi : i < b.length := by have := of_decide_eq_true hb1; (try simp only [List.length_map] at this); omega
      have hc1 := yn GRes.wt (nthR_mem hi)
      have hc2 : (nthR b i).wt = 1 + wtAs (nthR b i).attrs + zu GScope.wt (nthR b i).scopes := rfl
      have hcl := yW GScope.wt (fun e => by unfold GScope.wt; omega) (nthR b i).scopes
      refine awj_skip <| z1 <| xF <| awj_block <| xF ?_
      refine yd hJ (fun w0 G0 => ?_)
      refine g_u (zD rfl rfl) <| g_u (zE rfl rfl) ?_
      refine zF ⟨rfl, ?_⟩
      refine z1 <| xF ?_
      refine yd hJ (fun w0 G0 => ?_)
      refine g_u (zY rfl rfl fa24_0 rfl rfl) <| g_u (zb rfl rfl tA22 tS22 rfl rfl) <| g_u (zD rfl rfl) ?_
      refine g_u (zq rfl rfl rfl Tryz.underlying22 tS58 (by omega) (ixR hi)) ?_
      refine g_u (zY rfl rfl fa58_1 rfl rfl) <| g_u (zb rfl rfl tA56 tS56 rfl rfl) <| g_u (zE rfl rfl) ?_
      refine zF ⟨rfl, ?_⟩
      refine z1 <| xF ?_
      refine yd hJ (fun w0 G0 => ?_)
      refine g_u (zD rfl rfl) <| g_u (yM rfl rfl Tryz.underlying56) <| g_u (zD rfl rfl) ?_
      refine zF ⟨rfl, ?_⟩
      refine z1 <| awj_block ?_
      refine awj_loop' (fun k : Nat => [(0, .imm (.v (.func (.yield l) #[] #[]))), (1, .imm (.cp (xp b))), (9, .imm (iv (b.length : Int))), (10, .imm (iv (i : Int))), (3, .imm (iv (i : Int))), (4, .imm (.sl 3 ((nthR b i).scopes.map GScope.av))), (20, .imm (iv ((nthR b i).scopes.length : Int))), (21, .imm (iv (k : Int)))]) (fun k : Nat => some ((plR 0 (b.take i)).length + (plC i 0 ((nthR b i).scopes.take k)).length)) (fun k => k ≤ (nthR b i).scopes.length) (fun k => (nthR b i).scopes.length - k) (0) (rfl) ?_ ⟨rfl, rfl, rfl, rfl, rfl, rfl, z_ rfl (by rw [List.length_map]), rfl, trivial⟩ ?_
      · exact Nat.zero_le _
      · rintro k g1; have g1 : k ≤ (nthR b i).scopes.length := g1
        refine xF ?_
        refine yd hJ (fun w0 G0 => ?_)
        refine g_u (yh rfl rfl rfl) ?_
        refine zF ⟨rfl, ?_⟩
        refine z1 <| xF ?_
        refine awj_cond rfl (fun hb2 => ?_) (fun hb2 => ?_)
        · have hk : k < (nthR b i).scopes.length := by have := of_decide_eq_true hb2; (try simp only [List.length_map] at this); omega
          have hcx := yn GScope.wt (nthC_mem hk)
          have hcq : (nthC (nthR b i).scopes k).wt = 1 + (nthC (nthR b i).scopes k).name.size + (nthC (nthR b i).scopes k).version.size + zu GSpan.wt (nthC (nthR b i).scopes k).spans := rfl
          have hsl := yW GSpan.wt (fun e => by unfold GSpan.wt; omega) (nthC (nthR b i).scopes k).spans
          refine awj_skip <| z1 <| xF <| awj_block <| xF ?_
          refine yd hJ (fun w0 G0 => ?_)
          refine g_u (zD rfl rfl) <| g_u (zE rfl rfl) ?_
          refine zF ⟨rfl, ?_⟩
          refine z1 <| xF ?_
          refine yd hJ (fun w0 G0 => ?_)
          refine g_u (zD rfl rfl) <| g_u (zD rfl rfl) ?_
          refine g_u (zq rfl rfl rfl Tryz.underlying56 tS55 (by omega) (ixC hk)) ?_
          refine g_u (zY rfl rfl fa55_2 rfl rfl) <| g_u (zb rfl rfl tA53 tS53 rfl rfl) <| g_u (yM rfl rfl Tryz.underlying53) <| g_u (zD rfl rfl) ?_
          refine zF ⟨rfl, ?_⟩
          refine z1 <| awj_block ?_
          refine awj_loop' (fun m : Nat => [(0, .imm (.v (.func (.yield l) #[] #[]))), (1, .imm (.cp (xp b))), (9, .imm (iv (b.length : Int))), (10, .imm (iv (i : Int))), (3, .imm (iv (i : Int))), (4, .imm (.sl 3 ((nthR b i).scopes.map GScope.av))), (20, .imm (iv ((nthR b i).scopes.length : Int))), (21, .imm (iv (k : Int))), (5, .imm (iv (k : Int))), (29, .imm (iv ((nthC (nthR b i).scopes k).spans.length : Int))), (30, .imm (iv (m : Int)))]) (fun m : Nat => some (((plR 0 (b.take i)).length + (plC i 0 ((nthR b i).scopes.take k)).length) + m)) (fun m => m ≤ (nthC (nthR b i).scopes k).spans.length) (fun m => (nthC (nthR b i).scopes k).spans.length - m) (0) (rfl) ?_ ⟨rfl, rfl, rfl, rfl, rfl, rfl, rfl, rfl, rfl, z_ rfl (by rw [List.length_map]), rfl, trivial⟩ ?_
          · exact Nat.zero_le _
          · rintro m f1; have f1 : m ≤ (nthC (nthR b i).scopes k).spans.length := f1
            refine xF ?_
            refine yd hJ (fun w0 G0 => ?_)
            refine g_u (yh rfl rfl rfl) ?_
            refine zF ⟨rfl, ?_⟩
            refine z1 <| xF ?_
            refine awj_cond rfl (fun hb3 => ?_) (fun hb3 => ?_)
            · have hm : m < (nthC (nthR b i).scopes k).spans.length := by have := of_decide_eq_true hb3; (try simp only [List.length_map] at this); omega
              refine awj_skip <| z1 <| xF <| awj_block <| xF ?_
              refine yd hJ (fun w0 G0 => ?_)
              refine g_u (zD rfl rfl) <| g_u (zE rfl rfl) ?_
              refine zF ⟨rfl, ?_⟩
              refine z1 <| xF <| awj_regionJ ?_
              refine goj_take 13 hJ rfl (fun w0 G0 => ?_)
              refine g_u (zD rfl rfl) <| g_u (zD rfl rfl) <| g_u (zD rfl rfl) <| g_u (zD rfl rfl) <| g_u (xB rfl tU155 us155 pl155 rfl rfl rfl rfl) <| g_u (zD rfl rfl) <| g_u (zD rfl rfl) ?_
              refine g_u (zq rfl rfl rfl Tryz.underlying56 tS55 (by omega) (ixC hk)) ?_
              refine g_u (zY rfl rfl fa55_2 rfl rfl) <| g_u (zb rfl rfl tA53 tS53 rfl rfl) <| g_u (zD rfl rfl) ?_
              refine g_u (zq rfl rfl rfl Tryz.underlying53 tS52 (by omega) (ixS hm)) ?_
              refine g_u (zb rfl rfl tA52 tS52 rfl (by first | exact getS_w (GSpan.width _) rfl | rfl)) ?_
              refine zF ⟨rfl, ?_⟩
              refine goj_yield rfl rfl rfl rfl (fun I w vs hj hv => hy _ _ I w vs (seq_at hi hk hm) hj hv) ?_
              rintro (_ | _)
              · refine goj_end hJ rfl (fun w0 G0 => ?_)
                refine g_u (s_not rfl rfl) ?_
                refine zF ⟨rfl, ?_⟩
                refine z1 <| awj_cond_true rfl <| awj_ret <| ret_blkJ <| ret_thnJ <| ret_thnJ <| ret_blkJ <| ret_blkJ <| ret_thnJ <| ret_thnJ <| ret_blkJ <| ret_blkJ <| ret_thnJ <| ret_thnJ <| ret_blkJ ?_
                first | exact ⟨.inr rfl, .inr rfl⟩ | exact ⟨.inl rfl, .inl (by rw [seqB_len, hin, List.take_length])⟩
              · refine goj_end hJ rfl (fun w0 G0 => ?_)
                refine g_u (s_not rfl rfl) ?_
                refine zF ⟨rfl, ?_⟩
                refine z1 <| awj_cond_false rfl <| awj_skip <| normal_blkJ <| z1 ?_
                refine yd hJ (fun w0 G0 => ?_)
                refine g_u (z6 rfl rfl rfl) <| g_u (zD rfl rfl) ?_
                refine zF ⟨rfl, ?_⟩
                refine z1 ?_
                refine ⟨m + 1, hm, ⟨rfl, rfl, rfl, rfl, rfl, rfl, rfl, rfl, rfl, rfl, z_ rfl (by rw [zR (by omega) (by omega)]; rfl), trivial⟩, rfl, by (try dsimp only); omega⟩
            · have hmn : m = (nthC (nthR b i).scopes k).spans.length := by have := of_decide_eq_false hb3; (try simp only [List.length_map] at this); omega
              refine awj_exit <| exit_thnJ <| exit_thnJ <| exit_blkJ <| normal_blkJ <| z1 ?_
              refine yd hJ (fun w0 G0 => ?_)
              refine g_u (z6 rfl rfl rfl) <| g_u (zD rfl rfl) ?_
              refine zF ⟨rfl, ?_⟩
              refine z1 ?_
              refine ⟨k + 1, hk, ⟨rfl, rfl, rfl, rfl, rfl, rfl, rfl, z_ rfl (by rw [zR (by omega) (by omega)]; rfl), trivial⟩, ?_, by (try dsimp only); omega⟩
              (try dsimp only)
              rw [plC_take hk, List.length_append, List.length_map, List.length_range, hmn, Nat.add_assoc]
        · have hkn : k = (nthR b i).scopes.length := by have := of_decide_eq_false hb2; (try simp only [List.length_map] at this); omega
          refine awj_exit <| exit_thnJ <| exit_thnJ <| exit_blkJ <| normal_blkJ <| z1 ?_
          refine yd hJ (fun w0 G0 => ?_)
          refine g_u (z6 rfl rfl rfl) <| g_u (zD rfl rfl) ?_
          refine zF ⟨rfl, ?_⟩
          refine z1 ?_
          refine ⟨i + 1, hi, ⟨rfl, rfl, rfl, z_ rfl (by rw [zR (by omega) (by omega)]; rfl), trivial⟩, ?_, by (try dsimp only); omega⟩
          (try dsimp only)
          rw [plR_take hi, List.length_append, hkn, List.take_length]
    · have hin : i = b.length := by have := of_decide_eq_false hb1; (try simp only [List.length_map] at this); omega
      refine awj_exit <| exit_thnJ <| exit_thnJ <| exit_blkJ ?_
      first | exact ⟨.inr rfl, .inr rfl⟩ | exact ⟨.inl rfl, .inl (by rw [seqB_len, hin, List.take_length])⟩
theorem all_c (b : List GRes) : zg Tryz.prog Γ0 51 [xp b] [.fn (.func 85) [] [.cp (xp b)]] := by
  refine zU Tryz.func51 rfl Tryz.ntmps51 (by kernel_rfl) rfl fun w0 I0 G0 => ?_
  refine zC <| zB <| g_uG (zl 1001 rfl rfl rfl rfl) rfl <| g_u (zE rfl rfl) <| zF <| zA <| zC <| aw_share 1001 rfl rfl <| zB <| g_u (yK rfl rfl rfl) <| g_u (zE rfl rfl) <| zF <| zA <| zI ?_
  exact ⟨⟨(rfl : toAV (Al.look _ _) = some _).trans (congrArg some (by rfl)), rfl⟩, trivial⟩
end Go.Proofs
namespace Go.Proofs
open Go Go.Al
set_option maxRecDepth 10000
theorem count_c (b : List GRes) (hw : wtB b ≤ 9000000) : zg Tryz.prog Γ0 29 [xp b] [iv ((plR 0 b).length : Int)] := by
  have hpl := plR_len 0 b
  have qw : wtB b = zu GRes.wt b := rfl
  refine pcall_of_fw Tryz.func29 rfl Tryz.ntmps29 (by kernel_rfl) rfl fun w0 I0 G0 => ?_
  refine fw_seq ?_
  refine fw_aw (fun w1 I1 E1 G1 D1 => ?_)
  refine zB <| g_uG (zl 50001 rfl rfl rfl rfl) rfl <| g_u (zE rfl rfl) <| zF <| zA <| fw_seq ?_
  refine fw_aw (fun w1 I1 E1 G1 D1 => ?_)
  refine zB <| g_uG (zx 50003 rfl rfl rfl tZ3) rfl <| g_u (zM rfl rfl rfl tS3 rfl rfl) <| zF <| zA <| fw_seq <| fw_seq ?_
  refine fw_aw (fun w1 I1 E1 G1 D1 => ?_)
  refine zB <| g_u (zG rfl rfl rfl tA24 tS24 rfl rfl) <| g_u (zQ (all_c _) rfl rfl) <| zF <| zA <| fw_block ?_
  refine fw_range ([(3, .ptr 50003 0)]) (fun i => [(50003, .box 3 (.imm (iv (i : Int))))]) (fun _ => True) (trivial) (all1_c b hw) rfl ⟨rfl, rfl, trivial⟩ rfl (fun i => rfl) (seqB_two b) rfl (fun i xs hok hxs w2 I2 E2 G2 R2 => ?_) (fun hok => ?_)
  · obtain ⟨p, hp, rfl⟩ := seqB_get hxs
    have hlt := (List.getElem?_eq_some_iff.1 hp).1
    refine zO <| zA ?_
    intro w3 I3 E3 G3
    refine zT <| zB <| g_u (zG rfl rfl rfl tA3 tS3 rfl rfl) <| g_u (z6 rfl rfl rfl) <| g_u (zM rfl rfl rfl tS3 rfl rfl) <| zF <| zJ ?_
    exact ⟨trivial, (by show SV.box 3 (.imm (iv _)) = SV.box 3 (.imm (iv _)); rw [zR (by omega) (by omega)]; rfl), trivial⟩
  · refine zJ ?_
    refine zA ?_
    refine fw_aw (fun w1 I1 E1 G1 D1 => ?_)
    refine zC <| zB <| g_u (zG rfl rfl rfl tA3 tS3 rfl rfl) <| g_u (zE rfl rfl) <| zF <| zA <| zI ?_
    exact ⟨⟨(rfl : toAV (Al.look _ _) = some _).trans (congrArg some (by (rw [seqB_len]))), rfl⟩, trivial⟩
end Go.Proofs
namespace Go.Proofs
open Go Go.Al
def rt (s : ByteArray) : Prop := xS s = -1
theorem rt_app {s t : ByteArray} (h : rt s) (k : rt t) : rt (s ++ t) := (joins1 s t h k).1
def rB (l : Bs) : Prop := rt (yC l)
theorem rB_app {a b : Bs} (h : rB a) (k : rB b) : rB (a ++ b) := by unfold rB; rw [← yy]; exact rt_app h k
theorem rB_iff (l : Bs) : rB l ↔ ∃ c, Path (fM (yC l)) 0 l.length c := by
  have hz : (yC l).size = l.length := zk l
  constructor
  · intro h
    have p := (wq (yC l)).1
    rw [(check_iff _).1 h, hz] at p
    exact ⟨_, p⟩
  · rintro ⟨c, p⟩
    rw [← hz] at p
    exact (check_iff _).2 (by rw [end_iff _ _ p])
theorem rB_nil : rB [] := (rB_iff _).2 ⟨0, .refl _⟩
theorem bAt_strOf (l : Bs) (i : Nat) : bAt (yC l) i = ((l.getD i 0).toNat : Int) := by
  unfold bAt; rw [yl, Int.toNat_natCast]
theorem rB_one {c : UInt8} (h : c.toNat < 128) : rB [c] := by
  have hz : (yC [c]).size = 1 := zk [c]
  have hb : bAt (yC [c]) 0 = c.toNat := bAt_strOf [c] 0
  have hf : fM (yC [c]) 0 = 1 := by
    rw [fM_DS _ _ (Int.le_refl _)]; unfold DS; rw [hb]; unfold D4; rw [if_neg (by omega), if_pos (by omega)]
  refine (rB_iff _).2 ⟨0 + 1, .step (by rw [hf]; decide) ?_⟩
  rw [hf]; exact .refl _
theorem rB_ascii : ∀ {l : Bs}, (∀ c ∈ l, c.toNat < 128) → rB l
  | [], _ => rB_nil
  | c :: l, h => rB_app (a := [c]) (rB_one (h c List.mem_cons_self)) (rB_ascii fun x hx => h x (List.mem_cons_of_mem _ hx))
theorem entC_iff {d : Int} : ∀ {l : List GA} {p : Option ByteArray}, entC d p l = 0 ↔ risA p l ∧ ∀ a ∈ l, keyC a.key = 0 ∧ xx d a.val = 0
  | [], p => ⟨fun _ => ⟨trivial, fun a h => by cases h⟩, fun _ => by rw [entC]⟩
  | x :: l, p => by
    have ih := entC_iff (d := d) (l := l) (p := some x.key)
    have hp : prevBad p x.key = false ↔ (match p with | some q => ltB q x.key = true | none => True) := by
      cases p with
      | none => exact ⟨fun _ => trivial, fun _ => rfl⟩
      | some q => simp only [prevBad]; cases ltB q x.key <;> simp
    rw [entC, checkA_eq]
    constructor
    · intro h
      obtain ⟨h1, h2⟩ := orC_eq0 h
      cases hb : prevBad p x.key
      · rw [hb, if_neg (by decide)] at h2
        obtain ⟨h3, h4⟩ := orC_eq0 h2
        obtain ⟨h5, h6⟩ := ih.1 h4
        refine ⟨⟨hp.1 hb, h5⟩, fun a ha => ?_⟩
        rcases List.mem_cons.1 ha with rfl | ha
        · exact ⟨h1, h3⟩
        · exact h6 a ha
      · rw [hb, if_pos rfl] at h2; omega
    · rintro ⟨⟨h1, h2⟩, h3⟩
      have h4 := h3 x List.mem_cons_self
      rw [hp.2 h1, if_neg (by decide), zm _ _ h4.1, zm _ _ h4.2]
      exact ih.2 ⟨h2, fun a ha => h3 a (List.mem_cons_of_mem _ ha)⟩
end Go.Proofs
namespace Go.Proofs
open Go Go.Al
theorem attrsC_iff {l : List GA} : yO l = 0 ↔ l.length ≤ 32 ∧ risA none l ∧ ∀ a ∈ l, keyC a.key = 0 ∧ xx 0 a.val = 0 ∧ (wI a.val).size ≤ 1024 := by
  unfold yO
  constructor
  · intro h
    split at h
    · omega
    · rename_i hl
      obtain ⟨h1, h2⟩ := orC_eq0 h
      obtain ⟨h3, h4⟩ := entC_iff.1 h1
      refine ⟨by omega, h3, fun a ha => ⟨(h4 a ha).1, (h4 a ha).2, ?_⟩⟩
      split at h2
      · omega
      · rename_i h5
        have h6 : ¬ decide (1024 < (wI a.val).size) = true := fun h => h5 (List.any_eq_true.2 ⟨a, ha, h⟩)
        simpa using h6
  · rintro ⟨h1, h2, h3⟩
    rw [if_neg (by omega), zm _ _ (entC_iff.2 ⟨h2, fun a ha => ⟨(h3 a ha).1, (h3 a ha).2.1⟩⟩), if_neg]
    intro h
    obtain ⟨a, ha, hd⟩ := List.any_eq_true.1 h
    have := (h3 a ha).2.2
    have : 1024 < (wI a.val).size := of_decide_eq_true hd
    omega
end Go.Proofs
namespace Go.Al
open Go.RowKit
theorem rep_ifc {w : World} {I : Nat → Nat → Prop} {T : TypeId} {y : AV} {v : Value} (h : Rep w I (.ifc T y) v) : ∃ u, v = .iface T u ∧ Rep w I y u := by
  obtain ⟨c, h1, h2⟩ := h
  simp only [RepC] at h1
  obtain ⟨c', h3, h4⟩ := h1
  exact ⟨mkV y c', by rw [h2, h3]; rfl, c', h4, rfl⟩
theorem rep_ifc_mk {w : World} {I : Nat → Nat → Prop} {T : TypeId} {y : AV} {u : Value} (h : Rep w I y u) : Rep w I (.ifc T y) (.iface T u) := by
  obtain ⟨c, h1, h2⟩ := h
  exact ⟨[.iface T u], by simp only [RepC]; exact ⟨c, by rw [h2], h1⟩, rfl⟩
section
variable {P : Program} {w : World} {p : Array (String × TypeId)}
theorem run_eqI_nil {T t : TypeId} {u : Value} (hT : P.underlying T = some (.interface p)) : (Op.equal T (.iface t u) .nilIface).run P w = .ok false w := by
  have h : ∀ d : Nat, (Op.equalIn (d + 1) T (.iface t u) .nilIface).run P w = .ok false w := fun d => by simp [Op.equalIn, run_underlying hT]
  simpa [Op.equal, Op.maxDepth] using h 9999
theorem run_eqN_nil {T : TypeId} (hT : P.underlying T = some (.interface p)) : (Op.equal T .nilIface .nilIface).run P w = .ok true w := by
  have h : ∀ d : Nat, (Op.equalIn (d + 1) T .nilIface .nilIface).run P w = .ok true w := fun d => by simp [Op.equalIn, run_underlying hT]
  simpa [Op.equal, Op.maxDepth] using h 9999
end
theorem run_eqP_nil {P : Program} {w : World} {T e : TypeId} {a : Addr} (hT : P.underlying T = some (.pointer e)) : (Op.equal T (.pointer (some a)) (.pointer none)).run P w = .ok false w := by
  have h : ∀ d : Nat, (Op.equalIn (d + 1) T (.pointer (some a)) (.pointer none)).run P w = .ok false w := fun d => by simp [Op.equalIn, run_underlying hT]
  simpa [Op.equal, Op.maxDepth] using h 9999
theorem run_sameAddr_own {P : Program} {w : World} {a b : Addr} {ca cb : Array Value} {ta tb : TypeId} {fa fb : Nat × Nat} (hne : a.block ≠ b.block) (ha : w.heap[a.block]? = some (.cells ca ta fa)) (hb : w.heap[b.block]? = some (.cells cb tb fb))
    (hca : ca.size ≠ 0) (hcb : cb.size ≠ 0) (hf : unfrozen fb cb.size) (ho : b.off ≤ cb.size) : (sameAddr a b).run P w = .ok false w := by
  have h1 := hf b.off ho
  have h2 := hf cb.size (Nat.le_refl _)
  simp only [Bool.and_eq_false_iff, qb] at h1 h2
  obtain ⟨m, hm⟩ : ∃ m, ca.size = m + 1 := ⟨ca.size - 1, by omega⟩
  obtain ⟨n, hn⟩ : ∃ n, cb.size = n + 1 := ⟨cb.size - 1, by omega⟩
  have e1 : ¬ (fb.1 ≤ b.off ∧ b.off < fb.2) := by omega
  rw [hn] at h2
  have e2 : ¬ (fb.1 ≤ n + 1 ∧ n + 1 < fb.2) := by omega
  simp [sameAddr, hne, World.frozen?, ha, hb, noView, viewAt, World.shape?, mayBeOne, stringish, hm, hn, e1, e2]
section
variable {C : Cx} {A : Nat → SV} {d : Nat} {ty : TypeId} {pos : String} {af : Array Edge} {gd : Option (Nat × Bool)} {x y : Operand} {T T' : TypeId}
theorem y6 {T g off : Nat} (hN : Nat.blt d C.N = true) (h : opS A x = .ifp T g off) : zW C ⟨some d, .move x, ty, pos, af, gd⟩ (opR x) [] A [(d, .ifp T g off)] := s_copy (.inl rfl) hN h rfl
theorem s_as_ifp {T g off : Nat} (hN : Nat.blt d C.N = true) (h : opS A x = .ifp T g off) : zW C ⟨some d, .assign x, ty, pos, af, gd⟩ (opR x) [] A [(d, .ifp T g off)] := s_copy (.inr rfl) hN h rfl
theorem SimG.ptr {C : Cx} {A : Nat → SV} {G : Gh} {a : Act} {w : World} (S : SimG C A G a w) {x : Operand} {g off : Nat} (h : Al.opS A x = .ptr g off) : a.eval x = .pointer (some ⟨G.blk g, off, none⟩) := by
  obtain ⟨c, h1, h2⟩ := S.opS h rfl
  simp only [RepS] at h1
  rw [h2, h1]; rfl
theorem SimG.ifp {C : Cx} {A : Nat → SV} {G : Gh} {a : Act} {w : World} (S : SimG C A G a w) {x : Operand} {T g off : Nat} (h : Al.opS A x = .ifp T g off) : a.eval x = .iface T (.pointer (some ⟨G.blk g, off, none⟩)) := by
  obtain ⟨c, h1, h2⟩ := S.opS h rfl
  simp only [RepS] at h1
  rw [h2, h1]; rfl
theorem s_makeIfp {g off : Nat} (hN : Nat.blt d C.N = true) (hx : opS A x = .ptr g off) (hT : xC C.P T) :
    zW C ⟨some d, .makeInterface T x, ty, pos, af, gd⟩ (opR x) [] A [(d, .ifp T g off)] := by
  refine zW.value rfl hN fun A' G a w hR S => ?_
  have hev := S.ptr ((zw hR).trans hx)
  obtain ⟨u, hu, hu2⟩ := hT
  refine ⟨.iface T (.pointer (some ⟨G.blk g, off, none⟩)), ?_, ⟨[.iface T (.pointer (some ⟨G.blk g, off, none⟩))], by simp only [RepS], rfl⟩⟩
  simp only [execOp, Instr.makeInterface, Sem.run_bind, zN hu, Result.andThen_ok, hev]
  cases u <;> first | rfl | cases hu2
theorem zW.op1A {C : Cx} {o : Oper} {d : Nat} {A : Nat → SV} {x : Operand} {ax r : AV} (hd : o.dst = some d) (hN : Nat.blt d C.N = true) (hx : opV A x = some ax)
    (h : ∀ w I (a : Act), Rep w I ax (a.eval x) → ∃ v, (execOp a.eval o).run C.P w = .ok (.value v) w ∧ Rep w I r v) : zW C o (opR x) [] A [(d, .imm r)] := by
  refine zW.value hd hN fun A' G a w hR S => ?_
  rw [← zr hR] at hx
  obtain ⟨v, h1, h2⟩ := h w G.I a (S.opV hx)
  exact ⟨v, h1, zn.2 h2⟩
theorem s_eqNI {t : TypeId} {v : AV} {p : Array (String × TypeId)} (hN : Nat.blt d C.N = true) (hx : opV A x = some (.ifc t v)) (hy : opV A y = some (.v .nilIface)) (hT : C.P.underlying T = some (.interface p)) :
    zW C ⟨some d, .binOp .eql T x y T', ty, pos, af, gd⟩ (opR x ++ opR y) [] A [(d, .imm (.v (.bool false)))] :=
  zW.op2 rfl hN hx hy fun w I ρ h1 h2 => by
    obtain ⟨u, e, _⟩ := rep_ifc h1
    have e2 : ρ y = .nilIface := xm h2 rfl
    refine ⟨.bool false, ?_, yZ w I rfl⟩
    simp only [execOp, e, e2]
    simp [eqGuard, binOp, run_eqI_nil hT]
theorem s_neNI {t : TypeId} {v : AV} {p : Array (String × TypeId)} (hN : Nat.blt d C.N = true) (hx : opV A x = some (.ifc t v)) (hy : opV A y = some (.v .nilIface)) (hT : C.P.underlying T = some (.interface p)) :
    zW C ⟨some d, .binOp .neq T x y T', ty, pos, af, gd⟩ (opR x ++ opR y) [] A [(d, .imm (.v (.bool true)))] :=
  zW.op2 rfl hN hx hy fun w I ρ h1 h2 => by
    obtain ⟨u, e, _⟩ := rep_ifc h1
    have e2 : ρ y = .nilIface := xm h2 rfl
    refine ⟨.bool true, ?_, yZ w I rfl⟩
    simp only [execOp, e, e2]
    simp [eqGuard, binOp, run_eqI_nil hT]
theorem s_eqNN {p : Array (String × TypeId)} (hN : Nat.blt d C.N = true) (hx : opV A x = some (.v .nilIface)) (hT : C.P.underlying T = some (.interface p)) :
    zW C ⟨some d, .binOp .eql T x (.const .nilIface) T', ty, pos, af, gd⟩ (opR x) [] A [(d, .imm (.v (.bool true)))] :=
  zW.op1A rfl hN hx fun w I a h1 => by
    have e1 : a.eval x = .nilIface := xm h1 rfl
    have e2 : a.eval (.const .nilIface) = .nilIface := rfl
    refine ⟨.bool true, ?_, yZ w I rfl⟩
    simp only [execOp, e1, e2]
    simp [eqGuard, binOp, run_eqN_nil hT]
theorem s_neNN {p : Array (String × TypeId)} (hN : Nat.blt d C.N = true) (hx : opV A x = some (.v .nilIface)) (hT : C.P.underlying T = some (.interface p)) :
    zW C ⟨some d, .binOp .neq T x (.const .nilIface) T', ty, pos, af, gd⟩ (opR x) [] A [(d, .imm (.v (.bool false)))] :=
  zW.op1A rfl hN hx fun w I a h1 => by
    have e1 : a.eval x = .nilIface := xm h1 rfl
    have e2 : a.eval (.const .nilIface) = .nilIface := rfl
    refine ⟨.bool false, ?_, yZ w I rfl⟩
    simp only [execOp, e1, e2]
    simp [eqGuard, binOp, run_eqN_nil hT]
theorem s_eqNP {t g off : Nat} {p : Array (String × TypeId)} (hN : Nat.blt d C.N = true) (hx : opS A x = .ifp t g off) (hy : opV A y = some (.v .nilIface)) (hT : C.P.underlying T = some (.interface p)) :
    zW C ⟨some d, .binOp .eql T x y T', ty, pos, af, gd⟩ (opR x ++ opR y) [] A [(d, .imm (.v (.bool false)))] := by
  refine zW.value rfl hN fun A' G a w hR S => ?_
  rw [← zr (fun k hk => hR k (List.mem_append_right _ hk))] at hy
  have e := S.ifp ((zw (fun k hk => hR k (List.mem_append_left _ hk))).trans hx)
  have e2 : a.eval y = .nilIface := xm (S.opV hy) rfl
  refine ⟨.bool false, ?_, zn.2 (yZ _ _ rfl)⟩
  simp only [execOp, e, e2]
  simp [eqGuard, binOp, run_eqI_nil hT]
theorem xq {v : AV} (hN : Nat.blt d C.N = true) (hx : opV A x = some (.cp v)) : zW C ⟨some d, .nilCheck x, ty, pos, af, gd⟩ (opR x) [] A [(d, .imm (.cp v))] :=
  zW.op1 rfl hN hx fun w I ρ h => by
    obtain ⟨b, o, c, e, h1, h2⟩ := rep_cp h
    exact ⟨ρ x, by simp only [execOp, e]; rfl, h⟩
theorem s_nilCheck_ptr {g off : Nat} (hN : Nat.blt d C.N = true) (hx : opS A x = .ptr g off) : zW C ⟨some d, .nilCheck x, ty, pos, af, gd⟩ (opR x) [] A [(d, .ptr g off)] := by
  refine zW.value rfl hN fun A' G a w hR S => ?_
  have hev := S.ptr ((zw hR).trans hx)
  refine ⟨a.eval x, by simp only [execOp, hev]; rfl, ?_⟩
  rw [hev]
  exact ⟨[.pointer (some ⟨G.blk g, off, none⟩)], by simp only [RepS], rfl⟩
theorem s_nePN {g off : Nat} {e : TypeId} (hN : Nat.blt d C.N = true) (hx : opS A x = .ptr g off) (hy : opV A y = some (.v (.pointer none))) (hT : C.P.underlying T = some (.pointer e)) :
    zW C ⟨some d, .binOp .neq T x y T', ty, pos, af, gd⟩ (opR x ++ opR y) [] A [(d, .imm (.v (.bool true)))] := by
  refine zW.value rfl hN fun A' G a w hR S => ?_
  rw [← zr (fun k hk => hR k (List.mem_append_right _ hk))] at hy
  have e := S.ptr ((zw (fun k hk => hR k (List.mem_append_left _ hk))).trans hx)
  have e2 : a.eval y = .pointer none := xm (S.opV hy) rfl
  refine ⟨.bool true, ?_, zn.2 (yZ _ _ rfl)⟩
  simp only [execOp, e, e2]
  simp [eqGuard, binOp, run_eqP_nil hT]
theorem s_eqIP {t t' g : Nat} {v : AV} {T0 : TypeId} {X : SV} {p : Array (String × TypeId)} {e : TypeId} (hN : Nat.blt d C.N = true) (hx : opV A x = some (.ifc t (.cp v))) (hy : opS A y = .ifp t' g 0) (hg : A g = .box T0 X) (hv : Nat.blt 0 v.width = true) (hX : Nat.blt 0 X.width = true)
    (hT : C.P.underlying T = some (.interface p)) (ht : C.P.underlying t' = some (.pointer e)) (hinfo : ∃ i j, C.P.info? t' = some i ∧ i.comparable = true ∧ C.P.info? e = some j ∧ j.size ≠ 0) :
    zW C ⟨some d, .binOp .eql T x y T', ty, pos, af, gd⟩ (g :: (opR x ++ opR y)) [] A [(d, .imm (.v (.bool false)))] := by
  refine zW.value rfl hN fun A' G a w hR S => ?_
  rw [← zr (fun k hk => hR k (List.mem_cons_of_mem _ (List.mem_append_left _ hk)))] at hx
  have hgA : A' g = .box T0 X := (hR g List.mem_cons_self).trans hg
  have e2 := S.ifp ((zw (fun k hk => hR k (List.mem_cons_of_mem _ (List.mem_append_right _ hk)))).trans hy)
  obtain ⟨u, e1, h1⟩ := rep_ifc (S.opV hx)
  obtain ⟨b, o, c, rfl, h2, h3⟩ := rep_cp h1
  have hb := S.holds g
  rw [hgA] at hb
  simp only [Holds] at hb
  have hlen := RepC.len _ _ h2
  have hpos : 0 < c.length := by rw [hlen]; simpa [Nat.blt_eq] using hv
  have hne : b ≠ G.blk g := by
    rintro rfl
    exact hb.2.2 _ (h3 0 hpos).2
  refine ⟨.bool false, ?_, zn.2 (yZ _ _ rfl)⟩
  have hcell : ∃ ca ta fa, w.heap[b]? = some (.cells ca ta fa) ∧ ca.size ≠ 0 := by
    have h0 := (h3 0 hpos).1
    simp only [World.cell?] at h0
    split at h0
    · rename_i ca ta fa hh
      refine ⟨ca, ta, fa, hh, ?_⟩
      intro hz
      simp [Array.eq_empty_of_size_eq_zero hz] at h0
    · cases h0
  obtain ⟨ca, ta, fa, hca, hca0⟩ := hcell
  obtain ⟨_, ⟨cb, fb, hcb, hrep, huf⟩, _⟩ := hb
  have hcb0 : cb.size ≠ 0 := by
    have := RepS.len _ _ hrep
    simp only [Array.length_toList] at this
    rw [this]
    have : 0 < X.width := by simpa [Nat.blt_eq] using hX
    omega
  have hsame := run_sameAddr_own (P := C.P) (a := ⟨b, o, none⟩) (b := ⟨G.blk g, 0, none⟩) hne hca hcb hca0 hcb0 huf (Nat.zero_le _)
  have hfin : (Op.equal T (.iface t (.pointer (some ⟨b, o, none⟩))) (.iface t' (.pointer (some ⟨G.blk g, 0, none⟩)))).run C.P w = .ok false w := by
    by_cases htt : t = t'
    · subst htt
      obtain ⟨i, j, hi, hcmp, hj, hjs⟩ := hinfo
      have h : ∀ d : Nat, (Op.equalIn (d + 2) T (.iface t (.pointer (some ⟨b, o, none⟩))) (.iface t (.pointer (some ⟨G.blk g, 0, none⟩)))).run C.P w = .ok false w := fun d => by
        simp [Op.equalIn, run_underlying hT, run_underlying ht, typeInfo, hi, hcmp, sizeOf, hj, hjs, hsame]
      simpa [Op.equal, Op.maxDepth] using h 9998
    · have h : ∀ d : Nat, (Op.equalIn (d + 1) T (.iface t (.pointer (some ⟨b, o, none⟩))) (.iface t' (.pointer (some ⟨G.blk g, 0, none⟩)))).run C.P w = .ok false w := fun d => by
        simp [Op.equalIn, run_underlying hT, htt]
      simpa [Op.equal, Op.maxDepth] using h 9999
  simp only [execOp, e1, e2]
  simp [eqGuard, binOp, hfin]
theorem s_extV {f : FuncId} {args : Array Operand} {ats : Array TypeId} {xs : List AV} {r : AV} (hN : Nat.blt d C.N = true) (hx : opVs A args.toList = some xs)
    (h : ∀ w I vs, yA w I xs vs → ∃ v, (callFunc f (List.toArray vs)).run C.P w = .ok (.value v) w ∧ Rep w I r v) :
    zW C ⟨some d, .call { callee := .value (.func f), args := args, argTypes := ats }, ty, pos, af, gd⟩ (opRs args.toList) [] A [(d, .imm r)] := by
  refine zW.value rfl hN fun A' G a w hR S => ?_
  rw [← wS hR] at hx
  obtain ⟨v, h1, h2⟩ := h w G.I _ (S.opVs hx)
  refine ⟨v, ?_, zn.2 h2⟩
  have hev : a.eval (.func f) = .func (.func f) #[] #[] := rfl
  have e : (List.map a.eval args.toList).toArray = args.map a.eval := by rw [← Array.toList_map]
  rw [e] at h1
  simp only [execOp, resolve, hev, Deferred.ofValue, Sem.run_bind, Sem.run_pure, Result.andThen_ok, invoke]
  simpa using h1
theorem z0 {P : Program} {w : World} {T : TypeId} {v : Value} {name : String} {f : FuncId} {r : Value} (hm : (method (P.types.size + Made.depth) T v name).run P w = .ok (f, r) w) (args : Array Value) :
    (callMethod (.iface T v) name args).run P w = (callFunc f (#[r] ++ args)).run P w := by
  simp only [callMethod, Sem.run_bind, run_program, Result.andThen_ok, hm]
theorem s_inv0 {name : String} {ats : Array TypeId} {ax r : AV} (hN : Nat.blt d C.N = true) (hx : opV A x = some ax) (h : ∀ w I v, Rep w I ax v → ∃ u, (callMethod v name #[]).run C.P w = .ok (.value u) w ∧ Rep w I r u) :
    zW C ⟨some d, .call { callee := .invoke x name, args := #[], argTypes := ats }, ty, pos, af, gd⟩ (opR x) [] A [(d, .imm r)] :=
  zW.op1 rfl hN hx fun w I ρ h1 => by
    obtain ⟨u, e, h2⟩ := h w I _ h1
    refine ⟨u, ?_, h2⟩
    simp only [execOp, resolve, Sem.run_bind, Sem.run_pure, Result.andThen_ok, invoke]
    simpa using e
theorem s_inv1 {name : String} {ats : Array TypeId} {ax ay r : AV} (hN : Nat.blt d C.N = true) (hx : opV A x = some ax) (hy : opV A y = some ay) (h : ∀ w I v v', Rep w I ax v → Rep w I ay v' → ∃ u, (callMethod v name #[v']).run C.P w = .ok (.value u) w ∧ Rep w I r u) :
    zW C ⟨some d, .call { callee := .invoke x name, args := #[y], argTypes := ats }, ty, pos, af, gd⟩ (opR x ++ opR y) [] A [(d, .imm r)] :=
  zW.op2 rfl hN hx hy fun w I ρ h1 h3 => by
    obtain ⟨u, e, h2⟩ := h w I _ _ h1 h3
    refine ⟨u, ?_, h2⟩
    simp only [execOp, resolve, Sem.run_bind, Sem.run_pure, Result.andThen_ok, invoke]
    simpa using e
theorem s_invC {name : String} {ats : Array TypeId} {t : TypeId} {f : FuncId} {bx r : AV} (hc : zg C.P C.Γ f [bx] [r]) (hN : Nat.blt d C.N = true) (hx : opV A x = some (.ifc t bx)) (h : ∀ w v, (method (C.P.types.size + Made.depth) t v name).run C.P w = .ok (f, v) w) :
    zW C ⟨some d, .call { callee := .invoke x name, args := #[], argTypes := ats }, ty, pos, af, gd⟩ (opR x) [] A [(d, .imm r)] := by
  intro A' a w hR hF ⟨G, S⟩
  rw [← zr hR] at hx
  obtain ⟨u, e, h1⟩ := rep_ifc (S.opV hx)
  have hcall := hc.2 w G.I [u] S.val S.glob (by obtain ⟨c, k1, k2⟩ := h1; simp only [yA]; exact ⟨c, [], by rw [k2], k1, rfl⟩)
  unfold Oper.wp
  have hrun : (execOp a.eval ⟨some d, .call { callee := .invoke x name, args := #[], argTypes := ats }, ty, pos, af, gd⟩).run C.P w = .ok (.enter f (List.toArray [u])) w := by
    simp only [execOp, resolve, Sem.run_bind, Sem.run_pure, Result.andThen_ok, invoke, e]
    have := z0 (h w u) #[]
    rw [wF hc.1] at this
    simpa using this
  rw [hrun, Oper.upon_enter]
  refine hcall.mono ?_
  rintro e w' ⟨v, I', rfl, hb, hle, hn, hv, hres⟩
  exact ⟨{ G with I := I' }, (S.called hb hle hn hv).put (by simpa [Nat.blt_eq] using hN) (resV_slot (rs := [r]) hres)⟩
theorem s_hasNo {t Tx : TypeId} {v : AV} (hN : Nat.blt d C.N = true) (hx : opV A x = some (.ifc t v)) (h : ∀ (u : Value) (w : World), (Instr.typeAssert (.iface t u) Tx T true).run C.P w = .ok (.tuple #[.nilIface, .bool false]) w) :
    zW C ⟨some d, .typeAssert x Tx T true, ty, pos, af, gd⟩ (opR x) [] A [(d, .tup [.imm (.v .nilIface), .imm (.v (.bool false))])] := by
  refine zW.value rfl hN fun A' G a w hR S => ?_
  rw [← zr hR] at hx
  obtain ⟨u, e, h1⟩ := rep_ifc (S.opV hx)
  refine ⟨.tuple #[.nilIface, .bool false], by simp only [execOp, e, Sem.run_bind, h u w, Result.andThen_ok, Sem.run_pure], ?_⟩
  exact ⟨[.nilIface, .bool false], rfl, _, _, rfl, zn.2 (yZ _ _ rfl), _, _, rfl, zn.2 (yZ _ _ rfl), rfl⟩
theorem s_hasYes {t Tx : TypeId} {v : AV} (hN : Nat.blt d C.N = true) (hx : opV A x = some (.ifc t v)) (h : ∀ (u : Value) (w : World), (Instr.typeAssert (.iface t u) Tx T true).run C.P w = .ok (.tuple #[.iface t u, .bool true]) w) :
    zW C ⟨some d, .typeAssert x Tx T true, ty, pos, af, gd⟩ (opR x) [] A [(d, .tup [.imm (.ifc t v), .imm (.v (.bool true))])] := by
  refine zW.value rfl hN fun A' G a w hR S => ?_
  rw [← zr hR] at hx
  obtain ⟨u, e, h1⟩ := rep_ifc (S.opV hx)
  refine ⟨.tuple #[.iface t u, .bool true], by simp only [execOp, e, Sem.run_bind, h u w, Result.andThen_ok, Sem.run_pure], ?_⟩
  exact ⟨[.iface t u, .bool true], rfl, _, _, rfl, zn.2 (rep_ifc_mk h1), _, _, rfl, zn.2 (yZ _ _ rfl), rfl⟩
theorem s_assertP {Tx g off : Nat} (hN : Nat.blt d C.N = true) (hx : opS A x = .ifp T g off) (hT : xC C.P T) :
    zW C ⟨some d, .typeAssert x Tx T true, ty, pos, af, gd⟩ (opR x) [] A [(d, .tup [.ptr g off, .imm (.v (.bool true))])] := by
  refine zW.value rfl hN fun A' G a w hR S => ?_
  have hev := S.ifp ((zw hR).trans hx)
  obtain ⟨u, hu, hu2⟩ := hT
  refine ⟨.tuple #[.pointer (some ⟨G.blk g, off, none⟩), .bool true], ?_, ?_⟩
  · simp only [execOp, Instr.typeAssert, Sem.run_bind, zN hu, Result.andThen_ok, hev]
    cases u <;> first | (simp; done) | cases hu2
  · exact ⟨[.pointer (some ⟨G.blk g, off, none⟩), .bool true], rfl, _, _, rfl, ⟨[.pointer (some ⟨G.blk g, off, none⟩)], by simp only [RepS], rfl⟩, _, _, rfl, zn.2 (yZ _ _ rfl), rfl⟩
end
end Go.Al
namespace Go.Al
open Go.RowKit
abbrev refV (h : Value) (g : Nat) (fl : Value) : SV := .agg [.imm (.v h), .ptr g 0, .imm (.v fl)]
theorem repS_refV {w : World} {G : Gh} {h fl : Value} {g : Nat} (h1 : h.cells.toList = [h]) (h2 : fl.cells.toList = [fl]) (p1 : plain h = true) (p2 : plain fl = true) : RepS w G (refV h g fl) [h, .pointer (some ⟨G.blk g, 0, none⟩), fl] := by
  simp only [RepS, ya, RepC]
  exact ⟨[h], _, rfl, ⟨h1.symm, by simp [p1]⟩, [.pointer (some ⟨G.blk g, 0, none⟩)], _, rfl, rfl, [fl], [], rfl, ⟨h2.symm, by simp [p2]⟩, rfl⟩
theorem xa {h : Value} (p : plain h = true) : h.cells.toList = [h] := by cases h <;> first | rfl | cases p
theorem SimG.refV {C : Cx} {A : Nat → SV} {G : Gh} {a : Act} {w : World} (S : SimG C A G a w) {x : Operand} {h fl : Value} {g : Nat} (hx : Al.opS A x = Al.refV h g fl) (p1 : plain h = true) (p2 : plain fl = true) :
    a.eval x = .agg #[h, .pointer (some ⟨G.blk g, 0, none⟩), fl] := by
  obtain ⟨c, h1, h2⟩ := S.opS hx rfl
  simp only [RepS, ya, RepC] at h1
  obtain ⟨c1, c2, rfl, ⟨k1, _⟩, c3, c4, rfl, k2, c5, c6, rfl, ⟨k3, _⟩, rfl⟩ := h1
  rw [h2, k1, k2, k3, xa p1, xa p2]; rfl
section
variable {C : Cx} {A : Nat → SV} {d : Nat} {ty : TypeId} {pos : String} {af : Array Edge} {gd : Option (Nat × Bool)} {x y : Operand} {T T' : TypeId} {h fl h2 fl2 : Value}
theorem run_ext1 {f : FuncId} {a : Act} {ats : Array TypeId} {d0 : Option Nat} {w : World} {n : Result Next} (hf : (callFunc f #[a.eval x]).run C.P w = n) :
    (execOp a.eval ⟨d0, .call { callee := .value (.func f), args := #[x], argTypes := ats }, ty, pos, af, gd⟩).run C.P w = n := by
  have hev : a.eval (.func f) = .func (.func f) #[] #[] := rfl
  simp only [execOp, resolve, hev, Deferred.ofValue, Sem.run_bind, Sem.run_pure, Result.andThen_ok, invoke]
  simpa using hf
theorem run_ext2 {f : FuncId} {a : Act} {ats : Array TypeId} {d0 : Option Nat} {w : World} {n : Result Next} (hf : (callFunc f #[a.eval x, a.eval y]).run C.P w = n) :
    (execOp a.eval ⟨d0, .call { callee := .value (.func f), args := #[x, y], argTypes := ats }, ty, pos, af, gd⟩).run C.P w = n := by
  have hev : a.eval (.func f) = .func (.func f) #[] #[] := rfl
  simp only [execOp, resolve, hev, Deferred.ofValue, Sem.run_bind, Sem.run_pure, Result.andThen_ok, invoke]
  simpa using hf
theorem valueOf_box {C : Cx} {A : Nat → SV} {G : Gh} {a : Act} {w : World} (S : SimG C A G a w) {gv d : Nat} {T : TypeId} {X : SV} {u : Value} (hgd : gv ≠ d) (hgK : gv < C.K) (hd : d < C.N) (hu : RepS w G X [u]) (hnx : noG [gv] X = true) (p1 : plain h = true) (p2 : plain fl = true)
    (hf : ∀ k, has [(gv, .box T X), (d, refV h gv fl)] k = false → noG [gv] (A k) = true) :
    Sim C (upd A [(gv, .box T X), (d, refV h gv fl)]) (a.put (some d) (.agg #[h, .pointer (some ⟨w.heap.size, 0, none⟩), fl])) (w.alloc (.cells #[u] T)) := by
  refine S.allocO hgd hgK hd (fun _ _ h => by simpa only [zi] using h) (fun G' e _ hg hle hni => ?_) (fun G' e => ?_) hf
  · simp only [Holds]
    refine ⟨⟨.inl (by rw [e]; exact S.size), by rw [e]; simp⟩, ⟨#[u], (0, 0), by rw [e]; exact alloc_new, RepS.mono hle hg _ _ hnx hu, fun o _ => by simp⟩, fun o => ?_⟩
    rw [e]; exact hni o
  · refine ⟨[h, .pointer (some ⟨w.heap.size, 0, none⟩), fl], ?_, by simp [mkS, SV.isAgg]⟩
    have := repS_refV (w := w.alloc (.cells #[u] T)) (G := G') (g := gv) (xa p1) (xa p2) p1 p2
    rw [e] at this; exact this
theorem s_valueOfP (gv : Nat) {f g : Nat} {ats : Array TypeId} (hgd : Nat.beq gv d = false) (hgK : Nat.blt gv C.K = true) (hN : Nat.blt d C.N = true) (hne : Nat.beq gv g = false) (hx : opS A x = .ifp T g 0) (p1 : plain h = true) (p2 : plain fl = true)
    (hf : ∀ a w, (callFunc f #[.iface T (.pointer (some a))]).run C.P w = .ok (.value (.agg #[h, .pointer (some ⟨w.heap.size, 0, none⟩), fl])) (w.alloc (.cells #[.pointer (some a)] T))) :
    zW C ⟨some d, .call { callee := .value (.func f), args := #[x], argTypes := ats }, ty, pos, af, gd⟩ (opR x) [gv] A [(gv, .box T (.ptr g 0)), (d, refV h gv fl)] := by
  intro A' a w hR hF ⟨G, S⟩
  have hev := S.ifp ((zw hR).trans hx)
  have hgd' : gv ≠ d := by rintro rfl; rw [Nat.beq_refl] at hgd; cases hgd
  have hne' : gv ≠ g := by rintro rfl; rw [Nat.beq_refl] at hne; cases hne
  have key := valueOf_box (h := h) (fl := fl) S (T := T) (X := .ptr g 0) (u := .pointer (some ⟨G.blk g, 0, none⟩)) hgd' (by simpa [Nat.blt_eq] using hgK) (by simpa [Nat.blt_eq] using hN) (by simp only [RepS]) (by simp only [noG]; simpa using Ne.symm hne') p1 p2 hF
  have hf' := hf ⟨G.blk g, 0, none⟩ w
  rw [← hev] at hf'
  unfold Oper.wp
  rw [run_ext1 hf', Oper.upon_value]
  exact key
theorem s_valueOfC (gv : Nat) {f : Nat} {v : AV} {ats : Array TypeId} (hgd : Nat.beq gv d = false) (hgK : Nat.blt gv C.K = true) (hN : Nat.blt d C.N = true) (hx : opV A x = some (.ifc T (.cp v))) (p1 : plain h = true) (p2 : plain fl = true)
    (hf : ∀ a w, (callFunc f #[.iface T (.pointer (some a))]).run C.P w = .ok (.value (.agg #[h, .pointer (some ⟨w.heap.size, 0, none⟩), fl])) (w.alloc (.cells #[.pointer (some a)] T))) :
    zW C ⟨some d, .call { callee := .value (.func f), args := #[x], argTypes := ats }, ty, pos, af, gd⟩ (opR x) [gv] A [(gv, .box T (.imm (.cp v))), (d, refV h gv fl)] := by
  intro A' a w hR hF ⟨G, S⟩
  rw [← zr hR] at hx
  obtain ⟨u, hev, hu⟩ := rep_ifc (S.opV hx)
  obtain ⟨b, o, c, rfl, k1, k2⟩ := rep_cp hu
  have hgd' : gv ≠ d := by rintro rfl; rw [Nat.beq_refl] at hgd; cases hgd
  have key := valueOf_box (h := h) (fl := fl) S (T := T) (X := .imm (.cp v)) (u := .pointer (some ⟨b, o, none⟩)) hgd' (by simpa [Nat.blt_eq] using hgK) (by simpa [Nat.blt_eq] using hN) (by simp only [RepS, RepC]; exact ⟨b, o, c, rfl, k1, k2⟩) (by simp only [noG]) p1 p2 hF
  have hf' := hf ⟨b, o, none⟩ w
  rw [← hev] at hf'
  unfold Oper.wp
  rw [run_ext1 hf', Oper.upon_value]
  exact key
theorem s_refRaw {f gv : Nat} {r : Value} {ats : Array TypeId} (hN : Nat.blt d C.N = true) (hx : opS A x = refV h gv fl) (p1 : plain h = true) (p2 : plain fl = true) (pr : plain r = true)
    (hf : ∀ a w, (callFunc f #[.agg #[h, .pointer (some a), fl]]).run C.P w = .ok (.value r) w) :
    zW C ⟨some d, .call { callee := .value (.func f), args := #[x], argTypes := ats }, ty, pos, af, gd⟩ (opR x) [] A [(d, .imm (.v r))] := by
  refine zW.value rfl hN fun A' G a w hR S => ?_
  have hev := S.refV ((zw hR).trans hx) p1 p2
  exact ⟨r, run_ext1 (by rw [hev]; exact hf _ w), zn.2 (yZ _ _ pr)⟩
theorem box_cell {C : Cx} {A : Nat → SV} {G : Gh} {a : Act} {w : World} (S : SimG C A G a w) {g : Nat} {T0 : TypeId} {X : SV} {u : Value} (hg : A g = .box T0 X) (hX : ∀ cs, RepS w G X cs → cs = [u]) : w.cell? ⟨G.blk g, 0, none⟩ = some u := by
  have hb := S.holds g
  rw [hg] at hb
  simp only [Holds] at hb
  obtain ⟨_, ⟨cs, fr, h1, h2, _⟩, _⟩ := hb
  have e := hX _ h2
  simp only [World.cell?, h1, Option.isSome_none, Bool.false_eq_true, if_false]
  rw [← Array.getElem?_toList, e]; rfl
theorem s_isNilV {f gv g : Nat} {T0 : TypeId} {ats : Array TypeId} (hN : Nat.blt d C.N = true) (hx : opS A x = refV h gv fl) (hg : A gv = .box T0 (.ptr g 0)) (p1 : plain h = true) (p2 : plain fl = true)
    (hf : ∀ a p w, w.cell? a = some (.pointer (some p)) → (callFunc f #[.agg #[h, .pointer (some a), fl]]).run C.P w = .ok (.value (.bool false)) w) :
    zW C ⟨some d, .call { callee := .value (.func f), args := #[x], argTypes := ats }, ty, pos, af, gd⟩ (gv :: opR x) [] A [(d, .imm (.v (.bool false)))] := by
  refine zW.value rfl hN fun A' G a w hR S => ?_
  have hev := S.refV ((zw (fun k hk => hR k (List.mem_cons_of_mem _ hk))).trans hx) p1 p2
  have hc := box_cell S (u := .pointer (some ⟨G.blk g, 0, none⟩)) ((hR gv List.mem_cons_self).trans hg) (fun cs r => by simpa only [RepS] using r)
  exact ⟨.bool false, run_ext1 (by rw [hev]; exact hf _ _ w hc), zn.2 (yZ _ _ rfl)⟩
theorem s_elemV {f gv g : Nat} {T0 : TypeId} {ats : Array TypeId} (hN : Nat.blt d C.N = true) (hx : opS A x = refV h gv fl) (hg : A gv = .box T0 (.ptr g 0)) (p1 : plain h = true) (p2 : plain fl = true) (q1 : plain h2 = true) (q2 : plain fl2 = true)
    (hf : ∀ a p w, w.cell? a = some (.pointer (some p)) → (callFunc f #[.agg #[h, .pointer (some a), fl]]).run C.P w = .ok (.value (.agg #[h2, .pointer (some p), fl2])) w) :
    zW C ⟨some d, .call { callee := .value (.func f), args := #[x], argTypes := ats }, ty, pos, af, gd⟩ (gv :: opR x) [] A [(d, refV h2 g fl2)] := by
  refine zW.value rfl hN fun A' G a w hR S => ?_
  have hev := S.refV ((zw (fun k hk => hR k (List.mem_cons_of_mem _ hk))).trans hx) p1 p2
  have hc := box_cell S (u := .pointer (some ⟨G.blk g, 0, none⟩)) ((hR gv List.mem_cons_self).trans hg) (fun cs r => by simpa only [RepS] using r)
  exact ⟨_, run_ext1 (by rw [hev]; exact hf _ _ w hc), ⟨_, repS_refV (xa q1) (xa q2) q1 q2, rfl⟩⟩
theorem s_setV {f g gw : Nat} {T0 T1 : TypeId} {X : SV} {v : AV} {ats : Array TypeId} {h3 fl3 : Value} (hgd : Nat.beq g d = false) (hN : Nat.blt d C.N = true) (hx : opS A x = refV h g fl) (hy : opS A y = refV h3 gw fl3) (hg : A g = .box T0 X) (hw : A gw = .box T1 (.imm (.cp v))) (hX : Nat.beq X.width 1 = true)
    (hn : zs C.P T = some 1) (p1 : plain h = true) (p2 : plain fl = true) (q1 : plain h3 = true) (q2 : plain fl3 = true)
    (hf : ∀ a b p w w', w.cell? b = some (.pointer (some p)) → (storeVar T a (.pointer (some p))).run C.P w = .ok () w' → (callFunc f #[.agg #[h, .pointer (some a), fl], .agg #[h3, .pointer (some b), fl3]]).run C.P w = .ok (.value (.tuple #[])) w') :
    zW C ⟨some d, .call { callee := .value (.func f), args := #[x, y], argTypes := ats }, ty, pos, af, gd⟩ (g :: gw :: (opR x ++ opR y)) [] A [(g, .box T0 (.imm (.cp v))), (d, .tup [])] := by
  intro A' a w hR hF ⟨G, S⟩
  have hgA := (hR g (by simp)).trans hg
  have hwA := (hR gw (by simp)).trans hw
  have e1 := S.refV ((zw (fun k hk => hR k (by simp [hk]))).trans hx) p1 p2
  have e2 := S.refV ((zw (fun k hk => hR k (by simp [hk]))).trans hy) q1 q2
  have hb2 := S.holds gw
  rw [hwA] at hb2
  simp only [Holds] at hb2
  obtain ⟨_, ⟨cw, fw, k1, k2, _⟩, _⟩ := hb2
  simp only [RepS, RepC] at k2
  obtain ⟨b, o, c, k3, k4, k5⟩ := k2
  have hc : w.cell? ⟨G.blk gw, 0, none⟩ = some (.pointer (some ⟨b, o, none⟩)) := by
    simp only [World.cell?, k1, Option.isSome_none, Bool.false_eq_true, if_false]
    rw [← Array.getElem?_toList, k3]; rfl
  have hb := S.holds g
  rw [hgA] at hb
  simp only [Holds] at hb
  obtain ⟨_, ⟨cs, fr, hb2, hb3, hb4⟩, _⟩ := hb
  have hlen : cs.size = 1 := by
    have := RepS.len _ _ hb3
    simp only [Array.length_toList] at this
    rw [this]; exact Nat.eq_of_beq_eq_true hX
  have hst : (storeVar T ⟨G.blk g, 0, none⟩ (.pointer (some ⟨b, o, none⟩))).run C.P w = .ok () (yD w (G.blk g) (.cells (yT cs 0 [.pointer (some ⟨b, o, none⟩)]) T0 fr)) := by
    simp only [storeVar, Sem.run_bind, zy hn, Result.andThen_ok]
    rw [if_neg (by simp [Value.cells])]
    exact xA [.pointer (some ⟨b, o, none⟩)] 0 w cs hb2 hb4 (by simp [hlen]) rfl
  have hrun := hf ⟨G.blk g, 0, none⟩ _ _ w _ hc hst
  have key : Sim C (upd A' [(g, .box T0 (.imm (.cp v)))]) a (yD w (G.blk g) (.cells (yT cs 0 [.pointer (some ⟨b, o, none⟩)]) T0 fr)) :=
    S.storeBox hgA hb2 (xe _ _ _) (by
      rw [xI _ _ _ (by simp [hlen])]
      have : cs.toList.length = 1 := by simpa using hlen
      obtain ⟨z, hz⟩ := List.length_eq_one_iff.1 this
      rw [hz]
      simp only [RepS, RepC]
      exact ⟨b, o, c, rfl, k4, k5⟩)
  obtain ⟨G2, S2⟩ := key
  rw [← e1, ← e2] at hrun
  unfold Oper.wp
  rw [run_ext2 hrun, Oper.upon_value]
  refine ⟨G2, ?_⟩
  have S3 := S2.put (d := d) (by simpa [Nat.blt_eq] using hN) (x := .tup []) (v := .tuple #[]) ⟨[], rfl, rfl⟩
  have e : upd (upd A' [(g, .box T0 (.imm (.cp v)))]) [(d, .tup [])] = upd A' [(g, .box T0 (.imm (.cp v))), (d, .tup [])] := by
    funext k
    simp only [upd]
    by_cases h1 : d = k
    · subst h1
      rw [Nat.beq_refl]
      by_cases h2 : g = d
      · subst h2; rw [Nat.beq_refl] at hgd; cases hgd
      · rw [zV h2]; rfl
    · rw [zV h1]
      cases Nat.beq g k <;> rfl
  rw [← e]; exact S3
end
end Go.Al
namespace Go.Al
open Go.RowKit
section
variable {C : Cx} {A : Nat → SV} {ty : TypeId} {pos : String} {af : Array Edge} {gd : Option (Nat × Bool)} {x y : Operand} {T T' : TypeId}
theorem s_mcallM {d : Option Nat} {f : FuncId} {name : String} {args : Array Operand} {ats : Array TypeId} {t : TypeId} {bx : AV} {xs : List SV} {H H' : St} {r : SV} (σ : List (Nat × Nat)) (hc : xj C.P C.Γ f xs H r H') (hm : ∀ w v, (method (C.P.types.size + Made.depth) t v name).run C.P w = .ok (f, v) w) (hN : dstOk C.N d (r.ren σ) = true)
    (hx : opV A x = some (.ifc t bx)) (hsl : (opSl A args.toList).all SV.slotty = true) (ha : argsOk σ (.imm bx :: opSl A args.toList) xs) (hH : hasAll A σ H)
    (hok : renOk C.N C.K σ H H' r = true) (hres : xR 0 H = true) (hres' : xR 0 H' = true) :
    zW C ⟨d, .call { callee := .invoke x name, args := args, argTypes := ats }, ty, pos, af, gd⟩ (cod σ ++ (opR x ++ opRs args.toList)) (newOf σ) A (xc d (r.ren σ) ++ xr σ H') := by
  intro A' a w hR hF ⟨G, S⟩
  have hok0 := hok
  simp only [renOk, Bool.and_eq_true] at hok0
  obtain ⟨⟨⟨⟨⟨⟨⟨⟨hd, hcd⟩, hkH⟩, hkH'⟩, _⟩, _⟩, hcN⟩, _⟩, _⟩ := hok0
  rw [← zr (fun k hk => hR k (List.mem_append_right _ (List.mem_append_left _ hk)))] at hx
  have eS := opSl_congr (A := A) (A' := A') (xs := args.toList) (fun k hk => hR k (List.mem_append_right _ (List.mem_append_right _ hk)))
  rw [← eS] at hsl ha
  have hH' := wC (A := A) (A' := A') (fun g hg => hR g (List.mem_append_left _ hg)) (yp hkH) hH
  obtain ⟨u, hev, hu⟩ := rep_ifc (S.opV hx)
  have hargs := S.opSl hsl
  have hvals : yv w G (.imm bx :: opSl A' args.toList) (u :: args.toList.map a.eval) := ⟨u, _, rfl, zn.2 hu, hargs⟩
  have hpre := S.mpre hres hcd (yp hkH) hH' hvals ha
  have hcall := hc.2 w _ _ hpre
  have hrun : (execOp a.eval ⟨d, .call { callee := .invoke x name, args := args, argTypes := ats }, ty, pos, af, gd⟩).run C.P w = .ok (.enter f (List.toArray (u :: args.toList.map a.eval))) w := by
    simp only [execOp, resolve, Sem.run_bind, Sem.run_pure, Result.andThen_ok, invoke, hev]
    have := z0 (hm w u) (args.map a.eval)
    rw [wF hc.1] at this
    have e : (#[u] ++ args.map a.eval) = (u :: args.toList.map a.eval).toArray := by simp
    rw [e] at this
    have e2 : (#[Value.iface t u] ++ args.map a.eval)[0]? = some (.iface t u) := by rw [Array.getElem?_append_left (by simp)]; rfl
    have e3 : (#[Value.iface t u] ++ args.map a.eval).extract 1 (#[Value.iface t u] ++ args.map a.eval).size = args.map a.eval := by
      apply Array.ext'
      simp
      exact List.take_of_length_le (by simp)
    simp only [e2, e3]
    exact this
  unfold Oper.wp
  rw [hrun, Oper.upon_enter]
  refine hcall.mono ?_
  rintro e w' ⟨v, G', rfl, D⟩
  have hF' : ∀ k, k ∉ cod σ → noG (newOf σ) (A' k) = true ∨ d = some k := by
    intro k hk
    by_cases hdk : d = some k
    · exact .inr hdk
    · refine .inl (hF k ?_)
      cases hh : has (xc d (r.ren σ) ++ xr σ H') k
      · rfl
      · exfalso
        have h1 := (has_iff _ _).1 hh
        simp only [wg, List.map_append, List.mem_append] at h1
        rcases h1 with h1 | h1
        · cases d with
          | none => simp [xc] at h1
          | some d => simp [xc] at h1; exact hdk (by rw [h1])
        · exact hk (postOf_has.1 ((has_iff _ _).2 h1))
  cases d with
  | none =>
    obtain ⟨S', _⟩ := S.mcalled hok hres hres' hH' (fun k hk => (hF' k hk).resolve_right (by simp)) D
    exact ⟨_, by simpa [xc, Act.put] using S'⟩
  | some d =>
    have hdN : d < C.N := by simpa [dstOk, Nat.blt_eq] using hN
    have hdc : d ∉ cod σ := fun h => by
      have := Nat.le_of_ble_eq_true (List.all_eq_true.1 hcN d h)
      omega
    -- what stood in the slot of the result matters no more
    have Sw := S.weak (B := upd A' [(d, .dead)]) (fun k => by
      rw [yq]
      split
      · exact .inl rfl
      · exact .inr rfl)
    have hHw : hasAll (upd A' [(d, .dead)]) σ H := wC (A := A') (fun g hg => by
      rw [yq, if_neg (by rintro rfl; exact hdc hg)]) (yp hkH) hH'
    obtain ⟨S', hv⟩ := Sw.mcalled hok hres hres' hHw (fun k hk => by
      rw [yq]
      split
      · rfl
      · rename_i hkd
        exact (hF' k hk).resolve_right (fun e => hkd (by cases e; rfl))) D
    have S2 := S'.put hdN hv
    have e : upd (upd (upd A' [(d, .dead)]) (xr σ H')) [(d, r.ren σ)] = upd A' (xc (some d) (r.ren σ) ++ xr σ H') := by
      funext k
      rw [yq]
      simp only [xc, List.cons_append, List.nil_append, upd]
      by_cases hkd : k = d
      · subst hkd; simp [Nat.beq_refl]
      · rw [if_neg hkd, zV (Ne.symm hkd)]
        simp only [cond_false]
        cases hh : has (xr σ H') k
        · rw [y8 _ _ _ hh, y8 _ _ _ hh]
          first | (rw [yq, if_neg hkd]; done) | (rw [zV (Ne.symm hkd)]; rfl)
        · exact upd_congr _ _ hh
    rw [e] at S2
    exact ⟨_, S2⟩
theorem s_makeIfaceS {d g : Nat} {T0 : TypeId} {X : SV} {y : AV} (hgd : Nat.beq g d = false) (hN : Nat.blt d C.N = true) (hx : opS A x = .ptr g 0) (hg : A g = .box T0 X) (hy : toAV X = some y) (hT : xC C.P T) :
    zW C ⟨some d, .makeInterface T x, ty, pos, af, gd⟩ (g :: opR x) [] A [(g, .dead), (d, .imm (.ifc T (.cp y)))] := by
  intro A' a w hR hF ⟨G, S⟩
  have hgA : A' g = .box T0 X := (hR g List.mem_cons_self).trans hg
  have hev := S.ptr ((zw (fun k hk => hR k (List.mem_cons_of_mem _ hk))).trans hx)
  have hgd' : g ≠ d := by rintro rfl; rw [Nat.beq_refl] at hgd; cases hgd
  have hb := S.holds g
  rw [hgA] at hb
  simp only [Holds] at hb
  obtain ⟨how, ⟨cs, fr, hb2, hb3, hb4⟩, hni⟩ := hb
  obtain ⟨S1, hle, hcell⟩ := S.giveUp fr hgA hb2
  have hw : yD w (G.blk g) (.cells cs T0 fr) = w := setBlk_same hb2
  rw [hw] at S1 hle hcell
  have hyc : RepC w (fun b o => G.I b o ∨ (b = G.blk g ∧ o < cs.size)) y cs.toList := RepC.mono hle _ _ (xG X y _ hy hb3)
  have hrep : Rep w (fun b o => G.I b o ∨ (b = G.blk g ∧ o < cs.size)) (.ifc T (.cp y)) (.iface T (.pointer (some ⟨G.blk g, 0, none⟩))) := rep_ifc_mk (rep_cp_mk hyc hcell)
  have S2 := S1.put (d := d) (by simpa [Nat.blt_eq] using hN) (x := .imm (.ifc T (.cp y))) (v := .iface T (.pointer (some ⟨G.blk g, 0, none⟩))) (zn.2 hrep)
  obtain ⟨u, hu, hu2⟩ := hT
  have hrun : (execOp a.eval ⟨some d, .makeInterface T x, ty, pos, af, gd⟩).run C.P w = .ok (.value (.iface T (.pointer (some ⟨G.blk g, 0, none⟩)))) w := by
    simp only [execOp, Instr.makeInterface, Sem.run_bind, zN hu, Result.andThen_ok, hev]
    cases u <;> first | rfl | cases hu2
  unfold Oper.wp
  rw [hrun, Oper.upon_value]
  refine ⟨{ G with I := fun b o => G.I b o ∨ (b = G.blk g ∧ o < cs.size) }, ?_⟩
  have e : upd (upd A' [(g, .dead)]) [(d, .imm (.ifc T (.cp y)))] = upd A' [(g, .dead), (d, .imm (.ifc T (.cp y)))] := by
    funext k
    simp only [upd]
    by_cases h1 : d = k
    · subst h1; rw [Nat.beq_refl, zV hgd']; rfl
    · rw [zV h1]; cases Nat.beq g k <;> rfl
  rw [← e]; exact S2
def AV.isIfc : AV → Bool
  | .ifc _ _ => true
  | _ => false
theorem andV {r : Result Value} {v : Value} {w : World} (h : r = .ok v w) : (r.andThen fun v w' => (.ok (.value v) w' : Result Next)) = .ok (.value v) w := by rw [h]; rfl
theorem isIfc_iff {v : AV} (h : AV.isIfc v = true) : ∃ t u, v = .ifc t u := by cases v <;> first | exact ⟨_, _, rfl⟩ | cases h
theorem s_eqNI' {d : Nat} {v : AV} {p : Array (String × TypeId)} (hN : Nat.blt d C.N = true) (hx : opV A x = some v) (hv : AV.isIfc v = true) (hy : opV A y = some (.v .nilIface)) (hT : C.P.underlying T = some (.interface p)) :
    zW C ⟨some d, .binOp .eql T x y T', ty, pos, af, gd⟩ (opR x ++ opR y) [] A [(d, .imm (.v (.bool false)))] := by
  obtain ⟨t, u, rfl⟩ := isIfc_iff hv; exact s_eqNI hN hx hy hT
theorem s_neNI' {d : Nat} {v : AV} {p : Array (String × TypeId)} (hN : Nat.blt d C.N = true) (hx : opV A x = some v) (hv : AV.isIfc v = true) (hy : opV A y = some (.v .nilIface)) (hT : C.P.underlying T = some (.interface p)) :
    zW C ⟨some d, .binOp .neq T x y T', ty, pos, af, gd⟩ (opR x ++ opR y) [] A [(d, .imm (.v (.bool true)))] := by
  obtain ⟨t, u, rfl⟩ := isIfc_iff hv; exact s_neNI hN hx hy hT
theorem s_loadGlob {d g : Nat} {v : Value} (hN : Nat.blt d C.N = true) (hg : glk C.Γ g = some (.v v)) (hp : plain v = true) (hq : ym C.P T = some false) (hn : zs C.P T = some 1) :
    zW C ⟨some d, .load T (.global g), ty, pos, af, gd⟩ [] [] A [(d, .imm (.v v))] := by
  refine zW.value rfl hN fun A' G a w hR S => ?_
  obtain ⟨c, h1, h2⟩ := S.glob _ (glk_mem hg)
  simp only [RepC] at h1
  have e : c = [v] := by rw [h1.1, xa hp]
  subst e
  have hev : a.eval (.global g) = .pointer (some ⟨g, 0, none⟩) := rfl
  refine ⟨v, ?_, zn.2 (yZ _ _ hp)⟩
  simp only [execOp, Instr.loadAt, Instr.sureAddr, hev, Sem.run_bind, Sem.run_pure, Result.andThen_ok]
  rw [wc (cs := [v]) hq (by simpa using hn) (fun _ => rfl) (fun j hj => by
    have : j = 0 := by simpa using hj
    subst this; simpa using (h2 0 (by simp)).1)]
  rfl
end
end Go.Al
namespace Go.Proofs
open Go Go.Al
abbrev Fl := Int × List ByteArray
def errT (Tb Tw : Nat) : List ByteArray → Nat
  | [] => Tb
  | _ :: _ => Tw
def errB (Tb Tw : Nat) (c : Int) : List ByteArray → AV
  | [] => .agg [iv c]
  | p :: ps => .agg [sv p, .ifc (errT Tb Tw ps) (.cp (errB Tb Tw c ps))]
def errOf (Tb Tw : Nat) (c : Int) (l : List ByteArray) : AV := .ifc (errT Tb Tw l) (.cp (errB Tb Tw c l))
def errM (Tb Tw : Nat) (f : Fl) : AV := if f.1 = 0 then .v .nilIface else errOf Tb Tw f.1 f.2
theorem xW (Tb Tw : Nat) (c : Int) (l : List ByteArray) : AV.isIfc (errOf Tb Tw c l) = true := rfl
theorem errB_w (Tb Tw : Nat) (c : Int) (l : List ByteArray) : Nat.blt 0 (errB Tb Tw c l).width = true := by cases l <;> rfl
theorem wm {Tb Tw : Nat} {f : Fl} (h : f.1 ≠ 0) : errM Tb Tw f = errOf Tb Tw f.1 f.2 := if_neg h
theorem xY {Tb Tw : Nat} {f : Fl} (h : f.1 = 0) : errM Tb Tw f = .v .nilIface := if_pos h
def xQ : List ByteArray → Bs
  | [] => []
  | p :: ps => lst p ++ [58, 32] ++ xQ ps
theorem pathB_app : ∀ a b : List ByteArray, xQ (a ++ b) = xQ a ++ xQ b
  | [], b => rfl
  | x :: a, b => by rw [List.cons_append, xQ, xQ, pathB_app a b]; simp only [List.append_assoc]
def textF (f : Fl) : ByteArray := if f.1 = 0 then ⟨#[]⟩ else yC (xQ f.2 ++ decB f.1)
theorem pathB_take {l : List ByteArray} {i : Nat} (h : i < l.length) : xQ (l.take (i + 1)) = xQ (l.take i) ++ (lst (nth l i ⟨#[]⟩) ++ [58, 32]) := by
  rw [yf (wY (d := ⟨#[]⟩) h), pathB_app]; simp [xQ]
theorem ixStr {l : List ByteArray} {i : Nat} (h : i < l.length) : (l.map fun x => sv x)[((i : Nat) : Int).toNat]? = some (sv (nth l i ⟨#[]⟩)) := nth_map (d := (⟨#[]⟩ : ByteArray)) (f := fun x => sv x) h
end Go.Proofs
namespace Go.Proofs
open Go Go.Al
def kSpan : ByteArray := ⟨#[115, 112, 97, 110]⟩
def kScope : ByteArray := ⟨#[115, 99, 111, 112, 101]⟩
def kRes : ByteArray := ⟨#[114, 101, 115, 111, 117, 114, 99, 101]⟩
def partM (k : ByteArray) (i : Nat) : ByteArray := yC (lst k ++ 32 :: decB i)
def wd : Nat → List GSpan → Fl
  | _, [] => (0, [])
  | i, x :: xs => if wL x = 0 then wd (i + 1) xs else (wL x, [partM kSpan i])
def yz (s : GScope) : Fl := if yU s.name ≠ 0 then (yU s.name, []) else if yU s.version ≠ 0 then (yU s.version, []) else wd 0 s.spans
def xd : Nat → List GScope → Fl
  | _, [] => (0, [])
  | i, s :: ss => if (yz s).1 = 0 then xd (i + 1) ss else ((yz s).1, partM kScope i :: (yz s).2)
def resF (r : GRes) : Fl := if yO r.attrs ≠ 0 then (yO r.attrs, []) else if 16 < r.scopes.length then (34, []) else xd 0 r.scopes
def ressF : Nat → List GRes → Fl
  | _, [] => (0, [])
  | i, r :: rs => if (resF r).1 = 0 then ressF (i + 1) rs else ((resF r).1, partM kRes i :: (resF r).2)
def chkF (b : List GRes) : Fl :=
  if 32 < b.length then (34, []) else if (ressF 0 b).1 ≠ 0 then ressF 0 b else if 100 < (plR 0 b).length then (34, []) else if 65536 < batchW b then (36, []) else (0, [])
theorem spansF_iff : ∀ {l : List GSpan} {i : Nat}, (wd i l).1 = 0 ↔ ∀ x ∈ l, wL x = 0
  | [], i => Iff.intro (fun _ x h => by cases h) (fun _ => rfl)
  | x :: l, i => by
    rw [wd]
    constructor
    · intro h
      split at h
      · rename_i hx
        intro y hy
        rcases List.mem_cons.1 hy with rfl | hy
        · exact hx
        · exact spansF_iff.1 h y hy
      · rename_i hx; exact absurd h hx
    · intro h
      rw [if_pos (h x List.mem_cons_self)]
      exact spansF_iff.2 fun y hy => h y (List.mem_cons_of_mem _ hy)
def okSc (s : GScope) : Prop := yU s.name = 0 ∧ yU s.version = 0 ∧ ∀ x ∈ s.spans, wL x = 0
theorem scopeF_iff {s : GScope} : (yz s).1 = 0 ↔ okSc s := by
  unfold yz okSc
  constructor
  · intro h
    split at h
    · rename_i h1; exact absurd h h1
    split at h
    · rename_i h1; exact absurd h h1
    · rename_i h1 h2; exact ⟨by omega, by omega, spansF_iff.1 h⟩
  · rintro ⟨h1, h2, h3⟩
    rw [if_neg (by omega), if_neg (by omega)]; exact spansF_iff.2 h3
theorem scopesF_iff : ∀ {l : List GScope} {i : Nat}, (xd i l).1 = 0 ↔ ∀ x ∈ l, okSc x
  | [], i => Iff.intro (fun _ x h => by cases h) (fun _ => rfl)
  | x :: l, i => by
    rw [xd]
    constructor
    · intro h
      split at h
      · rename_i hx
        intro y hy
        rcases List.mem_cons.1 hy with rfl | hy
        · exact scopeF_iff.1 hx
        · exact scopesF_iff.1 h y hy
      · rename_i hx; exact absurd h hx
    · intro h
      rw [if_pos (scopeF_iff.2 (h x List.mem_cons_self))]
      exact scopesF_iff.2 fun y hy => h y (List.mem_cons_of_mem _ hy)
def okRs (r : GRes) : Prop := yO r.attrs = 0 ∧ r.scopes.length ≤ 16 ∧ ∀ x ∈ r.scopes, okSc x
theorem resF_iff {r : GRes} : (resF r).1 = 0 ↔ okRs r := by
  unfold resF okRs
  constructor
  · intro h
    split at h
    · rename_i h1; exact absurd h h1
    split at h
    · exact absurd h (by decide)
    · rename_i h1 h2; exact ⟨by omega, by omega, scopesF_iff.1 h⟩
  · rintro ⟨h1, h2, h3⟩
    rw [if_neg (by omega), if_neg (by omega)]; exact scopesF_iff.2 h3
theorem ressF_iff : ∀ {l : List GRes} {i : Nat}, (ressF i l).1 = 0 ↔ ∀ x ∈ l, okRs x
  | [], i => Iff.intro (fun _ x h => by cases h) (fun _ => rfl)
  | x :: l, i => by
    rw [ressF]
    constructor
    · intro h
      split at h
      · rename_i hx
        intro y hy
        rcases List.mem_cons.1 hy with rfl | hy
        · exact resF_iff.1 hx
        · exact ressF_iff.1 h y hy
      · rename_i hx; exact absurd h hx
    · intro h
      rw [if_pos (resF_iff.2 (h x List.mem_cons_self))]
      exact ressF_iff.2 fun y hy => h y (List.mem_cons_of_mem _ hy)
def allS (b : List GRes) : List GSpan := b.flatMap fun r => spansOf r.scopes
theorem plR_all : ∀ (i : Nat) (b : List GRes), (plR i b).length = (allS b).length
  | _, [] => rfl
  | i, r :: b => by rw [plR, allS, List.flatMap_cons, List.length_append, List.length_append, plC_len, plR_all (i + 1) b]; rfl
structure GCore where
  trace : Bs
  id : Bs
  parent : Bs
  name : ByteArray
  begun : Int
  lasts : Int
def GCore.av (c : GCore) : AV := .agg [.arr 16 c.trace, .arr 8 c.id, .arr 8 c.parent, sv c.name, iv c.begun, iv c.lasts]
theorem GCore.ext' {a b : GCore} (h1 : a.trace = b.trace) (h2 : a.id = b.id) (h3 : a.parent = b.parent) (h4 : a.name = b.name) (h5 : a.begun = b.begun) (h6 : a.lasts = b.lasts) : a = b := by cases a; cases b; simp_all
instance : DecidableEq GCore := fun a b => decidable_of_iff (a.trace = b.trace ∧ a.id = b.id ∧ a.parent = b.parent ∧ a.name = b.name ∧ a.begun = b.begun ∧ a.lasts = b.lasts) ⟨fun h => GCore.ext' h.1 h.2.1 h.2.2.1 h.2.2.2.1 h.2.2.2.2.1 h.2.2.2.2.2, fun h => by rw [h]; exact ⟨rfl, rfl, rfl, rfl, rfl, rfl⟩⟩
end Go.Proofs
namespace Go.Proofs
open Go Go.Al
instance decMemB (k : ByteArray) (l : List ByteArray) : Decidable (k ∈ l) := decidable_of_iff ((l.any fun x => decide (x = k)) = true) (by
  rw [List.any_eq_true]
  constructor
  · rintro ⟨x, hx, h⟩; exact of_decide_eq_true h ▸ hx
  · exact fun h => ⟨k, h, decide_eq_true rfl⟩)
end Go.Proofs
namespace Go.Proofs
open Go Go.Al
end Go.Proofs
namespace Go.Proofs
open Go Go.Al
theorem part_cat (k : ByteArray) (n : Nat) : (k ++ ⟨#[32]⟩) ++ yC (decB n) = partM k n := by
  unfold partM
  have h1 : yC (lst k) = k := strOf_lst k
  have h2 : (⟨#[32]⟩ : ByteArray) = yC [32] := rfl
  conv => lhs; rw [← h1]
  rw [h2, yy, yy, List.append_assoc]; rfl
theorem part_cat2 (k : ByteArray) (n : Nat) : yC (lst (k ++ ⟨#[32]⟩) ++ decB n) = partM k n := by
  rw [← part_cat, ← yy, strOf_lst]
theorem spansF_drop {l : List GSpan} {i : Nat} (h : i < l.length) : wd i (l.drop i) = if wL (nthS l i) = 0 then wd (i + 1) (l.drop (i + 1)) else (wL (nthS l i), [partM kSpan i]) := by
  rw [x9 (d := gs0) h, wd]; rfl
theorem scopesF_drop {l : List GScope} {i : Nat} (h : i < l.length) : xd i (l.drop i) = if (yz (nthC l i)).1 = 0 then xd (i + 1) (l.drop (i + 1)) else ((yz (nthC l i)).1, partM kScope i :: (yz (nthC l i)).2) := by
  rw [x9 (d := gc0) h, xd]; rfl
theorem ressF_drop {l : List GRes} {i : Nat} (h : i < l.length) : ressF i (l.drop i) = if (resF (nthR l i)).1 = 0 then ressF (i + 1) (l.drop (i + 1)) else ((resF (nthR l i)).1, partM kRes i :: (resF (nthR l i)).2) := by
  rw [x9 (d := gr0) h, ressF]; rfl
section
variable {s : GScope} {ab : List ByteArray} {i : Nat}
theorem scopeF_1 (h : yU s.name ≠ 0) : yz s = (yU s.name, []) := if_pos h
theorem scopeF_2 (h1 : yU s.name = 0) (h : yU s.version ≠ 0) : yz s = (yU s.version, []) := by unfold yz; rw [if_neg (by omega), if_pos h]
theorem scopeF_3 (h1 : yU s.name = 0) (h2 : yU s.version = 0) : yz s = wd 0 s.spans := by unfold yz; rw [if_neg (by omega), if_neg (by omega)]
end
section
variable {r : GRes} {a : ByteArray} {i : Nat}
theorem resF_3 (h1 : yO r.attrs = 0) (h : ¬ 16 < r.scopes.length) : resF r = xd 0 r.scopes := by unfold resF; rw [if_neg (by omega), if_neg h]
end
section
variable {b : List GRes} {i : Nat}
theorem ck1 (h : 32 < b.length) : chkF b = (34, []) := if_pos h
theorem ck3 (h1 : ¬ 32 < b.length) (h : ressF 0 b = (0, [])) (h2 : 100 < (plR 0 b).length) : chkF b = (34, []) := by
  unfold chkF; rw [if_neg h1, h, if_neg (by decide), if_pos h2]
theorem ck4 (h1 : ¬ 32 < b.length) (h : ressF 0 b = (0, [])) (h2 : ¬ 100 < (plR 0 b).length) (h3 : 65536 < batchW b) : chkF b = (36, []) := by
  unfold chkF; rw [if_neg h1, h, if_neg (by decide), if_neg h2, if_pos h3]
theorem ck5 (h1 : ¬ 32 < b.length) (h : ressF 0 b = (0, [])) (h2 : ¬ 100 < (plR 0 b).length) (h3 : ¬ 65536 < batchW b) : chkF b = (0, []) := by
  unfold chkF; rw [if_neg h1, h, if_neg (by decide), if_neg h2, if_neg h3]
end
end Go.Proofs
namespace Go.Proofs
open Go Go.Al
set_option maxRecDepth 10000
end Go.Proofs
namespace Go.Proofs
open Go Go.Al
set_option maxRecDepth 10000
end Go.Proofs
namespace Go.Proofs
open Go Go.Al
end Go.Proofs
namespace Go.Proofs
open Go Go.Al
set_option maxRecDepth 10000
end Go.Proofs
namespace Go.Proofs
open Go Go.Al
set_option maxRecDepth 10000
set_option maxRecDepth 100000
section
open Go.Extern
theorem ex56 (args : Array Value) (w : World) : (callFunc 56 args).run Tryz.prog w = (((fun args => ReflectliteValue.unpack (args.getD 0 (.tuple #[]))) args).run Tryz.prog w).andThen fun v w' => .ok (.value v) w' := @run_callFunc_extern Tryz.prog 56 _ (fun args => ReflectliteValue.unpack (args.getD 0 (.tuple #[]))) Tryz.func56 (by kernel_rfl) (by kernel_rfl) (by kernel_rfl) (by kernel_rfl) args w
theorem ex57 (args : Array Value) (w : World) : (callFunc 57 args).run Tryz.prog w = (((ReflectliteValue.methodAny (ReflectliteValue.valueError "reflectlite.Value.Type" 0) (fun t _ _ _ => ReflectliteType.toType t)) args).run Tryz.prog w).andThen fun v w' => .ok (.value v) w' := @run_callFunc_extern Tryz.prog 57 _ (ReflectliteValue.methodAny (ReflectliteValue.valueError "reflectlite.Value.Type" 0) (fun t _ _ _ => ReflectliteType.toType t)) Tryz.func57 (by kernel_rfl) (by kernel_rfl) (by kernel_rfl) (by kernel_rfl) args w
theorem ex58 (args : Array Value) (w : World) : (callFunc 58 args).run Tryz.prog w = (((ReflectliteValue.method (ReflectliteValue.valueError "reflectlite.Value.IsNil" 0) ReflectliteValue.isNil) args).run Tryz.prog w).andThen fun v w' => .ok (.value v) w' := @run_callFunc_extern Tryz.prog 58 _ (ReflectliteValue.method (ReflectliteValue.valueError "reflectlite.Value.IsNil" 0) ReflectliteValue.isNil) Tryz.func58 (by kernel_rfl) (by kernel_rfl) (by kernel_rfl) (by kernel_rfl) args w
theorem ex94 (args : Array Value) (w : World) : (callFunc 94 args).run Tryz.prog w = (((ReflectliteValue.method (ReflectliteValue.valueError "reflectlite.Value.Elem" 0) ReflectliteValue.elem) args).run Tryz.prog w).andThen fun v w' => .ok (.value v) w' := @run_callFunc_extern Tryz.prog 94 _ (ReflectliteValue.method (ReflectliteValue.valueError "reflectlite.Value.Elem" 0) ReflectliteValue.elem) Tryz.func94 (by kernel_rfl) (by kernel_rfl) (by kernel_rfl) (by kernel_rfl) args w
theorem ex95 (args : Array Value) (w : World) : (callFunc 95 args).run Tryz.prog w = (((ReflectliteValue.set) args).run Tryz.prog w).andThen fun v w' => .ok (.value v) w' := @run_callFunc_extern Tryz.prog 95 _ (ReflectliteValue.set) Tryz.func95 (by kernel_rfl) (by kernel_rfl) (by kernel_rfl) (by kernel_rfl) args w
theorem ex63 (args : Array Value) (w : World) : (callFunc 63 args).run Tryz.prog w = (((ReflectliteType.typeOf) args).run Tryz.prog w).andThen fun v w' => .ok (.value v) w' := @run_callFunc_extern Tryz.prog 63 _ (ReflectliteType.typeOf) Tryz.func63 (by kernel_rfl) (by kernel_rfl) (by kernel_rfl) (by kernel_rfl) args w
theorem ex241 (args : Array Value) (w : World) : (callFunc 241 args).run Tryz.prog w = (((ReflectliteType.abiMethod fun t => do pure (.int .u8 (← Rtype.kind t))) args).run Tryz.prog w).andThen fun v w' => .ok (.value v) w' := @run_callFunc_extern Tryz.prog 241 _ (ReflectliteType.abiMethod fun t => do pure (.int .u8 (← Rtype.kind t))) Tryz.func241 (by kernel_rfl) (by kernel_rfl) (by kernel_rfl) (by kernel_rfl) args w
theorem ex254 (args : Array Value) (w : World) : (callFunc 254 args).run Tryz.prog w = (((ReflectliteType.method ReflectliteType.elem) args).run Tryz.prog w).andThen fun v w' => .ok (.value v) w' := @run_callFunc_extern Tryz.prog 254 _ (ReflectliteType.method ReflectliteType.elem) Tryz.func254 (by kernel_rfl) (by kernel_rfl) (by kernel_rfl) (by kernel_rfl) args w
theorem ex255 (args : Array Value) (w : World) : (callFunc 255 args).run Tryz.prog w = (((ReflectliteType.relation "Implements" ReflectliteType.implements_) args).run Tryz.prog w).andThen fun v w' => .ok (.value v) w' := @run_callFunc_extern Tryz.prog 255 _ (ReflectliteType.relation "Implements" ReflectliteType.implements_) Tryz.func255 (by kernel_rfl) (by kernel_rfl) (by kernel_rfl) (by kernel_rfl) args w
theorem ex252 (args : Array Value) (w : World) : (callFunc 252 args).run Tryz.prog w = (((ReflectliteType.relation "AssignableTo" ReflectliteType.assignableTo) args).run Tryz.prog w).andThen fun v w' => .ok (.value v) w' := @run_callFunc_extern Tryz.prog 252 _ (ReflectliteType.relation "AssignableTo" ReflectliteType.assignableTo) Tryz.func252 (by kernel_rfl) (by kernel_rfl) (by kernel_rfl) (by kernel_rfl) args w
theorem ex253 (args : Array Value) (w : World) : (callFunc 253 args).run Tryz.prog w = (((ReflectliteType.method fun t => do Rtype.noPackHeld "Comparable" t; pure (.bool (← typeInfo t).comparable)) args).run Tryz.prog w).andThen fun v w' => .ok (.value v) w' := @run_callFunc_extern Tryz.prog 253 _ (ReflectliteType.method fun t => do Rtype.noPackHeld "Comparable" t; pure (.bool (← typeInfo t).comparable)) Tryz.func253 (by kernel_rfl) (by kernel_rfl) (by kernel_rfl) (by kernel_rfl) args w
theorem fV81 (a : Addr) (w : World) : (callFunc 56 #[.iface 81 (.pointer (some a))]).run Tryz.prog w = .ok (.value (.agg #[(.pointer (some ⟨3, 81, none⟩)), .pointer (some ⟨w.heap.size, 0, none⟩), .int .u64 150])) (w.alloc (.cells #[.pointer (some a)] 81)) := by
  have h : (ReflectliteValue.unpack (.iface 81 (.pointer (some a)))).run Tryz.prog w = .ok (.agg #[(.pointer (some ⟨3, 81, none⟩)), .pointer (some ⟨w.heap.size, 0, none⟩), .int .u64 150]) (w.alloc (.cells #[.pointer (some a)] 81)) := by kernel_rfl
  rw [ex56]; exact andV h
theorem fV130 (a : Addr) (w : World) : (callFunc 56 #[.iface 130 (.pointer (some a))]).run Tryz.prog w = .ok (.value (.agg #[(.pointer (some ⟨3, 130, none⟩)), .pointer (some ⟨w.heap.size, 0, none⟩), .int .u64 150])) (w.alloc (.cells #[.pointer (some a)] 130)) := by
  have h : (ReflectliteValue.unpack (.iface 130 (.pointer (some a)))).run Tryz.prog w = .ok (.agg #[(.pointer (some ⟨3, 130, none⟩)), .pointer (some ⟨w.heap.size, 0, none⟩), .int .u64 150]) (w.alloc (.cells #[.pointer (some a)] 130)) := by kernel_rfl
  rw [ex56]; exact andV h
theorem fV79 (a : Addr) (w : World) : (callFunc 56 #[.iface 79 (.pointer (some a))]).run Tryz.prog w = .ok (.value (.agg #[(.pointer (some ⟨3, 79, none⟩)), .pointer (some ⟨w.heap.size, 0, none⟩), .int .u64 150])) (w.alloc (.cells #[.pointer (some a)] 79)) := by
  have h : (ReflectliteValue.unpack (.iface 79 (.pointer (some a)))).run Tryz.prog w = .ok (.agg #[(.pointer (some ⟨3, 79, none⟩)), .pointer (some ⟨w.heap.size, 0, none⟩), .int .u64 150]) (w.alloc (.cells #[.pointer (some a)] 79)) := by kernel_rfl
  rw [ex56]; exact andV h
theorem fV110 (a : Addr) (w : World) : (callFunc 56 #[.iface 110 (.pointer (some a))]).run Tryz.prog w = .ok (.value (.agg #[(.pointer (some ⟨3, 110, none⟩)), .pointer (some ⟨w.heap.size, 0, none⟩), .int .u64 150])) (w.alloc (.cells #[.pointer (some a)] 110)) := by
  have h : (ReflectliteValue.unpack (.iface 110 (.pointer (some a)))).run Tryz.prog w = .ok (.agg #[(.pointer (some ⟨3, 110, none⟩)), .pointer (some ⟨w.heap.size, 0, none⟩), .int .u64 150]) (w.alloc (.cells #[.pointer (some a)] 110)) := by kernel_rfl
  rw [ex56]; exact andV h
theorem rlm (z : Sem Value) (f : TypeId → Addr → Nat → Nat → Sem Value) (v : Value) : ReflectliteValue.method z f #[v] = (do match ← ReflectliteValue.parts v with | none => z | some (t, a, fl) => f t a fl (fl % 32)) := rfl
theorem rls (v x : Value) : ReflectliteValue.set #[v, x] = (do
    let (some (dst, a, fl), some (src, b, _)) := (← ReflectliteValue.parts v, ← ReflectliteValue.parts x)
      | unsupported (.noEntry "extern/(internal/reflectlite.Value).Set.zeroValue")
    if fl / ReflectliteValue.flagAddr % 2 == 0 then unsupported (.noEntry "extern/(internal/reflectlite.Value).Set.unaddressable")
    let val ← loadVar src b
    if ← Rtype.directlyAssignable dst src then storeVar dst a val
    else if ← Rtype.implements dst src then
      if (← Rtype.kind src) == 20 then
        match val with
        | .nilIface => unsupported (.noEntry "extern/reflectlite: a nil value of one interface type handed on as a value of another")
        | _ => storeVar dst a val
      else storeVar dst a (.iface src val)
    else panicString ("reflectlite.Set: value of type " ++ (← Rtype.spelt src) ++ " is not assignable to type " ++ (← Rtype.spelt dst))
    pure (.tuple #[])) := rfl
theorem fT81 (a : Addr) (w : World) : (callFunc 57 #[(.agg #[(.pointer (some ⟨3, 81, none⟩)), .pointer (some a), .int .u64 150])]).run Tryz.prog w = .ok (.value (.iface 159 (.agg #[(.pointer (some ⟨3, 81, none⟩))]))) w := by
  have h : (ReflectliteValue.methodAny (ReflectliteValue.valueError "reflectlite.Value.Type" 0) (fun t _ _ _ => ReflectliteType.toType t) #[(.agg #[(.pointer (some ⟨3, 81, none⟩)), .pointer (some a), .int .u64 150])]).run Tryz.prog w = .ok (.iface 159 (.agg #[(.pointer (some ⟨3, 81, none⟩))])) w := by kernel_rfl
  rw [ex57]; exact andV h
theorem pa81 (a : Addr) (w : World) : (ReflectliteValue.parts (.agg #[(.pointer (some ⟨3, 81, none⟩)), .pointer (some a), .int .u64 150])).run Tryz.prog w = .ok (some (81, a, 150)) w := by kernel_rfl
theorem fN81 (a p : Addr) (w : World) (ha : w.cell? a = some (.pointer (some p))) : (callFunc 58 #[(.agg #[(.pointer (some ⟨3, 81, none⟩)), .pointer (some a), .int .u64 150])]).run Tryz.prog w = .ok (.value (.bool false)) w := by
  have h : (ReflectliteValue.method (ReflectliteValue.valueError "reflectlite.Value.IsNil" 0) ReflectliteValue.isNil #[(.agg #[(.pointer (some ⟨3, 81, none⟩)), .pointer (some a), .int .u64 150])]).run Tryz.prog w = .ok (.bool false) w := by
    rw [rlm]
    simp only [Sem.run_bind, pa81, Result.andThen]
    simp [ReflectliteValue.isNil, loadVar, isAgg, underlying, Tryz.underlying81, ha, Result.andThen]
  rw [ex58]; exact andV h
theorem eo81 (w : World) : (Rtype.elem? 81).run Tryz.prog w = .ok (some 79) w := by kernel_rfl
theorem mk79 (p : Addr) (w : World) : (ReflectliteValue.mk 79 p ReflectliteValue.flagAddr).run Tryz.prog w = .ok (.agg #[(.pointer (some ⟨3, 79, none⟩)), .pointer (some p), .int .u64 406]) w := by kernel_rfl
theorem fE81 (a p : Addr) (w : World) (ha : w.cell? a = some (.pointer (some p))) : (callFunc 94 #[(.agg #[(.pointer (some ⟨3, 81, none⟩)), .pointer (some a), .int .u64 150])]).run Tryz.prog w = .ok (.value (.agg #[(.pointer (some ⟨3, 79, none⟩)), .pointer (some p), .int .u64 406])) w := by
  have h : (ReflectliteValue.method (ReflectliteValue.valueError "reflectlite.Value.Elem" 0) ReflectliteValue.elem #[(.agg #[(.pointer (some ⟨3, 81, none⟩)), .pointer (some a), .int .u64 150])]).run Tryz.prog w = .ok (.agg #[(.pointer (some ⟨3, 79, none⟩)), .pointer (some p), .int .u64 406]) w := by
    rw [rlm]
    simp only [Sem.run_bind, pa81, Result.andThen]
    simp [ReflectliteValue.elem, loadVar, isAgg, underlying, Tryz.underlying81, ha, Result.andThen, eo81, mk79]
  rw [ex94]; exact andV h
theorem pb79 (a : Addr) (w : World) : (ReflectliteValue.parts (.agg #[(.pointer (some ⟨3, 79, none⟩)), .pointer (some a), .int .u64 406])).run Tryz.prog w = .ok (some (79, a, 406)) w := by kernel_rfl
theorem pc79 (a : Addr) (w : World) : (ReflectliteValue.parts (.agg #[(.pointer (some ⟨3, 79, none⟩)), .pointer (some a), .int .u64 150])).run Tryz.prog w = .ok (some (79, a, 150)) w := by kernel_rfl
theorem da79 (w : World) : (Rtype.directlyAssignable 79 79).run Tryz.prog w = .ok true w := by kernel_rfl
theorem fS79 (a b p : Addr) (w w' : World) (hb : w.cell? b = some (.pointer (some p))) (hs : (storeVar 79 a (.pointer (some p))).run Tryz.prog w = .ok () w') : (callFunc 95 #[(.agg #[(.pointer (some ⟨3, 79, none⟩)), .pointer (some a), .int .u64 406]), (.agg #[(.pointer (some ⟨3, 79, none⟩)), .pointer (some b), .int .u64 150])]).run Tryz.prog w = .ok (.value (.tuple #[])) w' := by
  have h : (ReflectliteValue.set #[(.agg #[(.pointer (some ⟨3, 79, none⟩)), .pointer (some a), .int .u64 406]), (.agg #[(.pointer (some ⟨3, 79, none⟩)), .pointer (some b), .int .u64 150])]).run Tryz.prog w = .ok (.tuple #[]) w' := by
    rw [rls]
    simp only [Sem.run_bind, pb79, pc79, Result.andThen]
    simp [ReflectliteValue.flagAddr, loadVar, isAgg, underlying, Tryz.underlying79, hb, Result.andThen, da79, hs]
  rw [ex95]; exact andV h
theorem fT130 (a : Addr) (w : World) : (callFunc 57 #[(.agg #[(.pointer (some ⟨3, 130, none⟩)), .pointer (some a), .int .u64 150])]).run Tryz.prog w = .ok (.value (.iface 159 (.agg #[(.pointer (some ⟨3, 130, none⟩))]))) w := by
  have h : (ReflectliteValue.methodAny (ReflectliteValue.valueError "reflectlite.Value.Type" 0) (fun t _ _ _ => ReflectliteType.toType t) #[(.agg #[(.pointer (some ⟨3, 130, none⟩)), .pointer (some a), .int .u64 150])]).run Tryz.prog w = .ok (.iface 159 (.agg #[(.pointer (some ⟨3, 130, none⟩))])) w := by kernel_rfl
  rw [ex57]; exact andV h
theorem pa130 (a : Addr) (w : World) : (ReflectliteValue.parts (.agg #[(.pointer (some ⟨3, 130, none⟩)), .pointer (some a), .int .u64 150])).run Tryz.prog w = .ok (some (130, a, 150)) w := by kernel_rfl
theorem fN130 (a p : Addr) (w : World) (ha : w.cell? a = some (.pointer (some p))) : (callFunc 58 #[(.agg #[(.pointer (some ⟨3, 130, none⟩)), .pointer (some a), .int .u64 150])]).run Tryz.prog w = .ok (.value (.bool false)) w := by
  have h : (ReflectliteValue.method (ReflectliteValue.valueError "reflectlite.Value.IsNil" 0) ReflectliteValue.isNil #[(.agg #[(.pointer (some ⟨3, 130, none⟩)), .pointer (some a), .int .u64 150])]).run Tryz.prog w = .ok (.bool false) w := by
    rw [rlm]
    simp only [Sem.run_bind, pa130, Result.andThen]
    simp [ReflectliteValue.isNil, loadVar, isAgg, underlying, Tryz.underlying130, ha, Result.andThen]
  rw [ex58]; exact andV h
theorem eo130 (w : World) : (Rtype.elem? 130).run Tryz.prog w = .ok (some 110) w := by kernel_rfl
theorem mk110 (p : Addr) (w : World) : (ReflectliteValue.mk 110 p ReflectliteValue.flagAddr).run Tryz.prog w = .ok (.agg #[(.pointer (some ⟨3, 110, none⟩)), .pointer (some p), .int .u64 406]) w := by kernel_rfl
theorem fE130 (a p : Addr) (w : World) (ha : w.cell? a = some (.pointer (some p))) : (callFunc 94 #[(.agg #[(.pointer (some ⟨3, 130, none⟩)), .pointer (some a), .int .u64 150])]).run Tryz.prog w = .ok (.value (.agg #[(.pointer (some ⟨3, 110, none⟩)), .pointer (some p), .int .u64 406])) w := by
  have h : (ReflectliteValue.method (ReflectliteValue.valueError "reflectlite.Value.Elem" 0) ReflectliteValue.elem #[(.agg #[(.pointer (some ⟨3, 130, none⟩)), .pointer (some a), .int .u64 150])]).run Tryz.prog w = .ok (.agg #[(.pointer (some ⟨3, 110, none⟩)), .pointer (some p), .int .u64 406]) w := by
    rw [rlm]
    simp only [Sem.run_bind, pa130, Result.andThen]
    simp [ReflectliteValue.elem, loadVar, isAgg, underlying, Tryz.underlying130, ha, Result.andThen, eo130, mk110]
  rw [ex94]; exact andV h
theorem pb110 (a : Addr) (w : World) : (ReflectliteValue.parts (.agg #[(.pointer (some ⟨3, 110, none⟩)), .pointer (some a), .int .u64 406])).run Tryz.prog w = .ok (some (110, a, 406)) w := by kernel_rfl
theorem pc110 (a : Addr) (w : World) : (ReflectliteValue.parts (.agg #[(.pointer (some ⟨3, 110, none⟩)), .pointer (some a), .int .u64 150])).run Tryz.prog w = .ok (some (110, a, 150)) w := by kernel_rfl
theorem da110 (w : World) : (Rtype.directlyAssignable 110 110).run Tryz.prog w = .ok true w := by kernel_rfl
theorem fS110 (a b p : Addr) (w w' : World) (hb : w.cell? b = some (.pointer (some p))) (hs : (storeVar 110 a (.pointer (some p))).run Tryz.prog w = .ok () w') : (callFunc 95 #[(.agg #[(.pointer (some ⟨3, 110, none⟩)), .pointer (some a), .int .u64 406]), (.agg #[(.pointer (some ⟨3, 110, none⟩)), .pointer (some b), .int .u64 150])]).run Tryz.prog w = .ok (.value (.tuple #[])) w' := by
  have h : (ReflectliteValue.set #[(.agg #[(.pointer (some ⟨3, 110, none⟩)), .pointer (some a), .int .u64 406]), (.agg #[(.pointer (some ⟨3, 110, none⟩)), .pointer (some b), .int .u64 150])]).run Tryz.prog w = .ok (.tuple #[]) w' := by
    rw [rls]
    simp only [Sem.run_bind, pb110, pc110, Result.andThen]
    simp [ReflectliteValue.flagAddr, loadVar, isAgg, underlying, Tryz.underlying110, hb, Result.andThen, da110, hs]
  rw [ex95]; exact andV h
theorem fK81 (w : World) : (callMethod (.iface 159 (.agg #[(.pointer (some ⟨3, 81, none⟩))])) "Kind" #[]).run Tryz.prog w = .ok (.value (.int .u8 22)) w := by
  have hm : (method (Tryz.prog.types.size + Made.depth) 159 (.agg #[(.pointer (some ⟨3, 81, none⟩))]) "Kind").run Tryz.prog w = .ok (241, (.pointer (some ⟨3, 81, none⟩))) w := by kernel_rfl
  rw [z0 hm, ex241]
  have h : ((ReflectliteType.abiMethod fun t => do pure (.int .u8 (← Rtype.kind t))) #[(.pointer (some ⟨3, 81, none⟩))]).run Tryz.prog w = .ok (.int .u8 22) w := by kernel_rfl
  exact andV h
theorem fK79 (w : World) : (callMethod (.iface 159 (.agg #[(.pointer (some ⟨3, 79, none⟩))])) "Kind" #[]).run Tryz.prog w = .ok (.value (.int .u8 22)) w := by
  have hm : (method (Tryz.prog.types.size + Made.depth) 159 (.agg #[(.pointer (some ⟨3, 79, none⟩))]) "Kind").run Tryz.prog w = .ok (241, (.pointer (some ⟨3, 79, none⟩))) w := by kernel_rfl
  rw [z0 hm, ex241]
  have h : ((ReflectliteType.abiMethod fun t => do pure (.int .u8 (← Rtype.kind t))) #[(.pointer (some ⟨3, 79, none⟩))]).run Tryz.prog w = .ok (.int .u8 22) w := by kernel_rfl
  exact andV h
theorem fK130 (w : World) : (callMethod (.iface 159 (.agg #[(.pointer (some ⟨3, 130, none⟩))])) "Kind" #[]).run Tryz.prog w = .ok (.value (.int .u8 22)) w := by
  have hm : (method (Tryz.prog.types.size + Made.depth) 159 (.agg #[(.pointer (some ⟨3, 130, none⟩))]) "Kind").run Tryz.prog w = .ok (241, (.pointer (some ⟨3, 130, none⟩))) w := by kernel_rfl
  rw [z0 hm, ex241]
  have h : ((ReflectliteType.abiMethod fun t => do pure (.int .u8 (← Rtype.kind t))) #[(.pointer (some ⟨3, 130, none⟩))]).run Tryz.prog w = .ok (.int .u8 22) w := by kernel_rfl
  exact andV h
theorem fK110 (w : World) : (callMethod (.iface 159 (.agg #[(.pointer (some ⟨3, 110, none⟩))])) "Kind" #[]).run Tryz.prog w = .ok (.value (.int .u8 22)) w := by
  have hm : (method (Tryz.prog.types.size + Made.depth) 159 (.agg #[(.pointer (some ⟨3, 110, none⟩))]) "Kind").run Tryz.prog w = .ok (241, (.pointer (some ⟨3, 110, none⟩))) w := by kernel_rfl
  rw [z0 hm, ex241]
  have h : ((ReflectliteType.abiMethod fun t => do pure (.int .u8 (← Rtype.kind t))) #[(.pointer (some ⟨3, 110, none⟩))]).run Tryz.prog w = .ok (.int .u8 22) w := by kernel_rfl
  exact andV h
theorem fL81 (w : World) : (callMethod (.iface 159 (.agg #[(.pointer (some ⟨3, 81, none⟩))])) "Elem" #[]).run Tryz.prog w = .ok (.value (.iface 159 (.agg #[(.pointer (some ⟨3, 79, none⟩))]))) w := by
  have hm : (method (Tryz.prog.types.size + Made.depth) 159 (.agg #[(.pointer (some ⟨3, 81, none⟩))]) "Elem").run Tryz.prog w = .ok (254, (.agg #[(.pointer (some ⟨3, 81, none⟩))])) w := by kernel_rfl
  rw [z0 hm, ex254]
  have h : ((ReflectliteType.method ReflectliteType.elem) #[(.agg #[(.pointer (some ⟨3, 81, none⟩))])]).run Tryz.prog w = .ok (.iface 159 (.agg #[(.pointer (some ⟨3, 79, none⟩))])) w := by kernel_rfl
  exact andV h
theorem fI79 (w : World) : (callMethod (.iface 159 (.agg #[(.pointer (some ⟨3, 79, none⟩))])) "Implements" #[(.iface 159 (.agg #[(.pointer (some ⟨3, 28, none⟩))]))]).run Tryz.prog w = .ok (.value (.bool true)) w := by
  have hm : (method (Tryz.prog.types.size + Made.depth) 159 (.agg #[(.pointer (some ⟨3, 79, none⟩))]) "Implements").run Tryz.prog w = .ok (255, (.agg #[(.pointer (some ⟨3, 79, none⟩))])) w := by kernel_rfl
  rw [z0 hm, ex255]
  have h : ((ReflectliteType.relation "Implements" ReflectliteType.implements_) #[(.agg #[(.pointer (some ⟨3, 79, none⟩))]), (.iface 159 (.agg #[(.pointer (some ⟨3, 28, none⟩))]))]).run Tryz.prog w = .ok (.bool true) w := by kernel_rfl
  exact andV h
theorem fO79 (v : Value) (w : World) : (callFunc 63 #[.iface 79 v]).run Tryz.prog w = .ok (.value (.iface 159 (.agg #[(.pointer (some ⟨3, 79, none⟩))]))) w := by
  have h : (ReflectliteType.typeOf #[.iface 79 v]).run Tryz.prog w = .ok (.iface 159 (.agg #[(.pointer (some ⟨3, 79, none⟩))])) w := by kernel_rfl
  rw [ex63]; exact andV h
theorem fA79_79 (w : World) : (callMethod (.iface 159 (.agg #[(.pointer (some ⟨3, 79, none⟩))])) "AssignableTo" #[(.iface 159 (.agg #[(.pointer (some ⟨3, 79, none⟩))]))]).run Tryz.prog w = .ok (.value (.bool true)) w := by
  have hm : (method (Tryz.prog.types.size + Made.depth) 159 (.agg #[(.pointer (some ⟨3, 79, none⟩))]) "AssignableTo").run Tryz.prog w = .ok (252, (.agg #[(.pointer (some ⟨3, 79, none⟩))])) w := by kernel_rfl
  rw [z0 hm, ex252]
  have h : ((ReflectliteType.relation "AssignableTo" ReflectliteType.assignableTo) #[(.agg #[(.pointer (some ⟨3, 79, none⟩))]), (.iface 159 (.agg #[(.pointer (some ⟨3, 79, none⟩))]))]).run Tryz.prog w = .ok (.bool true) w := by kernel_rfl
  exact andV h
theorem fA79_110 (w : World) : (callMethod (.iface 159 (.agg #[(.pointer (some ⟨3, 79, none⟩))])) "AssignableTo" #[(.iface 159 (.agg #[(.pointer (some ⟨3, 110, none⟩))]))]).run Tryz.prog w = .ok (.value (.bool false)) w := by
  have hm : (method (Tryz.prog.types.size + Made.depth) 159 (.agg #[(.pointer (some ⟨3, 79, none⟩))]) "AssignableTo").run Tryz.prog w = .ok (252, (.agg #[(.pointer (some ⟨3, 79, none⟩))])) w := by kernel_rfl
  rw [z0 hm, ex252]
  have h : ((ReflectliteType.relation "AssignableTo" ReflectliteType.assignableTo) #[(.agg #[(.pointer (some ⟨3, 79, none⟩))]), (.iface 159 (.agg #[(.pointer (some ⟨3, 110, none⟩))]))]).run Tryz.prog w = .ok (.bool false) w := by kernel_rfl
  exact andV h
theorem fL130 (w : World) : (callMethod (.iface 159 (.agg #[(.pointer (some ⟨3, 130, none⟩))])) "Elem" #[]).run Tryz.prog w = .ok (.value (.iface 159 (.agg #[(.pointer (some ⟨3, 110, none⟩))]))) w := by
  have hm : (method (Tryz.prog.types.size + Made.depth) 159 (.agg #[(.pointer (some ⟨3, 130, none⟩))]) "Elem").run Tryz.prog w = .ok (254, (.agg #[(.pointer (some ⟨3, 130, none⟩))])) w := by kernel_rfl
  rw [z0 hm, ex254]
  have h : ((ReflectliteType.method ReflectliteType.elem) #[(.agg #[(.pointer (some ⟨3, 130, none⟩))])]).run Tryz.prog w = .ok (.iface 159 (.agg #[(.pointer (some ⟨3, 110, none⟩))])) w := by kernel_rfl
  exact andV h
theorem fI110 (w : World) : (callMethod (.iface 159 (.agg #[(.pointer (some ⟨3, 110, none⟩))])) "Implements" #[(.iface 159 (.agg #[(.pointer (some ⟨3, 28, none⟩))]))]).run Tryz.prog w = .ok (.value (.bool true)) w := by
  have hm : (method (Tryz.prog.types.size + Made.depth) 159 (.agg #[(.pointer (some ⟨3, 110, none⟩))]) "Implements").run Tryz.prog w = .ok (255, (.agg #[(.pointer (some ⟨3, 110, none⟩))])) w := by kernel_rfl
  rw [z0 hm, ex255]
  have h : ((ReflectliteType.relation "Implements" ReflectliteType.implements_) #[(.agg #[(.pointer (some ⟨3, 110, none⟩))]), (.iface 159 (.agg #[(.pointer (some ⟨3, 28, none⟩))]))]).run Tryz.prog w = .ok (.bool true) w := by kernel_rfl
  exact andV h
theorem fO110 (v : Value) (w : World) : (callFunc 63 #[.iface 110 v]).run Tryz.prog w = .ok (.value (.iface 159 (.agg #[(.pointer (some ⟨3, 110, none⟩))]))) w := by
  have h : (ReflectliteType.typeOf #[.iface 110 v]).run Tryz.prog w = .ok (.iface 159 (.agg #[(.pointer (some ⟨3, 110, none⟩))])) w := by kernel_rfl
  rw [ex63]; exact andV h
theorem fA110_79 (w : World) : (callMethod (.iface 159 (.agg #[(.pointer (some ⟨3, 110, none⟩))])) "AssignableTo" #[(.iface 159 (.agg #[(.pointer (some ⟨3, 79, none⟩))]))]).run Tryz.prog w = .ok (.value (.bool false)) w := by
  have hm : (method (Tryz.prog.types.size + Made.depth) 159 (.agg #[(.pointer (some ⟨3, 110, none⟩))]) "AssignableTo").run Tryz.prog w = .ok (252, (.agg #[(.pointer (some ⟨3, 110, none⟩))])) w := by kernel_rfl
  rw [z0 hm, ex252]
  have h : ((ReflectliteType.relation "AssignableTo" ReflectliteType.assignableTo) #[(.agg #[(.pointer (some ⟨3, 110, none⟩))]), (.iface 159 (.agg #[(.pointer (some ⟨3, 79, none⟩))]))]).run Tryz.prog w = .ok (.bool false) w := by kernel_rfl
  exact andV h
theorem fA110_110 (w : World) : (callMethod (.iface 159 (.agg #[(.pointer (some ⟨3, 110, none⟩))])) "AssignableTo" #[(.iface 159 (.agg #[(.pointer (some ⟨3, 110, none⟩))]))]).run Tryz.prog w = .ok (.value (.bool true)) w := by
  have hm : (method (Tryz.prog.types.size + Made.depth) 159 (.agg #[(.pointer (some ⟨3, 110, none⟩))]) "AssignableTo").run Tryz.prog w = .ok (252, (.agg #[(.pointer (some ⟨3, 110, none⟩))])) w := by kernel_rfl
  rw [z0 hm, ex252]
  have h : ((ReflectliteType.relation "AssignableTo" ReflectliteType.assignableTo) #[(.agg #[(.pointer (some ⟨3, 110, none⟩))]), (.iface 159 (.agg #[(.pointer (some ⟨3, 110, none⟩))]))]).run Tryz.prog w = .ok (.bool true) w := by kernel_rfl
  exact andV h
theorem fC79 (w : World) : (callMethod (.iface 159 (.agg #[(.pointer (some ⟨3, 79, none⟩))])) "Comparable" #[]).run Tryz.prog w = .ok (.value (.bool true)) w := by
  have hm : (method (Tryz.prog.types.size + Made.depth) 159 (.agg #[(.pointer (some ⟨3, 79, none⟩))]) "Comparable").run Tryz.prog w = .ok (253, (.agg #[(.pointer (some ⟨3, 79, none⟩))])) w := by kernel_rfl
  rw [z0 hm, ex253]
  have h : ((ReflectliteType.method fun t => do Rtype.noPackHeld "Comparable" t; pure (.bool (← typeInfo t).comparable)) #[(.agg #[(.pointer (some ⟨3, 79, none⟩))])]).run Tryz.prog w = .ok (.bool true) w := by kernel_rfl
  exact andV h
theorem hs79_163 (u : Value) (w : World) : (Instr.typeAssert (.iface 79 u) 28 163 true).run Tryz.prog w = .ok (.tuple #[.nilIface, .bool false]) w := run_typeAssert_lacksB Tryz.underlying163 (by kernel_rfl) (by kernel_rfl) u 28 w
theorem hs79_166 (u : Value) (w : World) : (Instr.typeAssert (.iface 79 u) 28 166 true).run Tryz.prog w = .ok (.tuple #[.nilIface, .bool false]) w := run_typeAssert_lacksB Tryz.underlying166 (by kernel_rfl) (by kernel_rfl) u 28 w
theorem hs79_168 (u : Value) (w : World) : (Instr.typeAssert (.iface 79 u) 28 168 true).run Tryz.prog w = .ok (.tuple #[.nilIface, .bool false]) w := run_typeAssert_lacksB Tryz.underlying168 (by kernel_rfl) (by kernel_rfl) u 28 w
theorem hs79_172 (u : Value) (w : World) : (Instr.typeAssert (.iface 79 u) 28 172 true).run Tryz.prog w = .ok (.tuple #[.iface 79 u, .bool true]) w := run_typeAssert_hasB Tryz.underlying172 (by kernel_rfl) u 28 w
theorem hs110_163 (u : Value) (w : World) : (Instr.typeAssert (.iface 110 u) 28 163 true).run Tryz.prog w = .ok (.tuple #[.nilIface, .bool false]) w := run_typeAssert_lacksB Tryz.underlying163 (by kernel_rfl) (by kernel_rfl) u 28 w
theorem hs110_166 (u : Value) (w : World) : (Instr.typeAssert (.iface 110 u) 28 166 true).run Tryz.prog w = .ok (.tuple #[.iface 110 u, .bool true]) w := run_typeAssert_hasB Tryz.underlying166 (by kernel_rfl) u 28 w
theorem hs110_172 (u : Value) (w : World) : (Instr.typeAssert (.iface 110 u) 28 172 true).run Tryz.prog w = .ok (.tuple #[.nilIface, .bool false]) w := run_typeAssert_lacksB Tryz.underlying172 (by kernel_rfl) (by kernel_rfl) u 28 w
theorem mu110 (w : World) (v : Value) : (method (Tryz.prog.types.size + Made.depth) 110 v "Unwrap").run Tryz.prog w = .ok (247, v) w := by kernel_rfl
theorem mi79 (w : World) (v : Value) : (method (Tryz.prog.types.size + Made.depth) 79 v "Is").run Tryz.prog w = .ok (245, v) w := by kernel_rfl
theorem pi79 : ∃ i j, Tryz.prog.info? 79 = some i ∧ i.comparable = true ∧ Tryz.prog.info? 83 = some j ∧ j.size ≠ 0 := by
  have h : ((Tryz.prog.info? 79).map (·.comparable)) = some true := by kernel_rfl
  have k : ((Tryz.prog.info? 83).map (fun j => Nat.beq j.size 0)) = some false := by kernel_rfl
  obtain ⟨i, hi, h2⟩ := Option.map_eq_some_iff.1 h
  obtain ⟨j, hj, k2⟩ := Option.map_eq_some_iff.1 k
  exact ⟨i, j, hi, h2, hj, fun e => by rw [e] at k2; cases k2⟩
end
end Go.Proofs
namespace Go.Al
open Go.RowKit
section
variable {C : Cx} {A : Nat → SV} {d : Nat} {ty : TypeId} {pos : String} {af : Array Edge} {gd : Option (Nat × Bool)} {x y : Operand} {T T' : TypeId}
theorem s_extP {f g off : Nat} {r : Value} {ats : Array TypeId} (hN : Nat.blt d C.N = true) (hx : opS A x = .ifp T g off) (pr : plain r = true) (hf : ∀ v w, (callFunc f #[.iface T v]).run C.P w = .ok (.value r) w) :
    zW C ⟨some d, .call { callee := .value (.func f), args := #[x], argTypes := ats }, ty, pos, af, gd⟩ (opR x) [] A [(d, .imm (.v r))] := by
  refine zW.value rfl hN fun A' G a w hR S => ?_
  have hev := S.ifp ((zw hR).trans hx)
  exact ⟨r, run_ext1 (by rw [hev]; exact hf _ w), zn.2 (yZ _ _ pr)⟩
theorem repCs_get1 {w : World} {I : Nat → Nat → Prop} : ∀ {ps : List AV} {cs : List Value} {i : Nat} {y : AV}, ps.all (fun p => Nat.beq p.width 1) = true → yc w I ps cs → ps[i]? = some y → ∃ c, cs[i]? = some c ∧ RepC w I y [c]
  | [], _, _, _, _, _, h => by simp at h
  | p :: ps, cs, i, y, hw, hr, h => by
    simp only [yc] at hr
    obtain ⟨c1, c2, rfl, h1, h2⟩ := hr
    simp only [List.all_cons, Bool.and_eq_true] at hw
    have hl := RepC.len _ _ h1
    rw [Nat.eq_of_beq_eq_true hw.1] at hl
    obtain ⟨c, rfl⟩ : ∃ c, c1 = [c] := List.length_eq_one_iff.1 hl
    cases i with
    | zero => simp at h; subst h; exact ⟨c, rfl, h1⟩
    | succ i => obtain ⟨c', k1, k2⟩ := repCs_get1 (i := i) hw.2 h2 (by simpa using h); exact ⟨c', by simpa using k1, k2⟩
theorem s_ixG {n : Nat} {ps : List AV} {el : TypeId} {i : Int} {k : IntKind} {y0 : AV} (hN : Nat.blt d C.N = true) (hx : opV A x = some (.agg ps)) (hy : opV A y = some (.v (.int k i))) (hT : C.P.underlying T = some (.array n el)) (hn : zs C.P el = some 1) (hq : ym C.P el = some false)
    (hw : ps.all (fun p => Nat.beq p.width 1) = true) (h : 0 ≤ i ∧ i < n) (hg : ps[i.toNat]? = some y0) (ha : y0.isAgg = false) : zW C ⟨some d, .index T x y, ty, pos, af, gd⟩ (opR x ++ opR y) [] A [(d, .imm y0)] := by
  refine zW.op2 rfl hN hx hy fun w I ρ h1 h2 => ?_
  have hi := zv h2
  obtain ⟨c, hc1, hc2⟩ := h1
  simp only [RepC] at hc1
  obtain ⟨v, hv1, hv2⟩ := repCs_get1 hw hc1 hg
  have hlt : i.toNat < c.length := (List.getElem?_eq_some_iff.1 hv1).1
  have hvi : c[i.toNat] = v := (List.getElem?_eq_some_iff.1 hv1).2
  have hev : ρ x = .agg c.toArray := by rw [hc2]; rfl
  refine ⟨v, ?_, ⟨[v], hv2, by simp [mkV, ha]⟩⟩
  have hp := run_part (P := C.P) (t := el) (n := 1) (off := i.toNat * 1) (q := false) (cs := c.toArray) (w := w) hq hn rfl (by simp; omega)
  simp only [execOp, Instr.index, hi, hev, asIntOf, Sem.run_bind, Sem.run_pure, Result.andThen_ok, zN hT, h, and_self, if_true, zy hn, hp]
  simp [hlt, List.drop_eq_getElem_cons, List.headD, List.head?, hvi]
end
end Go.Al
