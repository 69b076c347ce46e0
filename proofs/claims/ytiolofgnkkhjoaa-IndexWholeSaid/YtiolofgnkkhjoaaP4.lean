/- Texts that the proofs of this claim share, part 4: the abstract logic, plain Lean on values and batches, and walks. No condition but those typed in each lemma. -/
import Derived.RangeFuncLeaves
import Derived.RangeFuncRecord
import Derived.RangeFuncSeq
import Derived.Stop.Asserts
import Derived.Laws.Externs
import Derived.WideKeyRuns
import Derived.Test.YtiolofgnkkhjoaaP3
set_option linter.unusedSimpArgs false
set_option linter.unusedVariables false
set_option maxHeartbeats 400000
namespace Go.Al
open Go.RowKit
section
variable {C : Cx} {A : Nat → SV} {d : Nat} {ty : TypeId} {pos : String} {af : Array Edge} {gd : Option (Nat × Bool)} {x y : Operand} {T T' : TypeId}
theorem s_loadByte {g o n : Nat} {l : List UInt8} {T0 : TypeId} (hN : Nat.blt d C.N = true) (h : opS A x = .ptr g o) (hg : A g = .box T0 (.imm (.arr n l))) (hq : yY C.P T = some false) (hn : zr C.P T = some 1) (ho : o < n) :
    zZ C ⟨some d, .load T x, ty, pos, af, gd⟩ (g :: opR x) [] A [(d, .imm (.v (byteV (l.getD o 0))))] := by
  refine zZ.value rfl hN fun A' G a w hR S => ?_
  have hgA : A' g = .box T0 (.imm (.arr n l)) := (hR g List.mem_cons_self).trans hg
  obtain ⟨c, h1, h2⟩ := S.opS ((zt (fun k hk => hR k (List.mem_cons_of_mem _ hk))).trans h) rfl
  simp only [RepS] at h1
  have hev : a.eval x = .pointer (some ⟨G.blk g, o, none⟩) := by rw [h2, h1]; rfl
  have hb := S.holds g
  rw [hgA] at hb
  simp only [Holds] at hb
  obtain ⟨how, ⟨cs, fr, hb0, hrep, huf⟩, hni⟩ := hb
  simp only [RepS, RepC] at hrep
  obtain ⟨e1, e2⟩ := hrep
  have hol : o < l.length := by omega
  have hcell : w.cell? ⟨G.blk g, o, none⟩ = some (byteV (l.getD o 0)) := by
    simp only [World.cell?, hb0, Option.isSome_none, Bool.false_eq_true, if_false]
    rw [← Array.getElem?_toList, e1, List.getElem?_map, List.getElem?_eq_getElem hol]
    simp [List.getD_eq_getElem?_getD, hol]
  refine ⟨byteV (l.getD o 0), ?_, zm.2 (yw _ _ rfl)⟩
  simp only [execOp, Instr.loadAt, Instr.sureAddr, hev, Sem.run_bind, Sem.run_pure, Result.andThen_ok]
  rw [wV (cs := [byteV (l.getD o 0)]) hq (by simpa using hn) (fun _ => rfl) (fun j hj => by
    have : j = 0 := by simpa using hj
    subst this; simpa using hcell)]
  rfl
end
end Go.Al
namespace Go.Proofs
open Go Go.Al
theorem zeros_snoc : ∀ (m : Bs) (x : UInt8), xh (m ++ [x]) = (xh m && (x == 0))
  | [], x => by simp [xh]
  | y :: m, x => by
    have := zeros_snoc m x
    simp only [xh, List.cons_append, List.all_cons] at this ⊢
    rw [this, Bool.and_assoc]
theorem byte0 (x : UInt8) : (((x.toNat : Nat) : Int) == 0) = (x == 0) := by
  rw [Bool.eq_iff_iff, beq_iff_eq, beq_iff_eq]
  constructor
  · intro h
    have h2 : x.toNat = (0 : UInt8).toNat := by show x.toNat = 0; omega
    exact UInt8.toNat_inj.1 h2
  · rintro rfl; rfl
theorem zeros_take {l : Bs} {i : Nat} (h : i < l.length) : xh (l.take (i + 1)) = (xh (l.take i) && ((((l.getD i 0).toNat : Nat) : Int) == 0)) := by
  rw [byte0, ← zeros_snoc]
  congr 1
  rw [List.take_succ_eq_append_getElem h]
  simp [List.getD_eq_getElem?_getD, h]
end Go.Proofs
namespace Go.Proofs
open Go Go.Al
set_option maxRecDepth 10000
end Go.Proofs
namespace Go.Proofs
open Go Go.Al
set_option maxRecDepth 10000
end Go.Proofs
namespace Go.Proofs
open Go Go.Al
set_option maxRecDepth 10000
end Go.Proofs
namespace Go.Al
open Go.RowKit
def base (P : Program) (Γ : List (Nat × AV)) (N : Nat) (w : World) (G : Gh) : Cx := ⟨P, w, G.I, fun _ => False, N, 100000, G, Γ, [], none⟩
def noRes : St → Bool
  | [] => true
  | (_, x) :: st => !x.res && noRes st
theorem noRes_spec : ∀ {st : St}, noRes st = true → ∀ k, (look st k).res = false
  | [], _, k => rfl
  | (d, x) :: st, h, k => by
    simp only [noRes, Bool.and_eq_true, Bool.not_eq_true'] at h
    simp only [look, upd]
    cases Nat.beq d k
    · exact noRes_spec h.2 k
    · exact h.1
theorem notOwn_res {G : Gh} {k b : Nat} {x : SV} (h : x.res = false) : ¬ zR G k b x := by cases x <;> simp [SV.res, zR] at h ⊢
theorem Holds.mono_slot {w0 w1 : World} {E E' : Nat → Prop} {G G' : Gh} {a : Act} {w w' : World} {k : Nat} {x : SV} (hx : x.res = false) (hle : Le w G.I w' G'.I) (hg : GRel [] G G') (h : Holds w0 E G a w k x) : Holds w1 E' G' a w' k x := by
  cases x <;> simp only [Holds] at h ⊢ <;> first | trivial | exact ⟨h.1, yO.mono hle hg (yu.1 _) h.2⟩ | cases hx
theorem SimG.rebase {C : Cx} {A : Nat → SV} {G : Gh} {a : Act} {w : World} (S : SimG C A G a w) (hD : C.D = []) (hr : ∀ k, (A k).res = false) : SimG (base C.P C.Γ C.N w G) A G a w :=
  ⟨rfl, rfl, rfl, Nat.le_refl _, fun _ _ _ => rfl, Le.refl _ _, fun _ _ => ⟨rfl, .inl ⟨rfl, rfl⟩⟩, S.glob, fun _ _ h => .inl h, S.val, S.nts, S.dfs.trans hD,
    fun k => (S.holds k).mono_slot (hr k) (Le.refl _ _) (GRel.refl _), fun k _ _ _ h _ => notOwn_res (hr k) h⟩
theorem SimG.turned {P : Program} {Γ : List (Nat × AV)} {N : Nat} {A : Nat → SV} {G : Gh} {a : Act} {w w' : World} {I' : Nat → Nat → Prop} (S : SimG (base P Γ N w G) A G a w) (hr : ∀ k, (A k).res = false)
    (hle : Le w G.I w' I') (hv : ValI w' I') : SimG (base P Γ N w' { G with I := I' }) A { G with I := I' } a w' :=
  ⟨rfl, rfl, rfl, Nat.le_refl _, fun _ _ _ => rfl, Le.refl _ _, fun _ _ => ⟨rfl, .inl ⟨rfl, rfl⟩⟩, S.glob.mono hle, fun _ _ h => .inl h, hv, S.nts, S.dfs,
    fun k => (S.holds k).mono_slot (hr k) hle (fun _ _ => ⟨rfl, .inl ⟨rfl, rfl⟩⟩), fun k _ _ _ h _ => notOwn_res (hr k) h⟩
def Grow {ι : Type} (J : ι → (Nat → Nat → Prop) → World → Prop) : Prop :=
  ∀ j I w I' w', J j I w → Below w.heap.size w w' → Le w I w' I' → NewI w I I' → ValI w' I' → J j I' w'
section
variable {ι : Type} {P : Program} {Γ : List (Nat × AV)} {N n : Nat} {J : ι → (Nat → Nat → Prop) → World → Prop}
def AWJ (P : Program) (Γ : List (Nat × AV)) (N n : Nat) (J : ι → (Nat → Nat → Prop) → World → Prop) (c : Code) (st : St) (j : ι) (Q : Exit → St → ι → Prop) : Prop :=
  ∀ a w G, SimG (base P Γ N w G) (look st) G a w → J j G.I w →
    c.wpIn (fen none) n P (fun e a' w' => ∃ st' j' G', Q e st' j' ∧ SimG (base P Γ N w' G') (look st') G' a' w' ∧ J j' G'.I w') a w
def thnJ (K : St → ι → Prop) (Q : Exit → St → ι → Prop) : Exit → St → ι → Prop
  | .normal, st, j => K st j
  | e, st, j => Q e st j
def blkJ (id : Nat) (K : St → ι → Prop) (Q : Exit → St → ι → Prop) : Exit → St → ι → Prop
  | .normal, st, j => K st j
  | .exit i, st, j => if i = id then K st j else Q (.exit i) st j
  | e, st, j => Q e st j
variable {c x y : Code} {st : St} {j : ι} {K : St → ι → Prop} {Q : Exit → St → ι → Prop}
theorem ret_thnJ (h : Q .ret st j) : thnJ K Q .ret st j := h
theorem wv {i : Nat} (h : Q (.exit i) st j) : thnJ K Q (.exit i) st j := h
theorem zw (h : K st j) : thnJ K Q .normal st j := h
theorem ret_blkJ {id : Nat} (h : Q .ret st j) : blkJ id K Q .ret st j := h
theorem normal_blkJ {id : Nat} (h : K st j) : blkJ id K Q .normal st j := h
theorem exit_blkJ {id : Nat} (h : K st j) : blkJ id K Q (.exit id) st j := by simp only [blkJ, if_true]; exact h
theorem awj_skip (h : Q .normal st j) : AWJ P Γ N n J .skip st j Q := fun _ _ G S k => wpIn_skip ⟨st, j, G, h, S, k⟩
theorem awj_ret (h : Q .ret st j) : AWJ P Γ N n J .ret st j Q := fun _ _ G S k => wpIn_ret ⟨st, j, G, h, S, k⟩
theorem awj_exit {i : Nat} (h : Q (.exit i) st j) : AWJ P Γ N n J (.exit i) st j Q := fun _ _ G S k => wpIn_exit ⟨st, j, G, h, S, k⟩
theorem xD (h : AWJ P Γ N n J x st j (thnJ (fun st' j' => AWJ P Γ N n J y st' j' Q) Q)) : AWJ P Γ N n J (.seq x y) st j Q := by
  intro a w G S k
  refine wpIn_seq (wpIn_mono (h a w G S k) ?_)
  rintro e a' w' ⟨st', j', G', q, S', k'⟩
  cases e with
  | normal => exact q a' w' G' S' k'
  | exit id => exact ⟨st', j', G', q, S', k'⟩
  | goto l => exact ⟨st', j', G', q, S', k'⟩
  | ret => exact ⟨st', j', G', q, S', k'⟩
  | panic c => exact ⟨st', j', G', q, S', k'⟩
  | outgrown => exact ⟨st', j', G', q, S', k'⟩
theorem wy {id : Nat} (h : AWJ P Γ N n J c st j (blkJ id (fun st' j' => Q .normal st' j') Q)) : AWJ P Γ N n J (.block id c) st j Q := by
  intro a w G S k
  refine wpIn_block (wpIn_mono (h a w G S k) ?_)
  rintro e a' w' ⟨st', j', G', q, S', k'⟩
  cases e with
  | normal => exact ⟨st', j', G', q, S', k'⟩
  | exit i =>
    simp only [blkJ] at q
    simp only [Exit.inBlock]
    split
    · rename_i hi; rw [if_pos hi] at q; exact ⟨st', j', G', q, S', k'⟩
    · rename_i hi; rw [if_neg hi] at q; exact ⟨st', j', G', q, S', k'⟩
  | goto l => exact ⟨st', j', G', q, S', k'⟩
  | ret => exact ⟨st', j', G', q, S', k'⟩
  | panic c => exact ⟨st', j', G', q, S', k'⟩
  | outgrown => exact ⟨st', j', G', q, S', k'⟩
theorem awj_cond {t : Nat} {b : Bool} (hc : look st t = .imm (.v (.bool b))) (ht : b = true → AWJ P Γ N n J x st j Q) (hf : b = false → AWJ P Γ N n J y st j Q) : AWJ P Γ N n J (.cond (.tmp t) x y) st j Q := by
  intro a w G S k
  have hev : a.eval (.tmp t) = .bool b := yG (S.imm hc)
  exact wpIn_cond_split hev (fun h => ht h a w G S k) (fun h => hf h a w G S k)
theorem awj_cond_true {t : Nat} (hc : look st t = .imm (.v (.bool true))) (h : AWJ P Γ N n J x st j Q) : AWJ P Γ N n J (.cond (.tmp t) x y) st j Q := awj_cond hc (fun _ => h) (fun h => by cases h)
theorem awj_cond_false {t : Nat} (hc : look st t = .imm (.v (.bool false))) (h : AWJ P Γ N n J y st j Q) : AWJ P Γ N n J (.cond (.tmp t) x y) st j Q := awj_cond hc (fun h => by cases h) (fun _ => h)
theorem awj_loop' {κ : Type} (Inv : κ → St) (jx : κ → ι) (ok : κ → Prop) (μ : κ → Nat) (i0 : κ) (hj : j = jx i0) (ok0 : ok i0) (h0 : sub st (Inv i0))
    (round : ∀ i, ok i → AWJ P Γ N n J c (Inv i) (jx i) (thnJ (fun st' j' => ∃ i', ok i' ∧ sub st' (Inv i') ∧ j' = jx i' ∧ μ i' < μ i) Q)) : AWJ P Γ N n J (.loop c) st j Q := by
  intro a w G S k
  refine wpIn_loop_ghost (fun m a w => ∃ i G, μ i = m ∧ ok i ∧ SimG (base P Γ N w G) (look (Inv i)) G a w ∧ J (jx i) G.I w) (μ i0) ⟨i0, G, rfl, ok0, S.weak (xo h0), hj ▸ k⟩ ?_
  rintro m a w ⟨i, G, rfl, hok, S, k⟩
  refine wpIn_mono (round i hok a w G S k) ?_
  rintro e a' w' ⟨st', j', G', q, S', k'⟩
  cases e with
  | normal =>
    obtain ⟨i', hok', hs, rfl, hlt⟩ := q
    exact ⟨μ i', hlt, i', G', rfl, hok', S'.weak (xo hs), k'⟩
  | exit id => exact ⟨st', j', G', q, S', k'⟩
  | goto l => exact ⟨st', j', G', q, S', k'⟩
  | ret => exact ⟨st', j', G', q, S', k'⟩
  | panic c => exact ⟨st', j', G', q, S', k'⟩
  | outgrown => exact ⟨st', j', G', q, S', k'⟩
theorem awj_of_aw (hJ : Grow J) (h : ∀ w G, AW (base P Γ N w G) c st (fun e st' => noRes st' = true ∧ Q e st' j)) : AWJ P Γ N n J c st j Q := by
  intro a w G S k
  refine wpIn_mono (h w G a w ⟨G, S⟩ n) ?_
  rintro e a' w' ⟨st', ⟨hn, q⟩, G', S'⟩
  refine ⟨st', j, G', q, S'.rebase rfl (noRes_spec hn), hJ _ _ _ _ _ k ⟨S'.os, S'.tape, S'.output, S'.size, fun k hk => S'.block k hk (fun h => h)⟩ S'.sub (fun b o hi => ?_) S'.val⟩
  rcases S'.new b o hi with h | h | h
  · exact .inl h
  · exact .inr h
  · exact h.elim
theorem yV (hJ : Grow J) {id : Nat} {ops : Array Oper} (h : ∀ w0 G0, Go1 (base P Γ N w0 G0) ops ops.toList st [] (fun st' _ => noRes st' = true ∧ Q .normal st' j)) (hnd : noDef ops.toList = true := by rfl) : AWJ P Γ N n J (.region id ops false) st j Q :=
  awj_of_aw hJ fun w G => zC (h w G) hnd
theorem Go1.mono {C : Cx} {ops : Array Oper} {K K' : St → List Tr → Prop} (hK : ∀ st tr, K st tr → K' st tr) : ∀ {os : List Oper} {st : St} {tr : List Tr}, Go1 C ops os st tr K → Go1 C ops os st tr K'
  | [], _, _, h => hK _ _ h
  | _ :: _, _, _, ⟨t, h1, h2, h3⟩ => ⟨t, h1, h2, Go1.mono hK h3⟩
def GoJ (P : Program) (Γ : List (Nat × AV)) (N n : Nat) (J : ι → (Nat → Nat → Prop) → World → Prop) (ops : Array Oper) (os : List Oper) (st : St) (j : ι) (Q : Exit → St → ι → Prop) : Prop :=
  ∀ k a w G, (∀ i, os[i]? = ops[k + i]?) → SimG (base P Γ N w G) (look st) G a w → J j G.I w →
    wpOpsIn (fen none) n P ops (fun e a' w' => ∃ st' j' G', Q e st' j' ∧ SimG (base P Γ N w' G') (look st') G' a' w' ∧ J j' G'.I w') (List.range' k os.length) a w
theorem awj_regionJ {id : Nat} {ops : Array Oper} (h : GoJ P Γ N n J ops ops.toList st j Q) : AWJ P Γ N n J (.region id ops false) st j Q := by
  intro a w G S k
  refine wpIn_region ?_
  have := h 0 a w G (by simp) S k
  simpa [List.range_eq_range'] using this
theorem goj_nil {ops : Array Oper} (h : Q .normal st j) : GoJ P Γ N n J ops [] st j Q := by
  intro k a w G _ S hk
  simp only [List.length_nil, List.range'_zero, wpOpsIn]
  exact ⟨st, j, G, h, S, hk⟩
theorem wpOps_front {C : Cx} {ops : Array Oper} {n : Nat} {Q : Exit → Act → World → Prop} (hnd : noDef ops.toList = true) : ∀ (os : List Oper) (k : Nat) (A : Nat → SV) (tr : List Tr) (a : Act) (w : World) (rest : List Nat),
    (∀ j, j < os.length → os[j]? = ops[k + j]?) → Run C ops os A tr → Sim C A a w → (∀ a w, Sim C (fin tr A) a w → wpOpsIn (fen C.R) n C.P ops Q rest a w) →
    wpOpsIn (fen C.R) n C.P ops Q (List.range' k os.length ++ rest) a w
  | [], k, A, [], a, w, _, _, _, S, hQ => by simpa using hQ a w S
  | [], _, _, _ :: _, _, _, _, _, h, _, _ => h.elim
  | _ :: _, _, _, [], _, _, _, _, h, _, _ => h.elim
  | o :: os, k, A, t :: ts, a, w, rest, hl, h, S, hQ => by
    have h0 : ops[k]? = some o := by simpa using (hl 0 (by simp)).symm
    obtain ⟨h1, h2, h3⟩ := h
    have h4 := h1 A a w (fun _ _ => rfl) (fun k _ => h2 k) S
    simp only [List.length_cons, List.range'_succ, List.cons_append, wpOpsIn, h0]
    have hl' : ∀ j, j < os.length → os[j]? = ops[k + 1 + j]? := fun j hj => by have := hl (j + 1) (by simpa using hj); simpa [Nat.add_assoc, Nat.add_comm 1 j] using this
    split
    · rename_i hw
      simp only [hw, if_true] at h4
      refine Oper.wpIn_of_wp (noDef_get hnd h0) (xz.Oper.wp_mono' ?_ ?_ h4)
      · intro a' w' S'
        exact wpOps_front hnd os (k + 1) _ ts a' w' rest hl' h3 S' hQ
      · exact fun _ _ _ h => h.elim
    · rename_i hw
      simp only [hw] at h4
      exact ⟨fun _ _ => trivial, wpOps_front hnd os (k + 1) _ ts _ w rest hl' h3 h4 hQ⟩
theorem goj_run (hJ : Grow J) {ops : Array Oper} {os os1 os2 : List Oper} (hs : os = os1 ++ os2) (hnd : noDef ops.toList = true)
    (h : ∀ w0 G0, Go1 (base P Γ N w0 G0) ops os1 st [] (fun st' _ => noRes st' = true ∧ GoJ P Γ N n J ops os2 st' j Q)) : GoJ P Γ N n J ops os st j Q := by
  subst hs
  intro k a w G hi S hk
  obtain ⟨tr, st', r, f, ⟨hn, q⟩, _⟩ := Go1.sound _ _ _ _ (h w G)
  have e : List.range' k (os1 ++ os2).length = List.range' k os1.length ++ List.range' (k + os1.length) os2.length := by
    rw [List.length_append]; exact (List.range'_append_1 ..).symm
  rw [e]
  refine wpOps_front (C := base P Γ N w G) hnd os1 k (look st) tr a w _ (fun i h => ?_) r ⟨G, S⟩ (fun a' w' S' => ?_)
  · have := hi i
    rw [List.getElem?_append_left h] at this; exact this
  · obtain ⟨G', S'⟩ := S'
    rw [f] at S'
    refine q (k + os1.length) a' w' G' (fun i => ?_) (S'.rebase rfl (noRes_spec hn)) (hJ _ _ _ _ _ hk ⟨S'.os, S'.tape, S'.output, S'.size, fun k hk => S'.block k hk (fun h => h)⟩ S'.sub (fun b o hi => ?_) S'.val)
    · have := hi (os1.length + i)
      rw [List.getElem?_append_right (by omega), Nat.add_sub_cancel_left] at this
      rw [this, Nat.add_assoc]
    · rcases S'.new b o hi with h | h | h
      · exact .inl h
      · exact .inr h
      · exact h.elim
theorem goj_take (m : Nat) (hJ : Grow J) {ops : Array Oper} {os : List Oper} (hnd : noDef ops.toList = true)
    (h : ∀ w0 G0, Go1 (base P Γ N w0 G0) ops (os.take m) st [] (fun st' _ => noRes st' = true ∧ GoJ P Γ N n J ops (os.drop m) st' j Q)) : GoJ P Γ N n J ops os st j Q :=
  goj_run hJ (List.take_append_drop m os).symm hnd h
theorem goj_end (hJ : Grow J) {ops : Array Oper} {os : List Oper} (hnd : noDef ops.toList = true)
    (h : ∀ w0 G0, Go1 (base P Γ N w0 G0) ops os st [] (fun st' _ => noRes st' = true ∧ Q .normal st' j)) : GoJ P Γ N n J ops os st j Q :=
  goj_run hJ (List.append_nil os).symm hnd (fun w0 G0 => by
    refine Go1.mono ?_ (h w0 G0)
    rintro st' tr ⟨h1, h2⟩
    exact ⟨h1, goj_nil h2⟩)
def YPost (J : ι → (Nat → Nat → Prop) → World → Prop) (I : Nat → Nat → Prop) (w : World) (jt jf : ι) (e : Ending) (w' : World) : Prop :=
  ∃ (b : Bool) (I' : Nat → Nat → Prop), e = .returned (.bool b) ∧ Le w I w' I' ∧ ValI w' I' ∧ J (if b then jt else jf) I' w'
theorem goj_yield {ops : Array Oper} {os : List Oper} {d l : Nat} {cal : Operand} {args : Array Operand} {ats : Array TypeId} {ty : TypeId} {pos : String} {af : Array Edge} {xs : List AV} {jt jf : ι} (hN : Nat.blt d N = true)
    (hr : noRes st = true) (hf : opV (look st) cal = some (.v (.func (.yield l) #[] #[]))) (hx : opVs (look st) args.toList = some xs)
    (hy : ∀ I w vs, J j I w → zg w I xs vs → YieldAt (fen none) (n - 1) P l (List.toArray vs) w (YPost J I w jt jf))
    (h : ∀ b : Bool, GoJ P Γ N n J ops os ((d, .imm (.v (.bool b))) :: st) (if b then jt else jf) Q) :
    GoJ P Γ N n J ops (⟨some d, .call { callee := .value cal, args := args, argTypes := ats }, ty, pos, af, none⟩ :: os) st j Q := by
  intro k a w G hi S hk
  have h0 := (hi 0).symm
  simp only [List.getElem?_cons_zero, Nat.add_zero] at h0
  simp only [List.length_cons, List.range'_succ, wpOpsIn, h0]
  have hw : Region.wanted (⟨some d, .call { callee := .value cal, args := args, argTypes := ats }, ty, pos, af, none⟩ : Oper) (yielded ops a.tmps) = true := rfl
  simp only [hw, if_true]
  obtain ⟨c, h1, h2⟩ := S.opV hf
  simp only [RepC] at h1
  have hev : a.eval cal = .func (.yield l) #[] #[] := by
    rw [h2, h1.1]; rfl
  obtain ⟨fn, tmps, assign, body, hrun, hround⟩ := hy G.I w _ hk (S.opVs hx)
  refine ⟨fun _ _ => trivial, ?_⟩
  have hsem : (Oper.semAt (fen none).round a.eval (⟨some d, .call { callee := .value cal, args := args, argTypes := ats }, ty, pos, af, none⟩ : Oper)).run P w = .ok (.round l fn tmps assign body) w := by
    rw [Oper.semAt_eq _ _ _ (by intro c hc; cases hc)]
    simp only [execOp, resolve, hev, Deferred.ofValue, Sem.run_bind, Sem.run_pure, Result.andThen_ok, invoke]
    have e : (#[] ++ Array.map a.eval args : Array Value) = List.toArray (args.toList.map a.eval) := by
      rw [Array.empty_append]
      apply Array.ext'
      simp
    rw [e]; exact hrun
  rw [hsem, Oper.uponIn_round]
  refine ⟨fun h => by simp [fen, Fence.wide] at h, hround.mono ?_⟩
  rintro e w' ⟨b, I', rfl, hle, hv, hj⟩
  have S' := (SimG.turned S (noRes_spec hr) hle hv).put (d := d) (by simpa [Nat.blt_eq, base] using hN) (x := .imm (.v (.bool b))) (v := .bool b) (zm.2 ⟨[.bool b], by simp [RepC, Value.cells, plain], rfl⟩)
  refine h b (k + 1) _ w' { G with I := I' } (fun i => ?_) ?_ hj
  · have := hi (i + 1)
    simpa [Nat.add_assoc, Nat.add_comm 1 i] using this
  · exact S'
end
def SeqC (P : Program) (Γ : List (Nat × AV)) (f : FuncId) (caps : List AV) (L : List (List AV)) : Prop :=
  xY P f = true ∧ ∀ n l (J : Option Nat → (Nat → Nat → Prop) → World → Prop) w I lb, Grow J → ValI w I → Glob Γ w I → zg w I caps lb →
    (∀ i xs I w vs, L[i]? = some xs → J (some i) I w → zg w I xs vs → YieldAt (fen none) (n - 1) P l (List.toArray vs) w (YPost J I w (some (i + 1)) none)) →
    J (some 0) I w →
    CallsIn (fen none) n P f (#[.func (.yield l) #[] #[]] ++ List.toArray lb) w (fun e w' => ∃ v I', e = .returned v ∧ (J (some L.length) I' w' ∨ J none I' w'))
theorem seqc_of {P : Program} {Γ : List (Nat × AV)} {f : FuncId} {fn : Func} {c : Code} {N : Nat} {caps : List AV} {L : List (List AV)} (hf : P.funcs[f]? = some fn) (hb : fn.body = some c) (hnt : fn.ntmps = N) (hcal : xY P f = true)
    (hres : fn.results = #[]) (hN : Nat.ble (caps.length + 1) N = true)
    (h : ∀ n l (J : Option Nat → (Nat → Nat → Prop) → World → Prop), Grow J →
      (∀ i xs I w vs, L[i]? = some xs → J (some i) I w → zg w I xs vs → YieldAt (fen none) (n - 1) P l (List.toArray vs) w (YPost J I w (some (i + 1)) none)) →
      AWJ P Γ N n J c (params 0 (.v (.func (.yield l) #[] #[]) :: caps)) (some 0) (fun e _ j => (e = .normal ∨ e = .ret) ∧ (j = some L.length ∨ j = none))) : SeqC P Γ f caps L := by
  refine ⟨hcal, fun n l J w I lb hJ hv hgl hr hy h0 => ?_⟩
  refine callsIn_of_wp hf hb trivial ?_
  rw [hnt]
  have hrep : zg w I (.v (.func (.yield l) #[] #[]) :: caps) (.func (.yield l) #[] #[] :: lb) := by
    simp only [zg]
    exact ⟨[.func (.yield l) #[] #[]], lb, rfl, by simp [RepC, Value.cells, plain], hr⟩
  have S0 := start_simG (P := P) (Γ := Γ) (N := N) (K := 100000) hv hgl hrep (by simpa using Nat.le_of_ble_eq_true hN)
  have e : (#[.func (.yield l) #[] #[]] ++ List.toArray lb : Array Value) = List.toArray (.func (.yield l) #[] #[] :: lb) := by simp
  rw [e]
  refine wpIn_mono (h n l J hJ hy _ w (gh0 I) S0 h0) ?_
  rintro e a' w' ⟨st', j', G', ⟨he, hj⟩, S', k'⟩
  have fin : a'.defers = [] ∧ ∃ v, (results fn a'.tmps).run P w' = .ok v w' ∧ ∃ v' I', Ending.returned v = .returned v' ∧ (J (some L.length) I' w' ∨ J none I' w') := by
    refine ⟨S'.dfs, .tuple #[], ?_, _, G'.I, rfl, ?_⟩
    · unfold results; rw [hres]; simp
    · rcases hj with rfl | rfl
      · exact .inl k'
      · exact .inr k'
  rcases he with rfl | rfl <;> exact fin
end Go.Al
namespace Go.Al
open Go.RowKit
theorem Holds.kind {w0 : World} {E : Nat → Prop} {G : Gh} {a : Act} {w : World} {k b : Nat} {x : SV} (r : Holds w0 E G a w k x) (h : zR G k b x) {o : Obj} (ho : w.heap[b]? = some o) : isBook o = false := by
  cases x <;> simp only [zR] at h <;> simp only [Holds] at r
  case box T x =>
    obtain ⟨_, ⟨cs, fr, h1, _⟩, _⟩ := r
    rw [h, ho] at h1; cases h1; rfl
  case mpr ks vs =>
    obtain ⟨_, ⟨es, h1, _⟩, _⟩ := r
    rw [h, ho] at h1; cases h1; rfl
  case gen R => exact (R _ _ _).kind _ _ _ _ r.2 h ho
  case row l =>
    obtain ⟨ad, n', c, h1, h2⟩ := h
    rcases r.2 with ⟨e, _⟩ | ⟨b', cap, e, _, _, _, ⟨cs, T, h5, _⟩, _⟩
    · rw [e] at h1; cases h1
    · rw [e] at h1; cases h1; rw [← h2, h5] at ho; cases ho; rfl
  case itr m n s =>
    have h1 := r.2.1
    rw [h, ho] at h1; cases h1; rfl
  case tok n l =>
    obtain ⟨ad, n', c, h1, h2⟩ := h
    rcases r.2 with ⟨e, _⟩ | ⟨b', cap, e, _, _, _, _, ⟨cs, T, fr, h5, _⟩, _⟩
    · rw [e] at h1; cases h1
    · rw [e] at h1; cases h1; rw [← h2, h5] at ho; cases ho; rfl
theorem cell_book {w : World} {d : Nat} {o : Obj} (h : w.heap[d]? = some o) (ho : isBook o = true) (n : Nat) : w.cell? ⟨d, n, none⟩ = none := by
  unfold World.cell?
  cases o <;> simp_all [isBook]
theorem putObj_size (w : World) (d : Nat) (o : Obj) : (w.putObj d o).heap.size = w.heap.size := by simp [World.putObj]
theorem SimG.book {C : Cx} {A : Nat → SV} {G : Gh} {a : Act} {w : World} (S : SimG C A G a w) {d : Nat} {o o' : Obj} (h : w.heap[d]? = some o) (ho : isBook o = true) (ho' : isBook o' = true) (hd : C.w0.heap.size ≤ d ∨ C.E d) :
    SimG C A G a (w.putObj d o') := by
  have hlt : d < w.heap.size := (Array.getElem?_eq_some_iff.1 h).1
  have hsame : (w.putObj d o').heap[d]? = some o' := World.putObj_heap_same hlt
  have hoth : ∀ k, k ≠ d → (w.putObj d o').heap[k]? = w.heap[k]? := fun k hk => World.putObj_heap_other hk
  have hle : Le w G.I (w.putObj d o') G.I := by
    intro b n hi
    refine ⟨hi, ?_⟩
    by_cases e : b = d
    · subst e
      refine ⟨by rw [cell_book hsame ho', cell_book h ho], fun es ck h1 => ?_⟩
      rw [h] at h1; cases h1; cases ho
    · exact zy (hoth b e)
  refine ⟨S.os, S.tape, S.output, by rw [putObj_size]; exact S.size, fun k h1 h2 => ?_, S.sub.trans hle, S.rel, S.glob.mono hle, S.new, fun b o h => by rw [putObj_size]; exact S.val b o h, S.nts, S.dfs, fun k => ?_, S.apart⟩
  · have : k ≠ d := by
      rintro rfl
      rcases hd with hd | hd
      · omega
      · exact h2 hd
    rw [hoth k this]; exact S.block k h1 h2
  · refine (S.holds k).keep (Gs := []) hle (fun _ _ => ⟨rfl, .inl ⟨rfl, rfl⟩⟩) (yu.1 _) (by rw [putObj_size]; exact Nat.le_refl _) (fun h => ⟨h, rfl⟩) (fun _ => ⟨rfl, rfl, rfl⟩) (fun b hbk => ?_)
    have hne : b ≠ d := by
      rintro rfl
      have := (S.holds k).kind hbk h
      rw [ho] at this; cases this
    exact ⟨hoth b hne, fun _ hi => hi⟩
theorem SimG.newBook {C : Cx} {A : Nat → SV} {G : Gh} {a : Act} {w : World} (S : SimG C A G a w) (o : Obj) : SimG C A G a (w.alloc o) := by
  have hb : Below w.heap.size w (w.alloc o) := (Below.refl _ w).alloc (Nat.le_refl _) _
  have hle : Le w G.I (w.alloc o) G.I := fun b n hi => ⟨hi, zy (hb.block b (S.val b n hi))⟩
  exact S.called hb hle (fun _ _ h => .inl h) (fun b n hi => by have := S.val b n hi; simp; omega)
def own (A : Nat → SV) (G : Gh) (b : Nat) : Prop := ∃ k, zR G k b (A k)
theorem SimG.switch {C : Cx} {A : Nat → SV} {G : Gh} {a : Act} {w : World} (S : SimG C A G a w) (K : Nat) : SimG ⟨C.P, w, G.I, own A G, C.N, K, G, C.Γ, C.D, C.R⟩ A G a w := by
  refine ⟨rfl, rfl, rfl, Nat.le_refl _, fun _ _ _ => rfl, Le.refl _ _, fun _ _ => ⟨rfl, .inl ⟨rfl, rfl⟩⟩, S.glob, fun _ _ h => .inl h, S.val, S.nts, S.dfs, fun k => ?_, S.apart⟩
  cases hr : (A k).res
  · exact (S.holds k).mono_slot hr (Le.refl _ _) (GRel.refl _)
  · exact (S.holds k).reown hr (fun b h1 _ _ => .inr ⟨k, h1⟩)
theorem SimG.back {C : Cx} {A A' : Nat → SV} {G G' : Gh} {a a' : Act} {w w' : World} (S : SimG C A G a w) {K : Nat} {D : List Deferred} {R : Option Nat} (hK : K ≤ C.K)
    (S' : SimG ⟨C.P, w, G.I, own A G, C.N, K, G, C.Γ, D, R⟩ A' G' a' w') : SimG ⟨C.P, C.w0, C.I0, C.E, C.N, C.K, C.G0, C.Γ, D, R⟩ A' G' a' w' := by
  have hown : ∀ b, own A G b → C.w0.heap.size ≤ b ∨ C.E b := fun b ⟨k, hk⟩ => ((S.holds k).owned hk).1
  have hsz : w.heap.size ≤ w'.heap.size := S'.size
  refine ⟨S'.os.trans S.os, S'.tape.trans S.tape, S'.output.trans S.output, Nat.le_trans S.size hsz, fun k h1 h2 => ?_, S.sub.trans S'.sub, fun g hg => (S.rel g hg).trans (S'.rel g (Nat.le_trans hK hg)), S'.glob, fun b o hi => ?_, S'.val, S'.nts, S'.dfs, fun k => ?_, S'.apart⟩
  · have hno : ¬ own A G k := by
      intro ho
      rcases hown k ho with h | h
      · exact absurd h1 (by show ¬ k < C.w0.heap.size; omega)
      · exact h2 h
    exact (S'.block k (Nat.lt_of_lt_of_le h1 S.size) hno).trans (S.block k h1 h2)
  · rcases S'.new b o hi with h | h | h
    · exact S.new b o h
    · exact .inr (.inl (Nat.le_trans S.size h))
    · exact .inr (hown b h)
  · cases hr : (A' k).res
    · exact (S'.holds k).mono_slot hr (Le.refl _ _) (GRel.refl _)
    · exact (S'.holds k).reown hr (fun b _ _ h => by
        rcases h with h | h
        · exact .inl (Nat.le_trans S.size h)
        · exact hown b h)
theorem SimG.redefer {P : Program} {w0 : World} {I0 : Nat → Nat → Prop} {E : Nat → Prop} {N K : Nat} {G0 : Gh} {Γ : List (Nat × AV)} {D : List Deferred} {R : Option Nat} {A : Nat → SV} {G : Gh} {a : Act} {w : World}
    (S : SimG ⟨P, w0, I0, E, N, K, G0, Γ, D, R⟩ A G a w) (D' : List Deferred) (R' : Option Nat) : SimG ⟨P, w0, I0, E, N, K, G0, Γ, D', R'⟩ A G { tmps := a.tmps, defers := D' } w := by
  refine ⟨S.os, S.tape, S.output, S.size, S.block, S.sub, S.rel, S.glob, S.new, S.val, S.nts, rfl, fun k => ?_, S.apart⟩
  have h := S.holds k
  generalize A k = x at h
  cases x <;> simp only [Holds] at h ⊢ <;> exact h
def mark (d : Nat) : Deferred := { target := .collected d, args := #[] }
structure Sw (C : Cx) (w1 : World) (I1 : Nat → Nat → Prop) (E1 : Nat → Prop) (G1 : Gh) (Ds : List Nat) : Prop where
  os : w1.os = C.w0.os
  tape : w1.tape = C.w0.tape
  output : w1.output = C.w0.output
  size : C.w0.heap.size ≤ w1.heap.size
  block : ∀ k, k < C.w0.heap.size → ¬ C.E k → w1.heap[k]? = C.w0.heap[k]?
  own : ∀ b, (w1.heap.size ≤ b ∨ E1 b) → C.w0.heap.size ≤ b ∨ C.E b
  sub : Le C.w0 C.I0 w1 I1
  rel : ∀ g, C.K ≤ g → Turns C.G0 G1 g
  new : ∀ b o, I1 b o → C.I0 b o ∨ C.w0.heap.size ≤ b ∨ C.E b
  marks : ∀ d ∈ Ds, d < w1.heap.size ∧ ¬ E1 d ∧ C.w0.heap.size ≤ d ∧ w1.heap[d]? = some (.deferred (some []))
  nodup : Ds.Nodup
def upC (C : Cx) (w1 : World) (I1 : Nat → Nat → Prop) (E1 : Nat → Prop) (G1 : Gh) (D1 : List Deferred) : Cx := ⟨C.P, w1, I1, E1, C.N, C.K, G1, C.Γ, D1, C.R⟩
def SimX (C : Cx) (A : Nat → SV) (a : Act) (w : World) : Prop := ∃ w1 I1 E1 G1 Ds, Sw C w1 I1 E1 G1 Ds ∧ Sim (upC C w1 I1 E1 G1 (Ds.map mark)) A a w
theorem Sw.start (C : Cx) : Sw C C.w0 C.I0 C.E C.G0 [] :=
  ⟨rfl, rfl, rfl, Nat.le_refl _, fun _ _ _ => rfl, fun _ h => h, Le.refl _ _, fun _ _ => ⟨rfl, .inl ⟨rfl, rfl⟩⟩, fun _ _ h => .inl h, fun d h => (by cases h), List.nodup_nil⟩
theorem Sw.back {C : Cx} {w1 : World} {I1 : Nat → Nat → Prop} {E1 : Nat → Prop} {G1 : Gh} {Ds : List Nat} (h : Sw C w1 I1 E1 G1 Ds) {D1 : List Deferred} {A : Nat → SV} {G : Gh} {a : Act} {w : World} (S : SimG (upC C w1 I1 E1 G1 D1) A G a w) :
    SimG ⟨C.P, C.w0, C.I0, C.E, C.N, C.K, C.G0, C.Γ, D1, C.R⟩ A G a w := by
  refine ⟨S.os.trans h.os, S.tape.trans h.tape, S.output.trans h.output, Nat.le_trans h.size S.size, fun k h1 h2 => ?_, h.sub.trans S.sub, fun g hg => (h.rel g hg).trans (S.rel g hg), S.glob, fun b o hi => ?_, S.val, S.nts, S.dfs, fun k => ?_, S.apart⟩
  · have hno : ¬ E1 k := by
      intro ho
      rcases h.own k (.inr ho) with h3 | h3
      · exact absurd h1 (by show ¬ k < C.w0.heap.size; omega)
      · exact h2 h3
    exact (S.block k (Nat.lt_of_lt_of_le h1 h.size) hno).trans (h.block k h1 h2)
  · rcases S.new b o hi with h3 | h3 | h3
    · exact h.new b o h3
    · exact .inr (h.own b (.inl h3))
    · exact .inr (h.own b (.inr h3))
  · cases hr : (A k).res
    · exact (S.holds k).mono_slot hr (Le.refl _ _) (GRel.refl _)
    · exact (S.holds k).reown hr (fun b _ _ h3 => h.own b h3)
theorem Sw.mark_at {C : Cx} {w1 : World} {I1 : Nat → Nat → Prop} {E1 : Nat → Prop} {G1 : Gh} {Ds : List Nat} (h : Sw C w1 I1 E1 G1 Ds) {D1 : List Deferred} {A : Nat → SV} {G : Gh} {a : Act} {w : World} (S : SimG (upC C w1 I1 E1 G1 D1) A G a w) :
    ∀ d ∈ Ds, w.heap[d]? = some (.deferred (some [])) ∧ C.w0.heap.size ≤ d ∧ d < w1.heap.size := by
  intro d hd
  obtain ⟨h1, h2, h3, h4⟩ := h.marks d hd
  exact ⟨(S.block d h1 h2).trans h4, h3, h1⟩
def FW (C : Cx) (c : Code) (st : St) (Q : Exit → St → Prop) : Prop :=
  ∀ a w, SimX C (look st) a w → ∀ n, c.wpIn (fen C.R) n C.P (fun e a' w' => ∃ st', Q e st' ∧ SimX C (look st') a' w') a w
theorem fw_aw {P : Program} {w0 : World} {I0 : Nat → Nat → Prop} {E : Nat → Prop} {N : Nat} {G0 : Gh} {Γ : List (Nat × AV)} {c : Code} {st : St} {Q : Exit → St → Prop}
    (h : ∀ w1 I1 E1 G1 D1, AW ⟨P, w1, I1, E1, N, 100000, G1, Γ, D1, none⟩ c st Q) : FW ⟨P, w0, I0, E, N, 100000, G0, Γ, [], none⟩ c st Q := by
  rintro a w ⟨w1, I1, E1, G1, Ds, sw, S⟩ n
  refine wpIn_mono (h w1 I1 E1 G1 _ a w S n) ?_
  rintro e a' w' ⟨st', q, S'⟩
  exact ⟨st', q, w1, I1, E1, G1, Ds, sw, S'⟩
theorem xf {C : Cx} {x y : Code} {st : St} {Q : Exit → St → Prop} (h : FW C x st (thn (fun st' => FW C y st' Q) Q)) : FW C (.seq x y) st Q := by
  intro a w S n
  refine wpIn_seq (wpIn_mono (h a w S n) ?_)
  rintro e a' w' ⟨st', q, S'⟩
  cases e with
  | normal => exact q a' w' S' n
  | exit id => exact ⟨st', q, S'⟩
  | goto l => exact ⟨st', q, S'⟩
  | ret => exact ⟨st', q, S'⟩
  | panic c => exact ⟨st', q, S'⟩
  | outgrown => exact ⟨st', q, S'⟩
theorem fw_block {C : Cx} {id : Nat} {c : Code} {st : St} {Q : Exit → St → Prop} (h : FW C c st (blk id (fun st' => Q .normal st') Q)) : FW C (.block id c) st Q := by
  intro a w S n
  refine wpIn_block (wpIn_mono (h a w S n) ?_)
  rintro e a' w' ⟨st', q, S'⟩
  cases e with
  | normal => exact ⟨st', q, S'⟩
  | exit i =>
    simp only [blk] at q
    simp only [Exit.inBlock]
    split
    · rename_i hi; rw [if_pos hi] at q; exact ⟨st', q, S'⟩
    · rename_i hi; rw [if_neg hi] at q; exact ⟨st', q, S'⟩
  | goto l => exact ⟨st', q, S'⟩
  | ret => exact ⟨st', q, S'⟩
  | panic c => exact ⟨st', q, S'⟩
  | outgrown => exact ⟨st', q, S'⟩
theorem leaves_of {P : Program} {w : World} {I : Nat → Nat → Prop} {N K : Nat} {G0 : Gh} {Γ : List (Nat × AV)} {D : List Deferred} {R : Option Nat} {st : St} {G : Gh} {a : Act} {w' : World} {fn : Func} {rs : List AV}
    (S : SimG ⟨P, w, I, fun _ => False, N, K, G0, Γ, D, R⟩ (look st) G a w') (q : retAll P st fn.results.toList rs) : ∃ v, (results fn a.tmps).run P w' = .ok v w' ∧ Leaves w I rs (.returned v) w' := by
  obtain ⟨vs, h1, h2⟩ := ret_run S _ _ q
  have hb : Below w.heap.size w w' := ⟨S.os, S.tape, S.output, S.size, fun k hk => S.block k hk (fun h => h)⟩
  have hni : NewI w I G.I := fun b o hi => by
    rcases S.new b o hi with h | h | h
    · exact .inl h
    · exact .inr h
    · exact h.elim
  have hrun : (results fn a.tmps).run P w' = .ok (if h : vs.length = 1 then vs[0] else .tuple (List.toArray vs)) w' := by
    have e : results fn a.tmps = (do let vs ← fn.results.mapM (rvSem a.tmps); pure (if h : vs.size = 1 then vs[0] else .tuple vs)) := by
      unfold results
      congr 1
    rw [e, Array.mapM_eq_mapM_toList]
    simp only [Sem.run_bind, Sem.run_map, h1, Result.andThen_ok, Sem.run_pure]
    simp
  refine ⟨_, hrun, _, G.I, rfl, hb, S.sub, hni, S.val, ?_⟩
  have hlen := yy h2
  unfold resV
  split
  · rename_i r
    simp at hlen
    rw [dif_pos hlen]
    obtain ⟨v, h3, h4⟩ := yb (j := 0) h2 rfl
    have : vs[0] = v := by rw [List.getElem?_eq_getElem (by omega)] at h3; exact Option.some.inj h3
    rw [this]; exact h4
  · rename_i h0
    have : ¬ vs.length = 1 := by
      intro h1
      rw [h1] at hlen
      match rs, hlen with
      | [r], _ => exact h0 r rfl
    rw [dif_neg this]
    exact ⟨vs, rfl, h2⟩
theorem leavesM {P : Program} {w : World} {I : Nat → Nat → Prop} {N K : Nat} {G0 : Gh} {Γ : List (Nat × AV)} {D : List Deferred} {R : Option Nat} {st : St} {G : Gh} {a : Act} {fn : Func} {rs : List AV} {n : Nat} (q : retAll P st fn.results.toList rs) :
    ∀ (Ds : List Nat) (w' : World), Ds.Nodup → (∀ d ∈ Ds, w'.heap[d]? = some (.deferred (some [])) ∧ w.heap.size ≤ d) → SimG ⟨P, w, I, fun _ => False, N, K, G0, Γ, D, R⟩ (look st) G a w' →
    LeavesInM Fence.wide n P fn a.tmps (Leaves w I rs) (Ds.map mark) .returning w'
  | [], w', _, _, S => leaves_of S q
  | d :: Ds, w', hn, hm, S => by
    obtain ⟨h1, h2⟩ := hm d List.mem_cons_self
    refine ⟨by simp, .inl ⟨d, _, rfl, run_takeDeferred h1, ?_⟩⟩
    rw [List.nodup_cons] at hn
    refine leavesM q Ds _ hn.2 (fun d' hd' => ?_) (S.book h1 rfl rfl (.inl h2))
    obtain ⟨h3, h4⟩ := hm d' (List.mem_cons_of_mem _ hd')
    have : d' ≠ d := by rintro rfl; exact hn.1 hd'
    exact ⟨(World.putObj_heap_other this).trans h3, h4⟩
theorem pcall_of_fw {P : Program} {Γ : List (Nat × AV)} {f : FuncId} {fn : Func} {c : Code} {N : Nat} {xs rs : List AV} (hf : P.funcs[f]? = some fn) (hb : fn.body = some c) (hnt : fn.ntmps = N) (hcal : xY P f = true)
    (hN : Nat.ble xs.length N = true) (h : ∀ w0 I0 G0, FW ⟨P, w0, I0, fun _ => False, N, 100000, G0, Γ, [], none⟩ c (params 0 xs) (Post P fn rs)) : z8 P Γ f xs rs := by
  refine ⟨hcal, fun w I args hv hgl hr => (callsIn_wide (n := 0)).1 (callsIn_of_wp_marks hf hb trivial ?_)⟩
  rw [hnt]
  have S0 := start_simG (P := P) (K := 100000) hv hgl hr (Nat.le_of_ble_eq_true hN)
  refine wpIn_mono (h w I (gh0 I) _ w ⟨_, _, _, _, _, Sw.start _, _, S0⟩ 0) ?_
  rintro e a' w' ⟨st', q, w1, I1, E1, G1, Ds, sw, G, S⟩
  have fin : retAll P st' fn.results.toList rs → LeavesInM Fence.wide 0 P fn a'.tmps (Leaves w I rs) a'.defers .returning w' := by
    intro q
    have hd : a'.defers = Ds.map mark := S.dfs
    rw [hd]
    exact leavesM q Ds w' sw.nodup (fun d hd => ⟨(sw.mark_at S d hd).1, (sw.mark_at S d hd).2.1⟩) (sw.back S)
  cases e <;> first | exact fin q | exact q.elim
end Go.Al
namespace Go.Al
open Go.RowKit
theorem le_book {w : World} {I : Nat → Nat → Prop} {d : Nat} {o o' : Obj} (h : w.heap[d]? = some o) (ho : isBook o = true) (ho' : isBook o' = true) : Le w I (w.putObj d o') I := by
  have hlt : d < w.heap.size := (Array.getElem?_eq_some_iff.1 h).1
  have hsame : (w.putObj d o').heap[d]? = some o' := World.putObj_heap_same hlt
  intro b n hi
  refine ⟨hi, ?_⟩
  by_cases e : b = d
  · subst e
    refine ⟨by rw [cell_book hsame ho', cell_book h ho], fun es ck h1 => ?_⟩
    rw [h] at h1; cases h1; cases ho
  · exact zy (World.putObj_heap_other e)
def okT (N : Nat) : St → Bool
  | [] => true
  | (k, x) :: st => Nat.blt k N && (match x with | .imm _ => true | .ptr g _ => Nat.ble 50000 g | _ => false) && okT N st
theorem okT_spec {N : Nat} : ∀ {T : St}, okT N T = true → ∀ k, has T k = true → (∃ x, look T k = .imm x) ∨ ∃ g o, look T k = .ptr g o ∧ 50000 ≤ g
  | [], _, k, h => by simp [has] at h
  | (j, x) :: T, h, k, hk => by
    simp only [okT, Bool.and_eq_true] at h
    simp only [look, upd]
    simp only [has, Bool.or_eq_true] at hk
    cases hb : Nat.beq j k
    · exact okT_spec h.2 k (by simpa [hb] using hk)
    · cases x with
      | imm x => exact .inl ⟨x, rfl⟩
      | ptr g o => exact .inr ⟨g, o, rfl, Nat.le_of_ble_eq_true h.1.2⟩
      | _ => exact absurd h.1.2 (by simp)
theorem look_in {T H : St} {k : Nat} (h : has T k = true) : look (T ++ H) k = look T k := by
  rw [← xM]
  show upd (look H) T k = upd (fun _ => .dead) T k
  exact wx T k h
theorem look_out {T H : St} {k : Nat} (h : has T k = false) : look (T ++ H) k = look H k := by
  rw [← xM]; exact y5 _ _ _ h
theorem next_round {C : Cx} {T H H' st2 : St} {G G2 : Gh} {a0 a2 : Act} {w w3 : World} {D2 : List Deferred} {R : Option Nat} (S : SimG C (look (T ++ H)) G a0 w)
    (S3 : SimG ⟨C.P, C.w0, C.I0, C.E, C.N, C.K, C.G0, C.Γ, D2, R⟩ (look st2) G2 a2 w3) (hle : Le w G.I w3 G2.I) (hrel : ∀ g, 50000 ≤ g → G2.blk g = G.blk g)
    (hT : okT C.N T = true) (hH : x_ C.N H' = true) (hs : sub st2 H') : SimG C (look (T ++ H')) G2 a0 w3 := by
  have hown : ∀ k b, zR G2 k b (look (T ++ H') k) → zR G2 k b (look st2 k) := by
    intro k b h
    cases hk : has T k
    · rw [look_out hk] at h
      rcases xo hs k with e | e
      · rw [e] at h; simp only [zR] at h
      · rw [e] at h; exact h
    · rw [look_in hk] at h
      rcases okT_spec hT k hk with ⟨x, e⟩ | ⟨g, o, e, _⟩ <;> rw [e] at h <;> simp only [zR] at h
  refine ⟨S3.os, S3.tape, S3.output, S3.size, S3.block, S3.sub, S3.rel, S3.glob, S3.new, S3.val, S.nts, S.dfs, fun k => ?_, fun k j b hkj h1 h2 => S3.apart k j b hkj (hown k b h1) (hown j b h2)⟩
  cases hk : has T k
  · rw [look_out hk]
    rcases xm hH k with e | ⟨e, _⟩
    · rw [e]; simp only [Holds]
    · rcases xo hs k with e1 | e1
      · rw [e1]; simp only [Holds]
      · have h := S3.holds k
        rw [← e1] at h
        exact h.reown e (fun b _ _ h => h)
  · have hS := S.holds k
    rw [look_in hk] at hS ⊢
    rcases okT_spec hT k hk with ⟨x, e⟩ | ⟨g, o, e, hg⟩
    · rw [e] at hS ⊢
      simp only [Holds] at hS ⊢
      refine ⟨hS.1, ?_⟩
      obtain ⟨c, h1, h2⟩ := hS.2
      simp only [RepS] at h1
      exact ⟨c, by simp only [RepS]; exact RepC.mono hle _ _ h1, h2⟩
    · rw [e] at hS ⊢
      simp only [Holds] at hS ⊢
      refine ⟨hS.1, ?_⟩
      obtain ⟨c, h1, h2⟩ := hS.2
      simp only [RepS] at h1
      exact ⟨c, by simp only [RepS]; rw [hrel g hg]; exact h1, h2⟩
def putsSt : List Nat → List AV → St → St
  | p :: ps, x :: xs, st => putsSt ps xs ((p, .imm x) :: st)
  | _, _, st => st
theorem SimG.puts {C : Cx} {G : Gh} {w : World} : ∀ (ps : List Nat) (xs : List AV) (vs : List Value) (st : St) (a : Act), ps.all (fun p => Nat.blt p C.N) = true → zg w G.I xs vs → SimG C (look st) G a w →
    SimG C (look (putsSt ps xs st)) G { tmps := (ps.zip vs).foldl (fun t (p : Nat × Value) => t.setIfInBounds p.1 p.2) a.tmps, defers := a.defers } w
  | [], _, _, st, a, _, _, S => by simpa [putsSt] using S
  | p :: ps, [], vs, st, a, _, h, S => by simp only [zg] at h; subst h; simpa [putsSt] using S
  | p :: ps, x :: xs, vs, st, a, hp, h, S => by
    simp only [zg] at h
    obtain ⟨c, r, rfl, h1, h2⟩ := h
    simp only [List.all_cons, Bool.and_eq_true] at hp
    have S1 := S.put (d := p) (by simpa [Nat.blt_eq] using hp.1) (x := .imm x) (v := mkV x c) (zm.2 ⟨c, h1, rfl⟩)
    have S2 := SimG.puts ps xs r ((p, .imm x) :: st) (a.put (some p) (mkV x c)) hp.2 h2 S1
    simpa [putsSt, Act.put] using S2
def bodyQ (N : Nat) (T : St) (H : Nat → St) (ok : Nat → Prop) (Q : Exit → St → Prop) (i : Nat) : Exit → St → Prop
  | .normal, st => ok (i + 1) ∧ sub st (H (i + 1))
  | .exit id, st => ∃ Hx, x_ N Hx = true ∧ sub st Hx ∧ Q (.exit id) (T ++ Hx)
  | .ret, st => ∃ Hx, x_ N Hx = true ∧ sub st Hx ∧ Q .ret (T ++ Hx)
  | _, _ => False
def RJ (C1 : Cx) (T : St) (H : Nat → St) (ok : Nat → Prop) (Q : Exit → St → Prop) (a0 : Act) (l d : Nat) (rec : LoopState → Option Code → Loop) : Option Nat → (Nat → Nat → Prop) → World → Prop
  | some i, I, W => ∃ G : Gh, ok i ∧ G.I = I ∧ SimG C1 (look (T ++ H i)) G a0 W ∧ W.heap[l]? = some (.loop (rec .ready none)) ∧ W.heap[d]? = some (.deferred (some []))
  | none, I, W => ∃ (G : Gh) (c : Code) (Hx : St), G.I = I ∧ SimG C1 (look (T ++ Hx)) G a0 W ∧ W.heap[l]? = some (.loop (rec .done (some c))) ∧ W.heap[d]? = some (.deferred (some [])) ∧
      ((∃ id, c = .exit id ∧ Q (.exit id) (T ++ Hx)) ∨ (c = .ret ∧ Q .ret (T ++ Hx)))
theorem rj_grow {C1 : Cx} {T : St} {H : Nat → St} {ok : Nat → Prop} {Q : Exit → St → Prop} {a0 : Act} {l d : Nat} {rec : LoopState → Option Code → Loop} : Grow (RJ C1 T H ok Q a0 l d rec) := by
  intro j I w I' w' h hb hle hn hv
  have keep : ∀ {k : Nat} {o : Obj}, w.heap[k]? = some o → w'.heap[k]? = some o := fun h => (hb.block _ (Array.getElem?_eq_some_iff.1 h).1).trans h
  cases j with
  | some i =>
    obtain ⟨G, h0, rfl, S, h1, h2⟩ := h
    exact ⟨{ G with I := I' }, h0, rfl, S.called hb hle hn hv, keep h1, keep h2⟩
  | none =>
    obtain ⟨G, c, Hx, rfl, S, h1, h2, h3⟩ := h
    exact ⟨{ G with I := I' }, c, Hx, rfl, S.called hb hle hn hv, keep h1, keep h2, h3⟩
theorem not_own {C : Cx} {A : Nat → SV} {G : Gh} {a : Act} {w : World} (S : SimG C A G a w) {k : Nat} {o : Obj} (h : w.heap[k]? = some o) (ho : isBook o = true) : ¬ own A G k := by
  rintro ⟨j, hj⟩
  have := (S.holds j).kind hj h
  rw [ho] at this; cases this
theorem rj_round {P : Program} {w1 : World} {I1 : Nat → Nat → Prop} {E1 : Nat → Prop} {N : Nat} {G1 : Gh} {Γ : List (Nat × AV)} {T : St} {H : Nat → St} {ok : Nat → Prop} {Q : Exit → St → Prop} {a0 : Act} {l d m : Nat} {fn : FuncId} {ps : Array Tmp} {assign body : Code}
    {L : List (List AV)} (hD0 : a0.defers = []) (hl1 : w1.heap.size ≤ l) (hT : okT N T = true) (hld : l ≠ d) (hH : ∀ i, x_ N (H i) = true) (hps : ∀ xs ∈ L, xs.length = ps.size) (hpN : ps.toList.all (fun p => Nat.blt p N) = true)
    (hbody : ∀ i xs, ok i → L[i]? = some xs → ∀ w1 I1 E1 G1 R, AW ⟨P, w1, I1, E1, N, 50000, G1, Γ, [], R⟩ assign (putsSt ps.toList xs (T ++ H i))
      (thn (fun st1 => ∀ w1 I1 E1 G1, AW ⟨P, w1, I1, E1, N, 50000, G1, Γ, [], R⟩ body st1 (bodyQ N T H ok Q i)) (fun _ _ => False)))
    {i : Nat} {xs : List AV} {I : Nat → Nat → Prop} {W : World} {vs : List Value} (hx : L[i]? = some xs)
    (hj : RJ ⟨P, w1, I1, E1, N, 100000, G1, Γ, [], none⟩ T H ok Q a0 l d (fun st pe => { state := st, pending := pe, fn, tmps := a0.tmps, params := ps, assign, body, defers := d }) (some i) I W) (hv : zg W I xs vs) :
    YieldAt (fen none) m P l (List.toArray vs) W (YPost (RJ ⟨P, w1, I1, E1, N, 100000, G1, Γ, [], none⟩ T H ok Q a0 l d (fun st pe => { state := st, pending := pe, fn, tmps := a0.tmps, params := ps, assign, body, defers := d })) I W (some (i + 1)) none) := by
  obtain ⟨G, hok, rfl, S, hl, hd⟩ := hj
  have hlen : (List.toArray vs).size = ps.size := by
    have := yy hv
    rw [hps xs (List.mem_of_getElem? hx)] at this
    simpa using this
  have hy := run_yield (P := P) (args := List.toArray vs) hl hlen
  refine ⟨fn, _, assign, body, hy, roundIn_of_wpIn trivial ?_⟩
  have Sp := SimG.puts ps.toList xs vs _ a0 hpN hv S
  have htm : (ps.zip (List.toArray vs)).foldl (fun (t : Array Value) (p : Nat × Value) => t.setIfInBounds p.1 p.2) a0.tmps = (ps.toList.zip vs).foldl (fun t (p : Nat × Value) => t.setIfInBounds p.1 p.2) a0.tmps := by
    rw [← Array.foldl_toList]
    simp
  have Sa := (Sp.switch 50000).redefer [] (some l)
  rw [hD0] at Sa
  have haw := hbody i xs hok hx W G.I _ G (some l) _ W ⟨G, Sa⟩ m
  have hact : ({ tmps := (ps.zip (List.toArray vs)).foldl (fun (t : Array Value) (p : Nat × Value) => t.setIfInBounds p.1 p.2) a0.tmps, defers := [] } : Act) = { tmps := (ps.toList.zip vs).foldl (fun t (p : Nat × Value) => t.setIfInBounds p.1 p.2) a0.tmps, defers := [] } := by rw [htm]
  refine hact ▸ wpIn_mono haw ?_
  rintro e a1 W2 ⟨st1, q, G2, S2⟩
  cases e with
  | normal =>
    have hl2 := (S2.block l (Array.getElem?_eq_some_iff.1 hl).1 (not_own Sp hl rfl)).trans hl
    have hd2 := (S2.block d (Array.getElem?_eq_some_iff.1 hd).1 (not_own Sp hd rfl)).trans hd
    refine ⟨_, run_beginRound hl2 rfl, ?_⟩
    have S2' := Sp.back (K := 50000) (by show 50000 ≤ 100000; omega) S2
    have S3 := S2'.book hl2 (o' := .loop { state := .busy, pending := none, fn, tmps := a0.tmps, params := ps, assign, body, defers := d }) rfl rfl (.inl hl1)
    have hle23 : Le W2 G2.I (W2.putObj l (.loop { state := .busy, pending := none, fn, tmps := a0.tmps, params := ps, assign, body, defers := d })) G2.I := le_book hl2 rfl rfl
    have hl3 : (W2.putObj l (.loop { state := .busy, pending := none, fn, tmps := a0.tmps, params := ps, assign, body, defers := d })).heap[l]? = some (.loop { state := .busy, pending := none, fn, tmps := a0.tmps, params := ps, assign, body, defers := d }) := World.putObj_heap_same (Array.getElem?_eq_some_iff.1 hl2).1
    have hd3 : (W2.putObj l (.loop { state := .busy, pending := none, fn, tmps := a0.tmps, params := ps, assign, body, defers := d })).heap[d]? = some (.deferred (some [])) := (World.putObj_heap_other (Ne.symm hld)).trans hd2
    generalize (W2.putObj l (.loop { state := .busy, pending := none, fn, tmps := a0.tmps, params := ps, assign, body, defers := d })) = W3 at S3 hle23 hl3 hd3 ⊢
    refine wpIn_mono (q W3 G2.I _ G2 a1 W3 ⟨G2, S3.switch 50000⟩ m) ?_
    rintro e a3 W4 ⟨st3, q3, G3, S4⟩
    have S4' := S3.back (K := 50000) (by show 50000 ≤ 100000; omega) S4
    have hl4 := (S4.block l (Array.getElem?_eq_some_iff.1 hl3).1 (not_own S3 hl3 rfl)).trans hl3
    have hd4 := (S4.block d (Array.getElem?_eq_some_iff.1 hd3).1 (not_own S3 hd3 rfl)).trans hd3
    have hle : Le W G.I W4 G3.I := (S2.sub.trans hle23).trans S4.sub
    have hrel : ∀ g, 50000 ≤ g → G3.blk g = G.blk g := fun g hg => (S4.rel g hg).1.trans (S2.rel g hg).1
    have fin : ∀ (jump : Option Code) (Hx : St), x_ N Hx = true → sub st3 Hx → ∃ W5, (Instr.endRound l jump).run P W4 = .ok (.bool jump.isNone) W5 ∧ Le W G.I W5 G3.I ∧ ValI W5 G3.I ∧
        SimG ⟨P, w1, I1, E1, N, 100000, G1, Γ, [], none⟩ (look (T ++ Hx)) G3 a0 W5 ∧ W5.heap[l]? = some (.loop { state := if jump.isNone then .ready else .done, pending := jump, fn, tmps := a0.tmps, params := ps, assign, body, defers := d }) ∧ W5.heap[d]? = some (.deferred (some [])) := by
      intro jump Hx hres hsub
      have Sn := next_round (C := ⟨P, w1, I1, E1, N, 100000, G1, Γ, [], none⟩) S S4' hle hrel hT hres hsub
      have S5 := Sn.book hl4 (o' := .loop { state := if jump.isNone then .ready else .done, pending := jump, fn, tmps := a0.tmps, params := ps, assign, body, defers := d }) rfl rfl (.inl hl1)
      exact ⟨_, run_endRound jump hl4, hle.trans (le_book hl4 rfl rfl), S5.val, S5, World.putObj_heap_same (Array.getElem?_eq_some_iff.1 hl4).1, (World.putObj_heap_other (Ne.symm hld)).trans hd4⟩
    cases e with
    | normal =>
      obtain ⟨W5, h1, h2, h3, h4, h5, h6⟩ := fin none _ (hH (i + 1)) q3.2
      exact ⟨_, W5, h1, true, G3.I, rfl, h2, h3, G3, q3.1, rfl, h4, h5, h6⟩
    | exit id =>
      obtain ⟨Hx, k1, k2, k3⟩ := q3
      obtain ⟨W5, h1, h2, h3, h4, h5, h6⟩ := fin (some (.exit id)) Hx k1 k2
      exact ⟨_, W5, h1, false, G3.I, rfl, h2, h3, G3, _, Hx, rfl, h4, h5, h6, .inl ⟨id, rfl, k3⟩⟩
    | ret =>
      obtain ⟨Hx, k1, k2, k3⟩ := q3
      obtain ⟨W5, h1, h2, h3, h4, h5, h6⟩ := fin (some .ret) Hx k1 k2
      exact ⟨_, W5, h1, false, G3.I, rfl, h2, h3, G3, _, Hx, rfl, h4, h5, h6, .inr ⟨rfl, k3⟩⟩
    | goto t => exact q3.elim
    | panic ch => exact q3.elim
    | outgrown => exact q3.elim
  | exit id => exact q.elim
  | goto t => exact q.elim
  | ret => exact q.elim
  | panic ch => exact q.elim
  | outgrown => exact q.elim
theorem simx_after {C : Cx} {w1 : World} {I1 : Nat → Nat → Prop} {E1 : Nat → Prop} {G1 : Gh} {Ds : List Nat} (hR : C.R = none) (sw : Sw C w1 I1 E1 G1 Ds) {X : St} {G : Gh} {a : Act} {W : World} {d : Nat} (hd1 : w1.heap.size ≤ d)
    (hd : W.heap[d]? = some (.deferred (some []))) (S : SimG (upC C w1 I1 E1 G1 []) (look X) G { tmps := a.tmps, defers := [] } W) (ha : a.defers = Ds.map mark) :
    SimX C (look X) { a with defers := [{ target := .collected d, args := #[] }] ++ a.defers } W := by
  have Sb := sw.back S
  refine ⟨W, G.I, own (look X) G, G, d :: Ds, ⟨Sb.os, Sb.tape, Sb.output, Sb.size, Sb.block, fun b h => ?_, Sb.sub, Sb.rel, Sb.new, fun d' h => ?_, ?_⟩, G, ?_⟩
  · rcases h with h | ⟨k, hk⟩
    · exact .inl (Nat.le_trans Sb.size h)
    · exact ((Sb.holds k).owned hk).1
  · rcases List.mem_cons.1 h with rfl | h
    · exact ⟨(Array.getElem?_eq_some_iff.1 hd).1, not_own Sb hd rfl, Nat.le_trans sw.size hd1, hd⟩
    · obtain ⟨h1, h2, h3⟩ := sw.mark_at S d' h
      exact ⟨(Array.getElem?_eq_some_iff.1 h1).1, not_own Sb h1 rfl, h2, h1⟩
  · rw [List.nodup_cons]
    refine ⟨fun h => ?_, sw.nodup⟩
    have := (sw.mark_at S d h).2.2
    omega
  · have S1 := (S.switch C.K).redefer ((d :: Ds).map mark) C.R
    have e : ({ a with defers := [{ target := .collected d, args := #[] }] ++ a.defers } : Act) = { tmps := a.tmps, defers := (d :: Ds).map mark } := by rw [ha]; rfl
    rw [e]; exact S1
theorem fw_range {P : Program} {w0 : World} {I0 : Nat → Nat → Prop} {E : Nat → Prop} {N : Nat} {G0 : Gh} {Γ : List (Nat × AV)} {gop : Operand} {ps : Array Tmp} {assign body : Code} {st : St} {Q : Exit → St → Prop} {f : FuncId} {caps : List AV} {L : List (List AV)}
    (T : St) (H : Nat → St) (ok : Nat → Prop) (ok0 : ok 0) (hseq : SeqC P Γ f caps L) (hg : opV (look st) gop = some (.fn (.func f) [] caps)) (h0 : sub st (T ++ H 0)) (hT : okT N T = true) (hH : ∀ i, x_ N (H i) = true)
    (hps : ∀ xs ∈ L, xs.length = ps.size) (hpN : ps.toList.all (fun p => Nat.blt p N) = true)
    (hbody : ∀ i xs, ok i → L[i]? = some xs → ∀ w1 I1 E1 G1 R, AW ⟨P, w1, I1, E1, N, 50000, G1, Γ, [], R⟩ assign (putsSt ps.toList xs (T ++ H i))
      (thn (fun st1 => ∀ w1 I1 E1 G1, AW ⟨P, w1, I1, E1, N, 50000, G1, Γ, [], R⟩ body st1 (bodyQ N T H ok Q i)) (fun _ _ => False)))
    (hdone : ok L.length → Q .normal (T ++ H L.length)) : FW ⟨P, w0, I0, E, N, 100000, G0, Γ, [], none⟩ (.rangeFunc gop ps assign body) st Q := by
  rintro a w ⟨w1, I1, E1, G1, Ds, sw, G, S⟩ n
  obtain ⟨c, h1, h2⟩ := S.opV hg
  simp only [RepC, zg] at h1
  obtain ⟨fs, gs, rfl, rfl, hgs⟩ := h1
  have hev : a.eval gop = .func (.func f) #[] (List.toArray gs) := by rw [h2]; rfl
  have hda : a.defers = Ds.map mark := S.dfs
  have hsz : w1.heap.size ≤ w.heap.size := S.size
  refine wpIn_rangeFunc ?_
  intro fn hfn
  obtain ⟨W1, hW1⟩ : ∃ W1, (w.alloc (.deferred (some []))).alloc (.loop { state := .ready, pending := none, fn, tmps := a.tmps, params := ps, assign, body, defers := w.heap.size }) = W1 := ⟨_, rfl⟩
  have hL1 : W1.heap[w.heap.size + 1]? = some (.loop { state := .ready, pending := none, fn, tmps := a.tmps, params := ps, assign, body, defers := w.heap.size }) := by
    rw [← hW1]; have := World.alloc_heap_new (w.alloc (.deferred (some []))) (.loop { state := .ready, pending := none, fn, tmps := a.tmps, params := ps, assign, body, defers := w.heap.size }); rwa [World.size_alloc] at this
  have hK1 : W1.heap[w.heap.size]? = some (.deferred (some [])) := by
    rw [← hW1]; exact (Below.heap_alloc _ _ _ (by simp)).trans (World.alloc_heap_new w _)
  have S1 : SimG ⟨P, w1, I1, E1, N, 100000, G1, Γ, [], none⟩ (look (T ++ H 0)) G { tmps := a.tmps, defers := [] } W1 := by
    rw [← hW1]; exact (((S.weak (xo h0)).newBook _).newBook _).redefer [] none
  have hle1 : Le w G.I W1 G.I := by
    intro b o hi
    refine ⟨hi, zy ?_⟩
    have hb := S.val b o hi
    rw [← hW1, Below.heap_alloc _ _ _ (by simp; omega), Below.heap_alloc _ _ _ hb]
  refine ⟨w.heap.size + 1, [{ target := .collected w.heap.size, args := #[] }], W1, { target := .fn (.func f) (List.toArray gs), args := #[.func (.yield (w.heap.size + 1)) #[] #[]] }, W1, f,
    #[.func (.yield (w.heap.size + 1)) #[] #[]] ++ List.toArray gs, W1, ?_, ?_, fun _ _ => trivial, ?_, fun h => by simp [fen, Fence.wide] at h, ?_⟩
  · rw [← hW1]; exact run_enterLoop_outer _ _ _ _ _
  · simp only [resolve, hev]
    simp [go_sem]
  · simp only [invoke, run_callFunc hseq.1]
  · have hcall := hseq.2 (n - 1) (w.heap.size + 1) (RJ ⟨P, w1, I1, E1, N, 100000, G1, Γ, [], none⟩ T H ok Q { tmps := a.tmps, defers := [] } (w.heap.size + 1) w.heap.size (fun st pe => { state := st, pending := pe, fn, tmps := a.tmps, params := ps, assign, body, defers := w.heap.size }))
      W1 G.I gs rj_grow S1.val S1.glob (zg.mono hle1 _ _ hgs)
      (fun i xs I W vs hx hj hv => rj_round rfl (by omega) hT (by omega) hH hps hpN hbody hx hj hv) ⟨G, ok0, rfl, S1, hL1, hK1⟩
    refine hcall.mono ?_
    rintro e W2 ⟨v, I', rfl, ⟨G2, hok, _, S2, hl2, hd2⟩ | ⟨G2, c, Hx, _, S2, hl2, hd2, hc⟩⟩
    · refine ⟨none, _, run_endLoop hl2 (by simp), T ++ H L.length, hdone hok, ?_⟩
      exact simx_after rfl sw hsz ((World.putObj_heap_other (by omega)).trans hd2) (S2.book hl2 rfl rfl (.inl (by show w1.heap.size ≤ _; omega))) hda
    · refine ⟨some c, _, run_endLoop hl2 (by simp), ?_⟩
      have hx := simx_after rfl sw hsz ((World.putObj_heap_other (by omega)).trans hd2) (S2.book hl2 (o' := .loop { state := .exhausted, pending := some c, fn, tmps := a.tmps, params := ps, assign, body, defers := w.heap.size }) rfl rfl (.inl (by show w1.heap.size ≤ _; omega))) hda
      rcases hc with ⟨id, rfl, hq⟩ | ⟨rfl, hq⟩
      · exact wpIn_exit ⟨_, hq, hx⟩
      · exact wpIn_ret ⟨_, hq, hx⟩
end Go.Al
namespace Go.Proofs
open Go Go.Al
theorem plC_app (i : Nat) : ∀ (k : Nat) (l m : List GScope), plC i k (l ++ m) = plC i k l ++ plC i (k + l.length) m
  | k, [], m => by simp [plC]
  | k, x :: l, m => by
    simp only [List.cons_append, plC, plC_app i (k + 1) l m, List.append_assoc, List.length_cons]
    rw [show k + 1 + l.length = k + (l.length + 1) by omega]
theorem plR_app : ∀ (i : Nat) (l m : List GRes), plR i (l ++ m) = plR i l ++ plR (i + l.length) m
  | i, [], m => by simp [plR]
  | i, x :: l, m => by
    simp only [List.cons_append, plR, plR_app (i + 1) l m, List.append_assoc, List.length_cons]
    rw [show i + 1 + l.length = i + (l.length + 1) by omega]
theorem nthC_at {l : List GScope} {k : Nat} (h : k < l.length) : l = l.take k ++ nthC l k :: l.drop (k + 1) := by
  have : nthC l k = l[k] := by simp [nthC, nth, h]
  rw [this, List.getElem_cons_drop, List.take_append_drop]
theorem nthR_at {l : List GRes} {k : Nat} (h : k < l.length) : l = l.take k ++ nthR l k :: l.drop (k + 1) := by
  have : nthR l k = l[k] := by simp [nthR, nth, h]
  rw [this, List.getElem_cons_drop, List.take_append_drop]
theorem plC_at {i : Nat} {l : List GScope} {k m : Nat} (hk : k < l.length) (hm : m < (nthC l k).spans.length) : (plC i 0 l)[(plC i 0 (l.take k)).length + m]? = some (i, k, m) := by
  conv => lhs; arg 1; rw [nthC_at hk]
  have hlen : (l.take k).length = k := by rw [List.length_take]; omega
  rw [plC_app, List.getElem?_append_right (by omega), Nat.add_sub_cancel_left, Nat.zero_add, hlen, plC, List.getElem?_append_left (by simpa using hm)]
  simp [hm]
theorem pl_at {b : List GRes} {i k m : Nat} (hi : i < b.length) (hk : k < (nthR b i).scopes.length) (hm : m < (nthC (nthR b i).scopes k).spans.length) :
    (plR 0 b)[(plR 0 (b.take i)).length + (plC i 0 ((nthR b i).scopes.take k)).length + m]? = some (i, k, m) := by
  conv => lhs; arg 1; rw [nthR_at hi]
  have hlen : (b.take i).length = i := by rw [List.length_take]; omega
  rw [plR_app, Nat.add_assoc, List.getElem?_append_right (by omega), Nat.add_sub_cancel_left, Nat.zero_add, hlen, plR]
  have h1 := plC_at (i := i) hk hm
  rw [List.getElem?_append_left (List.getElem?_eq_some_iff.1 h1).1]
  exact h1
def spAt (b : List GRes) (p : Nat × Nat × Nat) : GSpan := nthS (nthC (nthR b p.1).scopes p.2.1).spans p.2.2
def rowAt (b : List GRes) (p : Nat × Nat × Nat) : List AV := [plav p, (spAt b p).av]
def seqB (b : List GRes) : List (List AV) := (plR 0 b).map (rowAt b)
theorem seqB_len (b : List GRes) : (seqB b).length = (plR 0 b).length := List.length_map ..
theorem seqB_two (b : List GRes) : ∀ xs ∈ seqB b, xs.length = 2 := by
  intro xs h
  obtain ⟨p, _, rfl⟩ := List.mem_map.1 h
  rfl
theorem seqB_get {b : List GRes} {i : Nat} {xs : List AV} (h : (seqB b)[i]? = some xs) : ∃ p, (plR 0 b)[i]? = some p ∧ xs = [plav p, (spAt b p).av] := by
  unfold seqB at h
  rw [List.getElem?_map] at h
  cases hp : (plR 0 b)[i]? with
  | none => rw [hp] at h; cases h
  | some p => rw [hp] at h; exact ⟨p, rfl, (Option.some.inj h).symm⟩
theorem seq_at {b : List GRes} {i k m : Nat} (hi : i < b.length) (hk : k < (nthR b i).scopes.length) (hm : m < (nthC (nthR b i).scopes k).spans.length) :
    (seqB b)[(plR 0 (b.take i)).length + (plC i 0 ((nthR b i).scopes.take k)).length + m]? = some [plav (i, k, m), (nthS (nthC (nthR b i).scopes k).spans m).av] := by
  unfold seqB
  rw [List.getElem?_map, pl_at hi hk hm]; rfl
theorem plR_mem' : ∀ {l m : List GRes} {p : Nat × Nat × Nat}, p ∈ plR m.length l → p.1 < (m ++ l).length ∧ p.2.1 < (nthR (m ++ l) p.1).scopes.length ∧ p.2.2 < (nthC (nthR (m ++ l) p.1).scopes p.2.1).spans.length
  | [], m, p, h => by simp [plR] at h
  | r :: l, m, p, h => by
    rw [plR] at h
    rcases List.mem_append.1 h with h | h
    · have hr : nthR (m ++ r :: l) m.length = r := by simp [nthR, nth]
      have h1 : p.1 = m.length := by
        have : ∀ (k : Nat) (cs : List GScope), p ∈ plC m.length k cs → p.1 = m.length := by
          intro k cs
          induction cs generalizing k with
          | nil => intro h; simp [plC] at h
          | cons c cs ih =>
            intro h
            rw [plC] at h
            rcases List.mem_append.1 h with h | h
            · obtain ⟨j, _, rfl⟩ := List.mem_map.1 h; rfl
            · exact ih _ h
        exact this _ _ h
      have h2 := plC_mem (i := m.length) (l := r.scopes) (m := []) (p := p) h
      rw [h1, hr]
      exact ⟨by simp, h2⟩
    · have := plR_mem' (l := l) (m := m ++ [r]) (p := p) (by simpa using h)
      simpa using this
theorem pl_mem {b : List GRes} {p : Nat × Nat × Nat} (h : p ∈ plR 0 b) : p.1 < b.length ∧ p.2.1 < (nthR b p.1).scopes.length ∧ p.2.2 < (nthC (nthR b p.1).scopes p.2.1).spans.length := plR_mem' (m := []) h
theorem pl_mem_iff {b : List GRes} {p : Nat × Nat × Nat} : p ∈ plR 0 b ↔ p.1 < b.length ∧ p.2.1 < (nthR b p.1).scopes.length ∧ p.2.2 < (nthC (nthR b p.1).scopes p.2.1).spans.length :=
  ⟨pl_mem, fun ⟨h1, h2, h3⟩ => List.mem_of_getElem? (pl_at h1 h2 h3)⟩
def zS : GSpan := ⟨List.replicate 16 0, List.replicate 8 0, List.replicate 8 0, ⟨#[]⟩, ⟨#[]⟩, 0, 0, 0, [], [], [], 0, ⟨#[]⟩⟩
def inB (b : List GRes) (p : Int × Int × Int) : Bool :=
  decide (0 ≤ p.1) && decide (p.1 < b.length) && (decide (0 ≤ p.2.1) && decide (p.2.1 < (nthR b p.1.toNat).scopes.length)) && (decide (0 ≤ p.2.2) && decide (p.2.2 < (nthC (nthR b p.1.toNat).scopes p.2.1.toNat).spans.length))
def natP (p : Int × Int × Int) : Nat × Nat × Nat := (p.1.toNat, p.2.1.toNat, p.2.2.toNat)
def intP (p : Nat × Nat × Nat) : Int × Int × Int := ((p.1 : Int), (p.2.1 : Int), (p.2.2 : Int))
def placeAv (p : Int × Int × Int) : AV := .agg [iv p.1, iv p.2.1, iv p.2.2]
def atS (b : List GRes) (p : Int × Int × Int) : GSpan := if inB b p then spAt b (natP p) else zS
theorem inB_iff {b : List GRes} {p : Int × Int × Int} : inB b p = true ↔ 0 ≤ p.1 ∧ p.1 < b.length ∧ (0 ≤ p.2.1 ∧ p.2.1 < (nthR b p.1.toNat).scopes.length) ∧ 0 ≤ p.2.2 ∧ p.2.2 < (nthC (nthR b p.1.toNat).scopes p.2.1.toNat).spans.length := by
  simp only [inB, Bool.and_eq_true, qa, and_assoc]
theorem inB_mem {b : List GRes} {p : Int × Int × Int} : inB b p = true ↔ ∃ q ∈ plR 0 b, intP q = p := by
  rw [inB_iff]
  constructor
  · rintro ⟨h1, h2, ⟨h3, h4⟩, h5, h6⟩
    refine ⟨natP p, pl_mem_iff.2 ⟨by show p.1.toNat < _; omega, by show p.2.1.toNat < (nthR b p.1.toNat).scopes.length; omega, by show p.2.2.toNat < (nthC (nthR b p.1.toNat).scopes p.2.1.toNat).spans.length; omega⟩, ?_⟩
    obtain ⟨x, y, z⟩ := p
    simp only [intP, natP]
    dsimp only at h1 h3 h5
    rw [Int.toNat_of_nonneg h1, Int.toNat_of_nonneg h3, Int.toNat_of_nonneg h5]
  · rintro ⟨q, hq, rfl⟩
    obtain ⟨h1, h2, h3⟩ := pl_mem hq
    simp only [intP, Int.toNat_natCast]
    omega
theorem inB_nat {b : List GRes} {q : Nat × Nat × Nat} (h : q ∈ plR 0 b) : inB b (intP q) = true := inB_mem.2 ⟨q, h, rfl⟩
theorem atS_nat {b : List GRes} {q : Nat × Nat × Nat} (h : q ∈ plR 0 b) : atS b (intP q) = spAt b q := by
  unfold atS; rw [if_pos (inB_nat h)]; rfl
end Go.Proofs
namespace Go.Al
section
variable {C : Cx} {A : Nat → SV} {d : Nat} {ty : TypeId} {pos : String} {af : Array Edge} {gd : Option (Nat × Bool)} {x y : Operand} {T T' : TypeId}
theorem rep_fn {w : World} {I : Nat → Nat → Prop} {f : Fn} {a b : List AV} {v : Value} (h : Rep w I (.fn f a b) v) : ∃ fs gs, v = .func f fs gs := by
  obtain ⟨c, h1, h2⟩ := h
  simp only [RepC] at h1
  obtain ⟨fs, gs, rfl, _⟩ := h1
  exact ⟨_, _, h2⟩
theorem run_eqNF {P : Program} {T : TypeId} {f : Fn} {fs gs : Array Value} {w : World} {p1 p2 : Array TypeId} {p3 : Bool} (hT : P.underlying T = some (.func p1 p2 p3)) (n : Nat) : (Op.equalIn (n + 1) T (.func f fs gs) .nilFunc).run P w = .ok false w := by
  simp [Op.equalIn, zM hT]
theorem s_eqNF {f : Fn} {a b : List AV} {p1 p2 : Array TypeId} {p3 : Bool} (hN : Nat.blt d C.N = true) (hx : opV A x = some (.fn f a b)) (hy : opV A y = some (.v .nilFunc)) (hT : C.P.underlying T = some (.func p1 p2 p3)) :
    zZ C ⟨some d, .binOp .eql T x y T', ty, pos, af, gd⟩ (opR x ++ opR y) [] A [(d, .imm (.v (.bool false)))] :=
  zZ.op2 rfl hN hx hy fun w I ρ h1 h2 => by
    obtain ⟨fs, gs, e⟩ := rep_fn h1
    have e2 : ρ y = .nilFunc := rep_val h2 rfl
    exact ⟨_, run_eql (by rw [e, e2]; rfl) (by rw [e, e2]; rfl) (by rw [e, e2]; exact run_equal (run_eqNF hT)), yw w I rfl⟩
end
end Go.Al
namespace Go.Proofs
open Go Go.Al
set_option maxRecDepth 10000
end Go.Proofs
namespace Go.Proofs
open Go Go.Al
set_option maxRecDepth 10000
end Go.Proofs
namespace Go.Proofs
open Go Go.Al
set_option maxRecDepth 10000
end Go.Proofs
namespace Go.Proofs
open Go Go.Al
set_option maxRecDepth 10000
set_option maxHeartbeats 4000000 in
theorem rspan28_c (b : List GRes) (p : Int × Int × Int) (h : inB b p = true) : z8 Try.prog Γ0 32 [z9 b, placeAv p] [(atS b p).av] := by
  have h9 := inB_iff.1 h
  have n1 : (p.1.toNat : Int) = p.1 := Int.toNat_of_nonneg (by omega)
  have n2 : (p.2.1.toNat : Int) = p.2.1 := Int.toNat_of_nonneg (by omega)
  have n3 : (p.2.2.toNat : Int) = p.2.2 := Int.toNat_of_nonneg (by omega)
  refine zq Try.func32 rfl Try.ntmps32 (by kernel_rfl) rfl fun w0 I0 G0 => ?_
  refine zF <| zC <| g_uG (zV 1002 rfl rfl rfl rfl) rfl <| g_uG (zV 1003 rfl rfl rfl rfl) rfl <| g_uG (zu 1004 rfl rfl rfl tZ67) rfl <| zH <| zA <| zF <| zs yR <| g_u (zI rfl rfl fa24_0 rfl) <| g_u (zG rfl rfl rfl tA22 tS22 rfl rfl) <| g_u (zI rfl rfl fa42_0 rfl) <| g_u (zG rfl rfl rfl tA3 tS3 rfl rfl) ?_
  refine g_u (zK rfl rfl rfl Try.underlying22 tS71 (by omega) (xX (d := gr0) (show p.1.toNat < b.length by omega))) ?_
  refine g_u (zJ rfl rfl fa71_1 rfl rfl) <| g_u (zO rfl rfl tA69 tS69 rfl rfl) <| g_u (zI rfl rfl fa42_1 rfl) <| g_u (zG rfl rfl rfl tA3 tS3 rfl rfl) ?_
  refine g_u (zK rfl rfl rfl Try.underlying69 tS75 (by omega) (xX (d := gc0) (show p.2.1.toNat < (nthR b p.1.toNat).scopes.length by omega))) ?_
  refine g_u (zJ rfl rfl fa75_2 rfl rfl) <| g_u (zO rfl rfl tA73 tS73 rfl rfl) <| g_u (zI rfl rfl fa42_2 rfl) <| g_u (zG rfl rfl rfl tA3 tS3 rfl rfl) ?_
  refine g_u (zK rfl rfl rfl Try.underlying73 tS67 (by omega) (xX (d := gs0) (show p.2.2.toNat < (nthC (nthR b p.1.toNat).scopes p.2.1.toNat).spans.length by omega))) ?_
  refine g_u (zO rfl rfl tA67 tS67 rfl (by first | exact getS_w (GSpan.width _) rfl | rfl)) ?_
  refine g_u (zY rfl rfl rfl tS67 (by first | exact beqW (GSpan.width _) | rfl) (by first | exact setS_w (z67_w.trans (GSpan.width _).symm) rfl | rfl)) ?_
  refine zH ⟨by kernel_rfl, ?_⟩
  refine zA <| zd ?_
  exact ⟨⟨_, _, _, _, _, _, _, rfl, rfl, tA67, tS67, rfl, rfl, (rfl : toAV _ = some _).trans (congrArg some (by (unfold atS; rw [h]; rfl)))⟩, trivial⟩
set_option maxHeartbeats 4000000 in
theorem all1_c (b : List GRes) (hw : wtB b ≤ 9000000) : SeqC Try.prog Γ0 35 [.cp (z9 b)] (seqB b) := by
  have ql := wB GRes.wt (fun e => by unfold GRes.wt; omega) b
  have qw : wtB b = ya GRes.wt b := rfl
  refine seqc_of Try.func35 rfl Try.ntmps35 (by kernel_rfl) rfl rfl fun n l J hJ hy => ?_
  refine xD ?_
  refine yV hJ (fun w0 G0 => ?_)
  refine g_u (zJ rfl rfl fa24_0 rfl rfl) <| g_u (zO rfl rfl tA22 tS22 rfl rfl) <| g_u (yF rfl rfl Try.underlying22) <| g_u (zB rfl rfl) ?_
  refine zH ⟨rfl, ?_⟩
  refine zw <| wy ?_
  refine awj_loop' (fun i : Nat => [(0, .imm (.v (.func (.yield l) #[] #[]))), (1, .imm (.cp (z9 b))), (9, .imm (iv (b.length : Int))), (10, .imm (iv (i : Int)))]) (fun i : Nat => some (plR 0 (b.take i)).length) (fun i => i ≤ b.length) (fun i => b.length - i) (0) (rfl) ?_ ⟨rfl, rfl, zb rfl (by rw [List.length_map]), rfl, trivial⟩ ?_
  · exact Nat.zero_le _
  · rintro i h1; have h1 : i ≤ b.length := h1
    refine xD ?_
    refine yV hJ (fun w0 G0 => ?_)
    refine g_u (y8 rfl rfl rfl) ?_
    refine zH ⟨rfl, ?_⟩
    refine zw <| xD ?_
    refine awj_cond rfl (fun hb1 => ?_) (fun hb1 => ?_)
    · have hi : i < b.length := by have := of_decide_eq_true hb1; (try simp only [List.length_map] at this); omega
      have hc1 := sumBy_mem GRes.wt (nthR_mem hi)
      have hc2 : (nthR b i).wt = 1 + wtAs (nthR b i).attrs + ya GScope.wt (nthR b i).scopes := rfl
      have hcl := wB GScope.wt (fun e => by unfold GScope.wt; omega) (nthR b i).scopes
      refine awj_skip <| zw <| xD <| wy <| xD ?_
      refine yV hJ (fun w0 G0 => ?_)
      refine g_u (zB rfl rfl) <| g_u (zE rfl rfl) ?_
      refine zH ⟨rfl, ?_⟩
      refine zw <| xD ?_
      refine yV hJ (fun w0 G0 => ?_)
      refine g_u (zJ rfl rfl fa24_0 rfl rfl) <| g_u (zO rfl rfl tA22 tS22 rfl rfl) <| g_u (zB rfl rfl) ?_
      refine g_u (zK rfl rfl rfl Try.underlying22 tS71 (by omega) (ixR hi)) ?_
      refine g_u (zJ rfl rfl fa71_1 rfl rfl) <| g_u (zO rfl rfl tA69 tS69 rfl rfl) <| g_u (zE rfl rfl) ?_
      refine zH ⟨rfl, ?_⟩
      refine zw <| xD ?_
      refine yV hJ (fun w0 G0 => ?_)
      refine g_u (zB rfl rfl) <| g_u (yF rfl rfl Try.underlying69) <| g_u (zB rfl rfl) ?_
      refine zH ⟨rfl, ?_⟩
      refine zw <| wy ?_
      refine awj_loop' (fun k : Nat => [(0, .imm (.v (.func (.yield l) #[] #[]))), (1, .imm (.cp (z9 b))), (9, .imm (iv (b.length : Int))), (10, .imm (iv (i : Int))), (3, .imm (iv (i : Int))), (4, .imm (.sl 3 ((nthR b i).scopes.map GScope.av))), (20, .imm (iv ((nthR b i).scopes.length : Int))), (21, .imm (iv (k : Int)))]) (fun k : Nat => some ((plR 0 (b.take i)).length + (plC i 0 ((nthR b i).scopes.take k)).length)) (fun k => k ≤ (nthR b i).scopes.length) (fun k => (nthR b i).scopes.length - k) (0) (rfl) ?_ ⟨rfl, rfl, rfl, rfl, rfl, rfl, zb rfl (by rw [List.length_map]), rfl, trivial⟩ ?_
      · exact Nat.zero_le _
      · rintro k g1; have g1 : k ≤ (nthR b i).scopes.length := g1
        refine xD ?_
        refine yV hJ (fun w0 G0 => ?_)
        refine g_u (y8 rfl rfl rfl) ?_
        refine zH ⟨rfl, ?_⟩
        refine zw <| xD ?_
        refine awj_cond rfl (fun hb2 => ?_) (fun hb2 => ?_)
        · have hk : k < (nthR b i).scopes.length := by have := of_decide_eq_true hb2; (try simp only [List.length_map] at this); omega
          have hcx := sumBy_mem GScope.wt (nthC_mem hk)
          have hcq : (nthC (nthR b i).scopes k).wt = 1 + (nthC (nthR b i).scopes k).name.size + (nthC (nthR b i).scopes k).version.size + ya GSpan.wt (nthC (nthR b i).scopes k).spans := rfl
          have hsl := wB GSpan.wt (fun e => by unfold GSpan.wt; omega) (nthC (nthR b i).scopes k).spans
          refine awj_skip <| zw <| xD <| wy <| xD ?_
          refine yV hJ (fun w0 G0 => ?_)
          refine g_u (zB rfl rfl) <| g_u (zE rfl rfl) ?_
          refine zH ⟨rfl, ?_⟩
          refine zw <| xD ?_
          refine yV hJ (fun w0 G0 => ?_)
          refine g_u (zB rfl rfl) <| g_u (zB rfl rfl) ?_
          refine g_u (zK rfl rfl rfl Try.underlying69 tS75 (by omega) (ixC hk)) ?_
          refine g_u (zJ rfl rfl fa75_2 rfl rfl) <| g_u (zO rfl rfl tA73 tS73 rfl rfl) <| g_u (yF rfl rfl Try.underlying73) <| g_u (zB rfl rfl) ?_
          refine zH ⟨rfl, ?_⟩
          refine zw <| wy ?_
          refine awj_loop' (fun m : Nat => [(0, .imm (.v (.func (.yield l) #[] #[]))), (1, .imm (.cp (z9 b))), (9, .imm (iv (b.length : Int))), (10, .imm (iv (i : Int))), (3, .imm (iv (i : Int))), (4, .imm (.sl 3 ((nthR b i).scopes.map GScope.av))), (20, .imm (iv ((nthR b i).scopes.length : Int))), (21, .imm (iv (k : Int))), (5, .imm (iv (k : Int))), (29, .imm (iv ((nthC (nthR b i).scopes k).spans.length : Int))), (30, .imm (iv (m : Int)))]) (fun m : Nat => some (((plR 0 (b.take i)).length + (plC i 0 ((nthR b i).scopes.take k)).length) + m)) (fun m => m ≤ (nthC (nthR b i).scopes k).spans.length) (fun m => (nthC (nthR b i).scopes k).spans.length - m) (0) (rfl) ?_ ⟨rfl, rfl, rfl, rfl, rfl, rfl, rfl, rfl, rfl, zb rfl (by rw [List.length_map]), rfl, trivial⟩ ?_
          · exact Nat.zero_le _
          · rintro m f1; have f1 : m ≤ (nthC (nthR b i).scopes k).spans.length := f1
            refine xD ?_
            refine yV hJ (fun w0 G0 => ?_)
            refine g_u (y8 rfl rfl rfl) ?_
            refine zH ⟨rfl, ?_⟩
            refine zw <| xD ?_
            refine awj_cond rfl (fun hb3 => ?_) (fun hb3 => ?_)
            · have hm : m < (nthC (nthR b i).scopes k).spans.length := by have := of_decide_eq_true hb3; (try simp only [List.length_map] at this); omega
              refine awj_skip <| zw <| xD <| wy <| xD ?_
              refine yV hJ (fun w0 G0 => ?_)
              refine g_u (zB rfl rfl) <| g_u (zE rfl rfl) ?_
              refine zH ⟨rfl, ?_⟩
              refine zw <| xD <| awj_regionJ ?_
              refine goj_take 13 hJ rfl (fun w0 G0 => ?_)
              refine g_u (zB rfl rfl) <| g_u (zB rfl rfl) <| g_u (zB rfl rfl) <| g_u (zB rfl rfl) <| g_u (yc rfl tU38 us38 pl38 rfl rfl rfl rfl) <| g_u (zB rfl rfl) <| g_u (zB rfl rfl) ?_
              refine g_u (zK rfl rfl rfl Try.underlying69 tS75 (by omega) (ixC hk)) ?_
              refine g_u (zJ rfl rfl fa75_2 rfl rfl) <| g_u (zO rfl rfl tA73 tS73 rfl rfl) <| g_u (zB rfl rfl) ?_
              refine g_u (zK rfl rfl rfl Try.underlying73 tS67 (by omega) (ixS hm)) ?_
              refine g_u (zO rfl rfl tA67 tS67 rfl (by first | exact getS_w (GSpan.width _) rfl | rfl)) ?_
              refine zH ⟨rfl, ?_⟩
              refine goj_yield rfl rfl rfl rfl (fun I w vs hj hv => hy _ _ I w vs (seq_at hi hk hm) hj hv) ?_
              rintro (_ | _)
              · refine goj_end hJ rfl (fun w0 G0 => ?_)
                refine g_u (s_not rfl rfl) ?_
                refine zH ⟨rfl, ?_⟩
                refine zw <| awj_cond_true rfl <| awj_ret <| ret_blkJ <| ret_thnJ <| ret_thnJ <| ret_blkJ <| ret_blkJ <| ret_thnJ <| ret_thnJ <| ret_blkJ <| ret_blkJ <| ret_thnJ <| ret_thnJ <| ret_blkJ ?_
                first | exact ⟨.inr rfl, .inr rfl⟩ | exact ⟨.inl rfl, .inl (by rw [seqB_len, hin, List.take_length])⟩
              · refine goj_end hJ rfl (fun w0 G0 => ?_)
                refine g_u (s_not rfl rfl) ?_
                refine zH ⟨rfl, ?_⟩
                refine zw <| awj_cond_false rfl <| awj_skip <| normal_blkJ <| zw ?_
                refine yV hJ (fun w0 G0 => ?_)
                refine g_u (yh rfl rfl rfl) <| g_u (zB rfl rfl) ?_
                refine zH ⟨rfl, ?_⟩
                refine zw ?_
                refine ⟨m + 1, hm, ⟨rfl, rfl, rfl, rfl, rfl, rfl, rfl, rfl, rfl, rfl, zb rfl (by rw [ze (by omega) (by omega)]; rfl), trivial⟩, rfl, by (try dsimp only); omega⟩
            · have hmn : m = (nthC (nthR b i).scopes k).spans.length := by have := of_decide_eq_false hb3; (try simp only [List.length_map] at this); omega
              refine awj_exit <| wv <| wv <| exit_blkJ <| normal_blkJ <| zw ?_
              refine yV hJ (fun w0 G0 => ?_)
              refine g_u (yh rfl rfl rfl) <| g_u (zB rfl rfl) ?_
              refine zH ⟨rfl, ?_⟩
              refine zw ?_
              refine ⟨k + 1, hk, ⟨rfl, rfl, rfl, rfl, rfl, rfl, rfl, zb rfl (by rw [ze (by omega) (by omega)]; rfl), trivial⟩, ?_, by (try dsimp only); omega⟩
              (try dsimp only)
              rw [plC_take hk, List.length_append, List.length_map, List.length_range, hmn, Nat.add_assoc]
        · have hkn : k = (nthR b i).scopes.length := by have := of_decide_eq_false hb2; (try simp only [List.length_map] at this); omega
          refine awj_exit <| wv <| wv <| exit_blkJ <| normal_blkJ <| zw ?_
          refine yV hJ (fun w0 G0 => ?_)
          refine g_u (yh rfl rfl rfl) <| g_u (zB rfl rfl) ?_
          refine zH ⟨rfl, ?_⟩
          refine zw ?_
          refine ⟨i + 1, hi, ⟨rfl, rfl, rfl, zb rfl (by rw [ze (by omega) (by omega)]; rfl), trivial⟩, ?_, by (try dsimp only); omega⟩
          (try dsimp only)
          rw [plR_take hi, List.length_append, hkn, List.take_length]
    · have hin : i = b.length := by have := of_decide_eq_false hb1; (try simp only [List.length_map] at this); omega
      refine awj_exit <| wv <| wv <| exit_blkJ ?_
      first | exact ⟨.inr rfl, .inr rfl⟩ | exact ⟨.inl rfl, .inl (by rw [seqB_len, hin, List.take_length])⟩
theorem all_c (b : List GRes) : z8 Try.prog Γ0 23 [z9 b] [.fn (.func 35) [] [.cp (z9 b)]] := by
  refine zq Try.func23 rfl Try.ntmps23 (by kernel_rfl) rfl fun w0 I0 G0 => ?_
  refine zF <| zC <| g_uG (zV 1001 rfl rfl rfl rfl) rfl <| g_u (zE rfl rfl) <| zH <| zA <| zF <| aw_share 1001 rfl rfl <| zC <| g_u (s_makeFunc rfl rfl rfl) <| g_u (zE rfl rfl) <| zH <| zA <| zd ?_
  exact ⟨⟨(rfl : toAV (Al.look _ _) = some _).trans (congrArg some (by rfl)), rfl⟩, trivial⟩
end Go.Proofs
namespace Go.Proofs
open Go Go.Al
set_option maxRecDepth 10000
end Go.Proofs
namespace Go.Proofs
open Go Go.Al
end Go.Proofs
namespace Go.Proofs
open Go Go.Al
end Go.Proofs
namespace Go.Al
open Go.RowKit
section
variable {P : Program} {w : World} {p : Array (String × TypeId)}
end
theorem run_eqP_nil {P : Program} {w : World} {T e : TypeId} {a : Addr} (hT : P.underlying T = some (.pointer e)) : (Op.equal T (.pointer (some a)) (.pointer none)).run P w = .ok false w := by
  have h : ∀ d : Nat, (Op.equalIn (d + 1) T (.pointer (some a)) (.pointer none)).run P w = .ok false w := fun d => by simp [Op.equalIn, run_underlying hT]
  simpa [Op.equal, Op.maxDepth] using h 9999
section
variable {C : Cx} {A : Nat → SV} {d : Nat} {ty : TypeId} {pos : String} {af : Array Edge} {gd : Option (Nat × Bool)} {x y : Operand} {T T' : TypeId}
theorem SimG.ptr {C : Cx} {A : Nat → SV} {G : Gh} {a : Act} {w : World} (S : SimG C A G a w) {x : Operand} {g off : Nat} (h : Al.opS A x = .ptr g off) : a.eval x = .pointer (some ⟨G.blk g, off, none⟩) := by
  obtain ⟨c, h1, h2⟩ := S.opS h rfl
  simp only [RepS] at h1
  rw [h2, h1]; rfl
theorem SimG.ifp {C : Cx} {A : Nat → SV} {G : Gh} {a : Act} {w : World} (S : SimG C A G a w) {x : Operand} {T g off : Nat} (h : Al.opS A x = .ifp T g off) : a.eval x = .iface T (.pointer (some ⟨G.blk g, off, none⟩)) := by
  obtain ⟨c, h1, h2⟩ := S.opS h rfl
  simp only [RepS] at h1
  rw [h2, h1]; rfl
theorem yf {v : AV} (hN : Nat.blt d C.N = true) (hx : opV A x = some (.cp v)) : zZ C ⟨some d, .nilCheck x, ty, pos, af, gd⟩ (opR x) [] A [(d, .imm (.cp v))] :=
  zZ.op1 rfl hN hx fun w I ρ h => by
    obtain ⟨b, o, c, e, h1, h2⟩ := rep_cp h
    exact ⟨ρ x, by simp only [execOp, e]; rfl, h⟩
theorem zo {g off : Nat} (hN : Nat.blt d C.N = true) (hx : opS A x = .ptr g off) : zZ C ⟨some d, .nilCheck x, ty, pos, af, gd⟩ (opR x) [] A [(d, .ptr g off)] := by
  refine zZ.value rfl hN fun A' G a w hR S => ?_
  have hev := S.ptr ((zt hR).trans hx)
  refine ⟨a.eval x, by simp only [execOp, hev]; rfl, ?_⟩
  rw [hev]
  exact ⟨[.pointer (some ⟨G.blk g, off, none⟩)], by simp only [RepS], rfl⟩
end
end Go.Al
namespace Go.Al
open Go.RowKit
section
variable {C : Cx} {A : Nat → SV} {d : Nat} {ty : TypeId} {pos : String} {af : Array Edge} {gd : Option (Nat × Bool)} {x y : Operand} {T T' : TypeId} {h fl h2 fl2 : Value}
end
end Go.Al
namespace Go.Al
open Go.RowKit
section
variable {C : Cx} {A : Nat → SV} {ty : TypeId} {pos : String} {af : Array Edge} {gd : Option (Nat × Bool)} {x y : Operand} {T T' : TypeId}
end
end Go.Al
namespace Go.Proofs
open Go Go.Al
end Go.Proofs
namespace Go.Proofs
open Go Go.Al
def allS (b : List GRes) : List GSpan := b.flatMap fun r => wl r.scopes
theorem plR_all : ∀ (i : Nat) (b : List GRes), (plR i b).length = (allS b).length
  | _, [] => rfl
  | i, r :: b => by rw [plR, allS, List.flatMap_cons, List.length_append, List.length_append, plC_len, plR_all (i + 1) b]; rfl
theorem plR_spans : ∀ (l m : List GRes), (plR m.length l).map (fun p => spAt (m ++ l) p) = allS l
  | [], m => rfl
  | r :: l, m => by
    rw [plR, List.map_append, allS, List.flatMap_cons]
    congr 1
    · have hr : nthR (m ++ r :: l) m.length = r := by simp [nthR, nth]
      have h := plC_spans m.length r.scopes []
      rw [← h]
      refine List.map_congr_left fun p hp => ?_
      have h1 : p.1 = m.length := plC_fst _ _ _ _ hp
      unfold spAt; rw [h1, hr]; rfl
    · have := plR_spans l (m ++ [r])
      simp only [List.length_append, List.length_cons, List.length_nil, List.append_assoc, List.cons_append, List.nil_append] at this
      exact this
where
  plC_fst (i : Nat) : ∀ (k : Nat) (l : List GScope) (p : Nat × Nat × Nat), p ∈ plC i k l → p.1 = i
    | _, [], p, h => by simp [plC] at h
    | k, c :: l, p, h => by
      rw [plC] at h
      rcases List.mem_append.1 h with h | h
      · obtain ⟨j, _, rfl⟩ := List.mem_map.1 h; rfl
      · exact plC_fst i (k + 1) l p h
theorem allS_eq (b : List GRes) : (plR 0 b).map (spAt b) = allS b := plR_spans b []
theorem allS_mem {b : List GRes} {s : GSpan} (h : s ∈ allS b) : ∃ r ∈ b, ∃ c ∈ r.scopes, s ∈ c.spans := by
  obtain ⟨r, hr, hs⟩ := List.mem_flatMap.1 h
  obtain ⟨c, hc, hs⟩ := spansOf_mem hs
  exact ⟨r, hr, c, hc, hs⟩
structure GCore where
  trace : Bs
  id : Bs
  parent : Bs
  name : ByteArray
  begun : Int
  lasts : Int
def GCore.av (c : GCore) : AV := .agg [.arr 16 c.trace, .arr 8 c.id, .arr 8 c.parent, sv c.name, iv c.begun, iv c.lasts]
def xT (s : GSpan) : GCore := ⟨s.trace, s.id, s.parent, s.name, rBegun s.start s.fin, rLasts s.start s.fin⟩
theorem GCore.ext' {a b : GCore} (h1 : a.trace = b.trace) (h2 : a.id = b.id) (h3 : a.parent = b.parent) (h4 : a.name = b.name) (h5 : a.begun = b.begun) (h6 : a.lasts = b.lasts) : a = b := by cases a; cases b; simp_all
instance : DecidableEq GCore := fun a b => decidable_of_iff (a.trace = b.trace ∧ a.id = b.id ∧ a.parent = b.parent ∧ a.name = b.name ∧ a.begun = b.begun ∧ a.lasts = b.lasts) ⟨fun h => GCore.ext' h.1 h.2.1 h.2.2.1 h.2.2.2.1 h.2.2.2.2.1 h.2.2.2.2.2, fun h => by rw [h]; exact ⟨rfl, rfl, rfl, rfl, rfl, rfl⟩⟩
def zD (b : List GRes) : List GCore := (allS b).map xT
end Go.Proofs
namespace Go.Proofs
open Go Go.Al
instance decMemB (k : ByteArray) (l : List ByteArray) : Decidable (k ∈ l) := decidable_of_iff ((l.any fun x => decide (x = k)) = true) (by
  rw [List.any_eq_true]
  constructor
  · rintro ⟨x, hx, h⟩; exact of_decide_eq_true h ▸ hx
  · exact fun h => ⟨k, h, decide_eq_true rfl⟩)
def yC (l : List GCore) (c : GCore) : Nat := l.countP fun x => decide (x = c)
def xO (x y : List GCore) : Bool := decide (x.length = y.length) && x.all fun c => decide (yC x c = yC y c)
theorem alike_perm {x y : List GCore} (h : x.Perm y) : xO x y = true := by
  unfold xO
  rw [decide_eq_true h.length_eq, Bool.true_and, List.all_eq_true]
  exact fun c _ => decide_eq_true (h.countP_eq _)
end Go.Proofs
namespace Go.Proofs
open Go Go.Al
end Go.Proofs
namespace Go.Proofs
open Go Go.Al
section
variable {s : GScope} {ab : List ByteArray} {i : Nat}
end
section
variable {r : GRes} {a : ByteArray} {i : Nat}
end
section
variable {b : List GRes} {i : Nat}
end
end Go.Proofs
namespace Go.Proofs
open Go Go.Al
set_option maxRecDepth 10000
theorem rspan31_c (b : List GRes) (p : Nat × Nat × Nat) (hp : p ∈ plR 0 b) : z8 Try.prog Γ0 32 [z9 b, plav p] [(spAt b p).av] := by
  have h := rspan28_c b (intP p) (inB_nat hp)
  rw [atS_nat hp] at h; exact h
set_option maxHeartbeats 2000000 in
theorem rof31_c (s : GSpan) : z8 Try.prog Γ0 31 [s.av] [(xT s).av] := by
  refine zq Try.func31 rfl Try.ntmps31 (by kernel_rfl) rfl fun w0 I0 G0 => ?_
  refine zF <| zC <| g_uG (zV 1001 rfl rfl rfl rfl) rfl <| g_uG (zu 1002 rfl rfl rfl tZ44) rfl <| zH <| zA <| zF <| zs yR <| g_u (zI rfl rfl fa67_0 rfl) <| g_u (zG rfl rfl rfl tA26 tS26 rfl rfl) <| g_u (zI rfl rfl fa67_1 rfl) <| g_u (zG rfl rfl rfl tA28 tS28 rfl rfl) <| g_u (zI rfl rfl fa67_2 rfl) <| g_u (zG rfl rfl rfl tA28 tS28 rfl rfl) <| g_u (zI rfl rfl fa67_4 rfl) <| g_u (zG rfl rfl rfl tA9 tS9 rfl rfl) <| g_u (zI rfl rfl fa67_6 rfl) <| g_u (zG rfl rfl rfl tA60 tS60 rfl rfl) <| g_u (zI rfl rfl fa67_7 rfl) <| g_u (zG rfl rfl rfl tA60 tS60 rfl rfl) <| g_u (zP (rbegun_c _ _) rfl rfl) <| g_u (zI rfl rfl fa67_6 rfl) <| g_u (zG rfl rfl rfl tA60 tS60 rfl rfl) <| g_u (zI rfl rfl fa67_7 rfl) <| g_u (zG rfl rfl rfl tA60 tS60 rfl rfl) <| g_u (zP (rlasts_c _ _) rfl rfl) <| g_u (yc rfl tU44 us44 pl44 rfl rfl rfl rfl) <| g_u (zY rfl rfl rfl tS44 rfl rfl) ?_
  refine zH ⟨by kernel_rfl, ?_⟩
  refine zA <| zd ?_
  exact ⟨⟨_, _, _, _, _, _, _, rfl, rfl, tA44, tS44, rfl, rfl, (rfl : toAV _ = some _).trans (congrArg some (by rfl))⟩, trivial⟩
set_option maxHeartbeats 4000000 in
theorem rcores_c (b : List GRes) (hw : wtB b ≤ 9000000) : z8 Try.prog Γ0 9 [z9 b] [.sl 35 ((zD b).map GCore.av)] := by
  have hpl := plR_len 0 b
  have qw : wtB b = ya GRes.wt b := rfl
  refine zq Try.func9 rfl Try.ntmps9 (by kernel_rfl) rfl fun w0 I0 G0 => ?_
  refine zF <| zC <| g_uG (zV 1001 rfl rfl rfl rfl) rfl <| g_u (zE rfl rfl) <| zH <| zA <| zF <| zC <| g_u (zG rfl rfl rfl tA24 tS24 rfl rfl) ?_
  refine g_u (zP (places_c b (by omega)) rfl rfl) ?_
  refine g_u (zE rfl rfl) <| zH <| zA <| zF <| zC <| g_u (zE rfl rfl) <| zH <| zA <| zF <| zF <| aw_newtok 3004 4 35 rfl rfl rfl rfl <| zC <| g_u (zE rfl rfl) <| zH <| zA <| za ?_
  refine yB (fun i : Nat => [(1, .ptr 1001 0), (1001, .box 24 (.imm (z9 b))), (3, .imm (.sl 3 ((plR 0 b).map plav))), (4, .slg 3004 35 (((plR 0 b).take i).map fun p => (xT (spAt b p)).av)), (3004, .tok 35 (((plR 0 b).take i).map fun p => (xT (spAt b p)).av)), (5, .imm (iv (i : Int)))]) (fun i => i ≤ (plR 0 b).length) (fun i => (plR 0 b).length - i) (0) ?_ ⟨rfl, rfl, rfl, rfl, rfl, rfl, trivial⟩ ?_
  · exact Nat.zero_le _
  · rintro i h1; have h1 : i ≤ (plR 0 b).length := h1
    refine zF <| zF <| zC <| g_u (zB rfl rfl) <| g_u (zB rfl rfl) <| g_u (yF rfl rfl Try.underlying35) <| g_u (y8 rfl rfl rfl) <| zH <| zA ?_
    refine zf rfl (fun hb1 => ?_) (fun hb1 => ?_)
    · have hi : i < (plR 0 b).length := by have := of_decide_eq_true hb1; (try simp only [List.length_map] at this); omega
      refine zW <| zA <| zF <| za <| zs yR <| g_u (xZ rfl rfl) <| g_u (zG rfl rfl rfl tA24 tS24 rfl rfl) <| g_u (zB rfl rfl) <| g_u (zB rfl rfl) ?_
      refine g_u (zK rfl rfl rfl Try.underlying35 tS42 (by omega) (ixP hi)) ?_
      refine g_u (zO rfl rfl tA42 tS42 rfl rfl) <| g_u (zP (rspan31_c b (nthP (plR 0 b) i) (nthP_mem hi)) rfl rfl) <| g_u (zP (rof31_c _) rfl rfl) <| g_u (z7 (X0 := z44) rfl Try.underlying33 tS44 tZ44 rfl rfl rfl rfl rfl rfl rfl rfl) ?_
      refine g_u (yi rfl rfl rfl rfl rfl Try.underlying33 Try.underlying33 tS44 zv44 rfl (by decide) by44 (by (try dsimp only); simp only [List.length_append, List.length_cons, List.length_nil, List.length_map, List.length_take]; omega) (by (try dsimp only); simp only [List.length_append, List.length_cons, List.length_nil, List.length_map, List.length_take]; omega)) ?_
      refine g_u (yp rfl rfl) ?_
      refine zH ⟨by kernel_rfl, ?_⟩
      refine zT <| zA <| zC <| g_u (zB rfl rfl) <| g_u (yh rfl rfl rfl) <| g_u (zE rfl rfl) <| zH <| zA ?_
      have et : (((plR 0 b).take (i + 1)).map fun p => (xT (spAt b p)).av) = (((plR 0 b).take i).map fun p => (xT (spAt b p)).av) ++ [(xT (spAt b (nthP (plR 0 b) i))).av] := by rw [wC (yP (d := p00) hi), List.map_append]; rfl
      refine ⟨i + 1, hi, ⟨rfl, rfl, rfl, yr rfl et.symm, yt rfl et.symm, zb rfl (by rw [ze (by omega) (by omega)]; rfl), trivial⟩, by (try dsimp only); omega⟩
    · have hin : i = (plR 0 b).length := by have := of_decide_eq_false hb1; (try simp only [List.length_map] at this); omega
      refine yA <| zU <| zU <| zx <| zA <| zF <| zC <| g_u (xZ rfl rfl) <| g_u (yp rfl rfl) <| zH <| zA <| zd ?_
      exact ⟨⟨(rfl : toAV (Al.look _ _) = some _).trans (congrArg some (by (rw [hin, List.take_length]; show _ = AV.sl 35 (List.map GCore.av (List.map xT (allS b))); rw [← allS_eq, List.map_map, List.map_map]; rfl))), rfl⟩, trivial⟩
end Go.Proofs
namespace Go.Proofs
open Go Go.Al
def gk0 : GCore := ⟨[], [], [], ⟨#[]⟩, 0, 0⟩
def nthK (l : List GCore) (i : Nat) : GCore := nth l i gk0
theorem ixK {l : List GCore} {i : Nat} (h : i < l.length) : (l.map GCore.av)[((i : Nat) : Int).toNat]? = some (nthK l i).av := xX (d := gk0) h
theorem countC_take {l : List GCore} {c : GCore} {i : Nat} (hi : i < l.length) : yC (l.take (i + 1)) c = yC (l.take i) c + (if nthK l i = c then 1 else 0) := by
  unfold yC
  rw [wC (yP (d := gk0) hi), List.countP_append]
  congr 1
  show List.countP _ [nthK l i] = _
  rw [List.countP_cons, List.countP_nil]
  by_cases h : nthK l i = c <;> simp [h]
theorem countC_le (l : List GCore) (c : GCore) : yC l c ≤ l.length := List.countP_le_length
theorem coreB_iff (a b : GCore) : ((a.trace == b.trace) && ((a.id == b.id) && ((a.parent == b.parent) && ((a.name.toList == b.name.toList) && ((a.begun == b.begun) && ((a.lasts == b.lasts) && true)))))) = true ↔ a = b := by
  rw [str_beq]
  simp only [Bool.and_eq_true, beq_iff_eq, qa, and_true]
  exact ⟨fun ⟨h1, h2, h3, h4, h5, h6⟩ => GCore.ext' h1 h2 h3 h4 h5 h6, fun h => by subst h; exact ⟨rfl, rfl, rfl, rfl, rfl, rfl⟩⟩
theorem alike_len {x y : List GCore} (q : ¬ x.length = y.length) : xO x y = false := by unfold xO; rw [decide_eq_false q]; rfl
theorem alike_no {x y : List GCore} {i : Nat} (hi : i < x.length) (hq : ¬ yC x (nthK x i) = yC y (nthK x i)) : xO x y = false := by
  unfold xO
  rw [Bool.and_eq_false_iff]; right
  rw [List.all_eq_false]
  exact ⟨nthK x i, wG (d := gk0) hi, by simpa using hq⟩
theorem alike_yes {x y : List GCore} (el : x.length = y.length) (h : ∀ j, j < x.length → yC x (nthK x j) = yC y (nthK x j)) : xO x y = true := by
  unfold xO
  rw [decide_eq_true el, Bool.true_and, List.all_eq_true]
  intro c hc
  obtain ⟨j, hj⟩ := List.getElem?_of_mem hc
  have hlt := (List.getElem?_eq_some_iff.1 hj).1
  have e := yP (d := gk0) hlt
  rw [hj] at e
  cases Option.some.inj e
  exact decide_eq_true (h j hlt)
end Go.Proofs
namespace Go.Proofs
open Go Go.Al
set_option maxRecDepth 10000
theorem cores_len (b : List GRes) : (zD b).length ≤ wtB b := by
  have h1 := plR_len 0 b
  rw [plR_all] at h1
  show (List.map xT (allS b)).length ≤ _
  rw [List.length_map]; exact h1
theorem eq44 (a b : GCore) : eqV Try.prog 100 44 a.av b.av = some ((a.trace == b.trace) && ((a.id == b.id) && ((a.parent == b.parent) && ((a.name.toList == b.name.toList) && ((a.begun == b.begun) && ((a.lasts == b.lasts) && true)))))) := by kernel_rfl
set_option maxHeartbeats 4000000 in
theorem count31_c (l : List GCore) (c : GCore) (hl : l.length ≤ 9000000) : z8 Try.prog Γ0 34 [.sl 35 (l.map GCore.av), c.av] [iv (yC l c : Nat)] := by
  have hle : ∀ i, yC (l.take i) c ≤ l.length := fun i => Nat.le_trans (countC_le _ _) (by rw [List.length_take]; omega)
  refine zq Try.func34 rfl Try.ntmps34 (by kernel_rfl) rfl fun w0 I0 G0 => ?_
  refine zF <| zC <| g_uG (zV 1003 rfl rfl rfl rfl) rfl <| g_u (zE rfl rfl) <| zH <| zA <| zF <| zC <| g_u (zE rfl rfl) <| zH <| zA <| zF <| zF <| zC <| g_u (zE rfl rfl) <| zH <| zA <| za ?_
  refine yB (fun i : Nat => [(0, .imm (.sl 35 (l.map GCore.av))), (3, .ptr 1003 0), (1003, .box 44 (.imm c.av)), (5, .imm (iv (yC (l.take i) c : Nat))), (6, .imm (iv (i : Int)))]) (fun i => i ≤ l.length) (fun i => l.length - i) (0) ?_ ⟨rfl, rfl, rfl, rfl, rfl, trivial⟩ ?_
  · exact Nat.zero_le _
  · rintro i h1; have h1 : i ≤ l.length := h1; have hc1 := hle i
    refine zF <| zF <| zC <| g_u (zB rfl rfl) <| g_u (zB rfl rfl) <| g_u (yF rfl rfl Try.underlying33) <| g_u (y8 rfl rfl rfl) <| zH <| zA ?_
    refine zf rfl (fun hb1 => ?_) (fun hb1 => ?_)
    · have hi : i < l.length := by have := of_decide_eq_true hb1; (try simp only [List.length_map] at this); omega
      refine zW <| zA <| zF <| za <| zF <| zs yR <| g_u (zB rfl rfl) <| g_u (zB rfl rfl) ?_
      refine g_u (zK rfl rfl rfl Try.underlying33 tS44 (by omega) (ixK hi)) ?_
      refine g_u (zO rfl rfl tA44 tS44 rfl rfl) <| g_u (zG rfl rfl rfl tA44 tS44 rfl rfl) <| g_u (s_eqA rfl rfl rfl eg44 rfl rfl (eq44 _ _)) ?_
      refine zH ⟨by kernel_rfl, ?_⟩
      refine zA ?_
      refine zf rfl (fun hb2 => ?_) (fun hb2 => ?_)
      · have hq : yC (l.take (i + 1)) c = yC (l.take i) c + 1 := by rw [countC_take hi, if_pos ((coreB_iff (nthK l i) c).1 hb2)]
        refine zC <| g_u (zB rfl rfl) <| g_u (yh rfl rfl rfl) <| g_u (zE rfl rfl) <| zH <| zT <| zA <| zC <| g_u (zB rfl rfl) <| g_u (yh rfl rfl rfl) <| g_u (zE rfl rfl) <| zH <| zA ?_
        refine ⟨i + 1, hi, ⟨rfl, rfl, rfl, zb rfl (by first | (rw [hq]; done) | (rw [hq, ze (by omega) (by omega)]; rfl)), zb rfl (by rw [ze (by omega) (by omega)]; rfl), trivial⟩, by (try dsimp only); omega⟩
      · have hq : yC (l.take (i + 1)) c = yC (l.take i) c := by rw [countC_take hi, if_neg (fun h => by have e := hb2; rw [(coreB_iff (nthK l i) c).2 h] at e; cases e), Nat.add_zero]
        refine zW <| zT <| zA <| zC <| g_u (zB rfl rfl) <| g_u (yh rfl rfl rfl) <| g_u (zE rfl rfl) <| zH <| zA ?_
        refine ⟨i + 1, hi, ⟨rfl, rfl, rfl, zb rfl (by first | (rw [hq]; done) | (rw [hq, ze (by omega) (by omega)]; rfl)), zb rfl (by rw [ze (by omega) (by omega)]; rfl), trivial⟩, by (try dsimp only); omega⟩
    · have hin : i = l.length := by have := of_decide_eq_false hb1; (try simp only [List.length_map] at this); omega
      refine yA <| zU <| zU <| zx <| zA <| zF <| zC <| g_u (zB rfl rfl) <| g_u (zE rfl rfl) <| zH <| zA <| zd ?_
      exact ⟨⟨(rfl : toAV (Al.look _ _) = some _).trans (congrArg some (by (rw [hin, List.take_length]))), rfl⟩, trivial⟩
set_option maxHeartbeats 4000000 in
theorem alike_c (a b : List GRes) (ha : wtB a ≤ 9000000) (hb : wtB b ≤ 9000000) : z8 Try.prog Γ0 22 [z9 a, z9 b] [bv (xO (zD a) (zD b))] := by
  have la := cores_len a
  have lb := cores_len b
  refine zq Try.func22 rfl Try.ntmps22 (by kernel_rfl) rfl fun w0 I0 G0 => ?_
  refine zF <| zC <| g_uG (zV 1002 rfl rfl rfl rfl) rfl <| g_uG (zV 1003 rfl rfl rfl rfl) rfl <| g_u (zE rfl rfl) <| zH <| zA <| zF <| zs yR <| g_u (zG rfl rfl rfl tA24 tS24 rfl rfl) ?_
  refine g_u (zP (rcores_c _ (by assumption)) rfl rfl) ?_
  refine g_u (zG rfl rfl rfl tA24 tS24 rfl rfl) ?_
  refine g_u (zP (rcores_c _ (by assumption)) rfl rfl) ?_
  refine g_u (zE rfl rfl) <| g_u (zE rfl rfl) ?_
  refine zH ⟨by kernel_rfl, ?_⟩
  refine zA <| zF <| zF <| zC <| g_u (zB rfl rfl) <| g_u (yF rfl rfl Try.underlying33) <| g_u (zB rfl rfl) <| g_u (yF rfl rfl Try.underlying33) <| g_u (s_neI rfl rfl rfl) <| zH <| zA ?_
  refine zf rfl (fun hb1 => ?_) (fun hb1 => ?_)
  · have q : ¬ (zD a).length = (zD b).length := by have e := qc.1 hb1; simp only [List.length_map] at e; omega
    refine zF <| zC <| g_u (zE rfl rfl) <| zH <| zA <| zd <| zh ?_
    exact ⟨⟨(rfl : toAV (Al.look _ _) = some _).trans (congrArg some (by (exact congrArg bv (by first | exact (alike_len q).symm | exact (alike_no hi hq).symm | exact (alike_yes el (fun j hj => h2 j (by omega))).symm)))), rfl⟩, trivial⟩
  · have el : (zD a).length = (zD b).length := by have e := qd.1 hb1; simp only [List.length_map] at e; omega
    refine zW <| zA <| zF <| zF <| zC <| g_u (zE rfl rfl) <| zH <| zA <| za ?_
    refine yB (fun i : Nat => [(5, .imm (.sl 35 ((zD a).map GCore.av))), (6, .imm (.sl 35 ((zD b).map GCore.av))), (7, .imm (iv (i : Int)))]) (fun i => (i ≤ (zD a).length ∧ ∀ j, j < i → yC (zD a) (nthK (zD a) j) = yC (zD b) (nthK (zD a) j))) (fun i => (zD a).length - i) (0) ?_ ⟨rfl, rfl, rfl, trivial⟩ ?_
    · exact ⟨Nat.zero_le _, fun j h => absurd h (Nat.not_lt_zero _)⟩
    · rintro i ⟨h1, h2⟩; (try dsimp only at h1 h2)
      refine zF <| zF <| zC <| g_u (zB rfl rfl) <| g_u (zB rfl rfl) <| g_u (yF rfl rfl Try.underlying33) <| g_u (y8 rfl rfl rfl) <| zH <| zA ?_
      refine zf rfl (fun hb2 => ?_) (fun hb2 => ?_)
      · have hi : i < (zD a).length := by have := of_decide_eq_true hb2; (try simp only [List.length_map] at this); omega
        refine zW <| zA <| zF <| za <| zF <| zs yR <| g_u (zB rfl rfl) <| g_u (zB rfl rfl) <| g_u (zB rfl rfl) ?_
        refine g_u (zK rfl rfl rfl Try.underlying33 tS44 (by omega) (ixK hi)) ?_
        refine g_u (zO rfl rfl tA44 tS44 rfl rfl) ?_
        refine g_u (zP (count31_c _ (nthK (zD a) i) (by omega)) rfl rfl) ?_
        refine g_u (zB rfl rfl) <| g_u (zB rfl rfl) <| g_u (zB rfl rfl) ?_
        refine g_u (zK rfl rfl rfl Try.underlying33 tS44 (by omega) (ixK hi)) ?_
        refine g_u (zO rfl rfl tA44 tS44 rfl rfl) ?_
        refine g_u (zP (count31_c _ (nthK (zD a) i) (by omega)) rfl rfl) ?_
        refine g_u (s_neI rfl rfl rfl) ?_
        refine zH ⟨by kernel_rfl, ?_⟩
        refine zA ?_
        refine zf rfl (fun hb3 => ?_) (fun hb3 => ?_)
        · have hq : ¬ yC (zD a) (nthK (zD a) i) = yC (zD b) (nthK (zD a) i) := by have e := qc.1 hb3; omega
          refine zF <| zC <| g_u (zE rfl rfl) <| zH <| zA <| zd <| yT <| zh <| zh <| yT <| zh ?_
          exact ⟨⟨(rfl : toAV (Al.look _ _) = some _).trans (congrArg some (by (exact congrArg bv (by first | exact (alike_len q).symm | exact (alike_no hi hq).symm | exact (alike_yes el (fun j hj => h2 j (by omega))).symm)))), rfl⟩, trivial⟩
        · have hq : yC (zD a) (nthK (zD a) i) = yC (zD b) (nthK (zD a) i) := by have e := qd.1 hb3; omega
          refine zW <| zT <| zA <| zC <| g_u (zB rfl rfl) <| g_u (yh rfl rfl rfl) <| g_u (zE rfl rfl) <| zH <| zA ?_
          refine ⟨i + 1, ⟨hi, fun j hj => by rcases Nat.lt_or_ge j i with h | h; exact h2 j h; rw [show j = i by omega]; exact hq⟩, ⟨rfl, rfl, zb rfl (by rw [ze (by omega) (by omega)]; rfl), trivial⟩, by (try dsimp only); omega⟩
      · have hin : i = (zD a).length := by have := of_decide_eq_false hb2; (try simp only [List.length_map] at this); omega
        refine yA <| zU <| zU <| zx <| zA <| zF <| zC <| g_u (zE rfl rfl) <| zH <| zA <| zd ?_
        exact ⟨⟨(rfl : toAV (Al.look _ _) = some _).trans (congrArg some (by (exact congrArg bv (by first | exact (alike_len q).symm | exact (alike_no hi hq).symm | exact (alike_yes el (fun j hj => h2 j (by omega))).symm)))), rfl⟩, trivial⟩
end Go.Proofs
namespace Go.Al
open Go.RowKit
section
variable {C : Cx} {A : Nat → SV} {d : Nat} {ty : TypeId} {pos : String} {af : Array Edge} {gd : Option (Nat × Bool)} {x y : Operand} {T T' : TypeId}
end
end Go.Al
namespace Go.Al
open Go.RowKit
section
variable {C : Cx} {A : Nat → SV} {d : Nat} {ty : TypeId} {pos : String} {af : Array Edge} {gd : Option (Nat × Bool)} {x y : Operand} {T T' : TypeId}
end
end Go.Al
namespace Go.Al
open Go.RowKit
theorem SimG.anew {C : Cx} {A A' : Nat → SV} {G G' : Gh} {a : Act} {w : World} (S : SimG C A G a w) (hI : G'.I = G.I) (hrel : ∀ g, C.K ≤ g → G'.blk g = G.blk g ∧ G'.cur g = G.cur g ∧ G'.len g = G.len g)
    (hh : ∀ k, Holds C.w0 C.E G' a w k (A' k)) (hap : ∀ k j b, k ≠ j → zR G' k b (A' k) → zR G' j b (A' j) → False) : SimG C A' G' a w :=
  ⟨S.os, S.tape, S.output, S.size, S.block, by rw [hI]; exact S.sub, fun g hg => (S.rel g hg).trans ⟨(hrel g hg).1, .inl (hrel g hg).2⟩, by rw [hI]; exact S.glob, by rw [hI]; exact S.new, by rw [hI]; exact S.val, S.nts, S.dfs, hh, hap⟩
def hdrB : Value → List Nat
  | .slice (some a) _ _ => [a.block]
  | _ => []
def ScOk (T : TypeId) (n : Nat) (w : World) (I : Nat → Nat → Prop) (b : Nat) (v : Value) (l : List AV) : Prop :=
  b < w.heap.size ∧ (∃ fr, w.heap[b]? = some (.cells #[.string .empty, .string .empty, v] T fr) ∧ unfrozen fr 3) ∧ (∀ o, ¬ I b o) ∧ TokS w (fun _ => True) I w v n l
theorem TokS.keep {w w' : World} {I I' : Nat → Nat → Prop} {v : Value} {n : Nat} {l : List AV} (h : TokS w (fun _ => True) I w v n l) (hle : Le w I w' I') (ho : ∀ b, b ∈ hdrB v → w'.heap[b]? = w.heap[b]? ∧ ∀ o, I' b o → I b o) : TokS w' (fun _ => True) I' w' v n l := by
  rcases h with h | ⟨b, cap, h1, h2, h3, h4, h5, ⟨cs, T, fr, h6, h7, h8⟩, h9⟩
  · exact .inl h
  · obtain ⟨e4, e5⟩ := ho b (by rw [h1]; exact List.mem_singleton.2 rfl)
    have hb : b < w'.heap.size := by
      have := e4.trans h6
      exact (Array.getElem?_eq_some_iff.1 this).1
    exact .inr ⟨b, cap, h1, h2, h3, RepM.mono hle n l b 0 h4, ⟨.inr trivial, hb⟩, ⟨cs, T, fr, by rw [e4]; exact h6, h7, h8⟩, fun o ho' hi => h9 o ho' (e5 o hi)⟩
theorem ScOk.keep {T : TypeId} {n : Nat} {w w' : World} {I I' : Nat → Nat → Prop} {b : Nat} {v : Value} {l : List AV} (h : ScOk T n w I b v l) (hle : Le w I w' I') (ho : ∀ c, c = b ∨ c ∈ hdrB v → w'.heap[c]? = w.heap[c]? ∧ ∀ o, I' c o → I c o) : ScOk T n w' I' b v l := by
  obtain ⟨h1, ⟨fr, h2, h3⟩, h4, h5⟩ := h
  obtain ⟨e1, e2⟩ := ho b (.inl rfl)
  have h2' := e1.trans h2
  exact ⟨(Array.getElem?_eq_some_iff.1 h2').1, ⟨fr, h2', h3⟩, fun o hi => h4 o (e2 o hi), h5.keep hle fun c hc => ho c (.inr hc)⟩
theorem TokS.kind {w : World} {I : Nat → Nat → Prop} {v : Value} {n : Nat} {l : List AV} (h : TokS w (fun _ => True) I w v n l) {b : Nat} (hb : b ∈ hdrB v) {o : Obj} (ho : w.heap[b]? = some o) : isBook o = false := by
  rcases h with ⟨rfl, _⟩ | ⟨b', cap, h1, _, _, _, _, ⟨cs, T, fr, h6, _⟩, _⟩
  · cases hb
  · rw [h1] at hb
    cases List.mem_singleton.1 hb
    rw [h6] at ho; cases ho; rfl
def tupV : Value → List Value
  | .tuple vs => vs.toList
  | _ => []
def HoleOk (T : TypeId) (w : World) (I : Nat → Nat → Prop) (b : Nat) : Prop := b < w.heap.size ∧ (∃ fr v, w.heap[b]? = some (.cells #[.string .empty, .string .empty, v] T fr) ∧ unfrozen fr 3) ∧ ∀ o, ¬ I b o
theorem HoleOk.keep {T : TypeId} {w w' : World} {I I' : Nat → Nat → Prop} {b : Nat} (h : HoleOk T w I b) (ho : w'.heap[b]? = w.heap[b]? ∧ ∀ o, I' b o → I b o) : HoleOk T w' I' b := by
  obtain ⟨h1, ⟨fr, v, h2, h3⟩, h4⟩ := h
  have h2' := ho.1.trans h2
  exact ⟨(Array.getElem?_eq_some_iff.1 h2').1, ⟨fr, v, h2', h3⟩, fun o hi => h4 o (ho.2 o hi)⟩
def ScF (T : TypeId) (n : Nat) (bs : List Nat) (ls : List (List AV)) (ex : Nat) : Nat → Value → Nat → HRes := fun _ cur _ =>
  { own := fun b => ∃ j c v, bs[j]? = some c ∧ (tupV cur)[j]? = some v ∧ (b = c ∨ (j ≠ ex ∧ b ∈ hdrB v))
    ok := fun w I => (tupV cur).length = bs.length ∧ ls.length = bs.length ∧ (∀ j c v l, j ≠ ex → bs[j]? = some c → (tupV cur)[j]? = some v → ls[j]? = some l → ScOk T n w I c v l) ∧
      (∀ c, bs[ex]? = some c → HoleOk T w I c) ∧
      (∀ j k c c' v v' b, j ≠ k → bs[j]? = some c → bs[k]? = some c' → (tupV cur)[j]? = some v → (tupV cur)[k]? = some v' → (b = c ∨ (j ≠ ex ∧ b ∈ hdrB v)) → (b = c' ∨ (k ≠ ex ∧ b ∈ hdrB v')) → False) ∧
      (∀ j c v, j ≠ ex → bs[j]? = some c → (tupV cur)[j]? = some v → c ∉ hdrB v)
    keep := fun w I w' I' h hle ho => ⟨h.1, h.2.1, fun j c v l hj hc hv hl => (h.2.2.1 j c v l hj hc hv hl).keep hle fun b hb => ho b ⟨j, c, v, hc, hv, hb.imp_right fun hb => ⟨hj, hb⟩⟩,
      fun c hc => (h.2.2.2.1 c hc).keep (by
        have hlt := (List.getElem?_eq_some_iff.1 hc).1
        exact ho c ⟨ex, c, (tupV cur)[ex]'(by rw [h.1]; exact hlt), hc, List.getElem?_eq_getElem _, .inl rfl⟩), h.2.2.2.2⟩
    kind := fun w I b o h hb ho => by
      obtain ⟨j, c, v, hc, hv, hb⟩ := hb
      by_cases hj : j = ex
      · subst hj
        rcases hb with rfl | ⟨hb, _⟩
        · obtain ⟨_, ⟨fr, v', h2, _⟩, _⟩ := h.2.2.2.1 _ hc
          rw [h2] at ho; cases ho; rfl
        · exact absurd rfl hb
      · have hlt : j < ls.length := by rw [h.2.1]; exact (List.getElem?_eq_some_iff.1 hc).1
        have hok := h.2.2.1 j c v ls[j] hj hc hv (List.getElem?_eq_getElem hlt)
        rcases hb with rfl | ⟨_, hb⟩
        · obtain ⟨_, ⟨fr, h2, _⟩, _⟩ := hok
          rw [h2] at ho; cases ho; rfl
        · exact hok.2.2.2.kind hb ho }
end Go.Al
namespace Go.Al
open Go.RowKit
section
variable {C : Cx} {A : Nat → SV} {d : Nat} {ty : TypeId} {pos : String} {af : Array Edge} {gd : Option (Nat × Bool)} {x y : Operand} {T1 : TypeId}
end
theorem SimG.turnB {C : Cx} {A : Nat → SV} {G : Gh} {a : Act} {w : World} (S : SimG C A G a w) {g b0 : Nat} {X' : SV} {o' : Obj}
    (how : Owned C.w0 C.E w b0) (hni : ∀ o, ¬ G.I b0 o) (hown : zR G g b0 (A g)) (hown' : ∀ b, zR G g b X' → zR G g b (A g))
    (hnew : Le w G.I (zn w b0 o') G.I → Holds C.w0 C.E G a (zn w b0 o') g X') :
    SimG C (upd A [(g, X')]) G a (zn w b0 o') := by
  have hlt : b0 < w.heap.size := how.2
  have hle : Le w G.I (zn w b0 o') G.I := fun b o h => ⟨h, by
    have : b ≠ b0 := by rintro rfl; exact hni o h
    exact zy (yH this)⟩
  have hu : ∀ k, upd A [(g, X')] k = if k = g then X' else A k := xB A g X'
  have conv : ∀ k b, zR G k b (upd A [(g, X')] k) → zR G k b (A k) := by
    intro k b h
    rw [hu] at h
    split at h
    · rename_i hk; subst hk; exact hown' b h
    · exact h
  refine ⟨S.os, S.tape, S.output, by rw [z_]; exact S.size, fun k h1 h2 => ?_, S.sub.trans hle, S.rel, S.glob.mono hle, S.new, fun b o h => by rw [z_]; exact S.val b o h, S.nts, S.dfs, fun k => ?_, fun k j b hkj h1 h2 => S.apart k j b hkj (conv k b h1) (conv j b h2)⟩
  · have : k ≠ b0 := by
      rintro rfl
      rcases how.1 with h | h
      · omega
      · exact h2 h
    rw [yH this]; exact S.block k h1 h2
  · rw [hu]
    split
    · rename_i hk; subst hk; exact hnew hle
    · rename_i hk
      refine (S.holds k).keep hle (GRel.refl G) (yu.1 _) (by rw [z_]; exact Nat.le_refl _) (fun h => ⟨h, rfl⟩) (fun _ => ⟨rfl, rfl, rfl⟩) (fun b hb => ⟨?_, fun _ h => h⟩)
      have : b ≠ b0 := by
        rintro rfl
        exact S.apart k g _ hk hb hown
      exact yH this
end Go.Al
namespace Go.Al
open Go.RowKit
theorem TokS.own {w0 : World} {E : Nat → Prop} {I : Nat → Nat → Prop} {w : World} {v : Value} {n : Nat} {l : List AV} (h : TokS w0 E I w v n l) : TokS w (fun _ => True) I w v n l ∧ ∀ b, b ∈ hdrB v → Owned w0 E w b := by
  rcases h with ⟨rfl, rfl⟩ | ⟨b, cap, h1, h2, h3, h4, h5, h6, h7⟩
  · exact ⟨.inl ⟨rfl, rfl⟩, fun b hb => by cases hb⟩
  · refine ⟨.inr ⟨b, cap, h1, h2, h3, h4, ⟨.inr trivial, h5.2⟩, h6, h7⟩, fun c hc => ?_⟩
    rw [h1] at hc
    cases List.mem_singleton.1 hc
    exact h5
theorem hdrB_mem {v : Value} {c : Nat} (h : c ∈ hdrB v) : ∃ a n m, v = .slice (some a) n m ∧ a.block = c := by
  unfold hdrB at h
  split at h
  · exact ⟨_, _, _, rfl, (List.mem_singleton.1 h).symm⟩
  · cases h
theorem SimG.putRow {C : Cx} {A : Nat → SV} {G : Gh} {a : Act} {w : World} (S : SimG C A G a w) {gs gT n i b : Nat} {T : TypeId} {bs : List Nat} {ls : List (List AV)} {l' : List AV}
    (hgK : gs < C.K) (h3 : gs ≠ gT) (hg : A gs = .gen (ScF T n bs ls i)) (hT : A gT = .tok n l') (hb : bs[i]? = some b) :
    ∃ fr v0, w.heap[b]? = some (.cells #[.string .empty, .string .empty, v0] T fr) ∧ unfrozen fr 3 ∧
      ∃ G', SimG C (upd A [(gT, .dead), (gs, .gen (ScF T n bs (ls.set i l') bs.length))]) G' a (zn w b (.cells #[.string .empty, .string .empty, G.cur gT] T fr)) := by
  have hgs := S.holds gs
  rw [hg] at hgs
  simp only [Holds] at hgs
  obtain ⟨hown, hlen, hll, hok, hhole, hap, hself⟩ := hgs
  obtain ⟨k1, ⟨fr, v0, k2, k3⟩, k4⟩ := hhole b hb
  have hi : i < bs.length := (List.getElem?_eq_some_iff.1 hb).1
  obtain ⟨vi, hvi⟩ : ∃ v, (tupV (G.cur gs))[i]? = some v := ⟨_, List.getElem?_eq_getElem (by omega)⟩
  have hbo := hown b ⟨i, b, vi, hb, hvi, .inl rfl⟩
  have hgo : ∀ {j c : Nat} {v : Value} {c' : Nat}, bs[j]? = some c → (tupV (G.cur gs))[j]? = some v → (c' = c ∨ (j ≠ i ∧ c' ∈ hdrB v)) → zR G gs c' (A gs) := fun h1 h2 h3 => by rw [hg]; exact ⟨_, _, _, h1, h2, h3⟩
  have htok := S.holds gT
  rw [hT] at htok
  simp only [Holds] at htok
  obtain ⟨htl, hts⟩ := htok
  obtain ⟨hts1, hts2⟩ := hts.own
  have hTo : ∀ c, c ∈ hdrB (G.cur gT) → zR G gT c (A gT) := fun c hc => by
    rw [hT]; exact hdrB_mem hc
  have hTb : ∀ {j c : Nat} {v : Value} {c' : Nat}, bs[j]? = some c → (tupV (G.cur gs))[j]? = some v → (c' = c ∨ (j ≠ i ∧ c' ∈ hdrB v)) → c' ∈ hdrB (G.cur gT) → False := fun h1 h2 h4 h5 => S.apart gs gT _ h3 (hgo h1 h2 h4) (hTo _ h5)
  refine ⟨fr, v0, k2, k3, ?_⟩
  have hne : ∀ {k : Nat}, k ≠ b → (zn w b (.cells #[.string .empty, .string .empty, G.cur gT] T fr)).heap[k]? = w.heap[k]? := fun h => yH h
  have S1 := S.turnB (g := gs) (b0 := b) (X' := .gen (ScF T n bs ls i)) (o' := .cells #[.string .empty, .string .empty, G.cur gT] T fr) hbo k4 (hgo hb hvi (.inl rfl)) (fun c h => by rw [hg]; exact h) (fun hle => by
    simp only [Holds]
    refine ⟨fun c hc => ⟨(hown c hc).1, by rw [z_]; exact (hown c hc).2⟩, hlen, hll, fun j c v l hj hc hv hl => (hok j c v l hj hc hv hl).keep hle fun c2 hc2 => ⟨hne ?_, fun _ h => h⟩, fun c hc => ?_, hap, hself⟩
    · rintro rfl
      exact hap j i c _ v vi _ hj hc hb hv hvi (hc2.imp_right fun h => ⟨hj, h⟩) (.inl rfl)
    · rw [hb] at hc; cases hc
      exact ⟨by rw [z_]; exact k1, ⟨fr, _, yI k1, k3⟩, k4⟩)
  let G' : Gh := { G with cur := fun k => if k = gs then .tuple ((tupV (G.cur gs)).set i (G.cur gT)).toArray else G.cur k, len := fun k => if k = gs then G.len gs + 1 else G.len k }
  have hrel : GRel [] G G' := fun g _ => ⟨rfl, by
    by_cases e : g = gs
    · subst e; right; simp only [G', if_true]; omega
    · left; exact ⟨by simp only [G', if_neg e], by simp only [G', if_neg e]⟩⟩
  have hu : ∀ k, upd A [(gT, .dead), (gs, .gen (ScF T n bs (ls.set i l') bs.length))] k = if k = gT then .dead else if k = gs then .gen (ScF T n bs (ls.set i l') bs.length) else A k := by
    intro k
    simp only [upd]
    by_cases e3 : k = gT
    · subst e3; simp [Nat.beq_refl]
    · rw [zL (Ne.symm e3), if_neg e3]
      by_cases e4 : k = gs
      · subst e4; simp [Nat.beq_refl]
      · rw [zL (Ne.symm e4), if_neg e4]; rfl
  have hcur : tupV (G'.cur gs) = (tupV (G.cur gs)).set i (G.cur gT) := by simp only [G', if_true, tupV]
  have hget : ∀ {j : Nat} {v : Value}, ((tupV (G.cur gs)).set i (G.cur gT))[j]? = some v → (j = i ∧ v = G.cur gT) ∨ (j ≠ i ∧ (tupV (G.cur gs))[j]? = some v) := by
    intro j v h
    by_cases e : j = i
    · subst e
      rw [List.getElem?_set_self (by omega)] at h
      exact .inl ⟨rfl, (Option.some.inj h).symm⟩
    · rw [List.getElem?_set_ne (Ne.symm e)] at h
      exact .inr ⟨e, h⟩
  -- whose a block of the scopes is
  have part : ∀ {j c : Nat} {v : Value} {c' : Nat}, bs[j]? = some c → ((tupV (G.cur gs)).set i (G.cur gT))[j]? = some v → (c' = c ∨ c' ∈ hdrB v) → zR G gs c' (A gs) ∨ c' ∈ hdrB (G.cur gT) := by
    intro j c v c' hc hv hh
    rcases hget hv with ⟨rfl, rfl⟩ | ⟨hj, hv'⟩
    · rcases hh with rfl | hh
      · exact .inl (hgo hc hvi (.inl rfl))
      · exact .inr hh
    · exact .inl (hgo hc hv' (hh.imp_right fun h => ⟨hj, h⟩))
  have hw' : ∀ c, c ∈ hdrB (G.cur gT) → c ≠ b := fun c hc e => by subst e; exact hTb hb hvi (.inl rfl) hc
  have hle : Le w G.I (zn w b (.cells #[.string .empty, .string .empty, G.cur gT] T fr)) G.I := fun c o h => ⟨h, zy (hne (by rintro rfl; exact k4 o h))⟩
  refine ⟨G', S1.anew rfl (fun g hgK' => ?_) (fun k => ?_) ?_⟩
  · have : g ≠ gs := by omega
    exact ⟨rfl, by simp only [G', if_neg this], by simp only [G', if_neg this]⟩
  · rw [hu]
    split
    · trivial
    split
    · rename_i _ e; subst e
      simp only [Holds, ScF]
      rw [hcur]
      refine ⟨?_, by rw [List.length_set]; exact hlen, by rw [List.length_set]; exact hll, ?_, ?_, ?_, ?_⟩
      · rintro c ⟨j, c', v, hc, hv, hh⟩
        have hh' : c = c' ∨ c ∈ hdrB v := hh.imp_right And.right
        rcases part hc hv hh' with h | h
        · have := (S.holds k).owned h
          exact ⟨this.1, by rw [z_]; exact this.2⟩
        · have := hts2 c h
          exact ⟨this.1, by rw [z_]; exact this.2⟩
      · intro j c v l _ hc hv hl
        rcases hget hv with ⟨rfl, rfl⟩ | ⟨hj, hv'⟩
        · rw [hb] at hc; cases hc
          rw [List.getElem?_set_self (by omega)] at hl
          cases hl
          exact ⟨by rw [z_]; exact k1, ⟨fr, yI k1, k3⟩, k4, hts1.keep hle fun c hc => ⟨hne (hw' c hc), fun _ h => h⟩⟩
        · rw [List.getElem?_set_ne (Ne.symm hj)] at hl
          refine (hok j c v l hj hc hv' hl).keep hle fun c2 hc2 => ⟨hne ?_, fun _ h => h⟩
          rintro rfl
          exact hap j i c _ v vi _ hj hc hb hv' hvi (hc2.imp_right fun h => ⟨hj, h⟩) (.inl rfl)
      · intro c hc
        rw [List.getElem?_eq_none (Nat.le_refl _)] at hc; cases hc
      · intro j j' c c' v v' bb hjj hc hc' hv hv' h1 h2
        have h1 : bb = c ∨ bb ∈ hdrB v := h1.imp_right And.right
        have h2 : bb = c' ∨ bb ∈ hdrB v' := h2.imp_right And.right
        rcases hget hv with ⟨rfl, rfl⟩ | ⟨hj, hv1⟩ <;> rcases hget hv' with ⟨e, rfl⟩ | ⟨hj', hv2⟩
        · exact hjj e.symm
        · rcases h1 with rfl | h1
          · exact hap j j' _ c' vi v' _ hjj hc hc' hvi hv2 (.inl rfl) (h2.imp_right fun h => ⟨hj', h⟩)
          · exact hTb hc' hv2 (h2.imp_right fun h => ⟨hj', h⟩) h1
        · subst e
          rcases h2 with rfl | h2
          · exact hap j j' c _ v vi _ hjj hc hc' hv1 hvi (h1.imp_right fun h => ⟨hj, h⟩) (.inl rfl)
          · exact hTb hc hv1 (h1.imp_right fun h => ⟨hj, h⟩) h2
        · exact hap j j' c c' v v' bb hjj hc hc' hv1 hv2 (h1.imp_right fun h => ⟨hj, h⟩) (h2.imp_right fun h => ⟨hj', h⟩)
      · intro j c v _ hc hv
        rcases hget hv with ⟨rfl, rfl⟩ | ⟨hj, hv1⟩
        · rw [hb] at hc; cases hc
          exact fun h => hw' _ h rfl
        · exact hself j c v hj hc hv1
    · rename_i n3 n4
      have hk := S1.holds k
      rw [show upd A [(gs, .gen (ScF T n bs ls i))] k = A k by rw [xB, if_neg n4]] at hk
      exact hk.keep (Gs := []) (Le.refl _ _) hrel (yu.1 _) (Nat.le_refl _) (fun h => ⟨h, rfl⟩) (fun _ => ⟨rfl, by simp only [G', if_neg n4], by simp only [G', if_neg n4]⟩) (fun c _ => ⟨rfl, fun _ h => h⟩)
  · have conv : ∀ k c, zR G' k c (upd A [(gT, .dead), (gs, .gen (ScF T n bs (ls.set i l') bs.length))] k) → (k = gs ∧ (zR G gs c (A gs) ∨ zR G gT c (A gT))) ∨ (k ≠ gs ∧ k ≠ gT ∧ zR G k c (A k)) := by
      intro k c hc
      rw [hu] at hc
      split at hc
      · simp only [zR] at hc
      split at hc
      · rename_i _ e; subst e
        simp only [zR, ScF] at hc
        rw [hcur] at hc
        obtain ⟨j, c', v, h1, h2, hh⟩ := hc
        exact .inl ⟨rfl, (part h1 h2 (hh.imp_right And.right)).imp_right (hTo c)⟩
      · rename_i n3 n4
        exact .inr ⟨n4, n3, (ownsB_agree (G1 := G) (G2 := G') (k := k) (b := c) (x := A k) ⟨rfl, by simp only [G', if_neg n4], by simp only [G', if_neg n4]⟩).1 hc⟩
    intro k j c hkj hk hj
    rcases conv k c hk with ⟨pk, p⟩ | ⟨pn, pn', p⟩ <;> rcases conv j c hj with ⟨qk, q⟩ | ⟨qn, qn', q⟩
    · exact hkj (pk.trans qk.symm)
    · rcases p with p | p
      · exact S.apart gs j c (Ne.symm qn) p q
      · exact S.apart gT j c (Ne.symm qn') p q
    · rcases q with q | q
      · exact S.apart k gs c pn p q
      · exact S.apart k gT c pn' p q
    · exact S.apart k j c hkj p q
end Go.Al
namespace Go.Al
open Go.RowKit
theorem SimG.tellKs {C : Cx} {A A' : Nat → SV} {G G' : Gh} {a : Act} {w : World} (S : SimG C A G a w) (ks Gs : List Nat)
    (hle : Le w G.I w G'.I) (hrel : GRel Gs G G') (hK : ∀ g, C.K ≤ g → Turns G G' g)
    (hsame : ∀ k, k ∉ ks → A' k = A k ∧ G'.blk k = G.blk k ∧ G'.cur k = G.cur k ∧ G'.len k = G.len k)
    (hfresh : ∀ k, k ∉ ks → noG Gs (A k) = true)
    (hI : ∀ b o, G'.I b o → G.I b o ∨ ∃ k, k ∈ ks ∧ zR G k b (A k))
    (hown : ∀ k, k ∈ ks → ∀ b, zR G' k b (A' k) → ∃ j, j ∈ ks ∧ zR G j b (A j))
    (hh : ∀ k, k ∈ ks → Holds C.w0 C.E G' a w k (A' k))
    (hap : ∀ k j b, k ∈ ks → j ∈ ks → k ≠ j → zR G' k b (A' k) → zR G' j b (A' j) → False) : SimG C A' G' a w := by
  have hnot : ∀ k b, k ∉ ks → zR G k b (A k) → ∀ j, j ∈ ks → ¬ zR G j b (A j) := fun k b hk h j hj h' => S.apart k j b (by rintro rfl; exact hk hj) h h'
  have hoff : ∀ k b, k ∉ ks → zR G' k b (A' k) → zR G k b (A k) := fun k b hk h => by
    obtain ⟨e, e1, e2, e3⟩ := hsame k hk
    rw [e] at h; exact (ownsB_agree ⟨e1, e2, e3⟩).1 h
  refine ⟨S.os, S.tape, S.output, S.size, S.block, S.sub.trans hle, fun g hg => (S.rel g hg).trans (hK g hg), S.glob.mono hle, fun b o h => ?_, fun b o h => ?_, S.nts, S.dfs, fun k => ?_, fun k j b hkj h1 h2 => ?_⟩
  · rcases hI b o h with h | ⟨k, _, h⟩
    · exact S.new b o h
    · exact .inr (((S.holds k).owned h).1)
  · rcases hI b o h with h | ⟨k, _, h⟩
    · exact S.val b o h
    · exact xu S h
  · by_cases hk : k ∈ ks
    · exact hh k hk
    · obtain ⟨e, e1, e2, e3⟩ := hsame k hk
      rw [e]
      exact (S.holds k).keep hle hrel (hfresh k hk) (Nat.le_refl _) (fun h => ⟨h, rfl⟩) (fun _ => ⟨e1, e2, e3⟩) (fun b hb => ⟨rfl, fun o ho => by
        rcases hI b o ho with h | ⟨j, hj, h⟩
        · exact h
        · exact absurd h (hnot k b hk hb j hj)⟩)
  · by_cases hk : k ∈ ks <;> by_cases hj : j ∈ ks
    · exact hap k j b hk hj hkj h1 h2
    · obtain ⟨i, hi, h3⟩ := hown k hk b h1
      exact hnot j b hj (hoff j b hj h2) i hi h3
    · obtain ⟨i, hi, h3⟩ := hown j hj b h2
      exact hnot k b hk (hoff k b hk h1) i hi h3
    · exact S.apart k j b hkj (hoff k b hk h1) (hoff j b hj h2)
section
variable {C : Cx} {A : Nat → SV} {d : Nat} {ty : TypeId} {pos : String} {af : Array Edge} {gd : Option (Nat × Bool)} {x y : Operand} {T : TypeId}
end
end Go.Al
namespace Go.Al
open Go.RowKit
theorem has_off {l : List (Nat × SV)} {k : Nat} (h : k ∉ xL l) : has l k = false := by
  cases hb : has l k
  · rfl
  · exact absurd ((wW l k).1 hb) h
theorem upd_off {A : Nat → SV} {l : List (Nat × SV)} {k : Nat} (h : k ∉ xL l) : upd A l k = A k := y5 A l k (has_off h)
def buildSV (pl : Nat → Option (Nat × Nat)) : List (Nat × SV) → SV → Option SV
  | [], X => some X
  | (i, v) :: ps, X => match pl i with
    | some (off, n) => bif Nat.beq v.width n then (match setS 8 X off v with | some X' => buildSV pl ps X' | none => none) else none
    | none => none
def opSv (A : Nat → SV) (xs : List (Nat × Operand)) : List (Nat × SV) := xs.map fun p => (p.1, opS A p.2)
theorem opSv_congr {A A' : Nat → SV} : ∀ {xs : List (Nat × Operand)}, (∀ k ∈ opPRs xs, A' k = A k) → opSv A' xs = opSv A xs
  | [], _ => rfl
  | (i, x) :: xs, h => by
    simp only [opSv, List.map_cons]
    have h2 := opSv_congr (xs := xs) (fun k hk => h k (List.mem_append_right _ hk))
    simp only [opSv] at h2
    rw [zt (fun k hk => h k (List.mem_append_left _ hk)), h2]
theorem run_fillSV {w : World} {G : Gh} {pl : Nat → Option (Nat × Nat)} {ρ : Operand → Value} : ∀ (ps : List (Nat × Operand)) (qs : List (Nat × SV)) (cs : Array Value) (X Y : SV),
    (∀ i : Nat, ∀ x : Operand, ∀ j : Nat, ps[j]? = some (i, x) → ∃ v, qs[j]? = some (i, v) ∧ ValS w G v (ρ x)) → qs.length = ps.length → RepS w G X cs.toList → buildSV pl qs X = some Y →
    ∃ cs', Instr.fill pl cs (ps.map fun p => (p.1, ρ p.2)) = some cs' ∧ RepS w G Y cs'.toList
  | [], qs, cs, X, Y, _, hl, hX, hb => by
    cases qs with
    | nil => simp only [buildSV] at hb; cases hb; exact ⟨cs, rfl, hX⟩
    | cons q qs => simp at hl
  | (i, x) :: ps, qs, cs, X, Y, h, hl, hX, hb => by
    obtain ⟨v, h1, h2⟩ := h i x 0 rfl
    cases qs with
    | nil => simp at h1
    | cons q qs =>
      simp at h1; subst h1
      simp only [buildSV] at hb
      cases hpl : pl i with
      | none => rw [hpl] at hb; cases hb
      | some on =>
        obtain ⟨off, n⟩ := on
        rw [hpl] at hb
        simp only [] at hb
        cases hw : Nat.beq v.width n
        · rw [hw] at hb; cases hb
        · rw [hw] at hb
          simp only [cond_true] at hb
          cases hs : setS 8 X off v with
          | none => rw [hs] at hb; cases hb
          | some X' =>
            rw [hs] at hb
            simp only [] at hb
            have hv : RepS w G v (ρ x).cells.toList := h2.cells
            have hvl := RepS.len _ _ hv
            simp only [Array.length_toList] at hvl
            have hn := Nat.eq_of_beq_eq_true hw
            obtain ⟨m1, m2⟩ := wS hv 8 X cs.toList off X' hX hs
            simp only [Array.length_toList] at m2
            have e : (ρ x).cells.zipIdx.foldl (fun (cs : Array Value) (p : Value × Nat) => cs.setIfInBounds (off + p.2) p.1) cs = ye cs off (ρ x).cells.toList := by
              rw [← Array.foldl_toList, Array.toList_zipIdx]
              exact fold_splice _ cs off 0
            obtain ⟨cs', m3, m4⟩ := run_fillSV ps qs (ye cs off (ρ x).cells.toList) X' Y (fun i x j hj => h i x (j + 1) (by simpa using hj)) (by simpa using hl)
              (by rw [xk _ _ _ (by simpa using m2)]; exact m1) hb
            refine ⟨cs', ?_, m4⟩
            simp only [List.map_cons, Instr.fill, hpl]
            rw [if_neg (by simp; omega)]
            rw [e]; exact m3
section
variable {C : Cx} {A : Nat → SV} {d : Nat} {ty : TypeId} {pos : String} {af : Array Edge} {gd : Option (Nat × Bool)} {x y : Operand} {T T' : TypeId}
theorem s_buildSV {fs : Array Field} {pl : List (Nat × Nat)} {parts : Array (Nat × Operand)} {X0 : AV} {Y : List SV} (hN : Nat.blt d C.N = true) (hz : yK C.P T X0) (hU : C.P.underlying T = some (.struct fs)) (hpl : yv C.P fs.toList = some pl)
    (hp : (opSv A parts.toList).all (fun p => p.2.slotty) = true) (hb : buildSV (pl[·]?) (opSv A parts.toList) (.imm X0) = some (.agg Y)) :
    zZ C ⟨some d, .build T parts, ty, pos, af, gd⟩ (opPRs parts.toList) [] A [(d, .agg Y)] := by
  refine zZ.value rfl hN fun A' G a w hR S => ?_
  rw [← opSv_congr hR] at hp hb
  obtain ⟨z, hz1, hz2⟩ := hz
  have hp' := List.all_eq_true.1 hp
  have h2 : ∀ i : Nat, ∀ x : Operand, ∀ j : Nat, parts.toList[j]? = some (i, x) → ∃ v, (opSv A' parts.toList)[j]? = some (i, v) ∧ ValS w G v (a.eval x) := by
    intro i x j hj
    refine ⟨opS A' x, by simp only [opSv, List.getElem?_map, hj, Option.map_some], ?_⟩
    have hs := hp' (i, opS A' x) (by simp only [opSv]; exact List.mem_map.2 ⟨(i, x), List.mem_of_getElem? hj, rfl⟩)
    exact vI hs (S.opS rfl (SV.slotty_res hs))
  obtain ⟨cs', h3, h4⟩ := run_fillSV (w := w) (G := G) (ρ := a.eval) parts.toList (opSv A' parts.toList) z.cells (.imm X0) (.agg Y) h2 (by simp [opSv]) (by simpa only [RepS] using wR X0 _ hz2) hb
  refine ⟨.agg cs', ?_, ⟨cs'.toList, h4, by simp [mkS, SV.isAgg]⟩⟩
  simp only [execOp, Instr.build, Sem.run_bind, yS hz1, Result.andThen_ok, zM hU, Sem.run_pure]
  rw [Array.mapM_eq_mapM_toList]
  simp only [Sem.run_map, run_places _ _ hpl, Result.andThen_ok]
  have e : (parts.map fun (p : Nat × Operand) => (p.1, a.eval p.2)).toList = parts.toList.map fun p => (p.1, a.eval p.2) := by simp
  simp only [e]
  have e2 : (fun (i : Nat) => (pl.toArray)[i]?) = (fun i => pl[i]?) := by funext i; simp
  simp only [e2, h3]
  rfl
end
end Go.Al
namespace Go.Al
open Go.RowKit
section
variable {C : Cx} {A : Nat → SV} {d : Nat} {ty : TypeId} {pos : String} {af : Array Edge} {gd : Option (Nat × Bool)} {T T' : TypeId}
end
end Go.Al
namespace Go.Al
open Go.RowKit
theorem lt_keep {w w' : World} {b : Nat} (h : w'.heap[b]? = w.heap[b]?) (hb : b < w.heap.size) : b < w'.heap.size := by
  rw [Array.getElem?_eq_getElem hb] at h
  exact (Array.getElem?_eq_some_iff.1 h).1
section
variable {C : Cx} {c : Code} {st : St} {Q : Exit → St → Prop}
end
end Go.Al
namespace Go.Al
open Go.RowKit
section
variable {C : Cx} {c : Code} {st : St} {Q : Exit → St → Prop} {TG TS n : Nat} {keys : List ByteArray} {nums : List AV} {es ls : List (List AV)}
end
end Go.Al
namespace Go.Al
open Go.RowKit
section
variable {C : Cx} {c : Code} {st : St} {Q : Exit → St → Prop} {TG TS n : Nat}
end
end Go.Al
namespace Go.Al
open Go.RowKit
section
variable {C : Cx} {c : Code} {st : St} {Q : Exit → St → Prop} {TG TS n : Nat} {keys : List ByteArray} {nums : List AV} {es ls : List (List AV)}
end
end Go.Al
namespace Go.Al
open Go.RowKit
def basicV : Value → Bool
  | .int _ _ => true
  | .string _ => true
  | .bool _ => true
  | _ => false
mutual
def wj : AV → Bool
  | .v x => x.cells.toList.all basicV
  | .arr _ _ => true
  | .agg ps => basicAVs ps
  | _ => false
def basicAVs : List AV → Bool
  | [] => true
  | p :: ps => wj p && basicAVs ps
end
mutual
theorem basic_uniq {w w' : World} {I I' : Nat → Nat → Prop} : ∀ (x : AV) (c c' : List Value), wj x = true → RepC w I x c → RepC w' I' x c' → c = c' ∧ c.all basicV = true
  | .v x, c, c', h, r, r' => by
    simp only [RepC, wj] at r r' h
    exact ⟨r.1.trans r'.1.symm, by rw [r.1]; exact h⟩
  | .arr n l, c, c', h, r, r' => by
    simp only [RepC] at r r'
    refine ⟨r.1.trans r'.1.symm, ?_⟩
    rw [r.1]; simp [byteV, basicV]
  | .agg ps, c, c', h, r, r' => by
    simp only [RepC, wj] at r r' h
    exact basics_uniq ps c c' h r r'
  | .sl _ _, _, _, h, _, _ => by simp [wj] at h
  | .fn _ _ _, _, _, h, _, _ => by simp [wj] at h
  | .ifc _ _, _, _, h, _, _ => by simp [wj] at h
  | .cp _, _, _, h, _, _ => by simp [wj] at h
  | .mp _ _, _, _, h, _, _ => by simp [wj] at h
theorem basics_uniq {w w' : World} {I I' : Nat → Nat → Prop} : ∀ (ps : List AV) (c c' : List Value), basicAVs ps = true → yL w I ps c → yL w' I' ps c' → c = c' ∧ c.all basicV = true
  | [], c, c', _, r, r' => by simp only [yL] at r r'; rw [r, r']; exact ⟨rfl, rfl⟩
  | p :: ps, c, c', h, r, r' => by
    simp only [yL, basicAVs, Bool.and_eq_true] at r r' h
    obtain ⟨c1, c2, e, r1, r2⟩ := r
    obtain ⟨d1, d2, e', r1', r2'⟩ := r'
    obtain ⟨q1, q2⟩ := basic_uniq p c1 d1 h.1 r1 r1'
    obtain ⟨q3, q4⟩ := basics_uniq ps c2 d2 h.2 r2 r2'
    rw [e, e', ← q1, ← q3, List.all_append, q2, q4]
    exact ⟨rfl, rfl⟩
end
theorem sameBits_basic {n : Nat} {v : Value} (h : basicV v = true) : Instr.sameBits n v v = true := by
  cases v <;> simp [basicV] at h <;> simp [Instr.sameBits, ba_beq]
structure KeyOk (P : Program) (T : TypeId) {κ : Type} [DecidableEq κ] (av : κ → AV) : Prop where
  eq : ∀ a b, eqV P 100 T (av a) (av b) = some (decide (a = b))
  bas : ∀ a, wj (av a) = true
  agg : ∀ a, (av a).isAgg = true
  str : ∃ fs, P.underlying T = some (.struct fs)
section
variable {P : Program} {T : TypeId} {κ : Type} [DecidableEq κ] {av : κ → AV}
theorem KeyOk.run_eq (K : KeyOk P T av) {w : World} {I : Nat → Nat → Prop} {a b : κ} {u v : Value} (hu : Rep w I (av a) u) (hv : Rep w I (av b) v) : (Op.equal T u v).run P w = .ok (decide (a = b)) w := by
  have hr := run_eqV 100 9900 T _ _ _ _ _ (K.eq a b) hu hv
  exact hr
theorem KeyOk.bits (K : KeyOk P T av) {w w' : World} {I I' : Nat → Nat → Prop} {a : κ} {u v : Value} (hu : Rep w I (av a) u) (hv : Rep w' I' (av a) v) : u = v ∧ Instr.sameBits 10000 u v = true := by
  obtain ⟨c, h1, h2⟩ := hu
  obtain ⟨c', h3, h4⟩ := hv
  obtain ⟨q1, q2⟩ := basic_uniq _ _ _ (K.bas a) h1 h3
  subst q1
  refine ⟨h2.trans h4.symm, ?_⟩
  rw [h2, h4]
  simp only [mkV, K.agg a, if_true, Instr.sameBits, beq_self_eq_true, Bool.true_and]
  rw [List.all_eq_true]
  rintro ⟨x, y⟩ hm
  rw [List.mem_iff_getElem?] at hm
  obtain ⟨j, hj⟩ := hm
  rw [List.getElem?_zip_eq_some] at hj
  obtain ⟨e1, e2⟩ := hj
  rw [e1] at e2
  cases Option.some.inj e2
  exact sameBits_basic (List.all_eq_true.1 q2 x (List.mem_of_getElem? e1))
theorem run_chk {P : Program} {w : World} {I : Nat → Nat → Prop} {em : Bool} : ∀ (f e : Nat) (T : TypeId) (x y : AV) (r : Bool) (v : Value), y = x → eqV P f T x y = some r → Rep w I x v → (Instr.checkKey em (f + e) T v).run P w = .ok () w
  | 0, _, _, _, _, _, _, _, h, _ => by simp [eqV] at h
  | f + 1, e, T, x, y, r, v, hxy, h, hv => by
    have hfe : f + 1 + e = (f + e) + 1 := by omega
    rw [hfe]
    simp only [eqV] at h
    split at h
    · rename_i hT
      split at h
      · rw [yG hv]; simp [Instr.checkKey, zM hT]
      · cases h
    · rename_i k hT
      split at h
      · rw [yM hv]; simp [Instr.checkKey, zM hT]
      · cases h
    · rename_i hT
      split at h
      · rw [rep_str hv]; simp [Instr.checkKey, zM hT]
      · cases h
    · rename_i fs hT
      split at h
      · rename_i ps qs
        cases hxy
        split at h
        · obtain ⟨xs, rfl, hx⟩ := wo hv rfl
          rw [Instr.checkKey]
          simp only [Sem.run_bind, zM hT, Result.andThen_ok]
          rw [← Array.forIn_toList]
          simp only [RepC] at hx
          have hx0 : yL w I ps (xs.toList.drop 0) := by simpa using hx
          have h0 : 0 ≤ xs.size := Nat.zero_le _
          generalize (0 : Nat) = off at h hx0 h0
          generalize fs.toList = L at h
          clear hx hv hT
          induction L generalizing off ps r with
          | nil => simp
          | cons g L ih =>
            cases ps with
            | nil => simp [eqFs] at h
            | cons p ps =>
              simp only [eqFs] at h
              split at h
              · rename_i hc
                obtain ⟨h1, h2, h3, h4, h5, h6, h7⟩ := hc
                cases hr : eqV P f g.type p p with
                | none => rw [hr] at h; cases h
                | some a =>
                  cases hq : eqFs P (eqV P f) L (off + p.width) ps ps with
                  | none => rw [hr, hq] at h; cases h
                  | some b =>
                    simp only [yL] at hx0
                    obtain ⟨c1, c2, e1, e2, e3⟩ := hx0
                    have l1 := RepC.len p c1 e2
                    have hl1 : off + p.width ≤ xs.size := by
                      have := congrArg List.length e1
                      simp only [List.length_drop, List.length_append, Array.length_toList] at this
                      omega
                    have t1 : (xs.toList.drop off).take p.width = c1 := by rw [e1, List.take_append_of_le_length (by omega), List.take_of_length_le (by omega)]
                    have d1 : xs.toList.drop (off + p.width) = c2 := by rw [← List.drop_drop, e1, List.drop_append_of_le_length (by omega), List.drop_of_length_le (l := c1) (by omega), List.nil_append]
                    have r1 : (part g.type xs off).run P w = .ok (mkV p c1) w := by
                      rw [run_part h5 h3 h7 (by simpa using hl1), t1]; rfl
                    have r3 := run_chk (em := em) f e g.type p p a _ rfl hr ⟨c1, e2, rfl⟩
                    simp only [List.forIn_cons, Sem.run_bind, h1, ne_eq, not_false_eq_true, if_true, h2, r1, r3, Result.andThen_ok, Sem.run_pure]
                    have d2 : yL w I ps (xs.toList.drop (off + p.width)) := by rw [d1]; exact e3
                    first | exact ih b ps (off + p.width) hq d2 hl1 | exact ih b ps (off + p.width) hq hl1 d2 | exact ih b ps (off + p.width) hl1 hq d2 | exact ih b ps (off + p.width) d2 hl1 hq | exact ih b ps (off + p.width) d2 hq hl1 | exact ih b ps (off + p.width) hl1 d2 hq
              · cases h
        · cases h
      · cases h
    · rename_i n el hT
      split at h
      · rename_i m a k b
        cases hxy
        split at h
        · rename_i f' hel
          split at h
          · rename_i hc
            obtain ⟨rfl, _, hsz⟩ := hc
            obtain ⟨xs, rfl, hx⟩ := wo hv rfl
            simp only [RepC] at hx
            rw [Instr.checkKey]
            simp only [Sem.run_bind, zM hT, Result.andThen_ok]
            simp only [Std.Legacy.Range.forIn_eq_forIn_range', Std.Legacy.Range.size, Nat.sub_zero, Nat.add_one_sub_one, Nat.div_one]
            have hlen : xs.size = m := by rw [← Array.length_toList, hx.1, List.length_map]; exact hx.2
            have hag : yY P el = some false := by simp [yY, hel]
            have each : ∀ j, j ∈ List.range' 0 m → ∃ q, (part el xs (j * 1)).run P w = .ok (.int .u8 q) w := by
              intro j hj
              rw [List.mem_range'_1] at hj
              have hjl : j < xs.size := by omega
              rw [Nat.mul_one, run_part (q := false) hag hsz rfl (by omega)]
              have hjl' : j < a.length := by rw [hx.2]; omega
              refine ⟨(a[j].toNat : Int), ?_⟩
              have : ((xs.toList.drop j).take 1).headD Go.undef = byteV a[j] := by
                rw [hx.1, List.drop_eq_getElem_cons (by simpa using hjl')]
                simp
              simp only [Bool.false_eq_true, if_false, this]; rfl
            generalize List.range' 0 m = is at each
            induction is with
            | nil => simp
            | cons j is ih =>
              obtain ⟨q, p1⟩ := each j (by simp)
              have p2 : (Instr.checkKey em (f' + 1 + e) el (.int .u8 q)).run P w = .ok () w := by
                rw [show f' + 1 + e = (f' + e) + 1 by omega]
                simp [Instr.checkKey, zM hel]
              simp only [List.forIn_cons, Sem.run_bind, yJ hsz, Result.andThen_ok, p1, p2, Sem.run_pure]
              exact ih fun y hy => each y (by simp [hy])
          · cases h
        · cases h
      · cases h
    · cases h
theorem KeyOk.chk (K : KeyOk P T av) {w : World} {I : Nat → Nat → Prop} {a : κ} {v : Value} (hv : Rep w I (av a) v) (em : Bool) : (Instr.checkKey em 10000 T v).run P w = .ok () w :=
  run_chk 100 9900 T _ _ _ _ rfl (K.eq a a) hv
def zX : List κ → κ → Nat → Option Nat
  | [], _, _ => none
  | x :: xs, s, i => if s = x then some i else zX xs s (i + 1)
theorem wd : ∀ {l : List κ} {s : κ} {i j : Nat}, zX l s i = some j → i ≤ j ∧ j < i + l.length
  | x :: xs, s, i, j, h => by
    rw [zX] at h
    split at h
    · cases h; simp
    · have := wd h; simp; omega
theorem kfind_get : ∀ {l : List κ} {s : κ} {i j : Nat}, zX l s i = some j → l[j - i]? = some s
  | x :: xs, s, i, j, h => by
    rw [zX] at h
    split at h
    · rename_i hs; cases h; simp [hs]
    · have h1 := wd h
      have h2 := kfind_get h
      rw [show j - i = (j - (i + 1)) + 1 by omega, List.getElem?_cons_succ]; exact h2
theorem KeyOk.asking (K : KeyOk P T av) {w : World} {I : Nat → Nat → Prop} {s : κ} {v : Value} (hv : Rep w I (av s) v) : ∀ (es : List MapEntry) (l : List κ) (i : Nat), zg w I (l.map av) (es.map (·.key)) →
    (Instr.findAsking T v es i).run P w = .ok ((zX l s i).bind fun j => (es[j - i]?).map fun e => (j, e.val)) w
  | [], l, i, h => by
    cases l with
    | nil => simp [Instr.findAsking, zX]
    | cons x l => simp [zg] at h
  | e :: es, l, i, h => by
    cases l with
    | nil => simp [zg] at h
    | cons x l =>
      simp only [List.map_cons, zg, List.cons.injEq] at h
      obtain ⟨c, r, ⟨e1, e2⟩, h1, h2⟩ := h
      subst e2
      have hq := K.run_eq hv (⟨c, h1, e1⟩ : Rep w I (av x) e.key)
      simp only [Instr.findAsking, Sem.run_bind, hq, Result.andThen_ok, zX]
      by_cases hs : s = x
      · subst hs
        simp
      · simp only [hs, decide_false, Bool.false_eq_true, if_false]
        rw [K.asking hv es l (i + 1) h2]
        cases hm : zX l s (i + 1) with
        | none => rfl
        | some j =>
          have := wd hm
          simp only [Option.bind_some]
          rw [show j - i = (j - (i + 1)) + 1 by omega, List.getElem?_cons_succ]
theorem KeyOk.find (K : KeyOk P T av) {w : World} {I : Nat → Nat → Prop} {s : κ} {v : Value} (hv : Rep w I (av s) v) {es : List MapEntry} {l : List κ} (h : zg w I (l.map av) (es.map (·.key))) :
    (Instr.findKey T v es).run P w = .ok ((zX l s 0).bind fun j => (es[j]?).map fun e => (j, e.val)) w := by
  obtain ⟨fs, hT⟩ := K.str
  rw [run_findKey_eq w (by rw [hT])]
  have := K.asking hv es l 0 h
  simpa using this
theorem KeyOk.stays (K : KeyOk P T av) {w w' : World} {I I' : Nat → Nat → Prop} {a : κ} {u v : Value} (hu : Rep w I (av a) u) (hv : Rep w' I' (av a) v) (w0 : World) : (Instr.keyThatStays u v).run P w0 = .ok v w0 := by
  simp only [Instr.keyThatStays, (K.bits hu hv).2, if_true, Sem.run_pure]
end
end Go.Al
namespace Go.Al
open Go.RowKit
def MapAt (w : World) (I : Nat → Nat → Prop) (v : Value) (ks vs : List AV) : Prop :=
  (v = .map none ∧ ks = [] ∧ vs = []) ∨ ∃ r es ck, v = .map (some r) ∧ w.heap[r]? = some (.map es ck) ∧ zg w I ks (es.toList.map (·.key)) ∧ zg w I vs (es.toList.map (·.val))
theorem yU {w : World} {I : Nat → Nat → Prop} : ∀ {xs : List AV} {vs : List Value}, zg w I xs vs → vs.length = xs.length
  | [], vs, h => by simp only [zg] at h; rw [h]; rfl
  | x :: xs, vs, h => by
    simp only [zg] at h
    obtain ⟨c, r, rfl, _, h2⟩ := h
    simp [yU h2]
section
variable {P : Program} {kt vt T : TypeId} {κ : Type} [DecidableEq κ] {av : κ → AV}
theorem run_lookupY (K : KeyOk P kt av) (hT : P.underlying T = some (.map kt vt)) {w : World} {I : Nat → Nat → Prop} {v k : Value} {l : List κ} {vs : List AV} {s : κ} (hm : MapAt w I v (l.map av) vs) (hk : Rep w I (av s) k) {c : Bool} {i : Nat} {x : AV}
    (hf : zX l s 0 = some i) (hx : vs[i]? = some x) : ∃ u, Rep w I x u ∧ (Instr.lookup T v k c).run P w = .ok (if c then .tuple #[u, .bool true] else u) w := by
  rcases hm with ⟨_, h2, _⟩ | ⟨r, es, ck, rfl, h1, h3, h4⟩
  · have : l = [] := by simpa using h2
    subst this; cases hf
  have hi := wd hf
  have hlen := yU h3
  simp only [List.length_map, Array.length_toList] at hlen
  have hie : i < es.size := by omega
  have hfind := K.find hk h3
  have hobj := xH (P := P) h1
  have e2 : (es.toList[i]?).map (fun e => (i, e.val)) = some (i, es[i].val) := by rw [Array.getElem?_toList, Array.getElem?_eq_getElem hie]; rfl
  obtain ⟨u, hu1, hu2⟩ := yb h4 hx
  simp only [List.getElem?_map, Array.getElem?_toList, Array.getElem?_eq_getElem hie, Option.map_some, Option.some.injEq] at hu1
  refine ⟨u, hu2, ?_⟩
  cases c <;> simp only [Instr.lookup, Sem.run_bind, zM hT, Result.andThen_ok, hobj, Sem.run_pure, K.chk hk, hfind, hf, Option.bind_some, e2, if_true, hu1, Bool.false_eq_true, if_false]
theorem run_lookupN (K : KeyOk P kt av) (hT : P.underlying T = some (.map kt vt)) {w : World} {I : Nat → Nat → Prop} {v k z : Value} {l : List κ} {vs : List AV} {s : κ} (hm : MapAt w I v (l.map av) vs) (hk : Rep w I (av s) k) {c : Bool}
    (hf : zX l s 0 = none) (hz : xe P vt = some z) : (Instr.lookup T v k c).run P w = .ok (if c then .tuple #[z, .bool false] else z) w := by
  rcases hm with ⟨rfl, h2, _⟩ | ⟨r, es, ck, rfl, h1, h3, h4⟩
  · have hfind := K.find (es := []) (l := []) hk (by simp [zg])
    simp only [zX, Option.bind_none] at hfind
    cases c <;> simp only [Instr.lookup, Sem.run_bind, zM hT, Result.andThen_ok, Sem.run_pure, K.chk hk, hfind, yS hz, if_true, Bool.false_eq_true, if_false]
  · have hfind := K.find hk h3
    have hobj := xH (P := P) h1
    cases c <;> simp only [Instr.lookup, Sem.run_bind, zM hT, Result.andThen_ok, hobj, Sem.run_pure, K.chk hk, hfind, hf, Option.bind_none, yS hz, if_true, Bool.false_eq_true, if_false]
end
section
variable {C : Cx} {A : Nat → SV} {d : Nat} {ty : TypeId} {pos : String} {af : Array Edge} {gd : Option (Nat × Bool)} {x y z : Operand} {T T' : TypeId} {kt vt : TypeId} {κ : Type} [DecidableEq κ] {av : κ → AV}
theorem SimG.mapAt {A' : Nat → SV} {G : Gh} {a : Act} {w : World} (S : SimG C A' G a w) {x : Operand} {g : Nat} {ks vs : List AV} (hx : Al.opS A' x = .mref g) (hg : A' g = .mpr ks vs) : a.eval x = .map (some (G.blk g)) ∧ MapAt w G.I (a.eval x) ks vs := by
  obtain ⟨c, hc1, hc2⟩ := S.opS hx rfl
  simp only [RepS] at hc1
  have hev : a.eval x = .map (some (G.blk g)) := by rw [hc2, hc1]; rfl
  have hb := S.holds g
  rw [hg] at hb
  simp only [Holds] at hb
  obtain ⟨how, ⟨es, h1, h2, h3, h4⟩, hni⟩ := hb
  exact ⟨hev, .inr ⟨_, es, _, hev, h1, h3, h4⟩⟩
theorem s_lookupKYes {g : Nat} {l : List κ} {vs : List AV} {s : κ} {v : AV} {i : Nat} (K : KeyOk C.P kt av) (hN : Nat.blt d C.N = true) (hx : opS A x = .mref g) (hg : A g = .mpr (l.map av) vs) (hy : opV A y = some (av s))
    (hT : C.P.underlying T = some (.map kt vt)) (hm : zX l s 0 = some i) (hv : vs[i]? = some v) :
    zZ C ⟨some d, .lookup T x y true, ty, pos, af, gd⟩ (g :: (opR x ++ opR y)) [] A [(d, .tup [.imm v, .imm (.v (.bool true))])] := by
  refine zZ.value rfl hN fun A' G a w hR S => ?_
  obtain ⟨_, hma⟩ := S.mapAt ((zt (fun k hk => hR k (List.mem_cons_of_mem _ (List.mem_append_left _ hk)))).trans hx) ((hR g List.mem_cons_self).trans hg)
  rw [← z5 (fun k hk => hR k (List.mem_cons_of_mem _ (List.mem_append_right _ hk)))] at hy
  obtain ⟨u, hu, hr⟩ := run_lookupY K hT hma (S.opV hy) (c := true) hm hv
  refine ⟨.tuple #[u, .bool true], ?_, ⟨[u, .bool true], rfl, _, _, rfl, zm.2 hu, _, _, rfl, zm.2 (yw _ _ rfl), rfl⟩⟩
  simp only [execOp, Sem.run_bind, hr, Result.andThen_ok, Sem.run_pure, if_true]
theorem s_lookupKNo {g : Nat} {l : List κ} {vs : List AV} {s : κ} {z : Value} (K : KeyOk C.P kt av) (hN : Nat.blt d C.N = true) (hx : opS A x = .mref g) (hg : A g = .mpr (l.map av) vs) (hy : opV A y = some (av s))
    (hT : C.P.underlying T = some (.map kt vt)) (hm : zX l s 0 = none) (hz : xe C.P vt = some z) (hzp : plain z = true) :
    zZ C ⟨some d, .lookup T x y true, ty, pos, af, gd⟩ (g :: (opR x ++ opR y)) [] A [(d, .tup [.imm (.v z), .imm (.v (.bool false))])] := by
  refine zZ.value rfl hN fun A' G a w hR S => ?_
  obtain ⟨_, hma⟩ := S.mapAt ((zt (fun k hk => hR k (List.mem_cons_of_mem _ (List.mem_append_left _ hk)))).trans hx) ((hR g List.mem_cons_self).trans hg)
  rw [← z5 (fun k hk => hR k (List.mem_cons_of_mem _ (List.mem_append_right _ hk)))] at hy
  have hr := run_lookupN K hT hma (S.opV hy) (c := true) hm hz
  refine ⟨.tuple #[z, .bool false], ?_, ⟨[z, .bool false], rfl, _, _, rfl, zm.2 (yw _ _ hzp), _, _, rfl, zm.2 (yw _ _ rfl), rfl⟩⟩
  simp only [execOp, Sem.run_bind, hr, Result.andThen_ok, Sem.run_pure, if_true]
theorem s_lookupKD {g : Nat} {l : List κ} {vs : List AV} {s : κ} {v : AV} {z : Value} (K : KeyOk C.P kt av) (hN : Nat.blt d C.N = true) (hx : opS A x = .mref g) (hg : A g = .mpr (l.map av) vs) (hy : opV A y = some (av s))
    (hT : C.P.underlying T = some (.map kt vt)) (hz : xe C.P vt = some z) (hzp : plain z = true) (hv : (match zX l s 0 with | some i => vs[i]? | none => some (.v z)) = some v) :
    zZ C ⟨some d, .lookup T x y false, ty, pos, af, gd⟩ (g :: (opR x ++ opR y)) [] A [(d, .imm v)] := by
  refine zZ.value rfl hN fun A' G a w hR S => ?_
  obtain ⟨_, hma⟩ := S.mapAt ((zt (fun k hk => hR k (List.mem_cons_of_mem _ (List.mem_append_left _ hk)))).trans hx) ((hR g List.mem_cons_self).trans hg)
  rw [← z5 (fun k hk => hR k (List.mem_cons_of_mem _ (List.mem_append_right _ hk)))] at hy
  cases hm : zX l s 0 with
  | some i =>
    rw [hm] at hv
    obtain ⟨u, hu, hr⟩ := run_lookupY K hT hma (S.opV hy) (c := false) hm hv
    refine ⟨u, ?_, zm.2 hu⟩
    simp only [execOp, Sem.run_bind, hr, Result.andThen_ok, Sem.run_pure, Bool.false_eq_true, if_false]
  | none =>
    rw [hm] at hv; cases hv
    have hr := run_lookupN K hT hma (S.opV hy) (c := false) hm hz
    refine ⟨z, ?_, zm.2 (yw _ _ hzp)⟩
    simp only [execOp, Sem.run_bind, hr, Result.andThen_ok, Sem.run_pure, Bool.false_eq_true, if_false]
theorem rep_mp {w : World} {I : Nat → Nat → Prop} {ks vs : List AV} {v : Value} (h : Rep w I (.mp ks vs) v) : MapAt w I v ks vs := by
  obtain ⟨c, h1, h2⟩ := h
  simp only [RepC] at h1
  obtain ⟨u, rfl, ⟨h3, h4, h5⟩ | ⟨b, es, ck, h3, _, h5, h6, h7⟩⟩ := h1
  · exact .inl ⟨h2.trans h3, h4, h5⟩
  · exact .inr ⟨b, es, ck, h2.trans h3, h5, h6, h7⟩
theorem s_lookupIYes {l : List κ} {vs : List AV} {s : κ} {v : AV} {i : Nat} (K : KeyOk C.P kt av) (hN : Nat.blt d C.N = true) (hx : opV A x = some (.mp (l.map av) vs)) (hy : opV A y = some (av s))
    (hT : C.P.underlying T = some (.map kt vt)) (hm : zX l s 0 = some i) (hv : vs[i]? = some v) :
    zZ C ⟨some d, .lookup T x y true, ty, pos, af, gd⟩ (opR x ++ opR y) [] A [(d, .tup [.imm v, .imm (.v (.bool true))])] := by
  refine zZ.value rfl hN fun A' G a w hR S => ?_
  rw [← z5 (fun k hk => hR k (List.mem_append_left _ hk))] at hx
  rw [← z5 (fun k hk => hR k (List.mem_append_right _ hk))] at hy
  obtain ⟨u, hu, hr⟩ := run_lookupY K hT (rep_mp (S.opV hx)) (S.opV hy) (c := true) hm hv
  refine ⟨.tuple #[u, .bool true], ?_, ⟨[u, .bool true], rfl, _, _, rfl, zm.2 hu, _, _, rfl, zm.2 (yw _ _ rfl), rfl⟩⟩
  simp only [execOp, Sem.run_bind, hr, Result.andThen_ok, Sem.run_pure, if_true]
theorem s_lookupINo {l : List κ} {vs : List AV} {s : κ} {z : Value} (K : KeyOk C.P kt av) (hN : Nat.blt d C.N = true) (hx : opV A x = some (.mp (l.map av) vs)) (hy : opV A y = some (av s))
    (hT : C.P.underlying T = some (.map kt vt)) (hm : zX l s 0 = none) (hz : xe C.P vt = some z) (hzp : plain z = true) :
    zZ C ⟨some d, .lookup T x y true, ty, pos, af, gd⟩ (opR x ++ opR y) [] A [(d, .tup [.imm (.v z), .imm (.v (.bool false))])] := by
  refine zZ.value rfl hN fun A' G a w hR S => ?_
  rw [← z5 (fun k hk => hR k (List.mem_append_left _ hk))] at hx
  rw [← z5 (fun k hk => hR k (List.mem_append_right _ hk))] at hy
  have hr := run_lookupN K hT (rep_mp (S.opV hx)) (S.opV hy) (c := true) hm hz
  refine ⟨.tuple #[z, .bool false], ?_, ⟨[z, .bool false], rfl, _, _, rfl, zm.2 (yw _ _ hzp), _, _, rfl, zm.2 (yw _ _ rfl), rfl⟩⟩
  simp only [execOp, Sem.run_bind, hr, Result.andThen_ok, Sem.run_pure, if_true]
theorem s_lookupIR {n : Nat} {l : List κ} {vs : List AV} {s : κ} {r : List AV} (K : KeyOk C.P kt av) (hN : Nat.blt d C.N = true) (hx : opV A x = some (.mp (l.map av) vs)) (hy : opV A y = some (av s))
    (hT : C.P.underlying T = some (.map kt vt)) (hz : xe C.P vt = some (.slice none 0 0)) (hv : (match zX l s 0 with | some i => vs[i]? | none => some (.sl n [])) = some (.sl n r)) :
    zZ C ⟨some d, .lookup T x y false, ty, pos, af, gd⟩ (opR x ++ opR y) [] A [(d, .imm (.sl n r))] := by
  refine zZ.value rfl hN fun A' G a w hR S => ?_
  rw [← z5 (fun k hk => hR k (List.mem_append_left _ hk))] at hx
  rw [← z5 (fun k hk => hR k (List.mem_append_right _ hk))] at hy
  cases hm : zX l s 0 with
  | some i =>
    rw [hm] at hv
    obtain ⟨u, hu, hr⟩ := run_lookupY K hT (rep_mp (S.opV hx)) (S.opV hy) (c := false) hm hv
    refine ⟨u, ?_, zm.2 hu⟩
    simp only [execOp, Sem.run_bind, hr, Result.andThen_ok, Sem.run_pure, Bool.false_eq_true, if_false]
  | none =>
    rw [hm] at hv; cases hv
    have hr := run_lookupN K hT (rep_mp (S.opV hx)) (S.opV hy) (c := false) hm hz
    refine ⟨.slice none 0 0, ?_, zm.2 ⟨[.slice none 0 0], ?_, rfl⟩⟩
    · simp only [execOp, Sem.run_bind, hr, Result.andThen_ok, Sem.run_pure, Bool.false_eq_true, if_false]
    · simp only [RepC]; exact ⟨_, rfl, .inl (by simpa using nil_sl n)⟩
theorem s_lenMp {g : Nat} {ks vs : List AV} (hN : Nat.blt d C.N = true) (hx : opS A x = .mref g) (hg : A g = .mpr ks vs) (hT : C.P.underlying T = some (.map kt vt)) :
    zZ C ⟨some d, .call { callee := .builtin .len, args := #[x], argTypes := #[T] }, ty, pos, af, gd⟩ (g :: opR x) [] A [(d, .imm (.v (.int .i64 (ks.length : Int))))] := by
  refine zZ.value rfl hN fun A' G a w hR S => ?_
  have hx' := (zt (fun k hk => hR k (List.mem_cons_of_mem _ hk))).trans hx
  obtain ⟨c, hc1, hc2⟩ := S.opS hx' rfl
  simp only [RepS] at hc1
  have hev : a.eval x = .map (some (G.blk g)) := by rw [hc2, hc1]; rfl
  have hb := S.holds g
  rw [(hR g List.mem_cons_self).trans hg] at hb
  simp only [Holds] at hb
  obtain ⟨how, ⟨es, h1, h2, h3, h4⟩, hni⟩ := hb
  have hlen := yU h3
  simp only [List.length_map, Array.length_toList] at hlen
  have hobj := xH (P := C.P) h1
  refine ⟨.int .i64 (es.size : Int), ?_, by rw [hlen]; exact zm.2 (yw _ _ rfl)⟩
  have e : (#[x].map a.eval) = #[.map (some (G.blk g))] := by simp [hev]
  simp only [execOp, resolve, Sem.run_bind, Sem.run_pure, Result.andThen_ok, invoke, builtin, e]
  simp [Builtin.len_, Sem.run_bind, zM hT, hobj, goInt]
end
end Go.Al
namespace Go.Al
open Go.RowKit
section
variable {κ : Type} [DecidableEq κ]
def yd (l : List κ) (s : κ) : List κ := match zX l s 0 with | some _ => l | none => l ++ [s]
def kputV (l : List κ) (vs : List AV) (s : κ) (v : AV) : List AV := match zX l s 0 with | some i => vs.set i v | none => vs ++ [v]
def kidx (l : List κ) (s : κ) : Nat := match zX l s 0 with | some i => i | none => l.length
def kold (l : List κ) (vs : List AV) (s : κ) (v : AV) : List AV := match zX l s 0 with | some _ => vs | none => vs ++ [v]
end
theorem modify_same {es : Array MapEntry} {i : Nat} {f : MapEntry → MapEntry} (h : ∀ (hi : i < es.size), f es[i] = es[i]) : es.modify i f = es := by
  apply Array.ext
  · simp
  · intro j h1 h2
    rw [Array.getElem_modify]
    split
    · rename_i e; subst e; exact h _
    · rfl
theorem findIdx_born {es : Array MapEntry} (hb : ∀ i (h : i < es.size), es[i].born = i) {j : Nat} (hj : j < es.size) : es.findIdx? (fun e => (e.born : Int) == (j : Int)) = some j := by
  rw [Array.findIdx?_eq_some_iff_getElem]
  refine ⟨hj, by rw [hb j hj]; simp, fun k hk => ?_⟩
  rw [hb k (by omega)]
  simp; omega
section
variable {C : Cx} {A : Nat → SV} {d : Nat} {ty : TypeId} {pos : String} {af : Array Edge} {gd : Option (Nat × Bool)} {x y z : Operand} {T T' : TypeId} {kt vt : TypeId} {κ : Type} [DecidableEq κ] {av : κ → AV}
theorem wr {w : World} {I : Nat → Nat → Prop} {xs : List AV} {vs : List Value} {x : AV} {v : Value} (h : zg w I xs vs) (k : Rep w I x v) : zg w I (xs ++ [x]) (vs ++ [v]) :=
  wh h (xQ k repVs_nil)
theorem s_mapUpdateK {g : Nat} {l : List κ} {vs : List AV} {s : κ} {v : AV} (K : KeyOk C.P kt av) (hx : opS A x = .mref g) (hg : A g = .mpr (l.map av) vs) (hy : opV A y = some (av s)) (hz : opV A z = some v) (hT : C.P.underlying T = some (.map kt vt)) :
    zZ C ⟨none, .mapUpdate T x y z, ty, pos, af, gd⟩ (g :: (opR x ++ (opR y ++ opR z))) [] A [(g, .mpr ((yd l s).map av) (kputV l vs s v))] := by
  intro A' a w hR hF ⟨G, S⟩
  have hgA : A' g = _ := (hR g List.mem_cons_self).trans hg
  have hx' := (zt (fun k hk => hR k (List.mem_cons_of_mem _ (List.mem_append_left _ hk)))).trans hx
  rw [← z5 (fun k hk => hR k (List.mem_cons_of_mem _ (List.mem_append_right _ (List.mem_append_left _ hk))))] at hy
  rw [← z5 (fun k hk => hR k (List.mem_cons_of_mem _ (List.mem_append_right _ (List.mem_append_right _ hk))))] at hz
  obtain ⟨hev, _⟩ := S.mapAt hx' hgA
  have hys := S.opV hy
  have hzv := S.opV hz
  have hb := S.holds g
  rw [hgA] at hb
  simp only [Holds] at hb
  obtain ⟨how, ⟨es, h1, h2, h3, h4⟩, hni⟩ := hb
  have hlen := yU h3
  simp only [List.length_map, Array.length_toList] at hlen
  have hfind := K.find hys h3
  have hobj := xH (P := C.P) h1
  unfold Oper.wp
  cases hm : zX l s 0 with
  | some i =>
    have hi := wd hm
    have hie : i < es.size := by omega
    have hsl : l[i]? = some s := by have := kfind_get hm; simpa using this
    obtain ⟨u, hu1, hu2⟩ := yb h3 (show (l.map av)[i]? = some (av s) by rw [List.getElem?_map, hsl]; rfl)
    simp only [List.getElem?_map, Array.getElem?_toList, Array.getElem?_eq_getElem hie, Option.map_some, Option.some.injEq] at hu1
    rw [← hu1] at hu2
    have hkey := (K.bits hu2 hys).1
    have e1 : (es[i]?).map (·.key) = some es[i].key := by rw [Array.getElem?_eq_getElem hie]; rfl
    have e2 : (es.toList[i]?).map (fun e => (i, e.val)) = some (i, es[i].val) := by rw [Array.getElem?_toList, Array.getElem?_eq_getElem hie]; rfl
    have hrun : (execOp a.eval ⟨none, .mapUpdate T x y z, ty, pos, af, gd⟩).run C.P w = .ok .skip (zn w (G.blk g) (.map (es.modify i fun e => { e with key := a.eval y, val := a.eval z }) es.size)) := by
      simp only [execOp, Instr.mapUpdate, Sem.run_bind, zM hT, Result.andThen_ok, hev, hobj, K.chk hys, hfind, hm, Option.bind_some, e2, e1, Option.getD_some, K.stays hu2 hys, Sem.run_pure, xR h1]
    rw [hrun, Oper.upon_skip]
    have hmp : yd l s = l ∧ kputV l vs s v = vs.set i v := by unfold yd kputV; rw [hm]; exact ⟨rfl, rfl⟩
    rw [hmp.1, hmp.2]
    refine S.turnO how hni (by rw [hgA]; simp [zR]) (fun b h => by simpa only [zR] using h) fun hle => ?_
    simp only [Holds]
    refine ⟨⟨how.1, by rw [z_]; exact how.2⟩, ⟨es.modify i fun e => { e with key := a.eval y, val := a.eval z }, by rw [yI how.2]; simp, fun j hj => ?_, ?_, ?_⟩, hni⟩
    · simp only [Array.getElem_modify]
      split
      · exact h2 j (by simpa using hj)
      · exact h2 j (by simpa using hj)
    · have : ((es.modify i fun e => { e with key := a.eval y, val := a.eval z }).toList.map (·.key)) = es.toList.map (·.key) := by
        refine List.ext_getElem (by simp) fun j h5 h6 => ?_
        simp only [List.getElem_map, Array.getElem_toList, Array.getElem_modify]
        split
        · rename_i hij; subst hij; exact hkey.symm
        · rfl
      rw [this]; exact zg.mono hle _ _ h3
    · have : ((es.modify i fun e => { e with key := a.eval y, val := a.eval z }).toList.map (·.val)) = (es.toList.map (·.val)).set i (a.eval z) := by
        refine List.ext_getElem (by simp) fun j h5 h6 => ?_
        simp only [List.getElem_map, Array.getElem_toList, Array.getElem_modify, List.getElem_set]
        split <;> rfl
      rw [this]; exact repVs_set (zg.mono hle _ _ h4) (hzv.mono hle)
  | none =>
    have hrun : (execOp a.eval ⟨none, .mapUpdate T x y z, ty, pos, af, gd⟩).run C.P w = .ok .skip (zn w (G.blk g) (.map (es.push { key := a.eval y, val := a.eval z, born := es.size }) (es.size + 1))) := by
      simp only [execOp, Instr.mapUpdate, Sem.run_bind, zM hT, Result.andThen_ok, hev, hobj, K.chk hys, hfind, hm, Option.bind_none, Sem.run_pure, xR h1]
    rw [hrun, Oper.upon_skip]
    have hmp : yd l s = l ++ [s] ∧ kputV l vs s v = vs ++ [v] := by unfold yd kputV; rw [hm]; exact ⟨rfl, rfl⟩
    rw [hmp.1, hmp.2]
    refine S.turnO how hni (by rw [hgA]; simp [zR]) (fun b h => by simpa only [zR] using h) fun hle => ?_
    simp only [Holds]
    refine ⟨⟨how.1, by rw [z_]; exact how.2⟩, ⟨es.push { key := a.eval y, val := a.eval z, born := es.size }, by rw [yI how.2]; simp, fun j hj => ?_, ?_, ?_⟩, hni⟩
    · simp only [Array.getElem_push]
      split
      · rename_i hj2; exact h2 j hj2
      · rename_i hj2; simp at hj; show es.size = j; omega
    · simp only [Array.toList_push, List.map_append, List.map_cons, List.map_nil]
      exact wr (zg.mono hle _ _ h3) (hys.mono hle)
    · simp only [Array.toList_push, List.map_append, List.map_cons, List.map_nil]
      exact wr (zg.mono hle _ _ h4) (hzv.mono hle)
theorem s_mapEntryK {g : Nat} {l : List κ} {vs : List AV} {s : κ} {v : AV} {zv : Value} (K : KeyOk C.P kt av) (hgN : Nat.ble C.N g = true) (hN : Nat.blt d C.N = true) (hx : opS A x = .mref g) (hg : A g = .mpr (l.map av) vs) (hy : opV A y = some (av s)) (hT : C.P.underlying T = some (.map kt vt))
    (hz : xe C.P vt = some zv) (hzp : plain zv = true) (hv : (match zX l s 0 with | some i => vs[i]? | none => some (.v zv)) = some v) :
    zZ C ⟨some d, .mapEntry T x y, ty, pos, af, gd⟩ (g :: (opR x ++ opR y)) [] A [(d, .tup [.imm v, .imm (.v (.int .i64 (kidx l s : Nat)))]), (g, .mpr ((yd l s).map av) (kold l vs s (.v zv)))] := by
  intro A' a w hR hF ⟨G, S⟩
  have hgA : A' g = _ := (hR g List.mem_cons_self).trans hg
  have hx' := (zt (fun k hk => hR k (List.mem_cons_of_mem _ (List.mem_append_left _ hk)))).trans hx
  rw [← z5 (fun k hk => hR k (List.mem_cons_of_mem _ (List.mem_append_right _ hk)))] at hy
  have hN' : d < C.N := by simpa [Nat.blt_eq] using hN
  have hgd : d ≠ g := by have := Nat.le_of_ble_eq_true hgN; omega
  obtain ⟨hev, _⟩ := S.mapAt hx' hgA
  have hys := S.opV hy
  have hb := S.holds g
  rw [hgA] at hb
  simp only [Holds] at hb
  obtain ⟨how, ⟨es, h1, h2, h3, h4⟩, hni⟩ := hb
  have hlen := yU h3
  simp only [List.length_map, Array.length_toList] at hlen
  have hfind := K.find hys h3
  have hobj := xH (P := C.P) h1
  have hu : ∀ (G' : Gh) (w' : World) (X' : SV) (r : SV) (v' : Value), SimG C (upd A' [(g, X')]) G' a w' → yO w' G' r v' → Sim C (upd A' [(d, r), (g, X')]) (a.put (some d) v') w' := by
    intro G' w' X' r v' S' hv
    have := S'.put hN' hv
    have e : upd (upd A' [(g, X')]) [(d, r)] = upd A' [(d, r), (g, X')] := by
      funext k
      simp only [upd]
    rw [e] at this
    exact ⟨G', this⟩
  unfold Oper.wp
  cases hm : zX l s 0 with
  | some i =>
    have hi := wd hm
    have hie : i < es.size := by omega
    have hsl : l[i]? = some s := by have := kfind_get hm; simpa using this
    obtain ⟨u, hu1, hu2⟩ := yb h3 (show (l.map av)[i]? = some (av s) by rw [List.getElem?_map, hsl]; rfl)
    simp only [List.getElem?_map, Array.getElem?_toList, Array.getElem?_eq_getElem hie, Option.map_some, Option.some.injEq] at hu1
    rw [← hu1] at hu2
    have hkey := (K.bits hu2 hys).1
    have e1 : (es[i]?).map (·.key) = some es[i].key := by rw [Array.getElem?_eq_getElem hie]; rfl
    have e3 : (es[i]?).map (fun x => (x.born : Int)) = some (i : Int) := by rw [Array.getElem?_eq_getElem hie, Option.map_some, h2 i hie]
    have e2 : (es.toList[i]?).map (fun e => (i, e.val)) = some (i, es[i].val) := by rw [Array.getElem?_toList, Array.getElem?_eq_getElem hie]; rfl
    have em : es.modify i (fun e => { e with key := a.eval y }) = es := modify_same fun hi => by rw [← hkey]
    have hrun : (execOp a.eval ⟨some d, .mapEntry T x y, ty, pos, af, gd⟩).run C.P w = .ok (.value (.tuple #[es[i].val, .int .i64 i])) w := by
      simp only [execOp, Instr.mapEntry, Sem.run_bind, zM hT, Result.andThen_ok, hev, hobj, K.chk hys, hfind, hm, Option.bind_some, e2, e1, e3, Option.getD_some, K.stays hu2 hys, Sem.run_pure, em, xR h1, setBlk_same h1, goInt]
    rw [hrun, Oper.upon_value]
    rw [hm] at hv
    obtain ⟨t, ht1, ht2⟩ := yb h4 hv
    simp only [List.getElem?_map, Array.getElem?_toList, Array.getElem?_eq_getElem hie, Option.map_some, Option.some.injEq] at ht1
    have hmp : yd l s = l ∧ kold l vs s (.v zv) = vs ∧ kidx l s = i := by unfold yd kold kidx; rw [hm]; exact ⟨rfl, rfl, rfl⟩
    rw [hmp.1, hmp.2.1, hmp.2.2]
    refine hu G w _ _ _ (S.weak fun k => .inr ?_) ⟨[es[i].val, .int .i64 i], rfl, _, _, rfl, zm.2 (by rw [ht1]; exact ht2), _, _, rfl, zm.2 (yw _ _ rfl), rfl⟩
    rw [xB]; split
    · rename_i e; subst e; exact hgA.symm
    · rfl
  | none =>
    have hrun : (execOp a.eval ⟨some d, .mapEntry T x y, ty, pos, af, gd⟩).run C.P w = .ok (.value (.tuple #[zv, .int .i64 es.size])) (zn w (G.blk g) (.map (es.push { key := a.eval y, val := zv, born := es.size }) (es.size + 1))) := by
      simp only [execOp, Instr.mapEntry, Sem.run_bind, zM hT, Result.andThen_ok, hev, hobj, K.chk hys, hfind, hm, Option.bind_none, Sem.run_pure, yS hz, xR h1, goInt]
    rw [hrun, Oper.upon_value]
    rw [hm] at hv; cases hv
    have hmp : yd l s = l ++ [s] ∧ kold l vs s (.v zv) = vs ++ [.v zv] ∧ kidx l s = l.length := by unfold yd kold kidx; rw [hm]; exact ⟨rfl, rfl, rfl⟩
    rw [hmp.1, hmp.2.1, hmp.2.2]
    refine hu G _ _ _ _ (S.turnOG how hni (by rw [hgA]; simp [zR]) (fun b h => by simpa only [zR] using h) fun hle => ?_) ⟨[zv, .int .i64 es.size], rfl, _, _, rfl, zm.2 (yw _ _ hzp), _, _, rfl, zm.2 (by rw [hlen]; exact yw _ _ rfl), rfl⟩
    simp only [Holds]
    refine ⟨⟨how.1, by rw [z_]; exact how.2⟩, ⟨es.push { key := a.eval y, val := zv, born := es.size }, by rw [yI how.2]; simp, fun j hj => ?_, ?_, ?_⟩, hni⟩
    · simp only [Array.getElem_push]
      split
      · rename_i hj2; exact h2 j hj2
      · rename_i hj2; simp at hj; show es.size = j; omega
    · simp only [Array.toList_push, List.map_append, List.map_cons, List.map_nil]
      exact wr (zg.mono hle _ _ h3) (hys.mono hle)
    · simp only [Array.toList_push, List.map_append, List.map_cons, List.map_nil]
      exact wr (zg.mono hle _ _ h4) (yw _ _ hzp)
theorem s_entryStoreK {g j : Nat} {ks vs : List AV} {v : AV} {kd : IntKind} (hx : opS A x = .mref g) (hg : A g = .mpr ks vs) (hy : opV A y = some (.v (.int kd (j : Int)))) (hz : opV A z = some v) (hj : j < vs.length) :
    zZ C ⟨none, .entryStore T x y z, ty, pos, af, gd⟩ (g :: (opR x ++ (opR y ++ opR z))) [] A [(g, .mpr ks (vs.set j v))] := by
  intro A' a w hR hF ⟨G, S⟩
  have hgA : A' g = _ := (hR g List.mem_cons_self).trans hg
  have hx' := (zt (fun k hk => hR k (List.mem_cons_of_mem _ (List.mem_append_left _ hk)))).trans hx
  rw [← z5 (fun k hk => hR k (List.mem_cons_of_mem _ (List.mem_append_right _ (List.mem_append_left _ hk))))] at hy
  rw [← z5 (fun k hk => hR k (List.mem_cons_of_mem _ (List.mem_append_right _ (List.mem_append_right _ hk))))] at hz
  obtain ⟨hev, _⟩ := S.mapAt hx' hgA
  have hyi := yM (S.opV hy)
  have hzv := S.opV hz
  have hb := S.holds g
  rw [hgA] at hb
  simp only [Holds] at hb
  obtain ⟨how, ⟨es, h1, h2, h3, h4⟩, hni⟩ := hb
  have hlen := yU h4
  simp only [List.length_map, Array.length_toList] at hlen
  have hobj := xH (P := C.P) h1
  have hfi := findIdx_born h2 (show j < es.size by omega)
  unfold Oper.wp
  have hrun : (execOp a.eval ⟨none, .entryStore T x y z, ty, pos, af, gd⟩).run C.P w = .ok .skip (zn w (G.blk g) (.map (es.modify j fun e => { e with val := a.eval z }) es.size)) := by
    simp only [execOp, Instr.entryStore, Sem.run_bind, hev, hobj, Result.andThen_ok, hyi, asInt, asIntOf, Sem.run_pure, hfi, xR h1]
  rw [hrun, Oper.upon_skip]
  refine S.turnO how hni (by rw [hgA]; simp [zR]) (fun b h => by simpa only [zR] using h) fun hle => ?_
  simp only [Holds]
  refine ⟨⟨how.1, by rw [z_]; exact how.2⟩, ⟨es.modify j fun e => { e with val := a.eval z }, by rw [yI how.2]; simp, fun i hi => ?_, ?_, ?_⟩, hni⟩
  · simp only [Array.getElem_modify]
    split
    · exact h2 i (by simpa using hi)
    · exact h2 i (by simpa using hi)
  · have : ((es.modify j fun e => { e with val := a.eval z }).toList.map (·.key)) = es.toList.map (·.key) := by
      refine List.ext_getElem (by simp) fun i h5 h6 => ?_
      simp only [List.getElem_map, Array.getElem_toList, Array.getElem_modify]
      split <;> rfl
    rw [this]; exact zg.mono hle _ _ h3
  · have : ((es.modify j fun e => { e with val := a.eval z }).toList.map (·.val)) = (es.toList.map (·.val)).set j (a.eval z) := by
      refine List.ext_getElem (by simp) fun i h5 h6 => ?_
      simp only [List.getElem_map, Array.getElem_toList, Array.getElem_modify, List.getElem_set]
      split <;> rfl
    rw [this]; exact repVs_set (zg.mono hle _ _ h4) (hzv.mono hle)
end
end Go.Al
namespace Go.Al
open Go.RowKit
section
variable {κ : Type}
def KidF (av : κ → AV) (n : Nat) (ks : List κ) (ls : List (List AV)) (ex : Nat) : Nat → Value → Nat → HRes := fun blk cur _ =>
  { own := fun c => c = blk ∨ ∃ j v, j < ks.length ∧ j ≠ ex ∧ (tupV cur)[j]? = some v ∧ c ∈ hdrB v
    ok := fun w I => ls.length = ks.length ∧ blk < w.heap.size ∧ (∀ o, ¬ I blk o) ∧ (∀ j, j < ks.length → j ≠ ex → ∃ v, (tupV cur)[j]? = some v) ∧
      (∃ es, w.heap[blk]? = some (.map es es.size) ∧ (∀ i (h : i < es.size), es[i].born = i) ∧ zg w I (ks.map av) (es.toList.map (·.key)) ∧
        ∀ j v, j < ks.length → j ≠ ex → (tupV cur)[j]? = some v → (es.toList.map (·.val))[j]? = some v) ∧
      (∀ j v l, j < ks.length → j ≠ ex → (tupV cur)[j]? = some v → ls[j]? = some l → TokS w (fun _ => True) I w v n l) ∧
      (∀ j v, j < ks.length → j ≠ ex → (tupV cur)[j]? = some v → blk ∉ hdrB v) ∧
      (∀ j k v v' b, j ≠ k → j < ks.length → k < ks.length → j ≠ ex → k ≠ ex → (tupV cur)[j]? = some v → (tupV cur)[k]? = some v' → b ∈ hdrB v → b ∈ hdrB v' → False)
    keep := fun w I w' I' h hle ho => by
      obtain ⟨h1, h2, h3, h4, ⟨es, h5, h6, h7, h8⟩, h9, h10, h11⟩ := h
      obtain ⟨e1, e2⟩ := ho blk (.inl rfl)
      exact ⟨h1, lt_keep e1 h2, fun o hi => h3 o (e2 o hi), h4, ⟨es, e1.trans h5, h6, zg.mono hle _ _ h7, h8⟩, fun j v l hj hx hv hl => (h9 j v l hj hx hv hl).keep hle fun c hc => ho c (.inr ⟨j, v, hj, hx, hv, hc⟩), h10, h11⟩
    kind := fun w I b o h hb ho => by
      obtain ⟨h1, h2, h3, h4, ⟨es, h5, _⟩, h9, _⟩ := h
      rcases hb with rfl | ⟨j, v, hj, hx, hv, hc⟩
      · rw [h5] at ho; cases ho; rfl
      · exact (h9 j v ls[j] hj hx hv (List.getElem?_eq_getElem (by omega))).kind hc ho }
theorem SimG.kidTake {C : Cx} {A : Nat → SV} {G : Gh} {a : Act} {w : World} {av : κ → AV} (S : SimG C A G a w) {gk gT n i : Nat} {ks : List κ} {ls : List (List AV)} {l : List AV} (hTK : gT < C.K) (hne : gk ≠ gT)
    (hg : A gk = .gen (KidF av n ks ls ks.length)) (hi : i < ks.length) (hl : ls[i]? = some l) (hf : ∀ k, k ≠ gT → noG [gT] (A k) = true) :
    ∃ G' v es, SimG C (upd A [(gT, .tok n l), (gk, .gen (KidF av n ks ls i))]) G' a w ∧ G'.blk gk = G.blk gk ∧ w.heap[G.blk gk]? = some (.map es es.size) ∧ (∀ j (h : j < es.size), es[j].born = j) ∧ (es.toList.map (·.val))[i]? = some v ∧ yO w G' (.slg gT n l) v := by
  have hgs := S.holds gk
  rw [hg] at hgs
  simp only [Holds] at hgs
  obtain ⟨hown, h1, h2, h3, h4, ⟨es, h5, h6, h7, h8⟩, h9, h10, h11⟩ := hgs
  have hx : ∀ {j : Nat}, j < ks.length → j ≠ ks.length := fun h => by omega
  obtain ⟨v, hv⟩ := h4 i hi (hx hi)
  have htok := h9 i v l hi (hx hi) hv hl
  let G' : Gh := { G with cur := fun k => if k = gT then v else G.cur k, len := fun k => if k = gT then l.length else G.len k }
  have hoff : ∀ k, k ≠ gT → G'.blk k = G.blk k ∧ G'.cur k = G.cur k ∧ G'.len k = G.len k := fun k hk => ⟨rfl, by simp only [G', if_neg hk], by simp only [G', if_neg hk]⟩
  have p1 : upd A [(gT, .tok n l), (gk, .gen (KidF av n ks ls i))] gT = .tok n l := by simp [upd]
  have p2 : upd A [(gT, .tok n l), (gk, .gen (KidF av n ks ls i))] gk = .gen (KidF av n ks ls i) := by simp [upd, zL (Ne.symm hne)]
  have ownK : ∀ c, (c = G.blk gk ∨ ∃ j v, j < ks.length ∧ (tupV (G.cur gk))[j]? = some v ∧ c ∈ hdrB v) → zR G gk c (A gk) := fun c hc => by
    rw [hg]; exact hc.imp_right fun ⟨j, v, a1, a2, a3⟩ => ⟨j, v, a1, hx a1, a2, a3⟩
  have own' : ∀ k c, k ∈ [gT, gk] → zR G' k c (upd A [(gT, .tok n l), (gk, .gen (KidF av n ks ls i))] k) → (k = gT ∧ c ∈ hdrB v) ∨ (k = gk ∧ (c = G.blk gk ∨ ∃ j v, j < ks.length ∧ j ≠ i ∧ (tupV (G.cur gk))[j]? = some v ∧ c ∈ hdrB v)) := by
    intro k c hk hc
    simp only [List.mem_cons, List.not_mem_nil, or_false] at hk
    rcases hk with rfl | rfl
    · rw [p1] at hc
      simp only [zR, G', if_true] at hc
      obtain ⟨ad, m, cp, e1, e2⟩ := hc
      exact .inl ⟨rfl, by rw [e1, ← e2]; exact List.mem_singleton.2 rfl⟩
    · rw [p2] at hc
      simp only [zR, KidF, G', if_neg hne] at hc
      exact .inr ⟨rfl, hc⟩
  refine ⟨G', v, es, S.tellKs [gT, gk] [gT] (Le.refl _ _) (fun k hk => ?_) (fun k hk => ?_) (fun k hk => ?_) (fun k hk => hf k (by rintro rfl; exact hk (by simp))) (fun _ _ h => .inl h) ?_ ?_ ?_, rfl, h5, h6, h8 i v hi (hx hi) hv, ?_⟩
  · obtain ⟨e1, e2, e3⟩ := hoff k (by simpa using hk)
    exact ⟨e1, .inl ⟨e2, e3⟩⟩
  · obtain ⟨e1, e2, e3⟩ := hoff k (by omega)
    exact ⟨e1, .inl ⟨e2, e3⟩⟩
  · exact ⟨upd_off (by simpa [xL] using hk), hoff k (by rintro rfl; exact hk (by simp))⟩
  · intro k hk c hc
    refine ⟨gk, by simp, ?_⟩
    rcases own' k c hk hc with ⟨_, h⟩ | ⟨_, h | ⟨j, u, a1, _, a2, a3⟩⟩
    · exact ownK c (.inr ⟨i, v, hi, hv, h⟩)
    · exact ownK c (.inl h)
    · exact ownK c (.inr ⟨j, u, a1, a2, a3⟩)
  · intro k hk
    simp only [List.mem_cons, List.not_mem_nil, or_false] at hk
    rcases hk with rfl | rfl
    · rw [p1]
      simp only [Holds, G', if_true]
      refine ⟨trivial, ?_⟩
      rcases htok with h | ⟨b', cap, e1, e2, e3, e4, e5, e6, e7⟩
      · exact .inl h
      · exact .inr ⟨b', cap, e1, e2, e3, e4, hown b' (.inr ⟨i, v, hi, hx hi, hv, by rw [e1]; exact List.mem_singleton.2 rfl⟩), e6, e7⟩
    · rw [p2]
      simp only [Holds, KidF, G', if_neg hne]
      refine ⟨fun c hc => hown c (hc.imp_right fun ⟨j, u, a1, _, a2, a3⟩ => ⟨j, u, a1, hx a1, a2, a3⟩), h1, h2, h3, fun j hj _ => h4 j hj (hx hj), ⟨es, h5, h6, h7, fun j u hj _ hu => h8 j u hj (hx hj) hu⟩,
        fun j u l hj _ hu hl => h9 j u l hj (hx hj) hu hl, fun j u hj _ hu => h10 j u hj (hx hj) hu, fun j k u u' b hjk hj hk _ _ => h11 j k u u' b hjk hj hk (hx hj) (hx hk)⟩
  · intro k j c hk hj hkj hb1 hb2
    have sep : c ∈ hdrB v → (c = G.blk gk ∨ ∃ j v, j < ks.length ∧ j ≠ i ∧ (tupV (G.cur gk))[j]? = some v ∧ c ∈ hdrB v) → False := by
      rintro hc (rfl | ⟨m, u, a1, a2, a3, a4⟩)
      · exact h10 i v hi (hx hi) hv hc
      · exact h11 i m v u c (Ne.symm a2) hi a1 (hx hi) (hx a1) hv a3 hc a4
    rcases own' k c hk hb1 with ⟨q1, q2⟩ | ⟨q1, q2⟩ <;> rcases own' j c hj hb2 with ⟨r1, r2⟩ | ⟨r1, r2⟩
    · exact hkj (q1.trans r1.symm)
    · exact sep q2 r2
    · exact sep r2 q2
    · exact hkj (q1.trans r1.symm)
  · refine ⟨[v], ?_, rfl⟩
    simp only [RepS]
    refine ⟨v, rfl, ?_, ?_, ?_⟩
    · simp only [RepC]
      rcases htok with ⟨rfl, rfl⟩ | ⟨b', cap, e1, e2, e3, e4, _⟩
      · exact ⟨_, rfl, .inl (by simpa using nil_sl 0)⟩
      · exact ⟨_, rfl, .inr ⟨b', 0, cap, e1, e2, e3, e4⟩⟩
    · simp only [G', if_true]; exact Nat.le_refl _
    · intro _; simp only [G', if_true]
theorem SimG.kidNew {C : Cx} {A : Nat → SV} {G : Gh} {a : Act} {w : World} {av : κ → AV} (S : SimG C A G a w) {gk n : Nat} {ks : List κ} {ls : List (List AV)} {s : κ} {key val : Value}
    (hg : A gk = .gen (KidF av n ks ls ks.length)) (hk : Rep w G.I (av s) key) :
    ∃ es, w.heap[G.blk gk]? = some (.map es es.size) ∧ zg w G.I (ks.map av) (es.toList.map (·.key)) ∧ es.size = ks.length ∧
      SimG C (upd A [(gk, .gen (KidF av n (ks ++ [s]) (ls ++ [[]]) ks.length))]) G a (zn w (G.blk gk) (.map (es.push { key := key, val := val, born := es.size }) (es.size + 1))) := by
  have hgs := S.holds gk
  rw [hg] at hgs
  simp only [Holds] at hgs
  obtain ⟨hown, h1, h2, h3, h4, ⟨es, h5, h6, h7, h8⟩, h9, h10, h11⟩ := hgs
  have hx : ∀ {j : Nat}, j < ks.length → j ≠ ks.length := fun h => by omega
  have hlen := yU h7
  simp only [List.length_map, Array.length_toList] at hlen
  have hl : ∀ {j : Nat}, j < (ks ++ [s]).length → j ≠ ks.length → j < ks.length := fun h h' => by simp at h; omega
  refine ⟨es, h5, h7, hlen, S.turnB (g := gk) (b0 := G.blk gk) (hown _ (.inl rfl)) h3 (by rw [hg]; exact .inl rfl) (fun c hc => by
    rw [hg]; exact hc.imp_right fun ⟨j, u, a1, a2, a3, a4⟩ => ⟨j, u, hl a1 a2, hx (hl a1 a2), a3, a4⟩) fun hle => ?_⟩
  simp only [Holds, KidF]
  have hne : ∀ {c : Nat}, c ≠ G.blk gk → (zn w (G.blk gk) (.map (es.push { key := key, val := val, born := es.size }) (es.size + 1))).heap[c]? = w.heap[c]? := fun h => yH h
  refine ⟨fun c hc => ?_, by simp [h1], by rw [z_]; exact h2, h3, fun j hj hjx => h4 j (hl hj hjx) hjx, ⟨es.push { key := key, val := val, born := es.size }, by rw [yI h2]; simp, fun j hj => ?_, ?_, fun j u hj hjx hu => ?_⟩,
    fun j u l hj hjx hu hlj => ?_, fun j u hj hjx hu => h10 j u (hl hj hjx) hjx hu, fun j k u u' b hjk hj hk hjx hkx => h11 j k u u' b hjk (hl hj hjx) (hl hk hkx) hjx hkx⟩
  · have := hown c (hc.imp_right fun ⟨j, u, a1, a2, a3, a4⟩ => ⟨j, u, hl a1 a2, hx (hl a1 a2), a3, a4⟩)
    exact ⟨this.1, by rw [z_]; exact this.2⟩
  · simp only [Array.getElem_push]
    split
    · rename_i hj2; exact h6 j hj2
    · rename_i hj2; simp at hj; show es.size = j; omega
  · simp only [Array.toList_push, List.map_append, List.map_cons, List.map_nil]
    exact wr (zg.mono hle _ _ h7) (hk.mono hle)
  · have := h8 j u (hl hj hjx) hjx hu
    simp only [Array.toList_push, List.map_append]
    rw [List.getElem?_append_left (by have := hl hj hjx; simp; omega)]
    exact this
  · have hj' := hl hj hjx
    rw [List.getElem?_append_left (by omega)] at hlj
    refine (h9 j u l hj' hjx hu hlj).keep hle fun c hc => ⟨hne ?_, fun _ h => h⟩
    rintro rfl
    exact h10 j u hj' hjx hu hc
theorem SimG.nilRow {C : Cx} {A : Nat → SV} {G : Gh} {a : Act} {w : World} (S : SimG C A G a w) {gT n : Nat} (hTK : gT < C.K) (hf : ∀ k, k ≠ gT → noG [gT] (A k) = true) :
    ∃ G', SimG C (upd A [(gT, .tok n [])]) G' a w ∧ (∀ k, k ≠ gT → G'.blk k = G.blk k) ∧ yO w G' (.slg gT n []) (.slice none 0 0) := by
  let G' : Gh := { G with cur := fun k => if k = gT then .slice none 0 0 else G.cur k, len := fun k => if k = gT then 0 else G.len k }
  have hoff : ∀ k, k ≠ gT → G'.blk k = G.blk k ∧ G'.cur k = G.cur k ∧ G'.len k = G.len k := fun k hk => ⟨rfl, by simp only [G', if_neg hk], by simp only [G', if_neg hk]⟩
  have p1 : upd A [(gT, .tok n [])] gT = .tok n [] := by simp [upd]
  have hno : ∀ c, ¬ zR G' gT c (.tok n []) := by
    rintro c ⟨ad, m, cp, e1, _⟩
    simp only [G', if_true] at e1; cases e1
  refine ⟨G', S.tellKs [gT] [gT] (Le.refl _ _) (fun k hk => ?_) (fun k hk => ?_) (fun k hk => ?_) (fun k hk => hf k (by simpa using hk)) (fun _ _ h => .inl h) ?_ ?_ ?_, fun k _ => rfl, ?_⟩
  · obtain ⟨e1, e2, e3⟩ := hoff k (by simpa using hk)
    exact ⟨e1, .inl ⟨e2, e3⟩⟩
  · obtain ⟨e1, e2, e3⟩ := hoff k (by omega)
    exact ⟨e1, .inl ⟨e2, e3⟩⟩
  · exact ⟨upd_off (by simpa [xL] using hk), hoff k (by simpa using hk)⟩
  · intro k hk c hc
    rw [List.mem_singleton.1 hk, p1] at hc
    exact absurd hc (hno c)
  · intro k hk
    rw [List.mem_singleton.1 hk, p1]
    simp only [Holds, G', if_true]
    exact ⟨rfl, .inl ⟨rfl, rfl⟩⟩
  · intro k j c hk hj hkj
    exact absurd ((List.mem_singleton.1 hk).trans (List.mem_singleton.1 hj).symm) hkj
  · refine ⟨[.slice none 0 0], ?_, rfl⟩
    simp only [RepS]
    refine ⟨_, rfl, ?_, Nat.zero_le _, fun _ => by simp only [G', if_true]⟩
    simp only [RepC]
    exact ⟨_, rfl, .inl (by simpa using nil_sl 0)⟩
def putAt (l : List Value) (i : Nat) (v : Value) : List Value := l.take i ++ v :: l.drop (i + 1)
theorem putAt_get {l : List Value} {i j : Nat} {v u : Value} (hi : i ≤ l.length) (h : (putAt l i v)[j]? = some u) : (j = i ∧ u = v) ∨ (j ≠ i ∧ l[j]? = some u) := by
  unfold putAt at h
  have hti : (l.take i).length = i := by rw [List.length_take]; omega
  by_cases hj : j < i
  · rw [List.getElem?_append_left (by omega), List.getElem?_take_of_lt hj] at h
    exact .inr ⟨by omega, h⟩
  · rw [List.getElem?_append_right (by omega), hti] at h
    by_cases hji : j = i
    · subst hji; simp at h; exact .inl ⟨rfl, h.symm⟩
    · obtain ⟨k, hk⟩ : ∃ k, j - i = k + 1 := ⟨j - i - 1, by omega⟩
      rw [hk, List.getElem?_cons_succ, List.getElem?_drop] at h
      exact .inr ⟨hji, by rw [← h]; congr 1; omega⟩
theorem putAt_self {l : List Value} {i : Nat} {v : Value} (hi : i ≤ l.length) : (putAt l i v)[i]? = some v := by
  unfold putAt
  have hti : (l.take i).length = i := by rw [List.length_take]; omega
  rw [List.getElem?_append_right (by omega), hti]; simp
theorem putAt_ne {l : List Value} {i j : Nat} {v : Value} (hi : i ≤ l.length) (hj : j ≠ i) : (putAt l i v)[j]? = l[j]? := by
  unfold putAt
  have hti : (l.take i).length = i := by rw [List.length_take]; omega
  by_cases hlt : j < i
  · rw [List.getElem?_append_left (by omega), List.getElem?_take_of_lt hlt]
  · rw [List.getElem?_append_right (by omega), hti]
    obtain ⟨k, hk⟩ : ∃ k, j - i = k + 1 := ⟨j - i - 1, by omega⟩
    rw [hk, List.getElem?_cons_succ, List.getElem?_drop]; congr 1; omega
end
end Go.Al
namespace Go.Al
open Go.RowKit
section
variable {κ : Type} {av : κ → AV}
theorem SimG.kidPut {C : Cx} {A : Nat → SV} {G : Gh} {a : Act} {w : World} (S : SimG C A G a w) {gk gT n i : Nat} {ks : List κ} {ls : List (List AV)} {l' : List AV} (hne : gk ≠ gT)
    (hg : A gk = .gen (KidF av n ks ls i)) (hT : A gT = .tok n l') (hi : i < ks.length) :
    ∃ es, w.heap[G.blk gk]? = some (.map es es.size) ∧ (∀ j (h : j < es.size), es[j].born = j) ∧ es.size = ks.length ∧
      ∃ G', SimG C (upd A [(gT, .dead), (gk, .gen (KidF av n ks (ls.set i l') ks.length))]) G' a (zn w (G.blk gk) (.map (es.modify i fun e => { e with val := G.cur gT }) es.size)) := by
  have hgs := S.holds gk
  rw [hg] at hgs
  simp only [Holds] at hgs
  obtain ⟨hown, h1, h2, h3, h4, ⟨es, h5, h6, h7, h8⟩, h9, h10, h11⟩ := hgs
  have hlen := yU h7
  simp only [List.length_map, Array.length_toList] at hlen
  have htok := S.holds gT
  rw [hT] at htok
  simp only [Holds] at htok
  obtain ⟨htl, hts⟩ := htok
  obtain ⟨hts1, hts2⟩ := hts.own
  obtain ⟨v, hvd⟩ : ∃ v, v = G.cur gT := ⟨_, rfl⟩
  rw [← hvd] at hts1 hts2 hts
  refine ⟨es, h5, h6, hlen, ?_⟩
  rw [← hvd]
  obtain ⟨e', he'⟩ : ∃ e', e' = es.modify i fun e => { e with val := v } := ⟨_, rfl⟩
  have hsz : e'.size = es.size := by rw [he']; simp
  rw [← he']
  have hb : ∀ j (h : j < e'.size), e'[j].born = j := by
    subst he'
    intro j hj
    simp only [Array.getElem_modify]
    split
    · exact h6 j (by simpa using hj)
    · exact h6 j (by simpa using hj)
  have hkeys : e'.toList.map (·.key) = es.toList.map (·.key) := by
    subst he'
    refine List.ext_getElem (by simp) fun j h5 h6 => ?_
    simp only [List.getElem_map, Array.getElem_toList, Array.getElem_modify]
    split <;> rfl
  have hvals : e'.toList.map (·.val) = (es.toList.map (·.val)).set i v := by
    subst he'
    refine List.ext_getElem (by simp) fun j h5 h6 => ?_
    simp only [List.getElem_map, Array.getElem_toList, Array.getElem_modify, List.getElem_set]
    split <;> rfl
  have hTo : ∀ c, c ∈ hdrB v → zR G gT c (A gT) := fun c hc => by rw [hT]; rw [hvd] at hc; exact hdrB_mem hc
  have hgo : zR G gk (G.blk gk) (A gk) := by rw [hg]; exact .inl rfl
  have hgo2 : ∀ {j : Nat} {u : Value} {c : Nat}, j < ks.length → j ≠ i → (tupV (G.cur gk))[j]? = some u → c ∈ hdrB u → zR G gk c (A gk) := fun a1 a2 a3 a4 => by rw [hg]; exact .inr ⟨_, _, a1, a2, a3, a4⟩
  have hne' : ∀ {c : Nat}, c ≠ G.blk gk → (zn w (G.blk gk) (.map e' es.size)).heap[c]? = w.heap[c]? := fun h => yH h
  have hvb : G.blk gk ∉ hdrB v := fun h => S.apart gk gT _ hne hgo (hTo _ h)
  have hv8 : ∀ j u, j < ks.length → j ≠ i → (tupV (G.cur gk))[j]? = some u → (e'.toList.map (·.val))[j]? = some u := fun j u hj hji hu => by
    rw [hvals, List.getElem?_set_ne (Ne.symm hji)]; exact h8 j u hj hji hu
  have S1 := S.turnB (g := gk) (b0 := G.blk gk) (X' := .gen (KidF av n ks ls i)) (o' := .map e' es.size) (hown _ (.inl rfl)) h3 hgo (fun c h => by rw [hg]; exact h) (fun hle => by
    simp only [Holds, KidF]
    exact ⟨fun c hc => ⟨(hown c hc).1, by rw [z_]; exact (hown c hc).2⟩, h1, by rw [z_]; exact h2, h3, h4, ⟨e', by rw [yI h2, hsz], hb, by rw [hkeys]; exact zg.mono hle _ _ h7, hv8⟩,
      fun j u l hj hjx hu hl => (h9 j u l hj hjx hu hl).keep hle fun c hc => ⟨hne' (by rintro rfl; exact h10 j u hj hjx hu hc), fun _ h => h⟩, h10, h11⟩)
  have hle : Le w G.I (zn w (G.blk gk) (.map e' es.size)) G.I := fun c o h => ⟨h, zy (hne' (by rintro rfl; exact h3 o h))⟩
  have hcl : i ≤ (tupV (G.cur gk)).length := by
    rcases Nat.eq_zero_or_pos i with h | h
    · omega
    · obtain ⟨u, hu⟩ := h4 (i - 1) (by omega) (by omega)
      have := (List.getElem?_eq_some_iff.1 hu).1
      omega
  let G' : Gh := { G with cur := fun k => if k = gk then .tuple (putAt (tupV (G.cur gk)) i v).toArray else G.cur k, len := fun k => if k = gk then G.len gk + 1 else G.len k }
  have hoff : ∀ k, k ≠ gk → G'.blk k = G.blk k ∧ G'.cur k = G.cur k ∧ G'.len k = G.len k := fun k hk => ⟨rfl, by simp only [G', if_neg hk], by simp only [G', if_neg hk]⟩
  have hcur : tupV (G'.cur gk) = putAt (tupV (G.cur gk)) i v := by simp only [G', if_true, tupV]
  have p0 : upd A [(gT, .dead), (gk, .gen (KidF av n ks (ls.set i l') ks.length))] gT = .dead := by simp [upd]
  have p1 : upd A [(gT, .dead), (gk, .gen (KidF av n ks (ls.set i l') ks.length))] gk = .gen (KidF av n ks (ls.set i l') ks.length) := by simp [upd, zL (Ne.symm hne)]
  have A1 : ∀ k, upd A [(gk, .gen (KidF av n ks ls i))] k = A k := fun k => by
    rw [xB]; split
    · rename_i e; subst e; exact hg.symm
    · rfl
  have hone : ∀ {j : Nat} {u : Value}, (tupV (G'.cur gk))[j]? = some u → (j = i ∧ u = v) ∨ (j ≠ i ∧ (tupV (G.cur gk))[j]? = some u) := fun h => by rw [hcur] at h; exact putAt_get hcl h
  have part : ∀ {j : Nat} {u : Value} {c : Nat}, j < ks.length → (tupV (G'.cur gk))[j]? = some u → c ∈ hdrB u → zR G gk c (A gk) ∨ c ∈ hdrB v := fun hj hu hc => by
    rcases hone hu with ⟨rfl, rfl⟩ | ⟨a1, a2⟩
    · exact .inr hc
    · exact .inl (hgo2 hj a1 a2 hc)
  have own' : ∀ k c, k ∈ [gT, gk] → zR G' k c (upd A [(gT, .dead), (gk, .gen (KidF av n ks (ls.set i l') ks.length))] k) → k = gk ∧ (zR G gk c (A gk) ∨ c ∈ hdrB v) := by
    intro k c hk hc
    simp only [List.mem_cons, List.not_mem_nil, or_false] at hk
    rcases hk with rfl | rfl
    · rw [p0] at hc; simp only [zR] at hc
    · rw [p1] at hc
      refine ⟨rfl, ?_⟩
      rcases hc with rfl | ⟨j, u, a1, _, a3, a4⟩
      · exact .inl hgo
      · exact part a1 a3 a4
  refine ⟨G', S1.tellKs [gT, gk] [] (Le.refl _ _) (fun k _ => ?_) (fun k _ => ?_) (fun k hk => ?_) (fun k _ => yu.1 _) (fun _ _ h => .inl h) ?_ ?_ ?_⟩
  · refine ⟨rfl, ?_⟩
    by_cases h : k = gk
    · subst h; right; simp only [G', if_true]; omega
    · left; exact (hoff k h).2
  · refine ⟨rfl, ?_⟩
    by_cases h : k = gk
    · subst h; right; simp only [G', if_true]; omega
    · left; exact (hoff k h).2
  · exact ⟨by rw [A1 k, upd_off (by simpa [xL] using hk)], hoff k (by rintro rfl; exact hk (by simp))⟩
  · intro k hk c hc
    rcases own' k c hk hc with ⟨_, h | h⟩
    · exact ⟨gk, by simp, by rw [A1]; exact h⟩
    · exact ⟨gT, by simp, by rw [A1]; exact hTo c h⟩
  · intro k hk
    simp only [List.mem_cons, List.not_mem_nil, or_false] at hk
    rcases hk with rfl | rfl
    · rw [p0]; simp only [Holds]
    · rw [p1]
      have hbk : G'.blk k = G.blk k := rfl
      simp only [Holds, KidF]
      rw [hbk]
      refine ⟨fun c hc => ?_, by rw [List.length_set]; exact h1, by rw [z_]; exact h2, h3, fun j hj _ => ?_, ⟨e', by rw [yI h2, hsz], hb, by rw [hkeys]; exact zg.mono hle _ _ h7, fun j u hj _ hu => ?_⟩, fun j u l hj _ hu hl => ?_, fun j u hj _ hu => ?_, fun j m u u' c hjm hj hm _ _ hu hu' hc hc' => ?_⟩
      · have hc' : zR G k c (A k) ∨ c ∈ hdrB v := by
          rcases hc with rfl | ⟨j, u, a1, _, a3, a4⟩
          · exact .inl hgo
          · exact part a1 a3 a4
        rcases hc' with h | h
        · have := (S.holds k).owned h
          exact ⟨this.1, by rw [z_]; exact this.2⟩
        · have := hts2 c h
          exact ⟨this.1, by rw [z_]; exact this.2⟩
      · rw [hcur]
        by_cases hji : j = i
        · subst hji; exact ⟨v, putAt_self hcl⟩
        · obtain ⟨u, hu⟩ := h4 j hj hji
          exact ⟨u, by rw [putAt_ne hcl hji]; exact hu⟩
      · rcases hone hu with ⟨rfl, rfl⟩ | ⟨a1, a2⟩
        · rw [hvals, List.getElem?_set_self (by simp; omega)]
        · exact hv8 j u hj a1 a2
      · rcases hone hu with ⟨rfl, rfl⟩ | ⟨a1, a2⟩
        · rw [List.getElem?_set_self (by omega)] at hl
          cases hl
          exact hts1.keep hle fun c hc => ⟨hne' (by rintro rfl; exact hvb hc), fun _ h => h⟩
        · rw [List.getElem?_set_ne (Ne.symm a1)] at hl
          exact (h9 j u l hj a1 a2 hl).keep hle fun c hc => ⟨hne' (by rintro rfl; exact h10 j u hj a1 a2 hc), fun _ h => h⟩
      · rcases hone hu with ⟨rfl, rfl⟩ | ⟨a1, a2⟩
        · exact hvb
        · exact h10 j u hj a1 a2
      · rcases hone hu with ⟨rfl, rfl⟩ | ⟨a1, a2⟩ <;> rcases hone hu' with ⟨e, rfl⟩ | ⟨b1, b2⟩
        · exact hjm e.symm
        · exact S.apart k gT c hne (hgo2 hm b1 b2 hc') (hTo c hc)
        · exact S.apart k gT c hne (hgo2 hj a1 a2 hc) (hTo c hc')
        · exact h11 j m u u' c hjm hj hm a1 b1 a2 b2 hc hc'
  · intro k j c hk hj hkj hb1 hb2
    exact hkj ((own' k c hk hb1).1.trans (own' j c hj hb2).1.symm)
theorem SimG.mapInto {C : Cx} {A : Nat → SV} {G : Gh} {a : Act} {w : World} (S : SimG C A G a w) {b g off : Nat} {T : TypeId} {X X' : SV} {ks vs : List AV} (hbg : b ≠ g) (hb : A b = .box T X) (hX : getS 8 X off 1 false = some (.mref g)) (hX' : setS 8 X off (.imm (.mp ks vs)) = some X')
    (how : zR G g (G.blk g) (A g)) (hm : ∃ es ck, w.heap[G.blk g]? = some (.map es ck) ∧ zg w G.I ks (es.toList.map (·.key)) ∧ zg w G.I vs (es.toList.map (·.val))) :
    SimG C (upd A [(b, .box T X'), (g, .dead)]) { G with I := fun c o => G.I c o ∨ c = G.blk g } a w := by
  obtain ⟨es, ck, m1, m2, m3⟩ := hm
  let G' : Gh := { G with I := fun c o => G.I c o ∨ c = G.blk g }
  have hle : Le w G.I w G'.I := fun b o h => ⟨.inl h, rfl, fun _ _ h => h⟩
  have p0 : upd A [(b, .box T X'), (g, .dead)] b = .box T X' := by simp [upd]
  have p1 : upd A [(b, .box T X'), (g, .dead)] g = .dead := by simp [upd, zL hbg]
  have own' : ∀ k c, k ∈ [b, g] → zR G' k c (upd A [(b, .box T X'), (g, .dead)] k) → k = b ∧ zR G b c (A b) := by
    intro k c hk hc
    simp only [List.mem_cons, List.not_mem_nil, or_false] at hk
    rcases hk with rfl | rfl
    · rw [p0] at hc; exact ⟨rfl, by rw [hb]; exact hc⟩
    · rw [p1] at hc; simp only [zR] at hc
  refine S.tellKs [b, g] [] hle (fun k _ => ⟨rfl, .inl ⟨rfl, rfl⟩⟩) (fun k _ => ⟨rfl, .inl ⟨rfl, rfl⟩⟩) (fun k hk => ⟨upd_off (by simpa [xL] using hk), rfl, rfl, rfl⟩) (fun k _ => yu.1 _) (fun c o h => h.imp_right fun h => ⟨g, by simp, by rw [h]; exact how⟩) ?_ ?_ ?_
  · intro k hk c hc
    exact ⟨b, by simp, (own' k c hk hc).2⟩
  · intro k hk
    simp only [List.mem_cons, List.not_mem_nil, or_false] at hk
    rcases hk with rfl | rfl
    · rw [p0]
      have q := S.holds k
      rw [hb] at q
      simp only [Holds, BoxS] at q ⊢
      obtain ⟨q1, ⟨cs, fr, q2, q3, q4⟩, q5⟩ := q
      refine ⟨q1, ⟨cs, fr, q2, ?_, q4⟩, fun o h => ?_⟩
      · obtain ⟨y1, _, _, y4⟩ := xy 8 X cs.toList off 1 false _ q3 hX
        simp only [RepS] at y1
        have q3' : RepS w G' X cs.toList := RepS.mono (G' := G') hle (GRel.refl G) _ _ (yu.1 _) q3
        have hmp : RepS w G' (.imm (.mp ks vs)) [.map (some (G.blk g))] := by
          simp only [RepS, RepC]
          exact ⟨_, rfl, .inr ⟨G.blk g, es, ck, rfl, .inr rfl, m1, zg.mono hle _ _ m2, zg.mono hle _ _ m3⟩⟩
        obtain ⟨z1, _⟩ := wS hmp 8 X cs.toList off X' q3' hX'
        have e : cs.toList.take off ++ [Value.map (some (G.blk g))] ++ cs.toList.drop (off + [Value.map (some (G.blk g))].length) = cs.toList := by
          rw [← y1]
          simp only [List.length_take, List.length_drop]
          rw [List.append_assoc, show off + min 1 (cs.toList.length - off) = off + 1 from by omega, ← List.drop_drop, List.take_append_drop, List.take_append_drop]
        rw [e] at z1
        exact z1
      · rcases h with h | h
        · exact q5 o h
        · exact S.apart k g _ hbg (by rw [hb]; exact h) how
    · rw [p1]; simp only [Holds]
  · intro k j c hk hj hkj hb1 hb2
    exact hkj ((own' k c hk hb1).1.trans (own' j c hj hb2).1.symm)
section
variable {C : Cx} {c : Code} {st : St} {Q : Exit → St → Prop}
theorem aw_mapInto (b g off : Nat) {T : TypeId} {X X' : SV} {ks vs : List AV} (hbg : Nat.beq b g = false) (hb : look st b = .box T X) (hX : getS 8 X off 1 false = some (.mref g)) (hX' : setS 8 X off (.imm (.mp ks vs)) = some X') (hg : look st g = .mpr ks vs)
    (h : AW C c ((b, .box T X') :: (g, .dead) :: st) Q) : AW C c st Q := by
  intro a w ⟨G, S⟩
  have hh := S.holds g
  rw [hg] at hh
  simp only [Holds] at hh
  obtain ⟨how, ⟨es, h1, h2, h3, h4⟩, hni⟩ := hh
  have S' := S.mapInto (fun e => by rw [e, Nat.beq_refl] at hbg; cases hbg) hb hX hX' (by rw [hg]; rfl) ⟨es, _, h1, h3, h4⟩
  rw [xM] at S'
  exact h a w ⟨_, S'⟩
theorem repVs_of {w : World} {I : Nat → Nat → Prop} : ∀ {xs : List AV} {vs : List Value}, vs.length = xs.length → (∀ (j : Nat) (x : AV) (v : Value), xs[j]? = some x → vs[j]? = some v → Rep w I x v) → zg w I xs vs
  | [], [], _, _ => by simp only [zg]
  | x :: xs, v :: vs, hl, h => xQ (h 0 x v rfl rfl) (repVs_of (by simpa using hl) fun j => h (j + 1))
  | [], _ :: _, hl, _ => by simp at hl
  | _ :: _, [], hl, _ => by simp at hl
theorem aw_kidInto (b gk off : Nat) {n : Nat} {T : TypeId} {X X' : SV} {ks : List κ} {ls : List (List AV)} (hbg : Nat.beq b gk = false) (hb : look st b = .box T X) (hX : getS 8 X off 1 false = some (.mref gk)) (hX' : setS 8 X off (.imm (.mp (ks.map av) (ls.map fun l => .sl n l))) = some X') (hg : look st gk = .gen (KidF av n ks ls ks.length))
    (h : AW C c ((b, .box T X') :: (gk, .dead) :: st) Q) : AW C c st Q := by
  intro a w ⟨G, S⟩
  have hh := S.holds gk
  rw [hg] at hh
  simp only [Holds] at hh
  obtain ⟨hown, h1, h2, h3, h4, ⟨es, h5, h6, h7, h8⟩, h9, h10, h11⟩ := hh
  have hlen := yU h7
  simp only [List.length_map, Array.length_toList] at hlen
  have S' := S.mapInto (fun e => by rw [e, Nat.beq_refl] at hbg; cases hbg) hb hX hX' (by rw [hg]; exact .inl rfl) ⟨es, _, h5, h7, repVs_of (by simp; omega) fun j x v hx hv => by
    rw [List.getElem?_map] at hx
    obtain ⟨l, hl, rfl⟩ := Option.map_eq_some_iff.1 hx
    have hj : j < ks.length := by have := (List.getElem?_eq_some_iff.1 hl).1; omega
    obtain ⟨u, hu⟩ := h4 j hj (by omega)
    have e := h8 j u hj (by omega) hu
    rw [hv] at e; cases e
    refine ⟨[v], ?_, rfl⟩
    simp only [RepC]
    rcases h9 j v l hj (by omega) hu hl with ⟨rfl, rfl⟩ | ⟨b', cap, e1, e2, e3, e4, _⟩
    · exact ⟨_, rfl, .inl (by simpa using nil_sl 0)⟩
    · exact ⟨_, rfl, .inr ⟨b', 0, cap, e1, e2, e3, e4⟩⟩⟩
  rw [xM] at S'
  exact h a w ⟨_, S'⟩
theorem aw_kid0 (gk n : Nat) (av : κ → AV) (hg : look st gk = .mpr [] []) (h : AW C c ((gk, .gen (KidF av n [] [] 0)) :: st) Q) : AW C c st Q := by
  intro a w ⟨G, S⟩
  have hh := S.holds gk
  rw [hg] at hh
  simp only [Holds] at hh
  obtain ⟨how, ⟨es, h1, h2, h3, h4⟩, hni⟩ := hh
  have p1 : upd (look st) [(gk, .gen (KidF av n [] [] 0))] gk = .gen (KidF av n [] [] 0) := by simp [upd]
  have own' : ∀ x, zR G gk x (.gen (KidF av n ([] : List κ) [] 0)) → G.blk gk = x := by
    rintro x (rfl | ⟨j, v, a1, _⟩)
    · rfl
    · simp at a1
  have S' : SimG C (upd (look st) [(gk, .gen (KidF av n [] [] 0))]) G a w := by
    refine S.tellKs [gk] [] (Le.refl _ _) (GRel.refl _) (fun k _ => ⟨rfl, .inl ⟨rfl, rfl⟩⟩) (fun k hk => ⟨upd_off (by simpa [xL] using hk), rfl, rfl, rfl⟩) (fun k _ => yu.1 _) (fun _ _ h => .inl h) ?_ ?_ ?_
    · intro k hk x hx
      rw [List.mem_singleton.1 hk, p1] at hx
      exact ⟨gk, by simp, by rw [hg]; exact own' x hx⟩
    · intro k hk
      rw [List.mem_singleton.1 hk, p1]
      simp only [Holds, KidF]
      exact ⟨fun x hx => by rw [← own' x hx]; exact how, rfl, how.2, hni, fun j hj => by simp at hj, ⟨es, h1, h2, h3, fun j v hj => by simp at hj⟩, fun j v l hj => by simp at hj, fun j v hj => by simp at hj, fun j k v v' b _ hj => by simp at hj⟩
    · intro k j x hk hj hkj
      exact absurd ((List.mem_singleton.1 hk).trans (List.mem_singleton.1 hj).symm) hkj
  rw [xM] at S'
  exact h a w ⟨_, S'⟩
end
end
end Go.Al
namespace Go.Al
open Go.RowKit
section
variable {C : Cx} {A : Nat → SV} {d : Nat} {ty : TypeId} {pos : String} {af : Array Edge} {gd : Option (Nat × Bool)} {x y z : Operand} {T T' : TypeId} {kt vt : TypeId} {κ : Type} [DecidableEq κ] {av : κ → AV}
def kpad (ks : List κ) (ls : List (List AV)) (s : κ) : List (List AV) := match zX ks s 0 with | some _ => ls | none => ls ++ [[]]
theorem s_entryRowK (gk gT : Nat) {n : Nat} {ks : List κ} {ls : List (List AV)} {s : κ} {l : List AV} (K : KeyOk C.P kt av) (hgk : Nat.ble C.N gk = true) (hTN : Nat.ble C.N gT = true) (hTK : Nat.blt gT C.K = true) (hsT : Nat.beq gk gT = false) (hN : Nat.blt d C.N = true)
    (hx : opS A x = .mref gk) (hg : A gk = .gen (KidF av n ks ls ks.length)) (hy : opV A y = some (av s)) (hT : C.P.underlying T = some (.map kt vt)) (hz : xe C.P vt = some (.slice none 0 0)) (hl : (match zX ks s 0 with | some i => ls[i]? | none => some []) = some l) :
    zZ C ⟨some d, .mapEntry T x y, ty, pos, af, gd⟩ (gk :: (opR x ++ opR y)) [gT] A [(d, .tup [.slg gT n l, .imm (.v (.int .i64 (kidx ks s : Nat)))]), (gT, .tok n l), (gk, .gen (KidF av n (yd ks s) (kpad ks ls s) (kidx ks s)))] := by
  intro A' a w hR hF ⟨G, S⟩
  have hgA : A' gk = _ := (hR gk List.mem_cons_self).trans hg
  have hx' := (zt (fun k hk => hR k (List.mem_cons_of_mem _ (List.mem_append_left _ hk)))).trans hx
  rw [← z5 (fun k hk => hR k (List.mem_cons_of_mem _ (List.mem_append_right _ hk)))] at hy
  have hys := S.opV hy
  obtain ⟨c0, hc1, hc2⟩ := S.opS hx' rfl
  simp only [RepS] at hc1
  have hev : a.eval x = .map (some (G.blk gk)) := by rw [hc2, hc1]; rfl
  have hN' : d < C.N := by simpa [Nat.blt_eq] using hN
  have hTK' : gT < C.K := by simpa [Nat.blt_eq] using hTK
  have hgkN := Nat.le_of_ble_eq_true hgk
  have hTN' := Nat.le_of_ble_eq_true hTN
  have hds : gk ≠ d := by omega
  have hdT : gT ≠ d := by omega
  have hne : gk ≠ gT := by rintro rfl; rw [Nat.beq_refl] at hsT; cases hsT
  let A0 : Nat → SV := fun k => if k = d then .dead else A' k
  have S0 : SimG C A0 G a w := S.drop fun k => by by_cases h : k = d <;> simp [A0, h]
  have hfr : ∀ k, k ≠ gT → noG [gT] (A0 k) = true := by
    intro k h1
    by_cases h2 : k = d
    · simp [A0, h2, noG]
    · by_cases h3 : k = gk
      · have : A0 k = .gen (KidF av n ks ls ks.length) := by simp only [A0, if_neg h2]; rw [h3]; exact hgA
        rw [this]; rfl
      · have := hF k (by simp only [has, zL (Ne.symm h1), zL (Ne.symm h2), zL (Ne.symm h3)]; rfl)
        simpa [A0, h2] using this
  have hA0 : A0 gk = .gen (KidF av n ks ls ks.length) := by simp only [A0, if_neg hds]; exact hgA
  have hu : ∀ X Y r : SV, upd (upd A0 [(gT, X), (gk, Y)]) [(d, r)] = upd A' [(d, r), (gT, X), (gk, Y)] := by
    intro X Y r
    funext k
    simp only [upd]
    by_cases h1 : d = k
    · subst h1; rw [Nat.beq_refl]; rfl
    · rw [zL h1]
      cases Nat.beq gT k
      · cases Nat.beq gk k
        · simp only [cond_false, A0, if_neg (Ne.symm h1)]
        · rfl
      · rfl
  have hgs := S.holds gk
  rw [hgA] at hgs
  simp only [Holds] at hgs
  obtain ⟨_, h1, _, _, _, ⟨es, h5, h6, h7, _⟩, _⟩ := hgs
  have hlen := yU h7
  simp only [List.length_map, Array.length_toList] at hlen
  have hfind := K.find hys h7
  have hobj := xH (P := C.P) h5
  unfold Oper.wp
  cases hm : zX ks s 0 with
  | some i =>
    rw [hm] at hl
    have hi := wd hm
    have hik : i < ks.length := by omega
    have hie : i < es.size := by omega
    have hsl : ks[i]? = some s := by have := kfind_get hm; simpa using this
    obtain ⟨u, hu1, hu2⟩ := yb h7 (show (ks.map av)[i]? = some (av s) by rw [List.getElem?_map, hsl]; rfl)
    simp only [List.getElem?_map, Array.getElem?_toList, Array.getElem?_eq_getElem hie, Option.map_some, Option.some.injEq] at hu1
    rw [← hu1] at hu2
    have hkey := (K.bits hu2 hys).1
    have e1 : (es[i]?).map (·.key) = some es[i].key := by rw [Array.getElem?_eq_getElem hie]; rfl
    have e3 : (es[i]?).map (fun x => (x.born : Int)) = some (i : Int) := by rw [Array.getElem?_eq_getElem hie, Option.map_some, h6 i hie]
    have e2 : (es.toList[i]?).map (fun e => (i, e.val)) = some (i, es[i].val) := by rw [Array.getElem?_toList, Array.getElem?_eq_getElem hie]; rfl
    have em : es.modify i (fun e => { e with key := a.eval y }) = es := modify_same fun hi => by rw [← hkey]
    have hrun : (execOp a.eval ⟨some d, .mapEntry T x y, ty, pos, af, gd⟩).run C.P w = .ok (.value (.tuple #[es[i].val, .int .i64 i])) w := by
      simp only [execOp, Instr.mapEntry, Sem.run_bind, zM hT, Result.andThen_ok, hev, hobj, K.chk hys, hfind, hm, Option.bind_some, e2, e1, e3, Option.getD_some, K.stays hu2 hys, Sem.run_pure, em, xR h5, setBlk_same h5, goInt]
    rw [hrun, Oper.upon_value]
    have hmp : yd ks s = ks ∧ kpad ks ls s = ls ∧ kidx ks s = i := by unfold yd kpad kidx; rw [hm]; exact ⟨rfl, rfl, rfl⟩
    rw [hmp.1, hmp.2.1, hmp.2.2]
    obtain ⟨G', v, es', S1, hbk, k1, k2, k3, k4⟩ := S0.kidTake hTK' hne hA0 hik hl hfr
    rw [h5] at k1
    cases k1
    simp only [List.getElem?_map, Array.getElem?_toList, Array.getElem?_eq_getElem hie, Option.map_some, Option.some.injEq] at k3
    subst k3
    have S2 := S1.put (d := d) hN' (x := .tup [.slg gT n l, .imm (.v (.int .i64 (i : Int)))]) (v := .tuple #[es[i].val, .int .i64 i]) ⟨[es[i].val, .int .i64 i], rfl, _, _, rfl, k4, _, _, rfl, zm.2 (yw _ _ rfl), rfl⟩
    rw [hu] at S2
    exact ⟨G', S2⟩
  | none =>
    rw [hm] at hl; cases hl
    have hrun : (execOp a.eval ⟨some d, .mapEntry T x y, ty, pos, af, gd⟩).run C.P w = .ok (.value (.tuple #[.slice none 0 0, .int .i64 es.size])) (zn w (G.blk gk) (.map (es.push { key := a.eval y, val := .slice none 0 0, born := es.size }) (es.size + 1))) := by
      simp only [execOp, Instr.mapEntry, Sem.run_bind, zM hT, Result.andThen_ok, hev, hobj, K.chk hys, hfind, hm, Option.bind_none, Sem.run_pure, yS hz, xR h5, goInt]
    rw [hrun, Oper.upon_value]
    have hmp : yd ks s = ks ++ [s] ∧ kpad ks ls s = ls ++ [[]] ∧ kidx ks s = ks.length := by unfold yd kpad kidx; rw [hm]; exact ⟨rfl, rfl, rfl⟩
    rw [hmp.1, hmp.2.1, hmp.2.2]
    obtain ⟨es', k1, k2, k3, S1⟩ := S0.kidNew (s := s) (key := a.eval y) (val := .slice none 0 0) hA0 hys
    rw [h5] at k1
    cases k1
    obtain ⟨G', S2, _, k4⟩ := S1.nilRow (n := n) hTK' (fun k hk => by
      rw [xB]; split
      · rfl
      · exact hfr k hk)
    have S3 := S2.put (d := d) hN' (x := .tup [.slg gT n [], .imm (.v (.int .i64 (ks.length : Int)))]) (v := .tuple #[.slice none 0 0, .int .i64 es.size]) ⟨[.slice none 0 0, .int .i64 es.size], rfl, _, _, rfl, k4, _, _, rfl, zm.2 (by rw [hlen]; exact yw _ _ rfl), rfl⟩
    have e : upd (upd A0 [(gk, .gen (KidF av n (ks ++ [s]) (ls ++ [[]]) ks.length))]) [(gT, .tok n [])] = upd A0 [(gT, .tok n []), (gk, .gen (KidF av n (ks ++ [s]) (ls ++ [[]]) ks.length))] := by
      funext k; simp only [upd]
    rw [e, hu] at S3
    exact ⟨G', S3⟩
end
section
variable {C : Cx} {A : Nat → SV} {d : Nat} {ty : TypeId} {pos : String} {af : Array Edge} {gd : Option (Nat × Bool)} {x y z : Operand} {T T' : TypeId} {kt vt : TypeId} {κ : Type} {av : κ → AV}
theorem s_entryPutK (gk gT i : Nat) {n : Nat} {ks : List κ} {ls : List (List AV)} {l' : List AV} {kd : IntKind} (hsT : Nat.beq gk gT = false) (hx : opS A x = .mref gk) (hy : opV A y = some (.v (.int kd (i : Int)))) (hz : opS A z = .slg gT n l') (hT : A gT = .tok n l') (hg : A gk = .gen (KidF av n ks ls i)) (hi : i < ks.length) :
    zZ C ⟨none, .entryStore T x y z, ty, pos, af, gd⟩ (gk :: gT :: (opR x ++ (opR y ++ opR z))) [] A [(gT, .dead), (gk, .gen (KidF av n ks (ls.set i l') ks.length))] := by
  intro A' a w hR hF ⟨G, S⟩
  have hgA : A' gk = _ := (hR gk List.mem_cons_self).trans hg
  have hTA : A' gT = _ := (hR gT (List.mem_cons_of_mem _ List.mem_cons_self)).trans hT
  have hx' := (zt (fun k hk => hR k (List.mem_cons_of_mem _ (List.mem_cons_of_mem _ (List.mem_append_left _ hk))))).trans hx
  rw [← z5 (fun k hk => hR k (List.mem_cons_of_mem _ (List.mem_cons_of_mem _ (List.mem_append_right _ (List.mem_append_left _ hk)))))] at hy
  rw [← zt (fun k hk => hR k (List.mem_cons_of_mem _ (List.mem_cons_of_mem _ (List.mem_append_right _ (List.mem_append_right _ hk)))))] at hz
  obtain ⟨c0, hc1, hc2⟩ := S.opS hx' rfl
  simp only [RepS] at hc1
  have hev : a.eval x = .map (some (G.blk gk)) := by rw [hc2, hc1]; rfl
  have hyi := yM (S.opV hy)
  obtain ⟨c, hz1, hz2⟩ := S.opS hz rfl
  simp only [RepS] at hz1
  obtain ⟨v, rfl, hv1, hv2, hv3⟩ := hz1
  have htok := S.holds gT
  rw [hTA] at htok
  simp only [Holds] at htok
  have hcur : v = G.cur gT := hv3 htok.1.symm
  have hvy : a.eval z = v := hz2
  have hne : gk ≠ gT := by rintro rfl; rw [Nat.beq_refl] at hsT; cases hsT
  obtain ⟨es, k1, k2, k3, G', S1⟩ := S.kidPut hne hgA hTA hi
  have hobj := xH (P := C.P) k1
  have hfi := findIdx_born k2 (show i < es.size by omega)
  unfold Oper.wp
  have hrun : (execOp a.eval ⟨none, .entryStore T x y z, ty, pos, af, gd⟩).run C.P w = .ok .skip (zn w (G.blk gk) (.map (es.modify i fun e => { e with val := G.cur gT }) es.size)) := by
    simp only [execOp, Instr.entryStore, Sem.run_bind, hev, hobj, Result.andThen_ok, hyi, asInt, asIntOf, Sem.run_pure, hfi, xR k1, hvy, hcur]
  rw [hrun, Oper.upon_skip]
  exact ⟨G', S1⟩
end
end Go.Al
namespace Go.Al
open Go.RowKit
section
variable {C : Cx} {A : Nat → SV} {d : Nat} {ty : TypeId} {pos : String} {af : Array Edge} {gd : Option (Nat × Bool)} {x y z : Operand} {T T' : TypeId}
theorem run_eqPnn {P : Program} {w : World} {T e : TypeId} (hT : P.underlying T = some (.pointer e)) : (Op.equal T (.pointer none) (.pointer none)).run P w = .ok true w := by
  have h : ∀ d : Nat, (Op.equalIn (d + 1) T (.pointer none) (.pointer none)).run P w = .ok true w := fun d => by simp [Op.equalIn, run_underlying hT]
  simpa [Op.equal, Op.maxDepth] using h 9999
theorem s_eqPp {g off : Nat} {e : TypeId} (hN : Nat.blt d C.N = true) (hx : opS A x = .ptr g off) (hy : opV A y = some (.v (.pointer none))) (hT : C.P.underlying T = some (.pointer e)) :
    zZ C ⟨some d, .binOp .eql T x y T', ty, pos, af, gd⟩ (opR x ++ opR y) [] A [(d, .imm (.v (.bool false)))] := by
  refine zZ.value rfl hN fun A' G a w hR S => ?_
  rw [← z5 (fun k hk => hR k (List.mem_append_right _ hk))] at hy
  have e := S.ptr ((zt (fun k hk => hR k (List.mem_append_left _ hk))).trans hx)
  have e2 : a.eval y = .pointer none := rep_val (S.opV hy) rfl
  refine ⟨.bool false, ?_, zm.2 (yw _ _ rfl)⟩
  simp only [execOp, e, e2]
  simp [eqGuard, binOp, run_eqP_nil hT]
theorem s_eqPc {v : AV} {e : TypeId} (hN : Nat.blt d C.N = true) (hx : opV A x = some (.cp v)) (hy : opV A y = some (.v (.pointer none))) (hT : C.P.underlying T = some (.pointer e)) :
    zZ C ⟨some d, .binOp .eql T x y T', ty, pos, af, gd⟩ (opR x ++ opR y) [] A [(d, .imm (.v (.bool false)))] :=
  zZ.op2 rfl hN hx hy fun w I ρ h1 h2 => by
    obtain ⟨b, o, c, e1, _, _⟩ := rep_cp h1
    have e2 : ρ y = .pointer none := rep_val h2 rfl
    refine ⟨.bool false, ?_, yw w I rfl⟩
    simp only [execOp, e1, e2]
    simp [eqGuard, binOp, run_eqP_nil hT]
theorem s_eqPn {e : TypeId} (hN : Nat.blt d C.N = true) (hx : opV A x = some (.v (.pointer none))) (hy : opV A y = some (.v (.pointer none))) (hT : C.P.underlying T = some (.pointer e)) :
    zZ C ⟨some d, .binOp .eql T x y T', ty, pos, af, gd⟩ (opR x ++ opR y) [] A [(d, .imm (.v (.bool true)))] :=
  zZ.op2 rfl hN hx hy fun w I ρ h1 h2 => by
    have e1 : ρ x = .pointer none := rep_val h1 rfl
    have e2 : ρ y = .pointer none := rep_val h2 rfl
    refine ⟨.bool true, ?_, yw w I rfl⟩
    simp only [execOp, e1, e2]
    simp [eqGuard, binOp, run_eqPnn hT]
end
end Go.Al
namespace Go.Proofs
open Go Go.Al
abbrev K2 := Bs × Bs
def av2 (k : K2) : AV := .agg [.arr 16 k.1, .arr 8 k.2]
def yW (c : GCore) : K2 := (c.trace, c.id)
def xU (c : GCore) : K2 := (c.trace, c.parent)
theorem eq2_iff (a b : K2) : ((a.1 == b.1) && ((a.2 == b.2) && true)) = decide (a = b) := by
  rcases a with ⟨a1, a2⟩; rcases b with ⟨b1, b2⟩
  rw [Bool.eq_iff_iff]
  simp
section
variable {κ : Type} [DecidableEq κ]
theorem y3 : ∀ (l : List κ) (x k : κ) (i : Nat), zX (l ++ [x]) k i = match zX l k i with | some j => some j | none => if k = x then some (i + l.length) else none
  | [], x, k, i => by simp [zX]
  | y :: l, x, k, i => by
    rw [List.cons_append, zX, zX]
    split
    · rfl
    · rw [y3 l x k (i + 1)]
      cases zX l k (i + 1) with
      | some j => rfl
      | none => simp only [List.length_cons]; split <;> simp; omega
theorem zz {l : List κ} {k : κ} {j : Nat} (h : zX l k 0 = some j) : j < l.length ∧ l[j]? = some k := by
  have h1 := wd h; have h2 := kfind_get h
  exact ⟨by omega, by simpa using h2⟩
theorem kfind_none {l : List κ} {k : κ} : zX l k 0 = none ↔ k ∉ l := by
  have aux : ∀ (l : List κ) (i : Nat), zX l k i = none ↔ k ∉ l := by
    intro l
    induction l with
    | nil => intro i; simp [zX]
    | cons x l ih =>
      intro i
      rw [zX]
      split
      · rename_i h; simp [h]
      · rename_i h; rw [ih]; simp [h]
  exact aux l 0
theorem yg {l : List κ} {k : κ} {j : Nat} (h : l[j]? = some k) : ∃ i, zX l k 0 = some i ∧ i ≤ j := by
  have aux : ∀ (l : List κ) (s j : Nat), l[j]? = some k → ∃ i, zX l k s = some (s + i) ∧ i ≤ j := by
    intro l
    induction l with
    | nil => intro s j h; simp at h
    | cons x l ih =>
      intro s j h
      rw [zX]
      split
      · exact ⟨0, rfl, Nat.zero_le _⟩
      · rename_i hne
        cases j with
        | zero => simp at h; exact absurd h.symm hne
        | succ j =>
          obtain ⟨i, h1, h2⟩ := ih (s + 1) j (by simpa using h)
          exact ⟨i + 1, by rw [h1]; congr 1; omega, by omega⟩
  obtain ⟨i, h1, h2⟩ := aux l 0 j h
  exact ⟨i, by simpa using h1, h2⟩
theorem kfind_take {l : List κ} {k : κ} {i : Nat} (hi : i < l.length) (hk : l[i]? = some k) : zX (l.take i) k 0 = if zX l k 0 = some i then none else zX l k 0 := by
  obtain ⟨j, h1, h2⟩ := yg hk
  rw [h1]
  have hspl : l = l.take i ++ l.drop i := (List.take_append_drop i l).symm
  by_cases hji : j = i
  · subst hji
    rw [if_pos rfl, kfind_none]
    intro hm
    obtain ⟨m, hm⟩ := List.getElem?_of_mem hm
    have hlt := (List.getElem?_eq_some_iff.1 hm).1
    rw [List.length_take] at hlt
    rw [List.getElem?_take_of_lt (by omega)] at hm
    obtain ⟨q, h3, h4⟩ := yg hm
    rw [h1] at h3; cases h3; omega
  · rw [if_neg (by simpa using hji)]
    have hj := (zz h1).2
    have : (l.take i)[j]? = some k := by rw [List.getElem?_take_of_lt (by omega)]; exact hj
    obtain ⟨q, h3, h4⟩ := yg this
    have h5 := (zz h3).2
    have hq : q < i := by have := (zz h3).1; rw [List.length_take] at this; omega
    rw [List.getElem?_take_of_lt hq] at h5
    obtain ⟨m, h6, h7⟩ := yg h5
    rw [h1] at h6; cases h6
    rw [h3]; congr 1; omega
end
structure Ix where
  n : Nat
  sk : List K2
  fi : List Nat
  tw : List Nat
  kk : List K2
  rows : List (List Nat)
def ix0 : Ix := ⟨0, [], [], [], [], []⟩
def rowK (kk : List K2) (rows : List (List Nat)) (k : K2) : List Nat := match zX kk k 0 with | some i => nth rows i [] | none => []
def rowKP (kk : List K2) (rows : List (List Nat)) (k : K2) (l : List Nat) : List (List Nat) := match zX kk k 0 with | some i => rows.set i l | none => rows ++ [l]
def stepX (s : Ix) (c : GCore) : Ix :=
  { n := s.n + 1, sk := yd s.sk (yW c)
    fi := match zX s.sk (yW c) 0 with | some _ => s.fi | none => s.fi ++ [s.n]
    tw := match zX s.sk (yW c) 0 with | some _ => s.tw ++ [s.n] | none => s.tw
    kk := yd s.kk (xU c), rows := rowKP s.kk s.rows (xU c) (rowK s.kk s.rows (xU c) ++ [s.n]) }
def ixF (l : List GCore) : Ix := l.foldl stepX ix0
theorem xt (l : List GCore) (c : GCore) : ixF (l ++ [c]) = stepX (ixF l) c := by unfold ixF; rw [List.foldl_append]; rfl
theorem snoc_ind {α : Type} {P : List α → Prop} (h0 : P []) (h : ∀ l x, P l → P (l ++ [x])) (l : List α) : P l := by
  have : ∀ l : List α, P l.reverse := by
    intro l
    induction l with
    | nil => exact h0
    | cons x l ih => rw [List.reverse_cons]; exact h _ _ ih
  have := this l.reverse
  rwa [List.reverse_reverse] at this
theorem ix_n (l : List GCore) : (ixF l).n = l.length := by
  refine snoc_ind (P := fun l => (ixF l).n = l.length) rfl (fun l x h => ?_) l
  rw [xt]; show (ixF l).n + 1 = _; rw [h]; simp
def K1 (l : List GCore) : List K2 := l.map yW
theorem K1_snoc (l : List GCore) (c : GCore) : K1 (l ++ [c]) = K1 l ++ [yW c] := by simp [K1]
theorem K1_len (l : List GCore) : (K1 l).length = l.length := by simp [K1]
theorem ix_seen (l : List GCore) : (ixF l).sk.length = (ixF l).fi.length ∧ (∀ j ∈ (ixF l).fi, j < l.length) ∧ (∀ j ∈ (ixF l).tw, j < l.length) ∧
    (∀ k, zX (K1 l) k 0 = none → zX (ixF l).sk k 0 = none) ∧ (∀ k j, zX (K1 l) k 0 = some j → ∃ m, zX (ixF l).sk k 0 = some m ∧ (ixF l).fi[m]? = some j) := by
  refine snoc_ind (P := fun l => (ixF l).sk.length = (ixF l).fi.length ∧ (∀ j ∈ (ixF l).fi, j < l.length) ∧ (∀ j ∈ (ixF l).tw, j < l.length) ∧
    (∀ k, zX (K1 l) k 0 = none → zX (ixF l).sk k 0 = none) ∧ (∀ k j, zX (K1 l) k 0 = some j → ∃ m, zX (ixF l).sk k 0 = some m ∧ (ixF l).fi[m]? = some j))
    ⟨rfl, fun j h => (by cases h), fun j h => (by cases h), fun k _ => rfl, fun k j h => by cases h⟩ (fun l c h => ?_) l
  obtain ⟨h1, h2, h3, h4, h5⟩ := h
  have hn := ix_n l
  rw [xt, K1_snoc]
  have e1 : (stepX (ixF l) c).sk = yd (ixF l).sk (yW c) := rfl
  have e2 : (stepX (ixF l) c).fi = match zX (ixF l).sk (yW c) 0 with | some _ => (ixF l).fi | none => (ixF l).fi ++ [(ixF l).n] := rfl
  have e3 : (stepX (ixF l) c).tw = match zX (ixF l).sk (yW c) 0 with | some _ => (ixF l).tw ++ [(ixF l).n] | none => (ixF l).tw := rfl
  have hkl := K1_len l
  rw [e1, e2, e3]
  cases hm : zX (K1 l) (yW c) 0 with
  | some j0 =>
    obtain ⟨m0, hm0, _⟩ := h5 _ _ hm
    unfold yd
    rw [hm0]
    refine ⟨h1, fun j hj => ?_, fun j hj => ?_, fun k hk => ?_, fun k j hk => ?_⟩
    · have := h2 j hj; simp; omega
    · rcases List.mem_append.1 hj with hj | hj
      · have := h3 j hj; simp; omega
      · rw [List.mem_singleton.1 hj, hn]; simp
    · rw [y3] at hk
      cases hq : zX (K1 l) k 0 with
      | some i => rw [hq] at hk; cases hk
      | none => exact h4 k hq
    · rw [y3] at hk
      cases hq : zX (K1 l) k 0 with
      | some i => rw [hq] at hk; cases hk; exact h5 k _ hq
      | none =>
        rw [hq] at hk
        by_cases e : k = yW c
        · subst e; rw [hm] at hq; cases hq
        · simp only [if_neg e] at hk; cases hk
  | none =>
    have hs := h4 _ hm
    unfold yd
    rw [hs]
    refine ⟨by simp [h1], fun j hj => ?_, fun j hj => ?_, fun k hk => ?_, fun k j hk => ?_⟩
    · rcases List.mem_append.1 hj with hj | hj
      · have := h2 j hj; simp; omega
      · rw [List.mem_singleton.1 hj, hn]; simp
    · have := h3 j hj; simp; omega
    · rw [y3] at hk ⊢
      cases hq : zX (K1 l) k 0 with
      | some i => rw [hq] at hk; cases hk
      | none =>
        rw [hq] at hk
        by_cases e : k = yW c
        · simp only [if_pos e] at hk; cases hk
        · rw [h4 k hq]; simp only [if_neg e]
    · rw [y3] at hk
      rw [y3]
      cases hq : zX (K1 l) k 0 with
      | some i =>
        rw [hq] at hk; cases hk
        obtain ⟨m, q1, q2⟩ := h5 k _ hq
        rw [q1]
        exact ⟨m, rfl, by rw [List.getElem?_append_left (List.getElem?_eq_some_iff.1 q2).1]; exact q2⟩
      | none =>
        rw [hq] at hk
        by_cases e : k = yW c
        · simp only [if_pos e] at hk; cases hk
          rw [h4 k hq]
          simp only [if_pos e, Nat.zero_add]
          refine ⟨_, rfl, ?_⟩
          rw [h1, List.getElem?_append_right (Nat.le_refl _), Nat.sub_self, hn, hkl]; rfl
        · simp only [if_neg e] at hk; cases hk
end Go.Proofs
namespace Go.Proofs
open Go Go.Al
theorem K1_get {l : List GCore} {i : Nat} (hi : i < l.length) : (K1 l)[i]? = some (yW (nthK l i)) := by
  unfold K1
  rw [List.getElem?_map, yP (d := gk0) hi]; rfl
def yE (l : List GCore) (k : K2) : Int := match zX (K1 l) k 0 with | some j => (j : Int) | none => -1
theorem rng_snoc (p : Nat → Bool) (i : Nat) : (List.range (i + 1)).filter p = (List.range i).filter p ++ (if p i then [i] else []) := by
  rw [List.range_succ, List.filter_append]; congr 1
  rw [List.filter_cons]; rfl
theorem rng_lt {p : Nat → Bool} {n : Nat} : ∀ j ∈ (List.range n).filter p, j < n := fun j h => by
  have := (List.mem_filter.1 h).1; simpa using this
theorem xA (p : Nat → Bool) (n : Nat) : ((List.range n).filter p).length ≤ n := by
  have := List.length_filter_le p (List.range n); simpa using this
def twP (l : List GCore) (j : Nat) : Bool := decide (yE l (yW (nthK l j)) < (j : Int))
def rtP (l : List GCore) (j : Nat) : Bool := xh (nthK l j).parent || decide (yE l (xU (nthK l j)) < 0)
def kdP (l : List GCore) (k : K2) (j : Nat) : Bool := decide (xU (nthK l j) = k)
theorem yz {l : List GCore} {i : Nat} (hi : i < l.length) : l.take (i + 1) = l.take i ++ [nthK l i] := wC (yP (d := gk0) hi)
theorem K1_take (l : List GCore) (i : Nat) : K1 (l.take i) = (K1 l).take i := by unfold K1; rw [List.map_take]
theorem kfind_k1 {l : List GCore} {i : Nat} (hi : i < l.length) : zX (K1 (l.take i)) (yW (nthK l i)) 0 = if zX (K1 l) (yW (nthK l i)) 0 = some i then none else zX (K1 l) (yW (nthK l i)) 0 := by
  rw [K1_take]; exact kfind_take (by rw [K1_len]; exact hi) (K1_get hi)
theorem seen_iff {l : List GCore} {i : Nat} (hi : i < l.length) : twP l i = (zX (ixF (l.take i)).sk (yW (nthK l i)) 0).isSome := by
  obtain ⟨_, _, _, h4, h5⟩ := ix_seen (l.take i)
  have h := kfind_k1 hi
  obtain ⟨j, h1, h2⟩ := yg (K1_get hi)
  unfold twP yE
  rw [h1] at h ⊢
  by_cases e : j = i
  · subst e
    rw [if_pos rfl] at h
    rw [h4 _ h]
    simp
  · rw [if_neg (by simpa using e)] at h
    obtain ⟨m, q1, _⟩ := h5 _ _ h
    rw [q1]
    simp; omega
theorem ix_tw {l : List GCore} : ∀ {i : Nat}, i ≤ l.length → (ixF (l.take i)).tw = (List.range i).filter (twP l) ∧ (ixF (l.take i)).fi = (List.range i).filter (fun j => !twP l j)
  | 0, _ => by simp [ixF, ix0]
  | i + 1, h => by
    have hi : i < l.length := by omega
    obtain ⟨ih1, ih2⟩ := ix_tw (l := l) (i := i) (by omega)
    have hn := ix_n (l.take i)
    rw [List.length_take, Nat.min_eq_left (by omega)] at hn
    have hs := seen_iff hi
    rw [yz hi, xt, rng_snoc, rng_snoc]
    have e2 : (stepX (ixF (l.take i)) (nthK l i)).fi = match zX (ixF (l.take i)).sk (yW (nthK l i)) 0 with | some _ => (ixF (l.take i)).fi | none => (ixF (l.take i)).fi ++ [(ixF (l.take i)).n] := rfl
    have e3 : (stepX (ixF (l.take i)) (nthK l i)).tw = match zX (ixF (l.take i)).sk (yW (nthK l i)) 0 with | some _ => (ixF (l.take i)).tw ++ [(ixF (l.take i)).n] | none => (ixF (l.take i)).tw := rfl
    rw [e2, e3, hs, ih1, ih2, hn]
    cases zX (ixF (l.take i)).sk (yW (nthK l i)) 0 <;> simp
theorem kput_len {κ : Type} [DecidableEq κ] (ks : List κ) (rows : List (List Nat)) (h : ks.length = rows.length) (p : κ) (r : List Nat) : (yd ks p).length = (match zX ks p 0 with | some i => rows.set i r | none => rows ++ [r]).length := by
  unfold yd
  cases zX ks p 0 <;> simp [h]
theorem ix_kl (l : List GCore) : (ixF l).kk.length = (ixF l).rows.length := by
  refine snoc_ind (P := fun l => (ixF l).kk.length = (ixF l).rows.length) rfl (fun l c h => ?_) l
  rw [xt]
  exact kput_len _ _ h _ _
theorem rowK_put {kk : List K2} {rows : List (List Nat)} (h : kk.length = rows.length) (p k : K2) (r : List Nat) : rowK (yd kk p) (rowKP kk rows p r) k = if k = p then r else rowK kk rows k := by
  unfold rowK rowKP yd
  cases hp : zX kk p 0 with
  | some i =>
    have hi := (zz hp).1
    cases hk : zX kk k 0 with
    | some j =>
      have hj := zz hk
      by_cases e : k = p
      · subst e; rw [hp] at hk; cases hk
        rw [if_pos rfl]
        unfold nth; simp [List.getD, List.getElem?_set_self, show i < rows.length by omega]
      · rw [if_neg e]
        have : j ≠ i := by
          rintro rfl
          have h2 := (zz hp).2
          rw [hj.2] at h2; exact e (Option.some.inj h2)
        simp [nth, List.getD, List.getElem?_set_ne (Ne.symm this)]
    | none =>
      by_cases e : k = p
      · subst e; rw [hp] at hk; cases hk
      · rw [if_neg e]
  | none =>
    simp only
    rw [y3]
    cases hk : zX kk k 0 with
    | some j =>
      have hj := (zz hk).1
      by_cases e : k = p
      · subst e; rw [hp] at hk; cases hk
      · rw [if_neg e]; simp [nth, List.getD, List.getElem?_append_left (show j < rows.length by omega), e]
    | none =>
      by_cases e : k = p
      · simp only [if_pos e, Nat.zero_add]
        simp [nth, List.getD, h]
      · simp only [if_neg e]
theorem ix_rows {l : List GCore} (k : K2) : ∀ {i : Nat}, i ≤ l.length → rowK (ixF (l.take i)).kk (ixF (l.take i)).rows k = (List.range i).filter (kdP l k)
  | 0, _ => by simp [ixF, ix0, rowK, zX]
  | i + 1, h => by
    have hi : i < l.length := by omega
    have ih := ix_rows (l := l) k (i := i) (by omega)
    have hn := ix_n (l.take i)
    rw [List.length_take, Nat.min_eq_left (by omega)] at hn
    rw [yz hi, xt, rng_snoc]
    have e1 : (stepX (ixF (l.take i)) (nthK l i)).kk = yd (ixF (l.take i)).kk (xU (nthK l i)) := rfl
    have e2 : (stepX (ixF (l.take i)) (nthK l i)).rows = rowKP (ixF (l.take i)).kk (ixF (l.take i)).rows (xU (nthK l i)) (rowK (ixF (l.take i)).kk (ixF (l.take i)).rows (xU (nthK l i)) ++ [(ixF (l.take i)).n]) := rfl
    rw [e1, e2, rowK_put (ix_kl _), hn]
    have hkd : kdP l k i = decide (xU (nthK l i) = k) := rfl
    rw [hkd]
    by_cases e : k = xU (nthK l i)
    · rw [if_pos e, ← e, ih]
      simp
    · rw [if_neg e, ih, if_neg (by simpa using Ne.symm e), List.append_nil]
theorem rowK_av (pl : Nat → AV) {kk : List K2} {rows : List (List Nat)} (h : kk.length = rows.length) (k : K2) : (match zX kk k 0 with | some i => (rows.map fun r => r.map pl)[i]? | none => some []) = some ((rowK kk rows k).map pl) := by
  unfold rowK
  cases hk : zX kk k 0 with
  | some i =>
    have hi := (zz hk).1
    simp only
    rw [List.getElem?_map, yP (d := []) (show i < rows.length by omega)]; rfl
  | none => rfl
theorem rowK_sl (pl : Nat → AV) {kk : List K2} {rows : List (List Nat)} (h : kk.length = rows.length) (k : K2) : (match zX kk k 0 with | some i => ((rows.map fun r => r.map pl).map fun l => AV.sl 3 l)[i]? | none => some (.sl 3 [])) = some (.sl 3 ((rowK kk rows k).map pl)) := by
  have := rowK_av pl h k
  cases hk : zX kk k 0 with
  | some i => rw [hk] at this; simp only at this ⊢; rw [List.getElem?_map, this]; rfl
  | none => rw [hk] at this; simp only at this ⊢; rw [← Option.some.inj this]
theorem rowKP_av (pl : Nat → AV) {kk : List K2} {rows : List (List Nat)} (h : kk.length = rows.length) (k : K2) (r : List Nat) : (kpad kk (rows.map fun r => r.map pl) k).set (kidx kk k) (r.map pl) = (rowKP kk rows k r).map fun r => r.map pl := by
  unfold kpad kidx rowKP
  cases zX kk k 0 with
  | some i => simp only; rw [List.map_set]
  | none =>
    simp only
    rw [List.map_append, h]
    rw [List.set_append_right _ _ (by simp)]
    simp
end Go.Proofs
namespace Go.Proofs
open Go Go.Al
def xw (n : Nat) : List AV := (List.range n).map fun i : Nat => iv (i : Int)
theorem numsI_snoc (n : Nat) : xw n ++ [iv (n : Int)] = xw (n + 1) := by simp [xw, List.range_succ]
theorem numsI_get {i n : Nat} (h : i < n) : (xw n)[i]? = some (iv (i : Int)) := by simp [xw, h]
theorem zeros_at {x : Bs} {i : Nat} (hi : i < x.length) (h : ¬ (((x.getD i 0).toNat : Nat) : Int) = 0) : xh x = false := by
  unfold xh
  rw [List.all_eq_false]
  refine ⟨x[i], List.getElem_mem hi, fun e => h ?_⟩
  have e : x[i] = 0 := by simpa using e
  rw [List.getD_eq_getElem?_getD, List.getElem?_eq_getElem hi]
  simp [e]
theorem find_here {l : List GCore} {k : K2} {i : Nat} (hi : i < l.length) (h0 : zX (K1 (l.take i)) k 0 = none) (he : yW (nthK l i) = k) : yE l k = (i : Int) := by
  subst he
  rw [kfind_k1 hi] at h0
  obtain ⟨j, h1, _⟩ := yg (K1_get hi)
  unfold yE
  rw [h1] at h0 ⊢
  by_cases e : j = i
  · rw [e]
  · rw [if_neg (by simpa using e)] at h0; cases h0
theorem find_next {l : List GCore} {k : K2} {i : Nat} (hi : i < l.length) (h0 : zX (K1 (l.take i)) k 0 = none) (he : ¬ yW (nthK l i) = k) : zX (K1 (l.take (i + 1))) k 0 = none := by
  rw [yz hi, K1_snoc, y3, h0]
  simp only [if_neg (Ne.symm he)]
theorem find_end {l : List GCore} {k : K2} {i : Nat} (hi : i = l.length) (h0 : zX (K1 (l.take i)) k 0 = none) : yE l k = -1 := by
  subst hi
  rw [List.take_length] at h0
  unfold yE; rw [h0]
theorem find_rg (l : List GCore) (k : K2) : -1 ≤ yE l k ∧ yE l k < l.length := by
  unfold yE
  cases h : zX (K1 l) k 0 with
  | some j => have := (zz h).1; rw [K1_len] at this; simp only; omega
  | none => simp only; omega
def kzP (l : List GCore) (k : K2) (j : Nat) : Bool := kdP l k j && !xh k.2
def ivs (l : List Nat) : List AV := l.map fun j : Nat => iv (j : Int)
theorem ivs_snoc (l : List Nat) (i : Nat) : ivs (l ++ [i]) = ivs l ++ [iv (i : Int)] := by simp [ivs]
theorem rng_yes {p : Nat → Bool} {i : Nat} (h : p i = true) : ivs ((List.range (i + 1)).filter p) = ivs ((List.range i).filter p) ++ [iv (i : Int)] := by rw [rng_snoc, h, if_pos rfl, ivs_snoc]
theorem rng_no {p : Nat → Bool} {i : Nat} (h : p i = false) : ivs ((List.range (i + 1)).filter p) = ivs ((List.range i).filter p) := by rw [rng_snoc, h]; simp
theorem kz_y {l : List GCore} {k : K2} {i : Nat} (q1 : (nthK l i).trace = k.1) (q2 : (nthK l i).parent = k.2) (q3 : xh k.2 = false) : kzP l k i = true := by
  unfold kzP kdP xU
  rw [q1, q2, q3]; simp
theorem kz_1 {l : List GCore} {k : K2} {i : Nat} (q1 : ¬ (nthK l i).trace = k.1) : kzP l k i = false := by
  unfold kzP kdP xU
  rw [decide_eq_false (fun e => q1 (by rw [← e]))]; rfl
theorem kz_2 {l : List GCore} {k : K2} {i : Nat} (q2 : ¬ (nthK l i).parent = k.2) : kzP l k i = false := by
  unfold kzP kdP xU
  rw [decide_eq_false (fun e => q2 (by rw [← e]))]; rfl
theorem kz_3 {l : List GCore} {k : K2} {i : Nat} (q3 : xh k.2 = true) : kzP l k i = false := by
  unfold kzP; rw [q3]; simp
theorem ivs_get {l : List Nat} {i : Nat} (h : i < l.length) : (ivs l)[i]? = some (iv ((nth l i 0 : Nat) : Int)) := by
  unfold ivs; rw [List.getElem?_map, yP (d := 0) h]; rfl
end Go.Proofs
