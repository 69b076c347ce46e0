/- Texts that the proofs of this claim share, part 3: the abstract logic, plain Lean on values and batches, and walks. No condition but those typed in each lemma. -/
import Derived.Test.YtilolbiefnbccabDoorProg
import Derived.KernelRfl
import Derived.Maps.RangeRun
import Derived.Sort.OwnSorted
import Derived.RangeFuncLeaves
import Derived.RangeFuncRecord
import Derived.RangeFuncSeq
import Derived.Stop.Asserts
import Derived.Laws.Externs
import Derived.Test.YtilolbiefnbccabDoorP2
set_option linter.unusedSimpArgs false
set_option linter.unusedVariables false
namespace Go.Proofs
open Go Go.Al
set_option maxRecDepth 10000
theorem mixed : Tryd.prog.follows .mixedOrders = true := by kernel_rfl
def Γ0 : List (Nat × AV) := [(0, .v (.iface 110 (.agg #[.pointer (some ⟨3, 31, none⟩)])))]
def z1 : AV := .v .nilFunc
def z2 : AV := .v (.int .i64 0)
def z3 : AV := .v (.int .i64 0)
def z4 : AV := .v (.bool false)
theorem tS5 : tySize Tryd.prog 5 = some 1 := by kernel_rfl
def z5 : AV := .v (.int .u8 0)
theorem zv5 : tyZero Tryd.prog 5 = some (.int .u8 0) := by kernel_rfl
theorem by5 : (Tryd.prog.info? 5).map (·.bytes) = some 1 := by kernel_rfl
theorem tZ5 : IsZero Tryd.prog 5 z5 := ⟨.int .u8 0, by kernel_rfl, by kernel_rfl⟩
theorem tA9 : tyAgg Tryd.prog 9 = some false := by kernel_rfl
theorem tS9 : tySize Tryd.prog 9 = some 1 := by kernel_rfl
def z9 : AV := .v (.string .empty)
theorem zv9 : tyZero Tryd.prog 9 = some (.string .empty) := by kernel_rfl
theorem by9 : (Tryd.prog.info? 9).map (·.bytes) = some 16 := by kernel_rfl
theorem tZ9 : IsZero Tryd.prog 9 z9 := ⟨.string .empty, by kernel_rfl, by kernel_rfl⟩
theorem tA28 : tyAgg Tryd.prog 28 = some false := by kernel_rfl
theorem tS28 : tySize Tryd.prog 28 = some 1 := by kernel_rfl
theorem tA31 : tyAgg Tryd.prog 31 = some false := by kernel_rfl
theorem tS31 : tySize Tryd.prog 31 = some 1 := by kernel_rfl
theorem tA72 : tyAgg Tryd.prog 72 = some false := by kernel_rfl
theorem tS72 : tySize Tryd.prog 72 = some 1 := by kernel_rfl
def z72 : AV := .v (.pointer none)
theorem tZ72 : IsZero Tryd.prog 72 z72 := ⟨.pointer none, by kernel_rfl, by kernel_rfl⟩
theorem nI72 : notIface Tryd.prog 72 := ⟨_, Tryd.underlying72, rfl⟩
theorem nI74 : notIface Tryd.prog 74 := ⟨_, Tryd.underlying74, rfl⟩
def zs76 : AV := .agg [.v (.string .empty), .v .nilIface]
theorem tU76 : IsZero Tryd.prog 76 zs76 := ⟨.agg #[.string .empty, .nilIface], by kernel_rfl, by kernel_rfl⟩
theorem fa76_0 : fieldAt Tryd.prog 76 0 0 1 false := ⟨_, _, Tryd.underlying76, rfl, rfl, tS9, tA9⟩
theorem fa76_1 : fieldAt Tryd.prog 76 1 1 1 false := ⟨_, _, Tryd.underlying76, rfl, rfl, tS31, tA31⟩
theorem pl76 : places Tryd.prog (Program.fieldsOf Tryd.prog 76).toList = some [(0, 1), (1, 1)] := by kernel_rfl
theorem us76 : Tryd.prog.underlying 76 = some (.struct (Program.fieldsOf Tryd.prog 76)) := by kernel_rfl
theorem tA77 : tyAgg Tryd.prog 77 = some false := by kernel_rfl
theorem tS77 : tySize Tryd.prog 77 = some 1 := by kernel_rfl
def z77 : AV := .v (.pointer none)
theorem tZ77 : IsZero Tryd.prog 77 z77 := ⟨.pointer none, by kernel_rfl, by kernel_rfl⟩
theorem nI77 : notIface Tryd.prog 77 := ⟨_, Tryd.underlying77, rfl⟩
theorem nI78 : notIface Tryd.prog 78 := ⟨_, Tryd.underlying78, rfl⟩
def zs80 : AV := .agg [.v (.int .i64 0)]
theorem tU80 : IsZero Tryd.prog 80 zs80 := ⟨.agg #[.int .i64 0], by kernel_rfl, by kernel_rfl⟩
theorem fa80_0 : fieldAt Tryd.prog 80 0 0 1 false := ⟨_, _, Tryd.underlying80, rfl, rfl, tS28, tA28⟩
theorem pl80 : places Tryd.prog (Program.fieldsOf Tryd.prog 80).toList = some [(0, 1)] := by kernel_rfl
theorem us80 : Tryd.prog.underlying 80 = some (.struct (Program.fieldsOf Tryd.prog 80)) := by kernel_rfl
def z122 : AV := .arr 20 (List.replicate 20 0)
theorem tZ122 : IsZero Tryd.prog 122 z122 := ⟨.agg #[.int .u8 0, .int .u8 0, .int .u8 0, .int .u8 0, .int .u8 0, .int .u8 0, .int .u8 0, .int .u8 0, .int .u8 0, .int .u8 0, .int .u8 0, .int .u8 0, .int .u8 0, .int .u8 0, .int .u8 0, .int .u8 0, .int .u8 0, .int .u8 0, .int .u8 0, .int .u8 0], by kernel_rfl, by kernel_rfl⟩
end Go.Proofs

namespace Go.Al
open Go.RowKit

end Go.Al

namespace Go.Al
open Go.RowKit

/-! ### Rows of one's own: an element put in, a part, a copy into a part -/
section
variable {C : Cx} {A : Nat → SV} {d : Nat} {ty : TypeId} {pos : String} {af : Array Edge} {gd : Option (Nat × Bool)} {x y : Operand} {T T' : TypeId}

end
end Go.Al

namespace Go.Al
open Go.RowKit

section
variable {C : Cx} {A : Nat → SV} {d : Nat} {ty : TypeId} {pos : String} {af : Array Edge} {gd : Option (Nat × Bool)} {x y : Operand} {T T' : TypeId}
end
end Go.Al

namespace Go.Al
open Go.RowKit
end Go.Al

namespace Go.Al
open Go.RowKit

/-! ### Maps of one's own, under texts -/

section
variable {C : Cx} {A : Nat → SV} {d : Nat} {ty : TypeId} {pos : String} {af : Array Edge} {gd : Option (Nat × Bool)} {x y z : Operand} {T T' : TypeId}

end
end Go.Al

namespace Go.Al
open Go.RowKit

/-! ### A row of texts of one's own, which the library's sort turns -/

/-- So many things of no width. -/
def units (n : Nat) : List AV := List.replicate n (.agg [])
@[simp] theorem units_length (n : Nat) : (units n).length = n := List.length_replicate

section
variable {C : Cx} {A : Nat → SV} {d : Nat} {ty : TypeId} {pos : String} {af : Array Edge} {gd : Option (Nat × Bool)} {x y z : Operand} {T T' : TypeId}

end
end Go.Al

namespace Go.Al
open Go.RowKit

/-! ### The library's sort of texts -/

structure SortC (P : Program) (Γ : List (Nat × AV)) (f : FuncId) : Prop where
  call : callable P f = true
  sorts : ∀ (blk cap : Nat) (ss : List (List UInt8)) (w : World), Sort.Holds Proofs.encStr w blk 0 ss.toArray → blk < w.heap.size → ss.length < 4611686018427387904 →
    Calls P f #[.slice (some ⟨blk, 0, none⟩) ss.length cap] w fun e w' =>
      e = .returned (.tuple #[]) ∧ ∃ n os, w' = Sort.grow (Sort.putRow Proofs.encStr (Sort.ahead w n) blk 0 (ss.mergeSort fun x y => decide (x ≤ y)).toArray) os
  empty : PCall P Γ f [.v (.slice none 0 0)] []

section
variable {C : Cx} {A : Nat → SV} {d : Nat} {ty : TypeId} {pos : String} {af : Array Edge} {gd : Option (Nat × Bool)} {x y z : Operand} {T T' : TypeId}

end
end Go.Al

namespace Go.Al
open Go.RowKit

/-! ### The step of a range over a map -/

section
variable {C : Cx} {d : Nat} {ty : TypeId} {pos : String} {af : Array Edge} {x : Operand}

end
end Go.Al
namespace Go.Al
section
variable {C : Cx} {A : Nat → SV} {d : Nat} {ty : TypeId} {pos : String} {af : Array Edge} {gd : Option (Nat × Bool)} {x : Operand}
end
end Go.Al

namespace Go.Al
section
variable {P : Program} {b : Frame} {a : Act} {k : List Item} {cs : List Frame} {w : World}
end

/-! ### A labelled stretch that nobody jumps back into -/
end Go.Al

namespace Go.Al
open Go.RowKit

section
variable {C : Cx} {A : Nat → SV} {d : Nat} {ty : TypeId} {pos : String} {af : Array Edge} {gd : Option (Nat × Bool)} {x y : Operand} {T T' : TypeId}

end
end Go.Al

namespace Go.Al
open Go.RowKit

/-! ### Functions that hand values to a loop's body -/

def base (P : Program) (Γ : List (Nat × AV)) (N : Nat) (w : World) (G : Gh) : Cx := ⟨P, w, G.I, fun _ => False, N, 100000, G, Γ, [], none⟩

section
variable {ι : Type} {P : Program} {Γ : List (Nat × AV)} {N n : Nat} {J : ι → (Nat → Nat → Prop) → World → Prop}

variable {c x y : Code} {st : St} {j : ι} {K : St → ι → Prop} {Q : Exit → St → ι → Prop}

/-! A region with a call of yield in it -/

theorem Go1.mono {C : Cx} {ops : Array Oper} {K K' : St → List Tr → Prop} (hK : ∀ st tr, K st tr → K' st tr) : ∀ {os : List Oper} {st : St} {tr : List Tr}, Go1 C ops os st tr K → Go1 C ops os st tr K'
  | [], _, _, h => hK _ _ h
  | _ :: _, _, _, ⟨t, h1, h2, h3⟩ => ⟨t, h1, h2, Go1.mono hK h3⟩

end

end Go.Al

namespace Go.Al
open Go.RowKit

/-! ### A range over a function -/

theorem Holds.kind {w0 : World} {E : Nat → Prop} {G : Gh} {a : Act} {w : World} {k b : Nat} {x : SV} (r : Holds w0 E G a w k x) (h : ownsB G k b x) {o : Obj} (ho : w.heap[b]? = some o) : isBook o = false := by
  cases x <;> simp only [ownsB] at h <;> simp only [Holds] at r
  case box T x =>
    obtain ⟨_, ⟨cs, fr, h1, _⟩, _⟩ := r
    rw [h, ho] at h1; cases h1; rfl
  case mpr ks vs =>
    obtain ⟨_, ⟨es, h1, _⟩, _⟩ := r
    rw [h, ho] at h1; cases h1; rfl
  case gen R => exact R.kind _ _ _ _ r.2 h ho
  case row l =>
    obtain ⟨ad, n', c, h1, h2⟩ := h
    rcases r.2 with ⟨e, _⟩ | ⟨b', cap, e, _, _, _, ⟨cs, T, h5, _⟩, _⟩
    · rw [e] at h1; cases h1
    · rw [e] at h1; cases h1; rw [← h2, h5] at ho; cases ho; rfl
  case itr m n s =>
    have h1 := r.2.1
    rw [h, ho] at h1; cases h1; rfl
  case tok n l =>
    obtain ⟨ad, n', c, h1, h2⟩ := h
    rcases r.2 with ⟨e, _⟩ | ⟨b', cap, e, _, _, _, _, ⟨cs, T, fr, h5, _⟩, _⟩
    · rw [e] at h1; cases h1
    · rw [e] at h1; cases h1; rw [← h2, h5] at ho; cases ho; rfl

def own (A : Nat → SV) (G : Gh) (b : Nat) : Prop := ∃ k, ownsB G k b (A k)

/-- A later base. -/
structure Sw (C : Cx) (w1 : World) (I1 : Nat → Nat → Prop) (E1 : Nat → Prop) (G1 : Gh) (Ds : List Nat) : Prop where
  os : w1.os = C.w0.os
  tape : w1.tape = C.w0.tape
  output : w1.output = C.w0.output
  size : C.w0.heap.size ≤ w1.heap.size
  block : ∀ k, k < C.w0.heap.size → ¬ C.E k → w1.heap[k]? = C.w0.heap[k]?
  own : ∀ b, (w1.heap.size ≤ b ∨ E1 b) → C.w0.heap.size ≤ b ∨ C.E b
  sub : Le C.w0 C.I0 w1 I1
  rel : ∀ g, C.K ≤ g → Turns C.G0 G1 g
  new : ∀ b o, I1 b o → C.I0 b o ∨ C.w0.heap.size ≤ b ∨ C.E b
  marks : ∀ d ∈ Ds, d < w1.heap.size ∧ ¬ E1 d ∧ C.w0.heap.size ≤ d ∧ w1.heap[d]? = some (.deferred (some []))
  nodup : Ds.Nodup

theorem Sw.start (C : Cx) : Sw C C.w0 C.I0 C.E C.G0 [] :=
  ⟨rfl, rfl, rfl, Nat.le_refl _, fun _ _ _ => rfl, fun _ h => h, Le.refl _ _, fun _ _ => ⟨rfl, .inl ⟨rfl, rfl⟩⟩, fun _ _ h => .inl h, fun d h => (by cases h), List.nodup_nil⟩

/-! The function's end -/

end Go.Al

namespace Go.Al
open Go.RowKit

end Go.Al

namespace Go.Al
section
variable {C : Cx} {A : Nat → SV} {d : Nat} {ty : TypeId} {pos : String} {af : Array Edge} {gd : Option (Nat × Bool)} {x y : Operand} {T T' : TypeId}

end

end Go.Al

namespace Go.Al
open Go.RowKit

/-! ### Interface values, functions without a body, methods by name -/

theorem rep_ifc {w : World} {I : Nat → Nat → Prop} {T : TypeId} {y : AV} {v : Value} (h : Rep w I (.ifc T y) v) : ∃ u, v = .iface T u ∧ Rep w I y u := by
  obtain ⟨c, h1, h2⟩ := h
  simp only [RepC] at h1
  obtain ⟨c', h3, h4⟩ := h1
  exact ⟨mkV y c', by rw [h2, h3]; rfl, c', h4, rfl⟩
theorem rep_ifc_mk {w : World} {I : Nat → Nat → Prop} {T : TypeId} {y : AV} {u : Value} (h : Rep w I y u) : Rep w I (.ifc T y) (.iface T u) := by
  obtain ⟨c, h1, h2⟩ := h
  exact ⟨[.iface T u], by simp only [RepC]; exact ⟨c, by rw [h2], h1⟩, rfl⟩

section
variable {P : Program} {w : World} {p : Array (String × TypeId)}
theorem run_eqI_nil {T t : TypeId} {u : Value} (hT : P.underlying T = some (.interface p)) : (Op.equal T (.iface t u) .nilIface).run P w = .ok false w := by
  have h : ∀ d : Nat, (Op.equalIn (d + 1) T (.iface t u) .nilIface).run P w = .ok false w := fun d => by simp [Op.equalIn, run_underlying hT]
  simpa [Op.equal, Op.maxDepth] using h 9999
theorem run_eqN_nil {T : TypeId} (hT : P.underlying T = some (.interface p)) : (Op.equal T .nilIface .nilIface).run P w = .ok true w := by
  have h : ∀ d : Nat, (Op.equalIn (d + 1) T .nilIface .nilIface).run P w = .ok true w := fun d => by simp [Op.equalIn, run_underlying hT]
  simpa [Op.equal, Op.maxDepth] using h 9999
end
theorem run_eqP_nil {P : Program} {w : World} {T e : TypeId} {a : Addr} (hT : P.underlying T = some (.pointer e)) : (Op.equal T (.pointer (some a)) (.pointer none)).run P w = .ok false w := by
  have h : ∀ d : Nat, (Op.equalIn (d + 1) T (.pointer (some a)) (.pointer none)).run P w = .ok false w := fun d => by simp [Op.equalIn, run_underlying hT]
  simpa [Op.equal, Op.maxDepth] using h 9999
theorem run_sameAddr_own {P : Program} {w : World} {a b : Addr} {ca cb : Array Value} {ta tb : TypeId} {fa fb : Nat × Nat} (hne : a.block ≠ b.block) (ha : w.heap[a.block]? = some (.cells ca ta fa)) (hb : w.heap[b.block]? = some (.cells cb tb fb))
    (hca : ca.size ≠ 0) (hcb : cb.size ≠ 0) (hf : unfrozen fb cb.size) (ho : b.off ≤ cb.size) : (sameAddr a b).run P w = .ok false w := by
  have h1 := hf b.off ho
  have h2 := hf cb.size (Nat.le_refl _)
  simp only [Bool.and_eq_false_iff, decide_eq_false_iff_not] at h1 h2
  obtain ⟨m, hm⟩ : ∃ m, ca.size = m + 1 := ⟨ca.size - 1, by omega⟩
  obtain ⟨n, hn⟩ : ∃ n, cb.size = n + 1 := ⟨cb.size - 1, by omega⟩
  have e1 : ¬ (fb.1 ≤ b.off ∧ b.off < fb.2) := by omega
  rw [hn] at h2
  have e2 : ¬ (fb.1 ≤ n + 1 ∧ n + 1 < fb.2) := by omega
  simp [sameAddr, hne, World.frozen?, ha, hb, noView, viewAt, World.shape?, mayBeOne, stringish, hm, hn, e1, e2]
section
variable {C : Cx} {A : Nat → SV} {d : Nat} {ty : TypeId} {pos : String} {af : Array Edge} {gd : Option (Nat × Bool)} {x y : Operand} {T T' : TypeId}

theorem s_mv_ifp {T g off : Nat} (hN : Nat.blt d C.N = true) (h : opS A x = .ifp T g off) : StepU C ⟨some d, .move x, ty, pos, af, gd⟩ (opR x) [] A [(d, .ifp T g off)] := s_copy (.inl rfl) hN h rfl
theorem SimG.ptr {C : Cx} {A : Nat → SV} {G : Gh} {a : Act} {w : World} (S : SimG C A G a w) {x : Operand} {g off : Nat} (h : Al.opS A x = .ptr g off) : a.eval x = .pointer (some ⟨G.blk g, off, none⟩) := by
  obtain ⟨c, h1, h2⟩ := S.opS h rfl
  simp only [RepS] at h1
  rw [h2, h1]; rfl
theorem SimG.ifp {C : Cx} {A : Nat → SV} {G : Gh} {a : Act} {w : World} (S : SimG C A G a w) {x : Operand} {T g off : Nat} (h : Al.opS A x = .ifp T g off) : a.eval x = .iface T (.pointer (some ⟨G.blk g, off, none⟩)) := by
  obtain ⟨c, h1, h2⟩ := S.opS h rfl
  simp only [RepS] at h1
  rw [h2, h1]; rfl

/-- A pointer to what is one's own, as a value of an interface type. -/
theorem s_makeIfp {g off : Nat} (hN : Nat.blt d C.N = true) (hx : opS A x = .ptr g off) (hT : notIface C.P T) :
    StepU C ⟨some d, .makeInterface T x, ty, pos, af, gd⟩ (opR x) [] A [(d, .ifp T g off)] := by
  refine StepU.value rfl hN fun A' G a w hR S => ?_
  have hev := S.ptr ((opS_congr hR).trans hx)
  obtain ⟨u, hu, hu2⟩ := hT
  refine ⟨.iface T (.pointer (some ⟨G.blk g, off, none⟩)), ?_, ⟨[.iface T (.pointer (some ⟨G.blk g, off, none⟩))], by simp only [RepS], rfl⟩⟩
  simp only [execOp, Instr.makeInterface, Sem.run_bind, run_underlying' hu, Result.andThen_ok, hev]
  cases u <;> first | rfl | cases hu2

theorem StepU.op1A {C : Cx} {o : Oper} {d : Nat} {A : Nat → SV} {x : Operand} {ax r : AV} (hd : o.dst = some d) (hN : Nat.blt d C.N = true) (hx : opV A x = some ax)
    (h : ∀ w I (a : Act), Rep w I ax (a.eval x) → ∃ v, (execOp a.eval o).run C.P w = .ok (.value v) w ∧ Rep w I r v) : StepU C o (opR x) [] A [(d, .imm r)] := by
  refine StepU.value hd hN fun A' G a w hR S => ?_
  rw [← opV_congr hR] at hx
  obtain ⟨v, h1, h2⟩ := h w G.I a (S.opV hx)
  exact ⟨v, h1, valS_imm.2 h2⟩
/-- Is it nil? -/
theorem s_eqNI {t : TypeId} {v : AV} {p : Array (String × TypeId)} (hN : Nat.blt d C.N = true) (hx : opV A x = some (.ifc t v)) (hy : opV A y = some (.v .nilIface)) (hT : C.P.underlying T = some (.interface p)) :
    StepU C ⟨some d, .binOp .eql T x y T', ty, pos, af, gd⟩ (opR x ++ opR y) [] A [(d, .imm (.v (.bool false)))] :=
  StepU.op2 rfl hN hx hy fun w I ρ h1 h2 => by
    obtain ⟨u, e, _⟩ := rep_ifc h1
    have e2 : ρ y = .nilIface := rep_val h2 rfl
    refine ⟨.bool false, ?_, rep_p w I rfl⟩
    simp only [execOp, e, e2]
    simp [eqGuard, binOp, run_eqI_nil hT]
theorem s_neNI {t : TypeId} {v : AV} {p : Array (String × TypeId)} (hN : Nat.blt d C.N = true) (hx : opV A x = some (.ifc t v)) (hy : opV A y = some (.v .nilIface)) (hT : C.P.underlying T = some (.interface p)) :
    StepU C ⟨some d, .binOp .neq T x y T', ty, pos, af, gd⟩ (opR x ++ opR y) [] A [(d, .imm (.v (.bool true)))] :=
  StepU.op2 rfl hN hx hy fun w I ρ h1 h2 => by
    obtain ⟨u, e, _⟩ := rep_ifc h1
    have e2 : ρ y = .nilIface := rep_val h2 rfl
    refine ⟨.bool true, ?_, rep_p w I rfl⟩
    simp only [execOp, e, e2]
    simp [eqGuard, binOp, run_eqI_nil hT]
theorem s_eqNN {p : Array (String × TypeId)} (hN : Nat.blt d C.N = true) (hx : opV A x = some (.v .nilIface)) (hT : C.P.underlying T = some (.interface p)) :
    StepU C ⟨some d, .binOp .eql T x (.const .nilIface) T', ty, pos, af, gd⟩ (opR x) [] A [(d, .imm (.v (.bool true)))] :=
  StepU.op1A rfl hN hx fun w I a h1 => by
    have e1 : a.eval x = .nilIface := rep_val h1 rfl
    have e2 : a.eval (.const .nilIface) = .nilIface := rfl
    refine ⟨.bool true, ?_, rep_p w I rfl⟩
    simp only [execOp, e1, e2]
    simp [eqGuard, binOp, run_eqN_nil hT]
theorem s_eqNP {t g off : Nat} {p : Array (String × TypeId)} (hN : Nat.blt d C.N = true) (hx : opS A x = .ifp t g off) (hy : opV A y = some (.v .nilIface)) (hT : C.P.underlying T = some (.interface p)) :
    StepU C ⟨some d, .binOp .eql T x y T', ty, pos, af, gd⟩ (opR x ++ opR y) [] A [(d, .imm (.v (.bool false)))] := by
  refine StepU.value rfl hN fun A' G a w hR S => ?_
  rw [← opV_congr (fun k hk => hR k (List.mem_append_right _ hk))] at hy
  have e := S.ifp ((opS_congr (fun k hk => hR k (List.mem_append_left _ hk))).trans hx)
  have e2 : a.eval y = .nilIface := rep_val (S.opV hy) rfl
  refine ⟨.bool false, ?_, valS_imm.2 (rep_p _ _ rfl)⟩
  simp only [execOp, e, e2]
  simp [eqGuard, binOp, run_eqI_nil hT]

/-- A pointer is not nil. -/
theorem s_nilCheck_cp {v : AV} (hN : Nat.blt d C.N = true) (hx : opV A x = some (.cp v)) : StepU C ⟨some d, .nilCheck x, ty, pos, af, gd⟩ (opR x) [] A [(d, .imm (.cp v))] :=
  StepU.op1 rfl hN hx fun w I ρ h => by
    obtain ⟨b, o, c, e, h1, h2⟩ := rep_cp h
    exact ⟨ρ x, by simp only [execOp, e]; rfl, h⟩
theorem s_nilCheck_ptr {g off : Nat} (hN : Nat.blt d C.N = true) (hx : opS A x = .ptr g off) : StepU C ⟨some d, .nilCheck x, ty, pos, af, gd⟩ (opR x) [] A [(d, .ptr g off)] := by
  refine StepU.value rfl hN fun A' G a w hR S => ?_
  have hev := S.ptr ((opS_congr hR).trans hx)
  refine ⟨a.eval x, by simp only [execOp, hev]; rfl, ?_⟩
  rw [hev]
  exact ⟨[.pointer (some ⟨G.blk g, off, none⟩)], by simp only [RepS], rfl⟩
theorem s_nePN {g off : Nat} {e : TypeId} (hN : Nat.blt d C.N = true) (hx : opS A x = .ptr g off) (hy : opV A y = some (.v (.pointer none))) (hT : C.P.underlying T = some (.pointer e)) :
    StepU C ⟨some d, .binOp .neq T x y T', ty, pos, af, gd⟩ (opR x ++ opR y) [] A [(d, .imm (.v (.bool true)))] := by
  refine StepU.value rfl hN fun A' G a w hR S => ?_
  rw [← opV_congr (fun k hk => hR k (List.mem_append_right _ hk))] at hy
  have e := S.ptr ((opS_congr (fun k hk => hR k (List.mem_append_left _ hk))).trans hx)
  have e2 : a.eval y = .pointer none := rep_val (S.opV hy) rfl
  refine ⟨.bool true, ?_, valS_imm.2 (rep_p _ _ rfl)⟩
  simp only [execOp, e, e2]
  simp [eqGuard, binOp, run_eqP_nil hT]

/-- What may be read by all is no block of one's own. -/
theorem s_eqIP {t t' g : Nat} {v : AV} {T0 : TypeId} {X : SV} {p : Array (String × TypeId)} {e : TypeId} (hN : Nat.blt d C.N = true) (hx : opV A x = some (.ifc t (.cp v))) (hy : opS A y = .ifp t' g 0) (hg : A g = .box T0 X) (hv : Nat.blt 0 v.width = true) (hX : Nat.blt 0 X.width = true)
    (hT : C.P.underlying T = some (.interface p)) (ht : C.P.underlying t' = some (.pointer e)) (hinfo : ∃ i j, C.P.info? t' = some i ∧ i.comparable = true ∧ C.P.info? e = some j ∧ j.size ≠ 0) :
    StepU C ⟨some d, .binOp .eql T x y T', ty, pos, af, gd⟩ (g :: (opR x ++ opR y)) [] A [(d, .imm (.v (.bool false)))] := by
  refine StepU.value rfl hN fun A' G a w hR S => ?_
  rw [← opV_congr (fun k hk => hR k (List.mem_cons_of_mem _ (List.mem_append_left _ hk)))] at hx
  have hgA : A' g = .box T0 X := (hR g List.mem_cons_self).trans hg
  have e2 := S.ifp ((opS_congr (fun k hk => hR k (List.mem_cons_of_mem _ (List.mem_append_right _ hk)))).trans hy)
  obtain ⟨u, e1, h1⟩ := rep_ifc (S.opV hx)
  obtain ⟨b, o, c, rfl, h2, h3⟩ := rep_cp h1
  have hb := S.holds g
  rw [hgA] at hb
  simp only [Holds] at hb
  have hlen := RepC.len _ _ h2
  have hpos : 0 < c.length := by rw [hlen]; simpa [Nat.blt_eq] using hv
  have hne : b ≠ G.blk g := by
    rintro rfl
    exact hb.2.2 _ (h3 0 hpos).2
  refine ⟨.bool false, ?_, valS_imm.2 (rep_p _ _ rfl)⟩
  have hcell : ∃ ca ta fa, w.heap[b]? = some (.cells ca ta fa) ∧ ca.size ≠ 0 := by
    have h0 := (h3 0 hpos).1
    simp only [World.cell?] at h0
    split at h0
    · rename_i ca ta fa hh
      refine ⟨ca, ta, fa, hh, ?_⟩
      intro hz
      simp [Array.eq_empty_of_size_eq_zero hz] at h0
    · cases h0
  obtain ⟨ca, ta, fa, hca, hca0⟩ := hcell
  obtain ⟨_, ⟨cb, fb, hcb, hrep, huf⟩, _⟩ := hb
  have hcb0 : cb.size ≠ 0 := by
    have := RepS.len _ _ hrep
    simp only [Array.length_toList] at this
    rw [this]
    have : 0 < X.width := by simpa [Nat.blt_eq] using hX
    omega
  have hsame := run_sameAddr_own (P := C.P) (a := ⟨b, o, none⟩) (b := ⟨G.blk g, 0, none⟩) hne hca hcb hca0 hcb0 huf (Nat.zero_le _)
  have hfin : (Op.equal T (.iface t (.pointer (some ⟨b, o, none⟩))) (.iface t' (.pointer (some ⟨G.blk g, 0, none⟩)))).run C.P w = .ok false w := by
    by_cases htt : t = t'
    · subst htt
      obtain ⟨i, j, hi, hcmp, hj, hjs⟩ := hinfo
      have h : ∀ d : Nat, (Op.equalIn (d + 2) T (.iface t (.pointer (some ⟨b, o, none⟩))) (.iface t (.pointer (some ⟨G.blk g, 0, none⟩)))).run C.P w = .ok false w := fun d => by
        simp [Op.equalIn, run_underlying hT, run_underlying ht, typeInfo, hi, hcmp, sizeOf, hj, hjs, hsame]
      simpa [Op.equal, Op.maxDepth] using h 9998
    · have h : ∀ d : Nat, (Op.equalIn (d + 1) T (.iface t (.pointer (some ⟨b, o, none⟩))) (.iface t' (.pointer (some ⟨G.blk g, 0, none⟩)))).run C.P w = .ok false w := fun d => by
        simp [Op.equalIn, run_underlying hT, htt]
      simpa [Op.equal, Op.maxDepth] using h 9999
  simp only [execOp, e1, e2]
  simp [eqGuard, binOp, hfin]

/-- A call of a function that has no body. -/
theorem s_extV {f : FuncId} {args : Array Operand} {ats : Array TypeId} {xs : List AV} {r : AV} (hN : Nat.blt d C.N = true) (hx : opVs A args.toList = some xs)
    (h : ∀ w I vs, RepVs w I xs vs → ∃ v, (callFunc f (List.toArray vs)).run C.P w = .ok (.value v) w ∧ Rep w I r v) :
    StepU C ⟨some d, .call { callee := .value (.func f), args := args, argTypes := ats }, ty, pos, af, gd⟩ (opRs args.toList) [] A [(d, .imm r)] := by
  refine StepU.value rfl hN fun A' G a w hR S => ?_
  rw [← opVs_congr hR] at hx
  obtain ⟨v, h1, h2⟩ := h w G.I _ (S.opVs hx)
  refine ⟨v, ?_, valS_imm.2 h2⟩
  have hev : a.eval (.func f) = .func (.func f) #[] #[] := rfl
  have e : (List.map a.eval args.toList).toArray = args.map a.eval := by rw [← Array.toList_map]
  rw [e] at h1
  simp only [execOp, resolve, hev, Deferred.ofValue, Sem.run_bind, Sem.run_pure, Result.andThen_ok, invoke]
  simpa using h1

theorem run_callMethod {P : Program} {w : World} {T : TypeId} {v : Value} {name : String} {f : FuncId} {r : Value} (hm : (method (P.types.size + Made.depth) T v name).run P w = .ok (f, r) w) (args : Array Value) :
    (callMethod (.iface T v) name args).run P w = (callFunc f (#[r] ++ args)).run P w := by
  simp only [callMethod, Sem.run_bind, run_program, Result.andThen_ok, hm]

/-- A method by its name, of a function without a body. -/
theorem s_inv0 {name : String} {ats : Array TypeId} {ax r : AV} (hN : Nat.blt d C.N = true) (hx : opV A x = some ax) (h : ∀ w I v, Rep w I ax v → ∃ u, (callMethod v name #[]).run C.P w = .ok (.value u) w ∧ Rep w I r u) :
    StepU C ⟨some d, .call { callee := .invoke x name, args := #[], argTypes := ats }, ty, pos, af, gd⟩ (opR x) [] A [(d, .imm r)] :=
  StepU.op1 rfl hN hx fun w I ρ h1 => by
    obtain ⟨u, e, h2⟩ := h w I _ h1
    refine ⟨u, ?_, h2⟩
    simp only [execOp, resolve, Sem.run_bind, Sem.run_pure, Result.andThen_ok, invoke]
    simpa using e
theorem s_inv1 {name : String} {ats : Array TypeId} {ax ay r : AV} (hN : Nat.blt d C.N = true) (hx : opV A x = some ax) (hy : opV A y = some ay) (h : ∀ w I v v', Rep w I ax v → Rep w I ay v' → ∃ u, (callMethod v name #[v']).run C.P w = .ok (.value u) w ∧ Rep w I r u) :
    StepU C ⟨some d, .call { callee := .invoke x name, args := #[y], argTypes := ats }, ty, pos, af, gd⟩ (opR x ++ opR y) [] A [(d, .imm r)] :=
  StepU.op2 rfl hN hx hy fun w I ρ h1 h3 => by
    obtain ⟨u, e, h2⟩ := h w I _ _ h1 h3
    refine ⟨u, ?_, h2⟩
    simp only [execOp, resolve, Sem.run_bind, Sem.run_pure, Result.andThen_ok, invoke]
    simpa using e
/-- A method by its name, by its contract. -/
theorem s_invC {name : String} {ats : Array TypeId} {t : TypeId} {f : FuncId} {bx r : AV} (hc : PCall C.P C.Γ f [bx] [r]) (hN : Nat.blt d C.N = true) (hx : opV A x = some (.ifc t bx)) (h : ∀ w v, (method (C.P.types.size + Made.depth) t v name).run C.P w = .ok (f, v) w) :
    StepU C ⟨some d, .call { callee := .invoke x name, args := #[], argTypes := ats }, ty, pos, af, gd⟩ (opR x) [] A [(d, .imm r)] := by
  intro A' a w hR hF ⟨G, S⟩
  rw [← opV_congr hR] at hx
  obtain ⟨u, e, h1⟩ := rep_ifc (S.opV hx)
  have hcall := hc.2 w G.I [u] S.val S.glob (by obtain ⟨c, k1, k2⟩ := h1; simp only [RepVs]; exact ⟨c, [], by rw [k2], k1, rfl⟩)
  unfold Oper.wp
  have hrun : (execOp a.eval ⟨some d, .call { callee := .invoke x name, args := #[], argTypes := ats }, ty, pos, af, gd⟩).run C.P w = .ok (.enter f (List.toArray [u])) w := by
    simp only [execOp, resolve, Sem.run_bind, Sem.run_pure, Result.andThen_ok, invoke, e]
    have := run_callMethod (h w u) #[]
    rw [run_callFunc hc.1] at this
    simpa using this
  rw [hrun, Oper.upon_enter]
  refine hcall.mono ?_
  rintro e w' ⟨v, I', rfl, hb, hle, hn, hv, hres⟩
  exact ⟨{ G with I := I' }, (S.called hb hle hn hv).put (by simpa [Nat.blt_eq] using hN) (resV_slot (rs := [r]) hres)⟩

/-- Does it have a method? -/
theorem s_hasNo {t Tx : TypeId} {v : AV} (hN : Nat.blt d C.N = true) (hx : opV A x = some (.ifc t v)) (h : ∀ (u : Value) (w : World), (Instr.typeAssert (.iface t u) Tx T true).run C.P w = .ok (.tuple #[.nilIface, .bool false]) w) :
    StepU C ⟨some d, .typeAssert x Tx T true, ty, pos, af, gd⟩ (opR x) [] A [(d, .tup [.imm (.v .nilIface), .imm (.v (.bool false))])] := by
  refine StepU.value rfl hN fun A' G a w hR S => ?_
  rw [← opV_congr hR] at hx
  obtain ⟨u, e, h1⟩ := rep_ifc (S.opV hx)
  refine ⟨.tuple #[.nilIface, .bool false], by simp only [execOp, e, Sem.run_bind, h u w, Result.andThen_ok, Sem.run_pure], ?_⟩
  exact ⟨[.nilIface, .bool false], rfl, _, _, rfl, valS_imm.2 (rep_p _ _ rfl), _, _, rfl, valS_imm.2 (rep_p _ _ rfl), rfl⟩
theorem s_hasYes {t Tx : TypeId} {v : AV} (hN : Nat.blt d C.N = true) (hx : opV A x = some (.ifc t v)) (h : ∀ (u : Value) (w : World), (Instr.typeAssert (.iface t u) Tx T true).run C.P w = .ok (.tuple #[.iface t u, .bool true]) w) :
    StepU C ⟨some d, .typeAssert x Tx T true, ty, pos, af, gd⟩ (opR x) [] A [(d, .tup [.imm (.ifc t v), .imm (.v (.bool true))])] := by
  refine StepU.value rfl hN fun A' G a w hR S => ?_
  rw [← opV_congr hR] at hx
  obtain ⟨u, e, h1⟩ := rep_ifc (S.opV hx)
  refine ⟨.tuple #[.iface t u, .bool true], by simp only [execOp, e, Sem.run_bind, h u w, Result.andThen_ok, Sem.run_pure], ?_⟩
  exact ⟨[.iface t u, .bool true], rfl, _, _, rfl, valS_imm.2 (rep_ifc_mk h1), _, _, rfl, valS_imm.2 (rep_p _ _ rfl), rfl⟩
/-- A pointer to what is one's own, out of an interface value. -/
theorem s_assertP {Tx g off : Nat} (hN : Nat.blt d C.N = true) (hx : opS A x = .ifp T g off) (hT : notIface C.P T) :
    StepU C ⟨some d, .typeAssert x Tx T true, ty, pos, af, gd⟩ (opR x) [] A [(d, .tup [.ptr g off, .imm (.v (.bool true))])] := by
  refine StepU.value rfl hN fun A' G a w hR S => ?_
  have hev := S.ifp ((opS_congr hR).trans hx)
  obtain ⟨u, hu, hu2⟩ := hT
  refine ⟨.tuple #[.pointer (some ⟨G.blk g, off, none⟩), .bool true], ?_, ?_⟩
  · simp only [execOp, Instr.typeAssert, Sem.run_bind, run_underlying' hu, Result.andThen_ok, hev]
    cases u <;> first | (simp; done) | cases hu2
  · exact ⟨[.pointer (some ⟨G.blk g, off, none⟩), .bool true], rfl, _, _, rfl, ⟨[.pointer (some ⟨G.blk g, off, none⟩)], by simp only [RepS], rfl⟩, _, _, rfl, valS_imm.2 (rep_p _ _ rfl), rfl⟩
end
end Go.Al

namespace Go.Al
open Go.RowKit

/-! ### The library's values of values, at pointers to what is one's own -/

abbrev refV (h : Value) (g : Nat) (fl : Value) : SV := .agg [.imm (.v h), .ptr g 0, .imm (.v fl)]

theorem repS_refV {w : World} {G : Gh} {h fl : Value} {g : Nat} (h1 : h.cells.toList = [h]) (h2 : fl.cells.toList = [fl]) (p1 : plain h = true) (p2 : plain fl = true) : RepS w G (refV h g fl) [h, .pointer (some ⟨G.blk g, 0, none⟩), fl] := by
  simp only [RepS, RepSs, RepC]
  exact ⟨[h], _, rfl, ⟨h1.symm, by simp [p1]⟩, [.pointer (some ⟨G.blk g, 0, none⟩)], _, rfl, rfl, [fl], [], rfl, ⟨h2.symm, by simp [p2]⟩, rfl⟩
theorem plain_cells {h : Value} (p : plain h = true) : h.cells.toList = [h] := by cases h <;> first | rfl | cases p
theorem SimG.refV {C : Cx} {A : Nat → SV} {G : Gh} {a : Act} {w : World} (S : SimG C A G a w) {x : Operand} {h fl : Value} {g : Nat} (hx : Al.opS A x = Al.refV h g fl) (p1 : plain h = true) (p2 : plain fl = true) :
    a.eval x = .agg #[h, .pointer (some ⟨G.blk g, 0, none⟩), fl] := by
  obtain ⟨c, h1, h2⟩ := S.opS hx rfl
  simp only [RepS, RepSs, RepC] at h1
  obtain ⟨c1, c2, rfl, ⟨k1, _⟩, c3, c4, rfl, k2, c5, c6, rfl, ⟨k3, _⟩, rfl⟩ := h1
  rw [h2, k1, k2, k3, plain_cells p1, plain_cells p2]; rfl

section
variable {C : Cx} {A : Nat → SV} {d : Nat} {ty : TypeId} {pos : String} {af : Array Edge} {gd : Option (Nat × Bool)} {x y : Operand} {T T' : TypeId} {h fl h2 fl2 : Value}

theorem run_ext1 {f : FuncId} {a : Act} {ats : Array TypeId} {d0 : Option Nat} {w : World} {n : Result Next} (hf : (callFunc f #[a.eval x]).run C.P w = n) :
    (execOp a.eval ⟨d0, .call { callee := .value (.func f), args := #[x], argTypes := ats }, ty, pos, af, gd⟩).run C.P w = n := by
  have hev : a.eval (.func f) = .func (.func f) #[] #[] := rfl
  simp only [execOp, resolve, hev, Deferred.ofValue, Sem.run_bind, Sem.run_pure, Result.andThen_ok, invoke]
  simpa using hf
theorem run_ext2 {f : FuncId} {a : Act} {ats : Array TypeId} {d0 : Option Nat} {w : World} {n : Result Next} (hf : (callFunc f #[a.eval x, a.eval y]).run C.P w = n) :
    (execOp a.eval ⟨d0, .call { callee := .value (.func f), args := #[x, y], argTypes := ats }, ty, pos, af, gd⟩).run C.P w = n := by
  have hev : a.eval (.func f) = .func (.func f) #[] #[] := rfl
  simp only [execOp, resolve, hev, Deferred.ofValue, Sem.run_bind, Sem.run_pure, Result.andThen_ok, invoke]
  simpa using hf

theorem valueOf_box {C : Cx} {A : Nat → SV} {G : Gh} {a : Act} {w : World} (S : SimG C A G a w) {gv d : Nat} {T : TypeId} {X : SV} {u : Value} (hgd : gv ≠ d) (hgK : gv < C.K) (hd : d < C.N) (hu : RepS w G X [u]) (hnx : noG [gv] X = true) (p1 : plain h = true) (p2 : plain fl = true)
    (hf : ∀ k, has [(gv, .box T X), (d, refV h gv fl)] k = false → noG [gv] (A k) = true) :
    Sim C (upd A [(gv, .box T X), (d, refV h gv fl)]) (a.put (some d) (.agg #[h, .pointer (some ⟨w.heap.size, 0, none⟩), fl])) (w.alloc (.cells #[u] T)) := by
  refine S.allocO hgd hgK hd (fun _ _ h => by simpa only [ownsB] using h) (fun G' e _ hg hle hni => ?_) (fun G' e => ?_) hf
  · simp only [Holds]
    refine ⟨⟨.inl (by rw [e]; exact S.size), by rw [e]; simp⟩, ⟨#[u], (0, 0), by rw [e]; exact alloc_new, RepS.mono hle hg _ _ hnx hu, fun o _ => by simp⟩, fun o => ?_⟩
    rw [e]; exact hni o
  · refine ⟨[h, .pointer (some ⟨w.heap.size, 0, none⟩), fl], ?_, by simp [mkS, SV.isAgg]⟩
    have := repS_refV (w := w.alloc (.cells #[u] T)) (G := G') (g := gv) (plain_cells p1) (plain_cells p2) p1 p2
    rw [e] at this; exact this

theorem s_valueOfP (gv : Nat) {f g : Nat} {ats : Array TypeId} (hgd : Nat.beq gv d = false) (hgK : Nat.blt gv C.K = true) (hN : Nat.blt d C.N = true) (hne : Nat.beq gv g = false) (hx : opS A x = .ifp T g 0) (p1 : plain h = true) (p2 : plain fl = true)
    (hf : ∀ a w, (callFunc f #[.iface T (.pointer (some a))]).run C.P w = .ok (.value (.agg #[h, .pointer (some ⟨w.heap.size, 0, none⟩), fl])) (w.alloc (.cells #[.pointer (some a)] T))) :
    StepU C ⟨some d, .call { callee := .value (.func f), args := #[x], argTypes := ats }, ty, pos, af, gd⟩ (opR x) [gv] A [(gv, .box T (.ptr g 0)), (d, refV h gv fl)] := by
  intro A' a w hR hF ⟨G, S⟩
  have hev := S.ifp ((opS_congr hR).trans hx)
  have hgd' : gv ≠ d := by rintro rfl; rw [Nat.beq_refl] at hgd; cases hgd
  have hne' : gv ≠ g := by rintro rfl; rw [Nat.beq_refl] at hne; cases hne
  have key := valueOf_box (h := h) (fl := fl) S (T := T) (X := .ptr g 0) (u := .pointer (some ⟨G.blk g, 0, none⟩)) hgd' (by simpa [Nat.blt_eq] using hgK) (by simpa [Nat.blt_eq] using hN) (by simp only [RepS]) (by simp only [noG]; simpa using Ne.symm hne') p1 p2 hF
  have hf' := hf ⟨G.blk g, 0, none⟩ w
  rw [← hev] at hf'
  unfold Oper.wp
  rw [run_ext1 hf', Oper.upon_value]
  exact key
theorem s_valueOfC (gv : Nat) {f : Nat} {v : AV} {ats : Array TypeId} (hgd : Nat.beq gv d = false) (hgK : Nat.blt gv C.K = true) (hN : Nat.blt d C.N = true) (hx : opV A x = some (.ifc T (.cp v))) (p1 : plain h = true) (p2 : plain fl = true)
    (hf : ∀ a w, (callFunc f #[.iface T (.pointer (some a))]).run C.P w = .ok (.value (.agg #[h, .pointer (some ⟨w.heap.size, 0, none⟩), fl])) (w.alloc (.cells #[.pointer (some a)] T))) :
    StepU C ⟨some d, .call { callee := .value (.func f), args := #[x], argTypes := ats }, ty, pos, af, gd⟩ (opR x) [gv] A [(gv, .box T (.imm (.cp v))), (d, refV h gv fl)] := by
  intro A' a w hR hF ⟨G, S⟩
  rw [← opV_congr hR] at hx
  obtain ⟨u, hev, hu⟩ := rep_ifc (S.opV hx)
  obtain ⟨b, o, c, rfl, k1, k2⟩ := rep_cp hu
  have hgd' : gv ≠ d := by rintro rfl; rw [Nat.beq_refl] at hgd; cases hgd
  have key := valueOf_box (h := h) (fl := fl) S (T := T) (X := .imm (.cp v)) (u := .pointer (some ⟨b, o, none⟩)) hgd' (by simpa [Nat.blt_eq] using hgK) (by simpa [Nat.blt_eq] using hN) (by simp only [RepS, RepC]; exact ⟨b, o, c, rfl, k1, k2⟩) (by simp only [noG]) p1 p2 hF
  have hf' := hf ⟨b, o, none⟩ w
  rw [← hev] at hf'
  unfold Oper.wp
  rw [run_ext1 hf', Oper.upon_value]
  exact key

/-- What is told of such a value without a look at memory. -/
theorem s_refRaw {f gv : Nat} {r : Value} {ats : Array TypeId} (hN : Nat.blt d C.N = true) (hx : opS A x = refV h gv fl) (p1 : plain h = true) (p2 : plain fl = true) (pr : plain r = true)
    (hf : ∀ a w, (callFunc f #[.agg #[h, .pointer (some a), fl]]).run C.P w = .ok (.value r) w) :
    StepU C ⟨some d, .call { callee := .value (.func f), args := #[x], argTypes := ats }, ty, pos, af, gd⟩ (opR x) [] A [(d, .imm (.v r))] := by
  refine StepU.value rfl hN fun A' G a w hR S => ?_
  have hev := S.refV ((opS_congr hR).trans hx) p1 p2
  exact ⟨r, run_ext1 (by rw [hev]; exact hf _ w), valS_imm.2 (rep_p _ _ pr)⟩

theorem box_cell {C : Cx} {A : Nat → SV} {G : Gh} {a : Act} {w : World} (S : SimG C A G a w) {g : Nat} {T0 : TypeId} {X : SV} {u : Value} (hg : A g = .box T0 X) (hX : ∀ cs, RepS w G X cs → cs = [u]) : w.cell? ⟨G.blk g, 0, none⟩ = some u := by
  have hb := S.holds g
  rw [hg] at hb
  simp only [Holds] at hb
  obtain ⟨_, ⟨cs, fr, h1, h2, _⟩, _⟩ := hb
  have e := hX _ h2
  simp only [World.cell?, h1, Option.isSome_none, Bool.false_eq_true, if_false]
  rw [← Array.getElem?_toList, e]; rfl

theorem s_isNilV {f gv g : Nat} {T0 : TypeId} {ats : Array TypeId} (hN : Nat.blt d C.N = true) (hx : opS A x = refV h gv fl) (hg : A gv = .box T0 (.ptr g 0)) (p1 : plain h = true) (p2 : plain fl = true)
    (hf : ∀ a p w, w.cell? a = some (.pointer (some p)) → (callFunc f #[.agg #[h, .pointer (some a), fl]]).run C.P w = .ok (.value (.bool false)) w) :
    StepU C ⟨some d, .call { callee := .value (.func f), args := #[x], argTypes := ats }, ty, pos, af, gd⟩ (gv :: opR x) [] A [(d, .imm (.v (.bool false)))] := by
  refine StepU.value rfl hN fun A' G a w hR S => ?_
  have hev := S.refV ((opS_congr (fun k hk => hR k (List.mem_cons_of_mem _ hk))).trans hx) p1 p2
  have hc := box_cell S (u := .pointer (some ⟨G.blk g, 0, none⟩)) ((hR gv List.mem_cons_self).trans hg) (fun cs r => by simpa only [RepS] using r)
  exact ⟨.bool false, run_ext1 (by rw [hev]; exact hf _ _ w hc), valS_imm.2 (rep_p _ _ rfl)⟩
theorem s_elemV {f gv g : Nat} {T0 : TypeId} {ats : Array TypeId} (hN : Nat.blt d C.N = true) (hx : opS A x = refV h gv fl) (hg : A gv = .box T0 (.ptr g 0)) (p1 : plain h = true) (p2 : plain fl = true) (q1 : plain h2 = true) (q2 : plain fl2 = true)
    (hf : ∀ a p w, w.cell? a = some (.pointer (some p)) → (callFunc f #[.agg #[h, .pointer (some a), fl]]).run C.P w = .ok (.value (.agg #[h2, .pointer (some p), fl2])) w) :
    StepU C ⟨some d, .call { callee := .value (.func f), args := #[x], argTypes := ats }, ty, pos, af, gd⟩ (gv :: opR x) [] A [(d, refV h2 g fl2)] := by
  refine StepU.value rfl hN fun A' G a w hR S => ?_
  have hev := S.refV ((opS_congr (fun k hk => hR k (List.mem_cons_of_mem _ hk))).trans hx) p1 p2
  have hc := box_cell S (u := .pointer (some ⟨G.blk g, 0, none⟩)) ((hR gv List.mem_cons_self).trans hg) (fun cs r => by simpa only [RepS] using r)
  exact ⟨_, run_ext1 (by rw [hev]; exact hf _ _ w hc), ⟨_, repS_refV (plain_cells q1) (plain_cells q2) q1 q2, rfl⟩⟩

/-- A variable of one's own is set. -/
theorem s_setV {f g gw : Nat} {T0 T1 : TypeId} {X : SV} {v : AV} {ats : Array TypeId} {h3 fl3 : Value} (hgd : Nat.beq g d = false) (hN : Nat.blt d C.N = true) (hx : opS A x = refV h g fl) (hy : opS A y = refV h3 gw fl3) (hg : A g = .box T0 X) (hw : A gw = .box T1 (.imm (.cp v))) (hX : Nat.beq X.width 1 = true)
    (hn : tySize C.P T = some 1) (p1 : plain h = true) (p2 : plain fl = true) (q1 : plain h3 = true) (q2 : plain fl3 = true)
    (hf : ∀ a b p w w', w.cell? b = some (.pointer (some p)) → (storeVar T a (.pointer (some p))).run C.P w = .ok () w' → (callFunc f #[.agg #[h, .pointer (some a), fl], .agg #[h3, .pointer (some b), fl3]]).run C.P w = .ok (.value (.tuple #[])) w') :
    StepU C ⟨some d, .call { callee := .value (.func f), args := #[x, y], argTypes := ats }, ty, pos, af, gd⟩ (g :: gw :: (opR x ++ opR y)) [] A [(g, .box T0 (.imm (.cp v))), (d, .tup [])] := by
  intro A' a w hR hF ⟨G, S⟩
  have hgA := (hR g (by simp)).trans hg
  have hwA := (hR gw (by simp)).trans hw
  have e1 := S.refV ((opS_congr (fun k hk => hR k (by simp [hk]))).trans hx) p1 p2
  have e2 := S.refV ((opS_congr (fun k hk => hR k (by simp [hk]))).trans hy) q1 q2
  have hb2 := S.holds gw
  rw [hwA] at hb2
  simp only [Holds] at hb2
  obtain ⟨_, ⟨cw, fw, k1, k2, _⟩, _⟩ := hb2
  simp only [RepS, RepC] at k2
  obtain ⟨b, o, c, k3, k4, k5⟩ := k2
  have hc : w.cell? ⟨G.blk gw, 0, none⟩ = some (.pointer (some ⟨b, o, none⟩)) := by
    simp only [World.cell?, k1, Option.isSome_none, Bool.false_eq_true, if_false]
    rw [← Array.getElem?_toList, k3]; rfl
  have hb := S.holds g
  rw [hgA] at hb
  simp only [Holds] at hb
  obtain ⟨_, ⟨cs, fr, hb2, hb3, hb4⟩, _⟩ := hb
  have hlen : cs.size = 1 := by
    have := RepS.len _ _ hb3
    simp only [Array.length_toList] at this
    rw [this]; exact Nat.eq_of_beq_eq_true hX
  have hst : (storeVar T ⟨G.blk g, 0, none⟩ (.pointer (some ⟨b, o, none⟩))).run C.P w = .ok () (setBlk w (G.blk g) (.cells (splice cs 0 [.pointer (some ⟨b, o, none⟩)]) T0 fr)) := by
    simp only [storeVar, Sem.run_bind, run_sizeOf hn, Result.andThen_ok]
    rw [if_neg (by simp [Value.cells])]
    exact run_storeCells [.pointer (some ⟨b, o, none⟩)] 0 w cs hb2 hb4 (by simp [hlen]) rfl
  have hrun := hf ⟨G.blk g, 0, none⟩ _ _ w _ hc hst
  have key : Sim C (upd A' [(g, .box T0 (.imm (.cp v)))]) a (setBlk w (G.blk g) (.cells (splice cs 0 [.pointer (some ⟨b, o, none⟩)]) T0 fr)) :=
    S.storeBox hgA hb2 (splice_size _ _ _) (by
      rw [splice_list _ _ _ (by simp [hlen])]
      have : cs.toList.length = 1 := by simpa using hlen
      obtain ⟨z, hz⟩ := List.length_eq_one_iff.1 this
      rw [hz]
      simp only [RepS, RepC]
      exact ⟨b, o, c, rfl, k4, k5⟩)
  obtain ⟨G2, S2⟩ := key
  rw [← e1, ← e2] at hrun
  unfold Oper.wp
  rw [run_ext2 hrun, Oper.upon_value]
  refine ⟨G2, ?_⟩
  have S3 := S2.put (d := d) (by simpa [Nat.blt_eq] using hN) (x := .tup []) (v := .tuple #[]) ⟨[], rfl, rfl⟩
  have e : upd (upd A' [(g, .box T0 (.imm (.cp v)))]) [(d, .tup [])] = upd A' [(g, .box T0 (.imm (.cp v))), (d, .tup [])] := by
    funext k
    simp only [upd]
    by_cases h1 : d = k
    · subst h1
      rw [Nat.beq_refl]
      by_cases h2 : g = d
      · subst h2; rw [Nat.beq_refl] at hgd; cases hgd
      · rw [nat_beq_false h2]; rfl
    · rw [nat_beq_false h1]
      cases Nat.beq g k <;> rfl
  rw [← e]; exact S3
end
end Go.Al

namespace Go.Al
open Go.RowKit
section
variable {C : Cx} {A : Nat → SV} {ty : TypeId} {pos : String} {af : Array Edge} {gd : Option (Nat × Bool)} {x y : Operand} {T T' : TypeId}
/-- A method by its name, that turns what is handed. -/
theorem s_mcallM {d : Option Nat} {f : FuncId} {name : String} {args : Array Operand} {ats : Array TypeId} {t : TypeId} {bx : AV} {xs : List SV} {H H' : St} {r : SV} (σ : List (Nat × Nat)) (hc : MCall C.P C.Γ f xs H r H') (hm : ∀ w v, (method (C.P.types.size + Made.depth) t v name).run C.P w = .ok (f, v) w) (hN : dstOk C.N d (r.ren σ) = true)
    (hx : opV A x = some (.ifc t bx)) (hsl : (opSl A args.toList).all SV.slotty = true) (ha : argsOk σ (.imm bx :: opSl A args.toList) xs) (hH : hasAll A σ H)
    (hok : renOk C.N C.K σ H H' r = true) (hres : resAll 0 H = true) (hres' : resAll 0 H' = true) :
    StepU C ⟨d, .call { callee := .invoke x name, args := args, argTypes := ats }, ty, pos, af, gd⟩ (cod σ ++ (opR x ++ opRs args.toList)) (newOf σ) A (dstPost d (r.ren σ) ++ postOf σ H') := by
  intro A' a w hR hF ⟨G, S⟩
  have hok0 := hok
  simp only [renOk, Bool.and_eq_true] at hok0
  obtain ⟨⟨⟨⟨⟨⟨⟨⟨hd, hcd⟩, hkH⟩, hkH'⟩, _⟩, _⟩, hcN⟩, _⟩, _⟩ := hok0
  rw [← opV_congr (fun k hk => hR k (List.mem_append_right _ (List.mem_append_left _ hk)))] at hx
  have eS := opSl_congr (A := A) (A' := A') (xs := args.toList) (fun k hk => hR k (List.mem_append_right _ (List.mem_append_right _ hk)))
  rw [← eS] at hsl ha
  have hH' := hasAll_congr (A := A) (A' := A') (fun g hg => hR g (List.mem_append_left _ hg)) (within_spec hkH) hH
  obtain ⟨u, hev, hu⟩ := rep_ifc (S.opV hx)
  have hargs := S.opSl hsl
  have hvals : ValSs w G (.imm bx :: opSl A' args.toList) (u :: args.toList.map a.eval) := ⟨u, _, rfl, valS_imm.2 hu, hargs⟩
  have hpre := S.mpre hres hcd (within_spec hkH) hH' hvals ha
  have hcall := hc.2 w _ _ hpre
  have hrun : (execOp a.eval ⟨d, .call { callee := .invoke x name, args := args, argTypes := ats }, ty, pos, af, gd⟩).run C.P w = .ok (.enter f (List.toArray (u :: args.toList.map a.eval))) w := by
    simp only [execOp, resolve, Sem.run_bind, Sem.run_pure, Result.andThen_ok, invoke, hev]
    have := run_callMethod (hm w u) (args.map a.eval)
    rw [run_callFunc hc.1] at this
    have e : (#[u] ++ args.map a.eval) = (u :: args.toList.map a.eval).toArray := by simp
    rw [e] at this
    have e2 : (#[Value.iface t u] ++ args.map a.eval)[0]? = some (.iface t u) := by rw [Array.getElem?_append_left (by simp)]; rfl
    have e3 : (#[Value.iface t u] ++ args.map a.eval).extract 1 (#[Value.iface t u] ++ args.map a.eval).size = args.map a.eval := by
      apply Array.ext'
      simp
      exact List.take_of_length_le (by simp)
    simp only [e2, e3]
    exact this
  unfold Oper.wp
  rw [hrun, Oper.upon_enter]
  refine hcall.mono ?_
  rintro e w' ⟨v, G', rfl, D⟩
  have hF' : ∀ k, k ∉ cod σ → noG (newOf σ) (A' k) = true ∨ d = some k := by
    intro k hk
    by_cases hdk : d = some k
    · exact .inr hdk
    · refine .inl (hF k ?_)
      cases hh : has (dstPost d (r.ren σ) ++ postOf σ H') k
      · rfl
      · exfalso
        have h1 := (has_iff _ _).1 hh
        simp only [keysOf, List.map_append, List.mem_append] at h1
        rcases h1 with h1 | h1
        · cases d with
          | none => simp [dstPost] at h1
          | some d => simp [dstPost] at h1; exact hdk (by rw [h1])
        · exact hk (postOf_has.1 ((has_iff _ _).2 h1))
  cases d with
  | none =>
    obtain ⟨S', _⟩ := S.mcalled hok hres hres' hH' (fun k hk => (hF' k hk).resolve_right (by simp)) D
    exact ⟨_, by simpa [dstPost, Act.put] using S'⟩
  | some d =>
    have hdN : d < C.N := by simpa [dstOk, Nat.blt_eq] using hN
    have hdc : d ∉ cod σ := fun h => by
      have := Nat.le_of_ble_eq_true (List.all_eq_true.1 hcN d h)
      omega
    -- what stood in the slot of the result matters no more
    have Sw := S.weak (B := upd A' [(d, .dead)]) (fun k => by
      rw [upd_one]
      split
      · exact .inl rfl
      · exact .inr rfl)
    have hHw : hasAll (upd A' [(d, .dead)]) σ H := hasAll_congr (A := A') (fun g hg => by
      rw [upd_one, if_neg (by rintro rfl; exact hdc hg)]) (within_spec hkH) hH'
    obtain ⟨S', hv⟩ := Sw.mcalled hok hres hres' hHw (fun k hk => by
      rw [upd_one]
      split
      · rfl
      · rename_i hkd
        exact (hF' k hk).resolve_right (fun e => hkd (by cases e; rfl))) D
    have S2 := S'.put hdN hv
    have e : upd (upd (upd A' [(d, .dead)]) (postOf σ H')) [(d, r.ren σ)] = upd A' (dstPost (some d) (r.ren σ) ++ postOf σ H') := by
      funext k
      rw [upd_one]
      simp only [dstPost, List.cons_append, List.nil_append, upd]
      by_cases hkd : k = d
      · subst hkd; simp [Nat.beq_refl]
      · rw [if_neg hkd, nat_beq_false (Ne.symm hkd)]
        simp only [cond_false]
        cases hh : has (postOf σ H') k
        · rw [upd_of_not _ _ _ hh, upd_of_not _ _ _ hh]
          first | (rw [upd_one, if_neg hkd]; done) | (rw [nat_beq_false (Ne.symm hkd)]; rfl)
        · exact upd_congr _ _ hh
    rw [e] at S2
    exact ⟨_, S2⟩

/-- What was a variable's box is handed out as a value of an interface type, and read only from now on. -/
theorem s_makeIfaceS {d g : Nat} {T0 : TypeId} {X : SV} {y : AV} (hgd : Nat.beq g d = false) (hN : Nat.blt d C.N = true) (hx : opS A x = .ptr g 0) (hg : A g = .box T0 X) (hy : toAV X = some y) (hT : notIface C.P T) :
    StepU C ⟨some d, .makeInterface T x, ty, pos, af, gd⟩ (g :: opR x) [] A [(g, .dead), (d, .imm (.ifc T (.cp y)))] := by
  intro A' a w hR hF ⟨G, S⟩
  have hgA : A' g = .box T0 X := (hR g List.mem_cons_self).trans hg
  have hev := S.ptr ((opS_congr (fun k hk => hR k (List.mem_cons_of_mem _ hk))).trans hx)
  have hgd' : g ≠ d := by rintro rfl; rw [Nat.beq_refl] at hgd; cases hgd
  have hb := S.holds g
  rw [hgA] at hb
  simp only [Holds] at hb
  obtain ⟨how, ⟨cs, fr, hb2, hb3, hb4⟩, hni⟩ := hb
  obtain ⟨S1, hle, hcell⟩ := S.giveUp fr hgA hb2
  have hw : setBlk w (G.blk g) (.cells cs T0 fr) = w := setBlk_same hb2
  rw [hw] at S1 hle hcell
  have hyc : RepC w (fun b o => G.I b o ∨ (b = G.blk g ∧ o < cs.size)) y cs.toList := RepC.mono hle _ _ (toAV_spec X y _ hy hb3)
  have hrep : Rep w (fun b o => G.I b o ∨ (b = G.blk g ∧ o < cs.size)) (.ifc T (.cp y)) (.iface T (.pointer (some ⟨G.blk g, 0, none⟩))) := rep_ifc_mk (rep_cp_mk hyc hcell)
  have S2 := S1.put (d := d) (by simpa [Nat.blt_eq] using hN) (x := .imm (.ifc T (.cp y))) (v := .iface T (.pointer (some ⟨G.blk g, 0, none⟩))) (valS_imm.2 hrep)
  obtain ⟨u, hu, hu2⟩ := hT
  have hrun : (execOp a.eval ⟨some d, .makeInterface T x, ty, pos, af, gd⟩).run C.P w = .ok (.value (.iface T (.pointer (some ⟨G.blk g, 0, none⟩)))) w := by
    simp only [execOp, Instr.makeInterface, Sem.run_bind, run_underlying' hu, Result.andThen_ok, hev]
    cases u <;> first | rfl | cases hu2
  unfold Oper.wp
  rw [hrun, Oper.upon_value]
  refine ⟨{ G with I := fun b o => G.I b o ∨ (b = G.blk g ∧ o < cs.size) }, ?_⟩
  have e : upd (upd A' [(g, .dead)]) [(d, .imm (.ifc T (.cp y)))] = upd A' [(g, .dead), (d, .imm (.ifc T (.cp y)))] := by
    funext k
    simp only [upd]
    by_cases h1 : d = k
    · subst h1; rw [Nat.beq_refl, nat_beq_false hgd']; rfl
    · rw [nat_beq_false h1]; cases Nat.beq g k <;> rfl
  rw [← e]; exact S2

/-- Is it a value of an interface type, and not nil? -/
def AV.isIfc : AV → Bool
  | .ifc _ _ => true
  | _ => false
theorem andV {r : Result Value} {v : Value} {w : World} (h : r = .ok v w) : (r.andThen fun v w' => (.ok (.value v) w' : Result Next)) = .ok (.value v) w := by rw [h]; rfl
theorem isIfc_iff {v : AV} (h : AV.isIfc v = true) : ∃ t u, v = .ifc t u := by cases v <;> first | exact ⟨_, _, rfl⟩ | cases h
theorem s_eqNI' {d : Nat} {v : AV} {p : Array (String × TypeId)} (hN : Nat.blt d C.N = true) (hx : opV A x = some v) (hv : AV.isIfc v = true) (hy : opV A y = some (.v .nilIface)) (hT : C.P.underlying T = some (.interface p)) :
    StepU C ⟨some d, .binOp .eql T x y T', ty, pos, af, gd⟩ (opR x ++ opR y) [] A [(d, .imm (.v (.bool false)))] := by
  obtain ⟨t, u, rfl⟩ := isIfc_iff hv; exact s_eqNI hN hx hy hT
theorem s_neNI' {d : Nat} {v : AV} {p : Array (String × TypeId)} (hN : Nat.blt d C.N = true) (hx : opV A x = some v) (hv : AV.isIfc v = true) (hy : opV A y = some (.v .nilIface)) (hT : C.P.underlying T = some (.interface p)) :
    StepU C ⟨some d, .binOp .neq T x y T', ty, pos, af, gd⟩ (opR x ++ opR y) [] A [(d, .imm (.v (.bool true)))] := by
  obtain ⟨t, u, rfl⟩ := isIfc_iff hv; exact s_neNI hN hx hy hT
/-- What a package variable holds, that nobody turns. -/
theorem s_loadGlob {d g : Nat} {v : Value} (hN : Nat.blt d C.N = true) (hg : glk C.Γ g = some (.v v)) (hp : plain v = true) (hq : tyAgg C.P T = some false) (hn : tySize C.P T = some 1) :
    StepU C ⟨some d, .load T (.global g), ty, pos, af, gd⟩ [] [] A [(d, .imm (.v v))] := by
  refine StepU.value rfl hN fun A' G a w hR S => ?_
  obtain ⟨c, h1, h2⟩ := S.glob _ (glk_mem hg)
  simp only [RepC] at h1
  have e : c = [v] := by rw [h1.1, plain_cells hp]
  subst e
  have hev : a.eval (.global g) = .pointer (some ⟨g, 0, none⟩) := rfl
  refine ⟨v, ?_, valS_imm.2 (rep_p _ _ hp)⟩
  simp only [execOp, Instr.loadAt, Instr.sureAddr, hev, Sem.run_bind, Sem.run_pure, Result.andThen_ok]
  rw [run_loadVar (cs := [v]) hq (by simpa using hn) (fun _ => rfl) (fun j hj => by
    have : j = 0 := by simpa using hj
    subst this; simpa using (h2 0 (by simp)).1)]
  rfl
end
end Go.Al

namespace Go.Proofs
open Go Go.Al
set_option maxRecDepth 10000
set_option maxRecDepth 100000
section
open Go.Extern
theorem ex36 (args : Array Value) (w : World) : (callFunc 36 args).run Tryd.prog w = (((fun args => ReflectliteValue.unpack (args.getD 0 (.tuple #[]))) args).run Tryd.prog w).andThen fun v w' => .ok (.value v) w' := @run_callFunc_extern Tryd.prog 36 _ (fun args => ReflectliteValue.unpack (args.getD 0 (.tuple #[]))) Tryd.func36 (by kernel_rfl) (by kernel_rfl) (by kernel_rfl) (by kernel_rfl) args w
theorem ex37 (args : Array Value) (w : World) : (callFunc 37 args).run Tryd.prog w = (((ReflectliteValue.methodAny (ReflectliteValue.valueError "reflectlite.Value.Type" 0) (fun t _ _ _ => ReflectliteType.toType t)) args).run Tryd.prog w).andThen fun v w' => .ok (.value v) w' := @run_callFunc_extern Tryd.prog 37 _ (ReflectliteValue.methodAny (ReflectliteValue.valueError "reflectlite.Value.Type" 0) (fun t _ _ _ => ReflectliteType.toType t)) Tryd.func37 (by kernel_rfl) (by kernel_rfl) (by kernel_rfl) (by kernel_rfl) args w
theorem ex38 (args : Array Value) (w : World) : (callFunc 38 args).run Tryd.prog w = (((ReflectliteValue.method (ReflectliteValue.valueError "reflectlite.Value.IsNil" 0) ReflectliteValue.isNil) args).run Tryd.prog w).andThen fun v w' => .ok (.value v) w' := @run_callFunc_extern Tryd.prog 38 _ (ReflectliteValue.method (ReflectliteValue.valueError "reflectlite.Value.IsNil" 0) ReflectliteValue.isNil) Tryd.func38 (by kernel_rfl) (by kernel_rfl) (by kernel_rfl) (by kernel_rfl) args w
theorem ex51 (args : Array Value) (w : World) : (callFunc 51 args).run Tryd.prog w = (((ReflectliteValue.method (ReflectliteValue.valueError "reflectlite.Value.Elem" 0) ReflectliteValue.elem) args).run Tryd.prog w).andThen fun v w' => .ok (.value v) w' := @run_callFunc_extern Tryd.prog 51 _ (ReflectliteValue.method (ReflectliteValue.valueError "reflectlite.Value.Elem" 0) ReflectliteValue.elem) Tryd.func51 (by kernel_rfl) (by kernel_rfl) (by kernel_rfl) (by kernel_rfl) args w
theorem ex52 (args : Array Value) (w : World) : (callFunc 52 args).run Tryd.prog w = (((ReflectliteValue.set) args).run Tryd.prog w).andThen fun v w' => .ok (.value v) w' := @run_callFunc_extern Tryd.prog 52 _ (ReflectliteValue.set) Tryd.func52 (by kernel_rfl) (by kernel_rfl) (by kernel_rfl) (by kernel_rfl) args w
theorem ex43 (args : Array Value) (w : World) : (callFunc 43 args).run Tryd.prog w = (((ReflectliteType.typeOf) args).run Tryd.prog w).andThen fun v w' => .ok (.value v) w' := @run_callFunc_extern Tryd.prog 43 _ (ReflectliteType.typeOf) Tryd.func43 (by kernel_rfl) (by kernel_rfl) (by kernel_rfl) (by kernel_rfl) args w
theorem ex127 (args : Array Value) (w : World) : (callFunc 127 args).run Tryd.prog w = (((ReflectliteType.abiMethod fun t => do pure (.int .u8 (← Rtype.kind t))) args).run Tryd.prog w).andThen fun v w' => .ok (.value v) w' := @run_callFunc_extern Tryd.prog 127 _ (ReflectliteType.abiMethod fun t => do pure (.int .u8 (← Rtype.kind t))) Tryd.func127 (by kernel_rfl) (by kernel_rfl) (by kernel_rfl) (by kernel_rfl) args w
theorem ex140 (args : Array Value) (w : World) : (callFunc 140 args).run Tryd.prog w = (((ReflectliteType.method ReflectliteType.elem) args).run Tryd.prog w).andThen fun v w' => .ok (.value v) w' := @run_callFunc_extern Tryd.prog 140 _ (ReflectliteType.method ReflectliteType.elem) Tryd.func140 (by kernel_rfl) (by kernel_rfl) (by kernel_rfl) (by kernel_rfl) args w
theorem ex141 (args : Array Value) (w : World) : (callFunc 141 args).run Tryd.prog w = (((ReflectliteType.relation "Implements" ReflectliteType.implements_) args).run Tryd.prog w).andThen fun v w' => .ok (.value v) w' := @run_callFunc_extern Tryd.prog 141 _ (ReflectliteType.relation "Implements" ReflectliteType.implements_) Tryd.func141 (by kernel_rfl) (by kernel_rfl) (by kernel_rfl) (by kernel_rfl) args w
theorem ex138 (args : Array Value) (w : World) : (callFunc 138 args).run Tryd.prog w = (((ReflectliteType.relation "AssignableTo" ReflectliteType.assignableTo) args).run Tryd.prog w).andThen fun v w' => .ok (.value v) w' := @run_callFunc_extern Tryd.prog 138 _ (ReflectliteType.relation "AssignableTo" ReflectliteType.assignableTo) Tryd.func138 (by kernel_rfl) (by kernel_rfl) (by kernel_rfl) (by kernel_rfl) args w
theorem ex139 (args : Array Value) (w : World) : (callFunc 139 args).run Tryd.prog w = (((ReflectliteType.method fun t => do Rtype.noPackHeld "Comparable" t; pure (.bool (← typeInfo t).comparable)) args).run Tryd.prog w).andThen fun v w' => .ok (.value v) w' := @run_callFunc_extern Tryd.prog 139 _ (ReflectliteType.method fun t => do Rtype.noPackHeld "Comparable" t; pure (.bool (← typeInfo t).comparable)) Tryd.func139 (by kernel_rfl) (by kernel_rfl) (by kernel_rfl) (by kernel_rfl) args w
theorem fV78 (a : Addr) (w : World) : (callFunc 36 #[.iface 78 (.pointer (some a))]).run Tryd.prog w = .ok (.value (.agg #[(.pointer (some ⟨3, 78, none⟩)), .pointer (some ⟨w.heap.size, 0, none⟩), .int .u64 150])) (w.alloc (.cells #[.pointer (some a)] 78)) := by
  have h : (ReflectliteValue.unpack (.iface 78 (.pointer (some a)))).run Tryd.prog w = .ok (.agg #[(.pointer (some ⟨3, 78, none⟩)), .pointer (some ⟨w.heap.size, 0, none⟩), .int .u64 150]) (w.alloc (.cells #[.pointer (some a)] 78)) := by kernel_rfl
  rw [ex36]; exact andV h
theorem fV74 (a : Addr) (w : World) : (callFunc 36 #[.iface 74 (.pointer (some a))]).run Tryd.prog w = .ok (.value (.agg #[(.pointer (some ⟨3, 74, none⟩)), .pointer (some ⟨w.heap.size, 0, none⟩), .int .u64 150])) (w.alloc (.cells #[.pointer (some a)] 74)) := by
  have h : (ReflectliteValue.unpack (.iface 74 (.pointer (some a)))).run Tryd.prog w = .ok (.agg #[(.pointer (some ⟨3, 74, none⟩)), .pointer (some ⟨w.heap.size, 0, none⟩), .int .u64 150]) (w.alloc (.cells #[.pointer (some a)] 74)) := by kernel_rfl
  rw [ex36]; exact andV h
theorem fV77 (a : Addr) (w : World) : (callFunc 36 #[.iface 77 (.pointer (some a))]).run Tryd.prog w = .ok (.value (.agg #[(.pointer (some ⟨3, 77, none⟩)), .pointer (some ⟨w.heap.size, 0, none⟩), .int .u64 150])) (w.alloc (.cells #[.pointer (some a)] 77)) := by
  have h : (ReflectliteValue.unpack (.iface 77 (.pointer (some a)))).run Tryd.prog w = .ok (.agg #[(.pointer (some ⟨3, 77, none⟩)), .pointer (some ⟨w.heap.size, 0, none⟩), .int .u64 150]) (w.alloc (.cells #[.pointer (some a)] 77)) := by kernel_rfl
  rw [ex36]; exact andV h
theorem fV72 (a : Addr) (w : World) : (callFunc 36 #[.iface 72 (.pointer (some a))]).run Tryd.prog w = .ok (.value (.agg #[(.pointer (some ⟨3, 72, none⟩)), .pointer (some ⟨w.heap.size, 0, none⟩), .int .u64 150])) (w.alloc (.cells #[.pointer (some a)] 72)) := by
  have h : (ReflectliteValue.unpack (.iface 72 (.pointer (some a)))).run Tryd.prog w = .ok (.agg #[(.pointer (some ⟨3, 72, none⟩)), .pointer (some ⟨w.heap.size, 0, none⟩), .int .u64 150]) (w.alloc (.cells #[.pointer (some a)] 72)) := by kernel_rfl
  rw [ex36]; exact andV h
theorem rlm (z : Sem Value) (f : TypeId → Addr → Nat → Nat → Sem Value) (v : Value) : ReflectliteValue.method z f #[v] = (do match ← ReflectliteValue.parts v with | none => z | some (t, a, fl) => f t a fl (fl % 32)) := rfl
theorem rls (v x : Value) : ReflectliteValue.set #[v, x] = (do
    let (some (dst, a, fl), some (src, b, _)) := (← ReflectliteValue.parts v, ← ReflectliteValue.parts x)
      | unsupported (.noEntry "extern/(internal/reflectlite.Value).Set.zeroValue")
    if fl / ReflectliteValue.flagAddr % 2 == 0 then unsupported (.noEntry "extern/(internal/reflectlite.Value).Set.unaddressable")
    let val ← loadVar src b
    if ← Rtype.directlyAssignable dst src then storeVar dst a val
    else if ← Rtype.implements dst src then
      if (← Rtype.kind src) == 20 then
        match val with
        | .nilIface => unsupported (.noEntry "extern/reflectlite: a nil value of one interface type handed on as a value of another")
        | _ => storeVar dst a val
      else storeVar dst a (.iface src val)
    else panicString ("reflectlite.Set: value of type " ++ (← Rtype.spelt src) ++ " is not assignable to type " ++ (← Rtype.spelt dst))
    pure (.tuple #[])) := rfl
theorem fT78 (a : Addr) (w : World) : (callFunc 37 #[(.agg #[(.pointer (some ⟨3, 78, none⟩)), .pointer (some a), .int .u64 150])]).run Tryd.prog w = .ok (.value (.iface 110 (.agg #[(.pointer (some ⟨3, 78, none⟩))]))) w := by
  have h : (ReflectliteValue.methodAny (ReflectliteValue.valueError "reflectlite.Value.Type" 0) (fun t _ _ _ => ReflectliteType.toType t) #[(.agg #[(.pointer (some ⟨3, 78, none⟩)), .pointer (some a), .int .u64 150])]).run Tryd.prog w = .ok (.iface 110 (.agg #[(.pointer (some ⟨3, 78, none⟩))])) w := by kernel_rfl
  rw [ex37]; exact andV h
theorem pa78 (a : Addr) (w : World) : (ReflectliteValue.parts (.agg #[(.pointer (some ⟨3, 78, none⟩)), .pointer (some a), .int .u64 150])).run Tryd.prog w = .ok (some (78, a, 150)) w := by kernel_rfl
theorem fN78 (a p : Addr) (w : World) (ha : w.cell? a = some (.pointer (some p))) : (callFunc 38 #[(.agg #[(.pointer (some ⟨3, 78, none⟩)), .pointer (some a), .int .u64 150])]).run Tryd.prog w = .ok (.value (.bool false)) w := by
  have h : (ReflectliteValue.method (ReflectliteValue.valueError "reflectlite.Value.IsNil" 0) ReflectliteValue.isNil #[(.agg #[(.pointer (some ⟨3, 78, none⟩)), .pointer (some a), .int .u64 150])]).run Tryd.prog w = .ok (.bool false) w := by
    rw [rlm]
    simp only [Sem.run_bind, pa78, Result.andThen]
    simp [ReflectliteValue.isNil, loadVar, isAgg, underlying, Tryd.underlying78, ha, Result.andThen]
  rw [ex38]; exact andV h
theorem eo78 (w : World) : (Rtype.elem? 78).run Tryd.prog w = .ok (some 77) w := by kernel_rfl
theorem mk77 (p : Addr) (w : World) : (ReflectliteValue.mk 77 p ReflectliteValue.flagAddr).run Tryd.prog w = .ok (.agg #[(.pointer (some ⟨3, 77, none⟩)), .pointer (some p), .int .u64 406]) w := by kernel_rfl
theorem fE78 (a p : Addr) (w : World) (ha : w.cell? a = some (.pointer (some p))) : (callFunc 51 #[(.agg #[(.pointer (some ⟨3, 78, none⟩)), .pointer (some a), .int .u64 150])]).run Tryd.prog w = .ok (.value (.agg #[(.pointer (some ⟨3, 77, none⟩)), .pointer (some p), .int .u64 406])) w := by
  have h : (ReflectliteValue.method (ReflectliteValue.valueError "reflectlite.Value.Elem" 0) ReflectliteValue.elem #[(.agg #[(.pointer (some ⟨3, 78, none⟩)), .pointer (some a), .int .u64 150])]).run Tryd.prog w = .ok (.agg #[(.pointer (some ⟨3, 77, none⟩)), .pointer (some p), .int .u64 406]) w := by
    rw [rlm]
    simp only [Sem.run_bind, pa78, Result.andThen]
    simp [ReflectliteValue.elem, loadVar, isAgg, underlying, Tryd.underlying78, ha, Result.andThen, eo78, mk77]
  rw [ex51]; exact andV h
theorem pb77 (a : Addr) (w : World) : (ReflectliteValue.parts (.agg #[(.pointer (some ⟨3, 77, none⟩)), .pointer (some a), .int .u64 406])).run Tryd.prog w = .ok (some (77, a, 406)) w := by kernel_rfl
theorem pc77 (a : Addr) (w : World) : (ReflectliteValue.parts (.agg #[(.pointer (some ⟨3, 77, none⟩)), .pointer (some a), .int .u64 150])).run Tryd.prog w = .ok (some (77, a, 150)) w := by kernel_rfl
theorem da77 (w : World) : (Rtype.directlyAssignable 77 77).run Tryd.prog w = .ok true w := by kernel_rfl
theorem fS77 (a b p : Addr) (w w' : World) (hb : w.cell? b = some (.pointer (some p))) (hs : (storeVar 77 a (.pointer (some p))).run Tryd.prog w = .ok () w') : (callFunc 52 #[(.agg #[(.pointer (some ⟨3, 77, none⟩)), .pointer (some a), .int .u64 406]), (.agg #[(.pointer (some ⟨3, 77, none⟩)), .pointer (some b), .int .u64 150])]).run Tryd.prog w = .ok (.value (.tuple #[])) w' := by
  have h : (ReflectliteValue.set #[(.agg #[(.pointer (some ⟨3, 77, none⟩)), .pointer (some a), .int .u64 406]), (.agg #[(.pointer (some ⟨3, 77, none⟩)), .pointer (some b), .int .u64 150])]).run Tryd.prog w = .ok (.tuple #[]) w' := by
    rw [rls]
    simp only [Sem.run_bind, pb77, pc77, Result.andThen]
    simp [ReflectliteValue.flagAddr, loadVar, isAgg, underlying, Tryd.underlying77, hb, Result.andThen, da77, hs]
  rw [ex52]; exact andV h
theorem fT74 (a : Addr) (w : World) : (callFunc 37 #[(.agg #[(.pointer (some ⟨3, 74, none⟩)), .pointer (some a), .int .u64 150])]).run Tryd.prog w = .ok (.value (.iface 110 (.agg #[(.pointer (some ⟨3, 74, none⟩))]))) w := by
  have h : (ReflectliteValue.methodAny (ReflectliteValue.valueError "reflectlite.Value.Type" 0) (fun t _ _ _ => ReflectliteType.toType t) #[(.agg #[(.pointer (some ⟨3, 74, none⟩)), .pointer (some a), .int .u64 150])]).run Tryd.prog w = .ok (.iface 110 (.agg #[(.pointer (some ⟨3, 74, none⟩))])) w := by kernel_rfl
  rw [ex37]; exact andV h
theorem pa74 (a : Addr) (w : World) : (ReflectliteValue.parts (.agg #[(.pointer (some ⟨3, 74, none⟩)), .pointer (some a), .int .u64 150])).run Tryd.prog w = .ok (some (74, a, 150)) w := by kernel_rfl
theorem fN74 (a p : Addr) (w : World) (ha : w.cell? a = some (.pointer (some p))) : (callFunc 38 #[(.agg #[(.pointer (some ⟨3, 74, none⟩)), .pointer (some a), .int .u64 150])]).run Tryd.prog w = .ok (.value (.bool false)) w := by
  have h : (ReflectliteValue.method (ReflectliteValue.valueError "reflectlite.Value.IsNil" 0) ReflectliteValue.isNil #[(.agg #[(.pointer (some ⟨3, 74, none⟩)), .pointer (some a), .int .u64 150])]).run Tryd.prog w = .ok (.bool false) w := by
    rw [rlm]
    simp only [Sem.run_bind, pa74, Result.andThen]
    simp [ReflectliteValue.isNil, loadVar, isAgg, underlying, Tryd.underlying74, ha, Result.andThen]
  rw [ex38]; exact andV h
theorem eo74 (w : World) : (Rtype.elem? 74).run Tryd.prog w = .ok (some 72) w := by kernel_rfl
theorem mk72 (p : Addr) (w : World) : (ReflectliteValue.mk 72 p ReflectliteValue.flagAddr).run Tryd.prog w = .ok (.agg #[(.pointer (some ⟨3, 72, none⟩)), .pointer (some p), .int .u64 406]) w := by kernel_rfl
theorem fE74 (a p : Addr) (w : World) (ha : w.cell? a = some (.pointer (some p))) : (callFunc 51 #[(.agg #[(.pointer (some ⟨3, 74, none⟩)), .pointer (some a), .int .u64 150])]).run Tryd.prog w = .ok (.value (.agg #[(.pointer (some ⟨3, 72, none⟩)), .pointer (some p), .int .u64 406])) w := by
  have h : (ReflectliteValue.method (ReflectliteValue.valueError "reflectlite.Value.Elem" 0) ReflectliteValue.elem #[(.agg #[(.pointer (some ⟨3, 74, none⟩)), .pointer (some a), .int .u64 150])]).run Tryd.prog w = .ok (.agg #[(.pointer (some ⟨3, 72, none⟩)), .pointer (some p), .int .u64 406]) w := by
    rw [rlm]
    simp only [Sem.run_bind, pa74, Result.andThen]
    simp [ReflectliteValue.elem, loadVar, isAgg, underlying, Tryd.underlying74, ha, Result.andThen, eo74, mk72]
  rw [ex51]; exact andV h
theorem pb72 (a : Addr) (w : World) : (ReflectliteValue.parts (.agg #[(.pointer (some ⟨3, 72, none⟩)), .pointer (some a), .int .u64 406])).run Tryd.prog w = .ok (some (72, a, 406)) w := by kernel_rfl
theorem pc72 (a : Addr) (w : World) : (ReflectliteValue.parts (.agg #[(.pointer (some ⟨3, 72, none⟩)), .pointer (some a), .int .u64 150])).run Tryd.prog w = .ok (some (72, a, 150)) w := by kernel_rfl
theorem da72 (w : World) : (Rtype.directlyAssignable 72 72).run Tryd.prog w = .ok true w := by kernel_rfl
theorem fS72 (a b p : Addr) (w w' : World) (hb : w.cell? b = some (.pointer (some p))) (hs : (storeVar 72 a (.pointer (some p))).run Tryd.prog w = .ok () w') : (callFunc 52 #[(.agg #[(.pointer (some ⟨3, 72, none⟩)), .pointer (some a), .int .u64 406]), (.agg #[(.pointer (some ⟨3, 72, none⟩)), .pointer (some b), .int .u64 150])]).run Tryd.prog w = .ok (.value (.tuple #[])) w' := by
  have h : (ReflectliteValue.set #[(.agg #[(.pointer (some ⟨3, 72, none⟩)), .pointer (some a), .int .u64 406]), (.agg #[(.pointer (some ⟨3, 72, none⟩)), .pointer (some b), .int .u64 150])]).run Tryd.prog w = .ok (.tuple #[]) w' := by
    rw [rls]
    simp only [Sem.run_bind, pb72, pc72, Result.andThen]
    simp [ReflectliteValue.flagAddr, loadVar, isAgg, underlying, Tryd.underlying72, hb, Result.andThen, da72, hs]
  rw [ex52]; exact andV h
theorem fK78 (w : World) : (callMethod (.iface 110 (.agg #[(.pointer (some ⟨3, 78, none⟩))])) "Kind" #[]).run Tryd.prog w = .ok (.value (.int .u8 22)) w := by
  have hm : (method (Tryd.prog.types.size + Made.depth) 110 (.agg #[(.pointer (some ⟨3, 78, none⟩))]) "Kind").run Tryd.prog w = .ok (127, (.pointer (some ⟨3, 78, none⟩))) w := by kernel_rfl
  rw [run_callMethod hm, ex127]
  have h : ((ReflectliteType.abiMethod fun t => do pure (.int .u8 (← Rtype.kind t))) #[(.pointer (some ⟨3, 78, none⟩))]).run Tryd.prog w = .ok (.int .u8 22) w := by kernel_rfl
  exact andV h
theorem fK77 (w : World) : (callMethod (.iface 110 (.agg #[(.pointer (some ⟨3, 77, none⟩))])) "Kind" #[]).run Tryd.prog w = .ok (.value (.int .u8 22)) w := by
  have hm : (method (Tryd.prog.types.size + Made.depth) 110 (.agg #[(.pointer (some ⟨3, 77, none⟩))]) "Kind").run Tryd.prog w = .ok (127, (.pointer (some ⟨3, 77, none⟩))) w := by kernel_rfl
  rw [run_callMethod hm, ex127]
  have h : ((ReflectliteType.abiMethod fun t => do pure (.int .u8 (← Rtype.kind t))) #[(.pointer (some ⟨3, 77, none⟩))]).run Tryd.prog w = .ok (.int .u8 22) w := by kernel_rfl
  exact andV h
theorem fK74 (w : World) : (callMethod (.iface 110 (.agg #[(.pointer (some ⟨3, 74, none⟩))])) "Kind" #[]).run Tryd.prog w = .ok (.value (.int .u8 22)) w := by
  have hm : (method (Tryd.prog.types.size + Made.depth) 110 (.agg #[(.pointer (some ⟨3, 74, none⟩))]) "Kind").run Tryd.prog w = .ok (127, (.pointer (some ⟨3, 74, none⟩))) w := by kernel_rfl
  rw [run_callMethod hm, ex127]
  have h : ((ReflectliteType.abiMethod fun t => do pure (.int .u8 (← Rtype.kind t))) #[(.pointer (some ⟨3, 74, none⟩))]).run Tryd.prog w = .ok (.int .u8 22) w := by kernel_rfl
  exact andV h
theorem fK72 (w : World) : (callMethod (.iface 110 (.agg #[(.pointer (some ⟨3, 72, none⟩))])) "Kind" #[]).run Tryd.prog w = .ok (.value (.int .u8 22)) w := by
  have hm : (method (Tryd.prog.types.size + Made.depth) 110 (.agg #[(.pointer (some ⟨3, 72, none⟩))]) "Kind").run Tryd.prog w = .ok (127, (.pointer (some ⟨3, 72, none⟩))) w := by kernel_rfl
  rw [run_callMethod hm, ex127]
  have h : ((ReflectliteType.abiMethod fun t => do pure (.int .u8 (← Rtype.kind t))) #[(.pointer (some ⟨3, 72, none⟩))]).run Tryd.prog w = .ok (.int .u8 22) w := by kernel_rfl
  exact andV h
theorem fL78 (w : World) : (callMethod (.iface 110 (.agg #[(.pointer (some ⟨3, 78, none⟩))])) "Elem" #[]).run Tryd.prog w = .ok (.value (.iface 110 (.agg #[(.pointer (some ⟨3, 77, none⟩))]))) w := by
  have hm : (method (Tryd.prog.types.size + Made.depth) 110 (.agg #[(.pointer (some ⟨3, 78, none⟩))]) "Elem").run Tryd.prog w = .ok (140, (.agg #[(.pointer (some ⟨3, 78, none⟩))])) w := by kernel_rfl
  rw [run_callMethod hm, ex140]
  have h : ((ReflectliteType.method ReflectliteType.elem) #[(.agg #[(.pointer (some ⟨3, 78, none⟩))])]).run Tryd.prog w = .ok (.iface 110 (.agg #[(.pointer (some ⟨3, 77, none⟩))])) w := by kernel_rfl
  exact andV h
theorem fI77 (w : World) : (callMethod (.iface 110 (.agg #[(.pointer (some ⟨3, 77, none⟩))])) "Implements" #[(.iface 110 (.agg #[(.pointer (some ⟨3, 31, none⟩))]))]).run Tryd.prog w = .ok (.value (.bool true)) w := by
  have hm : (method (Tryd.prog.types.size + Made.depth) 110 (.agg #[(.pointer (some ⟨3, 77, none⟩))]) "Implements").run Tryd.prog w = .ok (141, (.agg #[(.pointer (some ⟨3, 77, none⟩))])) w := by kernel_rfl
  rw [run_callMethod hm, ex141]
  have h : ((ReflectliteType.relation "Implements" ReflectliteType.implements_) #[(.agg #[(.pointer (some ⟨3, 77, none⟩))]), (.iface 110 (.agg #[(.pointer (some ⟨3, 31, none⟩))]))]).run Tryd.prog w = .ok (.bool true) w := by kernel_rfl
  exact andV h
theorem fO77 (v : Value) (w : World) : (callFunc 43 #[.iface 77 v]).run Tryd.prog w = .ok (.value (.iface 110 (.agg #[(.pointer (some ⟨3, 77, none⟩))]))) w := by
  have h : (ReflectliteType.typeOf #[.iface 77 v]).run Tryd.prog w = .ok (.iface 110 (.agg #[(.pointer (some ⟨3, 77, none⟩))])) w := by kernel_rfl
  rw [ex43]; exact andV h
theorem fA77_77 (w : World) : (callMethod (.iface 110 (.agg #[(.pointer (some ⟨3, 77, none⟩))])) "AssignableTo" #[(.iface 110 (.agg #[(.pointer (some ⟨3, 77, none⟩))]))]).run Tryd.prog w = .ok (.value (.bool true)) w := by
  have hm : (method (Tryd.prog.types.size + Made.depth) 110 (.agg #[(.pointer (some ⟨3, 77, none⟩))]) "AssignableTo").run Tryd.prog w = .ok (138, (.agg #[(.pointer (some ⟨3, 77, none⟩))])) w := by kernel_rfl
  rw [run_callMethod hm, ex138]
  have h : ((ReflectliteType.relation "AssignableTo" ReflectliteType.assignableTo) #[(.agg #[(.pointer (some ⟨3, 77, none⟩))]), (.iface 110 (.agg #[(.pointer (some ⟨3, 77, none⟩))]))]).run Tryd.prog w = .ok (.bool true) w := by kernel_rfl
  exact andV h
theorem fA77_72 (w : World) : (callMethod (.iface 110 (.agg #[(.pointer (some ⟨3, 77, none⟩))])) "AssignableTo" #[(.iface 110 (.agg #[(.pointer (some ⟨3, 72, none⟩))]))]).run Tryd.prog w = .ok (.value (.bool false)) w := by
  have hm : (method (Tryd.prog.types.size + Made.depth) 110 (.agg #[(.pointer (some ⟨3, 77, none⟩))]) "AssignableTo").run Tryd.prog w = .ok (138, (.agg #[(.pointer (some ⟨3, 77, none⟩))])) w := by kernel_rfl
  rw [run_callMethod hm, ex138]
  have h : ((ReflectliteType.relation "AssignableTo" ReflectliteType.assignableTo) #[(.agg #[(.pointer (some ⟨3, 77, none⟩))]), (.iface 110 (.agg #[(.pointer (some ⟨3, 72, none⟩))]))]).run Tryd.prog w = .ok (.bool false) w := by kernel_rfl
  exact andV h
theorem fL74 (w : World) : (callMethod (.iface 110 (.agg #[(.pointer (some ⟨3, 74, none⟩))])) "Elem" #[]).run Tryd.prog w = .ok (.value (.iface 110 (.agg #[(.pointer (some ⟨3, 72, none⟩))]))) w := by
  have hm : (method (Tryd.prog.types.size + Made.depth) 110 (.agg #[(.pointer (some ⟨3, 74, none⟩))]) "Elem").run Tryd.prog w = .ok (140, (.agg #[(.pointer (some ⟨3, 74, none⟩))])) w := by kernel_rfl
  rw [run_callMethod hm, ex140]
  have h : ((ReflectliteType.method ReflectliteType.elem) #[(.agg #[(.pointer (some ⟨3, 74, none⟩))])]).run Tryd.prog w = .ok (.iface 110 (.agg #[(.pointer (some ⟨3, 72, none⟩))])) w := by kernel_rfl
  exact andV h
theorem fI72 (w : World) : (callMethod (.iface 110 (.agg #[(.pointer (some ⟨3, 72, none⟩))])) "Implements" #[(.iface 110 (.agg #[(.pointer (some ⟨3, 31, none⟩))]))]).run Tryd.prog w = .ok (.value (.bool true)) w := by
  have hm : (method (Tryd.prog.types.size + Made.depth) 110 (.agg #[(.pointer (some ⟨3, 72, none⟩))]) "Implements").run Tryd.prog w = .ok (141, (.agg #[(.pointer (some ⟨3, 72, none⟩))])) w := by kernel_rfl
  rw [run_callMethod hm, ex141]
  have h : ((ReflectliteType.relation "Implements" ReflectliteType.implements_) #[(.agg #[(.pointer (some ⟨3, 72, none⟩))]), (.iface 110 (.agg #[(.pointer (some ⟨3, 31, none⟩))]))]).run Tryd.prog w = .ok (.bool true) w := by kernel_rfl
  exact andV h
theorem fO72 (v : Value) (w : World) : (callFunc 43 #[.iface 72 v]).run Tryd.prog w = .ok (.value (.iface 110 (.agg #[(.pointer (some ⟨3, 72, none⟩))]))) w := by
  have h : (ReflectliteType.typeOf #[.iface 72 v]).run Tryd.prog w = .ok (.iface 110 (.agg #[(.pointer (some ⟨3, 72, none⟩))])) w := by kernel_rfl
  rw [ex43]; exact andV h
theorem fA72_77 (w : World) : (callMethod (.iface 110 (.agg #[(.pointer (some ⟨3, 72, none⟩))])) "AssignableTo" #[(.iface 110 (.agg #[(.pointer (some ⟨3, 77, none⟩))]))]).run Tryd.prog w = .ok (.value (.bool false)) w := by
  have hm : (method (Tryd.prog.types.size + Made.depth) 110 (.agg #[(.pointer (some ⟨3, 72, none⟩))]) "AssignableTo").run Tryd.prog w = .ok (138, (.agg #[(.pointer (some ⟨3, 72, none⟩))])) w := by kernel_rfl
  rw [run_callMethod hm, ex138]
  have h : ((ReflectliteType.relation "AssignableTo" ReflectliteType.assignableTo) #[(.agg #[(.pointer (some ⟨3, 72, none⟩))]), (.iface 110 (.agg #[(.pointer (some ⟨3, 77, none⟩))]))]).run Tryd.prog w = .ok (.bool false) w := by kernel_rfl
  exact andV h
theorem fA72_72 (w : World) : (callMethod (.iface 110 (.agg #[(.pointer (some ⟨3, 72, none⟩))])) "AssignableTo" #[(.iface 110 (.agg #[(.pointer (some ⟨3, 72, none⟩))]))]).run Tryd.prog w = .ok (.value (.bool true)) w := by
  have hm : (method (Tryd.prog.types.size + Made.depth) 110 (.agg #[(.pointer (some ⟨3, 72, none⟩))]) "AssignableTo").run Tryd.prog w = .ok (138, (.agg #[(.pointer (some ⟨3, 72, none⟩))])) w := by kernel_rfl
  rw [run_callMethod hm, ex138]
  have h : ((ReflectliteType.relation "AssignableTo" ReflectliteType.assignableTo) #[(.agg #[(.pointer (some ⟨3, 72, none⟩))]), (.iface 110 (.agg #[(.pointer (some ⟨3, 72, none⟩))]))]).run Tryd.prog w = .ok (.bool true) w := by kernel_rfl
  exact andV h
theorem fC77 (w : World) : (callMethod (.iface 110 (.agg #[(.pointer (some ⟨3, 77, none⟩))])) "Comparable" #[]).run Tryd.prog w = .ok (.value (.bool true)) w := by
  have hm : (method (Tryd.prog.types.size + Made.depth) 110 (.agg #[(.pointer (some ⟨3, 77, none⟩))]) "Comparable").run Tryd.prog w = .ok (139, (.agg #[(.pointer (some ⟨3, 77, none⟩))])) w := by kernel_rfl
  rw [run_callMethod hm, ex139]
  have h : ((ReflectliteType.method fun t => do Rtype.noPackHeld "Comparable" t; pure (.bool (← typeInfo t).comparable)) #[(.agg #[(.pointer (some ⟨3, 77, none⟩))])]).run Tryd.prog w = .ok (.bool true) w := by kernel_rfl
  exact andV h
theorem hs77_114 (u : Value) (w : World) : (Instr.typeAssert (.iface 77 u) 31 114 true).run Tryd.prog w = .ok (.tuple #[.nilIface, .bool false]) w := run_typeAssert_lacksB Tryd.underlying114 (by kernel_rfl) (by kernel_rfl) u 31 w
theorem hs77_117 (u : Value) (w : World) : (Instr.typeAssert (.iface 77 u) 31 117 true).run Tryd.prog w = .ok (.tuple #[.nilIface, .bool false]) w := run_typeAssert_lacksB Tryd.underlying117 (by kernel_rfl) (by kernel_rfl) u 31 w
theorem hs77_119 (u : Value) (w : World) : (Instr.typeAssert (.iface 77 u) 31 119 true).run Tryd.prog w = .ok (.tuple #[.nilIface, .bool false]) w := run_typeAssert_lacksB Tryd.underlying119 (by kernel_rfl) (by kernel_rfl) u 31 w
theorem hs77_123 (u : Value) (w : World) : (Instr.typeAssert (.iface 77 u) 31 123 true).run Tryd.prog w = .ok (.tuple #[.iface 77 u, .bool true]) w := run_typeAssert_hasB Tryd.underlying123 (by kernel_rfl) u 31 w
theorem hs72_114 (u : Value) (w : World) : (Instr.typeAssert (.iface 72 u) 31 114 true).run Tryd.prog w = .ok (.tuple #[.nilIface, .bool false]) w := run_typeAssert_lacksB Tryd.underlying114 (by kernel_rfl) (by kernel_rfl) u 31 w
theorem hs72_117 (u : Value) (w : World) : (Instr.typeAssert (.iface 72 u) 31 117 true).run Tryd.prog w = .ok (.tuple #[.iface 72 u, .bool true]) w := run_typeAssert_hasB Tryd.underlying117 (by kernel_rfl) u 31 w
theorem hs72_123 (u : Value) (w : World) : (Instr.typeAssert (.iface 72 u) 31 123 true).run Tryd.prog w = .ok (.tuple #[.nilIface, .bool false]) w := run_typeAssert_lacksB Tryd.underlying123 (by kernel_rfl) (by kernel_rfl) u 31 w
theorem mu72 (w : World) (v : Value) : (method (Tryd.prog.types.size + Made.depth) 72 v "Unwrap").run Tryd.prog w = .ok (131, v) w := by kernel_rfl
theorem mi77 (w : World) (v : Value) : (method (Tryd.prog.types.size + Made.depth) 77 v "Is").run Tryd.prog w = .ok (133, v) w := by kernel_rfl
theorem pi77 : ∃ i j, Tryd.prog.info? 77 = some i ∧ i.comparable = true ∧ Tryd.prog.info? 80 = some j ∧ j.size ≠ 0 := by
  have h : ((Tryd.prog.info? 77).map (·.comparable)) = some true := by kernel_rfl
  have k : ((Tryd.prog.info? 80).map (fun j => Nat.beq j.size 0)) = some false := by kernel_rfl
  obtain ⟨i, hi, h2⟩ := Option.map_eq_some_iff.1 h
  obtain ⟨j, hj, k2⟩ := Option.map_eq_some_iff.1 k
  exact ⟨i, j, hi, h2, hj, fun e => by rw [e] at k2; cases k2⟩
end
end Go.Proofs

namespace Go.Proofs
open Go Go.Al

/-! ### Values under keys, as plain data -/

mutual
inductive GV where
  | mk (kind : Int) (text : ByteArray) (num bits : Int) (list : List GV) (map : List GA)
inductive GA where
  | mk (key : ByteArray) (val : GV)
end

def GV.kind : GV → Int | .mk k _ _ _ _ _ => k
def GV.text : GV → ByteArray | .mk _ t _ _ _ _ => t
def GV.num : GV → Int | .mk _ _ n _ _ _ => n
def GV.bits : GV → Int | .mk _ _ _ b _ _ => b
def GV.list : GV → List GV | .mk _ _ _ _ l _ => l
def GV.map : GV → List GA | .mk _ _ _ _ _ m => m
def GA.key : GA → ByteArray | .mk k _ => k
def GA.val : GA → GV | .mk _ v => v

mutual
def avV : GV → AV
  | .mk k t n b l m => .agg [cv k, sv t, iv n, uv b, .sl 6 (avVs l), .sl 7 (avAs m)]
def avVs : List GV → List AV
  | [] => []
  | x :: xs => avV x :: avVs xs
def avA : GA → AV
  | .mk k v => .agg [sv k, avV v]
def avAs : List GA → List AV
  | [] => []
  | x :: xs => avA x :: avAs xs
end
def GV.av (g : GV) : AV := .agg [cv g.kind, sv g.text, iv g.num, uv g.bits, .sl 6 (g.list.map avV), .sl 7 (g.map.map avA)]
def GA.av (a : GA) : AV := .agg [sv a.key, a.val.av]
/-! #### Sizes -/
/-! #### What may be at all: numbers within their kinds, texts that there can be -/
mutual
def GV.ok : GV → Prop
  | .mk k t n b l m => (0 ≤ k ∧ k < 256) ∧ t.size ≤ maxLen ∧ (-9223372036854775808 ≤ n ∧ n < 9223372036854775808) ∧ (0 ≤ b ∧ b < 18446744073709551616) ∧ okVs l ∧ okAs m
def okVs : List GV → Prop
  | [] => True
  | x :: xs => GV.ok x ∧ okVs xs
def GA.ok : GA → Prop
  | .mk k v => k.size ≤ maxLen ∧ GV.ok v
def okAs : List GA → Prop
  | [] => True
  | x :: xs => GA.ok x ∧ okAs xs
end
/-! ### Bytes -/

abbrev Bs := List UInt8

def be : Nat → Nat → Bs
  | 0, _ => []
  | n + 1, u => be n (u / 256) ++ [UInt8.ofNat (u % 256)]
def natF : Nat → Nat → Bs
  | 0, _ => []
  | f + 1, n => if n < 10 then [UInt8.ofNat (48 + n)] else natF f (n / 10) ++ [UInt8.ofNat (48 + n % 10)]
def natB (n : Nat) : Bs := natF 20 n
def decB (n : Int) : Bs := if n < 0 then 45 :: natB (-n).toNat else natB n.toNat

theorem natF_length : ∀ f n, (natF f n).length ≤ f
  | 0, _ => Nat.le_refl _
  | f + 1, n => by
    rw [natF]
    split
    · simp
    · have := natF_length f (n / 10); simp; omega
theorem decB_length (n : Int) : (decB n).length ≤ 21 := by
  unfold decB natB
  split
  · have := natF_length 20 (-n).toNat; simp; omega
  · have := natF_length 20 n.toNat; omega
theorem natF_more : ∀ f n, n < 10 ^ f → 0 < f → natF (f + 1) n = natF f n
  | 0, _, _, h => by omega
  | f + 1, n, h, _ => by
    rw [natF]
    conv => rhs; rw [natF]
    split
    · rfl
    · rename_i hn
      rcases Nat.eq_zero_or_pos f with rfl | hf
      · simp at h; omega
      · rw [natF_more f (n / 10) (by rw [Nat.pow_succ] at h; omega) hf]

def lst (s : ByteArray) : Bs := s.data.toList
theorem lst_len (s : ByteArray) : (lst s).length = s.size := by simp [lst]
theorem lst_strOf (l : Bs) : lst (strOf l) = l := strOf_list l
theorem strOf_lst (s : ByteArray) : strOf (lst s) = s := strOf_data s
theorem strOf_append (a b : Bs) : strOf a ++ strOf b = strOf (a ++ b) := by
  apply str_ext
  rw [ByteArray.data_append]
  simp [strOf]

/-! ### Texts of values -/

end Go.Proofs

namespace Go.Proofs
open Go Go.Al

/-! ### Events, links, spans, scopes, resources, batches -/

structure GE where
  time : Int
  name : ByteArray
  attrs : List GA
structure GL where
  trace : Bs
  span : Bs
  state : ByteArray
  attrs : List GA
structure GSpan where
  trace : Bs
  id : Bs
  parent : Bs
  state : ByteArray
  name : ByteArray
  kind : Int
  start : Int
  fin : Int
  attrs : List GA
  events : List GE
  links : List GL
  code : Int
  note : ByteArray
structure GScope where
  name : ByteArray
  version : ByteArray
  spans : List GSpan
structure GRes where
  attrs : List GA
  scopes : List GScope

def GE.av (e : GE) : AV := .agg [uv e.time, sv e.name, .sl 7 (e.attrs.map avA)]
def GL.av (e : GL) : AV := .agg [.arr 16 e.trace, .arr 8 e.span, sv e.state, .sl 7 (e.attrs.map avA)]
def GSpan.av (s : GSpan) : AV := .agg [.arr 16 s.trace, .arr 8 s.id, .arr 8 s.parent, sv s.state, sv s.name, iv s.kind, uv s.start, uv s.fin, .sl 7 (s.attrs.map avA), .sl 3 (s.events.map GE.av), .sl 26 (s.links.map GL.av), .agg [iv s.code, sv s.note]]
def GScope.av (s : GScope) : AV := .agg [sv s.name, sv s.version, .sl 42 (s.spans.map GSpan.av)]
def GRes.av (r : GRes) : AV := .agg [.sl 7 (r.attrs.map avA), .sl 3 (r.scopes.map GScope.av)]
def u64 (n : Int) : Prop := 0 ≤ n ∧ n < 18446744073709551616
def i64 (n : Int) : Prop := -9223372036854775808 ≤ n ∧ n < 9223372036854775808
def GE.ok (e : GE) : Prop := u64 e.time ∧ e.name.size ≤ maxLen ∧ ∀ a ∈ e.attrs, a.ok
def GL.ok (e : GL) : Prop := e.trace.length = 16 ∧ e.span.length = 8 ∧ e.state.size ≤ maxLen ∧ ∀ a ∈ e.attrs, a.ok
def GSpan.ok (s : GSpan) : Prop := (s.trace.length = 16 ∧ s.id.length = 8 ∧ s.parent.length = 8) ∧ (s.state.size ≤ maxLen ∧ s.name.size ≤ maxLen ∧ s.note.size ≤ maxLen) ∧ (i64 s.kind ∧ u64 s.start ∧ u64 s.fin ∧ i64 s.code) ∧ (∀ a ∈ s.attrs, a.ok) ∧ (∀ e ∈ s.events, e.ok) ∧ ∀ e ∈ s.links, e.ok
def GScope.ok (s : GScope) : Prop := s.name.size ≤ maxLen ∧ s.version.size ≤ maxLen ∧ ∀ x ∈ s.spans, x.ok
def GRes.ok (r : GRes) : Prop := (∀ a ∈ r.attrs, a.ok) ∧ ∀ s ∈ r.scopes, s.ok
/-! ### What is left of a room -/
/-! ### Order of keys, own forms -/
/-! ### Sameness -/

end Go.Proofs

namespace Go.Proofs
open Go Go.Al

/-! The functions of package utf and of its reference, in plain Lean. -/
def lengthM (c : Int) : Int := if c < 128 then 1 else if c < 194 then 0 else if c < 224 then 2 else if c < 240 then 3 else if c < 245 then 4 else 0
def leastM (k : Int) : Int := if k = 2 then 128 else if k = 3 then 2048 else if k = 4 then 65536 else 0
def isM (r : Int) : Bool := decide ((r ≥ 0 ∧ r < 55296) ∨ (r ≥ 57344 ∧ r < 1114112))
def stepM (r b : Int) : Int := bitsOf (· ||| ·) .i32 (IntKind.i32.wrap (r * 2 ^ (min (6 : Int).toNat (IntKind.bits .i32)))) (IntKind.i32.wrap (bitsOf (· &&& ·) .u8 b 63))
def r0M (c k : Int) : Int := bitsOf (· &&& ·) .i32 (IntKind.i32.wrap c) ((127 : Int).fdiv (2 ^ (min k.toNat (IntKind.bits .i32))))
def badM (b : Int) : Bool := bitsOf (· &&& ·) .u8 b 192 != 128
def runeLoop (s : ByteArray) (p : Int) : Nat → Int → Int → Option Int
  | 0, _, r => some r
  | n + 1, i, r => if badM (bAt s (p + i)) = true then none else runeLoop s p n (i + 1) (stepM r (bAt s (p + i)))
def runeM (s : ByteArray) (p : Int) : Int × Int :=
  if p < 0 ∨ p ≥ s.size then (0, 0) else
  if lengthM (bAt s p) = 0 ∨ lengthM (bAt s p) > s.size - p then (0, 0) else
  if lengthM (bAt s p) = 1 then (IntKind.i32.wrap (bAt s p), 1) else
  match runeLoop s p (lengthM (bAt s p) - 1).toNat 1 (r0M (bAt s p) (lengthM (bAt s p))) with
  | none => (0, 0)
  | some r => if r < leastM (lengthM (bAt s p)) ∨ isM r = false then (0, 0) else (r, lengthM (bAt s p))

def fM (s : ByteArray) (p : Int) : Int := (runeM s p).2
end Go.Proofs
namespace Go.Proofs
open Go Go.Al
theorem lengthM_range (c : Int) : 0 ≤ lengthM c ∧ lengthM c ≤ 4 := by
  unfold lengthM
  (repeat' split)
  all_goals omega
end Go.Proofs
namespace Go.Proofs
open Go Go.Al
end Go.Proofs
namespace Go.Proofs
open Go Go.Al
/-- A decoder: how long is what begins at a place, if anything does. -/
def Dec (f : Int → Int) (n : Nat) : Prop := ∀ p : Int, 0 ≤ p → p < n → f p = 0 ∨ (1 ≤ f p ∧ p + f p ≤ n)
theorem dec_fM (s : ByteArray) : Dec (fM s) s.size := by
  intro p h0 h1
  unfold fM runeM
  have := lengthM_range (bAt s p)
  (repeat' split)
  all_goals (dsimp only; omega)
end Go.Proofs
namespace Go.Proofs
open Go Go.Al
theorem bytesL_len (l : List UInt8) : (bytesL l).length = l.length := by simp [bytesL]
end Go.Proofs

namespace Go.Proofs
open Go Go.Al

/-! ### Bits -/
def isC (b : Int) : Prop := 128 ≤ b ∧ b < 192
end Go.Proofs

namespace Go.Proofs
open Go Go.Al

instance (b : Int) : Decidable (isC b) := by unfold isC; infer_instance
def r3 (b0 b1 b2 : Int) : Int := 64 * (64 * (b0 - 224) + (b1 - 128)) + (b2 - 128)
def r4 (b0 b1 b2 b3 : Int) : Int := 64 * (64 * (64 * (b0 - 240) + (b1 - 128)) + (b2 - 128)) + (b3 - 128)
def ok2 (n b0 b1 : Int) : Prop := 194 ≤ b0 ∧ b0 < 224 ∧ 2 ≤ n ∧ isC b1
def ok3 (n b0 b1 b2 : Int) : Prop := 224 ≤ b0 ∧ b0 < 240 ∧ 3 ≤ n ∧ isC b1 ∧ isC b2 ∧ 2048 ≤ r3 b0 b1 b2 ∧ (r3 b0 b1 b2 < 55296 ∨ 57344 ≤ r3 b0 b1 b2)
def ok4 (n b0 b1 b2 b3 : Int) : Prop := 240 ≤ b0 ∧ b0 < 245 ∧ 4 ≤ n ∧ isC b1 ∧ isC b2 ∧ isC b3 ∧ 65536 ≤ r4 b0 b1 b2 b3 ∧ r4 b0 b1 b2 b3 < 1114112
instance (n b0 b1 : Int) : Decidable (ok2 n b0 b1) := by unfold ok2; infer_instance
instance (n b0 b1 b2 : Int) : Decidable (ok3 n b0 b1 b2) := by unfold ok3; infer_instance
instance (n b0 b1 b2 b3 : Int) : Decidable (ok4 n b0 b1 b2 b3) := by unfold ok4; infer_instance
theorem rune_neg (s : ByteArray) (p : Int) (h : p < 0 ∨ s.size ≤ p) : runeM s p = (0, 0) := by unfold runeM; rw [if_pos (by omega)]
end Go.Proofs

namespace Go.Proofs
open Go Go.Al

end Go.Proofs

namespace Go.Proofs
open Go Go.Al

end Go.Proofs

namespace Go.Proofs
open Go Go.Al

/-! ### Texts of characters -/
theorem f_out (s : ByteArray) (p : Int) (h : p < 0 ∨ s.size ≤ p) : fM s p = 0 := by unfold fM; rw [rune_neg s p h]
theorem f_pos (s : ByteArray) (p : Int) (h : fM s p ≠ 0) : 0 ≤ p ∧ p < s.size ∧ 1 ≤ fM s p ∧ p + fM s p ≤ s.size := by
  by_cases hp : p < 0 ∨ s.size ≤ p
  · exact absurd (f_out s p hp) h
  · have := dec_fM s p (by omega) (by omega)
    omega

/-- From one place to another, by characters. -/
inductive Path (f : Int → Int) : Int → Int → Int → Prop
  | refl (p : Int) : Path f p p 0
  | step {p q c : Int} (h : f p ≠ 0) (k : Path f (p + f p) q c) : Path f p q (c + 1)

theorem Path.trans {f : Int → Int} {p q r c d : Int} (h : Path f p q c) (k : Path f q r d) : Path f p r (c + d) := by
  induction h with
  | refl => rw [Int.zero_add]; exact k
  | @step p q c h _ ih => have := Path.step h (ih k); rw [show c + 1 + d = c + d + 1 by omega]; exact this
theorem Path.first {f : Int → Int} {p q c : Int} (h : Path f p q c) (hn : p ≠ q) : f p ≠ 0 ∧ ∃ d, Path f (p + f p) q d := by
  cases h with
  | refl => exact absurd rfl hn
  | step h k => exact ⟨h, _, k⟩

/-! ### Fronts -/
/-! ### Cut -/
theorem path_le {s : ByteArray} {p q c : Int} (h : Path (fM s) p q c) : p ≤ q ∧ 0 ≤ c := by
  induction h with
  | refl => exact ⟨Int.le_refl _, Int.le_refl _⟩
  | step h _ ih => have := f_pos s _ h; omega

theorem Path.comp {s : ByteArray} {p q r c d : Int} (h : Path (fM s) p q c) (k : Path (fM s) p r d) (hle : q ≤ r) : ∃ e, Path (fM s) q r e := by
  induction h generalizing d with
  | refl p => exact ⟨d, k⟩
  | step h k' ih =>
    cases k with
    | refl => have := f_pos s _ h; have := path_le k'; omega
    | step _ k => exact ih k hle

end Go.Proofs

namespace Go.Proofs
open Go Go.Al

theorem app_size (s t : ByteArray) : (s ++ t).size = s.size + t.size := ByteArray.size_append
/-! ### Back -/
end Go.Proofs

namespace Go.Proofs
open Go Go.Al

/-! ### Whether values may be -/


/-! ### Attributes -/

/-! ### Spans -/

/-! ### Weights -/
end Go.Proofs

namespace Go.Proofs
open Go Go.Al

/-! ### The order of texts -/
/-! ### Keys that rise -/
/-! ### Own forms are no greater, and may be wherever they were -/
end Go.Proofs

namespace Go.Proofs
open Go Go.Al

/-! ### Digits and bytes, as the walks meet them -/
def digs10 : ByteArray := ⟨#[48, 49, 50, 51, 52, 53, 54, 55, 56, 57]⟩

theorem bAt_nat (s : ByteArray) (i : Nat) (h : i < s.size) : ∃ c : UInt8, (lst s)[i]? = some c ∧ bAt s (i : Int) = c.toNat := by
  have hl : i < (lst s).length := by rw [lst_len]; exact h
  refine ⟨(lst s)[i], List.getElem?_eq_getElem hl, ?_⟩
  unfold bAt
  show (((lst s).getD (Int.toNat (i : Int)) 0).toNat : Int) = _
  rw [Int.toNat_natCast, List.getD_eq_getElem?_getD, List.getElem?_eq_getElem hl]
  rfl
theorem take_snoc {α : Type} {l : List α} {i : Nat} {c : α} (h : l[i]? = some c) : l.take (i + 1) = l.take i ++ [c] := by
  rw [List.take_add_one, h]; rfl
/-! #### Whole numbers -/
theorem tdiv_pos (n : Int) (k : Int) (h : 0 ≤ n) (hk : 0 < k) : n.tdiv k = n / k := Int.tdiv_eq_ediv_of_nonneg h
theorem tmod_pos (n : Int) (k : Int) (h : 0 ≤ n) : n.tmod k = n % k := Int.tmod_eq_emod_of_nonneg h

theorem natF_stop {i : Nat} {u : Int} (h0 : 0 ≤ u) (h : u < 10) : natF (i + 1) u.toNat = [UInt8.ofNat (48 + (u % 10).toNat)] := by
  rw [natF, if_pos (by omega)]
  rw [show u.toNat = (u % 10).toNat by omega]
theorem natF_step {i : Nat} {u : Int} (h0 : 0 ≤ u) (h : 10 ≤ u) : natF (i + 1) u.toNat = natF i (u / 10).toNat ++ [UInt8.ofNat (48 + (u % 10).toNat)] := by
  rw [natF, if_neg (by omega)]
  rw [show u.toNat / 10 = (u / 10).toNat by omega, show u.toNat % 10 = (u % 10).toNat by omega]
theorem dig_av {u : Int} (h0 : 0 ≤ u) : ofI (IntKind.u8.wrap (48 + IntKind.u8.wrap (u % 10))) = UInt8.ofNat (48 + (u % 10).toNat) := by
  rw [wrap8 (n := u % 10) (by omega) (by omega), wrap8 (by omega) (by omega)]
  unfold ofI
  congr 1
  omega
theorem set_drop {l : Bs} {i : Nat} {c : UInt8} (h : i < l.length) : (l.set i c).drop i = c :: l.drop (i + 1) := by
  rw [List.drop_eq_getElem_cons (by simpa using h), List.getElem_set_self, List.drop_set_of_lt (by omega)]

theorem natB_one {u : Int} (h0 : 0 ≤ u) (h : u < 10) : natB u.toNat = [UInt8.ofNat (48 + (u % 10).toNat)] := natF_stop h0 h
theorem natB_more {u : Int} (h0 : 10 ≤ u) (h : u < 18446744073709551616) : natB u.toNat = natB (u / 10).toNat ++ [UInt8.ofNat (48 + (u % 10).toNat)] := by
  unfold natB
  rw [natF_step (i := 19) (by omega) h0]
  congr 1
  have : (u / 10).toNat < 10 ^ 19 := by omega
  exact (natF_more 19 _ this (by omega)).symm

/-! #### Eight bytes, the highest first -/
/-! #### Escapes -/
/-! #### The references' ways -/
theorem lst_digs10 (n : Nat) (h : n < 10) : lst (digs10.extract n (n + 1)) = [UInt8.ofNat (48 + n)] := by
  have key : ∀ k : Fin 10, lst (digs10.extract k.val (k.val + 1)) = [UInt8.ofNat (48 + k.val)] := by decide
  exact key ⟨n, h⟩
theorem lst_inj {s t : ByteArray} (h : lst s = lst t) : s = t := str_ext h
theorem strOf_eq {s : ByteArray} {l : Bs} (h : lst s = l) : s = strOf l := lst_inj (by rw [h, lst_strOf])
/-- One digit, by its slice. -/
theorem dig10 (u : Int) (h : 0 ≤ u) : digs10.extract (u.tmod 10).toNat (IntKind.u64.wrap (u.tmod 10 + 1)).toNat = strOf [UInt8.ofNat (48 + (u % 10).toNat)] := by
  rw [tmod_pos u 10 h, wrapu64 (by omega) (by omega)]
  refine strOf_eq ?_
  rw [show (u % 10 + 1).toNat = (u % 10).toNat + 1 by omega]
  exact lst_digs10 _ (by omega)
/-- The last digit of a number below 0. -/
theorem dec_more (n : Int) (h : n ≤ -10) (h2 : -9223372036854775808 ≤ n) : decB n = decB (n.tdiv 10) ++ natB (-(n.tmod 10)).toNat := by
  have e1 : n.tdiv 10 = -((-n) / 10) := by
    have := Int.neg_tdiv (-n) 10
    rw [Int.neg_neg] at this
    rw [this, tdiv_pos (-n) 10 (by omega) (by decide)]
  have e2 : n.tmod 10 = -((-n) % 10) := by
    have := Int.neg_tmod (-n) 10
    rw [Int.neg_neg] at this
    rw [this, tmod_pos (-n) 10 (by omega)]
  rw [e1, e2]
  unfold decB
  rw [if_pos (by omega), if_pos (by omega)]
  simp only [Int.neg_neg]
  rw [natB_more (u := -n) (by omega) (by omega), natB_one (u := -n % 10) (by omega) (by omega)]
  rw [show (-n % 10 % 10) = -n % 10 by omega]
  rfl
theorem dec_small (n : Int) (h : n < 0) : decB n = [45] ++ natB (-n).toNat := by unfold decB; rw [if_pos h]; rfl
theorem dec_pos (n : Int) (h : 0 ≤ n) : decB n = natB n.toNat := by unfold decB; rw [if_neg (by omega)]
theorem natB_length (n : Nat) : (natB n).length ≤ 20 := natF_length 20 n

/-! #### Texts by kind -/
/-! #### Rows -/
def nth {α : Type} (l : List α) (i : Nat) (d : α) : α := l.getD i d
theorem nth_get {α : Type} {l : List α} {i : Nat} {d : α} (h : i < l.length) : l[i]? = some (nth l i d) := by
  unfold nth
  rw [List.getD_eq_getElem?_getD, List.getElem?_eq_getElem h]; rfl
theorem nth_map {α β : Type} {l : List α} {i : Nat} {d : α} {f : α → β} (h : i < l.length) : (l.map f)[((i : Nat) : Int).toNat]? = some (f (nth l i d)) := by
  rw [Int.toNat_natCast, List.getElem?_map, nth_get h]; rfl
def v0 : GV := .mk 0 ⟨#[]⟩ 0 0 [] []
def a0 : GA := .mk ⟨#[]⟩ v0
/-! #### The reference's quoting -/
end Go.Proofs

namespace Go.Proofs
open Go Go.Al

/-! ### What is left of an allowance -/
end Go.Proofs

namespace Go.Proofs
open Go Go.Al

/-! ### Rows of spans and the like -/
/-! ### Weights -/
/-! ### Wide structures, whole -/
theorem GSpan.width (s : GSpan) : s.av.width = 42 := by
  simp only [GSpan.av, AV.width, AV.widths, sv, iv, uv]; rfl
theorem GL.width (s : GL) : s.av.width = 26 := by
  simp only [GL.av, AV.width, AV.widths, sv, iv, uv]; rfl
end Go.Proofs

namespace Go.Proofs
open Go Go.Al

/-! ### A key's place in a list of rising keys -/
/-! ### Into its place -/
end Go.Proofs

namespace Go.Proofs
open Go Go.Al

/-! ### What spans and batches leave of an allowance -/
theorem drop_nth {α : Type} {l : List α} {i : Nat} {d : α} (h : i < l.length) : l.drop i = nth l i d :: l.drop (i + 1) := by
  rw [List.drop_eq_getElem_cons h]
  congr 1
  unfold nth
  rw [List.getD_eq_getElem?_getD, List.getElem?_eq_getElem h]; rfl
end Go.Proofs

namespace Go.Proofs
open Go Go.Al

end Go.Proofs

namespace Go.Proofs
open Go Go.Al

/-! ### Errors: a code within parts, the outmost first -/
abbrev Fl := Int × List ByteArray
def errT (Tb Tw : Nat) : List ByteArray → Nat
  | [] => Tb
  | _ :: _ => Tw
def errB (Tb Tw : Nat) (c : Int) : List ByteArray → AV
  | [] => .agg [iv c]
  | p :: ps => .agg [sv p, .ifc (errT Tb Tw ps) (.cp (errB Tb Tw c ps))]
def errOf (Tb Tw : Nat) (c : Int) (l : List ByteArray) : AV := .ifc (errT Tb Tw l) (.cp (errB Tb Tw c l))
def errM (Tb Tw : Nat) (f : Fl) : AV := if f.1 = 0 then .v .nilIface else errOf Tb Tw f.1 f.2
theorem errOf_ifc (Tb Tw : Nat) (c : Int) (l : List ByteArray) : AV.isIfc (errOf Tb Tw c l) = true := rfl
theorem errB_w (Tb Tw : Nat) (c : Int) (l : List ByteArray) : Nat.blt 0 (errB Tb Tw c l).width = true := by cases l <;> rfl
theorem errM_pos {Tb Tw : Nat} {f : Fl} (h : f.1 ≠ 0) : errM Tb Tw f = errOf Tb Tw f.1 f.2 := if_neg h
theorem errM_zero {Tb Tw : Nat} {f : Fl} (h : f.1 = 0) : errM Tb Tw f = .v .nilIface := if_pos h
/-- An error as a text. -/
def pathB : List ByteArray → Bs
  | [] => []
  | p :: ps => lst p ++ [58, 32] ++ pathB ps
theorem pathB_app : ∀ a b : List ByteArray, pathB (a ++ b) = pathB a ++ pathB b
  | [], b => rfl
  | x :: a, b => by rw [List.cons_append, pathB, pathB, pathB_app a b]; simp only [List.append_assoc]
def textF (f : Fl) : ByteArray := if f.1 = 0 then ⟨#[]⟩ else strOf (pathB f.2 ++ decB f.1)
def classM (c : Int) : Int := if c = 0 then 0 else if 32 ≤ c ∧ c ≤ 36 then 2 else if c = 16 then 3 else 1
theorem pathB_take {l : List ByteArray} {i : Nat} (h : i < l.length) : pathB (l.take (i + 1)) = pathB (l.take i) ++ (lst (nth l i ⟨#[]⟩) ++ [58, 32]) := by
  rw [take_snoc (nth_get (d := ⟨#[]⟩) h), pathB_app]; simp [pathB]
theorem ixStr {l : List ByteArray} {i : Nat} (h : i < l.length) : (l.map fun x => sv x)[((i : Nat) : Int).toNat]? = some (sv (nth l i ⟨#[]⟩)) := nth_map (d := (⟨#[]⟩ : ByteArray)) (f := fun x => sv x) h
end Go.Proofs

namespace Go.Proofs
open Go Go.Al
set_option maxRecDepth 10000
set_option maxHeartbeats 400000 in
theorem dgrown_c (xs : List AV) (hw : W1 xs) (hl : xs.length ≤ 1000000000000) : MCall Tryd.prog Γ0 40 [.imm (.sl 1 xs)] [] (.slg 3009 1 xs) [(3009, .tok 1 xs)] := by
  refine mcall_of (rs := [.slg 3009 1 xs]) Tryd.func40 rfl Tryd.ntmps40 (by kernel_rfl) rfl rfl rfl rfl rfl fun w0 I0 G0 E => ?_
  refine aw_seq ?_
  refine aw_region ?_
  refine g_u (s_as_imm rfl rfl) ?_
  refine g_nil ?_
  refine normal_thn ?_
  refine aw_seq ?_
  refine aw_region ?_
  refine g_u (s_mv_imm rfl rfl) ?_
  refine g_u (s_lenL rfl rfl Tryd.underlying81) ?_
  refine g_u (s_mv_imm rfl rfl) ?_
  refine g_u (s_lenL rfl rfl Tryd.underlying81) ?_
  refine g_u (s_add rfl rfl rfl) ?_
  refine g_uG (s_makeSlice 1009 (X0 := z5) (len := xs.length) (cap := xs.length + 21) rfl rfl rfl rfl rfl rfl (by ((try simp only [decide_eq_true_eq, decide_eq_false_iff_not, bne_iff_ne, ne_eq, beq_iff_eq, bne_eq_false_iff_eq, beq_eq_false_iff_ne, Bool.not_eq_true', Bool.not_eq_false', gt_iff_lt, ge_iff_le] at *); (repeat simp (disch := omega) only [wrap64, wrap32] at *)); omega) Tryd.underlying81 tS5 tZ5 rfl rfl by5 (by omega) (by omega) (by omega)) rfl ?_
  refine g_u (s_as_osl rfl rfl) ?_
  refine g_nil ?_
  refine normal_thn ?_
  refine aw_seq ?_
  refine aw_region ?_
  refine g_u (s_mv_osl rfl rfl) ?_
  refine g_u (s_mv_imm rfl rfl) ?_
  refine g_u (s_copy_in (el := 5) (el' := 0) (T1 := 0) rfl rfl rfl rfl rfl Tryd.underlying81 tS5 (by intro x hx; rw [List.eq_of_mem_replicate hx]; rfl) (by simp <;> omega)) ?_
  refine g_nil ?_
  refine normal_thn ?_
  refine aw_freezeW 1009 3009 1 (xs) [(0, .imm (.sl 1 xs)), (3, .slg 3009 1 xs)] rfl rfl rfl rfl rfl rfl rfl ⟨.inl rfl, .inr (.inl ⟨rfl, rfl⟩), trivial⟩ (cp_w (hw) rfl) (by rw [← cp_len rfl (by simp <;> omega)]; simp <;> omega) (by omega) (by unfold maxLen; omega) (cp_take rfl (by simp <;> omega)) ?_
  refine aw_seq ?_
  refine aw_region ?_
  refine g_u (s_mv_slg rfl rfl) ?_
  refine g_u (s_as_slg rfl rfl) ?_
  refine g_nil ?_
  refine normal_thn ?_
  refine aw_ret ?_
  exact ⟨⟨.inr ⟨_, rfl, (by rfl), rfl⟩, trivial⟩, ⟨rfl, trivial⟩⟩

set_option maxHeartbeats 400000 in
theorem dlay_c (xs : List AV) (u : Int) (h : 0 ≤ u ∧ u < 18446744073709551616) (hl : xs.length ≤ 1000000000000) : MCall Tryd.prog Γ0 41 [.slg 100001 1 xs, .imm (uv u)] [(100001, .tok 1 xs)] (.slg 100001 1 (xs ++ bytesL (natB u.toNat))) [(100001, .tok 1 (xs ++ bytesL (natB u.toNat)))] := by
  refine mcall_of (rs := [.slg 100001 1 (xs ++ bytesL (natB u.toNat))]) Tryd.func41 rfl Tryd.ntmps41 (by kernel_rfl) rfl rfl rfl rfl rfl fun w0 I0 G0 E => ?_
  refine aw_seq ?_
  refine aw_region ?_
  refine g_u (s_as_imm rfl rfl) ?_
  refine g_nil ?_
  refine normal_thn ?_
  refine aw_seq ?_
  refine aw_region ?_
  refine g_uG (s_alloc' 1005 rfl rfl rfl tZ122) rfl ?_
  refine g_nil ?_
  refine normal_thn ?_
  refine aw_seq ?_
  refine aw_region ?_
  refine g_u (s_as_imm rfl rfl) ?_
  refine g_nil ?_
  refine normal_thn ?_
  refine aw_seq ?_
  refine aw_block ?_
  refine aw_loop' (fun j : Nat × Int × Bs => [(0, .slg 100001 1 xs), (100001, .tok 1 xs), (1, .imm (uv j.2.1)), (5, .ptr 1005 0), (1005, .box 122 (.imm (.arr 20 j.2.2))), (6, .imm (iv (j.1 : Int)))]) (fun j => 1 ≤ j.1 ∧ j.1 ≤ 20 ∧ j.2.2.length = 20 ∧ (0 ≤ j.2.1 ∧ j.2.1 < 18446744073709551616 ∧ j.2.1 < 10 ^ j.1) ∧ natF j.1 j.2.1.toNat ++ j.2.2.drop j.1 = natB u.toNat) (fun j => j.1) (⟨20, u, List.replicate 20 0⟩) ?_ ⟨rfl, rfl, rfl, rfl, rfl, rfl, trivial⟩ ?_
  · exact ⟨by dsimp only; omega, by dsimp only; omega, by simp, ⟨h.1, h.2, by have := h.2; show u < 10 ^ 20; omega⟩, by rw [show (List.replicate 20 (0 : UInt8)).drop 20 = [] from rfl, List.append_nil]; rfl⟩
  · rintro ⟨i, v, l⟩ ⟨h1, h2, h3, h4, h5⟩; dsimp only at h1 h2 h3 h4 h5; obtain ⟨i, rfl⟩ : ∃ k, i = k + 1 := ⟨i - 1, by omega⟩; have e0 : 0 + (IntKind.i64.wrap (((i + 1 : Nat) : Int) - 1)).toNat = i := by rw [wrap64 (by omega) (by omega)]; omega
    refine aw_block ?_
    refine aw_seq ?_
    refine aw_region ?_
    refine g_u (s_mv_imm rfl rfl) ?_
    refine g_u (s_sub rfl rfl rfl) ?_
    refine g_u (s_as_imm rfl rfl) ?_
    refine g_nil ?_
    refine normal_thn ?_
    refine aw_seq ?_
    refine aw_region ?_
    refine g_u (s_mv_imm rfl rfl) ?_
    refine g_u (s_mv_imm rfl rfl) ?_
    refine g_u (s_rem rfl rfl rfl (by first | decide | omega | (((try simp only [decide_eq_true_eq, decide_eq_false_iff_not, bne_iff_ne, ne_eq, beq_iff_eq, bne_eq_false_iff_eq, beq_eq_false_iff_ne, Bool.not_eq_true', Bool.not_eq_false', gt_iff_lt, ge_iff_le] at *); (repeat simp (disch := omega) only [wrap64, wrap32] at *)); omega))) ?_
    refine g_u (s_cvII rfl rfl Tryd.underlying50 Tryd.underlying5) ?_
    refine g_u (s_add rfl rfl rfl) ?_
    refine g_u (s_ixOwn rfl rfl rfl Tryd.underlying122 tS5 (by ((try simp only [decide_eq_true_eq, decide_eq_false_iff_not, bne_iff_ne, ne_eq, beq_iff_eq, bne_eq_false_iff_eq, beq_eq_false_iff_ne, Bool.not_eq_true', Bool.not_eq_false', gt_iff_lt, ge_iff_le] at *); (repeat simp (disch := omega) only [wrap64, wrap32] at *)); omega)) ?_
    refine g_u (s_storeByte rfl rfl rfl tS5 (by ((try simp only [decide_eq_true_eq, decide_eq_false_iff_not, bne_iff_ne, ne_eq, beq_iff_eq, bne_eq_false_iff_eq, beq_eq_false_iff_ne, Bool.not_eq_true', Bool.not_eq_false', gt_iff_lt, ge_iff_le] at *); (repeat simp (disch := omega) only [wrap64, wrap32] at *)); omega) (wrap8_lt _)) ?_
    refine g_nil ?_
    refine normal_thn ?_
    refine aw_seq ?_
    refine aw_region ?_
    refine g_u (s_mv_imm rfl rfl) ?_
    refine g_u (s_quo rfl rfl rfl (by first | decide | omega | (((try simp only [decide_eq_true_eq, decide_eq_false_iff_not, bne_iff_ne, ne_eq, beq_iff_eq, bne_eq_false_iff_eq, beq_eq_false_iff_ne, Bool.not_eq_true', Bool.not_eq_false', gt_iff_lt, ge_iff_le] at *); (repeat simp (disch := omega) only [wrap64, wrap32] at *)); omega))) ?_
    refine g_u (s_as_imm rfl rfl) ?_
    refine g_nil ?_
    refine normal_thn ?_
    refine aw_seq ?_
    refine aw_region ?_
    refine g_u (s_mv_imm rfl rfl) ?_
    refine g_u (s_eqI rfl rfl rfl) ?_
    refine g_nil ?_
    refine normal_thn ?_
    refine aw_cond rfl (fun hb1 => ?_) (fun hb1 => ?_)
    · skip
      refine aw_exit ?_
      refine exit_blk_ne rfl ?_
      refine exit_thn ?_
      refine exit_blk ?_
      refine normal_thn ?_
      refine aw_seq ?_
      refine aw_region ?_
      refine g_u (s_mv_slg rfl rfl) ?_
      refine g_u (s_mv_imm rfl rfl) ?_
      refine g_u (s_slOwn_l rfl rfl rfl rfl rfl Tryd.underlying122 tS5 rfl (by ((try simp only [decide_eq_true_eq, decide_eq_false_iff_not, bne_iff_ne, ne_eq, beq_iff_eq, bne_eq_false_iff_eq, beq_eq_false_iff_ne, Bool.not_eq_true', Bool.not_eq_false', gt_iff_lt, ge_iff_le] at *); (repeat simp (disch := omega) only [wrap64, wrap32] at *)); omega)) ?_
      refine g_u (s_append rfl rfl rfl rfl rfl Tryd.underlying81 Tryd.underlying81 tS5 zv5 rfl (by decide) by5 (by simp only [bytesL_len, List.length_drop, List.length_set]; omega) (by simp only [bytesL_len, List.length_drop, List.length_set]; omega)) ?_
      refine g_u (s_as_slg rfl rfl) ?_
      refine g_nil ?_
      refine normal_thn ?_
      refine aw_ret ?_
      change (IntKind.u64.wrap (v.tdiv 10) == 0) = true at hb1
      have e1 : IntKind.u64.wrap (v.tdiv 10) = v / 10 := by rw [tdiv_pos v 10 h4.1 (by decide), wrapu64 (by omega) (by omega)]
      rw [e1] at hb1
      have hu : v < 10 := by have : v / 10 = 0 := (by simpa using hb1); omega
      have E : bytesL ((l.set (0 + (IntKind.i64.wrap (((i + 1 : Nat) : Int) - 1)).toNat) (ofI (IntKind.u8.wrap (48 + IntKind.u8.wrap (v.tmod 10))))).drop (IntKind.i64.wrap (((i + 1 : Nat) : Int) - 1)).toNat) = bytesL (natB u.toNat) := by rw [Nat.zero_add] at e0; rw [Nat.zero_add, e0, tmod_pos v 10 h4.1, dig_av h4.1, set_drop (by omega), ← h5, natF_stop h4.1 hu]; rfl
      exact ⟨⟨.inr ⟨_, rfl, look_slg rfl (congrArg (xs ++ ·) E), rfl⟩, trivial⟩, ⟨look_tok rfl (congrArg (xs ++ ·) E), trivial⟩⟩
    · skip
      refine aw_skip ?_
      refine normal_blk ?_
      refine normal_thn ?_
      have e1 : IntKind.u64.wrap (v.tdiv 10) = v / 10 := by rw [tdiv_pos v 10 h4.1 (by decide), wrapu64 (by omega) (by omega)]
      change (IntKind.u64.wrap (v.tdiv 10) == 0) = false at hb1
      rw [e1] at hb1
      have hu : 10 ≤ v := by have : v / 10 ≠ 0 := (by simpa using hb1); omega
      have hi : 1 ≤ i := by rcases Nat.eq_zero_or_pos i with rfl | hi; (simp at h4; omega); exact hi
      refine ⟨⟨i, IntKind.u64.wrap (v.tdiv 10), l.set (0 + (IntKind.i64.wrap (((i + 1 : Nat) : Int) - 1)).toNat) (ofI (IntKind.u8.wrap (48 + IntKind.u8.wrap (v.tmod 10))))⟩, ⟨hi, by dsimp only; omega, by simpa using h3, ?_, ?_⟩, ⟨rfl, rfl, rfl, rfl, rfl, look_int rfl (by rw [wrap64 (by omega) (by omega)]; omega), trivial⟩, Nat.lt_succ_self _⟩
      · dsimp only; rw [e1]; refine ⟨by omega, by omega, ?_⟩; have := h4.2.2; rw [Int.pow_succ] at this; omega
      · dsimp only; rw [e0, e1, tmod_pos v 10 h4.1, dig_av h4.1, set_drop (by omega)]; rw [natF_step h4.1 hu] at h5; simpa using h5

set_option maxHeartbeats 400000 in
theorem dput_c (l : Bs) (n : Int) (h : -9223372036854775808 ≤ n ∧ n < 9223372036854775808) (hl : l.length ≤ 100000000000) : PCall Tryd.prog Γ0 28 [.sl 1 (bytesL l), iv n] [.sl 1 (bytesL (l ++ decB n))] := by
  have hb := bytesL_len l
  have u0 : n < 0 → IntKind.u64.wrap (0 - IntKind.u64.wrap n) = -n := fun hn => by simp [IntKind.wrap, IntKind.bits, IntKind.signed]; omega
  have u1 : ¬ n < 0 → IntKind.u64.wrap n = n := fun hn => wrapu64 (by omega) (by omega)
  refine pcall_of Tryd.func28 rfl Tryd.ntmps28 (by kernel_rfl) rfl fun w0 I0 G0 => ?_
  refine aw_seq ?_
  refine aw_region ?_
  refine g_u (s_as_imm rfl rfl) ?_
  refine g_nil ?_
  refine normal_thn ?_
  refine aw_seq ?_
  refine aw_region ?_
  refine g_u (s_mv_imm rfl rfl) ?_
  refine g_uG (s_mcall [(3009, 20001)] (dgrown_c _ (by first | assumption | exact W1.bytes _) (by first | assumption | omega)) rfl rfl ⟨.inl rfl, trivial⟩ trivial rfl rfl rfl) rfl ?_
  refine g_u (s_as_slg rfl rfl) ?_
  refine g_nil ?_
  refine normal_thn ?_
  refine aw_seq ?_
  refine aw_seq ?_
  refine aw_region ?_
  refine g_u (s_mv_imm rfl rfl) ?_
  refine g_u (s_ltI rfl rfl rfl) ?_
  refine g_nil ?_
  refine normal_thn ?_
  refine aw_cond rfl (fun hb1 => ?_) (fun hb1 => ?_)
  · skip
    refine aw_seq ?_
    refine aw_region ?_
    refine g_u (s_mv_slg rfl rfl) ?_
    refine g_u (s_buildSlice (X0 := z5) rfl Tryd.underlying81 tS5 tZ5 rfl rfl rfl rfl rfl rfl rfl rfl) ?_
    refine g_u (s_append rfl rfl rfl rfl rfl Tryd.underlying81 Tryd.underlying81 tS5 zv5 rfl (by decide) by5 (by simp only [List.length_cons, List.length_nil]; omega) (by simp only [List.length_cons, List.length_nil]; omega)) ?_
    refine g_u (s_mv_imm rfl rfl) ?_
    refine g_u (s_cvII rfl rfl Tryd.underlying3 Tryd.underlying50) ?_
    refine g_u (s_neg rfl rfl) ?_
    refine g_uG (s_mcall [(100001, 20001)] (dlay_c _ _ (by rw [u0 (by simpa using hb1)]; have : n < 0 := (by simpa using hb1); omega) (by simp only [List.length_append, List.length_cons, List.length_nil]; omega)) rfl rfl ⟨.inl rfl, .inl rfl, trivial⟩ ⟨rfl, trivial⟩ rfl rfl rfl) rfl ?_
    refine g_u (s_as_slg rfl rfl) ?_
    refine g_nil ?_
    refine normal_thn ?_
    refine aw_ret ?_
    refine ret_thn ?_
    exact ⟨⟨(rfl : toAV (Al.look _ _) = some _).trans (congrArg some (by (rw [u0 (by simpa using hb1)]; unfold decB; rw [if_pos (by simpa using hb1)]; rw [List.append_assoc]; simp only [← bytesL_app]; rfl))), rfl⟩, trivial⟩
  · skip
    refine aw_skip ?_
    refine normal_thn ?_
    refine aw_seq ?_
    refine aw_region ?_
    refine g_u (s_mv_slg rfl rfl) ?_
    refine g_u (s_mv_imm rfl rfl) ?_
    refine g_u (s_cvII rfl rfl Tryd.underlying3 Tryd.underlying50) ?_
    refine g_uG (s_mcall [(100001, 20001)] (dlay_c _ _ (by rw [u1 (by simpa using hb1)]; have : ¬ n < 0 := (by simpa using hb1); omega) (by omega)) rfl rfl ⟨.inl rfl, .inl rfl, trivial⟩ ⟨rfl, trivial⟩ rfl rfl rfl) rfl ?_
    refine g_u (s_as_slg rfl rfl) ?_
    refine g_nil ?_
    refine normal_thn ?_
    refine aw_ret ?_
    exact ⟨⟨(rfl : toAV (Al.look _ _) = some _).trans (congrArg some (by (rw [u1 (by simpa using hb1)]; unfold decB; rw [if_neg (by simpa using hb1)]; rw [bytesL_app]))), rfl⟩, trivial⟩

set_option maxHeartbeats 400000 in
theorem textU_step (u : Int) (h : 0 ≤ u ∧ u < 18446744073709551616) (ih : 10 ≤ u → PCall Tryd.prog Γ0 42 [uv (u / 10)] [sv (strOf (natB (u / 10).toNat))]) : PCall Tryd.prog Γ0 42 [uv u] [sv (strOf (natB u.toNat))] := by
  have hd := dig10 u h.1
  have e1 : IntKind.u64.wrap (u.tdiv 10) = u / 10 := by rw [tdiv_pos u 10 h.1 (by decide), wrapu64 (by omega) (by omega)]
  have l1 := natB_length (u / 10).toNat
  refine pcall_of Tryd.func42 rfl Tryd.ntmps42 (by kernel_rfl) rfl fun w0 I0 G0 => ?_
  refine aw_seq ?_
  refine aw_region ?_
  refine g_u (s_as_imm rfl rfl) ?_
  refine g_nil ?_
  refine normal_thn ?_
  refine aw_seq ?_
  refine aw_region ?_
  refine g_u (s_mv_imm rfl rfl) ?_
  refine g_u (s_rem rfl rfl rfl (by first | decide | omega | (((try simp only [decide_eq_true_eq, decide_eq_false_iff_not, bne_iff_ne, ne_eq, beq_iff_eq, bne_eq_false_iff_eq, beq_eq_false_iff_ne, Bool.not_eq_true', Bool.not_eq_false', gt_iff_lt, ge_iff_le] at *); (repeat simp (disch := omega) only [wrap64, wrap32] at *)); omega))) ?_
  refine g_u (s_mv_imm rfl rfl) ?_
  refine g_u (s_rem rfl rfl rfl (by first | decide | omega | (((try simp only [decide_eq_true_eq, decide_eq_false_iff_not, bne_iff_ne, ne_eq, beq_iff_eq, bne_eq_false_iff_eq, beq_eq_false_iff_ne, Bool.not_eq_true', Bool.not_eq_false', gt_iff_lt, ge_iff_le] at *); (repeat simp (disch := omega) only [wrap64, wrap32] at *)); omega))) ?_
  refine g_u (s_add rfl rfl rfl) ?_
  refine g_u (si_lh rfl rfl rfl rfl Tryd.underlying9 (by rw [tmod_pos u 10 h.1, wrapu64 (by omega) (by omega)]; show 0 ≤ u % 10 ∧ u % 10 ≤ u % 10 + 1 ∧ u % 10 + 1 ≤ 10; omega)) ?_
  refine g_u (s_as_imm rfl rfl) ?_
  refine g_nil ?_
  refine normal_thn ?_
  refine aw_seq ?_
  refine aw_seq ?_
  refine aw_region ?_
  refine g_u (s_mv_imm rfl rfl) ?_
  refine g_u (s_ltI rfl rfl rfl) ?_
  refine g_nil ?_
  refine normal_thn ?_
  refine aw_cond rfl (fun hb1 => ?_) (fun hb1 => ?_)
  · skip
    refine aw_seq ?_
    refine aw_region ?_
    refine g_u (s_mv_imm rfl rfl) ?_
    refine g_u (s_as_imm rfl rfl) ?_
    refine g_nil ?_
    refine normal_thn ?_
    refine aw_ret ?_
    refine ret_thn ?_
    exact ⟨⟨(rfl : toAV (Al.look _ _) = some _).trans (congrArg some (by (rw [natB_one h.1 (of_decide_eq_true hb1)]; exact congrArg sv hd))), rfl⟩, trivial⟩
  · skip
    refine aw_skip ?_
    refine normal_thn ?_
    refine aw_seq ?_
    refine aw_region ?_
    refine g_u (s_mv_imm rfl rfl) ?_
    refine g_u (s_quo rfl rfl rfl (by first | decide | omega | (((try simp only [decide_eq_true_eq, decide_eq_false_iff_not, bne_iff_ne, ne_eq, beq_iff_eq, bne_eq_false_iff_eq, beq_eq_false_iff_ne, Bool.not_eq_true', Bool.not_eq_false', gt_iff_lt, ge_iff_le] at *); (repeat simp (disch := omega) only [wrap64, wrap32] at *)); omega))) ?_
    refine g_u (s_call1 ((show PCall Tryd.prog Γ0 42 [uv (IntKind.u64.wrap (u.tdiv 10))] [sv (strOf (natB (u / 10).toNat))] from by rw [e1]; exact ih (Int.not_lt.1 (of_decide_eq_false hb1)))) rfl rfl) ?_
    refine g_u (s_mv_imm rfl rfl) ?_
    refine g_u (s_catS rfl rfl rfl (by show _ ≤ (9223372036854775807 : Int); erw [hd]; simp only [strOf_size, List.length_cons, List.length_nil]; omega)) ?_
    refine g_u (s_as_imm rfl rfl) ?_
    refine g_nil ?_
    refine normal_thn ?_
    refine aw_ret ?_
    exact ⟨⟨(rfl : toAV (Al.look _ _) = some _).trans (congrArg some (by (rw [natB_more (Int.not_lt.1 (of_decide_eq_false hb1)) h.2, ← strOf_append]; erw [hd]))), rfl⟩, trivial⟩

theorem textU_c (u : Int) (h : 0 ≤ u ∧ u < 18446744073709551616) : PCall Tryd.prog Γ0 42 [uv u] [sv (strOf (natB u.toNat))] := by
  have key : ∀ n : Nat, ∀ u : Int, u.toNat = n → (0 ≤ u ∧ u < 18446744073709551616) → PCall Tryd.prog Γ0 42 [uv u] [sv (strOf (natB u.toNat))] := by
    intro n
    induction n using Nat.strongRecOn with
    | _ n ih => intro u hn h; exact textU_step u h fun h10 => ih (u / 10).toNat (by omega) (u / 10) rfl (by omega)
  exact key _ u rfl h

set_option maxHeartbeats 400000 in
theorem rdec_step (n : Int) (h : -9223372036854775808 ≤ n ∧ n < 9223372036854775808) (ih : n ≤ -10 → PCall Tryd.prog Γ0 29 [iv (n.tdiv 10)] [sv (strOf (decB (n.tdiv 10)))]) : PCall Tryd.prog Γ0 29 [iv n] [sv (strOf (decB n))] := by
  have t1 : n ≤ -10 → IntKind.i64.wrap (n.tdiv 10) = n.tdiv 10 := fun hn => by have e := Int.neg_tdiv (-n) 10; rw [Int.neg_neg, tdiv_pos (-n) 10 (by omega) (by decide)] at e; rw [e]; exact wrap64 (by omega) (by omega)
  have t2 : n ≤ -10 → -10 < n.tmod 10 ∧ n.tmod 10 ≤ 0 := fun hn => by have e := Int.neg_tmod (-n) 10; rw [Int.neg_neg, tmod_pos (-n) 10 (by omega)] at e; rw [e]; omega
  have t3 : n ≤ -10 → IntKind.u64.wrap (IntKind.i64.wrap (0 - n.tmod 10)) = -(n.tmod 10) := fun hn => by have := t2 hn; rw [wrap64 (by omega) (by omega), wrapu64 (by omega) (by omega)]; omega
  have t4 : -10 < n → n < 0 → IntKind.u64.wrap (IntKind.i64.wrap (0 - n)) = -n := fun h1 h2 => by rw [wrap64 (by omega) (by omega), wrapu64 (by omega) (by omega)]; omega
  have t5 : 0 ≤ n → IntKind.u64.wrap n = n := fun h1 => wrapu64 (by omega) (by omega)
  have l1 := fun k => natB_length k
  have l2 := decB_length (n.tdiv 10)
  refine pcall_of Tryd.func29 rfl Tryd.ntmps29 (by kernel_rfl) rfl fun w0 I0 G0 => ?_
  refine aw_seq ?_
  refine aw_region ?_
  refine g_u (s_as_imm rfl rfl) ?_
  refine g_nil ?_
  refine normal_thn ?_
  refine aw_seq ?_
  refine aw_seq ?_
  refine aw_region ?_
  refine g_u (s_mv_imm rfl rfl) ?_
  refine g_u (s_geI rfl rfl rfl) ?_
  refine g_nil ?_
  refine normal_thn ?_
  refine aw_cond rfl (fun hb1 => ?_) (fun hb1 => ?_)
  · skip
    refine aw_seq ?_
    refine aw_region ?_
    refine g_u (s_mv_imm rfl rfl) ?_
    refine g_u (s_cvII rfl rfl Tryd.underlying3 Tryd.underlying50) ?_
    refine g_u (s_call1 (textU_c _ (by rw [t5 (of_decide_eq_true hb1)]; have := of_decide_eq_true hb1; omega)) rfl rfl) ?_
    refine g_u (s_as_imm rfl rfl) ?_
    refine g_nil ?_
    refine normal_thn ?_
    refine aw_ret ?_
    refine ret_thn ?_
    exact ⟨⟨(rfl : toAV (Al.look _ _) = some _).trans (congrArg some (by (have g1 := of_decide_eq_true hb1; rw [t5 g1, dec_pos n g1]))), rfl⟩, trivial⟩
  · skip
    refine aw_skip ?_
    refine normal_thn ?_
    refine aw_seq ?_
    refine aw_seq ?_
    refine aw_region ?_
    refine g_u (s_mv_imm rfl rfl) ?_
    refine g_u (s_gtI rfl rfl rfl) ?_
    refine g_nil ?_
    refine normal_thn ?_
    refine aw_cond rfl (fun hb2 => ?_) (fun hb2 => ?_)
    · skip
      refine aw_seq ?_
      refine aw_region ?_
      refine g_u (s_mv_imm rfl rfl) ?_
      refine g_u (s_neg rfl rfl) ?_
      refine g_u (s_cvII rfl rfl Tryd.underlying3 Tryd.underlying50) ?_
      refine g_u (s_call1 (textU_c _ (by have g1 := of_decide_eq_false hb1; have g2 := of_decide_eq_true hb2; rw [t4 g2 (by omega)]; omega)) rfl rfl) ?_
      refine g_u (s_catS rfl rfl rfl (by show _ ≤ (9223372036854775807 : Int); simp only [strOf_size]; have := l1 (IntKind.u64.wrap (IntKind.i64.wrap (0 - n))).toNat; have := l1 (IntKind.u64.wrap (IntKind.i64.wrap (0 - n.tmod 10))).toNat; first | omega | (show 1 + _ ≤ _; omega) | (have c1 : (ByteArray.mk #[45]).size = 1 := rfl; omega))) ?_
      refine g_u (s_as_imm rfl rfl) ?_
      refine g_nil ?_
      refine normal_thn ?_
      refine aw_ret ?_
      refine ret_thn ?_
      exact ⟨⟨(rfl : toAV (Al.look _ _) = some _).trans (congrArg some (by (have g1 := of_decide_eq_false hb1; have g2 := of_decide_eq_true hb2; rw [t4 g2 (by omega), dec_small n (by omega), ← strOf_append]; rfl))), rfl⟩, trivial⟩
    · skip
      refine aw_skip ?_
      refine normal_thn ?_
      refine aw_seq ?_
      refine aw_region ?_
      refine g_u (s_mv_imm rfl rfl) ?_
      refine g_u (s_quo rfl rfl rfl (by first | decide | omega | (((try simp only [decide_eq_true_eq, decide_eq_false_iff_not, bne_iff_ne, ne_eq, beq_iff_eq, bne_eq_false_iff_eq, beq_eq_false_iff_ne, Bool.not_eq_true', Bool.not_eq_false', gt_iff_lt, ge_iff_le] at *); (repeat simp (disch := omega) only [wrap64, wrap32] at *)); omega))) ?_
      refine g_u (s_call1 ((show PCall Tryd.prog Γ0 29 [iv (IntKind.i64.wrap (n.tdiv 10))] [sv (strOf (decB (n.tdiv 10)))] from by have g2 := of_decide_eq_false hb2; rw [t1 (by omega)]; exact ih (by omega))) rfl rfl) ?_
      refine g_u (s_mv_imm rfl rfl) ?_
      refine g_u (s_rem rfl rfl rfl (by first | decide | omega | (((try simp only [decide_eq_true_eq, decide_eq_false_iff_not, bne_iff_ne, ne_eq, beq_iff_eq, bne_eq_false_iff_eq, beq_eq_false_iff_ne, Bool.not_eq_true', Bool.not_eq_false', gt_iff_lt, ge_iff_le] at *); (repeat simp (disch := omega) only [wrap64, wrap32] at *)); omega))) ?_
      refine g_u (s_neg rfl rfl) ?_
      refine g_u (s_cvII rfl rfl Tryd.underlying3 Tryd.underlying50) ?_
      refine g_u (s_call1 (textU_c _ (by have g2 := of_decide_eq_false hb2; have := t2 (by omega); rw [t3 (by omega)]; omega)) rfl rfl) ?_
      refine g_u (s_catS rfl rfl rfl (by show _ ≤ (9223372036854775807 : Int); simp only [strOf_size]; have := l1 (IntKind.u64.wrap (IntKind.i64.wrap (0 - n))).toNat; have := l1 (IntKind.u64.wrap (IntKind.i64.wrap (0 - n.tmod 10))).toNat; first | omega | (show 1 + _ ≤ _; omega) | (have c1 : (ByteArray.mk #[45]).size = 1 := rfl; omega))) ?_
      refine g_u (s_as_imm rfl rfl) ?_
      refine g_nil ?_
      refine normal_thn ?_
      refine aw_ret ?_
      exact ⟨⟨(rfl : toAV (Al.look _ _) = some _).trans (congrArg some (by (have g2 := of_decide_eq_false hb2; rw [t3 (by omega), dec_more n (by omega) h.1, ← strOf_append]))), rfl⟩, trivial⟩

theorem rdec_c (n : Int) (h : -9223372036854775808 ≤ n ∧ n < 9223372036854775808) : PCall Tryd.prog Γ0 29 [iv n] [sv (strOf (decB n))] := by
  have key : ∀ k : Nat, ∀ n : Int, (-n).toNat = k → (-9223372036854775808 ≤ n ∧ n < 9223372036854775808) → PCall Tryd.prog Γ0 29 [iv n] [sv (strOf (decB n))] := by
    intro k
    induction k using Nat.strongRecOn with
    | _ k ih =>
      intro n hn h
      refine rdec_step n h fun h10 => ?_
      have e := Int.neg_tdiv (-n) 10
      rw [Int.neg_neg, tdiv_pos (-n) 10 (by omega) (by decide)] at e
      exact ih (-(n.tdiv 10)).toNat (by omega) (n.tdiv 10) rfl (by omega)
  exact key _ n rfl h

end Go.Proofs

namespace Go.Al
open Go.RowKit
section
variable {C : Cx} {A : Nat → SV} {d : Nat} {ty : TypeId} {pos : String} {af : Array Edge} {gd : Option (Nat × Bool)} {x y : Operand} {T T' : TypeId}
/-- What a function without a body tells of a pointer to one's own, by its type alone. -/
theorem s_extP {f g off : Nat} {r : Value} {ats : Array TypeId} (hN : Nat.blt d C.N = true) (hx : opS A x = .ifp T g off) (pr : plain r = true) (hf : ∀ v w, (callFunc f #[.iface T v]).run C.P w = .ok (.value r) w) :
    StepU C ⟨some d, .call { callee := .value (.func f), args := #[x], argTypes := ats }, ty, pos, af, gd⟩ (opR x) [] A [(d, .imm (.v r))] := by
  refine StepU.value rfl hN fun A' G a w hR S => ?_
  have hev := S.ifp ((opS_congr hR).trans hx)
  exact ⟨r, run_ext1 (by rw [hev]; exact hf _ w), valS_imm.2 (rep_p _ _ pr)⟩
theorem s_eqNN' {v : AV} {p : Array (String × TypeId)} (hN : Nat.blt d C.N = true) (hx : opV A x = some v) (hv : v = .v .nilIface) (hT : C.P.underlying T = some (.interface p)) :
    StepU C ⟨some d, .binOp .eql T x (.const .nilIface) T', ty, pos, af, gd⟩ (opR x) [] A [(d, .imm (.v (.bool true)))] := by
  subst hv; exact s_eqNN hN hx hT
end
end Go.Al

namespace Go.Proofs
open Go Go.Al
set_option maxRecDepth 10000
theorem tA89 : tyAgg Tryd.prog 89 = some true := by kernel_rfl
theorem tS89 : tySize Tryd.prog 89 = some 3 := by kernel_rfl
theorem tA92 : tyAgg Tryd.prog 92 = some false := by kernel_rfl
theorem tS92 : tySize Tryd.prog 92 = some 1 := by kernel_rfl
def z89 : AV := .agg [.v (.pointer none), .v (.pointer none), .v (.int .u64 0)]
theorem tZ89 : IsZero Tryd.prog 89 z89 := ⟨.agg #[.pointer none, .pointer none, .int .u64 0], by kernel_rfl, by kernel_rfl⟩
abbrev eOf (c : Int) (l : List ByteArray) : AV := errOf 77 72 c l
abbrev eM (f : Fl) : AV := errM 77 72 f
def tyE : List ByteArray → Value
  | [] => (.iface 110 (.agg #[(.pointer (some ⟨3, 77, none⟩))]))
  | _ :: _ => (.iface 110 (.agg #[(.pointer (some ⟨3, 72, none⟩))]))
theorem inv0_raw {v r : Value} {name : String} (hp : plain v = true) (hr : plain r = true) (h : ∀ w, (callMethod v name #[]).run Tryd.prog w = .ok (.value r) w) : ∀ w I u, Rep w I (.v v) u → ∃ x, (callMethod u name #[]).run Tryd.prog w = .ok (.value x) w ∧ Rep w I (.v r) x :=
  fun w I u k => by rw [rep_val k hp]; exact ⟨r, h w, rep_p w I hr⟩
theorem inv1_raw {v z r : Value} {name : String} (hp : plain v = true) (hz : plain z = true) (hr : plain r = true) (h : ∀ w, (callMethod v name #[z]).run Tryd.prog w = .ok (.value r) w) : ∀ w I u y, Rep w I (.v v) u → Rep w I (.v z) y → ∃ x, (callMethod u name #[y]).run Tryd.prog w = .ok (.value x) w ∧ Rep w I (.v r) x :=
  fun w I u y k k2 => by rw [rep_val k hp, rep_val k2 hz]; exact ⟨r, h w, rep_p w I hr⟩
theorem typeOf_e (c : Int) (l : List ByteArray) : ∀ w I vs, RepVs w I [eOf c l] vs → ∃ v, (callFunc 43 (List.toArray vs)).run Tryd.prog w = .ok (.value v) w ∧ Rep w I (.v (tyE l)) v := by
  intro w I vs h
  simp only [RepVs] at h
  obtain ⟨k, r, rfl, h1, rfl⟩ := h
  cases l with
  | nil => obtain ⟨u, e, _⟩ := rep_ifc (w := w) (I := I) (T := 77) ⟨k, h1, rfl⟩; exact ⟨_, by rw [show mkV (eOf c []) k = .iface 77 u from e]; exact fO77 u w, rep_p w I rfl⟩
  | cons p ps => obtain ⟨u, e, _⟩ := rep_ifc (w := w) (I := I) (T := 72) ⟨k, h1, rfl⟩; exact ⟨_, by rw [show mkV (eOf c (p :: ps)) k = .iface 72 u from e]; exact fO72 u w, rep_p w I rfl⟩
theorem asB_e (l : List ByteArray) : ∀ w I u y, Rep w I (.v (tyE l)) u → Rep w I (.v (.iface 110 (.agg #[(.pointer (some ⟨3, 77, none⟩))]))) y → ∃ x, (callMethod u "AssignableTo" #[y]).run Tryd.prog w = .ok (.value x) w ∧ Rep w I (bv (l.isEmpty)) x := by
  cases l with
  | nil => exact inv1_raw (v := (.iface 110 (.agg #[(.pointer (some ⟨3, 77, none⟩))]))) rfl rfl rfl fA77_77
  | cons p ps => exact inv1_raw (v := (.iface 110 (.agg #[(.pointer (some ⟨3, 72, none⟩))]))) rfl rfl rfl fA72_77
theorem asW_e (l : List ByteArray) : ∀ w I u y, Rep w I (.v (tyE l)) u → Rep w I (.v (.iface 110 (.agg #[(.pointer (some ⟨3, 72, none⟩))]))) y → ∃ x, (callMethod u "AssignableTo" #[y]).run Tryd.prog w = .ok (.value x) w ∧ Rep w I (bv (!l.isEmpty)) x := by
  cases l with
  | nil => exact inv1_raw (v := (.iface 110 (.agg #[(.pointer (some ⟨3, 77, none⟩))]))) rfl rfl rfl fA77_72
  | cons p ps => exact inv1_raw (v := (.iface 110 (.agg #[(.pointer (some ⟨3, 72, none⟩))]))) rfl rfl rfl fA72_72
set_option maxHeartbeats 400000 in
theorem fnew_c (c : Int) : PCall Tryd.prog Γ0 26 [iv c] [eM (c, [])] := by
  refine pcall_of Tryd.func26 rfl Tryd.ntmps26 (by kernel_rfl) rfl fun w0 I0 G0 => ?_
  refine aw_seq ?_
  refine aw_region ?_
  refine g_u (s_as_imm rfl rfl) ?_
  refine g_nil ?_
  refine normal_thn ?_
  refine aw_seq ?_
  refine aw_seq ?_
  refine aw_region ?_
  refine g_u (s_mv_imm rfl rfl) ?_
  refine g_u (s_eqI rfl rfl rfl) ?_
  refine g_nil ?_
  refine normal_thn ?_
  refine aw_cond rfl (fun hb1 => ?_) (fun hb1 => ?_)
  · skip
    have q : c = 0 := beq_iff_eq.1 hb1
    refine aw_seq ?_
    refine aw_region ?_
    refine g_u (s_as_imm rfl rfl) ?_
    refine g_nil ?_
    refine normal_thn ?_
    refine aw_ret ?_
    refine ret_thn ?_
    exact ⟨⟨(rfl : toAV (Al.look _ _) = some _).trans (congrArg some (by (rw [show eM (c, []) = _ from errM_zero (f := (c, [])) q]))), rfl⟩, trivial⟩
  · skip
    have q : ¬ c = 0 := beq_eq_false_iff_ne.1 hb1
    refine aw_skip ?_
    refine normal_thn ?_
    refine aw_seq ?_
    refine aw_region ?_
    refine g_u (s_mv_imm rfl rfl) ?_
    refine g_u (s_build rfl tU80 us80 pl80 rfl rfl rfl rfl) ?_
    refine g_uG (s_box_imm 1007 rfl rfl rfl rfl) rfl ?_
    refine g_u (s_makeIfaceS rfl rfl rfl rfl rfl nI77) ?_
    refine g_u (s_as_imm rfl rfl) ?_
    refine g_nil ?_
    refine normal_thn ?_
    refine aw_ret ?_
    exact ⟨⟨(rfl : toAV (Al.look _ _) = some _).trans (congrArg some (by (rw [show eM (c, []) = _ from errM_pos (f := (c, [])) q]; rfl))), rfl⟩, trivial⟩

set_option maxHeartbeats 400000 in
theorem finN_c (p : ByteArray) : PCall Tryd.prog Γ0 25 [sv p, .v .nilIface] [.v .nilIface] := by
  refine pcall_of Tryd.func25 rfl Tryd.ntmps25 (by kernel_rfl) rfl fun w0 I0 G0 => ?_
  refine aw_seq ?_
  refine aw_region ?_
  refine g_u (s_as_imm rfl rfl) ?_
  refine g_nil ?_
  refine normal_thn ?_
  refine aw_seq ?_
  refine aw_seq ?_
  refine aw_region ?_
  refine g_u (s_mv_imm rfl rfl) ?_
  refine g_u (s_eqNN rfl rfl Tryd.underlying31) ?_
  refine g_nil ?_
  refine normal_thn ?_
  refine aw_cond_true rfl ?_
  refine aw_seq ?_
  refine aw_region ?_
  refine g_u (s_as_imm rfl rfl) ?_
  refine g_nil ?_
  refine normal_thn ?_
  refine aw_ret ?_
  refine ret_thn ?_
  exact ⟨⟨(rfl : toAV (Al.look _ _) = some _).trans (congrArg some (by rfl)), rfl⟩, trivial⟩

set_option maxHeartbeats 400000 in
theorem finP_c (p : ByteArray) (c : Int) (l : List ByteArray) : PCall Tryd.prog Γ0 25 [sv p, eOf c l] [eOf c (p :: l)] := by
  refine pcall_of Tryd.func25 rfl Tryd.ntmps25 (by kernel_rfl) rfl fun w0 I0 G0 => ?_
  refine aw_seq ?_
  refine aw_region ?_
  refine g_u (s_as_imm rfl rfl) ?_
  refine g_nil ?_
  refine normal_thn ?_
  refine aw_seq ?_
  refine aw_seq ?_
  refine aw_region ?_
  refine g_u (s_mv_imm rfl rfl) ?_
  refine g_u (s_eqNI' rfl rfl (errOf_ifc _ _ _ _) rfl Tryd.underlying31) ?_
  refine g_nil ?_
  refine normal_thn ?_
  refine aw_cond_false rfl ?_
  refine aw_skip ?_
  refine normal_thn ?_
  refine aw_seq ?_
  refine aw_region ?_
  refine g_u (s_mv_imm rfl rfl) ?_
  refine g_u (s_mv_imm rfl rfl) ?_
  refine g_u (s_build rfl tU76 us76 pl76 rfl rfl rfl rfl) ?_
  refine g_uG (s_box_imm 1010 rfl rfl rfl rfl) rfl ?_
  refine g_u (s_makeIfaceS rfl rfl rfl rfl rfl nI72) ?_
  refine g_u (s_as_imm rfl rfl) ?_
  refine g_nil ?_
  refine normal_thn ?_
  refine aw_ret ?_
  exact ⟨⟨(rfl : toAV (Al.look _ _) = some _).trans (congrArg some (by rfl)), rfl⟩, trivial⟩

theorem fin_c (p : ByteArray) (f : Fl) : PCall Tryd.prog Γ0 25 [sv p, eM f] [eM (f.1, p :: f.2)] := by
  by_cases h : f.1 = 0
  · rw [show eM f = _ from errM_zero h, show eM (f.1, p :: f.2) = _ from errM_zero (f := (f.1, p :: f.2)) h]; exact finN_c p
  · rw [show eM f = _ from errM_pos h, show eM (f.1, p :: f.2) = _ from errM_pos (f := (f.1, p :: f.2)) h]; exact finP_c p f.1 f.2
set_option maxHeartbeats 400000 in
theorem unwrap_c (p : ByteArray) (c : Int) (l : List ByteArray) : PCall Tryd.prog Γ0 131 [.cp (.agg [sv p, eOf c l])] [eOf c l] := by
  refine pcall_of Tryd.func131 rfl Tryd.ntmps131 (by kernel_rfl) rfl fun w0 I0 G0 => ?_
  refine aw_seq ?_
  refine aw_region ?_
  refine g_u (s_as_imm rfl rfl) ?_
  refine g_nil ?_
  refine normal_thn ?_
  refine aw_seq ?_
  refine aw_region ?_
  refine g_u (s_mv_imm rfl rfl) ?_
  refine g_u (s_nilCheck_cp rfl rfl) ?_
  refine g_u (s_fieldAddr_cp rfl rfl fa76_1 rfl rfl) ?_
  refine g_u (s_load_cp rfl rfl tA31 tS31 rfl rfl) ?_
  refine g_u (s_as_imm rfl rfl) ?_
  refine g_nil ?_
  refine normal_thn ?_
  refine aw_ret ?_
  exact ⟨⟨(rfl : toAV (Al.look _ _) = some _).trans (congrArg some (by rfl)), rfl⟩, trivial⟩

set_option maxHeartbeats 4000000 in
theorem asB_c (c : Int) (l : List ByteArray) (x : AV) (hx : x.width = 1) : MCall Tryd.prog Γ0 39 [.imm (eOf c l), .ifp 78 100001 0, refV (.pointer (some ⟨3, 78, none⟩)) 100002 (.int .u64 150), .imm (.v (.iface 110 (.agg #[(.pointer (some ⟨3, 77, none⟩))])))] [(100001, .box 77 (.imm x)), (100002, .box 78 (.ptr 100001 0))] (.imm (bv true)) [(100001, .box 77 (.imm (.cp (.agg [iv c])))), (100002, .box 78 (.ptr 100001 0))] := by
  have hX : Nat.beq (SV.width (.imm x)) 1 = true := by show Nat.beq x.width 1 = true; rw [hx]; rfl
  refine mcall_of (rs := [.imm (bv true)]) Tryd.func39 rfl Tryd.ntmps39 (by kernel_rfl) rfl rfl rfl rfl rfl fun w0 I0 G0 E => ?_
  refine aw_seq ?_
  refine aw_region ?_
  refine g_uG (s_box 1006 rfl rfl rfl rfl rfl rfl) rfl ?_
  refine g_u (s_as_imm rfl rfl) ?_
  refine g_nil ?_
  refine normal_thn ?_
  refine aw_block ?_
  refine aw_loop' (fun l : List ByteArray => [(0, .imm (eOf c l)), (1, .ifp 78 100001 0), (3, .imm (.v (.iface 110 (.agg #[(.pointer (some ⟨3, 77, none⟩))])))), (6, .ptr 1006 0), (1006, .box 89 (refV (.pointer (some ⟨3, 78, none⟩)) 100002 (.int .u64 150))), (100001, .box 77 (.imm x)), (100002, .box 78 (.ptr 100001 0))]) (fun _ => True) (fun l => l.length) (l) ?_ ⟨rfl, rfl, rfl, rfl, rfl, rfl, rfl, trivial⟩ ?_
  · trivial
  · rintro l -
    refine aw_block ?_
    refine aw_seq ?_
    refine aw_seq ?_
    refine aw_region ?_
    refine g_u (s_mv_imm rfl rfl) ?_
    refine g_u (s_extV rfl rfl (typeOf_e c _)) ?_
    refine g_u (s_mv_imm rfl rfl) ?_
    refine g_u (s_inv1 rfl rfl rfl (asB_e _)) ?_
    refine g_nil ?_
    refine normal_thn ?_
    refine aw_cond rfl (fun hb1 => ?_) (fun hb1 => ?_)
    · skip
      obtain rfl : l = [] := List.isEmpty_iff.1 hb1
      refine aw_seq ?_
      refine aw_region ?_
      refine g_u (s_load_box rfl rfl rfl tA89 tS89 rfl rfl rfl) ?_
      refine g_u (s_elemV rfl rfl rfl rfl rfl rfl rfl fE78) ?_
      refine g_u (s_mv_imm rfl rfl) ?_
      refine g_uG (s_valueOfC 1023 rfl rfl rfl rfl rfl rfl fV77) rfl ?_
      refine g_u (s_setV rfl rfl rfl rfl rfl rfl (by first | rfl | exact hX) tS77 rfl rfl rfl rfl fS77) ?_
      refine g_nil ?_
      refine normal_thn ?_
      refine aw_seq ?_
      refine aw_region ?_
      refine g_u (s_as_imm rfl rfl) ?_
      refine g_nil ?_
      refine normal_thn ?_
      refine aw_ret ?_
      refine ret_thn ?_
      refine ret_blk ?_
      refine ret_thn ?_
      refine ret_blk ?_
      exact ⟨⟨.inl ⟨_, rfl, ⟨(rfl : toAV (Al.look _ _) = some _).trans (congrArg some (by rfl)), rfl⟩⟩, trivial⟩, ⟨rfl, rfl, trivial⟩⟩
    · skip
      obtain ⟨p, ps, rfl⟩ : ∃ p ps, l = p :: ps := by cases l with | nil => exact absurd hb1 (by decide) | cons p ps => exact ⟨p, ps, rfl⟩
      refine aw_skip ?_
      refine normal_thn ?_
      refine aw_seq ?_
      refine aw_seq ?_
      refine aw_region ?_
      refine g_u (s_mv_imm rfl rfl) ?_
      refine g_u (s_hasNo rfl rfl (hs72_114)) ?_
      refine g_u (s_mv_tup rfl rfl) ?_
      refine g_u (s_extract rfl rfl rfl rfl) ?_
      refine g_u (s_extract rfl rfl rfl rfl) ?_
      refine g_u (s_as_imm rfl rfl) ?_
      refine g_u (s_as_imm rfl rfl) ?_
      refine g_nil ?_
      refine normal_thn ?_
      refine aw_seq ?_
      refine aw_region ?_
      refine g_u (s_mv_imm rfl rfl) ?_
      refine g_u (s_mv_imm rfl rfl) ?_
      refine g_skip rfl rfl rfl ?_
      refine g_skip rfl rfl rfl ?_
      refine g_skip rfl rfl rfl ?_
      refine g_u (s_pick_f rfl rfl rfl) ?_
      refine g_nil ?_
      refine normal_thn ?_
      refine aw_cond_false rfl ?_
      refine aw_skip ?_
      refine normal_thn ?_
      refine aw_seq ?_
      refine aw_region ?_
      refine g_u (s_mv_imm rfl rfl) ?_
      refine g_nil ?_
      refine normal_thn ?_
      refine aw_block ?_
      refine aw_seq ?_
      refine aw_region ?_
      refine g_u (s_hasYes rfl rfl (hs72_117)) ?_
      refine g_u (s_extract rfl rfl rfl rfl) ?_
      refine g_u (s_extract rfl rfl rfl rfl) ?_
      refine g_nil ?_
      refine normal_thn ?_
      refine aw_cond_true rfl ?_
      refine aw_seq ?_
      refine aw_region ?_
      refine g_u (s_as_imm rfl rfl) ?_
      refine g_nil ?_
      refine normal_thn ?_
      refine aw_seq ?_
      refine aw_region ?_
      refine g_u (s_mv_imm rfl rfl) ?_
      refine g_u (s_invC (unwrap_c p c ps) rfl rfl mu72) ?_
      refine g_u (s_as_imm rfl rfl) ?_
      refine g_nil ?_
      refine normal_thn ?_
      refine aw_seq ?_
      refine aw_region ?_
      refine g_u (s_mv_imm rfl rfl) ?_
      refine g_u (s_eqNI' rfl rfl (errOf_ifc _ _ _ _) rfl Tryd.underlying31) ?_
      refine g_nil ?_
      refine normal_thn ?_
      refine aw_cond_false rfl ?_
      refine aw_skip ?_
      refine normal_blk ?_
      refine normal_blk ?_
      refine normal_thn ?_
      refine ⟨ps, trivial, ⟨rfl, rfl, rfl, rfl, rfl, rfl, rfl, trivial⟩, by simp⟩

set_option maxHeartbeats 4000000 in
theorem asW_c (c : Int) (p : ByteArray) (ps : List ByteArray) (x : AV) (hx : x.width = 1) : MCall Tryd.prog Γ0 39 [.imm (eOf c (p :: ps)), .ifp 74 100001 0, refV (.pointer (some ⟨3, 74, none⟩)) 100002 (.int .u64 150), .imm (.v (.iface 110 (.agg #[(.pointer (some ⟨3, 72, none⟩))])))] [(100001, .box 72 (.imm x)), (100002, .box 74 (.ptr 100001 0))] (.imm (bv true)) [(100001, .box 72 (.imm (.cp (.agg [sv p, eOf c ps])))), (100002, .box 74 (.ptr 100001 0))] := by
  have hX : Nat.beq (SV.width (.imm x)) 1 = true := by show Nat.beq x.width 1 = true; rw [hx]; rfl
  refine mcall_of (rs := [.imm (bv true)]) Tryd.func39 rfl Tryd.ntmps39 (by kernel_rfl) rfl rfl rfl rfl rfl fun w0 I0 G0 E => ?_
  refine aw_seq ?_
  refine aw_region ?_
  refine g_uG (s_box 1006 rfl rfl rfl rfl rfl rfl) rfl ?_
  refine g_u (s_as_imm rfl rfl) ?_
  refine g_nil ?_
  refine normal_thn ?_
  refine aw_block ?_
  refine aw_loop' (fun l : List ByteArray => [(0, .imm (eOf c l)), (1, .ifp 74 100001 0), (3, .imm (.v (.iface 110 (.agg #[(.pointer (some ⟨3, 72, none⟩))])))), (6, .ptr 1006 0), (1006, .box 89 (refV (.pointer (some ⟨3, 74, none⟩)) 100002 (.int .u64 150))), (100001, .box 72 (.imm x)), (100002, .box 74 (.ptr 100001 0))]) (fun l => l = (p :: ps)) (fun l => l.length) ((p :: ps)) ?_ ⟨rfl, rfl, rfl, rfl, rfl, rfl, rfl, trivial⟩ ?_
  · rfl
  · rintro l rfl
    refine aw_block ?_
    refine aw_seq ?_
    refine aw_seq ?_
    refine aw_region ?_
    refine g_u (s_mv_imm rfl rfl) ?_
    refine g_u (s_extV rfl rfl (typeOf_e c _)) ?_
    refine g_u (s_mv_imm rfl rfl) ?_
    refine g_u (s_inv1 rfl rfl rfl (asW_e _)) ?_
    refine g_nil ?_
    refine normal_thn ?_
    refine aw_cond rfl (fun hb1 => ?_) (fun hb1 => ?_)
    · skip
      refine aw_seq ?_
      refine aw_region ?_
      refine g_u (s_load_box rfl rfl rfl tA89 tS89 rfl rfl rfl) ?_
      refine g_u (s_elemV rfl rfl rfl rfl rfl rfl rfl fE74) ?_
      refine g_u (s_mv_imm rfl rfl) ?_
      refine g_uG (s_valueOfC 1023 rfl rfl rfl rfl rfl rfl fV72) rfl ?_
      refine g_u (s_setV rfl rfl rfl rfl rfl rfl (by first | rfl | exact hX) tS72 rfl rfl rfl rfl fS72) ?_
      refine g_nil ?_
      refine normal_thn ?_
      refine aw_seq ?_
      refine aw_region ?_
      refine g_u (s_as_imm rfl rfl) ?_
      refine g_nil ?_
      refine normal_thn ?_
      refine aw_ret ?_
      refine ret_thn ?_
      refine ret_blk ?_
      refine ret_thn ?_
      refine ret_blk ?_
      exact ⟨⟨.inl ⟨_, rfl, ⟨(rfl : toAV (Al.look _ _) = some _).trans (congrArg some (by rfl)), rfl⟩⟩, trivial⟩, ⟨rfl, rfl, trivial⟩⟩
    · exact killT hb1 ((by rfl))

set_option maxHeartbeats 4000000 in
theorem asW0_c (c : Int) (x : AV) : MCall Tryd.prog Γ0 39 [.imm (eOf c []), .ifp 74 100001 0, refV (.pointer (some ⟨3, 74, none⟩)) 100002 (.int .u64 150), .imm (.v (.iface 110 (.agg #[(.pointer (some ⟨3, 72, none⟩))])))] [(100001, .box 72 (.imm x)), (100002, .box 74 (.ptr 100001 0))] (.imm (bv false)) [(100001, .box 72 (.imm x)), (100002, .box 74 (.ptr 100001 0))] := by
  refine mcall_of (rs := [.imm (bv false)]) Tryd.func39 rfl Tryd.ntmps39 (by kernel_rfl) rfl rfl rfl rfl rfl fun w0 I0 G0 E => ?_
  refine aw_seq ?_
  refine aw_region ?_
  refine g_uG (s_box 1006 rfl rfl rfl rfl rfl rfl) rfl ?_
  refine g_u (s_as_imm rfl rfl) ?_
  refine g_nil ?_
  refine normal_thn ?_
  refine aw_block ?_
  refine aw_loop' (fun l : List ByteArray => [(0, .imm (eOf c l)), (1, .ifp 74 100001 0), (3, .imm (.v (.iface 110 (.agg #[(.pointer (some ⟨3, 72, none⟩))])))), (6, .ptr 1006 0), (1006, .box 89 (refV (.pointer (some ⟨3, 74, none⟩)) 100002 (.int .u64 150))), (100001, .box 72 (.imm x)), (100002, .box 74 (.ptr 100001 0))]) (fun l => l = []) (fun l => l.length) ([]) ?_ ⟨rfl, rfl, rfl, rfl, rfl, rfl, rfl, trivial⟩ ?_
  · rfl
  · rintro l rfl
    refine aw_block ?_
    refine aw_seq ?_
    refine aw_seq ?_
    refine aw_region ?_
    refine g_u (s_mv_imm rfl rfl) ?_
    refine g_u (s_extV rfl rfl (typeOf_e c _)) ?_
    refine g_u (s_mv_imm rfl rfl) ?_
    refine g_u (s_inv1 rfl rfl rfl (asW_e _)) ?_
    refine g_nil ?_
    refine normal_thn ?_
    refine aw_cond rfl (fun hb1 => ?_) (fun hb1 => ?_)
    · exact killF hb1 ((by rfl))
    · skip
      refine aw_skip ?_
      refine normal_thn ?_
      refine aw_seq ?_
      refine aw_seq ?_
      refine aw_region ?_
      refine g_u (s_mv_imm rfl rfl) ?_
      refine g_u (s_hasNo rfl rfl (hs77_114)) ?_
      refine g_u (s_mv_tup rfl rfl) ?_
      refine g_u (s_extract rfl rfl rfl rfl) ?_
      refine g_u (s_extract rfl rfl rfl rfl) ?_
      refine g_u (s_as_imm rfl rfl) ?_
      refine g_u (s_as_imm rfl rfl) ?_
      refine g_nil ?_
      refine normal_thn ?_
      refine aw_seq ?_
      refine aw_region ?_
      refine g_u (s_mv_imm rfl rfl) ?_
      refine g_u (s_mv_imm rfl rfl) ?_
      refine g_skip rfl rfl rfl ?_
      refine g_skip rfl rfl rfl ?_
      refine g_skip rfl rfl rfl ?_
      refine g_u (s_pick_f rfl rfl rfl) ?_
      refine g_nil ?_
      refine normal_thn ?_
      refine aw_cond_false rfl ?_
      refine aw_skip ?_
      refine normal_thn ?_
      refine aw_seq ?_
      refine aw_region ?_
      refine g_u (s_mv_imm rfl rfl) ?_
      refine g_nil ?_
      refine normal_thn ?_
      refine aw_block ?_
      refine aw_seq ?_
      refine aw_region ?_
      refine g_u (s_hasNo rfl rfl (hs77_117)) ?_
      refine g_u (s_extract rfl rfl rfl rfl) ?_
      refine g_u (s_extract rfl rfl rfl rfl) ?_
      refine g_nil ?_
      refine normal_thn ?_
      refine aw_cond_false rfl ?_
      refine aw_seq ?_
      refine aw_region ?_
      refine g_u (s_hasNo rfl rfl (hs77_119)) ?_
      refine g_u (s_extract rfl rfl rfl rfl) ?_
      refine g_u (s_extract rfl rfl rfl rfl) ?_
      refine g_nil ?_
      refine normal_thn ?_
      refine aw_cond_false rfl ?_
      refine aw_seq ?_
      refine aw_region ?_
      refine g_u (s_as_imm rfl rfl) ?_
      refine g_nil ?_
      refine normal_thn ?_
      refine aw_seq ?_
      refine aw_region ?_
      refine g_u (s_as_imm rfl rfl) ?_
      refine g_nil ?_
      refine normal_thn ?_
      refine aw_ret ?_
      refine ret_blk ?_
      refine ret_blk ?_
      refine ret_thn ?_
      refine ret_blk ?_
      exact ⟨⟨.inl ⟨_, rfl, ⟨(rfl : toAV (Al.look _ _) = some _).trans (congrArg some (by rfl)), rfl⟩⟩, trivial⟩, ⟨rfl, rfl, trivial⟩⟩

set_option maxHeartbeats 4000000 in
theorem AsB_c (c : Int) (l : List ByteArray) (x : AV) (hx : x.width = 1) : MCall Tryd.prog Γ0 27 [.imm (eOf c l), .ifp 78 100001 0] [(100001, .box 77 (.imm x))] (.imm (bv true)) [(100001, .box 77 (.imm (.cp (.agg [iv c]))))] := by
  refine mcall_of (rs := [.imm (bv true)]) Tryd.func27 rfl Tryd.ntmps27 (by kernel_rfl) rfl rfl rfl rfl rfl fun w0 I0 G0 E => ?_
  refine aw_seq ?_
  refine aw_region ?_
  refine g_u (s_as_imm rfl rfl) ?_
  refine g_nil ?_
  refine normal_thn ?_
  refine aw_seq ?_
  refine aw_seq ?_
  refine aw_region ?_
  refine g_u (s_mv_imm rfl rfl) ?_
  refine g_u (s_eqNI' rfl rfl (errOf_ifc _ _ _ _) rfl Tryd.underlying31) ?_
  refine g_nil ?_
  refine normal_thn ?_
  refine aw_cond_false rfl ?_
  refine aw_skip ?_
  refine normal_thn ?_
  refine aw_seq ?_
  refine aw_seq ?_
  refine aw_region ?_
  refine g_u (s_mv_ifp rfl rfl) ?_
  refine g_u (s_eqNP rfl rfl rfl Tryd.underlying20) ?_
  refine g_nil ?_
  refine normal_thn ?_
  refine aw_cond_false rfl ?_
  refine aw_skip ?_
  refine normal_thn ?_
  refine aw_seq ?_
  refine aw_region ?_
  refine g_u (s_mv_ifp rfl rfl) ?_
  refine g_uG (s_valueOfP 1014 rfl rfl rfl rfl rfl rfl rfl fV78) rfl ?_
  refine g_uG (s_alloc' 1005 rfl rfl rfl tZ89) rfl ?_
  refine g_u (s_store rfl rfl rfl rfl tS89 rfl rfl) ?_
  refine g_nil ?_
  refine normal_thn ?_
  refine aw_seq ?_
  refine aw_region ?_
  refine g_u (s_load_box rfl rfl rfl tA89 tS89 rfl rfl rfl) ?_
  refine g_u (s_refRaw rfl rfl rfl rfl rfl fT78) ?_
  refine g_u (s_as_imm rfl rfl) ?_
  refine g_nil ?_
  refine normal_thn ?_
  refine aw_seq ?_
  refine aw_seq ?_
  refine aw_region ?_
  refine g_u (s_mv_imm rfl rfl) ?_
  refine g_u (s_inv0 rfl rfl (inv0_raw (v := (.iface 110 (.agg #[(.pointer (some ⟨3, 78, none⟩))]))) rfl rfl fK78)) ?_
  refine g_u (s_neI rfl rfl rfl) ?_
  refine g_u (s_mv_imm rfl rfl) ?_
  refine g_case (t := 20) rfl ?_
  rintro (hb1 | hb1)
  · exact killF hb1 ((by rfl))
  · rw [hb1]
    refine g_run rfl rfl (s_load_box rfl rfl rfl tA89 tS89 rfl rfl rfl) ?_
    refine g_run rfl rfl (s_isNilV rfl rfl rfl rfl rfl fN78) ?_
    refine g_u (s_pick_f rfl rfl rfl) ?_
    refine g_nil ?_
    refine normal_thn ?_
    refine aw_cond_false rfl ?_
    refine aw_skip ?_
    refine normal_thn ?_
    refine aw_seq ?_
    refine aw_region ?_
    refine g_u (s_mv_imm rfl rfl) ?_
    refine g_u (s_inv0 rfl rfl (inv0_raw (v := (.iface 110 (.agg #[(.pointer (some ⟨3, 78, none⟩))]))) rfl rfl fL78)) ?_
    refine g_u (s_as_imm rfl rfl) ?_
    refine g_nil ?_
    refine normal_thn ?_
    refine aw_seq ?_
    refine aw_seq ?_
    refine aw_region ?_
    refine g_u (s_mv_imm rfl rfl) ?_
    refine g_u (s_inv0 rfl rfl (inv0_raw (v := (.iface 110 (.agg #[(.pointer (some ⟨3, 77, none⟩))]))) rfl rfl fK77)) ?_
    refine g_u (s_neI rfl rfl rfl) ?_
    refine g_u (s_mv_imm rfl rfl) ?_
    refine g_case (t := 30) rfl ?_
    rintro (hb2 | hb2)
    · rw [hb2]
      refine g_run rfl rfl (s_mv_imm rfl rfl) ?_
      refine g_run rfl rfl (s_loadGlob rfl rfl rfl tA92 tS92) ?_
      refine g_run rfl rfl (s_inv1 rfl rfl rfl (inv1_raw (v := (.iface 110 (.agg #[(.pointer (some ⟨3, 77, none⟩))]))) (z := (.iface 110 (.agg #[(.pointer (some ⟨3, 31, none⟩))]))) rfl rfl rfl fI77)) ?_
      refine g_run rfl rfl (s_not rfl rfl) ?_
      refine g_u (s_pick_t rfl rfl rfl) ?_
      refine g_nil ?_
      refine normal_thn ?_
      refine aw_cond rfl (fun hb3 => ?_) (fun hb3 => ?_)
      · exact killF hb3 ((by rfl))
      · skip
        refine aw_skip ?_
        refine normal_thn ?_
        refine aw_seq ?_
        refine aw_region ?_
        refine g_u (s_mv_imm rfl rfl) ?_
        refine g_u (s_mv_ifp rfl rfl) ?_
        refine g_u (s_load_box rfl rfl rfl tA89 tS89 rfl rfl rfl) ?_
        refine g_u (s_mv_imm rfl rfl) ?_
        refine g_uG (s_mcall [(100001, 100001), (100002, 1014)] (asB_c c l x hx) rfl rfl ⟨.inl rfl, .inl rfl, .inl rfl, .inl rfl, trivial⟩ ⟨rfl, rfl, trivial⟩ rfl rfl rfl) rfl ?_
        refine g_u (s_as_imm rfl rfl) ?_
        refine g_nil ?_
        refine normal_thn ?_
        refine aw_ret ?_
        exact ⟨⟨.inl ⟨_, rfl, ⟨(rfl : toAV (Al.look _ _) = some _).trans (congrArg some (by rfl)), rfl⟩⟩, trivial⟩, ⟨rfl, trivial⟩⟩
    · exact killT hb2 ((by rfl))

set_option maxHeartbeats 4000000 in
theorem AsW_c (c : Int) (p : ByteArray) (ps : List ByteArray) (x : AV) (hx : x.width = 1) : MCall Tryd.prog Γ0 27 [.imm (eOf c (p :: ps)), .ifp 74 100001 0] [(100001, .box 72 (.imm x))] (.imm (bv true)) [(100001, .box 72 (.imm (.cp (.agg [sv p, eOf c ps]))))] := by
  refine mcall_of (rs := [.imm (bv true)]) Tryd.func27 rfl Tryd.ntmps27 (by kernel_rfl) rfl rfl rfl rfl rfl fun w0 I0 G0 E => ?_
  refine aw_seq ?_
  refine aw_region ?_
  refine g_u (s_as_imm rfl rfl) ?_
  refine g_nil ?_
  refine normal_thn ?_
  refine aw_seq ?_
  refine aw_seq ?_
  refine aw_region ?_
  refine g_u (s_mv_imm rfl rfl) ?_
  refine g_u (s_eqNI' rfl rfl (errOf_ifc _ _ _ _) rfl Tryd.underlying31) ?_
  refine g_nil ?_
  refine normal_thn ?_
  refine aw_cond_false rfl ?_
  refine aw_skip ?_
  refine normal_thn ?_
  refine aw_seq ?_
  refine aw_seq ?_
  refine aw_region ?_
  refine g_u (s_mv_ifp rfl rfl) ?_
  refine g_u (s_eqNP rfl rfl rfl Tryd.underlying20) ?_
  refine g_nil ?_
  refine normal_thn ?_
  refine aw_cond_false rfl ?_
  refine aw_skip ?_
  refine normal_thn ?_
  refine aw_seq ?_
  refine aw_region ?_
  refine g_u (s_mv_ifp rfl rfl) ?_
  refine g_uG (s_valueOfP 1014 rfl rfl rfl rfl rfl rfl rfl fV74) rfl ?_
  refine g_uG (s_alloc' 1005 rfl rfl rfl tZ89) rfl ?_
  refine g_u (s_store rfl rfl rfl rfl tS89 rfl rfl) ?_
  refine g_nil ?_
  refine normal_thn ?_
  refine aw_seq ?_
  refine aw_region ?_
  refine g_u (s_load_box rfl rfl rfl tA89 tS89 rfl rfl rfl) ?_
  refine g_u (s_refRaw rfl rfl rfl rfl rfl fT74) ?_
  refine g_u (s_as_imm rfl rfl) ?_
  refine g_nil ?_
  refine normal_thn ?_
  refine aw_seq ?_
  refine aw_seq ?_
  refine aw_region ?_
  refine g_u (s_mv_imm rfl rfl) ?_
  refine g_u (s_inv0 rfl rfl (inv0_raw (v := (.iface 110 (.agg #[(.pointer (some ⟨3, 74, none⟩))]))) rfl rfl fK74)) ?_
  refine g_u (s_neI rfl rfl rfl) ?_
  refine g_u (s_mv_imm rfl rfl) ?_
  refine g_case (t := 20) rfl ?_
  rintro (hb1 | hb1)
  · exact killF hb1 ((by rfl))
  · rw [hb1]
    refine g_run rfl rfl (s_load_box rfl rfl rfl tA89 tS89 rfl rfl rfl) ?_
    refine g_run rfl rfl (s_isNilV rfl rfl rfl rfl rfl fN74) ?_
    refine g_u (s_pick_f rfl rfl rfl) ?_
    refine g_nil ?_
    refine normal_thn ?_
    refine aw_cond_false rfl ?_
    refine aw_skip ?_
    refine normal_thn ?_
    refine aw_seq ?_
    refine aw_region ?_
    refine g_u (s_mv_imm rfl rfl) ?_
    refine g_u (s_inv0 rfl rfl (inv0_raw (v := (.iface 110 (.agg #[(.pointer (some ⟨3, 74, none⟩))]))) rfl rfl fL74)) ?_
    refine g_u (s_as_imm rfl rfl) ?_
    refine g_nil ?_
    refine normal_thn ?_
    refine aw_seq ?_
    refine aw_seq ?_
    refine aw_region ?_
    refine g_u (s_mv_imm rfl rfl) ?_
    refine g_u (s_inv0 rfl rfl (inv0_raw (v := (.iface 110 (.agg #[(.pointer (some ⟨3, 72, none⟩))]))) rfl rfl fK72)) ?_
    refine g_u (s_neI rfl rfl rfl) ?_
    refine g_u (s_mv_imm rfl rfl) ?_
    refine g_case (t := 30) rfl ?_
    rintro (hb2 | hb2)
    · rw [hb2]
      refine g_run rfl rfl (s_mv_imm rfl rfl) ?_
      refine g_run rfl rfl (s_loadGlob rfl rfl rfl tA92 tS92) ?_
      refine g_run rfl rfl (s_inv1 rfl rfl rfl (inv1_raw (v := (.iface 110 (.agg #[(.pointer (some ⟨3, 72, none⟩))]))) (z := (.iface 110 (.agg #[(.pointer (some ⟨3, 31, none⟩))]))) rfl rfl rfl fI72)) ?_
      refine g_run rfl rfl (s_not rfl rfl) ?_
      refine g_u (s_pick_t rfl rfl rfl) ?_
      refine g_nil ?_
      refine normal_thn ?_
      refine aw_cond rfl (fun hb3 => ?_) (fun hb3 => ?_)
      · exact killF hb3 ((by rfl))
      · skip
        refine aw_skip ?_
        refine normal_thn ?_
        refine aw_seq ?_
        refine aw_region ?_
        refine g_u (s_mv_imm rfl rfl) ?_
        refine g_u (s_mv_ifp rfl rfl) ?_
        refine g_u (s_load_box rfl rfl rfl tA89 tS89 rfl rfl rfl) ?_
        refine g_u (s_mv_imm rfl rfl) ?_
        refine g_uG (s_mcall [(100001, 100001), (100002, 1014)] (asW_c c p ps x hx) rfl rfl ⟨.inl rfl, .inl rfl, .inl rfl, .inl rfl, trivial⟩ ⟨rfl, rfl, trivial⟩ rfl rfl rfl) rfl ?_
        refine g_u (s_as_imm rfl rfl) ?_
        refine g_nil ?_
        refine normal_thn ?_
        refine aw_ret ?_
        exact ⟨⟨.inl ⟨_, rfl, ⟨(rfl : toAV (Al.look _ _) = some _).trans (congrArg some (by rfl)), rfl⟩⟩, trivial⟩, ⟨rfl, trivial⟩⟩
    · exact killT hb2 ((by rfl))

set_option maxHeartbeats 4000000 in
theorem AsW0_c (c : Int) (x : AV) : MCall Tryd.prog Γ0 27 [.imm (eOf c []), .ifp 74 100001 0] [(100001, .box 72 (.imm x))] (.imm (bv false)) [(100001, .box 72 (.imm x))] := by
  refine mcall_of (rs := [.imm (bv false)]) Tryd.func27 rfl Tryd.ntmps27 (by kernel_rfl) rfl rfl rfl rfl rfl fun w0 I0 G0 E => ?_
  refine aw_seq ?_
  refine aw_region ?_
  refine g_u (s_as_imm rfl rfl) ?_
  refine g_nil ?_
  refine normal_thn ?_
  refine aw_seq ?_
  refine aw_seq ?_
  refine aw_region ?_
  refine g_u (s_mv_imm rfl rfl) ?_
  refine g_u (s_eqNI' rfl rfl (errOf_ifc _ _ _ _) rfl Tryd.underlying31) ?_
  refine g_nil ?_
  refine normal_thn ?_
  refine aw_cond_false rfl ?_
  refine aw_skip ?_
  refine normal_thn ?_
  refine aw_seq ?_
  refine aw_seq ?_
  refine aw_region ?_
  refine g_u (s_mv_ifp rfl rfl) ?_
  refine g_u (s_eqNP rfl rfl rfl Tryd.underlying20) ?_
  refine g_nil ?_
  refine normal_thn ?_
  refine aw_cond_false rfl ?_
  refine aw_skip ?_
  refine normal_thn ?_
  refine aw_seq ?_
  refine aw_region ?_
  refine g_u (s_mv_ifp rfl rfl) ?_
  refine g_uG (s_valueOfP 1014 rfl rfl rfl rfl rfl rfl rfl fV74) rfl ?_
  refine g_uG (s_alloc' 1005 rfl rfl rfl tZ89) rfl ?_
  refine g_u (s_store rfl rfl rfl rfl tS89 rfl rfl) ?_
  refine g_nil ?_
  refine normal_thn ?_
  refine aw_seq ?_
  refine aw_region ?_
  refine g_u (s_load_box rfl rfl rfl tA89 tS89 rfl rfl rfl) ?_
  refine g_u (s_refRaw rfl rfl rfl rfl rfl fT74) ?_
  refine g_u (s_as_imm rfl rfl) ?_
  refine g_nil ?_
  refine normal_thn ?_
  refine aw_seq ?_
  refine aw_seq ?_
  refine aw_region ?_
  refine g_u (s_mv_imm rfl rfl) ?_
  refine g_u (s_inv0 rfl rfl (inv0_raw (v := (.iface 110 (.agg #[(.pointer (some ⟨3, 74, none⟩))]))) rfl rfl fK74)) ?_
  refine g_u (s_neI rfl rfl rfl) ?_
  refine g_u (s_mv_imm rfl rfl) ?_
  refine g_case (t := 20) rfl ?_
  rintro (hb1 | hb1)
  · exact killF hb1 ((by rfl))
  · rw [hb1]
    refine g_run rfl rfl (s_load_box rfl rfl rfl tA89 tS89 rfl rfl rfl) ?_
    refine g_run rfl rfl (s_isNilV rfl rfl rfl rfl rfl fN74) ?_
    refine g_u (s_pick_f rfl rfl rfl) ?_
    refine g_nil ?_
    refine normal_thn ?_
    refine aw_cond_false rfl ?_
    refine aw_skip ?_
    refine normal_thn ?_
    refine aw_seq ?_
    refine aw_region ?_
    refine g_u (s_mv_imm rfl rfl) ?_
    refine g_u (s_inv0 rfl rfl (inv0_raw (v := (.iface 110 (.agg #[(.pointer (some ⟨3, 74, none⟩))]))) rfl rfl fL74)) ?_
    refine g_u (s_as_imm rfl rfl) ?_
    refine g_nil ?_
    refine normal_thn ?_
    refine aw_seq ?_
    refine aw_seq ?_
    refine aw_region ?_
    refine g_u (s_mv_imm rfl rfl) ?_
    refine g_u (s_inv0 rfl rfl (inv0_raw (v := (.iface 110 (.agg #[(.pointer (some ⟨3, 72, none⟩))]))) rfl rfl fK72)) ?_
    refine g_u (s_neI rfl rfl rfl) ?_
    refine g_u (s_mv_imm rfl rfl) ?_
    refine g_case (t := 30) rfl ?_
    rintro (hb2 | hb2)
    · rw [hb2]
      refine g_run rfl rfl (s_mv_imm rfl rfl) ?_
      refine g_run rfl rfl (s_loadGlob rfl rfl rfl tA92 tS92) ?_
      refine g_run rfl rfl (s_inv1 rfl rfl rfl (inv1_raw (v := (.iface 110 (.agg #[(.pointer (some ⟨3, 72, none⟩))]))) (z := (.iface 110 (.agg #[(.pointer (some ⟨3, 31, none⟩))]))) rfl rfl rfl fI72)) ?_
      refine g_run rfl rfl (s_not rfl rfl) ?_
      refine g_u (s_pick_t rfl rfl rfl) ?_
      refine g_nil ?_
      refine normal_thn ?_
      refine aw_cond rfl (fun hb3 => ?_) (fun hb3 => ?_)
      · exact killF hb3 ((by rfl))
      · skip
        refine aw_skip ?_
        refine normal_thn ?_
        refine aw_seq ?_
        refine aw_region ?_
        refine g_u (s_mv_imm rfl rfl) ?_
        refine g_u (s_mv_ifp rfl rfl) ?_
        refine g_u (s_load_box rfl rfl rfl tA89 tS89 rfl rfl rfl) ?_
        refine g_u (s_mv_imm rfl rfl) ?_
        refine g_uG (s_mcall [(100001, 100001), (100002, 1014)] (asW0_c c x) rfl rfl ⟨.inl rfl, .inl rfl, .inl rfl, .inl rfl, trivial⟩ ⟨rfl, rfl, trivial⟩ rfl rfl rfl) rfl ?_
        refine g_u (s_as_imm rfl rfl) ?_
        refine g_nil ?_
        refine normal_thn ?_
        refine aw_ret ?_
        exact ⟨⟨.inl ⟨_, rfl, ⟨(rfl : toAV (Al.look _ _) = some _).trans (congrArg some (by rfl)), rfl⟩⟩, trivial⟩, ⟨rfl, trivial⟩⟩
    · exact killT hb2 ((by rfl))

set_option maxHeartbeats 400000 in
theorem AsBn_c (x : AV) : MCall Tryd.prog Γ0 27 [.imm (.v .nilIface), .ifp 78 100001 0] [(100001, .box 77 (.imm x))] (.imm (bv false)) [(100001, .box 77 (.imm x))] := by
  refine mcall_of (rs := [.imm (bv false)]) Tryd.func27 rfl Tryd.ntmps27 (by kernel_rfl) rfl rfl rfl rfl rfl fun w0 I0 G0 E => ?_
  refine aw_seq ?_
  refine aw_region ?_
  refine g_u (s_as_imm rfl rfl) ?_
  refine g_nil ?_
  refine normal_thn ?_
  refine aw_seq ?_
  refine aw_seq ?_
  refine aw_region ?_
  refine g_u (s_mv_imm rfl rfl) ?_
  refine g_u (s_eqNN rfl rfl Tryd.underlying31) ?_
  refine g_nil ?_
  refine normal_thn ?_
  refine aw_cond_true rfl ?_
  refine aw_seq ?_
  refine aw_region ?_
  refine g_u (s_as_imm rfl rfl) ?_
  refine g_nil ?_
  refine normal_thn ?_
  refine aw_ret ?_
  refine ret_thn ?_
  exact ⟨⟨.inl ⟨_, rfl, ⟨(rfl : toAV (Al.look _ _) = some _).trans (congrArg some (by rfl)), rfl⟩⟩, trivial⟩, ⟨rfl, trivial⟩⟩

set_option maxHeartbeats 400000 in
theorem AsWn_c (x : AV) : MCall Tryd.prog Γ0 27 [.imm (.v .nilIface), .ifp 74 100001 0] [(100001, .box 72 (.imm x))] (.imm (bv false)) [(100001, .box 72 (.imm x))] := by
  refine mcall_of (rs := [.imm (bv false)]) Tryd.func27 rfl Tryd.ntmps27 (by kernel_rfl) rfl rfl rfl rfl rfl fun w0 I0 G0 E => ?_
  refine aw_seq ?_
  refine aw_region ?_
  refine g_u (s_as_imm rfl rfl) ?_
  refine g_nil ?_
  refine normal_thn ?_
  refine aw_seq ?_
  refine aw_seq ?_
  refine aw_region ?_
  refine g_u (s_mv_imm rfl rfl) ?_
  refine g_u (s_eqNN rfl rfl Tryd.underlying31) ?_
  refine g_nil ?_
  refine normal_thn ?_
  refine aw_cond_true rfl ?_
  refine aw_seq ?_
  refine aw_region ?_
  refine g_u (s_as_imm rfl rfl) ?_
  refine g_nil ?_
  refine normal_thn ?_
  refine aw_ret ?_
  refine ret_thn ?_
  exact ⟨⟨.inl ⟨_, rfl, ⟨(rfl : toAV (Al.look _ _) = some _).trans (congrArg some (by rfl)), rfl⟩⟩, trivial⟩, ⟨rfl, trivial⟩⟩

set_option maxHeartbeats 400000 in
theorem foP_c (c : Int) (l : List ByteArray) : PCall Tryd.prog Γ0 13 [eOf c l] [iv c] := by
  refine pcall_of Tryd.func13 rfl Tryd.ntmps13 (by kernel_rfl) rfl fun w0 I0 G0 => ?_
  refine aw_seq ?_
  refine aw_region ?_
  refine g_u (s_as_imm rfl rfl) ?_
  refine g_nil ?_
  refine normal_thn ?_
  refine aw_seq ?_
  refine aw_region ?_
  refine g_uG (s_alloc' 1003 rfl rfl rfl tZ77) rfl ?_
  refine g_nil ?_
  refine normal_thn ?_
  refine aw_seq ?_
  refine aw_seq ?_
  refine aw_region ?_
  refine g_u (s_mv_imm rfl rfl) ?_
  refine g_u (s_makeIfp rfl rfl nI78) ?_
  refine g_uG (s_mcall [(100001, 1003)] (AsB_c c l z77 rfl) rfl rfl ⟨.inl rfl, .inl rfl, trivial⟩ ⟨rfl, trivial⟩ rfl rfl rfl) rfl ?_
  refine g_nil ?_
  refine normal_thn ?_
  refine aw_cond_true rfl ?_
  refine aw_seq ?_
  refine aw_region ?_
  refine g_u (s_load_imm rfl rfl rfl tA77 tS77 rfl rfl) ?_
  refine g_u (s_nilCheck_cp rfl rfl) ?_
  refine g_u (s_fieldAddr_cp rfl rfl fa80_0 rfl rfl) ?_
  refine g_u (s_load_cp rfl rfl tA28 tS28 rfl rfl) ?_
  refine g_u (s_as_imm rfl rfl) ?_
  refine g_nil ?_
  refine normal_thn ?_
  refine aw_ret ?_
  refine ret_thn ?_
  exact ⟨⟨(rfl : toAV (Al.look _ _) = some _).trans (congrArg some (by rfl)), rfl⟩, trivial⟩

set_option maxHeartbeats 400000 in
theorem foN_c : PCall Tryd.prog Γ0 13 [.v .nilIface] [iv 0] := by
  refine pcall_of Tryd.func13 rfl Tryd.ntmps13 (by kernel_rfl) rfl fun w0 I0 G0 => ?_
  refine aw_seq ?_
  refine aw_region ?_
  refine g_u (s_as_imm rfl rfl) ?_
  refine g_nil ?_
  refine normal_thn ?_
  refine aw_seq ?_
  refine aw_region ?_
  refine g_uG (s_alloc' 1003 rfl rfl rfl tZ77) rfl ?_
  refine g_nil ?_
  refine normal_thn ?_
  refine aw_seq ?_
  refine aw_seq ?_
  refine aw_region ?_
  refine g_u (s_mv_imm rfl rfl) ?_
  refine g_u (s_makeIfp rfl rfl nI78) ?_
  refine g_uG (s_mcall [(100001, 1003)] (AsBn_c z77) rfl rfl ⟨.inl rfl, .inl rfl, trivial⟩ ⟨rfl, trivial⟩ rfl rfl rfl) rfl ?_
  refine g_nil ?_
  refine normal_thn ?_
  refine aw_cond_false rfl ?_
  refine aw_skip ?_
  refine normal_thn ?_
  refine aw_seq ?_
  refine aw_region ?_
  refine g_u (s_as_imm rfl rfl) ?_
  refine g_nil ?_
  refine normal_thn ?_
  refine aw_ret ?_
  exact ⟨⟨(rfl : toAV (Al.look _ _) = some _).trans (congrArg some (by rfl)), rfl⟩, trivial⟩

theorem fof_c (c : Int) (l : List ByteArray) : PCall Tryd.prog Γ0 13 [eM (c, l)] [iv c] := by
  by_cases h : c = 0
  · rw [show eM (c, l) = _ from errM_zero (f := (c, l)) h, h]; exact foN_c
  · rw [show eM (c, l) = _ from errM_pos (f := (c, l)) h]; exact foP_c c l
set_option maxHeartbeats 4000000 in
theorem fpP_c (c : Int) (l0 : List ByteArray) (hl : l0.length ≤ 1000000) : PCall Tryd.prog Γ0 12 [eOf c l0] [.sl 1 (l0.map fun x => sv x)] := by
  refine pcall_of Tryd.func12 rfl Tryd.ntmps12 (by kernel_rfl) rfl fun w0 I0 G0 => ?_
  refine aw_seq ?_
  refine aw_region ?_
  refine g_u (s_as_imm rfl rfl) ?_
  refine g_nil ?_
  refine normal_thn ?_
  refine aw_seq ?_
  refine aw_region ?_
  refine g_u (s_as_imm rfl rfl) ?_
  refine g_nil ?_
  refine normal_thn ?_
  refine aw_seq ?_
  refine aw_newtok 3003 3 1 rfl rfl rfl rfl ?_
  refine aw_region ?_
  refine g_uG (s_alloc' 1004 rfl rfl rfl tZ72) rfl ?_
  refine g_nil ?_
  refine normal_thn ?_
  refine aw_seq ?_
  refine aw_block ?_
  refine aw_loop' (fun j : Nat × List ByteArray × AV => [(0, .imm (eOf c j.2.1)), (3, .slg 3003 1 ((l0.take j.1).map fun x => sv x)), (3003, .tok 1 ((l0.take j.1).map fun x => sv x)), (4, .ptr 1004 0), (1004, .box 72 (.imm j.2.2))]) (fun j => j.1 ≤ l0.length ∧ j.2.1 = l0.drop j.1 ∧ j.2.2.width = 1) (fun j => j.2.1.length) (⟨0, l0, z72⟩) ?_ ⟨rfl, rfl, rfl, rfl, rfl, trivial⟩ ?_
  · exact ⟨Nat.zero_le _, rfl, rfl⟩
  · rintro ⟨k, l, x⟩ ⟨h1, h2, h3⟩; dsimp only at h1 h2 h3
    refine aw_seq ?_
    refine aw_seq ?_
    rcases l with _ | ⟨p, ps⟩
    · skip
      refine aw_region ?_
      refine g_u (s_mv_imm rfl rfl) ?_
      refine g_u (s_makeIfp rfl rfl nI74) ?_
      refine g_uG (s_mcall [(100001, 1004)] (AsW0_c c x) rfl rfl ⟨.inl rfl, .inl rfl, trivial⟩ ⟨rfl, trivial⟩ rfl rfl rfl) rfl ?_
      refine g_nil ?_
      refine normal_thn ?_
      refine aw_cond_false rfl ?_
      refine aw_exit ?_
      refine exit_thn ?_
      refine exit_thn ?_
      refine exit_blk ?_
      refine normal_thn ?_
      refine aw_seq ?_
      refine aw_region ?_
      refine g_u (s_mv_slg rfl rfl) ?_
      refine g_u (s_as_slg rfl rfl) ?_
      refine g_nil ?_
      refine normal_thn ?_
      refine aw_ret ?_
      exact ⟨⟨(rfl : toAV (Al.look _ _) = some _).trans (congrArg some (by (have hk0 : l0.length ≤ k := (by have e := congrArg List.length h2; simp only [List.length_nil, List.length_drop] at e; omega); show AV.sl 1 (List.map _ (List.take k l0)) = _; rw [List.take_of_length_le hk0]))), rfl⟩, trivial⟩
    · skip
      refine aw_region ?_
      refine g_u (s_mv_imm rfl rfl) ?_
      refine g_u (s_makeIfp rfl rfl nI74) ?_
      refine g_uG (s_mcall [(100001, 1004)] (AsW_c c p ps x h3) rfl rfl ⟨.inl rfl, .inl rfl, trivial⟩ ⟨rfl, trivial⟩ rfl rfl rfl) rfl ?_
      refine g_nil ?_
      refine normal_thn ?_
      refine aw_cond_true rfl ?_
      refine aw_skip ?_
      refine normal_thn ?_
      refine aw_block ?_
      refine aw_seq ?_
      refine aw_region ?_
      refine g_u (s_mv_slg rfl rfl) ?_
      refine g_u (s_load_imm rfl rfl rfl tA72 tS72 rfl rfl) ?_
      refine g_u (s_nilCheck_cp rfl rfl) ?_
      refine g_u (s_fieldAddr_cp rfl rfl fa76_0 rfl rfl) ?_
      refine g_u (s_load_cp rfl rfl tA9 tS9 rfl rfl) ?_
      refine g_u (s_buildSlice (X0 := z9) rfl Tryd.underlying29 tS9 tZ9 rfl rfl rfl rfl rfl rfl rfl rfl) ?_
      refine g_u (s_append rfl rfl rfl rfl rfl Tryd.underlying29 Tryd.underlying29 tS9 zv9 rfl (by decide) by9 (by (try dsimp only); simp only [List.length_append, List.length_cons, List.length_nil, List.length_map, List.length_take]; omega) (by (try dsimp only); simp only [List.length_append, List.length_cons, List.length_nil, List.length_map, List.length_take]; omega)) ?_
      refine g_u (s_as_slg rfl rfl) ?_
      refine g_nil ?_
      refine normal_thn ?_
      refine aw_region ?_
      refine g_u (s_load_imm rfl rfl rfl tA72 tS72 rfl rfl) ?_
      refine g_u (s_nilCheck_cp rfl rfl) ?_
      refine g_u (s_fieldAddr_cp rfl rfl fa76_1 rfl rfl) ?_
      refine g_u (s_load_cp rfl rfl tA31 tS31 rfl rfl) ?_
      refine g_u (s_as_imm rfl rfl) ?_
      refine g_nil ?_
      refine normal_blk ?_
      refine normal_thn ?_
      have hk : k < l0.length := by have e := congrArg List.length h2; simp only [List.length_cons, List.length_drop] at e; omega
      have ed := drop_nth (d := (⟨#[]⟩ : ByteArray)) hk
      rw [← h2] at ed
      have ep := (List.cons.inj ed).1
      have et : ((l0.take (k + 1)).map fun x => sv x) = ((l0.take k).map fun x => sv x) ++ [sv p] := by rw [take_snoc (nth_get (d := (⟨#[]⟩ : ByteArray)) hk), List.map_append, ← ep]; rfl
      refine ⟨⟨k + 1, ps, .cp (.agg [sv p, eOf c ps])⟩, ⟨hk, (List.cons.inj ed).2, rfl⟩, ⟨rfl, look_slg rfl et.symm, look_tok rfl et.symm, rfl, rfl, trivial⟩, by (try dsimp only); simp⟩

set_option maxHeartbeats 400000 in
theorem fpN_c : PCall Tryd.prog Γ0 12 [.v .nilIface] [.sl 1 []] := by
  refine pcall_of Tryd.func12 rfl Tryd.ntmps12 (by kernel_rfl) rfl fun w0 I0 G0 => ?_
  refine aw_seq ?_
  refine aw_region ?_
  refine g_u (s_as_imm rfl rfl) ?_
  refine g_nil ?_
  refine normal_thn ?_
  refine aw_seq ?_
  refine aw_region ?_
  refine g_u (s_as_imm rfl rfl) ?_
  refine g_nil ?_
  refine normal_thn ?_
  refine aw_seq ?_
  refine aw_newtok 3003 3 1 rfl rfl rfl rfl ?_
  refine aw_region ?_
  refine g_uG (s_alloc' 1004 rfl rfl rfl tZ72) rfl ?_
  refine g_nil ?_
  refine normal_thn ?_
  refine aw_seq ?_
  refine aw_block ?_
  refine aw_loop' (fun _ : Nat => [(0, .imm (.v .nilIface)), (3, .slg 3003 1 []), (3003, .tok 1 []), (4, .ptr 1004 0), (1004, .box 72 (.imm z72))]) (fun _ => True) (fun _ => 0) (0) ?_ ⟨rfl, rfl, rfl, rfl, rfl, trivial⟩ ?_
  · trivial
  · rintro i -
    refine aw_seq ?_
    refine aw_seq ?_
    refine aw_region ?_
    refine g_u (s_mv_imm rfl rfl) ?_
    refine g_u (s_makeIfp rfl rfl nI74) ?_
    refine g_uG (s_mcall [(100001, 1004)] (AsWn_c z72) rfl rfl ⟨.inl rfl, .inl rfl, trivial⟩ ⟨rfl, trivial⟩ rfl rfl rfl) rfl ?_
    refine g_nil ?_
    refine normal_thn ?_
    refine aw_cond_false rfl ?_
    refine aw_exit ?_
    refine exit_thn ?_
    refine exit_thn ?_
    refine exit_blk ?_
    refine normal_thn ?_
    refine aw_seq ?_
    refine aw_region ?_
    refine g_u (s_mv_slg rfl rfl) ?_
    refine g_u (s_as_slg rfl rfl) ?_
    refine g_nil ?_
    refine normal_thn ?_
    refine aw_ret ?_
    exact ⟨⟨(rfl : toAV (Al.look _ _) = some _).trans (congrArg some (by rfl)), rfl⟩, trivial⟩

def pathL (c : Int) (l : List ByteArray) : List ByteArray := if c = 0 then [] else l
theorem fpath_c (c : Int) (l : List ByteArray) (hl : l.length ≤ 1000000) : PCall Tryd.prog Γ0 12 [eM (c, l)] [.sl 1 ((pathL c l).map fun x => sv x)] := by
  unfold pathL
  by_cases h : c = 0
  · rw [show eM (c, l) = _ from errM_zero (f := (c, l)) h, if_pos h]; exact fpN_c
  · rw [show eM (c, l) = _ from errM_pos (f := (c, l)) h, if_neg h]; exact fpP_c c l hl
theorem pathB_mono (l : List ByteArray) (i : Nat) : (pathB (l.take i)).length ≤ (pathB l).length := by
  conv => rhs; rw [← List.take_append_drop i l]
  rw [pathB_app, List.length_append]; omega
theorem path_step {l : List ByteArray} {i : Nat} (h : i < l.length) : strOf (pathB (l.take (i + 1))) = strOf (pathB (l.take i)) ++ (nth l i ⟨#[]⟩ ++ ⟨#[58, 32]⟩) := by
  rw [pathB_take h, ← strOf_append, ← strOf_append, strOf_lst]; rfl
theorem path_step2 {l : List ByteArray} {i : Nat} (h : i < l.length) : strOf (pathB (l.take (i + 1))) = strOf (pathB (l.take i)) ++ nth l i ⟨#[]⟩ ++ ⟨#[58, 32]⟩ := by
  rw [path_step h, ByteArray.append_assoc]
set_option maxHeartbeats 4000000 in
theorem ftP_c (c : Int) (l : List ByteArray) (h0 : c ≠ 0) (hl : l.length ≤ 1000000) (hs : (pathB l).length ≤ 9000000000000000000) (hc : -9223372036854775808 ≤ c ∧ c < 9223372036854775808) : PCall Tryd.prog Γ0 14 [eOf c l] [sv (textF (c, l))] := by
  refine pcall_of Tryd.func14 rfl Tryd.ntmps14 (by kernel_rfl) rfl fun w0 I0 G0 => ?_
  refine aw_seq ?_
  refine aw_region ?_
  refine g_u (s_as_imm rfl rfl) ?_
  refine g_nil ?_
  refine normal_thn ?_
  refine aw_seq ?_
  refine aw_seq ?_
  refine aw_region ?_
  refine g_u (s_mv_imm rfl rfl) ?_
  refine g_u (s_eqNI' rfl rfl (errOf_ifc _ _ _ _) rfl Tryd.underlying31) ?_
  refine g_nil ?_
  refine normal_thn ?_
  refine aw_cond_false rfl ?_
  refine aw_skip ?_
  refine normal_thn ?_
  refine aw_seq ?_
  refine aw_region ?_
  refine g_u (s_as_imm rfl rfl) ?_
  refine g_nil ?_
  refine normal_thn ?_
  refine aw_seq ?_
  refine aw_seq ?_
  refine aw_region ?_
  refine g_u (s_mv_imm rfl rfl) ?_
  refine g_u (s_call1 (fpP_c c l hl) rfl rfl) ?_
  refine g_u (s_lenL rfl rfl Tryd.underlying29) ?_
  refine g_u (s_mv_imm rfl rfl) ?_
  refine g_nil ?_
  refine normal_thn ?_
  refine aw_block ?_
  refine aw_loop' (fun i : Nat => [(0, .imm (eOf c l)), (3, .imm (sv (strOf (pathB (l.take i))))), (9, .imm (.sl 1 (l.map fun x => sv x))), (10, .imm (iv (l.length : Int))), (11, .imm (iv (i : Int)))]) (fun i => i ≤ l.length) (fun i => l.length - i) (0) ?_ ⟨rfl, rfl, rfl, look_int rfl (by rw [List.length_map]), rfl, trivial⟩ ?_
  · exact Nat.zero_le _
  · rintro i h1; have h1 : i ≤ l.length := h1
    refine aw_seq ?_
    refine aw_region ?_
    refine g_u (s_ltI rfl rfl rfl) ?_
    refine g_nil ?_
    refine normal_thn ?_
    refine aw_seq ?_
    refine aw_cond rfl (fun hb1 => ?_) (fun hb1 => ?_)
    · skip
      have hi : i < l.length := by have := of_decide_eq_true hb1; (try simp only [List.length_map] at this); omega
      have hq : (pathB (l.take i)).length + (nth l i ⟨#[]⟩).size + 2 ≤ 9000000000000000000 := by have q := pathB_take hi; have q2 := congrArg List.length q; have q3 := pathB_mono l (i + 1); simp only [List.length_append, List.length_cons, List.length_nil, lst_len] at q2; omega
      refine aw_skip ?_
      refine normal_thn ?_
      refine aw_seq ?_
      refine aw_block ?_
      refine aw_seq ?_
      refine aw_region ?_
      refine g_u (s_indexAddr rfl rfl rfl Tryd.underlying29 tS9 (by omega) (ixStr hi)) ?_
      refine g_u (s_load_cp rfl rfl tA9 tS9 rfl rfl) ?_
      refine g_u (s_as_imm rfl rfl) ?_
      refine g_nil ?_
      refine normal_thn ?_
      refine aw_region ?_
      refine g_u (s_mv_imm rfl rfl) ?_
      refine g_u (s_mv_imm rfl rfl) ?_
      refine g_u (s_catS rfl rfl rfl (by first | exact (by show _ ≤ (9223372036854775807 : Int); have q1 := hq; have q2 : (ByteArray.mk #[58, 32]).size = 2 := rfl; have q3 : (strOf (pathB (l.take i))).size = (pathB (l.take i)).length := strOf_size _; (try dsimp only); (try simp only [app_size]); omega) | exact (by show _ ≤ (9223372036854775807 : Int); have q1 := decB_length c; have q3 : (strOf (pathB (l.take i))).size = (pathB (l.take i)).length := strOf_size _; have q4 : (strOf (decB c)).size = (decB c).length := strOf_size _; have q5 : (strOf ([] ++ decB c)).size = (decB c).length := strOf_size _; rw [hin, List.take_length] at q3; (try dsimp only); (try simp only [app_size]); (try rw [hin, List.take_length]); omega))) ?_
      refine g_u (s_catS rfl rfl rfl (by first | exact (by show _ ≤ (9223372036854775807 : Int); have q1 := hq; have q2 : (ByteArray.mk #[58, 32]).size = 2 := rfl; have q3 : (strOf (pathB (l.take i))).size = (pathB (l.take i)).length := strOf_size _; (try dsimp only); (try simp only [app_size]); omega) | exact (by show _ ≤ (9223372036854775807 : Int); have q1 := decB_length c; have q3 : (strOf (pathB (l.take i))).size = (pathB (l.take i)).length := strOf_size _; have q4 : (strOf (decB c)).size = (decB c).length := strOf_size _; have q5 : (strOf ([] ++ decB c)).size = (decB c).length := strOf_size _; rw [hin, List.take_length] at q3; (try dsimp only); (try simp only [app_size]); (try rw [hin, List.take_length]); omega))) ?_
      refine g_u (s_as_imm rfl rfl) ?_
      refine g_nil ?_
      refine normal_blk ?_
      refine normal_thn ?_
      refine aw_region ?_
      refine g_u (s_add rfl rfl rfl) ?_
      refine g_u (s_mv_imm rfl rfl) ?_
      refine g_nil ?_
      refine normal_thn ?_
      have et := path_step hi
      refine ⟨i + 1, hi, ⟨rfl, (by rw [et]; rfl), rfl, rfl, look_int rfl (by rw [wrap64 (by omega) (by omega)]; rfl), trivial⟩, by (try dsimp only); omega⟩
    · skip
      have hin : i = l.length := by have := of_decide_eq_false hb1; (try simp only [List.length_map] at this); omega
      refine aw_exit ?_
      refine exit_thn ?_
      refine exit_thn ?_
      refine exit_blk ?_
      refine normal_thn ?_
      refine aw_seq ?_
      refine aw_region ?_
      refine g_u (s_mv_imm rfl rfl) ?_
      refine g_u (s_mv_imm rfl rfl) ?_
      refine g_u (s_call1 (foP_c c l) rfl rfl) ?_
      refine g_u (s_call1 (nil1 (n := 1) (dput_c [] c hc (by simp))) rfl rfl) ?_
      refine g_u (s_cvBS' (rfl) rfl rfl Tryd.underlying81 Tryd.underlying9 Tryd.underlying5) ?_
      refine g_u (s_catS rfl rfl rfl (by first | exact (by show _ ≤ (9223372036854775807 : Int); have q1 := hq; have q2 : (ByteArray.mk #[58, 32]).size = 2 := rfl; have q3 : (strOf (pathB (l.take i))).size = (pathB (l.take i)).length := strOf_size _; (try dsimp only); (try simp only [app_size]); omega) | exact (by show _ ≤ (9223372036854775807 : Int); have q1 := decB_length c; have q3 : (strOf (pathB (l.take i))).size = (pathB (l.take i)).length := strOf_size _; have q4 : (strOf (decB c)).size = (decB c).length := strOf_size _; have q5 : (strOf ([] ++ decB c)).size = (decB c).length := strOf_size _; rw [hin, List.take_length] at q3; (try dsimp only); (try simp only [app_size]); (try rw [hin, List.take_length]); omega))) ?_
      refine g_u (s_as_imm rfl rfl) ?_
      refine g_nil ?_
      refine normal_thn ?_
      refine aw_ret ?_
      exact ⟨⟨(rfl : toAV (Al.look _ _) = some _).trans (congrArg some (by (rw [hin, List.take_length]; show _ = sv (if c = 0 then _ else _); rw [if_neg h0, ← strOf_append]; rfl))), rfl⟩, trivial⟩

set_option maxHeartbeats 400000 in
theorem ftN_c : PCall Tryd.prog Γ0 14 [.v .nilIface] [sv ⟨#[]⟩] := by
  refine pcall_of Tryd.func14 rfl Tryd.ntmps14 (by kernel_rfl) rfl fun w0 I0 G0 => ?_
  refine aw_seq ?_
  refine aw_region ?_
  refine g_u (s_as_imm rfl rfl) ?_
  refine g_nil ?_
  refine normal_thn ?_
  refine aw_seq ?_
  refine aw_seq ?_
  refine aw_region ?_
  refine g_u (s_mv_imm rfl rfl) ?_
  refine g_u (s_eqNN rfl rfl Tryd.underlying31) ?_
  refine g_nil ?_
  refine normal_thn ?_
  refine aw_cond_true rfl ?_
  refine aw_seq ?_
  refine aw_region ?_
  refine g_u (s_as_imm rfl rfl) ?_
  refine g_nil ?_
  refine normal_thn ?_
  refine aw_ret ?_
  refine ret_thn ?_
  exact ⟨⟨(rfl : toAV (Al.look _ _) = some _).trans (congrArg some (by rfl)), rfl⟩, trivial⟩

theorem ftext_c (c : Int) (l : List ByteArray) (hl : l.length ≤ 1000000) (hs : (pathB l).length ≤ 9000000000000000000) (hc : -9223372036854775808 ≤ c ∧ c < 9223372036854775808) : PCall Tryd.prog Γ0 14 [eM (c, l)] [sv (textF (c, l))] := by
  by_cases h : c = 0
  · rw [show eM (c, l) = _ from errM_zero (f := (c, l)) h, show textF (c, l) = ⟨#[]⟩ from if_pos h]; exact ftN_c
  · rw [show eM (c, l) = _ from errM_pos (f := (c, l)) h]; exact ftP_c c l h hl hs hc
set_option maxHeartbeats 4000000 in
theorem rtext09_c (c : Int) (l : List ByteArray) (hl : l.length ≤ 1000000) (hs : (pathB l).length ≤ 9000000000000000000) (hc : -9223372036854775808 ≤ c ∧ c < 9223372036854775808) : PCall Tryd.prog Γ0 15 [iv c, .sl 1 (l.map fun x => sv x)] [sv (textF (c, l))] := by
  refine pcall_of Tryd.func15 rfl Tryd.ntmps15 (by kernel_rfl) rfl fun w0 I0 G0 => ?_
  refine aw_seq ?_
  refine aw_region ?_
  refine g_u (s_as_imm rfl rfl) ?_
  refine g_nil ?_
  refine normal_thn ?_
  refine aw_seq ?_
  refine aw_seq ?_
  refine aw_region ?_
  refine g_u (s_mv_imm rfl rfl) ?_
  refine g_u (s_eqI rfl rfl rfl) ?_
  refine g_nil ?_
  refine normal_thn ?_
  refine aw_cond rfl (fun hb1 => ?_) (fun hb1 => ?_)
  · skip
    have q0 : c = 0 := beq_iff_eq.1 hb1
    refine aw_seq ?_
    refine aw_region ?_
    refine g_u (s_as_imm rfl rfl) ?_
    refine g_nil ?_
    refine normal_thn ?_
    refine aw_ret ?_
    refine ret_thn ?_
    exact ⟨⟨(rfl : toAV (Al.look _ _) = some _).trans (congrArg some (by (rw [show textF (c, l) = ⟨#[]⟩ from if_pos q0]))), rfl⟩, trivial⟩
  · skip
    have q0 : ¬ c = 0 := beq_eq_false_iff_ne.1 hb1
    refine aw_skip ?_
    refine normal_thn ?_
    refine aw_seq ?_
    refine aw_region ?_
    refine g_u (s_as_imm rfl rfl) ?_
    refine g_nil ?_
    refine normal_thn ?_
    refine aw_seq ?_
    refine aw_seq ?_
    refine aw_region ?_
    refine g_u (s_as_imm rfl rfl) ?_
    refine g_nil ?_
    refine normal_thn ?_
    refine aw_block ?_
    refine aw_loop' (fun i : Nat => [(0, .imm (iv c)), (1, .imm (.sl 1 (l.map fun x => sv x))), (5, .imm (sv (strOf (pathB (l.take i))))), (6, .imm (iv (i : Int)))]) (fun i => i ≤ l.length) (fun i => l.length - i) (0) ?_ ⟨rfl, rfl, rfl, rfl, trivial⟩ ?_
    · exact Nat.zero_le _
    · rintro i h1; have h1 : i ≤ l.length := h1
      refine aw_seq ?_
      refine aw_seq ?_
      refine aw_region ?_
      refine g_u (s_mv_imm rfl rfl) ?_
      refine g_u (s_mv_imm rfl rfl) ?_
      refine g_u (s_lenL rfl rfl Tryd.underlying29) ?_
      refine g_u (s_ltI rfl rfl rfl) ?_
      refine g_nil ?_
      refine normal_thn ?_
      refine aw_cond rfl (fun hb2 => ?_) (fun hb2 => ?_)
      · skip
        have hi : i < l.length := by have := of_decide_eq_true hb2; (try simp only [List.length_map] at this); omega
        have hq : (pathB (l.take i)).length + (nth l i ⟨#[]⟩).size + 2 ≤ 9000000000000000000 := by have q := pathB_take hi; have q2 := congrArg List.length q; have q3 := pathB_mono l (i + 1); simp only [List.length_append, List.length_cons, List.length_nil, lst_len] at q2; omega
        refine aw_skip ?_
        refine normal_thn ?_
        refine aw_seq ?_
        refine aw_block ?_
        refine aw_region ?_
        refine g_u (s_mv_imm rfl rfl) ?_
        refine g_u (s_mv_imm rfl rfl) ?_
        refine g_u (s_mv_imm rfl rfl) ?_
        refine g_u (s_indexAddr rfl rfl rfl Tryd.underlying29 tS9 (by omega) (ixStr hi)) ?_
        refine g_u (s_load_cp rfl rfl tA9 tS9 rfl rfl) ?_
        refine g_u (s_catS rfl rfl rfl (by first | exact (by show _ ≤ (9223372036854775807 : Int); have q1 := hq; have q2 : (ByteArray.mk #[58, 32]).size = 2 := rfl; have q3 : (strOf (pathB (l.take i))).size = (pathB (l.take i)).length := strOf_size _; (try dsimp only); (try simp only [app_size]); omega) | exact (by show _ ≤ (9223372036854775807 : Int); have q1 := decB_length c; have q3 : (strOf (pathB (l.take i))).size = (pathB (l.take i)).length := strOf_size _; have q4 : (strOf (decB c)).size = (decB c).length := strOf_size _; have q5 : (strOf ([] ++ decB c)).size = (decB c).length := strOf_size _; rw [hin, List.take_length] at q3; (try dsimp only); (try simp only [app_size]); (try rw [hin, List.take_length]); omega))) ?_
        refine g_u (s_catS rfl rfl rfl (by first | exact (by show _ ≤ (9223372036854775807 : Int); have q1 := hq; have q2 : (ByteArray.mk #[58, 32]).size = 2 := rfl; have q3 : (strOf (pathB (l.take i))).size = (pathB (l.take i)).length := strOf_size _; (try dsimp only); (try simp only [app_size]); omega) | exact (by show _ ≤ (9223372036854775807 : Int); have q1 := decB_length c; have q3 : (strOf (pathB (l.take i))).size = (pathB (l.take i)).length := strOf_size _; have q4 : (strOf (decB c)).size = (decB c).length := strOf_size _; have q5 : (strOf ([] ++ decB c)).size = (decB c).length := strOf_size _; rw [hin, List.take_length] at q3; (try dsimp only); (try simp only [app_size]); (try rw [hin, List.take_length]); omega))) ?_
        refine g_u (s_as_imm rfl rfl) ?_
        refine g_nil ?_
        refine normal_blk ?_
        refine normal_thn ?_
        refine aw_region ?_
        refine g_u (s_mv_imm rfl rfl) ?_
        refine g_u (s_add rfl rfl rfl) ?_
        refine g_u (s_as_imm rfl rfl) ?_
        refine g_nil ?_
        refine normal_thn ?_
        have et := path_step2 hi
        refine ⟨i + 1, hi, ⟨rfl, rfl, (by rw [et]; rfl), look_int rfl (by rw [wrap64 (by omega) (by omega)]; rfl), trivial⟩, by (try dsimp only); omega⟩
      · skip
        have hin : i = l.length := by have := of_decide_eq_false hb2; (try simp only [List.length_map] at this); omega
        refine aw_exit ?_
        refine exit_thn ?_
        refine exit_thn ?_
        refine exit_blk ?_
        refine normal_thn ?_
        refine aw_seq ?_
        refine aw_region ?_
        refine g_u (s_mv_imm rfl rfl) ?_
        refine g_u (s_mv_imm rfl rfl) ?_
        refine g_u (s_call1 (rdec_c c hc) rfl rfl) ?_
        refine g_u (s_catS rfl rfl rfl (by first | exact (by show _ ≤ (9223372036854775807 : Int); have q1 := hq; have q2 : (ByteArray.mk #[58, 32]).size = 2 := rfl; have q3 : (strOf (pathB (l.take i))).size = (pathB (l.take i)).length := strOf_size _; (try dsimp only); (try simp only [app_size]); omega) | exact (by show _ ≤ (9223372036854775807 : Int); have q1 := decB_length c; have q3 : (strOf (pathB (l.take i))).size = (pathB (l.take i)).length := strOf_size _; have q4 : (strOf (decB c)).size = (decB c).length := strOf_size _; have q5 : (strOf ([] ++ decB c)).size = (decB c).length := strOf_size _; rw [hin, List.take_length] at q3; (try dsimp only); (try simp only [app_size]); (try rw [hin, List.take_length]); omega))) ?_
        refine g_u (s_as_imm rfl rfl) ?_
        refine g_nil ?_
        refine normal_thn ?_
        refine aw_ret ?_
        exact ⟨⟨(rfl : toAV (Al.look _ _) = some _).trans (congrArg some (by (rw [hin, List.take_length]; show _ = sv (if c = 0 then _ else _); rw [if_neg q0, ← strOf_append]))), rfl⟩, trivial⟩

end Go.Proofs

namespace Go.Proofs
open Go Go.Al
set_option maxRecDepth 10000
set_option maxHeartbeats 400000 in
theorem bareIs_c (c k : Int) : MCall Tryd.prog Γ0 133 [.imm (.cp (.agg [iv c])), .ifp 77 100001 0] [(100001, .box 80 (.imm (.agg [iv k])))] (.imm (bv (k == c))) [(100001, .box 80 (.imm (.agg [iv k])))] := by
  refine mcall_of (rs := [(.imm (bv (k == c)))]) Tryd.func133 rfl Tryd.ntmps133 (by kernel_rfl) rfl rfl rfl rfl rfl fun w0 I0 G0 E => ?_
  refine aw_seq ?_
  refine aw_region ?_
  refine g_u (s_as_imm rfl rfl) ?_
  refine g_nil ?_
  refine normal_thn ?_
  refine aw_seq ?_
  refine aw_region ?_
  refine g_u (s_mv_ifp rfl rfl) ?_
  refine g_u (s_assertP rfl rfl nI77) ?_
  refine g_u (s_mv_tup rfl rfl) ?_
  refine g_u (s_extract rfl rfl rfl rfl) ?_
  refine g_u (s_extract rfl rfl rfl rfl) ?_
  refine g_u (s_as_ptr rfl rfl) ?_
  refine g_u (s_as_imm rfl rfl) ?_
  refine g_nil ?_
  refine normal_thn ?_
  refine aw_seq ?_
  refine aw_draw mixed ?_
  refine g_u (s_mv_imm rfl rfl) ?_
  refine g_u (s_mv_imm rfl rfl) ?_
  refine g_run rfl rfl (s_mv_ptr rfl rfl) ?_
  refine g_run rfl rfl (s_nePN rfl rfl rfl Tryd.underlying77) ?_
  refine g_u (s_pick_t rfl rfl rfl) ?_
  refine g_u (s_mv_imm rfl rfl) ?_
  refine g_run rfl rfl (s_mv_ptr rfl rfl) ?_
  refine g_run rfl rfl (s_nilCheck_ptr rfl rfl) ?_
  refine g_run rfl rfl (s_fieldAddr rfl rfl fa80_0 rfl) ?_
  refine g_run rfl rfl (s_load_imm rfl rfl rfl tA28 tS28 rfl rfl) ?_
  refine g_run rfl rfl (s_mv_imm rfl rfl) ?_
  refine g_run rfl rfl (s_nilCheck_cp rfl rfl) ?_
  refine g_run rfl rfl (s_fieldAddr_cp rfl rfl fa80_0 rfl rfl) ?_
  refine g_run rfl rfl (s_load_cp rfl rfl tA28 tS28 rfl rfl) ?_
  refine g_run rfl rfl (s_eqI rfl rfl rfl) ?_
  refine g_u (s_pick_t rfl rfl rfl) ?_
  refine g_u (s_as_imm rfl rfl) ?_
  refine g_nil ⟨by kernel_rfl, ?_⟩
  refine normal_thn ?_
  refine aw_ret ?_
  exact ⟨⟨.inl ⟨_, rfl, ⟨(rfl : toAV (Al.look _ _) = some _).trans (congrArg some (by rfl)), rfl⟩⟩, trivial⟩, ⟨rfl, trivial⟩⟩

set_option maxHeartbeats 4000000 in
theorem is_c (c k : Int) (l0 : List ByteArray) : MCall Tryd.prog Γ0 44 [.imm (eOf c l0), .ifp 77 100001 0, .imm (bv true)] [(100001, .box 80 (.imm (.agg [iv k])))] (.imm (bv (k == c))) [(100001, .box 80 (.imm (.agg [iv k])))] := by
  refine mcall_of (rs := [(.imm (bv (k == c)))]) Tryd.func44 rfl Tryd.ntmps44 (by kernel_rfl) rfl rfl rfl rfl rfl fun w0 I0 G0 E => ?_
  refine aw_seq ?_
  refine aw_region ?_
  refine g_u (s_as_imm rfl rfl) ?_
  refine g_nil ?_
  refine normal_thn ?_
  refine aw_block ?_
  refine aw_loop' (fun l : List ByteArray => [(0, .imm (eOf c l)), (1, .ifp 77 100001 0), (2, .imm (bv true)), (100001, .box 80 (.imm (.agg [iv k])))]) (fun _ => True) (fun l => l.length) (l0) ?_ ⟨rfl, rfl, rfl, rfl, trivial⟩ ?_
  · trivial
  · rintro l -
    refine aw_block ?_
    refine aw_seq ?_
    refine aw_seq ?_
    refine aw_region ?_
    refine g_u (s_mv_imm rfl rfl) ?_
    refine g_u (s_mv_imm rfl rfl) ?_
    refine g_run rfl rfl (s_mv_imm rfl rfl) ?_
    refine g_run rfl rfl (s_mv_ifp rfl rfl) ?_
    refine g_run rfl rfl (s_eqIP rfl rfl rfl rfl (by first | rfl | exact errB_w _ _ _ _) rfl Tryd.underlying31 Tryd.underlying77 pi77) ?_
    refine g_u (s_pick_t rfl rfl rfl) ?_
    refine g_nil ?_
    refine normal_thn ?_
    refine aw_cond_false rfl ?_
    refine aw_skip ?_
    refine normal_thn ?_
    refine aw_seq ?_
    refine aw_seq ?_
    rcases l with _ | ⟨p, ps⟩
    · skip
      refine aw_region ?_
      refine g_u (s_mv_imm rfl rfl) ?_
      refine g_u (s_hasYes rfl rfl (hs77_123)) ?_
      refine g_u (s_mv_tup rfl rfl) ?_
      refine g_u (s_extract rfl rfl rfl rfl) ?_
      refine g_u (s_extract rfl rfl rfl rfl) ?_
      refine g_u (s_as_imm rfl rfl) ?_
      refine g_u (s_as_imm rfl rfl) ?_
      refine g_nil ?_
      refine normal_thn ?_
      refine aw_seq ?_
      refine aw_region ?_
      refine g_u (s_mv_imm rfl rfl) ?_
      refine g_u (s_mv_imm rfl rfl) ?_
      refine g_run rfl rfl (s_mv_imm rfl rfl) ?_
      refine g_run rfl rfl (s_mv_ifp rfl rfl) ?_
      refine g_runG rfl rfl (s_mcallM [(100001, 100001)] (bareIs_c c k) mi77 rfl rfl rfl ⟨.inl rfl, .inl rfl, trivial⟩ ⟨rfl, trivial⟩ rfl rfl rfl) rfl ?_
      refine g_u (s_pick_t rfl rfl rfl) ?_
      refine g_nil ?_
      refine normal_thn ?_
      refine aw_cond rfl (fun hb1 => ?_) (fun hb1 => ?_)
      · skip
        have q : (k == c) = true := hb1
        refine aw_seq ?_
        refine aw_region ?_
        refine g_u (s_as_imm rfl rfl) ?_
        refine g_nil ?_
        refine normal_thn ?_
        refine aw_ret ?_
        refine ret_thn ?_
        refine ret_blk ?_
        refine ret_thn ?_
        refine ret_blk ?_
        exact ⟨⟨.inl ⟨_, rfl, ⟨(rfl : toAV (Al.look _ _) = some _).trans (congrArg some (by (rw [q]))), rfl⟩⟩, trivial⟩, ⟨rfl, trivial⟩⟩
      · skip
        have q : (k == c) = false := hb1
        refine aw_skip ?_
        refine normal_thn ?_
        refine aw_seq ?_
        refine aw_region ?_
        refine g_u (s_mv_imm rfl rfl) ?_
        refine g_nil ?_
        refine normal_thn ?_
        refine aw_block ?_
        refine aw_seq ?_
        refine aw_region ?_
        refine g_u (s_hasNo rfl rfl (hs77_117)) ?_
        refine g_u (s_extract rfl rfl rfl rfl) ?_
        refine g_u (s_extract rfl rfl rfl rfl) ?_
        refine g_nil ?_
        refine normal_thn ?_
        refine aw_cond_false rfl ?_
        refine aw_seq ?_
        refine aw_region ?_
        refine g_u (s_hasNo rfl rfl (hs77_119)) ?_
        refine g_u (s_extract rfl rfl rfl rfl) ?_
        refine g_u (s_extract rfl rfl rfl rfl) ?_
        refine g_nil ?_
        refine normal_thn ?_
        refine aw_cond_false rfl ?_
        refine aw_seq ?_
        refine aw_region ?_
        refine g_u (s_as_imm rfl rfl) ?_
        refine g_nil ?_
        refine normal_thn ?_
        refine aw_seq ?_
        refine aw_region ?_
        refine g_u (s_as_imm rfl rfl) ?_
        refine g_nil ?_
        refine normal_thn ?_
        refine aw_ret ?_
        refine ret_blk ?_
        refine ret_blk ?_
        refine ret_thn ?_
        refine ret_blk ?_
        exact ⟨⟨.inl ⟨_, rfl, ⟨(rfl : toAV (Al.look _ _) = some _).trans (congrArg some (by (rw [q]))), rfl⟩⟩, trivial⟩, ⟨rfl, trivial⟩⟩
    · skip
      refine aw_region ?_
      refine g_u (s_mv_imm rfl rfl) ?_
      refine g_u (s_hasNo rfl rfl (hs72_123)) ?_
      refine g_u (s_mv_tup rfl rfl) ?_
      refine g_u (s_extract rfl rfl rfl rfl) ?_
      refine g_u (s_extract rfl rfl rfl rfl) ?_
      refine g_u (s_as_imm rfl rfl) ?_
      refine g_u (s_as_imm rfl rfl) ?_
      refine g_nil ?_
      refine normal_thn ?_
      refine aw_seq ?_
      refine aw_region ?_
      refine g_u (s_mv_imm rfl rfl) ?_
      refine g_u (s_mv_imm rfl rfl) ?_
      refine g_skip rfl rfl rfl ?_
      refine g_skip rfl rfl rfl ?_
      refine g_skip rfl rfl rfl ?_
      refine g_u (s_pick_f rfl rfl rfl) ?_
      refine g_nil ?_
      refine normal_thn ?_
      refine aw_cond_false rfl ?_
      refine aw_skip ?_
      refine normal_thn ?_
      refine aw_seq ?_
      refine aw_region ?_
      refine g_u (s_mv_imm rfl rfl) ?_
      refine g_nil ?_
      refine normal_thn ?_
      refine aw_block ?_
      refine aw_seq ?_
      refine aw_region ?_
      refine g_u (s_hasYes rfl rfl (hs72_117)) ?_
      refine g_u (s_extract rfl rfl rfl rfl) ?_
      refine g_u (s_extract rfl rfl rfl rfl) ?_
      refine g_nil ?_
      refine normal_thn ?_
      refine aw_cond_true rfl ?_
      refine aw_seq ?_
      refine aw_region ?_
      refine g_u (s_as_imm rfl rfl) ?_
      refine g_nil ?_
      refine normal_thn ?_
      refine aw_seq ?_
      refine aw_region ?_
      refine g_u (s_mv_imm rfl rfl) ?_
      refine g_u (s_invC (unwrap_c p c ps) rfl rfl mu72) ?_
      refine g_u (s_as_imm rfl rfl) ?_
      refine g_nil ?_
      refine normal_thn ?_
      refine aw_seq ?_
      refine aw_region ?_
      refine g_u (s_mv_imm rfl rfl) ?_
      refine g_u (s_eqNI' rfl rfl (errOf_ifc _ _ _ _) rfl Tryd.underlying31) ?_
      refine g_nil ?_
      refine normal_thn ?_
      refine aw_cond_false rfl ?_
      refine aw_skip ?_
      refine normal_blk ?_
      refine normal_blk ?_
      refine normal_thn ?_
      refine ⟨ps, trivial, ⟨rfl, rfl, rfl, rfl, trivial⟩, by simp⟩

set_option maxHeartbeats 4000000 in
theorem Is_c (c k : Int) (l : List ByteArray) : MCall Tryd.prog Γ0 30 [.imm (eOf c l), .ifp 77 100001 0] [(100001, .box 80 (.imm (.agg [iv k])))] (.imm (bv (k == c))) [(100001, .box 80 (.imm (.agg [iv k])))] := by
  refine mcall_of (rs := [(.imm (bv (k == c)))]) Tryd.func30 rfl Tryd.ntmps30 (by kernel_rfl) rfl rfl rfl rfl rfl fun w0 I0 G0 E => ?_
  refine aw_seq ?_
  refine aw_region ?_
  refine g_u (s_as_imm rfl rfl) ?_
  refine g_nil ?_
  refine normal_thn ?_
  refine aw_seq ?_
  refine aw_seq ?_
  refine aw_region ?_
  refine g_u (s_mv_imm rfl rfl) ?_
  refine g_u (s_eqNI' rfl rfl (errOf_ifc _ _ _ _) rfl Tryd.underlying31) ?_
  refine g_u (s_mv_imm rfl rfl) ?_
  refine g_run rfl rfl (s_mv_ifp rfl rfl) ?_
  refine g_run rfl rfl (s_eqNP rfl rfl rfl Tryd.underlying31) ?_
  refine g_u (s_pick_f rfl rfl rfl) ?_
  refine g_nil ?_
  refine normal_thn ?_
  refine aw_cond_false rfl ?_
  refine aw_skip ?_
  refine normal_thn ?_
  refine aw_seq ?_
  refine aw_region ?_
  refine g_u (s_mv_ifp rfl rfl) ?_
  refine g_u (s_extP rfl rfl rfl fO77) ?_
  refine g_u (s_inv0 rfl rfl (inv0_raw (v := (.iface 110 (.agg #[(.pointer (some ⟨3, 77, none⟩))]))) rfl rfl fC77)) ?_
  refine g_u (s_as_imm rfl rfl) ?_
  refine g_nil ?_
  refine normal_thn ?_
  refine aw_seq ?_
  refine aw_region ?_
  refine g_u (s_mv_imm rfl rfl) ?_
  refine g_u (s_mv_ifp rfl rfl) ?_
  refine g_u (s_mv_imm rfl rfl) ?_
  refine g_uG (s_mcall [(100001, 100001)] (is_c c k l) rfl rfl ⟨.inl rfl, .inl rfl, .inl rfl, trivial⟩ ⟨rfl, trivial⟩ rfl rfl rfl) rfl ?_
  refine g_u (s_as_imm rfl rfl) ?_
  refine g_nil ?_
  refine normal_thn ?_
  refine aw_ret ?_
  exact ⟨⟨.inl ⟨_, rfl, ⟨(rfl : toAV (Al.look _ _) = some _).trans (congrArg some (by rfl)), rfl⟩⟩, trivial⟩, ⟨rfl, trivial⟩⟩

set_option maxHeartbeats 400000 in
theorem hasP_c (c k : Int) (l : List ByteArray) (hk : k ≠ 0) : PCall Tryd.prog Γ0 16 [eOf c l, iv k] [bv (k == c)] := by
  refine pcall_of Tryd.func16 rfl Tryd.ntmps16 (by kernel_rfl) rfl fun w0 I0 G0 => ?_
  refine aw_seq ?_
  refine aw_region ?_
  refine g_u (s_as_imm rfl rfl) ?_
  refine g_nil ?_
  refine normal_thn ?_
  refine aw_seq ?_
  refine aw_seq ?_
  refine aw_region ?_
  refine g_u (s_mv_imm rfl rfl) ?_
  refine g_u (s_eqNI' rfl rfl (errOf_ifc _ _ _ _) rfl Tryd.underlying31) ?_
  refine g_u (s_mv_imm rfl rfl) ?_
  refine g_run rfl rfl (s_mv_imm rfl rfl) ?_
  refine g_run rfl rfl (s_eqI rfl rfl rfl) ?_
  refine g_u (s_pick_f rfl rfl rfl) ?_
  refine g_nil ?_
  refine normal_thn ?_
  refine aw_cond rfl (fun hb1 => ?_) (fun hb1 => ?_)
  · exact killF hb1 ((beq_false_of_ne hk))
  · skip
    refine aw_skip ?_
    refine normal_thn ?_
    refine aw_seq ?_
    refine aw_region ?_
    refine g_u (s_mv_imm rfl rfl) ?_
    refine g_u (s_mv_imm rfl rfl) ?_
    refine g_u (s_build rfl tU80 us80 pl80 rfl rfl rfl rfl) ?_
    refine g_uG (s_box_imm 1014 rfl rfl rfl rfl) rfl ?_
    refine g_u (s_makeIfp rfl rfl nI77) ?_
    refine g_uG (s_mcall [(100001, 1014)] (Is_c c k l) rfl rfl ⟨.inl rfl, .inl rfl, trivial⟩ ⟨rfl, trivial⟩ rfl rfl rfl) rfl ?_
    refine g_u (s_as_imm rfl rfl) ?_
    refine g_nil ?_
    refine normal_thn ?_
    refine aw_ret ?_
    exact ⟨⟨(rfl : toAV (Al.look _ _) = some _).trans (congrArg some (by rfl)), rfl⟩, trivial⟩

set_option maxHeartbeats 400000 in
theorem hasZ_c (c : Int) (l : List ByteArray) : PCall Tryd.prog Γ0 16 [eOf c l, iv 0] [bv false] := by
  refine pcall_of Tryd.func16 rfl Tryd.ntmps16 (by kernel_rfl) rfl fun w0 I0 G0 => ?_
  refine aw_seq ?_
  refine aw_region ?_
  refine g_u (s_as_imm rfl rfl) ?_
  refine g_nil ?_
  refine normal_thn ?_
  refine aw_seq ?_
  refine aw_seq ?_
  refine aw_region ?_
  refine g_u (s_mv_imm rfl rfl) ?_
  refine g_u (s_eqNI' rfl rfl (errOf_ifc _ _ _ _) rfl Tryd.underlying31) ?_
  refine g_u (s_mv_imm rfl rfl) ?_
  refine g_run rfl rfl (s_mv_imm rfl rfl) ?_
  refine g_run rfl rfl (s_eqI rfl rfl rfl) ?_
  refine g_u (s_pick_f rfl rfl rfl) ?_
  refine g_nil ?_
  refine normal_thn ?_
  refine aw_cond rfl (fun hb1 => ?_) (fun hb1 => ?_)
  · skip
    refine aw_seq ?_
    refine aw_region ?_
    refine g_u (s_as_imm rfl rfl) ?_
    refine g_nil ?_
    refine normal_thn ?_
    refine aw_ret ?_
    refine ret_thn ?_
    exact ⟨⟨(rfl : toAV (Al.look _ _) = some _).trans (congrArg some (by rfl)), rfl⟩, trivial⟩
  · exact killT hb1 ((by rfl))

set_option maxHeartbeats 400000 in
theorem hasN_c (k : Int) : PCall Tryd.prog Γ0 16 [.v .nilIface, iv k] [bv false] := by
  refine pcall_of Tryd.func16 rfl Tryd.ntmps16 (by kernel_rfl) rfl fun w0 I0 G0 => ?_
  refine aw_seq ?_
  refine aw_region ?_
  refine g_u (s_as_imm rfl rfl) ?_
  refine g_nil ?_
  refine normal_thn ?_
  refine aw_seq ?_
  refine aw_seq ?_
  refine aw_region ?_
  refine g_u (s_mv_imm rfl rfl) ?_
  refine g_u (s_eqNN rfl rfl Tryd.underlying31) ?_
  refine g_u (s_mv_imm rfl rfl) ?_
  refine g_skip rfl rfl rfl ?_
  refine g_skip rfl rfl rfl ?_
  refine g_u (s_pick_t rfl rfl rfl) ?_
  refine g_nil ?_
  refine normal_thn ?_
  refine aw_cond_true rfl ?_
  refine aw_seq ?_
  refine aw_region ?_
  refine g_u (s_as_imm rfl rfl) ?_
  refine g_nil ?_
  refine normal_thn ?_
  refine aw_ret ?_
  refine ret_thn ?_
  exact ⟨⟨(rfl : toAV (Al.look _ _) = some _).trans (congrArg some (by rfl)), rfl⟩, trivial⟩

theorem fhas_c (c k : Int) (l : List ByteArray) : PCall Tryd.prog Γ0 16 [eM (c, l), iv k] [bv (!(c == 0) && c == k)] := by
  by_cases h : c = 0
  · rw [show eM (c, l) = _ from errM_zero (f := (c, l)) h, h]; exact hasN_c k
  · rw [show eM (c, l) = _ from errM_pos (f := (c, l)) h]
    by_cases hk : k = 0
    · rw [hk, show (!(c == 0) && c == 0) = false by simp [h]]; exact hasZ_c c l
    · rw [show (!(c == 0) && c == k) = (k == c) by rw [show (c == 0) = false from beq_false_of_ne h]; exact Bool.beq_comm]; exact hasP_c c k l hk
set_option maxHeartbeats 400000 in
theorem fclass_c (c : Int) : PCall Tryd.prog Γ0 17 [iv c] [iv (classM c)] := by
  refine pcall_of Tryd.func17 rfl Tryd.ntmps17 (by kernel_rfl) rfl fun w0 I0 G0 => ?_
  refine aw_seq ?_
  refine aw_region ?_
  refine g_u (s_as_imm rfl rfl) ?_
  refine g_nil ?_
  refine normal_thn ?_
  refine aw_seq ?_
  refine aw_block ?_
  refine aw_seq ?_
  refine aw_region ?_
  refine g_u (s_mv_imm rfl rfl) ?_
  refine g_u (s_eqI rfl rfl rfl) ?_
  refine g_u (s_as_imm rfl rfl) ?_
  refine g_nil ?_
  refine normal_thn ?_
  refine aw_cond rfl (fun hb1 => ?_) (fun hb1 => ?_)
  · skip
    refine aw_seq ?_
    refine aw_region ?_
    refine g_u (s_as_imm rfl rfl) ?_
    refine g_nil ?_
    refine normal_thn ?_
    refine aw_ret ?_
    refine ret_blk ?_
    refine ret_thn ?_
    exact ⟨⟨(rfl : toAV (Al.look _ _) = some _).trans (congrArg some (by (exact (congrArg iv (by (try simp only [beq_iff_eq, beq_eq_false_iff_ne, decide_eq_true_eq, decide_eq_false_iff_not, ne_eq, Bool.not_eq_true] at *); unfold classM; (repeat' split) <;> first | rfl | omega))))), rfl⟩, trivial⟩
  · skip
    refine aw_seq ?_
    refine aw_region ?_
    refine g_u (s_mv_imm rfl rfl) ?_
    refine g_u (s_eqI rfl rfl rfl) ?_
    refine g_u (s_as_imm rfl rfl) ?_
    refine g_nil ?_
    refine normal_thn ?_
    refine aw_cond rfl (fun hb2 => ?_) (fun hb2 => ?_)
    · skip
      refine aw_seq ?_
      refine aw_region ?_
      refine g_u (s_as_imm rfl rfl) ?_
      refine g_nil ?_
      refine normal_thn ?_
      refine aw_ret ?_
      refine ret_blk ?_
      refine ret_thn ?_
      exact ⟨⟨(rfl : toAV (Al.look _ _) = some _).trans (congrArg some (by (exact (congrArg iv (by (try simp only [beq_iff_eq, beq_eq_false_iff_ne, decide_eq_true_eq, decide_eq_false_iff_not, ne_eq, Bool.not_eq_true] at *); unfold classM; (repeat' split) <;> first | rfl | omega))))), rfl⟩, trivial⟩
    · skip
      refine aw_seq ?_
      refine aw_region ?_
      refine g_u (s_mv_imm rfl rfl) ?_
      refine g_u (s_geI rfl rfl rfl) ?_
      refine g_u (s_mv_imm rfl rfl) ?_
      refine g_case (t := 12) rfl ?_
      rintro (hb3 | hb3)
      · rw [hb3]
        refine g_run rfl rfl (s_mv_imm rfl rfl) ?_
        refine g_run rfl rfl (s_leI rfl rfl rfl) ?_
        refine g_u (s_pick_t rfl rfl rfl) ?_
        refine g_u (s_as_imm rfl rfl) ?_
        refine g_nil ?_
        refine normal_thn ?_
        refine aw_cond rfl (fun hb4 => ?_) (fun hb4 => ?_)
        · skip
          refine aw_seq ?_
          refine aw_region ?_
          refine g_u (s_as_imm rfl rfl) ?_
          refine g_nil ?_
          refine normal_thn ?_
          refine aw_ret ?_
          refine ret_blk ?_
          refine ret_thn ?_
          exact ⟨⟨(rfl : toAV (Al.look _ _) = some _).trans (congrArg some (by (exact (congrArg iv (by (try simp only [beq_iff_eq, beq_eq_false_iff_ne, decide_eq_true_eq, decide_eq_false_iff_not, ne_eq, Bool.not_eq_true] at *); unfold classM; (repeat' split) <;> first | rfl | omega))))), rfl⟩, trivial⟩
        · skip
          refine aw_skip ?_
          refine normal_blk ?_
          refine normal_thn ?_
          refine aw_seq ?_
          refine aw_region ?_
          refine g_u (s_as_imm rfl rfl) ?_
          refine g_nil ?_
          refine normal_thn ?_
          refine aw_ret ?_
          exact ⟨⟨(rfl : toAV (Al.look _ _) = some _).trans (congrArg some (by (exact (congrArg iv (by (try simp only [beq_iff_eq, beq_eq_false_iff_ne, decide_eq_true_eq, decide_eq_false_iff_not, ne_eq, Bool.not_eq_true] at *); unfold classM; (repeat' split) <;> first | rfl | omega))))), rfl⟩, trivial⟩
      · rw [hb3]
        refine g_skip rfl rfl rfl ?_
        refine g_skip rfl rfl rfl ?_
        refine g_u (s_pick_f rfl rfl rfl) ?_
        refine g_u (s_as_imm rfl rfl) ?_
        refine g_nil ?_
        refine normal_thn ?_
        refine aw_cond_false rfl ?_
        refine aw_skip ?_
        refine normal_blk ?_
        refine normal_thn ?_
        refine aw_seq ?_
        refine aw_region ?_
        refine g_u (s_as_imm rfl rfl) ?_
        refine g_nil ?_
        refine normal_thn ?_
        refine aw_ret ?_
        exact ⟨⟨(rfl : toAV (Al.look _ _) = some _).trans (congrArg some (by (exact (congrArg iv (by (try simp only [beq_iff_eq, beq_eq_false_iff_ne, decide_eq_true_eq, decide_eq_false_iff_not, ne_eq, Bool.not_eq_true] at *); unfold classM; (repeat' split) <;> first | rfl | omega))))), rfl⟩, trivial⟩

set_option maxHeartbeats 400000 in
theorem rclass_c (c : Int) : PCall Tryd.prog Γ0 18 [iv c] [iv (classM c)] := by
  refine pcall_of Tryd.func18 rfl Tryd.ntmps18 (by kernel_rfl) rfl fun w0 I0 G0 => ?_
  refine aw_seq ?_
  refine aw_region ?_
  refine g_u (s_as_imm rfl rfl) ?_
  refine g_nil ?_
  refine normal_thn ?_
  refine aw_seq ?_
  refine aw_seq ?_
  refine aw_region ?_
  refine g_u (s_mv_imm rfl rfl) ?_
  refine g_u (s_eqI rfl rfl rfl) ?_
  refine g_nil ?_
  refine normal_thn ?_
  refine aw_cond rfl (fun hb1 => ?_) (fun hb1 => ?_)
  · skip
    refine aw_seq ?_
    refine aw_region ?_
    refine g_u (s_as_imm rfl rfl) ?_
    refine g_nil ?_
    refine normal_thn ?_
    refine aw_ret ?_
    refine ret_thn ?_
    exact ⟨⟨(rfl : toAV (Al.look _ _) = some _).trans (congrArg some (by (exact (congrArg iv (by (try simp only [beq_iff_eq, beq_eq_false_iff_ne, decide_eq_true_eq, decide_eq_false_iff_not, ne_eq, Bool.not_eq_true] at *); unfold classM; (repeat' split) <;> first | rfl | omega))))), rfl⟩, trivial⟩
  · skip
    refine aw_skip ?_
    refine normal_thn ?_
    refine aw_seq ?_
    refine aw_seq ?_
    refine aw_region ?_
    refine g_u (s_mv_imm rfl rfl) ?_
    refine g_u (s_geI rfl rfl rfl) ?_
    refine g_u (s_mv_imm rfl rfl) ?_
    refine g_case (t := 7) rfl ?_
    rintro (hb2 | hb2)
    · rw [hb2]
      refine g_run rfl rfl (s_mv_imm rfl rfl) ?_
      refine g_run rfl rfl (s_leI rfl rfl rfl) ?_
      refine g_u (s_pick_t rfl rfl rfl) ?_
      refine g_nil ?_
      refine normal_thn ?_
      refine aw_cond rfl (fun hb3 => ?_) (fun hb3 => ?_)
      · skip
        refine aw_seq ?_
        refine aw_region ?_
        refine g_u (s_as_imm rfl rfl) ?_
        refine g_nil ?_
        refine normal_thn ?_
        refine aw_ret ?_
        refine ret_thn ?_
        exact ⟨⟨(rfl : toAV (Al.look _ _) = some _).trans (congrArg some (by (exact (congrArg iv (by (try simp only [beq_iff_eq, beq_eq_false_iff_ne, decide_eq_true_eq, decide_eq_false_iff_not, ne_eq, Bool.not_eq_true] at *); unfold classM; (repeat' split) <;> first | rfl | omega))))), rfl⟩, trivial⟩
      · skip
        refine aw_skip ?_
        refine normal_thn ?_
        refine aw_seq ?_
        refine aw_seq ?_
        refine aw_region ?_
        refine g_u (s_mv_imm rfl rfl) ?_
        refine g_u (s_eqI rfl rfl rfl) ?_
        refine g_nil ?_
        refine normal_thn ?_
        refine aw_cond rfl (fun hb4 => ?_) (fun hb4 => ?_)
        · skip
          refine aw_seq ?_
          refine aw_region ?_
          refine g_u (s_as_imm rfl rfl) ?_
          refine g_nil ?_
          refine normal_thn ?_
          refine aw_ret ?_
          refine ret_thn ?_
          exact ⟨⟨(rfl : toAV (Al.look _ _) = some _).trans (congrArg some (by (exact (congrArg iv (by (try simp only [beq_iff_eq, beq_eq_false_iff_ne, decide_eq_true_eq, decide_eq_false_iff_not, ne_eq, Bool.not_eq_true] at *); unfold classM; (repeat' split) <;> first | rfl | omega))))), rfl⟩, trivial⟩
        · skip
          refine aw_skip ?_
          refine normal_thn ?_
          refine aw_seq ?_
          refine aw_region ?_
          refine g_u (s_as_imm rfl rfl) ?_
          refine g_nil ?_
          refine normal_thn ?_
          refine aw_ret ?_
          exact ⟨⟨(rfl : toAV (Al.look _ _) = some _).trans (congrArg some (by (exact (congrArg iv (by (try simp only [beq_iff_eq, beq_eq_false_iff_ne, decide_eq_true_eq, decide_eq_false_iff_not, ne_eq, Bool.not_eq_true] at *); unfold classM; (repeat' split) <;> first | rfl | omega))))), rfl⟩, trivial⟩
    · rw [hb2]
      refine g_skip rfl rfl rfl ?_
      refine g_skip rfl rfl rfl ?_
      refine g_u (s_pick_f rfl rfl rfl) ?_
      refine g_nil ?_
      refine normal_thn ?_
      refine aw_cond_false rfl ?_
      refine aw_skip ?_
      refine normal_thn ?_
      refine aw_seq ?_
      refine aw_seq ?_
      refine aw_region ?_
      refine g_u (s_mv_imm rfl rfl) ?_
      refine g_u (s_eqI rfl rfl rfl) ?_
      refine g_nil ?_
      refine normal_thn ?_
      refine aw_cond rfl (fun hb5 => ?_) (fun hb5 => ?_)
      · skip
        refine aw_seq ?_
        refine aw_region ?_
        refine g_u (s_as_imm rfl rfl) ?_
        refine g_nil ?_
        refine normal_thn ?_
        refine aw_ret ?_
        refine ret_thn ?_
        exact ⟨⟨(rfl : toAV (Al.look _ _) = some _).trans (congrArg some (by (exact (congrArg iv (by (try simp only [beq_iff_eq, beq_eq_false_iff_ne, decide_eq_true_eq, decide_eq_false_iff_not, ne_eq, Bool.not_eq_true] at *); unfold classM; (repeat' split) <;> first | rfl | omega))))), rfl⟩, trivial⟩
      · skip
        refine aw_skip ?_
        refine normal_thn ?_
        refine aw_seq ?_
        refine aw_region ?_
        refine g_u (s_as_imm rfl rfl) ?_
        refine g_nil ?_
        refine normal_thn ?_
        refine aw_ret ?_
        exact ⟨⟨(rfl : toAV (Al.look _ _) = some _).trans (congrArg some (by (exact (congrArg iv (by (try simp only [beq_iff_eq, beq_eq_false_iff_ne, decide_eq_true_eq, decide_eq_false_iff_not, ne_eq, Bool.not_eq_true] at *); unfold classM; (repeat' split) <;> first | rfl | omega))))), rfl⟩, trivial⟩

set_option maxHeartbeats 4000000 in
theorem made_c (c : Int) (l : List ByteArray) (hl : l.length ≤ 1000000) : PCall Tryd.prog Γ0 11 [iv c, .sl 1 (l.map fun x => sv x)] [eM (c, l)] := by
  refine pcall_of Tryd.func11 rfl Tryd.ntmps11 (by kernel_rfl) rfl fun w0 I0 G0 => ?_
  refine aw_seq ?_
  refine aw_region ?_
  refine g_u (s_as_imm rfl rfl) ?_
  refine g_nil ?_
  refine normal_thn ?_
  refine aw_seq ?_
  refine aw_region ?_
  refine g_u (s_mv_imm rfl rfl) ?_
  refine g_u (s_call1 (fnew_c _) rfl rfl) ?_
  refine g_u (s_as_imm rfl rfl) ?_
  refine g_nil ?_
  refine normal_thn ?_
  refine aw_seq ?_
  refine aw_seq ?_
  refine aw_region ?_
  refine g_u (s_mv_imm rfl rfl) ?_
  refine g_u (s_lenL rfl rfl Tryd.underlying29) ?_
  refine g_u (s_sub rfl rfl rfl) ?_
  refine g_u (s_as_imm rfl rfl) ?_
  refine g_nil ?_
  refine normal_thn ?_
  refine aw_block ?_
  refine aw_loop' (fun i : Nat => [(0, .imm (iv c)), (1, .imm (.sl 1 (l.map fun x => sv x))), (5, .imm (eM (c, l.drop i))), (6, .imm (iv ((i : Int) - 1)))]) (fun i => i ≤ l.length) (fun i => i) (l.length) ?_ ⟨rfl, rfl, (by rw [List.drop_length]; rfl), look_int rfl (by rw [List.length_map, wrap64 (by omega) (by omega)]), trivial⟩ ?_
  · exact Nat.le_refl _
  · rintro i h1; have h1 : i ≤ l.length := h1
    refine aw_seq ?_
    refine aw_seq ?_
    refine aw_region ?_
    refine g_u (s_mv_imm rfl rfl) ?_
    refine g_u (s_geI rfl rfl rfl) ?_
    refine g_nil ?_
    refine normal_thn ?_
    refine aw_cond rfl (fun hb1 => ?_) (fun hb1 => ?_)
    · skip
      have hi : 0 < i := by have := of_decide_eq_true hb1; omega
      have ed : l.drop (i - 1) = nth l (i - 1) ⟨#[]⟩ :: l.drop i := by have := drop_nth (d := (⟨#[]⟩ : ByteArray)) (show i - 1 < l.length by omega); rw [show i - 1 + 1 = i by omega] at this; exact this
      have ei : ((i : Int) - 1).toNat = i - 1 := by omega
      refine aw_skip ?_
      refine normal_thn ?_
      refine aw_seq ?_
      refine aw_block ?_
      refine aw_region ?_
      refine g_u (s_mv_imm rfl rfl) ?_
      refine g_u (s_mv_imm rfl rfl) ?_
      refine g_u (s_indexAddr rfl rfl rfl Tryd.underlying29 tS9 (by omega) (by rw [ei]; exact ixStr (by omega))) ?_
      refine g_u (s_load_cp rfl rfl tA9 tS9 rfl rfl) ?_
      refine g_u (s_mv_imm rfl rfl) ?_
      refine g_u (s_call1 (fin_c _ _) rfl rfl) ?_
      refine g_u (s_as_imm rfl rfl) ?_
      refine g_nil ?_
      refine normal_blk ?_
      refine normal_thn ?_
      refine aw_region ?_
      refine g_u (s_mv_imm rfl rfl) ?_
      refine g_u (s_sub rfl rfl rfl) ?_
      refine g_u (s_as_imm rfl rfl) ?_
      refine g_nil ?_
      refine normal_thn ?_
      refine ⟨i - 1, by omega, ⟨rfl, rfl, (by rw [ed]; rfl), look_int rfl (by rw [wrap64 (by omega) (by omega)]; omega), trivial⟩, by omega⟩
    · skip
      have hin : i = 0 := by have := of_decide_eq_false hb1; omega
      refine aw_exit ?_
      refine exit_thn ?_
      refine exit_thn ?_
      refine exit_blk ?_
      refine normal_thn ?_
      refine aw_seq ?_
      refine aw_region ?_
      refine g_u (s_mv_imm rfl rfl) ?_
      refine g_u (s_as_imm rfl rfl) ?_
      refine g_nil ?_
      refine normal_thn ?_
      refine aw_ret ?_
      exact ⟨⟨(rfl : toAV (Al.look _ _) = some _).trans (congrArg some (by (rw [hin]; rfl))), rfl⟩, trivial⟩

end Go.Proofs

namespace Go.Proofs
open Go Go.Al
set_option maxRecDepth 10000
set_option maxRecDepth 100000
def k10 : List ByteArray := [⟨#[115, 99, 111, 112, 101, 32, 48]⟩, ⟨#[115, 112, 97, 110, 32, 50]⟩]
theorem textBd {l : List ByteArray} (hl : l.length ≤ 30) (hs : ∀ x ∈ l, x.size ≤ 140737488351232) : (pathB l).length ≤ 9000000000000000000 := by
  have h : ∀ (l : List ByteArray), (∀ x ∈ l, x.size ≤ 140737488351232) → (pathB l).length ≤ l.length * (140737488351232 + 2) := by
    intro l
    induction l with
    | nil => intro _; exact Nat.zero_le _
    | cons p l ih =>
      intro h
      have h1 := h p List.mem_cons_self
      have h2 := ih fun x hx => h x (List.mem_cons_of_mem _ hx)
      simp only [pathB, List.length_append, List.length_cons, List.length_nil, lst_len]
      rw [Nat.succ_mul]; omega
  have h1 := h l hs
  have h2 : l.length * (140737488351232 + 2) ≤ 30 * (140737488351232 + 2) := Nat.mul_le_mul_right _ hl
  have h3 : 30 * (140737488351232 + 2) ≤ 9000000000000000000 := by decide
  omega
set_option maxHeartbeats 4000000 in
theorem works09_c : PCall Tryd.prog Γ0 10 [] [bv true] := by
  refine pcall_of Tryd.func10 rfl Tryd.ntmps10 (by kernel_rfl) rfl fun w0 I0 G0 => ?_
  refine aw_seq ?_
  refine aw_region ?_
  refine g_u (s_as_imm rfl rfl) ?_
  refine g_nil ?_
  refine normal_thn ?_
  refine aw_seq ?_
  refine aw_region ?_
  refine g_u (s_call1 (fnew_c 10) rfl rfl) ?_
  refine g_u (s_call1 (fin_c _ (10, [])) rfl rfl) ?_
  refine g_u (s_call1 (fin_c _ (10, [⟨#[115, 112, 97, 110, 32, 50]⟩])) rfl rfl) ?_
  refine g_u (s_as_imm rfl rfl) ?_
  refine g_nil ?_
  refine normal_thn ?_
  refine aw_seq ?_
  refine aw_region ?_
  refine g_u (s_mv_imm rfl rfl) ?_
  refine g_u (s_call1 (fof_c 10 k10) rfl rfl) ?_
  refine g_u (s_eqI rfl rfl rfl) ?_
  refine g_u (s_mv_imm rfl rfl) ?_
  refine g_case (t := 8) rfl ?_
  rintro (hb1 | hb1)
  · rw [hb1]
    refine g_run rfl rfl (s_mv_imm rfl rfl) ?_
    refine g_run rfl rfl (s_call1 (fhas_c 10 10 k10) rfl rfl) ?_
    refine g_u (s_pick_t rfl rfl rfl) ?_
    refine g_u (s_mv_imm rfl rfl) ?_
    refine g_case (t := 12) rfl ?_
    rintro (hb2 | hb2)
    · rw [hb2]
      refine g_run rfl rfl (s_mv_imm rfl rfl) ?_
      refine g_run rfl rfl (s_call1 (fhas_c 10 11 k10) rfl rfl) ?_
      refine g_run rfl rfl (s_not rfl rfl) ?_
      refine g_u (s_pick_t rfl rfl rfl) ?_
      refine g_u (s_mv_imm rfl rfl) ?_
      refine g_case (t := 17) rfl ?_
      rintro (hb3 | hb3)
      · rw [hb3]
        refine g_run rfl rfl (s_mv_imm rfl rfl) ?_
        refine g_run rfl rfl (s_call1 (ftext_c 10 k10 (by decide) (by decide +kernel) (by decide)) rfl rfl) ?_
        refine g_run rfl rfl (s_eqS rfl rfl rfl) ?_
        refine g_u (s_pick_t rfl rfl rfl) ?_
        refine g_u (s_mv_imm rfl rfl) ?_
        refine g_case (t := 22) rfl ?_
        rintro (hb4 | hb4)
        · rw [hb4]
          refine g_run rfl rfl (s_mv_imm rfl rfl) ?_
          refine g_run rfl rfl (s_call1 (fpath_c 10 k10 (by decide)) rfl rfl) ?_
          refine g_run rfl rfl (s_lenL rfl rfl Tryd.underlying29) ?_
          refine g_run rfl rfl (s_eqI rfl rfl rfl) ?_
          refine g_u (s_pick_t rfl rfl rfl) ?_
          refine g_u (s_mv_imm rfl rfl) ?_
          refine g_case (t := 28) rfl ?_
          rintro (hb5 | hb5)
          · rw [hb5]
            refine g_run rfl rfl (s_call1 (foN_c) rfl rfl) ?_
            refine g_run rfl rfl (s_eqI rfl rfl rfl) ?_
            refine g_u (s_pick_t rfl rfl rfl) ?_
            refine g_u (s_mv_imm rfl rfl) ?_
            refine g_case (t := 32) rfl ?_
            rintro (hb6 | hb6)
            · rw [hb6]
              refine g_run rfl rfl (s_call1 (fclass_c _) rfl rfl) ?_
              refine g_run rfl rfl (s_eqI rfl rfl rfl) ?_
              refine g_u (s_pick_t rfl rfl rfl) ?_
              refine g_u (s_as_imm rfl rfl) ?_
              refine g_nil ?_
              refine normal_thn ?_
              refine aw_ret ?_
              exact ⟨⟨(rfl : toAV (Al.look _ _) = some _).trans (congrArg some (by rfl)), rfl⟩, trivial⟩
            · exact killT hb6 (by first | rfl | decide +kernel)
          · exact killT hb5 (by first | rfl | decide +kernel)
        · exact killT hb4 (by first | rfl | decide +kernel)
      · exact killT hb3 (by first | rfl | decide +kernel)
    · exact killT hb2 (by first | rfl | decide +kernel)
  · exact killT hb1 (by first | rfl | decide +kernel)

set_option maxHeartbeats 4000000 in
theorem faultTells_c (c : Int) (l : List ByteArray) (hc : -9223372036854775808 ≤ c ∧ c < 9223372036854775808) (hs : ∀ x ∈ l, x.size ≤ 140737488351232) : PCall Tryd.prog Γ0 4 [iv c, .sl 1 (l.map fun x => sv x)] [bv true] := by
  refine pcall_of Tryd.func4 rfl Tryd.ntmps4 (by kernel_rfl) rfl fun w0 I0 G0 => ?_
  refine aw_seq ?_
  refine aw_region ?_
  refine g_u (s_as_imm rfl rfl) ?_
  refine g_nil ?_
  refine normal_thn ?_
  refine aw_seq ?_
  refine aw_seq ?_
  refine aw_region ?_
  refine g_u (s_mv_imm rfl rfl) ?_
  refine g_u (s_lenL rfl rfl Tryd.underlying29) ?_
  refine g_u (s_gtI rfl rfl rfl) ?_
  refine g_nil ?_
  refine normal_thn ?_
  refine aw_cond rfl (fun hb1 => ?_) (fun hb1 => ?_)
  · skip
    have z1 : 30 < l.length := by have := of_decide_eq_true hb1; (try simp only [List.length_map] at this); omega
    refine aw_seq ?_
    refine aw_region ?_
    refine g_u (s_call1 (works09_c) rfl rfl) ?_
    refine g_u (s_as_imm rfl rfl) ?_
    refine g_nil ?_
    refine normal_thn ?_
    refine aw_ret ?_
    refine ret_thn ?_
    exact ⟨⟨(rfl : toAV (Al.look _ _) = some _).trans (congrArg some (by rfl)), rfl⟩, trivial⟩
  · skip
    have z1 : l.length ≤ 30 := by have := of_decide_eq_false hb1; (try simp only [List.length_map] at this); omega
    have hpb := textBd z1 hs
    refine aw_skip ?_
    refine normal_thn ?_
    refine aw_seq ?_
    refine aw_region ?_
    refine g_u (s_mv_imm rfl rfl) ?_
    refine g_u (s_mv_imm rfl rfl) ?_
    refine g_u (s_call1 (made_c _ _ (by omega)) rfl rfl) ?_
    refine g_u (s_as_imm rfl rfl) ?_
    refine g_nil ?_
    refine normal_thn ?_
    refine aw_seq ?_
    refine aw_region ?_
    refine g_u (s_mv_imm rfl rfl) ?_
    refine g_u (s_call1 (fpath_c c l (by omega)) rfl rfl) ?_
    refine g_u (s_as_imm rfl rfl) ?_
    refine g_nil ?_
    refine normal_thn ?_
    refine aw_seq ?_
    refine aw_seq ?_
    refine aw_region ?_
    refine g_u (s_mv_imm rfl rfl) ?_
    refine g_u (s_eqI rfl rfl rfl) ?_
    refine g_nil ?_
    refine normal_thn ?_
    refine aw_cond rfl (fun hb2 => ?_) (fun hb2 => ?_)
    · skip
      obtain rfl : c = 0 := beq_iff_eq.1 hb2
      refine aw_seq ?_
      refine aw_region ?_
      refine g_u (s_mv_imm rfl rfl) ?_
      refine g_u (s_eqNN' rfl rfl (errM_zero rfl) Tryd.underlying31) ?_
      refine g_u (s_mv_imm rfl rfl) ?_
      refine g_run rfl rfl (s_mv_imm rfl rfl) ?_
      refine g_run rfl rfl (s_call1 (fof_c _ l) rfl rfl) ?_
      refine g_run rfl rfl (s_eqI rfl rfl rfl) ?_
      refine g_u (s_pick_t rfl rfl rfl) ?_
      refine g_u (s_mv_imm rfl rfl) ?_
      refine g_case (t := 26) rfl ?_
      rintro (hb3 | hb3)
      · rw [hb3]
        refine g_run rfl rfl (s_mv_imm rfl rfl) ?_
        refine g_run rfl rfl (s_call1 (ftext_c _ l (by omega) hpb (by first | exact hc | decide)) rfl rfl) ?_
        refine g_run rfl rfl (s_eqS rfl rfl rfl) ?_
        refine g_u (s_pick_t rfl rfl rfl) ?_
        refine g_u (s_mv_imm rfl rfl) ?_
        refine g_case (t := 31) rfl ?_
        rintro (hb4 | hb4)
        · rw [hb4]
          refine g_run rfl rfl (s_mv_imm rfl rfl) ?_
          refine g_run rfl rfl (s_lenL rfl rfl Tryd.underlying29) ?_
          refine g_run rfl rfl (s_eqI rfl rfl rfl) ?_
          refine g_u (s_pick_t rfl rfl rfl) ?_
          refine g_u (s_mv_imm rfl rfl) ?_
          refine g_case (t := 36) rfl ?_
          rintro (hb5 | hb5)
          · rw [hb5]
            refine g_run rfl rfl (s_call1 (works09_c) rfl rfl) ?_
            refine g_u (s_pick_t rfl rfl rfl) ?_
            refine g_u (s_as_imm rfl rfl) ?_
            refine g_nil ?_
            refine normal_thn ?_
            refine aw_ret ?_
            refine ret_thn ?_
            exact ⟨⟨(rfl : toAV (Al.look _ _) = some _).trans (congrArg some (by rfl)), rfl⟩, trivial⟩
          · exact killT hb5 (by first | rfl | exact beq_self_eq_true _ | simp)
        · exact killT hb4 (by first | rfl | exact beq_self_eq_true _ | simp)
      · exact killT hb3 (by first | rfl | exact beq_self_eq_true _ | simp)
    · skip
      have q : ¬ c = 0 := beq_eq_false_iff_ne.1 hb2
      rw [show pathL c l = l from if_neg q]
      refine aw_skip ?_
      refine normal_thn ?_
      refine aw_seq ?_
      refine aw_seq ?_
      refine aw_region ?_
      refine g_u (s_mv_imm rfl rfl) ?_
      refine g_u (s_lenL rfl rfl Tryd.underlying29) ?_
      refine g_u (s_mv_imm rfl rfl) ?_
      refine g_u (s_lenL rfl rfl Tryd.underlying29) ?_
      refine g_u (s_neI rfl rfl rfl) ?_
      refine g_nil ?_
      refine normal_thn ?_
      refine aw_cond rfl (fun hb6 => ?_) (fun hb6 => ?_)
      · exact killF hb6 (by simp)
      · skip
        refine aw_skip ?_
        refine normal_thn ?_
        refine aw_seq ?_
        refine aw_seq ?_
        refine aw_region ?_
        refine g_u (s_as_imm rfl rfl) ?_
        refine g_nil ?_
        refine normal_thn ?_
        refine aw_block ?_
        refine aw_loop' (fun i : Nat => [(0, .imm (iv c)), (1, .imm (.sl 1 (l.map fun x => sv x))), (5, .imm (eM (c, l))), (6, .imm (.sl 1 (l.map fun x => sv x))), (7, .imm (iv (i : Int)))]) (fun i => i ≤ l.length) (fun i => l.length - i) (0) ?_ ⟨rfl, rfl, rfl, rfl, rfl, trivial⟩ ?_
        · exact Nat.zero_le _
        · rintro i h1; have h1 : i ≤ l.length := h1
          refine aw_seq ?_
          refine aw_seq ?_
          refine aw_region ?_
          refine g_u (s_mv_imm rfl rfl) ?_
          refine g_u (s_mv_imm rfl rfl) ?_
          refine g_u (s_lenL rfl rfl Tryd.underlying29) ?_
          refine g_u (s_ltI rfl rfl rfl) ?_
          refine g_nil ?_
          refine normal_thn ?_
          refine aw_cond rfl (fun hb7 => ?_) (fun hb7 => ?_)
          · skip
            have hi : i < l.length := by have := of_decide_eq_true hb7; (try simp only [List.length_map] at this); omega
            refine aw_skip ?_
            refine normal_thn ?_
            refine aw_seq ?_
            refine aw_block ?_
            refine aw_seq ?_
            refine aw_draw mixed ?_
            refine g_u (s_mv_imm rfl rfl) ?_
            refine g_u (s_mv_imm rfl rfl) ?_
            refine g_u (s_indexAddr rfl rfl rfl Tryd.underlying29 tS9 (by omega) (ixStr hi)) ?_
            refine g_u (s_load_cp rfl rfl tA9 tS9 rfl rfl) ?_
            refine g_u (s_mv_imm rfl rfl) ?_
            refine g_u (s_mv_imm rfl rfl) ?_
            refine g_u (s_indexAddr rfl rfl rfl Tryd.underlying29 tS9 (by omega) (ixStr hi)) ?_
            refine g_u (s_load_cp rfl rfl tA9 tS9 rfl rfl) ?_
            refine g_u (s_neS rfl rfl rfl) ?_
            refine g_nil ⟨by kernel_rfl, ?_⟩
            refine normal_thn ?_
            refine aw_cond rfl (fun hb8 => ?_) (fun hb8 => ?_)
            · exact killF hb8 (by simp)
            · skip
              refine aw_skip ?_
              refine normal_blk ?_
              refine normal_thn ?_
              refine aw_region ?_
              refine g_u (s_mv_imm rfl rfl) ?_
              refine g_u (s_add rfl rfl rfl) ?_
              refine g_u (s_as_imm rfl rfl) ?_
              refine g_nil ?_
              refine normal_thn ?_
              refine ⟨i + 1, hi, ⟨rfl, rfl, rfl, rfl, look_int rfl (by rw [wrap64 (by omega) (by omega)]; rfl), trivial⟩, by (try dsimp only); omega⟩
          · skip
            have hin : i = l.length := by have := of_decide_eq_false hb7; (try simp only [List.length_map] at this); omega
            refine aw_exit ?_
            refine exit_thn ?_
            refine exit_thn ?_
            refine exit_blk ?_
            refine normal_thn ?_
            refine aw_seq ?_
            refine aw_region ?_
            refine g_u (s_mv_imm rfl rfl) ?_
            refine g_u (s_neNI' rfl rfl ((by rw [show eM (c, l) = _ from errM_pos (f := (c, l)) q]; rfl)) rfl Tryd.underlying31) ?_
            refine g_u (s_mv_imm rfl rfl) ?_
            refine g_run rfl rfl (s_mv_imm rfl rfl) ?_
            refine g_run rfl rfl (s_call1 (fof_c _ l) rfl rfl) ?_
            refine g_run rfl rfl (s_mv_imm rfl rfl) ?_
            refine g_run rfl rfl (s_eqI rfl rfl rfl) ?_
            refine g_u (s_pick_t rfl rfl rfl) ?_
            refine g_u (s_mv_imm rfl rfl) ?_
            refine g_case (t := 67) rfl ?_
            rintro (hb9 | hb9)
            · rw [hb9]
              refine g_run rfl rfl (s_mv_imm rfl rfl) ?_
              refine g_run rfl rfl (s_call1 (ftext_c _ l (by omega) hpb (by first | exact hc | decide)) rfl rfl) ?_
              refine g_run rfl rfl (s_mv_imm rfl rfl) ?_
              refine g_run rfl rfl (s_mv_imm rfl rfl) ?_
              refine g_run rfl rfl (s_call1 (rtext09_c c l (by omega) hpb hc) rfl rfl) ?_
              refine g_run rfl rfl (s_eqS rfl rfl rfl) ?_
              refine g_u (s_pick_t rfl rfl rfl) ?_
              refine g_u (s_mv_imm rfl rfl) ?_
              refine g_case (t := 75) rfl ?_
              rintro (hb10 | hb10)
              · rw [hb10]
                refine g_run rfl rfl (s_call1 (works09_c) rfl rfl) ?_
                refine g_u (s_pick_t rfl rfl rfl) ?_
                refine g_u (s_as_imm rfl rfl) ?_
                refine g_nil ?_
                refine normal_thn ?_
                refine aw_ret ?_
                exact ⟨⟨(rfl : toAV (Al.look _ _) = some _).trans (congrArg some (by rfl)), rfl⟩, trivial⟩
              · exact killT hb10 (by first | rfl | exact beq_self_eq_true _ | simp)
            · exact killT hb9 (by first | rfl | exact beq_self_eq_true _ | simp)

set_option maxHeartbeats 4000000 in
theorem faultKinds_c (c : Int) (l : List ByteArray) (k : Int) : PCall Tryd.prog Γ0 5 [iv c, .sl 1 (l.map fun x => sv x), iv k] [bv true] := by
  refine pcall_of Tryd.func5 rfl Tryd.ntmps5 (by kernel_rfl) rfl fun w0 I0 G0 => ?_
  refine aw_seq ?_
  refine aw_region ?_
  refine g_u (s_as_imm rfl rfl) ?_
  refine g_nil ?_
  refine normal_thn ?_
  refine aw_seq ?_
  refine aw_seq ?_
  refine aw_region ?_
  refine g_u (s_mv_imm rfl rfl) ?_
  refine g_u (s_lenL rfl rfl Tryd.underlying29) ?_
  refine g_u (s_gtI rfl rfl rfl) ?_
  refine g_nil ?_
  refine normal_thn ?_
  refine aw_cond rfl (fun hb1 => ?_) (fun hb1 => ?_)
  · skip
    refine aw_seq ?_
    refine aw_region ?_
    refine g_u (s_call1 (works09_c) rfl rfl) ?_
    refine g_u (s_as_imm rfl rfl) ?_
    refine g_nil ?_
    refine normal_thn ?_
    refine aw_ret ?_
    refine ret_thn ?_
    exact ⟨⟨(rfl : toAV (Al.look _ _) = some _).trans (congrArg some (by rfl)), rfl⟩, trivial⟩
  · skip
    have z1 : l.length ≤ 30 := by have := of_decide_eq_false hb1; (try simp only [List.length_map] at this); omega
    refine aw_skip ?_
    refine normal_thn ?_
    refine aw_seq ?_
    refine aw_region ?_
    refine g_u (s_mv_imm rfl rfl) ?_
    refine g_u (s_mv_imm rfl rfl) ?_
    refine g_u (s_call1 (made_c _ _ (by omega)) rfl rfl) ?_
    refine g_u (s_as_imm rfl rfl) ?_
    refine g_nil ?_
    refine normal_thn ?_
    refine aw_seq ?_
    refine aw_region ?_
    refine g_u (s_mv_imm rfl rfl) ?_
    refine g_u (s_mv_imm rfl rfl) ?_
    refine g_u (s_call1 (fhas_c _ _ _) rfl rfl) ?_
    refine g_u (s_mv_imm rfl rfl) ?_
    refine g_u (s_neI rfl rfl rfl) ?_
    refine g_u (s_mv_imm rfl rfl) ?_
    refine g_case (t := 20) rfl ?_
    rintro (hb2 | hb2)
    · rw [hb2]
      have q : (!(c == 0)) = true := hb2
      refine g_run rfl rfl (s_mv_imm rfl rfl) ?_
      refine g_run rfl rfl (s_mv_imm rfl rfl) ?_
      refine g_run rfl rfl (s_eqI rfl rfl rfl) ?_
      refine g_u (s_pick_t rfl rfl rfl) ?_
      refine g_u (s_eqB rfl rfl rfl Tryd.underlying4) ?_
      refine g_u (s_mv_imm rfl rfl) ?_
      refine g_case (t := 26) rfl ?_
      rintro (hb3 | hb3)
      · rw [hb3]
        refine g_run rfl rfl (s_mv_imm rfl rfl) ?_
        refine g_run rfl rfl (s_call1 (hasN_c _) rfl rfl) ?_
        refine g_run rfl rfl (s_not rfl rfl) ?_
        refine g_u (s_pick_t rfl rfl rfl) ?_
        refine g_u (s_mv_imm rfl rfl) ?_
        refine g_case (t := 31) rfl ?_
        rintro (hb4 | hb4)
        · rw [hb4]
          refine g_run rfl rfl (s_mv_imm rfl rfl) ?_
          refine g_run rfl rfl (s_call1 (fclass_c _) rfl rfl) ?_
          refine g_run rfl rfl (s_mv_imm rfl rfl) ?_
          refine g_run rfl rfl (s_call1 (rclass_c _) rfl rfl) ?_
          refine g_run rfl rfl (s_eqI rfl rfl rfl) ?_
          refine g_u (s_pick_t rfl rfl rfl) ?_
          refine g_u (s_mv_imm rfl rfl) ?_
          refine g_case (t := 38) rfl ?_
          rintro (hb5 | hb5)
          · rw [hb5]
            refine g_run rfl rfl (s_call1 (works09_c) rfl rfl) ?_
            refine g_u (s_pick_t rfl rfl rfl) ?_
            refine g_u (s_as_imm rfl rfl) ?_
            refine g_nil ?_
            refine normal_thn ?_
            refine aw_ret ?_
            exact ⟨⟨(rfl : toAV (Al.look _ _) = some _).trans (congrArg some (by rfl)), rfl⟩, trivial⟩
          · exact killT hb5 (by first | rfl | exact beq_self_eq_true _ | simp)
        · exact killT hb4 (by first | rfl | exact beq_self_eq_true _ | simp)
      · exact killT hb3 (by rw [q]; simp)
    · rw [hb2]
      have q : (!(c == 0)) = false := hb2
      refine g_skip rfl rfl rfl ?_
      refine g_skip rfl rfl rfl ?_
      refine g_skip rfl rfl rfl ?_
      refine g_u (s_pick_f rfl rfl rfl) ?_
      refine g_u (s_eqB rfl rfl rfl Tryd.underlying4) ?_
      refine g_u (s_mv_imm rfl rfl) ?_
      refine g_case (t := 26) rfl ?_
      rintro (hb6 | hb6)
      · rw [hb6]
        refine g_run rfl rfl (s_mv_imm rfl rfl) ?_
        refine g_run rfl rfl (s_call1 (hasN_c _) rfl rfl) ?_
        refine g_run rfl rfl (s_not rfl rfl) ?_
        refine g_u (s_pick_t rfl rfl rfl) ?_
        refine g_u (s_mv_imm rfl rfl) ?_
        refine g_case (t := 31) rfl ?_
        rintro (hb7 | hb7)
        · rw [hb7]
          refine g_run rfl rfl (s_mv_imm rfl rfl) ?_
          refine g_run rfl rfl (s_call1 (fclass_c _) rfl rfl) ?_
          refine g_run rfl rfl (s_mv_imm rfl rfl) ?_
          refine g_run rfl rfl (s_call1 (rclass_c _) rfl rfl) ?_
          refine g_run rfl rfl (s_eqI rfl rfl rfl) ?_
          refine g_u (s_pick_t rfl rfl rfl) ?_
          refine g_u (s_mv_imm rfl rfl) ?_
          refine g_case (t := 38) rfl ?_
          rintro (hb8 | hb8)
          · rw [hb8]
            refine g_run rfl rfl (s_call1 (works09_c) rfl rfl) ?_
            refine g_u (s_pick_t rfl rfl rfl) ?_
            refine g_u (s_as_imm rfl rfl) ?_
            refine g_nil ?_
            refine normal_thn ?_
            refine aw_ret ?_
            exact ⟨⟨(rfl : toAV (Al.look _ _) = some _).trans (congrArg some (by rfl)), rfl⟩, trivial⟩
          · exact killT hb8 (by first | rfl | exact beq_self_eq_true _ | simp)
        · exact killT hb7 (by first | rfl | exact beq_self_eq_true _ | simp)
      · exact killT hb6 (by rw [q]; simp)

end Go.Proofs

namespace Go.Proofs
open Go Go.Al

/-! ### Two errors' texts: numbers in tens, parts without colons -/
theorem dig_toNat {n : Nat} (h : n < 10) : (UInt8.ofNat (48 + n)).toNat = 48 + n := by
  rw [UInt8.toNat_ofNat']; omega
theorem natF_dig : ∀ f n, ∀ x ∈ natF f n, 48 ≤ x.toNat ∧ x.toNat ≤ 57
  | 0, _, x, h => by simp [natF] at h
  | f + 1, n, x, h => by
    rw [natF] at h
    split at h
    · rename_i hn
      rw [List.mem_singleton] at h
      subst h; rw [dig_toNat hn]; omega
    · rw [List.mem_append, List.mem_singleton] at h
      rcases h with h | h
      · exact natF_dig f _ x h
      · subst h; rw [dig_toNat (by omega)]; omega
theorem natF_ne : ∀ f n, 0 < f → natF f n ≠ []
  | 0, _, h => by omega
  | f + 1, n, _ => by
    rw [natF]; split <;> simp
theorem snoc_inj {a b : Bs} {x y : UInt8} (h : a ++ [x] = b ++ [y]) : a = b ∧ x = y := by
  have := List.append_inj' h rfl
  exact ⟨this.1, List.cons.inj this.2 |>.1⟩
theorem natF_inj : ∀ f m n, m < 10 ^ f → n < 10 ^ f → natF f m = natF f n → m = n
  | 0, m, n, hm, hn, _ => by simp at hm hn; omega
  | f + 1, m, n, hm, hn, h => by
    rw [natF, natF] at h
    have hp : 10 ^ (f + 1) = 10 * 10 ^ f := by rw [Nat.pow_succ, Nat.mul_comm]
    split at h <;> split at h
    · rename_i h1 h2
      have e := congrArg UInt8.toNat (List.cons.inj h).1
      rw [dig_toNat h1, dig_toNat h2] at e; omega
    · rename_i h1 h2
      exfalso
      have hf : 0 < f := by rcases Nat.eq_zero_or_pos f with rfl | hf; (simp at hn; omega); exact hf
      have e := congrArg List.length h
      have := List.length_pos_iff.2 (natF_ne f (n / 10) hf)
      simp only [List.length_append, List.length_cons, List.length_nil] at e
      omega
    · rename_i h1 h2
      exfalso
      have hf : 0 < f := by rcases Nat.eq_zero_or_pos f with rfl | hf; (simp at hm; omega); exact hf
      have e := congrArg List.length h
      have := List.length_pos_iff.2 (natF_ne f (m / 10) hf)
      simp only [List.length_append, List.length_cons, List.length_nil] at e
      omega
    · rename_i h1 h2
      obtain ⟨e1, e2⟩ := snoc_inj h
      have e3 := congrArg UInt8.toNat e2
      rw [dig_toNat (by omega), dig_toNat (by omega)] at e3
      have := natF_inj f (m / 10) (n / 10) (by omega) (by omega) e1
      omega
theorem decB_noc (n : Int) : ∀ x ∈ decB n, x.toNat ≠ 58 := by
  intro x h
  unfold decB at h
  split at h
  · rcases List.mem_cons.1 h with rfl | h
    · decide
    · have := natF_dig 20 _ x h; omega
  · have := natF_dig 20 _ x h; omega
theorem decB_inj {m n : Int} (hm : -9223372036854775808 ≤ m ∧ m < 9223372036854775808) (hn : -9223372036854775808 ≤ n ∧ n < 9223372036854775808) (h : decB m = decB n) : m = n := by
  unfold decB natB at h
  split at h <;> split at h
  · have e := natF_inj 20 _ _ (by omega) (by omega) (List.cons.inj h).2; omega
  · exfalso
    have h1 : (45 : UInt8) ∈ natF 20 n.toNat := by rw [← h]; exact List.mem_cons_self
    have h2 := (natF_dig 20 _ _ h1).1
    revert h2; decide
  · exfalso
    have h1 : (45 : UInt8) ∈ natF 20 m.toNat := by rw [h]; exact List.mem_cons_self
    have h2 := (natF_dig 20 _ _ h1).1
    revert h2; decide
  · have e := natF_inj 20 _ _ (by omega) (by omega) h; omega

theorem cut_inj : ∀ {a b r s : Bs}, (∀ x ∈ a, x.toNat ≠ 58) → (∀ x ∈ b, x.toNat ≠ 58) → a ++ 58 :: r = b ++ 58 :: s → a = b ∧ r = s
  | [], [], r, s, _, _, h => ⟨rfl, (List.cons.inj h).2⟩
  | [], y :: b, r, s, _, hb, h => by
    exfalso
    have := (List.cons.inj h).1
    exact hb y List.mem_cons_self (by rw [← this]; decide)
  | x :: a, [], r, s, ha, _, h => by
    exfalso
    have := (List.cons.inj h).1
    exact ha x List.mem_cons_self (by rw [this]; decide)
  | x :: a, y :: b, r, s, ha, hb, h => by
    obtain ⟨h1, h2⟩ := List.cons.inj h
    obtain ⟨h3, h4⟩ := cut_inj (fun z hz => ha z (List.mem_cons_of_mem _ hz)) (fun z hz => hb z (List.mem_cons_of_mem _ hz)) h2
    exact ⟨by rw [h1, h3], h4⟩
def noC (l : List ByteArray) : Prop := ∀ p ∈ l, ∀ x ∈ lst p, x.toNat ≠ 58
theorem path_cons (p : ByteArray) (ps : List ByteArray) (t : Bs) : pathB (p :: ps) ++ t = lst p ++ 58 :: (32 :: (pathB ps ++ t)) := by
  rw [pathB]; simp
theorem path_inj {c d : Int} (hc : -9223372036854775808 ≤ c ∧ c < 9223372036854775808) (hd : -9223372036854775808 ≤ d ∧ d < 9223372036854775808) :
    ∀ {l m : List ByteArray}, noC l → noC m → pathB l ++ decB c = pathB m ++ decB d → l = m ∧ c = d
  | [], [], _, _, h => ⟨rfl, decB_inj hc hd (by simpa [pathB] using h)⟩
  | [], q :: m, _, _, h => by
    exfalso
    rw [path_cons] at h
    have h1 : (58 : UInt8) ∈ decB c := by
      have : pathB [] ++ decB c = decB c := rfl
      rw [this] at h; rw [h]; simp
    exact decB_noc c _ h1 (by decide)
  | p :: l, [], _, _, h => by
    exfalso
    rw [path_cons] at h
    have h1 : (58 : UInt8) ∈ decB d := by
      have : pathB [] ++ decB d = decB d := rfl
      rw [this] at h; rw [← h]; simp
    exact decB_noc d _ h1 (by decide)
  | p :: l, q :: m, hl, hm, h => by
    rw [path_cons, path_cons] at h
    obtain ⟨h1, h2⟩ := cut_inj (hl p List.mem_cons_self) (hm q List.mem_cons_self) h
    obtain ⟨h3, h4⟩ := path_inj hc hd (fun z hz => hl z (List.mem_cons_of_mem _ hz)) (fun z hz => hm z (List.mem_cons_of_mem _ hz)) (List.cons.inj h2).2
    exact ⟨by rw [show p = q by rw [← strOf_lst p, h1, strOf_lst], h3], h4⟩
theorem two_text {c d : Int} {l m : List ByteArray} (hc : -9223372036854775808 ≤ c ∧ c < 9223372036854775808) (hd : -9223372036854775808 ≤ d ∧ d < 9223372036854775808) (hc0 : c ≠ 0) (hd0 : d ≠ 0) (hl : noC l) (hm : noC m) :
    ((textF (c, l)).toList == (textF (d, m)).toList) = decide (c = d ∧ l = m) := by
  rw [str_beq, show textF (c, l) = strOf (pathB l ++ decB c) from if_neg hc0, show textF (d, m) = strOf (pathB m ++ decB d) from if_neg hd0]
  by_cases h : c = d ∧ l = m
  · rw [h.1, h.2]; simp
  · rw [decide_eq_false h]
    apply decide_eq_false
    intro e
    have e2 := congrArg lst e
    rw [lst_strOf, lst_strOf] at e2
    exact h ⟨(path_inj hc hd hl hm e2).2, (path_inj hc hd hl hm e2).1⟩
/-- As far as i parts. -/
def sameTo (c d : Int) (l m : List ByteArray) (i : Nat) : Bool := decide (c = d ∧ l.length = m.length ∧ l.take i = m.take i)
theorem sameTo_zero (c d : Int) (l m : List ByteArray) : sameTo c d l m 0 = ((c == d) && decide (l.length = m.length)) := by
  unfold sameTo
  rw [Bool.eq_iff_iff]; simp
theorem sameTo_step {c d : Int} {l m : List ByteArray} {i : Nat} (h : sameTo c d l m i = true) (hi : i < l.length) : sameTo c d l m (i + 1) = ((nth l i ⟨#[]⟩).toList == (nth m i ⟨#[]⟩).toList) := by
  obtain ⟨h1, h2, h3⟩ := of_decide_eq_true h
  rw [str_beq]
  unfold sameTo
  rw [Bool.eq_iff_iff]
  simp only [decide_eq_true_eq]
  rw [take_snoc (nth_get (d := (⟨#[]⟩ : ByteArray)) hi), take_snoc (nth_get (d := (⟨#[]⟩ : ByteArray)) (show i < m.length by omega))]
  constructor
  · intro ⟨_, _, e⟩; exact (List.cons.inj (List.append_inj' e rfl).2).1
  · intro e; exact ⟨h1, h2, by rw [h3, e]⟩
theorem sameTo_all {c d : Int} {l m : List ByteArray} {i : Nat} (hi : l.length ≤ i) : sameTo c d l m i = decide (c = d ∧ l = m) := by
  unfold sameTo
  apply decide_eq_decide.2
  constructor
  · rintro ⟨h1, h2, h3⟩; refine ⟨h1, ?_⟩; rw [List.take_of_length_le hi, List.take_of_length_le (by omega)] at h3; exact h3
  · rintro ⟨h1, h2⟩; subst h2; exact ⟨h1, rfl, rfl⟩
theorem sameTo_no {c d : Int} {l m : List ByteArray} {i : Nat} (h : sameTo c d l m i = false) : decide (c = d ∧ l = m) = false := by
  rw [decide_eq_false_iff_not]
  rintro ⟨h1, h2⟩
  subst h2
  have := of_decide_eq_false h
  exact this ⟨h1, rfl, rfl⟩
end Go.Proofs

