/- Texts that the proofs of this claim share, part 1: the abstract logic, plain Lean on values and batches, and walks. No condition but those typed in each lemma. -/
import Derived.Below
import Derived.Orders
import Derived.OrdersIn
import Derived.Sort.LoopGhostIn
import Derived.Laws.World
import Derived.Laws.Sem
import Derived.Laws.AppendOwn
import Derived.Laws.StructEq
import Derived.Stop.BytesEq
import Derived.Laws.BytesString
set_option linter.unusedSimpArgs false
set_option linter.unusedVariables false
set_option maxHeartbeats 400000
namespace Go
theorem qd {α : Type _} [BEq α] [LawfulBEq α] {a b : α} : (a != b) = false ↔ a = b := bne_eq_false_iff_eq
end Go
namespace Go.Al
open Go.RowKit
inductive AV where
  | v (x : Value)
  | arr (n : Nat) (l : List UInt8)
  | agg (parts : List AV)
  | sl (n : Nat) (l : List AV)
  | fn (f : Fn) (first caps : List AV)
  | ifc (t : TypeId) (x : AV)
  | cp (x : AV)
  | mp (ks vs : List AV)
def AV.isAgg : AV → Bool
  | .v (.agg _) => true
  | .arr _ _ => true
  | .agg _ => true
  | _ => false
def mkV (x : AV) (cs : List Value) : Value := if x.isAgg then .agg cs.toArray else cs.headD undef
def plain : Value → Bool
  | .agg _ => false
  | .tuple _ => false
  | _ => true
def wr (b : UInt8) : Value := .int .u8 b.toNat
def xP (w : World) (I : Nat → Nat → Prop) (b o : Nat) (cs : List Value) : Prop :=
  ∀ j (h : j < cs.length), w.cell? ⟨b, o + j, none⟩ = some cs[j] ∧ I b (o + j)
mutual
def RepC (w : World) (I : Nat → Nat → Prop) : AV → List Value → Prop
  | .v x, cs => cs = x.cells.toList ∧ cs.all plain = true
  | .arr n l, cs => cs = l.map wr ∧ l.length = n
  | .agg ps, cs => xH w I ps cs
  | .sl n l, cs => ∃ v, cs = [v] ∧ ((∃ p cap, v = .slice p 0 cap ∧ l = [] ∧ cap ≤ maxLen ∧ (p = none → cap = 0)) ∨
      ∃ b o cap, v = .slice (some ⟨b, o, none⟩) l.length cap ∧ l.length ≤ cap ∧ cap ≤ maxLen ∧ RepM w I n l b o)
  | .fn f first caps, cs => ∃ fs gs, cs = [.func f (List.toArray fs) (List.toArray gs)] ∧ yc w I first fs ∧ yc w I caps gs
  | .ifc t x, cs => ∃ c, cs = [.iface t (mkV x c)] ∧ RepC w I x c
  | .cp x, cs => ∃ b o c, cs = [.pointer (some ⟨b, o, none⟩)] ∧ RepC w I x c ∧ xP w I b o c
  | .mp ks vs, cs => ∃ v, cs = [v] ∧ ((v = .map none ∧ ks = [] ∧ vs = []) ∨
      ∃ b es ck, v = .map (some b) ∧ I b 0 ∧ w.heap[b]? = some (.map es ck) ∧ yc w I ks (es.toList.map (·.key)) ∧ yc w I vs (es.toList.map (·.val)))
def xH (w : World) (I : Nat → Nat → Prop) : List AV → List Value → Prop
  | [], cs => cs = []
  | p :: ps, cs => ∃ c1 c2, cs = c1 ++ c2 ∧ RepC w I p c1 ∧ xH w I ps c2
def yc (w : World) (I : Nat → Nat → Prop) : List AV → List Value → Prop
  | [], vs => vs = []
  | p :: ps, vs => ∃ c r, vs = mkV p c :: r ∧ RepC w I p c ∧ yc w I ps r
def RepM (w : World) (I : Nat → Nat → Prop) (n : Nat) : List AV → Nat → Nat → Prop
  | [], _, _ => True
  | p :: ps, b, o => (∃ c, c.length = n ∧ RepC w I p c ∧ xP w I b o c) ∧ RepM w I n ps b (o + n)
end
def Rep (w : World) (I : Nat → Nat → Prop) (x : AV) (v : Value) : Prop := ∃ c, RepC w I x c ∧ v = mkV x c
theorem nil_sl (n : Nat) : ∃ p cap, Value.slice none 0 0 = .slice p 0 cap ∧ ([] : List AV) = [] ∧ cap ≤ maxLen ∧ (p = none → cap = 0) := ⟨none, 0, rfl, rfl, Nat.zero_le _, fun _ => rfl⟩
def Kp (w w' : World) (b o : Nat) : Prop :=
  w'.cell? ⟨b, o, none⟩ = w.cell? ⟨b, o, none⟩ ∧ ∀ es ck, w.heap[b]? = some (.map es ck) → w'.heap[b]? = some (.map es ck)
def Le (w : World) (I : Nat → Nat → Prop) (w' : World) (I' : Nat → Nat → Prop) : Prop :=
  ∀ b o, I b o → I' b o ∧ Kp w w' b o
theorem y7 {w w' : World} {b o : Nat} (h : w'.heap[b]? = w.heap[b]?) : Kp w w' b o :=
  ⟨World.cell?_of_block (w := w) h, fun _ _ h1 => h.trans h1⟩
theorem Le.refl (w : World) (I : Nat → Nat → Prop) : Le w I w I := fun _ _ h => ⟨h, rfl, fun _ _ h => h⟩
theorem Le.trans {w1 w2 w3 : World} {I1 I2 I3 : Nat → Nat → Prop} (h : Le w1 I1 w2 I2) (k : Le w2 I2 w3 I3) : Le w1 I1 w3 I3 :=
  fun b o hi => ⟨(k b o (h b o hi).1).1, (k b o (h b o hi).1).2.1.trans (h b o hi).2.1, fun es ck e => (k b o (h b o hi).1).2.2 es ck ((h b o hi).2.2 es ck e)⟩
theorem xP.mono {w w' : World} {I I' : Nat → Nat → Prop} (h : Le w I w' I') {b o : Nat} {cs : List Value} (hc : xP w I b o cs) : xP w' I' b o cs :=
  fun j hj => ⟨(h _ _ (hc j hj).2).2.1.trans (hc j hj).1, (h _ _ (hc j hj).2).1⟩
section
variable {w w' : World} {I I' : Nat → Nat → Prop}
mutual
theorem RepC.mono (h : Le w I w' I') : ∀ (x : AV) (cs : List Value), RepC w I x cs → RepC w' I' x cs
  | .v _, _, r => by simpa only [RepC] using r
  | .arr _ _, _, r => by simpa only [RepC] using r
  | .agg ps, cs, r => by simp only [RepC] at r ⊢; exact xH.mono h ps cs r
  | .sl n l, cs, r => by
    simp only [RepC] at r ⊢
    obtain ⟨v, hv, h1 | ⟨b, o, cap, h2, h3, h4, h5⟩⟩ := r
    · exact ⟨v, hv, .inl h1⟩
    · exact ⟨v, hv, .inr ⟨b, o, cap, h2, h3, h4, RepM.mono h n l b o h5⟩⟩
  | .fn f a b, cs, r => by
    simp only [RepC] at r ⊢
    obtain ⟨fs, gs, h1, h2, h3⟩ := r
    exact ⟨fs, gs, h1, yc.mono h a fs h2, yc.mono h b gs h3⟩
  | .ifc t x, cs, r => by
    simp only [RepC] at r ⊢
    obtain ⟨c, h1, h2⟩ := r
    exact ⟨c, h1, RepC.mono h x c h2⟩
  | .cp x, cs, r => by
    simp only [RepC] at r ⊢
    obtain ⟨b, o, c, h1, h2, h3⟩ := r
    exact ⟨b, o, c, h1, RepC.mono h x c h2, h3.mono h⟩
  | .mp ks vs, cs, r => by
    simp only [RepC] at r ⊢
    obtain ⟨v, hv, h1 | ⟨b, es, ck, h1, h2, h3, h4, h5⟩⟩ := r
    · exact ⟨v, hv, .inl h1⟩
    · exact ⟨v, hv, .inr ⟨b, es, ck, h1, (h b 0 h2).1, (h b 0 h2).2.2 es ck h3, yc.mono h ks _ h4, yc.mono h vs _ h5⟩⟩
theorem xH.mono (h : Le w I w' I') : ∀ (ps : List AV) (cs : List Value), xH w I ps cs → xH w' I' ps cs
  | [], _, r => by simpa only [xH] using r
  | p :: ps, cs, r => by
    simp only [xH] at r ⊢
    obtain ⟨c1, c2, h1, h2, h3⟩ := r
    exact ⟨c1, c2, h1, RepC.mono h p c1 h2, xH.mono h ps c2 h3⟩
theorem yc.mono (h : Le w I w' I') : ∀ (ps : List AV) (vs : List Value), yc w I ps vs → yc w' I' ps vs
  | [], _, r => by simpa only [yc] using r
  | p :: ps, vs, r => by
    simp only [yc] at r ⊢
    obtain ⟨c, q, h1, h2, h3⟩ := r
    exact ⟨c, q, h1, RepC.mono h p c h2, yc.mono h ps q h3⟩
theorem RepM.mono (h : Le w I w' I') (n : Nat) : ∀ (ps : List AV) (b o : Nat), RepM w I n ps b o → RepM w' I' n ps b o
  | [], _, _, _ => by simp only [RepM]
  | p :: ps, b, o, r => by
    simp only [RepM] at r ⊢
    obtain ⟨⟨c, h1, h2, h3⟩, h4⟩ := r
    exact ⟨⟨c, h1, RepC.mono h p c h2, h3.mono h⟩, RepM.mono h n ps b (o + n) h4⟩
end
end
theorem Rep.mono {w w' : World} {I I' : Nat → Nat → Prop} (h : Le w I w' I') {x : AV} {v : Value} (r : Rep w I x v) : Rep w' I' x v :=
  let ⟨c, h1, h2⟩ := r; ⟨c, RepC.mono h x c h1, h2⟩
mutual
def AV.width : AV → Nat
  | .v x => x.cells.size
  | .arr n _ => n
  | .agg ps => AV.widths ps
  | _ => 1
def AV.widths : List AV → Nat
  | [] => 0
  | p :: ps => p.width + AV.widths ps
end
mutual
theorem RepC.len {w : World} {I : Nat → Nat → Prop} : ∀ (x : AV) (cs : List Value), RepC w I x cs → cs.length = x.width
  | .v _, _, r => by simp only [RepC] at r; rw [r.1]; simp [AV.width]
  | .arr _ _, _, r => by simp only [RepC] at r; rw [r.1]; simp [AV.width, r.2]
  | .agg ps, cs, r => by simp only [RepC] at r; simp only [AV.width]; exact xH.len ps cs r
  | .sl n l, cs, r => by simp only [RepC] at r; obtain ⟨v, hv, _⟩ := r; simp [hv, AV.width]
  | .fn f a b, cs, r => by simp only [RepC] at r; obtain ⟨_, _, h1, _⟩ := r; simp [h1, AV.width]
  | .ifc t x, cs, r => by simp only [RepC] at r; obtain ⟨_, h1, _⟩ := r; simp [h1, AV.width]
  | .cp x, cs, r => by simp only [RepC] at r; obtain ⟨_, _, _, h1, _⟩ := r; simp [h1, AV.width]
  | .mp ks vs, cs, r => by simp only [RepC] at r; obtain ⟨v, hv, _⟩ := r; simp [hv, AV.width]
theorem xH.len {w : World} {I : Nat → Nat → Prop} : ∀ (ps : List AV) (cs : List Value), xH w I ps cs → cs.length = AV.widths ps
  | [], _, r => by simp only [xH] at r; simp [r, AV.widths]
  | p :: ps, cs, r => by
    simp only [xH] at r
    obtain ⟨c1, c2, h1, h2, h3⟩ := r
    simp only [AV.widths, h1, List.length_append, RepC.len p c1 h2, xH.len ps c2 h3]
end
theorem tP {w : World} {I : Nat → Nat → Prop} {x : AV} {cs : List Value} (r : RepC w I x cs) : (mkV x cs).cells.toList = cs := by
  unfold mkV
  cases x with
  | v y => cases y <;> simp_all [AV.isAgg, RepC, Value.cells]
  | arr n xs => simp [AV.isAgg, Value.cells]
  | agg ps => simp [AV.isAgg, Value.cells]
  | sl n l => simp only [RepC] at r; obtain ⟨v, hv, ⟨p, cap, h1, _⟩ | ⟨b, o, cap, h2, _⟩⟩ := r <;> simp_all [AV.isAgg, Value.cells]
  | fn f a b => simp only [RepC] at r; obtain ⟨_, _, h1, _⟩ := r; simp [h1, AV.isAgg, Value.cells]
  | ifc t x => simp only [RepC] at r; obtain ⟨_, h1, _⟩ := r; simp [h1, AV.isAgg, Value.cells]
  | cp x => simp only [RepC] at r; obtain ⟨_, _, _, h1, _⟩ := r; simp [h1, AV.isAgg, Value.cells]
  | mp ks vs => simp only [RepC] at r; obtain ⟨v, hv, h1 | ⟨b, es, ck, h1, _⟩⟩ := r <;> simp_all [AV.isAgg, Value.cells]
mutual
theorem RepC.plain {w : World} {I : Nat → Nat → Prop} : ∀ (x : AV) (cs : List Value), RepC w I x cs → cs.all plain = true
  | .v _, _, r => by simp only [RepC] at r; exact r.2
  | .arr _ l, _, r => by simp only [RepC] at r; rw [r.1]; simp [List.all_map, wr, Al.plain]
  | .agg ps, cs, r => by simp only [RepC] at r; exact xH.plain ps cs r
  | .sl n l, cs, r => by simp only [RepC] at r; obtain ⟨v, hv, ⟨p, cap, h1, _⟩ | ⟨b, o, cap, h2, _⟩⟩ := r <;> simp_all [Al.plain]
  | .fn f a b, cs, r => by simp only [RepC] at r; obtain ⟨_, _, h1, _⟩ := r; simp [h1, Al.plain]
  | .ifc t x, cs, r => by simp only [RepC] at r; obtain ⟨_, h1, _⟩ := r; simp [h1, Al.plain]
  | .cp x, cs, r => by simp only [RepC] at r; obtain ⟨_, _, _, h1, _⟩ := r; simp [h1, Al.plain]
  | .mp ks vs, cs, r => by simp only [RepC] at r; obtain ⟨v, hv, h1 | ⟨b, es, ck, h1, _⟩⟩ := r <;> simp_all [Al.plain]
theorem xH.plain {w : World} {I : Nat → Nat → Prop} : ∀ (ps : List AV) (cs : List Value), xH w I ps cs → cs.all Al.plain = true
  | [], _, r => by simp only [xH] at r; simp [r]
  | p :: ps, cs, r => by
    simp only [xH] at r
    obtain ⟨c1, c2, h1, h2, h3⟩ := r
    rw [h1, List.all_append, RepC.plain p c1 h2, xH.plain ps c2 h3]; rfl
end
def isBook : Obj → Bool
  | .loop _ => true
  | .deferred _ => true
  | _ => false
structure HRes where
  own : Nat → Prop
  ok : World → (Nat → Nat → Prop) → Prop
  keep : ∀ w I w' I', ok w I → Le w I w' I' → (∀ b, own b → w'.heap[b]? = w.heap[b]? ∧ ∀ o, I' b o → I b o) → ok w' I'
  kind : ∀ w I b o, ok w I → own b → w.heap[b]? = some o → isBook o = false
inductive SV where
  | dead
  | undef
  | imm (x : AV)
  | ptr (g off : Nat)
  | slg (g n : Nat) (l : List AV)
  | osl (g off len cap : Nat)
  | agg (fs : List SV)
  | tup (fs : List SV)
  | box (T : TypeId) (x : SV)
  | tok (n : Nat) (l : List AV)
  | fnv (f : Fn) (first caps : List SV)
  | mref (g : Nat)
  | mpr (ks vs : List AV)
  | row (l : List ByteArray)
  | itr (m n : Nat) (seen : List Nat)
  | ifp (T : TypeId) (g off : Nat)
  | gen (F : Nat → Value → Nat → HRes)
def SV.res : SV → Bool
  | .box _ _ => true
  | .tok _ _ => true
  | .mpr _ _ => true
  | .row _ => true
  | .itr _ _ _ => true
  | .gen _ => true
  | _ => false
def SV.slotty : SV → Bool
  | .imm _ => true
  | .ptr _ _ => true
  | .slg _ _ _ => true
  | .osl _ _ _ _ => true
  | .fnv _ _ _ => true
  | .mref _ => true
  | .ifp _ _ _ => true
  | .agg _ => true
  | _ => false
theorem SV.slotty_res {x : SV} (h : x.slotty = true) : x.res = false := by cases x <;> first | rfl | cases h
def SV.isAgg : SV → Bool
  | .imm x => x.isAgg
  | .agg _ => true
  | _ => false
def mkS (x : SV) (cs : List Value) : Value := if x.isAgg then .agg cs.toArray else cs.headD Go.undef
structure Gh where
  I : Nat → Nat → Prop
  blk : Nat → Nat
  cur : Nat → Value
  len : Nat → Nat
mutual
def RepS (w : World) (G : Gh) : SV → List Value → Prop
  | .imm x, cs => RepC w G.I x cs
  | .ptr g off, cs => cs = [.pointer (some ⟨G.blk g, off, none⟩)]
  | .slg g n l, cs => ∃ v, cs = [v] ∧ RepC w G.I (.sl n l) [v] ∧ l.length ≤ G.len g ∧ (l.length = G.len g → v = G.cur g)
  | .osl g off len cap, cs => cs = [.slice (some ⟨G.blk g, off, none⟩) len cap]
  | .agg fs, cs => xK w G fs cs
  | .fnv f first caps, cs => ∃ fs gs, cs = [.func f (List.toArray fs) (List.toArray gs)] ∧ wy w G first fs ∧ wy w G caps gs
  | .mref g, cs => cs = [.map (some (G.blk g))]
  | .ifp T g off, cs => cs = [.iface T (.pointer (some ⟨G.blk g, off, none⟩))]
  | _, _ => False
def xK (w : World) (G : Gh) : List SV → List Value → Prop
  | [], cs => cs = []
  | p :: ps, cs => ∃ c1 c2, cs = c1 ++ c2 ∧ RepS w G p c1 ∧ xK w G ps c2
def wy (w : World) (G : Gh) : List SV → List Value → Prop
  | [], vs => vs = []
  | p :: ps, vs => ∃ c r, vs = mkS p c :: r ∧ RepS w G p c ∧ wy w G ps r
end
def ValS (w : World) (G : Gh) (x : SV) (v : Value) : Prop := ∃ c, RepS w G x c ∧ v = mkS x c
def wF (w : World) (G : Gh) : List SV → List Value → Prop
  | [], vs => vs = []
  | p :: ps, vs => ∃ v r, vs = v :: r ∧ ValS w G p v ∧ wF w G ps r
def xZ (w : World) (G : Gh) : SV → Value → Prop
  | .dead, _ => True
  | .undef, v => v = Go.undef
  | .tup fs, v => ∃ vs, v = .tuple (List.toArray vs) ∧ wF w G fs vs
  | .box _ _, _ => False
  | .tok _ _, _ => False
  | .mpr _ _, _ => False
  | .row _, _ => False
  | .itr _ _ _, _ => False
  | .gen _, _ => False
  | x, v => ValS w G x v
def Owned (w0 : World) (E : Nat → Prop) (w : World) (b : Nat) : Prop := (w0.heap.size ≤ b ∨ E b) ∧ b < w.heap.size
def sC (fr : Nat × Nat) (n : Nat) : Prop := ∀ o, o ≤ n → (decide (fr.1 ≤ o) && decide (o < fr.2)) = false
def BoxS (w0 : World) (E : Nat → Prop) (G : Gh) (w : World) (b : Nat) (T : TypeId) (x : SV) : Prop :=
  Owned w0 E w b ∧ (∃ cs fr, w.heap[b]? = some (.cells cs T fr) ∧ RepS w G x cs.toList ∧ sC fr cs.size) ∧ ∀ o, ¬ G.I b o
def TokS (w0 : World) (E : Nat → Prop) (I : Nat → Nat → Prop) (w : World) (v : Value) (n : Nat) (l : List AV) : Prop :=
  (v = .slice none 0 0 ∧ l = []) ∨
      ∃ b cap, v = .slice (some ⟨b, 0, none⟩) l.length cap ∧ l.length ≤ cap ∧ cap ≤ maxLen ∧ RepM w I n l b 0 ∧ Owned w0 E w b ∧
        (∃ cs T fr, w.heap[b]? = some (.cells cs T fr) ∧ cs.size = cap * n ∧ sC fr cs.size) ∧ ∀ o, l.length * n ≤ o → ¬ I b o
def MprS (w0 : World) (E : Nat → Prop) (I : Nat → Nat → Prop) (w : World) (b : Nat) (ks vs : List AV) : Prop :=
  Owned w0 E w b ∧ (∃ es, w.heap[b]? = some (.map es es.size) ∧ (∀ i (h : i < es.size), es[i].born = i) ∧ yc w I ks (es.toList.map (·.key)) ∧ yc w I vs (es.toList.map (·.val))) ∧ ∀ o, ¬ I b o
def RowS (w0 : World) (E : Nat → Prop) (I : Nat → Nat → Prop) (w : World) (v : Value) (l : List ByteArray) : Prop :=
  (v = .slice none 0 0 ∧ l = []) ∨
      ∃ b cap, v = .slice (some ⟨b, 0, none⟩) l.length cap ∧ l.length ≤ cap ∧ cap ≤ maxLen ∧ Owned w0 E w b ∧
        (∃ cs T, w.heap[b]? = some (.cells cs T (0, 0)) ∧ cs.size = cap ∧ cs.toList.take l.length = l.map Value.string) ∧ ∀ o, ¬ I b o
def ItrS (w0 : World) (E : Nat → Prop) (I : Nat → Nat → Prop) (w : World) (b m n : Nat) (seen : List Nat) : Prop :=
  Owned w0 E w b ∧ w.heap[b]? = some (.mapIter (some m) n seen.toArray n) ∧ ∀ o, ¬ I b o
def Holds (w0 : World) (E : Nat → Prop) (G : Gh) (a : Act) (w : World) (k : Nat) : SV → Prop
  | .dead => True
  | .box T x => BoxS w0 E G w (G.blk k) T x
  | .tok n l => G.len k = l.length ∧ TokS w0 E G.I w (G.cur k) n l
  | .mpr ks vs => MprS w0 E G.I w (G.blk k) ks vs
  | .row l => G.len k = l.length ∧ RowS w0 E G.I w (G.cur k) l
  | .itr m n seen => ItrS w0 E G.I w (G.blk k) (G.blk m) n seen
  | .gen F => (∀ b, (F (G.blk k) (G.cur k) (G.len k)).own b → Owned w0 E w b) ∧ (F (G.blk k) (G.cur k) (G.len k)).ok w G.I
  | x => k < a.tmps.size ∧ xZ w G x (a.tmps.getD k Go.undef)
def zm (G : Gh) (k : Nat) (b : Nat) : SV → Prop
  | .box _ _ => G.blk k = b
  | .tok _ _ => ∃ a n c, G.cur k = .slice (some a) n c ∧ a.block = b
  | .mpr _ _ => G.blk k = b
  | .row _ => ∃ a n c, G.cur k = .slice (some a) n c ∧ a.block = b
  | .itr _ _ _ => G.blk k = b
  | .gen F => (F (G.blk k) (G.cur k) (G.len k)).own b
  | _ => False
def Turns (G G' : Gh) (g : Nat) : Prop := G'.blk g = G.blk g ∧ ((G'.cur g = G.cur g ∧ G'.len g = G.len g) ∨ G.len g < G'.len g)
theorem Turns.trans {G1 G2 G3 : Gh} {g : Nat} (h : Turns G1 G2 g) (k : Turns G2 G3 g) : Turns G1 G3 g := by
  refine ⟨k.1.trans h.1, ?_⟩
  rcases h.2 with ⟨h1, h2⟩ | h2 <;> rcases k.2 with ⟨k1, k2⟩ | k2
  · exact .inl ⟨k1.trans h1, k2.trans h2⟩
  · right; omega
  · right; omega
  · right; omega
def Glob (Γ : List (Nat × AV)) (w : World) (I : Nat → Nat → Prop) : Prop := ∀ p ∈ Γ, ∃ c, RepC w I p.2 c ∧ xP w I p.1 0 c
theorem Glob.mono {Γ : List (Nat × AV)} {w w' : World} {I I' : Nat → Nat → Prop} (h : Le w I w' I') (k : Glob Γ w I) : Glob Γ w' I' :=
  fun p hp => let ⟨c, h1, h2⟩ := k p hp; ⟨c, RepC.mono h _ _ h1, h2.mono h⟩
structure Cx where
  P : Program
  w0 : World
  I0 : Nat → Nat → Prop
  E : Nat → Prop
  N : Nat
  K : Nat
  G0 : Gh
  Γ : List (Nat × AV)
  D : List Deferred
  R : Option Nat
structure SimG (C : Cx) (A : Nat → SV) (G : Gh) (a : Act) (w : World) : Prop where
  os : w.os = C.w0.os
  tape : w.tape = C.w0.tape
  output : w.output = C.w0.output
  size : C.w0.heap.size ≤ w.heap.size
  block : ∀ k, k < C.w0.heap.size → ¬ C.E k → w.heap[k]? = C.w0.heap[k]?
  sub : Le C.w0 C.I0 w G.I
  rel : ∀ g, C.K ≤ g → Turns C.G0 G g
  glob : Glob C.Γ w G.I
  new : ∀ b o, G.I b o → C.I0 b o ∨ C.w0.heap.size ≤ b ∨ C.E b
  val : ∀ b o, G.I b o → b < w.heap.size
  nts : a.tmps.size = C.N
  dfs : a.defers = C.D
  holds : ∀ k, Holds C.w0 C.E G a w k (A k)
  apart : ∀ k j b, k ≠ j → zm G k b (A k) → zm G j b (A j) → False
def Sim (C : Cx) (A : Nat → SV) (a : Act) (w : World) : Prop := ∃ G, SimG C A G a w
mutual
def noG (Gs : List Nat) : SV → Bool
  | .ptr g _ => !(Gs.contains g)
  | .slg g _ _ => !(Gs.contains g)
  | .osl g _ _ _ => !(Gs.contains g)
  | .agg fs => noGs Gs fs
  | .tup fs => noGs Gs fs
  | .box _ x => noG Gs x
  | .fnv _ a b => noGs Gs a && noGs Gs b
  | .mref g => !(Gs.contains g)
  | .itr m _ _ => !(Gs.contains m)
  | .ifp _ g _ => !(Gs.contains g)
  | _ => true
def noGs (Gs : List Nat) : List SV → Bool
  | [] => true
  | x :: xs => noG Gs x && noGs Gs xs
end
def GRel (Gs : List Nat) (G G' : Gh) : Prop := ∀ g, g ∉ Gs → G'.blk g = G.blk g ∧ ((G'.cur g = G.cur g ∧ G'.len g = G.len g) ∨ G.len g < G'.len g)
theorem GRel.refl (G : Gh) : GRel [] G G := fun _ _ => ⟨rfl, .inl ⟨rfl, rfl⟩⟩
section
variable {w w' : World} {G G' : Gh} {Gs : List Nat}
mutual
theorem RepS.mono (h : Le w G.I w' G'.I) (hg : GRel Gs G G') : ∀ (x : SV) (cs : List Value), noG Gs x = true → RepS w G x cs → RepS w' G' x cs
  | .imm x, cs, _, r => by simp only [RepS] at r ⊢; exact RepC.mono h x cs r
  | .ptr g off, cs, hn, r => by
    simp only [RepS, noG] at r hn ⊢
    rw [r, (hg g (by simpa using hn)).1]
  | .slg g n l, cs, hn, r => by
    simp only [RepS, noG] at r hn ⊢
    obtain ⟨v, h1, h2, h3, h4⟩ := r
    refine ⟨v, h1, RepC.mono h _ _ h2, ?_, ?_⟩
    · rcases (hg g (by simpa using hn)).2 with ⟨_, e⟩ | e <;> omega
    · rcases (hg g (by simpa using hn)).2 with ⟨e1, e2⟩ | e
      · rw [e1, e2]; exact h4
      · intro h5; omega
  | .osl g off len cap, cs, hn, r => by
    simp only [RepS, noG] at r hn ⊢
    rw [r, (hg g (by simpa using hn)).1]
  | .agg fs, cs, hn, r => by simp only [RepS, noG] at r hn ⊢; exact xK.mono h hg fs cs hn r
  | .dead, _, _, r => by simp only [RepS] at r
  | .undef, _, _, r => by simp only [RepS] at r
  | .tup _, _, _, r => by simp only [RepS] at r
  | .box _ _, _, _, r => by simp only [RepS] at r
  | .tok _ _, _, _, r => by simp only [RepS] at r
  | .mpr _ _, _, _, r => by simp only [RepS] at r
  | .row _, _, _, r => by simp only [RepS] at r
  | .itr _ _ _, _, _, r => by simp only [RepS] at r
  | .gen _, _, _, r => by simp only [RepS] at r
  | .ifp T g off, cs, hn, r => by
    simp only [RepS, noG] at r hn ⊢
    rw [r, (hg g (by simpa using hn)).1]
  | .fnv f a b, cs, hn, r => by
    simp only [RepS, noG, Bool.and_eq_true] at r hn ⊢
    obtain ⟨fs, gs, h1, h2, h3⟩ := r
    exact ⟨fs, gs, h1, wy.mono h hg a fs hn.1 h2, wy.mono h hg b gs hn.2 h3⟩
  | .mref g, cs, hn, r => by
    simp only [RepS, noG] at r hn ⊢
    rw [r, (hg g (by simpa using hn)).1]
theorem xK.mono (h : Le w G.I w' G'.I) (hg : GRel Gs G G') : ∀ (xs : List SV) (cs : List Value), noGs Gs xs = true → xK w G xs cs → xK w' G' xs cs
  | [], _, _, r => by simpa only [xK] using r
  | x :: xs, cs, hn, r => by
    simp only [xK, noGs, Bool.and_eq_true] at r hn ⊢
    obtain ⟨c1, c2, h1, h2, h3⟩ := r
    exact ⟨c1, c2, h1, RepS.mono h hg x c1 hn.1 h2, xK.mono h hg xs c2 hn.2 h3⟩
theorem wy.mono (h : Le w G.I w' G'.I) (hg : GRel Gs G G') : ∀ (xs : List SV) (vs : List Value), noGs Gs xs = true → wy w G xs vs → wy w' G' xs vs
  | [], _, _, r => by simpa only [wy] using r
  | x :: xs, vs, hn, r => by
    simp only [wy, noGs, Bool.and_eq_true] at r hn ⊢
    obtain ⟨c, q, h1, h2, h3⟩ := r
    exact ⟨c, q, h1, RepS.mono h hg x c hn.1 h2, wy.mono h hg xs q hn.2 h3⟩
end
theorem ValS.mono (h : Le w G.I w' G'.I) (hg : GRel Gs G G') {x : SV} {v : Value} (hn : noG Gs x = true) (r : ValS w G x v) : ValS w' G' x v :=
  let ⟨c, h1, h2⟩ := r; ⟨c, RepS.mono h hg x c hn h1, h2⟩
theorem wF.mono (h : Le w G.I w' G'.I) (hg : GRel Gs G G') : ∀ {xs : List SV} {vs : List Value}, noGs Gs xs = true → wF w G xs vs → wF w' G' xs vs
  | [], _, _, r => r
  | x :: xs, vs, hn, ⟨v, q, h1, h2, h3⟩ => by
    simp only [noGs, Bool.and_eq_true] at hn
    exact ⟨v, q, h1, h2.mono h hg hn.1, wF.mono h hg hn.2 h3⟩
theorem xZ.mono (h : Le w G.I w' G'.I) (hg : GRel Gs G G') {x : SV} {v : Value} (hn : noG Gs x = true) (r : xZ w G x v) : xZ w' G' x v := by
  cases x <;> simp only [xZ] at r ⊢
  case undef => exact r
  case tup fs => obtain ⟨vs, h1, h2⟩ := r; exact ⟨vs, h1, h2.mono h hg (by simpa only [noG] using hn)⟩
  all_goals exact ValS.mono h hg hn r
end
theorem uW {w : World} {G : Gh} {x : SV} {v : Value} (h : x.slotty = true) (k : xZ w G x v) : ValS w G x v := by
  cases x <;> first | exact k | cases h
theorem rA {w : World} {G : Gh} {x : SV} {v : Value} (h : x.slotty = true) (k : ValS w G x v) : xZ w G x v := by
  cases x <;> first | exact k | cases h
def upd (A : Nat → SV) : List (Nat × SV) → Nat → SV
  | [], k => A k
  | (d, x) :: r, k => bif Nat.beq d k then x else upd A r k
def has : List (Nat × SV) → Nat → Bool
  | [], _ => false
  | (d, _) :: r, k => Nat.beq d k || has r k
theorem vM (A : Nat → SV) : ∀ (l : List (Nat × SV)) (k : Nat), has l k = false → upd A l k = A k
  | [], _, _ => rfl
  | (d, x) :: r, k, h => by
    simp only [has, Bool.or_eq_false_iff] at h
    simp only [upd, h.1, cond_false]
    exact vM A r k h.2
theorem j_ {A B : Nat → SV} : ∀ (l : List (Nat × SV)) (k : Nat), has l k = true → upd A l k = upd B l k
  | [], _, h => by simp [has] at h
  | (d, x) :: r, k, h => by
    simp only [has, Bool.or_eq_true] at h
    simp only [upd]
    cases hd : Nat.beq d k
    · simp only [cond_false]; exact j_ r k (by simpa [hd] using h)
    · rfl
def zv (C : Cx) (o : Oper) (R Gs : List Nat) (A : Nat → SV) (post : List (Nat × SV)) : Prop :=
  ∀ A' a w, (∀ k ∈ R, A' k = A k) → (∀ k, has post k = false → noG Gs (A' k) = true) → Sim C A' a w →
    o.wp C.P a w (fun a' w' => Sim C (upd A' post) a' w') (fun _ _ _ => False)
theorem zM {a b : Nat} (h : a ≠ b) : Nat.beq a b = false := by
  cases hb : Nat.beq a b
  · rfl
  · exact absurd (Nat.eq_of_beq_eq_true hb) h
theorem Holds.slot {w0 : World} {E : Nat → Prop} {G : Gh} {a : Act} {w : World} {k : Nat} {x : SV} (hk : k < a.tmps.size) (h : xZ w G x (a.tmps.getD k Go.undef)) : Holds w0 E G a w k x := by
  cases x <;> simp only [xZ] at h <;> simp only [Holds] <;> first | trivial | exact h.elim | exact ⟨hk, by simpa only [xZ] using h⟩
theorem xZ.notOwn {w : World} {G : Gh} {x : SV} {v : Value} (h : xZ w G x v) (k b : Nat) : ¬ zm G k b x := by
  cases x <;> simp only [xZ] at h <;> simp [zm]
theorem SimG.put {C : Cx} {A : Nat → SV} {G : Gh} {a : Act} {w : World} (S : SimG C A G a w) {d : Nat} (hd : d < C.N) {x : SV} {v : Value} (h : xZ w G x v) :
    SimG C (upd A [(d, x)]) G (a.put (some d) v) w := by
  have hsz : (a.put (some d) v).tmps.size = a.tmps.size := by simp [Act.put]
  have hk : ∀ k, Holds C.w0 C.E G (a.put (some d) v) w k (upd A [(d, x)] k) := by
    intro k
    by_cases hkd : d = k
    · subst hkd
      have : upd A [(d, x)] d = x := by simp [upd]
      rw [this]
      refine Holds.slot (by rw [hsz, S.nts]; exact hd) ?_
      have : (a.put (some d) v).tmps.getD d Go.undef = v := by
        simp [Act.put, Array.getElem?_setIfInBounds, S.nts, hd]
      rw [this]; exact h
    · have hu : upd A [(d, x)] k = A k := by simp [upd, zM hkd]
      rw [hu]
      have hg : (a.put (some d) v).tmps.getD k Go.undef = a.tmps.getD k Go.undef := by
        simp [Act.put, Array.getElem?_setIfInBounds_ne hkd]
      have hh := S.holds k
      generalize A k = y at hh
      cases y <;> simp only [Holds] at hh ⊢ <;> first | trivial | exact hh | (rw [hsz, hg]; exact hh)
  refine ⟨S.os, S.tape, S.output, S.size, S.block, S.sub, S.rel, S.glob, S.new, S.val, by rw [hsz]; exact S.nts, S.dfs, hk, ?_⟩
  intro k j b hkj h1 h2
  have own : ∀ k, zm G k b (upd A [(d, x)] k) → zm G k b (A k) := by
    intro k hk
    by_cases hkd : d = k
    · subst hkd
      have : upd A [(d, x)] d = x := by simp [upd]
      rw [this] at hk
      exact absurd hk (h.notOwn _ _)
    · have hu : upd A [(d, x)] k = A k := by simp [upd, zM hkd]
      rw [hu] at hk; exact hk
  exact S.apart k j b hkj (own k h1) (own j h2)
theorem zv.value {C : Cx} {o : Oper} {d : Nat} {R : List Nat} {A : Nat → SV} {x : SV} (hd : o.dst = some d) (hN : Nat.blt d C.N = true)
    (h : ∀ A' G a w, (∀ k ∈ R, A' k = A k) → SimG C A' G a w → ∃ v, (execOp a.eval o).run C.P w = .ok (.value v) w ∧ xZ w G x v) :
    zv C o R [] A [(d, x)] := by
  intro A' a w hR _ ⟨G, S⟩
  obtain ⟨v, h1, h2⟩ := h A' G a w hR S
  unfold Oper.wp
  rw [h1, Oper.upon_value, hd]
  exact ⟨G, S.put (by simpa [Nat.blt_eq] using hN) h2⟩
end Go.Al
namespace Go.Al
open Go.RowKit
structure Tr where
  R : List Nat
  Gs : List Nat
  post : List (Nat × SV)
def Step (C : Cx) (ops : Array Oper) (o : Oper) (A : Nat → SV) (t : Tr) : Prop :=
  ∀ A' a w, (∀ k ∈ t.R, A' k = A k) → (∀ k, has t.post k = false → noG t.Gs (A' k) = true) → Sim C A' a w →
    if Region.wanted o (yielded ops a.tmps) then o.wp C.P a w (fun a' w' => Sim C (upd A' t.post) a' w') (fun _ _ _ => False)
    else Sim C (upd A' t.post) (a.put o.dst Go.undef) w
def Run (C : Cx) (ops : Array Oper) : List Oper → (Nat → SV) → List Tr → Prop
  | [], _, [] => True
  | o :: os, A, t :: ts => Step C ops o A t ∧ (∀ k, noG t.Gs (A k) = true) ∧ Run C ops os (upd A t.post) ts
  | _, _, _ => False
def fin : List Tr → (Nat → SV) → (Nat → SV)
  | [], A => A
  | t :: ts, A => fin ts (upd A t.post)
theorem xa : (∀ x : SV, noG [] x = true) ∧ ∀ xs : List SV, noGs [] xs = true := by
  constructor
  · intro x
    refine SV.rec (motive_1 := fun x => noG [] x = true) (motive_2 := fun xs => noGs [] xs = true) ?_ ?_ ?_ ?_ ?_ ?_ ?_ ?_ ?_ ?_ ?_ ?_ ?_ ?_ ?_ ?_ ?_ ?_ ?_ x <;> intros <;> simp_all [noG, noGs]
  · intro xs
    induction xs with
    | nil => rfl
    | cons x xs ih =>
      have : noG [] x = true := by
        refine SV.rec (motive_1 := fun x => noG [] x = true) (motive_2 := fun xs => noGs [] xs = true) ?_ ?_ ?_ ?_ ?_ ?_ ?_ ?_ ?_ ?_ ?_ ?_ ?_ ?_ ?_ ?_ ?_ ?_ ?_ x <;> intros <;> simp_all [noG, noGs]
      simp [noGs, this, ih]
theorem Run.length {C : Cx} {ops : Array Oper} : ∀ {os : List Oper} {A : Nat → SV} {tr : List Tr}, Run C ops os A tr → tr.length = os.length
  | [], _, [], _ => rfl
  | [], _, _ :: _, h => h.elim
  | _ :: _, _, [], h => h.elim
  | _ :: os, _, _ :: ts, h => by simp [Run.length h.2.2]
def isDefer : Op → Bool
  | .defer _ => true
  | _ => false
def noDef (ops : List Oper) : Bool := ops.all fun o => !isDefer o.op
theorem noDef_get {ops : Array Oper} (h : noDef ops.toList = true) {i : Nat} {o : Oper} (ho : ops[i]? = some o) : isDefer o.op = false := by
  have h1 := List.all_eq_true.1 h o (by rw [Array.mem_toList_iff]; exact Array.mem_of_getElem? ho)
  simpa using h1
def fen (R : Option Nat) : Fence := { Fence.wide with round := R }
theorem callsIn_fen {R : Option Nat} {n : Nat} {P : Program} {f : FuncId} {args : Array Value} {w : World} {Q : Ending → World → Prop} (h : Calls P f args w Q) : CallsIn (fen R) n P f args w Q :=
  (callsIn_wide (n := n)).2 h
theorem rowsIn_fen {R : Option Nat} {n : Nat} {P : Program} {row : String} {args : Array Value} {w : World} {Q : Value → World → Prop} (h : Rows P row args w Q) : RowsIn (fen R) n P row args w Q :=
  fun c cs _ => let ⟨v, w', r, s⟩ := h c cs; ⟨v, w', r, stepsIn_wide.2 s⟩
theorem Oper.wpIn_of_wp {R : Option Nat} {n : Nat} {P : Program} {o : Oper} {a : Act} {w : World} {K : Act → World → Prop} {Q : Exit → Act → World → Prop} (hd : isDefer o.op = false)
    (h : o.wp P a w K (fun _ _ _ => False)) : o.wpIn (fen R) n P a w K Q := by
  refine ⟨fun _ _ => trivial, ?_⟩
  rw [Oper.semAt_eq _ _ _ (by intro c hc; rw [hc] at hd; cases hd)]
  unfold Oper.wp at h
  generalize (execOp a.eval o).run P w = r at h ⊢
  cases r with
  | ok x w' =>
    cases x <;> simp only [Oper.upon, Oper.uponIn] at h ⊢ <;>
      first
        | exact h
        | exact h.elim
        | exact ⟨fun h => by simp [fen, Fence.wide] at h, callsIn_fen (Calls.mono h (fun e w'' he => by cases e <;> first | exact he | exact he.elim | (obtain ⟨_, _, h'⟩ := he; exact h'.elim)))⟩
        | exact ⟨fun h => by simp [fen, Fence.wide] at h, rowsIn_fen h⟩
  | halt x w' => cases x <;> simp only [Oper.upon, Oper.uponIn] at h ⊢ <;> exact h.elim
theorem jP {C : Cx} {ops : Array Oper} {n : Nat} {Q : Exit → Act → World → Prop} (hnd : noDef ops.toList = true) : ∀ (os : List Oper) (k : Nat) (A : Nat → SV) (tr : List Tr) (a : Act) (w : World),
    (∀ j, os[j]? = ops[k + j]?) → Run C ops os A tr → Sim C A a w → (∀ a w, Sim C (fin tr A) a w → Q .normal a w) →
    wpOpsIn (fen C.R) n C.P ops Q (List.range' k os.length) a w
  | [], k, A, [], a, w, _, _, S, hQ => by simpa [wpOpsIn] using hQ a w S
  | [], _, _, _ :: _, _, _, _, h, _, _ => h.elim
  | _ :: _, _, _, [], _, _, _, h, _, _ => h.elim
  | o :: os, k, A, t :: ts, a, w, hl, h, S, hQ => by
    have h0 : ops[k]? = some o := by simpa using (hl 0).symm
    obtain ⟨h1, h2, h3⟩ := h
    have h4 := h1 A a w (fun _ _ => rfl) (fun k _ => h2 k) S
    simp only [List.length_cons, List.range'_succ, wpOpsIn, h0]
    split
    · rename_i hw
      simp only [hw, if_true] at h4
      refine Oper.wpIn_of_wp (noDef_get hnd h0) (Oper.wp_mono' ?_ ?_ h4)
      · intro a' w' S'
        exact jP hnd os (k + 1) _ ts a' w' (fun j => by have := hl (j + 1); simpa [Nat.add_assoc, Nat.add_comm 1 j] using this) h3 S' hQ
      · exact fun _ _ _ h => h.elim
    · rename_i hw
      simp only [hw] at h4
      exact ⟨fun _ _ => trivial, jP hnd os (k + 1) _ ts _ w (fun j => by have := hl (j + 1); simpa [Nat.add_assoc, Nat.add_comm 1 j] using this) h3 h4 hQ⟩
where
  Oper.wp_mono' {P : Program} {o : Oper} {a : Act} {w : World} {K K' : Act → World → Prop} {Q Q' : Exit → Act → World → Prop} (h : ∀ a w, K a w → K' a w) (hq : ∀ e a w, Q e a w → Q' e a w)
      (hh : o.wp P a w K Q) : o.wp P a w K' Q' := by
    unfold Oper.wp at *
    generalize (execOp a.eval o).run P w = r at *
    cases r with
    | ok n w' =>
      cases n <;> simp only [Oper.upon] at hh ⊢ <;>
        first
          | exact h _ _ hh
          | exact Calls.mono hh (fun e w'' he => by cases e <;> first | exact h _ _ he | exact hq _ _ _ he | (obtain ⟨a, w, h'⟩ := he; exact ⟨a, w, hq _ _ _ h'⟩))
          | exact Rows.mono hh (fun _ _ he => h _ _ he)
    | halt x w' => cases x <;> simp only [Oper.upon] at hh ⊢ <;> first | exact hq _ _ _ hh | exact hh
def AD (D : Nat → Bool) : Nat → List Tr → (Nat → SV) → (Nat → SV)
  | _, [], A => A
  | i, t :: ts, A => AD D (i + 1) ts (if D i then upd A t.post else A)
theorem AD_congr {D D' : Nat → Bool} : ∀ (ts : List Tr) (s : Nat) (A A' : Nat → SV) (k : Nat), A k = A' k →
    (∀ j t, ts[j]? = some t → has t.post k = true → D (s + j) = D' (s + j)) → AD D s ts A k = AD D' s ts A' k
  | [], _, _, _, _, h, _ => h
  | t :: ts, s, A, A', k, h, hD => by
    simp only [AD]
    refine AD_congr ts (s + 1) _ _ k ?_ (fun j t' hj ht => by have := hD (j + 1) t' (by simpa using hj) ht; simpa [Nat.add_assoc, Nat.add_comm 1 j] using this)
    cases hh : has t.post k
    · have e1 : (if D s then upd A t.post else A) k = A k := by split; exact vM _ _ _ hh; rfl
      have e2 : (if D' s then upd A' t.post else A') k = A' k := by split; exact vM _ _ _ hh; rfl
      rw [e1, e2, h]
    · have := hD 0 t rfl hh
      simp only [Nat.add_zero] at this
      rw [this]
      split
      · exact j_ _ _ hh
      · exact h
theorem AD_off : ∀ (ts : List Tr) (s s' : Nat) (A : Nat → SV), s ≤ s' → AD (fun j => decide (j < s)) s' ts A = A
  | [], _, _, _, _ => rfl
  | t :: ts, s, s', A, h => by
    have : ¬ s' < s := by omega
    simp only [AD, this, decide_false, Bool.false_eq_true, if_false]
    exact AD_off ts s (s' + 1) A (by omega)
theorem AD_first : ∀ (ts : List Tr) (s i : Nat) (A : Nat → SV), AD (fun j => decide (j < s + i)) s ts A = fin (ts.take i) A
  | [], s, i, A => by simp [AD, fin]
  | t :: ts, s, 0, A => by simp only [List.take_zero, fin]; exact AD_off _ _ _ _ (Nat.le_refl _)
  | t :: ts, s, i + 1, A => by
    simp only [AD, List.take_succ_cons, fin]
    rw [if_pos (by simp)]
    have := AD_first ts (s + 1) i (upd A t.post)
    rw [← this]
    congr 1
    funext j
    have : s + (i + 1) = s + 1 + i := by omega
    rw [this]
theorem AD_none (ts : List Tr) (s : Nat) (A : Nat → SV) : AD (fun _ => false) s ts A = A := by
  induction ts generalizing s with
  | nil => rfl
  | cons t ts ih => simp [AD, ih]
theorem upd_fresh {Gs : List Nat} {A : Nat → SV} : ∀ (l : List (Nat × SV)) (k : Nat), noG Gs (A k) = true → (∀ p ∈ l, noG Gs p.2 = true) → noG Gs (upd A l k) = true
  | [], _, h, _ => h
  | p :: r, k, h, hp => by
    simp only [upd]
    cases hb : Nat.beq p.1 k
    · exact upd_fresh r k h (fun q hq => hp q (List.mem_cons_of_mem _ hq))
    · exact hp p List.mem_cons_self
theorem AD_fresh {D : Nat → Bool} {Gs : List Nat} : ∀ (ts : List Tr) (s : Nat) (A : Nat → SV) (k : Nat), noG Gs (A k) = true →
    (∀ j t, ts[j]? = some t → D (s + j) = true → ∀ p ∈ t.post, noG Gs p.2 = true) → noG Gs (AD D s ts A k) = true
  | [], _, _, _, h, _ => h
  | t :: ts, s, A, k, h, hD => by
    simp only [AD]
    refine AD_fresh ts (s + 1) _ k ?_ (fun j t' hj ht => hD (j + 1) t' (by simpa using hj) (by simpa [Nat.add_assoc, Nat.add_comm 1 j] using ht))
    split
    · rename_i hd
      have hp := hD 0 t rfl (by simpa using hd)
      exact upd_fresh t.post k h hp
    · exact h
mutual
def wd : SV → List Nat
  | .ptr g _ => [g]
  | .slg g _ _ => [g]
  | .osl g _ _ _ => [g]
  | .agg fs => tY fs
  | .tup fs => tY fs
  | .box _ x => wd x
  | .fnv _ a b => tY a ++ tY b
  | .mref g => [g]
  | .itr m _ _ => [m]
  | .ifp _ g _ => [g]
  | _ => []
def tY : List SV → List Nat
  | [] => []
  | x :: xs => wd x ++ tY xs
end
mutual
theorem sm {Gs : List Nat} : ∀ (x : SV), (∀ g ∈ wd x, g ∉ Gs) → noG Gs x = true
  | .ptr g _, h => by simp only [noG]; have := h g (by simp [wd]); simpa using this
  | .slg g _ _, h => by simp only [noG]; have := h g (by simp [wd]); simpa using this
  | .osl g _ _ _, h => by simp only [noG]; have := h g (by simp [wd]); simpa using this
  | .agg fs, h => by simp only [noG]; exact va fs (by simpa only [wd] using h)
  | .tup fs, h => by simp only [noG]; exact va fs (by simpa only [wd] using h)
  | .box _ x, h => by simp only [noG]; exact sm x (by simpa only [wd] using h)
  | .dead, _ => by simp only [noG]
  | .undef, _ => by simp only [noG]
  | .imm _, _ => by simp only [noG]
  | .tok _ _, _ => by simp only [noG]
  | .mpr _ _, _ => by simp only [noG]
  | .row _, _ => by simp only [noG]
  | .gen _, _ => by simp only [noG]
  | .ifp _ g _, h => by simp only [noG]; have := h g (by simp [wd]); simpa using this
  | .itr m _ _, h => by simp only [noG]; have := h m (by simp [wd]); simpa using this
  | .mref g, h => by simp only [noG]; have := h g (by simp [wd]); simpa using this
  | .fnv _ a b, h => by
    simp only [noG, Bool.and_eq_true]
    simp only [wd, List.mem_append] at h
    exact ⟨va a (fun g hg => h g (.inl hg)), va b (fun g hg => h g (.inr hg))⟩
theorem va {Gs : List Nat} : ∀ (xs : List SV), (∀ g ∈ tY xs, g ∉ Gs) → noGs Gs xs = true
  | [], _ => by simp only [noGs]
  | x :: xs, h => by
    simp only [noGs, Bool.and_eq_true]
    simp only [tY, List.mem_append] at h
    exact ⟨sm x (fun g hg => h g (.inl hg)), va xs (fun g hg => h g (.inr hg))⟩
end
def xS (l : List (Nat × SV)) : List Nat := l.map (·.1)
def uF : List (Nat × SV) → List Nat
  | [] => []
  | p :: l => wd p.2 ++ uF l
def Tr.W (t : Tr) : List Nat := xS t.post ++ t.Gs
def Tr.M (t : Tr) : List Nat := t.R ++ uF t.post
def meets : List Nat → List Nat → Bool
  | [], _ => false
  | x :: xs, ys => ys.elem x || meets xs ys
def conf (s t : Tr) : Bool := meets s.W (t.W ++ t.M) || meets t.W (s.W ++ s.M)
def maskOf (acc : List Nat) : List Edge → Nat
  | [] => 0
  | e :: es => (bif Region.binds .any e then (2 ^ e.on ||| acc.getD e.on 0) else 0) ||| maskOf acc es
def masks : List Oper → List Nat → List Nat
  | [], acc => acc
  | o :: os, acc => masks os (acc ++ [maskOf acc o.after.toList])
def checkRow (m : Nat) (t : Tr) : Nat → List Tr → Bool
  | _, [] => true
  | i, s :: ss => (!(conf s t) || m.testBit i) && checkRow m t (i + 1) ss
def checkAll (ms : List Nat) (tr : List Tr) : Nat → List Tr → Bool
  | _, [] => true
  | j, t :: ts => checkRow (ms.getD j 0) t 0 (tr.take j) && checkAll ms tr (j + 1) ts
theorem meets_iff : ∀ (xs ys : List Nat), meets xs ys = true ↔ ∃ x, x ∈ xs ∧ x ∈ ys
  | [], _ => by simp [meets]
  | x :: xs, ys => by simp [meets, meets_iff xs ys]
theorem sg : ∀ (l : List (Nat × SV)) (k : Nat), has l k = true ↔ k ∈ xS l
  | [], _ => by simp [has, xS]
  | p :: l, k => by
    have ih := sg l k
    unfold xS at ih
    simp only [has, xS, List.map_cons, List.mem_cons, Bool.or_eq_true, ih]
    constructor
    · rintro (h | h); exact .inl (Nat.eq_of_beq_eq_true h).symm; exact .inr h
    · rintro (h | h); exact .inl (h ▸ Nat.beq_refl _); exact .inr h
theorem mentsOf_mem : ∀ (l : List (Nat × SV)) (p : Nat × SV), p ∈ l → ∀ g ∈ wd p.2, g ∈ uF l
  | q :: l, p, hp, g, hg => by
    simp only [uF, List.mem_append]
    rcases List.mem_cons.1 hp with rfl | h
    · exact .inl hg
    · exact .inr (mentsOf_mem l p h g hg)
theorem checkRow_spec {m : Nat} {t : Tr} : ∀ (l : List Tr) (i : Nat), checkRow m t i l = true → ∀ j s, l[j]? = some s → conf s t = true → m.testBit (i + j) = true
  | [], _, _, j, s, hj, _ => by simp at hj
  | x :: l, i, h, j, s, hj, hc => by
    simp only [checkRow, Bool.and_eq_true, Bool.or_eq_true, Bool.not_eq_true'] at h
    cases j with
    | zero =>
      simp at hj; subst hj
      rcases h.1 with h1 | h1
      · rw [hc] at h1; cases h1
      · simpa using h1
    | succ j =>
      have := checkRow_spec l (i + 1) h.2 j s (by simpa using hj) hc
      rw [show i + (j + 1) = i + 1 + j from by omega]; exact this
theorem checkAll_spec {ms : List Nat} {tr : List Tr} : ∀ (l : List Tr) (i : Nat), checkAll ms tr i l = true → (∀ j, l[j]? = tr[i + j]?) →
    ∀ j t, l[j]? = some t → ∀ k s, k < i + j → tr[k]? = some s → conf s t = true → (ms.getD (i + j) 0).testBit k = true
  | [], _, _, _, j, t, hj, _, _, _, _, _ => by simp at hj
  | x :: l, i, h, hl, j, t, hj, k, s, hk, hs, hc => by
    simp only [checkAll, Bool.and_eq_true] at h
    cases j with
    | zero =>
      simp at hj; subst hj
      have h1 : (tr.take i)[k]? = some s := by rw [List.getElem?_take]; simp at hk; simp [hk, hs]
      have := checkRow_spec _ 0 h.1 k s h1 hc
      simpa using this
    | succ j =>
      have := checkAll_spec l (i + 1) h.2 (fun j => by have := hl (j + 1); simpa [Nat.add_assoc, Nat.add_comm 1 j] using this) j t (by simpa using hj) k s (by omega) hs hc
      rw [show i + (j + 1) = i + 1 + j from by omega]; exact this
def Down (ops : Array Oper) (D : Nat → Bool) : Prop := ∀ i o, ops[i]? = some o → D i = true → ∀ e ∈ o.after, Region.binds .any e = true → D e.on = true
theorem maskOf_spec {D : Nat → Bool} {acc : List Nat} (hacc : ∀ (x m : Nat), acc[x]? = some m → ∀ b, m.testBit b = true → D x = true → D b = true) :
    ∀ (es : List Edge), (∀ e ∈ es, Region.binds .any e = true → D e.on = true) → ∀ b, (maskOf acc es).testBit b = true → D b = true
  | [], _, b, hb => by simp [maskOf] at hb
  | e :: es, he, b, hb => by
    simp only [maskOf, Nat.testBit_or, Bool.or_eq_true] at hb
    rcases hb with hb | hb
    · cases hbi : Region.binds .any e
      · simp [hbi] at hb
      · simp only [hbi, cond_true, Nat.testBit_or, Bool.or_eq_true] at hb
        have hd := he e List.mem_cons_self hbi
        rcases hb with hb | hb
        · rw [Nat.testBit_two_pow] at hb
          have : e.on = b := by simpa using hb
          exact this ▸ hd
        · cases ha : acc[e.on]? with
          | none => simp [List.getD, ha] at hb
          | some m => exact hacc e.on m ha b (by simpa [List.getD, ha] using hb) hd
    · exact maskOf_spec hacc es (fun e' h => he e' (List.mem_cons_of_mem _ h)) b hb
theorem masks_spec {ops : Array Oper} {D : Nat → Bool} (hD : Down ops D) : ∀ (os : List Oper) (acc : List Nat), (∀ j, os[j]? = ops[acc.length + j]?) →
    (∀ (x m : Nat), acc[x]? = some m → ∀ b, m.testBit b = true → D x = true → D b = true) →
    ∀ (x m : Nat), (masks os acc)[x]? = some m → ∀ b, m.testBit b = true → D x = true → D b = true
  | [], acc, _, h, x, m, hx, b, hb, hd => h x m (by simpa [masks] using hx) b hb hd
  | o :: os, acc, hl, h, x, m, hx, b, hb, hd => by
    have h0 : ops[acc.length]? = some o := by simpa using (hl 0).symm
    refine masks_spec hD os (acc ++ [maskOf acc o.after.toList]) ?_ ?_ x m (by simpa [masks] using hx) b hb hd
    · intro j
      have := hl (j + 1)
      simpa [Nat.add_assoc, Nat.add_comm 1 j] using this
    · intro y m' hy b' hb' hdy
      rcases Nat.lt_trichotomy y acc.length with hlt | heq | hgt
      · exact h y m' (by rw [List.getElem?_append_left hlt] at hy; exact hy) b' hb' hdy
      · subst heq
        simp at hy
        subst hy
        exact maskOf_spec h o.after.toList (fun e he hbe => hD _ o h0 hdy e (by simpa using he) hbe) b' hb'
      · have : (acc ++ [maskOf acc o.after.toList])[y]? = none := by simp; omega
        rw [this] at hy; cases hy
theorem masks_ready {ops : Array Oper} {D : Nat → Bool} (hD : Down ops D) {i : Nat} {o : Oper} (ho : ops[i]? = some o) (hr : ∀ e ∈ o.after, Region.binds .any e = true → D e.on = true)
    {b : Nat} (hb : ((masks ops.toList []).getD i 0).testBit b = true) : b = i ∨ D b = true := by
  let D' : Nat → Bool := fun x => D x || x == i
  have hD' : Down ops D' := by
    intro j o' hj hd e he hbe
    simp only [D', Bool.or_eq_true, beq_iff_eq] at hd ⊢
    rcases hd with hd | rfl
    · exact .inl (hD j o' hj hd e he hbe)
    · rw [ho] at hj; cases hj; exact .inl (hr e he hbe)
  cases hm : (masks ops.toList [])[i]? with
  | none => simp [List.getD, hm] at hb
  | some m =>
    have := masks_spec hD' ops.toList [] (by simp) (by intro x m h; simp at h) i m hm b (by simpa [List.getD, hm] using hb) (by simp [D'])
    simp only [D', Bool.or_eq_true, beq_iff_eq] at this
    exact this.symm
theorem Run.at {C : Cx} {ops : Array Oper} : ∀ {os : List Oper} {A : Nat → SV} {tr : List Tr}, Run C ops os A tr → ∀ i o t, os[i]? = some o → tr[i]? = some t →
    Step C ops o (fin (tr.take i) A) t ∧ ∀ k, noG t.Gs (fin (tr.take i) A k) = true
  | [], _, _, _, i, o, t, ho, _ => by simp at ho
  | _ :: _, _, [], h, _, _, _, _, _ => h.elim
  | o :: os, A, x :: ts, h, i, o', t, ho, ht => by
    obtain ⟨h1, h2, h3⟩ := h
    cases i with
    | zero => simp at ho ht; subst ho; subst ht; exact ⟨h1, h2⟩
    | succ i => simpa [fin] using Run.at h3 i o' t (by simpa using ho) (by simpa using ht)
theorem conf_of {s t : Tr} {k : Nat} (h1 : k ∈ s.W) (h2 : k ∈ t.W ∨ k ∈ t.M) : conf s t = true ∧ conf t s = true := by
  have e : meets s.W (t.W ++ t.M) = true := (meets_iff _ _).2 ⟨k, h1, by simpa using h2⟩
  exact ⟨by simp [conf, e], by simp [conf, e]⟩
def freshRow (t : Tr) : List Tr → Bool
  | [] => true
  | s :: ss => !(meets t.Gs (uF s.post)) && freshRow t ss
def freshAll (tr : List Tr) : Nat → List Tr → Bool
  | _, [] => true
  | j, t :: ts => freshRow t (tr.take j) && freshAll tr (j + 1) ts
theorem freshRow_spec {t : Tr} : ∀ (l : List Tr), freshRow t l = true → ∀ s ∈ l, meets t.Gs (uF s.post) = false
  | [], _, s, hs => by cases hs
  | x :: l, h, s, hs => by
    simp only [freshRow, Bool.and_eq_true, Bool.not_eq_true'] at h
    rcases List.mem_cons.1 hs with rfl | h'
    · exact h.1
    · exact freshRow_spec l h.2 s h'
theorem freshAll_spec {tr : List Tr} : ∀ (l : List Tr) (i : Nat), freshAll tr i l = true → (∀ j, l[j]? = tr[i + j]?) →
    ∀ j t, l[j]? = some t → ∀ k s, k < i + j → tr[k]? = some s → meets t.Gs (uF s.post) = false
  | [], _, _, _, j, t, hj, _, _, _, _ => by simp at hj
  | x :: l, i, h, hl, j, t, hj, k, s, hk, hs => by
    simp only [freshAll, Bool.and_eq_true] at h
    cases j with
    | zero =>
      simp at hj; subst hj
      have h1 : (tr.take i)[k]? = some s := by rw [List.getElem?_take]; simp at hk; simp [hk, hs]
      exact freshRow_spec _ h.1 s (List.mem_of_getElem? h1)
    | succ j =>
      have := freshAll_spec l (i + 1) h.2 (fun j => by have := hl (j + 1); simpa [Nat.add_assoc, Nat.add_comm 1 j] using this) j t (by simpa using hj) k s (by omega) hs
      exact this
def okDraw (ops : Array Oper) (tr : List Tr) : Bool := checkAll (masks ops.toList []) tr 0 tr && freshAll tr 0 tr
theorem AD_all : ∀ (ts : List Tr) (s : Nat) (A : Nat → SV) (D : Nat → Bool), (∀ j, j < ts.length → D (s + j) = true) → AD D s ts A = fin ts A
  | [], _, _, _, _ => rfl
  | t :: ts, s, A, D, h => by
    have h0 := h 0 (by simp)
    simp only [Nat.add_zero] at h0
    simp only [AD, h0, if_true, fin]
    exact AD_all ts (s + 1) _ D (fun j hj => by have := h (j + 1) (by simpa using hj); simpa [Nat.add_assoc, Nat.add_comm 1 j] using this)
def edgesOk : Nat → List Oper → Bool
  | _, [] => true
  | i, o :: os => o.after.toList.all (fun e => !(Region.binds .any e) || Nat.blt e.on i) && edgesOk (i + 1) os
theorem edgesOk_spec : ∀ (os : List Oper) (s : Nat), edgesOk s os = true → ∀ i o, os[i]? = some o → ∀ e ∈ o.after, Region.binds .any e = true → e.on < s + i
  | [], _, _, i, o, ho, _, _, _ => by simp at ho
  | x :: os, s, h, i, o, ho, e, he, hb => by
    simp only [edgesOk, Bool.and_eq_true] at h
    cases i with
    | zero =>
      simp at ho; subst ho
      have := List.all_eq_true.1 h.1 e (by simpa using he)
      simp only [hb, Bool.not_true, Bool.false_or, Nat.blt_eq] at this
      simpa using this
    | succ i =>
      have := edgesOk_spec os (s + 1) h.2 i o (by simpa using ho) e he hb
      omega
theorem filter_less (i : Nat) (p q : Nat → Bool) (hp : p i = true) (hq : q i = false) (h : ∀ j, q j = true → p j = true) : ∀ (l : List Nat), i ∈ l →
    (l.filter q).length + 1 ≤ (l.filter p).length := by
  have hle : ∀ l : List Nat, (l.filter q).length ≤ (l.filter p).length := by
    intro l
    induction l with
    | nil => simp
    | cons x l ih =>
      simp only [List.filter_cons]
      cases hqx : q x
      · simp only [Bool.false_eq_true, if_false]
        cases p x
        · simp only [Bool.false_eq_true, if_false]; exact ih
        · simp only [if_true, List.length_cons]; omega
      · simp only [h x hqx, if_true, List.length_cons]; omega
  intro l
  induction l with
  | nil => intro hi; cases hi
  | cons x l ih =>
    intro hi
    simp only [List.filter_cons]
    rcases List.mem_cons.1 hi with rfl | hm
    · simp only [hp, hq, if_true, Bool.false_eq_true, if_false, List.length_cons]
      have := hle l
      omega
    · have := ih hm
      cases hqx : q x
      · simp only [Bool.false_eq_true, if_false]; split <;> simp <;> omega
      · simp [h x hqx]; omega
def okRegion (ops : Array Oper) (tr : List Tr) : Bool := okDraw ops tr && edgesOk 0 ops.toList
theorem fin_snoc : ∀ (l : List Tr) (t : Tr) (A : Nat → SV), fin (l ++ [t]) A = upd (fin l A) t.post
  | [], _, _ => rfl
  | x :: l, t, A => by simp only [List.cons_append, fin]; exact fin_snoc l t _
theorem wpAny_run {C : Cx} {ops : Array Oper} {n : Nat} (hnd : noDef ops.toList = true) {Q : Exit → Act → World → Prop} {A : Nat → SV} {tr : List Tr} (hrun : Run C ops ops.toList A tr)
    (hf0 : ∀ t ∈ tr, ∀ k, noG t.Gs (A k) = true) (hok : okRegion ops tr = true) (hQ : ∀ a w, Sim C (fin tr A) a w → Q .normal a w) :
    ∀ (fuel : Nat) (listed : Array Bool) (a : Act) (w : World), listed.size = ops.size →
      (((List.range ops.size).filter fun i => !listed.getD i false).length ≤ fuel) →
      Down ops (fun i => listed.getD i false) → Sim C (AD (fun i => listed.getD i false) 0 tr A) a w → wpAnyIn (fen C.R) n C.P .any ops Q fuel listed a w := by
  have hlen : tr.length = ops.size := by simpa using hrun.length
  simp only [okRegion, okDraw, Bool.and_eq_true] at hok
  have hchk := checkAll_spec tr 0 hok.1.1 (by simp)
  have hfr := freshAll_spec tr 0 hok.1.2 (by simp)
  have hed := edgesOk_spec ops.toList 0 hok.2
  simp only [Nat.zero_add] at hchk hfr hed
  have htf : ∀ (listed : Array Bool) (j : Nat), listed.size = ops.size → j < ops.size → listed.getD j true = listed.getD j false := by
    intro listed j hs hj
    simp [Array.getD, hs, hj]
  -- some operation is ready unless all have come
  have hall : ∀ (listed : Array Bool), listed.size = ops.size → Region.ready .any ops listed = [] → ∀ i, i < ops.size → listed.getD i false = true := by
    intro listed hs hr i
    induction i using Nat.strongRecOn with
    | _ i ih =>
      intro hi
      cases hl : listed.getD i false
      · have hin : i ∈ Region.ready .any ops listed := by
          refine mem_ready.2 ⟨by rw [htf listed i hs hi]; exact hl, ops[i], by simp [hi], ?_⟩
          intro e he hb
          have hlt := hed i ops[i] (by simp [hi]) e he hb
          exact ih e.on hlt (by omega)
        rw [hr] at hin
        cases hin
      · rfl
  have hend : ∀ (listed : Array Bool) (a : Act) (w : World), listed.size = ops.size → Region.ready .any ops listed = [] →
      Sim C (AD (fun i => listed.getD i false) 0 tr A) a w → Q .normal a w := by
    intro listed a w hs hr S
    refine hQ a w ?_
    rw [AD_all tr 0 A _ (fun j hj => ?_)] at S
    · exact S
    · simp only [Nat.zero_add]; exact hall listed hs hr j (by omega)
  intro fuel
  induction fuel with
  | zero =>
    intro listed a w hsz hcnt hD S
    have hnil : Region.ready .any ops listed = [] := by
      cases hr : Region.ready .any ops listed with
      | nil => rfl
      | cons i rest =>
        have hi : i ∈ Region.ready .any ops listed := by rw [hr]; simp
        obtain ⟨h1, o, ho, _⟩ := mem_ready.1 hi
        have hlt : i < ops.size := (Array.getElem?_eq_some_iff.1 ho).1
        have : i ∈ (List.range ops.size).filter fun i => !listed.getD i false := by
          rw [List.mem_filter]
          exact ⟨List.mem_range.2 hlt, by rw [← htf listed i hsz hlt, h1]; rfl⟩
        have h0 : (List.range ops.size).filter (fun i => !listed.getD i false) = [] := List.eq_nil_of_length_eq_zero (by omega)
        rw [h0] at this
        cases this
    exact ⟨hnil, hend listed a w hsz hnil S⟩
  | succ fuel ih =>
    intro listed a w hsz hcnt hD S
    refine ⟨fun hr => hend listed a w hsz hr S, fun i hi => ?_⟩
    obtain ⟨h1, o, ho, hdeps⟩ := mem_ready.1 hi
    have hlt : i < ops.size := (Array.getElem?_eq_some_iff.1 ho).1
    have hli : listed.getD i false = false := by rw [← htf listed i hsz hlt]; exact h1
    have hti : i < tr.length := by omega
    obtain ⟨t, ht⟩ : ∃ t, tr[i]? = some t := ⟨tr[i], by simp [hti]⟩
    have hat := (hrun.at i o t (by simpa using ho) ht).1
    -- conflicts say who has come
    have hbefore : ∀ j s, tr[j]? = some s → j < i → conf s t = true → listed.getD j false = true := by
      intro j s hs hj hc
      have hb := hchk i t ht j s hj hs hc
      rcases masks_ready hD ho (fun e he hbe => hdeps e he hbe) hb with e | e
      · omega
      · exact e
    have hafter : ∀ j s, tr[j]? = some s → i < j → conf t s = true → listed.getD j false = false := by
      intro j s hs hj hc
      cases hlj : listed.getD j false
      · rfl
      · have hb := hchk j s hs i t hj ht hc
        have hjlt : j < ops.size := by have := (List.getElem?_eq_some_iff.1 hs).1; omega
        rcases masks_ready hD (i := j) (o := ops[j]) (by simp [hjlt]) (fun e he hbe => hD j ops[j] (by simp [hjlt]) hlj e he hbe) hb with e | e
        · omega
        · exact absurd e (by rw [hli]; simp)
    have hset : ∀ j, (listed.setIfInBounds i true).getD j false = (listed.getD j false || j == i) := by
      intro j
      by_cases hji : j = i
      · subst hji; simp [Array.getD, hsz, hlt]
      · have : (listed.setIfInBounds i true).getD j false = listed.getD j false := by
          simp [Array.getElem?_setIfInBounds_ne (Ne.symm hji)]
        rw [this]; simp [hji]
    -- (1) what it looks at
    have hR : ∀ k ∈ t.R, AD (fun i => listed.getD i false) 0 tr A k = fin (tr.take i) A k := by
      intro k hk
      rw [← AD_first tr 0 i A]
      refine AD_congr tr 0 A A k rfl ?_
      intro j s hs hh
      simp only [Nat.zero_add]
      have hkW : k ∈ s.W := by simp only [Tr.W, List.mem_append]; exact .inl ((sg _ _).1 hh)
      have hkM : k ∈ t.M := by simp only [Tr.M, List.mem_append]; exact .inl hk
      rcases Nat.lt_trichotomy j i with hj | hj | hj
      · rw [hbefore j s hs hj (conf_of hkW (.inr hkM)).1]; simp [hj]
      · subst hj; rw [hli]; simp
      · rw [hafter j s hs hj (conf_of hkW (.inr hkM)).2]; simp; omega
    -- (2) what it names anew
    have hF : ∀ k, has t.post k = false → noG t.Gs (AD (fun i => listed.getD i false) 0 tr A k) = true := by
      intro k _
      refine AD_fresh tr 0 A k (hf0 t (List.mem_of_getElem? ht) k) ?_
      intro j s hs hd p hp
      simp only [Nat.zero_add] at hd
      refine sm p.2 fun g hg hgs => ?_
      have hgm : g ∈ uF s.post := mentsOf_mem s.post p hp g hg
      rcases Nat.lt_trichotomy j i with hj | hj | hj
      · have := hfr i t ht j s hj hs
        have h2 : meets t.Gs (uF s.post) = true := (meets_iff _ _).2 ⟨g, hgs, hgm⟩
        rw [h2] at this; cases this
      · subst hj; rw [hli] at hd; cases hd
      · have hgW : g ∈ t.W := by simp only [Tr.W, List.mem_append]; exact .inr hgs
        have hgM : g ∈ s.M := by simp only [Tr.M, List.mem_append]; exact .inr hgm
        rw [hafter j s hs hj (conf_of hgW (.inr hgM)).1] at hd; cases hd
    -- (3) what it leaves
    have hpost : upd (AD (fun i => listed.getD i false) 0 tr A) t.post = AD (fun j => (listed.setIfInBounds i true).getD j false) 0 tr A := by
      funext k
      cases hh : has t.post k
      · rw [vM _ _ _ hh]
        refine AD_congr tr 0 A A k rfl ?_
        intro j s hs hsk
        simp only [Nat.zero_add, hset]
        have : j ≠ i := by rintro rfl; rw [ht] at hs; cases hs; rw [hh] at hsk; cases hsk
        simp [this]
      · have e1 : upd (AD (fun i => listed.getD i false) 0 tr A) t.post k = upd (fin (tr.take i) A) t.post k := j_ _ _ hh
        rw [e1]
        have e2 : upd (fin (tr.take i) A) t.post = fin (tr.take (i + 1)) A := by
          have : tr.take (i + 1) = tr.take i ++ [t] := by
            rw [List.take_add_one, ht]; rfl
          rw [this]
          exact (fin_snoc _ t A).symm
        rw [e2, ← AD_first tr 0 (i + 1) A]
        refine AD_congr tr 0 A A k rfl ?_
        intro j s hs hsk
        simp only [Nat.zero_add, hset]
        have hkW : k ∈ s.W := by simp only [Tr.W, List.mem_append]; exact .inl ((sg _ _).1 hsk)
        have hkt : k ∈ t.W := by simp only [Tr.W, List.mem_append]; exact .inl ((sg _ _).1 hh)
        rcases Nat.lt_trichotomy j i with hj | hj | hj
        · rw [hbefore j s hs hj (conf_of hkW (.inl hkt)).1]; simp; omega
        · subst hj; simp
        · have hne : (j == i) = false := by simp; omega
          rw [hafter j s hs hj (conf_of hkt (.inl hkW)).1, hne]; simp; omega
    have hD' : Down ops (fun j => (listed.setIfInBounds i true).getD j false) := by
      intro j o' hj hd e he hb
      simp only [hset, Bool.or_eq_true, beq_iff_eq] at hd ⊢
      rcases hd with hd | rfl
      · exact .inl (hD j o' hj hd e he hb)
      · rw [ho] at hj; cases hj; exact .inl (hdeps e he hb)
    have hcnt' : ((List.range ops.size).filter fun j => !(listed.setIfInBounds i true).getD j false).length ≤ fuel := by
      have := filter_less i (fun j => !listed.getD j false) (fun j => !(listed.setIfInBounds i true).getD j false) (by simp [hli]) (by simp [hset])
        (fun j hj => by simp only [hset, Bool.not_eq_true', Bool.or_eq_false_iff] at hj ⊢; exact hj.1) (List.range ops.size) (List.mem_range.2 hlt)
      omega
    have h4 := hat _ a w hR hF S
    unfold wpOpIn
    simp only [ho]
    split
    · rename_i hw
      simp only [hw, if_true] at h4
      refine Oper.wpIn_of_wp (noDef_get hnd ho) (jP.Oper.wp_mono' ?_ ?_ h4)
      · intro a' w' S'
        rw [hpost] at S'
        exact ih _ a' w' (by simp [hsz]) hcnt' hD' S'
      · exact fun _ _ _ h => h.elim
    · rename_i hw
      simp only [hw] at h4
      rw [if_neg (by simp)] at h4
      rw [hpost] at h4
      exact ⟨fun _ _ => trivial, ih _ _ w (by simp [hsz]) hcnt' hD' h4⟩
end Go.Al
namespace Go.Al
open Go.RowKit
abbrev St := List (Nat × SV)
def look (st : St) : Nat → SV := upd (fun _ => .dead) st
theorem vG : ∀ (p st : St), upd (look st) p = look (p ++ st) := by
  intro p st
  funext k
  induction p with
  | nil => rfl
  | cons x p ih =>
    simp only [look] at ih
    simp only [upd, look, List.cons_append]
    cases Nat.beq x.1 k
    · exact ih
    · rfl
def uE (Gs : List Nat) : St → Bool
  | [] => true
  | (_, x) :: st => noG Gs x && uE Gs st
theorem wW {Gs : List Nat} : ∀ (st : St), uE Gs st = true → ∀ k, noG Gs (look st k) = true
  | [], _, k => by simp [look, upd, noG]
  | (d, x) :: st, h, k => by
    simp only [uE, Bool.and_eq_true] at h
    simp only [look, upd]
    cases Nat.beq d k
    · exact wW st h.2 k
    · exact h.1
theorem freshB_tail {Gs : List Nat} : ∀ (p st : St), uE Gs (p ++ st) = true → uE Gs st = true
  | [], _, h => h
  | (_, _) :: p, st, h => by
    simp only [List.cons_append, uE, Bool.and_eq_true] at h
    exact freshB_tail p st h.2
theorem tF : ∀ st : St, uE [] st = true
  | [] => rfl
  | (_, x) :: st => by simp [uE, xa.1 x, tF st]
def Go1 (C : Cx) (ops : Array Oper) : List Oper → St → List Tr → (St → List Tr → Prop) → Prop
  | [], st, tr, K => K st tr
  | o :: os, st, tr, K => ∃ t : Tr, Step C ops o (look st) t ∧ uE t.Gs st = true ∧ Go1 C ops os (t.post ++ st) (t :: tr) K
theorem Go1.sound {C : Cx} {ops : Array Oper} : ∀ (os : List Oper) (st : St) (tr : List Tr) (K : St → List Tr → Prop), Go1 C ops os st tr K →
    ∃ tr' st', Run C ops os (look st) tr' ∧ fin tr' (look st) = look st' ∧ K st' (tr'.reverse ++ tr) ∧ ∀ t ∈ tr', uE t.Gs st = true
  | [], st, tr, K, h => ⟨[], st, trivial, rfl, h, by simp⟩
  | o :: os, st, tr, K, h => by
    obtain ⟨t, h1, h2, h3⟩ := h
    obtain ⟨tr', st', r, f, k, n⟩ := Go1.sound os _ _ K h3
    refine ⟨t :: tr', st', ⟨h1, wW st h2, by rw [vG]; exact r⟩, by simp only [fin]; rw [vG]; exact f, by simpa using k, ?_⟩
    intro t' ht'
    rcases List.mem_cons.1 ht' with rfl | hm
    · exact h2
    · exact freshB_tail _ _ (n t' hm)
def AW (C : Cx) (c : Code) (st : St) (Q : Exit → St → Prop) : Prop :=
  ∀ a w, Sim C (look st) a w → ∀ n, c.wpIn (fen C.R) n C.P (fun e a' w' => ∃ st', Q e st' ∧ Sim C (look st') a' w') a w
theorem Le.drawn (w : World) (I : Nat → Nat → Prop) (n : Nat) : Le w I { w with drawn := n } I := fun _ _ h => ⟨h, y7 rfl⟩
theorem BoxS.heap {w0 w w' : World} {E : Nat → Prop} {G : Gh} {b : Nat} {T : TypeId} {x : SV} (hh : w'.heap = w.heap) (h : BoxS w0 E G w b T x) : BoxS w0 E G w' b T x := by
  have hle : Le w G.I w' G.I := fun b o h => ⟨h, y7 (by rw [hh])⟩
  obtain ⟨h1, ⟨cs, fr, h2, h3, h4⟩, h5⟩ := h
  exact ⟨⟨h1.1, by rw [hh]; exact h1.2⟩, ⟨cs, fr, by rw [hh]; exact h2, RepS.mono hle (GRel.refl G) _ _ (xa.1 _) h3, h4⟩, h5⟩
theorem TokS.heap {w0 w w' : World} {E : Nat → Prop} {I : Nat → Nat → Prop} {v : Value} {n : Nat} {l : List AV} (hh : w'.heap = w.heap) (h : TokS w0 E I w v n l) : TokS w0 E I w' v n l := by
  have hle : Le w I w' I := fun b o h => ⟨h, y7 (by rw [hh])⟩
  rcases h with h | ⟨b, cap, h1, h2, h3, h4, h5, ⟨cs, T, fr, h6, h7, h8⟩, h9⟩
  · exact .inl h
  · exact .inr ⟨b, cap, h1, h2, h3, RepM.mono hle n l b 0 h4, ⟨h5.1, by rw [hh]; exact h5.2⟩, ⟨cs, T, fr, by rw [hh]; exact h6, h7, h8⟩, h9⟩
theorem MprS.heap {w0 w w' : World} {E : Nat → Prop} {I : Nat → Nat → Prop} {b : Nat} {ks vs : List AV} (hh : w'.heap = w.heap) (h : MprS w0 E I w b ks vs) : MprS w0 E I w' b ks vs := by
  have hle : Le w I w' I := fun b o h => ⟨h, y7 (by rw [hh])⟩
  obtain ⟨h1, ⟨es, h2, h3, h4, h5⟩, h6⟩ := h
  exact ⟨⟨h1.1, by rw [hh]; exact h1.2⟩, ⟨es, by rw [hh]; exact h2, h3, yc.mono hle _ _ h4, yc.mono hle _ _ h5⟩, h6⟩
theorem RowS.heap {w0 w w' : World} {E : Nat → Prop} {I : Nat → Nat → Prop} {v : Value} {l : List ByteArray} (hh : w'.heap = w.heap) (h : RowS w0 E I w v l) : RowS w0 E I w' v l := by
  rcases h with h | ⟨b, cap, h1, h2, h3, h4, ⟨cs, T, h5, h6, h7⟩, h8⟩
  · exact .inl h
  · exact .inr ⟨b, cap, h1, h2, h3, ⟨h4.1, by rw [hh]; exact h4.2⟩, ⟨cs, T, by rw [hh]; exact h5, h6, h7⟩, h8⟩
theorem SimG.heap {C : Cx} {A : Nat → SV} {G : Gh} {a : Act} {w w' : World} (S : SimG C A G a w) (hh : w'.heap = w.heap) (ho : w'.os = w.os) (ht : w'.tape = w.tape) (hu : w'.output = w.output) : SimG C A G a w' := by
  have hle : Le w G.I w' G.I := fun b o h => ⟨h, y7 (by rw [hh])⟩
  refine ⟨ho.trans S.os, ht.trans S.tape, hu.trans S.output, by rw [hh]; exact S.size, fun k h1 h2 => by rw [hh]; exact S.block k h1 h2, S.sub.trans hle, S.rel, S.glob.mono hle, S.new, fun b o h => by rw [hh]; exact S.val b o h, S.nts, S.dfs, fun k => ?_, S.apart⟩
  have h := S.holds k
  generalize A k = x at h
  cases x <;> simp only [Holds] at h ⊢
  case box T x => exact h.heap hh
  case tok n l => exact ⟨h.1, h.2.heap hh⟩
  case mpr ks vs => exact h.heap hh
  case row l => exact ⟨h.1, h.2.heap hh⟩
  case gen R => exact ⟨fun b hb => ⟨(h.1 b hb).1, by rw [hh]; exact (h.1 b hb).2⟩, (R _ _ _).keep _ _ _ _ h.2 hle fun b _ => ⟨by rw [hh], fun _ hi => hi⟩⟩
  case itr m n seen => exact ⟨⟨h.1.1, by rw [hh]; exact h.1.2⟩, by rw [hh]; exact h.2.1, h.2.2⟩
  all_goals first | trivial | exact ⟨h.1, xZ.mono hle (GRel.refl G) (xa.1 _) h.2⟩
theorem zB {C : Cx} {id : Nat} {ops : Array Oper} {st : St} {Q : Exit → St → Prop} (h : Go1 C ops ops.toList st [] (fun st' _ => Q .normal st')) (hnd : noDef ops.toList = true := by rfl) : AW C (.region id ops false) st Q := by
  intro a w S n
  obtain ⟨tr, st', r, f, k, _⟩ := Go1.sound _ _ _ _ h
  refine wpIn_region ?_
  have := jP (n := n) (Q := fun e a' w' => ∃ st', Q e st' ∧ Sim C (look st') a' w') hnd ops.toList 0 (look st) tr a w (by simp) r S (fun a' w' S' => ⟨st', k, f ▸ S'⟩)
  simpa [List.range_eq_range'] using this
theorem y_ {C : Cx} {id : Nat} {ops : Array Oper} {st : St} {Q : Exit → St → Prop} (hm : C.P.follows .mixedOrders = true)
    (h : Go1 C ops ops.toList st [] (fun st' tr => okRegion ops tr.reverse = true ∧ Q .normal st')) (hnd : noDef ops.toList = true := by rfl) : AW C (.region id ops true) st Q := by
  intro a w S n
  obtain ⟨tr, st', r, f, ⟨ok, k⟩, hf⟩ := Go1.sound _ _ _ _ h
  simp only [List.append_nil, List.reverse_reverse] at ok
  refine wpIn_region_any hm ?_
  have hrep : ∀ i, (Array.replicate ops.size false).getD i false = false := by
    intro i
    rcases Nat.lt_or_ge i ops.size with hi | hi
    · simp [Array.getD, hi]
    · simp [Array.getD, Nat.not_lt.2 hi]
  refine wpAny_run hnd (A := look st) (tr := tr) r (fun t ht => wW st (hf t ht)) ok (fun a' w' S' => ⟨st', k, f ▸ S'⟩) _ _ a _ (by simp) ?_ ?_ ?_
  · refine Nat.le_trans (List.length_filter_le _ _) (by simp)
  · intro i o _ hd
    exact absurd hd (by show ¬ ((Array.replicate ops.size false).getD i false = true); rw [hrep]; simp)
  · have : AD (fun i => (Array.replicate ops.size false).getD i false) 0 tr (look st) = look st := by
      have e : (fun i => (Array.replicate ops.size false).getD i false) = fun _ => false := funext hrep
      rw [e]; exact AD_none tr 0 _
    rw [this]
    obtain ⟨G, S⟩ := S
    exact ⟨G, S.heap rfl rfl rfl rfl⟩
def thn (K : St → Prop) (Q : Exit → St → Prop) : Exit → St → Prop
  | .normal, st => K st
  | e, st => Q e st
theorem zD {C : Cx} {x y : Code} {st : St} {Q : Exit → St → Prop} (h : AW C x st (thn (fun st' => AW C y st' Q) Q)) : AW C (.seq x y) st Q := by
  intro a w S n
  refine wpIn_seq (wpIn_mono (h a w S n) ?_)
  rintro e a' w' ⟨st', q, S'⟩
  cases e with
  | normal => exact q a' w' S' n
  | exit id => exact ⟨st', q, S'⟩
  | goto l => exact ⟨st', q, S'⟩
  | ret => exact ⟨st', q, S'⟩
  | panic c => exact ⟨st', q, S'⟩
  | outgrown => exact ⟨st', q, S'⟩
theorem AW.mono {C : Cx} {c : Code} {st : St} {Q Q' : Exit → St → Prop} (h : AW C c st Q) (hq : ∀ e st, Q e st → Q' e st) : AW C c st Q' :=
  fun a w S n => wpIn_mono (h a w S n) fun e _ _ ⟨st', q, S'⟩ => ⟨st', hq e st' q, S'⟩
theorem zQ {C : Cx} {st : St} {Q : Exit → St → Prop} (h : Q .normal st) : AW C .skip st Q := fun _ _ S _ => wpIn_skip ⟨st, h, S⟩
theorem zL {C : Cx} {st : St} {Q : Exit → St → Prop} (h : Q .ret st) : AW C .ret st Q := fun _ _ S _ => wpIn_ret ⟨st, h, S⟩
theorem zK {st : St} {K : St → Prop} {Q : Exit → St → Prop} (h : Q .ret st) : thn K Q .ret st := h
theorem zT {st : St} {i : Nat} {K : St → Prop} {Q : Exit → St → Prop} (h : Q (.exit i) st) : thn K Q (.exit i) st := h
theorem zA {st : St} {K : St → Prop} {Q : Exit → St → Prop} (h : K st) : thn K Q .normal st := h
theorem zz {C : Cx} {i : Nat} {st : St} {Q : Exit → St → Prop} (h : Q (.exit i) st) : AW C (.exit i) st Q := fun _ _ S _ => wpIn_exit ⟨st, h, S⟩
def blk (id : Nat) (K : St → Prop) (Q : Exit → St → Prop) : Exit → St → Prop
  | .normal, st => K st
  | .exit i, st => if i = id then K st else Q (.exit i) st
  | e, st => Q e st
theorem zt {st : St} {id : Nat} {K : St → Prop} {Q : Exit → St → Prop} (h : Q .ret st) : blk id K Q .ret st := h
theorem zW {st : St} {id : Nat} {K : St → Prop} {Q : Exit → St → Prop} (h : K st) : blk id K Q .normal st := h
theorem zq {st : St} {id : Nat} {K : St → Prop} {Q : Exit → St → Prop} (h : K st) : blk id K Q (.exit id) st := by simp only [blk, if_true]; exact h
theorem exit_blk_ne {st : St} {id i : Nat} {K : St → Prop} {Q : Exit → St → Prop} (hn : Nat.beq i id = false) (h : Q (.exit i) st) : blk id K Q (.exit i) st := by
  have : i ≠ id := by rintro rfl; rw [Nat.beq_refl] at hn; cases hn
  simp only [blk, this, if_false]; exact h
theorem zU {C : Cx} {id : Nat} {c : Code} {st : St} {Q : Exit → St → Prop} (h : AW C c st (blk id (fun st' => Q .normal st') Q)) : AW C (.block id c) st Q := by
  intro a w S n
  refine wpIn_block (wpIn_mono (h a w S n) ?_)
  rintro e a' w' ⟨st', q, S'⟩
  cases e with
  | normal => exact ⟨st', q, S'⟩
  | exit i =>
    simp only [blk] at q
    simp only [Exit.inBlock]
    split
    · rename_i hi; rw [if_pos hi] at q; exact ⟨st', q, S'⟩
    · rename_i hi; rw [if_neg hi] at q; exact ⟨st', q, S'⟩
  | goto l => exact ⟨st', q, S'⟩
  | ret => exact ⟨st', q, S'⟩
  | panic c => exact ⟨st', q, S'⟩
  | outgrown => exact ⟨st', q, S'⟩
theorem SimG.slot {C : Cx} {A : Nat → SV} {G : Gh} {a : Act} {w : World} (S : SimG C A G a w) {k : Nat} {x : SV} (h : A k = x) (hx : x.res = false) :
    xZ w G x (a.tmps.getD k Go.undef) := by
  have hh := S.holds k
  rw [h] at hh
  cases x <;> simp only [Holds] at hh <;> first | exact hh.2 | (simp only [xZ]; done) | cases hx
theorem SimG.imm {C : Cx} {A : Nat → SV} {G : Gh} {a : Act} {w : World} (S : SimG C A G a w) {k : Nat} {x : AV} (h : A k = .imm x) : Rep w G.I x (a.tmps.getD k Go.undef) := by
  have := S.slot h rfl
  simp only [xZ, ValS, RepS, mkS, SV.isAgg] at this
  exact this
theorem u9 {w : World} {I : Nat → Nat → Prop} {x v : Value} (h : Rep w I (.v x) v) (hx : plain x = true) : v = x := by
  obtain ⟨c, h1, h2⟩ := h
  simp only [RepC] at h1
  rw [h2, h1.1]
  cases x <;> simp_all [mkV, AV.isAgg, Value.cells, plain]
theorem sF {w : World} {I : Nat → Nat → Prop} {b : Bool} {v : Value} (h : Rep w I (.v (.bool b)) v) : v = .bool b := u9 h rfl
theorem zN {C : Cx} {t : Nat} {b : Bool} {x y : Code} {st : St} {Q : Exit → St → Prop} (hc : look st t = .imm (.v (.bool b)))
    (ht : b = true → AW C x st Q) (hf : b = false → AW C y st Q) : AW C (.cond (.tmp t) x y) st Q := by
  intro a w S n
  have hev : a.eval (.tmp t) = .bool b := by
    obtain ⟨G, S⟩ := S
    exact sF (S.imm hc)
  exact wpIn_cond_split hev (fun h => ht h a w S n) (fun h => hf h a w S n)
theorem zs {C : Cx} {t : Nat} {x y : Code} {st : St} {Q : Exit → St → Prop} (hc : look st t = .imm (.v (.bool true)))
    (h : AW C x st Q) : AW C (.cond (.tmp t) x y) st Q := zN hc (fun _ => h) (fun h => by cases h)
theorem yD {C : Cx} {t : Nat} {x y : Code} {st : St} {Q : Exit → St → Prop} (hc : look st t = .imm (.v (.bool false)))
    (h : AW C y st Q) : AW C (.cond (.tmp t) x y) st Q := zN hc (fun h => by cases h) (fun _ => h)
def sub (st : St) : St → Prop
  | [] => True
  | (k, x) :: r => look st k = x ∧ sub st r
theorem jL {st : St} : ∀ {st' : St}, sub st st' → ∀ k, look st' k = .dead ∨ look st' k = look st k
  | [], _, k => .inl rfl
  | (j, x) :: r, h, k => by
    simp only [look, upd]
    cases hb : Nat.beq j k
    · exact jL h.2 k
    · have := Nat.eq_of_beq_eq_true hb
      subst this
      exact .inr h.1.symm
theorem SimG.weak {C : Cx} {A B : Nat → SV} {G : Gh} {a : Act} {w : World} (S : SimG C A G a w) (h : ∀ k, B k = .dead ∨ B k = A k) : SimG C B G a w := by
  refine ⟨S.os, S.tape, S.output, S.size, S.block, S.sub, S.rel, S.glob, S.new, S.val, S.nts, S.dfs, fun k => ?_, fun k j b hkj h1 h2 => ?_⟩
  · rcases h k with e | e
    · rw [e]; simp only [Holds]
    · rw [e]; exact S.holds k
  · rcases h k with e | e
    · rw [e] at h1; simp only [zm] at h1
    · rcases h j with e' | e'
      · rw [e'] at h2; simp only [zm] at h2
      · rw [e] at h1; rw [e'] at h2; exact S.apart k j b hkj h1 h2
theorem aw_weak {C : Cx} {c : Code} {st : St} (st' : St) {Q : Exit → St → Prop} (hs : sub st st') (h : AW C c st' Q) : AW C c st Q := by
  intro a w S
  obtain ⟨G, S⟩ := S
  exact h a w ⟨G, S.weak (jL hs)⟩
theorem aw_loop {C : Cx} {c : Code} {st : St} {Q : Exit → St → Prop} {ι : Type} (Inv : ι → St) (μ : ι → Nat) (i0 : ι) (h0 : sub st (Inv i0))
    (round : ∀ i, AW C c (Inv i) (thn (fun st' => ∃ j, sub st' (Inv j) ∧ μ j < μ i) Q)) : AW C (.loop c) st Q := by
  intro a w S m
  refine wpIn_loop_ghost (fun n a w => ∃ i, μ i = n ∧ Sim C (look (Inv i)) a w) (μ i0) ⟨i0, rfl, ?_⟩ ?_
  · obtain ⟨G, S⟩ := S; exact ⟨G, S.weak (jL h0)⟩
  · rintro n a w ⟨i, rfl, S⟩
    refine wpIn_mono (round i a w S m) ?_
    rintro e a' w' ⟨st', q, S'⟩
    cases e with
    | normal =>
      obtain ⟨j, hs, hlt⟩ := q
      obtain ⟨G, S'⟩ := S'
      exact ⟨μ j, hlt, j, rfl, G, S'.weak (jL hs)⟩
    | exit i => exact ⟨st', q, S'⟩
    | goto l => exact ⟨st', q, S'⟩
    | ret => exact ⟨st', q, S'⟩
    | panic c => exact ⟨st', q, S'⟩
    | outgrown => exact ⟨st', q, S'⟩
end Go.Al
namespace Go.Al
open Go.RowKit
mutual
def SV.width : SV → Nat
  | .imm x => x.width
  | .ptr _ _ => 1
  | .slg _ _ _ => 1
  | .osl _ _ _ _ => 1
  | .agg fs => SV.widths fs
  | .fnv _ _ _ => 1
  | .mref _ => 1
  | .ifp _ _ _ => 1
  | _ => 0
def SV.widths : List SV → Nat
  | [] => 0
  | x :: xs => x.width + SV.widths xs
end
mutual
theorem RepS.len {w : World} {G : Gh} : ∀ (x : SV) (cs : List Value), RepS w G x cs → cs.length = x.width
  | .imm x, cs, r => by simp only [RepS] at r; simp only [SV.width]; exact RepC.len x cs r
  | .ptr g off, cs, r => by simp only [RepS] at r; simp [r, SV.width]
  | .slg g n l, cs, r => by simp only [RepS] at r; obtain ⟨v, h, _⟩ := r; simp [h, SV.width]
  | .osl g o a b, cs, r => by simp only [RepS] at r; simp [r, SV.width]
  | .agg fs, cs, r => by simp only [RepS] at r; simp only [SV.width]; exact xK.len fs cs r
  | .dead, _, r => by simp only [RepS] at r
  | .undef, _, r => by simp only [RepS] at r
  | .tup _, _, r => by simp only [RepS] at r
  | .box _ _, _, r => by simp only [RepS] at r
  | .tok _ _, _, r => by simp only [RepS] at r
  | .mpr _ _, _, r => by simp only [RepS] at r
  | .row _, _, r => by simp only [RepS] at r
  | .itr _ _ _, _, r => by simp only [RepS] at r
  | .gen _, _, r => by simp only [RepS] at r
  | .ifp _ g _, cs, r => by simp only [RepS] at r; simp [r, SV.width]
  | .mref g, cs, r => by simp only [RepS] at r; simp [r, SV.width]
  | .fnv f a b, cs, r => by simp only [RepS] at r; obtain ⟨fs, gs, h, _⟩ := r; simp [h, SV.width]
theorem xK.len {w : World} {G : Gh} : ∀ (xs : List SV) (cs : List Value), xK w G xs cs → cs.length = SV.widths xs
  | [], _, r => by simp only [xK] at r; simp [r, SV.widths]
  | x :: xs, cs, r => by
    simp only [xK] at r
    obtain ⟨c1, c2, h1, h2, h3⟩ := r
    simp only [SV.widths, h1, List.length_append, RepS.len x c1 h2, xK.len xs c2 h3]
end
mutual
theorem RepS.plain {w : World} {G : Gh} : ∀ (x : SV) (cs : List Value), RepS w G x cs → cs.all Al.plain = true
  | .imm x, cs, r => by simp only [RepS] at r; exact RepC.plain x cs r
  | .ptr g off, cs, r => by simp only [RepS] at r; simp [r, Al.plain]
  | .slg g n l, cs, r => by simp only [RepS] at r; obtain ⟨v, h, h2, _⟩ := r; rw [h]; exact RepC.plain _ _ h2
  | .osl g o a b, cs, r => by simp only [RepS] at r; simp [r, Al.plain]
  | .agg fs, cs, r => by simp only [RepS] at r; exact xK.plain fs cs r
  | .dead, _, r => by simp only [RepS] at r
  | .undef, _, r => by simp only [RepS] at r
  | .tup _, _, r => by simp only [RepS] at r
  | .box _ _, _, r => by simp only [RepS] at r
  | .tok _ _, _, r => by simp only [RepS] at r
  | .mpr _ _, _, r => by simp only [RepS] at r
  | .row _, _, r => by simp only [RepS] at r
  | .itr _ _ _, _, r => by simp only [RepS] at r
  | .gen _, _, r => by simp only [RepS] at r
  | .ifp _ g _, cs, r => by simp only [RepS] at r; simp [r, Al.plain]
  | .mref g, cs, r => by simp only [RepS] at r; simp [r, Al.plain]
  | .fnv f a b, cs, r => by simp only [RepS] at r; obtain ⟨fs, gs, h, _⟩ := r; simp [h, Al.plain]
theorem xK.plain {w : World} {G : Gh} : ∀ (xs : List SV) (cs : List Value), xK w G xs cs → cs.all Al.plain = true
  | [], _, r => by simp only [xK] at r; simp [r]
  | x :: xs, cs, r => by
    simp only [xK] at r
    obtain ⟨c1, c2, h1, h2, h3⟩ := r
    rw [h1, List.all_append, RepS.plain x c1 h2, xK.plain xs c2 h3]; rfl
end
theorem mkS_cells {w : World} {G : Gh} {x : SV} {cs : List Value} (r : RepS w G x cs) : (mkS x cs).cells.toList = cs := by
  cases x <;> simp only [RepS] at r
  case imm y => exact tP r
  case ptr g off => simp [mkS, SV.isAgg, r, Value.cells]
  case slg g n l => obtain ⟨v, h, h2, _⟩ := r; rw [h] at *; exact tP h2
  case osl g o a b => simp [mkS, SV.isAgg, r, Value.cells]
  case agg fs => simp [mkS, SV.isAgg, Value.cells]
  case mref g => simp [mkS, SV.isAgg, r, Value.cells]
  case ifp T g off => simp [mkS, SV.isAgg, r, Value.cells]
  case fnv f a b => obtain ⟨fs, gs, h, _⟩ := r; rw [h]; simp [mkS, SV.isAgg, Value.cells]
def getL (f : SV → Nat → Option SV) : List SV → Nat → Option SV
  | [], _ => none
  | x :: xs, off => if off < x.width then f x off else getL f xs (off - x.width)
def getS : Nat → SV → Nat → Nat → Bool → Option SV
  | 0, _, _, _, _ => none
  | f + 1, X, off, n, g =>
    if off = 0 ∧ X.width = n ∧ X.isAgg = g then some X else
    match X with
    | .agg fs => getL (fun x o => getS f x o n g) fs off
    | .imm (.agg ps) => getL (fun x o => getS f x o n g) (ps.map .imm) off
    | _ => none
def setL (f : SV → Nat → Option SV) : List SV → Nat → Option (List SV)
  | [], _ => none
  | x :: xs, off => if off < x.width then (f x off).map (· :: xs) else (setL f xs (off - x.width)).map (x :: ·)
def setS : Nat → SV → Nat → SV → Option SV
  | 0, _, _, _ => none
  | f + 1, X, off, y =>
    if off = 0 ∧ X.width = y.width ∧ X.isAgg = y.isAgg then some y else
    match X with
    | .agg fs => (setL (fun x o => setS f x o y) fs off).map .agg
    | .imm (.agg ps) => (setL (fun x o => setS f x o y) (ps.map .imm) off).map .agg
    | _ => none
theorem RepSs_imm {w : World} {G : Gh} : ∀ (ps : List AV) (cs : List Value), xK w G (ps.map .imm) cs ↔ xH w G.I ps cs
  | [], _ => by simp [xK, xH]
  | p :: ps, cs => by simp only [List.map_cons, xK, xH, RepS, RepSs_imm ps]
theorem getL_spec {w : World} {G : Gh} {f : SV → Nat → Option SV} {n : Nat} {g : Bool} {Y : SV}
    (hf : ∀ X cs off, RepS w G X cs → f X off = some Y → RepS w G Y ((cs.drop off).take n) ∧ Y.isAgg = g ∧ Y.width = n ∧ off + n ≤ cs.length) :
    ∀ (fs : List SV) (cs : List Value) (off : Nat), xK w G fs cs → getL f fs off = some Y → RepS w G Y ((cs.drop off).take n) ∧ Y.isAgg = g ∧ Y.width = n ∧ off + n ≤ cs.length
  | [], _, _, _, h => by simp [getL] at h
  | x :: xs, cs, off, r, h => by
    simp only [xK] at r
    obtain ⟨c1, c2, rfl, h2, h3⟩ := r
    have hl := RepS.len x c1 h2
    simp only [getL] at h
    split at h
    · rename_i hlt
      obtain ⟨k1, k2, k3, k4⟩ := hf x c1 off h2 h
      refine ⟨?_, k2, k3, by rw [List.length_append]; omega⟩
      rw [List.drop_append_of_le_length (by omega), List.take_append_of_le_length (by rw [List.length_drop]; omega)]
      exact k1
    · rename_i hge
      obtain ⟨k1, k2, k3, k4⟩ := getL_spec hf xs c2 (off - x.width) h3 h
      refine ⟨?_, k2, k3, by rw [List.length_append]; omega⟩
      rw [List.drop_append, List.drop_of_length_le (l := c1) (by omega), List.nil_append, hl]
      exact k1
theorem vz {w : World} {G : Gh} : ∀ (f : Nat) (X : SV) (cs : List Value) (off n : Nat) (g : Bool) (Y : SV), RepS w G X cs → getS f X off n g = some Y →
    RepS w G Y ((cs.drop off).take n) ∧ Y.isAgg = g ∧ Y.width = n ∧ off + n ≤ cs.length
  | 0, _, _, _, _, _, _, _, h => by simp [getS] at h
  | f + 1, X, cs, off, n, g, Y, r, h => by
    have hl := RepS.len X cs r
    simp only [getS] at h
    split at h
    · rename_i hc
      obtain ⟨rfl, h2, h3⟩ := hc
      cases h
      refine ⟨?_, h3, h2, by omega⟩
      rw [List.drop_zero, List.take_of_length_le (by omega)]; exact r
    · split at h
      · simp only [RepS] at r
        exact getL_spec (fun X cs off r h => vz f X cs off n g Y r h) _ cs off r h
      · rename_i ps _
        simp only [RepS, RepC] at r
        exact getL_spec (fun X cs off r h => vz f X cs off n g Y r h) _ cs off ((RepSs_imm ps cs).2 r) h
      · cases h
theorem setL_spec {w : World} {G : Gh} {f : SV → Nat → Option SV} {vs : List Value}
    (hf : ∀ X cs off X', RepS w G X cs → f X off = some X' → RepS w G X' (cs.take off ++ vs ++ cs.drop (off + vs.length)) ∧ off + vs.length ≤ cs.length) :
    ∀ (fs : List SV) (cs : List Value) (off : Nat) (fs' : List SV), xK w G fs cs → setL f fs off = some fs' → xK w G fs' (cs.take off ++ vs ++ cs.drop (off + vs.length)) ∧ off + vs.length ≤ cs.length
  | [], _, _, _, _, h => by simp [setL] at h
  | x :: xs, cs, off, fs', r, h => by
    simp only [xK] at r
    obtain ⟨c1, c2, rfl, h2, h3⟩ := r
    have hl := RepS.len x c1 h2
    simp only [setL] at h
    split at h
    · rename_i hlt
      cases hx : f x off with
      | none => rw [hx] at h; cases h
      | some x' =>
        rw [hx] at h; cases h
        obtain ⟨k1, k2⟩ := hf x c1 off x' h2 hx
        refine ⟨?_, by rw [List.length_append]; omega⟩
        simp only [xK]
        refine ⟨_, c2, ?_, k1, h3⟩
        rw [List.take_append_of_le_length (by omega), List.drop_append_of_le_length (by omega)]
        simp
    · rename_i hge
      cases hx : setL f xs (off - x.width) with
      | none => rw [hx] at h; cases h
      | some xs' =>
        rw [hx] at h; cases h
        obtain ⟨k1, k2⟩ := setL_spec hf xs c2 (off - x.width) xs' h3 hx
        refine ⟨?_, by rw [List.length_append]; omega⟩
        simp only [xK]
        refine ⟨c1, _, ?_, h2, k1⟩
        rw [List.take_append, List.take_of_length_le (l := c1) (by omega), List.drop_append, List.drop_of_length_le (l := c1) (by omega), hl,
          show off + vs.length - x.width = off - x.width + vs.length from by omega]
        simp
theorem tV {w : World} {G : Gh} {y : SV} {vs : List Value} (hy : RepS w G y vs) : ∀ (f : Nat) (X : SV) (cs : List Value) (off : Nat) (X' : SV), RepS w G X cs → setS f X off y = some X' →
    RepS w G X' (cs.take off ++ vs ++ cs.drop (off + vs.length)) ∧ off + vs.length ≤ cs.length
  | 0, _, _, _, _, _, h => by simp [setS] at h
  | f + 1, X, cs, off, X', r, h => by
    have hl := RepS.len X cs r
    have hv := RepS.len y vs hy
    simp only [setS] at h
    split at h
    · rename_i hc
      obtain ⟨rfl, h2, h3⟩ := hc
      cases h
      refine ⟨?_, by omega⟩
      rw [List.take_zero, List.nil_append, Nat.zero_add, List.drop_of_length_le (by omega), List.append_nil]; exact hy
    · split at h
      · rename_i fs _
        simp only [RepS] at r
        cases hx : setL (fun x o => setS f x o y) fs off with
        | none => rw [hx] at h; cases h
        | some fs' =>
          rw [hx] at h; cases h
          simp only [RepS]
          exact setL_spec (fun X cs off X' r h => tV hy f X cs off X' r h) fs cs off fs' r hx
      · rename_i ps _
        simp only [RepS, RepC] at r
        cases hx : setL (fun x o => setS f x o y) (ps.map .imm) off with
        | none => rw [hx] at h; cases h
        | some fs' =>
          rw [hx] at h; cases h
          simp only [RepS]
          exact setL_spec (fun X cs off X' r h => tV hy f X cs off X' r h) _ cs off fs' ((RepSs_imm ps cs).2 r) hx
      · cases h
def xd (P : Program) (T : TypeId) : Option Bool := (P.underlying T).map fun d => match d with | .struct _ => true | .array _ _ => true | _ => false
def yJ (P : Program) (T : TypeId) : Option Nat := (P.info? T).map (·.size)
theorem za {P : Program} {T : TypeId} {d : TypeDesc} (h : P.underlying T = some d) (w : World) : (underlying T).run P w = .ok d w := by
  simp [underlying, h]
theorem we {P : Program} {T : TypeId} {d : TypeInfo} (h : P.info? T = some d) (w : World) : (typeInfo T).run P w = .ok d w := by
  simp [typeInfo, h]
theorem run_isAgg {P : Program} {T : TypeId} {g : Bool} (h : xd P T = some g) (w : World) : (isAgg T).run P w = .ok g w := by
  unfold xd at h
  cases hu : P.underlying T with
  | none => rw [hu] at h; cases h
  | some d =>
    rw [hu] at h
    simp only [Option.map_some, Option.some.injEq] at h
    simp only [isAgg, Sem.run_bind, za hu, Result.andThen_ok]
    cases d <;> simp_all
theorem yI {P : Program} {T : TypeId} {n : Nat} (h : yJ P T = some n) (w : World) : (sizeOf T).run P w = .ok n w := by
  unfold yJ at h
  cases hu : P.info? T with
  | none => rw [hu] at h; cases h
  | some d =>
    rw [hu] at h
    simp only [Option.map_some, Option.some.injEq] at h
    simp [sizeOf, we hu, h]
theorem xX (b o n : Nat) : (⟨b, o, none⟩ : Addr).add n = ⟨b, o + n, none⟩ := by
  unfold Addr.add; split
  · rename_i h; subst h; rfl
  · rfl
theorem run_loadCellsFrom {P : Program} {w : World} {b o : Nat} : ∀ (cs : List Value) (i : Nat) (acc : Array Value), (∀ j (h : j < cs.length), w.cell? ⟨b, o + (i + j), none⟩ = some cs[j]) →
    (loadCellsFrom ⟨b, o, none⟩ i cs.length acc).run P w = .ok (acc ++ cs.toArray) w
  | [], i, acc, _ => by simp [loadCellsFrom]
  | c :: cs, i, acc, h => by
    have h0 := h 0 (by simp)
    simp only [List.length_cons, loadCellsFrom, Sem.run_bind, xX, run_load]
    simp only [Nat.add_zero, List.getElem_cons_zero] at h0
    rw [h0]
    simp only [Result.andThen_ok]
    rw [run_loadCellsFrom cs (i + 1) (acc.push c) (fun j hj => by
      have := h (j + 1) (by simpa using hj)
      simp only [List.getElem_cons_succ] at this
      rw [show o + (i + 1 + j) = o + (i + (j + 1)) from by omega]; exact this)]
    simp
theorem xv {P : Program} {w : World} {b o : Nat} (cs : List Value) (h : ∀ j (h : j < cs.length), w.cell? ⟨b, o + j, none⟩ = some cs[j]) :
    (loadCells ⟨b, o, none⟩ cs.length).run P w = .ok cs.toArray w := by
  unfold loadCells
  rw [run_loadCellsFrom cs 0 #[] (fun j hj => by simpa using h j hj)]
  simp
theorem vh {P : Program} {w : World} {T : TypeId} {b o : Nat} {g : Bool} {cs : List Value} (hg : xd P T = some g) (hn : yJ P T = some cs.length)
    (h1 : g = false → cs.length = 1) (h : ∀ j (h : j < cs.length), w.cell? ⟨b, o + j, none⟩ = some cs[j]) :
    (loadVar T ⟨b, o, none⟩).run P w = .ok (if g then .agg cs.toArray else cs.headD Go.undef) w := by
  simp only [loadVar, Sem.run_bind, run_isAgg hg, Result.andThen_ok]
  cases g
  · simp only [Bool.false_eq_true, if_false, run_load]
    match cs, h1 rfl with
    | [c], _ =>
      have := h 0 (by simp)
      simp only [Nat.add_zero, List.getElem_cons_zero] at this
      rw [this]; rfl
  · simp only [if_true, Sem.run_bind, yI hn, Result.andThen_ok, xv cs h]
    rfl
def yR (w : World) (b : Nat) (o : Obj) : World := { w with heap := w.heap.setIfInBounds b o }
def y3 (cs : Array Value) (off : Nat) : List Value → Array Value
  | [] => cs
  | v :: vs => y3 (cs.setIfInBounds off v) (off + 1) vs
theorem wQ : ∀ (vs : List Value) (cs : Array Value) (off : Nat), (y3 cs off vs).size = cs.size
  | [], _, _ => rfl
  | v :: vs, cs, off => by simp only [y3]; rw [wQ vs]; simp
theorem xQ : ∀ (vs : List Value) (cs : Array Value) (off : Nat), off + vs.length ≤ cs.size → (y3 cs off vs).toList = cs.toList.take off ++ vs ++ cs.toList.drop (off + vs.length)
  | [], cs, off, _ => by simp [y3]
  | v :: vs, cs, off, h => by
    simp only [y3]
    rw [xQ vs _ _ (by simp at h ⊢; omega)]
    simp only [Array.toList_setIfInBounds]
    simp only [List.length_cons] at h
    have hlt : off < cs.toList.length := by simp; omega
    rw [List.set_eq_take_append_cons_drop, if_pos hlt]
    have hl : (cs.toList.take off).length = off := by simp; omega
    rw [List.take_append, hl, List.take_of_length_le (l := cs.toList.take off) (by omega), show off + 1 - off = 1 from by omega,
      List.drop_append, hl, List.drop_of_length_le (l := cs.toList.take off) (by omega), show off + 1 + vs.length - off = vs.length + 1 from by omega]
    simp only [List.take_succ_cons, List.take_zero, List.nil_append, List.drop_succ_cons, List.drop_drop, List.append_assoc, List.singleton_append, List.length_cons]
    rw [show off + (vs.length + 1) = off + 1 + vs.length from by omega]
theorem u_ {w : World} {b o : Nat} {cs : Array Value} {T : TypeId} {fr : Nat × Nat} (h : w.heap[b]? = some (.cells cs T fr)) : w.cell? ⟨b, o, none⟩ = cs[o]? := by
  simp [World.cell?, h]
theorem setCell_blk {w : World} {b o : Nat} {cs : Array Value} {T : TypeId} {fr : Nat × Nat} (h : w.heap[b]? = some (.cells cs T fr)) (v : Value) :
    w.setCell ⟨b, o, none⟩ v = yR w b (.cells (cs.setIfInBounds o v) T fr) := by
  unfold World.setCell yR
  congr 1
  have hlt : b < w.heap.size := (Array.getElem?_eq_some_iff.1 h).1
  have hget : w.heap[b] = .cells cs T fr := (Array.getElem?_eq_some_iff.1 h).2
  apply Array.ext
  · simp
  · intro i h1 h2
    simp only [Array.getElem_modify]
    by_cases hb : b = i
    · subst hb; simp [hget]
    · simp only [hb, if_false]
      rw [Array.getElem_setIfInBounds_ne _ hb]
theorem wI {w : World} {b : Nat} {o : Obj} (h : b < w.heap.size) : (yR w b o).heap[b]? = some o := by simp [yR, h]
theorem xJ {w : World} {b k : Nat} {o : Obj} (h : k ≠ b) : (yR w b o).heap[k]? = w.heap[k]? := by simp [yR, Array.getElem?_setIfInBounds_ne (Ne.symm h)]
theorem setBlk_setBlk {w : World} {b : Nat} {o o' : Obj} : yR (yR w b o) b o' = yR w b o' := by simp [yR]
theorem yT {w : World} {b : Nat} {o : Obj} : (yR w b o).heap.size = w.heap.size := by simp [yR]
theorem plain_oneCell {v : Value} (h : plain v = true) : v.oneCell' = true := by cases v <;> simp_all [plain, Value.oneCell']
theorem ww {P : Program} {b o : Nat} {T : TypeId} {fr : Nat × Nat} : ∀ (vs : List Value) (i : Nat) (w : World) (cs : Array Value), w.heap[b]? = some (.cells cs T fr) →
    sC fr cs.size → o + i + vs.length ≤ cs.size → vs.all plain = true →
    (storeCells ⟨b, o, none⟩ vs i).run P w = .ok () (match vs with | [] => w | _ => yR w b (.cells (y3 cs (o + i) vs) T fr))
  | [], i, w, cs, _, _, _, _ => by simp [storeCells]
  | v :: vs, i, w, cs, hb, hf, hl, hp => by
    simp only [List.length_cons] at hl
    simp only [List.all_cons, Bool.and_eq_true] at hp
    have hlt : b < w.heap.size := (Array.getElem?_eq_some_iff.1 hb).1
    have hc : w.cell? ⟨b, o + i, none⟩ = some cs[o + i] := by rw [u_ hb]; simp
    have hfz : w.frozen? ⟨b, o + i, none⟩ = false := by
      simp only [World.frozen?, hb]
      exact hf (o + i) (by omega)
    simp only [storeCells, Sem.run_bind, xX, run_store P w _ v _ (plain_oneCell hp.1), hc, hfz, Bool.false_eq_true, if_false, Result.andThen_ok, setCell_blk hb]
    have hb' := wI (o := .cells (cs.setIfInBounds (o + i) v) T fr) hlt
    rw [ww vs (i + 1) _ _ hb' (by simpa using hf) (by simp; omega) hp.2]
    cases vs with
    | nil => rfl
    | cons v' vs' => simp only [setBlk_setBlk]; simp only [y3, show o + (i + 1) = o + i + 1 from by omega]
end Go.Al
namespace Go.Al
open Go.RowKit
def opS (A : Nat → SV) : Operand → SV
  | .tmp t => A t
  | .const v => bif v.cells.toList.all plain then .imm (.v v) else .dead
  | .func f => .imm (.fn (.func f) [] [])
  | .global _ => .dead
def opR : Operand → List Nat
  | .tmp t => [t]
  | _ => []
def opV (A : Nat → SV) (x : Operand) : Option AV :=
  match opS A x with
  | .imm y => some y
  | .slg _ n l => some (.sl n l)
  | _ => none
theorem yd {A A' : Nat → SV} {x : Operand} (h : ∀ k ∈ opR x, A' k = A k) : opS A' x = opS A x := by
  cases x <;> simp only [opS]
  exact h _ (by simp [opR])
theorem yU {A A' : Nat → SV} {x : Operand} (h : ∀ k ∈ opR x, A' k = A k) : opV A' x = opV A x := by unfold opV; rw [yd h]
theorem rep_v (w : World) (I : Nat → Nat → Prop) {v : Value} (h : v.cells.toList.all plain = true) : Rep w I (.v v) v := by
  refine ⟨v.cells.toList, by simp only [RepC]; exact ⟨trivial, h⟩, ?_⟩
  cases v <;> simp [mkV, AV.isAgg, Value.cells]
theorem xm (w : World) (I : Nat → Nat → Prop) {v : Value} (h : plain v = true) : Rep w I (.v v) v := by
  refine rep_v w I ?_
  cases v <;> simp_all [Value.cells, plain]
theorem SimG.opS {C : Cx} {A : Nat → SV} {G : Gh} {a : Act} {w : World} (S : SimG C A G a w) {x : Operand} {y : SV} (h : Al.opS A x = y) (hx : y.res = false) : xZ w G y (a.eval x) := by
  cases x with
  | tmp t => exact S.slot h hx
  | const v =>
    simp only [Al.opS] at h
    cases hp : v.cells.toList.all plain
    · rw [hp] at h; simp only [cond_false] at h; subst h; simp only [xZ]
    · rw [hp] at h; simp only [cond_true] at h; subst h
      obtain ⟨c, h1, h2⟩ := rep_v w G.I hp
      exact ⟨c, by simpa only [RepS] using h1, h2⟩
  | func f =>
    simp only [Al.opS] at h; subst h
    refine ⟨[.func (.func f) #[] #[]], by simp only [RepS, RepC]; exact ⟨[], [], rfl, by simp only [yc], by simp only [yc]⟩, rfl⟩
  | global g => simp only [Al.opS] at h; subst h; simp only [xZ]
theorem yg {w : World} {G : Gh} {x : AV} {v : Value} : ValS w G (.imm x) v ↔ Rep w G.I x v := by
  simp only [ValS, RepS, mkS, SV.isAgg]; rfl
theorem SimG.opV {C : Cx} {A : Nat → SV} {G : Gh} {a : Act} {w : World} (S : SimG C A G a w) {x : Operand} {y : AV} (h : Al.opV A x = some y) : Rep w G.I y (a.eval x) := by
  unfold Al.opV at h
  split at h
  · rename_i z hz
    cases h
    have := S.opS hz rfl
    exact yg.1 this
  · rename_i g n l hz
    cases h
    obtain ⟨c, h1, h2⟩ := S.opS hz rfl
    simp only [RepS] at h1
    obtain ⟨v, rfl, h3, _⟩ := h1
    exact ⟨_, h3, h2⟩
  · cases h
theorem zv.op1 {C : Cx} {o : Oper} {d : Nat} {A : Nat → SV} {x : Operand} {ax r : AV} (hd : o.dst = some d) (hN : Nat.blt d C.N = true) (hx : opV A x = some ax)
    (h : ∀ w I (ρ : Operand → Value), Rep w I ax (ρ x) → ∃ v, (execOp ρ o).run C.P w = .ok (.value v) w ∧ Rep w I r v) : zv C o (opR x) [] A [(d, .imm r)] := by
  refine zv.value hd hN fun A' G a w hR S => ?_
  rw [← yU hR] at hx
  obtain ⟨v, h1, h2⟩ := h w G.I a.eval (S.opV hx)
  exact ⟨v, h1, yg.2 h2⟩
theorem zv.op2 {C : Cx} {o : Oper} {d : Nat} {A : Nat → SV} {x y : Operand} {ax ay r : AV} (hd : o.dst = some d) (hN : Nat.blt d C.N = true) (hx : opV A x = some ax) (hy : opV A y = some ay)
    (h : ∀ w I (ρ : Operand → Value), Rep w I ax (ρ x) → Rep w I ay (ρ y) → ∃ v, (execOp ρ o).run C.P w = .ok (.value v) w ∧ Rep w I r v) : zv C o (opR x ++ opR y) [] A [(d, .imm r)] := by
  refine zv.value hd hN fun A' G a w hR S => ?_
  rw [← yU (fun k hk => hR k (List.mem_append_left _ hk))] at hx
  rw [← yU (fun k hk => hR k (List.mem_append_right _ hk))] at hy
  obtain ⟨v, h1, h2⟩ := h w G.I a.eval (S.opV hx) (S.opV hy)
  exact ⟨v, h1, yg.2 h2⟩
theorem g_u {C : Cx} {ops : Array Oper} {d : Option Tmp} {op : Op} {ty : TypeId} {pos : String} {af : Array Edge} {os : List Oper} {st : St} {tr : List Tr} {K : St → List Tr → Prop} {R : List Nat} {post : St}
    (h : zv C ⟨d, op, ty, pos, af, none⟩ R [] (look st) post) (k : Go1 C ops os (post ++ st) (⟨R, [], post⟩ :: tr) K) : Go1 C ops (⟨d, op, ty, pos, af, none⟩ :: os) st tr K := by
  refine ⟨⟨R, [], post⟩, fun A' a w hR hF S => ?_, tF st, k⟩
  simp only [Region.wanted, if_true]
  exact h A' a w hR hF S
theorem g_uG {C : Cx} {ops : Array Oper} {d : Option Tmp} {op : Op} {ty : TypeId} {pos : String} {af : Array Edge} {os : List Oper} {st : St} {tr : List Tr} {K : St → List Tr → Prop} {R Gs : List Nat} {post : St}
    (h : zv C ⟨d, op, ty, pos, af, none⟩ R Gs (look st) post) (hf : uE Gs st = true) (k : Go1 C ops os (post ++ st) (⟨R, Gs, post⟩ :: tr) K) : Go1 C ops (⟨d, op, ty, pos, af, none⟩ :: os) st tr K := by
  refine ⟨⟨R, Gs, post⟩, fun A' a w hR hF S => ?_, hf, k⟩
  simp only [Region.wanted, if_true]
  exact h A' a w hR hF S
def gdst (ops : Array Oper) (j : Nat) : Option Nat := (ops[j]?).bind (·.dst)
theorem yielded_bool {C : Cx} {ops : Array Oper} {A : Nat → SV} {G : Gh} {a : Act} {w : World} (S : SimG C A G a w) {j t : Nat} {b : Bool} (hj : gdst ops j = some t) (h : A t = .imm (.v (.bool b))) : yielded ops a.tmps j = some b := by
  have h1 := sF (S.imm h)
  have hsz : t < a.tmps.size := by
    have := S.holds t; rw [h] at this; exact this.1
  unfold gdst at hj
  simp only [yielded, hj, Option.bind_some]
  have : a.tmps[t]? = some (.bool b) := by
    rw [← h1]; simp [Array.getD, hsz]
  rw [this]
theorem yielded_undef {C : Cx} {ops : Array Oper} {A : Nat → SV} {G : Gh} {a : Act} {w : World} (S : SimG C A G a w) {j t : Nat} (hj : gdst ops j = some t) (h : A t = .undef) : yielded ops a.tmps j = none := by
  have h1 := S.slot h rfl
  have hsz : t < a.tmps.size := by
    have := S.holds t; rw [h] at this; exact this.1
  unfold gdst at hj
  simp only [yielded, hj, Option.bind_some]
  have : a.tmps[t]? = some Go.undef := by
    simp only [xZ] at h1
    rw [← h1]; simp [Array.getD, hsz]
  rw [this]; rfl
theorem zY {C : Cx} {ops : Array Oper} {d : Option Tmp} {op : Op} {ty : TypeId} {pos : String} {af : Array Edge} {j : Nat} {b : Bool} {t : Nat} {os : List Oper} {st : St} {tr : List Tr} {K : St → List Tr → Prop} {R : List Nat} {post : St}
    (hj : gdst ops j = some t) (hb : look st t = .imm (.v (.bool b)))
    (h : zv C ⟨d, op, ty, pos, af, some (j, b)⟩ R [] (look st) post) (k : Go1 C ops os (post ++ st) (⟨t :: R, [], post⟩ :: tr) K) : Go1 C ops (⟨d, op, ty, pos, af, some (j, b)⟩ :: os) st tr K := by
  refine ⟨⟨t :: R, [], post⟩, fun A' a w hR hF S => ?_, tF st, k⟩
  have h1 := hR t List.mem_cons_self
  obtain ⟨G, S'⟩ := S
  have hy := yielded_bool (ops := ops) S' hj (h1.trans hb)
  simp only [Region.wanted, hy, beq_self_eq_true, if_true]
  exact h A' a w (fun k hk => hR k (List.mem_cons_of_mem _ hk)) hF ⟨G, S'⟩
def uh : Option Tmp → St
  | some d => [(d, .undef)]
  | none => []
theorem skip_core {C : Cx} {ops : Array Oper} {o : Oper} {A : Nat → SV} {t : Nat} {v : SV} (ht : A t = v) (hN : (o.dst.map fun d => Nat.blt d C.N).getD true = true)
    (hw : ∀ A' G a w, SimG C A' G a w → A' t = v → Region.wanted o (yielded ops a.tmps) = false) : Step C ops o A ⟨[t], [], uh o.dst⟩ := by
  intro A' a w hR hF ⟨G, S⟩
  have h1 := hR t (by simp)
  rw [hw A' G a w S (h1.trans ht)]
  simp only [Bool.false_eq_true, if_false]
  cases hd : o.dst with
  | none => exact ⟨G, S⟩
  | some d =>
    rw [hd] at hN
    exact ⟨G, S.put (by simpa [Nat.blt_eq] using hN) (by simp only [xZ])⟩
theorem zI {C : Cx} {ops : Array Oper} {d : Option Tmp} {op : Op} {ty : TypeId} {pos : String} {af : Array Edge} {j : Nat} {b : Bool} {t : Nat} {os : List Oper} {st : St} {tr : List Tr} {K : St → List Tr → Prop}
    (hj : gdst ops j = some t) (hb : look st t = .imm (.v (.bool (!b)))) (hN : (d.map fun d => Nat.blt d C.N).getD true = true)
    (k : Go1 C ops os (uh d ++ st) (⟨[t], [], uh d⟩ :: tr) K) : Go1 C ops (⟨d, op, ty, pos, af, some (j, b)⟩ :: os) st tr K := by
  refine ⟨⟨[t], [], uh d⟩, skip_core hb hN ?_, tF st, k⟩
  intro A' G a w S h
  have hy := yielded_bool (ops := ops) S hj h
  simp only [Region.wanted, hy]
  cases b <;> rfl
theorem rq {C : Cx} {ops : Array Oper} {d : Option Tmp} {op : Op} {ty : TypeId} {pos : String} {af : Array Edge} {j : Nat} {b : Bool} {t : Nat} {os : List Oper} {st : St} {tr : List Tr} {K : St → List Tr → Prop}
    (hj : gdst ops j = some t) (hb : look st t = .undef) (hN : (d.map fun d => Nat.blt d C.N).getD true = true)
    (k : Go1 C ops os (uh d ++ st) (⟨[t], [], uh d⟩ :: tr) K) : Go1 C ops (⟨d, op, ty, pos, af, some (j, b)⟩ :: os) st tr K := by
  refine ⟨⟨[t], [], uh d⟩, skip_core hb hN ?_, tF st, k⟩
  intro A' G a w S h
  have hy := yielded_undef (ops := ops) S hj h
  simp only [Region.wanted, hy]
  cases b <;> rfl
theorem zH {C : Cx} {ops : Array Oper} {st : St} {tr : List Tr} {K : St → List Tr → Prop} (h : K st tr) : Go1 C ops [] st tr K := h
section
variable {C : Cx} {A : Nat → SV} {d : Nat} {ty : TypeId} {pos : String} {af : Array Edge} {gd : Option (Nat × Bool)} {x y : Operand} {T T' : TypeId}
theorem rQ {op : Op} (hop : op = .move x ∨ op = .assign x) {s : SV} (hN : Nat.blt d C.N = true) (h : opS A x = s) (hs : s.res = false) :
    zv C ⟨some d, op, ty, pos, af, gd⟩ (opR x) [] A [(d, s)] := by
  refine zv.value rfl hN fun A' G a w hR S => ?_
  refine ⟨a.eval x, ?_, ?_⟩
  · rcases hop with rfl | rfl <;> rfl
  · refine S.opS ((yd hR).trans h) hs
theorem zC {v : AV} (hN : Nat.blt d C.N = true) (h : opS A x = .imm v) : zv C ⟨some d, .move x, ty, pos, af, gd⟩ (opR x) [] A [(d, .imm v)] := rQ (.inl rfl) hN h rfl
theorem vq {g o : Nat} (hN : Nat.blt d C.N = true) (h : opS A x = .ptr g o) : zv C ⟨some d, .move x, ty, pos, af, gd⟩ (opR x) [] A [(d, .ptr g o)] := rQ (.inl rfl) hN h rfl
theorem yW {g n : Nat} {l : List AV} (hN : Nat.blt d C.N = true) (h : opS A x = .slg g n l) : zv C ⟨some d, .move x, ty, pos, af, gd⟩ (opR x) [] A [(d, .slg g n l)] := rQ (.inl rfl) hN h rfl
theorem xt {fs : List SV} (hN : Nat.blt d C.N = true) (h : opS A x = .tup fs) : zv C ⟨some d, .move x, ty, pos, af, gd⟩ (opR x) [] A [(d, .tup fs)] := rQ (.inl rfl) hN h rfl
theorem zE {v : AV} (hN : Nat.blt d C.N = true) (h : opS A x = .imm v) : zv C ⟨some d, .assign x, ty, pos, af, gd⟩ (opR x) [] A [(d, .imm v)] := rQ (.inr rfl) hN h rfl
theorem s_as_ptr {g o : Nat} (hN : Nat.blt d C.N = true) (h : opS A x = .ptr g o) : zv C ⟨some d, .assign x, ty, pos, af, gd⟩ (opR x) [] A [(d, .ptr g o)] := rQ (.inr rfl) hN h rfl
theorem yY {g n : Nat} {l : List AV} (hN : Nat.blt d C.N = true) (h : opS A x = .slg g n l) : zv C ⟨some d, .assign x, ty, pos, af, gd⟩ (opR x) [] A [(d, .slg g n l)] := rQ (.inr rfl) hN h rfl
theorem s_pick {c : Operand} {b : Bool} {v : AV} (hN : Nat.blt d C.N = true) (hc : opV A c = some (.v (.bool b))) (h : opV A (bif b then x else y) = some v) :
    zv C ⟨some d, .pick c x y, ty, pos, af, gd⟩ (opR c ++ opR (bif b then x else y)) [] A [(d, .imm v)] := by
  refine zv.op2 (x := c) (y := bif b then x else y) rfl hN hc h fun w I ρ h1 h2 => ?_
  have e := sF h1
  refine ⟨ρ (bif b then x else y), ?_, h2⟩
  simp only [execOp, Sem.run_bind, e, asBool]
  cases b <;> simp
theorem zZ {c : Operand} {v : AV} (hN : Nat.blt d C.N = true) (hc : opV A c = some (.v (.bool true))) (h : opV A x = some v) :
    zv C ⟨some d, .pick c x y, ty, pos, af, gd⟩ (opR c ++ opR x) [] A [(d, .imm v)] := s_pick (b := true) hN hc h
theorem zh {c : Operand} {v : AV} (hN : Nat.blt d C.N = true) (hc : opV A c = some (.v (.bool false))) (h : opV A y = some v) :
    zv C ⟨some d, .pick c x y, ty, pos, af, gd⟩ (opR c ++ opR y) [] A [(d, .imm v)] := s_pick (b := false) hN hc h
theorem yV {w : World} {I : Nat → Nat → Prop} {k : IntKind} {n : Int} {v : Value} (h : Rep w I (.v (.int k n)) v) : v = .int k n := u9 h rfl
theorem z0 {k : IntKind} {a b : Int} (hN : Nat.blt d C.N = true) (hx : opV A x = some (.v (.int k a))) (hy : opV A y = some (.v (.int k b))) :
    zv C ⟨some d, .binOp .add T x y T', ty, pos, af, gd⟩ (opR x ++ opR y) [] A [(d, .imm (.v (.int k (k.wrap (a + b)))))] :=
  zv.op2 rfl hN hx hy fun w I ρ h1 h2 => ⟨_, by simp [execOp, eqGuard, binOp, Op.intArith, yV h1, yV h2], xm w I rfl⟩
theorem vW {k : IntKind} {a b : Int} (hN : Nat.blt d C.N = true) (hx : opV A x = some (.v (.int k a))) (hy : opV A y = some (.v (.int k b))) :
    zv C ⟨some d, .binOp .sub T x y T', ty, pos, af, gd⟩ (opR x ++ opR y) [] A [(d, .imm (.v (.int k (k.wrap (a - b)))))] :=
  zv.op2 rfl hN hx hy fun w I ρ h1 h2 => ⟨_, by simp [execOp, eqGuard, binOp, Op.intArith, yV h1, yV h2], xm w I rfl⟩
theorem s_mul {k : IntKind} {a b : Int} (hN : Nat.blt d C.N = true) (hx : opV A x = some (.v (.int k a))) (hy : opV A y = some (.v (.int k b))) :
    zv C ⟨some d, .binOp .mul T x y T', ty, pos, af, gd⟩ (opR x ++ opR y) [] A [(d, .imm (.v (.int k (k.wrap (a * b)))))] :=
  zv.op2 rfl hN hx hy fun w I ρ h1 h2 => ⟨_, by simp [execOp, eqGuard, binOp, Op.intArith, yV h1, yV h2], xm w I rfl⟩
theorem rN {k : IntKind} {a b : Int} (hN : Nat.blt d C.N = true) (hx : opV A x = some (.v (.int k a))) (hy : opV A y = some (.v (.int k b))) (hb : b ≠ 0) :
    zv C ⟨some d, .binOp .quo T x y T', ty, pos, af, gd⟩ (opR x ++ opR y) [] A [(d, .imm (.v (.int k (k.wrap (a.tdiv b)))))] :=
  zv.op2 rfl hN hx hy fun w I ρ h1 h2 => ⟨_, by simp [execOp, eqGuard, binOp, Op.intDiv, yV h1, yV h2, hb], xm w I rfl⟩
theorem r8 {k : IntKind} {a b : Int} (hN : Nat.blt d C.N = true) (hx : opV A x = some (.v (.int k a))) (hy : opV A y = some (.v (.int k b))) (hb : b ≠ 0) :
    zv C ⟨some d, .binOp .rem T x y T', ty, pos, af, gd⟩ (opR x ++ opR y) [] A [(d, .imm (.v (.int k (a.tmod b))))] :=
  zv.op2 rfl hN hx hy fun w I ρ h1 h2 => ⟨_, by simp [execOp, eqGuard, binOp, Op.intDiv, yV h1, yV h2, hb], xm w I rfl⟩
def vd (f : {n : Nat} → BitVec n → BitVec n → BitVec n) (k : IntKind) (a b : Int) : Int := k.wrap ((f (BitVec.ofInt k.bits a) (BitVec.ofInt k.bits b)).toNat)
theorem s_and {k : IntKind} {a b : Int} (hN : Nat.blt d C.N = true) (hx : opV A x = some (.v (.int k a))) (hy : opV A y = some (.v (.int k b))) :
    zv C ⟨some d, .binOp .and T x y T', ty, pos, af, gd⟩ (opR x ++ opR y) [] A [(d, .imm (.v (.int k (vd (· &&& ·) k a b))))] :=
  zv.op2 rfl hN hx hy fun w I ρ h1 h2 => ⟨_, by simp [execOp, eqGuard, binOp, Op.intBits, yV h1, yV h2, vd], xm w I rfl⟩
theorem s_shr {k yk : IntKind} {a b : Int} (hN : Nat.blt d C.N = true) (hx : opV A x = some (.v (.int k a))) (hy : opV A y = some (.v (.int yk b))) (hb : 0 ≤ b) :
    zv C ⟨some d, .binOp .shr T x y T', ty, pos, af, gd⟩ (opR x ++ opR y) [] A [(d, .imm (.v (.int k (a.fdiv (2 ^ (min b.toNat k.bits))))))] :=
  zv.op2 rfl hN hx hy fun w I ρ h1 h2 => ⟨_, by simp [execOp, eqGuard, binOp, Op.shift, yV h1, yV h2, Int.not_lt.2 hb], xm w I rfl⟩
theorem yz {k : IntKind} {a b : Int} (hN : Nat.blt d C.N = true) (hx : opV A x = some (.v (.int k a))) (hy : opV A y = some (.v (.int k b))) :
    zv C ⟨some d, .binOp .eql T x y T', ty, pos, af, gd⟩ (opR x ++ opR y) [] A [(d, .imm (.v (.bool (a == b))))] :=
  zv.op2 rfl hN hx hy fun w I ρ h1 h2 => ⟨_, by simp [execOp, eqGuard, binOp, Op.intCmp, yV h1, yV h2], xm w I rfl⟩
theorem xl {k : IntKind} {a b : Int} (hN : Nat.blt d C.N = true) (hx : opV A x = some (.v (.int k a))) (hy : opV A y = some (.v (.int k b))) :
    zv C ⟨some d, .binOp .neq T x y T', ty, pos, af, gd⟩ (opR x ++ opR y) [] A [(d, .imm (.v (.bool (a != b))))] :=
  zv.op2 rfl hN hx hy fun w I ρ h1 h2 => ⟨_, by simp [execOp, eqGuard, binOp, Op.intCmp, yV h1, yV h2], xm w I rfl⟩
theorem ye {k : IntKind} {a b : Int} (hN : Nat.blt d C.N = true) (hx : opV A x = some (.v (.int k a))) (hy : opV A y = some (.v (.int k b))) :
    zv C ⟨some d, .binOp .lss T x y T', ty, pos, af, gd⟩ (opR x ++ opR y) [] A [(d, .imm (.v (.bool (decide (a < b)))))] :=
  zv.op2 rfl hN hx hy fun w I ρ h1 h2 => ⟨_, by simp [execOp, eqGuard, binOp, Op.intCmp, yV h1, yV h2], xm w I rfl⟩
theorem s_leI {k : IntKind} {a b : Int} (hN : Nat.blt d C.N = true) (hx : opV A x = some (.v (.int k a))) (hy : opV A y = some (.v (.int k b))) :
    zv C ⟨some d, .binOp .leq T x y T', ty, pos, af, gd⟩ (opR x ++ opR y) [] A [(d, .imm (.v (.bool (decide (a ≤ b)))))] :=
  zv.op2 rfl hN hx hy fun w I ρ h1 h2 => ⟨_, by simp [execOp, eqGuard, binOp, Op.intCmp, yV h1, yV h2], xm w I rfl⟩
theorem wD {k : IntKind} {a b : Int} (hN : Nat.blt d C.N = true) (hx : opV A x = some (.v (.int k a))) (hy : opV A y = some (.v (.int k b))) :
    zv C ⟨some d, .binOp .gtr T x y T', ty, pos, af, gd⟩ (opR x ++ opR y) [] A [(d, .imm (.v (.bool (decide (a > b)))))] :=
  zv.op2 rfl hN hx hy fun w I ρ h1 h2 => ⟨_, by simp [execOp, eqGuard, binOp, Op.intCmp, yV h1, yV h2], xm w I rfl⟩
theorem tD {k : IntKind} {a b : Int} (hN : Nat.blt d C.N = true) (hx : opV A x = some (.v (.int k a))) (hy : opV A y = some (.v (.int k b))) :
    zv C ⟨some d, .binOp .geq T x y T', ty, pos, af, gd⟩ (opR x ++ opR y) [] A [(d, .imm (.v (.bool (decide (a ≥ b)))))] :=
  zv.op2 rfl hN hx hy fun w I ρ h1 h2 => ⟨_, by simp [execOp, eqGuard, binOp, Op.intCmp, yV h1, yV h2], xm w I rfl⟩
theorem uA {b : Bool} (hN : Nat.blt d C.N = true) (hx : opV A x = some (.v (.bool b))) :
    zv C ⟨some d, .unOp .not T x, ty, pos, af, gd⟩ (opR x) [] A [(d, .imm (.v (.bool !b)))] :=
  zv.op1 rfl hN hx fun w I ρ h1 => ⟨_, by simp [execOp, Op.unary, sF h1], xm w I rfl⟩
theorem s_neg {k : IntKind} {a : Int} (hN : Nat.blt d C.N = true) (hx : opV A x = some (.v (.int k a))) :
    zv C ⟨some d, .unOp .neg T x, ty, pos, af, gd⟩ (opR x) [] A [(d, .imm (.v (.int k (k.wrap (0 - a)))))] :=
  zv.op1 rfl hN hx fun w I ρ h1 => ⟨_, by simp [execOp, Op.unary, Op.intArith, yV h1], xm w I rfl⟩
theorem xL {k k' : IntKind} {a : Int} (hN : Nat.blt d C.N = true) (hx : opV A x = some (.v (.int k a))) {t0 : TypeDesc} (hT : C.P.underlying T = some t0) (hU : C.P.underlying T' = some (.int k')) :
    zv C ⟨some d, .convert T T' x, ty, pos, af, gd⟩ (opR x) [] A [(d, .imm (.v (.int k' (k'.wrap a))))] :=
  zv.op1 rfl hN hx fun w I ρ h1 => ⟨_, by
    simp [execOp, convert, za hT, za hU, Conv.intToInt, yV h1], xm w I rfl⟩
theorem run_eqB {P : Program} {T : TypeId} {a b : Bool} {w : World} (hT : P.underlying T = some .bool) (n : Nat) : (Op.equalIn (n + 1) T (.bool a) (.bool b)).run P w = .ok (a == b) w := by
  simp [Op.equalIn, za hT]
theorem xk {w : World} {I : Nat → Nat → Prop} {s : ByteArray} {v : Value} (h : Rep w I (.v (.string s)) v) : v = .string s := u9 h rfl
theorem jZ {s t : ByteArray} (hN : Nat.blt d C.N = true) (hx : opV A x = some (.v (.string s))) (hy : opV A y = some (.v (.string t))) :
    zv C ⟨some d, .binOp .eql T x y T', ty, pos, af, gd⟩ (opR x ++ opR y) [] A [(d, .imm (.v (.bool (s.toList == t.toList))))] :=
  zv.op2 rfl hN hx hy fun w I ρ h1 h2 => ⟨_, by simp [execOp, eqGuard, binOp, Op.stringOp, xk h1, xk h2], xm w I rfl⟩
theorem s_neS {s t : ByteArray} (hN : Nat.blt d C.N = true) (hx : opV A x = some (.v (.string s))) (hy : opV A y = some (.v (.string t))) :
    zv C ⟨some d, .binOp .neq T x y T', ty, pos, af, gd⟩ (opR x ++ opR y) [] A [(d, .imm (.v (.bool (!(s.toList == t.toList)))))] :=
  zv.op2 rfl hN hx hy fun w I ρ h1 h2 => ⟨_, by simp [execOp, eqGuard, binOp, Op.stringOp, xk h1, xk h2], xm w I rfl⟩
theorem y5 {s t : ByteArray} (hN : Nat.blt d C.N = true) (hx : opV A x = some (.v (.string s))) (hy : opV A y = some (.v (.string t))) (hl : ((s.size + t.size : Nat) : Int) ≤ IntKind.i64.max) :
    zv C ⟨some d, .binOp .add T x y T', ty, pos, af, gd⟩ (opR x ++ opR y) [] A [(d, .imm (.v (.string (s ++ t))))] :=
  zv.op2 rfl hN hx hy fun w I ρ h1 h2 => ⟨_, by
    have : ¬ ((s.size + t.size : Nat) : Int) > IntKind.i64.max := Int.not_lt.2 hl
    simp only [execOp, eqGuard, Sem.run_bind, xk h1, xk h2, binOp, Op.stringOp, this, if_false]
    simp, xm w I rfl⟩
theorem s_ixS {s : ByteArray} {i : Int} {k : IntKind} (hN : Nat.blt d C.N = true) (hx : opV A x = some (.v (.string s))) (hy : opV A y = some (.v (.int k i))) (hT : C.P.underlying T = some .string) (h0 : 0 ≤ i) (hl : i < s.size) :
    zv C ⟨some d, .index T x y, ty, pos, af, gd⟩ (opR x ++ opR y) [] A [(d, .imm (.v (.int .u8 (s.data.toList.getD i.toNat 0).toNat)))] :=
  zv.op2 rfl hN hx hy fun w I ρ h1 h2 => ⟨_, by
    have hlt : i.toNat < s.size := by omega
    have e : s[i.toNat]? = some (s.data.toList.getD i.toNat 0) := by
      rw [getElem?_pos s i.toNat hlt]
      have : i.toNat < s.data.toList.length := by simpa using hlt
      rw [List.getD, List.getElem?_eq_getElem this]
      rfl
    simp only [execOp, Instr.index, Sem.run_bind, xk h1, yV h2, asIntOf, Sem.run_pure, Result.andThen_ok, za hT, h0, if_true, e], xm w I rfl⟩
theorem yp {s : ByteArray} (hN : Nat.blt d C.N = true) (hx : opV A x = some (.v (.string s))) (hT : C.P.underlying T = some .string) :
    zv C ⟨some d, .call { callee := .builtin .len, args := #[x], argTypes := #[T] }, ty, pos, af, gd⟩ (opR x) [] A [(d, .imm (.v (.int .i64 s.size)))] :=
  zv.op1 rfl hN hx fun w I ρ h1 => ⟨_, by
    simp [execOp, resolve, invoke, builtin, Builtin.len_, xk h1, za hT, goInt], xm w I rfl⟩
theorem valSs_get {w : World} {G : Gh} : ∀ {fs : List SV} {vs : List Value} {i : Nat} {s : SV}, wF w G fs vs → fs[i]? = some s → ∃ v, vs[i]? = some v ∧ ValS w G s v
  | [], _, _, _, _, h => by simp at h
  | x :: fs, vs, i, s, ⟨v, r, h1, h2, h3⟩, h => by
    subst h1
    cases i with
    | zero => simp at h; subst h; exact ⟨v, rfl, h2⟩
    | succ i => simpa using valSs_get h3 (by simpa using h)
theorem zp {fs : List SV} {i : Nat} {s : SV} (hN : Nat.blt d C.N = true) (hx : opS A x = .tup fs) (hi : fs[i]? = some s) (hs : SV.slotty s = true) :
    zv C ⟨some d, .extract x i, ty, pos, af, gd⟩ (opR x) [] A [(d, s)] := by
  refine zv.value rfl hN fun A' G a w hR S => ?_
  obtain ⟨vs, h1, h2⟩ := S.opS ((yd hR).trans hx) rfl
  obtain ⟨v, h3, h4⟩ := valSs_get h2 hi
  refine ⟨v, ?_, ?_⟩
  · simp [execOp, Instr.extract, h1, h3]
  · exact rA hs h4
end
end Go.Al
namespace Go.Al
open Go.RowKit
theorem Holds.keep {w0 : World} {E : Nat → Prop} {G G' : Gh} {a a' : Act} {w w' : World} {k : Nat} {x : SV} {Gs : List Nat} (h : Holds w0 E G a w k x)
    (hle : Le w G.I w' G'.I) (hg : GRel Gs G G') (hn : noG Gs x = true) (hsz : w.heap.size ≤ w'.heap.size)
    (ha : k < a.tmps.size → k < a'.tmps.size ∧ a'.tmps.getD k Go.undef = a.tmps.getD k Go.undef)
    (hk : (∃ b, zm G k b x) ∨ (∃ n l, x = .tok n l) ∨ (∃ l, x = .row l) ∨ (∃ F, x = .gen F) → G'.blk k = G.blk k ∧ G'.cur k = G.cur k ∧ G'.len k = G.len k)
    (ho : ∀ b, zm G k b x → w'.heap[b]? = w.heap[b]? ∧ ∀ o, G'.I b o → G.I b o) : Holds w0 E G' a' w' k x := by
  cases x <;> simp only [Holds] at h ⊢
  case box T x =>
    obtain ⟨h1, ⟨cs, fr, h2, h3, h4⟩, h5⟩ := h
    obtain ⟨e1, _, _⟩ := hk (.inl ⟨G.blk k, by simp [zm]⟩)
    obtain ⟨e2, e3⟩ := ho (G.blk k) (by simp [zm])
    rw [e1]
    exact ⟨⟨h1.1, Nat.lt_of_lt_of_le h1.2 hsz⟩, ⟨cs, fr, by rw [e2]; exact h2, RepS.mono hle hg _ _ (by simpa only [noG] using hn) h3, h4⟩, fun o hi => h5 o (e3 o hi)⟩
  case tok n l =>
    obtain ⟨e1, e2, e3⟩ := hk (.inr (.inl ⟨n, l, rfl⟩))
    rw [e2, e3]
    refine ⟨h.1, ?_⟩
    rcases h.2 with h' | ⟨b, cap, h1, h2, h3, h4, h5, ⟨cs, T, fr, h6, h7, h8⟩, h9⟩
    · exact .inl h'
    · obtain ⟨e4, e5⟩ := ho b ⟨⟨b, 0, none⟩, _, _, h1, rfl⟩
      exact .inr ⟨b, cap, h1, h2, h3, RepM.mono hle n l b 0 h4, ⟨h5.1, Nat.lt_of_lt_of_le h5.2 hsz⟩, ⟨cs, T, fr, by rw [e4]; exact h6, h7, h8⟩, fun o ho' hi => h9 o ho' (e5 o hi)⟩
  case row l =>
    obtain ⟨e1, e2, e3⟩ := hk (.inr (.inr (.inl ⟨l, rfl⟩)))
    rw [e2, e3]
    refine ⟨h.1, ?_⟩
    rcases h.2 with h' | ⟨b, cap, h1, h2, h3, h4, ⟨cs, T, h5, h6, h7⟩, h8⟩
    · exact .inl h'
    · obtain ⟨e4, e5⟩ := ho b ⟨⟨b, 0, none⟩, _, _, h1, rfl⟩
      exact .inr ⟨b, cap, h1, h2, h3, ⟨h4.1, Nat.lt_of_lt_of_le h4.2 hsz⟩, ⟨cs, T, by rw [e4]; exact h5, h6, h7⟩, fun o hi => h8 o (e5 o hi)⟩
  case mpr ks vs =>
    obtain ⟨h1, ⟨es, h2, h3, h4, h5⟩, h6⟩ := h
    obtain ⟨e1, _, _⟩ := hk (.inl ⟨G.blk k, by simp [zm]⟩)
    obtain ⟨e2, e3⟩ := ho (G.blk k) (by simp [zm])
    rw [e1]
    exact ⟨⟨h1.1, Nat.lt_of_lt_of_le h1.2 hsz⟩, ⟨es, by rw [e2]; exact h2, h3, yc.mono hle _ _ h4, yc.mono hle _ _ h5⟩, fun o hi => h6 o (e3 o hi)⟩
  case gen R =>
    obtain ⟨e1, e2, e3⟩ := hk (.inr (.inr (.inr ⟨R, rfl⟩)))
    rw [e1, e2, e3]
    exact ⟨fun b hb => ⟨(h.1 b hb).1, Nat.lt_of_lt_of_le (h.1 b hb).2 hsz⟩, (R _ _ _).keep _ _ _ _ h.2 hle fun b hb => ho b (by simpa only [zm] using hb)⟩
  case itr m n seen =>
    obtain ⟨h1, h2, h3⟩ := h
    obtain ⟨e1, _, _⟩ := hk (.inl ⟨G.blk k, by simp [zm]⟩)
    obtain ⟨e2, e3⟩ := ho (G.blk k) (by simp [zm])
    have e4 := (hg m (by simpa [noG] using hn)).1
    rw [e1, e4]
    exact ⟨⟨h1.1, Nat.lt_of_lt_of_le h1.2 hsz⟩, by rw [e2]; exact h2, fun o hi => h3 o (e3 o hi)⟩
  all_goals
    obtain ⟨e1, e2⟩ := ha h.1
    exact ⟨e1, by rw [e2]; exact xZ.mono hle hg hn h.2⟩
theorem Le.alloc {w : World} {I : Nat → Nat → Prop} (hv : ∀ b o, I b o → b < w.heap.size) (o : Obj) : Le w I (w.alloc o) I :=
  fun b off h => ⟨h, y7 (by show (w.heap.push o)[b]? = w.heap[b]?; rw [Array.getElem?_push, if_neg (by have := hv b off h; omega)])⟩
theorem tT {w : World} {o : Obj} {b : Nat} (h : b < w.heap.size) : (w.alloc o).heap[b]? = w.heap[b]? := by
  show (w.heap.push o)[b]? = w.heap[b]?
  rw [Array.getElem?_push, if_neg (by omega)]
theorem jO {w : World} {o : Obj} : (w.alloc o).heap[w.heap.size]? = some o := by show (w.heap.push o)[w.heap.size]? = some o; simp
theorem vr {C : Cx} {A : Nat → SV} {G : Gh} {a : Act} {w : World} (S : SimG C A G a w) {k b : Nat} (h : zm G k b (A k)) : b < w.heap.size := by
  have hh := S.holds k
  generalize A k = x at h hh
  cases x <;> simp only [zm] at h <;> simp only [Holds] at hh
  case box T x => rw [← h]; exact hh.1.2
  case mpr ks vs => rw [← h]; exact hh.1.2
  case gen R => exact (hh.1 b h).2
  case row l =>
    obtain ⟨ad, n', c, h1, h2⟩ := h
    rcases hh.2 with ⟨e, _⟩ | ⟨b', cap, e, _, _, h5, _⟩
    · rw [e] at h1; cases h1
    · rw [e] at h1; cases h1; rw [← h2]; exact h5.2
  case itr m n seen => rw [← h]; exact hh.1.2
  case tok n l =>
    obtain ⟨ad, n', c, h1, h2⟩ := h
    rcases hh.2 with ⟨e, _⟩ | ⟨b', cap, e, _, _, _, h5, _⟩
    · rw [e] at h1; cases h1
    · rw [e] at h1; cases h1; rw [← h2]; exact h5.2
theorem SimG.allocO {C : Cx} {A : Nat → SV} {G : Gh} {a : Act} {w : World} (S : SimG C A G a w) {g d : Nat} {r p : SV} {o : Obj} {v : Value}
    (hgd : g ≠ d) (hgK : g < C.K) (hd : d < C.N) (hown : ∀ (G' : Gh) b, zm G' g b r → G'.blk g = b)
    (hr : ∀ G' : Gh, G'.blk g = w.heap.size → (∀ k, k ≠ g → G'.blk k = G.blk k) → GRel [g] G G' → Le w G.I (w.alloc o) G'.I → (∀ o, ¬ G'.I w.heap.size o) → Holds C.w0 C.E G' (a.put (some d) v) (w.alloc o) g r)
    (hp : ∀ G' : Gh, G'.blk g = w.heap.size → xZ (w.alloc o) G' p v) (hf : ∀ k, has [(g, r), (d, p)] k = false → noG [g] (A k) = true) :
    Sim C (upd A [(g, r), (d, p)]) (a.put (some d) v) (w.alloc o) := by
  let G' : Gh := { G with blk := fun k => if k = g then w.heap.size else G.blk k }
  have hle : Le w G.I (w.alloc o) G'.I := Le.alloc S.val _
  have hg : GRel [g] G G' := fun k hk => ⟨by simp only [G']; rw [if_neg (by simpa using hk)], .inl ⟨rfl, rfl⟩⟩
  have hts : (a.put (some d) v).tmps.size = a.tmps.size := by simp [Act.put]
  have hlt : w.heap.size < (w.alloc o).heap.size := by simp
  have hu : ∀ k, upd A [(g, r), (d, p)] k = if k = g then r else if k = d then p else A k := by
    intro k
    simp only [upd]
    by_cases h1 : k = g
    · subst h1; simp
    · rw [zM (Ne.symm h1), if_neg h1]
      by_cases h2 : k = d
      · subst h2; simp
      · rw [zM (Ne.symm h2), if_neg h2]; rfl
  have hpd : xZ (w.alloc o) G' p v := hp G' (by simp [G'])
  refine ⟨G', S.os, S.tape, S.output, by have := S.size; simp; omega, fun k h1 h2 => ?_, S.sub.trans hle, fun k hk => (S.rel k hk).trans ⟨by simp only [G']; rw [if_neg (by omega)], .inl ⟨rfl, rfl⟩⟩, S.glob.mono hle, S.new, fun b o h => Nat.lt_of_lt_of_le (S.val b o h) (by simp), by rw [hts]; exact S.nts, S.dfs, fun k => ?_, ?_⟩
  · rw [tT (Nat.lt_of_lt_of_le h1 S.size)]; exact S.block k h1 h2
  · rw [hu]
    split
    · rename_i hkg; subst hkg
      refine hr G' (by simp [G']) (fun j hj => by simp only [G']; rw [if_neg hj]) hg hle fun o hi => ?_
      have := S.val _ _ hi
      omega
    · rename_i hkg
      split
      · rename_i hkd; subst hkd
        refine Holds.slot (by rw [hts, S.nts]; exact hd) ?_
        have : (a.put (some k) v).tmps.getD k Go.undef = v := by simp [Act.put, S.nts, hd]
        rw [this]; exact hpd
      · rename_i hkd
        have hn : noG [g] (A k) = true := hf k (by simp [has, zM (Ne.symm hkg), zM (Ne.symm hkd)])
        refine (S.holds k).keep hle hg hn (by simp) (fun hk => ⟨by rw [hts]; exact hk, by simp [Act.put, Array.getElem?_setIfInBounds_ne (Ne.symm hkd)]⟩)
          (fun _ => ⟨by simp only [G']; rw [if_neg hkg], rfl, rfl⟩) (fun b hb => ⟨tT (vr S hb), fun _ hi => hi⟩)
  · intro k j b hkj h1 h2
    have conv : ∀ k b, zm G' k b (upd A [(g, r), (d, p)] k) → (k = g ∧ b = w.heap.size) ∨ (k ≠ g ∧ zm G k b (A k)) := by
      intro k b h
      rw [hu] at h
      split at h
      · rename_i hkg; subst hkg
        have := hown G' b h
        simp only [G', if_true] at this
        exact .inl ⟨rfl, this.symm⟩
      · rename_i hkg
        split at h
        · exact absurd h (hpd.notOwn _ _)
        · right
          refine ⟨hkg, ?_⟩
          generalize A k = y at h
          cases y <;> simp only [zm] at h ⊢
          case tok => exact h
          case row => exact h
          all_goals (simp only [G'] at h; rw [if_neg hkg] at h; exact h)
    rcases conv k b h1 with ⟨e1, e2⟩ | ⟨e1, e2⟩
    · rcases conv j b h2 with ⟨e3, e4⟩ | ⟨e3, e4⟩
      · exact hkj (e1.trans e3.symm)
      · have := vr S e4; omega
    · rcases conv j b h2 with ⟨e3, e4⟩ | ⟨e3, e4⟩
      · have := vr S e2; omega
      · exact S.apart k j b hkj e2 e4
theorem SimG.allocBox {C : Cx} {A : Nat → SV} {G : Gh} {a : Act} {w : World} (S : SimG C A G a w) {g d : Nat} {T : TypeId} {x : SV} {cs : Array Value}
    (hgd : g ≠ d) (hgK : g < C.K) (hd : d < C.N) (hx : RepS w G x cs.toList) (hnx : noG [g] x = true) (hf : ∀ k, has [(g, .box T x), (d, .ptr g 0)] k = false → noG [g] (A k) = true) :
    Sim C (upd A [(g, .box T x), (d, .ptr g 0)]) (a.put (some d) (.pointer (some ⟨w.heap.size, 0, none⟩))) (w.alloc (.cells cs T)) := by
  refine S.allocO hgd hgK hd (fun _ _ h => by simpa only [zm] using h) (fun G' e _ hg hle hni => ?_) (fun G' e => ?_) hf
  · simp only [Holds]
    refine ⟨⟨.inl (by rw [e]; exact S.size), by rw [e]; simp⟩, ⟨cs, (0, 0), by rw [e]; exact jO, RepS.mono hle hg _ _ hnx hx, fun o _ => by simp⟩, fun o => ?_⟩
    rw [e]; exact hni o
  · exact ⟨[.pointer (some ⟨w.heap.size, 0, none⟩)], by simp [RepS, e], by simp [mkS, SV.isAgg]⟩
theorem SimG.storeBox {C : Cx} {A : Nat → SV} {G : Gh} {a : Act} {w : World} (S : SimG C A G a w) {g : Nat} {T : TypeId} {X X' : SV} {cs : Array Value} {fr : Nat × Nat} {cs' : Array Value}
    (hA : A g = .box T X) (hb : w.heap[G.blk g]? = some (.cells cs T fr)) (hsz : cs'.size = cs.size) (hx : RepS w G X' cs'.toList) :
    Sim C (upd A [(g, .box T X')]) a (yR w (G.blk g) (.cells cs' T fr)) := by
  have hbx := S.holds g
  rw [hA] at hbx
  simp only [Holds] at hbx
  obtain ⟨how, ⟨cs0, fr0, hb0, _, huf⟩, hni⟩ := hbx
  rw [hb0] at hb
  cases hb
  have hlt : G.blk g < w.heap.size := how.2
  have hle : Le w G.I (yR w (G.blk g) (.cells cs' T fr)) G.I := fun b o h => ⟨h, by
    have : b ≠ G.blk g := by rintro rfl; exact hni o h
    exact y7 (xJ this)⟩
  have hu : ∀ k, upd A [(g, .box T X')] k = if k = g then .box T X' else A k := by
    intro k
    simp only [upd]
    by_cases h1 : k = g
    · subst h1; simp
    · rw [zM (Ne.symm h1), if_neg h1]; rfl
  have conv : ∀ k b, zm G k b (upd A [(g, .box T X')] k) → zm G k b (A k) := by
    intro k b h
    rw [hu] at h
    split at h
    · rename_i hk; subst hk; rw [hA]; exact h
    · exact h
  refine ⟨G, S.os, S.tape, S.output, by rw [yT]; exact S.size, fun k h1 h2 => ?_, S.sub.trans hle, S.rel, S.glob.mono hle, S.new, fun b o h => by rw [yT]; exact S.val b o h, S.nts, S.dfs, fun k => ?_, fun k j b hkj h1 h2 => S.apart k j b hkj (conv k b h1) (conv j b h2)⟩
  · have : k ≠ G.blk g := by
      rintro rfl
      rcases how.1 with h | h
      · omega
      · exact h2 h
    rw [xJ this]; exact S.block k h1 h2
  · rw [hu]
    split
    · rename_i hk; subst hk
      simp only [Holds]
      exact ⟨⟨how.1, by rw [yT]; exact hlt⟩, ⟨cs', fr, wI hlt, RepS.mono hle (GRel.refl G) _ _ (xa.1 _) hx, by rw [hsz]; exact huf⟩, hni⟩
    · rename_i hk
      refine (S.holds k).keep hle (GRel.refl G) (xa.1 _) (by rw [yT]; exact Nat.le_refl _) (fun h => ⟨h, rfl⟩) (fun _ => ⟨rfl, rfl, rfl⟩) (fun b hb => ⟨?_, fun _ h => h⟩)
      have : b ≠ G.blk g := by
        rintro rfl
        exact S.apart k g (G.blk g) hk hb (by rw [hA]; simp [zm])
      exact xJ this
section
variable {C : Cx} {A : Nat → SV} {d : Nat} {ty : TypeId} {pos : String} {af : Array Edge} {gd : Option (Nat × Bool)} {x y : Operand} {T T' : TypeId}
theorem ValS.cells {w : World} {G : Gh} {X : SV} {v : Value} (h : ValS w G X v) : RepS w G X v.cells.toList := by
  obtain ⟨c, h1, h2⟩ := h
  rw [h2, mkS_cells h1]; exact h1
theorem s_box (g : Nat) {X : SV} (hgd : Nat.beq g d = false) (hgK : Nat.blt g C.K = true) (hN : Nat.blt d C.N = true) (h : opS A x = X) (hs : SV.slotty X = true) (hnx : noG [g] X = true) :
    zv C ⟨some d, .box T x, ty, pos, af, gd⟩ (opR x) [g] A [(g, .box T X), (d, .ptr g 0)] := by
  intro A' a w hR hF ⟨G, S⟩
  have hv : ValS w G X (a.eval x) := by
    exact uW hs (S.opS ((yd hR).trans h) (SV.slotty_res hs))
  have hgd' : g ≠ d := by rintro rfl; rw [Nat.beq_refl] at hgd; cases hgd
  have := S.allocBox (T := T) (cs := (a.eval x).cells) hgd' (by simpa [Nat.blt_eq] using hgK) (by simpa [Nat.blt_eq] using hN) hv.cells hnx hF
  unfold Oper.wp
  simp only [execOp, Instr.box, newVar, newRow, Sem.run_bind, run_newObj, Result.andThen_ok, Sem.run_pure, Oper.upon_value]
  exact this
theorem s_alloc (g : Nat) {X : AV} {z : Value} (hgd : Nat.beq g d = false) (hgK : Nat.blt g C.K = true) (hN : Nat.blt d C.N = true) (hz : (C.P.info? T).bind (·.zero) = some z) (hX : ∀ w I, RepC w I X z.cells.toList) :
    zv C ⟨some d, .alloc T, ty, pos, af, gd⟩ [] [g] A [(g, .box T (.imm X)), (d, .ptr g 0)] := by
  intro A' a w hR hF ⟨G, S⟩
  have hgd' : g ≠ d := by rintro rfl; rw [Nat.beq_refl] at hgd; cases hgd
  have := S.allocBox (T := T) (cs := z.cells) (x := .imm X) hgd' (by simpa [Nat.blt_eq] using hgK) (by simpa [Nat.blt_eq] using hN) (by simp only [RepS]; exact hX _ _) (by simp only [noG]) hF
  have hz' : (zeroValue T).run C.P w = .ok z w := by
    cases hi : C.P.info? T with
    | none => rw [hi] at hz; cases hz
    | some i =>
      rw [hi] at hz
      simp only [Option.bind_some] at hz
      simp only [zeroValue, Sem.run_bind, we hi, Result.andThen_ok, hz]
      rfl
  unfold Oper.wp
  simp only [execOp, Instr.alloc, newVar, newRow, Sem.run_bind, hz', run_newObj, Result.andThen_ok, Sem.run_pure, Oper.upon_value]
  exact this
theorem uV {g off n : Nat} {X Y : SV} {q : Bool} {T0 : TypeId} (hN : Nat.blt d C.N = true) (h : opS A x = .ptr g off) (hg : A g = .box T0 X) (hq : xd C.P T = some q) (hn : yJ C.P T = some n) (h1 : (q || Nat.beq n 1) = true)
    (hY : getS 8 X off n q = some Y) (hs : SV.slotty Y = true) :
    zv C ⟨some d, .load T x, ty, pos, af, gd⟩ (g :: opR x) [] A [(d, Y)] := by
  refine zv.value rfl hN fun A' G a w hR S => ?_
  have hgA : A' g = .box T0 X := (hR g List.mem_cons_self).trans hg
  obtain ⟨c, hc1, hc2⟩ := S.opS ((yd (fun k hk => hR k (List.mem_cons_of_mem _ hk))).trans h) rfl
  simp only [RepS] at hc1
  have hev : a.eval x = .pointer (some ⟨G.blk g, off, none⟩) := by rw [hc2, hc1]; rfl
  have hb := S.holds g
  rw [hgA] at hb
  simp only [Holds] at hb
  obtain ⟨_, ⟨cs, fr, hb2, hb3, _⟩, _⟩ := hb
  obtain ⟨k1, k2, k3, k4⟩ := vz 8 X cs.toList off n q Y hb3 hY
  have hlen : ((cs.toList.drop off).take n).length = n := by rw [List.length_take, List.length_drop]; omega
  refine ⟨mkS Y ((cs.toList.drop off).take n), ?_, ?_⟩
  · simp only [execOp, Instr.loadAt, Instr.sureAddr, hev, Sem.run_bind, Sem.run_pure, Result.andThen_ok]
    rw [vh (cs := (cs.toList.drop off).take n) hq (by rw [hlen]; exact hn) (fun hq' => by rw [hlen]; subst hq'; simpa using h1) (fun j hj => by
      rw [u_ hb2]
      simp only [List.getElem_take, List.getElem_drop]
      simp)]
    simp only [Result.andThen_ok, mkS, k2]
  · have hv : ValS w G Y (mkS Y ((cs.toList.drop off).take n)) := ⟨_, k1, rfl⟩
    exact rA hs hv
mutual
def toAV : SV → Option AV
  | .imm x => some x
  | .slg _ n l => some (.sl n l)
  | .agg fs => match sM fs with | some ps => some (.agg ps) | none => none
  | .fnv f a b => match sM a, sM b with | some p, some q => some (.fn f p q) | _, _ => none
  | _ => none
def sM : List SV → Option (List AV)
  | [] => some []
  | x :: xs => match toAV x, sM xs with | some p, some ps => some (p :: ps) | _, _ => none
end
theorem toAV_agg' (x : SV) (y : AV) (h : toAV x = some y) : x.isAgg = y.isAgg := by
  cases x <;> simp only [toAV] at h
  case imm => cases h; rfl
  case slg => cases h; rfl
  case agg fs =>
    cases hf : sM fs with
    | none => rw [hf] at h; cases h
    | some ps => rw [hf] at h; cases h; rfl
  case fnv f a b =>
    cases ha : sM a with
    | none => rw [ha] at h; cases h
    | some p =>
      cases hb : sM b with
      | none => rw [ha, hb] at h; cases h
      | some q => rw [ha, hb] at h; cases h; rfl
  all_goals cases h
mutual
theorem uD {w : World} {G : Gh} : ∀ (x : SV) (y : AV) (cs : List Value), toAV x = some y → RepS w G x cs → RepC w G.I y cs
  | .imm x, y, cs, h, r => by simp only [toAV] at h; cases h; simpa only [RepS] using r
  | .slg g n l, y, cs, h, r => by simp only [toAV] at h; cases h; simp only [RepS] at r; obtain ⟨v, rfl, h2, _⟩ := r; exact h2
  | .agg fs, y, cs, h, r => by
    simp only [toAV] at h
    cases hf : sM fs with
    | none => rw [hf] at h; cases h
    | some ps => rw [hf] at h; cases h; simp only [RepS] at r; simp only [RepC]; exact toAVs_spec fs ps cs hf r
  | .dead, _, _, h, _ => by simp [toAV] at h
  | .undef, _, _, h, _ => by simp [toAV] at h
  | .ptr _ _, _, _, h, _ => by simp [toAV] at h
  | .osl _ _ _ _, _, _, h, _ => by simp [toAV] at h
  | .tup _, _, _, h, _ => by simp [toAV] at h
  | .box _ _, _, _, h, _ => by simp [toAV] at h
  | .tok _ _, _, _, h, _ => by simp [toAV] at h
  | .mpr _ _, _, _, h, _ => by simp [toAV] at h
  | .row _, _, _, h, _ => by simp [toAV] at h
  | .itr _ _ _, _, _, h, _ => by simp [toAV] at h
  | .gen _, _, _, h, _ => by simp [toAV] at h
  | .ifp _ _ _, _, _, h, _ => by simp [toAV] at h
  | .mref _, _, _, h, _ => by simp [toAV] at h
  | .fnv f a b, y, cs, h, r => by
    simp only [toAV] at h
    cases ha : sM a with
    | none => rw [ha] at h; cases h
    | some p =>
      cases hb : sM b with
      | none => rw [ha, hb] at h; cases h
      | some q =>
        rw [ha, hb] at h; cases h
        simp only [RepS] at r
        obtain ⟨fs, gs, h1, h2, h3⟩ := r
        simp only [RepC]
        exact ⟨fs, gs, h1, toAVv_spec a p fs ha h2, toAVv_spec b q gs hb h3⟩
theorem toAVs_spec {w : World} {G : Gh} : ∀ (xs : List SV) (ys : List AV) (cs : List Value), sM xs = some ys → xK w G xs cs → xH w G.I ys cs
  | [], ys, cs, h, r => by simp only [sM] at h; cases h; simpa only [xK, xH] using r
  | x :: xs, ys, cs, h, r => by
    simp only [sM] at h
    simp only [xK] at r
    obtain ⟨c1, c2, h1, h2, h3⟩ := r
    cases hx : toAV x with
    | none => rw [hx] at h; cases h
    | some p =>
      cases hxs : sM xs with
      | none => rw [hx, hxs] at h; cases h
      | some ps =>
        rw [hx, hxs] at h; cases h
        simp only [xH]
        exact ⟨c1, c2, h1, uD x p c1 hx h2, toAVs_spec xs ps c2 hxs h3⟩
theorem toAVv_spec {w : World} {G : Gh} : ∀ (xs : List SV) (ys : List AV) (cs : List Value), sM xs = some ys → wy w G xs cs → yc w G.I ys cs
  | [], ys, cs, h, r => by simp only [sM] at h; cases h; simpa only [wy, yc] using r
  | x :: xs, ys, cs, h, r => by
    simp only [sM] at h
    simp only [wy] at r
    obtain ⟨c1, c2, h1, h2, h3⟩ := r
    cases hx : toAV x with
    | none => rw [hx] at h; cases h
    | some p =>
      cases hxs : sM xs with
      | none => rw [hx, hxs] at h; cases h
      | some ps =>
        rw [hx, hxs] at h; cases h
        simp only [yc]
        exact ⟨c1, c2, by rw [h1, mkS, mkV, toAV_agg' x p hx], uD x p c1 hx h2, toAVv_spec xs ps c2 hxs h3⟩
end
theorem rG {x : SV} {y : AV} (h : toAV x = some y) : y.isAgg = x.isAgg := (toAV_agg' x y h).symm
theorem yC {g off n : Nat} {X Y : SV} {T0 : TypeId} {r : AV} (hN : Nat.blt d C.N = true) (h : opS A x = .ptr g off) (hg : A g = .box T0 X) (hq : xd C.P T = some true) (hn : yJ C.P T = some n)
    (hY : getS 8 X off n true = some Y) (hr : toAV Y = some r) :
    zv C ⟨some d, .load T x, ty, pos, af, gd⟩ (g :: opR x) [] A [(d, .imm r)] := by
  refine zv.value rfl hN fun A' G a w hR S => ?_
  have hgA : A' g = .box T0 X := (hR g List.mem_cons_self).trans hg
  obtain ⟨c, hc1, hc2⟩ := S.opS ((yd (fun k hk => hR k (List.mem_cons_of_mem _ hk))).trans h) rfl
  simp only [RepS] at hc1
  have hev : a.eval x = .pointer (some ⟨G.blk g, off, none⟩) := by rw [hc2, hc1]; rfl
  have hb := S.holds g
  rw [hgA] at hb
  simp only [Holds] at hb
  obtain ⟨_, ⟨cs, fr, hb2, hb3, _⟩, _⟩ := hb
  obtain ⟨k1, k2, k3, k4⟩ := vz 8 X cs.toList off n true Y hb3 hY
  have hlen : ((cs.toList.drop off).take n).length = n := by rw [List.length_take, List.length_drop]; omega
  refine ⟨mkS Y ((cs.toList.drop off).take n), ?_, ?_⟩
  · simp only [execOp, Instr.loadAt, Instr.sureAddr, hev, Sem.run_bind, Sem.run_pure, Result.andThen_ok]
    rw [vh (cs := (cs.toList.drop off).take n) hq (by rw [hlen]; exact hn) (fun hq' => by cases hq') (fun j hj => by
      rw [u_ hb2]
      simp only [List.getElem_take, List.getElem_drop]
      simp)]
    simp only [Result.andThen_ok, mkS, k2]
  · refine yg.2 ⟨_, uD Y r _ hr k1, ?_⟩
    simp only [mkS, mkV, rG hr]
theorem zG {g off n : Nat} {X : SV} {q : Bool} {T0 : TypeId} {v : AV} (hN : Nat.blt d C.N = true) (h : opS A x = .ptr g off) (hg : A g = .box T0 X) (hq : xd C.P T = some q) (hn : yJ C.P T = some n) (h1 : (q || Nat.beq n 1) = true)
    (hY : getS 8 X off n q = some (.imm v)) : zv C ⟨some d, .load T x, ty, pos, af, gd⟩ (g :: opR x) [] A [(d, .imm v)] := uV hN h hg hq hn h1 hY rfl
theorem xj {g off n : Nat} {X : SV} {q : Bool} {T0 : TypeId} {g' n' : Nat} {l : List AV} (hN : Nat.blt d C.N = true) (h : opS A x = .ptr g off) (hg : A g = .box T0 X) (hq : xd C.P T = some q) (hn : yJ C.P T = some n) (h1 : (q || Nat.beq n 1) = true)
    (hY : getS 8 X off n q = some (.slg g' n' l)) : zv C ⟨some d, .load T x, ty, pos, af, gd⟩ (g :: opR x) [] A [(d, .slg g' n' l)] := uV hN h hg hq hn h1 hY rfl
theorem tC {g off n : Nat} {X X' Y : SV} {T0 : TypeId} (h : opS A x = .ptr g off) (hg : A g = .box T0 X) (hy : opS A y = Y) (hs : SV.slotty Y = true)
    (hn : yJ C.P T = some n) (hw : Nat.beq Y.width n = true) (hX : setS 8 X off Y = some X') :
    zv C ⟨none, .store T x y, ty, pos, af, gd⟩ (g :: (opR x ++ opR y)) [] A [(g, .box T0 X')] := by
  intro A' a w hR hF ⟨G, S⟩
  have hgA : A' g = .box T0 X := (hR g List.mem_cons_self).trans hg
  obtain ⟨c, hc1, hc2⟩ := S.opS ((yd (fun k hk => hR k (List.mem_cons_of_mem _ (List.mem_append_left _ hk)))).trans h) rfl
  simp only [RepS] at hc1
  have hev : a.eval x = .pointer (some ⟨G.blk g, off, none⟩) := by rw [hc2, hc1]; rfl
  have hv : ValS w G Y (a.eval y) := by
    exact uW hs (S.opS ((yd (fun k hk => hR k (List.mem_cons_of_mem _ (List.mem_append_right _ hk)))).trans hy) (SV.slotty_res hs))
  have hvc := hv.cells
  have hvl := RepS.len _ _ hvc
  have hwn := Nat.eq_of_beq_eq_true hw
  have hb := S.holds g
  rw [hgA] at hb
  simp only [Holds] at hb
  obtain ⟨_, ⟨cs, fr, hb2, hb3, hb4⟩, _⟩ := hb
  obtain ⟨k1, k2⟩ := tV hvc 8 X cs.toList off X' hb3 hX
  simp only [Array.length_toList] at k2
  unfold Oper.wp
  have hrun : (storeVar T ⟨G.blk g, off, none⟩ (a.eval y)).run C.P w = .ok () (match (a.eval y).cells.toList with | [] => w | _ => yR w (G.blk g) (.cells (y3 cs off (a.eval y).cells.toList) T0 fr)) := by
    simp only [storeVar, Sem.run_bind, yI hn, Result.andThen_ok]
    rw [if_neg (by simp only [Array.length_toList] at hvl; omega)]
    exact ww _ 0 w cs hb2 hb4 (by simpa using k2) (RepS.plain _ _ hvc)
  simp only [execOp, Instr.storeAt, Instr.sureAddr, hev, Sem.run_bind, Sem.run_pure, Result.andThen_ok, hrun]
  rw [Oper.upon_skip]
  have key : Sim C (upd A' [(g, .box T0 X')]) a (yR w (G.blk g) (.cells (y3 cs off (a.eval y).cells.toList) T0 fr)) :=
    S.storeBox hgA hb2 (wQ _ _ _) (by rw [xQ _ _ _ (by simpa using k2)]; exact k1)
  cases hc : (a.eval y).cells.toList with
  | nil =>
    rw [hc] at key
    simp only [y3] at key
    have : yR w (G.blk g) (.cells cs T0 fr) = w := by
      unfold yR
      have : w.heap.setIfInBounds (G.blk g) (.cells cs T0 fr) = w.heap := by
        apply Array.ext
        · simp
        · intro i h1 h2
          by_cases hi : G.blk g = i
          · subst hi; simp; exact (Array.getElem?_eq_some_iff.1 hb2).2.symm
          · rw [Array.getElem_setIfInBounds_ne _ hi]
      rw [this]
    rw [this] at key
    exact key
  | cons v vs => rw [hc] at key; exact key
theorem zV {g off n : Nat} {X X' : SV} {v : AV} {T0 : TypeId} (h : opS A x = .ptr g off) (hg : A g = .box T0 X) (hy : opS A y = .imm v) (hn : yJ C.P T = some n) (hw : Nat.beq v.width n = true) (hX : setS 8 X off (.imm v) = some X') :
    zv C ⟨none, .store T x y, ty, pos, af, gd⟩ (g :: (opR x ++ opR y)) [] A [(g, .box T0 X')] := tC h hg hy rfl hn (by simpa only [SV.width] using hw) hX
end
end Go.Al
namespace Go.Al
open Go.RowKit
def u6 (P : Program) (f : FuncId) : Bool := match P.funcs[f]? with | some fn => fn.body.isSome && !(fn.name == "runtime.NumGoroutine") | none => false
def ValI (w : World) (I : Nat → Nat → Prop) : Prop := ∀ b o, I b o → b < w.heap.size
def NewI (w : World) (I I' : Nat → Nat → Prop) : Prop := ∀ b o, I' b o → I b o ∨ w.heap.size ≤ b
def resV (w : World) (I : Nat → Nat → Prop) (rs : List AV) (v : Value) : Prop :=
  match rs with
  | [r] => Rep w I r v
  | rs => ∃ vs, v = .tuple (List.toArray vs) ∧ yc w I rs vs
def Leaves (w : World) (I : Nat → Nat → Prop) (rs : List AV) (e : Ending) (w' : World) : Prop :=
  ∃ v I', e = .returned v ∧ Below w.heap.size w w' ∧ Le w I w' I' ∧ NewI w I I' ∧ ValI w' I' ∧ resV w' I' rs v
def zn (P : Program) (Γ : List (Nat × AV)) (f : FuncId) (xs rs : List AV) : Prop :=
  u6 P f = true ∧ ∀ w I args, ValI w I → Glob Γ w I → yc w I xs args → Calls P f (List.toArray args) w (Leaves w I rs)
theorem SimG.called {C : Cx} {A : Nat → SV} {G : Gh} {a : Act} {w w' : World} {I' : Nat → Nat → Prop} (S : SimG C A G a w) (hb : Below w.heap.size w w') (hle : Le w G.I w' I') (hn : NewI w G.I I') (hv : ValI w' I') :
    SimG C A { G with I := I' } a w' := by
  refine ⟨hb.os.trans S.os, hb.tape.trans S.tape, hb.output.trans S.output, Nat.le_trans S.size hb.size, fun k h1 h2 => ?_, S.sub.trans hle, S.rel, S.glob.mono hle, fun b o h => ?_, hv, S.nts, S.dfs, fun k => ?_, fun k j b hkj h1 h2 => ?_⟩
  · rw [hb.block k (Nat.lt_of_lt_of_le h1 S.size)]; exact S.block k h1 h2
  · rcases hn b o h with h | h
    · exact S.new b o h
    · exact .inr (.inl (Nat.le_trans S.size h))
  · refine (S.holds k).keep (Gs := []) hle (fun _ _ => ⟨rfl, .inl ⟨rfl, rfl⟩⟩) (xa.1 _) hb.size (fun h => ⟨h, rfl⟩) (fun _ => ⟨rfl, rfl, rfl⟩) (fun b hbk => ?_)
    have hlt := vr S hbk
    refine ⟨hb.block b hlt, fun o hi => ?_⟩
    rcases hn b o hi with h | h
    · exact h
    · omega
  · exact S.apart k j b hkj (by revert h1; generalize A k = y; cases y <;> exact id) (by revert h2; generalize A j = y; cases y <;> exact id)
def opVs (A : Nat → SV) : List Operand → Option (List AV)
  | [] => some []
  | x :: xs => match opV A x, opVs A xs with | some a, some b => some (a :: b) | _, _ => none
def opRs : List Operand → List Nat
  | [] => []
  | x :: xs => opR x ++ opRs xs
theorem tH {A A' : Nat → SV} : ∀ {xs : List Operand}, (∀ k ∈ opRs xs, A' k = A k) → opVs A' xs = opVs A xs
  | [], _ => rfl
  | x :: xs, h => by
    simp only [opVs]
    rw [yU (fun k hk => h k (List.mem_append_left _ hk)), tH (fun k hk => h k (List.mem_append_right _ hk))]
theorem SimG.opVs {C : Cx} {A : Nat → SV} {G : Gh} {a : Act} {w : World} (S : SimG C A G a w) : ∀ {xs : List Operand} {ys : List AV}, Al.opVs A xs = some ys → yc w G.I ys (xs.map a.eval)
  | [], ys, h => by simp only [Al.opVs] at h; cases h; simp [yc]
  | x :: xs, ys, h => by
    simp only [Al.opVs] at h
    cases hx : Al.opV A x with
    | none => rw [hx] at h; cases h
    | some p =>
      cases hxs : Al.opVs A xs with
      | none => rw [hx, hxs] at h; cases h
      | some ps =>
        rw [hx, hxs] at h; cases h
        obtain ⟨c, h1, h2⟩ := S.opV hx
        simp only [yc, List.map_cons]
        exact ⟨c, _, by rw [h2], h1, SimG.opVs S hxs⟩
theorem v7 {w : World} {I : Nat → Nat → Prop} : ∀ {xs ys : List AV} {us vs : List Value}, yc w I xs us → yc w I ys vs → yc w I (xs ++ ys) (us ++ vs)
  | [], _, _, _, h1, h2 => by simp only [yc] at h1; subst h1; exact h2
  | x :: xs, ys, us, vs, h1, h2 => by
    simp only [yc] at h1
    obtain ⟨c, r, rfl, h3, h4⟩ := h1
    simp only [List.cons_append, yc]
    exact ⟨c, _, rfl, h3, v7 h4 h2⟩
theorem run_callFunc {P : Program} {f : FuncId} (h : u6 P f = true) (args : Array Value) (w : World) : (callFunc f args).run P w = .ok (.enter f args) w := by
  unfold u6 at h
  cases hf : P.funcs[f]? with
  | none => rw [hf] at h; cases h
  | some fn =>
    rw [hf] at h
    simp only [Bool.and_eq_true, Bool.not_eq_true'] at h
    have h2 : fn.body.isNone = false := by cases hb : fn.body <;> simp_all
    simp only [callFunc, Sem.run_bind, run_program, Result.andThen_ok, hf, h.2, Bool.false_eq_true, if_false, h2]
    rfl
def resSV : List AV → SV
  | [r] => .imm r
  | rs => .tup (rs.map .imm)
theorem resV_slot {w : World} {G : Gh} {rs : List AV} {v : Value} (h : resV w G.I rs v) : xZ w G (resSV rs) v := by
  have key : ∀ (rs : List AV) (vs : List Value), yc w G.I rs vs → wF w G (rs.map .imm) vs := by
    intro rs
    induction rs with
    | nil => intro vs h; simpa only [yc, List.map_nil, wF] using h
    | cons r rs ih =>
      intro vs h
      simp only [yc] at h
      obtain ⟨c, q, rfl, h1, h2⟩ := h
      exact ⟨_, _, rfl, yg.2 ⟨c, h1, rfl⟩, ih _ h2⟩
  unfold resV at h
  split at h
  · exact yg.2 h
  · rename_i h0
    obtain ⟨vs, h1, h2⟩ := h
    have : resSV rs = .tup (rs.map .imm) := by
      unfold resSV
      split
      · rename_i r; exact absurd rfl (h0 r)
      · rfl
    rw [this]
    exact ⟨vs, h1, key rs vs h2⟩
section
variable {C : Cx} {A : Nat → SV} {d : Nat} {ty : TypeId} {pos : String} {af : Array Edge} {gd : Option (Nat × Bool)} {x y : Operand} {T T' : TypeId}
theorem s_callv {f : FuncId} {cal : Operand} {args : Array Operand} {ats : Array TypeId} {first caps xs rs : List AV} (hc : zn C.P C.Γ f (first ++ xs ++ caps) rs) (hN : Nat.blt d C.N = true)
    (hf : opV A cal = some (.fn (.func f) first caps)) (hx : opVs A args.toList = some xs) :
    zv C ⟨some d, .call { callee := .value cal, args := args, argTypes := ats }, ty, pos, af, gd⟩ (opR cal ++ opRs args.toList) [] A [(d, resSV rs)] := by
  intro A' a w hR hF ⟨G, S⟩
  rw [← yU (fun k hk => hR k (List.mem_append_left _ hk))] at hf
  rw [← tH (fun k hk => hR k (List.mem_append_right _ hk))] at hx
  obtain ⟨c, h1, h2⟩ := S.opV hf
  simp only [RepC] at h1
  obtain ⟨fs, gs, rfl, h3, h4⟩ := h1
  have hev : a.eval cal = .func (.func f) (List.toArray fs) (List.toArray gs) := by rw [h2]; rfl
  have hargs := S.opVs hx
  have hrep : yc w G.I (first ++ xs ++ caps) (fs ++ args.toList.map a.eval ++ gs) := v7 (v7 h3 hargs) h4
  have hcall := hc.2 w G.I _ S.val S.glob hrep
  unfold Oper.wp
  have hrun : (execOp a.eval ⟨some d, .call { callee := .value cal, args := args, argTypes := ats }, ty, pos, af, gd⟩).run C.P w = .ok (.enter f (List.toArray (fs ++ args.toList.map a.eval ++ gs))) w := by
    simp only [execOp, resolve, hev, Deferred.ofValue, Sem.run_bind, Sem.run_pure, Result.andThen_ok, invoke, run_callFunc hc.1]
    congr 1
    simp
  rw [hrun, Oper.upon_enter]
  refine hcall.mono ?_
  rintro e w' ⟨v, I', rfl, hb, hle, hn, hv, hres⟩
  exact ⟨{ G with I := I' }, (S.called hb hle hn hv).put (by simpa [Nat.blt_eq] using hN) (resV_slot hres)⟩
theorem s_call {f : FuncId} {args : Array Operand} {ats : Array TypeId} {xs rs : List AV} (hc : zn C.P C.Γ f xs rs) (hN : Nat.blt d C.N = true) (hx : opVs A args.toList = some xs) :
    zv C ⟨some d, .call { callee := .value (.func f), args := args, argTypes := ats }, ty, pos, af, gd⟩ (opRs args.toList) [] A [(d, resSV rs)] := by
  have := s_callv (C := C) (A := A) (d := d) (ty := ty) (pos := pos) (af := af) (gd := gd) (cal := .func f) (ats := ats) (first := []) (caps := []) (xs := xs) (rs := rs) (by rw [List.nil_append, List.append_nil]; exact hc) hN rfl hx
  exact this
theorem zP {f : FuncId} {args : Array Operand} {ats : Array TypeId} {xs : List AV} {r : AV} (hc : zn C.P C.Γ f xs [r]) (hN : Nat.blt d C.N = true) (hx : opVs A args.toList = some xs) :
    zv C ⟨some d, .call { callee := .value (.func f), args := args, argTypes := ats }, ty, pos, af, gd⟩ (opRs args.toList) [] A [(d, .imm r)] := s_call hc hN hx
theorem vb {f : FuncId} {args : Array Operand} {ats : Array TypeId} {xs : List AV} {r s : AV} (hc : zn C.P C.Γ f xs [r, s]) (hN : Nat.blt d C.N = true) (hx : opVs A args.toList = some xs) :
    zv C ⟨some d, .call { callee := .value (.func f), args := args, argTypes := ats }, ty, pos, af, gd⟩ (opRs args.toList) [] A [(d, .tup [.imm r, .imm s])] := s_call hc hN hx
theorem wM {f : FuncId} {cal : Operand} {args : Array Operand} {ats : Array TypeId} {first caps xs : List AV} {r : AV} (hc : zn C.P C.Γ f (first ++ xs ++ caps) [r]) (hN : Nat.blt d C.N = true)
    (hf : opV A cal = some (.fn (.func f) first caps)) (hx : opVs A args.toList = some xs) :
    zv C ⟨some d, .call { callee := .value cal, args := args, argTypes := ats }, ty, pos, af, gd⟩ (opR cal ++ opRs args.toList) [] A [(d, .imm r)] := s_callv hc hN hf hx
end
def params : Nat → List AV → St
  | _, [] => []
  | k, x :: xs => (k, .imm x) :: params (k + 1) xs
def retOne (P : Program) (st : St) : ResultVar → AV → Prop
  | .tmp t, r => toAV (look st t) = some r ∧ (match look st t with | .agg _ => false | _ => true) = true
  | .cell t T, r => ∃ g off T' X q n Y, look st t = .ptr g off ∧ look st g = .box T' X ∧ xd P T = some q ∧ yJ P T = some n ∧ (q || Nat.beq n 1) = true ∧ getS 8 X off n q = some Y ∧ toAV Y = some r
def retAll (P : Program) (st : St) : List ResultVar → List AV → Prop
  | [], [] => True
  | x :: xs, r :: rs => retOne P st x r ∧ retAll P st xs rs
  | _, _ => False
def Post (P : Program) (fn : Func) (rs : List AV) : Exit → St → Prop
  | .normal, st => retAll P st fn.results.toList rs
  | .ret, st => retAll P st fn.results.toList rs
  | _, _ => False
theorem r_ : ∀ (xs : List AV) (k j : Nat) (x : AV), xs[j]? = some x → look (params k xs) (k + j) = .imm x
  | [], _, _, _, h => by simp at h
  | y :: xs, k, 0, x, h => by simp at h; subst h; simp [params, look, upd]
  | y :: xs, k, j + 1, x, h => by
    simp only [params, look, upd]
    rw [zM (by omega)]
    have := r_ xs (k + 1) j x (by simpa using h)
    simp only [cond_false]
    rw [show k + (j + 1) = k + 1 + j from by omega]
    exact this
theorem rx : ∀ (xs : List AV) (k i : Nat), (i < k ∨ k + xs.length ≤ i) → look (params k xs) i = .dead
  | [], _, _, _ => rfl
  | y :: xs, k, i, h => by
    simp only [params, look, upd]
    rw [zM (by simp at h; omega)]
    exact rx xs (k + 1) i (by simp at h; omega)
theorem tc {w : World} {I : Nat → Nat → Prop} : ∀ {xs : List AV} {vs : List Value}, yc w I xs vs → vs.length = xs.length
  | [], _, h => by simp only [yc] at h; simp [h]
  | x :: xs, vs, h => by
    simp only [yc] at h
    obtain ⟨c, r, rfl, _, h2⟩ := h
    simp [tc h2]
theorem tQ {w : World} {I : Nat → Nat → Prop} : ∀ {xs : List AV} {vs : List Value} {j : Nat} {x : AV}, yc w I xs vs → xs[j]? = some x → ∃ v, vs[j]? = some v ∧ Rep w I x v
  | [], _, _, _, _, h => by simp at h
  | x :: xs, vs, j, y, h, hj => by
    simp only [yc] at h
    obtain ⟨c, r, rfl, h1, h2⟩ := h
    cases j with
    | zero => simp at hj; subst hj; exact ⟨_, rfl, c, h1, rfl⟩
    | succ j => simpa using tQ h2 (by simpa using hj)
def gh0 (I : Nat → Nat → Prop) : Gh := ⟨I, fun _ => 0, fun _ => .tuple #[], fun _ => 0⟩
theorem start_simG {P : Program} {w : World} {I : Nat → Nat → Prop} {xs : List AV} {args : List Value} {N K : Nat} {Γ : List (Nat × AV)} (hv : ValI w I) (hgl : Glob Γ w I) (h : yc w I xs args) (hN : xs.length ≤ N) :
    SimG ⟨P, w, I, fun _ => False, N, K, gh0 I, Γ, [], none⟩ (look (params 0 xs)) (gh0 I) { tmps := (List.toArray args) ++ Array.replicate (N - (List.toArray args).size) Go.undef, defers := [] } w := by
  have hl := tc h
  refine ⟨rfl, rfl, rfl, Nat.le_refl _, fun _ _ _ => rfl, Le.refl _ _, fun _ _ => ⟨rfl, .inl ⟨rfl, rfl⟩⟩, hgl, fun _ _ h => .inl h, hv, by simp; omega, rfl, fun k => ?_, fun k j b hkj h1 _ => ?_⟩
  · cases hx : xs[k]? with
    | none =>
      rw [rx xs 0 k (.inr (by simpa using hx))]
      simp only [Holds]
    | some x =>
      have := r_ xs 0 k x hx
      rw [Nat.zero_add] at this
      rw [this]
      obtain ⟨v, h1, h2⟩ := tQ h hx
      have hk : k < args.length := (List.getElem?_eq_some_iff.1 h1).1
      refine ⟨by simp; omega, yg.2 ?_⟩
      have : (List.toArray args ++ Array.replicate (N - (List.toArray args).size) Go.undef).getD k Go.undef = v := by
        rw [Array.getD_eq_getD_getElem?]
        rw [Array.getElem?_append_left (by simpa using hk)]
        simp [h1]
      rw [this]; exact h2
  · exfalso
    cases hx : xs[k]? with
    | none => rw [rx xs 0 k (.inr (by simpa using hx))] at h1; simp only [zm] at h1
    | some x =>
      have := r_ xs 0 k x hx
      rw [Nat.zero_add] at this
      rw [this] at h1; simp only [zm] at h1
theorem start_sim {P : Program} {w : World} {I : Nat → Nat → Prop} {xs : List AV} {args : List Value} {N K : Nat} {Γ : List (Nat × AV)} (hv : ValI w I) (hgl : Glob Γ w I) (h : yc w I xs args) (hN : xs.length ≤ N) :
    Sim ⟨P, w, I, fun _ => False, N, K, gh0 I, Γ, [], none⟩ (look (params 0 xs)) { tmps := (List.toArray args) ++ Array.replicate (N - (List.toArray args).size) Go.undef, defers := [] } w :=
  ⟨_, start_simG hv hgl h hN⟩
def rvSem (tmps : Array Value) : ResultVar → Sem Value
  | .tmp t => pure (tmps.getD t Go.undef)
  | .cell p t => do loadVar t (← asAddr (tmps.getD p Go.undef))
theorem ret_run {C : Cx} {st : St} {G : Gh} {a : Act} {w : World} (S : SimG C (look st) G a w) : ∀ (xs : List ResultVar) (rs : List AV), retAll C.P st xs rs →
    ∃ vs, (xs.mapM (rvSem a.tmps)).run C.P w = .ok vs w ∧ yc w G.I rs vs
  | [], [], _ => ⟨[], by simp, by simp [yc]⟩
  | [], _ :: _, h => h.elim
  | _ :: _, [], h => h.elim
  | x :: xs, r :: rs, h => by
    obtain ⟨h1, h2⟩ := h
    obtain ⟨vs, h3, h4⟩ := ret_run S xs rs h2
    have key : ∃ v, (rvSem a.tmps x).run C.P w = .ok v w ∧ Rep w G.I r v := by
      cases x with
      | tmp t =>
        refine ⟨_, rfl, ?_⟩
        obtain ⟨k1, k2⟩ := h1
        have hs : ∀ y, look st t = y → y.res = false → xZ w G y (a.tmps.getD t Go.undef) :=
          fun y hy hh => S.slot hy hh
        generalize hy : look st t = y at k1 k2
        have key : ∀ z, y = z → z.res = false → (∃ c, RepS w G z c ∧ a.tmps.getD t Go.undef = mkS z c) → Rep w G.I r (a.tmps.getD t Go.undef) := by
          rintro z rfl hz ⟨c, k3, k4⟩
          exact ⟨c, uD y r c k1 k3, by rw [k4, mkS, mkV, rG k1]⟩
        cases y <;> (try (simp only [toAV] at k1; cases k1; done)) <;> (try (cases k2; done))
        · exact key _ rfl rfl (hs _ hy rfl)
        · exact key _ rfl rfl (hs _ hy rfl)
        · exact key _ rfl rfl (hs _ hy rfl)
      | cell p T =>
        obtain ⟨g, off, T', X, q, n, Y, k1, k2, k3, k4, k5, k6, k7⟩ := h1
        obtain ⟨c, hc1, hc2⟩ := S.slot k1 rfl
        simp only [RepS] at hc1
        have hev : a.tmps.getD p Go.undef = .pointer (some ⟨G.blk g, off, none⟩) := by rw [hc2, hc1]; rfl
        have hb := S.holds g
        rw [k2] at hb
        simp only [Holds] at hb
        obtain ⟨_, ⟨cs, fr, hb2, hb3, _⟩, _⟩ := hb
        obtain ⟨m1, m2, m3, m4⟩ := vz 8 X cs.toList off n q Y hb3 k6
        have hlen : ((cs.toList.drop off).take n).length = n := by rw [List.length_take, List.length_drop]; omega
        refine ⟨mkS Y ((cs.toList.drop off).take n), ?_, ?_⟩
        · simp only [rvSem, hev, asAddr, Sem.run_bind, Sem.run_pure, Result.andThen_ok]
          rw [vh (cs := (cs.toList.drop off).take n) k3 (by rw [hlen]; exact k4) (fun hq' => by rw [hlen]; subst hq'; simpa using k5) (fun j hj => by
            rw [u_ hb2]
            simp only [List.getElem_take, List.getElem_drop]
            simp)]
          simp only [mkS, m2]
        · refine ⟨_, uD Y r _ k7 m1, ?_⟩
          simp only [mkS, mkV, rG k7]
    obtain ⟨v, m1, m2⟩ := key
    refine ⟨v :: vs, ?_, ?_⟩
    · simp only [List.mapM_cons, Sem.run_bind, m1, Result.andThen_ok, h3, Sem.run_pure]
    · obtain ⟨c, m3, m4⟩ := m2
      simp only [yc]
      exact ⟨c, vs, by rw [m4], m3, h4⟩
theorem z_ {P : Program} {Γ : List (Nat × AV)} {f : FuncId} {fn : Func} {c : Code} {N : Nat} {xs rs : List AV} (hf : P.funcs[f]? = some fn) (hb : fn.body = some c) (hnt : fn.ntmps = N) (hcal : u6 P f = true)
    (hN : Nat.ble xs.length N = true) (h : ∀ w0 I0 G0, AW ⟨P, w0, I0, fun _ => False, N, 100000, G0, Γ, [], none⟩ c (params 0 xs) (Post P fn rs)) : zn P Γ f xs rs := by
  refine ⟨hcal, fun w I args hv hgl hr => ?_⟩
  refine calls_of_wp hf hb ?_
  rw [hnt]
  have S0 := start_sim (P := P) (K := 100000) hv hgl hr (Nat.le_of_ble_eq_true hN)
  refine wp_mono ((wpIn_wide (n := 0)).1 (h w I _ _ w S0 0)) ?_
  rintro e a' w' ⟨st', q, G, S⟩
  have fin : retAll P st' fn.results.toList rs → a'.defers = [] ∧ ∃ v, (results fn a'.tmps).run P w' = .ok v w' ∧ Leaves w I rs (.returned v) w' := by
    intro q
    refine ⟨S.dfs, ?_⟩
    obtain ⟨vs, h1, h2⟩ := ret_run S _ _ q
    have hb : Below w.heap.size w w' := ⟨S.os, S.tape, S.output, S.size, fun k hk => S.block k hk (fun h => h)⟩
    have hle : Le w I w' G.I := S.sub
    have hni : NewI w I G.I := fun b o hi => by
      rcases S.new b o hi with h | h | h
      · exact .inl h
      · exact .inr h
      · exact h.elim
    have hrun : (results fn a'.tmps).run P w' = .ok (if h : vs.length = 1 then vs[0] else .tuple (List.toArray vs)) w' := by
      have e : results fn a'.tmps = (do let vs ← fn.results.mapM (rvSem a'.tmps); pure (if h : vs.size = 1 then vs[0] else .tuple vs)) := by
        unfold results
        congr 1
      rw [e, Array.mapM_eq_mapM_toList]
      simp only [Sem.run_bind, Sem.run_map, h1, Result.andThen_ok, Sem.run_pure]
      simp
    refine ⟨_, hrun, _, G.I, rfl, hb, hle, hni, S.val, ?_⟩
    have hlen := tc h2
    unfold resV
    split
    · rename_i r
      simp at hlen
      rw [dif_pos hlen]
      obtain ⟨v, h3, h4⟩ := tQ (j := 0) h2 rfl
      have : vs[0] = v := by rw [List.getElem?_eq_getElem (by omega)] at h3; exact Option.some.inj h3
      rw [this]; exact h4
    · rename_i h0
      have : ¬ vs.length = 1 := by
        intro h1
        rw [h1] at hlen
        match rs, hlen with
        | [r], _ => exact h0 r rfl
      rw [dif_neg this]
      exact ⟨vs, rfl, h2⟩
  cases e <;> first | exact fin q | exact q.elim
end Go.Al
namespace Go.Al
open Go.RowKit
mutual
def flatC : AV → Option (List Value)
  | .v x => bif x.cells.toList.all plain then some x.cells.toList else none
  | .arr n l => bif Nat.beq l.length n then some (l.map wr) else none
  | .agg ps => flatCs ps
  | .sl _ l => match l with | [] => some [.slice none 0 0] | _ => none
  | _ => none
def flatCs : List AV → Option (List Value)
  | [] => some []
  | p :: ps => match flatC p, flatCs ps with | some a, some b => some (a ++ b) | _, _ => none
end
mutual
theorem wJ {w : World} {I : Nat → Nat → Prop} : ∀ (x : AV) (cs : List Value), flatC x = some cs → RepC w I x cs
  | .v x, cs, h => by
    simp only [flatC] at h
    cases hp : x.cells.toList.all plain
    · rw [hp] at h; cases h
    · rw [hp] at h; cases h; simp only [RepC]; exact ⟨trivial, hp⟩
  | .arr n xs, cs, h => by
    simp only [flatC] at h
    cases hp : Nat.beq xs.length n
    · rw [hp] at h; cases h
    · rw [hp] at h; cases h
      simp only [RepC]; exact ⟨trivial, Nat.eq_of_beq_eq_true hp⟩
  | .agg ps, cs, h => by simp only [flatC] at h; simp only [RepC]; exact flatCs_spec ps cs h
  | .sl n l, cs, h => by
    cases l with
    | nil => simp only [flatC] at h; cases h; simp only [RepC]; exact ⟨_, rfl, .inl (by simpa using nil_sl 0)⟩
    | cons x l => simp [flatC] at h
  | .fn _ _ _, _, h => by simp [flatC] at h
  | .ifc _ _, _, h => by simp [flatC] at h
  | .cp _, _, h => by simp [flatC] at h
  | .mp _ _, _, h => by simp [flatC] at h
theorem flatCs_spec {w : World} {I : Nat → Nat → Prop} : ∀ (ps : List AV) (cs : List Value), flatCs ps = some cs → xH w I ps cs
  | [], cs, h => by simp only [flatCs] at h; cases h; simp only [xH]
  | p :: ps, cs, h => by
    simp only [flatCs] at h
    cases hp : flatC p with
    | none => rw [hp] at h; cases h
    | some a =>
      cases hps : flatCs ps with
      | none => rw [hp, hps] at h; cases h
      | some b =>
        rw [hp, hps] at h; cases h
        simp only [xH]
        exact ⟨a, b, rfl, wJ p a hp, flatCs_spec ps b hps⟩
end
def wS (P : Program) (T : TypeId) : Option Value := (P.info? T).bind (·.zero)
def yu (P : Program) (T : TypeId) (X : AV) : Prop := ∃ z, wS P T = some z ∧ flatC X = some z.cells.toList
theorem xB {P : Program} {T : TypeId} {z : Value} (hz : wS P T = some z) (w : World) : (zeroValue T).run P w = .ok z w := by
  unfold wS at hz
  cases hi : P.info? T with
  | none => rw [hi] at hz; cases hz
  | some i =>
    rw [hi] at hz
    simp only [Option.bind_some] at hz
    simp only [zeroValue, Sem.run_bind, we hi, Result.andThen_ok, hz]
    rfl
def fieldAt (P : Program) (T : TypeId) (f : Nat) (off n : Nat) (q : Bool) : Prop :=
  ∃ fs fld, P.underlying T = some (.struct fs) ∧ fs[f]? = some fld ∧ fld.offset = off ∧ yJ P fld.type = some n ∧ xd P fld.type = some q
theorem run_part {P : Program} {t : TypeId} {n off : Nat} {q : Bool} {cs : Array Value} {w : World} (hq : xd P t = some q) (hn : yJ P t = some n) (h1 : (q || Nat.beq n 1) = true) (hl : off + n ≤ cs.size) :
    (part t cs off).run P w = .ok (if q then .agg ((cs.toList.drop off).take n).toArray else ((cs.toList.drop off).take n).headD Go.undef) w := by
  simp only [part, Sem.run_bind, run_isAgg hq, Result.andThen_ok]
  cases q
  · simp only [Bool.false_or] at h1
    have := Nat.eq_of_beq_eq_true h1
    subst this
    have hlt : off < cs.size := by omega
    simp only [Bool.false_eq_true, if_false]
    rw [Array.getElem?_eq_getElem hlt]
    simp only [Sem.run_pure]
    congr 1
    have : (cs.toList.drop off).take 1 = [cs[off]] := by
      rw [List.drop_eq_getElem_cons (by simpa using hlt)]
      simp
    rw [this]; rfl
  · simp only [if_true, Sem.run_bind, yI hn, Result.andThen_ok, Sem.run_pure]
    congr 2
    apply Array.ext'
    simp [Array.toList_extract, List.extract, List.drop_take]
section
variable {C : Cx} {A : Nat → SV} {d : Nat} {ty : TypeId} {pos : String} {af : Array Edge} {gd : Option (Nat × Bool)} {x y : Operand} {T T' : TypeId}
theorem zy (g : Nat) {X : AV} (hgd : Nat.beq g d = false) (hgK : Nat.blt g C.K = true) (hN : Nat.blt d C.N = true) (hz : yu C.P T X) :
    zv C ⟨some d, .alloc T, ty, pos, af, gd⟩ [] [g] A [(g, .box T (.imm X)), (d, .ptr g 0)] := by
  obtain ⟨z, h1, h2⟩ := hz
  exact s_alloc g (z := z) hgd hgK hN h1 (fun w I => wJ X _ h2)
theorem s_field {f off n : Nat} {q : Bool} {X Y : AV} (hN : Nat.blt d C.N = true) (hx : opV A x = some X) (hX : X.isAgg = true) (hf : fieldAt C.P T f off n q) (h1 : (q || Nat.beq n 1) = true)
    (hY : getS 8 (.imm X) off n q = some (.imm Y)) : zv C ⟨some d, .field T x f, ty, pos, af, gd⟩ (opR x) [] A [(d, .imm Y)] := by
  refine zv.op1 rfl hN hx fun w I ρ h => ?_
  obtain ⟨c, hc1, hc2⟩ := h
  obtain ⟨fs, fld, hU, hfs, hoff, hn, hq⟩ := hf
  obtain ⟨k1, k2, k3, k4⟩ := vz (w := w) (G := ⟨I, fun _ => 0, fun _ => Go.undef, fun _ => 0⟩) 8 (.imm X) c off n q _ (by simpa only [RepS] using hc1) hY
  have hev : ρ x = .agg c.toArray := by rw [hc2]; simp only [mkV, hX, if_true]
  refine ⟨_, ?_, ⟨(c.drop off).take n, by simpa only [RepS] using k1, rfl⟩⟩
  simp only [execOp, Instr.field, hev, Sem.run_bind, za hU, Result.andThen_ok, hfs, asAgg, Sem.run_pure, hoff]
  rw [run_part hq hn h1 (by simpa using k4)]
  simp only [Result.andThen_ok, Sem.run_pure, mkV]
  simp only [SV.isAgg] at k2
  rw [k2]
def opPs (A : Nat → SV) : List (Nat × Operand) → Option (List (Nat × AV))
  | [] => some []
  | (i, x) :: xs => match opV A x, opPs A xs with | some a, some b => some ((i, a) :: b) | _, _ => none
def wA (P : Program) : List Field → Option (List (Nat × Nat))
  | [] => some []
  | f :: fs => match yJ P f.type, wA P fs with | some n, some r => some ((f.offset, n) :: r) | _, _ => none
def buildS (pl : Nat → Option (Nat × Nat)) : List (Nat × AV) → SV → Option SV
  | [], X => some X
  | (i, v) :: ps, X => match pl i with
    | some (off, n) => bif Nat.beq v.width n then (match setS 8 X off (.imm v) with | some X' => buildS pl ps X' | none => none) else none
    | none => none
def opPRs : List (Nat × Operand) → List Nat
  | [] => []
  | (_, x) :: xs => opR x ++ opPRs xs
theorem opPs_congr {A A' : Nat → SV} : ∀ {xs : List (Nat × Operand)}, (∀ k ∈ opPRs xs, A' k = A k) → opPs A' xs = opPs A xs
  | [], _ => rfl
  | (i, x) :: xs, h => by
    simp only [opPs]
    rw [yU (fun k hk => h k (List.mem_append_left _ hk)), opPs_congr (fun k hk => h k (List.mem_append_right _ hk))]
theorem ua : ∀ (vs : List Value) (cs : Array Value) (off k : Nat), (vs.zipIdx k).foldl (fun (cs : Array Value) (p : Value × Nat) => cs.setIfInBounds (off + p.2) p.1) cs = y3 cs (off + k) vs
  | [], cs, off, k => by simp [y3]
  | v :: vs, cs, off, k => by
    simp only [List.zipIdx_cons, List.foldl_cons, y3]
    rw [ua vs _ off (k + 1)]
    rw [show off + (k + 1) = off + k + 1 from by omega]
theorem run_fill {w : World} {G : Gh} {pl : Nat → Option (Nat × Nat)} {ρ : Operand → Value} : ∀ (ps : List (Nat × Operand)) (qs : List (Nat × AV)) (cs : Array Value) (X Y : SV),
    (∀ i : Nat, ∀ x : Operand, ∀ j : Nat, ps[j]? = some (i, x) → ∃ v, qs[j]? = some (i, v) ∧ Rep w G.I v (ρ x)) → qs.length = ps.length → RepS w G X cs.toList → buildS pl qs X = some Y →
    ∃ cs', Instr.fill pl cs (ps.map fun p => (p.1, ρ p.2)) = some cs' ∧ RepS w G Y cs'.toList
  | [], qs, cs, X, Y, _, hl, hX, hb => by
    cases qs with
    | nil => simp only [buildS] at hb; cases hb; exact ⟨cs, rfl, hX⟩
    | cons q qs => simp at hl
  | (i, x) :: ps, qs, cs, X, Y, h, hl, hX, hb => by
    obtain ⟨v, h1, h2⟩ := h i x 0 rfl
    cases qs with
    | nil => simp at h1
    | cons q qs =>
      simp at h1; subst h1
      simp only [buildS] at hb
      cases hpl : pl i with
      | none => rw [hpl] at hb; cases hb
      | some on =>
        obtain ⟨off, n⟩ := on
        rw [hpl] at hb
        simp only [] at hb
        cases hw : Nat.beq v.width n
        · rw [hw] at hb; cases hb
        · rw [hw] at hb
          simp only [cond_true] at hb
          cases hs : setS 8 X off (.imm v) with
          | none => rw [hs] at hb; cases hb
          | some X' =>
            rw [hs] at hb
            simp only [] at hb
            have hv : RepS w G (.imm v) (ρ x).cells.toList := by
              obtain ⟨c, k1, k2⟩ := h2
              rw [k2, tP k1]; simpa only [RepS] using k1
            have hvl := RepS.len _ _ hv
            simp only [SV.width, Array.length_toList] at hvl
            have hn := Nat.eq_of_beq_eq_true hw
            obtain ⟨m1, m2⟩ := tV hv 8 X cs.toList off X' hX hs
            simp only [Array.length_toList] at m2
            have e : (ρ x).cells.zipIdx.foldl (fun (cs : Array Value) (p : Value × Nat) => cs.setIfInBounds (off + p.2) p.1) cs = y3 cs off (ρ x).cells.toList := by
              rw [← Array.foldl_toList, Array.toList_zipIdx]
              exact ua _ cs off 0
            obtain ⟨cs', m3, m4⟩ := run_fill ps qs (y3 cs off (ρ x).cells.toList) X' Y (fun i x j hj => h i x (j + 1) (by simpa using hj)) (by simpa using hl)
              (by rw [xQ _ _ _ (by simpa using m2)]; exact m1) hb
            refine ⟨cs', ?_, m4⟩
            simp only [List.map_cons, Instr.fill, hpl]
            rw [if_neg (by simp; omega)]
            rw [e]; exact m3
theorem SimG.opPs {C : Cx} {A : Nat → SV} {G : Gh} {a : Act} {w : World} (S : SimG C A G a w) : ∀ {xs : List (Nat × Operand)} {ys : List (Nat × AV)}, Al.opPs A xs = some ys →
    ys.length = xs.length ∧ ∀ (i : Nat) (x : Operand) (j : Nat), xs[j]? = some (i, x) → ∃ v, ys[j]? = some (i, v) ∧ Rep w G.I v (a.eval x)
  | [], ys, h => by simp only [Al.opPs] at h; cases h; exact ⟨rfl, fun _ _ _ h => by simp at h⟩
  | (i0, x0) :: xs, ys, h => by
    simp only [Al.opPs] at h
    cases hx : Al.opV A x0 with
    | none => rw [hx] at h; cases h
    | some p =>
      cases hxs : Al.opPs A xs with
      | none => rw [hx, hxs] at h; cases h
      | some ps =>
        rw [hx, hxs] at h; cases h
        obtain ⟨h1, h2⟩ := SimG.opPs S hxs
        refine ⟨by simp [h1], fun i x j hj => ?_⟩
        cases j with
        | zero => simp at hj; obtain ⟨rfl, rfl⟩ := hj; exact ⟨p, rfl, S.opV hx⟩
        | succ j => simpa using h2 i x j (by simpa using hj)
theorem run_places {P : Program} : ∀ (fs : List Field) (r : List (Nat × Nat)), wA P fs = some r → ∀ w, (fs.mapM fun f => (do pure (f.offset, ← sizeOf f.type) : Sem (Nat × Nat))).run P w = .ok r w
  | [], r, h, w => by simp only [wA] at h; cases h; rfl
  | f :: fs, r, h, w => by
    simp only [wA] at h
    cases h1 : yJ P f.type with
    | none => rw [h1] at h; cases h
    | some n =>
      cases h2 : wA P fs with
      | none => rw [h1, h2] at h; cases h
      | some r' =>
        rw [h1, h2] at h; cases h
        simp only [List.mapM_cons, Sem.run_bind, yI h1, Result.andThen_ok, Sem.run_pure, run_places fs r' h2]
theorem yj {fs : Array Field} {pl : List (Nat × Nat)} {parts : Array (Nat × Operand)} {ps : List (Nat × AV)} {X0 r : AV} {Y : SV} (hN : Nat.blt d C.N = true) (hz : yu C.P T X0) (hU : C.P.underlying T = some (.struct fs)) (hpl : wA C.P fs.toList = some pl)
    (hp : opPs A parts.toList = some ps) (hb : buildS (pl[·]?) ps (.imm X0) = some Y) (hr : toAV Y = some r) (hag : Y.isAgg = true) :
    zv C ⟨some d, .build T parts, ty, pos, af, gd⟩ (opPRs parts.toList) [] A [(d, .imm r)] := by
  refine zv.value rfl hN fun A' G a w hR S => ?_
  rw [← opPs_congr hR] at hp
  obtain ⟨z, hz1, hz2⟩ := hz
  obtain ⟨h1, h2⟩ := S.opPs hp
  obtain ⟨cs', h3, h4⟩ := run_fill (w := w) (G := G) (ρ := a.eval) parts.toList ps z.cells (.imm X0) Y (fun i x j hj => h2 i x j hj) h1 (by simpa only [RepS] using wJ X0 _ hz2) hb
  refine ⟨.agg cs', ?_, yg.2 ⟨cs'.toList, uD Y r _ hr h4, by simp only [mkV, rG hr, hag, if_true]⟩⟩
  simp only [execOp, Instr.build, Sem.run_bind, xB hz1, Result.andThen_ok, za hU, Sem.run_pure]
  rw [Array.mapM_eq_mapM_toList]
  simp only [Sem.run_map, run_places _ _ hpl, Result.andThen_ok]
  have e : (parts.map fun (p : Nat × Operand) => (p.1, a.eval p.2)).toList = parts.toList.map fun p => (p.1, a.eval p.2) := by simp
  simp only [e]
  have e2 : (fun (i : Nat) => (pl.toArray)[i]?) = (fun i => pl[i]?) := by funext i; simp
  simp only [e2, h3]
  rfl
theorem s_build_arr {len n : Nat} {el : TypeId} {parts : Array (Nat × Operand)} {ps : List (Nat × AV)} {X0 r : AV} {Y : SV} (hN : Nat.blt d C.N = true) (hz : yu C.P T X0) (hU : C.P.underlying T = some (.array len el)) (hn : yJ C.P el = some n)
    (hp : opPs A parts.toList = some ps) (hb : buildS (fun i => some (i * n, n)) ps (.imm X0) = some Y) (hr : toAV Y = some r) (hag : Y.isAgg = true) :
    zv C ⟨some d, .build T parts, ty, pos, af, gd⟩ (opPRs parts.toList) [] A [(d, .imm r)] := by
  refine zv.value rfl hN fun A' G a w hR S => ?_
  rw [← opPs_congr hR] at hp
  obtain ⟨z, hz1, hz2⟩ := hz
  obtain ⟨h1, h2⟩ := S.opPs hp
  obtain ⟨cs', h3, h4⟩ := run_fill (w := w) (G := G) (ρ := a.eval) parts.toList ps z.cells (.imm X0) Y (fun i x j hj => h2 i x j hj) h1 (by simpa only [RepS] using wJ X0 _ hz2) hb
  refine ⟨.agg cs', ?_, yg.2 ⟨cs'.toList, uD Y r _ hr h4, by simp only [mkV, rG hr, hag, if_true]⟩⟩
  simp only [execOp, Instr.build, Sem.run_bind, xB hz1, Result.andThen_ok, za hU, Sem.run_pure, yI hn]
  have e : (parts.map fun (p : Nat × Operand) => (p.1, a.eval p.2)).toList = parts.toList.map fun p => (p.1, a.eval p.2) := by simp
  simp only [e, h3]
  rfl
end
end Go.Al
namespace Go.Al
open Go.RowKit
def eqFs (P : Program) (rec_ : TypeId → AV → AV → Option Bool) : List Field → Nat → List AV → List AV → Option Bool
  | [], _, [], [] => some true
  | f :: fs, off, p :: ps, q :: qs =>
    if f.name ≠ "_" ∧ f.offset = off ∧ yJ P f.type = some p.width ∧ q.width = p.width ∧ xd P f.type = some p.isAgg ∧ q.isAgg = p.isAgg ∧ (p.isAgg || Nat.beq p.width 1) = true then
      match rec_ f.type p q, eqFs P rec_ fs (off + p.width) ps qs with
      | some a, some b => some (a && b)
      | _, _ => none
    else none
  | _, _, _, _ => none
def eqV (P : Program) : Nat → TypeId → AV → AV → Option Bool
  | 0, _, _, _ => none
  | f + 1, T, x, y =>
    match P.underlying T with
    | some .bool => match x, y with | .v (.bool a), .v (.bool b) => some (a == b) | _, _ => none
    | some (.int _) => match x, y with | .v (.int k a), .v (.int k' b) => if k = k' then some (a == b) else none | _, _ => none
    | some .string => match x, y with | .v (.string a), .v (.string b) => some (a.toList == b.toList) | _, _ => none
    | some (.struct fs) => match x, y with
      | .agg ps, .agg qs => if P.stoodInHeld T = false then eqFs P (eqV P f) fs.toList 0 ps qs else none
      | _, _ => none
    | some (.array n e) => match x, y with
      | .arr m a, .arr k b => match f, P.underlying e with
        | _ + 1, some (.int .u8) => if m = n ∧ k = n ∧ yJ P e = some 1 then some (a == b) else none
        | _, _ => none
      | _, _ => none
    | _ => none
theorem sP {w : World} {I : Nat → Nat → Prop} {x : AV} {v : Value} (h : Rep w I x v) (hx : x.isAgg = true) : ∃ cs, v = .agg cs ∧ RepC w I x cs.toList := by
  obtain ⟨c, h1, h2⟩ := h
  exact ⟨c.toArray, by rw [h2]; simp only [mkV, hx, if_true], h1⟩
theorem run_eqFs {P : Program} {w : World} {I : Nat → Nat → Prop} {d : Nat} {rec_ : TypeId → AV → AV → Option Bool}
    (ih : ∀ T x y r u v, rec_ T x y = some r → Rep w I x u → Rep w I y v → (Op.equalIn d T u v).run P w = .ok r w) (xs ys : Array Value) :
    ∀ (fs : List Field) (off : Nat) (ps qs : List AV) (r : Bool), eqFs P rec_ fs off ps qs = some r →
      off ≤ xs.size → off ≤ ys.size → xH w I ps (xs.toList.drop off) → xH w I qs (ys.toList.drop off) → (Op.eqFields d xs ys fs).run P w = .ok r w
  | [], off, [], [], r, h, _, _, _, _ => by simp only [eqFs] at h; cases h; simp [Op.eqFields]
  | [], _, [], _ :: _, _, h, _, _, _, _ => by simp [eqFs] at h
  | [], _, _ :: _, _, _, h, _, _, _, _ => by simp [eqFs] at h
  | _ :: _, _, [], _, _, h, _, _, _, _ => by simp [eqFs] at h
  | _ :: _, _, _ :: _, [], _, h, _, _, _, _ => by simp [eqFs] at h
  | f :: fs, off, p :: ps, q :: qs, r, h, ox, oy, hx, hy => by
    simp only [eqFs] at h
    split at h
    · rename_i hc
      obtain ⟨h1, h2, h3, h4, h5, h6, h7⟩ := hc
      cases hr : rec_ f.type p q with
      | none => rw [hr] at h; cases h
      | some a =>
        cases hq : eqFs P rec_ fs (off + p.width) ps qs with
        | none => rw [hr, hq] at h; cases h
        | some b =>
          rw [hr, hq] at h; cases h
          simp only [xH] at hx hy
          obtain ⟨c1, c2, e1, e2, e3⟩ := hx
          obtain ⟨k1, k2, g1, g2, g3⟩ := hy
          have l1 := RepC.len p c1 e2
          have l2 := RepC.len q k1 g2
          have hl1 : off + p.width ≤ xs.size := by
            have := congrArg List.length e1
            simp only [List.length_drop, List.length_append, Array.length_toList] at this
            omega
          have hl2 : off + p.width ≤ ys.size := by
            have := congrArg List.length g1
            simp only [List.length_drop, List.length_append, Array.length_toList] at this
            omega
          have t1 : (xs.toList.drop off).take p.width = c1 := by rw [e1, List.take_append_of_le_length (by omega), List.take_of_length_le (by omega)]
          have t2 : (ys.toList.drop off).take p.width = k1 := by rw [g1, List.take_append_of_le_length (by omega), List.take_of_length_le (by omega)]
          have d1 : xs.toList.drop (off + p.width) = c2 := by rw [← List.drop_drop, e1, List.drop_append_of_le_length (by omega), List.drop_of_length_le (l := c1) (by omega), List.nil_append]
          have d2 : ys.toList.drop (off + p.width) = k2 := by rw [← List.drop_drop, g1, List.drop_append_of_le_length (by omega), List.drop_of_length_le (l := k1) (by omega), List.nil_append]
          have r1 : (part f.type xs off).run P w = .ok (mkV p c1) w := by
            rw [run_part h5 h3 h7 (by simpa using hl1), t1]; rfl
          have r2 : (part f.type ys off).run P w = .ok (mkV q k1) w := by
            rw [run_part h5 h3 h7 (by simpa using hl2), t2, ← h6]; rfl
          have r3 := ih f.type p q a _ _ hr ⟨c1, e2, rfl⟩ ⟨k1, g2, rfl⟩
          have r4 := run_eqFs ih xs ys fs (off + p.width) ps qs b hq hl1 hl2 (by rw [d1]; exact e3) (by rw [d2]; exact g3)
          simp only [Op.eqFields, h1, ne_eq, not_false_eq_true, if_true, Sem.run_bind, h2, r1, r2, r3, Result.andThen_ok]
          cases a
          · simp
          · simp [r4]
    · cases h
theorem run_eqV {P : Program} {w : World} {I : Nat → Nat → Prop} : ∀ (f e : Nat) (T : TypeId) (x y : AV) (r : Bool) (u v : Value), eqV P f T x y = some r → Rep w I x u → Rep w I y v → (Op.equalIn (f + e) T u v).run P w = .ok r w
  | 0, _, _, _, _, _, _, _, h, _, _ => by simp [eqV] at h
  | f + 1, e, T, x, y, r, u, v, h, hu, hv => by
    have hfe : f + 1 + e = (f + e) + 1 := by omega
    rw [hfe]
    simp only [eqV] at h
    split at h
    · rename_i hT
      split at h
      · cases h
        rw [sF hu, sF hv]; exact run_eqB hT _
      · cases h
    · rename_i k hT
      split at h
      · split at h
        · rename_i hk
          cases h; subst hk
          rw [yV hu, yV hv]; exact run_equalIn_int w _ _ _ _ _ _ hT
        · cases h
      · cases h
    · rename_i hT
      split at h
      · cases h
        rw [xk hu, xk hv]; exact run_equalIn_string w _ _ _ _ hT
      · cases h
    · rename_i fs hT
      split at h
      · rename_i ps qs
        split at h
        · rename_i hst
          obtain ⟨xs, rfl, hx⟩ := sP hu rfl
          obtain ⟨ys, rfl, hy⟩ := sP hv rfl
          have hf : P.fieldsOf T = fs := by simp [Program.fieldsOf, hT]
          rw [run_equalIn_struct w _ T xs ys (by rw [hf]; exact hT) hst, hf]
          simp only [RepC] at hx hy
          exact run_eqFs (rec_ := eqV P f) (fun T x y r u v h hu hv => run_eqV f e T x y r u v h hu hv) xs ys fs.toList 0 ps qs r h (Nat.zero_le _) (Nat.zero_le _) (by simpa using hx) (by simpa using hy)
        · cases h
      · cases h
    · rename_i n el hT
      split at h
      · rename_i m a k b
        split at h
        · rename_i f' hel
          split at h
          · rename_i hc
            obtain ⟨rfl, rfl, hsz⟩ := hc
            cases h
            obtain ⟨xs, rfl, hx⟩ := sP hu rfl
            obtain ⟨ys, rfl, hy⟩ := sP hv rfl
            simp only [RepC] at hx hy
            have ex : xs = (a.map Extern.Stop.cell).toArray := by
              have := hx.1
              apply Array.ext'
              simp only [this]; rfl
            have ey : ys = (b.map Extern.Stop.cell).toArray := by
              have := hy.1
              apply Array.ext'
              simp only [this]; rfl
            rw [ex, ey, show f' + 1 + e + 1 = (f' + e) + 2 from by omega]
            exact run_equalIn_bytes w _ _ _ _ hT hel (fun w => yI hsz w) a b hx.2 hy.2
          · cases h
        · cases h
      · cases h
    · cases h
section
variable {C : Cx} {A : Nat → SV} {d : Nat} {ty : TypeId} {pos : String} {af : Array Edge} {gd : Option (Nat × Bool)} {x y : Operand} {T T' : TypeId}
theorem s_eqA {a b : AV} {r : Bool} (hN : Nat.blt d C.N = true) (hx : opV A x = some a) (hy : opV A y = some b) (hg : C.P.eqGuardType C.P.depth T = false) (ha : a.isAgg = true) (hb : b.isAgg = true) (h : eqV C.P 100 T a b = some r) :
    zv C ⟨some d, .binOp .eql T x y T', ty, pos, af, gd⟩ (opR x ++ opR y) [] A [(d, .imm (.v (.bool r)))] :=
  zv.op2 rfl hN hx hy fun w I ρ h1 h2 => ⟨_, by
    have hr := run_eqV 100 9900 T a b r _ _ h h1 h2
    obtain ⟨xs, e1, _⟩ := sP h1 ha
    obtain ⟨ys, e2, _⟩ := sP h2 hb
    rw [e1, e2] at hr
    simp only [execOp, Sem.run_bind, e1, e2, run_eqGuard_agg w _ _ _ _ _ _ hg, Result.andThen_ok, run_eql_struct]
    rw [show (10000 : Nat) = 100 + 9900 from rfl, hr]
    simp only [Result.andThen_ok, Sem.run_pure], xm w I rfl⟩
theorem s_neA {a b : AV} {r : Bool} (hN : Nat.blt d C.N = true) (hx : opV A x = some a) (hy : opV A y = some b) (hg : C.P.eqGuardType C.P.depth T = false) (ha : a.isAgg = true) (hb : b.isAgg = true) (h : eqV C.P 100 T a b = some r) :
    zv C ⟨some d, .binOp .neq T x y T', ty, pos, af, gd⟩ (opR x ++ opR y) [] A [(d, .imm (.v (.bool (!r))))] :=
  zv.op2 rfl hN hx hy fun w I ρ h1 h2 => ⟨_, by
    have hr := run_eqV 100 9900 T a b r _ _ h h1 h2
    obtain ⟨xs, e1, _⟩ := sP h1 ha
    obtain ⟨ys, e2, _⟩ := sP h2 hb
    rw [e1, e2] at hr
    simp only [execOp, Sem.run_bind, e1, e2, run_eqGuard_agg w _ _ _ _ _ _ hg, Result.andThen_ok, run_neq_struct]
    rw [show (10000 : Nat) = 100 + 9900 from rfl, hr]
    simp only [Result.andThen_ok, Sem.run_pure], xm w I rfl⟩
theorem zk (g : Nat) {v : AV} (hgd : Nat.beq g d = false) (hgK : Nat.blt g C.K = true) (hN : Nat.blt d C.N = true) (h : opS A x = .imm v) :
    zv C ⟨some d, .box T x, ty, pos, af, gd⟩ (opR x) [g] A [(g, .box T (.imm v)), (d, .ptr g 0)] := s_box g hgd hgK hN h rfl (by simp only [noG])
theorem zF {g off o n : Nat} {f : Nat} {q : Bool} (hN : Nat.blt d C.N = true) (h : opS A x = .ptr g off) (hf : fieldAt C.P T f o n q) (h0 : Nat.blt 0 n = true) :
    zv C ⟨some d, .fieldAddr T x f, ty, pos, af, gd⟩ (opR x) [] A [(d, .ptr g (off + o))] := by
  refine zv.value rfl hN fun A' G a w hR S => ?_
  obtain ⟨c, hc1, hc2⟩ := S.opS ((yd hR).trans h) rfl
  simp only [RepS] at hc1
  have hev : a.eval x = .pointer (some ⟨G.blk g, off, none⟩) := by rw [hc2, hc1]; rfl
  obtain ⟨fs, fld, hU, hfs, hoff, hn, hq⟩ := hf
  refine ⟨.pointer (some ⟨G.blk g, off + o, none⟩), ?_, ⟨[.pointer (some ⟨G.blk g, off + o, none⟩)], by simp only [RepS], rfl⟩⟩
  have hn0 : n ≠ 0 := by have : 0 < n := by simpa [Nat.blt_eq] using h0
                         omega
  simp only [execOp, Instr.fieldAt, Instr.sureAddr, hev, Sem.run_bind, za hU, Result.andThen_ok, hfs, Sem.run_pure, fieldPlace, yI hn, hn0, if_false, xX, hoff]
theorem rep_cp {w : World} {I : Nat → Nat → Prop} {x : AV} {v : Value} (h : Rep w I (.cp x) v) : ∃ b o c, v = .pointer (some ⟨b, o, none⟩) ∧ RepC w I x c ∧ xP w I b o c := by
  obtain ⟨c, h1, h2⟩ := h
  simp only [RepC] at h1
  obtain ⟨b, o, c', rfl, h3, h4⟩ := h1
  exact ⟨b, o, c', h2, h3, h4⟩
theorem jY {w : World} {I : Nat → Nat → Prop} {x : AV} {b o : Nat} {c : List Value} (h1 : RepC w I x c) (h2 : xP w I b o c) : Rep w I (.cp x) (.pointer (some ⟨b, o, none⟩)) :=
  ⟨_, by simp only [RepC]; exact ⟨b, o, c, rfl, h1, h2⟩, rfl⟩
theorem xP.sub {w : World} {I : Nat → Nat → Prop} {b o : Nat} {c : List Value} (h : xP w I b o c) (off n : Nat) (hl : off + n ≤ c.length) : xP w I b (o + off) ((c.drop off).take n) := by
  intro j hj
  simp only [List.length_take, List.length_drop] at hj
  have := h (off + j) (by omega)
  simp only [List.getElem_take, List.getElem_drop]
  rw [show o + off + j = o + (off + j) from by omega]
  exact this
theorem getS_imm {w : World} {I : Nat → Nat → Prop} {X Y : AV} {c : List Value} {off n : Nat} {q : Bool} (hX : RepC w I X c) (h : getS 8 (.imm X) off n q = some (.imm Y)) :
    RepC w I Y ((c.drop off).take n) ∧ Y.isAgg = q ∧ Y.width = n ∧ off + n ≤ c.length := by
  have := vz (w := w) (G := ⟨I, fun _ => 0, fun _ => Go.undef, fun _ => 0⟩) 8 (.imm X) c off n q (.imm Y) (by simpa only [RepS] using hX) h
  simpa only [RepS, SV.isAgg, SV.width] using this
theorem zd {X Y : AV} {n : Nat} {q : Bool} (hN : Nat.blt d C.N = true) (h : opV A x = some (.cp X)) (hq : xd C.P T = some q) (hn : yJ C.P T = some n) (h1 : (q || Nat.beq n 1) = true)
    (hY : getS 8 (.imm X) 0 n q = some (.imm Y)) : zv C ⟨some d, .load T x, ty, pos, af, gd⟩ (opR x) [] A [(d, .imm Y)] := by
  refine zv.op1 rfl hN h fun w I ρ h' => ?_
  obtain ⟨b, o, c, e, h2, h3⟩ := rep_cp h'
  obtain ⟨k1, k2, k3, k4⟩ := getS_imm h2 hY
  have hlen : ((c.drop 0).take n).length = n := by rw [List.length_take, List.length_drop]; omega
  refine ⟨mkV Y ((c.drop 0).take n), ?_, ⟨_, k1, rfl⟩⟩
  simp only [execOp, Instr.loadAt, Instr.sureAddr, e, Sem.run_bind, Sem.run_pure, Result.andThen_ok]
  rw [vh (cs := (c.drop 0).take n) hq (by rw [hlen]; exact hn) (fun hq' => by rw [hlen]; subst hq'; simpa using h1) (fun j hj => by have := (h3.sub 0 n k4 j hj).1; rw [Nat.add_zero] at this; exact this)]
  simp only [Result.andThen_ok, mkV, k2]
theorem zf {X Y : AV} {f o n : Nat} {q : Bool} (hN : Nat.blt d C.N = true) (h : opV A x = some (.cp X)) (hf : fieldAt C.P T f o n q) (h0 : Nat.blt 0 n = true) (hY : getS 8 (.imm X) o n q = some (.imm Y)) :
    zv C ⟨some d, .fieldAddr T x f, ty, pos, af, gd⟩ (opR x) [] A [(d, .imm (.cp Y))] := by
  refine zv.op1 rfl hN h fun w I ρ h' => ?_
  obtain ⟨b, p, c, e, h2, h3⟩ := rep_cp h'
  obtain ⟨k1, k2, k3, k4⟩ := getS_imm h2 hY
  obtain ⟨fs, fld, hU, hfs, hoff, hn, hq⟩ := hf
  have hn0 : n ≠ 0 := by have : 0 < n := by simpa [Nat.blt_eq] using h0
                         omega
  refine ⟨_, ?_, jY k1 (h3.sub o n k4)⟩
  simp only [execOp, Instr.fieldAt, Instr.sureAddr, e, Sem.run_bind, za hU, Result.andThen_ok, hfs, Sem.run_pure, fieldPlace, yI hn, hn0, if_false, xX, hoff]
theorem repM_get {w : World} {I : Nat → Nat → Prop} {n : Nat} : ∀ (l : List AV) (b o i : Nat) (x : AV), RepM w I n l b o → l[i]? = some x → ∃ c, c.length = n ∧ RepC w I x c ∧ xP w I b (o + i * n) c
  | [], _, _, _, _, _, h => by simp at h
  | y :: l, b, o, i, x, r, h => by
    simp only [RepM] at r
    cases i with
    | zero => simp at h; subst h; simpa using r.1
    | succ i =>
      obtain ⟨c, h1, h2, h3⟩ := repM_get l b (o + n) i x r.2 (by simpa using h)
      refine ⟨c, h1, h2, ?_⟩
      rw [show o + (i + 1) * n = o + n + i * n from by rw [Nat.add_mul]; omega]
      exact h3
theorem rep_sl {w : World} {I : Nat → Nat → Prop} {n : Nat} {l : List AV} {v : Value} (h : Rep w I (.sl n l) v) :
    (∃ p cap, v = .slice p 0 cap ∧ l = [] ∧ cap ≤ maxLen ∧ (p = none → cap = 0)) ∨ ∃ b o cap, v = .slice (some ⟨b, o, none⟩) l.length cap ∧ l.length ≤ cap ∧ cap ≤ maxLen ∧ RepM w I n l b o := by
  obtain ⟨c, h1, h2⟩ := h
  simp only [RepC] at h1
  obtain ⟨u, rfl, h3⟩ := h1
  have : v = u := h2
  rw [this]; exact h3
theorem zR {el : TypeId} {n : Nat} {l : List AV} {i : Int} {k : IntKind} {e : AV} (hN : Nat.blt d C.N = true) (hx : opV A x = some (.sl n l)) (hy : opV A y = some (.v (.int k i))) (hT : C.P.underlying T = some (.slice el)) (hn : yJ C.P el = some n)
    (h0 : 0 ≤ i) (he : l[i.toNat]? = some e) : zv C ⟨some d, .indexAddr T x y, ty, pos, af, gd⟩ (opR x ++ opR y) [] A [(d, .imm (.cp e))] := by
  refine zv.op2 rfl hN hx hy fun w I ρ h1 h2 => ?_
  have hi := yV h2
  have hlt : i.toNat < l.length := (List.getElem?_eq_some_iff.1 he).1
  rcases rep_sl h1 with ⟨_, _, _, rfl, _⟩ | ⟨b, o, cap, e1, e2, e3, e4⟩
  · simp at he
  · obtain ⟨c, hc1, hc2, hc3⟩ := repM_get l b o i.toNat e e4 he
    refine ⟨_, ?_, jY hc2 hc3⟩
    have hb : 0 ≤ i ∧ i < (l.length : Int) := ⟨h0, by omega⟩
    simp only [execOp, Instr.indexAt, hi, e1, asIntOf, Sem.run_bind, Sem.run_pure, Result.andThen_ok, za hT, hb, and_self, if_true, yI hn, xX]
theorem z7 {el : TypeId} {n : Nat} {l : List AV} (hN : Nat.blt d C.N = true) (hx : opV A x = some (.sl n l)) (hT : C.P.underlying T = some (.slice el)) :
    zv C ⟨some d, .call { callee := .builtin .len, args := #[x], argTypes := #[T] }, ty, pos, af, gd⟩ (opR x) [] A [(d, .imm (.v (.int .i64 l.length)))] :=
  zv.op1 rfl hN hx fun w I ρ h1 => ⟨_, by
    rcases rep_sl h1 with ⟨p, cap, e, rfl, _⟩ | ⟨b, o, cap, e1, e2, e3, e4⟩
    · simp [execOp, resolve, invoke, builtin, Builtin.len_, e, za hT, goInt]
    · simp [execOp, resolve, invoke, builtin, Builtin.len_, e1, za hT, goInt], xm w I rfl⟩
end
theorem yB {C : Cx} {ops : Array Oper} {os : List Oper} {st : St} {tr : List Tr} {K : St → List Tr → Prop} {t : Nat} {b : Bool} (hb : look st t = .imm (.v (.bool b))) (h : b = true ∨ b = false → Go1 C ops os st tr K) : Go1 C ops os st tr K := h (by cases b <;> simp)
end Go.Al
namespace Go.Al
open Go.RowKit
theorem zw {C : Cx} {c : Code} {st : St} {Q : Exit → St → Prop} {ι : Type} (Inv : ι → St) (ok : ι → Prop) (μ : ι → Nat) (i0 : ι) (ok0 : ok i0) (h0 : sub st (Inv i0))
    (round : ∀ i, ok i → AW C c (Inv i) (thn (fun st' => ∃ j, ok j ∧ sub st' (Inv j) ∧ μ j < μ i) Q)) : AW C (.loop c) st Q := by
  refine aw_loop (ι := { i : ι // ok i }) (fun i => Inv i.1) (fun i => μ i.1) ⟨i0, ok0⟩ h0 fun i => ?_
  refine (round i.1 i.2).mono fun e st' q => ?_
  cases e <;> simp only [thn] at q ⊢ <;> first | exact q | (obtain ⟨j, h1, h2, h3⟩ := q; exact ⟨⟨j, h1⟩, h2, h3⟩)
theorem zX {st : St} {k : Nat} {K : IntKind} {n m : Int} (h : look st k = .imm (.v (.int K n))) (e : n = m) : look st k = .imm (.v (.int K m)) := by rw [h, e]
theorem xF {st : St} {k : Nat} {n m : Bool} (h : look st k = .imm (.v (.bool n))) (e : n = m) : look st k = .imm (.v (.bool m)) := by rw [h, e]
theorem look_imm {st : St} {k : Nat} {l m : AV} (h : look st k = .imm l) (e : l = m) : look st k = .imm m := by rw [h, e]
theorem yl {st : St} {k g n : Nat} {l m : List AV} (h : look st k = .slg g n l) (e : l = m) : look st k = .slg g n m := by rw [h, e]
theorem yf {st : St} {k n : Nat} {l m : List AV} (h : look st k = .tok n l) (e : l = m) : look st k = .tok n m := by rw [h, e]
theorem killT {b : Bool} {G : Prop} (h : b = false) (t : b = true) : G := by rw [h] at t; cases t
theorem killF {b : Bool} {G : Prop} (h : b = true) (t : b = false) : G := by rw [h] at t; cases t
theorem zO {n : Int} (h1 : -9223372036854775808 ≤ n) (h2 : n < 9223372036854775808) : IntKind.i64.wrap n = n := by
  simp only [IntKind.wrap, IntKind.bits, IntKind.signed, Bool.true_and]
  split
  · rename_i h; simp at h; omega
  · rename_i h; simp at h; omega
theorem xb {n : Int} (h1 : 0 ≤ n) (h2 : n < 18446744073709551616) : IntKind.u64.wrap n = n := by
  simp only [IntKind.wrap, IntKind.bits, IntKind.signed, Bool.false_and, Bool.false_eq_true, if_false]
  omega
theorem zi {n : Int} (h1 : -2147483648 ≤ n) (h2 : n < 2147483648) : IntKind.i32.wrap n = n := by
  simp only [IntKind.wrap, IntKind.bits, IntKind.signed, Bool.true_and]
  split
  · rename_i h; simp at h; omega
  · rename_i h; simp at h; omega
theorem wrap8 {n : Int} (h1 : 0 ≤ n) (h2 : n < 256) : IntKind.u8.wrap n = n := by
  simp only [IntKind.wrap, IntKind.bits, IntKind.signed, Bool.false_and, Bool.false_eq_true, if_false]
  omega
theorem repVs_nil {w : World} {I : Nat → Nat → Prop} : yc w I [] [] := by simp only [yc]
theorem repVs_cons {w : World} {I : Nat → Nat → Prop} {x : AV} {xs : List AV} {v : Value} {vs : List Value} (h : Rep w I x v) (k : yc w I xs vs) : yc w I (x :: xs) (v :: vs) := by
  obtain ⟨c, h1, h2⟩ := h
  simp only [yc]
  exact ⟨c, vs, by rw [h2], h1, k⟩
end Go.Al
namespace Go.Al
open Go.RowKit
def RepE (w : World) (I : Nat → Nat → Prop) (n : Nat) : List AV → List Value → Prop
  | [], cs => cs = []
  | p :: ps, cs => ∃ c1 c2, cs = c1 ++ c2 ∧ c1.length = n ∧ RepC w I p c1 ∧ RepE w I n ps c2
theorem RepE.len {w : World} {I : Nat → Nat → Prop} {n : Nat} : ∀ {l : List AV} {cs : List Value}, RepE w I n l cs → cs.length = l.length * n
  | [], _, h => by simp only [RepE] at h; simp [h]
  | p :: ps, cs, h => by
    simp only [RepE] at h
    obtain ⟨c1, c2, rfl, h1, _, h2⟩ := h
    rw [List.length_append, h1, RepE.len h2, List.length_cons, Nat.add_mul]; omega
theorem RepE.mono {w w' : World} {I I' : Nat → Nat → Prop} {n : Nat} (hle : Le w I w' I') : ∀ {l : List AV} {cs : List Value}, RepE w I n l cs → RepE w' I' n l cs
  | [], _, h => by simpa only [RepE] using h
  | p :: ps, cs, h => by
    simp only [RepE] at h ⊢
    obtain ⟨c1, c2, h0, h1, h2, h3⟩ := h
    exact ⟨c1, c2, h0, h1, RepC.mono hle _ _ h2, RepE.mono hle h3⟩
theorem RepE.append {w : World} {I : Nat → Nat → Prop} {n : Nat} : ∀ {l m : List AV} {cs ds : List Value}, RepE w I n l cs → RepE w I n m ds → RepE w I n (l ++ m) (cs ++ ds)
  | [], _, _, _, h, k => by simp only [RepE] at h; subst h; exact k
  | p :: ps, m, cs, ds, h, k => by
    simp only [RepE] at h
    obtain ⟨c1, c2, rfl, h1, h2, h3⟩ := h
    simp only [List.cons_append, RepE]
    exact ⟨c1, c2 ++ ds, by simp, h1, h2, RepE.append h3 k⟩
theorem RepE.plain {w : World} {I : Nat → Nat → Prop} {n : Nat} : ∀ {l : List AV} {cs : List Value}, RepE w I n l cs → cs.all Al.plain = true
  | [], _, h => by simp only [RepE] at h; simp [h]
  | p :: ps, cs, h => by
    simp only [RepE] at h
    obtain ⟨c1, c2, rfl, _, h2, h3⟩ := h
    rw [List.all_append, RepC.plain p c1 h2, RepE.plain h3]; rfl
theorem RepM.cells {w : World} {I : Nat → Nat → Prop} {n : Nat} : ∀ {l : List AV} {b o : Nat}, RepM w I n l b o → ∃ cs, RepE w I n l cs ∧ xP w I b o cs
  | [], b, o, _ => ⟨[], by simp only [RepE], fun j h => by simp at h⟩
  | p :: ps, b, o, h => by
    simp only [RepM] at h
    obtain ⟨⟨c, h1, h2, h3⟩, h4⟩ := h
    obtain ⟨cs, k1, k2⟩ := RepM.cells h4
    refine ⟨c ++ cs, by simp only [RepE]; exact ⟨c, cs, rfl, h1, h2, k1⟩, fun j hj => ?_⟩
    rw [List.length_append] at hj
    by_cases hjc : j < c.length
    · rw [List.getElem_append_left hjc]; exact h3 j hjc
    · rw [List.getElem_append_right (by omega)]
      have := k2 (j - c.length) (by omega)
      rw [show o + n + (j - c.length) = o + j from by omega] at this
      exact this
theorem RepE.mem {w : World} {I : Nat → Nat → Prop} {n : Nat} : ∀ {l : List AV} {cs : List Value} {b o : Nat}, RepE w I n l cs → xP w I b o cs → RepM w I n l b o
  | [], _, _, _, _, _ => by simp only [RepM]
  | p :: ps, cs, b, o, h, k => by
    simp only [RepE] at h
    obtain ⟨c1, c2, rfl, h1, h2, h3⟩ := h
    simp only [RepM]
    refine ⟨⟨c1, h1, h2, fun j hj => ?_⟩, RepE.mem h3 fun j hj => ?_⟩
    · have := k j (by rw [List.length_append]; omega)
      rw [List.getElem_append_left hj] at this; exact this
    · have := k (n + j) (by rw [List.length_append]; omega)
      rw [List.getElem_append_right (by omega)] at this
      simp only [h1, Nat.add_sub_cancel_left] at this
      rw [show o + n + j = o + (n + j) from by omega]
      exact this
theorem SimG.allocI {C : Cx} {A : Nat → SV} {G : Gh} {a : Act} {w : World} (S : SimG C A G a w) (cs : Array Value) (T : TypeId) (k : Nat) (fr : Nat × Nat := (0, 0)) :
    SimG C A { G with I := fun b o => G.I b o ∨ (b = w.heap.size ∧ o < k) } a (w.alloc (.cells cs T fr)) := by
  have hle : Le w G.I (w.alloc (.cells cs T fr)) (fun b o => G.I b o ∨ (b = w.heap.size ∧ o < k)) := fun b o h => ⟨.inl h, (Le.alloc S.val _ b o h).2⟩
  refine ⟨S.os, S.tape, S.output, by have := S.size; simp; omega, fun j h1 h2 => ?_, S.sub.trans hle, S.rel, S.glob.mono hle, fun b o h => ?_, fun b o h => ?_, S.nts, S.dfs, fun j => ?_, fun j j' b hj h1 h2 => ?_⟩
  · rw [tT (Nat.lt_of_lt_of_le h1 S.size)]; exact S.block j h1 h2
  · rcases h with h | ⟨rfl, _⟩
    · exact S.new b o h
    · exact .inr (.inl S.size)
  · rcases h with h | ⟨rfl, _⟩
    · exact Nat.lt_of_lt_of_le (S.val b o h) (by simp)
    · simp
  · refine (S.holds j).keep (Gs := []) hle (fun _ _ => ⟨rfl, .inl ⟨rfl, rfl⟩⟩) (xa.1 _) (by simp) (fun h => ⟨h, rfl⟩) (fun _ => ⟨rfl, rfl, rfl⟩) (fun b hb => ?_)
    have hlt := vr S hb
    refine ⟨tT hlt, fun o hi => ?_⟩
    rcases hi with h | ⟨rfl, _⟩
    · exact h
    · omega
  · exact S.apart j j' b hj (by revert h1; generalize A j = y; cases y <;> exact id) (by revert h2; generalize A j' = y; cases y <;> exact id)
theorem cellsAt_alloc {w : World} {I : Nat → Nat → Prop} {cs : Array Value} {T : TypeId} {k : Nat} {fr : Nat × Nat} (h : k ≤ cs.size) :
    xP (w.alloc (.cells cs T fr)) (fun b o => I b o ∨ (b = w.heap.size ∧ o < k)) w.heap.size 0 (cs.toList.take k) := by
  intro j hj
  simp only [List.length_take, Array.length_toList] at hj
  refine ⟨?_, .inr ⟨rfl, by omega⟩⟩
  rw [u_ jO, Nat.zero_add]
  simp only [List.getElem_take]
  rw [Array.getElem?_eq_getElem (by omega)]
  simp
theorem fill_all {w : World} {I : Nat → Nat → Prop} {n : Nat} {ρ : Operand → Value} : ∀ (xs : List Operand) (ys : List AV) (i : Nat) (done : List Value) (cs : Array Value), yc w I ys (xs.map ρ) → (∀ y ∈ ys, y.width = n) →
    done.length = i * n → (∃ rest, cs.toList = done ++ rest ∧ rest.length = ys.length * n) →
    ∃ cs', Instr.fill (fun i => some (i * n, n)) cs ((xs.zipIdx i).map fun p => (p.2, ρ p.1)) = some cs' ∧ ∃ es, RepE w I n ys es ∧ cs'.toList = done ++ es
  | [], ys, i, done, cs, h, _, hd, ⟨rest, h1, h2⟩ => by
    cases ys with
    | nil =>
      simp at h2
      exact ⟨cs, rfl, [], by simp only [RepE], by rw [h1, h2]⟩
    | cons y ys => simp only [List.map_nil, yc] at h; obtain ⟨_, _, h, _⟩ := h; cases h
  | x :: xs, ys, i, done, cs, h, hw, hd, ⟨rest, h1, h2⟩ => by
    cases ys with
    | nil => simp [yc] at h
    | cons y ys =>
      simp only [List.map_cons, yc] at h
      obtain ⟨c, r, he, hc, hr⟩ := h
      simp only [List.cons.injEq] at he
      obtain ⟨hx, rfl⟩ := he
      have hcl := RepC.len y c hc
      have hy : y.width = n := hw y List.mem_cons_self
      have hcells : (ρ x).cells.toList = c := by rw [hx, tP hc]
      have hsz : (ρ x).cells.size = n := by rw [← Array.length_toList, hcells, hcl, hy]
      have hlen : cs.size = done.length + rest.length := by rw [← Array.length_toList, h1, List.length_append]
      simp only [List.length_cons] at h2
      have h2' : rest.length = ys.length * n + n := by rw [h2, Nat.add_mul]; omega
      have e : (ρ x).cells.zipIdx.foldl (fun (cs : Array Value) (p : Value × Nat) => cs.setIfInBounds (i * n + p.2) p.1) cs = y3 cs (i * n) (ρ x).cells.toList := by
        rw [← Array.foldl_toList, Array.toList_zipIdx]
        exact ua _ cs (i * n) 0
      have hsp : (y3 cs (i * n) c).toList = (done ++ c) ++ rest.drop n := by
        rw [xQ _ _ _ (by omega), h1, ← hd, List.take_left, List.drop_append, List.drop_of_length_le (l := done) (by omega), List.nil_append,
          show done.length + c.length - done.length = n from by omega]
      obtain ⟨cs', k1, es, k2, k3⟩ := fill_all xs ys (i + 1) (done ++ c) (y3 cs (i * n) c) hr (fun y' hy' => hw y' (List.mem_cons_of_mem _ hy'))
        (by rw [List.length_append, hd, hcl, hy, Nat.add_mul]; omega) ⟨rest.drop n, hsp, by rw [List.length_drop]; omega⟩
      refine ⟨cs', ?_, c ++ es, ?_, by rw [k3]; simp⟩
      · simp only [List.zipIdx_cons, List.map_cons, Instr.fill]
        rw [if_neg (by simp; omega), e, hcells]
        exact k1
      · simp only [RepE]; exact ⟨c, es, rfl, by omega, hc, k2⟩
def litOps : Nat → List (Nat × Operand) → Option (List Operand)
  | _, [] => some []
  | i, (j, x) :: r => if i = j then (litOps (i + 1) r).map (x :: ·) else none
theorem litOps_spec : ∀ (ps : List (Nat × Operand)) (i : Nat) (xs : List Operand), litOps i ps = some xs → ps = (xs.zipIdx i).map fun p => (p.2, p.1)
  | [], i, xs, h => by simp only [litOps] at h; cases h; rfl
  | (j, x) :: r, i, xs, h => by
    simp only [litOps] at h
    split at h
    · rename_i hij; subst hij
      cases hr : litOps (i + 1) r with
      | none => rw [hr] at h; cases h
      | some ys =>
        rw [hr] at h; cases h
        simp only [List.zipIdx_cons, List.map_cons]
        rw [← litOps_spec r (i + 1) ys hr]
    · cases h
section
variable {C : Cx} {A : Nat → SV} {d : Nat} {ty : TypeId} {pos : String} {af : Array Edge} {gd : Option (Nat × Bool)} {x y : Operand} {T T' : TypeId}
theorem run_buildSlice {P : Program} {w : World} {I : Nat → Nat → Prop} {ρ : Operand → Value} {T el : TypeId} {len n : Nat} {z : Value} {parts : Array (Nat × Operand)} {xs : List Operand} {ys : List AV}
    (hT : P.underlying T = some (.slice el)) (hn : yJ P el = some n) (hz : wS P el = some z) (hzn : z.cells.size = n) (h0 : 0 < n) (hp : litOps 0 parts.toList = some xs) (hl : xs.length = len) (hl0 : 0 < len) (hb : len * n ≤ 16777216)
    (hy : yc w I ys (xs.map ρ)) (hw : ∀ y ∈ ys, y.width = n) :
    ∃ cs : Array Value, (Instr.buildSlice T len (parts.map fun (i, x) => (i, ρ x))).run P w = .ok (.slice (some ⟨w.heap.size, 0, none⟩) len len) (w.alloc (.cells cs el)) ∧ RepE w I n ys cs.toList := by
  have hyl := tc hy
  rw [List.length_map] at hyl
  have hcs : ((Array.range (len * n)).map (z.cells[· % z.cells.size]!)).size = len * n := by simp
  obtain ⟨cs', k1, es, k2, k3⟩ := fill_all (n := n) xs ys 0 [] ((Array.range (len * n)).map (z.cells[· % z.cells.size]!)) hy hw (by simp) ⟨_, rfl, by rw [Array.length_toList, hcs, ← hyl, hl]⟩
  refine ⟨cs', ?_, by rw [k3]; simpa using k2⟩
  have hne : ¬ (len * n = 0) := by
    have := Nat.mul_pos hl0 h0
    omega
  have hpl : (parts.map fun (p : Nat × Operand) => (p.1, ρ p.2)).toList = (xs.zipIdx 0).map fun p => (p.2, ρ p.1) := by
    rw [Array.toList_map, litOps_spec _ _ _ hp, List.map_map]; rfl
  simp only [Instr.buildSlice, Sem.run_bind, za hT, Result.andThen_ok, yI hn]
  rw [if_neg (by omega)]
  simp only [Sem.run_bind, Sem.run_pure, Result.andThen_ok, hne, if_false, xB hz]
  simp only [hpl, k1]
  simp only [Sem.run_bind, newRow, run_newObj, Result.andThen_ok, Sem.run_pure]
  rfl
theorem zl {el : TypeId} {len n : Nat} {X0 : AV} {parts : Array (Nat × Operand)} {xs : List Operand} {ys : List AV} (hN : Nat.blt d C.N = true) (hT : C.P.underlying T = some (.slice el)) (hn : yJ C.P el = some n) (hz : yu C.P el X0) (hX : Nat.beq X0.width n = true)
    (h0 : Nat.blt 0 n = true) (hp : litOps 0 parts.toList = some xs) (hl : Nat.beq xs.length len = true) (hl0 : Nat.blt 0 len = true) (hb : Nat.ble (len * n) 16777216 = true) (hy : opVs A xs = some ys) (hw : ys.all (fun y => Nat.beq y.width n) = true) :
    zv C ⟨some d, .buildSlice T len parts, ty, pos, af, gd⟩ (opRs xs) [] A [(d, .imm (.sl n ys))] := by
  intro A' a w hR hF ⟨G, S⟩
  rw [← tH hR] at hy
  obtain ⟨z, hz1, hz2⟩ := hz
  have hzl : z.cells.size = n := by
    have := RepC.len X0 _ (wJ (w := w) (I := G.I) X0 _ hz2)
    rw [← Array.length_toList, this]; exact Nat.eq_of_beq_eq_true hX
  have hlen := Nat.eq_of_beq_eq_true hl
  obtain ⟨cs, k1, k2⟩ := run_buildSlice (ρ := a.eval) hT hn hz1 hzl (by simpa [Nat.blt_eq] using h0) hp hlen (by simpa [Nat.blt_eq] using hl0) (Nat.le_of_ble_eq_true hb) (S.opVs hy)
    (fun y hy' => Nat.eq_of_beq_eq_true (List.all_eq_true.1 hw y hy'))
  have hsz : cs.size = ys.length * n := by rw [← Array.length_toList]; exact k2.len
  have hyl : ys.length = len := by
    have := tc (S.opVs hy)
    rw [List.length_map] at this; omega
  unfold Oper.wp
  simp only [execOp, Sem.run_bind, k1, Result.andThen_ok, Sem.run_pure, Oper.upon_value]
  have S' := S.allocI cs el cs.size
  have hle : Le w G.I (w.alloc (.cells cs el)) (fun b o => G.I b o ∨ (b = w.heap.size ∧ o < cs.size)) := fun b o h => ⟨.inl h, (Le.alloc S.val _ b o h).2⟩
  have hcell := cellsAt_alloc (w := w) (I := G.I) (T := el) (fr := (0, 0)) (Nat.le_refl cs.size)
  rw [List.take_of_length_le (by simp)] at hcell
  refine ⟨_, S'.put (by simpa [Nat.blt_eq] using hN) (yg.2 ⟨[_], ?_, rfl⟩)⟩
  simp only [RepC]
  refine ⟨_, rfl, .inr ⟨w.heap.size, 0, len, by rw [hyl], by omega, ?_, (k2.mono hle).mem hcell⟩⟩
  have h0' : 0 < n := by simpa [Nat.blt_eq] using h0
  have := Nat.le_of_ble_eq_true hb
  have : len ≤ len * n := Nat.le_mul_of_pos_right _ h0'
  unfold maxLen; omega
end
end Go.Al
namespace Go.Al
open Go.RowKit
theorem wO (A : Nat → SV) (g : Nat) (x : SV) (k : Nat) : upd A [(g, x)] k = if k = g then x else A k := by
  simp only [upd]
  by_cases h1 : k = g
  · subst h1; simp
  · rw [zM (Ne.symm h1), if_neg h1]; rfl
theorem xz {a b n : Nat} (h : a ≤ b) : a * n ≤ b * n := Nat.mul_le_mul_right n h
theorem SimG.appendFit {C : Cx} {A : Nat → SV} {G : Gh} {a : Act} {w : World} (S : SimG C A G a w) {g n b cap : Nat} {l m : List AV} {es : List Value} {cs : Array Value} {T : TypeId} {fr : Nat × Nat}
    (hA : A g = .tok n l) (hc : G.cur g = .slice (some ⟨b, 0, none⟩) l.length cap) (hcap : cap ≤ maxLen) (hb : w.heap[b]? = some (.cells cs T fr)) (hsz : cs.size = cap * n) (hfit : l.length + m.length ≤ cap) (hes : RepE w G.I n m es) :
    ∃ G', SimG C (upd A [(g, .tok n (l ++ m))]) G' a (yR w b (.cells (y3 cs (l.length * n) es) T fr)) ∧
      ValS (yR w b (.cells (y3 cs (l.length * n) es) T fr)) G' (.slg g n (l ++ m)) (.slice (some ⟨b, 0, none⟩) (l.length + m.length) cap) := by
  have ht := S.holds g
  rw [hA] at ht
  simp only [Holds] at ht
  obtain ⟨hlen, ht⟩ := ht
  rcases ht with ⟨e, _⟩ | ⟨b', cap', e, h2, h3, h4, h5, ⟨cs', T', fr', h6, h7, h8⟩, h9⟩
  · rw [e] at hc; cases hc
  · rw [e] at hc
    simp only [Value.slice.injEq, Option.some.injEq, Addr.mk.injEq, true_and, and_true] at hc
    obtain ⟨rfl, rfl⟩ := hc
    rw [h6] at hb
    simp only [Option.some.injEq, Obj.cells.injEq] at hb
    obtain ⟨rfl, rfl, rfl⟩ := hb
    have hel := hes.len
    have hmul : (l.length + m.length) * n = l.length * n + m.length * n := Nat.add_mul _ _ _
    have hle1 : (l.length + m.length) * n ≤ cap' * n := xz hfit
    have hlt : b' < w.heap.size := h5.2
    let I' : Nat → Nat → Prop := fun c o => G.I c o ∨ (c = b' ∧ l.length * n ≤ o ∧ o < (l.length + m.length) * n)
    let w' := yR w b' (.cells (y3 cs' (l.length * n) es) T' fr')
    let G' : Gh := { I := I', blk := G.blk, cur := fun k => if k = g then .slice (some ⟨b', 0, none⟩) (l.length + m.length) cap' else G.cur k, len := fun k => if k = g then l.length + m.length else G.len k }
    have hspl : (y3 cs' (l.length * n) es).toList = cs'.toList.take (l.length * n) ++ es ++ cs'.toList.drop (l.length * n + es.length) := xQ _ _ _ (by omega)
    have hcell : ∀ o : Nat, (y3 cs' (l.length * n) es)[o]? = (cs'.toList.take (l.length * n) ++ es ++ cs'.toList.drop (l.length * n + es.length))[o]? := by intro o; rw [← hspl]; simp
    have htk : (cs'.toList.take (l.length * n)).length = l.length * n := by
      have : cs'.toList.length = cap' * n := h7
      rw [List.length_take, this]; omega
    have hle : Le w G.I w' I' := by
      intro c o hi
      refine ⟨.inl hi, ?_⟩
      by_cases hcb : c = b'
      · refine ⟨?_, fun es' ck h => by rw [hcb, h6] at h; cases h⟩
        subst hcb
        have ho : o < l.length * n := by
          rcases Nat.lt_or_ge o (l.length * n) with h | h
          · exact h
          · exact absurd hi (h9 o h)
        show (yR w c (.cells (y3 cs' (l.length * n) es) T' fr')).cell? ⟨c, o, none⟩ = w.cell? ⟨c, o, none⟩
        rw [u_ (wI hlt), u_ h6, hcell, List.append_assoc, List.getElem?_append_left (by omega), List.getElem?_take, if_pos ho]
        simp
      · exact y7 (xJ hcb)
    have hg : GRel [] G G' := by
      intro k _
      refine ⟨rfl, ?_⟩
      by_cases hk : k = g
      · subst hk
        rcases Nat.eq_zero_or_pos m.length with h0 | h0
        · refine .inl ⟨?_, ?_⟩
          · simp only [G', if_true, h0, Nat.add_zero]; exact e.symm
          · simp only [G', if_true, h0, Nat.add_zero]; exact hlen.symm
        · right; simp only [G', if_true]; omega
      · left; simp only [G', if_neg hk]; exact ⟨trivial, trivial⟩
    have hesAt : xP w' I' b' (l.length * n) es := by
      intro j hj
      refine ⟨?_, .inr ⟨rfl, by omega, by omega⟩⟩
      show (yR w b' (.cells (y3 cs' (l.length * n) es) T' fr')).cell? ⟨b', l.length * n + j, none⟩ = _
      rw [u_ (wI hlt), hcell, List.append_assoc, List.getElem?_append_right (by omega), htk, Nat.add_sub_cancel_left, List.getElem?_append_left hj]
      simp
    have hM : RepM w' I' n (l ++ m) b' 0 := by
      obtain ⟨ds, k1, k2⟩ := (RepM.mono hle n l b' 0 h4).cells
      refine (k1.append (hes.mono hle)).mem ?_
      have hdl := k1.len
      intro j hj
      rw [List.length_append] at hj
      by_cases hjd : j < ds.length
      · rw [List.getElem_append_left hjd]; exact k2 j hjd
      · rw [List.getElem_append_right (by omega)]
        have := hesAt (j - ds.length) (by omega)
        rw [show l.length * n + (j - ds.length) = 0 + j from by omega] at this
        exact this
    have own' : ∀ k c, zm G' k c (upd A [(g, .tok n (l ++ m))] k) → zm G k c (A k) := by
      intro k c h
      rw [wO] at h
      split at h
      · rename_i hk; subst hk
        simp only [zm, G', if_true] at h
        obtain ⟨ad, n', c', h1, h2⟩ := h
        simp only [Value.slice.injEq, Option.some.injEq] at h1
        rw [hA]
        exact ⟨⟨b', 0, none⟩, _, _, e, by rw [← h2, ← h1.1]⟩
      · rename_i hk
        revert h
        generalize A k = y
        cases y <;> simp only [zm, G', if_neg hk] <;> exact id
    refine ⟨G', ⟨S.os, S.tape, S.output, by show C.w0.heap.size ≤ (yR w b' _).heap.size; rw [yT]; exact S.size, fun k h1 h2' => ?_, S.sub.trans hle, fun k hk => (S.rel k hk).trans (hg k (by simp)), S.glob.mono hle, fun c o h => ?_, fun c o h => ?_, S.nts, S.dfs, fun k => ?_, fun k j c hkj h1 h2' => S.apart k j c hkj (own' k c h1) (own' j c h2')⟩, ?_⟩
    · have : k ≠ b' := by
        rintro rfl
        rcases h5.1 with h | h
        · omega
        · exact h2' h
      show (yR w b' _).heap[k]? = _
      rw [xJ this]; exact S.block k h1 h2'
    · rcases h with h | ⟨rfl, _, _⟩
      · exact S.new c o h
      · exact .inr h5.1
    · show c < (yR w b' _).heap.size
      rw [yT]
      rcases h with h | ⟨rfl, _, _⟩
      · exact S.val c o h
      · exact hlt
    · rw [wO]
      split
      · rename_i hk; subst hk
        simp only [Holds, G', if_true, List.length_append]
        refine ⟨trivial, .inr ⟨b', cap', by rw [List.length_append], by rw [List.length_append]; exact hfit, h3, hM, ⟨h5.1, by show b' < (yR w b' _).heap.size; rw [yT]; exact hlt⟩, ⟨y3 cs' (l.length * n) es, T', fr', wI hlt, by rw [wQ]; exact h7, by rw [wQ]; exact h8⟩, ?_⟩⟩
        intro o ho hi
        rw [List.length_append] at ho
        rcases hi with hi | ⟨_, h1, h2'⟩
        · exact h9 o (by rw [hmul] at ho; omega) hi
        · omega
      · rename_i hk
        refine (S.holds k).keep hle hg (xa.1 _) (by show w.heap.size ≤ (yR w b' _).heap.size; rw [yT]; exact Nat.le_refl _) (fun h => ⟨h, rfl⟩) (fun _ => ⟨rfl, by simp only [G', if_neg hk], by simp only [G', if_neg hk]⟩) (fun c hc => ?_)
        have hcb : c ≠ b' := by
          rintro rfl
          exact S.apart k g c hk hc (by rw [hA]; exact ⟨⟨c, 0, none⟩, _, _, e, rfl⟩)
        refine ⟨xJ hcb, fun o hi => ?_⟩
        rcases hi with hi | ⟨h1, _, _⟩
        · exact hi
        · exact absurd h1 hcb
    · refine ⟨[.slice (some ⟨b', 0, none⟩) (l.length + m.length) cap'], ?_, rfl⟩
      simp only [RepS, RepC]
      refine ⟨_, rfl, ⟨_, rfl, .inr ⟨b', 0, cap', by rw [List.length_append], by rw [List.length_append]; exact hfit, h3, hM⟩⟩, by simp only [G', if_true, List.length_append]; omega, fun _ => by simp only [G', if_true]⟩
theorem SimG.appendNew {C : Cx} {A : Nat → SV} {G : Gh} {a : Act} {w : World} (S : SimG C A G a w) {g n cap : Nat} {l m : List AV} {es : List Value} {cs : Array Value} {T : TypeId}
    (hfr : ∀ k, k ≠ g → noG [g] (A k) = true ∨ (∃ l0, A g = .tok n l0 ∧ l0.length < (l ++ m).length)) (hcap : cap ≤ maxLen) (hfit : (l ++ m).length ≤ cap) (hes : RepE w G.I n (l ++ m) es) (hcs : cs.toList.take ((l ++ m).length * n) = es) (hsz : cs.size = cap * n)
    (hgr : g < C.K ∨ ∃ l0, A g = .tok n l0 ∧ l0.length < (l ++ m).length) :
    ∃ G', SimG C (upd A [(g, .tok n (l ++ m))]) G' a (w.alloc (.cells cs T)) ∧ ValS (w.alloc (.cells cs T)) G' (.slg g n (l ++ m)) (.slice (some ⟨w.heap.size, 0, none⟩) (l ++ m).length cap) := by
  generalize l ++ m = q at *
  let I' : Nat → Nat → Prop := fun b o => G.I b o ∨ (b = w.heap.size ∧ o < q.length * n)
  let G' : Gh := { I := I', blk := G.blk, cur := fun k => if k = g then .slice (some ⟨w.heap.size, 0, none⟩) q.length cap else G.cur k, len := fun k => if k = g then q.length else G.len k }
  have hturn : ∀ k, C.K ≤ k → Turns G G' k := by
    intro k hk
    refine ⟨rfl, ?_⟩
    by_cases hkg : k = g
    · subst hkg
      rcases hgr with h | ⟨l0, h1, h2⟩
      · omega
      · have hh := S.holds k
        rw [h1] at hh
        simp only [Holds] at hh
        right; simp only [G', if_true]; rw [hh.1]; exact h2
    · left; simp only [G', if_neg hkg]; exact ⟨trivial, trivial⟩
  have hle : Le w G.I (w.alloc (.cells cs T)) I' := fun b o h => ⟨.inl h, (Le.alloc S.val _ b o h).2⟩
  have hmul : q.length * n ≤ cap * n := xz hfit
  have hcell := cellsAt_alloc (w := w) (I := G.I) (T := T) (cs := cs) (k := q.length * n) (fr := (0, 0)) (by omega)
  rw [hcs] at hcell
  have hM : RepM (w.alloc (.cells cs T)) I' n q w.heap.size 0 := (hes.mono hle).mem hcell
  have own' : ∀ k c, zm G' k c (upd A [(g, .tok n q)] k) → (k = g ∧ c = w.heap.size) ∨ (k ≠ g ∧ zm G k c (A k)) := by
    intro k c h
    rw [wO] at h
    split at h
    · rename_i hk; subst hk
      simp only [zm, G', if_true] at h
      obtain ⟨ad, n', c', h1, h2⟩ := h
      simp only [Value.slice.injEq, Option.some.injEq] at h1
      exact .inl ⟨rfl, by rw [← h2, ← h1.1]⟩
    · rename_i hk
      refine .inr ⟨hk, ?_⟩
      revert h
      generalize A k = y
      cases y <;> simp only [zm, G', if_neg hk] <;> exact id
  refine ⟨G', ⟨S.os, S.tape, S.output, by have := S.size; simp; omega, fun k h1 h2 => ?_, S.sub.trans hle, fun k hk => (S.rel k hk).trans (hturn k hk), S.glob.mono hle, fun b o h => ?_, fun b o h => ?_, S.nts, S.dfs, fun k => ?_, fun k j b hkj h1 h2 => ?_⟩, ?_⟩
  · rw [tT (Nat.lt_of_lt_of_le h1 S.size)]; exact S.block k h1 h2
  · rcases h with h | ⟨rfl, _⟩
    · exact S.new b o h
    · exact .inr (.inl S.size)
  · rcases h with h | ⟨rfl, _⟩
    · exact Nat.lt_of_lt_of_le (S.val b o h) (by simp)
    · simp
  · rw [wO]
    split
    · rename_i hk; subst hk
      simp only [Holds, G', if_true]
      refine ⟨trivial, .inr ⟨w.heap.size, cap, rfl, hfit, hcap, hM, ⟨.inl S.size, by simp⟩, ⟨cs, T, (0, 0), jO, hsz, fun o _ => by simp⟩, ?_⟩⟩
      intro o ho hi
      rcases hi with hi | ⟨_, h2⟩
      · have := S.val _ _ hi; omega
      · omega
    · rename_i hk
      have hrel : ∃ Gs, GRel Gs G G' ∧ noG Gs (A k) = true := by
        rcases hfr k hk with h | ⟨l0, h1, h2⟩
        · refine ⟨[g], fun j hj => ⟨rfl, ?_⟩, h⟩
          have hjg : j ≠ g := by simpa using hj
          left; simp only [G', if_neg hjg]; exact ⟨trivial, trivial⟩
        · refine ⟨[], fun j _ => ⟨rfl, ?_⟩, xa.1 _⟩
          by_cases hj : j = g
          · subst hj
            have hh := S.holds j
            rw [h1] at hh
            simp only [Holds] at hh
            right; simp only [G', if_true]; rw [hh.1]; exact h2
          · left; simp only [G', if_neg hj]; exact ⟨trivial, trivial⟩
      obtain ⟨Gs, hg, hn⟩ := hrel
      refine (S.holds k).keep hle hg hn (by simp) (fun h => ⟨h, rfl⟩) (fun _ => ⟨rfl, by simp only [G', if_neg hk], by simp only [G', if_neg hk]⟩) (fun c hc => ?_)
      have hlt := vr S hc
      refine ⟨tT hlt, fun o hi => ?_⟩
      rcases hi with hi | ⟨rfl, _⟩
      · exact hi
      · omega
  · rcases own' k b h1 with ⟨e1, e2⟩ | ⟨e1, e2⟩
    · rcases own' j b h2 with ⟨e3, e4⟩ | ⟨e3, e4⟩
      · exact hkj (e1.trans e3.symm)
      · have := vr S e4; omega
    · rcases own' j b h2 with ⟨e3, e4⟩ | ⟨e3, e4⟩
      · have := vr S e2; omega
      · exact S.apart k j b hkj e2 e4
  · refine ⟨[.slice (some ⟨w.heap.size, 0, none⟩) q.length cap], ?_, rfl⟩
    simp only [RepS, RepC]
    exact ⟨_, rfl, ⟨_, rfl, .inr ⟨w.heap.size, 0, cap, rfl, hfit, hcap, hM⟩⟩, by simp only [G', if_true]; omega, fun _ => by simp only [G', if_true]⟩
theorem run_firstCells {P : Program} {w : World} {I : Nat → Nat → Prop} {n : Nat} {m : List AV} {v : Value} (h : Rep w I (.sl n m) v) :
    ∃ es, RepE w I n m es ∧ ∀ w0 : World, w0.heap = w.heap → (Builtin.lenOf v).run P w0 = .ok m.length w0 ∧ (Builtin.firstCells n m.length v).run P w0 = .ok es.toArray w0 := by
  rcases rep_sl h with ⟨p, cap, rfl, rfl, _, _⟩ | ⟨b, o, cap, rfl, h2, h3, h4⟩
  · exact ⟨[], by simp only [RepE], fun _ _ => ⟨rfl, by cases p <;> first | rfl | (simp only [Builtin.firstCells, List.length_nil, Nat.zero_mul, Nat.mul_zero, loadCells, loadCellsFrom]; rfl)⟩⟩
  · obtain ⟨cs, k1, k2⟩ := h4.cells
    refine ⟨cs, k1, fun w0 hw0 => ⟨rfl, ?_⟩⟩
    simp only [Builtin.firstCells]
    rw [← k1.len]
    exact xv cs fun j hj => (World.cell?_of_block (w := w) (by rw [hw0])).trans (k2 j hj).1
theorem growBy_bound (need : Nat) : ∀ (r c B : Nat), c ≤ B → need ≤ B → Builtin.growBy need r c ≤ 2 * B + 192
  | 0, c, B, h, _ => by simp only [Builtin.growBy]; omega
  | r + 1, c, B, h, hn => by
    simp only [Builtin.growBy]
    split
    · omega
    · rename_i hc
      by_cases h2 : c + (c + 768) / 4 ≤ B
      · exact growBy_bound need r _ B h2 hn
      · -- the next one is at least 'need' soon: bound by cases
        have hle : c + (c + 768) / 4 ≤ 2 * B + 192 := by omega
        cases r with
        | zero => simp only [Builtin.growBy]; exact hle
        | succ r =>
          simp only [Builtin.growBy]
          rw [if_pos (by omega)]
          exact hle
theorem nextslicecap_bound {need old : Nat} (h : old ≤ need) : Builtin.nextslicecap need old ≤ 2 * need + 192 := by
  unfold Builtin.nextslicecap
  split
  · omega
  · split
    · omega
    · exact growBy_bound need 4 old need h (Nat.le_refl _)
section
variable {C : Cx} {A : Nat → SV} {d : Nat} {ty : TypeId} {pos : String} {af : Array Edge} {gd : Option (Nat × Bool)} {x y : Operand} {T T' : TypeId}
theorem run_resolve_append {P : Program} {ρ : Operand → Value} {x y : Operand} {T T' ty : TypeId} {d : Option Tmp} {pos : String} {af : Array Edge} {gd : Option (Nat × Bool)} {w w' : World} {v : Value}
    (h : (Builtin.append_ #[T, T'] ty #[ρ x, ρ y]).run P w = .ok v w') :
    (execOp ρ ⟨d, .call { callee := .builtin .append, args := #[x, y], argTypes := #[T, T'] }, ty, pos, af, gd⟩).run P w = .ok (.value v) w' := by
  simp only [execOp, resolve, Sem.run_bind, Sem.run_pure, Result.andThen_ok, invoke, builtin]
  have : (#[x, y].map ρ) = #[ρ x, ρ y] := by simp
  rw [this, h]
  rfl
theorem yh {g n by_ : Nat} {l m : List AV} {el : TypeId} {T1 : TypeId} {z : Value} (hgN : Nat.ble C.N g = true) (hN : Nat.blt d C.N = true) (hx : opS A x = .slg g n l) (hg : A g = .tok n l) (hy : opV A y = some (.sl n m)) (hT : C.P.underlying T = some (.slice el)) (hT' : C.P.underlying T' = some (.slice T1))
    (hn : yJ C.P el = some n) (hz : wS C.P el = some z) (hzn : z.cells.size = n) (h0 : 0 < n) (hb : (C.P.info? el).map (·.bytes) = some by_) (hB : (2 * (l.length + m.length) + 192) * by_ ≤ 281474976710656) (hL : l.length + m.length < 9223372036854775808) :
    zv C ⟨some d, .call { callee := .builtin .append, args := #[x, y], argTypes := #[T, T'] }, ty, pos, af, gd⟩ (g :: (opR x ++ opR y)) [] A [(g, .tok n (l ++ m)), (d, .slg g n (l ++ m))] := by
  intro A' a w hR hF ⟨G, S⟩
  have hgA : A' g = .tok n l := (hR g List.mem_cons_self).trans hg
  have hgd : g ≠ d := by
    have h1 := Nat.le_of_ble_eq_true hgN
    have h2 : d < C.N := by simpa [Nat.blt_eq] using hN
    omega
  obtain ⟨c, hc1, hc2⟩ := S.opS ((yd (fun k hk => hR k (List.mem_cons_of_mem _ (List.mem_append_left _ hk)))).trans hx) rfl
  simp only [RepS] at hc1
  obtain ⟨v, rfl, hv1, hv2, hv3⟩ := hc1
  have hx' : a.eval x = v := hc2
  rw [← yU (fun k hk => hR k (List.mem_cons_of_mem _ (List.mem_append_right _ hk)))] at hy
  have hyR := S.opV hy
  have ht := S.holds g
  rw [hgA] at ht
  simp only [Holds] at ht
  obtain ⟨hlen, ht⟩ := ht
  have hcur : v = G.cur g := hv3 hlen.symm
  obtain ⟨es, k1, k23⟩ := run_firstCells (P := C.P) hyR
  have k2 := (k23 w rfl).1
  obtain ⟨inf, hi, hib⟩ : ∃ inf, C.P.info? el = some inf ∧ inf.bytes = by_ := by
    cases hi : C.P.info? el with
    | none => rw [hi] at hb; cases hb
    | some inf => rw [hi] at hb; exact ⟨inf, rfl, by simpa using hb⟩
  have hu2 : ∀ (G' : Gh) (w' : World) (v' : Value), SimG C (upd A' [(g, .tok n (l ++ m))]) G' a w' → ValS w' G' (.slg g n (l ++ m)) v' → Sim C (upd A' [(g, .tok n (l ++ m)), (d, .slg g n (l ++ m))]) (a.put (some d) v') w' := by
    intro G' w' v' S' hv
    have := S'.put (d := d) (by simpa [Nat.blt_eq] using hN) (x := .slg g n (l ++ m)) (v := v') hv
    have e : upd (upd A' [(g, .tok n (l ++ m))]) [(d, .slg g n (l ++ m))] = upd A' [(g, .tok n (l ++ m)), (d, .slg g n (l ++ m))] := by
      funext k
      simp only [upd]
      by_cases hkd : d = k
      · subst hkd; rw [zM hgd]; simp
      · rw [zM hkd]; simp
    rw [e] at this
    exact ⟨G', this⟩
  -- what append does where it must grow
  have grow : ∀ (base : Option Addr) (sCap : Nat) (old : List Value), a.eval x = .slice base l.length sCap → sCap < l.length + m.length → l.length ≤ sCap ∨ l.length = 0 → (∀ w0 : World, w0.heap = w.heap → (Builtin.firstCells n l.length (.slice base l.length sCap)).run C.P w0 = .ok old.toArray w0) → RepE w G.I n l old →
      ∃ v' w' G', (Builtin.append_ #[T, T'] ty #[a.eval x, a.eval y]).run C.P w = .ok v' w' ∧ SimG C (upd A' [(g, .tok n (l ++ m))]) G' a w' ∧ ValS w' G' (.slg g n (l ++ m)) v' := by
    intro base sCap old hev hlt hle' hold hrep
    obtain ⟨need, hneed⟩ : ∃ k, k = l.length + m.length := ⟨_, rfl⟩
    obtain ⟨newCap, hnew⟩ : ∃ k, k = Question.cut (.appendCap need sCap el) (w.tape w.drawn (.appendCap need sCap el)) := ⟨_, rfl⟩
    rw [← hneed] at hB hL hlt
    have hnc : need ≤ newCap ∧ newCap ≤ maxLen := by
      have h63 : (0 : Nat) < 2 ^ 63 - need := by omega
      rw [hnew]
      constructor
      · simp only [Question.cut]; omega
      · simp only [Question.cut]
        have := Nat.mod_lt (w.tape w.drawn (.appendCap need sCap el)) h63
        unfold maxLen
        omega
    let w1 : World := { w with drawn := w.drawn + 1 }
    have S1 : SimG C A' G a w1 := S.heap rfl rfl rfl rfl
    have hle1 : Le w G.I w1 G.I := Le.drawn w G.I _
    let cs : Array Value := old.toArray ++ es.toArray ++ Builtin.zeroCells z.cells (newCap - need)
    have hes1 : RepE w1 G.I n (l ++ m) (old ++ es) := (hrep.mono hle1).append (k1.mono hle1)
    have hol := hrep.len
    have hel := k1.len
    have hmul : need * n = l.length * n + m.length * n := by rw [hneed]; exact Nat.add_mul _ _ _
    have hcs : cs.toList.take ((l ++ m).length * n) = old ++ es := by
      have : cs.toList = (old ++ es) ++ (Builtin.zeroCells z.cells (newCap - need)).toList := by simp [cs]
      rw [this, List.take_append_of_le_length (by rw [List.length_append, List.length_append, Nat.add_mul]; omega), List.take_of_length_le (by rw [List.length_append, List.length_append, Nat.add_mul]; omega)]
    have hcsz : cs.size = newCap * n := by
      have hzc : (Builtin.zeroCells z.cells (newCap - need)).size = (newCap - need) * n := by simp [Builtin.zeroCells, hzn]
      have h1 : cs.size = old.length + es.length + (newCap - need) * n := by
        simp only [cs, Array.size_append, hzc]; simp
      rw [h1, hol, hel, ← hmul, ← Nat.add_mul]
      rw [Nat.add_sub_of_le hnc.1]
    obtain ⟨G', S', hv'⟩ := S1.appendNew (g := g) (n := n) (l := l) (m := m) (cap := newCap) (es := old ++ es) (cs := cs) (T := el)
      (fun k _ => .inr ⟨l, hgA, by rw [List.length_append]; omega⟩) hnc.2 (by rw [List.length_append, ← hneed]; exact hnc.1) hes1 hcs hcsz (.inr ⟨l, hgA, by rw [List.length_append]; omega⟩)
    refine ⟨_, _, G', ?_, S', hv'⟩
    have hbd := nextslicecap_bound (need := need) (old := sCap) (by omega)
    have hnb : ¬ (Builtin.nextslicecap need sCap * inf.bytes > 281474976710656) := by
      rw [hib]
      have := Nat.mul_le_mul_right by_ hbd
      omega
    have hi1 : ¬ ((need : Int) > IntKind.i64.max) := by
      have : IntKind.i64.max = 9223372036854775807 := by decide
      rw [this]; omega
    have hnb' : ¬ (Builtin.nextslicecap need sCap * inf.bytes > 2 ^ 48) := by
      have : (2 : Nat) ^ 48 = 281474976710656 := rfl
      omega
    have hfc1 := hold ⟨w.heap, w.tape, w.drawn + 1, w.os, w.output⟩ rfl
    have hfc2 : (Builtin.firstCells n m.length (a.eval y)).run C.P ⟨w.heap, w.tape, w.drawn + 1, w.os, w.output⟩ = .ok es.toArray ⟨w.heap, w.tape, w.drawn + 1, w.os, w.output⟩ := (k23 ⟨w.heap, w.tape, w.drawn + 1, w.os, w.output⟩ rfl).2
    have hnf : (Question.appendCap need sCap el).forced = false := rfl
    have e1 : (#[T, T'] : Array TypeId)[0]? = some T := rfl
    have e2 : (#[T, T'] : Array TypeId)[1]? = some T' := rfl
    have e3 : (#[a.eval x, a.eval y] : Array Value)[0]? = some (a.eval x) := rfl
    have e4 : (#[a.eval x, a.eval y] : Array Value)[1]? = some (a.eval y) := rfl
    have hne : ¬ (need ≤ sCap) := by omega
    simp only [Builtin.append_, e1, e2, e3, e4]
    simp only [hev, Sem.run_bind, za hT, za hT', Result.andThen_ok, yI hn, Sem.run_pure, Bool.false_eq_true, if_false, k2, ← hneed, hne, we hi, Sem.run_ite, false_or]
    simp only [hi1, false_and, if_false, Bool.not_false, if_true, Sem.run_bind, run_choose, hnf, Bool.false_eq_true, hnb', Result.andThen_ok, ← hnew, run_askRoom, hfc1, hfc2, xB hz, newRow, run_newObj, Sem.run_pure]
    rw [List.length_append, ← hneed]
    rfl
  have e1 : (#[T, T'] : Array TypeId)[0]? = some T := rfl
  have e2 : (#[T, T'] : Array TypeId)[1]? = some T' := rfl
  have e3 : (#[a.eval x, a.eval y] : Array Value)[0]? = some (a.eval x) := rfl
  have e4 : (#[a.eval x, a.eval y] : Array Value)[1]? = some (a.eval y) := rfl
  have key : ∃ v' w' G', (Builtin.append_ #[T, T'] ty #[a.eval x, a.eval y]).run C.P w = .ok v' w' ∧ SimG C (upd A' [(g, .tok n (l ++ m))]) G' a w' ∧ ValS w' G' (.slg g n (l ++ m)) v' := by
    rcases ht with ⟨e, rfl⟩ | ⟨b, cap, e, h2, h3, h4, h5, ⟨cs, T0, fr, h6, h7, h8⟩, h9⟩
    · have hev : a.eval x = .slice none 0 0 := by rw [hx', hcur, e]
      rcases Nat.eq_zero_or_pos m.length with h0m | h0m
      · have hm : m = [] := List.eq_nil_of_length_eq_zero h0m
        subst hm
        refine ⟨.slice none 0 0, w, G, ?_, ?_, ?_⟩
        · simp only [Builtin.append_, e1, e2, e3, e4]
          simp only [hev, Sem.run_bind, za hT, za hT', Result.andThen_ok, yI hn, Sem.run_pure, Bool.false_eq_true, if_false, k2]
          simp only [List.length_nil, Nat.add_zero, Nat.le_refl, if_true, Bool.not_false, Sem.run_bind]
          have hfc2 := (k23 w rfl).2
          simp only [List.length_nil] at hfc2
          simp only [hfc2, Result.andThen_ok, Sem.run_pure]
        · have : upd A' [(g, .tok n ([] ++ []))] = A' := by
            funext k
            rw [wO]
            split
            · rename_i hk; subst hk; rw [hgA]; rfl
            · rfl
          rw [this]; exact S
        · refine ⟨[.slice none 0 0], ?_, rfl⟩
          simp only [RepS, RepC]
          exact ⟨_, rfl, ⟨_, rfl, .inl (nil_sl 0)⟩, by simp, fun _ => e.symm⟩
      · exact grow none 0 [] (by rw [hev]; rfl) (by simpa using h0m) (.inr rfl) (fun w0 _ => rfl) (by simp only [RepE])
    · have hev : a.eval x = .slice (some ⟨b, 0, none⟩) l.length cap := by rw [hx', hcur, e]
      by_cases hfit : l.length + m.length ≤ cap
      · obtain ⟨G', S', hv'⟩ := S.appendFit hgA e h3 h6 h7 hfit k1
        refine ⟨_, _, G', ?_, S', hv'⟩
        have hfc2 := (k23 w rfl).2
        have hst := ww (P := C.P) (b := b) (o := l.length * n) es 0 w cs h6 h8 (by rw [k1.len, h7]; have := xz (n := n) hfit; rw [Nat.add_mul] at this; omega) k1.plain
        simp only [Builtin.append_, e1, e2, e3, e4]
        simp only [hev, Sem.run_bind, za hT, za hT', Result.andThen_ok, yI hn, Sem.run_pure, Bool.false_eq_true, if_false, k2]
        simp only [hfit, if_true, Bool.not_false, Sem.run_bind, hfc2, Result.andThen_ok, xX, Nat.zero_add, Sem.run_pure]
        rw [hst]
        cases es with
        | nil =>
          simp only [Result.andThen_ok, y3]
          congr 1
          unfold yR
          have : w.heap.setIfInBounds b (.cells cs T0 fr) = w.heap := by
            apply Array.ext
            · simp
            · intro i h1 h2
              by_cases hi : b = i
              · subst hi; simp; exact (Array.getElem?_eq_some_iff.1 h6).2.symm
              · rw [Array.getElem_setIfInBounds_ne _ hi]
          rw [this]
        | cons v vs => simp only [Result.andThen_ok, Nat.add_zero]
      · obtain ⟨ds, q1, q2⟩ := h4.cells
        refine grow (some ⟨b, 0, none⟩) cap ds hev (by omega) (.inl h2) (fun w0 hw0 => ?_) q1
        simp only [Builtin.firstCells]
        rw [← q1.len]
        exact xv ds fun j hj => (World.cell?_of_block (w := w) (by rw [hw0])).trans (q2 j hj).1
  obtain ⟨v', w', G', r1, r2, r3⟩ := key
  unfold Oper.wp
  rw [run_resolve_append r1, Oper.upon_value]
  exact hu2 G' w' v' r2 r3
end
end Go.Al
namespace Go.Al
open Go.RowKit
theorem SimG.newtok {C : Cx} {A : Nat → SV} {G : Gh} {a : Act} {w : World} (S : SimG C A G a w) {g k n : Nat} (hgN : C.N ≤ g) (hgK : g < C.K) (hk : A k = .imm (.v (.slice none 0 0))) (hf : ∀ j, noG [g] (A j) = true) :
    Sim C (upd A [(g, .tok n []), (k, .slg g n [])]) a w := by
  let G' : Gh := { G with cur := fun j => if j = g then .slice none 0 0 else G.cur j, len := fun j => if j = g then 0 else G.len j }
  have hg : GRel [g] G G' := fun j hj => by
    have hjg : j ≠ g := by simpa using hj
    exact ⟨rfl, .inl ⟨by simp only [G', if_neg hjg], by simp only [G', if_neg hjg]⟩⟩
  have hle := Le.refl w G.I
  have hkN : k < C.N := by
    have := S.holds k
    rw [hk] at this
    have h1 := this.1
    rw [S.nts] at h1; exact h1
  have hkg : g ≠ k := by omega
  have hu : ∀ j, upd A [(g, .tok n []), (k, .slg g n [])] j = if j = g then .tok n [] else if j = k then .slg g n [] else A j := by
    intro j
    simp only [upd]
    by_cases h1 : j = g
    · subst h1; simp
    · rw [zM (Ne.symm h1), if_neg h1]
      by_cases h2 : j = k
      · subst h2; simp
      · rw [zM (Ne.symm h2), if_neg h2]; rfl
  have own' : ∀ j b, zm G' j b (upd A [(g, .tok n []), (k, .slg g n [])] j) → j ≠ g ∧ zm G j b (A j) := by
    intro j b h
    rw [hu] at h
    split at h
    · rename_i hj
      simp only [zm, G', hj, if_true] at h
      obtain ⟨_, _, _, h1, _⟩ := h
      cases h1
    · rename_i hj
      refine ⟨hj, ?_⟩
      split at h
      · simp only [zm] at h
      · revert h
        generalize A j = y
        cases y <;> simp only [zm, G', if_neg hj] <;> exact id
  refine ⟨G', S.os, S.tape, S.output, S.size, S.block, S.sub.trans hle, fun j hj => (S.rel j hj).trans (hg j (by simp; omega)), S.glob, S.new, S.val, S.nts, S.dfs, fun j => ?_, fun j j' b hj h1 h2 => S.apart j j' b hj (own' j b h1).2 (own' j' b h2).2⟩
  rw [hu]
  split
  · rename_i hj; subst hj
    simp only [Holds, G', if_true]
    exact ⟨rfl, .inl ⟨rfl, rfl⟩⟩
  · rename_i hj
    split
    · rename_i hjk; subst hjk
      have hh := S.holds j
      rw [hk] at hh
      refine ⟨hh.1, ⟨[.slice none 0 0], ?_, ?_⟩⟩
      · simp only [RepS, RepC]
        exact ⟨_, rfl, ⟨_, rfl, .inl (by simpa using nil_sl 0)⟩, by simp, fun _ => by simp only [G', if_true]⟩
      · exact u9 (S.imm hk) rfl
    · exact (S.holds j).keep hle hg (hf j) (Nat.le_refl _) (fun h => ⟨h, rfl⟩) (fun _ => ⟨rfl, by simp only [G', if_neg hj], by simp only [G', if_neg hj]⟩) (fun b _ => ⟨rfl, fun _ h => h⟩)
theorem um {C : Cx} {c : Code} {st : St} {Q : Exit → St → Prop} (g k n : Nat) (hgN : Nat.ble C.N g = true) (hgK : Nat.blt g C.K = true) (hk : look st k = .imm (.v (.slice none 0 0))) (hf : uE [g] st = true)
    (h : AW C c ((g, .tok n []) :: (k, .slg g n []) :: st) Q) : AW C c st Q := by
  intro a w ⟨G, S⟩
  have := S.newtok (n := n) (Nat.le_of_ble_eq_true hgN) (by simpa [Nat.blt_eq] using hgK) hk (wW st hf)
  rw [vG] at this
  exact h a w this
def zx (l : List UInt8) : List AV := l.map fun b => .v (wr b)
theorem repE_bytes {w : World} {I : Nat → Nat → Prop} : ∀ (l : List UInt8), RepE w I 1 (zx l) (l.map wr)
  | [] => by simp only [zx, List.map_nil, RepE]
  | b :: l => by
    have ih := repE_bytes (w := w) (I := I) l
    simp only [zx, List.map_cons, RepE] at ih ⊢
    exact ⟨[wr b], _, rfl, rfl, by simp [RepC, wr, Value.cells, plain], ih⟩
theorem tB {w : World} {I : Nat → Nat → Prop} : ∀ (l : List UInt8) (cs : List Value), RepE w I 1 (zx l) cs → cs = l.map wr
  | [], cs, h => by simpa only [zx, List.map_nil, RepE] using h
  | b :: l, cs, h => by
    simp only [zx, List.map_cons, RepE] at h
    obtain ⟨c1, c2, rfl, _, h1, h2⟩ := h
    simp only [RepC] at h1
    have := tB l c2 h2
    rw [h1.1, this]
    simp [wr, Value.cells]
def yF (l : List UInt8) : ByteArray := ⟨l.toArray⟩
theorem xU (l : List UInt8) : (yF l).data.toList = l := by simp [yF]
theorem ze (l : List UInt8) : (yF l).size = l.length := by simp [yF, ByteArray.size]
theorem strOf_data (s : ByteArray) : yF s.data.toList = s := by cases s; simp [yF]
theorem foldl_push : ∀ (l : List UInt8) (s : ByteArray), (l.map fun b => (b.toNat : Int)).foldl (fun r n => r.push (UInt8.ofNat n.toNat)) s = yF (s.data.toList ++ l)
  | [], s => by simp [strOf_data]
  | b :: l, s => by
    simp only [List.map_cons, List.foldl_cons]
    rw [foldl_push l]
    congr 1
    simp
section
variable {C : Cx} {A : Nat → SV} {d : Nat} {ty : TypeId} {pos : String} {af : Array Edge} {gd : Option (Nat × Bool)} {x y : Operand} {T T' : TypeId}
theorem s_cvBS {el : TypeId} {l : List UInt8} (hN : Nat.blt d C.N = true) (hx : opV A x = some (.sl 1 (zx l))) (hT : C.P.underlying T = some (.slice el)) (hT' : C.P.underlying T' = some .string) (he : C.P.underlying el = some (.int .u8)) :
    zv C ⟨some d, .convert T T' x, ty, pos, af, gd⟩ (opR x) [] A [(d, .imm (.v (.string (yF l))))] :=
  zv.op1 rfl hN hx fun w I ρ h1 => ⟨.string (yF l), by
    have hlen : (zx l).length = l.length := by simp [zx]
    rcases rep_sl h1 with ⟨p, cap, e, hl, _, _⟩ | ⟨b, o, cap, e, h2, h3, h4⟩
    · have : l = [] := by cases l with
        | nil => rfl
        | cons a l => simp [zx] at hl
      subst this
      cases p with
      | none =>
        simp only [execOp, Sem.run_bind, e, run_convert_bytes_string w T T' el none 0 cap hT he hT', Conv.bytesToString, Sem.run_pure, Result.andThen_ok]
        rfl
      | some a =>
        have hld : (loadCells a 0).run C.P w = .ok ((([] : List Int).map (Value.int .u8)).toArray) w := rfl
        simp only [execOp, Sem.run_bind, e, run_convert_bytes_string w T T' el _ _ _ hT he hT', run_bytesToString w _ _ _ _ hld, Result.andThen_ok, Sem.run_pure]
        rfl
    · obtain ⟨cs, k1, k2⟩ := h4.cells
      have hcs := tB l cs k1
      have hb : cs = (l.map fun b => (b.toNat : Int)).map (Value.int .u8) := by rw [hcs, List.map_map]; rfl
      have hld : (loadCells ⟨b, o, none⟩ (zx l).length).run C.P w = .ok ((l.map fun b => (b.toNat : Int)).map (Value.int .u8)).toArray w := by
        rw [← hb, hlen, show l.length = cs.length from by rw [hcs, List.length_map]]
        exact xv cs fun j hj => (k2 j hj).1
      simp only [execOp, Sem.run_bind, e, run_convert_bytes_string w T T' el _ _ _ hT he hT', run_bytesToString w _ _ _ _ hld, Result.andThen_ok, Sem.run_pure]
      rw [foldl_push]
      rfl, xm w I rfl⟩
end
end Go.Al
