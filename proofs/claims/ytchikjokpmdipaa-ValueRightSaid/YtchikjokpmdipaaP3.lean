/- Texts that the proofs of this claim share, part 3: the abstract logic, plain Lean on values and batches, and walks. No condition but those typed in each lemma. -/
import Derived.Test.YtchikjokpmdipaaProg
import Derived.KernelRfl
import Derived.ReadAgain
import Derived.ChangeOld
import Derived.ChangeShapes
import Derived.Test.YtchikjokpmdipaaP2
set_option linter.unusedSimpArgs false
set_option linter.unusedVariables false
namespace Go.Proofs
open Go Go.Al
set_option maxRecDepth 10000
theorem mixed : Try.prog.follows .mixedOrders = true := by kernel_rfl
def Γ0 : List (Nat × AV) := []
def z1 : AV := .v .nilFunc
def z2 : AV := .v (.int .i64 0)
theorem tA3 : tyAgg Try.prog 3 = some false := by kernel_rfl
theorem tS3 : tySize Try.prog 3 = some 1 := by kernel_rfl
def z3 : AV := .v (.int .i64 0)
def z4 : AV := .v (.bool false)
theorem tA5 : tyAgg Try.prog 5 = some false := by kernel_rfl
theorem tS5 : tySize Try.prog 5 = some 1 := by kernel_rfl
def z5 : AV := .v (.int .u8 0)
theorem tZ5 : IsZero Try.prog 5 z5 := ⟨.int .u8 0, by kernel_rfl, by kernel_rfl⟩
theorem tA9 : tyAgg Try.prog 9 = some false := by kernel_rfl
theorem tS9 : tySize Try.prog 9 = some 1 := by kernel_rfl
def z9 : AV := .v (.string .empty)
theorem zv9 : tyZero Try.prog 9 = some (.string .empty) := by kernel_rfl
theorem by9 : (Try.prog.info? 9).map (·.bytes) = some 16 := by kernel_rfl
theorem tZ9 : IsZero Try.prog 9 z9 := ⟨.string .empty, by kernel_rfl, by kernel_rfl⟩
theorem tA22 : tyAgg Try.prog 22 = some false := by kernel_rfl
theorem tS22 : tySize Try.prog 22 = some 1 := by kernel_rfl
theorem tA23 : tyAgg Try.prog 23 = some false := by kernel_rfl
theorem tS23 : tySize Try.prog 23 = some 1 := by kernel_rfl
theorem tA24 : tyAgg Try.prog 24 = some false := by kernel_rfl
theorem tS24 : tySize Try.prog 24 = some 1 := by kernel_rfl
theorem tA26 : tyAgg Try.prog 26 = some true := by kernel_rfl
theorem tS26 : tySize Try.prog 26 = some 6 := by kernel_rfl
def z26 : AV := .agg [.v (.int .u8 0), .v (.string .empty), .v (.int .i64 0), .v (.int .u64 0), .v (.slice none 0 0), .v (.slice none 0 0)]
theorem zv26 : tyZero Try.prog 26 = some (.agg #[.int .u8 0, .string .empty, .int .i64 0, .int .u64 0, .slice none 0 0, .slice none 0 0]) := by kernel_rfl
theorem by26 : (Try.prog.info? 26).map (·.bytes) = some 88 := by kernel_rfl
theorem tZ26 : IsZero Try.prog 26 z26 := ⟨.agg #[.int .u8 0, .string .empty, .int .i64 0, .int .u64 0, .slice none 0 0, .slice none 0 0], by kernel_rfl, by kernel_rfl⟩
def zs26 : AV := .agg [.v (.int .u8 0), .v (.string .empty), .v (.int .i64 0), .v (.int .u64 0), .sl 6 [], .sl 7 []]
theorem tU26 : IsZero Try.prog 26 zs26 := ⟨.agg #[.int .u8 0, .string .empty, .int .i64 0, .int .u64 0, .slice none 0 0, .slice none 0 0], by kernel_rfl, by kernel_rfl⟩
theorem fa26_0 : fieldAt Try.prog 26 0 0 1 false := ⟨_, _, Try.underlying26, rfl, rfl, tS5, tA5⟩
theorem fa26_1 : fieldAt Try.prog 26 1 1 1 false := ⟨_, _, Try.underlying26, rfl, rfl, tS9, tA9⟩
theorem fa26_2 : fieldAt Try.prog 26 2 2 1 false := ⟨_, _, Try.underlying26, rfl, rfl, tS3, tA3⟩
theorem fa26_3 : fieldAt Try.prog 26 3 3 1 false := ⟨_, _, Try.underlying26, rfl, rfl, tS22, tA22⟩
theorem fa26_4 : fieldAt Try.prog 26 4 4 1 false := ⟨_, _, Try.underlying26, rfl, rfl, tS23, tA23⟩
theorem fa26_5 : fieldAt Try.prog 26 5 5 1 false := ⟨_, _, Try.underlying26, rfl, rfl, tS24, tA24⟩
theorem pl26 : places Try.prog (Program.fieldsOf Try.prog 26).toList = some [(0, 1), (1, 1), (2, 1), (3, 1), (4, 1), (5, 1)] := by kernel_rfl
theorem us26 : Try.prog.underlying 26 = some (.struct (Program.fieldsOf Try.prog 26)) := by kernel_rfl
def z31 : AV := .v .nilFunc
theorem tA33 : tyAgg Try.prog 33 = some true := by kernel_rfl
theorem tS33 : tySize Try.prog 33 = some 7 := by kernel_rfl
def z33 : AV := .agg [.v (.string .empty), .agg [.v (.int .u8 0), .v (.string .empty), .v (.int .i64 0), .v (.int .u64 0), .v (.slice none 0 0), .v (.slice none 0 0)]]
theorem zv33 : tyZero Try.prog 33 = some (.agg #[.string .empty, .int .u8 0, .string .empty, .int .i64 0, .int .u64 0, .slice none 0 0, .slice none 0 0]) := by kernel_rfl
theorem by33 : (Try.prog.info? 33).map (·.bytes) = some 104 := by kernel_rfl
theorem tZ33 : IsZero Try.prog 33 z33 := ⟨.agg #[.string .empty, .int .u8 0, .string .empty, .int .i64 0, .int .u64 0, .slice none 0 0, .slice none 0 0], by kernel_rfl, by kernel_rfl⟩
def zs33 : AV := .agg [.v (.string .empty), .agg [.v (.int .u8 0), .v (.string .empty), .v (.int .i64 0), .v (.int .u64 0), .sl 6 [], .sl 7 []]]
theorem tU33 : IsZero Try.prog 33 zs33 := ⟨.agg #[.string .empty, .int .u8 0, .string .empty, .int .i64 0, .int .u64 0, .slice none 0 0, .slice none 0 0], by kernel_rfl, by kernel_rfl⟩
theorem fa33_0 : fieldAt Try.prog 33 0 0 1 false := ⟨_, _, Try.underlying33, rfl, rfl, tS9, tA9⟩
theorem fa33_1 : fieldAt Try.prog 33 1 1 6 true := ⟨_, _, Try.underlying33, rfl, rfl, tS26, tA26⟩
theorem pl33 : places Try.prog (Program.fieldsOf Try.prog 33).toList = some [(0, 1), (1, 6)] := by kernel_rfl
theorem us33 : Try.prog.underlying 33 = some (.struct (Program.fieldsOf Try.prog 33)) := by kernel_rfl
def z46 : AV := .v .nilFunc
def z51 : AV := .v .nilFunc
end Go.Proofs

namespace Go.Al
open Go.RowKit

/-! ### What comes in, az abstract values -/

/-- What a datum's value is like, by its type. -/
def AVT (P : Program) : Nat → TypeId → AV → Prop
  | 0, _, _ => False
  | f + 1, T, X =>
    match P.underlying T with
    | some .bool => ∃ b, X = .v (.bool b)
    | some (.int k) => ∃ n, X = .v (.int k n) ∧ (Lit.int k n).wf = true
    | some .string => ∃ s : ByteArray, X = .v (.string s) ∧ s.size ≤ maxLen
    | some (.slice e) => ∃ l, X = .sl (P.cellsOf e) l ∧ ∀ x ∈ l, AVT P f e x
    | some (.struct fs) => ∃ l, X = .agg l ∧ l.length = fs.toList.length ∧ ∀ (j : Nat) fl x, fs.toList[j]? = some fl → l[j]? = some x → AVT P f fl.type x
    | some (.array n _) => ∃ l : List UInt8, X = .arr n l ∧ l.length = n
    | _ => False

/-- Types of plain data, without pointers. -/
def dataTys (P : Program) (S : List TypeId) : Bool := S.all fun t => decide (t < P.types.size) && match P.underlying t with
  | some .bool => true
  | some (.int _) => true
  | some .string => true
  | some (.slice e) => S.contains e && decide (0 < P.cellsOf e)
  | some (.struct fs) => fs.toList.all fun f => S.contains f.type
  | some (.array _ e) => decide (P.cellsOf e = 1) && (match P.underlying e with | some (.int .u8) => true | _ => false)
  | _ => false

theorem repM_of {w : World} {I : Nat → Nat → Prop} {n : Nat} : ∀ (l : List AV) (b o : Nat), (∀ i x, l[i]? = some x → ∃ c, c.length = n ∧ RepC w I x c ∧ CellsAt w I b (o + i * n) c) → RepM w I n l b o
  | [], _, _, _ => by simp only [RepM]
  | p :: ps, b, o, h => by
    simp only [RepM]
    refine ⟨by simpa using h 0 p rfl, repM_of ps b (o + n) fun i x hx => ?_⟩
    have := h (i + 1) x (by simpa using hx)
    rw [show o + n + i * n = o + (i + 1) * n from by rw [Nat.add_mul]; omega]
    exact this

theorem list_of {α : Type} {Q : Nat → α → Prop} : ∀ (n : Nat), (∀ i, i < n → ∃ x, Q i x) → ∃ l : List α, l.length = n ∧ ∀ i x, l[i]? = some x → Q i x
  | 0, _ => ⟨[], rfl, fun i x h => by simp at h⟩
  | n + 1, h => by
    obtain ⟨l, h1, h2⟩ := list_of n fun i hi => h i (by omega)
    obtain ⟨x, hx⟩ := h n (by omega)
    refine ⟨l ++ [x], by simp [h1], fun i y hy => ?_⟩
    rcases Nat.lt_or_ge i l.length with hi | hi
    · rw [List.getElem?_append_left hi] at hy; exact h2 i y hy
    · rw [List.getElem?_append_right hi] at hy
      have h3 : i - l.length < 1 := by have := (List.getElem?_eq_some_iff.1 hy).1; simpa using this
      have h4 : i - l.length = 0 := by omega
      rw [h4] at hy
      simp at hy
      subst hy
      have : i = n := by omega
      rw [this]; exact hx

theorem mapM_get {α β : Type} {f : α → Option β} : ∀ {l : List α} {r : List β}, l.mapM f = some r → ∀ (i : Nat) (x : α), l[i]? = some x → ∃ y, r[i]? = some y ∧ f x = some y := by
  intro l
  induction l with
  | nil => intro r _ i x h; simp at h
  | cons a az ih =>
    intro r h i x hx
    rw [List.mapM_cons] at h
    cases ha : f a with
    | none => simp [ha] at h
    | some b =>
      cases has : az.mapM f with
      | none => simp [ha, has] at h
      | some bs =>
        simp [ha, has] at h
        subst h
        cases i with
        | zero => simp at hx; subst hx; exact ⟨b, rfl, ha⟩
        | succ i => simpa using ih has i x (by simpa using hx)

section
variable {H : Type} {enc : TypeId × Value → H} {P : Program} {w : World} {S : List TypeId}

theorem cells_at {a : Addr} {n : Nat} {cs : List Value} (h : w.cells? 0 a n = some cs) (h0 : 0 < n) : a.spot = none ∧ cs.length = n ∧ a.block < w.heap.size ∧ CellsAt w (fun b _ => b < w.heap.size) a.block a.off cs := by
  have hb := World.cells?_block h h0
  obtain ⟨_, hl, hc⟩ := World.cells?_some h
  have hsp : a.spot = none := by
    have h1 := hc 0 h0
    obtain ⟨c, hc0⟩ : ∃ c, cs[0]? = some c := by
      cases cs with
      | nil => simp at hl; omega
      | cons c _ => exact ⟨c, rfl⟩
    rw [hc0] at h1
    simp only [Addr.add, if_true] at h1
    simp only [World.cell?] at h1
    split at h1
    · cases hs : a.spot with
      | none => rfl
      | some s => simp [hs] at h1
    · cases h1
  refine ⟨hsp, hl, hb, fun j hj => ⟨?_, hb⟩⟩
  have h1 := hc j (by omega)
  have e : a.add j = ⟨a.block, a.off + j, none⟩ := by
    obtain ⟨b, o, s⟩ := a
    simp only at hsp; subst hsp
    exact addr_add b o j
  rw [e, List.getElem?_eq_getElem hj] at h1
  exact h1

theorem open_fields {r : TypeId → List Value → Option (DataW H × List MemPlace)} {A : TypeId → AV → Prop} {I : Nat → Nat → Prop} {cs : List Value} :
    ∀ (fs : List Field) (off : Nat) (xs : List (DataW H × List MemPlace)), (fs.mapM fun f => r f.type ((cs.drop f.offset).take (P.cellsOf f.type))) = some xs →
    (∀ f ∈ fs, ∀ c x, c.length = P.cellsOf f.type → r f.type c = some x → ∃ X, RepC w I X c ∧ A f.type X) →
    (∀ (j : Nat) f, fs[j]? = some f → f.offset = off + ((fs.take j).map fun f => P.cellsOf f.type).sum) → off + (fs.map fun f => P.cellsOf f.type).sum = cs.length →
    ∃ l, l.length = fs.length ∧ RepCs w I l (cs.drop off) ∧ ∀ (j : Nat) fl x, fs[j]? = some fl → l[j]? = some x → A fl.type x
  | [], off, xs, _, _, _, hs => ⟨[], rfl, by simp at hs; simp only [RepCs]; exact List.drop_of_length_le (by omega), fun j fl x h => by simp at h⟩
  | f :: fs, off, xs, hm, hr, ho, hs => by
    simp only [List.map_cons, List.sum_cons] at hs
    rw [List.mapM_cons] at hm
    cases h1 : r f.type ((cs.drop f.offset).take (P.cellsOf f.type)) with
    | none => simp [h1] at hm
    | some y =>
      cases h2 : fs.mapM fun f => r f.type ((cs.drop f.offset).take (P.cellsOf f.type)) with
      | none => simp [h1, h2] at hm
      | some ys =>
        have hoff : f.offset = off := by simpa using ho 0 f rfl
        rw [hoff] at h1
        obtain ⟨X, k1, k2⟩ := hr f List.mem_cons_self _ y (by rw [List.length_take, List.length_drop]; omega) h1
        obtain ⟨l, k3, k4, k5⟩ := open_fields fs (off + P.cellsOf f.type) ys h2 (fun g hg => hr g (List.mem_cons_of_mem _ hg)) (fun j g hj => by
          have := ho (j + 1) g (by simpa using hj)
          simp only [List.take_succ_cons, List.map_cons, List.sum_cons] at this
          omega) (by omega)
        refine ⟨X :: l, by simp [k3], ?_, fun j fl x hj hx => ?_⟩
        · simp only [RepCs]
          refine ⟨_, _, ?_, k1, k4⟩
          rw [← List.drop_drop, List.take_append_drop]
        · cases j with
          | zero => simp at hj hx; subst hj; subst hx; exact k2
          | succ j => exact k5 j fl x (by simpa using hj) (by simpa using hx)

theorem open_av (K : Kids P (· < P.types.size)) (hS : dataTys P S = true) : ∀ (n : Nat) (T : TypeId) (cs : List Value) (x : DataW H × List MemPlace), T ∈ S →
    DataW.trod enc P w 0 (fun _ => true) true n T cs = some x → ∃ X, RepC w (fun b _ => b < w.heap.size) X cs ∧ AVT P n T X := by
  intro n
  induction n with
  | zero => intro T cs x _ h; simp [DataW.trod] at h
  | succ n ih =>
    intro T cs x hT h
    have hd := List.all_eq_true.1 hS T hT
    simp only [Bool.and_eq_true, decide_eq_true_eq] at hd
    obtain ⟨hlt, hd⟩ := hd
    rw [DataW.trod_step] at h
    unfold DataW.trodStep at h
    simp only [AVT]
    split at h
    case h_1 b hu =>
      rw [hu]
      exact ⟨_, by simp only [RepC]; exact ⟨rfl, rfl⟩, b, rfl⟩
    case h_2 k k' m hu =>
      rw [hu]
      split at h
      · rename_i hk
        obtain ⟨rfl, hw⟩ := hk
        exact ⟨_, by simp only [RepC]; exact ⟨rfl, rfl⟩, m, rfl, hw⟩
      · cases h
    case h_3 hu => rw [hu] at hd; cases hd
    case h_4 s hu =>
      rw [hu]
      split at h
      · rename_i hs
        exact ⟨_, by simp only [RepC]; exact ⟨rfl, rfl⟩, s, rfl, hs⟩
      · cases h
    case h_5 hu => rw [hu] at hd; cases hd
    case h_6 hu => rw [hu] at hd; cases hd
    case h_7 e hu =>
      rw [hu]
      exact ⟨.sl (P.cellsOf e) [], by simp only [RepC]; exact ⟨_, rfl, .inl ⟨none, 0, rfl, trivial, Nat.zero_le _, fun _ => rfl⟩⟩, [], rfl, fun x hx => by cases hx⟩
    case h_8 e a len cap hu =>
      rw [hu] at hd ⊢
      simp only [Bool.and_eq_true, decide_eq_true_eq] at hd
      obtain ⟨heS, hce⟩ := hd
      have heS : e ∈ S := by simpa using heS
      simp only at h
      split at h
      · rename_i hc
        obtain ⟨_, hlc, hcm⟩ := hc
        simp only [Option.map_eq_some_iff, Option.bind_eq_some_iff] at h
        obtain ⟨elems, he, rest, hrest, rfl⟩ := h
        rcases Nat.eq_zero_or_pos len with h0 | h0
        · subst h0
          exact ⟨.sl (P.cellsOf e) [], by simp only [RepC]; exact ⟨_, rfl, .inl ⟨some a, cap, rfl, trivial, hcm, fun h => by cases h⟩⟩, [], rfl, fun x hx => by cases hx⟩
        · have one : ∀ i, i < len → ∃ c y, w.cells? 0 (a.add (i * P.cellsOf e)) (P.cellsOf e) = some c ∧ DataW.trod enc P w 0 (fun _ => true) true n e c = some y := by
            intro i hi
            obtain ⟨y, _, hy⟩ := mapM_get he i i (by simp [hi])
            simp only [Option.bind_eq_some_iff] at hy
            obtain ⟨c, h1, h2⟩ := hy
            exact ⟨c, y, h1, h2⟩
          obtain ⟨c0, _, hc0, _⟩ := one 0 h0
          obtain ⟨hsp, _, _, _⟩ := cells_at (by simpa [Addr.add] using hc0) hce
          obtain ⟨b, o, s⟩ := a
          simp only at hsp
          subst hsp
          obtain ⟨l, hl1, hl2⟩ := list_of (Q := fun i X => (∃ c, c.length = P.cellsOf e ∧ RepC w (fun b _ => b < w.heap.size) X c ∧ CellsAt w (fun b _ => b < w.heap.size) b (o + i * P.cellsOf e) c) ∧ AVT P n e X) len (by
            intro i hi
            obtain ⟨c, y, h1, h2⟩ := one i hi
            obtain ⟨X, k1, k2⟩ := ih e c y heS h2
            rw [addr_add] at h1
            obtain ⟨_, k3, _, k4⟩ := cells_at h1 hce
            exact ⟨X, ⟨c, k3, k1, k4⟩, k2⟩)
          refine ⟨.sl (P.cellsOf e) l, ?_, l, rfl, fun x hx => ?_⟩
          · simp only [RepC]
            refine ⟨_, rfl, .inr ⟨b, o, cap, by rw [hl1], by omega, hcm, repM_of l b o fun i x hx => (hl2 i x hx).1⟩⟩
          · obtain ⟨i, hi⟩ := List.getElem?_of_mem hx
            exact (hl2 i x hi).2
      · cases h
    case h_9 fs hu =>
      rw [hu] at hd ⊢
      split at h
      · rename_i hlen
        simp only [Option.map_eq_some_iff] at h
        obtain ⟨xs, hx, rfl⟩ := h
        obtain ⟨_, k1, k2⟩ := K.struct hlt hu
        obtain ⟨l, k3, k4, k5⟩ := open_fields (w := w) (I := fun b _ => b < w.heap.size) (A := fun t X => AVT P n t X) fs.toList 0 xs hx
          (fun f hf c x _ hr => ih f.type c x (by simpa using List.all_eq_true.1 hd f hf) hr)
          (fun j f hj => by rw [Nat.zero_add]; exact k2 j f hj) (by rw [Nat.zero_add, ← k1]; exact hlen.symm)
        exact ⟨.agg l, by simpa only [RepC, List.drop_zero] using k4, l, rfl, k3, k5⟩
      · cases h
    case h_10 cs _ _ m e hu =>
      rw [hu] at hd ⊢
      simp only [Bool.and_eq_true, decide_eq_true_eq] at hd
      obtain ⟨hce, hub⟩ := hd
      split at h
      · rename_i hlen
        simp only [Option.map_eq_some_iff] at h
        obtain ⟨xs, hx, rfl⟩ := h
        have hcl : cs.length = m := by rw [hlen, (K.array hlt hu).2, hce, Nat.mul_one]
        have hub' : P.underlying e = some (.int .u8) := by
          cases he : P.underlying e with
          | none => rw [he] at hub; cases hub
          | some d =>
            rw [he] at hub
            cases d <;> first | cases hub | skip
            rename_i k
            cases k <;> first | rfl | cases hub
        obtain ⟨l, hl1, hl2⟩ := list_of (Q := fun i (b : UInt8) => cs[i]? = some (byteV b)) m (by
          intro i hi
          obtain ⟨y, _, hy⟩ := mapM_get hx i i (by simp [hi])
          rw [hce, Nat.mul_one] at hy
          have e1 : (cs.drop i).take 1 = [cs[i]] := by
            rw [List.drop_eq_getElem_cons (by omega)]; rfl
          rw [e1] at hy
          cases n with
          | zero => simp [DataW.trod] at hy
          | succ n =>
            rw [DataW.trod_step] at hy
            unfold DataW.trodStep at hy
            rw [hub'] at hy
            cases hv : cs[i] with
            | int k q =>
              rw [hv] at hy
              simp only at hy
              split at hy
              · rename_i hk
                obtain ⟨rfl, hw⟩ := hk
                refine ⟨UInt8.ofNat q.toNat, ?_⟩
                rw [List.getElem?_eq_getElem (by omega), hv]
                have : 0 ≤ q ∧ q < 256 := by
                  have e1 : IntKind.u8.min = 0 := by decide
                  have e2 : IntKind.u8.max = 255 := by decide
                  simp [Lit.wf, e1, e2] at hw; omega
                simp only [byteV, Option.some.injEq, Value.int.injEq, true_and]
                simp [UInt8.toNat_ofNat']
                omega
              · cases hy
            | _ => rw [hv] at hy; simp at hy)
        refine ⟨.arr m l, ?_, l, rfl, hl1⟩
        simp only [RepC]
        refine ⟨?_, hl1⟩
        apply List.ext_getElem?
        intro i
        rcases Nat.lt_or_ge i m with hi | hi
        · rw [hl2 i l[i] (by rw [List.getElem?_eq_getElem]), List.getElem?_map, List.getElem?_eq_getElem (by omega)]
          rfl
        · rw [List.getElem?_eq_none (by omega), List.getElem?_eq_none (by simp; omega)]
      · cases h
    all_goals
      rename_i hu
      first
        | (rw [hu] at hd; cases hd)
        | cases h
        | (exfalso; simp_all)

theorem open_arg (K : Kids P (· < P.types.size)) (hS : dataTys P S = true) {r : Reach} {b0 : Nat} {T : TypeId} {v : Value} {d : DataW H} {ps : List MemPlace} (hT : T ∈ S) (hval : Value.okWide P w r b0 T v)
    (h : DataW.Trod enc P w 0 (fun _ => true) true T v d ps) : ∃ n X, Rep w (fun b _ => b < w.heap.size) X v ∧ AVT P n T X := by
  obtain ⟨n, hn⟩ := h
  obtain ⟨X, h1, h2⟩ := open_av K hS n T _ _ hT hn
  refine ⟨n, X, ⟨_, h1, ?_⟩, h2⟩
  cases n with
  | zero => exact h2.elim
  | succ n =>
    simp only [AVT] at h2
    unfold Value.okWide at hval
    split at h2 <;> (try exact h2.elim) <;> rename_i hu <;> rw [hu] at hval <;> simp only at hval
    · obtain ⟨b, rfl⟩ := h2
      unfold Cell.okWide at hval; rw [hu] at hval; unfold Cell.ok at hval; rw [hu] at hval
      cases v <;> first | rfl | exact hval.elim
    · obtain ⟨b, rfl, _⟩ := h2
      unfold Cell.okWide at hval; rw [hu] at hval; unfold Cell.ok at hval; rw [hu] at hval
      cases v <;> first | rfl | exact hval.elim
    · obtain ⟨b, rfl, _⟩ := h2
      unfold Cell.okWide at hval; rw [hu] at hval; unfold Cell.ok at hval; rw [hu] at hval
      cases v <;> first | rfl | exact hval.elim
    · obtain ⟨l, rfl, _⟩ := h2
      unfold Cell.okWide at hval; rw [hu] at hval; unfold Cell.ok at hval; rw [hu] at hval
      cases v <;> first | rfl | exact hval.elim
    · obtain ⟨l, rfl, _⟩ := h2
      obtain ⟨cs, rfl, _⟩ := hval
      simp [mkV, AV.isAgg, Value.cells]
    · obtain ⟨l, rfl, _⟩ := h2
      obtain ⟨cs, rfl, _⟩ := hval
      simp [mkV, AV.isAgg, Value.cells]

/-- What came in reads again az it did. -/
theorem again (K : Kids P (· < P.types.size)) (hz : ∀ t e, t < P.types.size → P.underlying t = some (.slice e) → 0 < P.cellsOf e) {w' : World} (hb : Below w.heap.size w w') :
    ∀ {ts : List TypeId} {vs : List Value} {ds : List (DataW H)} {ps : List MemPlace}, (∀ t ∈ ts, t < P.types.size) → DataW.TrodAll enc P w 0 (fun _ => true) true ts vs ds ps →
      DataW.TrodAll enc P w' 0 (fun b => decide (b < w.heap.size)) true ts vs ds ps := by
  intro ts vs ds ps hT h
  have hlt := h.lt
  have h1 := DataW.TrodAll.respare (spare' := fun b => decide (b < w.heap.size)) K hz hT h (fun p hp => by simpa using hlt p hp)
  have hsame : ∀ p ∈ ps, w.sameAt w' p := fun p hp => by
    have := hb.block p.block (hlt p hp)
    cases p with
    | cell b o => exact World.cell?_of_block (w := w) this
    | map b => exact this
  clear h hlt hT
  have key : ∀ (ts : List TypeId) (vs : List Value) (ds : List (DataW H)) (ps : List MemPlace), DataW.TrodAll enc P w 0 (fun b => decide (b < w.heap.size)) true ts vs ds ps → (∀ p ∈ ps, w.sameAt w' p) →
      DataW.TrodAll enc P w' 0 (fun b => decide (b < w.heap.size)) true ts vs ds ps := by
    intro ts
    induction ts with
    | nil => intro vs ds ps h _; cases vs <;> cases ds <;> exact h
    | cons t ts ih =>
      intro vs ds ps h hs
      cases vs with
      | nil => exact h
      | cons v vs =>
        cases ds with
        | nil => exact h
        | cons d ds =>
          obtain ⟨p, q, ⟨n, hn⟩, h2, e⟩ := h
          exact ⟨p, q, ⟨n, DataW.trod_carry n _ _ _ hn (fun x hx => hs x (by rw [e]; exact List.mem_append_left _ hx))⟩, ih _ _ _ h2 (fun x hx => hs x (by rw [e]; exact List.mem_append_right _ hx)), e⟩
  exact key _ _ _ _ h1 hsame
end
end Go.Al

namespace Go.Proofs
open Go Go.Al

/-! ### Values under keys, as plain data -/

mutual
inductive GV where
  | mk (kind : Int) (text : ByteArray) (num bits : Int) (list : List GV) (map : List GA)
inductive GA where
  | mk (key : ByteArray) (val : GV)
end

def GV.kind : GV → Int | .mk k _ _ _ _ _ => k
def GV.text : GV → ByteArray | .mk _ t _ _ _ _ => t
def GV.num : GV → Int | .mk _ _ n _ _ _ => n
def GV.bits : GV → Int | .mk _ _ _ b _ _ => b
def GV.list : GV → List GV | .mk _ _ _ _ l _ => l
def GV.map : GV → List GA | .mk _ _ _ _ _ m => m
def GA.key : GA → ByteArray | .mk k _ => k
def GA.val : GA → GV | .mk _ v => v

theorem GA.key_mk (k : ByteArray) (v : GV) : (GA.mk k v).key = k := rfl
theorem GA.val_mk (k : ByteArray) (v : GV) : (GA.mk k v).val = v := rfl
theorem GV.kind_mk (k : Int) (t : ByteArray) (n b : Int) (l : List GV) (m : List GA) : (GV.mk k t n b l m).kind = k := rfl
theorem GV.text_mk (k : Int) (t : ByteArray) (n b : Int) (l : List GV) (m : List GA) : (GV.mk k t n b l m).text = t := rfl
theorem GV.num_mk (k : Int) (t : ByteArray) (n b : Int) (l : List GV) (m : List GA) : (GV.mk k t n b l m).num = n := rfl
theorem GV.bits_mk (k : Int) (t : ByteArray) (n b : Int) (l : List GV) (m : List GA) : (GV.mk k t n b l m).bits = b := rfl
theorem GV.list_mk (k : Int) (t : ByteArray) (n b : Int) (l : List GV) (m : List GA) : (GV.mk k t n b l m).list = l := rfl
theorem GV.map_mk (k : Int) (t : ByteArray) (n b : Int) (l : List GV) (m : List GA) : (GV.mk k t n b l m).map = m := rfl
mutual
def avV : GV → AV
  | .mk k t n b l m => .agg [cv k, sv t, iv n, uv b, .sl 6 (avVs l), .sl 7 (avAs m)]
def avVs : List GV → List AV
  | [] => []
  | x :: xs => avV x :: avVs xs
def avA : GA → AV
  | .mk k v => .agg [sv k, avV v]
def avAs : List GA → List AV
  | [] => []
  | x :: xs => avA x :: avAs xs
end
theorem avVs_map : ∀ l : List GV, avVs l = l.map avV
  | [] => rfl
  | x :: xs => by rw [avVs, avVs_map xs]; rfl
theorem avAs_map : ∀ l : List GA, avAs l = l.map avA
  | [] => rfl
  | x :: xs => by rw [avAs, avAs_map xs]; rfl

def GV.av (g : GV) : AV := .agg [cv g.kind, sv g.text, iv g.num, uv g.bits, .sl 6 (g.list.map avV), .sl 7 (g.map.map avA)]
def GA.av (a : GA) : AV := .agg [sv a.key, a.val.av]
theorem avV_eq (g : GV) : avV g = g.av := by
  cases g with
  | mk k t n b l m => rw [avV, avVs_map, avAs_map]; rfl
theorem avA_eq (a : GA) : avA a = a.av := by
  cases a with
  | mk k v => rw [avA, avV_eq]; rfl

/-! #### Sizes -/
mutual
def GV.wt : GV → Nat
  | .mk _ t _ _ l m => 1 + t.size + wtVs l + wtAs m
def wtVs : List GV → Nat
  | [] => 0
  | x :: xs => GV.wt x + wtVs xs
def GA.wt : GA → Nat
  | .mk k v => k.size + GV.wt v
def wtAs : List GA → Nat
  | [] => 0
  | x :: xs => GA.wt x + wtAs xs
end
theorem GV.wt_eq (g : GV) : g.wt = 1 + g.text.size + wtVs g.list + wtAs g.map := by cases g; rw [GV.wt]; rfl
theorem GA.wt_eq (a : GA) : a.wt = a.key.size + a.val.wt := by cases a; rw [GA.wt]; rfl
theorem GV.wt_pos (g : GV) : 1 ≤ g.wt := by rw [g.wt_eq]; omega
theorem GA.wt_pos (a : GA) : 1 ≤ a.wt := by rw [a.wt_eq]; have := a.val.wt_pos; omega
theorem wtVs_append : ∀ l m : List GV, wtVs (l ++ m) = wtVs l + wtVs m
  | [], m => by simp [wtVs]
  | x :: xs, m => by simp only [List.cons_append, wtVs, wtVs_append xs m]; omega
theorem wtAs_append : ∀ l m : List GA, wtAs (l ++ m) = wtAs l + wtAs m
  | [], m => by simp [wtAs]
  | x :: xs, m => by simp only [List.cons_append, wtAs, wtAs_append xs m]; omega
theorem wtVs_mem : ∀ {l : List GV} {x : GV}, x ∈ l → x.wt ≤ wtVs l
  | y :: ys, x, h => by
    rw [wtVs]
    rcases List.mem_cons.1 h with rfl | h
    · omega
    · have := wtVs_mem h; omega
theorem wtAs_mem : ∀ {l : List GA} {x : GA}, x ∈ l → x.wt ≤ wtAs l
  | y :: ys, x, h => by
    rw [wtAs]
    rcases List.mem_cons.1 h with rfl | h
    · omega
    · have := wtAs_mem h; omega
theorem len_wtVs : ∀ l : List GV, l.length ≤ wtVs l
  | [] => by simp [wtVs]
  | x :: xs => by rw [wtVs]; have := len_wtVs xs; have := x.wt_pos; simp; omega
theorem len_wtAs : ∀ l : List GA, l.length ≤ wtAs l
  | [] => by simp [wtAs]
  | x :: xs => by rw [wtAs]; have := len_wtAs xs; have := x.wt_pos; simp; omega

/-- From what is within to what holds it. -/
theorem GV.ind {P : GV → Prop} (h : ∀ g : GV, (∀ y ∈ g.list, P y) → (∀ a ∈ g.map, P a.val) → P g) (g : GV) : P g := by
  have key : ∀ n, ∀ g : GV, g.wt ≤ n → P g := by
    intro n
    induction n with
    | zero => intro g hg; have := g.wt_pos; omega
    | succ n ih =>
      intro g hg
      have e := g.wt_eq
      refine h g (fun y hy => ih y ?_) (fun a ha => ih a.val ?_)
      · have := wtVs_mem hy; omega
      · have := wtAs_mem ha; have := a.wt_eq; omega
  exact key g.wt g (Nat.le_refl _)

/-! #### What may be at all: numbers within their kinds, texts that there can be -/
mutual
def GV.ok : GV → Prop
  | .mk k t n b l m => (0 ≤ k ∧ k < 256) ∧ t.size ≤ maxLen ∧ (-9223372036854775808 ≤ n ∧ n < 9223372036854775808) ∧ (0 ≤ b ∧ b < 18446744073709551616) ∧ okVs l ∧ okAs m
def okVs : List GV → Prop
  | [] => True
  | x :: xs => GV.ok x ∧ okVs xs
def GA.ok : GA → Prop
  | .mk k v => k.size ≤ maxLen ∧ GV.ok v
def okAs : List GA → Prop
  | [] => True
  | x :: xs => GA.ok x ∧ okAs xs
end
theorem okVs_iff : ∀ {l : List GV}, okVs l ↔ ∀ x ∈ l, x.ok
  | [] => by simp [okVs]
  | x :: xs => by rw [okVs, okVs_iff]; simp
theorem okAs_iff : ∀ {l : List GA}, okAs l ↔ ∀ x ∈ l, x.ok
  | [] => by simp [okAs]
  | x :: xs => by rw [okAs, okAs_iff]; simp
/-! ### Bytes -/

abbrev Bs := List UInt8

def be : Nat → Nat → Bs
  | 0, _ => []
  | n + 1, u => be n (u / 256) ++ [UInt8.ofNat (u % 256)]
def lst (s : ByteArray) : Bs := s.data.toList
/-! ### Texts of values -/

end Go.Proofs

namespace Go.Proofs
open Go Go.Al

/-! ### Events, links, spans, scopes, resources, batches -/

structure GE where
  time : Int
  name : ByteArray
  attrs : List GA
structure GL where
  trace : Bs
  span : Bs
  state : ByteArray
  attrs : List GA
structure GSpan where
  trace : Bs
  id : Bs
  parent : Bs
  state : ByteArray
  name : ByteArray
  kind : Int
  start : Int
  fin : Int
  attrs : List GA
  events : List GE
  links : List GL
  code : Int
  note : ByteArray
structure GScope where
  name : ByteArray
  version : ByteArray
  spans : List GSpan
structure GRes where
  attrs : List GA
  scopes : List GScope

def GE.av (e : GE) : AV := .agg [uv e.time, sv e.name, .sl 7 (e.attrs.map avA)]
def GL.av (e : GL) : AV := .agg [.arr 16 e.trace, .arr 8 e.span, sv e.state, .sl 7 (e.attrs.map avA)]
def GSpan.av (s : GSpan) : AV := .agg [.arr 16 s.trace, .arr 8 s.id, .arr 8 s.parent, sv s.state, sv s.name, iv s.kind, uv s.start, uv s.fin, .sl 7 (s.attrs.map avA), .sl 3 (s.events.map GE.av), .sl 26 (s.links.map GL.av), .agg [iv s.code, sv s.note]]
def GScope.av (s : GScope) : AV := .agg [sv s.name, sv s.version, .sl 42 (s.spans.map GSpan.av)]
def GRes.av (r : GRes) : AV := .agg [.sl 7 (r.attrs.map avA), .sl 3 (r.scopes.map GScope.av)]
def sumBy {α : Type} (f : α → Nat) : List α → Nat
  | [] => 0
  | x :: xs => f x + sumBy f xs
def GE.wt (e : GE) : Nat := 1 + e.name.size + wtAs e.attrs
def GL.wt (e : GL) : Nat := 1 + e.state.size + wtAs e.attrs
def GSpan.wt (s : GSpan) : Nat := 1 + s.state.size + s.name.size + s.note.size + wtAs s.attrs + sumBy GE.wt s.events + sumBy GL.wt s.links
def GScope.wt (s : GScope) : Nat := 1 + s.name.size + s.version.size + sumBy GSpan.wt s.spans
def GRes.wt (r : GRes) : Nat := 1 + wtAs r.attrs + sumBy GScope.wt r.scopes
def u64 (n : Int) : Prop := 0 ≤ n ∧ n < 18446744073709551616
def i64 (n : Int) : Prop := -9223372036854775808 ≤ n ∧ n < 9223372036854775808
def GE.ok (e : GE) : Prop := u64 e.time ∧ e.name.size ≤ maxLen ∧ ∀ a ∈ e.attrs, a.ok
def GL.ok (e : GL) : Prop := e.trace.length = 16 ∧ e.span.length = 8 ∧ e.state.size ≤ maxLen ∧ ∀ a ∈ e.attrs, a.ok
def GSpan.ok (s : GSpan) : Prop := (s.trace.length = 16 ∧ s.id.length = 8 ∧ s.parent.length = 8) ∧ (s.state.size ≤ maxLen ∧ s.name.size ≤ maxLen ∧ s.note.size ≤ maxLen) ∧ (i64 s.kind ∧ u64 s.start ∧ u64 s.fin ∧ i64 s.code) ∧ (∀ a ∈ s.attrs, a.ok) ∧ (∀ e ∈ s.events, e.ok) ∧ ∀ e ∈ s.links, e.ok
def GScope.ok (s : GScope) : Prop := s.name.size ≤ maxLen ∧ s.version.size ≤ maxLen ∧ ∀ x ∈ s.spans, x.ok
def GRes.ok (r : GRes) : Prop := (∀ a ∈ r.attrs, a.ok) ∧ ∀ s ∈ r.scopes, s.ok
/-! ### What is left of a room -/
def leftV (v : GV) (left : Int) : Int := if left < 0 then -1 else if (v.wt : Int) ≤ left then left - v.wt else -1
def leftAs (l : List GA) (left : Int) : Int := if left < 0 then left else if (wtAs l : Int) ≤ left then left - wtAs l else -1

/-! ### Order of keys, own forms -/
def ltB (a b : ByteArray) : Bool := Op.bytesLess (lst a) (lst b)

def intoA : List GA → GA → List GA
  | [], a => [a]
  | x :: xs, a => if ltB x.key a.key then x :: intoA xs a else if x.key = a.key then a :: xs else a :: x :: xs
def intoAll : List GA → List GA → List GA
  | acc, [] => acc
  | acc, a :: r => intoAll (intoA acc a) r
mutual
def canonV : GV → GV
  | .mk k t n b l m => .mk k t n b (canonVs l) (intoAll [] (canonPs m))
def canonVs : List GV → List GV
  | [] => []
  | x :: xs => canonV x :: canonVs xs
def canonP : GA → GA
  | .mk k v => .mk k (canonV v)
def canonPs : List GA → List GA
  | [] => []
  | x :: xs => canonP x :: canonPs xs
end
theorem canonVs_map : ∀ l : List GV, canonVs l = l.map canonV
  | [] => rfl
  | x :: xs => by rw [canonVs, canonVs_map xs]; rfl
theorem canonPs_map : ∀ l : List GA, canonPs l = l.map canonP
  | [] => rfl
  | x :: xs => by rw [canonPs, canonPs_map xs]; rfl
def canonAs (l : List GA) : List GA := intoAll [] (l.map canonP)
theorem canonV_eq (g : GV) : canonV g = .mk g.kind g.text g.num g.bits (g.list.map canonV) (canonAs g.map) := by
  cases g with
  | mk k t n b l m => rw [canonV, canonVs_map, canonPs_map]; rfl
theorem canonP_eq (a : GA) : canonP a = .mk a.key (canonV a.val) := by cases a; rw [canonP]; rfl

/-! ### Sameness -/
mutual
def sameV : GV → GV → Bool
  | .mk k t n b l m, .mk k' t' n' b' l' m' => k == k' && decide (t = t') && n == n' && b == b' && sameVs l l' && sameAs m m'
def sameVs : List GV → List GV → Bool
  | [], [] => true
  | x :: xs, y :: ys => sameV x y && sameVs xs ys
  | _, _ => false
def sameA : GA → GA → Bool
  | .mk k v, .mk k' v' => decide (k = k') && sameV v v'
def sameAs : List GA → List GA → Bool
  | [], [] => true
  | x :: xs, y :: ys => sameA x y && sameAs xs ys
  | _, _ => false
end

mutual
theorem sameV_iff : ∀ (x y : GV), sameV x y = true ↔ x = y
  | .mk k t n b l m, .mk k' t' n' b' l' m' => by
    simp only [sameV, Bool.and_eq_true, beq_iff_eq, decide_eq_true_eq, sameVs_iff l l', sameAs_iff m m', GV.mk.injEq]
    constructor
    · rintro ⟨⟨⟨⟨⟨h1, h2⟩, h3⟩, h4⟩, h5⟩, h6⟩; exact ⟨h1, h2, h3, h4, h5, h6⟩
    · rintro ⟨h1, h2, h3, h4, h5, h6⟩; exact ⟨⟨⟨⟨⟨h1, h2⟩, h3⟩, h4⟩, h5⟩, h6⟩
theorem sameVs_iff : ∀ (x y : List GV), sameVs x y = true ↔ x = y
  | [], [] => by simp [sameVs]
  | x :: xs, y :: ys => by simp only [sameVs, Bool.and_eq_true, sameV_iff x y, sameVs_iff xs ys, List.cons.injEq]
  | [], y :: ys => by simp [sameVs]
  | x :: xs, [] => by simp [sameVs]
theorem sameA_iff : ∀ (x y : GA), sameA x y = true ↔ x = y
  | .mk k v, .mk k' v' => by simp only [sameA, Bool.and_eq_true, decide_eq_true_eq, sameV_iff v v', GA.mk.injEq]
theorem sameAs_iff : ∀ (x y : List GA), sameAs x y = true ↔ x = y
  | [], [] => by simp [sameAs]
  | x :: xs, y :: ys => by simp only [sameAs, Bool.and_eq_true, sameA_iff x y, sameAs_iff xs ys, List.cons.injEq]
  | [], y :: ys => by simp [sameAs]
  | x :: xs, [] => by simp [sameAs]
end
theorem sameV_refl (x : GV) : sameV x x = true := (sameV_iff x x).2 rfl
theorem sameAs_refl (x : List GA) : sameAs x x = true := (sameAs_iff x x).2 rfl

end Go.Proofs

namespace Go.Proofs
open Go Go.Al

/-! The functions of package utf and of its reference, in plain Lean. -/
def w64 (n : Int) : Int := IntKind.i64.wrap n
def lengthM (c : Int) : Int := if c < 128 then 1 else if c < 194 then 0 else if c < 224 then 2 else if c < 240 then 3 else if c < 245 then 4 else 0
def leastM (k : Int) : Int := if k = 2 then 128 else if k = 3 then 2048 else if k = 4 then 65536 else 0
def sizeM (r : Int) : Int := if r < 128 then 1 else if r < 2048 then 2 else if r < 65536 then 3 else 4
def isM (r : Int) : Bool := decide ((r ≥ 0 ∧ r < 55296) ∨ (r ≥ 57344 ∧ r < 1114112))
def isR (r : Int) : Bool := decide (r ≥ 0 ∧ r ≤ 1114111 ∧ (r < 55296 ∨ r > 57343))
def stepM (r b : Int) : Int := bitsOf (· ||| ·) .i32 (IntKind.i32.wrap (r * 2 ^ (min (6 : Int).toNat (IntKind.bits .i32)))) (IntKind.i32.wrap (bitsOf (· &&& ·) .u8 b 63))
def r0M (c k : Int) : Int := bitsOf (· &&& ·) .i32 (IntKind.i32.wrap c) ((127 : Int).fdiv (2 ^ (min k.toNat (IntKind.bits .i32))))
def badM (b : Int) : Bool := bitsOf (· &&& ·) .u8 b 192 != 128
def runeLoop (s : ByteArray) (p : Int) : Nat → Int → Int → Option Int
  | 0, _, r => some r
  | n + 1, i, r => if badM (bAt s (p + i)) = true then none else runeLoop s p n (i + 1) (stepM r (bAt s (p + i)))
def runeM (s : ByteArray) (p : Int) : Int × Int :=
  if p < 0 ∨ p ≥ s.size then (0, 0) else
  if lengthM (bAt s p) = 0 ∨ lengthM (bAt s p) > s.size - p then (0, 0) else
  if lengthM (bAt s p) = 1 then (IntKind.i32.wrap (bAt s p), 1) else
  match runeLoop s p (lengthM (bAt s p) - 1).toNat 1 (r0M (bAt s p) (lengthM (bAt s p))) with
  | none => (0, 0)
  | some r => if r < leastM (lengthM (bAt s p)) ∨ isM r = false then (0, 0) else (r, lengthM (bAt s p))

/-- How far the places `f` goes from `p` on: there it ends. -/
def goM (f : Int → Int) (n : Int) : Nat → Int → Int → Int × Int
  | 0, p, c => (p, c)
  | m + 1, p, c => if p < n then (if f p = 0 then (p, c) else goM f n m (p + f p) (c + 1)) else (p, c)
def cutG (f : Int → Int) (n lim : Int) : Nat → Int → Int
  | 0, p => p
  | m + 1, p => if p < n then (if f p = 0 ∨ p + f p > lim then p else cutG f n lim m (p + f p)) else p
def fM (s : ByteArray) (p : Int) : Int := (runeM s p).2
def endM (s : ByteArray) : Int × Int := goM (fM s) s.size (s.size + 1) 0 0
def checkM (s : ByteArray) : Int := if (endM s).1 < s.size then (endM s).1 else -1
def countM (s : ByteArray) : Int := if (endM s).1 < s.size then -1 else (endM s).2
def cutM (s : ByteArray) (n : Int) : Int := cutG (fM s) s.size n (s.size + 1) 0
def contM (n : Int) : Int := bitsOf (· ||| ·) .u8 128 (bitsOf (· &&& ·) .u8 (IntKind.u8.wrap n) 63)
def headM (r k : Int) : Int := bitsOf (· ||| ·) .u8 (IntKind.u8.wrap (240 * 2 ^ (min (w64 (4 - k)).toNat (IntKind.bits .u8)))) (IntKind.u8.wrap (r.fdiv (2 ^ (min (w64 (6 * w64 (k - 1))).toNat (IntKind.bits .i32)))))
def bytesP (r : Int) : List UInt8 :=
  if sizeM r = 1 then [ofI (IntKind.u8.wrap r)] else
  if sizeM r = 2 then [ofI (headM r (sizeM r)), ofI (contM r)] else
  if sizeM r = 3 then [ofI (headM r (sizeM r)), ofI (contM (r.fdiv (2 ^ (min (6 : Int).toNat (IntKind.bits .i32))))), ofI (contM r)] else
  [ofI (headM r (sizeM r)), ofI (contM (r.fdiv (2 ^ (min (12 : Int).toNat (IntKind.bits .i32))))), ofI (contM (r.fdiv (2 ^ (min (6 : Int).toNat (IntKind.bits .i32))))), ofI (contM r)]
def guessLoop (s : ByteArray) : Nat → Int → Int → Int
  | 0, _, n => n
  | m + 1, i, n => if i ≥ s.size then -1 else guessLoop s m (i + 1) (64 * n + bAt s i - 128)
def guessM (s : ByteArray) : Int :=
  if bAt s 0 < 128 then bAt s 0 else if bAt s 0 ≥ 240 then guessLoop s 3 1 (bAt s 0 - 240) else if bAt s 0 ≥ 224 then guessLoop s 2 1 (bAt s 0 - 224) else guessLoop s 1 1 (bAt s 0 - 192)
def topM (k n d : Int) : UInt8 := ofI (IntKind.u8.wrap (w64 (k + w64 (n.tdiv d))))
def midM (n d : Int) : UInt8 := ofI (IntKind.u8.wrap (w64 (128 + (w64 (n.tdiv d)).tmod 64)))
def lowM (n : Int) : UInt8 := ofI (IntKind.u8.wrap (w64 (128 + n.tmod 64)))
def bytesM (r : Int) : List UInt8 :=
  if w64 r < 128 then [ofI (IntKind.u8.wrap (w64 r))] else
  if w64 r < 2048 then [topM 192 (w64 r) 64, lowM (w64 r)] else
  if w64 r < 65536 then [topM 224 (w64 r) 4096, midM (w64 r) 64, lowM (w64 r)] else
  [topM 240 (w64 r) 262144, midM (w64 r) 4096, midM (w64 r) 64, lowM (w64 r)]
def rRuneM (s : ByteArray) (p : Int) : Int × Int :=
  if p < 0 ∨ p ≥ s.size then (0, 0) else
  if guessM (s.extract p.toNat s.size) < 0 ∨ guessM (s.extract p.toNat s.size) > 1114111 ∨ isR (guessM (s.extract p.toNat s.size)) = false then (0, 0) else
  if ((strOf (bytesM (guessM (s.extract p.toNat s.size)))).size : Int) > s.size - p ∨ s.extract p.toNat (p + (strOf (bytesM (guessM (s.extract p.toNat s.size)))).size).toNat ≠ strOf (bytesM (guessM (s.extract p.toNat s.size))) then (0, 0) else
  (guessM (s.extract p.toNat s.size), (strOf (bytesM (guessM (s.extract p.toNat s.size)))).size)
def rF (s : ByteArray) (p : Int) : Int := (rRuneM s p).2
def rEnd (s : ByteArray) : Int × Int := goM (rF s) s.size (s.size + 1) 0 0
def rCheckM (s : ByteArray) : Int := if (rEnd s).1 = s.size then -1 else (rEnd s).1
def rCountM (s : ByteArray) : Int := if (rEnd s).1 < s.size then -1 else (rEnd s).2
def rCutLoop (s : ByteArray) : Nat → ByteArray
  | 0 => .empty
  | k + 1 => if rCheckM (s.extract 0 (k + 1)) = -1 then s.extract 0 (k + 1) else rCutLoop s k
def rCutM (s : ByteArray) (n : Int) : ByteArray := rCutLoop s (if s.size < n then (s.size : Int) else n).toNat

end Go.Proofs
namespace Go.Proofs
open Go Go.Al
theorem lengthM_range (c : Int) : 0 ≤ lengthM c ∧ lengthM c ≤ 4 := by
  unfold lengthM
  (repeat' split)
  all_goals omega
end Go.Proofs
namespace Go.Proofs
open Go Go.Al
theorem ex_size (s : ByteArray) (a b : Nat) (h : b ≤ s.size) : (s.extract a b).size = b - a := by
  rw [ByteArray.size_extract]; omega
end Go.Proofs
namespace Go.Proofs
open Go Go.Al
theorem strOf_size_le (r : Int) : 1 ≤ (strOf (bytesM r)).size ∧ (strOf (bytesM r)).size ≤ 4 := by
  rw [strOf_size]
  unfold bytesM
  (repeat' split)
  all_goals simp
/-- A decoder: how long is what begins at a place, if anything does. -/
def Dec (f : Int → Int) (n : Nat) : Prop := ∀ p : Int, 0 ≤ p → p < n → f p = 0 ∨ (1 ≤ f p ∧ p + f p ≤ n)
theorem dec_fM (s : ByteArray) : Dec (fM s) s.size := by
  intro p h0 h1
  unfold fM runeM
  have := lengthM_range (bAt s p)
  (repeat' split)
  all_goals (dsimp only; omega)
theorem dec_rF (s : ByteArray) : Dec (rF s) s.size := by
  intro p h0 h1
  unfold rF rRuneM
  have := strOf_size_le (guessM (s.extract p.toNat s.size))
  (repeat' split)
  all_goals (dsimp only; omega)
end Go.Proofs
namespace Go.Proofs
open Go Go.Al
end Go.Proofs

namespace Go.Proofs
open Go Go.Al

/-! ### Bits -/
theorem bits_and8 (a b : Int) (ha : 0 ≤ a ∧ a < 256) (hb : 0 ≤ b ∧ b < 256) : bitsOf (· &&& ·) .u8 a b = ((a.toNat &&& b.toNat : Nat) : Int) := by
  have h1 : (BitVec.ofInt 8 a).toNat = a.toNat := by rw [BitVec.toNat_ofInt]; omega
  have h2 : (BitVec.ofInt 8 b).toNat = b.toNat := by rw [BitVec.toNat_ofInt]; omega
  show IntKind.u8.wrap ((BitVec.ofInt 8 a &&& BitVec.ofInt 8 b).toNat) = _
  rw [BitVec.toNat_and, h1, h2]
  have := @Nat.and_le_left a.toNat b.toNat
  exact wrap8 (by omega) (by omega)
theorem bits_or32 (a b : Int) (ha : 0 ≤ a ∧ a < 1073741824) (hb : 0 ≤ b ∧ b < 1073741824) : bitsOf (· ||| ·) .i32 a b = ((a.toNat ||| b.toNat : Nat) : Int) := by
  have h1 : (BitVec.ofInt 32 a).toNat = a.toNat := by rw [BitVec.toNat_ofInt]; omega
  have h2 : (BitVec.ofInt 32 b).toNat = b.toNat := by rw [BitVec.toNat_ofInt]; omega
  show IntKind.i32.wrap ((BitVec.ofInt 32 a ||| BitVec.ofInt 32 b).toNat) = _
  rw [BitVec.toNat_or, h1, h2]
  have : a.toNat ||| b.toNat < 2 ^ 30 := Nat.or_lt_two_pow (by omega) (by omega)
  exact wrap32 (by omega) (by omega)
theorem bits_and32 (a b : Int) (ha : 0 ≤ a ∧ a < 1073741824) (hb : 0 ≤ b ∧ b < 1073741824) : bitsOf (· &&& ·) .i32 a b = ((a.toNat &&& b.toNat : Nat) : Int) := by
  have h1 : (BitVec.ofInt 32 a).toNat = a.toNat := by rw [BitVec.toNat_ofInt]; omega
  have h2 : (BitVec.ofInt 32 b).toNat = b.toNat := by rw [BitVec.toNat_ofInt]; omega
  show IntKind.i32.wrap ((BitVec.ofInt 32 a &&& BitVec.ofInt 32 b).toNat) = _
  rw [BitVec.toNat_and, h1, h2]
  have := @Nat.and_le_left a.toNat b.toNat
  exact wrap32 (by omega) (by omega)

theorem nat192 : ∀ b, b < 256 → ((b &&& 192) = 128 ↔ 128 ≤ b ∧ b < 192) := by decide +kernel
theorem nat63 (b : Nat) : (b &&& 63) = b % 64 := Nat.and_two_pow_sub_one_eq_mod b 6
theorem nator64 (a b : Nat) (h : b < 64) : a * 64 ||| b = a * 64 + b := by
  have := Nat.two_pow_add_eq_or_of_lt (i := 6) h a
  rw [Nat.mul_comm a 64]; exact this.symm

def isC (b : Int) : Prop := 128 ≤ b ∧ b < 192
theorem bad_iff (b : Int) (h : 0 ≤ b ∧ b < 256) : badM b = true ↔ ¬ isC b := by
  have := nat192 b.toNat (by omega)
  unfold badM isC
  rw [bits_and8 b 192 h (by omega), bne_iff_ne, ne_eq, show (192 : Int).toNat = 192 from rfl]
  constructor
  · intro h1 h2; exact h1 (by have := this.2 (by omega); omega)
  · intro h1 h2; exact h1 (by have := this.1 (by omega); omega)
theorem step_eq (r b : Int) (hr : 0 ≤ r ∧ r < 1000000) (hb : isC b) : stepM r b = 64 * r + (b - 128) := by
  unfold isC at hb
  unfold stepM
  have e1 : IntKind.i32.wrap (r * 2 ^ (min (6 : Int).toNat (IntKind.bits .i32))) = r * 64 := wrap32 (n := r * 64) (by omega) (by omega)
  have e2 : bitsOf (· &&& ·) .u8 b 63 = b - 128 := by
    rw [bits_and8 b 63 (by omega) (by omega), show (63 : Int).toNat = 63 from rfl, nat63]; omega
  rw [e1, e2, wrap32 (by omega) (by omega), bits_or32 _ _ (by omega) (by omega)]
  have : (r * 64).toNat = r.toNat * 64 := by omega
  rw [this, nator64 _ _ (by omega)]
  omega
theorem r0_2 (c : Int) (h : 192 ≤ c ∧ c < 224) : r0M c 2 = c - 192 := by
  unfold r0M
  rw [wrap32 (by omega) (by omega)]
  have e : ((127 : Int).fdiv (2 ^ (min (2 : Int).toNat (IntKind.bits .i32)))) = 31 := by decide
  rw [e, bits_and32 _ _ (by omega) (by omega), show (31 : Int).toNat = 31 from rfl, Nat.and_two_pow_sub_one_eq_mod c.toNat 5]
  omega
theorem r0_3 (c : Int) (h : 224 ≤ c ∧ c < 240) : r0M c 3 = c - 224 := by
  unfold r0M
  rw [wrap32 (by omega) (by omega)]
  have e : ((127 : Int).fdiv (2 ^ (min (3 : Int).toNat (IntKind.bits .i32)))) = 15 := by decide
  rw [e, bits_and32 _ _ (by omega) (by omega), show (15 : Int).toNat = 15 from rfl, Nat.and_two_pow_sub_one_eq_mod c.toNat 4]
  omega
theorem r0_4 (c : Int) (h : 240 ≤ c ∧ c < 248) : r0M c 4 = c - 240 := by
  unfold r0M
  rw [wrap32 (by omega) (by omega)]
  have e : ((127 : Int).fdiv (2 ^ (min (4 : Int).toNat (IntKind.bits .i32)))) = 7 := by decide
  rw [e, bits_and32 _ _ (by omega) (by omega), show (7 : Int).toNat = 7 from rfl, Nat.and_two_pow_sub_one_eq_mod c.toNat 3]
  omega
end Go.Proofs

namespace Go.Proofs
open Go Go.Al

instance (b : Int) : Decidable (isC b) := by unfold isC; infer_instance
def r3 (b0 b1 b2 : Int) : Int := 64 * (64 * (b0 - 224) + (b1 - 128)) + (b2 - 128)
def r4 (b0 b1 b2 b3 : Int) : Int := 64 * (64 * (64 * (b0 - 240) + (b1 - 128)) + (b2 - 128)) + (b3 - 128)
def ok2 (n b0 b1 : Int) : Prop := 194 ≤ b0 ∧ b0 < 224 ∧ 2 ≤ n ∧ isC b1
def ok3 (n b0 b1 b2 : Int) : Prop := 224 ≤ b0 ∧ b0 < 240 ∧ 3 ≤ n ∧ isC b1 ∧ isC b2 ∧ 2048 ≤ r3 b0 b1 b2 ∧ (r3 b0 b1 b2 < 55296 ∨ 57344 ≤ r3 b0 b1 b2)
def ok4 (n b0 b1 b2 b3 : Int) : Prop := 240 ≤ b0 ∧ b0 < 245 ∧ 4 ≤ n ∧ isC b1 ∧ isC b2 ∧ isC b3 ∧ 65536 ≤ r4 b0 b1 b2 b3 ∧ r4 b0 b1 b2 b3 < 1114112
instance (n b0 b1 : Int) : Decidable (ok2 n b0 b1) := by unfold ok2; infer_instance
instance (n b0 b1 b2 : Int) : Decidable (ok3 n b0 b1 b2) := by unfold ok3; infer_instance
instance (n b0 b1 b2 b3 : Int) : Decidable (ok4 n b0 b1 b2 b3) := by unfold ok4; infer_instance
/-- What begins with these bytes, where `n` of them are there. -/
def D4 (n b0 b1 b2 b3 : Int) : Int × Int :=
  if n < 1 then (0, 0) else if b0 < 128 then (b0, 1) else
  if ok2 n b0 b1 then (64 * (b0 - 192) + (b1 - 128), 2) else
  if ok3 n b0 b1 b2 then (r3 b0 b1 b2, 3) else
  if ok4 n b0 b1 b2 b3 then (r4 b0 b1 b2 b3, 4) else (0, 0)
def DS (s : ByteArray) (p : Int) : Int × Int := D4 (s.size - p) (bAt s p) (bAt s (p + 1)) (bAt s (p + 2)) (bAt s (p + 3))

theorem isM_iff (r : Int) : isM r = true ↔ (0 ≤ r ∧ r < 55296) ∨ (57344 ≤ r ∧ r < 1114112) := by simp [isM]
theorem isR_iff (r : Int) : isR r = true ↔ (0 ≤ r ∧ r < 55296) ∨ (57344 ≤ r ∧ r < 1114112) := by simp [isR]; omega
theorem isM_false {r : Int} (h : ¬ ((0 ≤ r ∧ r < 55296) ∨ (57344 ≤ r ∧ r < 1114112))) : isM r = false := by
  cases k : isM r
  · rfl
  · exact absurd ((isM_iff r).1 k) h

theorem len0 {c : Int} (h : 128 ≤ c ∧ c < 194 ∨ 245 ≤ c) : lengthM c = 0 := by unfold lengthM; (repeat' split) <;> omega
theorem len1 {c : Int} (h : c < 128) : lengthM c = 1 := by unfold lengthM; (repeat' split) <;> omega
theorem len2 {c : Int} (h : 194 ≤ c ∧ c < 224) : lengthM c = 2 := by unfold lengthM; (repeat' split) <;> omega
theorem len3 {c : Int} (h : 224 ≤ c ∧ c < 240) : lengthM c = 3 := by unfold lengthM; (repeat' split) <;> omega
theorem len4 {c : Int} (h : 240 ≤ c ∧ c < 245) : lengthM c = 4 := by unfold lengthM; (repeat' split) <;> omega

theorem loop1 (s : ByteArray) (p r : Int) (h : 0 ≤ r ∧ r < 1000000) (i : Int) (n : Nat) : runeLoop s p (n + 1) i r = if isC (bAt s (p + i)) then runeLoop s p n (i + 1) (64 * r + (bAt s (p + i) - 128)) else none := by
  have hb := bAt_lt s (p + i)
  have h1 := bad_iff _ hb
  rw [runeLoop]
  by_cases hc : isC (bAt s (p + i))
  · rw [if_neg (by rw [h1]; exact fun h => h hc), if_pos hc, step_eq r _ h hc]
  · rw [if_pos (h1.2 hc), if_neg hc]

theorem rune_neg (s : ByteArray) (p : Int) (h : p < 0 ∨ s.size ≤ p) : runeM s p = (0, 0) := by unfold runeM; rw [if_pos (by omega)]
theorem rrune_neg (s : ByteArray) (p : Int) (h : p < 0 ∨ s.size ≤ p) : rRuneM s p = (0, 0) := by unfold rRuneM; rw [if_pos (by omega)]

theorem not_ok2 {n b0 b1 : Int} (h : ¬ (194 ≤ b0 ∧ b0 < 224 ∧ 2 ≤ n)) : ¬ ok2 n b0 b1 := fun ⟨a, b, c, _⟩ => h ⟨a, b, c⟩
theorem not_ok3 {n b0 b1 b2 : Int} (h : ¬ (224 ≤ b0 ∧ b0 < 240 ∧ 3 ≤ n)) : ¬ ok3 n b0 b1 b2 := fun ⟨a, b, c, _⟩ => h ⟨a, b, c⟩
theorem not_ok4 {n b0 b1 b2 b3 : Int} (h : ¬ (240 ≤ b0 ∧ b0 < 245 ∧ 4 ≤ n)) : ¬ ok4 n b0 b1 b2 b3 := fun ⟨a, b, c, _⟩ => h ⟨a, b, c⟩

theorem rune_D (s : ByteArray) (p : Int) (hp : 0 ≤ p) : runeM s p = DS s p := by
  unfold DS
  generalize hn : (s.size : Int) - p = n
  by_cases h1 : n < 1
  · rw [rune_neg s p (by omega)]; unfold D4; rw [if_pos h1]
  have hb := bAt_lt s p
  unfold runeM
  rw [if_neg (by omega), hn]
  unfold D4
  rw [if_neg h1]
  generalize hb0 : bAt s p = b0 at hb ⊢
  by_cases a1 : b0 < 128
  · rw [len1 a1, if_neg (by omega), if_pos rfl, if_pos a1, wrap32 (by omega) (by omega)]
  rw [if_neg a1]
  by_cases a2 : b0 < 194
  · rw [len0 (by omega), if_pos (.inl rfl), if_neg (not_ok2 (by omega)), if_neg (not_ok3 (by omega)), if_neg (not_ok4 (by omega))]
  by_cases a3 : b0 < 224
  · rw [len2 (by omega)]
    by_cases c : n < 2
    · rw [if_pos (by omega), if_neg (not_ok2 (by omega)), if_neg (not_ok3 (by omega)), if_neg (not_ok4 (by omega))]
    rw [if_neg (by omega), if_neg (by decide), r0_2 _ (by omega), show ((2 : Int) - 1).toNat = 0 + 1 from rfl, loop1 _ _ _ (by omega)]
    by_cases c1 : isC (bAt s (p + 1))
    · have c1' := c1; unfold isC at c1'
      rw [if_pos c1]
      simp only [runeLoop]
      rw [if_neg, if_pos ⟨by omega, by omega, by omega, c1⟩]
      have e1 : leastM 2 = 128 := rfl
      rw [e1]
      rintro (h | h)
      · omega
      · have := (isM_iff (64 * (b0 - 192) + (bAt s (p + 1) - 128))).2 (by omega); rw [this] at h; cases h
    · rw [if_neg c1, if_neg (fun h => c1 h.2.2.2), if_neg (not_ok3 (by omega)), if_neg (not_ok4 (by omega))]
  by_cases a4 : b0 < 240
  · rw [len3 (by omega), if_neg (not_ok2 (by omega))]
    by_cases c : n < 3
    · rw [if_pos (by omega), if_neg (not_ok3 (by omega)), if_neg (not_ok4 (by omega))]
    rw [if_neg (by omega), if_neg (by decide), r0_3 _ (by omega), show ((3 : Int) - 1).toNat = 0 + 1 + 1 from rfl, loop1 _ _ _ (by omega)]
    by_cases c1 : isC (bAt s (p + 1))
    · have c1' := c1; unfold isC at c1'
      rw [if_pos c1, loop1 _ _ _ (by omega), show p + (1 + 1) = p + 2 by omega]
      by_cases c2 : isC (bAt s (p + 2))
      · have c2' := c2; unfold isC at c2'
        rw [if_pos c2]
        simp only [runeLoop]
        rw [show 64 * (64 * (b0 - 224) + (bAt s (p + 1) - 128)) + (bAt s (p + 2) - 128) = r3 b0 (bAt s (p + 1)) (bAt s (p + 2)) from rfl]
        have hr : r3 b0 (bAt s (p + 1)) (bAt s (p + 2)) = 64 * (64 * (b0 - 224) + (bAt s (p + 1) - 128)) + (bAt s (p + 2) - 128) := rfl
        have hm := isM_iff (r3 b0 (bAt s (p + 1)) (bAt s (p + 2)))
        have e1 : leastM 3 = 2048 := rfl
        rw [e1, if_neg (not_ok4 (by omega))]
        by_cases d : 2048 ≤ r3 b0 (bAt s (p + 1)) (bAt s (p + 2)) ∧ (r3 b0 (bAt s (p + 1)) (bAt s (p + 2)) < 55296 ∨ 57344 ≤ r3 b0 (bAt s (p + 1)) (bAt s (p + 2)))
        · rw [if_neg, if_pos (show ok3 _ _ _ _ from ⟨by omega, by omega, by omega, c1, c2, d⟩)]
          rintro (h | h)
          · omega
          · rw [hm.2 (by omega)] at h; cases h
        · rw [if_pos, if_neg (fun h => d h.2.2.2.2.2)]
          by_cases e : r3 b0 (bAt s (p + 1)) (bAt s (p + 2)) < 2048
          · exact .inl e
          · exact .inr (isM_false (by omega))
      · rw [if_neg c2, if_neg (fun h => c2 h.2.2.2.2.1), if_neg (not_ok4 (by omega))]
    · rw [if_neg c1, if_neg (fun h => c1 h.2.2.2.1), if_neg (not_ok4 (by omega))]
  rw [if_neg (not_ok2 (by omega)), if_neg (not_ok3 (by omega))]
  by_cases a5 : b0 < 245
  · rw [len4 (by omega)]
    by_cases c : n < 4
    · rw [if_pos (by omega), if_neg (not_ok4 (by omega))]
    rw [if_neg (by omega), if_neg (by decide), r0_4 _ (by omega), show ((4 : Int) - 1).toNat = 0 + 1 + 1 + 1 from rfl, loop1 _ _ _ (by omega)]
    by_cases c1 : isC (bAt s (p + 1))
    · have c1' := c1; unfold isC at c1'
      rw [if_pos c1, loop1 _ _ _ (by omega), show p + (1 + 1) = p + 2 by omega]
      by_cases c2 : isC (bAt s (p + 2))
      · have c2' := c2; unfold isC at c2'
        rw [if_pos c2, loop1 _ _ _ (by omega), show p + (1 + 1 + 1) = p + 3 by omega]
        by_cases c3 : isC (bAt s (p + 3))
        · have c3' := c3; unfold isC at c3'
          rw [if_pos c3]
          simp only [runeLoop]
          rw [show 64 * (64 * (64 * (b0 - 240) + (bAt s (p + 1) - 128)) + (bAt s (p + 2) - 128)) + (bAt s (p + 3) - 128) = r4 b0 (bAt s (p + 1)) (bAt s (p + 2)) (bAt s (p + 3)) from rfl]
          have hr : r4 b0 (bAt s (p + 1)) (bAt s (p + 2)) (bAt s (p + 3)) = 64 * (64 * (64 * (b0 - 240) + (bAt s (p + 1) - 128)) + (bAt s (p + 2) - 128)) + (bAt s (p + 3) - 128) := rfl
          have hm := isM_iff (r4 b0 (bAt s (p + 1)) (bAt s (p + 2)) (bAt s (p + 3)))
          have e1 : leastM 4 = 65536 := rfl
          rw [e1]
          by_cases d : 65536 ≤ r4 b0 (bAt s (p + 1)) (bAt s (p + 2)) (bAt s (p + 3)) ∧ r4 b0 (bAt s (p + 1)) (bAt s (p + 2)) (bAt s (p + 3)) < 1114112
          · rw [if_neg, if_pos (show ok4 _ _ _ _ _ from ⟨by omega, by omega, by omega, c1, c2, c3, d⟩)]
            rintro (h | h)
            · omega
            · rw [hm.2 (by omega)] at h; cases h
          · rw [if_pos, if_neg (fun h => d h.2.2.2.2.2.2)]
            by_cases e : r4 b0 (bAt s (p + 1)) (bAt s (p + 2)) (bAt s (p + 3)) < 65536
            · exact .inl e
            · exact .inr (isM_false (by omega))
        · rw [if_neg c3, if_neg (fun h => c3 h.2.2.2.2.2.1)]
      · rw [if_neg c2, if_neg (fun h => c2 h.2.2.2.2.1)]
    · rw [if_neg c1, if_neg (fun h => c1 h.2.2.2.1)]
  · rw [len0 (by omega), if_pos (.inl rfl), if_neg (not_ok4 (by omega))]
end Go.Proofs

namespace Go.Proofs
open Go Go.Al

def valid (r : Int) : Prop := (0 ≤ r ∧ r < 55296) ∨ (57344 ≤ r ∧ r < 1114112)
/-- The bytes of a character, as numbers. -/
def pb (n : Int) : List Int :=
  if n < 128 then [n] else
  if n < 2048 then [192 + n / 64, 128 + n % 64] else
  if n < 65536 then [224 + n / 4096, 128 + n / 64 % 64, 128 + n % 64] else
  [240 + n / 262144, 128 + n / 4096 % 64, 128 + n / 64 % 64, 128 + n % 64]
def Mat (s : ByteArray) : Int → List Int → Prop
  | _, [] => True
  | p, x :: xs => bAt s p = x ∧ Mat s (p + 1) xs

theorem enc_D4 {s : ByteArray} {p g : Int} (hv : valid g) (hm : Mat s p (pb g)) (hl : ((pb g).length : Int) ≤ s.size - p) : DS s p = (g, ((pb g).length : Int)) := by
  unfold valid at hv
  unfold pb at hm hl ⊢
  unfold DS D4
  by_cases a1 : g < 128
  · rw [if_pos a1] at *
    simp only [Mat, and_true] at hm
    simp only [List.length_cons, List.length_nil] at *
    rw [if_neg (by omega), if_pos (by omega), hm]; rfl
  rw [if_neg a1] at *
  by_cases a2 : g < 2048
  · rw [if_pos a2] at *
    simp only [Mat, and_true] at hm
    simp only [List.length_cons, List.length_nil] at *
    obtain ⟨m1, m2⟩ := hm
    rw [if_neg (by omega), if_neg (by omega), if_pos]
    · rw [m1, m2]; congr 1; omega
    · exact ⟨by omega, by omega, by omega, by unfold isC; omega⟩
  rw [if_neg a2] at *
  by_cases a3 : g < 65536
  · rw [if_pos a3] at *
    simp only [Mat, and_true] at hm
    simp only [List.length_cons, List.length_nil, show p + 1 + 1 = p + 2 by omega] at *
    obtain ⟨m1, m2, m3⟩ := hm
    have e : r3 (bAt s p) (bAt s (p + 1)) (bAt s (p + 2)) = g := by unfold r3; rw [m1, m2, m3]; omega
    rw [if_neg (by omega), if_neg (by omega), if_neg (not_ok2 (by omega)), if_pos]
    · rw [e]; rfl
    · exact ⟨by omega, by omega, by omega, by unfold isC; omega, by unfold isC; omega, by omega, by omega⟩
  rw [if_neg a3] at *
  simp only [Mat, and_true] at hm
  simp only [List.length_cons, List.length_nil, show p + 1 + 1 = p + 2 by omega, show p + 2 + 1 = p + 3 by omega] at *
  obtain ⟨m1, m2, m3, m4⟩ := hm
  have e : r4 (bAt s p) (bAt s (p + 1)) (bAt s (p + 2)) (bAt s (p + 3)) = g := by unfold r4; rw [m1, m2, m3, m4]; omega
  rw [if_neg (by omega), if_neg (by omega), if_neg (not_ok2 (by omega)), if_neg (not_ok3 (by omega)), if_pos]
  · rw [e]; rfl
  · exact ⟨by omega, by omega, by omega, by unfold isC; omega, by unfold isC; omega, by unfold isC; omega, by omega, by omega⟩

/-- The number that the reference guesses. -/
def gu (n b0 b1 b2 b3 : Int) : Int :=
  if b0 < 128 then b0 else
  if 240 ≤ b0 then (if n < 4 then -1 else r4 b0 b1 b2 b3) else
  if 224 ≤ b0 then (if n < 3 then -1 else r3 b0 b1 b2) else
  if n < 2 then -1 else 64 * (b0 - 192) + (b1 - 128)

theorem D4_enc {s : ByteArray} {p r k : Int} (hd : DS s p = (r, k)) (hk : k ≠ 0) :
    valid r ∧ Mat s p (pb r) ∧ k = (pb r).length ∧ k ≤ s.size - p ∧ gu (s.size - p) (bAt s p) (bAt s (p + 1)) (bAt s (p + 2)) (bAt s (p + 3)) = r := by
  have hb := bAt_lt s p
  unfold DS D4 at hd
  unfold gu valid
  split at hd
  · cases hd; exact absurd rfl hk
  rename_i h0
  split at hd
  · rename_i a1
    cases hd
    have e : pb (bAt s p) = [bAt s p] := by unfold pb; rw [if_pos a1]
    rw [e, if_pos a1]
    exact ⟨by omega, ⟨rfl, trivial⟩, rfl, by omega, rfl⟩
  rename_i a1
  split at hd
  · rename_i o
    obtain ⟨o1, o2, o3, o4⟩ := o
    unfold isC at o4
    cases hd
    have e : pb (64 * (bAt s p - 192) + (bAt s (p + 1) - 128)) = [bAt s p, bAt s (p + 1)] := by
      unfold pb; rw [if_neg (by omega), if_pos (by omega)]; congr 1
      · omega
      · congr 1; omega
    rw [e, if_neg a1, if_neg (by omega), if_neg (by omega), if_neg (by omega)]
    exact ⟨by omega, ⟨rfl, rfl, trivial⟩, rfl, by omega, rfl⟩
  split at hd
  · rename_i o
    obtain ⟨o1, o2, o3, o4, o5, o6, o7⟩ := o
    unfold isC at o4 o5
    cases hd
    have hr : r3 (bAt s p) (bAt s (p + 1)) (bAt s (p + 2)) = 64 * (64 * (bAt s p - 224) + (bAt s (p + 1) - 128)) + (bAt s (p + 2) - 128) := rfl
    have e : pb (r3 (bAt s p) (bAt s (p + 1)) (bAt s (p + 2))) = [bAt s p, bAt s (p + 1), bAt s (p + 2)] := by
      unfold pb; rw [if_neg (by omega), if_neg (by omega), if_pos (by omega)]; congr 1
      · omega
      · congr 1
        · omega
        · congr 1; omega
    rw [e, if_neg a1, if_neg (by omega), if_pos (by omega), if_neg (by omega)]
    exact ⟨by omega, ⟨rfl, rfl, by rw [show p + 1 + 1 = p + 2 by omega], trivial⟩, rfl, by omega, rfl⟩
  split at hd
  · rename_i o
    obtain ⟨o1, o2, o3, o4, o5, o6, o7, o8⟩ := o
    unfold isC at o4 o5 o6
    cases hd
    have hr : r4 (bAt s p) (bAt s (p + 1)) (bAt s (p + 2)) (bAt s (p + 3)) = 64 * (64 * (64 * (bAt s p - 240) + (bAt s (p + 1) - 128)) + (bAt s (p + 2) - 128)) + (bAt s (p + 3) - 128) := rfl
    have e : pb (r4 (bAt s p) (bAt s (p + 1)) (bAt s (p + 2)) (bAt s (p + 3))) = [bAt s p, bAt s (p + 1), bAt s (p + 2), bAt s (p + 3)] := by
      unfold pb; rw [if_neg (by omega), if_neg (by omega), if_neg (by omega)]; congr 1
      · omega
      · congr 1
        · omega
        · congr 1
          · omega
          · congr 1; omega
    rw [e, if_neg a1, if_pos (by omega), if_neg (by omega)]
    exact ⟨by omega, ⟨rfl, rfl, by rw [show p + 1 + 1 = p + 2 by omega], by rw [show p + 1 + 1 + 1 = p + 3 by omega], trivial⟩, rfl, by omega, rfl⟩
  · cases hd; exact absurd rfl hk

theorem DS_pos (s : ByteArray) (p : Int) : DS s p = (0, 0) ∨ (DS s p).2 ≠ 0 := by
  unfold DS D4
  (repeat' split)
  all_goals first | exact .inl rfl | exact .inr (by dsimp only; omega)
end Go.Proofs

namespace Go.Proofs
open Go Go.Al

theorem wrap8_id {n : Int} (h : 0 ≤ n ∧ n < 256) : IntKind.u8.wrap n = n := wrap8 h.1 h.2
theorem bytesM_pb {r : Int} (h : 0 ≤ r ∧ r < 1114112) : bytesM r = (pb r).map ofI := by
  have hw : w64 r = r := wrap64 (by omega) (by omega)
  have q1 : ∀ d : Int, 0 < d → r.tdiv d = r / d := fun d _ => Int.tdiv_eq_ediv_of_nonneg h.1
  have m1 : ∀ x : Int, 0 ≤ x → x.tmod 64 = x % 64 := fun x hx => Int.tmod_eq_emod_of_nonneg hx
  have top : ∀ (k d : Int), 0 < d → 0 ≤ k → k + r / d < 256 → topM k r d = ofI (k + r / d) := by
    intro k d hd hk hlt
    have hq : 0 ≤ r / d := Int.ediv_nonneg h.1 (by omega)
    unfold topM w64
    rw [q1 d hd, wrap64 (n := r / d) (by omega) (by omega), wrap64 (by omega) (by omega), wrap8_id (by omega)]
  have mid : ∀ d : Int, 0 < d → midM r d = ofI (128 + r / d % 64) := by
    intro d hd
    have hq : 0 ≤ r / d := Int.ediv_nonneg h.1 (by omega)
    have hle : r / d ≤ r := Int.ediv_le_self _ h.1
    unfold midM w64
    rw [q1 d hd, wrap64 (n := r / d) (by omega) (by omega), m1 _ hq, wrap64 (by omega) (by omega), wrap8_id (by omega)]
  have low : lowM r = ofI (128 + r % 64) := by
    unfold lowM w64
    rw [m1 _ h.1, wrap64 (by omega) (by omega), wrap8_id (by omega)]
  unfold bytesM pb
  rw [hw]
  by_cases a1 : r < 128
  · rw [if_pos a1, if_pos a1, wrap8_id (by omega)]; rfl
  rw [if_neg a1, if_neg a1]
  by_cases a2 : r < 2048
  · rw [if_pos a2, if_pos a2, top 192 64 (by omega) (by omega) (by omega), low]; rfl
  rw [if_neg a2, if_neg a2]
  by_cases a3 : r < 65536
  · rw [if_pos a3, if_pos a3, top 224 4096 (by omega) (by omega) (by omega), low, mid 64 (by omega)]; rfl
  rw [if_neg a3, if_neg a3, top 240 262144 (by omega) (by omega) (by omega), low, mid 64 (by omega), mid 4096 (by omega)]; rfl

theorem pb_range {r : Int} (h : 0 ≤ r ∧ r < 1114112) : ∀ x ∈ pb r, 0 ≤ x ∧ x < 256 := by
  intro x hx
  unfold pb at hx
  (repeat' split at hx) <;> simp only [List.mem_cons, List.not_mem_nil, or_false] at hx <;> omega
theorem pb_len (r : Int) : 1 ≤ (pb r).length ∧ (pb r).length ≤ 4 := by
  unfold pb
  (repeat' split) <;> simp

theorem drop_bAt (s : ByteArray) (p : Int) (h0 : 0 ≤ p) (h1 : p < s.size) : s.data.toList.drop p.toNat = s.data.toList.getD p.toNat 0 :: s.data.toList.drop (p + 1).toNat := by
  have hl : p.toNat < s.data.toList.length := by
    have : s.data.toList.length = s.size := by simp
    omega
  rw [List.drop_eq_getElem_cons hl, show (p + 1).toNat = p.toNat + 1 by omega, List.getD_eq_getElem?_getD, List.getElem?_eq_getElem hl, Option.getD_some]

theorem mat_iff (s : ByteArray) : ∀ (l : List Int) (p : Int), 0 ≤ p → p + l.length ≤ s.size → (∀ x ∈ l, 0 ≤ x ∧ x < 256) →
    ((s.data.toList.drop p.toNat).take l.length = l.map ofI ↔ Mat s p l)
  | [], p, _, _, _ => by simp [Mat]
  | x :: l, p, h0, h1, hr => by
    simp only [List.length_cons] at h1
    have ih := mat_iff s l (p + 1) (by omega) (by omega) (fun y hy => hr y (List.mem_cons_of_mem _ hy))
    rw [drop_bAt s p h0 (by omega), List.length_cons, List.take_succ_cons, List.map_cons, List.cons.injEq, ih]
    simp only [Mat]
    have hx := hr x List.mem_cons_self
    refine and_congr_left fun _ => ?_
    unfold bAt
    constructor
    · intro e; rw [e]; exact ofI_toNat hx
    · intro e; unfold ofI; rw [← e, Int.toNat_natCast, UInt8.ofNat_toNat]

theorem ex_list (s : ByteArray) (a b : Nat) : (s.extract a b).data.toList = (s.data.toList.take b).drop a := by
  rw [ByteArray.data_extract, Array.toList_extract]
  simp [List.extract_eq_take_drop, List.drop_take]

theorem ex_strOf (s : ByteArray) (p : Int) (l : List Int) (h0 : 0 ≤ p) (h1 : p + l.length ≤ s.size) (hr : ∀ x ∈ l, 0 ≤ x ∧ x < 256) :
    s.extract p.toNat (p + l.length).toNat = strOf (l.map ofI) ↔ Mat s p l := by
  rw [← mat_iff s l p h0 h1 hr]
  have e : (s.extract p.toNat (p + l.length).toNat).data.toList = (s.data.toList.drop p.toNat).take l.length := by
    rw [ex_list, List.drop_take, show (p + (l.length : Int)).toNat - p.toNat = l.length by omega]
  constructor
  · intro h; rw [← e, h, strOf_list]
  · intro h; exact str_ext (by rw [e, h, strOf_list])

theorem bAt_ex (s : ByteArray) (p i : Int) (h0 : 0 ≤ p) (h1 : p < s.size) (hi : 0 ≤ i) : bAt (s.extract p.toNat s.size) i = bAt s (p + i) := by
  unfold bAt
  rw [ex_list, List.take_of_length_le (by simp)]
  simp only [List.getD_eq_getElem?_getD, List.getElem?_drop]
  rw [show p.toNat + i.toNat = (p + i).toNat by omega]

theorem guess_gu (s : ByteArray) (p : Int) (h0 : 0 ≤ p) (h1 : p < s.size) : guessM (s.extract p.toNat s.size) = gu (s.size - p) (bAt s p) (bAt s (p + 1)) (bAt s (p + 2)) (bAt s (p + 3)) := by
  have b0 := bAt_ex s p 0 h0 h1 (by omega)
  have b1 := bAt_ex s p 1 h0 h1 (by omega)
  have b2 := bAt_ex s p (1 + 1) h0 h1 (by omega)
  have b3 := bAt_ex s p (1 + 1 + 1) h0 h1 (by omega)
  rw [Int.add_zero] at b0
  rw [show p + (1 + 1) = p + 2 by omega] at b2
  rw [show p + (1 + 1 + 1) = p + 3 by omega] at b3
  have hs : ((s.extract p.toNat s.size).size : Int) = s.size - p := by rw [ex_size _ _ _ (Nat.le_refl _)]; omega
  unfold guessM gu
  simp only [guessLoop, b0, b1, b2, b3, hs, ge_iff_le]
  generalize (s.size : Int) - p = n
  by_cases a1 : bAt s p < 128
  · rw [if_pos a1, if_pos a1]
  rw [if_neg a1, if_neg a1]
  by_cases a2 : 240 ≤ bAt s p
  · rw [if_pos a2, if_pos a2]
    by_cases c1 : n ≤ 1
    · rw [if_pos c1, if_pos (by omega)]
    rw [if_neg c1]
    by_cases c2 : n ≤ 1 + 1
    · rw [if_pos c2, if_pos (by omega)]
    rw [if_neg c2]
    by_cases c3 : n ≤ 1 + 1 + 1
    · rw [if_pos c3, if_pos (by omega)]
    rw [if_neg c3, if_neg (by omega)]
    unfold r4; omega
  rw [if_neg a2, if_neg a2]
  by_cases a3 : 224 ≤ bAt s p
  · rw [if_pos a3, if_pos a3]
    by_cases c1 : n ≤ 1
    · rw [if_pos c1, if_pos (by omega)]
    rw [if_neg c1]
    by_cases c2 : n ≤ 1 + 1
    · rw [if_pos c2, if_pos (by omega)]
    rw [if_neg c2, if_neg (by omega)]
    unfold r3; omega
  rw [if_neg a3, if_neg a3]
  by_cases c1 : n ≤ 1
  · rw [if_pos c1, if_pos (by omega)]
  rw [if_neg c1, if_neg (by omega)]
  omega

theorem strOf_map (l : List Int) : (strOf (l.map ofI)).size = l.length := by rw [strOf_size, List.length_map]

theorem rrune_D (s : ByteArray) (p : Int) (hp : 0 ≤ p) : rRuneM s p = DS s p := by
  by_cases h1 : (s.size : Int) ≤ p
  · rw [rrune_neg s p (.inr h1)]; unfold DS D4; rw [if_pos (by omega)]
  have hg := guess_gu s p hp (by omega)
  unfold rRuneM
  rw [if_neg (by omega), hg]
  rcases DS_pos s p with h0 | h0
  · rw [h0]
    generalize gu (s.size - p) (bAt s p) (bAt s (p + 1)) (bAt s (p + 2)) (bAt s (p + 3)) = g
    by_cases v : g < 0 ∨ g > 1114111 ∨ isR g = false
    · rw [if_pos v]
    rw [if_neg v]
    have hv : valid g := by
      refine (isR_iff g).1 ?_
      cases h : isR g
      · exact absurd (.inr (.inr h)) v
      · rfl
    have hr : 0 ≤ g ∧ g < 1114112 := by unfold valid at hv; omega
    rw [bytesM_pb hr, strOf_map]
    refine if_pos ?_
    by_cases hl : ((pb g).length : Int) > s.size - p
    · exact .inl hl
    · refine .inr fun he => ?_
      have := enc_D4 hv ((ex_strOf s p (pb g) hp (by omega) (pb_range hr)).1 he) (by omega)
      rw [h0] at this
      have h2 := pb_len g
      have h3 := congrArg Prod.snd this
      dsimp only at h3
      omega
  · obtain ⟨hv, hm, hk, hl, hu⟩ := D4_enc (s := s) (p := p) (r := (DS s p).1) (k := (DS s p).2) rfl h0
    rw [hu]
    have hr : 0 ≤ (DS s p).1 ∧ (DS s p).1 < 1114112 := by unfold valid at hv; omega
    rw [if_neg (by
      rintro (h | h | h)
      · omega
      · omega
      · rw [(isR_iff _).2 hv] at h; cases h), bytesM_pb hr, strOf_map, if_neg (by
      rintro (h | h)
      · omega
      · exact h ((ex_strOf s p _ hp (by omega) (pb_range hr)).2 hm)), ← hk]

theorem rune_eq (s : ByteArray) (p : Int) : rRuneM s p = runeM s p := by
  by_cases hp : 0 ≤ p
  · rw [rrune_D s p hp, rune_D s p hp]
  · rw [rune_neg s p (.inl (by omega)), rrune_neg s p (.inl (by omega))]
theorem rF_eq (s : ByteArray) : rF s = fM s := by funext p; unfold rF fM; rw [rune_eq]
end Go.Proofs

namespace Go.Proofs
open Go Go.Al

/-! ### Texts of characters -/
theorem f_out (s : ByteArray) (p : Int) (h : p < 0 ∨ s.size ≤ p) : fM s p = 0 := by unfold fM; rw [rune_neg s p h]
theorem f_pos (s : ByteArray) (p : Int) (h : fM s p ≠ 0) : 0 ≤ p ∧ p < s.size ∧ 1 ≤ fM s p ∧ p + fM s p ≤ s.size := by
  by_cases hp : p < 0 ∨ s.size ≤ p
  · exact absurd (f_out s p hp) h
  · have := dec_fM s p (by omega) (by omega)
    omega

/-- From one place to another, by characters. -/
inductive Path (f : Int → Int) : Int → Int → Int → Prop
  | refl (p : Int) : Path f p p 0
  | step {p q c : Int} (h : f p ≠ 0) (k : Path f (p + f p) q c) : Path f p q (c + 1)

theorem Path.trans {f : Int → Int} {p q r c d : Int} (h : Path f p q c) (k : Path f q r d) : Path f p r (c + d) := by
  induction h with
  | refl => rw [Int.zero_add]; exact k
  | @step p q c h _ ih => have := Path.step h (ih k); rw [show c + 1 + d = c + d + 1 by omega]; exact this
theorem Path.first {f : Int → Int} {p q c : Int} (h : Path f p q c) (hn : p ≠ q) : f p ≠ 0 ∧ ∃ d, Path f (p + f p) q d := by
  cases h with
  | refl => exact absurd rfl hn
  | step h k => exact ⟨h, _, k⟩

theorem goM_path (s : ByteArray) : ∀ (m : Nat) (p c : Int), 0 ≤ p → p ≤ s.size → (s.size : Int) < p + m → ∃ d, Path (fM s) p (goM (fM s) s.size m p c).1 d ∧ (goM (fM s) s.size m p c).2 = c + d ∧ fM s (goM (fM s) s.size m p c).1 = 0 ∧ p ≤ (goM (fM s) s.size m p c).1 ∧ (goM (fM s) s.size m p c).1 ≤ s.size
  | 0, p, c, h0, h1, h2 => by omega
  | m + 1, p, c, h0, h1, h2 => by
    rw [goM]
    split
    · split
      · rename_i hf
        exact ⟨0, .refl p, by dsimp only; omega, hf, Int.le_refl _, h1⟩
      · rename_i hf
        have := f_pos s p hf
        obtain ⟨d, a1, a2, a3, a4, a5⟩ := goM_path s m (p + fM s p) (c + 1) (by omega) (by omega) (by omega)
        exact ⟨d + 1, .step hf a1, by omega, a3, by omega, a5⟩
    · exact ⟨0, .refl p, by dsimp only; omega, f_out s p (by omega), Int.le_refl _, h1⟩

theorem end_spec (s : ByteArray) : Path (fM s) 0 (endM s).1 (endM s).2 ∧ fM s (endM s).1 = 0 ∧ 0 ≤ (endM s).1 ∧ (endM s).1 ≤ s.size := by
  obtain ⟨d, a1, a2, a3, a4, a5⟩ := goM_path s (s.size + 1) 0 0 (by omega) (by omega) (by omega)
  have : (endM s).2 = d := by unfold endM; omega
  rw [this]
  exact ⟨a1, a3, a4, a5⟩
theorem rEnd_eq (s : ByteArray) : rEnd s = endM s := by unfold rEnd endM; rw [rF_eq]
theorem check_eq (s : ByteArray) : checkM s = rCheckM s := by
  have := end_spec s
  unfold checkM rCheckM
  rw [rEnd_eq]
  split <;> split <;> omega
/-! ### Fronts -/
/-! ### Cut -/
end Go.Proofs

namespace Go.Proofs
open Go Go.Al

/-! ### Back -/
end Go.Proofs

namespace Go.Proofs
open Go Go.Al

/-! ### Whether values may be -/

/-- Is all of a value 0 or empty, but for its kind and what the kind holds? -/
def emptyV (v : GV) : Bool :=
  (v.kind == 1 || v.kind == 5 || decide (v.text.size = 0)) && (v.kind == 2 || v.kind == 3 || v.num == 0) && (v.kind == 4 || v.bits == 0) && (v.kind == 6 || v.list.isEmpty) && (v.kind == 7 || v.map.isEmpty)

def keyC (k : ByteArray) : Int := if k.size = 0 then 9 else if checkM k ≠ -1 then 5 else if 64 < k.size then 35 else 0

/-- The first one of some codes that is not 0. -/
def orC (a b : Int) : Int := if a ≠ 0 then a else b

/-- Does a key not rise? -/
def prevBad (prev : Option ByteArray) (k : ByteArray) : Bool := match prev with | some p => !(ltB p k) | none => false

mutual
def checkV (d : Int) : GV → Int
  | .mk k t n b l m =>
    if 7 < k then 7
    else if emptyV (.mk k t n b l m) = false then 3
    else if 6 ≤ k ∧ 16 ≤ d then 33
    else if k = 1 ∧ checkM t ≠ -1 then 5
    else if k = 2 ∧ n ≠ 0 ∧ n ≠ 1 then 4
    else orC (checkVs (d + 1) l) (entC (d + 1) none m)
def checkVs (d : Int) : List GV → Int
  | [] => 0
  | x :: xs => orC (checkV d x) (checkVs d xs)
def checkA (d : Int) : GA → Int
  | .mk _ v => checkV d v
def entC (d : Int) (prev : Option ByteArray) : List GA → Int
  | [] => 0
  | x :: xs => orC (keyC x.key) (if prevBad prev x.key then 12 else orC (checkA d x) (entC d (some x.key) xs))
end
theorem checkV_eq (d : Int) (g : GV) : checkV d g = if 7 < g.kind then 7 else if emptyV g = false then 3 else if 6 ≤ g.kind ∧ 16 ≤ d then 33 else if g.kind = 1 ∧ checkM g.text ≠ -1 then 5
    else if g.kind = 2 ∧ g.num ≠ 0 ∧ g.num ≠ 1 then 4 else orC (checkVs (d + 1) g.list) (entC (d + 1) none g.map) := by
  cases g with
  | mk k t n b l m => rw [checkV]; rfl
theorem checkA_eq (d : Int) (a : GA) : checkA d a = checkV d a.val := by cases a; rw [checkA]; rfl

mutual
def deepV : GV → Int
  | .mk k t n b l m => (if k = 6 ∨ k = 7 then 1 else 0) + max (deepVs l) (deepAs m)
def deepVs : List GV → Int
  | [] => 0
  | x :: xs => max (deepV x) (deepVs xs)
def deepA : GA → Int
  | .mk _ v => deepV v
def deepAs : List GA → Int
  | [] => 0
  | x :: xs => max (deepA x) (deepAs xs)
end

/-! ### Attributes -/

def getA : List GA → ByteArray → Option GV
  | [], _ => none
  | x :: xs, k => if x.key = k then some x.val else getA xs k
def zeroV : GV := .mk 0 ⟨#[]⟩ 0 0 [] []
/-- Keys that rise. -/
def risA (prev : Option ByteArray) : List GA → Prop
  | [] => True
  | x :: xs => (match prev with | some p => ltB p x.key = true | none => True) ∧ risA (some x.key) xs

/-! ### Spans -/

/-! ### Weights -/
end Go.Proofs

namespace Go.Proofs
open Go Go.Al

/-! ### The order of texts -/
theorem bl_irrefl : ∀ a : Bs, Op.bytesLess a a = false
  | [] => rfl
  | x :: a => by
    simp only [Op.bytesLess, bl_irrefl a, Bool.and_false, Bool.or_false]
    simp
theorem bl_trans : ∀ a b c : Bs, Op.bytesLess a b = true → Op.bytesLess b c = true → Op.bytesLess a c = true
  | _, [], _, h, _ => by simp [Op.bytesLess] at h
  | _, _ :: _, [], _, h => by simp [Op.bytesLess] at h
  | [], _ :: _, _ :: _, _, _ => by simp [Op.bytesLess]
  | x :: a, y :: b, z :: c, h, k => by
    simp only [Op.bytesLess, Bool.or_eq_true, Bool.and_eq_true, decide_eq_true_eq, beq_iff_eq] at h k ⊢
    rcases h with h | ⟨rfl, h⟩ <;> rcases k with k | ⟨rfl, k⟩
    · left; exact UInt8.lt_trans h k
    · left; exact h
    · left; exact k
    · right; exact ⟨rfl, bl_trans a b c h k⟩
theorem bl_tri : ∀ a b : Bs, Op.bytesLess a b = false → Op.bytesLess b a = false → a = b
  | [], [], _, _ => rfl
  | [], _ :: _, h, _ => by simp [Op.bytesLess] at h
  | _ :: _, [], _, h => by simp [Op.bytesLess] at h
  | x :: a, y :: b, h, k => by
    simp only [Op.bytesLess, Bool.or_eq_false_iff, decide_eq_false_iff_not, Bool.and_eq_false_imp, beq_iff_eq] at h k
    have : x = y := by
      have h1 := h.1; have k1 := k.1
      simp only [UInt8.lt_iff_toNat_lt] at h1 k1
      exact UInt8.toNat_inj.1 (by omega)
    subst this
    rw [bl_tri a b (h.2 rfl) (k.2 rfl)]
theorem ltB_irrefl (a : ByteArray) : ltB a a = false := bl_irrefl _
theorem ltB_trans {a b c : ByteArray} (h : ltB a b = true) (k : ltB b c = true) : ltB a c = true := bl_trans _ _ _ h k
theorem ltB_tri {a b : ByteArray} (h : ltB a b = false) (k : ltB b a = false) : a = b := str_ext (bl_tri _ _ h k)
theorem ltB_asymm {a b : ByteArray} (h : ltB a b = true) : ltB b a = false := by
  cases hb : ltB b a
  · rfl
  · have := ltB_trans h hb; rw [ltB_irrefl] at this; cases this

/-! ### Keys that rise -/
theorem risA_mem : ∀ {l : List GA} {p : ByteArray}, risA (some p) l → ∀ x ∈ l, ltB p x.key = true
  | y :: l, p, h, x, hx => by
    rcases List.mem_cons.1 hx with rfl | hx
    · exact h.1
    · exact ltB_trans h.1 (risA_mem h.2 x hx)
theorem mem_intoA : ∀ {l : List GA} {a x : GA}, x ∈ intoA l a → x = a ∨ x ∈ l
  | [], a, x, h => by simp [intoA] at h; exact .inl h
  | y :: l, a, x, h => by
    rw [intoA] at h
    split at h
    · rcases List.mem_cons.1 h with rfl | h
      · exact .inr List.mem_cons_self
      · rcases mem_intoA h with h | h
        · exact .inl h
        · exact .inr (List.mem_cons_of_mem _ h)
    · split at h
      · rcases List.mem_cons.1 h with rfl | h
        · exact .inl rfl
        · exact .inr (List.mem_cons_of_mem _ h)
      · rcases List.mem_cons.1 h with rfl | h
        · exact .inl rfl
        · exact .inr h
theorem mem_intoAll : ∀ {l acc : List GA} {x : GA}, x ∈ intoAll acc l → x ∈ acc ∨ x ∈ l
  | [], acc, x, h => .inl h
  | a :: l, acc, x, h => by
    rcases mem_intoAll (l := l) h with h | h
    · rcases mem_intoA h with rfl | h
      · exact .inr List.mem_cons_self
      · exact .inl h
    · exact .inr (List.mem_cons_of_mem _ h)
theorem wt_intoA : ∀ (l : List GA) (a : GA), wtAs (intoA l a) ≤ wtAs l + a.wt
  | [], a => by simp [intoA, wtAs]
  | y :: l, a => by
    rw [intoA]
    have := wt_intoA l a
    split
    · simp only [wtAs]; omega
    · split <;> simp only [wtAs] <;> omega
theorem wt_intoAll : ∀ (l acc : List GA), wtAs (intoAll acc l) ≤ wtAs acc + wtAs l
  | [], acc => by simp [intoAll, wtAs]
  | a :: l, acc => by
    rw [intoAll, wtAs]
    have := wt_intoAll l (intoA acc a)
    have := wt_intoA acc a
    omega

theorem ris_intoA : ∀ (l : List GA) (a : GA) (p : Option ByteArray), risA p l → (match p with | some p => ltB p a.key = true | none => True) → risA p (intoA l a)
  | [], a, p, _, h => ⟨h, trivial⟩
  | y :: l, a, p, hr, h => by
    rw [intoA]
    split
    · rename_i hl
      exact ⟨hr.1, ris_intoA l a (some y.key) hr.2 hl⟩
    · rename_i hl
      split
      · rename_i he
        exact ⟨h, he ▸ hr.2⟩
      · rename_i he
        refine ⟨h, ?_, hr.2⟩
        cases hb : ltB a.key y.key
        · exact absurd (ltB_tri (by simpa using hl) hb) he
        · exact hb
theorem ris_intoAll : ∀ (l acc : List GA), risA none acc → risA none (intoAll acc l)
  | [], acc, h => h
  | a :: l, acc, h => ris_intoAll l _ (ris_intoA acc a none h trivial)
theorem ris_canonAs (l : List GA) : risA none (canonAs l) := ris_intoAll _ [] trivial

theorem intoA_last : ∀ (l : List GA) (a : GA), (∀ x ∈ l, ltB x.key a.key = true) → intoA l a = l ++ [a]
  | [], a, _ => rfl
  | y :: l, a, h => by
    rw [intoA, if_pos (h y List.mem_cons_self), intoA_last l a (fun x hx => h x (List.mem_cons_of_mem _ hx))]; rfl
theorem intoAll_ris : ∀ (l acc : List GA), risA none (acc ++ l) → intoAll acc l = acc ++ l
  | [], acc, _ => by simp [intoAll]
  | a :: l, acc, h => by
    rw [intoAll, intoA_last acc a]
    · rw [intoAll_ris l (acc ++ [a]) (by simpa using h)]; simp
    · intro x hx
      have key : ∀ (acc : List GA) (p : Option ByteArray), risA p (acc ++ a :: l) → x ∈ acc → ltB x.key a.key = true := by
        intro acc
        induction acc with
        | nil => intro _ _ h; cases h
        | cons y acc ih =>
          intro p hr hx
          rcases List.mem_cons.1 hx with rfl | hx
          · exact risA_mem hr.2 a (by simp)
          · exact ih _ hr.2 hx
      exact key acc none h hx

/-- Of its own form, all through. -/
theorem canonV_idem (g : GV) : canonV (canonV g) = canonV g := by
  refine GV.ind (P := fun g => canonV (canonV g) = canonV g) ?_ g
  intro g h1 h2
  have hm : ∀ a ∈ canonAs g.map, canonP a = a := by
    intro a ha
    rcases mem_intoAll ha with h | h
    · cases h
    · obtain ⟨b, hb, rfl⟩ := List.mem_map.1 h
      rw [canonP_eq b, canonP_eq]
      exact congrArg (GA.mk b.key) (h2 b hb)
  have e2 : canonAs (canonAs g.map) = canonAs g.map := by
    have : (canonAs g.map).map canonP = canonAs g.map := by
      conv => rhs; rw [← List.map_id (canonAs g.map)]
      exact List.map_congr_left hm
    unfold canonAs at this ⊢
    rw [this]
    exact intoAll_ris (canonAs g.map) [] (ris_canonAs g.map)
  have e1 : (g.list.map canonV).map canonV = g.list.map canonV := by
    rw [List.map_map]
    exact List.map_congr_left fun y hy => h1 y hy
  rw [canonV_eq g, canonV_eq (.mk g.kind g.text g.num g.bits (g.list.map canonV) (canonAs g.map))]
  change GV.mk g.kind g.text g.num g.bits ((g.list.map canonV).map canonV) (canonAs (canonAs g.map)) = _
  rw [e1, e2]
/-! ### Own forms are no greater, and may be wherever they were -/
theorem wt_canonV (g : GV) : (canonV g).wt ≤ g.wt := by
  refine GV.ind (P := fun g => (canonV g).wt ≤ g.wt) ?_ g
  intro g h1 h2
  have hv : ∀ l : List GV, (∀ y ∈ l, (canonV y).wt ≤ y.wt) → wtVs (l.map canonV) ≤ wtVs l := by
    intro l
    induction l with
    | nil => intro _; simp [wtVs]
    | cons x l ih => intro h; simp only [List.map_cons, wtVs]; have := h x List.mem_cons_self; have := ih (fun y hy => h y (List.mem_cons_of_mem _ hy)); omega
  have ha : ∀ l : List GA, (∀ y ∈ l, (canonV y.val).wt ≤ y.val.wt) → wtAs (l.map canonP) ≤ wtAs l := by
    intro l
    induction l with
    | nil => intro _; simp [wtAs]
    | cons x l ih =>
      intro h; simp only [List.map_cons, wtAs]; have := h x List.mem_cons_self; have := ih (fun y hy => h y (List.mem_cons_of_mem _ hy))
      have e := x.wt_eq
      have e2 := (canonP x).wt_eq
      rw [canonP_eq x] at e2 ⊢
      simp only [GA.key_mk, GA.val_mk] at e2
      omega
  have := hv g.list h1
  have := ha g.map h2
  have := wt_intoAll (g.map.map canonP) []
  have e := g.wt_eq
  have e2 := (canonV g).wt_eq
  rw [canonV_eq g] at e2 ⊢
  simp only [GV.text_mk, GV.list_mk, GV.map_mk] at e2
  have h3 : wtAs (canonAs g.map) ≤ 0 + wtAs (g.map.map canonP) := this
  omega
theorem wt_canonAs (l : List GA) : wtAs (canonAs l) ≤ wtAs l := by
  have ha : ∀ l : List GA, wtAs (l.map canonP) ≤ wtAs l := by
    intro l
    induction l with
    | nil => simp [wtAs]
    | cons x l ih =>
      simp only [List.map_cons, wtAs]
      have := wt_canonV x.val
      have e := x.wt_eq
      have e2 := (canonP x).wt_eq
      rw [canonP_eq x] at e2 ⊢
      simp only [GA.key_mk, GA.val_mk] at e2
      omega
  have := ha l
  have := wt_intoAll (l.map canonP) []
  simp only [wtAs] at this
  unfold canonAs
  omega
end Go.Proofs

namespace Go.Proofs
open Go Go.Al

/-! ### Digits and bytes, as the walks meet them -/
theorem take_snoc {α : Type} {l : List α} {i : Nat} {c : α} (h : l[i]? = some c) : l.take (i + 1) = l.take i ++ [c] := by
  rw [List.take_add_one, h]; rfl
/-! #### Whole numbers -/
/-! #### Eight bytes, the highest first -/
/-! #### Escapes -/
/-! #### The references' ways -/
/-! #### Texts by kind -/
/-! #### Rows -/
def nth {α : Type} (l : List α) (i : Nat) (d : α) : α := l.getD i d
theorem nth_get {α : Type} {l : List α} {i : Nat} {d : α} (h : i < l.length) : l[i]? = some (nth l i d) := by
  unfold nth
  rw [List.getD_eq_getElem?_getD, List.getElem?_eq_getElem h]; rfl
theorem nth_mem {α : Type} {l : List α} {i : Nat} {d : α} (h : i < l.length) : nth l i d ∈ l := List.mem_of_getElem? (nth_get h)
theorem nth_map {α β : Type} {l : List α} {i : Nat} {d : α} {f : α → β} (h : i < l.length) : (l.map f)[((i : Nat) : Int).toNat]? = some (f (nth l i d)) := by
  rw [Int.toNat_natCast, List.getElem?_map, nth_get h]; rfl
def v0 : GV := .mk 0 ⟨#[]⟩ 0 0 [] []
def a0 : GA := .mk ⟨#[]⟩ v0
def nthV (l : List GV) (i : Nat) : GV := nth l i v0
def nthA (l : List GA) (i : Nat) : GA := nth l i a0
theorem ixV {l : List GV} {i : Nat} (h : i < l.length) : (l.map avV)[((i : Nat) : Int).toNat]? = some (nthV l i).av := by rw [nth_map (d := v0) h, avV_eq]; rfl
theorem ixA {l : List GA} {i : Nat} (h : i < l.length) : (l.map avA)[((i : Nat) : Int).toNat]? = some (nthA l i).av := by rw [nth_map (d := a0) h, avA_eq]; rfl
theorem nthV_mem {l : List GV} {i : Nat} (h : i < l.length) : nthV l i ∈ l := nth_mem h
theorem nthA_mem {l : List GA} {i : Nat} (h : i < l.length) : nthA l i ∈ l := nth_mem h
theorem wtVs_take (l : List GV) (i : Nat) : wtVs (l.take i) ≤ wtVs l := by
  have := wtVs_append (l.take i) (l.drop i); rw [List.take_append_drop] at this; omega
theorem wtAs_take (l : List GA) (i : Nat) : wtAs (l.take i) ≤ wtAs l := by
  have := wtAs_append (l.take i) (l.drop i); rw [List.take_append_drop] at this; omega
theorem wtAs_nth {l : List GA} {i : Nat} (h : i < l.length) : wtAs (l.take i) + (nthA l i).wt ≤ wtAs l := by
  have := wtAs_take l (i + 1); rw [take_snoc (nth_get (d := a0) h), wtAs_append] at this; simp only [wtAs, Nat.add_zero] at this; exact this

/-! #### The reference's quoting -/
end Go.Proofs

namespace Go.Proofs
open Go Go.Al

/-! ### What is left of an allowance -/
def leftF (L : Int) (k : Nat) : Int := if (k : Int) ≤ L then L - k else -1
theorem leftF_bd {L : Int} (h : -1 ≤ L) (k : Nat) : -1 ≤ leftF L k ∧ leftF L k ≤ L := by unfold leftF; split <;> omega
theorem leftV_F (v : GV) (n : Int) : leftV v n = if n < 0 then -1 else leftF n v.wt := rfl
theorem leftAs_F (l : List GA) (n : Int) : leftAs l n = if n < 0 then n else leftF n (wtAs l) := rfl
theorem leftF_zero {L : Int} (h : -1 ≤ L) : leftF L 0 = L := by unfold leftF; split <;> omega
theorem leftV_step {l : List GV} {L : Int} {i : Nat} (hi : i < l.length) (h : 0 ≤ leftF L (wtVs (l.take i))) : leftV (nthV l i) (leftF L (wtVs (l.take i))) = leftF L (wtVs (l.take (i + 1))) := by
  have e : wtVs (l.take (i + 1)) = wtVs (l.take i) + (nthV l i).wt := by
    rw [take_snoc (nth_get (d := v0) hi), wtVs_append]; simp only [wtVs, Nat.add_zero]; rfl
  rw [leftV_F, e]
  unfold leftF at *
  split <;> (try split) <;> (try split) <;> (try split) <;> omega
theorem leftV_fin {v : GV} {n : Int} {i : Nat} (hn : ¬ n < 0) (ht : ¬ (v.text.size : Int) > n) (hi : i = v.list.length ∨ leftF (n - 1 - v.text.size) (wtVs (v.list.take i)) < 0) : leftAs v.map (leftF (n - 1 - v.text.size) (wtVs (v.list.take i))) = leftV v n := by
  have h1 := wtVs_take v.list i
  have e := v.wt_eq
  rw [leftAs_F, leftV_F, if_neg hn]
  have h2 : i = v.list.length → wtVs (v.list.take i) = wtVs v.list := fun h => by rw [h, List.take_length]
  unfold leftF at *
  split <;> (try split) <;> (try split) <;> (try split) <;> omega
theorem leftAs_zero (l : List GA) {n : Int} : leftAs (l.take 0) n = n := by rw [leftAs_F]; split; rfl; exact leftF_zero (by omega)
theorem leftAs_bd' (l : List GA) (n : Int) : leftAs l n ≤ n ∧ (n < 0 → leftAs l n = n) ∧ (0 ≤ n → -1 ≤ leftAs l n) := by rw [leftAs_F]; unfold leftF; split <;> (try split) <;> omega
theorem leftAs_step {l : List GA} {n : Int} {i : Nat} (hi : i < l.length) (h : 0 ≤ leftAs (l.take i) n) (hk : ¬ ((nthA l i).key.size : Int) > leftAs (l.take i) n) : leftV (nthA l i).val (leftAs (l.take i) n - (nthA l i).key.size) = leftAs (l.take (i + 1)) n := by
  have e : wtAs (l.take (i + 1)) = wtAs (l.take i) + (nthA l i).wt := by
    rw [take_snoc (nth_get (d := a0) hi), wtAs_append]; simp only [wtAs, Nat.add_zero]; rfl
  have e2 := (nthA l i).wt_eq
  rw [leftV_F, leftAs_F, leftAs_F, e] at *
  unfold leftF at *
  split <;> (try split) <;> (try split) <;> (try split) <;> (try split) <;> omega
theorem leftAs_out {l : List GA} {n : Int} {i : Nat} (hi : i < l.length) (h : 0 ≤ leftAs (l.take i) n) (hk : ((nthA l i).key.size : Int) > leftAs (l.take i) n) : (-1 : Int) = leftAs l n := by
  have q := wtAs_nth hi
  have e2 := (nthA l i).wt_eq
  have q2 := wtAs_take l i
  rw [leftAs_F] at *
  unfold leftF at *
  split <;> (try split) <;> (try split) <;> (try split) <;> omega
theorem leftAs_fin {l : List GA} {n : Int} {i : Nat} (hi : i = l.length ∨ leftAs (l.take i) n < 0) : leftAs (l.take i) n = leftAs l n := by
  rcases hi with rfl | h
  · rw [List.take_length]
  · have q2 := wtAs_take l i
    rw [leftAs_F] at *
    rw [leftAs_F]
    unfold leftF at *
    split <;> (try split) <;> (try split) <;> (try split) <;> omega
theorem leftF_le {L : Int} {k : Nat} (h : 0 ≤ leftF L k) : (k : Int) ≤ L := by unfold leftF at h; split at h <;> omega
theorem leftV_len {l : List GV} {L : Int} {i : Nat} (h : 0 ≤ leftF L (wtVs (l.take i))) (hi : i ≤ l.length) : (i : Int) ≤ L := by
  have := leftF_le h
  have := len_wtVs (l.take i)
  rw [List.length_take] at this
  omega
theorem leftAs_len {l : List GA} {n : Int} {i : Nat} (h : 0 ≤ leftAs (l.take i) n) (hi : i ≤ l.length) : (i : Int) ≤ n := by
  rw [leftAs_F] at h
  have := len_wtAs (l.take i)
  rw [List.length_take] at this
  split at h
  · omega
  · have := leftF_le h; omega
end Go.Proofs

namespace Go.Proofs
open Go Go.Al

/-! ### Rows of spans and the like -/
/-! ### Weights -/
theorem getA_mem : ∀ {l : List GA} {k : ByteArray} {v : GV}, getA l k = some v → ∃ a ∈ l, a.val = v ∧ a.key = k
  | x :: xs, k, v, h => by
    rw [getA] at h
    split at h
    · rename_i hk; cases h; exact ⟨x, List.mem_cons_self, rfl, hk⟩
    · obtain ⟨a, h1, h2⟩ := getA_mem h; exact ⟨a, List.mem_cons_of_mem _ h1, h2⟩
/-! ### Wide structures, whole -/
theorem GSpan.width (s : GSpan) : s.av.width = 42 := by
  simp only [GSpan.av, AV.width, AV.widths, sv, iv, uv]; rfl
theorem GL.width (s : GL) : s.av.width = 26 := by
  simp only [GL.av, AV.width, AV.widths, sv, iv, uv]; rfl
end Go.Proofs

namespace Go.Al
open Go.RowKit
section
variable {P : Program}

def AVTs (P : Program) (n : Nat) : List TypeId → List AV → Prop
  | [], [] => True
  | t :: ts, x :: xs => AVT P n t x ∧ AVTs P n ts xs
  | _, _ => False

theorem avts_of {n : Nat} : ∀ {tys : List TypeId} {l : List AV}, l.length = tys.length → (∀ (j : Nat) t x, tys[j]? = some t → l[j]? = some x → AVT P n t x) → AVTs P n tys l
  | [], [], _, _ => trivial
  | [], _ :: _, h, _ => by simp at h
  | _ :: _, [], h, _ => by simp at h
  | t :: ts, x :: xs, h, k => ⟨k 0 t x rfl rfl, avts_of (by simpa using h) fun j t' x' h1 h2 => k (j + 1) t' x' (by simpa using h1) (by simpa using h2)⟩

theorem AVT.struct {n : Nat} {T : TypeId} {X : AV} {fs : Array Field} {tys : List TypeId} (h : AVT P n T X) (hu : P.underlying T = some (.struct fs)) (ht : fs.toList.map (·.type) = tys) : ∃ m l, n = m + 1 ∧ X = .agg l ∧ AVTs P m tys l := by
  cases n with
  | zero => exact h.elim
  | succ n =>
    simp only [AVT, hu] at h
    obtain ⟨l, h1, h2, h3⟩ := h
    refine ⟨n, l, rfl, h1, avts_of (by rw [h2, ← ht]; simp) fun j t x hj hx => ?_⟩
    rw [← ht, List.getElem?_map] at hj
    cases hf : fs.toList[j]? with
    | none => rw [hf] at hj; cases hj
    | some fl => rw [hf] at hj; cases hj; exact h3 j fl x hf hx
theorem AVT.sl {n w : Nat} {T e : TypeId} {X : AV} (h : AVT P n T X) (hu : P.underlying T = some (.slice e)) (hw : P.cellsOf e = w) : ∃ m l, n = m + 1 ∧ X = .sl w l ∧ ∀ x ∈ l, AVT P m e x := by
  cases n with
  | zero => exact h.elim
  | succ n =>
    simp only [AVT, hu] at h
    obtain ⟨l, h1, h2⟩ := h
    exact ⟨n, l, rfl, by rw [← hw]; exact h1, h2⟩
theorem AVT.int {n : Nat} {T : TypeId} {X : AV} {k : IntKind} (h : AVT P n T X) (hu : P.underlying T = some (.int k)) : ∃ i, X = .v (.int k i) ∧ (Lit.int k i).wf = true := by
  cases n with
  | zero => exact h.elim
  | succ n => simp only [AVT, hu] at h; exact h
theorem AVT.str {n : Nat} {T : TypeId} {X : AV} (h : AVT P n T X) (hu : P.underlying T = some .string) : ∃ s : ByteArray, X = .v (.string s) ∧ s.size ≤ maxLen := by
  cases n with
  | zero => exact h.elim
  | succ n => simp only [AVT, hu] at h; exact h
theorem AVT.bool {n : Nat} {T : TypeId} {X : AV} (h : AVT P n T X) (hu : P.underlying T = some .bool) : ∃ b, X = .v (.bool b) := by
  cases n with
  | zero => exact h.elim
  | succ n => simp only [AVT, hu] at h; exact h
theorem AVT.arr {n m : Nat} {T e : TypeId} {X : AV} (h : AVT P n T X) (hu : P.underlying T = some (.array m e)) : ∃ l : List UInt8, X = .arr m l ∧ l.length = m := by
  cases n with
  | zero => exact h.elim
  | succ n => simp only [AVT, hu] at h; exact h

theorem list_img {α : Type} {f : α → AV} {Q : α → Prop} : ∀ {l : List AV}, (∀ x ∈ l, ∃ g, x = f g ∧ Q g) → ∃ gs : List α, l = gs.map f ∧ ∀ g ∈ gs, Q g
  | [], _ => ⟨[], rfl, fun g h => by cases h⟩
  | x :: l, h => by
    obtain ⟨g, h1, h2⟩ := h x List.mem_cons_self
    obtain ⟨gs, h3, h4⟩ := list_img (l := l) fun y hy => h y (List.mem_cons_of_mem _ hy)
    refine ⟨g :: gs, by rw [h1, h3]; rfl, fun y hy => ?_⟩
    rcases List.mem_cons.1 hy with rfl | hy
    · exact h2
    · exact h4 y hy

theorem wf_u8 {i : Int} (h : (Lit.int .u8 i).wf = true) : 0 ≤ i ∧ i < 256 := by
  have : 0 ≤ i ∧ i ≤ 255 := by simpa [Lit.wf, IntKind.min, IntKind.max, IntKind.signed, IntKind.bits] using h
  omega
theorem wf_i64 {i : Int} (h : (Lit.int .i64 i).wf = true) : -9223372036854775808 ≤ i ∧ i < 9223372036854775808 := by
  have : -9223372036854775808 ≤ i ∧ i ≤ 9223372036854775807 := by simpa [Lit.wf, IntKind.min, IntKind.max, IntKind.signed, IntKind.bits] using h
  omega
theorem wf_u64 {i : Int} (h : (Lit.int .u64 i).wf = true) : 0 ≤ i ∧ i < 18446744073709551616 := by
  have : 0 ≤ i ∧ i ≤ 18446744073709551615 := by simpa [Lit.wf, IntKind.min, IntKind.max, IntKind.signed, IntKind.bits] using h
  omega

end
end Go.Al

namespace Go.Proofs
open Go Go.Al
set_option maxRecDepth 10000
def dtys : List TypeId := [3, 4, 5, 9, 22, 23, 24, 26, 33, 48, 83]
theorem dtys_ok : dataTys Try.prog dtys = true := by kernel_rfl
theorem kids : Kids Try.prog (· < Try.prog.types.size) := kids_rows (by kernel_rfl) (by kernel_rfl)
theorem full : ∀ t e, t < Try.prog.types.size → Try.prog.underlying t = some (.slice e) → 0 < Try.prog.cellsOf e := slices_full_of _ (by kernel_rfl)
theorem co23 : Try.prog.cellsOf 26 = 6 := by kernel_rfl
theorem co24 : Try.prog.cellsOf 33 = 7 := by kernel_rfl
theorem ft26 : (Program.fieldsOf Try.prog 26).toList.map (·.type) = [5, 9, 3, 22, 23, 24] := by kernel_rfl
theorem ft33 : (Program.fieldsOf Try.prog 33).toList.map (·.type) = [9, 26] := by kernel_rfl
theorem avts_cons {n : Nat} {t : TypeId} {ts : List TypeId} {l : List AV} (h : AVTs Try.prog n (t :: ts) l) : ∃ x xs, l = x :: xs ∧ AVT Try.prog n t x ∧ AVTs Try.prog n ts xs := by
  cases l with
  | nil => exact h.elim
  | cons x xs => exact ⟨x, xs, rfl, h.1, h.2⟩
theorem avts_nil {n : Nat} {l : List AV} (h : AVTs Try.prog n [] l) : l = [] := by
  cases l with
  | nil => rfl
  | cons x xs => exact h.elim
theorem in_V : ∀ n X, AVT Try.prog n 26 X → ∃ v : GV, X = avV v ∧ v.ok := by
  intro n
  induction n using Nat.strongRecOn with
  | _ n ih =>
  intro X h
  obtain ⟨m, l, rfl, rfl, q⟩ := AVT.struct h us26 ft26
  obtain ⟨x0, l0, rfl, h0, q0⟩ := avts_cons q
  obtain ⟨x1, l1, rfl, h1, q1⟩ := avts_cons q0
  obtain ⟨x2, l2, rfl, h2, q2⟩ := avts_cons q1
  obtain ⟨x3, l3, rfl, h3, q3⟩ := avts_cons q2
  obtain ⟨x4, l4, rfl, h4, q4⟩ := avts_cons q3
  obtain ⟨x5, l5, rfl, h5, q5⟩ := avts_cons q4
  obtain rfl := avts_nil q5
  obtain ⟨k, rfl, wk⟩ := AVT.int h0 Try.underlying5
  obtain ⟨t, rfl, wt⟩ := AVT.str h1 Try.underlying9
  obtain ⟨i, rfl, wi⟩ := AVT.int h2 Try.underlying3
  obtain ⟨b, rfl, wb⟩ := AVT.int h3 Try.underlying22
  obtain ⟨m4, l4', rfl, rfl, e4⟩ := AVT.sl h4 Try.underlying23 co23
  obtain ⟨m5, l5', e5, rfl, e6⟩ := AVT.sl h5 Try.underlying24 co24
  obtain ⟨vs, rfl, ovs⟩ := list_img (f := avV) (Q := GV.ok) fun x hx => ih m4 (by omega) x (e4 x hx)
  obtain ⟨az, rfl, oas⟩ := list_img (f := avA) (Q := GA.ok) fun x hx => by
    have h := e6 x hx
    clear h0 h1 h2 h3 h4 h5 e4 e6
    obtain ⟨m', l, e7, rfl, q⟩ := AVT.struct h us33 ft33
    obtain ⟨x0, l0, rfl, h0, q0⟩ := avts_cons q
    obtain ⟨x1, l1, rfl, h1, q1⟩ := avts_cons q0
    obtain rfl := avts_nil q1
    obtain ⟨key, rfl, wkey⟩ := AVT.str h0 Try.underlying9
    obtain ⟨v, rfl, ov⟩ := ih m' (by omega) x1 h1
    exact ⟨.mk key v, by rw [avA], by rw [GA.ok]; exact ⟨wkey, ov⟩⟩
  refine ⟨.mk k t i b vs az, by rw [avV_eq]; rfl, ?_⟩
  rw [GV.ok, okVs_iff, okAs_iff]
  exact ⟨wf_u8 wk, wt, wf_i64 wi, wf_u64 wb, ovs, oas⟩

theorem in_V' {n : Nat} {X : AV} (h : AVT Try.prog n 26 X) : ∃ v : GV, X = v.av ∧ v.ok := by
  obtain ⟨v, rfl, ho⟩ := in_V n X h; exact ⟨v, avV_eq v, ho⟩
theorem in_A {n : Nat} {X : AV} (h : AVT Try.prog n 33 X) : ∃ a : GA, X = avA a ∧ a.ok := by
  obtain ⟨m, l, rfl, rfl, q⟩ := AVT.struct h us33 ft33
  obtain ⟨x0, l0, rfl, h0, q0⟩ := avts_cons q
  obtain ⟨x1, l1, rfl, h1, q1⟩ := avts_cons q0
  obtain rfl := avts_nil q1
  obtain ⟨key, rfl, wkey⟩ := AVT.str h0 Try.underlying9
  obtain ⟨v, rfl, ov⟩ := in_V _ _ h1
  exact ⟨.mk key v, by rw [avA], by rw [GA.ok]; exact ⟨wkey, ov⟩⟩
theorem in_As {n : Nat} {X : AV} (h : AVT Try.prog n 24 X) : ∃ l : List GA, X = .sl 7 (l.map avA) ∧ ∀ a ∈ l, a.ok := by
  obtain ⟨m, l, rfl, rfl, e⟩ := AVT.sl h Try.underlying24 co24
  obtain ⟨az, rfl, oas⟩ := list_img (f := avA) (Q := GA.ok) fun x hx => in_A (e x hx)
  exact ⟨az, rfl, oas⟩

end Go.Proofs

namespace Go.Proofs
open Go Go.Al

/-! ### A key's place in a list of rising keys -/
def posA : List GA → ByteArray → Nat
  | [], _ => 0
  | x :: xs, k => if ltB x.key k then posA xs k + 1 else 0
theorem posA_le : ∀ (l : List GA) (k : ByteArray), posA l k ≤ l.length
  | [], _ => Nat.le_refl _
  | x :: xs, k => by rw [posA]; split; (have := posA_le xs k; simp; omega); simp
def hasA (l : List GA) (k : ByteArray) : Bool := decide (posA l k < l.length) && decide ((nthA l (posA l k)).key = k)
theorem posA_first : ∀ (l : List GA) (k : ByteArray) (i : Nat), (∀ j, j < i → ltB (nthA l j).key k = true) → i ≤ l.length → (i < l.length → ltB (nthA l i).key k = false) → i = posA l k
  | [], k, i, _, h2, _ => by simpa [posA] using h2
  | x :: xs, k, 0, _, _, h3 => by
    have := h3 (by simp)
    rw [posA, if_neg (by simpa [nthA, nth] using this)]
  | x :: xs, k, i + 1, h1, h2, h3 => by
    have h4 := h1 0 (by omega)
    rw [posA, if_pos (by simpa [nthA, nth] using h4)]
    rw [posA_first xs k i (fun j hj => by have := h1 (j + 1) (by omega); simpa [nthA, nth] using this) (by simpa using h2) (fun hl => by have := h3 (by simp; omega); simpa [nthA, nth] using this)]
theorem toList_lst (s : ByteArray) : s.toList = lst s := strList s
theorem less_eq (s t : ByteArray) : Op.bytesLess s.toList t.toList = ltB s t := by rw [toList_lst, toList_lst]; rfl
/-! ### Into its place -/
theorem intoA_pos : ∀ (l : List GA) (a : GA), intoA l a = l.take (posA l a.key) ++ [a] ++ (if hasA l a.key then l.drop (posA l a.key + 1) else l.drop (posA l a.key))
  | [], a => by simp [intoA, posA, hasA]
  | x :: xs, a => by
    rw [intoA, hasA, posA]
    by_cases hx : ltB x.key a.key = true
    · rw [if_pos hx, intoA_pos xs a, hasA]
      simp only [hx, if_true]
      simp [nthA, nth]
    · rw [if_neg hx]
      simp only [hx]
      by_cases he : x.key = a.key
      · simp [he, nthA, nth]
      · simp [he, nthA, nth]
theorem intoAll_snoc : ∀ (m acc : List GA) (x : GA), intoAll acc (m ++ [x]) = intoA (intoAll acc m) x
  | [], acc, x => rfl
  | y :: m, acc, x => by simp only [List.cons_append, intoAll]; exact intoAll_snoc m _ x
theorem len_intoA (l : List GA) (a : GA) : (intoA l a).length ≤ l.length + 1 := by
  rw [intoA_pos]
  have := posA_le l a.key
  split <;> simp <;> omega
theorem len_intoAll : ∀ (m acc : List GA), (intoAll acc m).length ≤ acc.length + m.length
  | [], acc => by simp [intoAll]
  | x :: m, acc => by rw [intoAll]; have := len_intoAll m (intoA acc x); have := len_intoA acc x; simp; omega
theorem canonAs_take {l : List GA} {i : Nat} (h : i < l.length) : intoAll [] ((l.take (i + 1)).map canonP) = intoA (intoAll [] ((l.take i).map canonP)) (canonP (nthA l i)) := by
  rw [take_snoc (nth_get (d := a0) h), List.map_append, List.map_cons, List.map_nil, intoAll_snoc]; rfl
end Go.Proofs

namespace Go.Proofs
open Go Go.Al

/-! ### What spans and batches leave of an allowance -/
theorem drop_nth {α : Type} {l : List α} {i : Nat} {d : α} (h : i < l.length) : l.drop i = nth l i d :: l.drop (i + 1) := by
  rw [List.drop_eq_getElem_cons h]
  congr 1
  unfold nth
  rw [List.getD_eq_getElem?_getD, List.getElem?_eq_getElem h]; rfl
end Go.Proofs

namespace Go.Proofs
open Go Go.Al
set_option maxRecDepth 10000









end Go.Proofs

namespace Go.Proofs
open Go Go.Al
set_option maxRecDepth 10000





end Go.Proofs

namespace Go.Proofs
open Go Go.Al
set_option maxRecDepth 10000






end Go.Proofs

namespace Go.Proofs
open Go Go.Al
set_option maxRecDepth 10000
end Go.Proofs

namespace Go.Proofs
open Go Go.Al
set_option maxRecDepth 10000
set_option maxHeartbeats 400000 in
theorem leftV_st (v : GV) (n : Int) (hn : -1 ≤ n ∧ n ≤ 1000000000) (ih : ∀ y ∈ v.list, ∀ n : Int, -1 ≤ n ∧ n ≤ 1000000000 → PCall Try.prog Γ0 6 [y.av, iv n] [iv (leftV y n)]) (ihm : ∀ n : Int, -1 ≤ n ∧ n ≤ 1000000000 → PCall Try.prog Γ0 7 [.sl 7 (v.map.map avA), iv n] [iv (leftAs v.map n)]) : PCall Try.prog Γ0 6 [v.av, iv n] [iv (leftV v n)] := by
  have ek := v.wt_eq
  refine pcall_of Try.func6 rfl Try.ntmps6 (by kernel_rfl) rfl fun w0 I0 G0 => ?_
  refine aw_seq ?_
  refine aw_region ?_
  refine g_uG (s_box_imm 1002 rfl rfl rfl rfl) rfl ?_
  refine g_u (s_as_imm rfl rfl) ?_
  refine g_nil ?_
  refine normal_thn ?_
  refine aw_seq ?_
  refine aw_seq ?_
  refine aw_region ?_
  refine g_u (s_mv_imm rfl rfl) ?_
  refine g_u (s_ltI rfl rfl rfl) ?_
  refine g_u (s_mv_imm rfl rfl) ?_
  refine g_case (t := 8) rfl ?_
  rintro (hb1 | hb1)
  · rw [hb1]
    have hn0 : n < 0 := of_decide_eq_true hb1
    refine g_skip rfl rfl rfl ?_
    refine g_skip rfl rfl rfl ?_
    refine g_skip rfl rfl rfl ?_
    refine g_skip rfl rfl rfl ?_
    refine g_skip rfl rfl rfl ?_
    refine g_u (s_pick_t rfl rfl rfl) ?_
    refine g_nil ?_
    refine normal_thn ?_
    refine aw_cond_true rfl ?_
    refine aw_seq ?_
    refine aw_region ?_
    refine g_u (s_as_imm rfl rfl) ?_
    refine g_nil ?_
    refine normal_thn ?_
    refine aw_ret ?_
    refine ret_thn ?_
    exact ⟨⟨(rfl : toAV (Al.look _ _) = some _).trans (congrArg some (by (exact congrArg iv (by rw [leftV_F, if_pos hn0])))), rfl⟩, trivial⟩
  · rw [hb1]
    have hn0 : ¬ n < 0 := of_decide_eq_false hb1
    refine g_run rfl rfl (s_fieldAddr rfl rfl fa26_1 rfl) ?_
    refine g_run rfl rfl (s_load_imm rfl rfl rfl tA9 tS9 rfl rfl) ?_
    refine g_run rfl rfl (s_lenS rfl rfl Try.underlying9) ?_
    refine g_run rfl rfl (s_mv_imm rfl rfl) ?_
    refine g_run rfl rfl (s_gtI rfl rfl rfl) ?_
    refine g_u (s_pick_f rfl rfl rfl) ?_
    refine g_nil ?_
    refine normal_thn ?_
    refine aw_cond rfl (fun hb2 => ?_) (fun hb2 => ?_)
    · skip
      have ht0 : (v.text.size : Int) > n := of_decide_eq_true hb2
      refine aw_seq ?_
      refine aw_region ?_
      refine g_u (s_as_imm rfl rfl) ?_
      refine g_nil ?_
      refine normal_thn ?_
      refine aw_ret ?_
      refine ret_thn ?_
      exact ⟨⟨(rfl : toAV (Al.look _ _) = some _).trans (congrArg some (by (exact congrArg iv (by rw [leftV_F, if_neg hn0]; unfold leftF; rw [if_neg (by omega)])))), rfl⟩, trivial⟩
    · skip
      have ht0 : ¬ (v.text.size : Int) > n := of_decide_eq_false hb2
      have hL : -1 ≤ n - 1 - v.text.size := by omega
      refine aw_skip ?_
      refine normal_thn ?_
      refine aw_seq ?_
      refine aw_region ?_
      refine g_u (s_mv_imm rfl rfl) ?_
      refine g_u (s_sub rfl rfl rfl) ?_
      refine g_u (s_fieldAddr rfl rfl fa26_1 rfl) ?_
      refine g_u (s_load_imm rfl rfl rfl tA9 tS9 rfl rfl) ?_
      refine g_u (s_lenS rfl rfl Try.underlying9) ?_
      refine g_u (s_sub rfl rfl rfl) ?_
      refine g_u (s_as_imm rfl rfl) ?_
      refine g_nil ?_
      refine normal_thn ?_
      refine aw_seq ?_
      refine aw_seq ?_
      refine aw_region ?_
      refine g_u (s_as_imm rfl rfl) ?_
      refine g_nil ?_
      refine normal_thn ?_
      refine aw_block ?_
      refine aw_loop' (fun i : Nat => [(2, .ptr 1002 0), (1002, .box 26 (.imm v.av)), (1, .imm (iv (leftF (n - 1 - v.text.size) (wtVs (v.list.take i))))), (5, .imm (iv (i : Int)))]) (fun i => i ≤ v.list.length) (fun i => v.list.length - i) (0) ?_ ⟨rfl, rfl, look_int rfl (by rw [show wtVs (v.list.take 0) = 0 from rfl, leftF_zero hL, wrap64 (n := n - 1) (by omega) (by omega), wrap64 (by omega) (by omega)]), rfl, trivial⟩ ?_
      · exact Nat.zero_le _
      · rintro i h1; have h1 : i ≤ v.list.length := h1; have bd := leftF_bd hL (wtVs (v.list.take i))
        refine aw_seq ?_
        refine aw_seq ?_
        refine aw_region ?_
        refine g_u (s_mv_imm rfl rfl) ?_
        refine g_u (s_fieldAddr rfl rfl fa26_4 rfl) ?_
        refine g_u (s_load_imm rfl rfl rfl tA23 tS23 rfl rfl) ?_
        refine g_u (s_lenL rfl rfl Try.underlying23) ?_
        refine g_u (s_ltI rfl rfl rfl) ?_
        refine g_u (s_mv_imm rfl rfl) ?_
        refine g_case (t := 26) rfl ?_
        rintro (hb3 | hb3)
        · rw [hb3]
          have hiv : i < v.list.length := by have := of_decide_eq_true hb3; (try simp only [List.length_map] at this); omega
          refine g_run rfl rfl (s_mv_imm rfl rfl) ?_
          refine g_run rfl rfl (s_geI rfl rfl rfl) ?_
          refine g_u (s_pick_t rfl rfl rfl) ?_
          refine g_nil ?_
          refine normal_thn ?_
          refine aw_cond rfl (fun hb4 => ?_) (fun hb4 => ?_)
          · skip
            have hs : 0 ≤ leftF (n - 1 - v.text.size) (wtVs (v.list.take i)) := of_decide_eq_true hb4
            have hi9 := leftV_len hs h1
            refine aw_skip ?_
            refine normal_thn ?_
            refine aw_seq ?_
            refine aw_block ?_
            refine aw_region ?_
            refine g_u (s_fieldAddr rfl rfl fa26_4 rfl) ?_
            refine g_u (s_load_imm rfl rfl rfl tA23 tS23 rfl rfl) ?_
            refine g_u (s_mv_imm rfl rfl) ?_
            refine g_u (s_indexAddr rfl rfl rfl Try.underlying23 tS26 (by omega) (ixV hiv)) ?_
            refine g_u (s_load_cp rfl rfl tA26 tS26 rfl rfl) ?_
            refine g_u (s_mv_imm rfl rfl) ?_
            refine g_u (s_call1 (ih _ (nthV_mem hiv) _ ⟨bd.1, by have := bd.2; omega⟩) rfl rfl) ?_
            refine g_u (s_as_imm rfl rfl) ?_
            refine g_nil ?_
            refine normal_blk ?_
            refine normal_thn ?_
            refine aw_region ?_
            refine g_u (s_mv_imm rfl rfl) ?_
            refine g_u (s_add rfl rfl rfl) ?_
            refine g_u (s_as_imm rfl rfl) ?_
            refine g_nil ?_
            refine normal_thn ?_
            refine ⟨i + 1, hiv, ⟨rfl, rfl, look_int rfl (leftV_step hiv hs), look_int rfl (by rw [wrap64 (by omega) (by omega)]; rfl), trivial⟩, by (try dsimp only); omega⟩
          · skip
            have hs : ¬ 0 ≤ leftF (n - 1 - v.text.size) (wtVs (v.list.take i)) := of_decide_eq_false hb4
            refine aw_exit ?_
            refine exit_thn ?_
            refine exit_thn ?_
            refine exit_blk ?_
            refine normal_thn ?_
            refine aw_seq ?_
            refine aw_region ?_
            refine g_u (s_fieldAddr rfl rfl fa26_5 rfl) ?_
            refine g_u (s_load_imm rfl rfl rfl tA24 tS24 rfl rfl) ?_
            refine g_u (s_mv_imm rfl rfl) ?_
            refine g_u (s_call1 (ihm _ ⟨bd.1, by have := bd.2; omega⟩) rfl rfl) ?_
            refine g_u (s_as_imm rfl rfl) ?_
            refine g_nil ?_
            refine normal_thn ?_
            refine aw_ret ?_
            exact ⟨⟨(rfl : toAV (Al.look _ _) = some _).trans (congrArg some (by (exact congrArg iv (leftV_fin hn0 ht0 (by first | exact .inl hivn | exact .inr (by omega)))))), rfl⟩, trivial⟩
        · rw [hb3]
          have hivn : i = v.list.length := by have := of_decide_eq_false hb3; (try simp only [List.length_map] at this); omega
          refine g_skip rfl rfl rfl ?_
          refine g_skip rfl rfl rfl ?_
          refine g_u (s_pick_f rfl rfl rfl) ?_
          refine g_nil ?_
          refine normal_thn ?_
          refine aw_cond_false rfl ?_
          refine aw_exit ?_
          refine exit_thn ?_
          refine exit_thn ?_
          refine exit_blk ?_
          refine normal_thn ?_
          refine aw_seq ?_
          refine aw_region ?_
          refine g_u (s_fieldAddr rfl rfl fa26_5 rfl) ?_
          refine g_u (s_load_imm rfl rfl rfl tA24 tS24 rfl rfl) ?_
          refine g_u (s_mv_imm rfl rfl) ?_
          refine g_u (s_call1 (ihm _ ⟨bd.1, by have := bd.2; omega⟩) rfl rfl) ?_
          refine g_u (s_as_imm rfl rfl) ?_
          refine g_nil ?_
          refine normal_thn ?_
          refine aw_ret ?_
          exact ⟨⟨(rfl : toAV (Al.look _ _) = some _).trans (congrArg some (by (exact congrArg iv (leftV_fin hn0 ht0 (by first | exact .inl hivn | exact .inr (by omega)))))), rfl⟩, trivial⟩

set_option maxHeartbeats 400000 in
theorem leftAs_st (l : List GA) (n : Int) (hn : -1000000000000 ≤ n ∧ n ≤ 1000000000) (ih : ∀ a ∈ l, ∀ n : Int, -1 ≤ n ∧ n ≤ 1000000000 → PCall Try.prog Γ0 6 [a.val.av, iv n] [iv (leftV a.val n)]) : PCall Try.prog Γ0 7 [.sl 7 (l.map avA), iv n] [iv (leftAs l n)] := by
  refine pcall_of Try.func7 rfl Try.ntmps7 (by kernel_rfl) rfl fun w0 I0 G0 => ?_
  refine aw_seq ?_
  refine aw_region ?_
  refine g_u (s_as_imm rfl rfl) ?_
  refine g_nil ?_
  refine normal_thn ?_
  refine aw_seq ?_
  refine aw_seq ?_
  refine aw_region ?_
  refine g_u (s_as_imm rfl rfl) ?_
  refine g_nil ?_
  refine normal_thn ?_
  refine aw_block ?_
  refine aw_loop' (fun i : Nat => [(0, .imm (.sl 7 (l.map avA))), (1, .imm (iv (leftAs (l.take i) n))), (5, .imm (iv (i : Int)))]) (fun i => i ≤ l.length) (fun i => l.length - i) (0) ?_ ⟨rfl, look_int rfl (leftAs_zero l).symm, rfl, trivial⟩ ?_
  · exact Nat.zero_le _
  · rintro i h1; have h1 : i ≤ l.length := h1; have bd := leftAs_bd' (l.take i) n
    refine aw_seq ?_
    refine aw_seq ?_
    refine aw_region ?_
    refine g_u (s_mv_imm rfl rfl) ?_
    refine g_u (s_mv_imm rfl rfl) ?_
    refine g_u (s_lenL rfl rfl Try.underlying24) ?_
    refine g_u (s_ltI rfl rfl rfl) ?_
    refine g_u (s_mv_imm rfl rfl) ?_
    refine g_case (t := 10) rfl ?_
    rintro (hb1 | hb1)
    · rw [hb1]
      have hia : i < l.length := by have := of_decide_eq_true hb1; (try simp only [List.length_map] at this); omega
      refine g_run rfl rfl (s_mv_imm rfl rfl) ?_
      refine g_run rfl rfl (s_geI rfl rfl rfl) ?_
      refine g_u (s_pick_t rfl rfl rfl) ?_
      refine g_nil ?_
      refine normal_thn ?_
      refine aw_cond rfl (fun hb2 => ?_) (fun hb2 => ?_)
      · skip
        have hs : 0 ≤ leftAs (l.take i) n := of_decide_eq_true hb2
        have hi9 := leftAs_len hs h1
        refine aw_skip ?_
        refine normal_thn ?_
        refine aw_seq ?_
        refine aw_block ?_
        refine aw_seq ?_
        refine aw_seq ?_
        refine aw_region ?_
        refine g_u (s_mv_imm rfl rfl) ?_
        refine g_u (s_mv_imm rfl rfl) ?_
        refine g_u (s_indexAddr rfl rfl rfl Try.underlying24 tS33 (by omega) (ixA hia)) ?_
        refine g_u (s_fieldAddr_cp rfl rfl fa33_0 rfl rfl) ?_
        refine g_u (s_load_cp rfl rfl tA9 tS9 rfl rfl) ?_
        refine g_u (s_lenS rfl rfl Try.underlying9) ?_
        refine g_u (s_mv_imm rfl rfl) ?_
        refine g_u (s_gtI rfl rfl rfl) ?_
        refine g_nil ?_
        refine normal_thn ?_
        refine aw_cond rfl (fun hb3 => ?_) (fun hb3 => ?_)
        · skip
          have hk : ((nthA l i).key.size : Int) > leftAs (l.take i) n := of_decide_eq_true hb3
          refine aw_seq ?_
          refine aw_region ?_
          refine g_u (s_as_imm rfl rfl) ?_
          refine g_nil ?_
          refine normal_thn ?_
          refine aw_ret ?_
          refine ret_thn ?_
          refine ret_blk ?_
          refine ret_thn ?_
          refine ret_thn ?_
          refine ret_blk ?_
          refine ret_thn ?_
          exact ⟨⟨(rfl : toAV (Al.look _ _) = some _).trans (congrArg some (by (exact congrArg iv (leftAs_out hia hs hk)))), rfl⟩, trivial⟩
        · skip
          have hk : ¬ ((nthA l i).key.size : Int) > leftAs (l.take i) n := of_decide_eq_false hb3
          have ew : IntKind.i64.wrap (leftAs (l.take i) n - (nthA l i).key.size) = leftAs (l.take i) n - (nthA l i).key.size := wrap64 (by omega) (by omega)
          refine aw_skip ?_
          refine normal_thn ?_
          refine aw_draw mixed ?_
          refine g_u (s_mv_imm rfl rfl) ?_
          refine g_u (s_mv_imm rfl rfl) ?_
          refine g_u (s_indexAddr rfl rfl rfl Try.underlying24 tS33 (by omega) (ixA hia)) ?_
          refine g_u (s_fieldAddr_cp rfl rfl fa33_1 rfl rfl) ?_
          refine g_u (s_load_cp rfl rfl tA26 tS26 rfl rfl) ?_
          refine g_u (s_mv_imm rfl rfl) ?_
          refine g_u (s_mv_imm rfl rfl) ?_
          refine g_u (s_mv_imm rfl rfl) ?_
          refine g_u (s_indexAddr rfl rfl rfl Try.underlying24 tS33 (by omega) (ixA hia)) ?_
          refine g_u (s_fieldAddr_cp rfl rfl fa33_0 rfl rfl) ?_
          refine g_u (s_load_cp rfl rfl tA9 tS9 rfl rfl) ?_
          refine g_u (s_lenS rfl rfl Try.underlying9) ?_
          refine g_u (s_sub rfl rfl rfl) ?_
          refine g_u (s_call1 ((show PCall Try.prog Γ0 6 [(nthA l i).val.av, iv (IntKind.i64.wrap (leftAs (l.take i) n - (nthA l i).key.size))] [iv (leftV (nthA l i).val (leftAs (l.take i) n - (nthA l i).key.size))] from by rw [ew]; exact ih _ (nthA_mem hia) _ ⟨by omega, by omega⟩)) rfl rfl) ?_
          refine g_u (s_as_imm rfl rfl) ?_
          refine g_nil ⟨by kernel_rfl, ?_⟩
          refine normal_blk ?_
          refine normal_thn ?_
          refine aw_region ?_
          refine g_u (s_mv_imm rfl rfl) ?_
          refine g_u (s_add rfl rfl rfl) ?_
          refine g_u (s_as_imm rfl rfl) ?_
          refine g_nil ?_
          refine normal_thn ?_
          refine ⟨i + 1, hia, ⟨rfl, look_int rfl (leftAs_step hia hs hk), look_int rfl (by rw [wrap64 (by omega) (by omega)]; rfl), trivial⟩, by (try dsimp only); omega⟩
      · skip
        have hs : ¬ 0 ≤ leftAs (l.take i) n := of_decide_eq_false hb2
        refine aw_exit ?_
        refine exit_thn ?_
        refine exit_thn ?_
        refine exit_blk ?_
        refine normal_thn ?_
        refine aw_seq ?_
        refine aw_region ?_
        refine g_u (s_mv_imm rfl rfl) ?_
        refine g_u (s_as_imm rfl rfl) ?_
        refine g_nil ?_
        refine normal_thn ?_
        refine aw_ret ?_
        exact ⟨⟨(rfl : toAV (Al.look _ _) = some _).trans (congrArg some (by (exact congrArg iv (leftAs_fin (by first | exact .inl hian | exact .inr (by omega)))))), rfl⟩, trivial⟩
    · rw [hb1]
      have hian : i = l.length := by have := of_decide_eq_false hb1; (try simp only [List.length_map] at this); omega
      refine g_skip rfl rfl rfl ?_
      refine g_skip rfl rfl rfl ?_
      refine g_u (s_pick_f rfl rfl rfl) ?_
      refine g_nil ?_
      refine normal_thn ?_
      refine aw_cond_false rfl ?_
      refine aw_exit ?_
      refine exit_thn ?_
      refine exit_thn ?_
      refine exit_blk ?_
      refine normal_thn ?_
      refine aw_seq ?_
      refine aw_region ?_
      refine g_u (s_mv_imm rfl rfl) ?_
      refine g_u (s_as_imm rfl rfl) ?_
      refine g_nil ?_
      refine normal_thn ?_
      refine aw_ret ?_
      exact ⟨⟨(rfl : toAV (Al.look _ _) = some _).trans (congrArg some (by (exact congrArg iv (leftAs_fin (by first | exact .inl hian | exact .inr (by omega)))))), rfl⟩, trivial⟩

theorem leftV_c (v : GV) : ∀ n : Int, -1 ≤ n ∧ n ≤ 1000000000 → PCall Try.prog Γ0 6 [v.av, iv n] [iv (leftV v n)] := by
  refine GV.ind (P := fun v => ∀ n : Int, -1 ≤ n ∧ n ≤ 1000000000 → PCall Try.prog Γ0 6 [v.av, iv n] [iv (leftV v n)]) ?_ v
  intro v h1 h2 n hn
  exact leftV_st v n hn h1 fun n hn => leftAs_st v.map n (by omega) h2
theorem leftAs_c (l : List GA) (n : Int) (hn : -1000000000000 ≤ n ∧ n ≤ 1000000000) : PCall Try.prog Γ0 7 [.sl 7 (l.map avA), iv n] [iv (leftAs l n)] := leftAs_st l n hn fun a _ => leftV_c a.val

end Go.Proofs

namespace Go.Proofs
open Go Go.Al
set_option maxRecDepth 10000








end Go.Proofs

namespace Go.Proofs
open Go Go.Al
set_option maxRecDepth 10000






end Go.Proofs

namespace Go.Proofs
open Go Go.Al
set_option maxRecDepth 10000





end Go.Proofs

namespace Go.Proofs
open Go Go.Al
set_option maxRecDepth 10000






end Go.Proofs

namespace Go.Proofs
open Go Go.Al
set_option maxRecDepth 10000
end Go.Proofs

namespace Go.Proofs
open Go Go.Al
set_option maxRecDepth 10000

end Go.Proofs

namespace Go.Proofs
open Go Go.Al
set_option maxRecDepth 10000
set_option maxHeartbeats 400000 in
theorem into_c (l : List GA) (a : GA) (hl : l.length ≤ 1000000000) : PCall Try.prog Γ0 32 [.sl 7 (l.map avA), a.av] [.sl 7 ((intoA l a).map avA)] := by
  refine pcall_of Try.func32 rfl Try.ntmps32 (by kernel_rfl) rfl fun w0 I0 G0 => ?_
  refine aw_seq ?_
  refine aw_region ?_
  refine g_uG (s_box_imm 1003 rfl rfl rfl rfl) rfl ?_
  refine g_u (s_as_imm rfl rfl) ?_
  refine g_nil ?_
  refine normal_thn ?_
  refine aw_seq ?_
  refine aw_region ?_
  refine g_u (s_as_imm rfl rfl) ?_
  refine g_nil ?_
  refine normal_thn ?_
  refine aw_seq ?_
  refine aw_block ?_
  refine aw_loop' (fun i : Nat => [(0, .imm (.sl 7 (l.map avA))), (3, .ptr 1003 0), (1003, .box 33 (.imm a.av)), (5, .imm (iv (i : Int)))]) (fun i => i ≤ l.length ∧ ∀ j, j < i → ltB (nthA l j).key a.key = true) (fun i => l.length - i) (0) ?_ ⟨rfl, rfl, rfl, rfl, trivial⟩ ?_
  · exact ⟨Nat.zero_le _, fun j h => absurd h (Nat.not_lt_zero _)⟩
  · rintro i ⟨h1, h2⟩; (try dsimp only at h1 h2)
    refine aw_seq ?_
    refine aw_seq ?_
    refine aw_draw mixed ?_
    refine g_u (s_mv_imm rfl rfl) ?_
    refine g_u (s_mv_imm rfl rfl) ?_
    refine g_u (s_lenL rfl rfl Try.underlying24) ?_
    refine g_u (s_ltI rfl rfl rfl) ?_
    refine g_u (s_mv_imm rfl rfl) ?_
    refine g_case (t := 11) rfl ?_
    rintro (hb1 | hb1)
    · rw [hb1]
      have hi : i < l.length := by have := of_decide_eq_true hb1; (try simp only [List.length_map] at this); omega
      refine g_run rfl rfl (s_mv_imm rfl rfl) ?_
      refine g_run rfl rfl (s_mv_imm rfl rfl) ?_
      refine g_run rfl rfl (s_indexAddr rfl rfl rfl Try.underlying24 tS33 (by omega) (ixA hi)) ?_
      refine g_run rfl rfl (s_fieldAddr_cp rfl rfl fa33_0 rfl rfl) ?_
      refine g_run rfl rfl (s_load_cp rfl rfl tA9 tS9 rfl rfl) ?_
      refine g_run rfl rfl (s_fieldAddr rfl rfl fa33_0 rfl) ?_
      refine g_run rfl rfl (s_load_imm rfl rfl rfl tA9 tS9 rfl rfl) ?_
      refine g_run rfl rfl (s_ltS rfl rfl rfl) ?_
      refine g_u (s_pick_t rfl rfl rfl) ?_
      refine g_nil ⟨by kernel_rfl, ?_⟩
      refine normal_thn ?_
      refine aw_cond rfl (fun hb2 => ?_) (fun hb2 => ?_)
      · skip
        have hk : ltB (nthA l i).key a.key = true := (less_eq _ _).symm.trans hb2
        refine aw_skip ?_
        refine normal_thn ?_
        refine aw_block ?_
        refine aw_region ?_
        refine g_u (s_mv_imm rfl rfl) ?_
        refine g_u (s_add rfl rfl rfl) ?_
        refine g_u (s_as_imm rfl rfl) ?_
        refine g_nil ?_
        refine normal_blk ?_
        refine normal_thn ?_
        refine ⟨i + 1, ⟨hi, fun j hj => by rcases Nat.lt_or_ge j i with h | h; exact h2 j h; rw [show j = i by omega]; exact hk⟩, ⟨rfl, rfl, rfl, look_int rfl (by rw [wrap64 (by omega) (by omega)]; rfl), trivial⟩, by (try dsimp only); omega⟩
      · skip
        have hk : ltB (nthA l i).key a.key = false := (less_eq _ _).symm.trans hb2
        have hp : i = posA l a.key := posA_first l a.key i h2 h1 (fun _ => hk)
        refine aw_exit ?_
        refine exit_thn ?_
        refine exit_thn ?_
        refine exit_blk ?_
        refine normal_thn ?_
        refine aw_seq ?_
        refine aw_draw mixed ?_
        refine g_uG (s_build0 1023 3023 rfl rfl rfl rfl rfl rfl Try.underlying24 tS33) rfl ?_
        refine g_u (s_mv_imm rfl rfl) ?_
        refine g_u (s_mv_imm rfl rfl) ?_
        refine g_u (s_slL_h i rfl rfl rfl Try.underlying24 tS33 (by omega) (by rw [List.length_map]; omega)) ?_
        refine g_u (s_append rfl rfl rfl rfl rfl Try.underlying24 Try.underlying24 tS33 zv33 rfl (by decide) by33 (by (try dsimp only); simp only [List.length_append, List.length_cons, List.length_nil, List.length_map, List.length_take, List.length_drop]; omega) (by (try dsimp only); simp only [List.length_append, List.length_cons, List.length_nil, List.length_map, List.length_take, List.length_drop]; omega)) ?_
        refine g_u (s_load_imm rfl rfl rfl tA33 tS33 rfl rfl) ?_
        refine g_u (s_buildSlice (X0 := z33) rfl Try.underlying24 tS33 tZ33 rfl rfl rfl rfl rfl rfl rfl rfl) ?_
        refine g_u (s_append rfl rfl rfl rfl rfl Try.underlying24 Try.underlying24 tS33 zv33 rfl (by decide) by33 (by (try dsimp only); simp only [List.length_append, List.length_cons, List.length_nil, List.length_map, List.length_take, List.length_drop]; omega) (by (try dsimp only); simp only [List.length_append, List.length_cons, List.length_nil, List.length_map, List.length_take, List.length_drop]; omega)) ?_
        refine g_u (s_as_slg rfl rfl) ?_
        refine g_nil ⟨by kernel_rfl, ?_⟩
        refine normal_thn ?_
        refine aw_seq ?_
        refine aw_seq ?_
        refine aw_draw mixed ?_
        refine g_u (s_mv_imm rfl rfl) ?_
        refine g_u (s_mv_imm rfl rfl) ?_
        refine g_u (s_lenL rfl rfl Try.underlying24) ?_
        refine g_u (s_ltI rfl rfl rfl) ?_
        refine g_u (s_mv_imm rfl rfl) ?_
        refine g_case (t := 35) rfl ?_
        rintro (hb3 | hb3)
        · rw [hb3]
          have hpl : i < l.length := by have := of_decide_eq_true hb3; (try simp only [List.length_map] at this); omega
          refine g_run rfl rfl (s_mv_imm rfl rfl) ?_
          refine g_run rfl rfl (s_mv_imm rfl rfl) ?_
          refine g_run rfl rfl (s_indexAddr rfl rfl rfl Try.underlying24 tS33 (by omega) (ixA hpl)) ?_
          refine g_run rfl rfl (s_fieldAddr_cp rfl rfl fa33_0 rfl rfl) ?_
          refine g_run rfl rfl (s_load_cp rfl rfl tA9 tS9 rfl rfl) ?_
          refine g_run rfl rfl (s_fieldAddr rfl rfl fa33_0 rfl) ?_
          refine g_run rfl rfl (s_load_imm rfl rfl rfl tA9 tS9 rfl rfl) ?_
          refine g_run rfl rfl (s_eqS rfl rfl rfl) ?_
          refine g_u (s_pick_t rfl rfl rfl) ?_
          refine g_nil ⟨by kernel_rfl, ?_⟩
          refine normal_thn ?_
          refine aw_cond rfl (fun hb4 => ?_) (fun hb4 => ?_)
          · skip
            have he : (nthA l i).key = a.key := by have e := hb4; rw [str_beq] at e; exact of_decide_eq_true e
            refine aw_region ?_
            refine g_u (s_mv_imm rfl rfl) ?_
            refine g_u (s_add rfl rfl rfl) ?_
            refine g_u (s_as_imm rfl rfl) ?_
            refine g_nil ?_
            refine normal_thn ?_
            refine aw_seq ?_
            refine aw_region ?_
            refine g_u (s_mv_slg rfl rfl) ?_
            refine g_u (s_mv_imm rfl rfl) ?_
            refine g_u (s_mv_imm rfl rfl) ?_
            refine g_u (s_slL_l (i + 1) rfl rfl rfl Try.underlying24 tS33 (by rw [wrap64 (by omega) (by omega)]; omega) (by rw [List.length_map]; omega)) ?_
            refine g_u (s_append rfl rfl rfl rfl rfl Try.underlying24 Try.underlying24 tS33 zv33 rfl (by decide) by33 (by (try dsimp only); simp only [List.length_append, List.length_cons, List.length_nil, List.length_map, List.length_take, List.length_drop]; omega) (by (try dsimp only); simp only [List.length_append, List.length_cons, List.length_nil, List.length_map, List.length_take, List.length_drop]; omega)) ?_
            refine g_u (s_as_slg rfl rfl) ?_
            refine g_nil ?_
            refine normal_thn ?_
            refine aw_ret ?_
            exact ⟨⟨(rfl : toAV (Al.look _ _) = some _).trans (congrArg some (by (refine congrArg (AV.sl 7) ?_; rw [intoA_pos, ← hp]; first | (have hh : hasA l a.key = true := (by rw [hasA, ← hp, decide_eq_true hpl, Bool.true_and]; exact decide_eq_true he); rw [if_pos hh]; simp [avA_eq, List.take_of_length_le]) | (have hh : hasA l a.key = false := (by rw [hasA, ← hp, decide_eq_true hpl, Bool.true_and]; exact decide_eq_false he); rw [if_neg (by rw [hh]; decide)]; simp [avA_eq, List.take_of_length_le]) | (have hh : hasA l a.key = false := (by rw [hasA, ← hp, decide_eq_false hpl, Bool.false_and]); rw [if_neg (by rw [hh]; decide)]; simp [avA_eq, List.take_of_length_le])))), rfl⟩, trivial⟩
          · skip
            have he : ¬ (nthA l i).key = a.key := by first | (have e := hb4; rw [str_beq] at e; exact of_decide_eq_false e) | (intro _; omega)
            refine aw_skip ?_
            refine normal_thn ?_
            refine aw_seq ?_
            refine aw_region ?_
            refine g_u (s_mv_slg rfl rfl) ?_
            refine g_u (s_mv_imm rfl rfl) ?_
            refine g_u (s_mv_imm rfl rfl) ?_
            refine g_u (s_slL_l i rfl rfl rfl Try.underlying24 tS33 (by omega) (by rw [List.length_map]; omega)) ?_
            refine g_u (s_append rfl rfl rfl rfl rfl Try.underlying24 Try.underlying24 tS33 zv33 rfl (by decide) by33 (by (try dsimp only); simp only [List.length_append, List.length_cons, List.length_nil, List.length_map, List.length_take, List.length_drop]; omega) (by (try dsimp only); simp only [List.length_append, List.length_cons, List.length_nil, List.length_map, List.length_take, List.length_drop]; omega)) ?_
            refine g_u (s_as_slg rfl rfl) ?_
            refine g_nil ?_
            refine normal_thn ?_
            refine aw_ret ?_
            exact ⟨⟨(rfl : toAV (Al.look _ _) = some _).trans (congrArg some (by (refine congrArg (AV.sl 7) ?_; rw [intoA_pos, ← hp]; first | (have hh : hasA l a.key = true := (by rw [hasA, ← hp, decide_eq_true hpl, Bool.true_and]; exact decide_eq_true he); rw [if_pos hh]; simp [avA_eq, List.take_of_length_le]) | (have hh : hasA l a.key = false := (by rw [hasA, ← hp, decide_eq_true hpl, Bool.true_and]; exact decide_eq_false he); rw [if_neg (by rw [hh]; decide)]; simp [avA_eq, List.take_of_length_le]) | (have hh : hasA l a.key = false := (by rw [hasA, ← hp, decide_eq_false hpl, Bool.false_and]); rw [if_neg (by rw [hh]; decide)]; simp [avA_eq, List.take_of_length_le])))), rfl⟩, trivial⟩
        · rw [hb3]
          have hpl : ¬ i < l.length := by have := of_decide_eq_false hb3; (try simp only [List.length_map] at this); omega
          refine g_skip rfl rfl rfl ?_
          refine g_skip rfl rfl rfl ?_
          refine g_skip rfl rfl rfl ?_
          refine g_skip rfl rfl rfl ?_
          refine g_skip rfl rfl rfl ?_
          refine g_skip rfl rfl rfl ?_
          refine g_skip rfl rfl rfl ?_
          refine g_skip rfl rfl rfl ?_
          refine g_u (s_pick_f rfl rfl rfl) ?_
          refine g_nil ⟨by kernel_rfl, ?_⟩
          refine normal_thn ?_
          refine aw_cond_false rfl ?_
          refine aw_skip ?_
          refine normal_thn ?_
          refine aw_seq ?_
          refine aw_region ?_
          refine g_u (s_mv_slg rfl rfl) ?_
          refine g_u (s_mv_imm rfl rfl) ?_
          refine g_u (s_mv_imm rfl rfl) ?_
          refine g_u (s_slL_l i rfl rfl rfl Try.underlying24 tS33 (by omega) (by rw [List.length_map]; omega)) ?_
          refine g_u (s_append rfl rfl rfl rfl rfl Try.underlying24 Try.underlying24 tS33 zv33 rfl (by decide) by33 (by (try dsimp only); simp only [List.length_append, List.length_cons, List.length_nil, List.length_map, List.length_take, List.length_drop]; omega) (by (try dsimp only); simp only [List.length_append, List.length_cons, List.length_nil, List.length_map, List.length_take, List.length_drop]; omega)) ?_
          refine g_u (s_as_slg rfl rfl) ?_
          refine g_nil ?_
          refine normal_thn ?_
          refine aw_ret ?_
          exact ⟨⟨(rfl : toAV (Al.look _ _) = some _).trans (congrArg some (by (refine congrArg (AV.sl 7) ?_; rw [intoA_pos, ← hp]; first | (have hh : hasA l a.key = true := (by rw [hasA, ← hp, decide_eq_true hpl, Bool.true_and]; exact decide_eq_true he); rw [if_pos hh]; simp [avA_eq, List.take_of_length_le]) | (have hh : hasA l a.key = false := (by rw [hasA, ← hp, decide_eq_true hpl, Bool.true_and]; exact decide_eq_false he); rw [if_neg (by rw [hh]; decide)]; simp [avA_eq, List.take_of_length_le]) | (have hh : hasA l a.key = false := (by rw [hasA, ← hp, decide_eq_false hpl, Bool.false_and]); rw [if_neg (by rw [hh]; decide)]; simp [avA_eq, List.take_of_length_le])))), rfl⟩, trivial⟩
    · rw [hb1]
      have hin : i = l.length := by have := of_decide_eq_false hb1; (try simp only [List.length_map] at this); omega
      have hp : i = posA l a.key := posA_first l a.key i h2 h1 (fun h => absurd h (by omega))
      refine g_skip rfl rfl rfl ?_
      refine g_skip rfl rfl rfl ?_
      refine g_skip rfl rfl rfl ?_
      refine g_skip rfl rfl rfl ?_
      refine g_skip rfl rfl rfl ?_
      refine g_skip rfl rfl rfl ?_
      refine g_skip rfl rfl rfl ?_
      refine g_skip rfl rfl rfl ?_
      refine g_u (s_pick_f rfl rfl rfl) ?_
      refine g_nil ⟨by kernel_rfl, ?_⟩
      refine normal_thn ?_
      refine aw_cond_false rfl ?_
      refine aw_exit ?_
      refine exit_thn ?_
      refine exit_thn ?_
      refine exit_blk ?_
      refine normal_thn ?_
      refine aw_seq ?_
      refine aw_draw mixed ?_
      refine g_uG (s_build0 1023 3023 rfl rfl rfl rfl rfl rfl Try.underlying24 tS33) rfl ?_
      refine g_u (s_mv_imm rfl rfl) ?_
      refine g_u (s_mv_imm rfl rfl) ?_
      refine g_u (s_slL_h i rfl rfl rfl Try.underlying24 tS33 (by omega) (by rw [List.length_map]; omega)) ?_
      refine g_u (s_append rfl rfl rfl rfl rfl Try.underlying24 Try.underlying24 tS33 zv33 rfl (by decide) by33 (by (try dsimp only); simp only [List.length_append, List.length_cons, List.length_nil, List.length_map, List.length_take, List.length_drop]; omega) (by (try dsimp only); simp only [List.length_append, List.length_cons, List.length_nil, List.length_map, List.length_take, List.length_drop]; omega)) ?_
      refine g_u (s_load_imm rfl rfl rfl tA33 tS33 rfl rfl) ?_
      refine g_u (s_buildSlice (X0 := z33) rfl Try.underlying24 tS33 tZ33 rfl rfl rfl rfl rfl rfl rfl rfl) ?_
      refine g_u (s_append rfl rfl rfl rfl rfl Try.underlying24 Try.underlying24 tS33 zv33 rfl (by decide) by33 (by (try dsimp only); simp only [List.length_append, List.length_cons, List.length_nil, List.length_map, List.length_take, List.length_drop]; omega) (by (try dsimp only); simp only [List.length_append, List.length_cons, List.length_nil, List.length_map, List.length_take, List.length_drop]; omega)) ?_
      refine g_u (s_as_slg rfl rfl) ?_
      refine g_nil ⟨by kernel_rfl, ?_⟩
      refine normal_thn ?_
      refine aw_seq ?_
      refine aw_seq ?_
      refine aw_draw mixed ?_
      refine g_u (s_mv_imm rfl rfl) ?_
      refine g_u (s_mv_imm rfl rfl) ?_
      refine g_u (s_lenL rfl rfl Try.underlying24) ?_
      refine g_u (s_ltI rfl rfl rfl) ?_
      refine g_u (s_mv_imm rfl rfl) ?_
      refine g_case (t := 35) rfl ?_
      rintro (hb5 | hb5)
      · rw [hb5]
        have hpl : i < l.length := by have := of_decide_eq_true hb5; (try simp only [List.length_map] at this); omega
        refine g_run rfl rfl (s_mv_imm rfl rfl) ?_
        refine g_run rfl rfl (s_mv_imm rfl rfl) ?_
        refine g_run rfl rfl (s_indexAddr rfl rfl rfl Try.underlying24 tS33 (by omega) (ixA hpl)) ?_
        refine g_run rfl rfl (s_fieldAddr_cp rfl rfl fa33_0 rfl rfl) ?_
        refine g_run rfl rfl (s_load_cp rfl rfl tA9 tS9 rfl rfl) ?_
        refine g_run rfl rfl (s_fieldAddr rfl rfl fa33_0 rfl) ?_
        refine g_run rfl rfl (s_load_imm rfl rfl rfl tA9 tS9 rfl rfl) ?_
        refine g_run rfl rfl (s_eqS rfl rfl rfl) ?_
        refine g_u (s_pick_t rfl rfl rfl) ?_
        refine g_nil ⟨by kernel_rfl, ?_⟩
        refine normal_thn ?_
        refine aw_cond rfl (fun hb6 => ?_) (fun hb6 => ?_)
        · skip
          have he : (nthA l i).key = a.key := by have e := hb6; rw [str_beq] at e; exact of_decide_eq_true e
          refine aw_region ?_
          refine g_u (s_mv_imm rfl rfl) ?_
          refine g_u (s_add rfl rfl rfl) ?_
          refine g_u (s_as_imm rfl rfl) ?_
          refine g_nil ?_
          refine normal_thn ?_
          refine aw_seq ?_
          refine aw_region ?_
          refine g_u (s_mv_slg rfl rfl) ?_
          refine g_u (s_mv_imm rfl rfl) ?_
          refine g_u (s_mv_imm rfl rfl) ?_
          refine g_u (s_slL_l (i + 1) rfl rfl rfl Try.underlying24 tS33 (by rw [wrap64 (by omega) (by omega)]; omega) (by rw [List.length_map]; omega)) ?_
          refine g_u (s_append rfl rfl rfl rfl rfl Try.underlying24 Try.underlying24 tS33 zv33 rfl (by decide) by33 (by (try dsimp only); simp only [List.length_append, List.length_cons, List.length_nil, List.length_map, List.length_take, List.length_drop]; omega) (by (try dsimp only); simp only [List.length_append, List.length_cons, List.length_nil, List.length_map, List.length_take, List.length_drop]; omega)) ?_
          refine g_u (s_as_slg rfl rfl) ?_
          refine g_nil ?_
          refine normal_thn ?_
          refine aw_ret ?_
          exact ⟨⟨(rfl : toAV (Al.look _ _) = some _).trans (congrArg some (by (refine congrArg (AV.sl 7) ?_; rw [intoA_pos, ← hp]; first | (have hh : hasA l a.key = true := (by rw [hasA, ← hp, decide_eq_true hpl, Bool.true_and]; exact decide_eq_true he); rw [if_pos hh]; simp [avA_eq, List.take_of_length_le]) | (have hh : hasA l a.key = false := (by rw [hasA, ← hp, decide_eq_true hpl, Bool.true_and]; exact decide_eq_false he); rw [if_neg (by rw [hh]; decide)]; simp [avA_eq, List.take_of_length_le]) | (have hh : hasA l a.key = false := (by rw [hasA, ← hp, decide_eq_false hpl, Bool.false_and]); rw [if_neg (by rw [hh]; decide)]; simp [avA_eq, List.take_of_length_le])))), rfl⟩, trivial⟩
        · skip
          have he : ¬ (nthA l i).key = a.key := by first | (have e := hb6; rw [str_beq] at e; exact of_decide_eq_false e) | (intro _; omega)
          refine aw_skip ?_
          refine normal_thn ?_
          refine aw_seq ?_
          refine aw_region ?_
          refine g_u (s_mv_slg rfl rfl) ?_
          refine g_u (s_mv_imm rfl rfl) ?_
          refine g_u (s_mv_imm rfl rfl) ?_
          refine g_u (s_slL_l i rfl rfl rfl Try.underlying24 tS33 (by omega) (by rw [List.length_map]; omega)) ?_
          refine g_u (s_append rfl rfl rfl rfl rfl Try.underlying24 Try.underlying24 tS33 zv33 rfl (by decide) by33 (by (try dsimp only); simp only [List.length_append, List.length_cons, List.length_nil, List.length_map, List.length_take, List.length_drop]; omega) (by (try dsimp only); simp only [List.length_append, List.length_cons, List.length_nil, List.length_map, List.length_take, List.length_drop]; omega)) ?_
          refine g_u (s_as_slg rfl rfl) ?_
          refine g_nil ?_
          refine normal_thn ?_
          refine aw_ret ?_
          exact ⟨⟨(rfl : toAV (Al.look _ _) = some _).trans (congrArg some (by (refine congrArg (AV.sl 7) ?_; rw [intoA_pos, ← hp]; first | (have hh : hasA l a.key = true := (by rw [hasA, ← hp, decide_eq_true hpl, Bool.true_and]; exact decide_eq_true he); rw [if_pos hh]; simp [avA_eq, List.take_of_length_le]) | (have hh : hasA l a.key = false := (by rw [hasA, ← hp, decide_eq_true hpl, Bool.true_and]; exact decide_eq_false he); rw [if_neg (by rw [hh]; decide)]; simp [avA_eq, List.take_of_length_le]) | (have hh : hasA l a.key = false := (by rw [hasA, ← hp, decide_eq_false hpl, Bool.false_and]); rw [if_neg (by rw [hh]; decide)]; simp [avA_eq, List.take_of_length_le])))), rfl⟩, trivial⟩
      · rw [hb5]
        have hpl : ¬ i < l.length := by have := of_decide_eq_false hb5; (try simp only [List.length_map] at this); omega
        refine g_skip rfl rfl rfl ?_
        refine g_skip rfl rfl rfl ?_
        refine g_skip rfl rfl rfl ?_
        refine g_skip rfl rfl rfl ?_
        refine g_skip rfl rfl rfl ?_
        refine g_skip rfl rfl rfl ?_
        refine g_skip rfl rfl rfl ?_
        refine g_skip rfl rfl rfl ?_
        refine g_u (s_pick_f rfl rfl rfl) ?_
        refine g_nil ⟨by kernel_rfl, ?_⟩
        refine normal_thn ?_
        refine aw_cond_false rfl ?_
        refine aw_skip ?_
        refine normal_thn ?_
        refine aw_seq ?_
        refine aw_region ?_
        refine g_u (s_mv_slg rfl rfl) ?_
        refine g_u (s_mv_imm rfl rfl) ?_
        refine g_u (s_mv_imm rfl rfl) ?_
        refine g_u (s_slL_l i rfl rfl rfl Try.underlying24 tS33 (by omega) (by rw [List.length_map]; omega)) ?_
        refine g_u (s_append rfl rfl rfl rfl rfl Try.underlying24 Try.underlying24 tS33 zv33 rfl (by decide) by33 (by (try dsimp only); simp only [List.length_append, List.length_cons, List.length_nil, List.length_map, List.length_take, List.length_drop]; omega) (by (try dsimp only); simp only [List.length_append, List.length_cons, List.length_nil, List.length_map, List.length_take, List.length_drop]; omega)) ?_
        refine g_u (s_as_slg rfl rfl) ?_
        refine g_nil ?_
        refine normal_thn ?_
        refine aw_ret ?_
        exact ⟨⟨(rfl : toAV (Al.look _ _) = some _).trans (congrArg some (by (refine congrArg (AV.sl 7) ?_; rw [intoA_pos, ← hp]; first | (have hh : hasA l a.key = true := (by rw [hasA, ← hp, decide_eq_true hpl, Bool.true_and]; exact decide_eq_true he); rw [if_pos hh]; simp [avA_eq, List.take_of_length_le]) | (have hh : hasA l a.key = false := (by rw [hasA, ← hp, decide_eq_true hpl, Bool.true_and]; exact decide_eq_false he); rw [if_neg (by rw [hh]; decide)]; simp [avA_eq, List.take_of_length_le]) | (have hh : hasA l a.key = false := (by rw [hasA, ← hp, decide_eq_false hpl, Bool.false_and]); rw [if_neg (by rw [hh]; decide)]; simp [avA_eq, List.take_of_length_le])))), rfl⟩, trivial⟩

set_option maxHeartbeats 400000 in
theorem canonAs_st (l : List GA) (hl : l.length ≤ 1000000000) (ih : ∀ a ∈ l, PCall Try.prog Γ0 19 [a.val.av] [(canonV a.val).av]) : PCall Try.prog Γ0 23 [.sl 7 (l.map avA)] [.sl 7 ((canonAs l).map avA)] := by
  refine pcall_of Try.func23 rfl Try.ntmps23 (by kernel_rfl) rfl fun w0 I0 G0 => ?_
  refine aw_seq ?_
  refine aw_region ?_
  refine g_u (s_as_imm rfl rfl) ?_
  refine g_nil ?_
  refine normal_thn ?_
  refine aw_seq ?_
  refine aw_region ?_
  refine g_u (s_as_imm rfl rfl) ?_
  refine g_nil ?_
  refine normal_thn ?_
  refine aw_seq ?_
  refine aw_seq ?_
  refine aw_up 3 rfl (Up.nil 7) ?_
  refine aw_region ?_
  refine g_u (s_as_imm rfl rfl) ?_
  refine g_nil ?_
  refine normal_thn ?_
  refine aw_block ?_
  refine aw_loop' (fun i : Nat => [(0, .imm (.sl 7 (l.map avA))), (3, .imm (.sl 7 ((intoAll [] ((l.take i).map canonP)).map avA))), (4, .imm (iv (i : Int)))]) (fun i => i ≤ l.length) (fun i => l.length - i) (0) ?_ ⟨rfl, rfl, rfl, trivial⟩ ?_
  · exact Nat.zero_le _
  · rintro i h1; have h1 : i ≤ l.length := h1
    refine aw_seq ?_
    refine aw_seq ?_
    refine aw_region ?_
    refine g_u (s_mv_imm rfl rfl) ?_
    refine g_u (s_mv_imm rfl rfl) ?_
    refine g_u (s_lenL rfl rfl Try.underlying24) ?_
    refine g_u (s_ltI rfl rfl rfl) ?_
    refine g_nil ?_
    refine normal_thn ?_
    refine aw_cond rfl (fun hb1 => ?_) (fun hb1 => ?_)
    · skip
      have hi : i < l.length := by have := of_decide_eq_true hb1; (try simp only [List.length_map] at this); omega
      refine aw_skip ?_
      refine normal_thn ?_
      refine aw_seq ?_
      refine aw_block ?_
      refine aw_draw mixed ?_
      refine g_u (s_mv_imm rfl rfl) ?_
      refine g_u (s_mv_imm rfl rfl) ?_
      refine g_u (s_mv_imm rfl rfl) ?_
      refine g_u (s_indexAddr rfl rfl rfl Try.underlying24 tS33 (by omega) (ixA hi)) ?_
      refine g_u (s_fieldAddr_cp rfl rfl fa33_0 rfl rfl) ?_
      refine g_u (s_load_cp rfl rfl tA9 tS9 rfl rfl) ?_
      refine g_u (s_mv_imm rfl rfl) ?_
      refine g_u (s_mv_imm rfl rfl) ?_
      refine g_u (s_indexAddr rfl rfl rfl Try.underlying24 tS33 (by omega) (ixA hi)) ?_
      refine g_u (s_fieldAddr_cp rfl rfl fa33_1 rfl rfl) ?_
      refine g_u (s_load_cp rfl rfl tA26 tS26 rfl rfl) ?_
      refine g_u (s_call1 (ih _ (nthA_mem hi)) rfl rfl) ?_
      refine g_u (s_build rfl tU33 us33 pl33 rfl rfl rfl rfl) ?_
      refine g_u (s_call1 (into_c _ (.mk (nthA l i).key (canonV (nthA l i).val)) (by have := len_intoAll ((l.take i).map canonP) []; simp only [List.length_map, List.length_take, List.length_nil] at this; omega)) rfl rfl) ?_
      refine g_u (s_as_imm rfl rfl) ?_
      refine g_nil ⟨by kernel_rfl, ?_⟩
      refine normal_blk ?_
      refine normal_thn ?_
      refine aw_region ?_
      refine g_u (s_mv_imm rfl rfl) ?_
      refine g_u (s_add rfl rfl rfl) ?_
      refine g_u (s_as_imm rfl rfl) ?_
      refine g_nil ?_
      refine normal_thn ?_
      refine ⟨i + 1, hi, ⟨rfl, look_imm rfl (by rw [canonAs_take hi, canonP_eq]), look_int rfl (by rw [wrap64 (by omega) (by omega)]; rfl), trivial⟩, by (try dsimp only); omega⟩
    · skip
      have hin : i = l.length := by have := of_decide_eq_false hb1; (try simp only [List.length_map] at this); omega
      refine aw_exit ?_
      refine exit_thn ?_
      refine exit_thn ?_
      refine exit_blk ?_
      refine normal_thn ?_
      refine aw_seq ?_
      refine aw_region ?_
      refine g_u (s_mv_imm rfl rfl) ?_
      refine g_u (s_as_imm rfl rfl) ?_
      refine g_nil ?_
      refine normal_thn ?_
      refine aw_ret ?_
      exact ⟨⟨(rfl : toAV (Al.look _ _) = some _).trans (congrArg some (by (rw [hin, List.take_length]; rfl))), rfl⟩, trivial⟩

set_option maxHeartbeats 400000 in
theorem canonV_st (v : GV) (hw : v.wt ≤ 10000000) (ih : ∀ y ∈ v.list, PCall Try.prog Γ0 19 [y.av] [(canonV y).av]) (ihm : PCall Try.prog Γ0 23 [.sl 7 (v.map.map avA)] [.sl 7 ((canonAs v.map).map avA)]) : PCall Try.prog Γ0 19 [v.av] [(canonV v).av] := by
  have ek := v.wt_eq
  have lv := len_wtVs v.list
  refine pcall_of Try.func19 rfl Try.ntmps19 (by kernel_rfl) rfl fun w0 I0 G0 => ?_
  refine aw_seq ?_
  refine aw_region ?_
  refine g_uG (s_box_imm 1001 rfl rfl rfl rfl) rfl ?_
  refine g_uG (s_alloc' 1002 rfl rfl rfl tZ26) rfl ?_
  refine g_nil ?_
  refine normal_thn ?_
  refine aw_seq ?_
  refine aw_region ?_
  refine g_u (s_as_imm rfl rfl) ?_
  refine g_nil ?_
  refine normal_thn ?_
  refine aw_seq ?_
  refine aw_seq ?_
  refine aw_newtok 3003 3 6 rfl rfl rfl rfl ?_
  refine aw_region ?_
  refine g_u (s_as_imm rfl rfl) ?_
  refine g_nil ?_
  refine normal_thn ?_
  refine aw_block ?_
  refine aw_loop' (fun i : Nat => [(1, .ptr 1001 0), (1001, .box 26 (.imm v.av)), (2, .ptr 1002 0), (1002, .box 26 (.imm z26)), (3, .slg 3003 6 ((v.list.take i).map fun x => (canonV x).av)), (3003, .tok 6 ((v.list.take i).map fun x => (canonV x).av)), (4, .imm (iv (i : Int)))]) (fun i => i ≤ v.list.length) (fun i => v.list.length - i) (0) ?_ ⟨rfl, rfl, rfl, rfl, rfl, rfl, rfl, trivial⟩ ?_
  · exact Nat.zero_le _
  · rintro i h1; have h1 : i ≤ v.list.length := h1
    refine aw_seq ?_
    refine aw_seq ?_
    refine aw_region ?_
    refine g_u (s_mv_imm rfl rfl) ?_
    refine g_u (s_fieldAddr rfl rfl fa26_4 rfl) ?_
    refine g_u (s_load_imm rfl rfl rfl tA23 tS23 rfl rfl) ?_
    refine g_u (s_lenL rfl rfl Try.underlying23) ?_
    refine g_u (s_ltI rfl rfl rfl) ?_
    refine g_nil ?_
    refine normal_thn ?_
    refine aw_cond rfl (fun hb1 => ?_) (fun hb1 => ?_)
    · skip
      have hi : i < v.list.length := by have := of_decide_eq_true hb1; (try simp only [List.length_map] at this); omega
      refine aw_skip ?_
      refine normal_thn ?_
      refine aw_seq ?_
      refine aw_block ?_
      refine aw_region ?_
      refine g_u (s_mv_slg rfl rfl) ?_
      refine g_u (s_fieldAddr rfl rfl fa26_4 rfl) ?_
      refine g_u (s_load_imm rfl rfl rfl tA23 tS23 rfl rfl) ?_
      refine g_u (s_mv_imm rfl rfl) ?_
      refine g_u (s_indexAddr rfl rfl rfl Try.underlying23 tS26 (by omega) (ixV hi)) ?_
      refine g_u (s_load_cp rfl rfl tA26 tS26 rfl rfl) ?_
      refine g_u (s_call1 (ih _ (nthV_mem hi)) rfl rfl) ?_
      refine g_u (s_buildSlice (X0 := z26) rfl Try.underlying23 tS26 tZ26 rfl rfl rfl rfl rfl rfl rfl rfl) ?_
      refine g_u (s_append rfl rfl rfl rfl rfl Try.underlying23 Try.underlying23 tS26 zv26 rfl (by decide) by26 (by (try dsimp only); simp only [List.length_append, List.length_cons, List.length_nil, List.length_map, List.length_take, List.length_drop]; omega) (by (try dsimp only); simp only [List.length_append, List.length_cons, List.length_nil, List.length_map, List.length_take, List.length_drop]; omega)) ?_
      refine g_u (s_as_slg rfl rfl) ?_
      refine g_nil ?_
      refine normal_blk ?_
      refine normal_thn ?_
      refine aw_region ?_
      refine g_u (s_mv_imm rfl rfl) ?_
      refine g_u (s_add rfl rfl rfl) ?_
      refine g_u (s_as_imm rfl rfl) ?_
      refine g_nil ?_
      refine normal_thn ?_
      have et : (v.list.take (i + 1)).map (fun x => (canonV x).av) = (v.list.take i).map (fun x => (canonV x).av) ++ [(canonV (nthV v.list i)).av] := by rw [take_snoc (nth_get (d := v0) hi), List.map_append]; rfl
      refine ⟨i + 1, hi, ⟨rfl, rfl, rfl, rfl, look_slg rfl et.symm, look_tok rfl et.symm, look_int rfl (by rw [wrap64 (by omega) (by omega)]; rfl), trivial⟩, by (try dsimp only); omega⟩
    · skip
      have hin : i = v.list.length := by have := of_decide_eq_false hb1; (try simp only [List.length_map] at this); omega
      refine aw_exit ?_
      refine exit_thn ?_
      refine exit_thn ?_
      refine exit_blk ?_
      refine normal_thn ?_
      refine aw_seq ?_
      refine aw_region ?_
      refine g_u (s_mv_slg rfl rfl) ?_
      refine g_u (s_fieldAddr rfl rfl fa26_4 rfl) ?_
      refine g_u (s_store rfl rfl rfl rfl tS23 rfl rfl) ?_
      refine g_nil ?_
      refine normal_thn ?_
      refine aw_seq ?_
      refine aw_region ?_
      refine g_u (s_fieldAddr rfl rfl fa26_5 rfl) ?_
      refine g_u (s_load_imm rfl rfl rfl tA24 tS24 rfl rfl) ?_
      refine g_u (s_call1 (ihm) rfl rfl) ?_
      refine g_u (s_fieldAddr rfl rfl fa26_5 rfl) ?_
      refine g_u (s_store_imm rfl rfl rfl tS24 rfl rfl) ?_
      refine g_nil ?_
      refine normal_thn ?_
      refine aw_seq ?_
      refine aw_region ?_
      refine g_u (s_load_agg rfl rfl rfl tA26 tS26 rfl rfl) ?_
      refine g_u (s_store_imm rfl rfl rfl tS26 rfl rfl) ?_
      refine g_nil ?_
      refine normal_thn ?_
      refine aw_ret ?_
      exact ⟨⟨_, _, _, _, _, _, _, rfl, rfl, tA26, tS26, rfl, rfl, (rfl : toAV _ = some _).trans (congrArg some (by (rw [canonV_eq, hin, List.take_length]; show AV.agg _ = AV.agg [_, _, _, _, .sl 6 ((v.list.map canonV).map avV), _]; rw [List.map_map, show avV ∘ canonV = fun x => (canonV x).av from funext fun x => avV_eq _]; rfl)))⟩, trivial⟩

theorem canonV_c (v : GV) : v.wt ≤ 10000000 → PCall Try.prog Γ0 19 [v.av] [(canonV v).av] := by
  refine GV.ind (P := fun v => v.wt ≤ 10000000 → PCall Try.prog Γ0 19 [v.av] [(canonV v).av]) ?_ v
  intro v h1 h2 hw
  have ek := v.wt_eq
  have la := len_wtAs v.map
  exact canonV_st v hw (fun y hy => h1 y hy (by have := wtVs_mem hy; omega)) (canonAs_st v.map (by omega) fun a ha => h2 a ha (by have := wtAs_mem ha; have := a.wt_eq; omega))
theorem canonAs_c (l : List GA) (hw : wtAs l ≤ 10000000) : PCall Try.prog Γ0 23 [.sl 7 (l.map avA)] [.sl 7 ((canonAs l).map avA)] := by
  have la := len_wtAs l
  exact canonAs_st l (by omega) fun a ha => canonV_c a.val (by have := wtAs_mem ha; have := a.wt_eq; omega)

end Go.Proofs

namespace Go.Proofs
open Go Go.Al
set_option maxRecDepth 10000

end Go.Proofs

namespace Go.Proofs
open Go Go.Al
set_option maxRecDepth 10000


end Go.Proofs

namespace Go.Proofs
open Go Go.Al
set_option maxRecDepth 10000

end Go.Proofs

namespace Go.Proofs
open Go Go.Al

end Go.Proofs

namespace Go.Proofs
open Go Go.Al
set_option maxRecDepth 10000

end Go.Proofs

