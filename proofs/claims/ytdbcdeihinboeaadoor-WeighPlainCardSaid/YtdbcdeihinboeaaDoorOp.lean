/- What comes in, opened: an argument of plain data stands for an abstract value, and reads again behind a call that leaves the old memory alone. No condition but those typed. -/
import Derived.Test.YtdbcdeihinboeaaDoorVal
import Derived.Test.YtdbcdeihinboeaaDoorTy
import Derived.ReadAgain
import Derived.ChangeOld
import Derived.ChangeShapes
set_option linter.unusedSimpArgs false
set_option linter.unusedVariables false
namespace Go.Al
open Go.RowKit

/-! ### What comes in, az abstract values -/

/-- What a datum's value is like, by its type. -/
def AVT (P : Program) : Nat → TypeId → AV → Prop
  | 0, _, _ => False
  | f + 1, T, X =>
    match P.underlying T with
    | some .bool => ∃ b, X = .v (.bool b)
    | some (.int k) => ∃ n, X = .v (.int k n) ∧ (Lit.int k n).wf = true
    | some .string => ∃ s : ByteArray, X = .v (.string s) ∧ s.size ≤ maxLen
    | some (.slice e) => ∃ l, X = .sl (P.cellsOf e) l ∧ ∀ x ∈ l, AVT P f e x
    | some (.struct fs) => ∃ l, X = .agg l ∧ l.length = fs.toList.length ∧ ∀ (j : Nat) fl x, fs.toList[j]? = some fl → l[j]? = some x → AVT P f fl.type x
    | some (.array n _) => ∃ l : List UInt8, X = .arr n l ∧ l.length = n
    | _ => False

/-- Types of plain data, without pointers. -/
def dataTys (P : Program) (S : List TypeId) : Bool := S.all fun t => decide (t < P.types.size) && match P.underlying t with
  | some .bool => true
  | some (.int _) => true
  | some .string => true
  | some (.slice e) => S.contains e && decide (0 < P.cellsOf e)
  | some (.struct fs) => fs.toList.all fun f => S.contains f.type
  | some (.array _ e) => decide (P.cellsOf e = 1) && (match P.underlying e with | some (.int .u8) => true | _ => false)
  | _ => false

theorem repM_of {w : World} {I : Nat → Nat → Prop} {n : Nat} : ∀ (l : List AV) (b o : Nat), (∀ i x, l[i]? = some x → ∃ c, c.length = n ∧ RepC w I x c ∧ CellsAt w I b (o + i * n) c) → RepM w I n l b o
  | [], _, _, _ => by simp only [RepM]
  | p :: ps, b, o, h => by
    simp only [RepM]
    refine ⟨by simpa using h 0 p rfl, repM_of ps b (o + n) fun i x hx => ?_⟩
    have := h (i + 1) x (by simpa using hx)
    rw [show o + n + i * n = o + (i + 1) * n from by rw [Nat.add_mul]; omega]
    exact this

theorem list_of {α : Type} {Q : Nat → α → Prop} : ∀ (n : Nat), (∀ i, i < n → ∃ x, Q i x) → ∃ l : List α, l.length = n ∧ ∀ i x, l[i]? = some x → Q i x
  | 0, _ => ⟨[], rfl, fun i x h => by simp at h⟩
  | n + 1, h => by
    obtain ⟨l, h1, h2⟩ := list_of n fun i hi => h i (by omega)
    obtain ⟨x, hx⟩ := h n (by omega)
    refine ⟨l ++ [x], by simp [h1], fun i y hy => ?_⟩
    rcases Nat.lt_or_ge i l.length with hi | hi
    · rw [List.getElem?_append_left hi] at hy; exact h2 i y hy
    · rw [List.getElem?_append_right hi] at hy
      have h3 : i - l.length < 1 := by have := (List.getElem?_eq_some_iff.1 hy).1; simpa using this
      have h4 : i - l.length = 0 := by omega
      rw [h4] at hy
      simp at hy
      subst hy
      have : i = n := by omega
      rw [this]; exact hx

theorem mapM_get {α β : Type} {f : α → Option β} : ∀ {l : List α} {r : List β}, l.mapM f = some r → ∀ (i : Nat) (x : α), l[i]? = some x → ∃ y, r[i]? = some y ∧ f x = some y := by
  intro l
  induction l with
  | nil => intro r _ i x h; simp at h
  | cons a az ih =>
    intro r h i x hx
    rw [List.mapM_cons] at h
    cases ha : f a with
    | none => simp [ha] at h
    | some b =>
      cases has : az.mapM f with
      | none => simp [ha, has] at h
      | some bs =>
        simp [ha, has] at h
        subst h
        cases i with
        | zero => simp at hx; subst hx; exact ⟨b, rfl, ha⟩
        | succ i => simpa using ih has i x (by simpa using hx)

section
variable {H : Type} {enc : TypeId × Value → H} {P : Program} {w : World} {S : List TypeId}

theorem cells_at {a : Addr} {n : Nat} {cs : List Value} (h : w.cells? 0 a n = some cs) (h0 : 0 < n) : a.spot = none ∧ cs.length = n ∧ a.block < w.heap.size ∧ CellsAt w (fun b _ => b < w.heap.size) a.block a.off cs := by
  have hb := World.cells?_block h h0
  obtain ⟨_, hl, hc⟩ := World.cells?_some h
  have hsp : a.spot = none := by
    have h1 := hc 0 h0
    obtain ⟨c, hc0⟩ : ∃ c, cs[0]? = some c := by
      cases cs with
      | nil => simp at hl; omega
      | cons c _ => exact ⟨c, rfl⟩
    rw [hc0] at h1
    simp only [Addr.add, if_true] at h1
    simp only [World.cell?] at h1
    split at h1
    · cases hs : a.spot with
      | none => rfl
      | some s => simp [hs] at h1
    · cases h1
  refine ⟨hsp, hl, hb, fun j hj => ⟨?_, hb⟩⟩
  have h1 := hc j (by omega)
  have e : a.add j = ⟨a.block, a.off + j, none⟩ := by
    obtain ⟨b, o, s⟩ := a
    simp only at hsp; subst hsp
    exact addr_add b o j
  rw [e, List.getElem?_eq_getElem hj] at h1
  exact h1

theorem open_fields {r : TypeId → List Value → Option (DataW H × List MemPlace)} {A : TypeId → AV → Prop} {I : Nat → Nat → Prop} {cs : List Value} :
    ∀ (fs : List Field) (off : Nat) (xs : List (DataW H × List MemPlace)), (fs.mapM fun f => r f.type ((cs.drop f.offset).take (P.cellsOf f.type))) = some xs →
    (∀ f ∈ fs, ∀ c x, c.length = P.cellsOf f.type → r f.type c = some x → ∃ X, RepC w I X c ∧ A f.type X) →
    (∀ (j : Nat) f, fs[j]? = some f → f.offset = off + ((fs.take j).map fun f => P.cellsOf f.type).sum) → off + (fs.map fun f => P.cellsOf f.type).sum = cs.length →
    ∃ l, l.length = fs.length ∧ RepCs w I l (cs.drop off) ∧ ∀ (j : Nat) fl x, fs[j]? = some fl → l[j]? = some x → A fl.type x
  | [], off, xs, _, _, _, hs => ⟨[], rfl, by simp at hs; simp only [RepCs]; exact List.drop_of_length_le (by omega), fun j fl x h => by simp at h⟩
  | f :: fs, off, xs, hm, hr, ho, hs => by
    simp only [List.map_cons, List.sum_cons] at hs
    rw [List.mapM_cons] at hm
    cases h1 : r f.type ((cs.drop f.offset).take (P.cellsOf f.type)) with
    | none => simp [h1] at hm
    | some y =>
      cases h2 : fs.mapM fun f => r f.type ((cs.drop f.offset).take (P.cellsOf f.type)) with
      | none => simp [h1, h2] at hm
      | some ys =>
        have hoff : f.offset = off := by simpa using ho 0 f rfl
        rw [hoff] at h1
        obtain ⟨X, k1, k2⟩ := hr f List.mem_cons_self _ y (by rw [List.length_take, List.length_drop]; omega) h1
        obtain ⟨l, k3, k4, k5⟩ := open_fields fs (off + P.cellsOf f.type) ys h2 (fun g hg => hr g (List.mem_cons_of_mem _ hg)) (fun j g hj => by
          have := ho (j + 1) g (by simpa using hj)
          simp only [List.take_succ_cons, List.map_cons, List.sum_cons] at this
          omega) (by omega)
        refine ⟨X :: l, by simp [k3], ?_, fun j fl x hj hx => ?_⟩
        · simp only [RepCs]
          refine ⟨_, _, ?_, k1, k4⟩
          rw [← List.drop_drop, List.take_append_drop]
        · cases j with
          | zero => simp at hj hx; subst hj; subst hx; exact k2
          | succ j => exact k5 j fl x (by simpa using hj) (by simpa using hx)

theorem open_av (K : Kids P (· < P.types.size)) (hS : dataTys P S = true) : ∀ (n : Nat) (T : TypeId) (cs : List Value) (x : DataW H × List MemPlace), T ∈ S →
    DataW.trod enc P w 0 (fun _ => true) true n T cs = some x → ∃ X, RepC w (fun b _ => b < w.heap.size) X cs ∧ AVT P n T X := by
  intro n
  induction n with
  | zero => intro T cs x _ h; simp [DataW.trod] at h
  | succ n ih =>
    intro T cs x hT h
    have hd := List.all_eq_true.1 hS T hT
    simp only [Bool.and_eq_true, decide_eq_true_eq] at hd
    obtain ⟨hlt, hd⟩ := hd
    rw [DataW.trod_step] at h
    unfold DataW.trodStep at h
    simp only [AVT]
    split at h
    case h_1 b hu =>
      rw [hu]
      exact ⟨_, by simp only [RepC]; exact ⟨rfl, rfl⟩, b, rfl⟩
    case h_2 k k' m hu =>
      rw [hu]
      split at h
      · rename_i hk
        obtain ⟨rfl, hw⟩ := hk
        exact ⟨_, by simp only [RepC]; exact ⟨rfl, rfl⟩, m, rfl, hw⟩
      · cases h
    case h_3 hu => rw [hu] at hd; cases hd
    case h_4 s hu =>
      rw [hu]
      split at h
      · rename_i hs
        exact ⟨_, by simp only [RepC]; exact ⟨rfl, rfl⟩, s, rfl, hs⟩
      · cases h
    case h_5 hu => rw [hu] at hd; cases hd
    case h_6 hu => rw [hu] at hd; cases hd
    case h_7 e hu =>
      rw [hu]
      exact ⟨.sl (P.cellsOf e) [], by simp only [RepC]; exact ⟨_, rfl, .inl ⟨none, 0, rfl, trivial, Nat.zero_le _, fun _ => rfl⟩⟩, [], rfl, fun x hx => by cases hx⟩
    case h_8 e a len cap hu =>
      rw [hu] at hd ⊢
      simp only [Bool.and_eq_true, decide_eq_true_eq] at hd
      obtain ⟨heS, hce⟩ := hd
      have heS : e ∈ S := by simpa using heS
      simp only at h
      split at h
      · rename_i hc
        obtain ⟨_, hlc, hcm⟩ := hc
        simp only [Option.map_eq_some_iff, Option.bind_eq_some_iff] at h
        obtain ⟨elems, he, rest, hrest, rfl⟩ := h
        rcases Nat.eq_zero_or_pos len with h0 | h0
        · subst h0
          exact ⟨.sl (P.cellsOf e) [], by simp only [RepC]; exact ⟨_, rfl, .inl ⟨some a, cap, rfl, trivial, hcm, fun h => by cases h⟩⟩, [], rfl, fun x hx => by cases hx⟩
        · have one : ∀ i, i < len → ∃ c y, w.cells? 0 (a.add (i * P.cellsOf e)) (P.cellsOf e) = some c ∧ DataW.trod enc P w 0 (fun _ => true) true n e c = some y := by
            intro i hi
            obtain ⟨y, _, hy⟩ := mapM_get he i i (by simp [hi])
            simp only [Option.bind_eq_some_iff] at hy
            obtain ⟨c, h1, h2⟩ := hy
            exact ⟨c, y, h1, h2⟩
          obtain ⟨c0, _, hc0, _⟩ := one 0 h0
          obtain ⟨hsp, _, _, _⟩ := cells_at (by simpa [Addr.add] using hc0) hce
          obtain ⟨b, o, s⟩ := a
          simp only at hsp
          subst hsp
          obtain ⟨l, hl1, hl2⟩ := list_of (Q := fun i X => (∃ c, c.length = P.cellsOf e ∧ RepC w (fun b _ => b < w.heap.size) X c ∧ CellsAt w (fun b _ => b < w.heap.size) b (o + i * P.cellsOf e) c) ∧ AVT P n e X) len (by
            intro i hi
            obtain ⟨c, y, h1, h2⟩ := one i hi
            obtain ⟨X, k1, k2⟩ := ih e c y heS h2
            rw [addr_add] at h1
            obtain ⟨_, k3, _, k4⟩ := cells_at h1 hce
            exact ⟨X, ⟨c, k3, k1, k4⟩, k2⟩)
          refine ⟨.sl (P.cellsOf e) l, ?_, l, rfl, fun x hx => ?_⟩
          · simp only [RepC]
            refine ⟨_, rfl, .inr ⟨b, o, cap, by rw [hl1], by omega, hcm, repM_of l b o fun i x hx => (hl2 i x hx).1⟩⟩
          · obtain ⟨i, hi⟩ := List.getElem?_of_mem hx
            exact (hl2 i x hi).2
      · cases h
    case h_9 fs hu =>
      rw [hu] at hd ⊢
      split at h
      · rename_i hlen
        simp only [Option.map_eq_some_iff] at h
        obtain ⟨xs, hx, rfl⟩ := h
        obtain ⟨_, k1, k2⟩ := K.struct hlt hu
        obtain ⟨l, k3, k4, k5⟩ := open_fields (w := w) (I := fun b _ => b < w.heap.size) (A := fun t X => AVT P n t X) fs.toList 0 xs hx
          (fun f hf c x _ hr => ih f.type c x (by simpa using List.all_eq_true.1 hd f hf) hr)
          (fun j f hj => by rw [Nat.zero_add]; exact k2 j f hj) (by rw [Nat.zero_add, ← k1]; exact hlen.symm)
        exact ⟨.agg l, by simpa only [RepC, List.drop_zero] using k4, l, rfl, k3, k5⟩
      · cases h
    case h_10 cs _ _ m e hu =>
      rw [hu] at hd ⊢
      simp only [Bool.and_eq_true, decide_eq_true_eq] at hd
      obtain ⟨hce, hub⟩ := hd
      split at h
      · rename_i hlen
        simp only [Option.map_eq_some_iff] at h
        obtain ⟨xs, hx, rfl⟩ := h
        have hcl : cs.length = m := by rw [hlen, (K.array hlt hu).2, hce, Nat.mul_one]
        have hub' : P.underlying e = some (.int .u8) := by
          cases he : P.underlying e with
          | none => rw [he] at hub; cases hub
          | some d =>
            rw [he] at hub
            cases d <;> first | cases hub | skip
            rename_i k
            cases k <;> first | rfl | cases hub
        obtain ⟨l, hl1, hl2⟩ := list_of (Q := fun i (b : UInt8) => cs[i]? = some (byteV b)) m (by
          intro i hi
          obtain ⟨y, _, hy⟩ := mapM_get hx i i (by simp [hi])
          rw [hce, Nat.mul_one] at hy
          have e1 : (cs.drop i).take 1 = [cs[i]] := by
            rw [List.drop_eq_getElem_cons (by omega)]; rfl
          rw [e1] at hy
          cases n with
          | zero => simp [DataW.trod] at hy
          | succ n =>
            rw [DataW.trod_step] at hy
            unfold DataW.trodStep at hy
            rw [hub'] at hy
            cases hv : cs[i] with
            | int k q =>
              rw [hv] at hy
              simp only at hy
              split at hy
              · rename_i hk
                obtain ⟨rfl, hw⟩ := hk
                refine ⟨UInt8.ofNat q.toNat, ?_⟩
                rw [List.getElem?_eq_getElem (by omega), hv]
                have : 0 ≤ q ∧ q < 256 := by
                  have e1 : IntKind.u8.min = 0 := by decide
                  have e2 : IntKind.u8.max = 255 := by decide
                  simp [Lit.wf, e1, e2] at hw; omega
                simp only [byteV, Option.some.injEq, Value.int.injEq, true_and]
                simp [UInt8.toNat_ofNat']
                omega
              · cases hy
            | _ => rw [hv] at hy; simp at hy)
        refine ⟨.arr m l, ?_, l, rfl, hl1⟩
        simp only [RepC]
        refine ⟨?_, hl1⟩
        apply List.ext_getElem?
        intro i
        rcases Nat.lt_or_ge i m with hi | hi
        · rw [hl2 i l[i] (by rw [List.getElem?_eq_getElem]), List.getElem?_map, List.getElem?_eq_getElem (by omega)]
          rfl
        · rw [List.getElem?_eq_none (by omega), List.getElem?_eq_none (by simp; omega)]
      · cases h
    all_goals
      rename_i hu
      first
        | (rw [hu] at hd; cases hd)
        | cases h
        | (exfalso; simp_all)

theorem open_arg (K : Kids P (· < P.types.size)) (hS : dataTys P S = true) {r : Reach} {b0 : Nat} {T : TypeId} {v : Value} {d : DataW H} {ps : List MemPlace} (hT : T ∈ S) (hval : Value.okWide P w r b0 T v)
    (h : DataW.Trod enc P w 0 (fun _ => true) true T v d ps) : ∃ n X, Rep w (fun b _ => b < w.heap.size) X v ∧ AVT P n T X := by
  obtain ⟨n, hn⟩ := h
  obtain ⟨X, h1, h2⟩ := open_av K hS n T _ _ hT hn
  refine ⟨n, X, ⟨_, h1, ?_⟩, h2⟩
  cases n with
  | zero => exact h2.elim
  | succ n =>
    simp only [AVT] at h2
    unfold Value.okWide at hval
    split at h2 <;> (try exact h2.elim) <;> rename_i hu <;> rw [hu] at hval <;> simp only at hval
    · obtain ⟨b, rfl⟩ := h2
      unfold Cell.okWide at hval; rw [hu] at hval; unfold Cell.ok at hval; rw [hu] at hval
      cases v <;> first | rfl | exact hval.elim
    · obtain ⟨b, rfl, _⟩ := h2
      unfold Cell.okWide at hval; rw [hu] at hval; unfold Cell.ok at hval; rw [hu] at hval
      cases v <;> first | rfl | exact hval.elim
    · obtain ⟨b, rfl, _⟩ := h2
      unfold Cell.okWide at hval; rw [hu] at hval; unfold Cell.ok at hval; rw [hu] at hval
      cases v <;> first | rfl | exact hval.elim
    · obtain ⟨l, rfl, _⟩ := h2
      unfold Cell.okWide at hval; rw [hu] at hval; unfold Cell.ok at hval; rw [hu] at hval
      cases v <;> first | rfl | exact hval.elim
    · obtain ⟨l, rfl, _⟩ := h2
      obtain ⟨cs, rfl, _⟩ := hval
      simp [mkV, AV.isAgg, Value.cells]
    · obtain ⟨l, rfl, _⟩ := h2
      obtain ⟨cs, rfl, _⟩ := hval
      simp [mkV, AV.isAgg, Value.cells]

/-- What came in reads again az it did. -/
theorem again (K : Kids P (· < P.types.size)) (hz : ∀ t e, t < P.types.size → P.underlying t = some (.slice e) → 0 < P.cellsOf e) {w' : World} (hb : Below w.heap.size w w') :
    ∀ {ts : List TypeId} {vs : List Value} {ds : List (DataW H)} {ps : List MemPlace}, (∀ t ∈ ts, t < P.types.size) → DataW.TrodAll enc P w 0 (fun _ => true) true ts vs ds ps →
      DataW.TrodAll enc P w' 0 (fun b => decide (b < w.heap.size)) true ts vs ds ps := by
  intro ts vs ds ps hT h
  have hlt := h.lt
  have h1 := DataW.TrodAll.respare (spare' := fun b => decide (b < w.heap.size)) K hz hT h (fun p hp => by simpa using hlt p hp)
  have hsame : ∀ p ∈ ps, w.sameAt w' p := fun p hp => by
    have := hb.block p.block (hlt p hp)
    cases p with
    | cell b o => exact World.cell?_of_block (w := w) this
    | map b => exact this
  clear h hlt hT
  have key : ∀ (ts : List TypeId) (vs : List Value) (ds : List (DataW H)) (ps : List MemPlace), DataW.TrodAll enc P w 0 (fun b => decide (b < w.heap.size)) true ts vs ds ps → (∀ p ∈ ps, w.sameAt w' p) →
      DataW.TrodAll enc P w' 0 (fun b => decide (b < w.heap.size)) true ts vs ds ps := by
    intro ts
    induction ts with
    | nil => intro vs ds ps h _; cases vs <;> cases ds <;> exact h
    | cons t ts ih =>
      intro vs ds ps h hs
      cases vs with
      | nil => exact h
      | cons v vs =>
        cases ds with
        | nil => exact h
        | cons d ds =>
          obtain ⟨p, q, ⟨n, hn⟩, h2, e⟩ := h
          exact ⟨p, q, ⟨n, DataW.trod_carry n _ _ _ hn (fun x hx => hs x (by rw [e]; exact List.mem_append_left _ hx))⟩, ih _ _ _ h2 (fun x hx => hs x (by rw [e]; exact List.mem_append_right _ hx)), e⟩
  exact key _ _ _ _ h1 hsame
end
end Go.Al
namespace Go.Al
open Go.RowKit
section
variable {P : Program}

def AVTs (P : Program) (n : Nat) : List TypeId → List AV → Prop
  | [], [] => True
  | t :: ts, x :: xs => AVT P n t x ∧ AVTs P n ts xs
  | _, _ => False

theorem avts_of {n : Nat} : ∀ {tys : List TypeId} {l : List AV}, l.length = tys.length → (∀ (j : Nat) t x, tys[j]? = some t → l[j]? = some x → AVT P n t x) → AVTs P n tys l
  | [], [], _, _ => trivial
  | [], _ :: _, h, _ => by simp at h
  | _ :: _, [], h, _ => by simp at h
  | t :: ts, x :: xs, h, k => ⟨k 0 t x rfl rfl, avts_of (by simpa using h) fun j t' x' h1 h2 => k (j + 1) t' x' (by simpa using h1) (by simpa using h2)⟩

theorem AVT.struct {n : Nat} {T : TypeId} {X : AV} {fs : Array Field} {tys : List TypeId} (h : AVT P n T X) (hu : P.underlying T = some (.struct fs)) (ht : fs.toList.map (·.type) = tys) : ∃ m l, n = m + 1 ∧ X = .agg l ∧ AVTs P m tys l := by
  cases n with
  | zero => exact h.elim
  | succ n =>
    simp only [AVT, hu] at h
    obtain ⟨l, h1, h2, h3⟩ := h
    refine ⟨n, l, rfl, h1, avts_of (by rw [h2, ← ht]; simp) fun j t x hj hx => ?_⟩
    rw [← ht, List.getElem?_map] at hj
    cases hf : fs.toList[j]? with
    | none => rw [hf] at hj; cases hj
    | some fl => rw [hf] at hj; cases hj; exact h3 j fl x hf hx
theorem AVT.sl {n w : Nat} {T e : TypeId} {X : AV} (h : AVT P n T X) (hu : P.underlying T = some (.slice e)) (hw : P.cellsOf e = w) : ∃ m l, n = m + 1 ∧ X = .sl w l ∧ ∀ x ∈ l, AVT P m e x := by
  cases n with
  | zero => exact h.elim
  | succ n =>
    simp only [AVT, hu] at h
    obtain ⟨l, h1, h2⟩ := h
    exact ⟨n, l, rfl, by rw [← hw]; exact h1, h2⟩
theorem AVT.int {n : Nat} {T : TypeId} {X : AV} {k : IntKind} (h : AVT P n T X) (hu : P.underlying T = some (.int k)) : ∃ i, X = .v (.int k i) ∧ (Lit.int k i).wf = true := by
  cases n with
  | zero => exact h.elim
  | succ n => simp only [AVT, hu] at h; exact h
theorem AVT.str {n : Nat} {T : TypeId} {X : AV} (h : AVT P n T X) (hu : P.underlying T = some .string) : ∃ s : ByteArray, X = .v (.string s) ∧ s.size ≤ maxLen := by
  cases n with
  | zero => exact h.elim
  | succ n => simp only [AVT, hu] at h; exact h
theorem AVT.bool {n : Nat} {T : TypeId} {X : AV} (h : AVT P n T X) (hu : P.underlying T = some .bool) : ∃ b, X = .v (.bool b) := by
  cases n with
  | zero => exact h.elim
  | succ n => simp only [AVT, hu] at h; exact h
theorem AVT.arr {n m : Nat} {T e : TypeId} {X : AV} (h : AVT P n T X) (hu : P.underlying T = some (.array m e)) : ∃ l : List UInt8, X = .arr m l ∧ l.length = m := by
  cases n with
  | zero => exact h.elim
  | succ n => simp only [AVT, hu] at h; exact h

theorem list_img {α : Type} {f : α → AV} {Q : α → Prop} : ∀ {l : List AV}, (∀ x ∈ l, ∃ g, x = f g ∧ Q g) → ∃ gs : List α, l = gs.map f ∧ ∀ g ∈ gs, Q g
  | [], _ => ⟨[], rfl, fun g h => by cases h⟩
  | x :: l, h => by
    obtain ⟨g, h1, h2⟩ := h x List.mem_cons_self
    obtain ⟨gs, h3, h4⟩ := list_img (l := l) fun y hy => h y (List.mem_cons_of_mem _ hy)
    refine ⟨g :: gs, by rw [h1, h3]; rfl, fun y hy => ?_⟩
    rcases List.mem_cons.1 hy with rfl | hy
    · exact h2
    · exact h4 y hy

theorem wf_u8 {i : Int} (h : (Lit.int .u8 i).wf = true) : 0 ≤ i ∧ i < 256 := by
  have : 0 ≤ i ∧ i ≤ 255 := by simpa [Lit.wf, IntKind.min, IntKind.max, IntKind.signed, IntKind.bits] using h
  omega
theorem wf_i64 {i : Int} (h : (Lit.int .i64 i).wf = true) : -9223372036854775808 ≤ i ∧ i < 9223372036854775808 := by
  have : -9223372036854775808 ≤ i ∧ i ≤ 9223372036854775807 := by simpa [Lit.wf, IntKind.min, IntKind.max, IntKind.signed, IntKind.bits] using h
  omega
theorem wf_u64 {i : Int} (h : (Lit.int .u64 i).wf = true) : 0 ≤ i ∧ i < 18446744073709551616 := by
  have : 0 ≤ i ∧ i ≤ 18446744073709551615 := by simpa [Lit.wf, IntKind.min, IntKind.max, IntKind.signed, IntKind.bits] using h
  omega

/-- A package variable's row of bytes, as the walks want it. -/
theorem glob_bytes {w : World} {g : Nat} {l : List UInt8} (h : ∀ i, i < l.length → w.cell? ⟨g, i, none⟩ = some (byteV (l.getD i 0))) (h0 : 0 < l.length) :
    Glob [(g, .arr l.length l)] w (fun b _ => b < w.heap.size) := by
  intro p hp
  cases List.mem_singleton.1 hp
  refine ⟨l.map byteV, by simp only [RepC]; exact ⟨trivial, trivial⟩, fun j hj => ?_⟩
  simp only [List.length_map] at hj
  have hc := h j hj
  refine ⟨?_, ?_⟩
  · rw [Nat.zero_add, hc]
    simp [List.getD, hj]
  · show g < w.heap.size
    have : w.heap.size ≤ g → False := by
      intro hle
      simp only [World.cell?] at hc
      rw [Array.getElem?_eq_none hle] at hc
      cases hc
    exact Nat.lt_of_not_le this
end
end Go.Al
namespace Go.Proofs
open Go Go.Al
set_option maxRecDepth 10000
def dtys : List TypeId := [3, 5, 9, 22, 24, 26, 28, 29, 30, 31, 32, 34, 36, 45, 47, 50, 52, 55, 57, 61, 122, 124]
theorem dtys_ok : dataTys Tryd.prog dtys = true := by kernel_rfl
theorem kids : Kids Tryd.prog (· < Tryd.prog.types.size) := kids_rows (by kernel_rfl) (by kernel_rfl)
theorem full : ∀ t e, t < Tryd.prog.types.size → Tryd.prog.underlying t = some (.slice e) → 0 < Tryd.prog.cellsOf e := slices_full_of _ (by kernel_rfl)
theorem co22 : Tryd.prog.cellsOf 47 = 2 := by kernel_rfl
theorem ft24 : (Program.fieldsOf Tryd.prog 24).toList.map (·.type) = [22] := by kernel_rfl
theorem co30 : Tryd.prog.cellsOf 61 = 7 := by kernel_rfl
theorem co31 : Tryd.prog.cellsOf 122 = 3 := by kernel_rfl
theorem co32 : Tryd.prog.cellsOf 124 = 26 := by kernel_rfl
theorem ft34 : (Program.fieldsOf Tryd.prog 34).toList.map (·.type) = [3, 9] := by kernel_rfl
theorem ft36 : (Program.fieldsOf Tryd.prog 36).toList.map (·.type) = [26, 28, 28, 9, 9, 3, 29, 29, 30, 31, 32, 34] := by kernel_rfl
theorem co45 : Tryd.prog.cellsOf 52 = 3 := by kernel_rfl
theorem ft47 : (Program.fieldsOf Tryd.prog 47).toList.map (·.type) = [30, 45] := by kernel_rfl
theorem co50 : Tryd.prog.cellsOf 36 = 42 := by kernel_rfl
theorem ft52 : (Program.fieldsOf Tryd.prog 52).toList.map (·.type) = [9, 9, 50] := by kernel_rfl
theorem co55 : Tryd.prog.cellsOf 57 = 6 := by kernel_rfl
theorem ft57 : (Program.fieldsOf Tryd.prog 57).toList.map (·.type) = [5, 9, 3, 29, 55, 30] := by kernel_rfl
theorem ft61 : (Program.fieldsOf Tryd.prog 61).toList.map (·.type) = [9, 57] := by kernel_rfl
theorem ft122 : (Program.fieldsOf Tryd.prog 122).toList.map (·.type) = [29, 9, 30] := by kernel_rfl
theorem ft124 : (Program.fieldsOf Tryd.prog 124).toList.map (·.type) = [26, 28, 9, 30] := by kernel_rfl
theorem avts_cons {n : Nat} {t : TypeId} {ts : List TypeId} {l : List AV} (h : AVTs Tryd.prog n (t :: ts) l) : ∃ x xs, l = x :: xs ∧ AVT Tryd.prog n t x ∧ AVTs Tryd.prog n ts xs := by
  cases l with
  | nil => exact h.elim
  | cons x xs => exact ⟨x, xs, rfl, h.1, h.2⟩
theorem avts_nil {n : Nat} {l : List AV} (h : AVTs Tryd.prog n [] l) : l = [] := by
  cases l with
  | nil => rfl
  | cons x xs => exact h.elim
theorem in_V : ∀ n X, AVT Tryd.prog n 57 X → ∃ v : GV, X = avV v ∧ v.ok := by
  intro n
  induction n using Nat.strongRecOn with
  | _ n ih =>
  intro X h
  obtain ⟨m, l, rfl, rfl, q⟩ := AVT.struct h us57 ft57
  obtain ⟨x0, l0, rfl, h0, q0⟩ := avts_cons q
  obtain ⟨x1, l1, rfl, h1, q1⟩ := avts_cons q0
  obtain ⟨x2, l2, rfl, h2, q2⟩ := avts_cons q1
  obtain ⟨x3, l3, rfl, h3, q3⟩ := avts_cons q2
  obtain ⟨x4, l4, rfl, h4, q4⟩ := avts_cons q3
  obtain ⟨x5, l5, rfl, h5, q5⟩ := avts_cons q4
  obtain rfl := avts_nil q5
  obtain ⟨k, rfl, wk⟩ := AVT.int h0 Tryd.underlying5
  obtain ⟨t, rfl, wt⟩ := AVT.str h1 Tryd.underlying9
  obtain ⟨i, rfl, wi⟩ := AVT.int h2 Tryd.underlying3
  obtain ⟨b, rfl, wb⟩ := AVT.int h3 Tryd.underlying29
  obtain ⟨m4, l4', rfl, rfl, e4⟩ := AVT.sl h4 Tryd.underlying55 co55
  obtain ⟨m5, l5', e5, rfl, e6⟩ := AVT.sl h5 Tryd.underlying30 co30
  obtain ⟨vs, rfl, ovs⟩ := list_img (f := avV) (Q := GV.ok) fun x hx => ih m4 (by omega) x (e4 x hx)
  obtain ⟨az, rfl, oas⟩ := list_img (f := avA) (Q := GA.ok) fun x hx => by
    have h := e6 x hx
    clear h0 h1 h2 h3 h4 h5 e4 e6
    obtain ⟨m', l, e7, rfl, q⟩ := AVT.struct h us61 ft61
    obtain ⟨x0, l0, rfl, h0, q0⟩ := avts_cons q
    obtain ⟨x1, l1, rfl, h1, q1⟩ := avts_cons q0
    obtain rfl := avts_nil q1
    obtain ⟨key, rfl, wkey⟩ := AVT.str h0 Tryd.underlying9
    obtain ⟨v, rfl, ov⟩ := ih m' (by omega) x1 h1
    exact ⟨.mk key v, by rw [avA], by rw [GA.ok]; exact ⟨wkey, ov⟩⟩
  refine ⟨.mk k t i b vs az, by rw [avV_eq]; rfl, ?_⟩
  rw [GV.ok, okVs_iff, okAs_iff]
  exact ⟨wf_u8 wk, wt, wf_i64 wi, wf_u64 wb, ovs, oas⟩

theorem in_V' {n : Nat} {X : AV} (h : AVT Tryd.prog n 57 X) : ∃ v : GV, X = v.av ∧ v.ok := by
  obtain ⟨v, rfl, ho⟩ := in_V n X h; exact ⟨v, avV_eq v, ho⟩
theorem in_A {n : Nat} {X : AV} (h : AVT Tryd.prog n 61 X) : ∃ a : GA, X = avA a ∧ a.ok := by
  obtain ⟨m, l, rfl, rfl, q⟩ := AVT.struct h us61 ft61
  obtain ⟨x0, l0, rfl, h0, q0⟩ := avts_cons q
  obtain ⟨x1, l1, rfl, h1, q1⟩ := avts_cons q0
  obtain rfl := avts_nil q1
  obtain ⟨key, rfl, wkey⟩ := AVT.str h0 Tryd.underlying9
  obtain ⟨v, rfl, ov⟩ := in_V _ _ h1
  exact ⟨.mk key v, by rw [avA], by rw [GA.ok]; exact ⟨wkey, ov⟩⟩
theorem in_As {n : Nat} {X : AV} (h : AVT Tryd.prog n 30 X) : ∃ l : List GA, X = .sl 7 (l.map avA) ∧ ∀ a ∈ l, a.ok := by
  obtain ⟨m, l, rfl, rfl, e⟩ := AVT.sl h Tryd.underlying30 co30
  obtain ⟨az, rfl, oas⟩ := list_img (f := avA) (Q := GA.ok) fun x hx => in_A (e x hx)
  exact ⟨az, rfl, oas⟩

theorem in_E {n : Nat} {X : AV} (h : AVT Tryd.prog n 122 X) : ∃ e : GE, X = e.av ∧ e.ok := by
  obtain ⟨m, l, rfl, rfl, q⟩ := AVT.struct h us122 ft122
  obtain ⟨x0, l0, rfl, h0, q0⟩ := avts_cons q
  obtain ⟨x1, l1, rfl, h1, q1⟩ := avts_cons q0
  obtain ⟨x2, l2, rfl, h2, q2⟩ := avts_cons q1
  obtain rfl := avts_nil q2
  obtain ⟨t, rfl, wt⟩ := AVT.int h0 Tryd.underlying29
  obtain ⟨s, rfl, ws⟩ := AVT.str h1 Tryd.underlying9
  obtain ⟨az, rfl, oas⟩ := in_As h2
  exact ⟨⟨t, s, az⟩, rfl, wf_u64 wt, ws, oas⟩

theorem in_L {n : Nat} {X : AV} (h : AVT Tryd.prog n 124 X) : ∃ e : GL, X = e.av ∧ e.ok := by
  obtain ⟨m, l, rfl, rfl, q⟩ := AVT.struct h us124 ft124
  obtain ⟨x0, l0, rfl, h0, q0⟩ := avts_cons q
  obtain ⟨x1, l1, rfl, h1, q1⟩ := avts_cons q0
  obtain ⟨x2, l2, rfl, h2, q2⟩ := avts_cons q1
  obtain ⟨x3, l3, rfl, h3, q3⟩ := avts_cons q2
  obtain rfl := avts_nil q3
  obtain ⟨t, rfl, wt⟩ := AVT.arr h0 Tryd.underlying26
  obtain ⟨s, rfl, ws⟩ := AVT.arr h1 Tryd.underlying28
  obtain ⟨z, rfl, wz⟩ := AVT.str h2 Tryd.underlying9
  obtain ⟨az, rfl, oas⟩ := in_As h3
  exact ⟨⟨t, s, z, az⟩, rfl, wt, ws, wz, oas⟩

theorem in_S {n : Nat} {X : AV} (h : AVT Tryd.prog n 36 X) : ∃ s : GSpan, X = s.av ∧ s.ok := by
  obtain ⟨m, l, rfl, rfl, q⟩ := AVT.struct h us36 ft36
  obtain ⟨x0, l0, rfl, h0, q0⟩ := avts_cons q
  obtain ⟨x1, l1, rfl, h1, q1⟩ := avts_cons q0
  obtain ⟨x2, l2, rfl, h2, q2⟩ := avts_cons q1
  obtain ⟨x3, l3, rfl, h3, q3⟩ := avts_cons q2
  obtain ⟨x4, l4, rfl, h4, q4⟩ := avts_cons q3
  obtain ⟨x5, l5, rfl, h5, q5⟩ := avts_cons q4
  obtain ⟨x6, l6, rfl, h6, q6⟩ := avts_cons q5
  obtain ⟨x7, l7, rfl, h7, q7⟩ := avts_cons q6
  obtain ⟨x8, l8, rfl, h8, q8⟩ := avts_cons q7
  obtain ⟨x9, l9, rfl, h9, q9⟩ := avts_cons q8
  obtain ⟨x10, l10, rfl, h10, q10⟩ := avts_cons q9
  obtain ⟨x11, l11, rfl, h11, q11⟩ := avts_cons q10
  obtain rfl := avts_nil q11
  obtain ⟨tr, rfl, w0⟩ := AVT.arr h0 Tryd.underlying26
  obtain ⟨id, rfl, w1⟩ := AVT.arr h1 Tryd.underlying28
  obtain ⟨pa, rfl, w2⟩ := AVT.arr h2 Tryd.underlying28
  obtain ⟨s3, rfl, w3⟩ := AVT.str h3 Tryd.underlying9
  obtain ⟨s4, rfl, w4⟩ := AVT.str h4 Tryd.underlying9
  obtain ⟨i5, rfl, w5⟩ := AVT.int h5 Tryd.underlying3
  obtain ⟨i6, rfl, w6⟩ := AVT.int h6 Tryd.underlying29
  obtain ⟨i7, rfl, w7⟩ := AVT.int h7 Tryd.underlying29
  obtain ⟨az, rfl, w8⟩ := in_As h8
  obtain ⟨m9, l9', e9, rfl, k9⟩ := AVT.sl h9 Tryd.underlying31 co31
  obtain ⟨es, rfl, w9⟩ := list_img (f := GE.av) (Q := GE.ok) fun x hx => in_E (k9 x hx)
  obtain ⟨m10, l10', e10, rfl, k10⟩ := AVT.sl h10 Tryd.underlying32 co32
  obtain ⟨ls, rfl, w10⟩ := list_img (f := GL.av) (Q := GL.ok) fun x hx => in_L (k10 x hx)
  obtain ⟨mm, ll, em, rfl, qq⟩ := AVT.struct h11 us34 ft34
  obtain ⟨y0, ll0, rfl, g0, qq0⟩ := avts_cons qq
  obtain ⟨y1, ll1, rfl, g1, qq1⟩ := avts_cons qq0
  obtain rfl := avts_nil qq1
  obtain ⟨c, rfl, wc⟩ := AVT.int g0 Tryd.underlying3
  obtain ⟨nt, rfl, wn⟩ := AVT.str g1 Tryd.underlying9
  exact ⟨⟨tr, id, pa, s3, s4, i5, i6, i7, az, es, ls, c, nt⟩, rfl, ⟨w0, w1, w2⟩, ⟨w3, w4, wn⟩, ⟨wf_i64 w5, wf_u64 w6, wf_u64 w7, wf_i64 wc⟩, w8, w9, w10⟩

theorem in_C {n : Nat} {X : AV} (h : AVT Tryd.prog n 52 X) : ∃ s : GScope, X = s.av ∧ s.ok := by
  obtain ⟨m, l, rfl, rfl, q⟩ := AVT.struct h us52 ft52
  obtain ⟨x0, l0, rfl, h0, q0⟩ := avts_cons q
  obtain ⟨x1, l1, rfl, h1, q1⟩ := avts_cons q0
  obtain ⟨x2, l2, rfl, h2, q2⟩ := avts_cons q1
  obtain rfl := avts_nil q2
  obtain ⟨s0, rfl, w0⟩ := AVT.str h0 Tryd.underlying9
  obtain ⟨s1, rfl, w1⟩ := AVT.str h1 Tryd.underlying9
  obtain ⟨m2, l2', e2, rfl, k2⟩ := AVT.sl h2 Tryd.underlying50 co50
  obtain ⟨ss, rfl, w2⟩ := list_img (f := GSpan.av) (Q := GSpan.ok) fun x hx => in_S (k2 x hx)
  exact ⟨⟨s0, s1, ss⟩, rfl, w0, w1, w2⟩

theorem in_R {n : Nat} {X : AV} (h : AVT Tryd.prog n 47 X) : ∃ r : GRes, X = r.av ∧ r.ok := by
  obtain ⟨m, l, rfl, rfl, q⟩ := AVT.struct h us47 ft47
  obtain ⟨x0, l0, rfl, h0, q0⟩ := avts_cons q
  obtain ⟨x1, l1, rfl, h1, q1⟩ := avts_cons q0
  obtain rfl := avts_nil q1
  obtain ⟨az, rfl, w0⟩ := in_As h0
  obtain ⟨m1, l1', e1, rfl, k1⟩ := AVT.sl h1 Tryd.underlying45 co45
  obtain ⟨ss, rfl, w1⟩ := list_img (f := GScope.av) (Q := GScope.ok) fun x hx => in_C (k1 x hx)
  exact ⟨⟨az, ss⟩, rfl, w0, w1⟩

theorem in_B {n : Nat} {X : AV} (h : AVT Tryd.prog n 24 X) : ∃ b : List GRes, X = batchAv b ∧ okB b := by
  obtain ⟨m, l, rfl, rfl, q⟩ := AVT.struct h us24 ft24
  obtain ⟨x0, l0, rfl, h0, q0⟩ := avts_cons q
  obtain rfl := avts_nil q0
  obtain ⟨m1, l1', e1, rfl, k1⟩ := AVT.sl h0 Tryd.underlying22 co22
  obtain ⟨rs, rfl, w1⟩ := list_img (f := GRes.av) (Q := GRes.ok) fun x hx => in_R (k1 x hx)
  exact ⟨rs, rfl, w1⟩

end Go.Proofs
