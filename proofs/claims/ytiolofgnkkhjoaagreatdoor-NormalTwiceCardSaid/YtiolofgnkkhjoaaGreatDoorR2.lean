/- Texts that the proofs of this claim share, part 2: the abstract logic, plain Lean on values and batches, and walks. No condition but those typed in each lemma. -/
import Derived.Laws.Externs
import Derived.Lib.Bytealg
import Derived.Test.YtiolofgnkkhjoaaGreatDoorR1
set_option linter.unusedSimpArgs false
set_option linter.unusedVariables false
set_option maxHeartbeats 400000
namespace Go.Al
open Go.RowKit
theorem tA {w : World} {I : Nat → Nat → Prop} {n : Nat} : ∀ {xs : List AV} {cs : List Value}, (∀ x ∈ xs, x.width = n) → (xH w I xs cs ↔ RepE w I n xs cs)
  | [], cs, _ => by simp only [xH, RepE]
  | x :: xs, cs, h => by
    simp only [xH, RepE]
    have ih : ∀ {cs}, xH w I xs cs ↔ RepE w I n xs cs := tA fun y hy => h y (List.mem_cons_of_mem _ hy)
    constructor
    · rintro ⟨c1, c2, h1, h2, h3⟩
      exact ⟨c1, c2, h1, by rw [RepC.len x c1 h2]; exact h x List.mem_cons_self, h2, ih.1 h3⟩
    · rintro ⟨c1, c2, h1, _, h2, h3⟩
      exact ⟨c1, c2, h1, h2, ih.2 h3⟩
theorem RepE.split {w : World} {I : Nat → Nat → Prop} {n : Nat} : ∀ (k : Nat) {xs : List AV} {cs : List Value}, RepE w I n xs cs → k ≤ xs.length → RepE w I n (xs.take k) (cs.take (k * n)) ∧ RepE w I n (xs.drop k) (cs.drop (k * n))
  | 0, xs, cs, h, _ => by simp only [List.take_zero, Nat.zero_mul, List.drop_zero]; exact ⟨by simp only [RepE], h⟩
  | k + 1, [], cs, _, hk => by simp at hk
  | k + 1, x :: xs, cs, h, hk => by
    simp only [RepE] at h
    obtain ⟨c1, c2, rfl, h1, h2, h3⟩ := h
    obtain ⟨k1, k2⟩ := RepE.split k h3 (by simpa using hk)
    have e : (k + 1) * n = n + k * n := by rw [Nat.add_mul]; omega
    simp only [List.take_succ_cons, List.drop_succ_cons, e]
    constructor
    · simp only [RepE]
      exact ⟨c1, c2.take (k * n), by rw [List.take_append, List.take_of_length_le (by omega), h1, Nat.add_sub_cancel_left], h1, h2, k1⟩
    · have e2 : (c1 ++ c2).drop (n + k * n) = c2.drop (k * n) := by rw [List.drop_append, List.drop_of_length_le (by omega), List.nil_append, h1, Nat.add_sub_cancel_left]
      rw [e2]; exact k2
theorem zeroRow {w : World} {I : Nat → Nat → Prop} {X0 : AV} {zc : Array Value} {n : Nat} (hz : RepC w I X0 zc.toList) (hn : zc.size = n) (h0 : 0 < n) : ∀ k : Nat, RepE w I n (List.replicate k X0) ((List.range (k * n)).map fun i => zc[i % zc.size]!)
  | 0 => by simp [RepE]
  | k + 1 => by
    have ih := zeroRow hz hn h0 k
    have e : (k + 1) * n = k * n + n := by rw [Nat.add_mul]; omega
    rw [e, List.range_add, List.map_append, List.replicate_succ']
    refine ih.append ?_
    simp only [RepE]
    refine ⟨zc.toList, [], ?_, by simpa using hn, hz, rfl⟩
    rw [List.append_nil, List.map_map]
    apply List.ext_getElem
    · simp [hn]
    · intro i h1 h2
      have hi : i < n := by simpa using h1
      simp only [List.getElem_map, List.getElem_range, Function.comp]
      have : (k * n + i) % zc.size = i := by rw [hn, Nat.mul_comm, Nat.mul_add_mod]; exact Nat.mod_eq_of_lt hi
      rw [this, getElem!_pos zc i (by omega)]
      simp
theorem rn {w : World} {b : Nat} {o : Obj} (h : w.heap[b]? = some o) : yR w b o = w := by
  unfold yR
  have : w.heap.setIfInBounds b o = w.heap := by
    apply Array.ext
    · simp
    · intro i h1 h2
      by_cases hi : b = i
      · subst hi; simp; exact (Array.getElem?_eq_some_iff.1 h).2.symm
      · rw [Array.getElem_setIfInBounds_ne _ hi]
  rw [this]
theorem wY {P : Program} {b o : Nat} {T : TypeId} {fr : Nat × Nat} (vs : List Value) (w : World) (cs : Array Value) (hb : w.heap[b]? = some (.cells cs T fr))
    (hf : sC fr cs.size) (hl : o + vs.length ≤ cs.size) (hp : vs.all plain = true) :
    (storeCells ⟨b, o, none⟩ vs).run P w = .ok () (yR w b (.cells (y3 cs o vs) T fr)) := by
  have := ww (P := P) vs 0 w cs hb hf (by omega) hp
  rw [this]
  cases vs with
  | nil => simp only [y3, rn hb]
  | cons v vs => rfl
theorem Act.put_put (a : Act) (d : Nat) (u v : Value) : (a.put (some d) u).put (some d) v = a.put (some d) v := by simp [Act.put]
section
variable {C : Cx} {A : Nat → SV} {d : Nat} {ty : TypeId} {pos : String} {af : Array Edge} {gd : Option (Nat × Bool)} {x y : Operand} {T T' : TypeId}
theorem uk (g : Nat) {el : TypeId} {n by_ : Nat} {X0 : AV} {len cap : Nat} {il ic : Int} {k1 k2 : IntKind} (hgN : Nat.ble C.N g = true) (hgK : Nat.blt g C.K = true) (hN : Nat.blt d C.N = true) (hx : opV A x = some (.v (.int k1 il))) (hy : opV A y = some (.v (.int k2 ic))) (hil : il = len) (hic : ic = cap)
    (hT : C.P.underlying T = some (.slice el)) (hn : yJ C.P el = some n) (hz : yu C.P el X0) (hX : Nat.beq X0.width n = true) (h0 : Nat.blt 0 n = true) (hb : (C.P.info? el).map (·.bytes) = some by_) (hlc : len ≤ cap) (hB : by_ * cap ≤ 281474976710656) (hL : cap < 9223372036854775808) :
    zv C ⟨some d, .makeSlice T x y, ty, pos, af, gd⟩ (opR x ++ opR y) [g] A [(g, .box el (.imm (.agg (List.replicate cap X0)))), (d, .osl g 0 len cap)] := by
  intro A' a w hR hF ⟨G, S⟩
  rw [← yU (fun k hk => hR k (List.mem_append_left _ hk))] at hx
  rw [← yU (fun k hk => hR k (List.mem_append_right _ hk))] at hy
  have hev1 := yV (S.opV hx)
  have hev2 := yV (S.opV hy)
  have hN' : d < C.N := by simpa [Nat.blt_eq] using hN
  have hgd : g ≠ d := by have := Nat.le_of_ble_eq_true hgN; omega
  obtain ⟨z, hz1, hz2⟩ := hz
  have hn0 : 0 < n := by simpa [Nat.blt_eq] using h0
  have hzl : z.cells.size = n := by
    have := RepC.len X0 _ (wJ (w := w) (I := G.I) X0 _ hz2)
    rw [← Array.length_toList, this]; exact Nat.eq_of_beq_eq_true hX
  obtain ⟨inf, hi, hib⟩ : ∃ inf, C.P.info? el = some inf ∧ inf.bytes = by_ := by
    cases hi : C.P.info? el with
    | none => rw [hi] at hb; cases hb
    | some inf => rw [hi] at hb; exact ⟨inf, rfl, by simpa using hb⟩
  let cs : Array Value := (Array.range (cap * n)).map fun i => z.cells[i % z.cells.size]!
  have hrow : RepE w G.I n (List.replicate cap X0) cs.toList := by
    have := zeroRow (w := w) (I := G.I) (wJ X0 _ hz2) hzl hn0 cap
    simpa [cs] using this
  have hxw : X0.width = n := Nat.eq_of_beq_eq_true hX
  have hcont : RepS w G (.imm (.agg (List.replicate cap X0))) cs.toList := by
    simp only [RepS, RepC]
    exact (tA (n := n) (fun y hy => by rw [List.eq_of_mem_replicate hy]; exact hxw)).2 hrow
  have hb1 := S.allocBox (T := el) (cs := cs) hgd (by simpa [Nat.blt_eq] using hgK) hN' hcont (by simp only [noG]) (fun k hk => hF k (by simpa only [has] using hk))
  obtain ⟨G1, S1⟩ := hb1
  have hgA : G1.blk g = w.heap.size := by
    have h1 := S1.holds d
    have e : upd A' [(g, .box el (.imm (.agg (List.replicate cap X0)))), (d, .ptr g 0)] d = .ptr g 0 := by simp only [upd]; rw [zM hgd]; simp
    rw [e] at h1
    obtain ⟨_, c, h2, h3⟩ := h1
    simp only [RepS] at h2
    rw [h2] at h3
    have e2 : (a.put (some d) (.pointer (some ⟨w.heap.size, 0, none⟩))).tmps.getD d Go.undef = .pointer (some ⟨w.heap.size, 0, none⟩) := by simp [Act.put, S.nts, hN']
    rw [e2] at h3
    simp only [mkS, SV.isAgg, Bool.false_eq_true, if_false, List.headD_cons, Value.pointer.injEq, Option.some.injEq, Addr.mk.injEq] at h3
    exact h3.1.symm
  have S2 := S1.put hN' (x := .osl g 0 len cap) (v := .slice (some ⟨w.heap.size, 0, none⟩) len cap) ⟨[.slice (some ⟨G1.blk g, 0, none⟩) len cap], by simp only [RepS], by simp only [mkS, SV.isAgg, hgA]; rfl⟩
  rw [Act.put_put] at S2
  have eu : upd (upd A' [(g, .box el (.imm (.agg (List.replicate cap X0)))), (d, .ptr g 0)]) [(d, .osl g 0 len cap)] = upd A' [(g, .box el (.imm (.agg (List.replicate cap X0)))), (d, .osl g 0 len cap)] := by
    funext k
    simp only [upd]
    by_cases hkd : d = k
    · subst hkd; rw [zM hgd]; simp
    · rw [zM hkd]; simp
  rw [eu] at S2
  unfold Oper.wp
  have hw1 : IntKind.i64.wrap il = len := by rw [hil]; exact zO (by omega) (by omega)
  have hw2 : IntKind.i64.wrap ic = cap := by rw [hic]; exact zO (by omega) (by omega)
  have hrun : (Instr.makeSlice T (a.eval x) (a.eval y)).run C.P w = .ok (.slice (some ⟨w.heap.size, 0, none⟩) len cap) (w.alloc (.cells cs el)) := by
    have hcn : ¬ (cap * n = 0 ∧ cap ≠ 0) := by
      rintro ⟨h1, h2⟩
      have := Nat.mul_pos (Nat.pos_of_ne_zero h2) hn0
      omega
    have hbig : decide ((by_ : Int) * (cap : Int) > 2 ^ 48) = false := by
      refine decide_eq_false ?_
      have : ((by_ * cap : Nat) : Int) ≤ 281474976710656 := Int.ofNat_le.2 hB
      rw [Int.natCast_mul] at this
      have h48 : (2 : Int) ^ 48 = 281474976710656 := by decide
      rw [h48]; omega
    have hc0 : ((cap : Int) < 0) = False := by simp
    have hl0 : ((len : Int) < 0) = False := by simp
    have hlc' : ((len : Int) > (cap : Int)) = False := by simp; omega
    simp only [Instr.makeSlice, Sem.run_bind, za hT, Result.andThen_ok, hev1, hev2, asInt, asIntOf, Sem.run_pure, we hi, hw1, hw2, hib, hc0, hl0, hlc', hbig, decide_false, Bool.or_false, Bool.false_eq_true, if_false, run_askRoom, yI hn, Int.toNat_natCast]
    by_cases h : cap * n = 0
    · have hcs0 : ∀ f : Nat → Value, (Array.range 0).map f = #[] := by intro f; simp
      simp only [h, if_true, Sem.run_pure, Result.andThen_ok, newRow, Sem.run_bind, run_newObj]
      simp only [cs, h, hcs0]
      rfl
    · simp only [h, if_false, Sem.run_bind, xB hz1, Result.andThen_ok, Sem.run_pure, newRow, run_newObj]
      rfl
  simp only [execOp, Sem.run_bind, hrun, Result.andThen_ok, Sem.run_pure, Oper.upon_value]
  exact ⟨G1, S2⟩
theorem sb {g len cap n : Nat} {xs m : List AV} {el el' : TypeId} {T0 T1 : TypeId} (hN : Nat.blt d C.N = true) (hgN : Nat.ble C.N g = true) (hx : opS A x = .osl g 0 len cap) (hg : A g = .box T0 (.imm (.agg xs))) (hy : opV A y = some (.sl n m)) (hT : C.P.underlying T = some (.slice el)) (hn : yJ C.P el = some n)
    (hw : ∀ x ∈ xs, x.width = n) (hlen : len ≤ xs.length) :
    zv C ⟨some d, .call { callee := .builtin .copy, args := #[x, y], argTypes := #[T, T'] }, ty, pos, af, gd⟩ (g :: (opR x ++ opR y)) [] A
      [(g, .box T0 (.imm (.agg (m.take (min m.length len) ++ xs.drop (min m.length len))))), (d, .imm (.v (.int .i64 (min m.length len : Nat))))] := by
  intro A' a w hR hF ⟨G, S⟩
  have hgA : A' g = .box T0 (.imm (.agg xs)) := (hR g List.mem_cons_self).trans hg
  have hN' : d < C.N := by simpa [Nat.blt_eq] using hN
  have hgd : g ≠ d := by have := Nat.le_of_ble_eq_true hgN; omega
  obtain ⟨c, hc1, hc2⟩ := S.opS ((yd (fun k hk => hR k (List.mem_cons_of_mem _ (List.mem_append_left _ hk)))).trans hx) rfl
  simp only [RepS] at hc1
  have hev : a.eval x = .slice (some ⟨G.blk g, 0, none⟩) len cap := by rw [hc2, hc1]; rfl
  rw [← yU (fun k hk => hR k (List.mem_cons_of_mem _ (List.mem_append_right _ hk)))] at hy
  have hyR := S.opV hy
  have hb := S.holds g
  rw [hgA] at hb
  simp only [Holds] at hb
  obtain ⟨how, ⟨cs, fr, hb2, hb3, hb4⟩, hni⟩ := hb
  simp only [RepS, RepC] at hb3
  have hE := (tA hw).1 hb3
  obtain ⟨k, hk⟩ : ∃ k, k = min m.length len := ⟨_, rfl⟩
  rw [← hk]
  have hkm : k ≤ m.length := by omega
  have hkx : k ≤ xs.length := by omega
  -- the cells that come
  obtain ⟨es, e1, e2, e3⟩ : ∃ es, RepE w G.I n (m.take k) es ∧ (Builtin.lenOf (a.eval y)).run C.P w = .ok m.length w ∧ (Builtin.firstCells n k (a.eval y)).run C.P w = .ok es.toArray w := by
    rcases rep_sl hyR with ⟨p, cap', h1, rfl, _, _⟩ | ⟨b, o, cap', h1, h2, h3, h4⟩
    · have hk0 : k = 0 := by rw [hk]; simp
      refine ⟨[], ?_, by rw [h1]; rfl, by rw [h1, hk0]; cases p <;> first | rfl | (simp only [Builtin.firstCells, Nat.zero_mul, Nat.mul_zero, loadCells, loadCellsFrom]; rfl)⟩
      simp [RepE]
    · obtain ⟨ds, q1, q2⟩ := h4.cells
      obtain ⟨q3, _⟩ := q1.split k hkm
      refine ⟨ds.take (k * n), q3, by rw [h1]; rfl, ?_⟩
      rw [h1]
      simp only [Builtin.firstCells]
      have hdl := q1.len
      have : (ds.take (k * n)).length = k * n := by
        have := xz (n := n) hkm
        rw [List.length_take]; omega
      have hld := xv (P := C.P) (w := w) (b := b) (o := o) (ds.take (k * n)) (fun j hj => by
        rw [this] at hj
        have := (q2 j (by have := xz (n := n) hkm; omega)).1
        simp only [List.getElem_take]
        exact this)
      rw [this] at hld
      exact hld
  have hel := e1.len
  rw [List.length_take, Nat.min_eq_left hkm] at hel
  have hcl := hE.len
  simp only [Array.length_toList] at hcl
  have hfit : es.length ≤ cs.size := by rw [hel, hcl]; exact xz hkx
  have hst := wY (P := C.P) (b := G.blk g) (o := 0) es w cs hb2 hb4 (by omega) e1.plain
  obtain ⟨_, q4⟩ := hE.split k hkx
  have hnew : RepS w G (.imm (.agg (m.take k ++ xs.drop k))) (y3 cs 0 es).toList := by
    simp only [RepS, RepC]
    refine (tA (n := n) ?_).2 ?_
    · intro z hz
      rcases List.mem_append.1 hz with hz | hz
      · -- each element that came has its width: by its cells
        have : ∀ (l : List AV) (c : List Value), RepE w G.I n l c → ∀ z ∈ l, z.width = n := by
          intro l
          induction l with
          | nil => intro c _ z hz; cases hz
          | cons p l ih =>
            intro c h z hz
            simp only [RepE] at h
            obtain ⟨c1, c2, _, h1, h2, h3⟩ := h
            rcases List.mem_cons.1 hz with rfl | hz
            · rw [← RepC.len _ _ h2]; exact h1
            · exact ih c2 h3 z hz
        exact this _ _ e1 z hz
      · exact hw z (List.mem_of_mem_drop hz)
    · rw [xQ _ _ _ (by omega), List.take_zero, List.nil_append, Nat.zero_add, hel]
      exact e1.append q4
  have S1 := S.storeBox hgA hb2 (wQ _ _ _) hnew
  obtain ⟨G1, S1⟩ := S1
  have S2 := S1.put hN' (x := .imm (.v (.int .i64 (k : Nat)))) (v := .int .i64 k) (yg.2 (xm _ _ rfl))
  have eu : upd (upd A' [(g, .box T0 (.imm (.agg (m.take k ++ xs.drop k))))]) [(d, .imm (.v (.int .i64 (k : Nat))))] = upd A' [(g, .box T0 (.imm (.agg (m.take k ++ xs.drop k)))), (d, .imm (.v (.int .i64 (k : Nat))))] := by
    funext j
    simp only [upd]
    by_cases hkd : d = j
    · subst hkd; rw [zM hgd]; simp
    · rw [zM hkd]; simp
  rw [eu] at S2
  unfold Oper.wp
  have hrun : (execOp a.eval ⟨some d, .call { callee := .builtin .copy, args := #[x, y], argTypes := #[T, T'] }, ty, pos, af, gd⟩).run C.P w = .ok (.value (.int .i64 k)) (yR w (G.blk g) (.cells (y3 cs 0 es) T0 fr)) := by
    simp only [execOp, resolve, Sem.run_bind, Sem.run_pure, Result.andThen_ok, invoke, builtin]
    have e0 : (#[x, y].map a.eval) = #[a.eval x, a.eval y] := by simp
    have f1 : (#[T, T'] : Array TypeId)[0]? = some T := rfl
    have f3 : (#[a.eval x, a.eval y] : Array Value)[0]? = some (a.eval x) := rfl
    have f4 : (#[a.eval x, a.eval y] : Array Value)[1]? = some (a.eval y) := rfl
    rw [e0]
    simp only [Builtin.copy_, f1, f3, f4]
    simp only [hev, Sem.run_bind, za hT, Result.andThen_ok, e2, yI hn]
    have : Nat.min m.length len = k := hk.symm
    simp only [this, e3, Result.andThen_ok, hst, Sem.run_pure, goInt]
  rw [hrun, Oper.upon_value]
  exact ⟨G1, S2⟩
end
end Go.Al
namespace Go.Al
open Go.RowKit
section
variable {C : Cx} {A : Nat → SV} {d : Nat} {ty : TypeId} {pos : String} {af : Array Edge} {gd : Option (Nat × Bool)} {x y z : Operand} {T T' : TypeId}
theorem vX {P : Program} {w : World} {k : IntKind} {i : Int} {j y : Nat} (hi : i = j) (h : j ≤ y) (c : BoundsCode) : (Instr.sliceBound (.int k i) y c).run P w = .ok j w := by
  have : 0 ≤ i ∧ i ≤ (y : Int) := by omega
  simp only [Instr.sliceBound, asIntOf, Sem.run_bind, Sem.run_pure, Result.andThen_ok, this, and_self, if_true]
  congr 1
  omega
theorem s_slS_l {s : ByteArray} {k : IntKind} {i : Int} (l : Nat) (hN : Nat.blt d C.N = true) (hx : opV A x = some (.v (.string s))) (hy : opV A y = some (.v (.int k i))) (hT : C.P.underlying T = some .string) (hi : i = l) (hh : l ≤ s.size) :
    zv C ⟨some d, .slice T x (some y) none none, ty, pos, af, gd⟩ (opR x ++ opR y) [] A [(d, .imm (.v (.string (s.extract l s.size))))] :=
  zv.op2 rfl hN hx hy fun w I ρ h1 h2 => ⟨_, by
    simp only [execOp, Instr.sliceAt, Sem.run_bind, za hT, Result.andThen_ok, xk h1, yV h2, Option.map_none, Option.map_some, Instr.slice, Option.isSome_none, Bool.false_eq_true, if_false, Sem.run_pure, Instr.sliceBounds, vX hi hh], xm w I rfl⟩
theorem s_slS_lh {s : ByteArray} {k k' : IntKind} {i j : Int} (l h : Nat) (hN : Nat.blt d C.N = true) (hx : opV A x = some (.v (.string s))) (hy : opV A y = some (.v (.int k i))) (hz : opV A z = some (.v (.int k' j))) (hT : C.P.underlying T = some .string) (hi : i = l) (hj : j = h) (hl : l ≤ h) (hh : h ≤ s.size) :
    zv C ⟨some d, .slice T x (some y) (some z) none, ty, pos, af, gd⟩ (opR x ++ (opR y ++ opR z)) [] A [(d, .imm (.v (.string (s.extract l h))))] := by
  refine zv.value rfl hN fun A' G a w hR S => ?_
  rw [← yU (fun k hk => hR k (List.mem_append_left _ hk))] at hx
  rw [← yU (fun k hk => hR k (List.mem_append_right _ (List.mem_append_left _ hk)))] at hy
  rw [← yU (fun k hk => hR k (List.mem_append_right _ (List.mem_append_right _ hk)))] at hz
  refine ⟨_, ?_, yg.2 (xm w G.I rfl)⟩
  simp only [execOp, Instr.sliceAt, Sem.run_bind, za hT, Result.andThen_ok, xk (S.opV hx), yV (S.opV hy), yV (S.opV hz), Option.map_none, Option.map_some, Instr.slice, Option.isSome_none, Bool.false_eq_true, if_false, Sem.run_pure, Instr.sliceBounds, vX hj hh, vX hi hl]
theorem RepM.drop {w : World} {I : Nat → Nat → Prop} {n : Nat} : ∀ (k : Nat) {l : List AV} {b o : Nat}, RepM w I n l b o → RepM w I n (l.drop k) b (o + k * n)
  | 0, l, b, o, h => by simpa using h
  | k + 1, [], b, o, _ => by simp [RepM]
  | k + 1, x :: l, b, o, h => by
    simp only [RepM] at h
    have := RepM.drop k h.2
    simp only [List.drop_succ_cons]
    rw [show o + (k + 1) * n = o + n + k * n from by rw [Nat.add_mul]; omega]
    exact this
theorem RepM.take {w : World} {I : Nat → Nat → Prop} {n : Nat} : ∀ (k : Nat) {l : List AV} {b o : Nat}, RepM w I n l b o → RepM w I n (l.take k) b o
  | 0, l, b, o, _ => by simp [RepM]
  | k + 1, [], b, o, _ => by simp [RepM]
  | k + 1, x :: l, b, o, h => by
    simp only [RepM] at h
    simp only [List.take_succ_cons, RepM]
    exact ⟨h.1, RepM.take k h.2⟩
theorem run_sliceL {P : Program} {w : World} {I : Nat → Nat → Prop} {n : Nat} {l : List AV} {v : Value} {el : TypeId} {lo hi : Nat} (hv : Rep w I (.sl n l) v) (hT : P.underlying T = some (.slice el)) (hn : yJ P el = some n) (hl : lo ≤ hi) (hh : hi ≤ l.length)
    {ylo yhi : Option Value} (h1 : (match yhi with | some v => ∃ k i, v = .int k i ∧ i = (hi : Int) | none => hi = l.length)) (h2 : (match ylo with | some v => ∃ k i, v = .int k i ∧ i = (lo : Int) | none => lo = 0)) :
    ∃ u, (Instr.sliceAt T v ylo yhi none).run P w = .ok u w ∧ Rep w I (.sl n ((l.take hi).drop lo)) u := by
  have key : ∀ (a : Option Addr) (cap : Nat), hi ≤ cap → (Instr.sliceAt T (.slice a l.length cap) ylo yhi none).run P w = .ok (.slice (if cap = lo then a else a.map (·.add (lo * n))) (hi - lo) (cap - lo)) w := by
    intro a cap hc
    have e3 : (Instr.sliceBounds true l.length cap ylo yhi none).run P w = .ok (lo, hi, cap) w := by
      cases yhi with
      | none =>
        cases ylo with
        | none =>
          simp only [] at h1 h2
          subst h1; subst h2
          simp only [Instr.sliceBounds, Sem.run_bind, Sem.run_pure, Result.andThen_ok]
        | some v =>
          simp only [] at h1 h2
          subst h1
          obtain ⟨k, i, rfl, hi'⟩ := h2
          simp only [Instr.sliceBounds, Sem.run_bind, Sem.run_pure, Result.andThen_ok, Option.isSome_none, Bool.false_eq_true, if_false, if_true, vX hi' hl]
      | some u =>
        obtain ⟨k, i, rfl, hi'⟩ := h1
        cases ylo with
        | none =>
          simp only [] at h2
          subst h2
          simp only [Instr.sliceBounds, Sem.run_bind, Sem.run_pure, Result.andThen_ok, Option.isSome_none, Bool.false_eq_true, if_false, if_true, vX hi' hc]
        | some v =>
          obtain ⟨k', i', rfl, hi2⟩ := h2
          simp only [Instr.sliceBounds, Sem.run_bind, Sem.run_pure, Result.andThen_ok, Option.isSome_none, Bool.false_eq_true, if_false, if_true, vX hi' hc, vX hi2 hl]
    simp only [Instr.sliceAt, Sem.run_bind, za hT, Result.andThen_ok, Instr.slice, e3, yI hn, Sem.run_pure]
  rcases rep_sl hv with ⟨p, cap, rfl, rfl, hcm, hpn⟩ | ⟨b, o, cap, rfl, k2, k3, k4⟩
  · have h0 : hi = 0 ∧ lo = 0 := by simp at hh; omega
    refine ⟨_, key p cap (by omega), ?_⟩
    rw [h0.1, h0.2]
    refine ⟨[_], ?_, rfl⟩
    simp only [RepC]
    refine ⟨_, rfl, .inl ⟨_, _, rfl, by simp, by omega, fun h => ?_⟩⟩
    cases p with
    | none => have := hpn rfl; omega
    | some a => split at h <;> cases h
  · refine ⟨_, key (some ⟨b, o, none⟩) cap (by omega), ?_⟩
    have hlen : ((l.take hi).drop lo).length = hi - lo := by rw [List.length_drop, List.length_take]; omega
    refine ⟨[_], ?_, rfl⟩
    simp only [RepC]
    refine ⟨_, rfl, .inr ?_⟩
    by_cases hc : cap = lo
    · rw [if_pos hc]
      refine ⟨b, o, cap - lo, by rw [hlen], by rw [hlen]; omega, by omega, ?_⟩
      have : (l.take hi).drop lo = [] := List.eq_nil_of_length_eq_zero (by rw [hlen]; omega)
      rw [this]; simp only [RepM]
    · rw [if_neg hc]
      exact ⟨b, o + lo * n, cap - lo, by rw [hlen, Option.map_some, xX], by rw [hlen]; omega, by omega, RepM.drop lo (RepM.take hi k4)⟩
theorem s_slL_h {el : TypeId} {n : Nat} {l : List AV} {k : IntKind} {i : Int} (h : Nat) (hN : Nat.blt d C.N = true) (hx : opV A x = some (.sl n l)) (hy : opV A y = some (.v (.int k i))) (hT : C.P.underlying T = some (.slice el)) (hn : yJ C.P el = some n) (hi : i = h) (hh : h ≤ l.length) :
    zv C ⟨some d, .slice T x none (some y) none, ty, pos, af, gd⟩ (opR x ++ opR y) [] A [(d, .imm (.sl n ((l.take h).drop 0)))] :=
  zv.op2 rfl hN hx hy fun w I ρ h1 h2 => by
    obtain ⟨u, k1, k2⟩ := run_sliceL (ylo := none) (yhi := some (ρ y)) (lo := 0) h1 hT hn (Nat.zero_le _) hh ⟨k, i, yV h2, hi⟩ rfl
    exact ⟨u, by simp only [execOp, Option.map_none, Option.map_some, Sem.run_bind, k1, Result.andThen_ok, Sem.run_pure], k2⟩
theorem s_slL_l {el : TypeId} {n : Nat} {l : List AV} {k : IntKind} {i : Int} (h : Nat) (hN : Nat.blt d C.N = true) (hx : opV A x = some (.sl n l)) (hy : opV A y = some (.v (.int k i))) (hT : C.P.underlying T = some (.slice el)) (hn : yJ C.P el = some n) (hi : i = h) (hh : h ≤ l.length) :
    zv C ⟨some d, .slice T x (some y) none none, ty, pos, af, gd⟩ (opR x ++ opR y) [] A [(d, .imm (.sl n ((l.take l.length).drop h)))] :=
  zv.op2 rfl hN hx hy fun w I ρ h1 h2 => by
    obtain ⟨u, k1, k2⟩ := run_sliceL (ylo := some (ρ y)) (yhi := none) (hi := l.length) h1 hT hn hh (Nat.le_refl _) rfl ⟨k, i, yV h2, hi⟩
    exact ⟨u, by simp only [execOp, Option.map_none, Option.map_some, Sem.run_bind, k1, Result.andThen_ok, Sem.run_pure], k2⟩
theorem s_min {k : IntKind} {a b : Int} (hN : Nat.blt d C.N = true) (hx : opV A x = some (.v (.int k a))) (hy : opV A y = some (.v (.int k b))) {ts : Array TypeId} :
    zv C ⟨some d, .call { callee := .builtin .min, args := #[x, y], argTypes := ts }, ty, pos, af, gd⟩ (opR x ++ opR y) [] A [(d, .imm (.v (.int k (if b < a then b else a))))] :=
  zv.op2 rfl hN hx hy fun w I ρ h1 h2 => ⟨_, by
    simp [execOp, resolve, invoke, builtin, Builtin.min_, Builtin.min2, yV h1, yV h2], xm w I rfl⟩
end
end Go.Al
namespace Go.Al
open Go.RowKit
section
variable {C : Cx} {A : Nat → SV} {d : Nat} {ty : TypeId} {pos : String} {af : Array Edge} {gd : Option (Nat × Bool)} {x y z : Operand} {T T' : TypeId}
theorem rE {g o a b : Nat} (hN : Nat.blt d C.N = true) (h : opS A x = .osl g o a b) : zv C ⟨some d, .move x, ty, pos, af, gd⟩ (opR x) [] A [(d, .osl g o a b)] := rQ (.inl rfl) hN h rfl
theorem s_as_osl {g o a b : Nat} (hN : Nat.blt d C.N = true) (h : opS A x = .osl g o a b) : zv C ⟨some d, .assign x, ty, pos, af, gd⟩ (opR x) [] A [(d, .osl g o a b)] := rQ (.inr rfl) hN h rfl
theorem si_l {s : ByteArray} {k : IntKind} {i : Int} (hN : Nat.blt d C.N = true) (hx : opV A x = some (.v (.string s))) (hy : opV A y = some (.v (.int k i))) (hT : C.P.underlying T = some .string) (h : 0 ≤ i ∧ i ≤ s.size) :
    zv C ⟨some d, .slice T x (some y) none none, ty, pos, af, gd⟩ (opR x ++ opR y) [] A [(d, .imm (.v (.string (s.extract i.toNat s.size))))] :=
  s_slS_l i.toNat hN hx hy hT (by omega) (by omega)
theorem jc {s : ByteArray} {k k' : IntKind} {i j : Int} (hN : Nat.blt d C.N = true) (hx : opV A x = some (.v (.string s))) (hy : opV A y = some (.v (.int k i))) (hz : opV A z = some (.v (.int k' j))) (hT : C.P.underlying T = some .string) (h : 0 ≤ i ∧ i ≤ j ∧ j ≤ s.size) :
    zv C ⟨some d, .slice T x (some y) (some z) none, ty, pos, af, gd⟩ (opR x ++ (opR y ++ opR z)) [] A [(d, .imm (.v (.string (s.extract i.toNat j.toNat))))] :=
  s_slS_lh i.toNat j.toNat hN hx hy hz hT (by omega) (by omega) (by omega) (by omega)
end
theorem byteV_ofInt {n : Int} (h : 0 ≤ n ∧ n < 256) : AV.v (wr (UInt8.ofNat n.toNat)) = .v (.int .u8 n) := by
  have e : ((UInt8.ofNat n.toNat).toNat : Int) = n := by
    rw [UInt8.toNat_ofNat']; omega
  simp only [wr, e]
end Go.Al
namespace Go.Al
theorem toList_loop (s : ByteArray) : ∀ (k i : Nat) (r : List UInt8), s.size - i = k → ByteArray.toList.loop s i r = r.reverse ++ s.data.toList.drop i
  | 0, i, r, h => by
    rw [ByteArray.toList.loop, if_neg (by omega)]
    rw [List.drop_eq_nil_of_le (by have : s.data.toList.length = s.size := by simp
                                   omega)]
    simp
  | k + 1, i, r, h => by
    have hi : i < s.size := by omega
    have hi' : i < s.data.toList.length := by simpa using hi
    rw [ByteArray.toList.loop, if_pos hi, toList_loop s k (i + 1) _ (by omega), List.drop_eq_getElem_cons hi']
    have e : s.get! i = s.data.toList[i] := by
      have h2 : i < s.data.size := hi
      show s.data[i]! = s.data.toList[i]
      rw [Array.getElem_toList]
      exact getElem!_pos s.data i h2
    simp [e]
theorem strList (s : ByteArray) : s.toList = s.data.toList := by
  rw [ByteArray.toList, toList_loop s _ 0 [] rfl]; simp
theorem sZ {s t : ByteArray} (h : s.data.toList = t.data.toList) : s = t := by
  cases s; cases t; congr 1; exact Array.toList_inj.1 h
theorem yH (s t : ByteArray) : (s.toList == t.toList) = decide (s = t) := by
  rw [strList, strList]
  by_cases h : s = t
  · subst h; simp
  · simp only [h, decide_false]
    exact beq_eq_false_iff_ne.2 fun e => h (sZ e)
end Go.Al
namespace Go.Al
open Go.RowKit
abbrev iv (n : Int) : AV := .v (.int .i64 n)
abbrev uv (n : Int) : AV := .v (.int .u64 n)
abbrev rv (n : Int) : AV := .v (.int .i32 n)
abbrev cv (n : Int) : AV := .v (.int .u8 n)
abbrev bv (b : Bool) : AV := .v (.bool b)
abbrev sv (s : ByteArray) : AV := .v (.string s)
def bAt (s : ByteArray) (i : Int) : Int := (s.data.toList.getD i.toNat 0).toNat
def ofI (n : Int) : UInt8 := UInt8.ofNat n.toNat
section
variable {C : Cx} {A : Nat → SV} {d : Nat} {ty : TypeId} {pos : String} {af : Array Edge} {gd : Option (Nat × Bool)} {x y z : Operand} {T T' : TypeId}
theorem sN {s : ByteArray} {i : Int} {k : IntKind} (hN : Nat.blt d C.N = true) (hx : opV A x = some (.v (.string s))) (hy : opV A y = some (.v (.int k i))) (hT : C.P.underlying T = some .string) (h : 0 ≤ i ∧ i < s.size) :
    zv C ⟨some d, .index T x y, ty, pos, af, gd⟩ (opR x ++ opR y) [] A [(d, .imm (.v (.int .u8 (bAt s i))))] := s_ixS hN hx hy hT h.1 h.2
theorem tq {el : TypeId} {l : List UInt8} {ys : List AV} (hl : ys = zx l) (hN : Nat.blt d C.N = true) (hx : opV A x = some (.sl 1 ys)) (hT : C.P.underlying T = some (.slice el)) (hT' : C.P.underlying T' = some .string) (he : C.P.underlying el = some (.int .u8)) :
    zv C ⟨some d, .convert T T' x, ty, pos, af, gd⟩ (opR x) [] A [(d, .imm (.v (.string (yF l))))] := by subst hl; exact s_cvBS hN hx hT hT' he
end
theorem vD (s : ByteArray) (i : Int) : 0 ≤ bAt s i ∧ bAt s i < 256 := by
  unfold bAt
  have := UInt8.toNat_lt (s.data.toList.getD i.toNat 0)
  omega
theorem wrap8_lt (n : Int) : 0 ≤ IntKind.u8.wrap n ∧ IntKind.u8.wrap n < 256 := by
  simp only [IntKind.wrap, IntKind.bits, IntKind.signed, Bool.false_and, Bool.false_eq_true, if_false]
  omega
theorem bl_nil : ([] : List AV) = zx [] := rfl
theorem uY {n : Int} {ys : List AV} {l : List UInt8} (h : ys = zx l) : AV.v (.int .u8 (IntKind.u8.wrap n)) :: ys = zx (ofI (IntKind.u8.wrap n) :: l) := by
  rw [h, ← byteV_ofInt (wrap8_lt n)]; rfl
theorem ofI_toNat {n : Int} (h : 0 ≤ n ∧ n < 256) : ((ofI n).toNat : Int) = n := by
  unfold ofI; rw [UInt8.toNat_ofNat']; omega
end Go.Al
namespace Go.Al
open Go.RowKit
theorem upd_dead (A : Nat → SV) (g : Nat) (j : Nat) : upd A [(g, .dead)] j = if j = g then .dead else A j := wO A g .dead j
theorem SimG.giveUp {C : Cx} {A : Nat → SV} {G : Gh} {a : Act} {w : World} (S : SimG C A G a w) {g : Nat} {T0 : TypeId} {X : SV} {cs : Array Value} {fr : Nat × Nat} (fr' : Nat × Nat)
    (hg : A g = .box T0 X) (hb : w.heap[G.blk g]? = some (.cells cs T0 fr)) :
    SimG C (upd A [(g, .dead)]) { G with I := fun b o => G.I b o ∨ (b = G.blk g ∧ o < cs.size) } a (yR w (G.blk g) (.cells cs T0 fr')) ∧
    Le w G.I (yR w (G.blk g) (.cells cs T0 fr')) (fun b o => G.I b o ∨ (b = G.blk g ∧ o < cs.size)) ∧
    xP (yR w (G.blk g) (.cells cs T0 fr')) (fun b o => G.I b o ∨ (b = G.blk g ∧ o < cs.size)) (G.blk g) 0 cs.toList := by
  have hbx := S.holds g
  rw [hg] at hbx
  simp only [Holds] at hbx
  obtain ⟨how, ⟨cs0, fr0, hb0, hb3, huf⟩, hni⟩ := hbx
  have hlt : G.blk g < w.heap.size := how.2
  let I' : Nat → Nat → Prop := fun b o => G.I b o ∨ (b = G.blk g ∧ o < cs.size)
  let G' : Gh := { G with I := I' }
  let w' := yR w (G.blk g) (.cells cs T0 fr')
  have hle : Le w G.I w' I' := fun b o h => ⟨.inl h, by
    have : b ≠ G.blk g := by rintro rfl; exact hni o h
    exact y7 (xJ this)⟩
  have hcells : xP w' I' (G.blk g) 0 cs.toList := by
    intro j hj
    rw [Array.length_toList] at hj
    refine ⟨?_, .inr ⟨rfl, by omega⟩⟩
    rw [u_ (wI hlt), Nat.zero_add]
    rw [Array.getElem?_eq_getElem hj]
    simp
  have hrel : GRel [] G G' := fun j hj => ⟨rfl, .inl ⟨rfl, rfl⟩⟩
  have conv : ∀ j b, zm G' j b (upd A [(g, .dead)] j) → j ≠ g ∧ zm G j b (A j) := by
    intro j b h
    rw [upd_dead] at h
    split at h
    · simp only [zm] at h
    · rename_i hj
      refine ⟨hj, ?_⟩
      revert h
      generalize A j = y
      cases y <;> simp only [zm, G'] <;> exact id
  refine ⟨⟨S.os, S.tape, S.output, by show C.w0.heap.size ≤ (yR w _ _).heap.size; rw [yT]; exact S.size, fun j h1 h2 => ?_, S.sub.trans hle, S.rel, S.glob.mono hle, fun b o h => ?_, fun b o h => ?_, S.nts, S.dfs, fun j => ?_, fun j j' b hj h1 h2 => ?_⟩, hle, hcells⟩
  · have : j ≠ G.blk g := by
      rintro rfl
      rcases how.1 with h | h
      · omega
      · exact h2 h
    show (yR w _ _).heap[j]? = _
    rw [xJ this]; exact S.block j h1 h2
  · rcases h with h | ⟨rfl, _⟩
    · exact S.new b o h
    · exact .inr how.1
  · show b < (yR w _ _).heap.size
    rw [yT]
    rcases h with h | ⟨rfl, _⟩
    · exact S.val b o h
    · exact hlt
  · rw [upd_dead]
    split
    · simp only [Holds]
    · rename_i hj
      refine (S.holds j).keep hle hrel (xa.1 _) (by show w.heap.size ≤ (yR w _ _).heap.size; rw [yT]; exact Nat.le_refl _) (fun h => ⟨h, rfl⟩) (fun _ => ⟨rfl, rfl, rfl⟩) (fun b hbk => ?_)
      have hne : b ≠ G.blk g := by rintro rfl; exact S.apart j g _ hj hbk (by rw [hg]; simp [zm])
      refine ⟨xJ hne, fun o hi => ?_⟩
      rcases hi with hi | ⟨rfl, _⟩
      · exact hi
      · exact absurd rfl hne
  · obtain ⟨e1, e2⟩ := conv j b h1
    obtain ⟨e3, e4⟩ := conv j' b h2
    exact S.apart j j' b hj e2 e4
end Go.Al
namespace Go.Al
open Go.RowKit
section
variable {C : Cx} {A : Nat → SV} {d : Nat} {ty : TypeId} {pos : String} {af : Array Edge} {gd : Option (Nat × Bool)} {x y z : Operand} {T T' : TypeId}
end
end Go.Al
namespace Go.Al
open Go.RowKit
def ren : List (Nat × Nat) → Nat → Nat
  | [], g => g
  | (f, a) :: r, g => bif Nat.beq f g then a else ren r g
mutual
def SV.ren (σ : List (Nat × Nat)) : SV → SV
  | .ptr g off => .ptr (Al.ren σ g) off
  | .slg g n l => .slg (Al.ren σ g) n l
  | .osl g o a b => .osl (Al.ren σ g) o a b
  | .agg fs => .agg (SV.rens σ fs)
  | .tup fs => .tup (SV.rens σ fs)
  | .box T x => .box T (SV.ren σ x)
  | .fnv f a b => .fnv f (SV.rens σ a) (SV.rens σ b)
  | .mref g => .mref (Al.ren σ g)
  | .itr m n s => .itr (Al.ren σ m) n s
  | .ifp T g off => .ifp T (Al.ren σ g) off
  | .gen R => .gen R
  | .dead => .dead
  | .undef => .undef
  | .imm x => .imm x
  | .tok n l => .tok n l
  | .mpr ks vs => .mpr ks vs
  | .row l => .row l
def SV.rens (σ : List (Nat × Nat)) : List SV → List SV
  | [] => []
  | x :: xs => SV.ren σ x :: SV.rens σ xs
end
def Gh.at (G : Gh) (ρ : Nat → Nat) : Gh := ⟨G.I, fun g => G.blk (ρ g), fun g => G.cur (ρ g), fun g => G.len (ρ g)⟩
theorem ren_isAgg (σ : List (Nat × Nat)) (x : SV) : (x.ren σ).isAgg = x.isAgg := by cases x <;> rfl
theorem ren_mkS (σ : List (Nat × Nat)) (x : SV) (cs : List Value) : mkS (x.ren σ) cs = mkS x cs := by simp only [mkS, ren_isAgg]
mutual
theorem sw {w : World} {G : Gh} {σ : List (Nat × Nat)} : ∀ (x : SV) (cs : List Value), RepS w G (x.ren σ) cs ↔ RepS w (G.at (Al.ren σ)) x cs
  | .imm x, cs => by simp only [SV.ren, RepS, Gh.at]
  | .ptr g off, cs => by simp only [SV.ren, RepS, Gh.at]
  | .slg g n l, cs => by simp only [SV.ren, RepS, Gh.at]
  | .osl g o a b, cs => by simp only [SV.ren, RepS, Gh.at]
  | .agg fs, cs => by simp only [SV.ren, RepS]; exact repSs_ren fs cs
  | .fnv f a b, cs => by
    simp only [SV.ren, RepS]
    constructor
    · rintro ⟨fs, gs, h1, h2, h3⟩; exact ⟨fs, gs, h1, (tM a fs).1 h2, (tM b gs).1 h3⟩
    · rintro ⟨fs, gs, h1, h2, h3⟩; exact ⟨fs, gs, h1, (tM a fs).2 h2, (tM b gs).2 h3⟩
  | .mref g, cs => by simp only [SV.ren, RepS, Gh.at]
  | .dead, cs => by simp only [SV.ren, RepS]
  | .undef, cs => by simp only [SV.ren, RepS]
  | .tup fs, cs => by simp only [SV.ren, RepS]
  | .box T x, cs => by simp only [SV.ren, RepS]
  | .tok n l, cs => by simp only [SV.ren, RepS]
  | .mpr ks vs, cs => by simp only [SV.ren, RepS]
  | .row l, cs => by simp only [SV.ren, RepS]
  | .itr m n s, cs => by simp only [SV.ren, RepS]
  | .ifp T g off, cs => by simp only [SV.ren, RepS, Gh.at]
  | .gen R, cs => by simp only [SV.ren, RepS]
theorem repSs_ren {w : World} {G : Gh} {σ : List (Nat × Nat)} : ∀ (xs : List SV) (cs : List Value), xK w G (SV.rens σ xs) cs ↔ xK w (G.at (Al.ren σ)) xs cs
  | [], cs => by simp only [SV.rens, xK]
  | x :: xs, cs => by
    simp only [SV.rens, xK]
    constructor
    · rintro ⟨c1, c2, h1, h2, h3⟩; exact ⟨c1, c2, h1, (sw x c1).1 h2, (repSs_ren xs c2).1 h3⟩
    · rintro ⟨c1, c2, h1, h2, h3⟩; exact ⟨c1, c2, h1, (sw x c1).2 h2, (repSs_ren xs c2).2 h3⟩
theorem tM {w : World} {G : Gh} {σ : List (Nat × Nat)} : ∀ (xs : List SV) (cs : List Value), wy w G (SV.rens σ xs) cs ↔ wy w (G.at (Al.ren σ)) xs cs
  | [], cs => by simp only [SV.rens, wy]
  | x :: xs, cs => by
    simp only [SV.rens, wy, ren_mkS]
    constructor
    · rintro ⟨c1, c2, h1, h2, h3⟩; exact ⟨c1, c2, h1, (sw x c1).1 h2, (tM xs c2).1 h3⟩
    · rintro ⟨c1, c2, h1, h2, h3⟩; exact ⟨c1, c2, h1, (sw x c1).2 h2, (tM xs c2).2 h3⟩
end
theorem vw {w : World} {G : Gh} {σ : List (Nat × Nat)} {x : SV} {v : Value} : ValS w G (x.ren σ) v ↔ ValS w (G.at (Al.ren σ)) x v := by
  simp only [ValS, sw, ren_mkS]
theorem valSs_ren {w : World} {G : Gh} {σ : List (Nat × Nat)} : ∀ {xs : List SV} {vs : List Value}, wF w G (SV.rens σ xs) vs ↔ wF w (G.at (Al.ren σ)) xs vs
  | [], vs => by simp only [SV.rens, wF]
  | x :: xs, vs => by
    simp only [SV.rens, wF, vw]
    constructor
    · rintro ⟨v, r, h1, h2, h3⟩; exact ⟨v, r, h1, h2, valSs_ren.1 h3⟩
    · rintro ⟨v, r, h1, h2, h3⟩; exact ⟨v, r, h1, h2, valSs_ren.2 h3⟩
theorem slotS_ren {w : World} {G : Gh} {σ : List (Nat × Nat)} {x : SV} {v : Value} : xZ w G (x.ren σ) v ↔ xZ w (G.at (Al.ren σ)) x v := by
  cases x <;> simp only [SV.ren, xZ] <;> first | exact Iff.rfl | skip
  case tup fs => simp only [valSs_ren]
  all_goals first | exact vw (σ := σ) (x := .imm _) | exact vw (σ := σ) (x := .ptr _ _) | exact vw (σ := σ) (x := .slg _ _ _) | exact vw (σ := σ) (x := .osl _ _ _ _) | exact vw (σ := σ) (x := .agg _) | exact vw (σ := σ) (x := .fnv _ _ _) | exact vw (σ := σ) (x := .mref _) | exact vw (σ := σ) (x := .ifp _ _ _)
theorem ownsB_ren {G : Gh} {σ : List (Nat × Nat)} {k b : Nat} {x : SV} : zm G (ren σ k) b (x.ren σ) ↔ zm (G.at (ren σ)) k b x := by
  cases x <;> simp only [SV.ren, zm, Gh.at]
theorem holds_ren {w0 : World} {E : Nat → Prop} {G : Gh} {a : Act} {w : World} {σ : List (Nat × Nat)} {k : Nat} {x : SV} (hx : x.res = true) :
    Holds w0 E G a w (ren σ k) (x.ren σ) ↔ Holds w0 E (G.at (ren σ)) a w k x := by
  cases x <;> first | cases hx | skip
  case box T x => simp only [SV.ren, Holds, BoxS, Gh.at, sw]
  case tok n l => simp only [SV.ren, Holds, Gh.at]
  case mpr ks vs => simp only [SV.ren, Holds, Gh.at]
  case row l => simp only [SV.ren, Holds, Gh.at]
  case itr m n s => simp only [SV.ren, Holds, Gh.at]
  case gen R => simp only [SV.ren, Holds, Gh.at]
def rc (gs : List Nat) (G1 G2 : Gh) : Prop := ∀ g ∈ gs, G2.blk g = G1.blk g ∧ G2.cur g = G1.cur g ∧ G2.len g = G1.len g
theorem rc.left {xs ys : List Nat} {G1 G2 : Gh} (h : rc (xs ++ ys) G1 G2) : rc xs G1 G2 := fun g hg => h g (List.mem_append_left _ hg)
theorem rc.right {xs ys : List Nat} {G1 G2 : Gh} (h : rc (xs ++ ys) G1 G2) : rc ys G1 G2 := fun g hg => h g (List.mem_append_right _ hg)
mutual
theorem RepS.agree {w : World} {G1 G2 : Gh} (hI : G2.I = G1.I) : ∀ (x : SV) (cs : List Value), rc (wd x) G1 G2 → RepS w G1 x cs → RepS w G2 x cs
  | .imm x, cs, h, r => by simp only [RepS] at r ⊢; rw [hI]; exact r
  | .ptr g off, cs, h, r => by simp only [RepS] at r ⊢; rw [(h g (by simp [wd])).1]; exact r
  | .slg g n l, cs, h, r => by simp only [RepS] at r ⊢; rw [hI, (h g (by simp [wd])).2.1, (h g (by simp [wd])).2.2]; exact r
  | .osl g o a b, cs, h, r => by simp only [RepS] at r ⊢; rw [(h g (by simp [wd])).1]; exact r
  | .agg fs, cs, h, r => by simp only [RepS] at r ⊢; exact xK.agree hI fs cs (by simpa only [wd] using h) r
  | .fnv f a b, cs, h, r => by
    simp only [RepS] at r ⊢
    simp only [wd] at h
    obtain ⟨fs, gs, h1, h2, h3⟩ := r
    exact ⟨fs, gs, h1, wy.agree hI a fs h.left h2, wy.agree hI b gs h.right h3⟩
  | .mref g, cs, h, r => by simp only [RepS] at r ⊢; rw [(h g (by simp [wd])).1]; exact r
  | .dead, _, _, r => by simp only [RepS] at r
  | .undef, _, _, r => by simp only [RepS] at r
  | .tup _, _, _, r => by simp only [RepS] at r
  | .box _ _, _, _, r => by simp only [RepS] at r
  | .tok _ _, _, _, r => by simp only [RepS] at r
  | .mpr _ _, _, _, r => by simp only [RepS] at r
  | .row _, _, _, r => by simp only [RepS] at r
  | .itr _ _ _, _, _, r => by simp only [RepS] at r
  | .gen _, _, _, r => by simp only [RepS] at r
  | .ifp T g off, cs, h, r => by simp only [RepS] at r ⊢; rw [(h g (by simp [wd])).1]; exact r
theorem xK.agree {w : World} {G1 G2 : Gh} (hI : G2.I = G1.I) : ∀ (xs : List SV) (cs : List Value), rc (tY xs) G1 G2 → xK w G1 xs cs → xK w G2 xs cs
  | [], cs, h, r => by simpa only [xK] using r
  | x :: xs, cs, h, r => by
    simp only [xK] at r ⊢
    simp only [tY] at h
    obtain ⟨c1, c2, h1, h2, h3⟩ := r
    exact ⟨c1, c2, h1, RepS.agree hI x c1 h.left h2, xK.agree hI xs c2 h.right h3⟩
theorem wy.agree {w : World} {G1 G2 : Gh} (hI : G2.I = G1.I) : ∀ (xs : List SV) (cs : List Value), rc (tY xs) G1 G2 → wy w G1 xs cs → wy w G2 xs cs
  | [], cs, h, r => by simpa only [wy] using r
  | x :: xs, cs, h, r => by
    simp only [wy] at r ⊢
    simp only [tY] at h
    obtain ⟨c1, c2, h1, h2, h3⟩ := r
    exact ⟨c1, c2, h1, RepS.agree hI x c1 h.left h2, wy.agree hI xs c2 h.right h3⟩
end
theorem ValS.agree {w : World} {G1 G2 : Gh} (hI : G2.I = G1.I) {x : SV} {v : Value} (h : rc (wd x) G1 G2) (r : ValS w G1 x v) : ValS w G2 x v :=
  let ⟨c, h1, h2⟩ := r; ⟨c, RepS.agree hI x c h h1, h2⟩
theorem wF.agree {w : World} {G1 G2 : Gh} (hI : G2.I = G1.I) : ∀ {xs : List SV} {vs : List Value}, rc (tY xs) G1 G2 → wF w G1 xs vs → wF w G2 xs vs
  | [], _, _, r => r
  | x :: xs, vs, h, ⟨v, r, h1, h2, h3⟩ => by
    simp only [tY] at h
    exact ⟨v, r, h1, h2.agree hI h.left, wF.agree hI h.right h3⟩
theorem xZ.agree {w : World} {G1 G2 : Gh} (hI : G2.I = G1.I) {x : SV} {v : Value} (h : rc (wd x) G1 G2) (r : xZ w G1 x v) : xZ w G2 x v := by
  cases x <;> simp only [xZ] at r ⊢
  case undef => exact r
  case tup fs => obtain ⟨vs, h1, h2⟩ := r; exact ⟨vs, h1, h2.agree hI (by simpa only [wd] using h)⟩
  all_goals exact ValS.agree hI h r
theorem Holds.agree {w0 : World} {E : Nat → Prop} {G1 G2 : Gh} {a : Act} {w : World} {k : Nat} {x : SV} (hI : G2.I = G1.I) (hx : x.res = true) (h : rc (k :: wd x) G1 G2) (r : Holds w0 E G1 a w k x) : Holds w0 E G2 a w k x := by
  obtain ⟨e1, e2, e3⟩ := h k List.mem_cons_self
  have hm : rc (wd x) G1 G2 := fun g hg => h g (List.mem_cons_of_mem _ hg)
  cases x <;> first | cases hx | skip
  case box T x =>
    simp only [Holds] at r ⊢
    obtain ⟨h1, ⟨cs, fr, h2, h3, h4⟩, h5⟩ := r
    rw [e1]
    exact ⟨h1, ⟨cs, fr, h2, RepS.agree hI _ _ (by simpa only [wd] using hm) h3, h4⟩, by rw [hI]; exact h5⟩
  case tok n l => simp only [Holds] at r ⊢; rw [e2, e3, hI]; exact r
  case mpr ks vs => simp only [Holds] at r ⊢; rw [e1, hI]; exact r
  case row l => simp only [Holds] at r ⊢; rw [e2, e3, hI]; exact r
  case itr m n s => simp only [Holds] at r ⊢; rw [e1, hI, (hm m (by simp [wd])).1]; exact r
  case gen R => simp only [Holds] at r ⊢; rw [hI, e1, e2, e3]; exact r
theorem uf {G1 G2 : Gh} {k b : Nat} {x : SV} (h : G2.blk k = G1.blk k ∧ G2.cur k = G1.cur k ∧ G2.len k = G1.len k) : zm G2 k b x ↔ zm G1 k b x := by
  cases x <;> simp only [zm, h.1, h.2.1, h.2.2]
theorem Holds.reown {w0 w1 : World} {E E' : Nat → Prop} {G : Gh} {a a' : Act} {w : World} {k : Nat} {x : SV} (hx : x.res = true) (r : Holds w0 E G a w k x) (h : ∀ b, zm G k b x → b < w.heap.size → (w0.heap.size ≤ b ∨ E b) → w1.heap.size ≤ b ∨ E' b) : Holds w1 E' G a' w k x := by
  cases x <;> first | cases hx | skip
  case box T x =>
    simp only [Holds] at r ⊢
    exact ⟨⟨h _ (by simp [zm]) r.1.2 r.1.1, r.1.2⟩, r.2⟩
  case tok n l =>
    simp only [Holds] at r ⊢
    refine ⟨r.1, ?_⟩
    rcases r.2 with h' | ⟨b, cap, h1, h2, h3, h4, h5, h6⟩
    · exact .inl h'
    · exact .inr ⟨b, cap, h1, h2, h3, h4, ⟨h b ⟨_, _, _, h1, rfl⟩ h5.2 h5.1, h5.2⟩, h6⟩
  case row l =>
    simp only [Holds] at r ⊢
    refine ⟨r.1, ?_⟩
    rcases r.2 with h' | ⟨b, cap, h1, h2, h3, h4, h5⟩
    · exact .inl h'
    · exact .inr ⟨b, cap, h1, h2, h3, ⟨h b ⟨_, _, _, h1, rfl⟩ h4.2 h4.1, h4.2⟩, h5⟩
  case mpr ks vs =>
    simp only [Holds] at r ⊢
    exact ⟨⟨h _ (by simp [zm]) r.1.2 r.1.1, r.1.2⟩, r.2⟩
  case itr m n s =>
    simp only [Holds] at r ⊢
    exact ⟨⟨h _ (by simp [zm]) r.1.2 r.1.1, r.1.2⟩, r.2⟩
  case gen R =>
    simp only [Holds] at r ⊢
    exact ⟨fun b hb => ⟨h b (by simpa only [zm] using hb) (r.1 b hb).2 (r.1 b hb).1, (r.1 b hb).2⟩, r.2⟩
theorem Holds.owned {w0 : World} {E : Nat → Prop} {G : Gh} {a : Act} {w : World} {k b : Nat} {x : SV} (r : Holds w0 E G a w k x) (h : zm G k b x) : (w0.heap.size ≤ b ∨ E b) ∧ b < w.heap.size := by
  cases x <;> simp only [zm] at h <;> simp only [Holds] at r
  case box T x => rw [← h]; exact r.1
  case mpr ks vs => rw [← h]; exact r.1
  case row l =>
    obtain ⟨ad, n', c, h1, h2⟩ := h
    rcases r.2 with ⟨e, _⟩ | ⟨b', cap, e, _, _, h5, _⟩
    · rw [e] at h1; cases h1
    · rw [e] at h1; cases h1; rw [← h2]; exact h5
  case itr m n s => rw [← h]; exact r.1
  case gen R => exact r.1 b h
  case tok n l =>
    obtain ⟨ad, n', c, h1, h2⟩ := h
    rcases r.2 with ⟨e, _⟩ | ⟨b', cap, e, _, _, _, h5, _⟩
    · rw [e] at h1; cases h1
    · rw [e] at h1; cases h1; rw [← h2]; exact h5
def HOwn (G : Gh) (H : St) (b : Nat) : Prop := ∃ k, zm G k b (look H k)
def act0 : Act := ⟨#[], []⟩
def MPre (Γ : List (Nat × AV)) (w : World) (G : Gh) (xs : List SV) (H : St) (args : List Value) : Prop :=
  (∀ b o, G.I b o → b < w.heap.size) ∧ Glob Γ w G.I ∧ wF w G xs args ∧ (∀ k, Holds w (HOwn G H) G act0 w k (look H k)) ∧ ∀ k j b, k ≠ j → zm G k b (look H k) → zm G j b (look H j) → False
structure MDone (w : World) (G : Gh) (K : Nat) (H : St) (r : SV) (H' : St) (w' : World) (v : Value) (G' : Gh) : Prop where
  os : w'.os = w.os
  tape : w'.tape = w.tape
  output : w'.output = w.output
  size : w.heap.size ≤ w'.heap.size
  block : ∀ k, k < w.heap.size → ¬ HOwn G H k → w'.heap[k]? = w.heap[k]?
  le : Le w G.I w' G'.I
  new : ∀ b o, G'.I b o → G.I b o ∨ w.heap.size ≤ b ∨ HOwn G H b
  val : ∀ b o, G'.I b o → b < w'.heap.size
  rel : ∀ g, K ≤ g → Turns G G' g
  holds : ∀ k, Holds w (HOwn G H) G' act0 w' k (look H' k)
  apart : ∀ k j b, k ≠ j → zm G' k b (look H' k) → zm G' j b (look H' j) → False
  res : xZ w' G' r v
def MPost (w : World) (G : Gh) (K : Nat) (H : St) (r : SV) (H' : St) (e : Ending) (w' : World) : Prop :=
  ∃ v G', e = .returned v ∧ MDone w G K H r H' w' v G'
def tE (P : Program) (Γ : List (Nat × AV)) (f : FuncId) (xs : List SV) (H : St) (r : SV) (H' : St) : Prop :=
  u6 P f = true ∧ ∀ w G args, MPre Γ w G xs H args → Calls P f (List.toArray args) w (MPost w G 100000 H r H')
def te : Nat → List SV → St → St
  | _, [], H => H
  | k, x :: xs, H => (k, x) :: te (k + 1) xs H
theorem sh : ∀ (xs : List SV) (H : St) (k j : Nat) (x : SV), xs[j]? = some x → look (te k xs H) (k + j) = x
  | [], _, _, _, _, h => by simp at h
  | y :: xs, H, k, 0, x, h => by simp at h; subst h; simp [te, look, upd]
  | y :: xs, H, k, j + 1, x, h => by
    simp only [te, look, upd]
    rw [zM (by omega)]
    have := sh xs H (k + 1) j x (by simpa using h)
    simp only [cond_false]
    rw [show k + (j + 1) = k + 1 + j from by omega]
    exact this
theorem sn : ∀ (xs : List SV) (H : St) (k i : Nat), (i < k ∨ k + xs.length ≤ i) → look (te k xs H) i = look H i
  | [], _, _, _, _ => rfl
  | y :: xs, H, k, i, h => by
    simp only [te, look, upd]
    rw [zM (by simp at h; omega)]
    exact sn xs H (k + 1) i (by simp at h; omega)
theorem valSs_len {w : World} {G : Gh} : ∀ {xs : List SV} {vs : List Value}, wF w G xs vs → vs.length = xs.length
  | [], _, h => by simp only [wF] at h; simp [h]
  | x :: xs, vs, ⟨v, r, h1, _, h3⟩ => by simp [h1, valSs_len h3]
def tZ (N : Nat) : St → Bool
  | [] => true
  | (k, x) :: r => x.res && Nat.ble N k && tZ N r
theorem ue {N : Nat} : ∀ {H : St}, tZ N H = true → ∀ k, look H k = .dead ∨ ((look H k).res = true ∧ N ≤ k)
  | [], _, k => .inl rfl
  | (j, x) :: r, h, k => by
    simp only [tZ, Bool.and_eq_true] at h
    simp only [look, upd]
    cases hb : Nat.beq j k
    · exact ue h.2 k
    · have := Nat.eq_of_beq_eq_true hb
      subst this
      exact .inr ⟨h.1.1, Nat.le_of_ble_eq_true h.1.2⟩
theorem start_simM {P : Program} {Γ : List (Nat × AV)} {w : World} {G : Gh} {xs : List SV} {H : St} {args : List Value} {N K : Nat} (h : MPre Γ w G xs H args) (hN : xs.length ≤ N) (hH : tZ N H = true) (hs : xs.all SV.slotty = true) :
    Sim ⟨P, w, G.I, HOwn G H, N, K, G, Γ, [], none⟩ (look (te 0 xs H)) { tmps := (List.toArray args) ++ Array.replicate (N - (List.toArray args).size) Go.undef, defers := [] } w := by
  obtain ⟨hv, hgl, hargs, hh, hap⟩ := h
  have hl := valSs_len hargs
  have own : ∀ k b, zm G k b (look (te 0 xs H) k) → zm G k b (look H k) := by
    intro k b hb
    cases hx : xs[k]? with
    | none => rw [sn xs H 0 k (.inr (by simpa using hx))] at hb; exact hb
    | some x =>
      have := sh xs H 0 k x hx
      rw [Nat.zero_add] at this
      rw [this] at hb
      have hsl := List.all_eq_true.1 hs x (List.mem_of_getElem? hx)
      cases x <;> first | (simp only [zm] at hb; done) | cases hsl
  refine ⟨G, rfl, rfl, rfl, Nat.le_refl _, fun _ _ _ => rfl, Le.refl _ _, fun _ _ => ⟨rfl, .inl ⟨rfl, rfl⟩⟩, hgl, fun _ _ h => .inl h, hv, by simp; omega, rfl, fun k => ?_, fun k j b hkj h1 h2 => hap k j b hkj (own k b h1) (own j b h2)⟩
  cases hx : xs[k]? with
  | none =>
    rw [sn xs H 0 k (.inr (by simpa using hx))]
    rcases ue hH k with e | ⟨e, _⟩
    · rw [e]; simp only [Holds]
    · exact (hh k).reown e (fun b _ _ h => h)
  | some x =>
    have := sh xs H 0 k x hx
    rw [Nat.zero_add] at this
    rw [this]
    obtain ⟨v, h1, h2⟩ := valSs_get hargs hx
    have hk : k < args.length := (List.getElem?_eq_some_iff.1 h1).1
    have hsl := List.all_eq_true.1 hs x (List.mem_of_getElem? hx)
    refine Holds.slot (by simp; omega) (rA hsl ?_)
    have : (List.toArray args ++ Array.replicate (N - (List.toArray args).size) Go.undef).getD k Go.undef = v := by
      rw [Array.getD_eq_getD_getElem?]
      rw [Array.getElem?_append_left (by simpa using hk)]
      simp [h1]
    rw [this]; exact h2
def retOneM (P : Program) (st : St) (rv : ResultVar) (r : SV) : Prop :=
  (∃ y, r = .imm y ∧ retOne P st rv y) ∨ (∃ t, rv = .tmp t ∧ look st t = r ∧ r.slotty = true)
def retAllM (P : Program) (st : St) : List ResultVar → List SV → Prop
  | [], [] => True
  | x :: xs, r :: rs => retOneM P st x r ∧ retAllM P st xs rs
  | _, _ => False
theorem ret_one {C : Cx} {st : St} {G : Gh} {a : Act} {w : World} (S : SimG C (look st) G a w) {x : ResultVar} {r : AV} (h : retOne C.P st x r) : ∃ v, (rvSem a.tmps x).run C.P w = .ok v w ∧ Rep w G.I r v := by
  obtain ⟨vs, h1, h2⟩ := ret_run S [x] [r] ⟨h, trivial⟩
  simp only [List.mapM_cons, List.mapM_nil, Sem.run_bind, Sem.run_pure] at h1
  cases hx : (rvSem a.tmps x).run C.P w with
  | ok v w1 =>
    rw [hx] at h1
    simp only [Result.andThen_ok, Result.ok.injEq] at h1
    obtain ⟨rfl, rfl⟩ := h1
    obtain ⟨v', h3, h4⟩ := tQ (j := 0) h2 rfl
    simp at h3; subst h3
    exact ⟨v, rfl, h4⟩
  | halt s w1 => rw [hx] at h1; simp [Result.andThen] at h1
theorem ret_runM {C : Cx} {st : St} {G : Gh} {a : Act} {w : World} (S : SimG C (look st) G a w) : ∀ (xs : List ResultVar) (rs : List SV), retAllM C.P st xs rs →
    ∃ vs, (xs.mapM (rvSem a.tmps)).run C.P w = .ok vs w ∧ wF w G rs vs
  | [], [], _ => ⟨[], by simp, rfl⟩
  | [], _ :: _, h => h.elim
  | _ :: _, [], h => h.elim
  | x :: xs, r :: rs, h => by
    obtain ⟨h1, h2⟩ := h
    obtain ⟨vs, h3, h4⟩ := ret_runM S xs rs h2
    have key : ∃ v, (rvSem a.tmps x).run C.P w = .ok v w ∧ ValS w G r v := by
      rcases h1 with ⟨y, rfl, h1⟩ | ⟨t, rfl, h1, hs⟩
      · obtain ⟨v, k1, k2⟩ := ret_one S h1
        exact ⟨v, k1, yg.2 k2⟩
      · exact ⟨_, rfl, uW hs (S.slot h1 (SV.slotty_res hs))⟩
    obtain ⟨v, m1, m2⟩ := key
    exact ⟨v :: vs, by simp only [List.mapM_cons, Sem.run_bind, m1, Result.andThen_ok, h3, Sem.run_pure], v, vs, rfl, m2, h4⟩
def resM : List SV → SV
  | [r] => r
  | rs => .tup rs
def PostM (P : Program) (fn : Func) (rs : List SV) (H' : St) : Exit → St → Prop
  | .normal, st => retAllM P st fn.results.toList rs ∧ sub st H'
  | .ret, st => retAllM P st fn.results.toList rs ∧ sub st H'
  | _, _ => False
theorem vE {P : Program} {Γ : List (Nat × AV)} {f : FuncId} {fn : Func} {c : Code} {N : Nat} {xs rs : List SV} {H H' : St} (hf : P.funcs[f]? = some fn) (hb : fn.body = some c) (hnt : fn.ntmps = N) (hcal : u6 P f = true)
    (hN : Nat.ble xs.length N = true) (hH : tZ N H = true) (hH' : tZ 0 H' = true) (hs : xs.all SV.slotty = true) (hrs : rs.all SV.slotty = true)
    (h : ∀ w0 I0 G0 E, AW ⟨P, w0, I0, E, N, 100000, G0, Γ, [], none⟩ c (te 0 xs H) (PostM P fn rs H')) : tE P Γ f xs H (resM rs) H' := by
  refine ⟨hcal, fun w G args hpre => ?_⟩
  refine calls_of_wp hf hb ?_
  rw [hnt]
  have S0 := start_simM (P := P) (K := 100000) hpre (Nat.le_of_ble_eq_true hN) hH hs
  refine wp_mono ((wpIn_wide (n := 0)).1 (h w G.I G (HOwn G H) _ w S0 0)) ?_
  rintro e a' w' ⟨st', q, G', S⟩
  have fin : retAllM P st' fn.results.toList rs ∧ sub st' H' → a'.defers = [] ∧ ∃ v, (results fn a'.tmps).run P w' = .ok v w' ∧ MPost w G 100000 H (resM rs) H' (.returned v) w' := by
    rintro ⟨q, hsub⟩
    refine ⟨S.dfs, ?_⟩
    obtain ⟨vs, h1, h2⟩ := ret_runM S _ _ q
    have hrun : (results fn a'.tmps).run P w' = .ok (if h : vs.length = 1 then vs[0] else .tuple (List.toArray vs)) w' := by
      have e : results fn a'.tmps = (do let vs ← fn.results.mapM (rvSem a'.tmps); pure (if h : vs.size = 1 then vs[0] else .tuple vs)) := by
        unfold results
        congr 1
      rw [e, Array.mapM_eq_mapM_toList]
      simp only [Sem.run_bind, Sem.run_map, h1, Result.andThen_ok, Sem.run_pure]
      simp
    have hlen := valSs_len h2
    have hdead : ∀ k, look H' k = .dead ∨ (look H' k = look st' k ∧ (look H' k).res = true) := by
      intro k
      rcases jL hsub k with e | e
      · exact .inl e
      · rcases ue hH' k with e' | ⟨e', _⟩
        · exact .inl e'
        · exact .inr ⟨e, e'⟩
    refine ⟨_, hrun, _, G', rfl, S.os, S.tape, S.output, S.size, S.block, S.sub, S.new, S.val, S.rel, fun k => ?_, fun k j b hkj k1 k2 => ?_, ?_⟩
    · rcases hdead k with e | ⟨e, hr⟩
      · rw [e]; simp only [Holds]
      · have := S.holds k
        rw [← e] at this
        exact this.reown hr (fun b _ _ h => h)
    · rcases hdead k with e | ⟨e, _⟩
      · rw [e] at k1; simp only [zm] at k1
      · rcases hdead j with e' | ⟨e', _⟩
        · rw [e'] at k2; simp only [zm] at k2
        · rw [e] at k1; rw [e'] at k2; exact S.apart k j b hkj k1 k2
    · match rs, h2, hrs with
      | [], h2, _ =>
        simp only [wF] at h2; subst h2
        simp only [resM, xZ]
        exact ⟨[], rfl, rfl⟩
      | [r], h2, hrs =>
        obtain ⟨v, q', rfl, h3, rfl⟩ := h2
        simp only [resM]
        exact rA (by simpa using hrs) (by simpa using h3)
      | r :: s :: rs, h2, _ =>
        have : ¬ vs.length = 1 := by simp at hlen; omega
        rw [dif_neg this]
        simp only [resM, xZ]
        exact ⟨vs, rfl, h2⟩
  cases e <;> first | exact fin q | exact q.elim
def argsOk (σ : List (Nat × Nat)) : List SV → List SV → Prop
  | [], [] => True
  | a :: as, x :: xs => (a = x.ren σ ∨ ∃ y, toAV a = some y ∧ x = .imm y) ∧ argsOk σ as xs
  | _, _ => False
theorem argsOk_spec {w : World} {G : Gh} {σ : List (Nat × Nat)} : ∀ {as xs : List SV} {vs : List Value}, argsOk σ as xs → wF w G as vs → wF w (G.at (ren σ)) xs vs
  | [], [], _, _, r => r
  | a :: as, x :: xs, vs, ⟨h1, h2⟩, ⟨v, r, e, h3, h4⟩ => by
    refine ⟨v, r, e, ?_, argsOk_spec h2 h4⟩
    rcases h1 with rfl | ⟨y, hy, rfl⟩
    · exact vw.1 h3
    · obtain ⟨c, k1, k2⟩ := h3
      exact yg.2 ⟨c, uD (G := G) a y c hy k1, by rw [k2, mkS, mkV, rG hy]⟩
  | [], _ :: _, _, h, _ => h.elim
  | _ :: _, [], _, h, _ => h.elim
def opSl (A : Nat → SV) (xs : List Operand) : List SV := xs.map (opS A)
theorem rJ {A A' : Nat → SV} : ∀ {xs : List Operand}, (∀ k ∈ opRs xs, A' k = A k) → opSl A' xs = opSl A xs
  | [], _ => rfl
  | x :: xs, h => by
    simp only [opSl, List.map_cons]
    rw [yd (fun k hk => h k (List.mem_append_left _ hk))]
    have := rJ (A := A) (A' := A') (xs := xs) (fun k hk => h k (List.mem_append_right _ hk))
    simp only [opSl] at this
    rw [this]
theorem SimG.opSl {C : Cx} {A : Nat → SV} {G : Gh} {a : Act} {w : World} (S : SimG C A G a w) : ∀ {xs : List Operand}, (Al.opSl A xs).all SV.slotty = true → wF w G (Al.opSl A xs) (xs.map a.eval)
  | [], _ => rfl
  | x :: xs, h => by
    simp only [Al.opSl, List.map_cons, List.all_cons, Bool.and_eq_true] at h
    exact ⟨_, _, rfl, uW h.1 (S.opS rfl (SV.slotty_res h.1)), SimG.opSl S h.2⟩
theorem sU {w : World} {G : Gh} : ∀ {xs ys : List SV} {us vs : List Value}, wF w G xs us → wF w G ys vs → wF w G (xs ++ ys) (us ++ vs)
  | [], _, _, _, h1, h2 => by simp only [wF] at h1; subst h1; exact h2
  | x :: xs, ys, us, vs, ⟨v, r, e, h3, h4⟩, h2 => by subst e; exact ⟨v, _, rfl, h3, sU h4 h2⟩
theorem repSv_val {w : World} {G : Gh} : ∀ {xs : List SV} {vs : List Value}, wy w G xs vs → wF w G xs vs
  | [], _, h => by simpa only [wy, wF] using h
  | x :: xs, vs, h => by
    simp only [wy] at h
    obtain ⟨c, r, h1, h2, h3⟩ := h
    exact ⟨_, r, h1, ⟨c, h2, rfl⟩, repSv_val h3⟩
def cod (σ : List (Nat × Nat)) : List Nat := σ.map (·.2)
def dom (σ : List (Nat × Nat)) : List Nat := σ.map (·.1)
def yq : List Nat → Bool
  | [] => true
  | x :: xs => !(xs.elem x) && yq xs
theorem ren_mem {σ : List (Nat × Nat)} : ∀ {k : Nat}, k ∈ dom σ → ren σ k ∈ cod σ := by
  induction σ with
  | nil => intro k h; cases h
  | cons p r ih =>
    intro k h
    obtain ⟨f, a⟩ := p
    simp only [ren]
    cases hb : Nat.beq f k
    · simp only [dom, List.map_cons, List.mem_cons] at h
      rcases h with h | h
      · subst h; rw [Nat.beq_refl] at hb; cases hb
      · exact List.mem_cons_of_mem _ (ih h)
    · exact List.mem_cons_self
theorem ren_inj {σ : List (Nat × Nat)} (hc : yq (cod σ) = true) : ∀ {j k : Nat}, j ∈ dom σ → k ∈ dom σ → ren σ j = ren σ k → j = k := by
  induction σ with
  | nil => intro j k h; cases h
  | cons p r ih =>
    intro j k hj hk h
    obtain ⟨f, a⟩ := p
    simp only [cod, List.map_cons, yq, Bool.and_eq_true, Bool.not_eq_true'] at hc
    have hne : ∀ i, i ∈ dom r → ren r i ≠ a := by
      intro i hi e
      have := ren_mem hi
      rw [e] at this
      have h2 : (List.map (fun x => x.2) r).elem a = true := List.elem_eq_true_of_mem this
      rw [h2] at hc
      exact absurd hc.1 (by simp)
    have hmem : ∀ i, i ∈ dom ((f, a) :: r) → Nat.beq f i = false → i ∈ dom r := by
      intro i hi hb
      simp only [dom, List.map_cons, List.mem_cons] at hi
      rcases hi with rfl | hi
      · rw [Nat.beq_refl] at hb; cases hb
      · exact hi
    simp only [ren] at h
    cases hbj : Nat.beq f j <;> cases hbk : Nat.beq f k <;> rw [hbj, hbk] at h <;> simp only [cond_true, cond_false] at h
    · exact ih hc.2 (hmem j hj hbj) (hmem k hk hbk) h
    · exact absurd h (hne j (hmem j hj hbj))
    · exact absurd h.symm (hne k (hmem k hk hbk))
    · rw [← Nat.eq_of_beq_eq_true hbj, ← Nat.eq_of_beq_eq_true hbk]
theorem ren_surj {σ : List (Nat × Nat)} (hd : yq (dom σ) = true) : ∀ {g : Nat}, g ∈ cod σ → ∃ k, k ∈ dom σ ∧ ren σ k = g := by
  induction σ with
  | nil => intro g h; cases h
  | cons p r ih =>
    intro g h
    obtain ⟨f, a⟩ := p
    simp only [dom, List.map_cons, yq, Bool.and_eq_true, Bool.not_eq_true'] at hd
    simp only [cod, List.map_cons, List.mem_cons] at h
    rcases h with rfl | h
    · exact ⟨f, List.mem_cons_self, by simp [ren, Nat.beq_refl]⟩
    · obtain ⟨k, h1, h2⟩ := ih hd.2 h
      refine ⟨k, List.mem_cons_of_mem _ h1, ?_⟩
      have : f ≠ k := by
        rintro rfl
        have h3 : (List.map (fun x => x.1) r).elem f = true := List.elem_eq_true_of_mem h1
        rw [h3] at hd
        exact absurd hd.1 (by simp)
      simp only [ren, zM this, cond_false]; exact h2
def ut (σ : List (Nat × Nat)) (H' : St) : St := σ.map fun p => (p.2, (look H' p.1).ren σ)
theorem postOf_has {σ : List (Nat × Nat)} {H' : St} {g : Nat} : has (ut σ H') g = true ↔ g ∈ cod σ := by
  rw [sg]
  simp only [xS, ut, cod, List.map_map]
  exact Iff.rfl
theorem postOf_look {σ : List (Nat × Nat)} {H' : St} (hd : yq (dom σ) = true) (hc : yq (cod σ) = true) (A : Nat → SV) {k : Nat} (hk : k ∈ dom σ) : upd A (ut σ H') (ren σ k) = (look H' k).ren σ := by
  have key : ∀ (τ : List (Nat × Nat)), (∀ p ∈ τ, ren σ p.1 = p.2 ∧ p.1 ∈ dom σ) → k ∈ dom τ → upd A (τ.map fun p => (p.2, (look H' p.1).ren σ)) (ren σ k) = (look H' k).ren σ := by
    intro τ
    induction τ with
    | nil => intro _ h; cases h
    | cons p r ih =>
      intro hp hk'
      obtain ⟨f, a⟩ := p
      obtain ⟨h1, h2⟩ := hp (f, a) List.mem_cons_self
      simp only at h1 h2
      simp only [List.map_cons, upd]
      by_cases hfk : f = k
      · subst hfk; rw [h1, Nat.beq_refl]; rfl
      · have : a ≠ ren σ k := by
          intro e; rw [← h1] at e; exact hfk (ren_inj hc h2 hk e)
        rw [zM this]
        simp only [cond_false]
        refine ih (fun p hp' => hp p (List.mem_cons_of_mem _ hp')) ?_
        simp only [dom, List.map_cons, List.mem_cons] at hk'
        rcases hk' with e | h
        · exact absurd e.symm hfk
        · exact h
  refine key σ ?_ hk
  have aux : ∀ (τ : List (Nat × Nat)), yq (dom τ) = true → ∀ p ∈ τ, ren τ p.1 = p.2 := by
    intro τ
    induction τ with
    | nil => intro _ p h; cases h
    | cons q r ih =>
      intro h p hp
      obtain ⟨f, a⟩ := q
      simp only [dom, List.map_cons, yq, Bool.and_eq_true, Bool.not_eq_true'] at h
      rcases List.mem_cons.1 hp with rfl | hp'
      · simp [ren, Nat.beq_refl]
      · have hne : f ≠ p.1 := by
          rintro rfl
          have h3 : (List.map (fun x => x.1) r).elem p.1 = true := List.elem_eq_true_of_mem (List.mem_map_of_mem hp')
          rw [h3] at h
          exact absurd h.1 (by simp)
        simp only [ren, zM hne, cond_false]
        exact ih h.2 p hp'
  exact fun p hp => ⟨aux σ hd p hp, List.mem_map_of_mem hp⟩
def newOf (σ : List (Nat × Nat)) : List Nat := (σ.filter fun p => Nat.blt p.1 100000).map (·.2)
def jR (A : Nat → SV) (σ : List (Nat × Nat)) : St → Prop
  | [] => True
  | (k, x) :: r => A (ren σ k) = x.ren σ ∧ jR A σ r
def rT (σ : List (Nat × Nat)) (l : List Nat) : Bool := l.all fun g => (dom σ).elem g
theorem t9 {A : Nat → SV} {σ : List (Nat × Nat)} : ∀ {H : St}, jR A σ H → ∀ k, look H k = .dead ∨ (A (ren σ k) = (look H k).ren σ ∧ k ∈ xS H)
  | [], _, k => .inl rfl
  | (j, x) :: r, ⟨h1, h2⟩, k => by
    simp only [look, upd]
    cases hb : Nat.beq j k
    · rcases t9 h2 k with e | ⟨e, e2⟩
      · exact .inl e
      · exact .inr ⟨e, by simp only [xS, List.map_cons]; exact List.mem_cons_of_mem _ e2⟩
    · have := Nat.eq_of_beq_eq_true hb
      subst this
      exact .inr ⟨h1, List.mem_cons_self⟩
theorem s_ {A A' : Nat → SV} {σ : List (Nat × Nat)} (h : ∀ g ∈ cod σ, A' g = A g) : ∀ {H : St}, (∀ k ∈ xS H, k ∈ dom σ) → jR A σ H → jR A' σ H
  | [], _, _ => trivial
  | (j, x) :: r, hk, ⟨h1, h2⟩ => ⟨(h _ (ren_mem (hk j List.mem_cons_self))).trans h1, s_ h (fun k hk' => hk k (List.mem_cons_of_mem _ hk')) h2⟩
def inv : List (Nat × Nat) → Nat → Option Nat
  | [], _ => none
  | (f, a) :: r, g => bif Nat.beq a g then some f else inv r g
theorem inv_ren {σ : List (Nat × Nat)} (hd : yq (dom σ) = true) (hc : yq (cod σ) = true) {k : Nat} (hk : k ∈ dom σ) : inv σ (ren σ k) = some k := by
  have key : ∀ (τ : List (Nat × Nat)), (∀ p ∈ τ, ren σ p.1 = p.2 ∧ p.1 ∈ dom σ) → k ∈ dom τ → inv τ (ren σ k) = some k := by
    intro τ
    induction τ with
    | nil => intro _ h; cases h
    | cons p r ih =>
      intro hp hk'
      obtain ⟨f, a⟩ := p
      obtain ⟨h1, h2⟩ := hp (f, a) List.mem_cons_self
      simp only at h1 h2
      simp only [inv]
      by_cases hfk : f = k
      · subst hfk; rw [h1, Nat.beq_refl]; rfl
      · have : a ≠ ren σ k := by
          intro e; rw [← h1] at e; exact hfk (ren_inj hc h2 hk e)
        rw [zM this]
        simp only [cond_false]
        refine ih (fun p hp' => hp p (List.mem_cons_of_mem _ hp')) ?_
        simp only [dom, List.map_cons, List.mem_cons] at hk'
        rcases hk' with e | h
        · exact absurd e.symm hfk
        · exact h
  refine key σ ?_ hk
  have aux : ∀ (τ : List (Nat × Nat)), yq (dom τ) = true → ∀ p ∈ τ, ren τ p.1 = p.2 := by
    intro τ
    induction τ with
    | nil => intro _ p h; cases h
    | cons q r ih =>
      intro h p hp
      obtain ⟨f, a⟩ := q
      simp only [dom, List.map_cons, yq, Bool.and_eq_true, Bool.not_eq_true'] at h
      rcases List.mem_cons.1 hp with rfl | hp'
      · simp [ren, Nat.beq_refl]
      · have hne : f ≠ p.1 := by
          rintro rfl
          have h3 : (List.map (fun x => x.1) r).elem p.1 = true := List.elem_eq_true_of_mem (List.mem_map_of_mem hp')
          rw [h3] at h
          exact absurd h.1 (by simp)
        simp only [ren, zM hne, cond_false]
        exact ih h.2 p hp'
  exact fun p hp => ⟨aux σ hd p hp, List.mem_map_of_mem hp⟩
theorem inv_none {σ : List (Nat × Nat)} : ∀ {g : Nat}, g ∉ cod σ → inv σ g = none := by
  induction σ with
  | nil => intro g _; rfl
  | cons p r ih =>
    intro g h
    obtain ⟨f, a⟩ := p
    simp only [cod, List.map_cons, List.mem_cons, not_or] at h
    simp only [inv, zM (Ne.symm h.1), cond_false]
    exact ih h.2
def ve (G G' : Gh) (σ : List (Nat × Nat)) : Gh :=
  ⟨G'.I, fun g => match inv σ g with | some k => G'.blk k | none => G.blk g, fun g => match inv σ g with | some k => G'.cur k | none => G.cur g, fun g => match inv σ g with | some k => G'.len k | none => G.len g⟩
def renOk (N K : Nat) (σ : List (Nat × Nat)) (H H' : St) (r : SV) : Bool :=
  yq (dom σ) && yq (cod σ) && rT σ (xS H) && rT σ (xS H') && rT σ (uF H') && rT σ (wd r) && (cod σ).all (Nat.ble N ·) && (newOf σ).all (Nat.blt · K) && (xS H).all (fun k => Nat.ble 100000 k)
theorem vI {σ : List (Nat × Nat)} {l : List Nat} (h : rT σ l = true) : ∀ g ∈ l, g ∈ dom σ := fun g hg => by
  have := List.all_eq_true.1 h g hg
  exact List.elem_iff.1 this
theorem ments_look : ∀ (H : St) (k : Nat), ∀ g ∈ wd (look H k), g ∈ uF H
  | [], k, g, h => by simp [look, upd, wd] at h
  | (j, x) :: r, k, g, h => by
    simp only [look, upd] at h
    simp only [uF, List.mem_append]
    cases hb : Nat.beq j k <;> rw [hb] at h
    · exact .inr (ments_look r k g h)
    · exact .inl h
theorem SimG.mcalled {C : Cx} {A : Nat → SV} {G : Gh} {a : Act} {w w' : World} (S : SimG C A G a w) {σ : List (Nat × Nat)} {H H' : St} {r : SV} {v : Value} {G' : Gh}
    (hok : renOk C.N C.K σ H H' r = true) (hres : tZ 0 H = true) (hres' : tZ 0 H' = true) (hH : jR A σ H) (hF : ∀ k, k ∉ cod σ → noG (newOf σ) (A k) = true)
    (D : MDone w (G.at (ren σ)) 100000 H r H' w' v G') :
    SimG C (upd A (ut σ H')) (ve G G' σ) a w' ∧ xZ w' (ve G G' σ) (r.ren σ) v := by
  simp only [renOk, Bool.and_eq_true] at hok
  obtain ⟨⟨⟨⟨⟨⟨⟨⟨hd, hc⟩, hkH⟩, hkH'⟩, hmH'⟩, hmr⟩, hcN⟩, hnK⟩, h105⟩ := hok
  have hkH := vI hkH
  have hkH' := vI hkH'
  have hmH' := vI hmH'
  have hmr := vI hmr
  -- the merged ghosts, by formal names
  have hat : ∀ k ∈ dom σ, (ve G G' σ).blk (ren σ k) = G'.blk k ∧ (ve G G' σ).cur (ren σ k) = G'.cur k ∧ (ve G G' σ).len (ren σ k) = G'.len k := by
    intro k hk
    simp only [ve, inv_ren hd hc hk]; exact ⟨trivial, trivial, trivial⟩
  have hoff : ∀ g, g ∉ cod σ → (ve G G' σ).blk g = G.blk g ∧ (ve G G' σ).cur g = G.cur g ∧ (ve G G' σ).len g = G.len g := by
    intro g hg
    simp only [ve, inv_none hg]; exact ⟨trivial, trivial, trivial⟩
  have hag : ∀ l : List Nat, (∀ g ∈ l, g ∈ dom σ) → rc l G' ((ve G G' σ).at (ren σ)) := fun l hl g hg => by
    obtain ⟨e1, e2, e3⟩ := hat g (hl g hg)
    exact ⟨e1, e2, e3⟩
  have hIe : ((ve G G' σ).at (ren σ)).I = G'.I := rfl
  -- what is owned by the handed-over memory
  have hown : ∀ b, HOwn (G.at (ren σ)) H b → ∃ k, k ∈ dom σ ∧ zm G (ren σ k) b (A (ren σ k)) := by
    rintro b ⟨k, hb⟩
    rcases t9 hH k with e | ⟨e, hk⟩
    · rw [e] at hb; simp only [zm] at hb
    · exact ⟨k, hkH k hk, by rw [e]; exact ownsB_ren.2 hb⟩
  have hownE : ∀ b, HOwn (G.at (ren σ)) H b → C.w0.heap.size ≤ b ∨ C.E b := by
    intro b hb
    obtain ⟨k, _, h⟩ := hown b hb
    exact ((S.holds _).owned h).1
  -- how the ghosts turn
  have hturn : ∀ g, g ∉ newOf σ → Turns G (ve G G' σ) g := by
    intro g hg
    by_cases hgc : g ∈ cod σ
    · obtain ⟨k, hk, rfl⟩ := ren_surj hd hgc
      have hk5 : 100000 ≤ k := by
        rcases Nat.lt_or_ge k 100000 with h | h
        · refine absurd ?_ hg
          have aux : ∀ (τ : List (Nat × Nat)), k ∈ dom τ → ren τ k ∈ newOf τ := by
            intro τ
            induction τ with
            | nil => intro h; cases h
            | cons p r ih =>
              intro hk'
              obtain ⟨f, a⟩ := p
              simp only [ren]
              cases hb : Nat.beq f k
              · simp only [dom, List.map_cons, List.mem_cons] at hk'
                rcases hk' with e | e
                · subst e; rw [Nat.beq_refl] at hb; cases hb
                · have := ih e
                  simp only [cond_false]
                  simp only [newOf, List.filter_cons] at this ⊢
                  split
                  · exact List.mem_cons_of_mem _ this
                  · exact this
              · have := Nat.eq_of_beq_eq_true hb
                subst this
                simp only [cond_true, newOf, List.filter_cons]
                rw [if_pos (by simpa [Nat.blt_eq] using h)]
                exact List.mem_cons_self
          exact aux σ hk
        · exact h
      obtain ⟨e1, e2, e3⟩ := hat k hk
      have := D.rel k hk5
      refine ⟨by rw [e1]; exact this.1, ?_⟩
      rw [e2, e3]; exact this.2
    · obtain ⟨e1, e2, e3⟩ := hoff g hgc
      exact ⟨e1, .inl ⟨e2, e3⟩⟩
  have hrel : GRel (newOf σ) G (ve G G' σ) := fun g hg => hturn g hg
  have hle : Le w G.I w' (ve G G' σ).I := D.le
  have hnK' : ∀ g ∈ newOf σ, g < C.K := fun g hg => by simpa [Nat.blt_eq] using List.all_eq_true.1 hnK g hg
  -- the states of keys
  have hin : ∀ k ∈ dom σ, upd A (ut σ H') (ren σ k) = (look H' k).ren σ := fun k hk => postOf_look hd hc A hk
  have hout : ∀ g, g ∉ cod σ → upd A (ut σ H') g = A g := fun g hg => vM _ _ _ (by
    cases hh : has (ut σ H') g
    · rfl
    · exact absurd (postOf_has.1 hh) hg)
  have howned' : ∀ k b, zm G' k b (look H' k) → (w.heap.size ≤ b ∨ HOwn (G.at (ren σ)) H b) ∧ b < w'.heap.size := fun k b hb => (D.holds k).owned hb
  -- who owns what, behind it
  have conv : ∀ g b, zm (ve G G' σ) g b (upd A (ut σ H') g) → (∃ k, k ∈ dom σ ∧ g = ren σ k ∧ zm G' k b (look H' k)) ∨ (g ∉ cod σ ∧ zm G g b (A g)) := by
    intro g b hb
    by_cases hgc : g ∈ cod σ
    · obtain ⟨k, hk, rfl⟩ := ren_surj hd hgc
      rw [hin k hk] at hb
      have := ownsB_ren.1 hb
      obtain ⟨e1, e2, e3⟩ := hat k hk
      exact .inl ⟨k, hk, rfl, (uf (G1 := G') (G2 := (ve G G' σ).at (ren σ)) ⟨e1, e2, e3⟩).1 this⟩
    · rw [hout g hgc] at hb
      obtain ⟨e1, e2, e3⟩ := hoff g hgc
      exact .inr ⟨hgc, (uf ⟨e1, e2, e3⟩).1 hb⟩
  have hsep : ∀ g b, g ∉ cod σ → zm G g b (A g) → b < w.heap.size ∧ ¬ HOwn (G.at (ren σ)) H b := by
    intro g b hg hb
    refine ⟨vr S hb, fun h => ?_⟩
    obtain ⟨k, hk, hkb⟩ := hown b h
    exact S.apart (ren σ k) g b (by rintro rfl; exact hg (ren_mem hk)) hkb hb
  refine ⟨⟨D.os.trans S.os, D.tape.trans S.tape, D.output.trans S.output, Nat.le_trans S.size D.size, fun k h1 h2 => ?_, S.sub.trans hle, fun g hg => ?_, S.glob.mono hle, fun b o h => ?_, D.val, S.nts, S.dfs, fun g => ?_, fun g j b hgj h1 h2 => ?_⟩, ?_⟩
  · rw [D.block k (Nat.lt_of_lt_of_le h1 S.size) (fun h => by
      rcases hownE k h with h | h
      · omega
      · exact h2 h)]
    exact S.block k h1 h2
  · exact (S.rel g hg).trans (hturn g (fun h => by have := hnK' g h; omega))
  · rcases D.new b o h with h | h | h
    · exact S.new b o h
    · exact .inr (.inl (Nat.le_trans S.size h))
    · exact .inr (hownE b h)
  · by_cases hgc : g ∈ cod σ
    · obtain ⟨k, hk, rfl⟩ := ren_surj hd hgc
      rw [hin k hk]
      rcases ue hres' k with e | ⟨e, _⟩
      · rw [e]; simp only [SV.ren, Holds]
      · refine (holds_ren e).2 ?_
        have h1 := D.holds k
        have h2 : Holds w (HOwn (G.at (ren σ)) H) ((ve G G' σ).at (ren σ)) act0 w' k (look H' k) := h1.agree hIe e (hag _ (fun g hg => by
          rcases List.mem_cons.1 hg with rfl | hg
          · exact hk
          · exact hmH' g (ments_look H' k g hg)))
        refine h2.reown e fun b hb _ ho => ?_
        rcases ho with ho | ho
        · exact .inl (Nat.le_trans S.size ho)
        · exact hownE b ho
    · rw [hout g hgc]
      refine (S.holds g).keep hle hrel (hF g hgc) D.size (fun h => ⟨h, rfl⟩) (fun _ => hoff g hgc) (fun b hb => ?_)
      obtain ⟨h1, h2⟩ := hsep g b hgc hb
      refine ⟨D.block b h1 h2, fun o hi => ?_⟩
      rcases D.new b o hi with h | h | h
      · exact h
      · omega
      · exact absurd h h2
  · rcases conv g b h1 with ⟨k, hk, rfl, e1⟩ | ⟨hg, e1⟩
    · rcases conv j b h2 with ⟨k', hk', rfl, e2⟩ | ⟨hj, e2⟩
      · exact D.apart k k' b (by rintro rfl; exact hgj rfl) e1 e2
      · obtain ⟨h3, h4⟩ := hsep j b hj e2
        rcases (howned' k b e1).1 with h | h
        · omega
        · exact h4 h
    · rcases conv j b h2 with ⟨k', hk', rfl, e2⟩ | ⟨hj, e2⟩
      · obtain ⟨h3, h4⟩ := hsep g b hg e1
        rcases (howned' k' b e2).1 with h | h
        · omega
        · exact h4 h
      · exact S.apart g j b hgj e1 e2
  · exact slotS_ren.2 (D.res.agree hIe (hag _ hmr))
theorem SimG.mpre {C : Cx} {A : Nat → SV} {G : Gh} {a : Act} {w : World} (S : SimG C A G a w) {σ : List (Nat × Nat)} {H : St} {as xs : List SV} {vs : List Value} (hres : tZ 0 H = true) (hc : yq (cod σ) = true) (hkH : ∀ k ∈ xS H, k ∈ dom σ)
    (hH : jR A σ H) (hv : wF w G as vs) (ha : argsOk σ as xs) : MPre C.Γ w (G.at (ren σ)) xs H vs := by
  refine ⟨S.val, S.glob, argsOk_spec ha hv, fun k => ?_, fun k j b hkj h1 h2 => ?_⟩
  · rcases t9 hH k with e | ⟨e, hk⟩
    · rw [e]; simp only [Holds]
    · rcases ue hres k with e' | ⟨e', _⟩
      · rw [e']; simp only [Holds]
      · have h := S.holds (ren σ k)
        rw [e] at h
        exact ((holds_ren e').1 h).reown e' fun b hb _ _ => .inr ⟨k, hb⟩
  · have conv : ∀ k, zm (G.at (ren σ)) k b (look H k) → k ∈ dom σ ∧ zm G (ren σ k) b (A (ren σ k)) := by
      intro k hb
      rcases t9 hH k with e | ⟨e, hk⟩
      · rw [e] at hb; simp only [zm] at hb
      · exact ⟨hkH k hk, by rw [e]; exact ownsB_ren.2 hb⟩
    obtain ⟨e1, e2⟩ := conv k h1
    obtain ⟨e3, e4⟩ := conv j h2
    exact S.apart _ _ b (fun e => hkj (ren_inj hc e1 e3 e)) e2 e4
section
variable {C : Cx} {A : Nat → SV} {d : Nat} {ty : TypeId} {pos : String} {af : Array Edge} {gd : Option (Nat × Bool)} {x y : Operand} {T T' : TypeId}
def fnOf : SV → Option (FuncId × List SV × List SV)
  | .fnv (.func f) a b => some (f, a, b)
  | .imm (.fn (.func f) a b) => some (f, a.map .imm, b.map .imm)
  | _ => none
theorem th {w : World} {G : Gh} : ∀ {xs : List AV} {vs : List Value}, yc w G.I xs vs → wF w G (xs.map .imm) vs
  | [], _, h => by simpa only [yc, List.map_nil, wF] using h
  | x :: xs, vs, h => by
    simp only [yc] at h
    obtain ⟨c, r, h1, h2, h3⟩ := h
    exact ⟨_, r, h1, yg.2 ⟨c, h2, rfl⟩, th h3⟩
theorem fnOf_spec {w : World} {G : Gh} {x : SV} {f : FuncId} {first caps : List SV} {v : Value} (h : fnOf x = some (f, first, caps)) (hx : xZ w G x v) :
    ∃ fs gs, v = .func (.func f) (List.toArray fs) (List.toArray gs) ∧ wF w G first fs ∧ wF w G caps gs := by
  unfold fnOf at h
  split at h
  · cases h
    obtain ⟨c, h1, h2⟩ := hx
    simp only [RepS] at h1
    obtain ⟨fs, gs, rfl, h3, h4⟩ := h1
    exact ⟨fs, gs, h2, repSv_val h3, repSv_val h4⟩
  · cases h
    obtain ⟨c, h1, h2⟩ := yg.1 hx
    simp only [RepC] at h1
    obtain ⟨fs, gs, rfl, h3, h4⟩ := h1
    exact ⟨fs, gs, h2, th h3, th h4⟩
  · cases h
theorem fnOf_res {x : SV} {p : FuncId × List SV × List SV} (h : fnOf x = some p) : x.res = false := by
  cases x <;> first | rfl | cases h
def sY (d : Option Nat) (r : SV) : St := match d with | some d => [(d, r)] | none => []
def dstOk (N : Nat) (d : Option Nat) (r : SV) : Bool := match d with | some d => Nat.blt d N | none => true
theorem tt {d : Option Nat} {f : FuncId} {cal : Operand} {args : Array Operand} {ats : Array TypeId} {first caps xs : List SV} {H H' : St} {r : SV} (σ : List (Nat × Nat)) (hc : tE C.P C.Γ f xs H r H') (hN : dstOk C.N d (r.ren σ) = true)
    (hf : fnOf (opS A cal) = some (f, first, caps)) (hsl : (opSl A args.toList).all SV.slotty = true) (ha : argsOk σ (first ++ opSl A args.toList ++ caps) xs) (hH : jR A σ H)
    (hok : renOk C.N C.K σ H H' r = true) (hres : tZ 0 H = true) (hres' : tZ 0 H' = true) :
    zv C ⟨d, .call { callee := .value cal, args := args, argTypes := ats }, ty, pos, af, gd⟩ (cod σ ++ (opR cal ++ opRs args.toList)) (newOf σ) A (sY d (r.ren σ) ++ ut σ H') := by
  intro A' a w hR hF ⟨G, S⟩
  have hok0 := hok
  simp only [renOk, Bool.and_eq_true] at hok0
  obtain ⟨⟨⟨⟨⟨⟨⟨⟨hd, hcd⟩, hkH⟩, hkH'⟩, _⟩, _⟩, hcN⟩, _⟩, _⟩ := hok0
  rw [← yd (fun k hk => hR k (List.mem_append_right _ (List.mem_append_left _ hk)))] at hf
  have eS := rJ (A := A) (A' := A') (xs := args.toList) (fun k hk => hR k (List.mem_append_right _ (List.mem_append_right _ hk)))
  rw [← eS] at hsl ha
  have hH' := s_ (A := A) (A' := A') (fun g hg => hR g (List.mem_append_left _ hg)) (vI hkH) hH
  have hSc := S.opS rfl (fnOf_res hf)
  obtain ⟨fs, gs, hev, h3, h4⟩ := fnOf_spec hf hSc
  have hargs := S.opSl hsl
  have hvals := sU (sU h3 hargs) h4
  have hpre := S.mpre hres hcd (vI hkH) hH' hvals ha
  have hcall := hc.2 w _ _ hpre
  have hrun : (execOp a.eval ⟨d, .call { callee := .value cal, args := args, argTypes := ats }, ty, pos, af, gd⟩).run C.P w = .ok (.enter f (List.toArray (fs ++ args.toList.map a.eval ++ gs))) w := by
    simp only [execOp, resolve, hev, Deferred.ofValue, Sem.run_bind, Sem.run_pure, Result.andThen_ok, invoke, run_callFunc hc.1]
    congr 1
    simp
  unfold Oper.wp
  rw [hrun, Oper.upon_enter]
  refine hcall.mono ?_
  rintro e w' ⟨v, G', rfl, D⟩
  have hF' : ∀ k, k ∉ cod σ → noG (newOf σ) (A' k) = true ∨ d = some k := by
    intro k hk
    by_cases hdk : d = some k
    · exact .inr hdk
    · refine .inl (hF k ?_)
      cases hh : has (sY d (r.ren σ) ++ ut σ H') k
      · rfl
      · exfalso
        have h1 := (sg _ _).1 hh
        simp only [xS, List.map_append, List.mem_append] at h1
        rcases h1 with h1 | h1
        · cases d with
          | none => simp [sY] at h1
          | some d => simp [sY] at h1; exact hdk (by rw [h1])
        · exact hk (postOf_has.1 ((sg _ _).2 h1))
  cases d with
  | none =>
    obtain ⟨S', _⟩ := S.mcalled hok hres hres' hH' (fun k hk => (hF' k hk).resolve_right (by simp)) D
    exact ⟨_, by simpa [sY, Act.put] using S'⟩
  | some d =>
    have hdN : d < C.N := by simpa [dstOk, Nat.blt_eq] using hN
    have hdc : d ∉ cod σ := fun h => by
      have := Nat.le_of_ble_eq_true (List.all_eq_true.1 hcN d h)
      omega
    -- what stood in the slot of the result matters no more
    have Sw := S.weak (B := upd A' [(d, .dead)]) (fun k => by
      rw [wO]
      split
      · exact .inl rfl
      · exact .inr rfl)
    have hHw : jR (upd A' [(d, .dead)]) σ H := s_ (A := A') (fun g hg => by
      rw [wO, if_neg (by rintro rfl; exact hdc hg)]) (vI hkH) hH'
    obtain ⟨S', hv⟩ := Sw.mcalled hok hres hres' hHw (fun k hk => by
      rw [wO]
      split
      · rfl
      · rename_i hkd
        exact (hF' k hk).resolve_right (fun e => hkd (by cases e; rfl))) D
    have S2 := S'.put hdN hv
    have e : upd (upd (upd A' [(d, .dead)]) (ut σ H')) [(d, r.ren σ)] = upd A' (sY (some d) (r.ren σ) ++ ut σ H') := by
      funext k
      rw [wO]
      simp only [sY, List.cons_append, List.nil_append, upd]
      by_cases hkd : k = d
      · subst hkd; simp [Nat.beq_refl]
      · rw [if_neg hkd, zM (Ne.symm hkd)]
        simp only [cond_false]
        cases hh : has (ut σ H') k
        · rw [vM _ _ _ hh, vM _ _ _ hh]
          first | (rw [wO, if_neg hkd]; done) | (rw [zM (Ne.symm hkd)]; rfl)
        · exact j_ _ _ hh
    rw [e] at S2
    exact ⟨_, S2⟩
theorem vg {d : Option Nat} {f : FuncId} {args : Array Operand} {ats : Array TypeId} {xs : List SV} {H H' : St} {r : SV} (σ : List (Nat × Nat)) (hc : tE C.P C.Γ f xs H r H') (hN : dstOk C.N d (r.ren σ) = true)
    (hsl : (opSl A args.toList).all SV.slotty = true) (ha : argsOk σ (opSl A args.toList) xs) (hH : jR A σ H)
    (hok : renOk C.N C.K σ H H' r = true) (hres : tZ 0 H = true) (hres' : tZ 0 H' = true) :
    zv C ⟨d, .call { callee := .value (.func f), args := args, argTypes := ats }, ty, pos, af, gd⟩ (cod σ ++ opRs args.toList) (newOf σ) A (sY d (r.ren σ) ++ ut σ H') := by
  have := tt (C := C) (A := A) (d := d) (ty := ty) (pos := pos) (af := af) (gd := gd) (cal := .func f) (ats := ats) (first := []) (caps := []) σ hc hN rfl hsl (by simpa using ha) hH hok hres hres'
  exact this
end
end Go.Al
namespace Go.Al
open Go.RowKit
section
variable {w : World} {G : Gh} {g : Nat} {y : AV} {cs0 : List Value} (hy : RepC w G.I y cs0) (hc : xP w G.I (G.blk g) 0 cs0)
include hy hc
end
section
variable {C : Cx} {A : Nat → SV} {d : Nat} {ty : TypeId} {pos : String} {af : Array Edge} {gd : Option (Nat × Bool)} {x y : Operand} {T T' : TypeId}
theorem s_makeFunc {fn : Fn} {first caps : Array Operand} {fs cs : List AV} (hN : Nat.blt d C.N = true) (h1 : opVs A first.toList = some fs) (h2 : opVs A caps.toList = some cs) :
    zv C ⟨some d, .makeFunc fn first caps, ty, pos, af, gd⟩ (opRs first.toList ++ opRs caps.toList) [] A [(d, .imm (.fn fn fs cs))] := by
  refine zv.value rfl hN fun A' G a w hR S => ?_
  rw [← tH (fun k hk => hR k (List.mem_append_left _ hk))] at h1
  rw [← tH (fun k hk => hR k (List.mem_append_right _ hk))] at h2
  refine ⟨.func fn (first.map a.eval) (caps.map a.eval), ?_, yg.2 ⟨[.func fn (first.map a.eval) (caps.map a.eval)], ?_, rfl⟩⟩
  · simp only [execOp, Instr.makeFunc, Sem.run_bind, Sem.run_pure, Result.andThen_ok]
  · simp only [RepC]
    have e : ∀ z : Array Operand, (z.toList.map a.eval).toArray = z.map a.eval := fun z => by rw [← Array.toList_map]
    exact ⟨first.toList.map a.eval, caps.toList.map a.eval, by rw [e, e], S.opVs h1, S.opVs h2⟩
theorem rg {w : World} {G : Gh} : ∀ {xs : List SV} {vs : List Value}, wF w G xs vs → wy w G xs vs
  | [], _, h => by simpa only [wy, wF] using h
  | x :: xs, vs, ⟨v, r, h1, ⟨c, h2, h3⟩, h4⟩ => by
    simp only [wy]
    exact ⟨c, r, by rw [h1, h3], h2, rg h4⟩
theorem s_makeFuncS {fn : Fn} {first caps : Array Operand} (hN : Nat.blt d C.N = true) (h1 : (opSl A first.toList).all SV.slotty = true) (h2 : (opSl A caps.toList).all SV.slotty = true) :
    zv C ⟨some d, .makeFunc fn first caps, ty, pos, af, gd⟩ (opRs first.toList ++ opRs caps.toList) [] A [(d, .fnv fn (opSl A first.toList) (opSl A caps.toList))] := by
  refine zv.value rfl hN fun A' G a w hR S => ?_
  have e1 := rJ (A := A) (A' := A') (xs := first.toList) (fun k hk => hR k (List.mem_append_left _ hk))
  have e2 := rJ (A := A) (A' := A') (xs := caps.toList) (fun k hk => hR k (List.mem_append_right _ hk))
  rw [← e1] at h1
  rw [← e2] at h2
  rw [← e1, ← e2]
  refine ⟨.func fn (first.map a.eval) (caps.map a.eval), ?_, ⟨[.func fn (first.map a.eval) (caps.map a.eval)], ?_, rfl⟩⟩
  · simp only [execOp, Instr.makeFunc, Sem.run_bind, Sem.run_pure, Result.andThen_ok]
  · simp only [RepS]
    have e : ∀ z : Array Operand, (z.toList.map a.eval).toArray = z.map a.eval := fun z => by rw [← Array.toList_map]
    exact ⟨first.toList.map a.eval, caps.toList.map a.eval, by rw [e, e], rg (S.opSl h1), rg (S.opSl h2)⟩
theorem rK {f : Fn} {a b : List SV} (hN : Nat.blt d C.N = true) (h : opS A x = .fnv f a b) : zv C ⟨some d, .move x, ty, pos, af, gd⟩ (opR x) [] A [(d, .fnv f a b)] := rQ (.inl rfl) hN h rfl
def sG (P : Program) (T : TypeId) : Prop := ∃ u, P.underlying T = some u ∧ (match u with | .interface _ => false | _ => true) = true
theorem xw {v : AV} (hN : Nat.blt d C.N = true) (hx : opV A x = some v) (hT : sG C.P T) :
    zv C ⟨some d, .makeInterface T x, ty, pos, af, gd⟩ (opR x) [] A [(d, .imm (.ifc T v))] := by
  refine zv.op1 rfl hN hx fun w I ρ h1 => ?_
  obtain ⟨u, hu, hu2⟩ := hT
  obtain ⟨c, k1, k2⟩ := h1
  refine ⟨.iface T (ρ x), ?_, [.iface T (ρ x)], ?_, rfl⟩
  · simp only [execOp, Instr.makeInterface, Sem.run_bind, za hu, Result.andThen_ok]
    cases u <;> first | rfl | cases hu2
  · simp only [RepC]; exact ⟨c, by rw [k2], k1⟩
theorem vK {v : AV} {Tx : TypeId} (hN : Nat.blt d C.N = true) (hx : opV A x = some (.ifc T v)) (hT : sG C.P T) :
    zv C ⟨some d, .typeAssert x Tx T true, ty, pos, af, gd⟩ (opR x) [] A [(d, .tup [.imm v, .imm (.v (.bool true))])] := by
  refine zv.value rfl hN fun A' G a w hR S => ?_
  rw [← yU hR] at hx
  obtain ⟨u, hu, hu2⟩ := hT
  obtain ⟨c, k1, k2⟩ := S.opV hx
  simp only [RepC] at k1
  obtain ⟨c', k3, k4⟩ := k1
  have hev : a.eval x = .iface T (mkV v c') := by rw [k2, k3]; rfl
  refine ⟨.tuple #[mkV v c', .bool true], ?_, ?_⟩
  · simp only [execOp, Instr.typeAssert, Sem.run_bind, za hu, Result.andThen_ok, hev]
    cases u <;> first | (simp; done) | cases hu2
  · exact ⟨[mkV v c', .bool true], rfl, _, _, rfl, yg.2 ⟨c', k4, rfl⟩, _, _, rfl, yg.2 (xm _ _ rfl), rfl⟩
theorem xO {v X0 : AV} {Tx t : TypeId} (hN : Nat.blt d C.N = true) (hx : opV A x = some (.ifc t v)) (hT : sG C.P T) (hz : yu C.P T X0) (hm : ∀ z, wS C.P T = some z → mkV X0 z.cells.toList = z) (ht : Nat.beq t T = false) :
    zv C ⟨some d, .typeAssert x Tx T true, ty, pos, af, gd⟩ (opR x) [] A [(d, .tup [.imm X0, .imm (.v (.bool false))])] := by
  refine zv.value rfl hN fun A' G a w hR S => ?_
  rw [← yU hR] at hx
  obtain ⟨u, hu, hu2⟩ := hT
  obtain ⟨c, k1, k2⟩ := S.opV hx
  simp only [RepC] at k1
  obtain ⟨c', k3, k4⟩ := k1
  have hev : a.eval x = .iface t (mkV v c') := by rw [k2, k3]; rfl
  obtain ⟨z, hz1, hz2⟩ := hz
  have hne : t ≠ T := by rintro rfl; rw [Nat.beq_refl] at ht; cases ht
  have hzr := wJ (w := w) (I := G.I) X0 _ hz2
  refine ⟨.tuple #[z, .bool false], ?_, ?_⟩
  · simp only [execOp, Instr.typeAssert, Sem.run_bind, za hu, Result.andThen_ok, hev]
    cases u <;> first | (simp [hne, xB hz1, Sem.run_bind]; done) | cases hu2
  · refine ⟨[z, .bool false], rfl, _, _, rfl, yg.2 ?_, _, _, rfl, yg.2 (xm _ _ rfl), rfl⟩
    exact ⟨_, hzr, (hm z hz1).symm⟩
end
end Go.Al
namespace Go.Al
open Go.RowKit
section
variable {C : Cx} {A : Nat → SV} {d : Nat} {ty : TypeId} {pos : String} {af : Array Edge} {gd : Option (Nat × Bool)} {x y : Operand} {T T' : TypeId}
theorem s_ixOwn {g off n : Nat} {el : TypeId} {i : Int} {k : IntKind} (hN : Nat.blt d C.N = true) (hx : opS A x = .ptr g off) (hy : opV A y = some (.v (.int k i))) (hT : C.P.underlying T = some (.array n el)) (hn : yJ C.P el = some 1)
    (h : 0 ≤ i ∧ i < n) : zv C ⟨some d, .indexAddr T x y, ty, pos, af, gd⟩ (opR x ++ opR y) [] A [(d, .ptr g (off + i.toNat))] := by
  refine zv.value rfl hN fun A' G a w hR S => ?_
  obtain ⟨c, hc1, hc2⟩ := S.opS ((yd (fun k hk => hR k (List.mem_append_left _ hk))).trans hx) rfl
  simp only [RepS] at hc1
  have hev : a.eval x = .pointer (some ⟨G.blk g, off, none⟩) := by rw [hc2, hc1]; rfl
  rw [← yU (fun k hk => hR k (List.mem_append_right _ hk))] at hy
  have hi := yV (S.opV hy)
  refine ⟨.pointer (some ⟨G.blk g, off + i.toNat, none⟩), ?_, [.pointer (some ⟨G.blk g, off + i.toNat, none⟩)], by simp only [RepS], rfl⟩
  simp only [execOp, Instr.indexAt, hi, hev, asIntOf, Instr.sureAddr, Sem.run_bind, Sem.run_pure, Result.andThen_ok, za hT, h, and_self, if_true, yI hn, xX, Nat.mul_one]
theorem s_storeByte {g o n : Nat} {l : List UInt8} {v : Int} {T0 : TypeId} (h : opS A x = .ptr g o) (hg : A g = .box T0 (.imm (.arr n l))) (hy : opV A y = some (.v (.int .u8 v))) (hn : yJ C.P T = some 1) (ho : o < n) (hv : 0 ≤ v ∧ v < 256) :
    zv C ⟨none, .store T x y, ty, pos, af, gd⟩ (g :: (opR x ++ opR y)) [] A [(g, .box T0 (.imm (.arr n (l.set o (ofI v)))))] := by
  intro A' a w hR hF ⟨G, S⟩
  have hgA : A' g = .box T0 (.imm (.arr n l)) := (hR g List.mem_cons_self).trans hg
  obtain ⟨c, hc1, hc2⟩ := S.opS ((yd (fun k hk => hR k (List.mem_cons_of_mem _ (List.mem_append_left _ hk)))).trans h) rfl
  simp only [RepS] at hc1
  have hev : a.eval x = .pointer (some ⟨G.blk g, o, none⟩) := by rw [hc2, hc1]; rfl
  rw [← yU (fun k hk => hR k (List.mem_cons_of_mem _ (List.mem_append_right _ hk)))] at hy
  have hi := yV (S.opV hy)
  have hb := S.holds g
  rw [hgA] at hb
  simp only [Holds] at hb
  obtain ⟨_, ⟨cs, fr, hb2, hb3, hb4⟩, _⟩ := hb
  simp only [RepS, RepC] at hb3
  have hsz : cs.size = n := by rw [← Array.length_toList, hb3.1, List.length_map, hb3.2]
  have hcl : (a.eval y).cells.toList = [.int .u8 v] := by rw [hi]; rfl
  unfold Oper.wp
  have hrun : (storeVar T ⟨G.blk g, o, none⟩ (a.eval y)).run C.P w = .ok () (yR w (G.blk g) (.cells (y3 cs o [.int .u8 v]) T0 fr)) := by
    simp only [storeVar, Sem.run_bind, yI hn, Result.andThen_ok]
    rw [if_neg (by rw [hi]; simp [Value.cells])]
    rw [hcl]
    exact wY _ w cs hb2 hb4 (by simp; omega) rfl
  simp only [execOp, Instr.storeAt, Instr.sureAddr, hev, Sem.run_bind, Sem.run_pure, Result.andThen_ok, hrun]
  rw [Oper.upon_skip]
  refine S.storeBox hgA hb2 (wQ _ _ _) ?_
  rw [xQ _ _ _ (by simp; omega)]
  simp only [RepS, RepC, List.length_set]
  refine ⟨?_, hb3.2⟩
  rw [hb3.1]
  have e : wr (ofI v) = .int .u8 v := by
    have := byteV_ofInt hv
    simpa [ofI] using this
  rw [← e]
  apply List.ext_getElem
  · simp; omega
  · intro i h1 h2
    simp only [List.getElem_map, List.getElem_set]
    simp only [List.length_append, List.length_take, List.length_map, List.length_cons, List.length_nil, List.length_drop] at h1
    by_cases hio : o = i
    · subst hio
      rw [if_pos rfl, List.getElem_append_left (by simp; omega), List.getElem_append_right (by simp only [List.length_take, List.length_map]; omega)]
      simp
    · rw [if_neg hio]
      by_cases hlt : i < o
      · rw [List.getElem_append_left (by simp; omega), List.getElem_append_left (by simp; omega)]
        simp
      · rw [List.getElem_append_right (by simp; omega)]
        simp only [List.getElem_drop, List.getElem_map]
        congr 2
        simp
        omega
theorem run_slArr {P : Program} {w : World} {I : Nat → Nat → Prop} {n lo : Nat} {l : List UInt8} {v : Value} {el : TypeId} (hv : Rep w I (.cp (.arr n l)) v) (hT : P.underlying T = some (.array n el)) (hn : yJ P el = some 1) (hl : lo ≤ n) (hm : n ≤ maxLen) {ylo : Option Value}
    (h2 : (match ylo with | some v => ∃ k i, v = .int k i ∧ i = (lo : Int) | none => lo = 0)) :
    ∃ u, (Instr.sliceAt T v ylo none none).run P w = .ok u w ∧ Rep w I (.sl 1 (zx (l.drop lo))) u := by
  obtain ⟨b, o, c, rfl, hc, hat⟩ := rep_cp hv
  simp only [RepC] at hc
  obtain ⟨rfl, hln⟩ := hc
  have hrun : (Instr.sliceAt T (.pointer (some ⟨b, o, none⟩)) ylo none none).run P w = .ok (.slice (some (if n = lo then ⟨b, o, none⟩ else ⟨b, o + lo, none⟩)) (n - lo) (n - lo)) w := by
    have hb : (Instr.sliceBounds false n n ylo none none).run P w = .ok (lo, n, n) w := by
      cases ylo with
      | none => simp only [] at h2; subst h2; simp only [Instr.sliceBounds, Sem.run_bind, Sem.run_pure, Result.andThen_ok]
      | some u =>
        obtain ⟨k, i, rfl, hi⟩ := h2
        simp only [Instr.sliceBounds, Sem.run_bind, Sem.run_pure, Result.andThen_ok, Option.isSome_none, Bool.false_eq_true, if_false, vX hi hl]
    simp only [Instr.sliceAt, Sem.run_bind, za hT, Result.andThen_ok, Instr.sureAddr, Sem.run_pure, hb, yI hn, xX, Nat.mul_one]
  refine ⟨_, hrun, [_], ?_, rfl⟩
  simp only [RepC]
  refine ⟨_, rfl, ?_⟩
  have hlen : (zx (l.drop lo)).length = n - lo := by simp [zx, hln]
  by_cases h0 : n = lo
  · left
    refine ⟨some ⟨b, o, none⟩, 0, by rw [if_pos h0]; simp [h0], ?_, Nat.zero_le _, fun h => by cases h⟩
    exact List.eq_nil_of_length_eq_zero (by rw [hlen]; omega)
  · right
    refine ⟨b, o + lo, n - lo, by rw [if_neg h0, hlen], by rw [hlen]; exact Nat.le_refl _, by omega, ?_⟩
    refine (repE_bytes (w := w) (I := I) (l.drop lo)).mem ?_
    have := hat.sub lo (n - lo) (by simp; omega)
    have e : ((l.map wr).drop lo).take (n - lo) = (l.drop lo).map wr := by
      rw [← List.map_drop, List.take_of_length_le (by simp; omega)]
    rw [e] at this
    exact this
end
end Go.Al
namespace Go.Al
open Go.RowKit
def Up (x y : AV) : Prop := y.isAgg = x.isAgg ∧ y.width = x.width ∧ ∀ w I c, RepC w I x c → RepC w I y c
theorem Up.refl (x : AV) : Up x x := ⟨rfl, rfl, fun _ _ _ h => h⟩
theorem Up.trans {x y z : AV} (h : Up x y) (k : Up y z) : Up x z := ⟨k.1.trans h.1, k.2.1.trans h.2.1, fun w I c r => k.2.2 w I c (h.2.2 w I c r)⟩
theorem Up.nil (n : Nat) : Up (.v (.slice none 0 0)) (.sl n []) := by
  refine ⟨rfl, rfl, fun w I c h => ?_⟩
  simp only [RepC] at h ⊢
  exact ⟨_, h.1, .inl ⟨none, 0, rfl, trivial, Nat.zero_le _, fun _ => rfl⟩⟩
theorem Up.rep {x y : AV} (h : Up x y) {w : World} {I : Nat → Nat → Prop} {v : Value} (r : Rep w I x v) : Rep w I y v :=
  let ⟨c, h1, h2⟩ := r; ⟨c, h.2.2 w I c h1, by rw [h2, mkV, mkV, h.1]⟩
def Ups : List AV → List AV → Prop
  | [], [] => True
  | x :: xs, y :: ys => Up x y ∧ Ups xs ys
  | _, _ => False
theorem Ups.refl : ∀ xs : List AV, Ups xs xs
  | [] => trivial
  | x :: xs => ⟨Up.refl x, Ups.refl xs⟩
theorem Ups.cs {w : World} {I : Nat → Nat → Prop} : ∀ {xs ys : List AV} {c : List Value}, Ups xs ys → xH w I xs c → xH w I ys c
  | [], [], _, _, r => r
  | x :: xs, y :: ys, c, h, r => by
    simp only [xH] at r ⊢
    obtain ⟨c1, c2, h1, h2, h3⟩ := r
    exact ⟨c1, c2, h1, h.1.2.2 w I c1 h2, Ups.cs h.2 h3⟩
  | [], _ :: _, _, h, _ => h.elim
  | _ :: _, [], _, h, _ => h.elim
theorem Ups.width : ∀ {xs ys : List AV}, Ups xs ys → AV.widths ys = AV.widths xs
  | [], [], _ => rfl
  | x :: xs, y :: ys, h => by simp only [AV.widths, h.1.2.1, Ups.width h.2]
  | [], _ :: _, h => h.elim
  | _ :: _, [], h => h.elim
theorem Ups.vs {w : World} {I : Nat → Nat → Prop} : ∀ {xs ys : List AV} {c : List Value}, Ups xs ys → yc w I xs c → yc w I ys c
  | [], [], _, _, r => r
  | x :: xs, y :: ys, c, h, r => by
    simp only [yc] at r ⊢
    obtain ⟨c1, c2, h1, h2, h3⟩ := r
    exact ⟨c1, c2, by rw [h1, mkV, mkV, h.1.1], h.1.2.2 w I c1 h2, Ups.vs h.2 h3⟩
  | [], _ :: _, _, h, _ => h.elim
  | _ :: _, [], _, h, _ => h.elim
theorem Up.agg {xs ys : List AV} (h : Ups xs ys) : Up (.agg xs) (.agg ys) := by
  refine ⟨rfl, by simp only [AV.width]; exact h.width, fun w I c r => ?_⟩
  simp only [RepC] at r ⊢
  exact h.cs r
theorem Up.ifc {x y : AV} (t : TypeId) (h : Up x y) : Up (.ifc t x) (.ifc t y) := by
  refine ⟨rfl, rfl, fun w I c r => ?_⟩
  simp only [RepC] at r ⊢
  obtain ⟨c', h1, h2⟩ := r
  exact ⟨c', by rw [h1, mkV, mkV, h.1], h.2.2 w I c' h2⟩
theorem Up.sl {n : Nat} : ∀ {xs ys : List AV}, Ups xs ys → Up (.sl n xs) (.sl n ys) := by
  intro xs ys h
  have hl : ys.length = xs.length := by
    revert ys
    induction xs with
    | nil => intro ys h; cases ys with
      | nil => rfl
      | cons _ _ => exact h.elim
    | cons x xs ih => intro ys h; cases ys with
      | nil => exact h.elim
      | cons y ys => simp [ih h.2]
  refine ⟨rfl, rfl, fun w I c r => ?_⟩
  simp only [RepC] at r ⊢
  obtain ⟨v, hv, ⟨p, cap, h1, rfl, h2⟩ | ⟨b, o, cap, h1, h2, h3, h4⟩⟩ := r
  · exact ⟨v, hv, .inl ⟨p, cap, h1, List.eq_nil_of_length_eq_zero (by rw [hl]; rfl), h2⟩⟩
  · refine ⟨v, hv, .inr ⟨b, o, cap, by rw [hl]; exact h1, by rw [hl]; exact h2, h3, ?_⟩⟩
    clear hv h1 h2 h3 hl
    revert ys o
    induction xs with
    | nil => intro ys h o _; cases ys with
      | nil => simp only [RepM]
      | cons _ _ => exact h.elim
    | cons x xs ih => intro ys h o h4; cases ys with
      | nil => exact h.elim
      | cons y ys =>
        simp only [RepM] at h4 ⊢
        obtain ⟨⟨c', k1, k2, k3⟩, k4⟩ := h4
        exact ⟨⟨c', k1, h.1.2.2 w I c' k2, k3⟩, ih h.2 (o + n) k4⟩
theorem zn.args {P : Program} {Γ : List (Nat × AV)} {f : FuncId} {xs xs' rs : List AV} (c : zn P Γ f xs rs) (h : Ups xs' xs) : zn P Γ f xs' rs :=
  ⟨c.1, fun w I args hv hg hr => c.2 w I args hv hg (h.vs hr)⟩
theorem resV_up {w : World} {I : Nat → Nat → Prop} {rs rs' : List AV} {v : Value} (h : Ups rs rs') (r : resV w I rs v) : resV w I rs' v := by
  match rs, rs', h, r with
  | [], [], _, r => exact r
  | [x], [y], h, r => exact h.1.rep r
  | x :: x2 :: xs, y :: y2 :: ys, h, ⟨vs, h1, h2⟩ => exact ⟨vs, h1, h.vs h2⟩
  | [], _ :: _, h, _ => exact h.elim
  | _ :: _, [], h, _ => exact h.elim
  | [_], _ :: _ :: _, h, _ => exact h.2.elim
  | _ :: _ :: _, [_], h, _ => exact h.2.elim
theorem zn.res {P : Program} {Γ : List (Nat × AV)} {f : FuncId} {xs rs rs' : List AV} (c : zn P Γ f xs rs) (h : Ups rs rs') : zn P Γ f xs rs' := by
  refine ⟨c.1, fun w I args hv hg hr => (c.2 w I args hv hg hr).mono ?_⟩
  rintro e w' ⟨v, I', h1, h2, h3, h4, h5, h6⟩
  exact ⟨v, I', h1, h2, h3, h4, h5, resV_up h h6⟩
def PostU (P : Program) (fn : Func) (rs : List AV) (e : Exit) (st : St) : Prop := ∃ rs0, Post P fn rs0 e st ∧ Ups rs0 rs
theorem pcall_ofU {P : Program} {Γ : List (Nat × AV)} {f : FuncId} {fn : Func} {c : Code} {N : Nat} {xs rs : List AV} (hf : P.funcs[f]? = some fn) (hb : fn.body = some c) (hnt : fn.ntmps = N) (hcal : u6 P f = true)
    (hN : Nat.ble xs.length N = true) (h : ∀ w0 I0 G0, AW ⟨P, w0, I0, fun _ => False, N, 100000, G0, Γ, [], none⟩ c (params 0 xs) (PostU P fn rs)) : zn P Γ f xs rs := by
  refine ⟨hcal, fun w I args hv hgl hr => ?_⟩
  refine calls_of_wp hf hb ?_
  rw [hnt]
  have S0 := start_sim (P := P) (K := 100000) hv hgl hr (Nat.le_of_ble_eq_true hN)
  refine wp_mono ((wpIn_wide (n := 0)).1 (h w I _ _ w S0 0)) ?_
  rintro e a' w' ⟨st', ⟨rs0, q, hup⟩, G, S⟩
  have fin : retAll P st' fn.results.toList rs0 → a'.defers = [] ∧ ∃ v, (results fn a'.tmps).run P w' = .ok v w' ∧ Leaves w I rs (.returned v) w' := by
    intro q
    refine ⟨S.dfs, ?_⟩
    obtain ⟨vs, h1, h2⟩ := ret_run S _ _ q
    have hb : Below w.heap.size w w' := ⟨S.os, S.tape, S.output, S.size, fun k hk => S.block k hk (fun h => h)⟩
    have hle : Le w I w' G.I := S.sub
    have hni : NewI w I G.I := fun b o hi => by
      rcases S.new b o hi with h | h | h
      · exact .inl h
      · exact .inr h
      · exact h.elim
    have hrun : (results fn a'.tmps).run P w' = .ok (if h : vs.length = 1 then vs[0] else .tuple (List.toArray vs)) w' := by
      have e : results fn a'.tmps = (do let vs ← fn.results.mapM (rvSem a'.tmps); pure (if h : vs.size = 1 then vs[0] else .tuple vs)) := by
        unfold results
        congr 1
      rw [e, Array.mapM_eq_mapM_toList]
      simp only [Sem.run_bind, Sem.run_map, h1, Result.andThen_ok, Sem.run_pure]
      simp
    refine ⟨_, hrun, _, G.I, rfl, hb, hle, hni, S.val, resV_up hup ?_⟩
    have hlen := tc h2
    unfold resV
    split
    · rename_i r
      simp at hlen
      rw [dif_pos hlen]
      obtain ⟨v, h3, h4⟩ := tQ (j := 0) h2 rfl
      have : vs[0] = v := by rw [List.getElem?_eq_getElem (by omega)] at h3; exact Option.some.inj h3
      rw [this]; exact h4
    · rename_i h0
      have : ¬ vs.length = 1 := by
        intro h1
        rw [h1] at hlen
        match rs0, hlen with
        | [r], _ => exact h0 r rfl
      rw [dif_neg this]
      exact ⟨vs, rfl, h2⟩
  cases e <;> first | exact fin q | exact q.elim
section
variable {C : Cx} {A : Nat → SV} {d : Nat} {ty : TypeId} {pos : String} {af : Array Edge} {gd : Option (Nat × Bool)} {x y : Operand} {T T' : TypeId}
theorem s_leS {s t : ByteArray} (hN : Nat.blt d C.N = true) (hx : opV A x = some (.v (.string s))) (hy : opV A y = some (.v (.string t))) :
    zv C ⟨some d, .binOp .leq T x y T', ty, pos, af, gd⟩ (opR x ++ opR y) [] A [(d, .imm (.v (.bool (Op.bytesLess s.toList t.toList || s.toList == t.toList))))] :=
  zv.op2 rfl hN hx hy fun w I ρ h1 h2 => ⟨_, by simp [execOp, eqGuard, binOp, Op.stringOp, xk h1, xk h2], xm w I rfl⟩
end
end Go.Al
namespace Go.Al
open Go.RowKit
section
variable {C : Cx} {A : Nat → SV} {d : Nat} {ty : TypeId} {pos : String} {af : Array Edge} {gd : Option (Nat × Bool)} {x y : Operand} {T T' : TypeId}
theorem s_appendS {g by_ : Nat} {l : List AV} {s : ByteArray} {el : TypeId} {z : Value} (hgN : Nat.ble C.N g = true) (hN : Nat.blt d C.N = true) (hx : opS A x = .slg g 1 l) (hg : A g = .tok 1 l) (hy : opV A y = some (.v (.string s))) (hT : C.P.underlying T = some (.slice el)) (hT' : C.P.underlying T' = some .string)
    (hn : yJ C.P el = some 1) (hz : wS C.P el = some z) (hzn : z.cells.size = 1) (hb : (C.P.info? el).map (·.bytes) = some by_) (hB : (2 * (l.length + s.size) + 192) * by_ ≤ 281474976710656) (hL : l.length + s.size < 9223372036854775808) :
    zv C ⟨some d, .call { callee := .builtin .append, args := #[x, y], argTypes := #[T, T'] }, ty, pos, af, gd⟩ (g :: (opR x ++ opR y)) [] A [(g, .tok 1 (l ++ zx s.data.toList)), (d, .slg g 1 (l ++ zx s.data.toList))] := by
  have h0 : 0 < 1 := Nat.one_pos
  obtain ⟨n, hn1⟩ : ∃ n, n = 1 := ⟨1, rfl⟩
  obtain ⟨m, hm1⟩ : ∃ m, m = zx s.data.toList := ⟨_, rfl⟩
  have hms : m.length = s.size := by rw [hm1]; simp [zx]
  rw [← hms] at hB hL
  rw [← hm1]
  rw [← hn1] at hx hg hn hzn h0 ⊢
  intro A' a w hR hF ⟨G, S⟩
  have hgA : A' g = .tok n l := (hR g List.mem_cons_self).trans hg
  have hgd : g ≠ d := by
    have h1 := Nat.le_of_ble_eq_true hgN
    have h2 : d < C.N := by simpa [Nat.blt_eq] using hN
    omega
  obtain ⟨c, hc1, hc2⟩ := S.opS ((yd (fun k hk => hR k (List.mem_cons_of_mem _ (List.mem_append_left _ hk)))).trans hx) rfl
  simp only [RepS] at hc1
  obtain ⟨v, rfl, hv1, hv2, hv3⟩ := hc1
  have hx' : a.eval x = v := hc2
  rw [← yU (fun k hk => hR k (List.mem_cons_of_mem _ (List.mem_append_right _ hk)))] at hy
  have hyR := S.opV hy
  have ht := S.holds g
  rw [hgA] at ht
  simp only [Holds] at ht
  obtain ⟨hlen, ht⟩ := ht
  have hcur : v = G.cur g := hv3 hlen.symm
  obtain ⟨es, k1, k23⟩ : ∃ es, RepE w G.I n m es ∧ ∀ w0 : World, w0.heap = w.heap → (Builtin.lenOf (a.eval y)).run C.P w0 = .ok m.length w0 ∧ (Builtin.firstCells n m.length (a.eval y)).run C.P w0 = .ok es.toArray w0 := by
    refine ⟨s.data.toList.map wr, by rw [hn1, hm1]; exact repE_bytes _, fun w0 _ => ?_⟩
    rw [xk hyR, hms]
    refine ⟨rfl, ?_⟩
    simp only [Builtin.firstCells, Sem.run_pure]
    have e : s.extract 0 s.size = s := by simp
    rw [e]
    congr 1
    apply Array.ext'
    simp [wr]
  have k2 := (k23 w rfl).1
  obtain ⟨inf, hi, hib⟩ : ∃ inf, C.P.info? el = some inf ∧ inf.bytes = by_ := by
    cases hi : C.P.info? el with
    | none => rw [hi] at hb; cases hb
    | some inf => rw [hi] at hb; exact ⟨inf, rfl, by simpa using hb⟩
  have hu2 : ∀ (G' : Gh) (w' : World) (v' : Value), SimG C (upd A' [(g, .tok n (l ++ m))]) G' a w' → ValS w' G' (.slg g n (l ++ m)) v' → Sim C (upd A' [(g, .tok n (l ++ m)), (d, .slg g n (l ++ m))]) (a.put (some d) v') w' := by
    intro G' w' v' S' hv
    have := S'.put (d := d) (by simpa [Nat.blt_eq] using hN) (x := .slg g n (l ++ m)) (v := v') hv
    have e : upd (upd A' [(g, .tok n (l ++ m))]) [(d, .slg g n (l ++ m))] = upd A' [(g, .tok n (l ++ m)), (d, .slg g n (l ++ m))] := by
      funext k
      simp only [upd]
      by_cases hkd : d = k
      · subst hkd; rw [zM hgd]; simp
      · rw [zM hkd]; simp
    rw [e] at this
    exact ⟨G', this⟩
  -- what append does where it must grow
  have grow : ∀ (base : Option Addr) (sCap : Nat) (old : List Value), a.eval x = .slice base l.length sCap → sCap < l.length + m.length → l.length ≤ sCap ∨ l.length = 0 → (∀ w0 : World, w0.heap = w.heap → (Builtin.firstCells n l.length (.slice base l.length sCap)).run C.P w0 = .ok old.toArray w0) → RepE w G.I n l old →
      ∃ v' w' G', (Builtin.append_ #[T, T'] ty #[a.eval x, a.eval y]).run C.P w = .ok v' w' ∧ SimG C (upd A' [(g, .tok n (l ++ m))]) G' a w' ∧ ValS w' G' (.slg g n (l ++ m)) v' := by
    intro base sCap old hev hlt hle' hold hrep
    obtain ⟨need, hneed⟩ : ∃ k, k = l.length + m.length := ⟨_, rfl⟩
    obtain ⟨newCap, hnew⟩ : ∃ k, k = Question.cut (.appendCap need sCap el) (w.tape w.drawn (.appendCap need sCap el)) := ⟨_, rfl⟩
    rw [← hneed] at hB hL hlt
    have hnc : need ≤ newCap ∧ newCap ≤ maxLen := by
      have h63 : (0 : Nat) < 2 ^ 63 - need := by omega
      rw [hnew]
      constructor
      · simp only [Question.cut]; omega
      · simp only [Question.cut]
        have := Nat.mod_lt (w.tape w.drawn (.appendCap need sCap el)) h63
        unfold maxLen
        omega
    let w1 : World := { w with drawn := w.drawn + 1 }
    have S1 : SimG C A' G a w1 := S.heap rfl rfl rfl rfl
    have hle1 : Le w G.I w1 G.I := Le.drawn w G.I _
    let cs : Array Value := old.toArray ++ es.toArray ++ Builtin.zeroCells z.cells (newCap - need)
    have hes1 : RepE w1 G.I n (l ++ m) (old ++ es) := (hrep.mono hle1).append (k1.mono hle1)
    have hol := hrep.len
    have hel := k1.len
    have hmul : need * n = l.length * n + m.length * n := by rw [hneed]; exact Nat.add_mul _ _ _
    have hcs : cs.toList.take ((l ++ m).length * n) = old ++ es := by
      have : cs.toList = (old ++ es) ++ (Builtin.zeroCells z.cells (newCap - need)).toList := by simp [cs]
      rw [this, List.take_append_of_le_length (by rw [List.length_append, List.length_append, Nat.add_mul]; omega), List.take_of_length_le (by rw [List.length_append, List.length_append, Nat.add_mul]; omega)]
    have hcsz : cs.size = newCap * n := by
      have hzc : (Builtin.zeroCells z.cells (newCap - need)).size = (newCap - need) * n := by simp [Builtin.zeroCells, hzn]
      have h1 : cs.size = old.length + es.length + (newCap - need) * n := by
        simp only [cs, Array.size_append, hzc]; simp
      rw [h1, hol, hel, ← hmul, ← Nat.add_mul]
      rw [Nat.add_sub_of_le hnc.1]
    obtain ⟨G', S', hv'⟩ := S1.appendNew (g := g) (n := n) (l := l) (m := m) (cap := newCap) (es := old ++ es) (cs := cs) (T := el)
      (fun k _ => .inr ⟨l, hgA, by rw [List.length_append]; omega⟩) hnc.2 (by rw [List.length_append, ← hneed]; exact hnc.1) hes1 hcs hcsz (.inr ⟨l, hgA, by rw [List.length_append]; omega⟩)
    refine ⟨_, _, G', ?_, S', hv'⟩
    have hbd := nextslicecap_bound (need := need) (old := sCap) (by omega)
    have hnb : ¬ (Builtin.nextslicecap need sCap * inf.bytes > 281474976710656) := by
      rw [hib]
      have := Nat.mul_le_mul_right by_ hbd
      omega
    have hi1 : ¬ ((need : Int) > IntKind.i64.max) := by
      have : IntKind.i64.max = 9223372036854775807 := by decide
      rw [this]; omega
    have hnb' : ¬ (Builtin.nextslicecap need sCap * inf.bytes > 2 ^ 48) := by
      have : (2 : Nat) ^ 48 = 281474976710656 := rfl
      omega
    have hfc1 := hold ⟨w.heap, w.tape, w.drawn + 1, w.os, w.output⟩ rfl
    have hfc2 : (Builtin.firstCells n m.length (a.eval y)).run C.P ⟨w.heap, w.tape, w.drawn + 1, w.os, w.output⟩ = .ok es.toArray ⟨w.heap, w.tape, w.drawn + 1, w.os, w.output⟩ := (k23 ⟨w.heap, w.tape, w.drawn + 1, w.os, w.output⟩ rfl).2
    have hnf : (Question.appendCap need sCap el).forced = false := rfl
    have e1 : (#[T, T'] : Array TypeId)[0]? = some T := rfl
    have e2 : (#[T, T'] : Array TypeId)[1]? = some T' := rfl
    have e3 : (#[a.eval x, a.eval y] : Array Value)[0]? = some (a.eval x) := rfl
    have e4 : (#[a.eval x, a.eval y] : Array Value)[1]? = some (a.eval y) := rfl
    have hne : ¬ (need ≤ sCap) := by omega
    simp only [Builtin.append_, e1, e2, e3, e4]
    simp only [hev, Sem.run_bind, za hT, za hT', Result.andThen_ok, yI hn, Sem.run_pure, Bool.false_eq_true, if_false, k2, ← hneed, hne, we hi, Sem.run_ite, false_or]
    simp only [hi1, false_and, if_false, Bool.not_false, if_true, Sem.run_bind, run_choose, hnf, Bool.false_eq_true, hnb', Result.andThen_ok, ← hnew, run_askRoom, hfc1, hfc2, xB hz, newRow, run_newObj, Sem.run_pure]
    rw [List.length_append, ← hneed]
    rfl
  have e1 : (#[T, T'] : Array TypeId)[0]? = some T := rfl
  have e2 : (#[T, T'] : Array TypeId)[1]? = some T' := rfl
  have e3 : (#[a.eval x, a.eval y] : Array Value)[0]? = some (a.eval x) := rfl
  have e4 : (#[a.eval x, a.eval y] : Array Value)[1]? = some (a.eval y) := rfl
  have key : ∃ v' w' G', (Builtin.append_ #[T, T'] ty #[a.eval x, a.eval y]).run C.P w = .ok v' w' ∧ SimG C (upd A' [(g, .tok n (l ++ m))]) G' a w' ∧ ValS w' G' (.slg g n (l ++ m)) v' := by
    rcases ht with ⟨e, rfl⟩ | ⟨b, cap, e, h2, h3, h4, h5, ⟨cs, T0, fr, h6, h7, h8⟩, h9⟩
    · have hev : a.eval x = .slice none 0 0 := by rw [hx', hcur, e]
      rcases Nat.eq_zero_or_pos m.length with h0m | h0m
      · have hm : m = [] := List.eq_nil_of_length_eq_zero h0m
        subst hm
        refine ⟨.slice none 0 0, w, G, ?_, ?_, ?_⟩
        · simp only [Builtin.append_, e1, e2, e3, e4]
          simp only [hev, Sem.run_bind, za hT, za hT', Result.andThen_ok, yI hn, Sem.run_pure, Bool.false_eq_true, if_false, k2]
          simp only [List.length_nil, Nat.add_zero, Nat.le_refl, if_true, Bool.not_false, Sem.run_bind]
          have hfc2 := (k23 w rfl).2
          simp only [List.length_nil] at hfc2
          simp only [hfc2, Result.andThen_ok, Sem.run_pure]
        · have : upd A' [(g, .tok n ([] ++ []))] = A' := by
            funext k
            rw [wO]
            split
            · rename_i hk; subst hk; rw [hgA]; rfl
            · rfl
          rw [this]; exact S
        · refine ⟨[.slice none 0 0], ?_, rfl⟩
          simp only [RepS, RepC]
          exact ⟨_, rfl, ⟨_, rfl, .inl (nil_sl 0)⟩, by simp, fun _ => e.symm⟩
      · exact grow none 0 [] (by rw [hev]; rfl) (by simpa using h0m) (.inr rfl) (fun w0 _ => rfl) (by simp only [RepE])
    · have hev : a.eval x = .slice (some ⟨b, 0, none⟩) l.length cap := by rw [hx', hcur, e]
      by_cases hfit : l.length + m.length ≤ cap
      · obtain ⟨G', S', hv'⟩ := S.appendFit hgA e h3 h6 h7 hfit k1
        refine ⟨_, _, G', ?_, S', hv'⟩
        have hfc2 := (k23 w rfl).2
        have hst := ww (P := C.P) (b := b) (o := l.length * n) es 0 w cs h6 h8 (by rw [k1.len, h7]; have := xz (n := n) hfit; rw [Nat.add_mul] at this; omega) k1.plain
        simp only [Builtin.append_, e1, e2, e3, e4]
        simp only [hev, Sem.run_bind, za hT, za hT', Result.andThen_ok, yI hn, Sem.run_pure, Bool.false_eq_true, if_false, k2]
        simp only [hfit, if_true, Bool.not_false, Sem.run_bind, hfc2, Result.andThen_ok, xX, Nat.zero_add, Sem.run_pure]
        rw [hst]
        cases es with
        | nil =>
          simp only [Result.andThen_ok, y3]
          congr 1
          unfold yR
          have : w.heap.setIfInBounds b (.cells cs T0 fr) = w.heap := by
            apply Array.ext
            · simp
            · intro i h1 h2
              by_cases hi : b = i
              · subst hi; simp; exact (Array.getElem?_eq_some_iff.1 h6).2.symm
              · rw [Array.getElem_setIfInBounds_ne _ hi]
          rw [this]
        | cons v vs => simp only [Result.andThen_ok, Nat.add_zero]
      · obtain ⟨ds, q1, q2⟩ := h4.cells
        refine grow (some ⟨b, 0, none⟩) cap ds hev (by omega) (.inl h2) (fun w0 hw0 => ?_) q1
        simp only [Builtin.firstCells]
        rw [← q1.len]
        exact xv ds fun j hj => (World.cell?_of_block (w := w) (by rw [hw0])).trans (q2 j hj).1
  obtain ⟨v', w', G', r1, r2, r3⟩ := key
  unfold Oper.wp
  rw [run_resolve_append r1, Oper.upon_value]
  exact hu2 G' w' v' r2 r3
def bA (l : List UInt8) (i : Int) : Int := (l.getD i.toNat 0).toNat
theorem bA_lt (l : List UInt8) (i : Int) : 0 ≤ bA l i ∧ bA l i < 256 := by
  unfold bA
  have := (l.getD i.toNat 0).toNat_lt
  omega
def glk : List (Nat × AV) → Nat → Option AV
  | [], _ => none
  | (g, x) :: r, k => bif Nat.beq g k then some x else glk r k
theorem glk_mem : ∀ {Γ : List (Nat × AV)} {k : Nat} {x : AV}, glk Γ k = some x → (k, x) ∈ Γ
  | (g, y) :: r, k, x, h => by
    simp only [glk] at h
    cases hb : Nat.beq g k <;> rw [hb] at h
    · exact List.mem_cons_of_mem _ (glk_mem h)
    · have := Nat.eq_of_beq_eq_true hb
      simp only [cond_true, Option.some.injEq] at h
      subst this; subst h; exact List.mem_cons_self
theorem s_ixGlob {g n : Nat} {l : List UInt8} {el : TypeId} {i : Int} {k : IntKind} (hN : Nat.blt d C.N = true) (hg : glk C.Γ g = some (.arr n l)) (hy : opV A y = some (.v (.int k i))) (hT : C.P.underlying T = some (.array n el)) (hn : yJ C.P el = some 1)
    (h : 0 ≤ i ∧ i < n) : zv C ⟨some d, .indexAddr T (.global g) y, ty, pos, af, gd⟩ (opR y) [] A [(d, .imm (.cp (.v (.int .u8 (bA l i)))))] := by
  refine zv.value rfl hN fun A' G a w hR S => ?_
  rw [← yU hR] at hy
  have hi := yV (S.opV hy)
  obtain ⟨c, h1, h2⟩ := S.glob _ (glk_mem hg)
  simp only [RepC] at h1
  obtain ⟨rfl, hl⟩ := h1
  have hev : a.eval (.global g) = .pointer (some ⟨g, 0, none⟩) := rfl
  have hlt : i.toNat < l.length := by omega
  refine ⟨.pointer (some ⟨g, 0 + i.toNat, none⟩), ?_, yg.2 (jY (c := [wr l[i.toNat]]) ?_ ?_)⟩
  · simp only [execOp, Instr.indexAt, hi, hev, asIntOf, Instr.sureAddr, Sem.run_bind, Sem.run_pure, Result.andThen_ok, za hT, h, and_self, if_true, yI hn, xX, Nat.mul_one]
  · simp only [RepC, bA]
    refine ⟨?_, rfl⟩
    simp [wr, Value.cells, List.getD, hlt]
  · have := h2.sub i.toNat 1 (by simp; omega)
    have e : ((l.map wr).drop i.toNat).take 1 = [wr l[i.toNat]] := by
      rw [← List.map_drop, ← List.map_take, List.drop_eq_getElem_cons hlt]; rfl
    rw [e] at this
    exact this
end
def Fz (g g' n len cap : Nat) (l : List AV) (x y : SV) : Prop :=
  y = x ∨ (x = .osl g 0 len cap ∧ y = .slg g' n l) ∨ ∃ T, x = .box T (.osl g 0 len cap) ∧ y = .box T (.slg g' n l)
def subF (g g' n len cap : Nat) (l : List AV) (st : St) : St → Prop
  | [] => True
  | (k, y) :: r => Fz g g' n len cap l (look st k) y ∧ subF g g' n len cap l st r
theorem subF_spec {g g' n len cap : Nat} {l : List AV} {st : St} : ∀ {st' : St}, subF g g' n len cap l st st' → ∀ k, look st' k = .dead ∨ Fz g g' n len cap l (look st k) (look st' k)
  | [], _, k => .inl rfl
  | (j, x) :: r, h, k => by
    simp only [look, upd]
    cases hb : Nat.beq j k
    · exact subF_spec h.2 k
    · have := Nat.eq_of_beq_eq_true hb
      subst this
      exact .inr h.1
theorem SimG.freezeW {C : Cx} {A B : Nat → SV} {G : Gh} {a : Act} {w : World} (S : SimG C A G a w) {g g' n len cap : Nat} {T0 : TypeId} {xs l : List AV} (hgN : C.N ≤ g) (hgN' : C.N ≤ g') (hgK : g' < C.K) (hgg : g ≠ g') (hg : A g = .box T0 (.imm (.agg xs)))
    (hw : ∀ x ∈ xs, x.width = n) (hcap : cap = xs.length) (hlen : len ≤ cap) (hmax : cap ≤ maxLen) (hl : xs.take len = l) (hf : ∀ j, noG [g'] (A j) = true) (hB : ∀ j, j ≠ g' → B j = .dead ∨ Fz g g' n len cap l (A j) (B j)) (hBg : B g = .dead) (hB' : B g' = .tok n l) :
    Sim C B a w := by
  subst hl
  have hb := S.holds g
  rw [hg] at hb
  simp only [Holds] at hb
  obtain ⟨how, ⟨cs, fr, hb2, hb3, hb4⟩, hni⟩ := hb
  simp only [RepS, RepC] at hb3
  have hE := (tA hw).1 hb3
  have hcl := hE.len
  simp only [Array.length_toList] at hcl
  obtain ⟨q1, _⟩ := hE.split len (by omega)
  let I' : Nat → Nat → Prop := fun b o => G.I b o ∨ (b = G.blk g ∧ o < len * n)
  let G' : Gh := { I := I', blk := G.blk, cur := fun j => if j = g' then .slice (some ⟨G.blk g, 0, none⟩) len cap else G.cur j, len := fun j => if j = g' then len else G.len j }
  have hle : Le w G.I w I' := fun b o h => ⟨.inl h, y7 rfl⟩
  have hrel : GRel [g'] G G' := fun j hj => by
    have hjg : j ≠ g' := by simpa using hj
    exact ⟨rfl, .inl ⟨by simp only [G', if_neg hjg], by simp only [G', if_neg hjg]⟩⟩
  have hmul : len * n ≤ cap * n := xz hlen
  have hcells : xP w I' (G.blk g) 0 (cs.toList.take (len * n)) := by
    intro j hj
    rw [List.length_take, Array.length_toList] at hj
    refine ⟨?_, .inr ⟨rfl, by omega⟩⟩
    rw [u_ hb2, Nat.zero_add]
    simp only [List.getElem_take]
    rw [Array.getElem?_eq_getElem (by omega)]
    simp
  have hM : RepM w I' n (xs.take len) (G.blk g) 0 := (q1.mono hle).mem hcells
  have htl : (xs.take len).length = len := by rw [List.length_take]; omega
  have hslgc : RepS w G' (.slg g' n (xs.take len)) [.slice (some ⟨G.blk g, 0, none⟩) len cap] := by
    simp only [RepS, RepC]
    refine ⟨_, rfl, ⟨_, rfl, .inr ⟨G.blk g, 0, cap, by rw [htl], by rw [htl]; exact hlen, hmax, hM⟩⟩, by simp only [G', if_true, htl]; omega, fun _ => by simp only [G', if_true]⟩
  have hslg : ∀ v, ValS w G (.osl g 0 len cap) v → ValS w G' (.slg g' n (xs.take len)) v := by
    rintro v ⟨c, h1, h2⟩
    simp only [RepS] at h1
    subst h1
    exact ⟨_, hslgc, h2⟩
  have own' : ∀ j b, zm G' j b (B j) → (j = g' ∧ b = G.blk g) ∨ (j ≠ g' ∧ j ≠ g ∧ zm G j b (A j)) := by
    intro j b h
    by_cases hj : j = g'
    · subst hj
      rw [hB'] at h
      simp only [zm, G', if_true] at h
      obtain ⟨ad, n', c', h1, h2⟩ := h
      simp only [Value.slice.injEq, Option.some.injEq] at h1
      exact .inl ⟨rfl, by rw [← h2, ← h1.1]⟩
    · by_cases hjg : j = g
      · subst hjg; rw [hBg] at h; simp only [zm] at h
      · refine .inr ⟨hj, hjg, ?_⟩
        rcases hB j hj with e | e | ⟨_, e⟩ | ⟨T, e1, e⟩
        · rw [e] at h; simp only [zm] at h
        · rw [e] at h
          revert h
          generalize A j = y
          cases y <;> simp only [zm, G', if_neg hj] <;> exact id
        · rw [e] at h; simp only [zm] at h
        · rw [e] at h; rw [e1]; simpa only [zm] using h
  refine ⟨G', S.os, S.tape, S.output, S.size, S.block, S.sub.trans hle, fun j hj => (S.rel j hj).trans (hrel j (by simp; omega)), S.glob.mono hle, fun b o h => ?_, fun b o h => ?_, S.nts, S.dfs, fun j => ?_, fun j j' b hj h1 h2 => ?_⟩
  · rcases h with h | ⟨rfl, _⟩
    · exact S.new b o h
    · exact .inr how.1
  · rcases h with h | ⟨rfl, _⟩
    · exact S.val b o h
    · exact how.2
  · by_cases hj : j = g'
    · subst hj
      rw [hB']
      simp only [Holds, G', if_true, htl]
      refine ⟨trivial, .inr ⟨G.blk g, cap, by rw [htl], by rw [htl]; exact hlen, hmax, hM, how, ⟨cs, T0, fr, hb2, by rw [hcl, hcap], hb4⟩, ?_⟩⟩
      intro o ho hi
      rw [htl] at ho
      rcases hi with hi | ⟨_, h2⟩
      · exact hni o hi
      · omega
    · by_cases hjg : j = g
      · subst hjg; rw [hBg]; simp only [Holds]
      · have keep : Holds C.w0 C.E G' a w j (A j) := (S.holds j).keep hle hrel (hf j) (Nat.le_refl _) (fun h => ⟨h, rfl⟩) (fun _ => ⟨rfl, by simp only [G', if_neg hj], by simp only [G', if_neg hj]⟩) (fun b hbk => ⟨rfl, fun o hi => by
          rcases hi with hi | ⟨rfl, _⟩
          · exact hi
          · exact (S.apart j g _ hjg hbk (by rw [hg]; simp [zm])).elim⟩)
        rcases hB j hj with e | e | ⟨e1, e⟩ | ⟨T, e1, e⟩
        · rw [e]; simp only [Holds]
        · rw [e]; exact keep
        · rw [e]
          have hk := S.holds j
          rw [e1] at hk
          exact ⟨hk.1, hslg _ hk.2⟩
        · rw [e]
          have hk := S.holds j
          rw [e1] at hk keep
          simp only [Holds] at hk keep ⊢
          obtain ⟨m1, ⟨cs1, fr1, m2, m3, m4⟩, m5⟩ := hk
          refine ⟨keep.1, ⟨cs1, fr1, m2, ?_, m4⟩, keep.2.2⟩
          simp only [RepS] at m3
          show RepS w G' (.slg g' n (xs.take len)) cs1.toList
          rw [m3]; exact hslgc
  · rcases own' j b h1 with ⟨e1, e2⟩ | ⟨e1, e2, e3⟩
    · rcases own' j' b h2 with ⟨e4, e5⟩ | ⟨e4, e5, e6⟩
      · exact hj (e1.trans e4.symm)
      · subst e2; exact S.apart j' g _ e5 e6 (by rw [hg]; simp [zm])
    · rcases own' j' b h2 with ⟨e4, e5⟩ | ⟨e4, e5, e6⟩
      · subst e5; exact S.apart j g _ e2 e3 (by rw [hg]; simp [zm])
      · exact S.apart j j' b hj e3 e6
theorem tb {C : Cx} {c : Code} {st : St} {Q : Exit → St → Prop} (g g' n : Nat) {len cap : Nat} {T0 : TypeId} {xs : List AV} (l : List AV) (st' : St) (hgN : Nat.ble C.N g = true) (hgN' : Nat.ble C.N g' = true) (hgK : Nat.blt g' C.K = true) (hgg : Nat.beq g g' = false)
    (hg : look st g = .box T0 (.imm (.agg xs))) (hf : uE [g'] st = true) (hd : look st' g = .dead) (hs : subF g g' n len cap l st st')
    (hw : ∀ x ∈ xs, x.width = n) (hcap : cap = xs.length) (hlen : len ≤ cap) (hmax : cap ≤ maxLen) (hl : xs.take len = l)
    (h : AW C c ((g', .tok n l) :: st') Q) : AW C c st Q := by
  intro a w ⟨G, S⟩
  refine h a w ?_
  have hgne : g ≠ g' := by rintro rfl; rw [Nat.beq_refl] at hgg; cases hgg
  have e : ∀ j, look ((g', .tok n l) :: st') j = if j = g' then .tok n l else look st' j := by
    intro j
    have := wO (look st') g' (.tok n l) j
    rw [vG] at this
    exact this
  refine S.freezeW (Nat.le_of_ble_eq_true hgN) (Nat.le_of_ble_eq_true hgN') (by simpa [Nat.blt_eq] using hgK) hgne hg hw hcap hlen hmax hl (wW st hf) (fun j hj => ?_) ?_ ?_
  · rw [e, if_neg hj]
    exact subF_spec hs j
  · rw [e, if_neg hgne]; exact hd
  · rw [e, if_pos rfl]
end Go.Al
namespace Go.Al
open Go.RowKit
section
variable {C : Cx} {A : Nat → SV} {d : Nat} {ty : TypeId} {pos : String} {af : Array Edge} {gd : Option (Nat × Bool)} {x y : Operand} {T T' : TypeId}
theorem slOwn_aux {g n : Nat} {l : List UInt8} {T0 el : TypeId} {ylo : Option Operand} {lo : Nat} {R : List Nat} (hN : Nat.blt d C.N = true) (hgN : Nat.ble C.N g = true) (hx : ∀ A' : Nat → SV, (∀ k ∈ R, A' k = A k) → opS A' x = .ptr g 0) (hg : ∀ A' : Nat → SV, (∀ k ∈ R, A' k = A k) → A' g = .box T0 (.imm (.arr n l)))
    (hT : C.P.underlying T = some (.array n el)) (hn : yJ C.P el = some 1) (hm : n ≤ maxLen) (hl : lo ≤ n)
    (h2 : ∀ A' G a w, (∀ k ∈ R, A' k = A k) → SimG C A' G a w → (match ylo.map a.eval with | some v => ∃ k i, v = .int k i ∧ i = (lo : Int) | none => lo = 0)) :
    zv C ⟨some d, .slice T x ylo none none, ty, pos, af, gd⟩ R [] A [(g, .dead), (d, .imm (.sl 1 (zx (l.drop lo))))] := by
  intro A' a w hR hF ⟨G, S⟩
  have hN' : d < C.N := by simpa [Nat.blt_eq] using hN
  have hgd : g ≠ d := by have := Nat.le_of_ble_eq_true hgN; omega
  have hgA := hg A' hR
  obtain ⟨c, hc1, hc2⟩ := S.opS (hx A' hR) rfl
  simp only [RepS] at hc1
  have hev : a.eval x = .pointer (some ⟨G.blk g, 0, none⟩) := by rw [hc2, hc1]; rfl
  have hb := S.holds g
  rw [hgA] at hb
  simp only [Holds] at hb
  obtain ⟨how, ⟨cs, fr, hb2, hb3, hb4⟩, hni⟩ := hb
  simp only [RepS] at hb3
  have h2' := h2 A' G a w hR S
  obtain ⟨S1, hle, hcell⟩ := S.giveUp fr hgA hb2
  have hw : yR w (G.blk g) (.cells cs T0 fr) = w := rn hb2
  rw [hw] at S1 hle hcell
  have hrep : Rep w (fun b o => G.I b o ∨ (b = G.blk g ∧ o < cs.size)) (.cp (.arr n l)) (a.eval x) := by
    rw [hev]
    exact jY (RepC.mono hle _ _ hb3) hcell
  obtain ⟨u, k1, k2⟩ := run_slArr (ylo := ylo.map a.eval) hrep hT hn hl hm h2'
  have S2 := S1.put hN' (x := .imm (.sl 1 (zx (l.drop lo)))) (v := u) (yg.2 k2)
  have eu : upd (upd A' [(g, .dead)]) [(d, .imm (.sl 1 (zx (l.drop lo))))] = upd A' [(g, .dead), (d, .imm (.sl 1 (zx (l.drop lo))))] := by
    funext k
    simp only [upd]
    by_cases hkd : d = k
    · subst hkd; rw [zM hgd]; simp
    · rw [zM hkd]; simp
  rw [eu] at S2
  unfold Oper.wp
  have hrun : (execOp a.eval ⟨some d, .slice T x ylo none none, ty, pos, af, gd⟩).run C.P w = .ok (.value u) w := by
    simp only [execOp, Option.map_none, Sem.run_bind, k1, Result.andThen_ok, Sem.run_pure]
  rw [hrun, Oper.upon_value]
  exact ⟨_, S2⟩
theorem s_slOwn_l {g n : Nat} {l : List UInt8} {T0 el : TypeId} {k : IntKind} {i : Int} (hN : Nat.blt d C.N = true) (hgN : Nat.ble C.N g = true) (hx : opS A x = .ptr g 0) (hg : A g = .box T0 (.imm (.arr n l))) (hy : opV A y = some (.v (.int k i))) (hT : C.P.underlying T = some (.array n el)) (hn : yJ C.P el = some 1) (hm : Nat.ble n maxLen = true) (h : 0 ≤ i ∧ i ≤ n) :
    zv C ⟨some d, .slice T x (some y) none none, ty, pos, af, gd⟩ (g :: (opR x ++ opR y)) [] A [(g, .dead), (d, .imm (.sl 1 (zx (l.drop i.toNat))))] := by
  refine slOwn_aux hN hgN (fun A' hR => (yd (fun k hk => hR k (List.mem_cons_of_mem _ (List.mem_append_left _ hk)))).trans hx) (fun A' hR => (hR g List.mem_cons_self).trans hg) hT hn (Nat.le_of_ble_eq_true hm) (by omega) ?_
  intro A' G a w hR S
  rw [← yU (fun k hk => hR k (List.mem_cons_of_mem _ (List.mem_append_right _ hk)))] at hy
  exact ⟨k, i, yV (S.opV hy), by omega⟩
end
theorem look_bslg {st : St} {k g n : Nat} {T : TypeId} {l m : List AV} (h : look st k = .box T (.slg g n l)) (e : l = m) : look st k = .box T (.slg g n m) := by rw [h, e]
def W1 (xs : List AV) : Prop := ∀ x ∈ xs, x.width = 1
theorem W1.bytes (l : List UInt8) : W1 (zx l) := by
  intro x hx
  simp only [zx, List.mem_map] at hx
  obtain ⟨b, _, rfl⟩ := hx
  rfl
theorem W1.app {a b : List AV} (h : W1 a) (k : W1 b) : W1 (a ++ b) := fun x hx => (List.mem_append.1 hx).elim (h x) (k x)
theorem W1.nil : W1 [] := fun x hx => by cases hx
theorem W1.cons {n : Int} {b : List AV} (k : W1 b) : W1 (.v (.int .u8 n) :: b) := fun x hx => (List.mem_cons.1 hx).elim (fun h => by rw [h]; rfl) (k x)
theorem yo (a b : List UInt8) : zx a ++ zx b = zx (a ++ b) := by simp [zx]
theorem yQ (l : List UInt8) : (zx l).length = l.length := by simp [zx]
theorem byte_av {n : Int} {c : UInt8} (h : n = c.toNat) : AV.v (.int .u8 n) = .v (wr c) := by rw [h]; rfl
theorem bytesL_one (c : UInt8) : zx [c] = [.v (wr c)] := rfl
theorem cp_take {m xs : List AV} {len : Nat} (h : len = m.length) (h2 : len ≤ xs.length) : (m.take (min m.length len) ++ xs.drop (min m.length len)).take len = m := by
  subst h
  rw [Nat.min_self, List.take_append_of_le_length (by simp), List.take_take, Nat.min_self, List.take_of_length_le (Nat.le_refl _)]
theorem cp_len {m xs : List AV} {len : Nat} (h : len = m.length) (h2 : len ≤ xs.length) : xs.length = (m.take (min m.length len) ++ xs.drop (min m.length len)).length := by
  subst h
  rw [Nat.min_self, List.length_append, List.length_take, List.length_drop]; omega
theorem cp_w {n len cap : Nat} {m : List AV} {X0 : AV} (h : ∀ x ∈ m, x.width = n) (h0 : X0.width = n) : ∀ x ∈ m.take (min m.length len) ++ (List.replicate cap X0).drop (min m.length len), x.width = n := by
  intro x hx
  rcases List.mem_append.1 hx with hx | hx
  · exact h x (List.mem_of_mem_take hx)
  · rw [List.eq_of_mem_replicate (List.mem_of_mem_drop hx)]; exact h0
theorem nil1 {P : Program} {Γ : List (Nat × AV)} {f : FuncId} {n : Nat} {xs rs : List AV} (c : zn P Γ f (.sl n [] :: xs) rs) : zn P Γ f (.v (.slice none 0 0) :: xs) rs :=
  c.args ⟨Up.nil n, Ups.refl xs⟩
theorem pcall_nil {P : Program} {Γ : List (Nat × AV)} {f : FuncId} {n : Nat} {xs ys : List AV} (c : tE P Γ f (.slg 100001 n [] :: xs.map .imm) [(100001, .tok n [])] (.slg 100001 n ys) [(100001, .tok n ys)]) :
    zn P Γ f (.v (.slice none 0 0) :: xs) [.sl n ys] := by
  refine ⟨c.1, fun w I args hv hg hr => ?_⟩
  let G : Gh := ⟨I, fun _ => 0, fun _ => .slice none 0 0, fun _ => 0⟩
  simp only [yc] at hr
  obtain ⟨c0, r, rfl, h1, h2⟩ := hr
  have hown : ∀ b, ¬ HOwn G [(100001, .tok n [])] b := by
    rintro b ⟨k, hk⟩
    simp only [look, upd] at hk
    cases hb : Nat.beq 100001 k <;> rw [hb] at hk
    · simp only [cond_false, zm] at hk
    · simp only [cond_true, zm, G] at hk
      obtain ⟨_, _, _, h, _⟩ := hk
      cases h
  have hv0 : mkV (.v (.slice none 0 0)) c0 = .slice none 0 0 := u9 (I := I) ⟨c0, h1, rfl⟩ rfl
  have hpre : MPre Γ w G (.slg 100001 n [] :: xs.map .imm) [(100001, .tok n [])] (mkV (.v (.slice none 0 0)) c0 :: r) := by
    refine ⟨hv, hg, ⟨_, r, rfl, ?_, th (G := G) h2⟩, fun k => ?_, fun k j b hkj hk _ => absurd ⟨k, hk⟩ (hown b)⟩
    · rw [hv0]
      refine ⟨[.slice none 0 0], ?_, rfl⟩
      simp only [RepS, RepC]
      exact ⟨_, rfl, ⟨_, rfl, .inl ⟨none, 0, rfl, trivial, Nat.zero_le _, fun _ => rfl⟩⟩, by simp, fun _ => rfl⟩
    · simp only [look, upd]
      cases hb : Nat.beq 100001 k
      · simp only [cond_false, Holds]
      · simp only [cond_true, Holds]
        exact ⟨rfl, .inl ⟨rfl, rfl⟩⟩
  refine (c.2 w G _ hpre).mono ?_
  rintro e w' ⟨v, G', rfl, D⟩
  refine ⟨v, G'.I, rfl, ⟨D.os, D.tape, D.output, D.size, fun k hk => D.block k hk (hown k)⟩, D.le, fun b o h => ?_, D.val, ?_⟩
  · rcases D.new b o h with h | h | h
    · exact .inl h
    · exact .inr h
    · exact absurd h (hown b)
  · obtain ⟨c1, k1, k2⟩ := D.res
    simp only [RepS] at k1
    obtain ⟨u, rfl, k3, _⟩ := k1
    exact ⟨_, k3, k2⟩
end Go.Al
namespace Go.Al
open Go.RowKit
def Rz (g g' n : Nat) (l : List AV) (x y : SV) : Prop :=
  (y = x ∧ noG [g'] x = true) ∨ (x = .slg g n l ∧ y = .slg g' n l) ∨ ∃ T, x = .box T (.slg g n l) ∧ y = .box T (.slg g' n l)
def subR (g g' n : Nat) (l : List AV) (st : St) : St → Prop
  | [] => True
  | (k, y) :: r => Rz g g' n l (look st k) y ∧ subR g g' n l st r
theorem subR_spec {g g' n : Nat} {l : List AV} {st : St} : ∀ {st' : St}, subR g g' n l st st' → ∀ k, look st' k = .dead ∨ Rz g g' n l (look st k) (look st' k)
  | [], _, k => .inl rfl
  | (j, x) :: r, h, k => by
    simp only [look, upd]
    cases hb : Nat.beq j k
    · exact subR_spec h.2 k
    · have := Nat.eq_of_beq_eq_true hb
      subst this
      exact .inr h.1
theorem SimG.renTok {C : Cx} {A B : Nat → SV} {G : Gh} {a : Act} {w : World} (S : SimG C A G a w) {g g' n n' : Nat} {l l' : List AV} (hgN : C.N ≤ g) (hgN' : C.N ≤ g') (hgg : g ≠ g') (hg : A g = .tok n l) (hg' : A g' = .tok n' l') (hlt : l'.length < l.length)
    (hB : ∀ j, j ≠ g' → B j = .dead ∨ Rz g g' n l (A j) (B j)) (hBg : B g = .dead) (hB' : B g' = .tok n l) : Sim C B a w := by
  let G' : Gh := { I := G.I, blk := G.blk, cur := fun j => if j = g' then G.cur g else G.cur j, len := fun j => if j = g' then G.len g else G.len j }
  have ht := S.holds g
  rw [hg] at ht
  simp only [Holds] at ht
  have ht' := S.holds g'
  rw [hg'] at ht'
  simp only [Holds] at ht'
  have hrel : GRel [g'] G G' := fun j hj => by
    have hjg : j ≠ g' := by simpa using hj
    exact ⟨rfl, .inl ⟨by simp only [G', if_neg hjg], by simp only [G', if_neg hjg]⟩⟩
  have hturn : Turns G G' g' := ⟨rfl, .inr (by simp only [G', if_true]; omega)⟩
  have hle : Le w G.I w G'.I := Le.refl _ _
  have hslg : ∀ v, ValS w G (.slg g n l) v → ValS w G' (.slg g' n l) v := by
    rintro v ⟨c, h1, h2⟩
    simp only [RepS] at h1
    refine ⟨c, ?_, h2⟩
    simp only [RepS, G', if_true]
    exact h1
  have own' : ∀ j b, zm G' j b (B j) → (j = g' ∧ zm G g b (A g)) ∨ (j ≠ g' ∧ j ≠ g ∧ zm G j b (A j)) := by
    intro j b h
    by_cases hj : j = g'
    · subst hj
      rw [hB'] at h
      simp only [zm, G', if_true] at h
      exact .inl ⟨rfl, by rw [hg]; simpa only [zm] using h⟩
    · by_cases hjg : j = g
      · subst hjg; rw [hBg] at h; simp only [zm] at h
      · refine .inr ⟨hj, hjg, ?_⟩
        rcases hB j hj with e | ⟨e, _⟩ | ⟨_, e⟩ | ⟨T, e1, e⟩
        · rw [e] at h; simp only [zm] at h
        · rw [e] at h
          revert h
          generalize A j = y
          cases y <;> simp only [zm, G', if_neg hj] <;> exact id
        · rw [e] at h; simp only [zm] at h
        · rw [e] at h; rw [e1]; simpa only [zm] using h
  refine ⟨G', S.os, S.tape, S.output, S.size, S.block, S.sub, fun j hj => ?_, S.glob, S.new, S.val, S.nts, S.dfs, fun j => ?_, fun j j' b hj h1 h2 => ?_⟩
  · by_cases hjg : j = g'
    · subst hjg; exact (S.rel j hj).trans hturn
    · exact (S.rel j hj).trans (hrel j (by simpa using hjg))
  · by_cases hj : j = g'
    · subst hj
      rw [hB']
      simp only [Holds, G', if_true]
      exact ht
    · by_cases hjg : j = g
      · subst hjg; rw [hBg]; simp only [Holds]
      · have keep : noG [g'] (A j) = true → Holds C.w0 C.E G' a w j (A j) := fun hn => (S.holds j).keep hle hrel hn (Nat.le_refl _) (fun h => ⟨h, rfl⟩) (fun _ => ⟨rfl, by simp only [G', if_neg hj], by simp only [G', if_neg hj]⟩) (fun b hbk => ⟨rfl, fun o hi => hi⟩)
        rcases hB j hj with e | ⟨e, hn⟩ | ⟨e1, e⟩ | ⟨T, e1, e⟩
        · rw [e]; simp only [Holds]
        · rw [e]; exact keep hn
        · rw [e]
          have hk := S.holds j
          rw [e1] at hk
          exact ⟨hk.1, hslg _ hk.2⟩
        · rw [e]
          have hk := S.holds j
          rw [e1] at hk
          simp only [Holds] at hk ⊢
          obtain ⟨m1, ⟨cs1, fr1, m2, m3, m4⟩, m5⟩ := hk
          refine ⟨m1, ⟨cs1, fr1, m2, ?_, m4⟩, m5⟩
          simp only [RepS] at m3 ⊢
          simp only [G', if_true]
          exact m3
  · rcases own' j b h1 with ⟨e1, e2⟩ | ⟨e1, e2, e3⟩
    · rcases own' j' b h2 with ⟨e4, e5⟩ | ⟨e4, e5, e6⟩
      · exact hj (e1.trans e4.symm)
      · exact S.apart j' g _ e5 e6 e2
    · rcases own' j' b h2 with ⟨e4, e5⟩ | ⟨e4, e5, e6⟩
      · exact S.apart j g _ e2 e3 e5
      · exact S.apart j j' b hj e3 e6
theorem aw_renTok {C : Cx} {c : Code} {st : St} {Q : Exit → St → Prop} (g g' n : Nat) {n' : Nat} {l' : List AV} (l : List AV) (st' : St) (hgN : Nat.ble C.N g = true) (hgN' : Nat.ble C.N g' = true) (hgg : Nat.beq g g' = false)
    (hg : look st g = .tok n l) (hg' : look st g' = .tok n' l') (hd : look st' g = .dead) (hs : subR g g' n l st st') (hlt : l'.length < l.length)
    (h : AW C c ((g', .tok n l) :: st') Q) : AW C c st Q := by
  intro a w ⟨G, S⟩
  refine h a w ?_
  have hgne : g ≠ g' := by rintro rfl; rw [Nat.beq_refl] at hgg; cases hgg
  have e : ∀ j, look ((g', .tok n l) :: st') j = if j = g' then .tok n l else look st' j := by
    intro j
    have := wO (look st') g' (.tok n l) j
    rw [vG] at this
    exact this
  refine S.renTok (Nat.le_of_ble_eq_true hgN) (Nat.le_of_ble_eq_true hgN') hgne hg hg' hlt (fun j hj => ?_) ?_ ?_
  · rw [e, if_neg hj]
    exact subR_spec hs j
  · rw [e, if_neg hgne]; exact hd
  · rw [e, if_pos rfl]
end Go.Al
namespace Go.Al
open Go.RowKit
section
variable {C : Cx} {A : Nat → SV} {d : Nat} {ty : TypeId} {pos : String} {af : Array Edge} {gd : Option (Nat × Bool)} {x y : Operand} {T T' : TypeId}
def cmpFn (P : Program) (f : FuncId) : Prop := ∃ fn, P.funcs[f]? = some fn ∧ (fn.name == "runtime.NumGoroutine") = false ∧ fn.body.isNone = true ∧ Extern.findNext fn = none ∧ Extern.find fn = some Extern.BytealgCompare.compare
theorem s_cmpS {f : FuncId} {ats : Array TypeId} {s t : ByteArray} (hf : cmpFn C.P f) (hN : Nat.blt d C.N = true) (hx : opV A x = some (.v (.string s))) (hy : opV A y = some (.v (.string t))) :
    zv C ⟨some d, .call { callee := .value (.func f), args := #[x, y], argTypes := ats }, ty, pos, af, gd⟩ (opR x ++ opR y) [] A [(d, .imm (.v (.int .i64 (Lib.compareBytes s.data.toList t.data.toList))))] := by
  refine zv.value rfl hN fun A' G a w hR S => ?_
  rw [← yU (fun k hk => hR k (List.mem_append_left _ hk))] at hx
  rw [← yU (fun k hk => hR k (List.mem_append_right _ hk))] at hy
  have h1 := xk (S.opV hx)
  have h2 := xk (S.opV hy)
  obtain ⟨fn, h3, h4, h5, h6, h7⟩ := hf
  refine ⟨.int .i64 (Lib.compareBytes s.data.toList t.data.toList), ?_, yg.2 (xm _ _ rfl)⟩
  have e := run_callFunc_extern h3 h4 h5 h6 h7 #[.string s, .string t] w
  rw [Lib.run_compareString] at e
  have hev : a.eval (.func f) = .func (.func f) #[] #[] := rfl
  simp only [execOp, resolve, hev, Deferred.ofValue, Sem.run_bind, Sem.run_pure, Result.andThen_ok, invoke]
  simpa [h1, h2] using e
end
end Go.Al
namespace Go.Al
open Go.RowKit
mutual
theorem sV {g g' : Nat} : ∀ x : SV, noG [g, g'] x = true → noG [g] x = true ∧ noG [g'] x = true
  | .ptr k _, h => by simp only [noG] at h ⊢; simp at h ⊢; exact h
  | .slg k _ _, h => by simp only [noG] at h ⊢; simp at h ⊢; exact h
  | .osl k _ _ _, h => by simp only [noG] at h ⊢; simp at h ⊢; exact h
  | .mref k, h => by simp only [noG] at h ⊢; simp at h ⊢; exact h
  | .itr k _ _, h => by simp only [noG] at h ⊢; simp at h ⊢; exact h
  | .agg fs, h => by simp only [noG] at h ⊢; exact vL fs h
  | .tup fs, h => by simp only [noG] at h ⊢; exact vL fs h
  | .box _ x, h => by simp only [noG] at h ⊢; exact sV x h
  | .fnv _ a b, h => by
    simp only [noG, Bool.and_eq_true] at h ⊢
    exact ⟨⟨(vL a h.1).1, (vL b h.2).1⟩, (vL a h.1).2, (vL b h.2).2⟩
  | .imm _, _ => by simp only [noG]; trivial
  | .dead, _ => by simp only [noG]; trivial
  | .undef, _ => by simp only [noG]; trivial
  | .tok _ _, _ => by simp only [noG]; trivial
  | .mpr _ _, _ => by simp only [noG]; trivial
  | .row _, _ => by simp only [noG]; trivial
  | .gen _, _ => by simp only [noG]; trivial
  | .ifp _ k _, h => by simp only [noG] at h ⊢; simp at h ⊢; exact h
theorem vL {g g' : Nat} : ∀ xs : List SV, noGs [g, g'] xs = true → noGs [g] xs = true ∧ noGs [g'] xs = true
  | [], _ => ⟨rfl, rfl⟩
  | x :: xs, h => by
    simp only [noGs, Bool.and_eq_true] at h ⊢
    exact ⟨⟨(sV x h.1).1, (vL xs h.2).1⟩, (sV x h.1).2, (vL xs h.2).2⟩
end
theorem SimG.drop {C : Cx} {A B : Nat → SV} {G : Gh} {a : Act} {w : World} (S : SimG C A G a w) (h : ∀ k, B k = A k ∨ B k = .dead) : SimG C B G a w := by
  refine ⟨S.os, S.tape, S.output, S.size, S.block, S.sub, S.rel, S.glob, S.new, S.val, S.nts, S.dfs, fun k => ?_, fun k j b hkj h1 h2 => ?_⟩
  · rcases h k with e | e
    · rw [e]; exact S.holds k
    · rw [e]; simp only [Holds]
  · rcases h k with e | e
    · rcases h j with e' | e'
      · rw [e] at h1; rw [e'] at h2; exact S.apart k j b hkj h1 h2
      · rw [e'] at h2; simp only [zm] at h2
    · rw [e] at h1; simp only [zm] at h1
section
variable {C : Cx} {A : Nat → SV} {d : Nat} {ty : TypeId} {pos : String} {af : Array Edge} {gd : Option (Nat × Bool)} {x y : Operand} {T T' : TypeId}
theorem run_buildSlice0 {P : Program} {w : World} {T el : TypeId} {n : Nat} (hT : P.underlying T = some (.slice el)) (hn : yJ P el = some n) :
    (Instr.buildSlice T 0 #[]).run P w = .ok (.slice (some ⟨w.heap.size, 0, none⟩) 0 0) (w.alloc (.cells #[] el)) := by
  simp only [Instr.buildSlice, Sem.run_bind, za hT, Result.andThen_ok, yI hn, Nat.zero_mul]
  rw [if_neg (by omega)]
  simp only [Sem.run_bind, Sem.run_pure, Result.andThen_ok, if_true]
  simp only [Instr.fill, newRow, run_newObj, Sem.run_bind, Result.andThen_ok, Sem.run_pure]
  rw [show Array.range 0 = #[] from rfl, Array.map_empty]
  rfl
theorem s_build0 (g g' : Nat) {el : TypeId} {n : Nat} (hgN : Nat.ble C.N g = true) (hgN' : Nat.ble C.N g' = true) (hgK : Nat.blt g C.K = true) (hgK' : Nat.blt g' C.K = true) (hgg : Nat.beq g g' = false) (hN : Nat.blt d C.N = true) (hT : C.P.underlying T = some (.slice el)) (hn : yJ C.P el = some n) :
    zv C ⟨some d, .buildSlice T 0 #[], ty, pos, af, gd⟩ [] [g, g'] A [(g', .tok n []), (d, .slg g' n []), (g, .dead)] := by
  intro A' a w hR hF ⟨G, S⟩
  have hN' : d < C.N := by simpa [Nat.blt_eq] using hN
  have hgd : g ≠ d := by have := Nat.le_of_ble_eq_true hgN; omega
  have hgd' : g' ≠ d := by have := Nat.le_of_ble_eq_true hgN'; omega
  have hne : g ≠ g' := by rintro rfl; rw [Nat.beq_refl] at hgg; cases hgg
  have k1 := run_buildSlice0 (w := w) hT hn
  let A0 : Nat → SV := fun k => if k = g' then .dead else A' k
  have S0 : SimG C A0 G a w := S.drop fun k => by by_cases h : k = g' <;> simp [A0, h]
  have hfr : ∀ k, k ≠ g → k ≠ d → noG [g, g'] (A0 k) = true := by
    intro k h1 h2
    by_cases h3 : k = g'
    · simp [A0, h3, noG]
    · have := hF k (by simp only [has, zM (Ne.symm h3), zM (Ne.symm h2), zM (Ne.symm h1)]; rfl)
      simpa [A0, h3] using this
  have hb1 := S0.allocBox (T := el) (cs := #[]) (x := .imm (.agg [])) hgd (by simpa [Nat.blt_eq] using hgK) hN' (by simp only [RepS, RepC, xH]) (by simp only [noG]) (fun k hk => by
    simp only [has, Bool.or_eq_false_iff] at hk
    have h1 : k ≠ g := by rintro rfl; rw [Nat.beq_refl] at hk; cases hk.1
    have h2 : k ≠ d := by rintro rfl; rw [Nat.beq_refl] at hk; cases hk.2.1
    exact (sV _ (hfr k h1 h2)).1)
  obtain ⟨G1, S1⟩ := hb1
  have hgA : G1.blk g = w.heap.size := by
    have h1 := S1.holds d
    have e : upd A0 [(g, .box el (.imm (.agg []))), (d, .ptr g 0)] d = .ptr g 0 := by simp only [upd]; rw [zM hgd]; simp
    rw [e] at h1
    obtain ⟨_, c, h2, h3⟩ := h1
    simp only [RepS] at h2
    rw [h2] at h3
    have e2 : (a.put (some d) (.pointer (some ⟨w.heap.size, 0, none⟩))).tmps.getD d Go.undef = .pointer (some ⟨w.heap.size, 0, none⟩) := by simp [Act.put, S.nts, hN']
    rw [e2] at h3
    simp only [mkS, SV.isAgg, Bool.false_eq_true, if_false, List.headD_cons, Value.pointer.injEq, Option.some.injEq, Addr.mk.injEq] at h3
    exact h3.1.symm
  have S2 := S1.put hN' (x := .osl g 0 0 0) (v := .slice (some ⟨w.heap.size, 0, none⟩) 0 0) ⟨[.slice (some ⟨G1.blk g, 0, none⟩) 0 0], by simp only [RepS], by simp only [mkS, SV.isAgg, hgA]; rfl⟩
  rw [Act.put_put] at S2
  have eu : ∀ k, upd (upd A0 [(g, .box el (.imm (.agg []))), (d, .ptr g 0)]) [(d, .osl g 0 0 0)] k = if k = g then .box el (.imm (.agg [])) else if k = d then .osl g 0 0 0 else A0 k := by
    intro k
    simp only [upd]
    by_cases hkd : d = k
    · subst hkd; rw [if_neg (Ne.symm hgd)]; simp
    · rw [zM hkd]
      by_cases hkg : g = k
      · subst hkg; simp
      · rw [zM hkg, if_neg (Ne.symm hkg), if_neg (Ne.symm hkd)]; simp
  have S3 := S2.freezeW (B := upd A' [(g', .tok n []), (d, .slg g' n []), (g, .dead)]) (g := g) (g' := g') (n := n) (len := 0) (cap := 0) (T0 := el) (xs := []) (l := []) (Nat.le_of_ble_eq_true hgN) (Nat.le_of_ble_eq_true hgN') (by simpa [Nat.blt_eq] using hgK') hne (by rw [eu, if_pos rfl]) (by simp) rfl (Nat.le_refl _) (Nat.zero_le _) rfl
    (fun j => by
      rw [eu]
      split
      · simp only [noG]
      · split
        · simp only [noG]; simp [hne]
        · rename_i h1 h2; exact (sV _ (hfr j h1 h2)).2)
    (fun j hj => by
      rw [eu]
      simp only [upd, zM (Ne.symm hj), cond_false]
      by_cases hjd : d = j
      · subst hjd; rw [Nat.beq_refl, if_neg (Ne.symm hgd), if_pos rfl]; exact .inr (.inr (.inl ⟨rfl, rfl⟩))
      · rw [zM hjd]
        by_cases hjg : g = j
        · subst hjg; left; simp
        · rw [zM hjg, if_neg (Ne.symm hjg), if_neg (Ne.symm hjd)]; right; left; simp [A0, hj])
    (by simp only [upd, zM (Ne.symm hne), zM (Ne.symm hgd), cond_false, Nat.beq_refl, cond_true]) (by simp only [upd, Nat.beq_refl, cond_true])
  unfold Oper.wp
  simp only [execOp, Sem.run_bind, Array.map_empty, k1, Result.andThen_ok, Sem.run_pure, Oper.upon_value]
  exact S3
end
end Go.Al
namespace Go.Al
open Go.RowKit
theorem SimG.newtokB {C : Cx} {A : Nat → SV} {G : Gh} {a : Act} {w : World} (S : SimG C A G a w) {g b n off : Nat} {T : TypeId} {X X' : SV} (hgN : C.N ≤ g) (hgK : g < C.K) (hgb : g ≠ b) (hb : A b = .box T X) (hY : getS 8 X off 1 false = some (.imm (.v (.slice none 0 0))))
    (hX : setS 8 X off (.slg g n []) = some X') (hf : ∀ j, noG [g] (A j) = true) : Sim C (upd A [(g, .tok n []), (b, .box T X')]) a w := by
  let G' : Gh := { G with cur := fun j => if j = g then .slice none 0 0 else G.cur j, len := fun j => if j = g then 0 else G.len j }
  have hg : GRel [g] G G' := fun j hj => by
    have hjg : j ≠ g := by simpa using hj
    exact ⟨rfl, .inl ⟨by simp only [G', if_neg hjg], by simp only [G', if_neg hjg]⟩⟩
  have hle := Le.refl w G.I
  have hu : ∀ j, upd A [(g, .tok n []), (b, .box T X')] j = if j = g then .tok n [] else if j = b then .box T X' else A j := by
    intro j
    simp only [upd]
    by_cases h1 : j = g
    · subst h1; simp
    · rw [zM (Ne.symm h1), if_neg h1]
      by_cases h2 : j = b
      · subst h2; simp
      · rw [zM (Ne.symm h2), if_neg h2]; rfl
  have own' : ∀ j k, zm G' j k (upd A [(g, .tok n []), (b, .box T X')] j) → j ≠ g ∧ zm G j k (A j) := by
    intro j k h
    rw [hu] at h
    split at h
    · rename_i hj
      simp only [zm, G', hj, if_true] at h
      obtain ⟨_, _, _, h1, _⟩ := h
      cases h1
    · rename_i hj
      refine ⟨hj, ?_⟩
      split at h
      · rename_i hjb; subst hjb; rw [hb]; simpa only [zm] using h
      · revert h
        generalize A j = y
        cases y <;> simp only [zm, G', if_neg hj] <;> exact id
  refine ⟨G', S.os, S.tape, S.output, S.size, S.block, S.sub.trans hle, fun j hj => (S.rel j hj).trans (hg j (by simp; omega)), S.glob, S.new, S.val, S.nts, S.dfs, fun j => ?_, fun j j' k hj h1 h2 => S.apart j j' k hj (own' j k h1).2 (own' j' k h2).2⟩
  rw [hu]
  split
  · rename_i hj; subst hj
    simp only [Holds, G', if_true]
    exact ⟨rfl, .inl ⟨rfl, rfl⟩⟩
  · rename_i hj
    split
    · rename_i hjb; subst hjb
      have hh := S.holds j
      have hn := hf j
      rw [hb] at hh hn
      simp only [Holds] at hh ⊢
      simp only [noG] at hn
      obtain ⟨m1, ⟨cs, fr, m2, m3, m4⟩, m5⟩ := hh
      refine ⟨m1, ⟨cs, fr, m2, ?_, m4⟩, m5⟩
      obtain ⟨y1, _, _, y4⟩ := vz 8 X cs.toList off 1 false _ m3 hY
      simp only [RepS, RepC] at y1
      have m3' : RepS w G' X cs.toList := RepS.mono (G' := G') hle hg _ _ hn m3
      have hnil : RepS w G' (.slg g n []) [.slice none 0 0] := by
        simp only [RepS, RepC]
        exact ⟨_, rfl, ⟨_, rfl, .inl (by simpa using nil_sl 0)⟩, by simp, fun _ => by simp only [G', if_true]⟩
      obtain ⟨z1, _⟩ := tV hnil 8 X cs.toList off X' m3' hX
      have e : cs.toList.take off ++ [Value.slice none 0 0] ++ cs.toList.drop (off + [Value.slice none 0 0].length) = cs.toList := by
        have e1 : (cs.toList.drop off).take 1 = [Value.slice none 0 0] := (by simpa [Value.cells] using y1 : _ ∧ _).1
        rw [← e1]
        simp only [List.length_take, List.length_drop]
        rw [List.append_assoc, show off + min 1 (cs.toList.length - off) = off + 1 from by omega, ← List.drop_drop, List.take_append_drop, List.take_append_drop]
      rw [e] at z1
      exact z1
    · exact (S.holds j).keep hle hg (hf j) (Nat.le_refl _) (fun h => ⟨h, rfl⟩) (fun _ => ⟨rfl, by simp only [G', if_neg hj], by simp only [G', if_neg hj]⟩) (fun b _ => ⟨rfl, fun _ h => h⟩)
theorem vQ {C : Cx} {c : Code} {st : St} {Q : Exit → St → Prop} (g b n off : Nat) {T : TypeId} {X X' : SV} (hgN : Nat.ble C.N g = true) (hgK : Nat.blt g C.K = true) (hgb : Nat.beq g b = false) (hb : look st b = .box T X)
    (hY : getS 8 X off 1 false = some (.imm (.v (.slice none 0 0)))) (hX : setS 8 X off (.slg g n []) = some X') (hf : uE [g] st = true)
    (h : AW C c ((g, .tok n []) :: (b, .box T X') :: st) Q) : AW C c st Q := by
  intro a w ⟨G, S⟩
  have hgne : g ≠ b := by rintro rfl; rw [Nat.beq_refl] at hgb; cases hgb
  have := S.newtokB (n := n) (Nat.le_of_ble_eq_true hgN) (by simpa [Nat.blt_eq] using hgK) hgne hb hY hX (wW st hf)
  rw [vG] at this
  exact h a w this
end Go.Al
