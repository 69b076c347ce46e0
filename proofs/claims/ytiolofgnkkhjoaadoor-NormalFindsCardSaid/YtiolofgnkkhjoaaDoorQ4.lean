/- Texts that the proofs of this claim share, part 4: the abstract logic, plain Lean on values and batches, and walks. No condition but those typed in each lemma. -/
import Derived.Maps.RangeRun
import Derived.Sort.OwnSorted
import Derived.RangeFuncLeaves
import Derived.RangeFuncRecord
import Derived.RangeFuncSeq
import Derived.Test.YtiolofgnkkhjoaaDoorQ3
set_option linter.unusedSimpArgs false
set_option linter.unusedVariables false
set_option maxHeartbeats 400000
namespace Go.Al
open Go.RowKit
section
variable {C : Cx} {A : Nat → SV} {d : Nat} {ty : TypeId} {pos : String} {af : Array Edge} {gd : Option (Nat × Bool)} {x y : Operand} {T T' : TypeId}
theorem s_ixOsl {g n len cap : Nat} {el : TypeId} {i : Nat} {z : Int} {k : IntKind} (hN : Nat.blt d C.N = true) (hx : opS A x = .osl g 0 len cap) (hy : opV A y = some (.v (.int k z))) (hT : C.P.underlying T = some (.slice el)) (hn : zq C.P el = some n)
    (hz : z = i) (h : i < len) : zW C ⟨some d, .indexAddr T x y, ty, pos, af, gd⟩ (opR x ++ opR y) [] A [(d, .ptr g (i * n))] := by
  refine zW.value rfl hN fun A' G a w hR S => ?_
  obtain ⟨c, hc1, hc2⟩ := S.opS ((zz (fun k hk => hR k (List.mem_append_left _ hk))).trans hx) rfl
  simp only [RepS] at hc1
  have hev : a.eval x = .slice (some ⟨G.blk g, 0, none⟩) len cap := by rw [hc2, hc1]; rfl
  rw [← zt (fun k hk => hR k (List.mem_append_right _ hk))] at hy
  have hi := zu (S.opV hy)
  subst hz
  refine ⟨.pointer (some ⟨G.blk g, i * n, none⟩), ?_, [.pointer (some ⟨G.blk g, i * n, none⟩)], by simp only [RepS], rfl⟩
  have hb : (0 : Int) ≤ (i : Int) ∧ (i : Int) < (len : Int) := by omega
  simp only [execOp, Instr.indexAt, hi, hev, asIntOf, Instr.sureAddr, Sem.run_bind, Sem.run_pure, Result.andThen_ok, zK hT, hb, and_self, if_true, zm hn, yp, Int.toNat_natCast, Nat.zero_add]
theorem s_slOsl {g n len cap : Nat} {el : TypeId} {lo : Nat} {z : Int} {k : IntKind} (hN : Nat.blt d C.N = true) (hx : opS A x = .osl g 0 len cap) (hy : opV A y = some (.v (.int k z))) (hT : C.P.underlying T = some (.slice el)) (hn : zq C.P el = some n)
    (hz : z = lo) (h : lo ≤ len) : zW C ⟨some d, .slice T x (some y) none none, ty, pos, af, gd⟩ (opR x ++ opR y) [] A [(d, .osl g (if cap = lo then 0 else lo * n) (len - lo) (cap - lo))] := by
  refine zW.value rfl hN fun A' G a w hR S => ?_
  obtain ⟨c, hc1, hc2⟩ := S.opS ((zz (fun k hk => hR k (List.mem_append_left _ hk))).trans hx) rfl
  simp only [RepS] at hc1
  have hev : a.eval x = .slice (some ⟨G.blk g, 0, none⟩) len cap := by rw [hc2, hc1]; rfl
  rw [← zt (fun k hk => hR k (List.mem_append_right _ hk))] at hy
  have hi := zu (S.opV hy)
  refine ⟨.slice (some ⟨G.blk g, if cap = lo then 0 else lo * n, none⟩) (len - lo) (cap - lo), ?_, [.slice (some ⟨G.blk g, if cap = lo then 0 else lo * n, none⟩) (len - lo) (cap - lo)], by simp only [RepS], rfl⟩
  have e3 : (Instr.sliceBounds true len cap (some (a.eval y)) none none).run C.P w = .ok (lo, len, cap) w := by
    simp only [Instr.sliceBounds, Sem.run_bind, Sem.run_pure, Result.andThen_ok, Option.isSome_none, Bool.false_eq_true, if_false, if_true, hi, x4 hz h]
  simp only [execOp, Option.map_none, Option.map_some, Sem.run_bind, hev, Instr.sliceAt, zK hT, Result.andThen_ok, Instr.slice, e3, zm hn, Sem.run_pure]
  by_cases hc : cap = lo
  · rw [if_pos hc, if_pos hc]
  · rw [if_neg hc, if_neg hc]; first | rfl | rw [yp, Nat.zero_add]
theorem s_storeElt {g n i : Nat} {xs : List AV} {v : AV} {T0 : TypeId} (h : opS A x = .ptr g (i * n)) (hg : A g = .box T0 (.imm (.agg xs))) (hy : opV A y = some v) (hn : zq C.P T = some n)
    (hw : ∀ x ∈ xs, x.width = n) (hv : v.width = n) (hi : i < xs.length) :
    zW C ⟨none, .store T x y, ty, pos, af, gd⟩ (g :: (opR x ++ opR y)) [] A [(g, .box T0 (.imm (.agg (xs.take i ++ v :: xs.drop (i + 1)))))] := by
  intro A' a w hR hF ⟨G, S⟩
  have hgA : A' g = .box T0 (.imm (.agg xs)) := (hR g List.mem_cons_self).trans hg
  obtain ⟨c, hc1, hc2⟩ := S.opS ((zz (fun k hk => hR k (List.mem_cons_of_mem _ (List.mem_append_left _ hk)))).trans h) rfl
  simp only [RepS] at hc1
  have hev : a.eval x = .pointer (some ⟨G.blk g, i * n, none⟩) := by rw [hc2, hc1]; rfl
  rw [← zt (fun k hk => hR k (List.mem_cons_of_mem _ (List.mem_append_right _ hk)))] at hy
  have hyR := S.opV hy
  obtain ⟨vc, hv1, hv2⟩ := hyR
  have hvc : (a.eval y).cells.toList = vc := by rw [hv2]; exact wg hv1
  have hvl := hv1.len
  have hb := S.holds g
  rw [hgA] at hb
  simp only [Holds] at hb
  obtain ⟨_, ⟨cs, fr, hb2, hb3, hb4⟩, _⟩ := hb
  simp only [RepS, RepC] at hb3
  have hE := (wW hw).1 hb3
  have hcl := hE.len
  simp only [Array.length_toList] at hcl
  have hfit : i * n + vc.length ≤ cs.size := by
    have := xA (n := n) (show i + 1 ≤ xs.length from hi)
    rw [Nat.add_mul] at this; omega
  have hst := xG (P := C.P) (b := G.blk g) (o := i * n) vc w cs hb2 hb4 hfit hv1.plain
  have hnew : RepS w G (.imm (.agg (xs.take i ++ v :: xs.drop (i + 1)))) (yQ cs (i * n) vc).toList := by
    simp only [RepS, RepC]
    refine (wW (n := n) ?_).2 ?_
    · intro z hz
      rcases List.mem_append.1 hz with hz | hz
      · exact hw z (List.mem_of_mem_take hz)
      · rcases List.mem_cons.1 hz with rfl | hz
        · exact hv
        · exact hw z (List.mem_of_mem_drop hz)
    · rw [yi _ _ _ hfit, List.append_assoc]
      refine (hE.split i (by omega)).1.append ?_
      have h2 := (hE.split (i + 1) (by omega)).2
      have ev : vc.length = n := by rw [hvl, hv]
      rw [Nat.add_mul, Nat.one_mul] at h2
      simp only [RepE]
      exact ⟨vc, _, rfl, ev, hv1, by rw [ev]; exact h2⟩
  unfold Oper.wp
  have hrun : (storeVar T ⟨G.blk g, i * n, none⟩ (a.eval y)).run C.P w = .ok () (zr w (G.blk g) (.cells (yQ cs (i * n) vc) T0 fr)) := by
    simp only [storeVar, Sem.run_bind, zm hn, Result.andThen_ok, hvc]
    have e : (a.eval y).cells.size = n := by rw [← Array.length_toList, hvc, hvl, hv]
    rw [if_neg (by omega)]
    exact hst
  simp only [execOp, Instr.storeAt, Instr.sureAddr, hev, Sem.run_bind, Sem.run_pure, Result.andThen_ok, hrun]
  rw [Oper.upon_skip]
  exact S.storeBox hgA hb2 (xI _ _ _) hnew
theorem s_copy_at {g off len cap n o : Nat} {xs m : List AV} {el : TypeId} {T0 : TypeId} (hd' : ∀ d', d = d' → True) (hgN : Nat.ble C.N g = true) (hx : opS A x = .osl g off len cap) (hg : A g = .box T0 (.imm (.agg xs))) (hy : opV A y = some (.sl n m)) (hT : C.P.underlying T = some (.slice el)) (hn : zq C.P el = some n)
    (hN : Nat.blt d C.N = true) (ho : off = o * n) (hw : ∀ x ∈ xs, x.width = n) (hlen : o + len ≤ xs.length) :
    zW C ⟨some d, .call { callee := .builtin .copy, args := #[x, y], argTypes := #[T, T'] }, ty, pos, af, gd⟩ (g :: (opR x ++ opR y)) [] A
      [(g, .box T0 (.imm (.agg (xs.take o ++ (m.take (min m.length len) ++ xs.drop (o + min m.length len)))))), (d, .imm (.v (.int .i64 (min m.length len : Nat))))] := by
  intro A' a w hR hF ⟨G, S⟩
  have hgA : A' g = .box T0 (.imm (.agg xs)) := (hR g List.mem_cons_self).trans hg
  have hN' : d < C.N := by simpa [Nat.blt_eq] using hN
  have hgd : g ≠ d := by have := Nat.le_of_ble_eq_true hgN; omega
  obtain ⟨c, hc1, hc2⟩ := S.opS ((zz (fun k hk => hR k (List.mem_cons_of_mem _ (List.mem_append_left _ hk)))).trans hx) rfl
  simp only [RepS] at hc1
  have hev : a.eval x = .slice (some ⟨G.blk g, off, none⟩) len cap := by rw [hc2, hc1]; rfl
  rw [← zt (fun k hk => hR k (List.mem_cons_of_mem _ (List.mem_append_right _ hk)))] at hy
  have hyR := S.opV hy
  have hb := S.holds g
  rw [hgA] at hb
  simp only [Holds] at hb
  obtain ⟨how, ⟨cs, fr, hb2, hb3, hb4⟩, hni⟩ := hb
  simp only [RepS, RepC] at hb3
  have hE := (wW hw).1 hb3
  obtain ⟨k, hk⟩ : ∃ k, k = min m.length len := ⟨_, rfl⟩
  rw [← hk]
  have hkm : k ≤ m.length := by omega
  have hkx : o + k ≤ xs.length := by omega
  obtain ⟨es, e1, e2, e3⟩ : ∃ es, RepE w G.I n (m.take k) es ∧ (Builtin.lenOf (a.eval y)).run C.P w = .ok m.length w ∧ (Builtin.firstCells n k (a.eval y)).run C.P w = .ok es.toArray w := by
    rcases rep_sl hyR with ⟨p, cap', h1, rfl, _, _⟩ | ⟨b, o, cap', h1, h2, h3, h4⟩
    · have hk0 : k = 0 := by rw [hk]; simp
      refine ⟨[], ?_, by rw [h1]; rfl, by rw [h1, hk0]; cases p <;> first | rfl | (simp only [Builtin.firstCells, Nat.zero_mul, Nat.mul_zero, loadCells, loadCellsFrom]; rfl)⟩
      simp [RepE]
    · obtain ⟨ds, q1, q2⟩ := h4.cells
      obtain ⟨q3, _⟩ := q1.split k hkm
      refine ⟨ds.take (k * n), q3, by rw [h1]; rfl, ?_⟩
      rw [h1]
      simp only [Builtin.firstCells]
      have hdl := q1.len
      have : (ds.take (k * n)).length = k * n := by
        have := xA (n := n) hkm
        rw [List.length_take]; omega
      have hld := y6 (P := C.P) (w := w) (b := b) (o := o) (ds.take (k * n)) (fun j hj => by
        rw [this] at hj
        have := (q2 j (by have := xA (n := n) hkm; omega)).1
        simp only [List.getElem_take]
        exact this)
      rw [this] at hld
      exact hld
  have hel := e1.len
  rw [List.length_take, Nat.min_eq_left hkm] at hel
  have hcl := hE.len
  simp only [Array.length_toList] at hcl
  have hfit : off + es.length ≤ cs.size := by rw [hel, hcl, ho, ← Nat.add_mul]; exact xA hkx
  have hst := xG (P := C.P) (b := G.blk g) (o := off) es w cs hb2 hb4 (by omega) e1.plain
  have q5 := (hE.split o (by omega)).1
  have q4 := (hE.split (o + k) hkx).2
  have hnew : RepS w G (.imm (.agg (xs.take o ++ (m.take k ++ xs.drop (o + k))))) (yQ cs off es).toList := by
    simp only [RepS, RepC]
    refine (wW (n := n) ?_).2 ?_
    · intro z hz
      rcases List.mem_append.1 hz with hz | hz
      · exact hw z (List.mem_of_mem_take hz)
      rcases List.mem_append.1 hz with hz | hz
      · have : ∀ (l : List AV) (c : List Value), RepE w G.I n l c → ∀ z ∈ l, z.width = n := by
          intro l
          induction l with
          | nil => intro c _ z hz; cases hz
          | cons p l ih =>
            intro c h z hz
            simp only [RepE] at h
            obtain ⟨c1, c2, _, h1, h2, h3⟩ := h
            rcases List.mem_cons.1 hz with rfl | hz
            · rw [← RepC.len _ _ h2]; exact h1
            · exact ih c2 h3 z hz
        exact this _ _ e1 z hz
      · exact hw z (List.mem_of_mem_drop hz)
    · rw [yi _ _ _ hfit, List.append_assoc, hel, ho, ← Nat.add_mul]
      exact q5.append (e1.append q4)
  have S1 := S.storeBox hgA hb2 (xI _ _ _) hnew
  obtain ⟨G1, S1⟩ := S1
  have S2 := S1.put hN' (x := .imm (.v (.int .i64 (k : Nat)))) (v := .int .i64 k) (yC.2 (xB _ _ rfl))
  have eu : upd (upd A' [(g, .box T0 (.imm (.agg (xs.take o ++ (m.take k ++ xs.drop (o + k))))))]) [(d, .imm (.v (.int .i64 (k : Nat))))] = upd A' [(g, .box T0 (.imm (.agg (xs.take o ++ (m.take k ++ xs.drop (o + k)))))), (d, .imm (.v (.int .i64 (k : Nat))))] := by
    funext j
    simp only [upd]
    by_cases hkd : d = j
    · subst hkd; rw [zJ hgd]; simp
    · rw [zJ hkd]; simp
  rw [eu] at S2
  unfold Oper.wp
  have hrun : (execOp a.eval ⟨some d, .call { callee := .builtin .copy, args := #[x, y], argTypes := #[T, T'] }, ty, pos, af, gd⟩).run C.P w = .ok (.value (.int .i64 k)) (zr w (G.blk g) (.cells (yQ cs off es) T0 fr)) := by
    simp only [execOp, resolve, Sem.run_bind, Sem.run_pure, Result.andThen_ok, invoke, builtin]
    have e0 : (#[x, y].map a.eval) = #[a.eval x, a.eval y] := by simp
    have f1 : (#[T, T'] : Array TypeId)[0]? = some T := rfl
    have f3 : (#[a.eval x, a.eval y] : Array Value)[0]? = some (a.eval x) := rfl
    have f4 : (#[a.eval x, a.eval y] : Array Value)[1]? = some (a.eval y) := rfl
    rw [e0]
    simp only [Builtin.copy_, f1, f3, f4]
    simp only [hev, Sem.run_bind, zK hT, Result.andThen_ok, e2, zm hn]
    have : Nat.min m.length len = k := hk.symm
    simp only [this, e3, Result.andThen_ok, hst, Sem.run_pure, goInt]
  rw [hrun, Oper.upon_value]
  exact ⟨G1, S2⟩
end
theorem look_bagg {st : St} {k : Nat} {T : TypeId} {l m : List AV} (h : look st k = .box T (.imm (.agg l))) (e : l = m) : look st k = .box T (.imm (.agg m)) := by rw [h, e]
theorem row1 {m : List AV} {z : AV} {p r N : Nat} (hm : m.length = p) (hN : N = p + 1 + r) : m.take (min m.length N) ++ (List.replicate N z).drop (min m.length N) = m ++ List.replicate (1 + r) z := by
  rw [Nat.min_eq_left (by omega), List.take_length, List.drop_replicate, show N - m.length = 1 + r by omega]
theorem row2 {m : List AV} {z e : AV} {p r : Nat} (hm : m.length = p) : (m ++ List.replicate (1 + r) z).take p ++ e :: (m ++ List.replicate (1 + r) z).drop (p + 1) = m ++ e :: List.replicate r z := by
  rw [List.take_append_of_le_length (by omega), List.take_of_length_le (by omega), List.drop_append, List.drop_of_length_le (by omega), List.nil_append, List.drop_replicate, show 1 + r - (p + 1 - m.length) = r by omega]
theorem row3 {m R : List AV} {z e : AV} {p r N : Nat} (hm : m.length = p) (hR : R.length = r) (hN : N = p + 1 + r) :
    (m ++ e :: List.replicate r z).take (if N = p + 1 then 0 else p + 1) ++ (R.take (min R.length (N - (p + 1))) ++ (m ++ e :: List.replicate r z).drop ((if N = p + 1 then 0 else p + 1) + min R.length (N - (p + 1)))) = m ++ e :: R := by
  by_cases h : N = p + 1
  · have hr : r = 0 := by omega
    subst hr
    obtain rfl := List.eq_nil_of_length_eq_zero hR
    rw [if_pos h]; simp
  · rw [if_neg h, show N - (p + 1) = r by omega, hR, Nat.min_self, ← hR, List.take_length]
    have e1 : (m ++ e :: List.replicate R.length z).take (p + 1) = m ++ [e] := by
      rw [List.take_append, List.take_of_length_le (by omega), show p + 1 - m.length = 1 by omega]; rfl
    have e2 : (m ++ e :: List.replicate R.length z).drop (p + 1 + R.length) = [] := List.drop_of_length_le (by simp; omega)
    rw [e1, e2, List.append_nil, List.append_assoc]; rfl
theorem widths_mem {n : Nat} {l : List AV} (h : ∀ x ∈ l, x.width = n) {z : AV} (hz : z.width = n) (r : Nat) : ∀ x ∈ l ++ List.replicate r z, x.width = n := fun x hx => (List.mem_append.1 hx).elim (h x) fun hx => by rw [List.eq_of_mem_replicate hx]; exact hz
end Go.Al
namespace Go.Proofs
open Go Go.Al
def wk {α : Type} (p : α → Bool) : List α → Nat → Int
  | [], _ => -1
  | x :: xs, n => if p x then n else wk p xs (n + 1)
theorem firstI_any {α : Type} (p : α → Bool) : ∀ (l : List α) (n : Nat), decide (wk p l n ≥ 0) = l.any p
  | [], n => by simp [wk]
  | x :: xs, n => by
    rw [wk, List.any_cons]
    cases h : p x
    · rw [if_neg (by simp), firstI_any p xs (n + 1)]; rfl
    · simp
theorem xr {α : Type} {p : α → Bool} {l : List α} {i : Nat} {d : α} (h : i < l.length) : wk p (l.drop i) i = if p (nth l i d) then (i : Int) else wk p (l.drop (i + 1)) (i + 1) := by
  rw [drop_nth (d := d) h, wk]
theorem str_nth {l : List ByteArray} {i : Nat} (h : i < l.length) : (l.map fun x => sv x)[((i : Nat) : Int).toNat]? = some (sv (nth l i ⟨#[]⟩)) := wY (d := ⟨#[]⟩) h
theorem u8_nth {l : List Int} {i : Nat} (h : i < l.length) : (l.map fun x => cv x)[((i : Nat) : Int).toNat]? = some (cv (nth l i 0)) := wY (d := 0) h
theorem dropA_snoc (keys : List ByteArray) : ∀ (l : List GA) (x : GA), xE keys (l ++ [x]) = xE keys l ++ (if keys.any (fun k => decide (k = x.key)) then [] else [x])
  | [], x => by simp only [List.nil_append, xE]
  | y :: l, x => by
    simp only [List.cons_append, xE, dropA_snoc keys l x]
    split <;> simp
theorem dropA_take {keys : List ByteArray} {l : List GA} {i : Nat} (h : i < l.length) : xE keys (l.take (i + 1)) = xE keys (l.take i) ++ (if keys.any (fun k => decide (k = (nthA l i).key)) then [] else [nthA l i]) := by
  rw [yG (yr (d := a0) h), dropA_snoc]; rfl
theorem dropA_len (keys : List ByteArray) : ∀ l : List GA, (xE keys l).length ≤ l.length
  | [] => Nat.le_refl _
  | x :: l => by rw [xE]; have := dropA_len keys l; split <;> simp <;> omega
theorem plain_take {kinds : List Int} {l : List GA} {i : Nat} (h : i < l.length) : (l.take (i + 1)).map (yo kinds) = (l.take i).map (yo kinds) ++ [yo kinds (nthA l i)] := by
  rw [yG (yr (d := a0) h), List.map_append]; rfl
theorem sameV_ne {a b : GV} (h : a ≠ b) : sameV a b = false := by cases hs : sameV a b; rfl; exact absurd ((xh _ _).1 hs) h
theorem sameAs_ne {a b : List GA} (h : a ≠ b) : wL a b = false := by cases hs : wL a b; rfl; exact absurd ((yN _ _).1 hs) h
theorem yt {α : Type} {l m : List α} (d : α) (hl : l.length = m.length) (h : ∀ i, i < l.length → nth l i d = nth m i d) : l = m := by
  refine List.ext_getElem hl fun i h1 h2 => ?_
  have := h i h1
  unfold nth at this
  rwa [List.getD_eq_getElem?_getD, List.getD_eq_getElem?_getD, List.getElem?_eq_getElem h1, List.getElem?_eq_getElem h2] at this
theorem GA.ext' {a b : GA} (h1 : a.key = b.key) (h2 : a.val = b.val) : a = b := by cases a; cases b; simp only [GA.key_mk, GA.val_mk] at h1 h2; rw [h1, h2]
theorem GV.ext' {a b : GV} (h1 : a.kind = b.kind) (h2 : a.text = b.text) (h3 : a.num = b.num) (h4 : a.bits = b.bits) (h5 : a.list = b.list) (h6 : a.map = b.map) : a = b := by
  cases a; cases b
  simp only [GV.kind_mk, GV.text_mk, GV.num_mk, GV.bits_mk, GV.list_mk, GV.map_mk] at h1 h2 h3 h4 h5 h6
  rw [h1, h2, h3, h4, h5, h6]
theorem w_ {a b : GV} (h1 : a.kind = b.kind) (h2 : a.text = b.text) (h3 : a.num = b.num) (h4 : a.bits = b.bits) (h5 : a.list = b.list) : wL a.map b.map = sameV a b := by
  rw [Bool.eq_iff_iff, yN, xh]
  exact ⟨fun h => GV.ext' h1 h2 h3 h4 h5 h, fun h => by rw [h]⟩
def wR (l : List GA) (k : ByteArray) : List GA := if hasA l k then l.drop (posA l k + 1) else l.drop (posA l k)
theorem restA_yes {l : List GA} {k : ByteArray} (h : hasA l k = true) : wR l k = l.drop (posA l k + 1) := by unfold wR; rw [if_pos h]
theorem restA_no {l : List GA} {k : ByteArray} (h : hasA l k = false) : wR l k = l.drop (posA l k) := by unfold wR; rw [if_neg (by rw [h]; decide)]
theorem restA_len (l : List GA) (k : ByteArray) : (wR l k).length ≤ l.length := by unfold wR; split <;> simp
theorem into_row {l : List GA} (k : ByteArray) (v : GV) : (l.take (posA l k)).map avA ++ (GA.mk k v).av :: (wR l k).map avA = (wQ l (.mk k v)).map avA := by
  rw [intoA_pos]
  simp only [List.map_append, List.map_cons, List.map_nil, avA_eq, List.append_assoc, List.cons_append, List.nil_append]
  rfl
theorem avA_w (l : List GA) : ∀ x ∈ l.map avA, x.width = 7 := fun x hx => by
  obtain ⟨y, _, rfl⟩ := List.mem_map.1 hx
  rw [avA_eq]; rfl
theorem rowW {z : AV} (hz : z.width = 7) (l : List GA) (e : GA) (r : Nat) : ∀ x ∈ l.map avA ++ e.av :: List.replicate r z, x.width = 7 := fun x hx => by
  rcases List.mem_append.1 hx with hx | hx
  · exact avA_w l x hx
  · rcases List.mem_cons.1 hx with rfl | hx
    · rfl
    · rw [List.eq_of_mem_replicate hx]; exact hz
theorem rowW2 (l : List GA) (e : GA) (R : List GA) : ∀ x ∈ l.map avA ++ e.av :: R.map avA, x.width = 7 := fun x hx => by
  rcases List.mem_append.1 hx with hx | hx
  · exact avA_w l x hx
  · rcases List.mem_cons.1 hx with rfl | hx
    · rfl
    · exact avA_w R x hx
end Go.Proofs
namespace Go.Al
open Go.RowKit
section
variable {C : Cx} {A : Nat → SV} {d : Nat} {ty : TypeId} {pos : String} {af : Array Edge} {gd : Option (Nat × Bool)} {x y : Operand} {T T' : TypeId}
end
end Go.Al
namespace Go.Proofs
open Go Go.Al
set_option maxRecDepth 10000
theorem vplain_c (v : GV) (ho : v.ok) (hw : v.wt ≤ 10000000) : zi Tryd.prog Γ0 59 [v.av] [(plainV v).av] := by
  refine zO Tryd.func59 rfl Tryd.ntmps59 (by kernel_rfl) rfl fun w0 I0 G0 => ?_
  refine zD <| zB <| g_uG (zd 1001 rfl rfl rfl rfl) rfl <| g_uG (zg 1002 rfl rfl rfl tZ71) rfl <| zG <| zA <| zD <| zB <| g_u (zH rfl rfl rfl tA71 tS71 rfl rfl) <| g_u (zS (text_c v ho hw) rfl rfl) <| g_u (yh rfl tU71 us71 pl71 rfl rfl rfl rfl) <| g_u (zL rfl rfl rfl tS71 rfl rfl) <| zG <| zA <| zM ?_
  exact ⟨⟨_, _, _, _, _, _, _, rfl, rfl, tA71, tS71, rfl, rfl, (rfl : toAV _ = some _).trans (congrArg some (by rfl))⟩, trivial⟩
theorem indexS_c (ks : List ByteArray) (k : ByteArray) (hk : ks.length ≤ 1000000000) : zi Tryd.prog Γ0 83 [(.sl 1 (ks.map fun x => sv x)), sv k] [iv (wk (fun x => decide (x = k)) ks 0)] := by
  refine zO Tryd.func83 rfl Tryd.ntmps83 (by kernel_rfl) rfl fun w0 I0 G0 => ?_
  refine zD <| zB <| g_u (zE rfl rfl) <| zG <| zA <| zD <| zD <| zB <| g_u (zC rfl rfl) <| g_u (yB rfl rfl Tryd.underlying37) <| g_u (zC rfl rfl) <| zG <| zA <| zQ ?_
  refine yA (fun i : Nat => [(0, .imm (.sl 1 (ks.map fun x => sv x))), (1, .imm (sv k)), (7, .imm (iv (ks.length : Int))), (8, .imm (iv (i : Int)))]) (fun i => i ≤ ks.length ∧ wk (fun x => decide (x = k)) ks 0 = wk (fun x => decide (x = k)) (ks.drop i) i) (fun i => ks.length - i) (0) ?_ ⟨rfl, rfl, zX rfl (by rw [List.length_map]), rfl, trivial⟩ ?_
  · exact ⟨Nat.zero_le _, rfl⟩
  · rintro i ⟨h1, h2⟩; (try dsimp only at h1 h2)
    refine zD <| zB <| g_u (xS rfl rfl rfl) <| zG <| zA <| zD ?_
    refine zT rfl (fun hb1 => ?_) (fun hb1 => ?_)
    · have hi : i < ks.length := by have := of_decide_eq_true hb1; (try simp only [List.length_map] at this); omega
      refine za <| zA <| zD <| zQ <| zD <| zB <| g_u (zC rfl rfl) <| g_u (zE rfl rfl) <| zG <| zA <| zD <| zB <| g_u (zC rfl rfl) <| g_u (zC rfl rfl) <| g_u (zC rfl rfl) ?_
      refine g_u (zf rfl rfl rfl Tryd.underlying37 tS9 (by omega) (str_nth hi)) ?_
      refine g_u (zk rfl rfl tA9 tS9 rfl rfl) <| g_u (s_eqS rfl rfl rfl) <| zG <| zA ?_
      refine zT rfl (fun hb2 => ?_) (fun hb2 => ?_)
      · have q : decide (nth ks i ⟨#[]⟩ = k) = true := by have e := hb2; rw [yY] at e; exact decide_eq_true (of_decide_eq_true e).symm
        refine zD <| zB <| g_u (zC rfl rfl) <| g_u (zE rfl rfl) <| zG <| zA <| zM <| z7 <| zV <| zV <| z7 <| zV ?_
        exact ⟨⟨(rfl : toAV (Al.look _ _) = some _).trans (congrArg some (by (exact congrArg iv (by first | (rw [h2, hin, List.drop_length]; rfl) | rw [h2, xr (d := ⟨#[]⟩) hi, if_pos q])))), rfl⟩, trivial⟩
      · have q : decide (nth ks i ⟨#[]⟩ = k) = false := by have e := hb2; rw [yY] at e; exact decide_eq_false fun h => of_decide_eq_false e h.symm
        refine za <| zU <| zA <| zB <| g_u (yZ rfl rfl rfl) <| g_u (zC rfl rfl) <| zG <| zA ?_
        refine ⟨i + 1, ⟨hi, by (try dsimp only); rw [h2, xr (d := ⟨#[]⟩) hi, if_neg (by rw [q]; decide)]⟩, ⟨rfl, rfl, rfl, zX rfl (by rw [zj (by omega) (by omega)]; rfl), trivial⟩, by (try dsimp only); omega⟩
    · have hin : i = ks.length := by have := of_decide_eq_false hb1; (try simp only [List.length_map] at this); omega
      refine yM <| ze <| ze <| z8 <| zA <| zD <| zB <| g_u (zE rfl rfl) <| zG <| zA <| zM ?_
      exact ⟨⟨(rfl : toAV (Al.look _ _) = some _).trans (congrArg some (by (exact congrArg iv (by first | (rw [h2, hin, List.drop_length]; rfl) | rw [h2, xr (d := ⟨#[]⟩) hi, if_pos q])))), rfl⟩, trivial⟩
theorem containsS_c (ks : List ByteArray) (k : ByteArray) (hk : ks.length ≤ 1000000000) : zi Tryd.prog Γ0 60 [(.sl 1 (ks.map fun x => sv x)), sv k] [bv (ks.any (fun x => decide (x = k)))] := by
  refine zO Tryd.func60 rfl Tryd.ntmps60 (by kernel_rfl) rfl fun w0 I0 G0 => ?_
  refine zD <| zB <| g_u (zE rfl rfl) <| zG <| zA <| zD <| zB <| g_u (zC rfl rfl) <| g_u (zC rfl rfl) ?_
  refine g_u (zS (indexS_c _ _ (by omega)) rfl rfl) ?_
  refine g_u (s_geI rfl rfl rfl) <| g_u (zE rfl rfl) <| zG <| zA <| zM ?_
  exact ⟨⟨(rfl : toAV (Al.look _ _) = some _).trans (congrArg some (by (exact congrArg bv (firstI_any _ _ 0)))), rfl⟩, trivial⟩
theorem indexU_c (ks : List Int) (k : Int) (hk : ks.length ≤ 1000000000) : zi Tryd.prog Γ0 82 [(.sl 1 (ks.map fun x => cv x)), cv k] [iv (wk (fun x => x == k) ks 0)] := by
  refine zO Tryd.func82 rfl Tryd.ntmps82 (by kernel_rfl) rfl fun w0 I0 G0 => ?_
  refine zD <| zB <| g_u (zE rfl rfl) <| zG <| zA <| zD <| zD <| zB <| g_u (zC rfl rfl) <| g_u (yB rfl rfl Tryd.underlying90) <| g_u (zC rfl rfl) <| zG <| zA <| zQ ?_
  refine yA (fun i : Nat => [(0, .imm (.sl 1 (ks.map fun x => cv x))), (1, .imm (cv k)), (7, .imm (iv (ks.length : Int))), (8, .imm (iv (i : Int)))]) (fun i => i ≤ ks.length ∧ wk (fun x => x == k) ks 0 = wk (fun x => x == k) (ks.drop i) i) (fun i => ks.length - i) (0) ?_ ⟨rfl, rfl, zX rfl (by rw [List.length_map]), rfl, trivial⟩ ?_
  · exact ⟨Nat.zero_le _, rfl⟩
  · rintro i ⟨h1, h2⟩; (try dsimp only at h1 h2)
    refine zD <| zB <| g_u (xS rfl rfl rfl) <| zG <| zA <| zD ?_
    refine zT rfl (fun hb1 => ?_) (fun hb1 => ?_)
    · have hi : i < ks.length := by have := of_decide_eq_true hb1; (try simp only [List.length_map] at this); omega
      refine za <| zA <| zD <| zQ <| zD <| zB <| g_u (zC rfl rfl) <| g_u (zE rfl rfl) <| zG <| zA <| zD <| zB <| g_u (zC rfl rfl) <| g_u (zC rfl rfl) <| g_u (zC rfl rfl) ?_
      refine g_u (zf rfl rfl rfl Tryd.underlying90 tS5 (by omega) (u8_nth hi)) ?_
      refine g_u (zk rfl rfl tA5 tS5 rfl rfl) <| g_u (xx rfl rfl rfl) <| zG <| zA ?_
      refine zT rfl (fun hb2 => ?_) (fun hb2 => ?_)
      · have q : (nth ks i 0 == k) = true := beq_iff_eq.2 (beq_iff_eq.1 hb2).symm
        refine zD <| zB <| g_u (zC rfl rfl) <| g_u (zE rfl rfl) <| zG <| zA <| zM <| z7 <| zV <| zV <| z7 <| zV ?_
        exact ⟨⟨(rfl : toAV (Al.look _ _) = some _).trans (congrArg some (by (exact congrArg iv (by first | (rw [h2, hin, List.drop_length]; rfl) | rw [h2, xr (d := 0) hi, if_pos q])))), rfl⟩, trivial⟩
      · have q : (nth ks i 0 == k) = false := qe.2 (Ne.symm (qe.1 hb2))
        refine za <| zU <| zA <| zB <| g_u (yZ rfl rfl rfl) <| g_u (zC rfl rfl) <| zG <| zA ?_
        refine ⟨i + 1, ⟨hi, by (try dsimp only); rw [h2, xr (d := 0) hi, if_neg (by rw [q]; decide)]⟩, ⟨rfl, rfl, rfl, zX rfl (by rw [zj (by omega) (by omega)]; rfl), trivial⟩, by (try dsimp only); omega⟩
    · have hin : i = ks.length := by have := of_decide_eq_false hb1; (try simp only [List.length_map] at this); omega
      refine yM <| ze <| ze <| z8 <| zA <| zD <| zB <| g_u (zE rfl rfl) <| zG <| zA <| zM ?_
      exact ⟨⟨(rfl : toAV (Al.look _ _) = some _).trans (congrArg some (by (exact congrArg iv (by first | (rw [h2, hin, List.drop_length]; rfl) | rw [h2, xr (d := 0) hi, if_pos q])))), rfl⟩, trivial⟩
theorem containsU_c (ks : List Int) (k : Int) (hk : ks.length ≤ 1000000000) : zi Tryd.prog Γ0 58 [(.sl 1 (ks.map fun x => cv x)), cv k] [bv (ks.any (fun x => x == k))] := by
  refine zO Tryd.func58 rfl Tryd.ntmps58 (by kernel_rfl) rfl fun w0 I0 G0 => ?_
  refine zD <| zB <| g_u (zE rfl rfl) <| zG <| zA <| zD <| zB <| g_u (zC rfl rfl) <| g_u (zC rfl rfl) ?_
  refine g_u (zS (indexU_c _ _ (by omega)) rfl rfl) ?_
  refine g_u (s_geI rfl rfl rfl) <| g_u (zE rfl rfl) <| zG <| zA <| zM ?_
  exact ⟨⟨(rfl : toAV (Al.look _ _) = some _).trans (congrArg some (by (exact congrArg bv (firstI_any _ _ 0)))), rfl⟩, trivial⟩
theorem drop_c (l : List GA) (ks : List ByteArray) (hl : l.length ≤ 10000000) (hk : ks.length ≤ 1000000000) : zi Tryd.prog Γ0 33 [(.sl 7 (l.map avA)), (.sl 1 (ks.map fun x => sv x))] [.sl 7 ((xE ks l).map avA)] := by
  refine zO Tryd.func33 rfl Tryd.ntmps33 (by kernel_rfl) rfl fun w0 I0 G0 => ?_
  refine zD <| zB <| g_u (zE rfl rfl) <| zG <| zA <| zD <| zB <| g_u (zE rfl rfl) <| zG <| zA <| zD <| zD <| aw_newtok 3005 5 7 rfl rfl rfl rfl <| zB <| g_u (zC rfl rfl) <| g_u (yB rfl rfl Tryd.underlying30) <| g_u (zC rfl rfl) <| zG <| zA <| zQ ?_
  refine yA (fun i : Nat => [(1, .imm (.sl 1 (ks.map fun x => sv x))), (8, .imm (.sl 7 (l.map avA))), (9, .imm (iv (l.length : Int))), (5, .slg 3005 7 ((xE ks (l.take i)).map avA)), (3005, .tok 7 ((xE ks (l.take i)).map avA)), (10, .imm (iv (i : Int)))]) (fun i => i ≤ l.length) (fun i => l.length - i) (0) ?_ ⟨rfl, rfl, zX rfl (by rw [List.length_map]), rfl, rfl, rfl, trivial⟩ ?_
  · exact Nat.zero_le _
  · rintro i h1; have h1 : i ≤ l.length := h1
    refine zD <| zB <| g_u (xS rfl rfl rfl) <| zG <| zA <| zD ?_
    refine zT rfl (fun hb1 => ?_) (fun hb1 => ?_)
    · have hi : i < l.length := by have := of_decide_eq_true hb1; (try simp only [List.length_map] at this); omega
      refine za <| zA <| zD <| zQ <| zD <| zB ?_
      refine g_u (zf rfl rfl rfl Tryd.underlying30 tS73 (by omega) (ixA hi)) ?_
      refine g_u (zk rfl rfl tA73 tS73 rfl rfl) <| g_uG (zg 1007 rfl rfl rfl tZ73) rfl <| g_u (zL rfl rfl rfl tS73 rfl rfl) <| zG <| zA <| zD <| zB <| g_u (zC rfl rfl) <| g_u (zF rfl rfl fa73_0 rfl) <| g_u (zH rfl rfl rfl tA9 tS9 rfl rfl) ?_
      refine g_u (zS (containsS_c _ _ (by omega)) rfl rfl) ?_
      refine g_u (wv rfl rfl) <| zG <| zA ?_
      refine zT rfl (fun hb2 => ?_) (fun hb2 => ?_)
      · have et : (xE ks (l.take (i + 1))).map avA = (xE ks (l.take i)).map avA ++ [(nthA l i).av] := by rw [dropA_take hi, if_neg (by have e := hb2; simp only [Bool.not_eq_true'] at e; rw [e]; decide)]; simp [avA_eq]
        refine zB <| g_u (zy rfl rfl) <| g_u (zn rfl rfl rfl tA73 tS73 rfl rfl) <| g_u (z_ (X0 := z73) rfl Tryd.underlying30 tS73 tZ73 rfl rfl rfl rfl rfl rfl rfl rfl) ?_
        refine g_u (yH rfl rfl rfl rfl rfl Tryd.underlying30 Tryd.underlying30 tS73 zv73 rfl (by decide) by73 (by (try dsimp only); have hdl := dropA_len ks (l.take i); simp only [List.length_append, List.length_cons, List.length_nil, List.length_map, List.length_take] at *; omega) (by (try dsimp only); have hdl := dropA_len ks (l.take i); simp only [List.length_append, List.length_cons, List.length_nil, List.length_map, List.length_take] at *; omega)) ?_
        refine g_u (z0 rfl rfl) <| zG <| zU <| zA <| zB <| g_u (yZ rfl rfl rfl) <| g_u (zC rfl rfl) <| zG <| zA ?_
        refine ⟨i + 1, hi, ⟨rfl, rfl, rfl, yT rfl et.symm, yD rfl et.symm, zX rfl (by rw [zj (by omega) (by omega)]; rfl), trivial⟩, by (try dsimp only); omega⟩
      · have et : (xE ks (l.take (i + 1))).map avA = (xE ks (l.take i)).map avA := by rw [dropA_take hi, if_pos (by have e := hb2; simp only [Bool.not_eq_false'] at e; exact e)]; simp [avA_eq]
        refine za <| zU <| zA <| zB <| g_u (yZ rfl rfl rfl) <| g_u (zC rfl rfl) <| zG <| zA ?_
        refine ⟨i + 1, hi, ⟨rfl, rfl, rfl, yT rfl et.symm, yD rfl et.symm, zX rfl (by rw [zj (by omega) (by omega)]; rfl), trivial⟩, by (try dsimp only); omega⟩
    · have hin : i = l.length := by have := of_decide_eq_false hb1; (try simp only [List.length_map] at this); omega
      refine yM <| ze <| ze <| z8 <| zA <| zD <| zB <| g_u (zy rfl rfl) <| g_u (z0 rfl rfl) <| zG <| zA <| zM ?_
      exact ⟨⟨(rfl : toAV (Al.look _ _) = some _).trans (congrArg some (by (rw [hin, List.take_length]))), rfl⟩, trivial⟩
theorem plainAs_c (l : List GA) (ks : List Int) (ho : ∀ a ∈ l, a.ok) (hw : wtAs l ≤ 10000000) (hk : ks.length ≤ 1000000000) : zi Tryd.prog Γ0 32 [(.sl 7 (l.map avA)), (.sl 1 (ks.map fun x => cv x))] [.sl 7 ((l.map (yo ks)).map avA)] := by
  have hl := yj l
  refine zO Tryd.func32 rfl Tryd.ntmps32 (by kernel_rfl) rfl fun w0 I0 G0 => ?_
  refine zD <| zB <| g_u (zE rfl rfl) <| zG <| zA <| zD <| zB <| g_u (zE rfl rfl) <| zG <| zA <| zD <| zD <| aw_newtok 3005 5 7 rfl rfl rfl rfl <| zB <| g_u (zC rfl rfl) <| g_u (yB rfl rfl Tryd.underlying30) <| g_u (zC rfl rfl) <| zG <| zA <| zQ ?_
  refine yA (fun i : Nat => [(1, .imm (.sl 1 (ks.map fun x => cv x))), (8, .imm (.sl 7 (l.map avA))), (9, .imm (iv (l.length : Int))), (5, .slg 3005 7 (((l.take i).map (yo ks)).map avA)), (3005, .tok 7 (((l.take i).map (yo ks)).map avA)), (10, .imm (iv (i : Int)))]) (fun i => i ≤ l.length) (fun i => l.length - i) (0) ?_ ⟨rfl, rfl, zX rfl (by rw [List.length_map]), rfl, rfl, rfl, trivial⟩ ?_
  · exact Nat.zero_le _
  · rintro i h1; have h1 : i ≤ l.length := h1
    refine zD <| zB <| g_u (xS rfl rfl rfl) <| zG <| zA <| zD ?_
    refine zT rfl (fun hb1 => ?_) (fun hb1 => ?_)
    · have hi : i < l.length := by have := of_decide_eq_true hb1; (try simp only [List.length_map] at this); omega
      have gov : (nthA l i).val.ok := ((GA.ok_iff _).1 (ho _ (nthA_mem hi))).2
      have gow : (nthA l i).val.wt ≤ 10000000 := by have h1 := xt (nthA_mem hi); have h2 := (nthA l i).wt_eq; omega
      refine za <| zA <| zD <| zQ <| zD <| zB ?_
      refine g_u (zf rfl rfl rfl Tryd.underlying30 tS73 (by omega) (ixA hi)) ?_
      refine g_u (zk rfl rfl tA73 tS73 rfl rfl) <| g_uG (zg 1007 rfl rfl rfl tZ73) rfl <| g_u (zL rfl rfl rfl tS73 rfl rfl) <| zG <| zA <| zD <| zD <| zB <| g_u (zC rfl rfl) <| g_u (zF rfl rfl fa73_1 rfl) <| g_u (zF rfl rfl fa71_0 rfl) <| g_u (zH rfl rfl rfl tA5 tS5 rfl rfl) ?_
      refine g_u (zS (containsU_c _ _ (by omega)) rfl rfl) ?_
      refine zG <| zA ?_
      refine zT rfl (fun hb2 => ?_) (fun hb2 => ?_)
      · have et : ((l.take (i + 1)).map (yo ks)).map avA = ((l.take i).map (yo ks)).map avA ++ [.agg [sv (nthA l i).key, (plainV (nthA l i).val).av]] := by rw [plain_take hi, List.map_append]; simp only [List.map_cons, List.map_nil, avA_eq]; unfold yo; rw [if_pos hb2]; rfl
        refine zB <| g_u (zF rfl rfl fa73_1 rfl) <| g_u (zH rfl rfl rfl tA71 tS71 rfl rfl) <| g_u (zS (vplain_c _ gov gow) rfl rfl) <| g_u (zF rfl rfl fa73_1 rfl) <| g_u (zL rfl rfl rfl tS71 rfl rfl) <| zG <| zA <| zB <| g_u (zy rfl rfl) <| g_u (zn rfl rfl rfl tA73 tS73 rfl rfl) <| g_u (z_ (X0 := z73) rfl Tryd.underlying30 tS73 tZ73 rfl rfl rfl rfl rfl rfl rfl rfl) ?_
        refine g_u (yH rfl rfl rfl rfl rfl Tryd.underlying30 Tryd.underlying30 tS73 zv73 rfl (by decide) by73 (by (try dsimp only); simp only [List.length_append, List.length_cons, List.length_nil, List.length_map, List.length_take, List.length_drop]; omega) (by (try dsimp only); simp only [List.length_append, List.length_cons, List.length_nil, List.length_map, List.length_take, List.length_drop]; omega)) ?_
        refine g_u (z0 rfl rfl) <| zG <| zU <| zA <| zB <| g_u (yZ rfl rfl rfl) <| g_u (zC rfl rfl) <| zG <| zA ?_
        refine ⟨i + 1, hi, ⟨rfl, rfl, rfl, yT rfl et.symm, yD rfl et.symm, zX rfl (by rw [zj (by omega) (by omega)]; rfl), trivial⟩, by (try dsimp only); omega⟩
      · have et : ((l.take (i + 1)).map (yo ks)).map avA = ((l.take i).map (yo ks)).map avA ++ [(nthA l i).av] := by rw [plain_take hi, List.map_append]; simp only [List.map_cons, List.map_nil, avA_eq]; unfold yo; rw [if_neg (by rw [hb2]; decide)]
        refine za <| zA <| zB <| g_u (zy rfl rfl) <| g_u (zn rfl rfl rfl tA73 tS73 rfl rfl) <| g_u (z_ (X0 := z73) rfl Tryd.underlying30 tS73 tZ73 rfl rfl rfl rfl rfl rfl rfl rfl) ?_
        refine g_u (yH rfl rfl rfl rfl rfl Tryd.underlying30 Tryd.underlying30 tS73 zv73 rfl (by decide) by73 (by (try dsimp only); simp only [List.length_append, List.length_cons, List.length_nil, List.length_map, List.length_take, List.length_drop]; omega) (by (try dsimp only); simp only [List.length_append, List.length_cons, List.length_nil, List.length_map, List.length_take, List.length_drop]; omega)) ?_
        refine g_u (z0 rfl rfl) <| zG <| zU <| zA <| zB <| g_u (yZ rfl rfl rfl) <| g_u (zC rfl rfl) <| zG <| zA ?_
        refine ⟨i + 1, hi, ⟨rfl, rfl, rfl, yT rfl et.symm, yD rfl et.symm, zX rfl (by rw [zj (by omega) (by omega)]; rfl), trivial⟩, by (try dsimp only); omega⟩
    · have hin : i = l.length := by have := of_decide_eq_false hb1; (try simp only [List.length_map] at this); omega
      refine yM <| ze <| ze <| z8 <| zA <| zD <| zB <| g_u (zy rfl rfl) <| g_u (z0 rfl rfl) <| zG <| zA <| zM ?_
      exact ⟨⟨(rfl : toAV (Al.look _ _) = some _).trans (congrArg some (by (rw [hin, List.take_length]))), rfl⟩, trivial⟩
end Go.Proofs
namespace Go.Proofs
open Go Go.Al
set_option maxRecDepth 10000
set_option maxHeartbeats 2000000 in
theorem putA_c (l : List GA) (k : ByteArray) (v : GV) (hr : risA none l) (hl : l.length ≤ 10000000) : zi Tryd.prog Γ0 85 [(.sl 7 (l.map avA)), sv k, v.av] [.sl 7 ((wQ l (.mk k v)).map avA)] := by
  have hp := posA_le l k
  have hML : ((l.take (posA l k)).map avA).length = posA l k := by rw [List.length_map, List.length_take]; omega
  have hRL := restA_len l k
  refine zO Tryd.func85 rfl Tryd.ntmps85 (by kernel_rfl) rfl fun w0 I0 G0 => ?_
  refine zD <| zB <| g_uG (zd 1005 rfl rfl rfl rfl) rfl <| g_u (zE rfl rfl) <| zG <| zA <| zD <| zB <| g_u (zC rfl rfl) <| g_u (zC rfl rfl) ?_
  refine g_u (wA (find_c l k hr (by omega)) rfl rfl) ?_
  refine g_u (xN rfl rfl) <| g_u (zP rfl rfl rfl rfl) <| g_u (zP rfl rfl rfl rfl) <| g_u (zE rfl rfl) <| g_u (zE rfl rfl) <| zG <| zA <| zD <| zB <| g_u (zC rfl rfl) <| g_u (zC rfl rfl) ?_
  refine g_u (s_slL_l (posA l k) rfl rfl rfl Tryd.underlying30 tS73 rfl (by rw [List.length_map]; omega)) ?_
  refine g_u (zE rfl rfl) <| zG <| zA <| zD <| zD <| zB <| g_u (zC rfl rfl) <| zG <| zA ?_
  refine aw_cut' (fun _ : Unit => [(0, .imm (.sl 7 (l.map avA))), (1, .imm (sv k)), (5, .ptr 1005 0), (1005, .box 71 (.imm v.av)), (7, .imm (iv (posA l k : Nat))), (9, .imm (.sl 7 ((wR l k).map avA)))]) (fun _ => True) ?_ ?_
  · refine zT rfl (fun hb1 => ?_) (fun hb1 => ?_)
    · have hh : hasA l k = true := hb1
      have hpl : posA l k < l.length := by unfold hasA at hh; simp at hh; exact hh.1
      refine zB <| g_u (zC rfl rfl) <| g_u (zC rfl rfl) <| g_u (yZ rfl rfl rfl) ?_
      refine g_u (s_slL_l (posA l k + 1) rfl rfl rfl Tryd.underlying30 tS73 (by rw [zj (by omega) (by omega)]; omega) (by rw [List.length_map]; omega)) ?_
      refine g_u (zE rfl rfl) <| zG <| zA ?_
      exact ⟨(), trivial, ⟨rfl, rfl, rfl, rfl, rfl, look_imm rfl (by first | (rw [restA_yes hh]; simp only [List.take_length, List.map_drop]; done) | (rw [restA_no hh]; simp only [List.take_length, List.map_drop]; done)), trivial⟩⟩
    · have hh : hasA l k = false := hb1
      refine za <| zA ?_
      exact ⟨(), trivial, ⟨rfl, rfl, rfl, rfl, rfl, look_imm rfl (by first | (rw [restA_yes hh]; simp only [List.take_length, List.map_drop]; done) | (rw [restA_no hh]; simp only [List.take_length, List.map_drop]; done)), trivial⟩⟩
  · rintro _ hc
    refine zD <| zB <| g_u (zC rfl rfl) <| g_u (yZ rfl rfl rfl) <| g_u (zC rfl rfl) <| g_u (yB rfl rfl Tryd.underlying30) <| g_u (yZ rfl rfl rfl) ?_
    refine g_uG (wH 1030 (X0 := z73) (len := (posA l k + 1 + (wR l k).length)) (cap := (posA l k + 1 + (wR l k).length)) rfl rfl rfl rfl rfl (by rw [List.length_map, zj (n := (posA l k : Int) + 1) (by omega) (by omega), zj (by omega) (by omega)]; omega) (by rw [List.length_map, zj (n := (posA l k : Int) + 1) (by omega) (by omega), zj (by omega) (by omega)]; omega) Tryd.underlying30 tS73 tZ73 rfl rfl by73 (Nat.le_refl _) (by omega) (by omega)) rfl ?_
    refine g_u (s_as_osl rfl rfl) <| zG <| zA <| zD ?_
    refine aw_cut' (fun _ : Unit => [(0, .imm (.sl 7 (l.map avA))), (1, .imm (sv k)), (5, .ptr 1005 0), (1005, .box 71 (.imm v.av)), (7, .imm (iv (posA l k : Nat))), (9, .imm (.sl 7 ((wR l k).map avA))), (10, .osl 1030 0 (posA l k + 1 + (wR l k).length) (posA l k + 1 + (wR l k).length)), (1030, .box 73 (.imm (.agg (((l.take (posA l k)).map avA) ++ (List.replicate (1 + (wR l k).length) z73)))))]) (fun _ => True) ?_ ?_
    · refine zB ?_
      refine g_u (s_mv_osl rfl rfl) <| g_u (zC rfl rfl) <| g_u (zC rfl rfl) ?_
      refine g_u (s_slL_h (posA l k) rfl rfl rfl Tryd.underlying30 tS73 rfl (by rw [List.length_map]; omega)) ?_
      refine g_u (s_copy_in (el := 73) (el' := 0) (T1 := 0) rfl rfl rfl rfl rfl Tryd.underlying30 tS73 (by intro x hx; rw [List.eq_of_mem_replicate hx]; rfl) (by rw [List.length_replicate]; omega)) ?_
      refine zG <| zA ?_
      exact ⟨(), trivial, ⟨rfl, rfl, rfl, rfl, rfl, rfl, rfl, look_bagg rfl ((row1 (p := posA l k) (r := (wR l k).length) (by simp only [List.length_drop, List.length_take, List.length_map]; omega) rfl).trans (by rw [List.drop_zero, ← List.map_take])), trivial⟩⟩
    · rintro _ hc
      refine zD ?_
      refine aw_cut' (fun _ : Unit => [(0, .imm (.sl 7 (l.map avA))), (1, .imm (sv k)), (5, .ptr 1005 0), (1005, .box 71 (.imm v.av)), (7, .imm (iv (posA l k : Nat))), (9, .imm (.sl 7 ((wR l k).map avA))), (10, .osl 1030 0 (posA l k + 1 + (wR l k).length) (posA l k + 1 + (wR l k).length)), (1030, .box 73 (.imm (.agg (((l.take (posA l k)).map avA) ++ (GA.mk k v).av :: (List.replicate (wR l k).length z73)))))]) (fun _ => True) ?_ ?_
      · refine zB ?_
        refine g_u (s_mv_osl rfl rfl) <| g_u (zC rfl rfl) <| g_u (zC rfl rfl) <| g_u (zH rfl rfl rfl tA71 tS71 rfl rfl) <| g_u (yh rfl tU73 us73 pl73 rfl rfl rfl rfl) ?_
        refine g_u (s_ixOsl (i := (posA l k)) rfl rfl rfl Tryd.underlying30 tS73 rfl (by omega)) ?_
        refine g_u (s_storeElt rfl rfl rfl tS73 (widths_mem (avA_w _) rfl _) rfl (by simp only [List.length_append, List.length_replicate, hML]; omega)) ?_
        refine zG <| zA ?_
        exact ⟨(), trivial, ⟨rfl, rfl, rfl, rfl, rfl, rfl, rfl, look_bagg rfl (row2 hML), trivial⟩⟩
      · rintro _ hc
        refine zD <| zB <| g_u (s_mv_osl rfl rfl) <| g_u (zC rfl rfl) <| g_u (yZ rfl rfl rfl) ?_
        refine g_u (s_slOsl (lo := (posA l k + 1)) rfl rfl rfl Tryd.underlying30 tS73 (by rw [zj (by omega) (by omega)]; omega) (by omega)) ?_
        refine g_u (zC rfl rfl) ?_
        refine g_u (s_copy_at (el := 73) (o := (if (posA l k + 1 + (wR l k).length) = posA l k + 1 then 0 else posA l k + 1)) (fun _ _ => trivial) rfl rfl rfl rfl Tryd.underlying30 tS73 rfl (by split <;> simp) (rowW rfl _ _ _) (by simp only [List.length_append, List.length_cons, List.length_replicate, hML]; split <;> omega)) ?_
        refine zG <| zA ?_
        refine wb 1030 3030 7 (((l.take (posA l k)).map avA) ++ (GA.mk k v).av :: (wR l k).map avA) [(10, .slg 3030 7 (((l.take (posA l k)).map avA) ++ (GA.mk k v).av :: (wR l k).map avA))] rfl rfl rfl rfl rfl rfl rfl ⟨.inr (.inl ⟨rfl, rfl⟩), trivial⟩ ?_ ?_ (Nat.le_refl _) (by unfold maxLen; omega) ?_ ?_
        · rw [row3 hML (List.length_map _) rfl]; exact rowW2 _ _ _
        · rw [row3 hML (List.length_map _) rfl]; simp only [List.length_append, List.length_cons, hML, List.length_map]; omega
        · rw [row3 hML (List.length_map _) rfl]; exact List.take_of_length_le (by simp only [List.length_append, List.length_cons, hML, List.length_map]; omega)
        refine zD <| zB <| g_u (zy rfl rfl) <| g_u (z0 rfl rfl) <| zG <| zA <| zM ?_
        exact ⟨⟨(rfl : toAV (Al.look _ _) = some _).trans (congrArg some (by (exact congrArg (AV.sl 7) (into_row k v)))), rfl⟩, trivial⟩
end Go.Proofs
namespace Go.Proofs
open Go Go.Al
set_option maxRecDepth 10000
theorem dropA_wt (ks : List ByteArray) : ∀ l : List GA, wtAs (xE ks l) ≤ wtAs l
  | [] => Nat.le_refl _
  | x :: l => by rw [xE]; have := dropA_wt ks l; split <;> simp only [wtAs] <;> omega
theorem plainA_ok {ks : List Int} {a : GA} (ho : a.ok) (hw : a.wt ≤ 1000000) : (yo ks a).ok := by
  unfold yo
  have ha := (GA.ok_iff a).1 ho
  have := a.wt_eq
  split
  · exact (GA.ok_iff _).2 ⟨ha.1, plainV_ok ha.2 (by omega)⟩
  · exact ho
end Go.Proofs
namespace Go.Proofs
open Go Go.Al
structure Rg where
  lo : Int
  hi : Int
def Rg.av (r : Rg) : AV := .agg [.v (.int .u64 r.lo), .v (.int .u64 r.hi)]
def rgCheckM (r : Rg) : Int := if r.hi > 9223372036854775807 ∨ r.lo > r.hi then 11 else 0
def begunM (r : Rg) : Int := IntKind.u64.wrap (r.lo.tdiv 1000)
def lastsM (r : Rg) : Int := IntKind.u64.wrap ((IntKind.u64.wrap (r.hi - r.lo)).tdiv 1000)
def microsM (m : Int) (r : Rg) : Int := if rgCheckM r = 0 then IntKind.i64.wrap m else 0
def nanoV (us : Int) : Int := if us < 0 ∨ us > 9223372036854775 then 0 else IntKind.u64.wrap (IntKind.u64.wrap us * 1000)
def nanoC (us : Int) : Int := if us < 0 ∨ us > 9223372036854775 then 11 else 0
def microM (ns : Int) : Int := IntKind.i64.wrap (IntKind.u64.wrap (ns.tdiv 1000))
def wd (b l : Int) : Prop := nanoC b ≠ 0 ∨ nanoC l ≠ 0 ∨ nanoV l > IntKind.u64.wrap (9223372036854775807 - nanoV b)
instance (b l : Int) : Decidable (wd b l) := by unfold wd; infer_instance
def ofR (b l : Int) : Rg := if wd b l then ⟨0, 0⟩ else ⟨nanoV b, IntKind.u64.wrap (nanoV b + nanoV l)⟩
def ofC (b l : Int) : Int := if wd b l then 11 else 0
def BegunM (r : Rg) : Int := microsM (begunM r) r
def LastsM (r : Rg) : Int := microsM (lastsM r) r
def wT (r : Rg) : Rg := ofR (BegunM r) (LastsM r)
-- the reference
def wM (us : Int) : Int := if us < 0 ∨ us > 9223372036854775 then 0 else IntKind.u64.wrap (1000 * IntKind.u64.wrap us)
def rBad (b l : Int) : Prop := nanoC b ≠ 0 ∨ nanoC l ≠ 0 ∨ wM b > IntKind.u64.wrap (9223372036854775807 - wM l)
instance (b l : Int) : Decidable (rBad b l) := by unfold rBad; infer_instance
def rOfA (b l : Int) : Int := if rBad b l then 0 else wM b
def rOfB (b l : Int) : Int := if rBad b l then 0 else IntKind.u64.wrap (wM b + wM l)
def rOfC (b l : Int) : Int := if rBad b l then 11 else 0
end Go.Proofs
namespace Go.Proofs
open Go Go.Al
theorem nano_ok {us : Int} (h0 : 0 ≤ us) (h1 : us ≤ 9223372036854775) : nanoV us = us * 1000 ∧ wM us = us * 1000 ∧ nanoC us = 0 := by
  have e1 : IntKind.u64.wrap us = us := wrapu64 h0 (by omega)
  have e2 : IntKind.u64.wrap (us * 1000) = us * 1000 := wrapu64 (by omega) (by omega)
  have e3 : IntKind.u64.wrap (1000 * us) = us * 1000 := by rw [Int.mul_comm]; exact e2
  refine ⟨?_, ?_, ?_⟩
  · rw [nanoV, if_neg (by omega), e1, e2]
  · rw [wM, if_neg (by omega), e1, e3]
  · rw [nanoC, if_neg (by omega)]
theorem nano_bad {us : Int} (h : us < 0 ∨ us > 9223372036854775) : nanoV us = 0 ∧ wM us = 0 ∧ nanoC us = 11 := by
  refine ⟨?_, ?_, ?_⟩
  · rw [nanoV, if_pos h]
  · rw [wM, if_pos h]
  · rw [nanoC, if_pos h]
theorem nano_rg (us : Int) : 0 ≤ nanoV us ∧ nanoV us ≤ 9223372036854775000 := by
  by_cases h : us < 0 ∨ us > 9223372036854775
  · rw [(nano_bad h).1]; omega
  · rw [(nano_ok (us := us) (by omega) (by omega)).1]; omega
end Go.Proofs
namespace Go.Proofs
open Go Go.Al
instance : DecidableEq GV := fun a b => decidable_of_iff (sameV a b = true) (xh a b)
instance : DecidableEq GA := fun a b => decidable_of_iff (sameA a b = true) (wJ a b)
theorem GE.ext' {a b : GE} (h1 : a.time = b.time) (h2 : a.name = b.name) (h3 : a.attrs = b.attrs) : a = b := by cases a; cases b; simp_all
theorem GL.ext' {a b : GL} (h1 : a.trace = b.trace) (h2 : a.span = b.span) (h3 : a.state = b.state) (h4 : a.attrs = b.attrs) : a = b := by cases a; cases b; simp_all
theorem GSpan.ext' {a b : GSpan} (h1 : a.trace = b.trace) (h2 : a.id = b.id) (h3 : a.parent = b.parent) (h4 : a.state = b.state) (h5 : a.name = b.name) (h6 : a.kind = b.kind) (h7 : a.start = b.start) (h8 : a.fin = b.fin) (h9 : a.attrs = b.attrs) (h10 : a.events = b.events) (h11 : a.links = b.links) (h12 : a.code = b.code) (h13 : a.note = b.note) : a = b := by
  cases a; cases b; simp_all
theorem GScope.ext' {a b : GScope} (h1 : a.name = b.name) (h2 : a.version = b.version) (h3 : a.spans = b.spans) : a = b := by cases a; cases b; simp_all
theorem GRes.ext' {a b : GRes} (h1 : a.attrs = b.attrs) (h2 : a.scopes = b.scopes) : a = b := by cases a; cases b; simp_all
instance : DecidableEq GE := fun a b => decidable_of_iff (a.time = b.time ∧ a.name = b.name ∧ a.attrs = b.attrs) ⟨fun h => GE.ext' h.1 h.2.1 h.2.2, fun h => by rw [h]; exact ⟨rfl, rfl, rfl⟩⟩
instance : DecidableEq GL := fun a b => decidable_of_iff (a.trace = b.trace ∧ a.span = b.span ∧ a.state = b.state ∧ a.attrs = b.attrs) ⟨fun h => GL.ext' h.1 h.2.1 h.2.2.1 h.2.2.2, fun h => by rw [h]; exact ⟨rfl, rfl, rfl, rfl⟩⟩
instance : DecidableEq GSpan := fun a b => decidable_of_iff ((a.trace = b.trace ∧ a.id = b.id ∧ a.parent = b.parent ∧ a.state = b.state) ∧ (a.name = b.name ∧ a.kind = b.kind ∧ a.start = b.start ∧ a.fin = b.fin) ∧ (a.attrs = b.attrs ∧ a.events = b.events ∧ a.links = b.links) ∧ a.code = b.code ∧ a.note = b.note)
  ⟨fun h => GSpan.ext' h.1.1 h.1.2.1 h.1.2.2.1 h.1.2.2.2 h.2.1.1 h.2.1.2.1 h.2.1.2.2.1 h.2.1.2.2.2 h.2.2.1.1 h.2.2.1.2.1 h.2.2.1.2.2 h.2.2.2.1 h.2.2.2.2, fun h => by rw [h]; exact ⟨⟨rfl, rfl, rfl, rfl⟩, ⟨rfl, rfl, rfl, rfl⟩, ⟨rfl, rfl, rfl⟩, rfl, rfl⟩⟩
instance : DecidableEq GScope := fun a b => decidable_of_iff (a.name = b.name ∧ a.version = b.version ∧ a.spans = b.spans) ⟨fun h => GScope.ext' h.1 h.2.1 h.2.2, fun h => by rw [h]; exact ⟨rfl, rfl, rfl⟩⟩
instance : DecidableEq GRes := fun a b => decidable_of_iff (a.attrs = b.attrs ∧ a.scopes = b.scopes) ⟨fun h => GRes.ext' h.1 h.2, fun h => by rw [h]; exact ⟨rfl, rfl⟩⟩
def wholeN (ns : Int) : Int := nanoV (microM ns)
def nJ : List Int := [0, 6, 7]
def keptA (but : List ByteArray) (l : List GA) : List GA := xE but (l.map (yo nJ))
def k_event : ByteArray := ⟨#[101, 118, 101, 110, 116]⟩
def k_kind : ByteArray := ⟨#[115, 112, 97, 110, 46, 107, 105, 110, 100]⟩
def k_error : ByteArray := ⟨#[101, 114, 114, 111, 114]⟩
def k_code : ByteArray := ⟨#[111, 116, 101, 108, 46, 115, 116, 97, 116, 117, 115, 95, 99, 111, 100, 101]⟩
def k_note : ByteArray := ⟨#[111, 116, 101, 108, 46, 115, 116, 97, 116, 117, 115, 95, 100, 101, 115, 99, 114, 105, 112, 116, 105, 111, 110]⟩
def k4 : List ByteArray := [k_kind, k_error, k_code, k_note]
def njE (e : GE) : GE := ⟨wholeN e.time, e.name, keptA [k_event] e.attrs⟩
def njL (x : GL) : GL := ⟨x.trace, x.span, ⟨#[]⟩, []⟩
def njS (s : GSpan) : GSpan := { s with state := ⟨#[]⟩, start := (wT ⟨s.start, s.fin⟩).lo, fin := (wT ⟨s.start, s.fin⟩).hi, attrs := keptA k4 s.attrs, events := s.events.map njE, links := s.links.map njL }
def tv (t : ByteArray) : GV := .mk 1 t 0 0 [] []
def wC (l : List GA) (t : ByteArray) : List GA := if t = ⟨#[]⟩ then xE [skey] l else wQ l (.mk skey (tv t))
def zh : List GScope → List GSpan
  | [] => []
  | c :: cs => c.spans ++ zh cs
def scopeJ (l : List GSpan) : List GScope := if l.length > 0 then [⟨⟨#[]⟩, ⟨#[]⟩, l⟩] else []
def njR (r : GRes) : GRes := ⟨wC (keptA [] r.attrs) (yO r), scopeJ ((zh r.scopes).map njS)⟩
def njB (b : List GRes) : List GRes := b.map njR
theorem spansOf_append : ∀ a b : List GScope, zh (a ++ b) = zh a ++ zh b
  | [], b => rfl
  | x :: a, b => by rw [List.cons_append, zh, zh, spansOf_append a b, List.append_assoc]
theorem spansOf_take {l : List GScope} {i : Nat} (h : i < l.length) : zh (l.take (i + 1)) = zh (l.take i) ++ (nthC l i).spans := by
  rw [yG (yr (d := gc0) h), spansOf_append]; simp [zh, nthC]
theorem spansOf_mem : ∀ {l : List GScope} {s : GSpan}, s ∈ zh l → ∃ c ∈ l, s ∈ c.spans
  | x :: l, s, h => by
    rw [zh] at h
    rcases List.mem_append.1 h with h | h
    · exact ⟨x, List.mem_cons_self, h⟩
    · obtain ⟨c, h1, h2⟩ := spansOf_mem h; exact ⟨c, List.mem_cons_of_mem _ h1, h2⟩
theorem spansOf_len : ∀ l : List GScope, (zh l).length ≤ zv GScope.wt l
  | [] => Nat.zero_le _
  | c :: l => by
    rw [zh, List.length_append, zv]
    have h1 := spansOf_len l
    have h2 := ya GSpan.wt (fun e => by unfold GSpan.wt; omega) c.spans
    have h3 : c.wt = 1 + c.name.size + c.version.size + zv GSpan.wt c.spans := rfl
    omega
theorem plainA_key (ks : List Int) (a : GA) : (yo ks a).key = a.key := by unfold yo; split <;> rfl
theorem drop_plain (ks : List Int) (but : List ByteArray) : ∀ l : List GA, xE but (l.map (yo ks)) = (xE but l).map (yo ks)
  | [] => rfl
  | x :: l => by
    simp only [List.map_cons, xE, plainA_key, drop_plain ks but l]
    split <;> simp
theorem x5 {ks : List ByteArray} : ∀ {l : List GA} {x : GA}, x ∈ xE ks l → x ∈ l ∧ ks.any (fun k => decide (k = x.key)) = false
  | y :: l, x, h => by
    rw [xE] at h
    split at h
    · exact ⟨List.mem_cons_of_mem _ (x5 h).1, (x5 h).2⟩
    · rename_i hk
      rcases List.mem_cons.1 h with rfl | h
      · exact ⟨List.mem_cons_self, by cases hb : ks.any (fun k => decide (k = x.key)) <;> first | rfl | exact absurd hb hk⟩
      · exact ⟨List.mem_cons_of_mem _ (x5 h).1, (x5 h).2⟩
theorem risA_weak {l : List GA} {p q : ByteArray} (h : risA (some p) l) (hq : ltB q p = true) : risA (some q) l := by
  cases l with
  | nil => trivial
  | cons x l => exact ⟨ltB_trans hq h.1, h.2⟩
theorem ris_dropA (ks : List ByteArray) : ∀ {l : List GA} {p : Option ByteArray}, risA p l → risA p (xE ks l)
  | [], _, _ => trivial
  | x :: l, p, h => by
    rw [xE]
    split
    · have h2 := ris_dropA ks h.2
      cases p with
      | none => exact risA_none h2
      | some p => exact risA_weak h2 h.1
    · exact ⟨h.1, ris_dropA ks h.2⟩
theorem ris_plain (ks : List Int) : ∀ {l : List GA} {p : Option ByteArray}, risA p l → risA p (l.map (yo ks))
  | [], _, _ => trivial
  | x :: l, p, h => ⟨by rw [plainA_key]; exact h.1, by rw [plainA_key]; exact ris_plain ks h.2⟩
theorem ris_kept (but : List ByteArray) {l : List GA} (h : risA none l) : risA none (keptA but l) := ris_dropA _ (ris_plain _ h)
theorem dropA_none {k : ByteArray} : ∀ {l : List GA}, (∀ x ∈ l, x.key ≠ k) → xE [k] l = l
  | [], _ => rfl
  | x :: l, h => by
    rw [xE, if_neg, dropA_none fun y hy => h y (List.mem_cons_of_mem _ hy)]
    have := h x List.mem_cons_self
    simp [Ne.symm this]
theorem ris_ne {l : List GA} {p : ByteArray} (h : risA (some p) l) : ∀ x ∈ l, x.key ≠ p := fun x hx e => by
  have := risA_mem h x hx
  rw [e, ltB_irrefl] at this; cases this
theorem intoA_first {l : List GA} {k : ByteArray} {v : GV} (h : risA (some k) l) : wQ l (.mk k v) = GA.mk k v :: l := by
  cases l with
  | nil => rfl
  | cons x l =>
    have h1 := h.1
    rw [wQ, if_neg (by rw [GA.key_mk, ltB_asymm h1]; decide), if_neg (by rw [GA.key_mk]; rintro e; exact ris_ne h x List.mem_cons_self e)]
theorem into_drop {k : ByteArray} {v : GV} : ∀ {l : List GA} {p : Option ByteArray}, risA p l → wQ (xE [k] l) (.mk k v) = wQ l (.mk k v)
  | [], _, _ => rfl
  | x :: l, p, h => by
    by_cases he : x.key = k
    · rw [xE, if_pos (by simp [he]), dropA_none (he ▸ ris_ne h.2), intoA_first (he ▸ h.2), wQ, if_neg (by rw [GA.key_mk, he, ltB_irrefl]; decide), if_pos (by rw [GA.key_mk]; exact he)]
    · rw [xE, if_neg (by simp [Ne.symm he]), wQ, wQ]
      split
      · rw [into_drop h.2]
      · rename_i hl
        rw [if_neg (by rw [GA.key_mk]; exact he), if_neg (by rw [GA.key_mk]; exact he)]
        have hk : ltB k x.key = true := by
          cases hb : ltB k x.key
          · exact absurd (ltB_tri (by simpa [GA.key_mk] using hl) hb) he
          · rfl
        rw [dropA_none (ris_ne (risA_weak h.2 hk))]
theorem ris_named {l : List GA} (h : risA none l) (t : ByteArray) : risA none (wC l t) := by
  unfold wC; split
  · exact ris_dropA _ h
  · exact ris_intoA _ _ none h trivial
theorem keptA_wt (but : List ByteArray) (l : List GA) : wtAs (keptA but l) ≤ 151 * wtAs l := Nat.le_trans (dropA_wt' but _) (plainAs_wt' nJ l)
where
  dropA_wt' (ks : List ByteArray) : ∀ l : List GA, wtAs (xE ks l) ≤ wtAs l
    | [] => Nat.le_refl _
    | x :: l => by rw [xE]; have := dropA_wt' ks l; split <;> simp only [wtAs] <;> omega
  plainA_wt' (ks : List Int) (a : GA) : (yo ks a).wt ≤ 151 * a.wt := by
    unfold yo
    have h1 := a.wt_eq
    have h2 := a.val.wt_pos
    split
    · have h3 : (GA.mk a.key (plainV a.val)).wt = a.key.size + (plainV a.val).wt := GA.wt_eq _
      have h4 : (plainV a.val).wt = 1 + (wx a.val).size := by rw [GV.wt_eq]; simp [plainV, GV.list, GV.map, GV.text, wtVs, wtAs]
      have h5 : (wx a.val).size ≤ 150 * a.val.wt := by rw [wx, yJ]; exact textB_length _
      omega
    · omega
  plainAs_wt' (ks : List Int) : ∀ l : List GA, wtAs (l.map (yo ks)) ≤ 151 * wtAs l
    | [] => by simp [wtAs]
    | x :: l => by simp only [List.map_cons, wtAs]; have := plainA_wt' ks x; have := plainAs_wt' ks l; omega
def plC (i : Nat) : Nat → List GScope → List (Nat × Nat × Nat)
  | _, [] => []
  | k, c :: cs => ((List.range c.spans.length).map fun m => (i, k, m)) ++ plC i (k + 1) cs
def plR : Nat → List GRes → List (Nat × Nat × Nat)
  | _, [] => []
  | i, r :: rs => plC i 0 r.scopes ++ plR (i + 1) rs
theorem plC_len (i : Nat) : ∀ (k : Nat) (l : List GScope), (plC i k l).length = (zh l).length
  | _, [] => rfl
  | k, c :: l => by rw [plC, zh, List.length_append, List.length_append, plC_len i (k + 1) l]; simp
end Go.Proofs
namespace Go.Proofs
open Go Go.Al
set_option maxRecDepth 10000
theorem rgCheck_c (r : Rg) : zi Tryd.prog Γ0 94 [r.av] [iv (rgCheckM r)] := by
  refine zO Tryd.func94 rfl Tryd.ntmps94 (by kernel_rfl) rfl fun w0 I0 G0 => ?_
  refine zD <| zB <| g_uG (zd 1001 rfl rfl rfl rfl) rfl <| g_u (zE rfl rfl) <| zG <| zA <| zD <| zD <| zB <| g_u (zF rfl rfl fa81_1 rfl) <| g_u (zH rfl rfl rfl tA29 tS29 rfl rfl) <| g_u (s_gtI rfl rfl rfl) <| g_u (zC rfl rfl) <| yP (t := 6) rfl ?_
  rintro (hb1 | hb1)
  · rw [hb1]
    refine zI rfl rfl rfl <| zI rfl rfl rfl <| zI rfl rfl rfl <| zI rfl rfl rfl <| zI rfl rfl rfl <| g_u (zR rfl rfl rfl) <| zG <| zA <| zl rfl <| zD <| zB <| g_u (zE rfl rfl) <| zG <| zA <| zM <| zV ?_
    exact ⟨⟨(rfl : toAV (Al.look _ _) = some _).trans (congrArg some (by (simp only [decide_eq_true_eq, qb, bne_iff_ne, ne_eq, beq_iff_eq, qd, qe] at *; simp only [iv, rgCheckM]; first | rw [if_pos (by omega)] | rw [if_neg (by omega)]))), rfl⟩, trivial⟩
  · rw [hb1]
    refine zZ rfl rfl (zF rfl rfl fa81_0 rfl) <| zZ rfl rfl (zH rfl rfl rfl tA29 tS29 rfl rfl) <| zZ rfl rfl (zF rfl rfl fa81_1 rfl) <| zZ rfl rfl (zH rfl rfl rfl tA29 tS29 rfl rfl) <| zZ rfl rfl (s_gtI rfl rfl rfl) <| g_u (zp rfl rfl rfl) <| zG <| zA ?_
    refine zT rfl (fun hb2 => ?_) (fun hb2 => ?_)
    · refine zD ?_
      refine zB <| g_u (zE rfl rfl) <| zG <| zA <| zM <| zV ?_
      exact ⟨⟨(rfl : toAV (Al.look _ _) = some _).trans (congrArg some (by (simp only [decide_eq_true_eq, qb, bne_iff_ne, ne_eq, beq_iff_eq, qd, qe] at *; simp only [iv, rgCheckM]; first | rw [if_pos (by omega)] | rw [if_neg (by omega)]))), rfl⟩, trivial⟩
    · refine za ?_
      refine zA <| zD <| zB <| g_u (zE rfl rfl) <| zG <| zA <| zM ?_
      exact ⟨⟨(rfl : toAV (Al.look _ _) = some _).trans (congrArg some (by (simp only [decide_eq_true_eq, qb, bne_iff_ne, ne_eq, beq_iff_eq, qd, qe] at *; simp only [iv, rgCheckM]; first | rw [if_pos (by omega)] | rw [if_neg (by omega)]))), rfl⟩, trivial⟩
theorem begun_c (r : Rg) : zi Tryd.prog Γ0 80 [r.av] [uv (begunM r)] := by
  refine zO Tryd.func80 rfl Tryd.ntmps80 (by kernel_rfl) rfl fun w0 I0 G0 => ?_
  refine zD <| zB <| g_uG (zd 1001 rfl rfl rfl rfl) rfl <| g_u (zE rfl rfl) <| zG <| zA <| zD <| zB <| g_u (zF rfl rfl fa81_0 rfl) <| g_u (zH rfl rfl rfl tA29 tS29 rfl rfl) ?_
  refine g_u (s_quo rfl rfl rfl (by first | decide | omega | (((try simp only [decide_eq_true_eq, qb, bne_iff_ne, ne_eq, beq_iff_eq, qd, qe, Bool.not_eq_true', Bool.not_eq_false', gt_iff_lt, ge_iff_le] at *); (repeat simp (disch := omega) only [zj, ym] at *)); omega))) ?_
  refine g_u (zE rfl rfl) <| zG <| zA <| zM ?_
  exact ⟨⟨(rfl : toAV (Al.look _ _) = some _).trans (congrArg some (by rfl)), rfl⟩, trivial⟩
theorem lasts_c (r : Rg) : zi Tryd.prog Γ0 81 [r.av] [uv (lastsM r)] := by
  refine zO Tryd.func81 rfl Tryd.ntmps81 (by kernel_rfl) rfl fun w0 I0 G0 => ?_
  refine zD <| zB <| g_uG (zd 1001 rfl rfl rfl rfl) rfl <| g_u (zE rfl rfl) <| zG <| zA <| zD <| zB <| g_u (zF rfl rfl fa81_1 rfl) <| g_u (zH rfl rfl rfl tA29 tS29 rfl rfl) <| g_u (zF rfl rfl fa81_0 rfl) <| g_u (zH rfl rfl rfl tA29 tS29 rfl rfl) <| g_u (s_sub rfl rfl rfl) ?_
  refine g_u (s_quo rfl rfl rfl (by first | decide | omega | (((try simp only [decide_eq_true_eq, qb, bne_iff_ne, ne_eq, beq_iff_eq, qd, qe, Bool.not_eq_true', Bool.not_eq_false', gt_iff_lt, ge_iff_le] at *); (repeat simp (disch := omega) only [zj, ym] at *)); omega))) ?_
  refine g_u (zE rfl rfl) <| zG <| zA <| zM ?_
  exact ⟨⟨(rfl : toAV (Al.look _ _) = some _).trans (congrArg some (by rfl)), rfl⟩, trivial⟩
theorem micros_c (r : Rg) (f : Nat) (m : Int) (hf : zi Tryd.prog Γ0 f [r.av] [uv m]) : zi Tryd.prog Γ0 79 [r.av, .fn (.func f) [] []] [iv (microsM m r)] := by
  refine zO Tryd.func79 rfl Tryd.ntmps79 (by kernel_rfl) rfl fun w0 I0 G0 => ?_
  refine zD <| zB <| g_uG (zd 1002 rfl rfl rfl rfl) rfl <| g_u (zE rfl rfl) <| zG <| zA <| zD <| zD <| zB <| g_u (zH rfl rfl rfl tA81 tS81 rfl rfl) <| g_u (zS (rgCheck_c ⟨_, _⟩) rfl rfl) <| g_u (ws rfl rfl rfl) <| zG <| zA ?_
  refine zT rfl (fun hb1 => ?_) (fun hb1 => ?_)
  · refine zD ?_
    refine zB <| g_u (zE rfl rfl) <| zG <| zA <| zM <| zV ?_
    exact ⟨⟨(rfl : toAV (Al.look _ _) = some _).trans (congrArg some (by (simp only [decide_eq_true_eq, qb, bne_iff_ne, ne_eq, beq_iff_eq, qd, qe] at *; simp only [iv, microsM]; first | rw [if_pos (by omega)] | rw [if_neg (by omega)]))), rfl⟩, trivial⟩
  · refine za ?_
    refine zA <| zD <| zB <| g_u (zC rfl rfl) <| g_u (zH rfl rfl rfl tA81 tS81 rfl rfl) <| g_u (xF (hf) rfl rfl rfl) <| g_u (s_cvII rfl rfl Tryd.underlying29 Tryd.underlying3) <| g_u (zE rfl rfl) <| zG <| zA <| zM ?_
    exact ⟨⟨(rfl : toAV (Al.look _ _) = some _).trans (congrArg some (by (simp only [decide_eq_true_eq, qb, bne_iff_ne, ne_eq, beq_iff_eq, qd, qe] at *; simp only [iv, microsM]; first | rw [if_pos (by omega)] | rw [if_neg (by omega)]))), rfl⟩, trivial⟩
theorem Begun_c (r : Rg) : zi Tryd.prog Γ0 56 [r.av] [iv (BegunM r)] := by
  refine zO Tryd.func56 rfl Tryd.ntmps56 (by kernel_rfl) rfl fun w0 I0 G0 => ?_
  refine zD <| zB <| g_uG (zd 1001 rfl rfl rfl rfl) rfl <| g_u (zE rfl rfl) <| zG <| zA <| zD <| zB <| g_u (zH rfl rfl rfl tA81 tS81 rfl rfl) <| g_u (zS (micros_c _ _ _ (begun_c _)) rfl rfl) <| g_u (zE rfl rfl) <| zG <| zA <| zM ?_
  exact ⟨⟨(rfl : toAV (Al.look _ _) = some _).trans (congrArg some (by rfl)), rfl⟩, trivial⟩
theorem Lasts_c (r : Rg) : zi Tryd.prog Γ0 57 [r.av] [iv (LastsM r)] := by
  refine zO Tryd.func57 rfl Tryd.ntmps57 (by kernel_rfl) rfl fun w0 I0 G0 => ?_
  refine zD <| zB <| g_uG (zd 1001 rfl rfl rfl rfl) rfl <| g_u (zE rfl rfl) <| zG <| zA <| zD <| zB <| g_u (zH rfl rfl rfl tA81 tS81 rfl rfl) <| g_u (zS (micros_c _ _ _ (lasts_c _)) rfl rfl) <| g_u (zE rfl rfl) <| zG <| zA <| zM ?_
  exact ⟨⟨(rfl : toAV (Al.look _ _) = some _).trans (congrArg some (by rfl)), rfl⟩, trivial⟩
theorem nano_c (us : Int) : zi Tryd.prog Γ0 61 [iv us] [uv (nanoV us), iv (nanoC us)] := by
  refine zO Tryd.func61 rfl Tryd.ntmps61 (by kernel_rfl) rfl fun w0 I0 G0 => ?_
  refine zD <| zB <| g_u (zE rfl rfl) <| g_u (zE rfl rfl) <| zG <| zA <| zD <| zD <| zB <| g_u (zC rfl rfl) <| g_u (xS rfl rfl rfl) <| g_u (zC rfl rfl) <| yP (t := 6) rfl ?_
  rintro (hb1 | hb1)
  · rw [hb1]
    refine zI rfl rfl rfl <| zI rfl rfl rfl <| g_u (zR rfl rfl rfl) <| zG <| zA <| zl rfl <| zD <| zB <| g_u (zE rfl rfl) <| g_u (zE rfl rfl) <| zG <| zA <| zM <| zV ?_
    exact ⟨⟨(rfl : toAV (Al.look _ _) = some _).trans (congrArg some (by (simp only [decide_eq_true_eq, qb, bne_iff_ne, ne_eq, beq_iff_eq, qd, qe] at *; simp only [iv, uv, nanoV, nanoC, wM]; first | rw [if_pos (by omega)] | rw [if_neg (by omega)]))), rfl⟩, ⟨(rfl : toAV (Al.look _ _) = some _).trans (congrArg some (by (simp only [decide_eq_true_eq, qb, bne_iff_ne, ne_eq, beq_iff_eq, qd, qe] at *; simp only [iv, uv, nanoV, nanoC, wM]; first | rw [if_pos (by omega)] | rw [if_neg (by omega)]))), rfl⟩, trivial⟩
  · rw [hb1]
    refine zZ rfl rfl (zC rfl rfl) <| zZ rfl rfl (s_gtI rfl rfl rfl) <| g_u (zp rfl rfl rfl) <| zG <| zA ?_
    refine zT rfl (fun hb2 => ?_) (fun hb2 => ?_)
    · refine zD ?_
      refine zB <| g_u (zE rfl rfl) <| g_u (zE rfl rfl) <| zG <| zA <| zM <| zV ?_
      exact ⟨⟨(rfl : toAV (Al.look _ _) = some _).trans (congrArg some (by (simp only [decide_eq_true_eq, qb, bne_iff_ne, ne_eq, beq_iff_eq, qd, qe] at *; simp only [iv, uv, nanoV, nanoC, wM]; first | rw [if_pos (by omega)] | rw [if_neg (by omega)]))), rfl⟩, ⟨(rfl : toAV (Al.look _ _) = some _).trans (congrArg some (by (simp only [decide_eq_true_eq, qb, bne_iff_ne, ne_eq, beq_iff_eq, qd, qe] at *; simp only [iv, uv, nanoV, nanoC, wM]; first | rw [if_pos (by omega)] | rw [if_neg (by omega)]))), rfl⟩, trivial⟩
    · refine za ?_
      refine zA <| zD <| zB <| g_u (zC rfl rfl) <| g_u (s_cvII rfl rfl Tryd.underlying3 Tryd.underlying29) <| g_u (s_mul rfl rfl rfl) <| g_u (zE rfl rfl) <| g_u (zE rfl rfl) <| zG <| zA <| zM ?_
      exact ⟨⟨(rfl : toAV (Al.look _ _) = some _).trans (congrArg some (by (simp only [decide_eq_true_eq, qb, bne_iff_ne, ne_eq, beq_iff_eq, qd, qe] at *; simp only [iv, uv, nanoV, nanoC, wM]; first | rw [if_pos (by omega)] | rw [if_neg (by omega)]))), rfl⟩, ⟨(rfl : toAV (Al.look _ _) = some _).trans (congrArg some (by (simp only [decide_eq_true_eq, qb, bne_iff_ne, ne_eq, beq_iff_eq, qd, qe] at *; simp only [iv, uv, nanoV, nanoC, wM]; first | rw [if_pos (by omega)] | rw [if_neg (by omega)]))), rfl⟩, trivial⟩
theorem micro_c (ns : Int) : zi Tryd.prog Γ0 62 [uv ns] [iv (microM ns)] := by
  refine zO Tryd.func62 rfl Tryd.ntmps62 (by kernel_rfl) rfl fun w0 I0 G0 => ?_
  refine zD <| zB <| g_u (zE rfl rfl) <| zG <| zA <| zD <| zB <| g_u (zC rfl rfl) ?_
  refine g_u (s_quo rfl rfl rfl (by first | decide | omega | (((try simp only [decide_eq_true_eq, qb, bne_iff_ne, ne_eq, beq_iff_eq, qd, qe, Bool.not_eq_true', Bool.not_eq_false', gt_iff_lt, ge_iff_le] at *); (repeat simp (disch := omega) only [zj, ym] at *)); omega))) ?_
  refine g_u (s_cvII rfl rfl Tryd.underlying29 Tryd.underlying3) <| g_u (zE rfl rfl) <| zG <| zA <| zM ?_
  exact ⟨⟨(rfl : toAV (Al.look _ _) = some _).trans (congrArg some (by rfl)), rfl⟩, trivial⟩
theorem of_c (b l : Int) : zi Tryd.prog Γ0 55 [iv b, iv l] [(ofR b l).av, iv (ofC b l)] := by
  refine zO Tryd.func55 rfl Tryd.ntmps55 (by kernel_rfl) rfl fun w0 I0 G0 => ?_
  refine zD <| zB <| g_uG (zg 1004 rfl rfl rfl tZ81) rfl <| g_u (zE rfl rfl) <| zG <| zA <| zD <| zB <| g_u (zC rfl rfl) <| g_u (wA (nano_c _) rfl rfl) <| g_u (xN rfl rfl) <| g_u (zP rfl rfl rfl rfl) <| g_u (zP rfl rfl rfl rfl) <| g_u (zE rfl rfl) <| g_u (zE rfl rfl) <| zG <| zA <| zD <| zB <| g_u (zC rfl rfl) <| g_u (wA (nano_c _) rfl rfl) <| g_u (xN rfl rfl) <| g_u (zP rfl rfl rfl rfl) <| g_u (zP rfl rfl rfl rfl) <| g_u (zE rfl rfl) <| g_u (zE rfl rfl) <| zG <| zA <| zD <| zD <| zB <| g_u (zC rfl rfl) <| g_u (ws rfl rfl rfl) <| g_u (zC rfl rfl) <| yP (t := 22) rfl ?_
  rintro (hb1 | hb1)
  · rw [hb1]
    refine zI rfl rfl rfl <| zI rfl rfl rfl <| g_u (zR rfl rfl rfl) <| g_u (zC rfl rfl) <| zI rfl rfl rfl <| zI rfl rfl rfl <| zI rfl rfl rfl <| zI rfl rfl rfl <| g_u (zR rfl rfl rfl) <| zG <| zA <| zl rfl <| zD <| zB <| g_u (yh rfl tU81 us81 pl81 rfl rfl rfl rfl) <| g_u (zL rfl rfl rfl tS81 rfl rfl) <| g_u (zE rfl rfl) <| zG <| zA <| zM <| zV ?_
    exact ⟨⟨_, _, _, _, _, _, _, rfl, rfl, tA81, tS81, rfl, rfl, (rfl : toAV _ = some _).trans (congrArg some (by (simp only [decide_eq_true_eq, qb, bne_iff_ne, ne_eq, beq_iff_eq, qd, qe] at *; simp only [iv, uv, Rg.av, ofR, ofC, rOfA, rOfB, rOfC]; first | (rw [if_pos (by unfold wd; omega)]; first | done | rfl) | (rw [if_neg (by unfold wd; omega)]; first | done | rfl) | (rw [if_pos (by unfold rBad; omega)]; first | done | rfl) | (rw [if_neg (by unfold rBad; omega)]; first | done | rfl))))⟩, ⟨(rfl : toAV (Al.look _ _) = some _).trans (congrArg some (by (simp only [decide_eq_true_eq, qb, bne_iff_ne, ne_eq, beq_iff_eq, qd, qe] at *; simp only [iv, uv, Rg.av, ofR, ofC, rOfA, rOfB, rOfC]; first | (rw [if_pos (by unfold wd; omega)]; first | done | rfl) | (rw [if_neg (by unfold wd; omega)]; first | done | rfl) | (rw [if_pos (by unfold rBad; omega)]; first | done | rfl) | (rw [if_neg (by unfold rBad; omega)]; first | done | rfl)))), rfl⟩, trivial⟩
  · rw [hb1]
    refine zZ rfl rfl (zC rfl rfl) <| zZ rfl rfl (ws rfl rfl rfl) <| g_u (zp rfl rfl rfl) <| g_u (zC rfl rfl) <| yP (t := 26) rfl ?_
    rintro (hb2 | hb2)
    · rw [hb2]
      refine zI rfl rfl rfl <| zI rfl rfl rfl <| zI rfl rfl rfl <| zI rfl rfl rfl <| g_u (zR rfl rfl rfl) <| zG <| zA <| zl rfl <| zD <| zB <| g_u (yh rfl tU81 us81 pl81 rfl rfl rfl rfl) <| g_u (zL rfl rfl rfl tS81 rfl rfl) <| g_u (zE rfl rfl) <| zG <| zA <| zM <| zV ?_
      exact ⟨⟨_, _, _, _, _, _, _, rfl, rfl, tA81, tS81, rfl, rfl, (rfl : toAV _ = some _).trans (congrArg some (by (simp only [decide_eq_true_eq, qb, bne_iff_ne, ne_eq, beq_iff_eq, qd, qe] at *; simp only [iv, uv, Rg.av, ofR, ofC, rOfA, rOfB, rOfC]; first | (rw [if_pos (by unfold wd; omega)]; first | done | rfl) | (rw [if_neg (by unfold wd; omega)]; first | done | rfl) | (rw [if_pos (by unfold rBad; omega)]; first | done | rfl) | (rw [if_neg (by unfold rBad; omega)]; first | done | rfl))))⟩, ⟨(rfl : toAV (Al.look _ _) = some _).trans (congrArg some (by (simp only [decide_eq_true_eq, qb, bne_iff_ne, ne_eq, beq_iff_eq, qd, qe] at *; simp only [iv, uv, Rg.av, ofR, ofC, rOfA, rOfB, rOfC]; first | (rw [if_pos (by unfold wd; omega)]; first | done | rfl) | (rw [if_neg (by unfold wd; omega)]; first | done | rfl) | (rw [if_pos (by unfold rBad; omega)]; first | done | rfl) | (rw [if_neg (by unfold rBad; omega)]; first | done | rfl)))), rfl⟩, trivial⟩
    · rw [hb2]
      refine zZ rfl rfl (zC rfl rfl) <| zZ rfl rfl (zC rfl rfl) <| zZ rfl rfl (s_sub rfl rfl rfl) <| zZ rfl rfl (s_gtI rfl rfl rfl) <| g_u (zp rfl rfl rfl) <| zG <| zA ?_
      refine zT rfl (fun hb3 => ?_) (fun hb3 => ?_)
      · refine zD ?_
        refine zB <| g_u (yh rfl tU81 us81 pl81 rfl rfl rfl rfl) <| g_u (zL rfl rfl rfl tS81 rfl rfl) <| g_u (zE rfl rfl) <| zG <| zA <| zM <| zV ?_
        exact ⟨⟨_, _, _, _, _, _, _, rfl, rfl, tA81, tS81, rfl, rfl, (rfl : toAV _ = some _).trans (congrArg some (by (simp only [decide_eq_true_eq, qb, bne_iff_ne, ne_eq, beq_iff_eq, qd, qe] at *; simp only [iv, uv, Rg.av, ofR, ofC, rOfA, rOfB, rOfC]; first | (rw [if_pos (by unfold wd; omega)]; first | done | rfl) | (rw [if_neg (by unfold wd; omega)]; first | done | rfl) | (rw [if_pos (by unfold rBad; omega)]; first | done | rfl) | (rw [if_neg (by unfold rBad; omega)]; first | done | rfl))))⟩, ⟨(rfl : toAV (Al.look _ _) = some _).trans (congrArg some (by (simp only [decide_eq_true_eq, qb, bne_iff_ne, ne_eq, beq_iff_eq, qd, qe] at *; simp only [iv, uv, Rg.av, ofR, ofC, rOfA, rOfB, rOfC]; first | (rw [if_pos (by unfold wd; omega)]; first | done | rfl) | (rw [if_neg (by unfold wd; omega)]; first | done | rfl) | (rw [if_pos (by unfold rBad; omega)]; first | done | rfl) | (rw [if_neg (by unfold rBad; omega)]; first | done | rfl)))), rfl⟩, trivial⟩
      · refine za ?_
        refine zA <| zD <| zB <| g_u (zC rfl rfl) <| g_u (zC rfl rfl) <| g_u (zC rfl rfl) <| g_u (yZ rfl rfl rfl) <| g_u (yh rfl tU81 us81 pl81 rfl rfl rfl rfl) <| g_u (zL rfl rfl rfl tS81 rfl rfl) <| g_u (zE rfl rfl) <| zG <| zA <| zM ?_
        exact ⟨⟨_, _, _, _, _, _, _, rfl, rfl, tA81, tS81, rfl, rfl, (rfl : toAV _ = some _).trans (congrArg some (by (simp only [decide_eq_true_eq, qb, bne_iff_ne, ne_eq, beq_iff_eq, qd, qe] at *; simp only [iv, uv, Rg.av, ofR, ofC, rOfA, rOfB, rOfC]; first | (rw [if_pos (by unfold wd; omega)]; first | done | rfl) | (rw [if_neg (by unfold wd; omega)]; first | done | rfl) | (rw [if_pos (by unfold rBad; omega)]; first | done | rfl) | (rw [if_neg (by unfold rBad; omega)]; first | done | rfl))))⟩, ⟨(rfl : toAV (Al.look _ _) = some _).trans (congrArg some (by (simp only [decide_eq_true_eq, qb, bne_iff_ne, ne_eq, beq_iff_eq, qd, qe] at *; simp only [iv, uv, Rg.av, ofR, ofC, rOfA, rOfB, rOfC]; first | (rw [if_pos (by unfold wd; omega)]; first | done | rfl) | (rw [if_neg (by unfold wd; omega)]; first | done | rfl) | (rw [if_pos (by unfold rBad; omega)]; first | done | rfl) | (rw [if_neg (by unfold rBad; omega)]; first | done | rfl)))), rfl⟩, trivial⟩
theorem whole_c (r : Rg) : zi Tryd.prog Γ0 31 [r.av] [(wT r).av] := by
  refine zO Tryd.func31 rfl Tryd.ntmps31 (by kernel_rfl) rfl fun w0 I0 G0 => ?_
  refine zD <| zB <| g_uG (zd 1001 rfl rfl rfl rfl) rfl <| g_uG (zg 1002 rfl rfl rfl tZ81) rfl <| zG <| zA <| zD <| y3 wn <| g_u (zH rfl rfl rfl tA81 tS81 rfl rfl) <| g_u (zS (Begun_c _) rfl rfl) <| g_u (zH rfl rfl rfl tA81 tS81 rfl rfl) <| g_u (zS (Lasts_c _) rfl rfl) <| g_u (wA (of_c _ _) rfl rfl) <| g_u (xN rfl rfl) <| g_u (zP rfl rfl rfl rfl) <| g_u (zP rfl rfl rfl rfl) <| g_uG (zg 1003 rfl rfl rfl tZ81) rfl <| g_u (zL rfl rfl rfl tS81 rfl rfl) <| g_u (zE rfl rfl) ?_
  refine zG ⟨by kernel_rfl, ?_⟩
  refine zA <| zD <| zB <| g_u (zn rfl rfl rfl tA81 tS81 rfl rfl) <| g_u (zL rfl rfl rfl tS81 rfl rfl) <| zG <| zA <| zM ?_
  exact ⟨⟨_, _, _, _, _, _, _, rfl, rfl, tA81, tS81, rfl, rfl, (rfl : toAV _ = some _).trans (congrArg some (by rfl))⟩, trivial⟩
attribute [local irreducible] wT ofR
end Go.Proofs
namespace Go.Proofs
open Go Go.Al
set_option maxRecDepth 10000
theorem nil2nd {P : Program} {Γ : List (Nat × AV)} {f : FuncId} {n : Nat} {x : AV} {xs rs : List AV} (c : zi P Γ f (x :: .sl n [] :: xs) rs) : zi P Γ f (x :: .v (.slice none 0 0) :: xs) rs := c.args ⟨Up.refl _, Up.nil n, Ups.refl xs⟩
theorem kept_c (l : List GA) (ks : List ByteArray) (ho : ∀ a ∈ l, a.ok) (hw : wtAs l ≤ 9000000) (hk : ks.length ≤ 1000000000) : zi Tryd.prog Γ0 95 [(.sl 7 (l.map avA)), (.sl 1 (ks.map fun x => sv x))] [.sl 7 ((keptA ks l).map avA)] := by
  have hl := yj l
  refine zO Tryd.func95 rfl Tryd.ntmps95 (by kernel_rfl) rfl fun w0 I0 G0 => ?_
  refine zD <| zB <| g_u (zE rfl rfl) <| zG <| zA <| zD <| zB <| g_u (zC rfl rfl) <| g_u (z_ (X0 := z5) rfl Tryd.underlying90 tS5 tZ5 rfl rfl rfl rfl rfl rfl rfl rfl) ?_
  refine g_u (zS (plainAs_c l nJ ho (by omega) (by decide)) rfl rfl) ?_
  refine g_u (zC rfl rfl) ?_
  refine g_u (zS (drop_c (l.map (yo nJ)) ks (by rw [List.length_map]; omega) hk) rfl rfl) ?_
  refine g_u (zE rfl rfl) <| zG <| zA <| zM ?_
  exact ⟨⟨(rfl : toAV (Al.look _ _) = some _).trans (congrArg some (by rfl)), rfl⟩, trivial⟩
theorem wholeN_c (n : Int) : zi Tryd.prog Γ0 126 [uv n] [uv (wholeN n)] := by
  refine zO Tryd.func126 rfl Tryd.ntmps126 (by kernel_rfl) rfl fun w0 I0 G0 => ?_
  refine zD <| zB <| g_u (zE rfl rfl) <| zG <| zA <| zD <| zB <| g_u (zC rfl rfl) <| g_u (zS (micro_c _) rfl rfl) <| g_u (wA (nano_c _) rfl rfl) <| g_u (xN rfl rfl) <| g_u (zP rfl rfl rfl rfl) <| g_u (zP rfl rfl rfl rfl) <| g_u (zE rfl rfl) <| g_u (zE rfl rfl) <| zG <| zA <| zD <| zB <| g_u (zC rfl rfl) <| g_u (zE rfl rfl) <| zG <| zA <| zM ?_
  exact ⟨⟨(rfl : toAV (Al.look _ _) = some _).trans (congrArg some (by rfl)), rfl⟩, trivial⟩
theorem njE_c (e : GE) (ho : e.ok) (hw : e.wt ≤ 9000000) : zi Tryd.prog Γ0 113 [e.av] [(njE e).av] := by
  have q : e.wt = 1 + e.name.size + wtAs e.attrs := rfl
  refine zO Tryd.func113 rfl Tryd.ntmps113 (by kernel_rfl) rfl fun w0 I0 G0 => ?_
  refine zD <| zB <| g_uG (zd 1001 rfl rfl rfl rfl) rfl <| g_uG (zg 1002 rfl rfl rfl tZ66) rfl <| zG <| zA <| zD <| y3 wn <| g_u (zF rfl rfl fa66_0 rfl) <| g_u (zH rfl rfl rfl tA29 tS29 rfl rfl) <| g_u (zS (wholeN_c _) rfl rfl) <| g_u (zF rfl rfl fa66_1 rfl) <| g_u (zH rfl rfl rfl tA9 tS9 rfl rfl) <| g_u (zF rfl rfl fa66_2 rfl) <| g_u (zH rfl rfl rfl tA30 tS30 rfl rfl) <| g_u (z_ (X0 := z9) rfl Tryd.underlying37 tS9 tZ9 rfl rfl rfl rfl rfl rfl rfl rfl) ?_
  refine g_u (zS (kept_c e.attrs [k_event] ho.2.2 (by omega) (by decide)) rfl rfl) ?_
  refine g_u (yh rfl tU66 us66 pl66 rfl rfl rfl rfl) <| g_u (zL rfl rfl rfl tS66 rfl rfl) ?_
  refine zG ⟨by kernel_rfl, ?_⟩
  refine zA <| zM ?_
  exact ⟨⟨_, _, _, _, _, _, _, rfl, rfl, tA66, tS66, rfl, rfl, (rfl : toAV _ = some _).trans (congrArg some (by rfl))⟩, trivial⟩
set_option maxHeartbeats 8000000 in
theorem njS_c (s : GSpan) (ho : s.ok) (hw : s.wt ≤ 9000000) : zi Tryd.prog Γ0 96 [s.av] [(njS s).av] := by
  have qw : s.wt = 1 + s.state.size + s.name.size + s.note.size + wtAs s.attrs + zv GE.wt s.events + zv GL.wt s.links := rfl
  have ql := ya GE.wt (fun e => by unfold GE.wt; omega) s.events
  have qm := ya GL.wt (fun e => by unfold GL.wt; omega) s.links
  refine zO Tryd.func96 rfl Tryd.ntmps96 (by kernel_rfl) rfl fun w0 I0 G0 => ?_
  refine zD <| zB <| g_uG (zd 1001 rfl rfl rfl rfl) rfl <| g_uG (zg 1002 rfl rfl rfl tZ36) rfl <| zG <| zA <| zD <| zB <| g_u (zF rfl rfl fa36_6 rfl) <| g_u (zH rfl rfl rfl tA29 tS29 rfl rfl) <| g_u (zF rfl rfl fa36_7 rfl) <| g_u (zH rfl rfl rfl tA29 tS29 rfl rfl) <| g_u (yh rfl tU81 us81 pl81 rfl rfl rfl rfl) <| g_u (zS (whole_c ⟨_, _⟩) rfl rfl) <| g_uG (zg 1003 rfl rfl rfl tZ81) rfl <| g_u (zL rfl rfl rfl tS81 rfl rfl) <| zG <| zA <| zD <| zB ?_
  refine g_u (zH rfl rfl rfl tA36 tS36 rfl (by first | exact xn (GSpan.width _) rfl | rfl)) ?_
  refine g_uG (zg 1004 rfl rfl rfl tZ36) rfl ?_
  refine g_u (zL rfl rfl rfl tS36 (by first | exact beqW (GSpan.width _) | rfl) (by first | exact wl (z36_w.trans (GSpan.width _).symm) rfl | rfl)) ?_
  refine zG <| zA <| zD <| y3 wn <| g_u (zF rfl rfl fa81_0 rfl) <| g_u (zH rfl rfl rfl tA29 tS29 rfl rfl) <| g_u (zF rfl rfl fa81_1 rfl) <| g_u (zH rfl rfl rfl tA29 tS29 rfl rfl) <| g_u (zF rfl rfl fa36_3 rfl) <| g_u (zL rfl rfl rfl tS9 rfl rfl) <| g_u (zF rfl rfl fa36_6 rfl) <| g_u (zL rfl rfl rfl tS29 rfl rfl) <| g_u (zF rfl rfl fa36_7 rfl) <| g_u (zL rfl rfl rfl tS29 rfl rfl) ?_
  refine zG ⟨by kernel_rfl, ?_⟩
  refine zA <| zD <| zB <| g_u (zF rfl rfl fa36_8 rfl) <| g_u (zH rfl rfl rfl tA30 tS30 rfl rfl) <| g_u (z_ (X0 := z9) rfl Tryd.underlying37 tS9 tZ9 rfl rfl rfl rfl rfl rfl rfl rfl) ?_
  refine g_u (zS (kept_c s.attrs k4 ho.2.2.2.1 (by omega) (by decide)) rfl rfl) ?_
  refine g_u (zF rfl rfl fa36_8 rfl) <| g_u (zL rfl rfl rfl tS30 rfl rfl) <| zG <| zA <| zD <| zB <| g_u (zF rfl rfl fa36_9 rfl) <| g_u (zL rfl rfl rfl tS31 rfl rfl) <| g_u (zF rfl rfl fa36_10 rfl) <| g_u (zL rfl rfl rfl tS32 rfl rfl) <| zG <| zA <| zD <| zD <| xf 3009 1004 3 38 rfl rfl rfl rfl rfl rfl rfl <| zB <| g_u (zF rfl rfl fa36_9 rfl) <| g_u (zH rfl rfl rfl tA31 tS31 rfl rfl) <| g_u (yB rfl rfl Tryd.underlying31) <| g_u (zC rfl rfl) <| zG <| zA <| zQ ?_
  refine yA (fun i : Nat => [(1, .ptr 1001 0), (1001, .box 36 (.imm s.av)), (2, .ptr 1002 0), (1002, .box 36 (.imm z36)), (4, .ptr 1004 0), (1004, .box 36 (.agg [.imm (.arr 16 s.trace), .imm (.arr 8 s.id), .imm (.arr 8 s.parent), .imm (sv ⟨#[]⟩), .imm (sv s.name), .imm (iv s.kind), .imm (uv (wT ⟨s.start, s.fin⟩).lo), .imm (uv (wT ⟨s.start, s.fin⟩).hi), .imm (.sl 7 ((keptA k4 s.attrs).map avA)), .slg 3009 3 ((s.events.take i).map fun e => (njE e).av), .imm (.v (.slice none 0 0)), .imm (.agg [iv s.code, sv s.note])])), (3009, .tok 3 ((s.events.take i).map fun e => (njE e).av)), (31, .imm (.sl 3 (s.events.map GE.av))), (32, .imm (iv (s.events.length : Int))), (33, .imm (iv (i : Int)))]) (fun i => i ≤ s.events.length) (fun i => s.events.length - i) (0) ?_ ⟨rfl, rfl, rfl, rfl, rfl, rfl, rfl, rfl, zX rfl (by rw [List.length_map]), rfl, trivial⟩ ?_
  · exact Nat.zero_le _
  · rintro i h1; have h1 : i ≤ s.events.length := h1
    refine zD <| zB <| g_u (xS rfl rfl rfl) <| zG <| zA <| zD ?_
    refine zT rfl (fun hb1 => ?_) (fun hb1 => ?_)
    · have hi : i < s.events.length := by have := of_decide_eq_true hb1; (try simp only [List.length_map] at this); omega
      have hex := yE GE.wt (nthE_mem hi)
      have heq : (nthE s.events i).wt = 1 + (nthE s.events i).name.size + wtAs (nthE s.events i).attrs := rfl
      have heo := ho.2.2.2.2.1 _ (nthE_mem hi)
      refine za <| zA <| zD <| zQ <| zD <| zB ?_
      refine g_u (zf rfl rfl rfl Tryd.underlying31 tS66 (by omega) (ixE hi)) ?_
      refine g_u (zk rfl rfl tA66 tS66 rfl rfl) <| g_uG (zg 1006 rfl rfl rfl tZ66) rfl <| g_u (zL rfl rfl rfl tS66 rfl rfl) <| zG <| zA <| y3 wn <| g_u (zF rfl rfl fa36_9 rfl) <| g_u (yy rfl rfl rfl tA31 tS31 rfl rfl) <| g_u (zn rfl rfl rfl tA66 tS66 rfl rfl) ?_
      refine g_u (zS (njE_c (nthE s.events i) heo (by omega)) rfl rfl) ?_
      refine g_u (z_ (X0 := z66) rfl Tryd.underlying31 tS66 tZ66 rfl rfl rfl rfl rfl rfl rfl rfl) ?_
      refine g_u (yH rfl rfl rfl rfl rfl Tryd.underlying31 Tryd.underlying31 tS66 zv66 rfl (by decide) by66 (by (try dsimp only); simp only [List.length_append, List.length_cons, List.length_nil, List.length_map, List.length_take, List.length_drop]; omega) (by (try dsimp only); simp only [List.length_append, List.length_cons, List.length_nil, List.length_map, List.length_take, List.length_drop]; omega)) ?_
      refine g_u (zF rfl rfl fa36_9 rfl) <| g_u (wZ rfl rfl rfl rfl tS31 rfl rfl) ?_
      refine zG ⟨by kernel_rfl, ?_⟩
      refine zU <| zA <| zB <| g_u (yZ rfl rfl rfl) <| g_u (zC rfl rfl) <| zG <| zA ?_
      have et : ((s.events.take (i + 1)).map fun e => (njE e).av) = ((s.events.take i).map fun e => (njE e).av) ++ [(njE (nthE s.events i)).av] := by rw [yG (yr (d := ge0) hi), List.map_append]; rfl
      refine ⟨i + 1, hi, ⟨rfl, rfl, rfl, rfl, rfl, (by rw [et]; rfl), yD rfl et.symm, rfl, rfl, zX rfl (by rw [zj (by omega) (by omega)]; rfl), trivial⟩, by (try dsimp only); omega⟩
    · have hin : i = s.events.length := by have := of_decide_eq_false hb1; (try simp only [List.length_map] at this); omega
      refine yM <| ze <| ze <| z8 <| zA <| zD <| zD <| xf 3010 1004 26 39 rfl rfl rfl rfl rfl rfl rfl <| zB <| g_u (zF rfl rfl fa36_10 rfl) <| g_u (zH rfl rfl rfl tA32 tS32 rfl rfl) <| g_u (yB rfl rfl Tryd.underlying32) <| g_u (zC rfl rfl) <| zG <| zA <| zQ ?_
      refine yA (fun j : Nat => [(1, .ptr 1001 0), (1001, .box 36 (.imm s.av)), (2, .ptr 1002 0), (1002, .box 36 (.imm z36)), (4, .ptr 1004 0), (1004, .box 36 (.agg [.imm (.arr 16 s.trace), .imm (.arr 8 s.id), .imm (.arr 8 s.parent), .imm (sv ⟨#[]⟩), .imm (sv s.name), .imm (iv s.kind), .imm (uv (wT ⟨s.start, s.fin⟩).lo), .imm (uv (wT ⟨s.start, s.fin⟩).hi), .imm (.sl 7 ((keptA k4 s.attrs).map avA)), .slg 3009 3 (s.events.map fun e => (njE e).av), .slg 3010 26 ((s.links.take j).map fun e => (njL e).av), .imm (.agg [iv s.code, sv s.note])])), (3010, .tok 26 ((s.links.take j).map fun e => (njL e).av)), (46, .imm (.sl 26 (s.links.map GL.av))), (47, .imm (iv (s.links.length : Int))), (48, .imm (iv (j : Int)))]) (fun j => j ≤ s.links.length) (fun j => s.links.length - j) (0) ?_ ⟨rfl, rfl, rfl, rfl, rfl, (by rw [hin, List.take_length]; rfl), rfl, rfl, zX rfl (by rw [List.length_map]), rfl, trivial⟩ ?_
      · exact Nat.zero_le _
      · rintro j h1; have h1 : j ≤ s.links.length := h1
        refine zD <| zB <| g_u (xS rfl rfl rfl) <| zG <| zA <| zD ?_
        refine zT rfl (fun hb2 => ?_) (fun hb2 => ?_)
        · have hj : j < s.links.length := by have := of_decide_eq_true hb2; (try simp only [List.length_map] at this); omega
          refine za <| zA <| zD <| zQ <| zD <| zB ?_
          refine g_u (zf rfl rfl rfl Tryd.underlying32 tS68 (by omega) (ixL hj)) ?_
          refine g_u (zk rfl rfl tA68 tS68 rfl (by first | exact xn (GL.width _) rfl | rfl)) ?_
          refine g_uG (zg 1008 rfl rfl rfl tZ68) rfl ?_
          refine g_u (zL rfl rfl rfl tS68 (by first | exact beqW (GL.width _) | rfl) (by first | exact wl (z68_w.trans (GL.width _).symm) rfl | rfl)) ?_
          refine zG <| zA <| zB <| g_u (zF rfl rfl fa36_10 rfl) <| g_u (yy rfl rfl rfl tA32 tS32 rfl rfl) <| g_u (zF rfl rfl fa68_0 rfl) <| g_u (zn rfl rfl rfl tA26 tS26 rfl rfl) <| g_u (zF rfl rfl fa68_1 rfl) <| g_u (zH rfl rfl rfl tA28 tS28 rfl rfl) <| g_u (yh rfl tU68 us68 pl68 rfl rfl rfl rfl) <| g_u (z_ (X0 := z68) rfl Tryd.underlying32 tS68 tZ68 rfl rfl rfl rfl rfl rfl rfl rfl) ?_
          refine g_u (yH rfl rfl rfl rfl rfl Tryd.underlying32 Tryd.underlying32 tS68 zv68 rfl (by decide) by68 (by (try dsimp only); simp only [List.length_append, List.length_cons, List.length_nil, List.length_map, List.length_take, List.length_drop]; omega) (by (try dsimp only); simp only [List.length_append, List.length_cons, List.length_nil, List.length_map, List.length_take, List.length_drop]; omega)) ?_
          refine g_u (zF rfl rfl fa36_10 rfl) <| g_u (wZ rfl rfl rfl rfl tS32 rfl rfl) <| zG <| zU <| zA <| zB <| g_u (yZ rfl rfl rfl) <| g_u (zC rfl rfl) <| zG <| zA ?_
          have et : ((s.links.take (j + 1)).map fun e => (njL e).av) = ((s.links.take j).map fun e => (njL e).av) ++ [(njL (nthL s.links j)).av] := by rw [yG (yr (d := gl0) hj), List.map_append]; rfl
          refine ⟨j + 1, hj, ⟨rfl, rfl, rfl, rfl, rfl, (by rw [et]; rfl), yD rfl et.symm, rfl, rfl, zX rfl (by rw [zj (by omega) (by omega)]; rfl), trivial⟩, by (try dsimp only); omega⟩
        · have hjn : j = s.links.length := by have := of_decide_eq_false hb2; (try simp only [List.length_map] at this); omega
          refine yM <| ze <| ze <| z8 <| zA <| zD <| zB <| g_u (zn rfl rfl rfl tA36 tS36 rfl rfl) ?_
          refine g_u (zL rfl rfl rfl tS36 (by first | exact beqW (GSpan.width _) | rfl) (by first | exact wl (z36_w.trans (GSpan.width _).symm) rfl | rfl)) ?_
          refine zG <| zA <| zM ?_
          exact ⟨⟨_, _, _, _, _, _, _, rfl, rfl, tA36, tS36, rfl, rfl, (rfl : toAV _ = some _).trans (congrArg some (by (rw [hjn, List.take_length]; show _ = GSpan.av (njS s); simp only [GSpan.av, njS, List.map_map]; rfl)))⟩, trivial⟩
theorem named_c (l : List GA) (t : ByteArray) (hr : risA none l) (hl : l.length ≤ 10000000) : zi Tryd.prog Γ0 70 [(.sl 7 (l.map avA)), sv t] [.sl 7 ((wC l t).map avA)] := by
  refine zO Tryd.func70 rfl Tryd.ntmps70 (by kernel_rfl) rfl fun w0 I0 G0 => ?_
  refine zD <| zB <| g_u (zE rfl rfl) <| zG <| zA <| zD <| zD <| zB <| g_u (zC rfl rfl) <| g_u (s_eqS rfl rfl rfl) <| zG <| zA ?_
  refine zT rfl (fun hb1 => ?_) (fun hb1 => ?_)
  · have q : t = ⟨#[]⟩ := by have e := hb1; rw [yY] at e; exact of_decide_eq_true e
    refine zD <| zB <| g_u (zC rfl rfl) <| g_u (z_ (X0 := z9) rfl Tryd.underlying37 tS9 tZ9 rfl rfl rfl rfl rfl rfl rfl rfl) ?_
    refine g_u (zS (drop_c l [skey] hl (by decide)) rfl rfl) ?_
    refine g_u (zE rfl rfl) <| zG <| zA <| zM <| zV ?_
    exact ⟨⟨(rfl : toAV (Al.look _ _) = some _).trans (congrArg some (by (exact congrArg (fun x : List GA => AV.sl 7 (x.map avA)) (by unfold wC; first | rw [if_pos q] | (rw [if_neg q]; done) | rw [if_neg q, into_drop hr])))), rfl⟩, trivial⟩
  · have q : ¬ t = ⟨#[]⟩ := by have e := hb1; rw [yY] at e; exact of_decide_eq_false e
    refine za <| zA <| zD <| zB <| g_u (zC rfl rfl) <| g_u (zC rfl rfl) <| g_u (yh rfl tU71 us71 pl71 rfl rfl rfl rfl) <| g_u (zS (putA_c l skey (tv t) hr hl) rfl rfl) <| g_u (zE rfl rfl) <| zG <| zA <| zM ?_
    exact ⟨⟨(rfl : toAV (Al.look _ _) = some _).trans (congrArg some (by (exact congrArg (fun x : List GA => AV.sl 7 (x.map avA)) (by unfold wC; first | rw [if_pos q] | (rw [if_neg q]; done) | rw [if_neg q, into_drop hr])))), rfl⟩, trivial⟩
set_option maxHeartbeats 4000000 in
theorem njR_c (r : GRes) (ho : r.ok) (hw : r.wt ≤ 9000000) (hr : risA none r.attrs) : zi Tryd.prog Γ0 86 [r.av] [(njR r).av] := by
  have qw : r.wt = 1 + wtAs r.attrs + zv GScope.wt r.scopes := rfl
  have qc := ya GScope.wt (fun e => by unfold GScope.wt; omega) r.scopes
  have qa := yj r.attrs
  have hkr := ris_kept [] hr
  have hkl : (keptA [] r.attrs).length ≤ r.attrs.length := by unfold keptA; have := dropA_len [] (r.attrs.map (yo nJ)); rw [List.length_map] at this; exact this
  have qsp := spansOf_len r.scopes
  refine zO Tryd.func86 rfl Tryd.ntmps86 (by kernel_rfl) rfl fun w0 I0 G0 => ?_
  refine zD <| zB <| g_uG (zd 1001 rfl rfl rfl rfl) rfl <| g_uG (zg 1002 rfl rfl rfl tZ61) rfl <| zG <| zA <| zD <| y3 wn <| g_u (zF rfl rfl fa61_0 rfl) <| g_u (zH rfl rfl rfl tA30 tS30 rfl rfl) ?_
  refine g_u (zS (nil2nd (n := 1) (kept_c r.attrs [] ho.1 (by omega) (by decide))) rfl rfl) ?_
  refine g_u (zH rfl rfl rfl tA61 tS61 rfl rfl) ?_
  refine g_u (zS (service_c r ho.1 (by omega) hr) rfl rfl) ?_
  refine g_u (zS (named_c (keptA [] r.attrs) (yO r) hkr (by omega)) rfl rfl) ?_
  refine g_u (yh rfl tU61 us61 pl61 rfl rfl rfl rfl) <| g_uG (zg 1003 rfl rfl rfl tZ61) rfl <| g_u (zL rfl rfl rfl tS61 rfl rfl) ?_
  refine zG ⟨by kernel_rfl, ?_⟩
  refine zA <| zD <| zB <| g_u (zE rfl rfl) <| zG <| zA <| zD <| zD <| aw_newtok 3004 4 42 rfl rfl rfl rfl <| zB <| g_u (zF rfl rfl fa61_1 rfl) <| g_u (zH rfl rfl rfl tA59 tS59 rfl rfl) <| g_u (yB rfl rfl Tryd.underlying59) <| g_u (zC rfl rfl) <| zG <| zA <| zQ ?_
  refine yA (fun i : Nat => [(2, .ptr 1002 0), (1002, .box 61 (.imm z61)), (3, .ptr 1003 0), (1003, .box 61 (.imm (.agg [.sl 7 ((wC (keptA [] r.attrs) (yO r)).map avA), .sl 3 []]))), (17, .imm (.sl 3 (r.scopes.map GScope.av))), (18, .imm (iv (r.scopes.length : Int))), (4, .slg 3004 42 ((zh (r.scopes.take i)).map fun x => (njS x).av)), (3004, .tok 42 ((zh (r.scopes.take i)).map fun x => (njS x).av)), (19, .imm (iv (i : Int)))]) (fun i => i ≤ r.scopes.length) (fun i => r.scopes.length - i) (0) ?_ ⟨rfl, rfl, rfl, rfl, rfl, zX rfl (by rw [List.length_map]), rfl, rfl, rfl, trivial⟩ ?_
  · exact Nat.zero_le _
  · rintro i h1; have h1 : i ≤ r.scopes.length := h1
    refine zD <| zB <| g_u (xS rfl rfl rfl) <| zG <| zA <| zD ?_
    refine zT rfl (fun hb1 => ?_) (fun hb1 => ?_)
    · have hi : i < r.scopes.length := by have := of_decide_eq_true hb1; (try simp only [List.length_map] at this); omega
      have hcx := yE GScope.wt (nthC_mem hi)
      have hcq : (nthC r.scopes i).wt = 1 + (nthC r.scopes i).name.size + (nthC r.scopes i).version.size + zv GSpan.wt (nthC r.scopes i).spans := rfl
      have hco := ho.2 _ (nthC_mem hi)
      have hcl := ya GSpan.wt (fun e => by unfold GSpan.wt; omega) (nthC r.scopes i).spans
      have hst : (zh (r.scopes.take i)).length + (nthC r.scopes i).spans.length ≤ (zh r.scopes).length := by have := congrArg List.length (spansOf_take hi); rw [List.length_append] at this; have h3 := spansOf_append (r.scopes.take (i + 1)) (r.scopes.drop (i + 1)); rw [List.take_append_drop] at h3; have h4 := congrArg List.length h3; rw [List.length_append] at h4; omega
      refine za <| zA <| zD <| zQ <| zD <| zB ?_
      refine g_u (zf rfl rfl rfl Tryd.underlying59 tS64 (by omega) (ixC hi)) ?_
      refine g_u (zk rfl rfl tA64 tS64 rfl rfl) <| g_uG (zg 1006 rfl rfl rfl tZ64) rfl <| g_u (zL rfl rfl rfl tS64 rfl rfl) <| zG <| zA <| zD <| zB <| g_u (zF rfl rfl fa64_2 rfl) <| g_u (zH rfl rfl rfl tA44 tS44 rfl rfl) <| g_u (yB rfl rfl Tryd.underlying44) <| g_u (zC rfl rfl) <| zG <| zA <| zQ ?_
      refine yA (fun j : Nat => [(2, .ptr 1002 0), (1002, .box 61 (.imm z61)), (3, .ptr 1003 0), (1003, .box 61 (.imm (.agg [.sl 7 ((wC (keptA [] r.attrs) (yO r)).map avA), .sl 3 []]))), (17, .imm (.sl 3 (r.scopes.map GScope.av))), (18, .imm (iv (r.scopes.length : Int))), (4, .slg 3004 42 (((zh (r.scopes.take i)).map fun x => (njS x).av) ++ (((nthC r.scopes i).spans.take j).map fun x => (njS x).av))), (3004, .tok 42 (((zh (r.scopes.take i)).map fun x => (njS x).av) ++ (((nthC r.scopes i).spans.take j).map fun x => (njS x).av))), (19, .imm (iv (i : Int))), (24, .imm (.sl 42 ((nthC r.scopes i).spans.map GSpan.av))), (25, .imm (iv ((nthC r.scopes i).spans.length : Int))), (26, .imm (iv (j : Int)))]) (fun j => j ≤ (nthC r.scopes i).spans.length) (fun j => (nthC r.scopes i).spans.length - j) (0) ?_ ⟨rfl, rfl, rfl, rfl, rfl, rfl, yT rfl (by simp), yD rfl (by simp), rfl, rfl, zX rfl (by rw [List.length_map]), rfl, trivial⟩ ?_
      · exact Nat.zero_le _
      · rintro j g1; have g1 : j ≤ (nthC r.scopes i).spans.length := g1
        refine zD <| zB <| g_u (xS rfl rfl rfl) <| zG <| zA <| zD ?_
        refine zT rfl (fun hb2 => ?_) (fun hb2 => ?_)
        · have hj : j < (nthC r.scopes i).spans.length := by have := of_decide_eq_true hb2; (try simp only [List.length_map] at this); omega
          have hsx := yE GSpan.wt (nthS_mem hj)
          have hso := hco.2.2 _ (nthS_mem hj)
          refine za <| zA <| zD <| zQ <| zD <| zB ?_
          refine g_u (zf rfl rfl rfl Tryd.underlying44 tS36 (by omega) (ixS hj)) ?_
          refine g_u (zk rfl rfl tA36 tS36 rfl (by first | exact xn (GSpan.width _) rfl | rfl)) ?_
          refine g_uG (zg 1008 rfl rfl rfl tZ36) rfl ?_
          refine g_u (zL rfl rfl rfl tS36 (by first | exact beqW (GSpan.width _) | rfl) (by first | exact wl (z36_w.trans (GSpan.width _).symm) rfl | rfl)) ?_
          refine zG <| zA <| zB <| g_u (zy rfl rfl) ?_
          refine g_u (zH rfl rfl rfl tA36 tS36 rfl (by first | exact xn (GSpan.width _) rfl | rfl)) ?_
          refine g_u (zS (njS_c _ hso (by omega)) rfl rfl) ?_
          refine g_u (z_ (X0 := z36) rfl Tryd.underlying44 tS36 tZ36 rfl rfl rfl rfl rfl rfl rfl rfl) ?_
          refine g_u (yH rfl rfl rfl rfl rfl Tryd.underlying44 Tryd.underlying44 tS36 zv36 rfl (by decide) by36 (by (try dsimp only); simp only [List.length_append, List.length_cons, List.length_nil, List.length_map, List.length_take, List.length_drop]; omega) (by (try dsimp only); simp only [List.length_append, List.length_cons, List.length_nil, List.length_map, List.length_take, List.length_drop]; omega)) ?_
          refine g_u (z0 rfl rfl) <| zG <| zU <| zA <| zB <| g_u (yZ rfl rfl rfl) <| g_u (zC rfl rfl) <| zG <| zA ?_
          have et : (((zh (r.scopes.take i)).map fun x => (njS x).av) ++ (((nthC r.scopes i).spans.take (j + 1)).map fun x => (njS x).av)) = (((zh (r.scopes.take i)).map fun x => (njS x).av) ++ (((nthC r.scopes i).spans.take j).map fun x => (njS x).av)) ++ [(njS (nthS (nthC r.scopes i).spans j)).av] := by rw [yG (yr (d := gs0) hj), List.map_append, List.append_assoc]; rfl
          refine ⟨j + 1, hj, ⟨rfl, rfl, rfl, rfl, rfl, rfl, yT rfl et.symm, yD rfl et.symm, rfl, rfl, rfl, zX rfl (by rw [zj (by omega) (by omega)]; rfl), trivial⟩, by (try dsimp only); omega⟩
        · have hjn : j = (nthC r.scopes i).spans.length := by have := of_decide_eq_false hb2; (try simp only [List.length_map] at this); omega
          refine yM <| ze <| ze <| z8 <| zU <| zA <| zB <| g_u (yZ rfl rfl rfl) <| g_u (zC rfl rfl) <| zG <| zA ?_
          have et : ((zh (r.scopes.take (i + 1))).map fun x => (njS x).av) = (((zh (r.scopes.take i)).map fun x => (njS x).av) ++ (((nthC r.scopes i).spans.take j).map fun x => (njS x).av)) := by rw [spansOf_take hi, List.map_append, hjn, List.take_length]
          refine ⟨i + 1, hi, ⟨rfl, rfl, rfl, rfl, rfl, rfl, yT rfl et.symm, yD rfl et.symm, zX rfl (by rw [zj (by omega) (by omega)]; rfl), trivial⟩, by (try dsimp only); omega⟩
    · have hin : i = r.scopes.length := by have := of_decide_eq_false hb1; (try simp only [List.length_map] at this); omega
      refine yM <| ze <| ze <| z8 <| zA <| zD <| zD <| zB <| g_u (zy rfl rfl) <| g_u (yB rfl rfl Tryd.underlying44) <| g_u (s_gtI rfl rfl rfl) <| zG <| zA ?_
      refine zT rfl (fun hb3 => ?_) (fun hb3 => ?_)
      · have q : ((zh (r.scopes.take i)).length : Int) > 0 := by have e := of_decide_eq_true hb3; simp only [List.length_map] at e; omega
        refine zB <| g_u (zy rfl rfl) <| g_u (yh rfl tU64 us64 pl64 rfl rfl rfl rfl) <| g_u (z_ (X0 := z64) rfl Tryd.underlying59 tS64 tZ64 rfl rfl rfl rfl rfl rfl rfl rfl) <| g_u (zF rfl rfl fa61_1 rfl) <| g_u (wZ rfl rfl rfl rfl tS59 rfl rfl) <| zG <| zA <| zD <| zB <| g_u (zn rfl rfl rfl tA61 tS61 rfl rfl) <| g_u (zL rfl rfl rfl tS61 rfl rfl) <| zG <| zA <| zM ?_
        exact ⟨⟨_, _, _, _, _, _, _, rfl, rfl, tA61, tS61, rfl, rfl, (rfl : toAV _ = some _).trans (congrArg some (by (rw [hin, List.take_length] at *; show _ = GRes.av (njR r); unfold njR scopeJ; first | (rw [if_pos (by rw [List.length_map]; omega)]; simp only [GRes.av, GScope.av, List.map_cons, List.map_nil, List.map_map]; rfl) | (rw [if_neg (by rw [List.length_map]; omega)]; rfl))))⟩, trivial⟩
      · have q : ¬ ((zh (r.scopes.take i)).length : Int) > 0 := by have e := of_decide_eq_false hb3; simp only [List.length_map] at e; omega
        refine za <| zA <| zD <| zB <| g_u (zH rfl rfl rfl tA61 tS61 rfl rfl) <| g_u (zL rfl rfl rfl tS61 rfl rfl) <| zG <| zA <| zM ?_
        exact ⟨⟨_, _, _, _, _, _, _, rfl, rfl, tA61, tS61, rfl, rfl, (rfl : toAV _ = some _).trans (congrArg some (by (rw [hin, List.take_length] at *; show _ = GRes.av (njR r); unfold njR scopeJ; first | (rw [if_pos (by rw [List.length_map]; omega)]; simp only [GRes.av, GScope.av, List.map_cons, List.map_nil, List.map_map]; rfl) | (rw [if_neg (by rw [List.length_map]; omega)]; rfl))))⟩, trivial⟩
end Go.Proofs
namespace Go.Proofs
open Go Go.Al
theorem wholeN_rg (n : Int) : u64 (wholeN n) := by have := nano_rg (microM n); unfold u64 wholeN; omega
theorem ofR_rg (b l : Int) : u64 (ofR b l).lo ∧ u64 (ofR b l).hi := by
  have h := nano_rg b
  unfold ofR
  split
  · unfold u64; simp
  · refine ⟨by unfold u64; dsimp only; omega, ?_⟩
    unfold u64
    dsimp only
    simp only [IntKind.wrap, IntKind.bits, IntKind.signed, Bool.false_and, Bool.false_eq_true, if_false]
    omega
theorem njB_ris {b : List GRes} (hr : ∀ r ∈ b, risA none r.attrs) : ∀ r ∈ njB b, risA none r.attrs := fun r h => by
  obtain ⟨x, hx, rfl⟩ := List.mem_map.1 h; exact ris_named (ris_kept [] (hr x hx)) _
theorem e0_ok : (⟨#[]⟩ : ByteArray).size ≤ maxLen := by decide
theorem skey_ok : skey.size ≤ maxLen := by decide
theorem tv_ok {t : ByteArray} (ht : t.size ≤ maxLen) : (tv t).ok := by
  rw [GV.ok_iff]
  exact ⟨by show (0 : Int) ≤ 1 ∧ (1 : Int) < 256; decide, ht, by show (-9223372036854775808 : Int) ≤ 0 ∧ (0 : Int) < 9223372036854775808; decide, by show (0 : Int) ≤ 0 ∧ (0 : Int) < 18446744073709551616; decide, (fun x h => by cases h), (fun x h => by cases h)⟩
theorem keptA_ok (but : List ByteArray) {l : List GA} (ho : ∀ a ∈ l, a.ok) (hw : wtAs l ≤ 1000000) : ∀ a ∈ keptA but l, a.ok := fun a h => by
  obtain ⟨x, hx, rfl⟩ := List.mem_map.1 (x5 h).1
  exact plainA_ok (ho x hx) (Nat.le_trans (xt hx) hw)
theorem namedM_ok {l : List GA} {t : ByteArray} (ho : ∀ a ∈ l, a.ok) (ht : t.size ≤ maxLen) : ∀ a ∈ wC l t, a.ok := fun a h => by
  unfold wC at h
  split at h
  · exact ho a (x5 h).1
  · rcases mem_intoA h with rfl | h
    · exact (GA.ok_iff _).2 ⟨skey_ok, tv_ok ht⟩
    · exact ho a h
theorem njE_ok {e : GE} (h : e.ok) (hw : e.wt ≤ 1000000) : (njE e).ok := ⟨wholeN_rg _, h.2.1, keptA_ok _ h.2.2 (by have : e.wt = 1 + e.name.size + wtAs e.attrs := rfl; omega)⟩
theorem njS_ok {s : GSpan} (h : s.ok) (hw : s.wt ≤ 1000000) : (njS s).ok := by
  have qw : s.wt = 1 + s.state.size + s.name.size + s.note.size + wtAs s.attrs + zv GE.wt s.events + zv GL.wt s.links := rfl
  have hr := ofR_rg (BegunM ⟨s.start, s.fin⟩) (LastsM ⟨s.start, s.fin⟩)
  refine ⟨h.1, ⟨e0_ok, h.2.1.2.1, h.2.1.2.2⟩, ⟨h.2.2.1.1, hr.1, hr.2, h.2.2.1.2.2.2⟩, keptA_ok _ h.2.2.2.1 (by omega), fun e he => ?_, fun e he => ?_⟩
  · obtain ⟨x, hx, rfl⟩ := List.mem_map.1 he
    exact njE_ok (h.2.2.2.2.1 x hx) (by have := yE GE.wt hx; omega)
  · obtain ⟨x, hx, rfl⟩ := List.mem_map.1 he
    have := h.2.2.2.2.2 x hx
    exact ⟨this.1, this.2.1, e0_ok, fun a ha => by cases ha⟩
theorem njR_ok {r : GRes} (h : r.ok) (hw : r.wt ≤ 1000000) : (njR r).ok := by
  have qw : r.wt = 1 + wtAs r.attrs + zv GScope.wt r.scopes := rfl
  have hs := serviceM_le r
  refine ⟨namedM_ok (keptA_ok _ h.1 (by omega)) (by unfold maxLen; omega), fun c hc => ?_⟩
  have hc : c ∈ scopeJ ((zh r.scopes).map njS) := hc
  unfold scopeJ at hc
  split at hc
  · cases List.mem_singleton.1 hc
    refine ⟨e0_ok, e0_ok, fun x hx => ?_⟩
    obtain ⟨s, hs, rfl⟩ := List.mem_map.1 hx
    obtain ⟨c, hc, hs⟩ := spansOf_mem hs
    have h1 := yE GScope.wt hc
    have h2 : c.wt = 1 + c.name.size + c.version.size + zv GSpan.wt c.spans := rfl
    have h3 := yE GSpan.wt hs
    exact njS_ok ((h.2 c hc).2.2 s hs) (by omega)
  · cases hc
theorem njB_ok {b : List GRes} (h : okB b) (hw : wtB b ≤ 1000000) : okB (njB b) := fun r hr => by
  obtain ⟨x, hx, rfl⟩ := List.mem_map.1 hr
  exact njR_ok (h x hx) (by have := yE GRes.wt hx; unfold wtB at hw; omega)
theorem y7 {α : Type} {f : α → α} {g : α → Nat} (k : Nat) (h : ∀ x, g (f x) ≤ k * g x) : ∀ l : List α, zv g (l.map f) ≤ k * zv g l
  | [] => by simp [zv]
  | x :: l => by simp only [List.map_cons, zv, Nat.mul_add]; have := h x; have := y7 k h l; omega
theorem njS_wt (s : GSpan) : (njS s).wt ≤ 151 * s.wt := by
  have h1 := keptA_wt k4 s.attrs
  have h2 := y7 (f := njE) (g := GE.wt) 151 (fun e => by
    have q : e.wt = 1 + e.name.size + wtAs e.attrs := rfl
    have q2 : (njE e).wt = 1 + e.name.size + wtAs (keptA [k_event] e.attrs) := rfl
    have := keptA_wt [k_event] e.attrs; omega) s.events
  have h3 := y7 (f := njL) (g := GL.wt) 151 (fun e => by
    have q : e.wt = 1 + e.state.size + wtAs e.attrs := rfl
    have q2 : (njL e).wt = 1 := rfl
    omega) s.links
  have q1 : (njS s).wt = 1 + 0 + s.name.size + s.note.size + wtAs (keptA k4 s.attrs) + zv GE.wt (s.events.map njE) + zv GL.wt (s.links.map njL) := rfl
  have q2 : s.wt = 1 + s.state.size + s.name.size + s.note.size + wtAs s.attrs + zv GE.wt s.events + zv GL.wt s.links := rfl
  omega
theorem spansOf_wt : ∀ l : List GScope, zv GSpan.wt (zh l) ≤ zv GScope.wt l
  | [] => Nat.le_refl _
  | c :: l => by
    rw [zh, x7, zv]
    have := spansOf_wt l
    have h3 : c.wt = 1 + c.name.size + c.version.size + zv GSpan.wt c.spans := rfl
    omega
theorem namedM_wt (l : List GA) (t : ByteArray) : wtAs (wC l t) ≤ wtAs l + 13 + t.size := by
  unfold wC; split
  · have := dropA_wt [skey] l; omega
  · have h1 := wt_intoA l (.mk skey (tv t))
    have h2 : (GA.mk skey (tv t)).wt = 12 + (1 + t.size + 0 + 0) := by rw [GA.wt_eq, GV.wt_eq]; rfl
    omega
theorem njR_wt (r : GRes) : (njR r).wt ≤ 400 * r.wt := by
  have h1 := namedM_wt (keptA [] r.attrs) (yO r)
  have h2 := keptA_wt [] r.attrs
  have h3 := serviceM_le r
  have h4 := y7 (f := njS) (g := GSpan.wt) 151 njS_wt (zh r.scopes)
  have h5 := spansOf_wt r.scopes
  have q1 : (njR r).wt = 1 + wtAs (wC (keptA [] r.attrs) (yO r)) + zv GScope.wt (scopeJ ((zh r.scopes).map njS)) := rfl
  have q2 : r.wt = 1 + wtAs r.attrs + zv GScope.wt r.scopes := rfl
  have h6 : zv GScope.wt (scopeJ ((zh r.scopes).map njS)) ≤ 1 + zv GSpan.wt ((zh r.scopes).map njS) := by
    unfold scopeJ; split
    · simp only [zv, GScope.wt]
      show 1 + 0 + 0 + _ + 0 ≤ _
      omega
    · exact Nat.zero_le _
  omega
theorem njB_wt (b : List GRes) : wtB (njB b) ≤ 400 * wtB b := y7 400 njR_wt b
end Go.Proofs
namespace Go.Proofs
open Go Go.Al
set_option maxRecDepth 10000
set_option maxHeartbeats 4000000 in
theorem njB_c (b : List GRes) (ho : okB b) (hw : wtB b ≤ 9000000) (hr : ∀ r ∈ b, risA none r.attrs) : zi Tryd.prog Γ0 73 [yd b] [yd (njB b)] := by
  have ql := ya GRes.wt (fun e => by unfold GRes.wt; omega) b
  have qw : wtB b = zv GRes.wt b := rfl
  refine zO Tryd.func73 rfl Tryd.ntmps73 (by kernel_rfl) rfl fun w0 I0 G0 => ?_
  refine zD <| zB <| g_uG (zd 1001 rfl rfl rfl rfl) rfl <| g_uG (zg 1002 rfl rfl rfl tZ24) rfl <| zG <| zA <| zD <| zB <| g_uG (zg 1003 rfl rfl rfl tZ24) rfl <| zG <| zA <| zD <| zD <| xf 3099 1003 2 0 rfl rfl rfl rfl rfl rfl rfl <| zB <| g_u (zF rfl rfl fa24_0 rfl) <| g_u (zH rfl rfl rfl tA22 tS22 rfl rfl) <| g_u (yB rfl rfl Tryd.underlying22) <| g_u (zC rfl rfl) <| zG <| zA <| zQ ?_
  refine yA (fun i : Nat => [(2, .ptr 1002 0), (1002, .box 24 (.imm z24)), (3, .ptr 1003 0), (1003, .box 24 (.agg [.slg 3099 2 ((b.take i).map fun r => (njR r).av)])), (3099, .tok 2 ((b.take i).map fun r => (njR r).av)), (7, .imm (.sl 2 (b.map GRes.av))), (8, .imm (iv (b.length : Int))), (9, .imm (iv (i : Int)))]) (fun i => i ≤ b.length) (fun i => b.length - i) (0) ?_ ⟨rfl, rfl, rfl, rfl, rfl, rfl, zX rfl (by rw [List.length_map]), rfl, trivial⟩ ?_
  · exact Nat.zero_le _
  · rintro i h1; have h1 : i ≤ b.length := h1
    refine zD <| zB <| g_u (xS rfl rfl rfl) <| zG <| zA <| zD ?_
    refine zT rfl (fun hb1 => ?_) (fun hb1 => ?_)
    · have hi : i < b.length := by have := of_decide_eq_true hb1; (try simp only [List.length_map] at this); omega
      have hrx := yE GRes.wt (wu hi)
      have hro := ho _ (wu hi)
      have hrr := hr _ (wu hi)
      refine za <| zA <| zD <| zQ <| zD <| zB ?_
      refine g_u (zf rfl rfl rfl Tryd.underlying22 tS61 (by omega) (ixR hi)) ?_
      refine g_u (zk rfl rfl tA61 tS61 rfl rfl) <| g_uG (zg 1005 rfl rfl rfl tZ61) rfl <| g_u (zL rfl rfl rfl tS61 rfl rfl) <| zG <| zA <| y3 wn <| g_u (zF rfl rfl fa24_0 rfl) <| g_u (yy rfl rfl rfl tA22 tS22 rfl rfl) <| g_u (zn rfl rfl rfl tA61 tS61 rfl rfl) ?_
      refine g_u (zS (njR_c (nthR b i) hro (by omega) hrr) rfl rfl) ?_
      refine g_u (z_ (X0 := z61) rfl Tryd.underlying22 tS61 tZ61 rfl rfl rfl rfl rfl rfl rfl rfl) ?_
      refine g_u (yH rfl rfl rfl rfl rfl Tryd.underlying22 Tryd.underlying22 tS61 zv61 rfl (by decide) by61 (by (try dsimp only); simp only [List.length_append, List.length_cons, List.length_nil, List.length_map, List.length_take, List.length_drop]; omega) (by (try dsimp only); simp only [List.length_append, List.length_cons, List.length_nil, List.length_map, List.length_take, List.length_drop]; omega)) ?_
      refine g_u (zF rfl rfl fa24_0 rfl) <| g_u (wZ rfl rfl rfl rfl tS22 rfl rfl) ?_
      refine zG ⟨by kernel_rfl, ?_⟩
      refine zU <| zA <| zB <| g_u (yZ rfl rfl rfl) <| g_u (zC rfl rfl) <| zG <| zA ?_
      have et : ((b.take (i + 1)).map fun r => (njR r).av) = ((b.take i).map fun r => (njR r).av) ++ [(njR (nthR b i)).av] := by rw [yG (yr (d := gr0) hi), List.map_append]; rfl
      refine ⟨i + 1, hi, ⟨rfl, rfl, rfl, (by rw [et]; rfl), yD rfl et.symm, rfl, rfl, zX rfl (by rw [zj (by omega) (by omega)]; rfl), trivial⟩, by (try dsimp only); omega⟩
    · have hin : i = b.length := by have := of_decide_eq_false hb1; (try simp only [List.length_map] at this); omega
      refine yM <| ze <| ze <| z8 <| zA <| zD <| zB <| g_u (zn rfl rfl rfl tA24 tS24 rfl rfl) <| g_u (zL rfl rfl rfl tS24 rfl rfl) <| zG <| zA <| zM ?_
      exact ⟨⟨_, _, _, _, _, _, _, rfl, rfl, tA24, tS24, rfl, rfl, (rfl : toAV _ = some _).trans (congrArg some (by (rw [hin, List.take_length]; show AV.agg [.sl 2 _] = AV.agg [.sl 2 ((b.map njR).map GRes.av)]; rw [List.map_map]; rfl)))⟩, trivial⟩
theorem plR_len : ∀ (i : Nat) (l : List GRes), (plR i l).length ≤ zv GRes.wt l
  | _, [] => Nat.le_refl _
  | i, r :: l => by
    rw [plR, List.length_append, plC_len, zv]
    have h1 := plR_len (i + 1) l
    have h2 := spansOf_len r.scopes
    have h3 : r.wt = 1 + wtAs r.attrs + zv GScope.wt r.scopes := rfl
    omega
end Go.Proofs
namespace Go.Proofs
open Go Go.Al
set_option maxRecDepth 10000
theorem eq26 (a b : List UInt8) : eqV Tryd.prog 100 26 (.arr 16 a) (.arr 16 b) = some (a == b) := by kernel_rfl
theorem eq28 (a b : List UInt8) : eqV Tryd.prog 100 28 (.arr 8 a) (.arr 8 b) = some (a == b) := by kernel_rfl
theorem eq34 (c d : Int) (m n : ByteArray) : eqV Tryd.prog 100 34 (.agg [iv c, sv m]) (.agg [iv d, sv n]) = some ((c == d) && ((m.toList == n.toList) && true)) := by kernel_rfl
end Go.Proofs
namespace Go.Al
open Go.RowKit
theorem up_bytes {l : List UInt8} {n : Nat} (h : l.length = n) : Up (.agg (zY l)) (.arr n l) := by
  have hw : ∀ x ∈ zY l, x.width = 1 := W1.bytes l
  refine ⟨rfl, ?_, fun w I c r => ?_⟩
  · have key : ∀ l : List UInt8, AV.widths (zY l) = l.length := by
      intro l
      induction l with
      | nil => rfl
      | cons b l ih => simp only [zY, List.map_cons, AV.widths, List.length_cons] at ih ⊢; rw [ih]; simp only [AV.width, xi, Value.cells]; show 1 + _ = _; omega
    show n = AV.widths (zY l)
    rw [key, h]
  · simp only [RepC] at r ⊢
    exact ⟨repE_bytes_inv l c ((wW (n := 1) hw).1 r), h⟩
end Go.Al
namespace Go.Proofs
open Go Go.Al
set_option maxRecDepth 10000
theorem tV26 : yU Tryd.prog 26 (.agg (List.replicate 16 (.v (.int .u8 0)))) := ⟨.agg #[.int .u8 0, .int .u8 0, .int .u8 0, .int .u8 0, .int .u8 0, .int .u8 0, .int .u8 0, .int .u8 0, .int .u8 0, .int .u8 0, .int .u8 0, .int .u8 0, .int .u8 0, .int .u8 0, .int .u8 0, .int .u8 0], by kernel_rfl, by kernel_rfl⟩
theorem tV28 : yU Tryd.prog 28 (.agg (List.replicate 8 (.v (.int .u8 0)))) := ⟨.agg #[.int .u8 0, .int .u8 0, .int .u8 0, .int .u8 0, .int .u8 0, .int .u8 0, .int .u8 0, .int .u8 0], by kernel_rfl, by kernel_rfl⟩
end Go.Proofs
namespace Go.Al
open Go.RowKit
theorem SimG.turnOG {C : Cx} {A : Nat → SV} {G : Gh} {a : Act} {w : World} (S : SimG C A G a w) {g : Nat} {X' : SV} {o' : Obj}
    (how : Owned C.w0 C.E w (G.blk g)) (hni : ∀ o, ¬ G.I (G.blk g) o) (hown : zN G g (G.blk g) (A g)) (hown' : ∀ b, zN G g b X' → G.blk g = b)
    (hnew : Le w G.I (zr w (G.blk g) o') G.I → Holds C.w0 C.E G a (zr w (G.blk g) o') g X') :
    SimG C (upd A [(g, X')]) G a (zr w (G.blk g) o') := by
  have hlt : G.blk g < w.heap.size := how.2
  have hle : Le w G.I (zr w (G.blk g) o') G.I := fun b o h => ⟨h, by
    have : b ≠ G.blk g := by rintro rfl; exact hni o h
    exact yR (yb this)⟩
  have hu : ∀ k, upd A [(g, X')] k = if k = g then X' else A k := xK A g X'
  have conv : ∀ k b, zN G k b (upd A [(g, X')] k) → zN G k b (A k) := by
    intro k b h
    rw [hu] at h
    split at h
    · rename_i hk; subst hk; have := hown' b h; rw [← this]; exact hown
    · exact h
  refine ⟨S.os, S.tape, S.output, by rw [zs]; exact S.size, fun k h1 h2 => ?_, S.sub.trans hle, S.rel, S.glob.mono hle, S.new, fun b o h => by rw [zs]; exact S.val b o h, S.nts, S.dfs, fun k => ?_, fun k j b hkj h1 h2 => S.apart k j b hkj (conv k b h1) (conv j b h2)⟩
  · have : k ≠ G.blk g := by
      rintro rfl
      rcases how.1 with h | h
      · omega
      · exact h2 h
    rw [yb this]; exact S.block k h1 h2
  · rw [hu]
    split
    · rename_i hk; subst hk; exact hnew hle
    · rename_i hk
      refine (S.holds k).keep hle (GRel.refl G) (yu.1 _) (by rw [zs]; exact Nat.le_refl _) (fun h => ⟨h, rfl⟩) (fun _ => ⟨rfl, rfl, rfl⟩) (fun b hb => ⟨?_, fun _ h => h⟩)
      have : b ≠ G.blk g := by
        rintro rfl
        exact S.apart k g (G.blk g) hk hb hown
      exact yb this
theorem SimG.turnO {C : Cx} {A : Nat → SV} {G : Gh} {a : Act} {w : World} (S : SimG C A G a w) {g : Nat} {X' : SV} {o' : Obj}
    (how : Owned C.w0 C.E w (G.blk g)) (hni : ∀ o, ¬ G.I (G.blk g) o) (hown : zN G g (G.blk g) (A g)) (hown' : ∀ b, zN G g b X' → G.blk g = b)
    (hnew : Le w G.I (zr w (G.blk g) o') G.I → Holds C.w0 C.E G a (zr w (G.blk g) o') g X') :
    Sim C (upd A [(g, X')]) a (zr w (G.blk g) o') := ⟨G, S.turnOG how hni hown hown' hnew⟩
def x9 : List ByteArray → ByteArray → Nat → Option Nat
  | [], _, _ => none
  | x :: xs, s, i => if s = x then some i else x9 xs s (i + 1)
def strs (l : List ByteArray) : List AV := l.map fun s => .v (.string s)
def mputK (l : List ByteArray) (s : ByteArray) : List ByteArray := match x9 l s 0 with | some _ => l | none => l ++ [s]
def mputV (l : List ByteArray) (vs : List AV) (s : ByteArray) (v : AV) : List AV := match x9 l s 0 with | some i => vs.set i v | none => vs ++ [v]
theorem mfind_lt : ∀ {l : List ByteArray} {s : ByteArray} {i j : Nat}, x9 l s i = some j → i ≤ j ∧ j < i + l.length
  | x :: xs, s, i, j, h => by
    rw [x9] at h
    split at h
    · cases h; simp
    · have := mfind_lt h; simp; omega
theorem mfind_get : ∀ {l : List ByteArray} {s : ByteArray} {i j : Nat}, x9 l s i = some j → l[j - i]? = some s
  | x :: xs, s, i, j, h => by
    rw [x9] at h
    split at h
    · rename_i hs; cases h; simp [hs]
    · have h1 := mfind_lt h
      have h2 := mfind_get h
      rw [show j - i = (j - (i + 1)) + 1 by omega, List.getElem?_cons_succ]; exact h2
theorem repVs_strs {w : World} {I : Nat → Nat → Prop} : ∀ {l : List ByteArray} {vs : List Value}, zx w I (strs l) vs → vs = l.map Value.string
  | [], vs, h => by simpa [strs, zx] using h
  | x :: xs, vs, h => by
    simp only [strs, List.map_cons, zx] at h
    obtain ⟨c, r, rfl, h1, h2⟩ := h
    simp only [RepC] at h1
    rw [repVs_strs (l := xs) h2, h1.1]
    simp [mkV, AV.isAgg, Value.cells]
theorem ba_beq (a b : ByteArray) : (a == b) = decide (a = b) := by
  rcases a with ⟨a⟩; rcases b with ⟨b⟩
  show (a == b) = _
  rw [Bool.eq_iff_iff]; simp
theorem findNow_str : ∀ (es : List MapEntry) (l : List ByteArray) (s : ByteArray) (i : Nat), es.map (·.key) = l.map Value.string →
    Instr.findNow .string (.string s) es i = some ((x9 l s i).bind fun j => (es[j - i]?).map fun e => (j, e.val))
  | [], l, s, i, h => by
    cases l with
    | nil => rfl
    | cons x l => simp at h
  | e :: es, l, s, i, h => by
    cases l with
    | nil => simp at h
    | cons x l =>
      simp only [List.map_cons, List.cons.injEq] at h
      simp only [Instr.findNow, h.1, Instr.sameNow]
      by_cases hs : s = x
      · subst hs
        simp [x9, ba_beq]
      · have : (s == x) = false := by rw [ba_beq]; simpa using hs
        rw [this]
        simp only
        rw [findNow_str es l s (i + 1) h.2, x9, if_neg hs]
        cases hm : x9 l s (i + 1) with
        | none => rfl
        | some j =>
          have := mfind_lt hm
          simp only [Option.bind_some]
          rw [show j - i = (j - (i + 1)) + 1 by omega, List.getElem?_cons_succ]
theorem run_checkKey {P : Program} {kt : TypeId} {s : ByteArray} (h : P.underlying kt = some .string) (b : Bool) (n : Nat) (w : World) : (Instr.checkKey b (n + 1) kt (.string s)).run P w = .ok () w := by
  simp only [Instr.checkKey, Sem.run_bind, zK h, Result.andThen_ok, Sem.run_pure]
theorem run_findKey {P : Program} {kt : TypeId} {s : ByteArray} (h : P.underlying kt = some .string) {es : List MapEntry} {l : List ByteArray} (he : es.map (·.key) = l.map Value.string) (w : World) :
    (Instr.findKey kt (.string s) es).run P w = .ok ((x9 l s 0).bind fun j => (es[j]?).map fun e => (j, e.val)) w := by
  have := findNow_str es l s 0 he
  simp only [Nat.sub_zero] at this
  simp only [Instr.findKey, Sem.run_bind, zK h, Result.andThen_ok, this, Sem.run_pure]
theorem run_getMap {P : Program} {w : World} {r : Nat} {es : Array MapEntry} {ck : Nat} (h : w.heap[r]? = some (.map es ck)) : (getObj r).run P w = .ok (.map es ck) w := by simp [getObj, Sem.run, h]
theorem run_setMap {P : Program} {w : World} {r : Nat} {es : Array MapEntry} {ck : Nat} {o' : Obj} (h : w.heap[r]? = some (.map es ck)) : (setObj r o').run P w = .ok () (zr w r o') := by simp [setObj, Sem.run, h, zr]
section
variable {C : Cx} {A : Nat → SV} {d : Nat} {ty : TypeId} {pos : String} {af : Array Edge} {gd : Option (Nat × Bool)} {x y z : Operand} {T T' : TypeId}
theorem s_makeMap (g : Nat) (hgN : Nat.ble C.N g = true) (hgK : Nat.blt g C.K = true) (hN : Nat.blt d C.N = true) :
    zW C ⟨some d, .makeMap T none, ty, pos, af, gd⟩ [] [g] A [(g, .mpr [] []), (d, .mref g)] := by
  intro A' a w hR hF ⟨G, S⟩
  have hN' : d < C.N := by simpa [Nat.blt_eq] using hN
  have hgd : g ≠ d := by have := Nat.le_of_ble_eq_true hgN; omega
  unfold Oper.wp
  have hrun : (execOp a.eval ⟨some d, .makeMap T none, ty, pos, af, gd⟩).run C.P w = .ok (.value (.map (some w.heap.size))) (w.alloc (.map #[] 0)) := by
    simp only [execOp, Option.map_none, Instr.makeMap, Sem.run_bind, Sem.run_pure, Result.andThen_ok, run_newObj]
    rfl
  rw [hrun, Oper.upon_value]
  refine S.allocO hgd (by simpa [Nat.blt_eq] using hgK) hN' (fun _ _ h => by simpa only [zN] using h) (fun G' e _ hg hle hni => ?_) (fun G' e => ?_) (fun k hk => hF k hk)
  · simp only [Holds]
    refine ⟨⟨.inl (by rw [e]; exact S.size), by rw [e]; simp⟩, ⟨#[], by rw [e]; exact alloc_new, fun i h => by simp at h, by simp [zx], by simp [zx]⟩, fun o => ?_⟩
    rw [e]; exact hni o
  · exact ⟨[.map (some w.heap.size)], by simp [RepS, e], by simp [mkS, SV.isAgg]⟩
theorem repVs_set {w : World} {I : Nat → Nat → Prop} : ∀ {xs : List AV} {vs : List Value} {i : Nat} {y : AV} {v : Value}, zx w I xs vs → Rep w I y v → zx w I (xs.set i y) (vs.set i v)
  | [], vs, i, y, v, h, _ => by
    simp only [zx] at h; subst h; simp [zx]
  | x :: xs, vs, 0, y, v, h, k => by
    simp only [zx] at h
    obtain ⟨c, r, rfl, h1, h2⟩ := h
    obtain ⟨c', k1, k2⟩ := k
    simp only [List.set_cons_zero, zx]
    exact ⟨c', r, by rw [k2], k1, h2⟩
  | x :: xs, vs, i + 1, y, v, h, k => by
    simp only [zx] at h
    obtain ⟨c, r, rfl, h1, h2⟩ := h
    simp only [List.set_cons_succ, zx]
    exact ⟨c, _, rfl, h1, repVs_set h2 k⟩
theorem s_mapUpdate {g : Nat} {kt vt : TypeId} {l : List ByteArray} {vs : List AV} {s : ByteArray} {v : AV} (hx : opS A x = .mref g) (hg : A g = .mpr (strs l) vs) (hy : opV A y = some (.v (.string s))) (hz : opV A z = some v)
    (hT : C.P.underlying T = some (.map kt vt)) (hk : C.P.underlying kt = some .string) :
    zW C ⟨none, .mapUpdate T x y z, ty, pos, af, gd⟩ (g :: (opR x ++ (opR y ++ opR z))) [] A [(g, .mpr (strs (mputK l s)) (mputV l vs s v))] := by
  intro A' a w hR hF ⟨G, S⟩
  have hgA : A' g = .mpr (strs l) vs := (hR g List.mem_cons_self).trans hg
  obtain ⟨c, hc1, hc2⟩ := S.opS ((zz (fun k hk => hR k (List.mem_cons_of_mem _ (List.mem_append_left _ hk)))).trans hx) rfl
  simp only [RepS] at hc1
  have hev : a.eval x = .map (some (G.blk g)) := by rw [hc2, hc1]; rfl
  rw [← zt (fun k hk => hR k (List.mem_cons_of_mem _ (List.mem_append_right _ (List.mem_append_left _ hk))))] at hy
  rw [← zt (fun k hk => hR k (List.mem_cons_of_mem _ (List.mem_append_right _ (List.mem_append_right _ hk))))] at hz
  have hys := xH (S.opV hy)
  have hzv := S.opV hz
  have hb := S.holds g
  rw [hgA] at hb
  simp only [Holds] at hb
  obtain ⟨how, ⟨es, h1, h2, h3, h4⟩, hni⟩ := hb
  have hkeys : es.toList.map (·.key) = l.map Value.string := repVs_strs h3
  have hlen : es.size = l.length := by have := congrArg List.length hkeys; simpa using this
  have hfind := run_findKey (P := C.P) (s := s) hk hkeys w
  have hobj := run_getMap (P := C.P) h1
  unfold Oper.wp
  cases hm : x9 l s 0 with
  | some i =>
    have hi := mfind_lt hm
    have hie : i < es.size := by omega
    have hkey : es[i].key = .string s := by
      have hk2 : (es.toList.map (·.key))[i]? = (l.map Value.string)[i]? := by rw [hkeys]
      have hsl : l[i]? = some s := by
        have := mfind_get hm
        simpa using this
      simp only [List.getElem?_map, hsl, Option.map_some] at hk2
      rw [Array.getElem?_toList, Array.getElem?_eq_getElem hie] at hk2
      simpa using hk2
    have hrun : (execOp a.eval ⟨none, .mapUpdate T x y z, ty, pos, af, gd⟩).run C.P w = .ok .skip (zr w (G.blk g) (.map (es.modify i fun e => { e with key := .string s, val := a.eval z }) es.size)) := by
      have e1 : (es[i]?).map (·.key) = some (.string s) := by rw [Array.getElem?_eq_getElem hie]; simp [hkey]
      have e2 : (es.toList[i]?).map (fun e => (i, e.val)) = some (i, es[i].val) := by rw [Array.getElem?_toList, Array.getElem?_eq_getElem hie]; rfl
      have e3 : Instr.sameBits 10000 (.string s) (.string s) = true := by simp [Instr.sameBits, ba_beq]
      simp only [execOp, Instr.mapUpdate, Sem.run_bind, zK hT, Result.andThen_ok, hev, hobj, hys, run_checkKey hk, hfind, hm, Option.bind_some, e2, e1, Option.getD_some, Instr.keyThatStays, e3, if_true, Sem.run_pure, run_setMap h1]
    rw [hrun, Oper.upon_skip]
    have hmp : mputK l s = l ∧ mputV l vs s v = vs.set i v := by unfold mputK mputV; rw [hm]; exact ⟨rfl, rfl⟩
    rw [hmp.1, hmp.2]
    refine S.turnO how hni (by rw [hgA]; simp [zN]) (fun b h => by simpa only [zN] using h) fun hle => ?_
    simp only [Holds]
    refine ⟨⟨how.1, by rw [zs]; exact how.2⟩, ⟨es.modify i fun e => { e with key := .string s, val := a.eval z }, by rw [xD how.2]; simp, fun j hj => ?_, ?_, ?_⟩, hni⟩
    · simp only [Array.getElem_modify]
      split
      · exact h2 j (by simpa using hj)
      · exact h2 j (by simpa using hj)
    · have : ((es.modify i fun e => { e with key := .string s, val := a.eval z }).toList.map (·.key)) = es.toList.map (·.key) := by
        refine List.ext_getElem (by simp) fun j h5 h6 => ?_
        simp only [List.getElem_map, Array.getElem_toList, Array.getElem_modify]
        split
        · rename_i hij; subst hij; rw [hkey]
        · rfl
      rw [this]; exact zx.mono hle _ _ h3
    · have : ((es.modify i fun e => { e with key := .string s, val := a.eval z }).toList.map (·.val)) = (es.toList.map (·.val)).set i (a.eval z) := by
        refine List.ext_getElem (by simp) fun j h5 h6 => ?_
        simp only [List.getElem_map, Array.getElem_toList, Array.getElem_modify, List.getElem_set]
        split <;> rfl
      rw [this]; exact repVs_set (zx.mono hle _ _ h4) (hzv.mono hle)
  | none =>
    have hrun : (execOp a.eval ⟨none, .mapUpdate T x y z, ty, pos, af, gd⟩).run C.P w = .ok .skip (zr w (G.blk g) (.map (es.push { key := .string s, val := a.eval z, born := es.size }) (es.size + 1))) := by
      simp only [execOp, Instr.mapUpdate, Sem.run_bind, zK hT, Result.andThen_ok, hev, hobj, hys, run_checkKey hk, hfind, hm, Option.bind_none, Sem.run_pure, run_setMap h1]
    rw [hrun, Oper.upon_skip]
    have hmp : mputK l s = l ++ [s] ∧ mputV l vs s v = vs ++ [v] := by unfold mputK mputV; rw [hm]; exact ⟨rfl, rfl⟩
    rw [hmp.1, hmp.2]
    refine S.turnO how hni (by rw [hgA]; simp [zN]) (fun b h => by simpa only [zN] using h) fun hle => ?_
    simp only [Holds]
    refine ⟨⟨how.1, by rw [zs]; exact how.2⟩, ⟨es.push { key := .string s, val := a.eval z, born := es.size }, by rw [xD how.2]; simp, fun j hj => ?_, ?_, ?_⟩, hni⟩
    · simp only [Array.getElem_push]
      split
      · rename_i hj2; exact h2 j hj2
      · rename_i hj2; simp at hj; show es.size = j; omega
    · have e : strs (l ++ [s]) = strs l ++ [.v (.string s)] := by simp [strs]
      rw [e]
      simp only [Array.toList_push, List.map_append, List.map_cons, List.map_nil]
      exact x3 (zx.mono hle _ _ h3) (by simp only [zx]; exact ⟨[.string s], [], by simp [mkV, AV.isAgg], by simp [RepC, Value.cells, Al.plain], rfl⟩)
    · simp only [Array.toList_push, List.map_append, List.map_cons, List.map_nil]
      obtain ⟨cz, k1, k2⟩ := hzv.mono hle
      exact x3 (zx.mono hle _ _ h4) (by simp only [zx]; exact ⟨cz, [], by rw [k2], k1, rfl⟩)
end
end Go.Al
namespace Go.Al
open Go.RowKit
def units (n : Nat) : List AV := List.replicate n (.agg [])
@[simp] theorem units_length (n : Nat) : (units n).length = n := List.length_replicate
section
variable {C : Cx} {A : Nat → SV} {d : Nat} {ty : TypeId} {pos : String} {af : Array Edge} {gd : Option (Nat × Bool)} {x y z : Operand} {T T' : TypeId}
end
end Go.Al
namespace Go.Al
open Go.RowKit
structure SortC (P : Program) (Γ : List (Nat × AV)) (f : FuncId) : Prop where
  call : wr P f = true
  sorts : ∀ (blk cap : Nat) (ss : List (List UInt8)) (w : World), Sort.Holds Proofs.encStr w blk 0 ss.toArray → blk < w.heap.size → ss.length < 4611686018427387904 →
    Calls P f #[.slice (some ⟨blk, 0, none⟩) ss.length cap] w fun e w' =>
      e = .returned (.tuple #[]) ∧ ∃ n os, w' = Sort.grow (Sort.putRow Proofs.encStr (Sort.ahead w n) blk 0 (ss.mergeSort fun x y => decide (x ≤ y)).toArray) os
  empty : zi P Γ f [.v (.slice none 0 0)] []
section
variable {C : Cx} {A : Nat → SV} {d : Nat} {ty : TypeId} {pos : String} {af : Array Edge} {gd : Option (Nat × Bool)} {x y z : Operand} {T T' : TypeId}
end
end Go.Al
namespace Go.Proofs
open Go Go.Al
end Go.Proofs
namespace Go.Al
open Go.RowKit
section
variable {C : Cx} {d : Nat} {ty : TypeId} {pos : String} {af : Array Edge} {x : Operand}
end
end Go.Al
namespace Go.Al
section
variable {C : Cx} {A : Nat → SV} {d : Nat} {ty : TypeId} {pos : String} {af : Array Edge} {gd : Option (Nat × Bool)} {x : Operand}
end
end Go.Al
namespace Go.Proofs
open Go Go.Al
theorem sameVs_ne {a b : List GV} (h : a ≠ b) : sameVs a b = false := by cases hs : sameVs a b; rfl; exact absurd ((xe _ _).1 hs) h
theorem sameA_ne {a b : GA} (h : a ≠ b) : sameA a b = false := by cases hs : sameA a b; rfl; exact absurd ((wJ _ _).1 hs) h
theorem sameA_refl (a : GA) : sameA a a = true := (wJ a a).2 rfl
theorem sameVs_refl (a : List GV) : sameVs a a = true := (xe a a).2 rfl
end Go.Proofs
namespace Go.Proofs
open Go Go.Al
set_option maxRecDepth 10000
set_option maxHeartbeats 1000000 in
theorem eqfV_c (a b : List GV) (fn : FuncId) (hl : a.length ≤ 1000000000) (hf : ∀ x ∈ a, ∀ y : GV, zi Tryd.prog Γ0 fn ([] ++ [x.av, y.av] ++ []) [bv (sameV x y)]) : zi Tryd.prog Γ0 127 [(.sl 6 (a.map avV)), (.sl 6 (b.map avV)), .fn (.func fn) [] []] [bv (sameVs a b)] := by
  refine zO Tryd.func127 rfl Tryd.ntmps127 (by kernel_rfl) rfl fun w0 I0 G0 => ?_
  refine zD <| zB <| g_u (zE rfl rfl) <| zG <| zA <| zD <| zD <| zB <| g_u (zC rfl rfl) <| g_u (yB rfl rfl Tryd.underlying69) <| g_u (zC rfl rfl) <| g_u (yB rfl rfl Tryd.underlying69) <| g_u (ws rfl rfl rfl) <| zG <| zA ?_
  refine zT rfl (fun hb1 => ?_) (fun hb1 => ?_)
  · have q : ¬ a.length = b.length := by have e := bne_iff_ne.1 hb1; simp only [List.length_map] at e; omega
    refine zD <| zB <| g_u (zE rfl rfl) <| zG <| zA <| zM <| zV ?_
    exact ⟨⟨(rfl : toAV (Al.look _ _) = some _).trans (congrArg some (by (exact congrArg bv (by first | exact (sameVs_ne (fun e => q (by rw [e]))).symm | exact ((xe _ _).2 (yt v0 el (fun j hj => h2 j (by omega)))).symm)))), rfl⟩, trivial⟩
  · have el : a.length = b.length := by have e := qd.1 hb1; simp only [List.length_map] at e; omega
    refine za <| zA <| zD <| zD <| zB <| g_u (zC rfl rfl) <| g_u (yB rfl rfl Tryd.underlying69) <| g_u (zC rfl rfl) <| zG <| zA <| zQ ?_
    refine yA (fun i : Nat => [(1, .imm (.sl 6 (b.map avV))), (2, .imm (.fn (.func fn) [] [])), (15, .imm (.sl 6 (a.map avV))), (16, .imm (iv (a.length : Int))), (17, .imm (iv (i : Int)))]) (fun i => i ≤ a.length ∧ ∀ j, j < i → nth a j v0 = nth b j v0) (fun i => a.length - i) (0) ?_ ⟨rfl, rfl, rfl, zX rfl (by rw [List.length_map]), rfl, trivial⟩ ?_
    · exact ⟨Nat.zero_le _, fun j h => absurd h (Nat.not_lt_zero _)⟩
    · rintro i ⟨h1, h2⟩; (try dsimp only at h1 h2)
      refine zD <| zB <| g_u (xS rfl rfl rfl) <| zG <| zA <| zD ?_
      refine zT rfl (fun hb2 => ?_) (fun hb2 => ?_)
      · have hi : i < a.length := by have := of_decide_eq_true hb2; (try simp only [List.length_map] at this); omega
        have hib : i < b.length := by omega
        refine za <| zA <| zD <| zQ <| zD <| zB <| g_u (zC rfl rfl) ?_
        refine g_u (zf rfl rfl rfl Tryd.underlying69 tS71 (by omega) (ixV hi)) ?_
        refine g_u (zk rfl rfl tA71 tS71 rfl rfl) <| g_uG (zg 1008 rfl rfl rfl tZ71) rfl <| g_u (zE rfl rfl) <| g_u (zL rfl rfl rfl tS71 rfl rfl) <| zG <| zA <| zD <| zB <| g_u (zC rfl rfl) <| g_u (zC rfl rfl) ?_
        refine g_u (zf rfl rfl rfl Tryd.underlying69 tS71 (by omega) (ixV hib)) ?_
        refine g_u (zk rfl rfl tA71 tS71 rfl rfl) <| g_uG (zg 1009 rfl rfl rfl tZ71) rfl <| g_u (zL rfl rfl rfl tS71 rfl rfl) <| zG <| zA <| zD <| zB <| g_u (zC rfl rfl) <| g_u (zn rfl rfl rfl tA71 tS71 rfl rfl) <| g_u (zn rfl rfl rfl tA71 tS71 rfl rfl) <| g_u (xF (hf _ (nthV_mem hi) _) rfl rfl rfl) <| g_u (wv rfl rfl) <| zG <| zA ?_
        refine zT rfl (fun hb3 => ?_) (fun hb3 => ?_)
        · have q : ¬ nthV a i = nthV b i := fun h => by have e := hb3; rw [h, sameV_refl] at e; cases e
          refine zD <| zB <| g_u (zE rfl rfl) <| zG <| zA <| zM <| z7 <| zV <| zV <| z7 <| zV ?_
          exact ⟨⟨(rfl : toAV (Al.look _ _) = some _).trans (congrArg some (by (exact congrArg bv (by first | exact (sameVs_ne (fun e => q (by rw [e]))).symm | exact ((xe _ _).2 (yt v0 el (fun j hj => h2 j (by omega)))).symm)))), rfl⟩, trivial⟩
        · have ev : nthV a i = nthV b i := (xh _ _).1 (by have e := hb3; simpa using e)
          refine za <| zU <| zA <| zB <| g_u (yZ rfl rfl rfl) <| g_u (zC rfl rfl) <| zG <| zA ?_
          refine ⟨i + 1, ⟨hi, fun j hj => by rcases Nat.lt_or_ge j i with h | h; exact h2 j h; rw [show j = i by omega]; exact ev⟩, ⟨rfl, rfl, rfl, rfl, zX rfl (by rw [zj (by omega) (by omega)]; rfl), trivial⟩, by (try dsimp only); omega⟩
      · have hin : i = a.length := by have := of_decide_eq_false hb2; (try simp only [List.length_map] at this); omega
        refine yM <| ze <| ze <| z8 <| zA <| zD <| zB <| g_u (zE rfl rfl) <| zG <| zA <| zM ?_
        exact ⟨⟨(rfl : toAV (Al.look _ _) = some _).trans (congrArg some (by (exact congrArg bv (by first | exact (sameVs_ne (fun e => q (by rw [e]))).symm | exact ((xe _ _).2 (yt v0 el (fun j hj => h2 j (by omega)))).symm)))), rfl⟩, trivial⟩
set_option maxHeartbeats 1000000 in
theorem eqfA_c (a b : List GA) (fn : FuncId) (hl : a.length ≤ 1000000000) (hf : ∀ x ∈ a, ∀ y : GA, zi Tryd.prog Γ0 fn ([] ++ [x.av, y.av] ++ []) [bv (sameA x y)]) : zi Tryd.prog Γ0 114 [(.sl 7 (a.map avA)), (.sl 7 (b.map avA)), .fn (.func fn) [] []] [bv (wL a b)] := by
  refine zO Tryd.func114 rfl Tryd.ntmps114 (by kernel_rfl) rfl fun w0 I0 G0 => ?_
  refine zD <| zB <| g_u (zE rfl rfl) <| zG <| zA <| zD <| zD <| zB <| g_u (zC rfl rfl) <| g_u (yB rfl rfl Tryd.underlying30) <| g_u (zC rfl rfl) <| g_u (yB rfl rfl Tryd.underlying30) <| g_u (ws rfl rfl rfl) <| zG <| zA ?_
  refine zT rfl (fun hb1 => ?_) (fun hb1 => ?_)
  · have q : ¬ a.length = b.length := by have e := bne_iff_ne.1 hb1; simp only [List.length_map] at e; omega
    refine zD <| zB <| g_u (zE rfl rfl) <| zG <| zA <| zM <| zV ?_
    exact ⟨⟨(rfl : toAV (Al.look _ _) = some _).trans (congrArg some (by (exact congrArg bv (by first | exact (sameAs_ne (fun e => q (by rw [e]))).symm | exact ((yN _ _).2 (yt a0 el (fun j hj => h2 j (by omega)))).symm)))), rfl⟩, trivial⟩
  · have el : a.length = b.length := by have e := qd.1 hb1; simp only [List.length_map] at e; omega
    refine za <| zA <| zD <| zD <| zB <| g_u (zC rfl rfl) <| g_u (yB rfl rfl Tryd.underlying30) <| g_u (zC rfl rfl) <| zG <| zA <| zQ ?_
    refine yA (fun i : Nat => [(1, .imm (.sl 7 (b.map avA))), (2, .imm (.fn (.func fn) [] [])), (15, .imm (.sl 7 (a.map avA))), (16, .imm (iv (a.length : Int))), (17, .imm (iv (i : Int)))]) (fun i => i ≤ a.length ∧ ∀ j, j < i → nth a j a0 = nth b j a0) (fun i => a.length - i) (0) ?_ ⟨rfl, rfl, rfl, zX rfl (by rw [List.length_map]), rfl, trivial⟩ ?_
    · exact ⟨Nat.zero_le _, fun j h => absurd h (Nat.not_lt_zero _)⟩
    · rintro i ⟨h1, h2⟩; (try dsimp only at h1 h2)
      refine zD <| zB <| g_u (xS rfl rfl rfl) <| zG <| zA <| zD ?_
      refine zT rfl (fun hb2 => ?_) (fun hb2 => ?_)
      · have hi : i < a.length := by have := of_decide_eq_true hb2; (try simp only [List.length_map] at this); omega
        have hib : i < b.length := by omega
        refine za <| zA <| zD <| zQ <| zD <| zB <| g_u (zC rfl rfl) ?_
        refine g_u (zf rfl rfl rfl Tryd.underlying30 tS73 (by omega) (ixA hi)) ?_
        refine g_u (zk rfl rfl tA73 tS73 rfl rfl) <| g_uG (zg 1008 rfl rfl rfl tZ73) rfl <| g_u (zE rfl rfl) <| g_u (zL rfl rfl rfl tS73 rfl rfl) <| zG <| zA <| zD <| zB <| g_u (zC rfl rfl) <| g_u (zC rfl rfl) ?_
        refine g_u (zf rfl rfl rfl Tryd.underlying30 tS73 (by omega) (ixA hib)) ?_
        refine g_u (zk rfl rfl tA73 tS73 rfl rfl) <| g_uG (zg 1009 rfl rfl rfl tZ73) rfl <| g_u (zL rfl rfl rfl tS73 rfl rfl) <| zG <| zA <| zD <| zB <| g_u (zC rfl rfl) <| g_u (zn rfl rfl rfl tA73 tS73 rfl rfl) <| g_u (zn rfl rfl rfl tA73 tS73 rfl rfl) <| g_u (xF (hf _ (nthA_mem hi) _) rfl rfl rfl) <| g_u (wv rfl rfl) <| zG <| zA ?_
        refine zT rfl (fun hb3 => ?_) (fun hb3 => ?_)
        · have q : ¬ nthA a i = nthA b i := fun h => by have e := hb3; rw [h, sameA_refl] at e; cases e
          refine zD <| zB <| g_u (zE rfl rfl) <| zG <| zA <| zM <| z7 <| zV <| zV <| z7 <| zV ?_
          exact ⟨⟨(rfl : toAV (Al.look _ _) = some _).trans (congrArg some (by (exact congrArg bv (by first | exact (sameAs_ne (fun e => q (by rw [e]))).symm | exact ((yN _ _).2 (yt a0 el (fun j hj => h2 j (by omega)))).symm)))), rfl⟩, trivial⟩
        · have ev : nthA a i = nthA b i := (wJ _ _).1 (by have e := hb3; simpa using e)
          refine za <| zU <| zA <| zB <| g_u (yZ rfl rfl rfl) <| g_u (zC rfl rfl) <| zG <| zA ?_
          refine ⟨i + 1, ⟨hi, fun j hj => by rcases Nat.lt_or_ge j i with h | h; exact h2 j h; rw [show j = i by omega]; exact ev⟩, ⟨rfl, rfl, rfl, rfl, zX rfl (by rw [zj (by omega) (by omega)]; rfl), trivial⟩, by (try dsimp only); omega⟩
      · have hin : i = a.length := by have := of_decide_eq_false hb2; (try simp only [List.length_map] at this); omega
        refine yM <| ze <| ze <| z8 <| zA <| zD <| zB <| g_u (zE rfl rfl) <| zG <| zA <| zM ?_
        exact ⟨⟨(rfl : toAV (Al.look _ _) = some _).trans (congrArg some (by (exact congrArg bv (by first | exact (sameAs_ne (fun e => q (by rw [e]))).symm | exact ((yN _ _).2 (yt a0 el (fun j hj => h2 j (by omega)))).symm)))), rfl⟩, trivial⟩
theorem psameA_st (a b : GA) (ih : zi Tryd.prog Γ0 116 [a.val.av, b.val.av] [bv (sameV a.val b.val)]) : zi Tryd.prog Γ0 115 [a.av, b.av] [bv (sameA a b)] := by
  refine zO Tryd.func115 rfl Tryd.ntmps115 (by kernel_rfl) rfl fun w0 I0 G0 => ?_
  refine zD <| zB <| g_uG (zd 1002 rfl rfl rfl rfl) rfl <| g_uG (zd 1003 rfl rfl rfl rfl) rfl <| g_u (zE rfl rfl) <| zG <| zA <| zD <| zB <| g_u (zF rfl rfl fa73_0 rfl) <| g_u (zH rfl rfl rfl tA9 tS9 rfl rfl) <| g_u (zF rfl rfl fa73_0 rfl) <| g_u (zH rfl rfl rfl tA9 tS9 rfl rfl) <| g_u (s_eqS rfl rfl rfl) <| g_u (zC rfl rfl) <| yP (t := 10) rfl ?_
  rintro (hb1 | hb1)
  · rw [hb1]
    have ek : a.key = b.key := by have e := hb1; rw [yY] at e; exact of_decide_eq_true e
    refine zZ rfl rfl (zF rfl rfl fa73_1 rfl) <| zZ rfl rfl (zH rfl rfl rfl tA71 tS71 rfl rfl) <| zZ rfl rfl (zF rfl rfl fa73_1 rfl) <| zZ rfl rfl (zH rfl rfl rfl tA71 tS71 rfl rfl) <| zZ rfl rfl (zS (ih) rfl rfl) <| g_u (zR rfl rfl rfl) <| g_u (zE rfl rfl) <| zG <| zA <| zM ?_
    exact ⟨⟨(rfl : toAV (Al.look _ _) = some _).trans (congrArg some (by (exact congrArg bv (by first | exact (sameA_ne (fun e => q (by rw [e]))).symm | (rw [Bool.eq_iff_iff, xh, wJ]; exact ⟨fun h => GA.ext' ek h, fun h => by rw [h]⟩))))), rfl⟩, trivial⟩
  · rw [hb1]
    have q : ¬ a.key = b.key := by have e := hb1; rw [yY] at e; exact of_decide_eq_false e
    refine zI rfl rfl rfl <| zI rfl rfl rfl <| zI rfl rfl rfl <| zI rfl rfl rfl <| zI rfl rfl rfl <| g_u (zp rfl rfl rfl) <| g_u (zE rfl rfl) <| zG <| zA <| zM ?_
    exact ⟨⟨(rfl : toAV (Al.look _ _) = some _).trans (congrArg some (by (exact congrArg bv (by first | exact (sameA_ne (fun e => q (by rw [e]))).symm | (rw [Bool.eq_iff_iff, xh, wJ]; exact ⟨fun h => GA.ext' ek h, fun h => by rw [h]⟩))))), rfl⟩, trivial⟩
theorem psameAs_st (a b : List GA) (hl : a.length ≤ 1000000000) (ih : ∀ x ∈ a, ∀ y : GA, zi Tryd.prog Γ0 116 [x.val.av, y.val.av] [bv (sameV x.val y.val)]) : zi Tryd.prog Γ0 97 [.sl 7 (a.map avA), .sl 7 (b.map avA)] [bv (wL a b)] := by
  refine zO Tryd.func97 rfl Tryd.ntmps97 (by kernel_rfl) rfl fun w0 I0 G0 => ?_
  refine zD <| zB <| g_u (zE rfl rfl) <| zG <| zA <| zD <| zB <| g_u (zC rfl rfl) <| g_u (zC rfl rfl) ?_
  refine g_u (zS (eqfA_c a b 115 hl (fun x hx y => psameA_st x y (ih x hx y))) rfl rfl) ?_
  refine g_u (zE rfl rfl) <| zG <| zA <| zM ?_
  exact ⟨⟨(rfl : toAV (Al.look _ _) = some _).trans (congrArg some (by rfl)), rfl⟩, trivial⟩
set_option maxHeartbeats 2000000 in
theorem psameV_st (a b : GV) (ihl : zi Tryd.prog Γ0 127 [.sl 6 (a.list.map avV), .sl 6 (b.list.map avV), .fn (.func 116) [] []] [bv (sameVs a.list b.list)]) (ihm : zi Tryd.prog Γ0 97 [.sl 7 (a.map.map avA), .sl 7 (b.map.map avA)] [bv (wL a.map b.map)]) : zi Tryd.prog Γ0 116 [a.av, b.av] [bv (sameV a b)] := by
  refine zO Tryd.func116 rfl Tryd.ntmps116 (by kernel_rfl) rfl fun w0 I0 G0 => ?_
  refine zD <| zB <| g_uG (zd 1002 rfl rfl rfl rfl) rfl <| g_uG (zd 1003 rfl rfl rfl rfl) rfl <| g_u (zE rfl rfl) <| zG <| zA <| zD <| zD <| zB <| g_u (zF rfl rfl fa71_0 rfl) <| g_u (zH rfl rfl rfl tA5 tS5 rfl rfl) <| g_u (zF rfl rfl fa71_0 rfl) <| g_u (zH rfl rfl rfl tA5 tS5 rfl rfl) <| g_u (ws rfl rfl rfl) <| g_u (zC rfl rfl) <| yP (t := 10) rfl ?_
  rintro (hb1 | hb1)
  · rw [hb1]
    have q : ¬ a.kind = b.kind := bne_iff_ne.1 hb1
    refine zI rfl rfl rfl <| zI rfl rfl rfl <| zI rfl rfl rfl <| zI rfl rfl rfl <| zI rfl rfl rfl <| g_u (zR rfl rfl rfl) <| g_u (zC rfl rfl) <| zI rfl rfl rfl <| zI rfl rfl rfl <| zI rfl rfl rfl <| zI rfl rfl rfl <| zI rfl rfl rfl <| g_u (zR rfl rfl rfl) <| g_u (zC rfl rfl) <| zI rfl rfl rfl <| zI rfl rfl rfl <| zI rfl rfl rfl <| zI rfl rfl rfl <| zI rfl rfl rfl <| g_u (zR rfl rfl rfl) <| zG <| zA <| zl rfl <| zD <| zB <| g_u (zE rfl rfl) <| zG <| zA <| zM <| zV ?_
    exact ⟨⟨(rfl : toAV (Al.look _ _) = some _).trans (congrArg some (by (exact congrArg bv (by first | exact (sameV_ne (fun e => q (by rw [e]))).symm | exact w_ e1 e2 e3 e4 e5)))), rfl⟩, trivial⟩
  · rw [hb1]
    have e1 : a.kind = b.kind := qd.1 hb1
    refine zZ rfl rfl (zF rfl rfl fa71_1 rfl) <| zZ rfl rfl (zH rfl rfl rfl tA9 tS9 rfl rfl) <| zZ rfl rfl (zF rfl rfl fa71_1 rfl) <| zZ rfl rfl (zH rfl rfl rfl tA9 tS9 rfl rfl) <| zZ rfl rfl (s_neS rfl rfl rfl) <| g_u (zp rfl rfl rfl) <| g_u (zC rfl rfl) <| yP (t := 17) rfl ?_
    rintro (hb2 | hb2)
    · rw [hb2]
      have q : ¬ a.text = b.text := by have e := hb2; rw [yY] at e; simpa using e
      refine zI rfl rfl rfl <| zI rfl rfl rfl <| zI rfl rfl rfl <| zI rfl rfl rfl <| zI rfl rfl rfl <| g_u (zR rfl rfl rfl) <| g_u (zC rfl rfl) <| zI rfl rfl rfl <| zI rfl rfl rfl <| zI rfl rfl rfl <| zI rfl rfl rfl <| zI rfl rfl rfl <| g_u (zR rfl rfl rfl) <| zG <| zA <| zl rfl <| zD <| zB <| g_u (zE rfl rfl) <| zG <| zA <| zM <| zV ?_
      exact ⟨⟨(rfl : toAV (Al.look _ _) = some _).trans (congrArg some (by (exact congrArg bv (by first | exact (sameV_ne (fun e => q (by rw [e]))).symm | exact w_ e1 e2 e3 e4 e5)))), rfl⟩, trivial⟩
    · rw [hb2]
      have e2 : a.text = b.text := by have e := hb2; rw [yY] at e; simpa using e
      refine zZ rfl rfl (zF rfl rfl fa71_2 rfl) <| zZ rfl rfl (zH rfl rfl rfl tA3 tS3 rfl rfl) <| zZ rfl rfl (zF rfl rfl fa71_2 rfl) <| zZ rfl rfl (zH rfl rfl rfl tA3 tS3 rfl rfl) <| zZ rfl rfl (ws rfl rfl rfl) <| g_u (zp rfl rfl rfl) <| g_u (zC rfl rfl) <| yP (t := 24) rfl ?_
      rintro (hb3 | hb3)
      · rw [hb3]
        have q : ¬ a.num = b.num := bne_iff_ne.1 hb3
        refine zI rfl rfl rfl <| zI rfl rfl rfl <| zI rfl rfl rfl <| zI rfl rfl rfl <| zI rfl rfl rfl <| g_u (zR rfl rfl rfl) <| zG <| zA <| zl rfl <| zD <| zB <| g_u (zE rfl rfl) <| zG <| zA <| zM <| zV ?_
        exact ⟨⟨(rfl : toAV (Al.look _ _) = some _).trans (congrArg some (by (exact congrArg bv (by first | exact (sameV_ne (fun e => q (by rw [e]))).symm | exact w_ e1 e2 e3 e4 e5)))), rfl⟩, trivial⟩
      · rw [hb3]
        have e3 : a.num = b.num := qd.1 hb3
        refine zZ rfl rfl (zF rfl rfl fa71_3 rfl) <| zZ rfl rfl (zH rfl rfl rfl tA29 tS29 rfl rfl) <| zZ rfl rfl (zF rfl rfl fa71_3 rfl) <| zZ rfl rfl (zH rfl rfl rfl tA29 tS29 rfl rfl) <| zZ rfl rfl (ws rfl rfl rfl) <| g_u (zp rfl rfl rfl) <| zG <| zA ?_
        refine zT rfl (fun hb4 => ?_) (fun hb4 => ?_)
        · have q : ¬ a.bits = b.bits := bne_iff_ne.1 hb4
          refine zD <| zB <| g_u (zE rfl rfl) <| zG <| zA <| zM <| zV ?_
          exact ⟨⟨(rfl : toAV (Al.look _ _) = some _).trans (congrArg some (by (exact congrArg bv (by first | exact (sameV_ne (fun e => q (by rw [e]))).symm | exact w_ e1 e2 e3 e4 e5)))), rfl⟩, trivial⟩
        · have e4 : a.bits = b.bits := qd.1 hb4
          refine za <| zA <| zD <| zB <| g_u (zF rfl rfl fa71_4 rfl) <| g_u (zH rfl rfl rfl tA69 tS69 rfl rfl) <| g_u (zF rfl rfl fa71_4 rfl) <| g_u (zH rfl rfl rfl tA69 tS69 rfl rfl) <| g_u (zS (ihl) rfl rfl) <| g_u (zC rfl rfl) <| yP (t := 36) rfl ?_
          rintro (hb5 | hb5)
          · rw [hb5]
            have e5 : a.list = b.list := (xe _ _).1 hb5
            refine zZ rfl rfl (zF rfl rfl fa71_5 rfl) <| zZ rfl rfl (zH rfl rfl rfl tA30 tS30 rfl rfl) <| zZ rfl rfl (zF rfl rfl fa71_5 rfl) <| zZ rfl rfl (zH rfl rfl rfl tA30 tS30 rfl rfl) <| zZ rfl rfl (zS (ihm) rfl rfl) <| g_u (zR rfl rfl rfl) <| g_u (zE rfl rfl) <| zG <| zA <| zM ?_
            exact ⟨⟨(rfl : toAV (Al.look _ _) = some _).trans (congrArg some (by (exact congrArg bv (by first | exact (sameV_ne (fun e => q (by rw [e]))).symm | exact w_ e1 e2 e3 e4 e5)))), rfl⟩, trivial⟩
          · rw [hb5]
            have q : ¬ a.list = b.list := fun h => by have e := hb5; rw [h, sameVs_refl] at e; cases e
            refine zI rfl rfl rfl <| zI rfl rfl rfl <| zI rfl rfl rfl <| zI rfl rfl rfl <| zI rfl rfl rfl <| g_u (zp rfl rfl rfl) <| g_u (zE rfl rfl) <| zG <| zA <| zM ?_
            exact ⟨⟨(rfl : toAV (Al.look _ _) = some _).trans (congrArg some (by (exact congrArg bv (by first | exact (sameV_ne (fun e => q (by rw [e]))).symm | exact w_ e1 e2 e3 e4 e5)))), rfl⟩, trivial⟩
theorem psameV_c (a : GV) : a.wt ≤ 1000000000 → ∀ b : GV, zi Tryd.prog Γ0 116 [a.av, b.av] [bv (sameV a b)] := by
  refine GV.ind (P := fun a => a.wt ≤ 1000000000 → ∀ b : GV, zi Tryd.prog Γ0 116 [a.av, b.av] [bv (sameV a b)]) ?_ a
  intro a h1 h2 hw b
  have ek := a.wt_eq
  have la := yj a.map
  have lv := xZ a.list
  exact psameV_st a b (eqfV_c a.list b.list 116 (by omega) fun y hy z => h1 y hy (by have := wtVs_mem hy; omega) z) (psameAs_st a.map b.map (by omega) fun x hx y => h2 x hx (by have := xt hx; have := x.wt_eq; omega) y.val)
theorem psameAs_c (a b : List GA) (hw : wtAs a ≤ 1000000000) : zi Tryd.prog Γ0 97 [.sl 7 (a.map avA), .sl 7 (b.map avA)] [bv (wL a b)] := by
  have la := yj a
  exact psameAs_st a b (by omega) fun x hx y => psameV_c x.val (by have := xt hx; have := x.wt_eq; omega) y.val
end Go.Proofs
namespace Go.Proofs
open Go Go.Al
set_option maxRecDepth 10000
end Go.Proofs
namespace Go.Proofs
open Go Go.Al
end Go.Proofs
namespace Go.Proofs
open Go Go.Al
set_option maxRecDepth 10000
end Go.Proofs
namespace Go.Proofs
open Go Go.Al
end Go.Proofs
namespace Go.Al
section
variable {P : Program} {b : Frame} {a : Act} {k : List Item} {cs : List Frame} {w : World}
end
end Go.Al
namespace Go.Proofs
open Go Go.Al
set_option maxRecDepth 10000
set_option maxHeartbeats 4000000 in
theorem eqdE_c (a b : List GE) (fn : FuncId) (hl : a.length ≤ 1000000000) (hf : ∀ x ∈ a, ∀ y : GE, zi Tryd.prog Γ0 fn ([] ++ [x.av, y.av] ++ []) [bv (decide (x = y))]) : zi Tryd.prog Γ0 128 [(.sl 3 (a.map GE.av)), (.sl 3 (b.map GE.av)), .fn (.func fn) [] []] [bv (decide (a = b))] := by
  refine zO Tryd.func128 rfl Tryd.ntmps128 (by kernel_rfl) rfl fun w0 I0 G0 => ?_
  refine zD <| zB <| g_u (zE rfl rfl) <| zG <| zA <| zD <| zD <| zB <| g_u (zC rfl rfl) <| g_u (yB rfl rfl Tryd.underlying31) <| g_u (zC rfl rfl) <| g_u (yB rfl rfl Tryd.underlying31) <| g_u (ws rfl rfl rfl) <| zG <| zA ?_
  refine zT rfl (fun hb1 => ?_) (fun hb1 => ?_)
  · have q : ¬ a.length = b.length := by have e := bne_iff_ne.1 hb1; simp only [List.length_map] at e; omega
    refine zD <| zB <| g_u (zE rfl rfl) <| zG <| zA <| zM <| zV ?_
    exact ⟨⟨(rfl : toAV (Al.look _ _) = some _).trans (congrArg some (by (exact congrArg bv (by first | exact (decide_eq_false (fun e => q (by rw [e]))).symm | exact (decide_eq_true (yt ge0 el (fun j hj => h2 j (by omega)))).symm)))), rfl⟩, trivial⟩
  · have el : a.length = b.length := by have e := qd.1 hb1; simp only [List.length_map] at e; omega
    refine za <| zA <| zD <| zD <| zB <| g_u (zC rfl rfl) <| g_u (yB rfl rfl Tryd.underlying31) <| g_u (zC rfl rfl) <| zG <| zA <| zQ ?_
    refine yA (fun i : Nat => [(1, .imm (.sl 3 (b.map GE.av))), (2, .imm (.fn (.func fn) [] [])), (15, .imm (.sl 3 (a.map GE.av))), (16, .imm (iv (a.length : Int))), (17, .imm (iv (i : Int)))]) (fun i => i ≤ a.length ∧ ∀ j, j < i → nth a j ge0 = nth b j ge0) (fun i => a.length - i) (0) ?_ ⟨rfl, rfl, rfl, zX rfl (by rw [List.length_map]), rfl, trivial⟩ ?_
    · exact ⟨Nat.zero_le _, fun j h => absurd h (Nat.not_lt_zero _)⟩
    · rintro i ⟨h1, h2⟩; (try dsimp only at h1 h2)
      refine zD <| zB <| g_u (xS rfl rfl rfl) <| zG <| zA <| zD ?_
      refine zT rfl (fun hb2 => ?_) (fun hb2 => ?_)
      · have hi : i < a.length := by have := of_decide_eq_true hb2; (try simp only [List.length_map] at this); omega
        have hib : i < b.length := by omega
        refine za <| zA <| zD <| zQ <| zD <| zB <| g_u (zC rfl rfl) ?_
        refine g_u (zf rfl rfl rfl Tryd.underlying31 tS66 (by omega) (ixE hi)) ?_
        refine g_u (zk rfl rfl tA66 tS66 rfl rfl) <| g_uG (zg 1008 rfl rfl rfl tZ66) rfl <| g_u (zE rfl rfl) <| g_u (zL rfl rfl rfl tS66 rfl rfl) <| zG <| zA <| zD <| zB <| g_u (zC rfl rfl) <| g_u (zC rfl rfl) ?_
        refine g_u (zf rfl rfl rfl Tryd.underlying31 tS66 (by omega) (ixE hib)) ?_
        refine g_u (zk rfl rfl tA66 tS66 rfl rfl) <| g_uG (zg 1009 rfl rfl rfl tZ66) rfl <| g_u (zL rfl rfl rfl tS66 rfl rfl) <| zG <| zA <| zD <| zB <| g_u (zC rfl rfl) <| g_u (zn rfl rfl rfl tA66 tS66 rfl rfl) <| g_u (zn rfl rfl rfl tA66 tS66 rfl rfl) <| g_u (xF (hf _ (nthE_mem hi) _) rfl rfl rfl) <| g_u (wv rfl rfl) <| zG <| zA ?_
        refine zT rfl (fun hb3 => ?_) (fun hb3 => ?_)
        · have q : ¬ nthE a i = nthE b i := fun h => by have e := hb3; rw [decide_eq_true h] at e; cases e
          refine zD <| zB <| g_u (zE rfl rfl) <| zG <| zA <| zM <| z7 <| zV <| zV <| z7 <| zV ?_
          exact ⟨⟨(rfl : toAV (Al.look _ _) = some _).trans (congrArg some (by (exact congrArg bv (by first | exact (decide_eq_false (fun e => q (by rw [e]))).symm | exact (decide_eq_true (yt ge0 el (fun j hj => h2 j (by omega)))).symm)))), rfl⟩, trivial⟩
        · have ev : nthE a i = nthE b i := by have e := hb3; simpa using e
          refine za <| zU <| zA <| zB <| g_u (yZ rfl rfl rfl) <| g_u (zC rfl rfl) <| zG <| zA ?_
          refine ⟨i + 1, ⟨hi, fun j hj => by rcases Nat.lt_or_ge j i with h | h; exact h2 j h; rw [show j = i by omega]; exact ev⟩, ⟨rfl, rfl, rfl, rfl, zX rfl (by rw [zj (by omega) (by omega)]; rfl), trivial⟩, by (try dsimp only); omega⟩
      · have hin : i = a.length := by have := of_decide_eq_false hb2; (try simp only [List.length_map] at this); omega
        refine yM <| ze <| ze <| z8 <| zA <| zD <| zB <| g_u (zE rfl rfl) <| zG <| zA <| zM ?_
        exact ⟨⟨(rfl : toAV (Al.look _ _) = some _).trans (congrArg some (by (exact congrArg bv (by first | exact (decide_eq_false (fun e => q (by rw [e]))).symm | exact (decide_eq_true (yt ge0 el (fun j hj => h2 j (by omega)))).symm)))), rfl⟩, trivial⟩
set_option maxHeartbeats 4000000 in
theorem eqdL_c (a b : List GL) (fn : FuncId) (hl : a.length ≤ 1000000000) (hf : ∀ x ∈ a, ∀ y : GL, zi Tryd.prog Γ0 fn ([] ++ [x.av, y.av] ++ []) [bv (decide (x = y))]) : zi Tryd.prog Γ0 130 [(.sl 26 (a.map GL.av)), (.sl 26 (b.map GL.av)), .fn (.func fn) [] []] [bv (decide (a = b))] := by
  refine zO Tryd.func130 rfl Tryd.ntmps130 (by kernel_rfl) rfl fun w0 I0 G0 => ?_
  refine zD <| zB <| g_u (zE rfl rfl) <| zG <| zA <| zD <| zD <| zB <| g_u (zC rfl rfl) <| g_u (yB rfl rfl Tryd.underlying32) <| g_u (zC rfl rfl) <| g_u (yB rfl rfl Tryd.underlying32) <| g_u (ws rfl rfl rfl) <| zG <| zA ?_
  refine zT rfl (fun hb1 => ?_) (fun hb1 => ?_)
  · have q : ¬ a.length = b.length := by have e := bne_iff_ne.1 hb1; simp only [List.length_map] at e; omega
    refine zD <| zB <| g_u (zE rfl rfl) <| zG <| zA <| zM <| zV ?_
    exact ⟨⟨(rfl : toAV (Al.look _ _) = some _).trans (congrArg some (by (exact congrArg bv (by first | exact (decide_eq_false (fun e => q (by rw [e]))).symm | exact (decide_eq_true (yt gl0 el (fun j hj => h2 j (by omega)))).symm)))), rfl⟩, trivial⟩
  · have el : a.length = b.length := by have e := qd.1 hb1; simp only [List.length_map] at e; omega
    refine za <| zA <| zD <| zD <| zB <| g_u (zC rfl rfl) <| g_u (yB rfl rfl Tryd.underlying32) <| g_u (zC rfl rfl) <| zG <| zA <| zQ ?_
    refine yA (fun i : Nat => [(1, .imm (.sl 26 (b.map GL.av))), (2, .imm (.fn (.func fn) [] [])), (15, .imm (.sl 26 (a.map GL.av))), (16, .imm (iv (a.length : Int))), (17, .imm (iv (i : Int)))]) (fun i => i ≤ a.length ∧ ∀ j, j < i → nth a j gl0 = nth b j gl0) (fun i => a.length - i) (0) ?_ ⟨rfl, rfl, rfl, zX rfl (by rw [List.length_map]), rfl, trivial⟩ ?_
    · exact ⟨Nat.zero_le _, fun j h => absurd h (Nat.not_lt_zero _)⟩
    · rintro i ⟨h1, h2⟩; (try dsimp only at h1 h2)
      refine zD <| zB <| g_u (xS rfl rfl rfl) <| zG <| zA <| zD ?_
      refine zT rfl (fun hb2 => ?_) (fun hb2 => ?_)
      · have hi : i < a.length := by have := of_decide_eq_true hb2; (try simp only [List.length_map] at this); omega
        have hib : i < b.length := by omega
        refine za <| zA <| zD <| zQ <| zD <| zB <| g_u (zC rfl rfl) ?_
        refine g_u (zf rfl rfl rfl Tryd.underlying32 tS68 (by omega) (ixL hi)) ?_
        refine g_u (zk rfl rfl tA68 tS68 rfl (by first | exact xn (GL.width _) rfl | rfl)) ?_
        refine g_uG (zg 1008 rfl rfl rfl tZ68) rfl <| g_u (zE rfl rfl) ?_
        refine g_u (zL rfl rfl rfl tS68 (by first | exact beqW (GL.width _) | rfl) (by first | exact wl (z68_w.trans (GL.width _).symm) rfl | rfl)) ?_
        refine zG <| zA <| zD <| zB <| g_u (zC rfl rfl) <| g_u (zC rfl rfl) ?_
        refine g_u (zf rfl rfl rfl Tryd.underlying32 tS68 (by omega) (ixL hib)) ?_
        refine g_u (zk rfl rfl tA68 tS68 rfl (by first | exact xn (GL.width _) rfl | rfl)) ?_
        refine g_uG (zg 1009 rfl rfl rfl tZ68) rfl ?_
        refine g_u (zL rfl rfl rfl tS68 (by first | exact beqW (GL.width _) | rfl) (by first | exact wl (z68_w.trans (GL.width _).symm) rfl | rfl)) ?_
        refine zG <| zA <| zD <| zB <| g_u (zC rfl rfl) ?_
        refine g_u (zH rfl rfl rfl tA68 tS68 rfl (by first | exact xn (GL.width _) rfl | rfl)) ?_
        refine g_u (zH rfl rfl rfl tA68 tS68 rfl (by first | exact xn (GL.width _) rfl | rfl)) ?_
        refine g_u (xF (hf _ (nthL_mem hi) _) rfl rfl rfl) <| g_u (wv rfl rfl) <| zG <| zA ?_
        refine zT rfl (fun hb3 => ?_) (fun hb3 => ?_)
        · have q : ¬ nthL a i = nthL b i := fun h => by have e := hb3; rw [decide_eq_true h] at e; cases e
          refine zD <| zB <| g_u (zE rfl rfl) <| zG <| zA <| zM <| z7 <| zV <| zV <| z7 <| zV ?_
          exact ⟨⟨(rfl : toAV (Al.look _ _) = some _).trans (congrArg some (by (exact congrArg bv (by first | exact (decide_eq_false (fun e => q (by rw [e]))).symm | exact (decide_eq_true (yt gl0 el (fun j hj => h2 j (by omega)))).symm)))), rfl⟩, trivial⟩
        · have ev : nthL a i = nthL b i := by have e := hb3; simpa using e
          refine za <| zU <| zA <| zB <| g_u (yZ rfl rfl rfl) <| g_u (zC rfl rfl) <| zG <| zA ?_
          refine ⟨i + 1, ⟨hi, fun j hj => by rcases Nat.lt_or_ge j i with h | h; exact h2 j h; rw [show j = i by omega]; exact ev⟩, ⟨rfl, rfl, rfl, rfl, zX rfl (by rw [zj (by omega) (by omega)]; rfl), trivial⟩, by (try dsimp only); omega⟩
      · have hin : i = a.length := by have := of_decide_eq_false hb2; (try simp only [List.length_map] at this); omega
        refine yM <| ze <| ze <| z8 <| zA <| zD <| zB <| g_u (zE rfl rfl) <| zG <| zA <| zM ?_
        exact ⟨⟨(rfl : toAV (Al.look _ _) = some _).trans (congrArg some (by (exact congrArg bv (by first | exact (decide_eq_false (fun e => q (by rw [e]))).symm | exact (decide_eq_true (yt gl0 el (fun j hj => h2 j (by omega)))).symm)))), rfl⟩, trivial⟩
theorem sameE_c (a b : GE) (hw : wtAs a.attrs ≤ 1000000000) : zi Tryd.prog Γ0 129 [a.av, b.av] [bv (decide (a = b))] := by
  refine zO Tryd.func129 rfl Tryd.ntmps129 (by kernel_rfl) rfl fun w0 I0 G0 => ?_
  refine zD <| zB <| g_uG (zd 1002 rfl rfl rfl rfl) rfl <| g_uG (zd 1003 rfl rfl rfl rfl) rfl <| g_u (zE rfl rfl) <| zG <| zA <| zD <| zB <| g_u (zF rfl rfl fa66_0 rfl) <| g_u (zH rfl rfl rfl tA29 tS29 rfl rfl) <| g_u (zF rfl rfl fa66_0 rfl) <| g_u (zH rfl rfl rfl tA29 tS29 rfl rfl) <| g_u (xx rfl rfl rfl) <| g_u (zC rfl rfl) <| yP (t := 10) rfl ?_
  rintro (hb1 | hb1)
  · rw [hb1]
    have f1 : a.time = b.time := beq_iff_eq.1 hb1
    refine zZ rfl rfl (zF rfl rfl fa66_1 rfl) <| zZ rfl rfl (zH rfl rfl rfl tA9 tS9 rfl rfl) <| zZ rfl rfl (zF rfl rfl fa66_1 rfl) <| zZ rfl rfl (zH rfl rfl rfl tA9 tS9 rfl rfl) <| zZ rfl rfl (s_eqS rfl rfl rfl) <| g_u (zR rfl rfl rfl) <| g_u (zC rfl rfl) <| yP (t := 17) rfl ?_
    rintro (hb2 | hb2)
    · rw [hb2]
      have f2 : a.name = b.name := by have e := hb2; rw [yY] at e; simpa using e
      refine zZ rfl rfl (zF rfl rfl fa66_2 rfl) <| zZ rfl rfl (zH rfl rfl rfl tA30 tS30 rfl rfl) <| zZ rfl rfl (zF rfl rfl fa66_2 rfl) <| zZ rfl rfl (zH rfl rfl rfl tA30 tS30 rfl rfl) ?_
      refine zZ rfl rfl (zS (psameAs_c _ _ (by omega)) rfl rfl) ?_
      refine g_u (zR rfl rfl rfl) <| g_u (zE rfl rfl) <| zG <| zA <| zM ?_
      exact ⟨⟨(rfl : toAV (Al.look _ _) = some _).trans (congrArg some (by (exact congrArg bv (by first | exact (decide_eq_false (fun e => q (by rw [e]))).symm | (rw [Bool.eq_iff_iff, yN, decide_eq_true_iff]; exact ⟨fun h => GE.ext' f1 f2 h, fun h => by rw [h]⟩))))), rfl⟩, trivial⟩
    · rw [hb2]
      have q : ¬ a.name = b.name := by have e := hb2; rw [yY] at e; simpa using e
      refine zI rfl rfl rfl <| zI rfl rfl rfl <| zI rfl rfl rfl <| zI rfl rfl rfl <| zI rfl rfl rfl <| g_u (zp rfl rfl rfl) <| g_u (zE rfl rfl) <| zG <| zA <| zM ?_
      exact ⟨⟨(rfl : toAV (Al.look _ _) = some _).trans (congrArg some (by (exact congrArg bv (by first | exact (decide_eq_false (fun e => q (by rw [e]))).symm | (rw [Bool.eq_iff_iff, yN, decide_eq_true_iff]; exact ⟨fun h => GE.ext' f1 f2 h, fun h => by rw [h]⟩))))), rfl⟩, trivial⟩
  · rw [hb1]
    have q : ¬ a.time = b.time := qe.1 hb1
    refine zI rfl rfl rfl <| zI rfl rfl rfl <| zI rfl rfl rfl <| zI rfl rfl rfl <| zI rfl rfl rfl <| g_u (zp rfl rfl rfl) <| g_u (zC rfl rfl) <| zI rfl rfl rfl <| zI rfl rfl rfl <| zI rfl rfl rfl <| zI rfl rfl rfl <| zI rfl rfl rfl <| g_u (zp rfl rfl rfl) <| g_u (zE rfl rfl) <| zG <| zA <| zM ?_
    exact ⟨⟨(rfl : toAV (Al.look _ _) = some _).trans (congrArg some (by (exact congrArg bv (by first | exact (decide_eq_false (fun e => q (by rw [e]))).symm | (rw [Bool.eq_iff_iff, yN, decide_eq_true_iff]; exact ⟨fun h => GE.ext' f1 f2 h, fun h => by rw [h]⟩))))), rfl⟩, trivial⟩
set_option maxHeartbeats 1000000 in
theorem sameL_c (a b : GL) (hw : wtAs a.attrs ≤ 1000000000) : zi Tryd.prog Γ0 131 [a.av, b.av] [bv (decide (a = b))] := by
  refine zO Tryd.func131 rfl Tryd.ntmps131 (by kernel_rfl) rfl fun w0 I0 G0 => ?_
  refine zD <| zB <| g_uG (zd 1002 rfl rfl rfl rfl) rfl <| g_uG (zd 1003 rfl rfl rfl rfl) rfl <| g_u (zE rfl rfl) <| zG <| zA <| zD <| zB <| g_u (zF rfl rfl fa68_0 rfl) <| g_u (zH rfl rfl rfl tA26 tS26 rfl rfl) <| g_u (zF rfl rfl fa68_0 rfl) <| g_u (zH rfl rfl rfl tA26 tS26 rfl rfl) <| g_u (s_eqA rfl rfl rfl eg26 rfl rfl (eq26 _ _)) <| g_u (zC rfl rfl) <| yP (t := 10) rfl ?_
  rintro (hb1 | hb1)
  · rw [hb1]
    have g1 : a.trace = b.trace := by have e := hb1; simpa using e
    refine zZ rfl rfl (zF rfl rfl fa68_1 rfl) <| zZ rfl rfl (zH rfl rfl rfl tA28 tS28 rfl rfl) <| zZ rfl rfl (zF rfl rfl fa68_1 rfl) <| zZ rfl rfl (zH rfl rfl rfl tA28 tS28 rfl rfl) <| zZ rfl rfl (s_eqA rfl rfl rfl eg28 rfl rfl (eq28 _ _)) <| g_u (zR rfl rfl rfl) <| g_u (zC rfl rfl) <| yP (t := 17) rfl ?_
    rintro (hb2 | hb2)
    · rw [hb2]
      have g2 : a.span = b.span := by have e := hb2; simpa using e
      refine zZ rfl rfl (zF rfl rfl fa68_2 rfl) <| zZ rfl rfl (zH rfl rfl rfl tA9 tS9 rfl rfl) <| zZ rfl rfl (zF rfl rfl fa68_2 rfl) <| zZ rfl rfl (zH rfl rfl rfl tA9 tS9 rfl rfl) <| zZ rfl rfl (s_eqS rfl rfl rfl) <| g_u (zR rfl rfl rfl) <| g_u (zC rfl rfl) <| yP (t := 24) rfl ?_
      rintro (hb3 | hb3)
      · rw [hb3]
        have g3 : a.state = b.state := by have e := hb3; rw [yY] at e; simpa using e
        refine zZ rfl rfl (zF rfl rfl fa68_3 rfl) <| zZ rfl rfl (zH rfl rfl rfl tA30 tS30 rfl rfl) <| zZ rfl rfl (zF rfl rfl fa68_3 rfl) <| zZ rfl rfl (zH rfl rfl rfl tA30 tS30 rfl rfl) ?_
        refine zZ rfl rfl (zS (psameAs_c _ _ (by omega)) rfl rfl) ?_
        refine g_u (zR rfl rfl rfl) <| g_u (zE rfl rfl) <| zG <| zA <| zM ?_
        exact ⟨⟨(rfl : toAV (Al.look _ _) = some _).trans (congrArg some (by (exact congrArg bv (by first | exact (decide_eq_false (fun e => q (by rw [e]))).symm | (rw [Bool.eq_iff_iff, yN, decide_eq_true_iff]; exact ⟨fun h => GL.ext' g1 g2 g3 h, fun h => by rw [h]⟩))))), rfl⟩, trivial⟩
      · rw [hb3]
        have q : ¬ a.state = b.state := by have e := hb3; rw [yY] at e; simpa using e
        refine zI rfl rfl rfl <| zI rfl rfl rfl <| zI rfl rfl rfl <| zI rfl rfl rfl <| zI rfl rfl rfl <| g_u (zp rfl rfl rfl) <| g_u (zE rfl rfl) <| zG <| zA <| zM ?_
        exact ⟨⟨(rfl : toAV (Al.look _ _) = some _).trans (congrArg some (by (exact congrArg bv (by first | exact (decide_eq_false (fun e => q (by rw [e]))).symm | (rw [Bool.eq_iff_iff, yN, decide_eq_true_iff]; exact ⟨fun h => GL.ext' g1 g2 g3 h, fun h => by rw [h]⟩))))), rfl⟩, trivial⟩
    · rw [hb2]
      have q : ¬ a.span = b.span := by have e := hb2; simpa using e
      refine zI rfl rfl rfl <| zI rfl rfl rfl <| zI rfl rfl rfl <| zI rfl rfl rfl <| zI rfl rfl rfl <| g_u (zp rfl rfl rfl) <| g_u (zC rfl rfl) <| zI rfl rfl rfl <| zI rfl rfl rfl <| zI rfl rfl rfl <| zI rfl rfl rfl <| zI rfl rfl rfl <| g_u (zp rfl rfl rfl) <| g_u (zE rfl rfl) <| zG <| zA <| zM ?_
      exact ⟨⟨(rfl : toAV (Al.look _ _) = some _).trans (congrArg some (by (exact congrArg bv (by first | exact (decide_eq_false (fun e => q (by rw [e]))).symm | (rw [Bool.eq_iff_iff, yN, decide_eq_true_iff]; exact ⟨fun h => GL.ext' g1 g2 g3 h, fun h => by rw [h]⟩))))), rfl⟩, trivial⟩
  · rw [hb1]
    have q : ¬ a.trace = b.trace := by have e := hb1; simpa using e
    refine zI rfl rfl rfl <| zI rfl rfl rfl <| zI rfl rfl rfl <| zI rfl rfl rfl <| zI rfl rfl rfl <| g_u (zp rfl rfl rfl) <| g_u (zC rfl rfl) <| zI rfl rfl rfl <| zI rfl rfl rfl <| zI rfl rfl rfl <| zI rfl rfl rfl <| zI rfl rfl rfl <| g_u (zp rfl rfl rfl) <| g_u (zC rfl rfl) <| zI rfl rfl rfl <| zI rfl rfl rfl <| zI rfl rfl rfl <| zI rfl rfl rfl <| zI rfl rfl rfl <| g_u (zp rfl rfl rfl) <| g_u (zE rfl rfl) <| zG <| zA <| zM ?_
    exact ⟨⟨(rfl : toAV (Al.look _ _) = some _).trans (congrArg some (by (exact congrArg bv (by first | exact (decide_eq_false (fun e => q (by rw [e]))).symm | (rw [Bool.eq_iff_iff, yN, decide_eq_true_iff]; exact ⟨fun h => GL.ext' g1 g2 g3 h, fun h => by rw [h]⟩))))), rfl⟩, trivial⟩
set_option maxHeartbeats 8000000 in
theorem psameS_c (a b : GSpan) (hw : a.wt ≤ 1000000000) : zi Tryd.prog Γ0 118 [a.av, b.av] [bv (decide (a = b))] := by
  have qw : a.wt = 1 + a.state.size + a.name.size + a.note.size + wtAs a.attrs + zv GE.wt a.events + zv GL.wt a.links := rfl
  have ql := ya GE.wt (fun e => by unfold GE.wt; omega) a.events
  have qm := ya GL.wt (fun e => by unfold GL.wt; omega) a.links
  refine zO Tryd.func118 rfl Tryd.ntmps118 (by kernel_rfl) rfl fun w0 I0 G0 => ?_
  refine zD <| zB <| g_uG (zd 1002 rfl rfl rfl rfl) rfl <| g_uG (zd 1003 rfl rfl rfl rfl) rfl <| g_u (zE rfl rfl) <| zG <| zA <| zD <| zB <| g_u (zF rfl rfl fa36_0 rfl) <| g_u (zH rfl rfl rfl tA26 tS26 rfl rfl) <| g_u (zF rfl rfl fa36_0 rfl) <| g_u (zH rfl rfl rfl tA26 tS26 rfl rfl) <| g_u (s_eqA rfl rfl rfl eg26 rfl rfl (eq26 _ _)) <| g_u (zC rfl rfl) <| yP (t := 11) rfl ?_
  rintro (hb1 | hb1)
  · rw [hb1]
    have e0 : a.trace = b.trace := by have e := hb1; simpa using e
    refine zZ rfl rfl (zF rfl rfl fa36_1 rfl) <| zZ rfl rfl (zH rfl rfl rfl tA28 tS28 rfl rfl) <| zZ rfl rfl (zF rfl rfl fa36_1 rfl) <| zZ rfl rfl (zH rfl rfl rfl tA28 tS28 rfl rfl) <| zZ rfl rfl (s_eqA rfl rfl rfl eg28 rfl rfl (eq28 _ _)) <| g_u (zR rfl rfl rfl) <| g_u (zC rfl rfl) <| yP (t := 18) rfl ?_
    rintro (hb2 | hb2)
    · rw [hb2]
      have e1 : a.id = b.id := by have e := hb2; simpa using e
      refine zZ rfl rfl (zF rfl rfl fa36_2 rfl) <| zZ rfl rfl (zH rfl rfl rfl tA28 tS28 rfl rfl) <| zZ rfl rfl (zF rfl rfl fa36_2 rfl) <| zZ rfl rfl (zH rfl rfl rfl tA28 tS28 rfl rfl) <| zZ rfl rfl (s_eqA rfl rfl rfl eg28 rfl rfl (eq28 _ _)) <| g_u (zR rfl rfl rfl) <| g_u (zC rfl rfl) <| yP (t := 25) rfl ?_
      rintro (hb3 | hb3)
      · rw [hb3]
        have e2 : a.parent = b.parent := by have e := hb3; simpa using e
        refine zZ rfl rfl (zF rfl rfl fa36_3 rfl) <| zZ rfl rfl (zH rfl rfl rfl tA9 tS9 rfl rfl) <| zZ rfl rfl (zF rfl rfl fa36_3 rfl) <| zZ rfl rfl (zH rfl rfl rfl tA9 tS9 rfl rfl) <| zZ rfl rfl (s_eqS rfl rfl rfl) <| g_u (zR rfl rfl rfl) <| g_u (zC rfl rfl) <| yP (t := 32) rfl ?_
        rintro (hb4 | hb4)
        · rw [hb4]
          have e3 : a.state = b.state := by have e := hb4; rw [yY] at e; simpa using e
          refine zZ rfl rfl (zF rfl rfl fa36_4 rfl) <| zZ rfl rfl (zH rfl rfl rfl tA9 tS9 rfl rfl) <| zZ rfl rfl (zF rfl rfl fa36_4 rfl) <| zZ rfl rfl (zH rfl rfl rfl tA9 tS9 rfl rfl) <| zZ rfl rfl (s_eqS rfl rfl rfl) <| g_u (zR rfl rfl rfl) <| g_u (zE rfl rfl) <| zG <| zA <| zD <| zD <| zB <| g_u (zC rfl rfl) <| g_u (wv rfl rfl) <| g_u (zC rfl rfl) <| yP (t := 41) rfl ?_
          rintro (hb5 | hb5)
          · rw [hb5]
            have q : ¬ a.name = b.name := by have e := hb5; rw [yY] at e; simpa using e
            refine zI rfl rfl rfl <| zI rfl rfl rfl <| zI rfl rfl rfl <| zI rfl rfl rfl <| zI rfl rfl rfl <| g_u (zR rfl rfl rfl) <| g_u (zC rfl rfl) <| zI rfl rfl rfl <| zI rfl rfl rfl <| zI rfl rfl rfl <| zI rfl rfl rfl <| zI rfl rfl rfl <| g_u (zR rfl rfl rfl) <| g_u (zC rfl rfl) <| zI rfl rfl rfl <| zI rfl rfl rfl <| zI rfl rfl rfl <| zI rfl rfl rfl <| zI rfl rfl rfl <| g_u (zR rfl rfl rfl) <| g_u (zC rfl rfl) <| zI rfl rfl rfl <| zI rfl rfl rfl <| zI rfl rfl rfl <| zI rfl rfl rfl <| zI rfl rfl rfl <| g_u (zR rfl rfl rfl) <| g_u (zC rfl rfl) <| zI rfl rfl rfl <| zI rfl rfl rfl <| zI rfl rfl rfl <| zI rfl rfl rfl <| zI rfl rfl rfl <| zI rfl rfl rfl <| g_u (zR rfl rfl rfl) <| zG <| zA <| zl rfl <| zD <| zB <| g_u (zE rfl rfl) <| zG <| zA <| zM <| zV ?_
            exact ⟨⟨(rfl : toAV (Al.look _ _) = some _).trans (congrArg some (by (exact congrArg bv (by first | exact (decide_eq_false (fun e => q ⟨congrArg GSpan.code e, congrArg GSpan.note e⟩)).symm | exact (decide_eq_false (fun e => q (by rw [e]))).symm | (rw [Bool.eq_iff_iff, decide_eq_true_iff, decide_eq_true_iff]; exact ⟨fun h => GSpan.ext' e0 e1 e2 e3 e4 e5 e6 e7 e9 e10 h e8.1 e8.2, fun h => by rw [h]⟩))))), rfl⟩, trivial⟩
          · rw [hb5]
            have e4 : a.name = b.name := by have e := hb5; rw [yY] at e; simpa using e
            refine zZ rfl rfl (zF rfl rfl fa36_5 rfl) <| zZ rfl rfl (zH rfl rfl rfl tA3 tS3 rfl rfl) <| zZ rfl rfl (zF rfl rfl fa36_5 rfl) <| zZ rfl rfl (zH rfl rfl rfl tA3 tS3 rfl rfl) <| zZ rfl rfl (ws rfl rfl rfl) <| g_u (zp rfl rfl rfl) <| g_u (zC rfl rfl) <| yP (t := 48) rfl ?_
            rintro (hb6 | hb6)
            · rw [hb6]
              have q : ¬ a.kind = b.kind := bne_iff_ne.1 hb6
              refine zI rfl rfl rfl <| zI rfl rfl rfl <| zI rfl rfl rfl <| zI rfl rfl rfl <| zI rfl rfl rfl <| g_u (zR rfl rfl rfl) <| g_u (zC rfl rfl) <| zI rfl rfl rfl <| zI rfl rfl rfl <| zI rfl rfl rfl <| zI rfl rfl rfl <| zI rfl rfl rfl <| g_u (zR rfl rfl rfl) <| g_u (zC rfl rfl) <| zI rfl rfl rfl <| zI rfl rfl rfl <| zI rfl rfl rfl <| zI rfl rfl rfl <| zI rfl rfl rfl <| g_u (zR rfl rfl rfl) <| g_u (zC rfl rfl) <| zI rfl rfl rfl <| zI rfl rfl rfl <| zI rfl rfl rfl <| zI rfl rfl rfl <| zI rfl rfl rfl <| zI rfl rfl rfl <| g_u (zR rfl rfl rfl) <| zG <| zA <| zl rfl <| zD <| zB <| g_u (zE rfl rfl) <| zG <| zA <| zM <| zV ?_
              exact ⟨⟨(rfl : toAV (Al.look _ _) = some _).trans (congrArg some (by (exact congrArg bv (by first | exact (decide_eq_false (fun e => q ⟨congrArg GSpan.code e, congrArg GSpan.note e⟩)).symm | exact (decide_eq_false (fun e => q (by rw [e]))).symm | (rw [Bool.eq_iff_iff, decide_eq_true_iff, decide_eq_true_iff]; exact ⟨fun h => GSpan.ext' e0 e1 e2 e3 e4 e5 e6 e7 e9 e10 h e8.1 e8.2, fun h => by rw [h]⟩))))), rfl⟩, trivial⟩
            · rw [hb6]
              have e5 : a.kind = b.kind := qd.1 hb6
              refine zZ rfl rfl (zF rfl rfl fa36_6 rfl) <| zZ rfl rfl (zH rfl rfl rfl tA29 tS29 rfl rfl) <| zZ rfl rfl (zF rfl rfl fa36_6 rfl) <| zZ rfl rfl (zH rfl rfl rfl tA29 tS29 rfl rfl) <| zZ rfl rfl (ws rfl rfl rfl) <| g_u (zp rfl rfl rfl) <| g_u (zC rfl rfl) <| yP (t := 55) rfl ?_
              rintro (hb7 | hb7)
              · rw [hb7]
                have q : ¬ a.start = b.start := bne_iff_ne.1 hb7
                refine zI rfl rfl rfl <| zI rfl rfl rfl <| zI rfl rfl rfl <| zI rfl rfl rfl <| zI rfl rfl rfl <| g_u (zR rfl rfl rfl) <| g_u (zC rfl rfl) <| zI rfl rfl rfl <| zI rfl rfl rfl <| zI rfl rfl rfl <| zI rfl rfl rfl <| zI rfl rfl rfl <| g_u (zR rfl rfl rfl) <| g_u (zC rfl rfl) <| zI rfl rfl rfl <| zI rfl rfl rfl <| zI rfl rfl rfl <| zI rfl rfl rfl <| zI rfl rfl rfl <| zI rfl rfl rfl <| g_u (zR rfl rfl rfl) <| zG <| zA <| zl rfl <| zD <| zB <| g_u (zE rfl rfl) <| zG <| zA <| zM <| zV ?_
                exact ⟨⟨(rfl : toAV (Al.look _ _) = some _).trans (congrArg some (by (exact congrArg bv (by first | exact (decide_eq_false (fun e => q ⟨congrArg GSpan.code e, congrArg GSpan.note e⟩)).symm | exact (decide_eq_false (fun e => q (by rw [e]))).symm | (rw [Bool.eq_iff_iff, decide_eq_true_iff, decide_eq_true_iff]; exact ⟨fun h => GSpan.ext' e0 e1 e2 e3 e4 e5 e6 e7 e9 e10 h e8.1 e8.2, fun h => by rw [h]⟩))))), rfl⟩, trivial⟩
              · rw [hb7]
                have e6 : a.start = b.start := qd.1 hb7
                refine zZ rfl rfl (zF rfl rfl fa36_7 rfl) <| zZ rfl rfl (zH rfl rfl rfl tA29 tS29 rfl rfl) <| zZ rfl rfl (zF rfl rfl fa36_7 rfl) <| zZ rfl rfl (zH rfl rfl rfl tA29 tS29 rfl rfl) <| zZ rfl rfl (ws rfl rfl rfl) <| g_u (zp rfl rfl rfl) <| g_u (zC rfl rfl) <| yP (t := 62) rfl ?_
                rintro (hb8 | hb8)
                · rw [hb8]
                  have q : ¬ a.fin = b.fin := bne_iff_ne.1 hb8
                  refine zI rfl rfl rfl <| zI rfl rfl rfl <| zI rfl rfl rfl <| zI rfl rfl rfl <| zI rfl rfl rfl <| g_u (zR rfl rfl rfl) <| g_u (zC rfl rfl) <| zI rfl rfl rfl <| zI rfl rfl rfl <| zI rfl rfl rfl <| zI rfl rfl rfl <| zI rfl rfl rfl <| zI rfl rfl rfl <| g_u (zR rfl rfl rfl) <| zG <| zA <| zl rfl <| zD <| zB <| g_u (zE rfl rfl) <| zG <| zA <| zM <| zV ?_
                  exact ⟨⟨(rfl : toAV (Al.look _ _) = some _).trans (congrArg some (by (exact congrArg bv (by first | exact (decide_eq_false (fun e => q ⟨congrArg GSpan.code e, congrArg GSpan.note e⟩)).symm | exact (decide_eq_false (fun e => q (by rw [e]))).symm | (rw [Bool.eq_iff_iff, decide_eq_true_iff, decide_eq_true_iff]; exact ⟨fun h => GSpan.ext' e0 e1 e2 e3 e4 e5 e6 e7 e9 e10 h e8.1 e8.2, fun h => by rw [h]⟩))))), rfl⟩, trivial⟩
                · rw [hb8]
                  have e7 : a.fin = b.fin := qd.1 hb8
                  refine zZ rfl rfl (zF rfl rfl fa36_11 rfl) <| zZ rfl rfl (zH rfl rfl rfl tA34 tS34 rfl rfl) <| zZ rfl rfl (zF rfl rfl fa36_11 rfl) <| zZ rfl rfl (zH rfl rfl rfl tA34 tS34 rfl rfl) <| zZ rfl rfl (s_neA rfl rfl rfl eg34 rfl rfl (eq34 _ _ _ _)) <| g_u (zp rfl rfl rfl) <| g_u (zC rfl rfl) <| yP (t := 69) rfl ?_
                  rintro (hb9 | hb9)
                  · rw [hb9]
                    have q : ¬ (a.code = b.code ∧ a.note = b.note) := fun h => by have e := hb9; rw [yY, h.1, h.2] at e; simp at e
                    refine zI rfl rfl rfl <| zI rfl rfl rfl <| zI rfl rfl rfl <| zI rfl rfl rfl <| zI rfl rfl rfl <| zI rfl rfl rfl <| g_u (zR rfl rfl rfl) <| zG <| zA <| zl rfl <| zD <| zB <| g_u (zE rfl rfl) <| zG <| zA <| zM <| zV ?_
                    exact ⟨⟨(rfl : toAV (Al.look _ _) = some _).trans (congrArg some (by (exact congrArg bv (by first | exact (decide_eq_false (fun e => q ⟨congrArg GSpan.code e, congrArg GSpan.note e⟩)).symm | exact (decide_eq_false (fun e => q (by rw [e]))).symm | (rw [Bool.eq_iff_iff, decide_eq_true_iff, decide_eq_true_iff]; exact ⟨fun h => GSpan.ext' e0 e1 e2 e3 e4 e5 e6 e7 e9 e10 h e8.1 e8.2, fun h => by rw [h]⟩))))), rfl⟩, trivial⟩
                  · rw [hb9]
                    have e8 : a.code = b.code ∧ a.note = b.note := by have e := hb9; rw [yY] at e; simpa using e
                    refine zZ rfl rfl (zF rfl rfl fa36_8 rfl) <| zZ rfl rfl (zH rfl rfl rfl tA30 tS30 rfl rfl) <| zZ rfl rfl (zF rfl rfl fa36_8 rfl) <| zZ rfl rfl (zH rfl rfl rfl tA30 tS30 rfl rfl) ?_
                    refine zZ rfl rfl (zS (psameAs_c a.attrs b.attrs (by omega)) rfl rfl) ?_
                    refine zZ rfl rfl (wv rfl rfl) <| g_u (zp rfl rfl rfl) <| zG <| zA ?_
                    refine zT rfl (fun hb10 => ?_) (fun hb10 => ?_)
                    · have q : ¬ a.attrs = b.attrs := fun h => by have e := hb10; rw [h, sameAs_refl] at e; cases e
                      refine zD <| zB <| g_u (zE rfl rfl) <| zG <| zA <| zM <| zV ?_
                      exact ⟨⟨(rfl : toAV (Al.look _ _) = some _).trans (congrArg some (by (exact congrArg bv (by first | exact (decide_eq_false (fun e => q ⟨congrArg GSpan.code e, congrArg GSpan.note e⟩)).symm | exact (decide_eq_false (fun e => q (by rw [e]))).symm | (rw [Bool.eq_iff_iff, decide_eq_true_iff, decide_eq_true_iff]; exact ⟨fun h => GSpan.ext' e0 e1 e2 e3 e4 e5 e6 e7 e9 e10 h e8.1 e8.2, fun h => by rw [h]⟩))))), rfl⟩, trivial⟩
                    · have e9 : a.attrs = b.attrs := (yN _ _).1 (by have e := hb10; simpa using e)
                      refine za <| zA <| zD <| zB <| g_u (zF rfl rfl fa36_9 rfl) <| g_u (zH rfl rfl rfl tA31 tS31 rfl rfl) <| g_u (zF rfl rfl fa36_9 rfl) <| g_u (zH rfl rfl rfl tA31 tS31 rfl rfl) ?_
                      refine g_u (zS (eqdE_c a.events b.events 129 (by omega) (fun x hx y => sameE_c x y (by have h5 := yE GE.wt hx; have h6 : x.wt = 1 + x.name.size + wtAs x.attrs := rfl; omega))) rfl rfl) ?_
                      refine g_u (zC rfl rfl) <| yP (t := 82) rfl ?_
                      rintro (hb11 | hb11)
                      · rw [hb11]
                        have e10 : a.events = b.events := of_decide_eq_true hb11
                        refine zZ rfl rfl (zF rfl rfl fa36_10 rfl) <| zZ rfl rfl (zH rfl rfl rfl tA32 tS32 rfl rfl) <| zZ rfl rfl (zF rfl rfl fa36_10 rfl) <| zZ rfl rfl (zH rfl rfl rfl tA32 tS32 rfl rfl) ?_
                        refine zZ rfl rfl (zS (eqdL_c a.links b.links 131 (by omega) (fun x hx y => sameL_c x y (by have h5 := yE GL.wt hx; have h6 : x.wt = 1 + x.state.size + wtAs x.attrs := rfl; omega))) rfl rfl) ?_
                        refine g_u (zR rfl rfl rfl) <| g_u (zE rfl rfl) <| zG <| zA <| zM ?_
                        exact ⟨⟨(rfl : toAV (Al.look _ _) = some _).trans (congrArg some (by (exact congrArg bv (by first | exact (decide_eq_false (fun e => q ⟨congrArg GSpan.code e, congrArg GSpan.note e⟩)).symm | exact (decide_eq_false (fun e => q (by rw [e]))).symm | (rw [Bool.eq_iff_iff, decide_eq_true_iff, decide_eq_true_iff]; exact ⟨fun h => GSpan.ext' e0 e1 e2 e3 e4 e5 e6 e7 e9 e10 h e8.1 e8.2, fun h => by rw [h]⟩))))), rfl⟩, trivial⟩
                      · rw [hb11]
                        have q : ¬ a.events = b.events := of_decide_eq_false hb11
                        refine zI rfl rfl rfl <| zI rfl rfl rfl <| zI rfl rfl rfl <| zI rfl rfl rfl <| zI rfl rfl rfl <| g_u (zp rfl rfl rfl) <| g_u (zE rfl rfl) <| zG <| zA <| zM ?_
                        exact ⟨⟨(rfl : toAV (Al.look _ _) = some _).trans (congrArg some (by (exact congrArg bv (by first | exact (decide_eq_false (fun e => q ⟨congrArg GSpan.code e, congrArg GSpan.note e⟩)).symm | exact (decide_eq_false (fun e => q (by rw [e]))).symm | (rw [Bool.eq_iff_iff, decide_eq_true_iff, decide_eq_true_iff]; exact ⟨fun h => GSpan.ext' e0 e1 e2 e3 e4 e5 e6 e7 e9 e10 h e8.1 e8.2, fun h => by rw [h]⟩))))), rfl⟩, trivial⟩
        · rw [hb4]
          have q : ¬ a.state = b.state := by have e := hb4; rw [yY] at e; simpa using e
          refine zI rfl rfl rfl <| zI rfl rfl rfl <| zI rfl rfl rfl <| zI rfl rfl rfl <| zI rfl rfl rfl <| g_u (zp rfl rfl rfl) <| g_u (zE rfl rfl) <| zG <| zA <| zD <| zD <| zB <| g_u (zC rfl rfl) <| g_u (wv rfl rfl) <| g_u (zC rfl rfl) <| zI rfl rfl rfl <| zI rfl rfl rfl <| zI rfl rfl rfl <| zI rfl rfl rfl <| zI rfl rfl rfl <| g_u (zR rfl rfl rfl) <| g_u (zC rfl rfl) <| zI rfl rfl rfl <| zI rfl rfl rfl <| zI rfl rfl rfl <| zI rfl rfl rfl <| zI rfl rfl rfl <| g_u (zR rfl rfl rfl) <| g_u (zC rfl rfl) <| zI rfl rfl rfl <| zI rfl rfl rfl <| zI rfl rfl rfl <| zI rfl rfl rfl <| zI rfl rfl rfl <| g_u (zR rfl rfl rfl) <| g_u (zC rfl rfl) <| zI rfl rfl rfl <| zI rfl rfl rfl <| zI rfl rfl rfl <| zI rfl rfl rfl <| zI rfl rfl rfl <| g_u (zR rfl rfl rfl) <| g_u (zC rfl rfl) <| zI rfl rfl rfl <| zI rfl rfl rfl <| zI rfl rfl rfl <| zI rfl rfl rfl <| zI rfl rfl rfl <| zI rfl rfl rfl <| g_u (zR rfl rfl rfl) <| zG <| zA <| zl rfl <| zD <| zB <| g_u (zE rfl rfl) <| zG <| zA <| zM <| zV ?_
          exact ⟨⟨(rfl : toAV (Al.look _ _) = some _).trans (congrArg some (by (exact congrArg bv (by first | exact (decide_eq_false (fun e => q ⟨congrArg GSpan.code e, congrArg GSpan.note e⟩)).symm | exact (decide_eq_false (fun e => q (by rw [e]))).symm | (rw [Bool.eq_iff_iff, decide_eq_true_iff, decide_eq_true_iff]; exact ⟨fun h => GSpan.ext' e0 e1 e2 e3 e4 e5 e6 e7 e9 e10 h e8.1 e8.2, fun h => by rw [h]⟩))))), rfl⟩, trivial⟩
      · rw [hb3]
        have q : ¬ a.parent = b.parent := by have e := hb3; simpa using e
        refine zI rfl rfl rfl <| zI rfl rfl rfl <| zI rfl rfl rfl <| zI rfl rfl rfl <| zI rfl rfl rfl <| g_u (zp rfl rfl rfl) <| g_u (zC rfl rfl) <| zI rfl rfl rfl <| zI rfl rfl rfl <| zI rfl rfl rfl <| zI rfl rfl rfl <| zI rfl rfl rfl <| g_u (zp rfl rfl rfl) <| g_u (zE rfl rfl) <| zG <| zA <| zD <| zD <| zB <| g_u (zC rfl rfl) <| g_u (wv rfl rfl) <| g_u (zC rfl rfl) <| zI rfl rfl rfl <| zI rfl rfl rfl <| zI rfl rfl rfl <| zI rfl rfl rfl <| zI rfl rfl rfl <| g_u (zR rfl rfl rfl) <| g_u (zC rfl rfl) <| zI rfl rfl rfl <| zI rfl rfl rfl <| zI rfl rfl rfl <| zI rfl rfl rfl <| zI rfl rfl rfl <| g_u (zR rfl rfl rfl) <| g_u (zC rfl rfl) <| zI rfl rfl rfl <| zI rfl rfl rfl <| zI rfl rfl rfl <| zI rfl rfl rfl <| zI rfl rfl rfl <| g_u (zR rfl rfl rfl) <| g_u (zC rfl rfl) <| zI rfl rfl rfl <| zI rfl rfl rfl <| zI rfl rfl rfl <| zI rfl rfl rfl <| zI rfl rfl rfl <| g_u (zR rfl rfl rfl) <| g_u (zC rfl rfl) <| zI rfl rfl rfl <| zI rfl rfl rfl <| zI rfl rfl rfl <| zI rfl rfl rfl <| zI rfl rfl rfl <| zI rfl rfl rfl <| g_u (zR rfl rfl rfl) <| zG <| zA <| zl rfl <| zD <| zB <| g_u (zE rfl rfl) <| zG <| zA <| zM <| zV ?_
        exact ⟨⟨(rfl : toAV (Al.look _ _) = some _).trans (congrArg some (by (exact congrArg bv (by first | exact (decide_eq_false (fun e => q ⟨congrArg GSpan.code e, congrArg GSpan.note e⟩)).symm | exact (decide_eq_false (fun e => q (by rw [e]))).symm | (rw [Bool.eq_iff_iff, decide_eq_true_iff, decide_eq_true_iff]; exact ⟨fun h => GSpan.ext' e0 e1 e2 e3 e4 e5 e6 e7 e9 e10 h e8.1 e8.2, fun h => by rw [h]⟩))))), rfl⟩, trivial⟩
    · rw [hb2]
      have q : ¬ a.id = b.id := by have e := hb2; simpa using e
      refine zI rfl rfl rfl <| zI rfl rfl rfl <| zI rfl rfl rfl <| zI rfl rfl rfl <| zI rfl rfl rfl <| g_u (zp rfl rfl rfl) <| g_u (zC rfl rfl) <| zI rfl rfl rfl <| zI rfl rfl rfl <| zI rfl rfl rfl <| zI rfl rfl rfl <| zI rfl rfl rfl <| g_u (zp rfl rfl rfl) <| g_u (zC rfl rfl) <| zI rfl rfl rfl <| zI rfl rfl rfl <| zI rfl rfl rfl <| zI rfl rfl rfl <| zI rfl rfl rfl <| g_u (zp rfl rfl rfl) <| g_u (zE rfl rfl) <| zG <| zA <| zD <| zD <| zB <| g_u (zC rfl rfl) <| g_u (wv rfl rfl) <| g_u (zC rfl rfl) <| zI rfl rfl rfl <| zI rfl rfl rfl <| zI rfl rfl rfl <| zI rfl rfl rfl <| zI rfl rfl rfl <| g_u (zR rfl rfl rfl) <| g_u (zC rfl rfl) <| zI rfl rfl rfl <| zI rfl rfl rfl <| zI rfl rfl rfl <| zI rfl rfl rfl <| zI rfl rfl rfl <| g_u (zR rfl rfl rfl) <| g_u (zC rfl rfl) <| zI rfl rfl rfl <| zI rfl rfl rfl <| zI rfl rfl rfl <| zI rfl rfl rfl <| zI rfl rfl rfl <| g_u (zR rfl rfl rfl) <| g_u (zC rfl rfl) <| zI rfl rfl rfl <| zI rfl rfl rfl <| zI rfl rfl rfl <| zI rfl rfl rfl <| zI rfl rfl rfl <| g_u (zR rfl rfl rfl) <| g_u (zC rfl rfl) <| zI rfl rfl rfl <| zI rfl rfl rfl <| zI rfl rfl rfl <| zI rfl rfl rfl <| zI rfl rfl rfl <| zI rfl rfl rfl <| g_u (zR rfl rfl rfl) <| zG <| zA <| zl rfl <| zD <| zB <| g_u (zE rfl rfl) <| zG <| zA <| zM <| zV ?_
      exact ⟨⟨(rfl : toAV (Al.look _ _) = some _).trans (congrArg some (by (exact congrArg bv (by first | exact (decide_eq_false (fun e => q ⟨congrArg GSpan.code e, congrArg GSpan.note e⟩)).symm | exact (decide_eq_false (fun e => q (by rw [e]))).symm | (rw [Bool.eq_iff_iff, decide_eq_true_iff, decide_eq_true_iff]; exact ⟨fun h => GSpan.ext' e0 e1 e2 e3 e4 e5 e6 e7 e9 e10 h e8.1 e8.2, fun h => by rw [h]⟩))))), rfl⟩, trivial⟩
  · rw [hb1]
    have q : ¬ a.trace = b.trace := by have e := hb1; simpa using e
    refine zI rfl rfl rfl <| zI rfl rfl rfl <| zI rfl rfl rfl <| zI rfl rfl rfl <| zI rfl rfl rfl <| g_u (zp rfl rfl rfl) <| g_u (zC rfl rfl) <| zI rfl rfl rfl <| zI rfl rfl rfl <| zI rfl rfl rfl <| zI rfl rfl rfl <| zI rfl rfl rfl <| g_u (zp rfl rfl rfl) <| g_u (zC rfl rfl) <| zI rfl rfl rfl <| zI rfl rfl rfl <| zI rfl rfl rfl <| zI rfl rfl rfl <| zI rfl rfl rfl <| g_u (zp rfl rfl rfl) <| g_u (zC rfl rfl) <| zI rfl rfl rfl <| zI rfl rfl rfl <| zI rfl rfl rfl <| zI rfl rfl rfl <| zI rfl rfl rfl <| g_u (zp rfl rfl rfl) <| g_u (zE rfl rfl) <| zG <| zA <| zD <| zD <| zB <| g_u (zC rfl rfl) <| g_u (wv rfl rfl) <| g_u (zC rfl rfl) <| zI rfl rfl rfl <| zI rfl rfl rfl <| zI rfl rfl rfl <| zI rfl rfl rfl <| zI rfl rfl rfl <| g_u (zR rfl rfl rfl) <| g_u (zC rfl rfl) <| zI rfl rfl rfl <| zI rfl rfl rfl <| zI rfl rfl rfl <| zI rfl rfl rfl <| zI rfl rfl rfl <| g_u (zR rfl rfl rfl) <| g_u (zC rfl rfl) <| zI rfl rfl rfl <| zI rfl rfl rfl <| zI rfl rfl rfl <| zI rfl rfl rfl <| zI rfl rfl rfl <| g_u (zR rfl rfl rfl) <| g_u (zC rfl rfl) <| zI rfl rfl rfl <| zI rfl rfl rfl <| zI rfl rfl rfl <| zI rfl rfl rfl <| zI rfl rfl rfl <| g_u (zR rfl rfl rfl) <| g_u (zC rfl rfl) <| zI rfl rfl rfl <| zI rfl rfl rfl <| zI rfl rfl rfl <| zI rfl rfl rfl <| zI rfl rfl rfl <| zI rfl rfl rfl <| g_u (zR rfl rfl rfl) <| zG <| zA <| zl rfl <| zD <| zB <| g_u (zE rfl rfl) <| zG <| zA <| zM <| zV ?_
    exact ⟨⟨(rfl : toAV (Al.look _ _) = some _).trans (congrArg some (by (exact congrArg bv (by first | exact (decide_eq_false (fun e => q ⟨congrArg GSpan.code e, congrArg GSpan.note e⟩)).symm | exact (decide_eq_false (fun e => q (by rw [e]))).symm | (rw [Bool.eq_iff_iff, decide_eq_true_iff, decide_eq_true_iff]; exact ⟨fun h => GSpan.ext' e0 e1 e2 e3 e4 e5 e6 e7 e9 e10 h e8.1 e8.2, fun h => by rw [h]⟩))))), rfl⟩, trivial⟩
end Go.Proofs
namespace Go.Proofs
open Go Go.Al
set_option maxRecDepth 10000
end Go.Proofs
namespace Go.Proofs
open Go Go.Al
set_option maxRecDepth 10000
end Go.Proofs
namespace Go.Proofs
open Go Go.Al
set_option maxRecDepth 10000
end Go.Proofs
namespace Go.Al
open Go.RowKit
section
variable {C : Cx} {A : Nat → SV} {d : Nat} {ty : TypeId} {pos : String} {af : Array Edge} {gd : Option (Nat × Bool)} {x y : Operand} {T T' : TypeId}
end
end Go.Al
namespace Go.Proofs
open Go Go.Al
end Go.Proofs
namespace Go.Proofs
open Go Go.Al
set_option maxRecDepth 10000
end Go.Proofs
namespace Go.Proofs
open Go Go.Al
set_option maxRecDepth 10000
end Go.Proofs
namespace Go.Proofs
open Go Go.Al
set_option maxRecDepth 10000
end Go.Proofs
namespace Go.Al
open Go.RowKit
def base (P : Program) (Γ : List (Nat × AV)) (N : Nat) (w : World) (G : Gh) : Cx := ⟨P, w, G.I, fun _ => False, N, 100000, G, Γ, [], none⟩
theorem notOwn_res {G : Gh} {k b : Nat} {x : SV} (h : x.res = false) : ¬ zN G k b x := by cases x <;> simp [SV.res, zN] at h ⊢
theorem Holds.mono_slot {w0 w1 : World} {E E' : Nat → Prop} {G G' : Gh} {a : Act} {w w' : World} {k : Nat} {x : SV} (hx : x.res = false) (hle : Le w G.I w' G'.I) (hg : GRel [] G G') (h : Holds w0 E G a w k x) : Holds w1 E' G' a w' k x := by
  cases x <;> simp only [Holds] at h ⊢ <;> first | trivial | exact ⟨h.1, yx.mono hle hg (yu.1 _) h.2⟩ | cases hx
theorem SimG.turned {P : Program} {Γ : List (Nat × AV)} {N : Nat} {A : Nat → SV} {G : Gh} {a : Act} {w w' : World} {I' : Nat → Nat → Prop} (S : SimG (base P Γ N w G) A G a w) (hr : ∀ k, (A k).res = false)
    (hle : Le w G.I w' I') (hv : ValI w' I') : SimG (base P Γ N w' { G with I := I' }) A { G with I := I' } a w' :=
  ⟨rfl, rfl, rfl, Nat.le_refl _, fun _ _ _ => rfl, Le.refl _ _, fun _ _ => ⟨rfl, .inl ⟨rfl, rfl⟩⟩, S.glob.mono hle, fun _ _ h => .inl h, hv, S.nts, S.dfs,
    fun k => (S.holds k).mono_slot (hr k) hle (fun _ _ => ⟨rfl, .inl ⟨rfl, rfl⟩⟩), fun k _ _ _ h _ => notOwn_res (hr k) h⟩
section
variable {ι : Type} {P : Program} {Γ : List (Nat × AV)} {N n : Nat} {J : ι → (Nat → Nat → Prop) → World → Prop}
variable {c x y : Code} {st : St} {j : ι} {K : St → ι → Prop} {Q : Exit → St → ι → Prop}
theorem Go1.mono {C : Cx} {ops : Array Oper} {K K' : St → List Tr → Prop} (hK : ∀ st tr, K st tr → K' st tr) : ∀ {os : List Oper} {st : St} {tr : List Tr}, Go1 C ops os st tr K → Go1 C ops os st tr K'
  | [], _, _, h => hK _ _ h
  | _ :: _, _, _, ⟨t, h1, h2, h3⟩ => ⟨t, h1, h2, Go1.mono hK h3⟩
end
end Go.Al
namespace Go.Al
open Go.RowKit
theorem Holds.kind {w0 : World} {E : Nat → Prop} {G : Gh} {a : Act} {w : World} {k b : Nat} {x : SV} (r : Holds w0 E G a w k x) (h : zN G k b x) {o : Obj} (ho : w.heap[b]? = some o) : isBook o = false := by
  cases x <;> simp only [zN] at h <;> simp only [Holds] at r
  case box T x =>
    obtain ⟨_, ⟨cs, fr, h1, _⟩, _⟩ := r
    rw [h, ho] at h1; cases h1; rfl
  case mpr ks vs =>
    obtain ⟨_, ⟨es, h1, _⟩, _⟩ := r
    rw [h, ho] at h1; cases h1; rfl
  case gen R => exact (R _ _ _).kind _ _ _ _ r.2 h ho
  case row l =>
    obtain ⟨ad, n', c, h1, h2⟩ := h
    rcases r.2 with ⟨e, _⟩ | ⟨b', cap, e, _, _, _, ⟨cs, T, h5, _⟩, _⟩
    · rw [e] at h1; cases h1
    · rw [e] at h1; cases h1; rw [← h2, h5] at ho; cases ho; rfl
  case itr m n s =>
    have h1 := r.2.1
    rw [h, ho] at h1; cases h1; rfl
  case tok n l =>
    obtain ⟨ad, n', c, h1, h2⟩ := h
    rcases r.2 with ⟨e, _⟩ | ⟨b', cap, e, _, _, _, _, ⟨cs, T, fr, h5, _⟩, _⟩
    · rw [e] at h1; cases h1
    · rw [e] at h1; cases h1; rw [← h2, h5] at ho; cases ho; rfl
theorem cell_book {w : World} {d : Nat} {o : Obj} (h : w.heap[d]? = some o) (ho : isBook o = true) (n : Nat) : w.cell? ⟨d, n, none⟩ = none := by
  unfold World.cell?
  cases o <;> simp_all [isBook]
theorem putObj_size (w : World) (d : Nat) (o : Obj) : (w.putObj d o).heap.size = w.heap.size := by simp [World.putObj]
theorem SimG.book {C : Cx} {A : Nat → SV} {G : Gh} {a : Act} {w : World} (S : SimG C A G a w) {d : Nat} {o o' : Obj} (h : w.heap[d]? = some o) (ho : isBook o = true) (ho' : isBook o' = true) (hd : C.w0.heap.size ≤ d ∨ C.E d) :
    SimG C A G a (w.putObj d o') := by
  have hlt : d < w.heap.size := (Array.getElem?_eq_some_iff.1 h).1
  have hsame : (w.putObj d o').heap[d]? = some o' := World.putObj_heap_same hlt
  have hoth : ∀ k, k ≠ d → (w.putObj d o').heap[k]? = w.heap[k]? := fun k hk => World.putObj_heap_other hk
  have hle : Le w G.I (w.putObj d o') G.I := by
    intro b n hi
    refine ⟨hi, ?_⟩
    by_cases e : b = d
    · subst e
      refine ⟨by rw [cell_book hsame ho', cell_book h ho], fun es ck h1 => ?_⟩
      rw [h] at h1; cases h1; cases ho
    · exact yR (hoth b e)
  refine ⟨S.os, S.tape, S.output, by rw [putObj_size]; exact S.size, fun k h1 h2 => ?_, S.sub.trans hle, S.rel, S.glob.mono hle, S.new, fun b o h => by rw [putObj_size]; exact S.val b o h, S.nts, S.dfs, fun k => ?_, S.apart⟩
  · have : k ≠ d := by
      rintro rfl
      rcases hd with hd | hd
      · omega
      · exact h2 hd
    rw [hoth k this]; exact S.block k h1 h2
  · refine (S.holds k).keep (Gs := []) hle (fun _ _ => ⟨rfl, .inl ⟨rfl, rfl⟩⟩) (yu.1 _) (by rw [putObj_size]; exact Nat.le_refl _) (fun h => ⟨h, rfl⟩) (fun _ => ⟨rfl, rfl, rfl⟩) (fun b hbk => ?_)
    have hne : b ≠ d := by
      rintro rfl
      have := (S.holds k).kind hbk h
      rw [ho] at this; cases this
    exact ⟨hoth b hne, fun _ hi => hi⟩
def own (A : Nat → SV) (G : Gh) (b : Nat) : Prop := ∃ k, zN G k b (A k)
theorem SimG.back {C : Cx} {A A' : Nat → SV} {G G' : Gh} {a a' : Act} {w w' : World} (S : SimG C A G a w) {K : Nat} {D : List Deferred} {R : Option Nat} (hK : K ≤ C.K)
    (S' : SimG ⟨C.P, w, G.I, own A G, C.N, K, G, C.Γ, D, R⟩ A' G' a' w') : SimG ⟨C.P, C.w0, C.I0, C.E, C.N, C.K, C.G0, C.Γ, D, R⟩ A' G' a' w' := by
  have hown : ∀ b, own A G b → C.w0.heap.size ≤ b ∨ C.E b := fun b ⟨k, hk⟩ => ((S.holds k).owned hk).1
  have hsz : w.heap.size ≤ w'.heap.size := S'.size
  refine ⟨S'.os.trans S.os, S'.tape.trans S.tape, S'.output.trans S.output, Nat.le_trans S.size hsz, fun k h1 h2 => ?_, S.sub.trans S'.sub, fun g hg => (S.rel g hg).trans (S'.rel g (Nat.le_trans hK hg)), S'.glob, fun b o hi => ?_, S'.val, S'.nts, S'.dfs, fun k => ?_, S'.apart⟩
  · have hno : ¬ own A G k := by
      intro ho
      rcases hown k ho with h | h
      · exact absurd h1 (by show ¬ k < C.w0.heap.size; omega)
      · exact h2 h
    exact (S'.block k (Nat.lt_of_lt_of_le h1 S.size) hno).trans (S.block k h1 h2)
  · rcases S'.new b o hi with h | h | h
    · exact S.new b o h
    · exact .inr (.inl (Nat.le_trans S.size h))
    · exact .inr (hown b h)
  · cases hr : (A' k).res
    · exact (S'.holds k).mono_slot hr (Le.refl _ _) (GRel.refl _)
    · exact (S'.holds k).reown hr (fun b _ _ h => by
        rcases h with h | h
        · exact .inl (Nat.le_trans S.size h)
        · exact hown b h)
structure Sw (C : Cx) (w1 : World) (I1 : Nat → Nat → Prop) (E1 : Nat → Prop) (G1 : Gh) (Ds : List Nat) : Prop where
  os : w1.os = C.w0.os
  tape : w1.tape = C.w0.tape
  output : w1.output = C.w0.output
  size : C.w0.heap.size ≤ w1.heap.size
  block : ∀ k, k < C.w0.heap.size → ¬ C.E k → w1.heap[k]? = C.w0.heap[k]?
  own : ∀ b, (w1.heap.size ≤ b ∨ E1 b) → C.w0.heap.size ≤ b ∨ C.E b
  sub : Le C.w0 C.I0 w1 I1
  rel : ∀ g, C.K ≤ g → Turns C.G0 G1 g
  new : ∀ b o, I1 b o → C.I0 b o ∨ C.w0.heap.size ≤ b ∨ C.E b
  marks : ∀ d ∈ Ds, d < w1.heap.size ∧ ¬ E1 d ∧ C.w0.heap.size ≤ d ∧ w1.heap[d]? = some (.deferred (some []))
  nodup : Ds.Nodup
def upC (C : Cx) (w1 : World) (I1 : Nat → Nat → Prop) (E1 : Nat → Prop) (G1 : Gh) (D1 : List Deferred) : Cx := ⟨C.P, w1, I1, E1, C.N, C.K, G1, C.Γ, D1, C.R⟩
theorem Sw.start (C : Cx) : Sw C C.w0 C.I0 C.E C.G0 [] :=
  ⟨rfl, rfl, rfl, Nat.le_refl _, fun _ _ _ => rfl, fun _ h => h, Le.refl _ _, fun _ _ => ⟨rfl, .inl ⟨rfl, rfl⟩⟩, fun _ _ h => .inl h, fun d h => (by cases h), List.nodup_nil⟩
theorem Sw.back {C : Cx} {w1 : World} {I1 : Nat → Nat → Prop} {E1 : Nat → Prop} {G1 : Gh} {Ds : List Nat} (h : Sw C w1 I1 E1 G1 Ds) {D1 : List Deferred} {A : Nat → SV} {G : Gh} {a : Act} {w : World} (S : SimG (upC C w1 I1 E1 G1 D1) A G a w) :
    SimG ⟨C.P, C.w0, C.I0, C.E, C.N, C.K, C.G0, C.Γ, D1, C.R⟩ A G a w := by
  refine ⟨S.os.trans h.os, S.tape.trans h.tape, S.output.trans h.output, Nat.le_trans h.size S.size, fun k h1 h2 => ?_, h.sub.trans S.sub, fun g hg => (h.rel g hg).trans (S.rel g hg), S.glob, fun b o hi => ?_, S.val, S.nts, S.dfs, fun k => ?_, S.apart⟩
  · have hno : ¬ E1 k := by
      intro ho
      rcases h.own k (.inr ho) with h3 | h3
      · exact absurd h1 (by show ¬ k < C.w0.heap.size; omega)
      · exact h2 h3
    exact (S.block k (Nat.lt_of_lt_of_le h1 h.size) hno).trans (h.block k h1 h2)
  · rcases S.new b o hi with h3 | h3 | h3
    · exact h.new b o h3
    · exact .inr (h.own b (.inl h3))
    · exact .inr (h.own b (.inr h3))
  · cases hr : (A k).res
    · exact (S.holds k).mono_slot hr (Le.refl _ _) (GRel.refl _)
    · exact (S.holds k).reown hr (fun b _ _ h3 => h.own b h3)
end Go.Al
namespace Go.Al
open Go.RowKit
end Go.Al
namespace Go.Proofs
open Go Go.Al
end Go.Proofs
namespace Go.Al
section
variable {C : Cx} {A : Nat → SV} {d : Nat} {ty : TypeId} {pos : String} {af : Array Edge} {gd : Option (Nat × Bool)} {x y : Operand} {T T' : TypeId}
end
end Go.Al
