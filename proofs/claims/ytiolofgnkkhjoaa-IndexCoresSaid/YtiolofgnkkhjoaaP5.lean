/- Texts that the proofs of this claim share, part 5: the abstract logic, plain Lean on values and batches, and walks. No condition but those typed in each lemma. -/
import Derived.Test.YtiolofgnkkhjoaaP4
set_option linter.unusedSimpArgs false
set_option linter.unusedVariables false
set_option maxHeartbeats 400000
namespace Go.Proofs
open Go Go.Al
set_option maxRecDepth 10000
theorem ek87 (a b : K2) : eqV Try.prog 100 87 (av2 a) (av2 b) = some ((a.1 == b.1) && ((a.2 == b.2) && true)) := by kernel_rfl
theorem kok87 : KeyOk Try.prog 87 av2 := ⟨fun a b => (ek87 a b).trans (congrArg some (eq2_iff a b)), fun a => rfl, fun a => rfl, ⟨_, Try.underlying87⟩⟩
theorem ek111 (a b : K2) : eqV Try.prog 100 111 (av2 a) (av2 b) = some ((a.1 == b.1) && ((a.2 == b.2) && true)) := by kernel_rfl
theorem kok111 : KeyOk Try.prog 111 av2 := ⟨fun a b => (ek111 a b).trans (congrArg some (eq2_iff a b)), fun a => rfl, fun a => rfl, ⟨_, Try.underlying111⟩⟩
theorem eq38 (a b c x y z : Int) : eqV Try.prog 100 38 (.agg [iv a, iv b, iv c]) (.agg [iv x, iv y, iv z]) = some ((a == x) && ((b == y) && ((c == z) && true))) := by kernel_rfl
theorem eq42 (a b c x y z : Int) : eqV Try.prog 100 42 (.agg [iv a, iv b, iv c]) (.agg [iv x, iv y, iv z]) = some ((a == x) && ((b == y) && ((c == z) && true))) := by kernel_rfl
theorem ec55 (a b : GCore) : eqV Try.prog 100 55 a.av b.av = some ((a.trace == b.trace) && ((a.id == b.id) && ((a.parent == b.parent) && ((a.name.toList == b.name.toList) && ((a.begun == b.begun) && ((a.lasts == b.lasts) && true)))))) := by kernel_rfl
theorem ec44 (a b : GCore) : eqV Try.prog 100 44 a.av b.av = some ((a.trace == b.trace) && ((a.id == b.id) && ((a.parent == b.parent) && ((a.name.toList == b.name.toList) && ((a.begun == b.begun) && ((a.lasts == b.lasts) && true)))))) := by kernel_rfl
set_option maxHeartbeats 2000000 in
theorem iof_c (s : GSpan) : z8 Try.prog Γ0 27 [s.av] [(xT s).av] := by
  refine zq Try.func27 rfl Try.ntmps27 (by kernel_rfl) rfl fun w0 I0 G0 => ?_
  refine zF <| zC <| g_uG (zV 1001 rfl rfl rfl rfl) rfl <| g_uG (zu 1002 rfl rfl rfl tZ55) rfl <| zH <| zA <| zF <| zC <| g_u (zI rfl rfl fa67_6 rfl) <| g_u (zG rfl rfl rfl tA60 tS60 rfl rfl) <| g_u (zI rfl rfl fa67_7 rfl) <| g_u (zG rfl rfl rfl tA60 tS60 rfl rfl) <| g_u (yc rfl tU105 us105 pl105 rfl rfl rfl rfl) <| g_uG (zu 1003 rfl rfl rfl tZ105) rfl <| g_u (zY rfl rfl rfl tS105 rfl rfl) <| zH <| zA <| zF <| zs yR <| g_u (zI rfl rfl fa67_0 rfl) <| g_u (zG rfl rfl rfl tA26 tS26 rfl rfl) <| g_u (zI rfl rfl fa67_1 rfl) <| g_u (zG rfl rfl rfl tA28 tS28 rfl rfl) <| g_u (zI rfl rfl fa67_2 rfl) <| g_u (zG rfl rfl rfl tA28 tS28 rfl rfl) <| g_u (zI rfl rfl fa67_4 rfl) <| g_u (zG rfl rfl rfl tA9 tS9 rfl rfl) <| g_u (zk rfl rfl rfl tA105 tS105 rfl rfl) <| g_u (zP (Begun_c ⟨_, _⟩) rfl rfl) <| g_u (zk rfl rfl rfl tA105 tS105 rfl rfl) <| g_u (zP (Lasts_c ⟨_, _⟩) rfl rfl) <| g_u (yc rfl tU55 us55 pl55 rfl rfl rfl rfl) <| g_u (zY rfl rfl rfl tS55 rfl rfl) ?_
  refine zH ⟨by kernel_rfl, ?_⟩
  refine zA <| zd ?_
  exact ⟨⟨_, _, _, _, _, _, _, rfl, rfl, tA55, tS55, rfl, rfl, (rfl : toAV _ = some _).trans (congrArg some (by (rw [tells3, tells4]; rfl)))⟩, trivial⟩
theorem idNew_c : MCall Try.prog Γ0 28 [] [] (.ptr 1003 0) [(1003, .box 109 (.agg [.mref 1001])), (1001, .mpr [] [])] := by
  refine mcall_of (rs := [.ptr 1003 0]) Try.func28 rfl Try.ntmps28 (by kernel_rfl) rfl rfl rfl rfl rfl fun w0 I0 G0 E => ?_
  refine zF <| zC <| g_u (zE rfl rfl) <| zH <| zA <| zF <| zC <| g_uG (s_makeMap 1001 rfl rfl rfl) rfl <| g_u (s_buildSV rfl tZ109 us109 pl109 rfl rfl) <| g_uG (s_box 1003 rfl rfl rfl rfl rfl rfl) rfl <| g_u (s_as_ptr rfl rfl) <| zH <| zA <| zd ?_
  exact ⟨⟨.inr ⟨_, rfl, (by rfl), rfl⟩, trivial⟩, ⟨rfl, rfl, trivial⟩⟩
theorem idAddY_c (ks : List K2) (k : K2) (i : Nat) (hm : zX ks k 0 = some i) : MCall Try.prog Γ0 29 [.ptr 100001 0, .imm (.arr 16 k.1), .imm (.arr 8 k.2)] [(100001, .box 109 (.agg [.mref 100002])), (100002, .mpr (ks.map av2) (xw ks.length))] (.tup [.imm (iv (i : Int)), .imm (bv false)]) [(100001, .box 109 (.agg [.mref 100002])), (100002, .mpr (ks.map av2) (xw ks.length))] := by
  refine mcall_of (rs := [.imm (iv (i : Int)), .imm (bv false)]) Try.func29 rfl Try.ntmps29 (by kernel_rfl) rfl rfl rfl rfl rfl fun w0 I0 G0 E => ?_
  refine zF <| zC <| g_uG (zV 1004 rfl rfl rfl rfl) rfl <| g_uG (zV 1005 rfl rfl rfl rfl) rfl <| g_u (zE rfl rfl) <| g_u (zE rfl rfl) <| zH <| zA <| zF <| zF <| zC <| g_u (xq rfl rfl) <| g_u (s_eqPp rfl rfl rfl Try.underlying79) <| zH <| zA <| zc rfl <| zW <| zA <| zF <| zC <| g_u (zG rfl rfl rfl tA26 tS26 rfl rfl) <| g_u (zG rfl rfl rfl tA28 tS28 rfl rfl) <| g_u (yc rfl tU111 us111 pl111 rfl rfl rfl rfl) <| g_uG (zu 1008 rfl rfl rfl tZ111) rfl <| g_u (zY rfl rfl rfl tS111 rfl rfl) <| zH <| zA <| zF <| zF <| zs yR <| g_u (xq rfl rfl) <| g_u (zo rfl rfl) <| g_u (zI rfl rfl fa109_0 rfl) <| g_u (ym rfl rfl rfl tA107 tS107 rfl rfl rfl) <| g_u (zk rfl rfl rfl tA111 tS111 rfl rfl) <| g_u (s_lookupKYes kok111 rfl rfl rfl rfl Try.underlying107 hm (numsI_get (zz hm).1)) <| g_u (yq rfl rfl) <| g_u (zj rfl rfl rfl rfl) <| g_u (zj rfl rfl rfl rfl) <| g_u (zE rfl rfl) <| g_u (zE rfl rfl) ?_
  refine zH ⟨by kernel_rfl, ?_⟩
  refine zA <| zF <| zC <| g_u (zB rfl rfl) <| zH <| zA <| yD rfl <| zF <| zC <| g_u (zB rfl rfl) <| g_u (zE rfl rfl) <| g_u (zE rfl rfl) <| zH <| zA <| zd <| zh ?_
  exact ⟨⟨.inl ⟨_, rfl, ⟨(rfl : toAV (Al.look _ _) = some _).trans (congrArg some (by rfl)), rfl⟩⟩, .inl ⟨_, rfl, ⟨(rfl : toAV (Al.look _ _) = some _).trans (congrArg some (by rfl)), rfl⟩⟩, trivial⟩, ⟨rfl, rfl, trivial⟩⟩
theorem idAddN_c (ks : List K2) (k : K2) (hm : zX ks k 0 = none) : MCall Try.prog Γ0 29 [.ptr 100001 0, .imm (.arr 16 k.1), .imm (.arr 8 k.2)] [(100001, .box 109 (.agg [.mref 100002])), (100002, .mpr (ks.map av2) (xw ks.length))] (.tup [.imm (iv (ks.length : Int)), .imm (bv true)]) [(100001, .box 109 (.agg [.mref 100002])), (100002, .mpr ((ks ++ [k]).map av2) (xw (ks ++ [k]).length))] := by
  refine mcall_of (rs := [.imm (iv (ks.length : Int)), .imm (bv true)]) Try.func29 rfl Try.ntmps29 (by kernel_rfl) rfl rfl rfl rfl rfl fun w0 I0 G0 E => ?_
  refine zF <| zC <| g_uG (zV 1004 rfl rfl rfl rfl) rfl <| g_uG (zV 1005 rfl rfl rfl rfl) rfl <| g_u (zE rfl rfl) <| g_u (zE rfl rfl) <| zH <| zA <| zF <| zF <| zC <| g_u (xq rfl rfl) <| g_u (s_eqPp rfl rfl rfl Try.underlying79) <| zH <| zA <| zc rfl <| zW <| zA <| zF <| zC <| g_u (zG rfl rfl rfl tA26 tS26 rfl rfl) <| g_u (zG rfl rfl rfl tA28 tS28 rfl rfl) <| g_u (yc rfl tU111 us111 pl111 rfl rfl rfl rfl) <| g_uG (zu 1008 rfl rfl rfl tZ111) rfl <| g_u (zY rfl rfl rfl tS111 rfl rfl) <| zH <| zA <| zF <| zF <| zs yR <| g_u (xq rfl rfl) <| g_u (zo rfl rfl) <| g_u (zI rfl rfl fa109_0 rfl) <| g_u (ym rfl rfl rfl tA107 tS107 rfl rfl rfl) <| g_u (zk rfl rfl rfl tA111 tS111 rfl rfl) <| g_u (s_lookupKNo kok111 rfl rfl rfl rfl Try.underlying107 hm zv3 rfl) <| g_u (yq rfl rfl) <| g_u (zj rfl rfl rfl rfl) <| g_u (zj rfl rfl rfl rfl) <| g_u (zE rfl rfl) <| g_u (zE rfl rfl) ?_
  refine zH ⟨by kernel_rfl, ?_⟩
  refine zA <| zF <| zC <| g_u (zB rfl rfl) <| zH <| zA <| zc rfl <| zW <| zA <| zF <| zC <| g_u (xq rfl rfl) <| g_u (zo rfl rfl) <| g_u (zI rfl rfl fa109_0 rfl) <| g_u (ym rfl rfl rfl tA107 tS107 rfl rfl rfl) <| g_u (s_lenMp rfl rfl rfl Try.underlying107) <| g_u (zE rfl rfl) <| zH <| zA <| zF <| zs yR <| g_u (xq rfl rfl) <| g_u (zo rfl rfl) <| g_u (zI rfl rfl fa109_0 rfl) <| g_u (ym rfl rfl rfl tA107 tS107 rfl rfl rfl) <| g_u (zk rfl rfl rfl tA111 tS111 rfl rfl) <| g_u (zB rfl rfl) <| g_u (s_mapUpdateK kok111 rfl rfl rfl rfl Try.underlying107) ?_
  refine zH ⟨by kernel_rfl, ?_⟩
  refine zA <| zF <| zC <| g_u (zB rfl rfl) <| g_u (zE rfl rfl) <| g_u (zE rfl rfl) <| zH <| zA <| zd ?_
  exact ⟨⟨.inl ⟨_, rfl, ⟨(rfl : toAV (Al.look _ _) = some _).trans (congrArg some (by first | rfl | (rw [List.length_map]))), rfl⟩⟩, .inl ⟨_, rfl, ⟨(rfl : toAV (Al.look _ _) = some _).trans (congrArg some (by first | rfl | (rw [List.length_map]))), rfl⟩⟩, trivial⟩, ⟨rfl, (by show SV.mpr _ _ = _; rw [show yd ks k = ks ++ [k] from by simp only [yd, hm], show kputV ks (xw ks.length) k (iv (((ks.map av2).length : Nat) : Int)) = xw (ks ++ [k]).length from by simp only [kputV, hm, List.length_map, List.length_append, List.length_singleton]; exact numsI_snoc _]), trivial⟩⟩
def addN (ks : List K2) (k : K2) : AV := .v (.int .i64 (match zX ks k 0 with | some i => (i : Int) | none => (ks.length : Int)))
def addB (ks : List K2) (k : K2) : Bool := (zX ks k 0).isNone
theorem idAdd_c (ks : List K2) (k : K2) : MCall Try.prog Γ0 29 [.ptr 100001 0, .imm (.arr 16 k.1), .imm (.arr 8 k.2)] [(100001, .box 109 (.agg [.mref 100002])), (100002, .mpr (ks.map av2) (xw ks.length))] (.tup [.imm (addN ks k), .imm (bv (addB ks k))]) [(100001, .box 109 (.agg [.mref 100002])), (100002, .mpr ((yd ks k).map av2) (xw (yd ks k).length))] := by
  cases h : zX ks k 0 with
  | some i =>
    have e1 : addN ks k = iv (i : Int) := by simp only [addN, h]
    have e2 : addB ks k = false := by simp only [addB, h]; rfl
    have e3 : yd ks k = ks := by simp only [yd, h]
    rw [e1, e2, e3]; exact idAddY_c ks k i h
  | none =>
    have e1 : addN ks k = iv (ks.length : Int) := by simp only [addN, h]
    have e2 : addB ks k = true := by simp only [addB, h]; rfl
    have e3 : yd ks k = ks ++ [k] := by simp only [yd, h]
    rw [e1, e2, e3]; exact idAddN_c ks k h
theorem idFindY_c (ks : List K2) (k : K2) (i : Nat) (hm : zX ks k 0 = some i) : MCall Try.prog Γ0 30 [.ptr 100001 0, .imm (.arr 16 k.1), .imm (.arr 8 k.2)] [(100001, .box 109 (.agg [.mref 100002])), (100002, .mpr (ks.map av2) (xw ks.length))] (.tup [.imm (iv (i : Int)), .imm (bv true)]) [(100001, .box 109 (.agg [.mref 100002])), (100002, .mpr (ks.map av2) (xw ks.length))] := by
  refine mcall_of (rs := [.imm (iv (i : Int)), .imm (bv true)]) Try.func30 rfl Try.ntmps30 (by kernel_rfl) rfl rfl rfl rfl rfl fun w0 I0 G0 E => ?_
  refine zF <| zC <| g_uG (zV 1004 rfl rfl rfl rfl) rfl <| g_uG (zV 1005 rfl rfl rfl rfl) rfl <| g_u (zE rfl rfl) <| g_u (zE rfl rfl) <| zH <| zA <| zF <| zF <| zC <| g_u (xq rfl rfl) <| g_u (s_eqPp rfl rfl rfl Try.underlying79) <| zH <| zA <| zc rfl <| zW <| zA <| zF <| zs yR <| g_u (xq rfl rfl) <| g_u (zo rfl rfl) <| g_u (zI rfl rfl fa109_0 rfl) <| g_u (ym rfl rfl rfl tA107 tS107 rfl rfl rfl) <| g_u (zG rfl rfl rfl tA26 tS26 rfl rfl) <| g_u (zG rfl rfl rfl tA28 tS28 rfl rfl) <| g_u (yc rfl tU111 us111 pl111 rfl rfl rfl rfl) <| g_u (s_lookupKYes kok111 rfl rfl rfl rfl Try.underlying107 hm (numsI_get (zz hm).1)) <| g_u (yq rfl rfl) <| g_u (zj rfl rfl rfl rfl) <| g_u (zj rfl rfl rfl rfl) <| g_u (zE rfl rfl) <| g_u (zE rfl rfl) ?_
  refine zH ⟨by kernel_rfl, ?_⟩
  refine zA <| zF <| zC <| g_u (zB rfl rfl) <| g_u (zB rfl rfl) <| g_u (zE rfl rfl) <| g_u (zE rfl rfl) <| zH <| zA <| zd ?_
  exact ⟨⟨.inl ⟨_, rfl, ⟨(rfl : toAV (Al.look _ _) = some _).trans (congrArg some (by rfl)), rfl⟩⟩, .inl ⟨_, rfl, ⟨(rfl : toAV (Al.look _ _) = some _).trans (congrArg some (by rfl)), rfl⟩⟩, trivial⟩, ⟨rfl, rfl, trivial⟩⟩
theorem idFindIY_c (ks : List K2) (k : K2) (i : Nat) (hm : zX ks k 0 = some i) : z8 Try.prog Γ0 30 [.cp (.agg [.mp (ks.map av2) (xw ks.length)]), .arr 16 k.1, .arr 8 k.2] [iv (i : Int), bv true] := by
  refine zq Try.func30 rfl Try.ntmps30 (by kernel_rfl) rfl fun w0 I0 G0 => ?_
  refine zF <| zC <| g_uG (zV 1004 rfl rfl rfl rfl) rfl <| g_uG (zV 1005 rfl rfl rfl rfl) rfl <| g_u (zE rfl rfl) <| g_u (zE rfl rfl) <| zH <| zA <| zF <| zF <| zC <| g_u (zB rfl rfl) <| g_u (s_eqPc rfl rfl rfl Try.underlying79) <| zH <| zA <| zc rfl <| zW <| zA <| zF <| zs yR <| g_u (zB rfl rfl) <| g_u (yf rfl rfl) <| g_u (zJ rfl rfl fa109_0 rfl rfl) <| g_u (zO rfl rfl tA107 tS107 rfl rfl) <| g_u (zG rfl rfl rfl tA26 tS26 rfl rfl) <| g_u (zG rfl rfl rfl tA28 tS28 rfl rfl) <| g_u (yc rfl tU111 us111 pl111 rfl rfl rfl rfl) <| g_u (s_lookupIYes kok111 rfl rfl rfl Try.underlying107 hm (numsI_get (zz hm).1)) <| g_u (yq rfl rfl) <| g_u (zj rfl rfl rfl rfl) <| g_u (zj rfl rfl rfl rfl) <| g_u (zE rfl rfl) <| g_u (zE rfl rfl) ?_
  refine zH ⟨by kernel_rfl, ?_⟩
  refine zA <| zF <| zC <| g_u (zB rfl rfl) <| g_u (zB rfl rfl) <| g_u (zE rfl rfl) <| g_u (zE rfl rfl) <| zH <| zA <| zd ?_
  exact ⟨⟨(rfl : toAV (Al.look _ _) = some _).trans (congrArg some (by rfl)), rfl⟩, ⟨(rfl : toAV (Al.look _ _) = some _).trans (congrArg some (by rfl)), rfl⟩, trivial⟩
theorem idFindN_c (ks : List K2) (k : K2) (hm : zX ks k 0 = none) : MCall Try.prog Γ0 30 [.ptr 100001 0, .imm (.arr 16 k.1), .imm (.arr 8 k.2)] [(100001, .box 109 (.agg [.mref 100002])), (100002, .mpr (ks.map av2) (xw ks.length))] (.tup [.imm (iv 0), .imm (bv false)]) [(100001, .box 109 (.agg [.mref 100002])), (100002, .mpr (ks.map av2) (xw ks.length))] := by
  refine mcall_of (rs := [.imm (iv 0), .imm (bv false)]) Try.func30 rfl Try.ntmps30 (by kernel_rfl) rfl rfl rfl rfl rfl fun w0 I0 G0 E => ?_
  refine zF <| zC <| g_uG (zV 1004 rfl rfl rfl rfl) rfl <| g_uG (zV 1005 rfl rfl rfl rfl) rfl <| g_u (zE rfl rfl) <| g_u (zE rfl rfl) <| zH <| zA <| zF <| zF <| zC <| g_u (xq rfl rfl) <| g_u (s_eqPp rfl rfl rfl Try.underlying79) <| zH <| zA <| zc rfl <| zW <| zA <| zF <| zs yR <| g_u (xq rfl rfl) <| g_u (zo rfl rfl) <| g_u (zI rfl rfl fa109_0 rfl) <| g_u (ym rfl rfl rfl tA107 tS107 rfl rfl rfl) <| g_u (zG rfl rfl rfl tA26 tS26 rfl rfl) <| g_u (zG rfl rfl rfl tA28 tS28 rfl rfl) <| g_u (yc rfl tU111 us111 pl111 rfl rfl rfl rfl) <| g_u (s_lookupKNo kok111 rfl rfl rfl rfl Try.underlying107 hm zv3 rfl) <| g_u (yq rfl rfl) <| g_u (zj rfl rfl rfl rfl) <| g_u (zj rfl rfl rfl rfl) <| g_u (zE rfl rfl) <| g_u (zE rfl rfl) ?_
  refine zH ⟨by kernel_rfl, ?_⟩
  refine zA <| zF <| zC <| g_u (zB rfl rfl) <| g_u (zB rfl rfl) <| g_u (zE rfl rfl) <| g_u (zE rfl rfl) <| zH <| zA <| zd ?_
  exact ⟨⟨.inl ⟨_, rfl, ⟨(rfl : toAV (Al.look _ _) = some _).trans (congrArg some (by rfl)), rfl⟩⟩, .inl ⟨_, rfl, ⟨(rfl : toAV (Al.look _ _) = some _).trans (congrArg some (by rfl)), rfl⟩⟩, trivial⟩, ⟨rfl, rfl, trivial⟩⟩
theorem idFindIN_c (ks : List K2) (k : K2) (hm : zX ks k 0 = none) : z8 Try.prog Γ0 30 [.cp (.agg [.mp (ks.map av2) (xw ks.length)]), .arr 16 k.1, .arr 8 k.2] [iv 0, bv false] := by
  refine zq Try.func30 rfl Try.ntmps30 (by kernel_rfl) rfl fun w0 I0 G0 => ?_
  refine zF <| zC <| g_uG (zV 1004 rfl rfl rfl rfl) rfl <| g_uG (zV 1005 rfl rfl rfl rfl) rfl <| g_u (zE rfl rfl) <| g_u (zE rfl rfl) <| zH <| zA <| zF <| zF <| zC <| g_u (zB rfl rfl) <| g_u (s_eqPc rfl rfl rfl Try.underlying79) <| zH <| zA <| zc rfl <| zW <| zA <| zF <| zs yR <| g_u (zB rfl rfl) <| g_u (yf rfl rfl) <| g_u (zJ rfl rfl fa109_0 rfl rfl) <| g_u (zO rfl rfl tA107 tS107 rfl rfl) <| g_u (zG rfl rfl rfl tA26 tS26 rfl rfl) <| g_u (zG rfl rfl rfl tA28 tS28 rfl rfl) <| g_u (yc rfl tU111 us111 pl111 rfl rfl rfl rfl) <| g_u (s_lookupINo kok111 rfl rfl rfl Try.underlying107 hm zv3 rfl) <| g_u (yq rfl rfl) <| g_u (zj rfl rfl rfl rfl) <| g_u (zj rfl rfl rfl rfl) <| g_u (zE rfl rfl) <| g_u (zE rfl rfl) ?_
  refine zH ⟨by kernel_rfl, ?_⟩
  refine zA <| zF <| zC <| g_u (zB rfl rfl) <| g_u (zB rfl rfl) <| g_u (zE rfl rfl) <| g_u (zE rfl rfl) <| zH <| zA <| zd ?_
  exact ⟨⟨(rfl : toAV (Al.look _ _) = some _).trans (congrArg some (by rfl)), rfl⟩, ⟨(rfl : toAV (Al.look _ _) = some _).trans (congrArg some (by rfl)), rfl⟩, trivial⟩
def fndN (ks : List K2) (k : K2) : AV := .v (.int .i64 (match zX ks k 0 with | some i => (i : Int) | none => 0))
def fndB (ks : List K2) (k : K2) : Bool := (zX ks k 0).isSome
theorem idFind_c (ks : List K2) (k : K2) : MCall Try.prog Γ0 30 [.ptr 100001 0, .imm (.arr 16 k.1), .imm (.arr 8 k.2)] [(100001, .box 109 (.agg [.mref 100002])), (100002, .mpr (ks.map av2) (xw ks.length))] (.tup [.imm (fndN ks k), .imm (bv (fndB ks k))]) [(100001, .box 109 (.agg [.mref 100002])), (100002, .mpr (ks.map av2) (xw ks.length))] := by
  cases h : zX ks k 0 with
  | some i =>
    rw [show fndN ks k = iv (i : Int) from by simp only [fndN, h], show fndB ks k = true from by simp only [fndB, h]; rfl]; exact idFindY_c ks k i h
  | none =>
    rw [show fndN ks k = iv 0 from by simp only [fndN, h], show fndB ks k = false from by simp only [fndB, h]; rfl]; exact idFindN_c ks k h
set_option maxHeartbeats 1000000 in
theorem zero31_c (x : Bs) (h8 : x.length = 8) : z8 Try.prog Γ0 33 [.arr 8 x] [bv (xh x)] := by
  refine zq Try.func33 rfl Try.ntmps33 (by kernel_rfl) rfl fun w0 I0 G0 => ?_
  refine zF <| zC <| g_uG (zV 1001 rfl rfl rfl rfl) rfl <| g_u (zE rfl rfl) <| zH <| zA <| zF <| zF <| zC <| g_u (zE rfl rfl) <| zH <| zA <| za ?_
  refine yB (fun i : Nat => [(1, .ptr 1001 0), (1001, .box 28 (.imm (.arr 8 x))), (3, .imm (iv (i : Int)))]) (fun i => (i ≤ 8 ∧ xh (x.take i) = true)) (fun i => 8 - i) (0) ?_ ⟨rfl, rfl, rfl, trivial⟩ ?_
  · exact ⟨Nat.zero_le _, rfl⟩
  · rintro i ⟨h1, h2⟩; (try dsimp only at h1 h2)
    have ei : (0 + ((i : Nat) : Int).toNat) = i := by omega
    refine zF <| zF <| zC <| g_u (zB rfl rfl) <| g_u (y8 rfl rfl rfl) <| zH <| zA ?_
    refine zf rfl (fun hb1 => ?_) (fun hb1 => ?_)
    · have hi : i < 8 := by have := of_decide_eq_true hb1; omega
      refine zW <| zA <| zF <| za <| zF <| zC <| g_u (zB rfl rfl) ?_
      refine g_u (s_ixOwn rfl rfl rfl Try.underlying28 tS5 (by ((try simp only [qa, qb, qc, ne_eq, beq_iff_eq, qd, qe, Bool.not_eq_true', Bool.not_eq_false', gt_iff_lt, ge_iff_le] at *); (repeat simp (disch := omega) only [ze, xJ] at *)); omega)) ?_
      refine g_u (s_loadByte rfl rfl rfl tA5 tS5 (by (try dsimp only); omega)) ?_
      refine g_u (s_neI rfl rfl rfl) <| zH <| zA ?_
      refine zf rfl (fun hb2 => ?_) (fun hb2 => ?_)
      · have q : ¬ (((x.getD i 0).toNat : Nat) : Int) = 0 := by have e := qc.1 hb2; rw [ei] at e; exact e
        refine zF <| zC <| g_u (zE rfl rfl) <| zH <| zA <| zd <| yT <| zh <| zh <| yT <| zh ?_
        exact ⟨⟨(rfl : toAV (Al.look _ _) = some _).trans (congrArg some (by (first | (rw [zeros_at (by omega) q]; done) | (rw [← h2, hin, ← h8, List.take_length])))), rfl⟩, trivial⟩
      · have q : (((x.getD i 0).toNat : Nat) : Int) = 0 := by have e := qd.1 hb2; rw [ei] at e; exact e
        refine zW <| zT <| zA <| zC <| g_u (zB rfl rfl) <| g_u (yh rfl rfl rfl) <| g_u (zE rfl rfl) <| zH <| zA ?_
        refine ⟨i + 1, ⟨hi, by (try dsimp only); rw [zeros_take (by omega), h2, q]; rfl⟩, ⟨rfl, rfl, zb rfl (by rw [ze (by omega) (by omega)]; rfl), trivial⟩, by (try dsimp only); omega⟩
    · have hin : i = 8 := by have := of_decide_eq_false hb1; omega
      refine yA <| zU <| zU <| zx <| zA <| zF <| zC <| g_u (zE rfl rfl) <| zH <| zA <| zd ?_
      exact ⟨⟨(rfl : toAV (Al.look _ _) = some _).trans (congrArg some (by (first | (rw [zeros_at (by omega) q]; done) | (rw [← h2, hin, ← h8, List.take_length])))), rfl⟩, trivial⟩
set_option maxHeartbeats 4000000 in
theorem rfind_c (l : List GCore) (k : K2) (hl : l.length ≤ 9000000) : z8 Try.prog Γ0 12 [.sl 35 (l.map GCore.av), .arr 16 k.1, .arr 8 k.2] [iv (yE l k)] := by
  refine zq Try.func12 rfl Try.ntmps12 (by kernel_rfl) rfl fun w0 I0 G0 => ?_
  refine zF <| zC <| g_uG (zV 1004 rfl rfl rfl rfl) rfl <| g_uG (zV 1005 rfl rfl rfl rfl) rfl <| g_u (zE rfl rfl) <| zH <| zA <| zF <| zF <| zC <| g_u (zE rfl rfl) <| zH <| zA <| za ?_
  refine yB (fun i : Nat => [(0, .imm (.sl 35 (l.map GCore.av))), (4, .ptr 1004 0), (1004, .box 26 (.imm (.arr 16 k.1))), (5, .ptr 1005 0), (1005, .box 28 (.imm (.arr 8 k.2))), (7, .imm (iv (i : Int)))]) (fun i => (i ≤ l.length ∧ zX (K1 (l.take i)) k 0 = none)) (fun i => l.length - i) (0) ?_ ⟨rfl, rfl, rfl, rfl, rfl, rfl, trivial⟩ ?_
  · exact ⟨Nat.zero_le _, rfl⟩
  · rintro i ⟨h1, h2⟩; (try dsimp only at h1 h2)
    refine zF <| zF <| zC <| g_u (zB rfl rfl) <| g_u (zB rfl rfl) <| g_u (yF rfl rfl Try.underlying33) <| g_u (y8 rfl rfl rfl) <| zH <| zA ?_
    refine zf rfl (fun hb1 => ?_) (fun hb1 => ?_)
    · have hi : i < l.length := by have := of_decide_eq_true hb1; (try simp only [List.length_map] at this); omega
      refine zW <| zA <| zF <| za <| zF <| zs yR <| g_u (zB rfl rfl) <| g_u (zB rfl rfl) ?_
      refine g_u (zK rfl rfl rfl Try.underlying33 tS44 (by omega) (ixK hi)) ?_
      refine g_u (zJ rfl rfl fa44_0 rfl rfl) <| g_u (zO rfl rfl tA26 tS26 rfl rfl) <| g_u (zG rfl rfl rfl tA26 tS26 rfl rfl) <| g_u (s_eqA rfl rfl rfl eg26 rfl rfl (eq26 _ _)) <| g_u (zB rfl rfl) <| z6 (t := 21) rfl ?_
      rintro (hb2 | hb2)
      · rw [hb2]
        have q1 : (nthK l i).trace = k.1 := by have e := hb2; simpa using e
        refine zN rfl rfl (zB rfl rfl) <| zN rfl rfl (zB rfl rfl) ?_
        refine zN rfl rfl (zK rfl rfl rfl Try.underlying33 tS44 (by omega) (ixK hi)) ?_
        refine zN rfl rfl (zJ rfl rfl fa44_1 rfl rfl) <| zN rfl rfl (zO rfl rfl tA28 tS28 rfl rfl) <| zN rfl rfl (zG rfl rfl rfl tA28 tS28 rfl rfl) <| zN rfl rfl (s_eqA rfl rfl rfl eg28 rfl rfl (eq28 _ _)) <| g_u (zi rfl rfl rfl) ?_
        refine zH ⟨by kernel_rfl, ?_⟩
        refine zA ?_
        refine zf rfl (fun hb3 => ?_) (fun hb3 => ?_)
        · have q2 : (nthK l i).id = k.2 := by have e := hb3; simpa using e
          have heq : yW (nthK l i) = k := Prod.ext q1 q2
          refine zF <| zC <| g_u (zB rfl rfl) <| g_u (zE rfl rfl) <| zH <| zA <| zd <| yT <| zh <| zh <| yT <| zh ?_
          exact ⟨⟨(rfl : toAV (Al.look _ _) = some _).trans (congrArg some (by (first | (rw [find_here hi h2 heq]; done) | (rw [find_end hin h2])))), rfl⟩, trivial⟩
        · have q2 : ¬ (nthK l i).id = k.2 := by have e := hb3; simpa using e
          have hne : ¬ yW (nthK l i) = k := fun e => q2 (by rw [← e]; rfl)
          refine zW <| zT <| zA <| zC <| g_u (zB rfl rfl) <| g_u (yh rfl rfl rfl) <| g_u (zE rfl rfl) <| zH <| zA ?_
          refine ⟨i + 1, ⟨hi, find_next hi h2 hne⟩, ⟨rfl, rfl, rfl, rfl, rfl, zb rfl (by rw [ze (by omega) (by omega)]; rfl), trivial⟩, by (try dsimp only); omega⟩
      · rw [hb2]
        have q1 : ¬ (nthK l i).trace = k.1 := by have e := hb2; simpa using e
        have hne : ¬ yW (nthK l i) = k := fun e => q1 (by rw [← e]; rfl)
        refine zQ rfl rfl rfl <| zQ rfl rfl rfl <| zQ rfl rfl rfl <| zQ rfl rfl rfl <| zQ rfl rfl rfl <| zQ rfl rfl rfl <| zQ rfl rfl rfl <| g_u (z0 rfl rfl rfl) ?_
        refine zH ⟨by kernel_rfl, ?_⟩
        refine zA <| zc rfl <| zW <| zT <| zA <| zC <| g_u (zB rfl rfl) <| g_u (yh rfl rfl rfl) <| g_u (zE rfl rfl) <| zH <| zA ?_
        refine ⟨i + 1, ⟨hi, find_next hi h2 hne⟩, ⟨rfl, rfl, rfl, rfl, rfl, zb rfl (by rw [ze (by omega) (by omega)]; rfl), trivial⟩, by (try dsimp only); omega⟩
    · have hin : i = l.length := by have := of_decide_eq_false hb1; (try simp only [List.length_map] at this); omega
      refine yA <| zU <| zU <| zx <| zA <| zF <| zC <| g_u (zE rfl rfl) <| zH <| zA <| zd ?_
      exact ⟨⟨(rfl : toAV (Al.look _ _) = some _).trans (congrArg some (by (first | (rw [find_here hi h2 heq]; done) | (rw [find_end hin h2])))), rfl⟩, trivial⟩
set_option maxHeartbeats 4000000 in
theorem rkids_c (l : List GCore) (k : K2) (h8 : k.2.length = 8) (hl : l.length ≤ 9000000) : z8 Try.prog Γ0 15 [.sl 35 (l.map GCore.av), .arr 16 k.1, .arr 8 k.2] [.sl 1 (ivs ((List.range l.length).filter (kzP l k)))] := by
  refine zq Try.func15 rfl Try.ntmps15 (by kernel_rfl) rfl fun w0 I0 G0 => ?_
  refine zF <| zC <| g_uG (zV 1004 rfl rfl rfl rfl) rfl <| g_uG (zV 1005 rfl rfl rfl rfl) rfl <| g_u (zE rfl rfl) <| zH <| zA <| zF <| zC <| g_u (zE rfl rfl) <| zH <| zA <| zF <| zF <| aw_newtok 3007 7 1 rfl rfl rfl rfl <| zC <| g_u (zE rfl rfl) <| zH <| zA <| za ?_
  refine yB (fun i : Nat => [(0, .imm (.sl 35 (l.map GCore.av))), (4, .ptr 1004 0), (1004, .box 26 (.imm (.arr 16 k.1))), (5, .ptr 1005 0), (1005, .box 28 (.imm (.arr 8 k.2))), (7, .slg 3007 1 (ivs ((List.range i).filter (kzP l k)))), (3007, .tok 1 (ivs ((List.range i).filter (kzP l k)))), (8, .imm (iv (i : Int)))]) (fun i => i ≤ l.length) (fun i => l.length - i) (0) ?_ ⟨rfl, rfl, rfl, rfl, rfl, rfl, rfl, rfl, trivial⟩ ?_
  · exact Nat.zero_le _
  · rintro i h1; have h1 : i ≤ l.length := h1
    refine zF <| zF <| zC <| g_u (zB rfl rfl) <| g_u (zB rfl rfl) <| g_u (yF rfl rfl Try.underlying33) <| g_u (y8 rfl rfl rfl) <| zH <| zA ?_
    refine zf rfl (fun hb1 => ?_) (fun hb1 => ?_)
    · have hi : i < l.length := by have := of_decide_eq_true hb1; (try simp only [List.length_map] at this); omega
      refine zW <| zA <| zF <| za <| zF <| zs yR <| g_u (zB rfl rfl) <| g_u (zB rfl rfl) ?_
      refine g_u (zK rfl rfl rfl Try.underlying33 tS44 (by omega) (ixK hi)) ?_
      refine g_u (zJ rfl rfl fa44_0 rfl rfl) <| g_u (zO rfl rfl tA26 tS26 rfl rfl) <| g_u (zG rfl rfl rfl tA26 tS26 rfl rfl) <| g_u (s_eqA rfl rfl rfl eg26 rfl rfl (eq26 _ _)) <| g_u (zB rfl rfl) <| z6 (t := 22) rfl ?_
      rintro (hb2 | hb2)
      · rw [hb2]
        have q1 : (nthK l i).trace = k.1 := by have e := hb2; simpa using e
        refine zN rfl rfl (zB rfl rfl) <| zN rfl rfl (zB rfl rfl) ?_
        refine zN rfl rfl (zK rfl rfl rfl Try.underlying33 tS44 (by omega) (ixK hi)) ?_
        refine zN rfl rfl (zJ rfl rfl fa44_2 rfl rfl) <| zN rfl rfl (zO rfl rfl tA28 tS28 rfl rfl) <| zN rfl rfl (zG rfl rfl rfl tA28 tS28 rfl rfl) <| zN rfl rfl (s_eqA rfl rfl rfl eg28 rfl rfl (eq28 _ _)) <| g_u (zi rfl rfl rfl) <| g_u (zB rfl rfl) <| z6 (t := 31) rfl ?_
        rintro (hb3 | hb3)
        · rw [hb3]
          have q2 : (nthK l i).parent = k.2 := by have e := hb3; simpa using e
          refine zN rfl rfl (zG rfl rfl rfl tA28 tS28 rfl rfl) <| zN rfl rfl (zP (zero31_c k.2 h8) rfl rfl) <| zN rfl rfl (s_not rfl rfl) <| g_u (zi rfl rfl rfl) ?_
          refine zH ⟨by kernel_rfl, ?_⟩
          refine zA ?_
          refine zf rfl (fun hb4 => ?_) (fun hb4 => ?_)
          · have q3 : xh k.2 = false := by have e := hb4; simpa using e
            have er : (ivs ((List.range (i + 1)).filter (kzP l k))) = (ivs ((List.range i).filter (kzP l k))) ++ [iv (i : Int)] := rng_yes (kz_y q1 q2 q3)
            refine zC <| g_u (xZ rfl rfl) <| g_u (zB rfl rfl) <| g_u (z7 (X0 := z3) rfl Try.underlying48 tS3 tZ3 rfl rfl rfl rfl rfl rfl rfl rfl) ?_
            refine g_u (yi rfl rfl rfl rfl rfl Try.underlying48 Try.underlying48 tS3 zv3 rfl (by decide) by3 (by (try dsimp only); simp only [ivs, List.length_append, List.length_cons, List.length_nil, List.length_map]; have := xA (kzP l k) i; omega) (by (try dsimp only); simp only [ivs, List.length_append, List.length_cons, List.length_nil, List.length_map]; have := xA (kzP l k) i; omega)) ?_
            refine g_u (yp rfl rfl) <| zH <| zT <| zA <| zC <| g_u (zB rfl rfl) <| g_u (yh rfl rfl rfl) <| g_u (zE rfl rfl) <| zH <| zA ?_
            refine ⟨i + 1, hi, ⟨rfl, rfl, rfl, rfl, rfl, yr rfl er.symm, yt rfl er.symm, zb rfl (by rw [ze (by omega) (by omega)]; rfl), trivial⟩, by (try dsimp only); omega⟩
          · have q3 : xh k.2 = true := by have e := hb4; simpa using e
            have er : (ivs ((List.range (i + 1)).filter (kzP l k))) = (ivs ((List.range i).filter (kzP l k))) := rng_no (kz_3 q3)
            refine zW <| zT <| zA <| zC <| g_u (zB rfl rfl) <| g_u (yh rfl rfl rfl) <| g_u (zE rfl rfl) <| zH <| zA ?_
            refine ⟨i + 1, hi, ⟨rfl, rfl, rfl, rfl, rfl, yr rfl er.symm, yt rfl er.symm, zb rfl (by rw [ze (by omega) (by omega)]; rfl), trivial⟩, by (try dsimp only); omega⟩
        · rw [hb3]
          have q2 : ¬ (nthK l i).parent = k.2 := by have e := hb3; simpa using e
          have er : (ivs ((List.range (i + 1)).filter (kzP l k))) = (ivs ((List.range i).filter (kzP l k))) := rng_no (kz_2 q2)
          refine zQ rfl rfl rfl <| zQ rfl rfl rfl <| zQ rfl rfl rfl <| g_u (z0 rfl rfl rfl) ?_
          refine zH ⟨by kernel_rfl, ?_⟩
          refine zA <| zc rfl <| zW <| zT <| zA <| zC <| g_u (zB rfl rfl) <| g_u (yh rfl rfl rfl) <| g_u (zE rfl rfl) <| zH <| zA ?_
          refine ⟨i + 1, hi, ⟨rfl, rfl, rfl, rfl, rfl, yr rfl er.symm, yt rfl er.symm, zb rfl (by rw [ze (by omega) (by omega)]; rfl), trivial⟩, by (try dsimp only); omega⟩
      · rw [hb2]
        have q1 : ¬ (nthK l i).trace = k.1 := by have e := hb2; simpa using e
        have er : (ivs ((List.range (i + 1)).filter (kzP l k))) = (ivs ((List.range i).filter (kzP l k))) := rng_no (kz_1 q1)
        refine zQ rfl rfl rfl <| zQ rfl rfl rfl <| zQ rfl rfl rfl <| zQ rfl rfl rfl <| zQ rfl rfl rfl <| zQ rfl rfl rfl <| zQ rfl rfl rfl <| g_u (z0 rfl rfl rfl) <| g_u (zB rfl rfl) <| zQ rfl rfl rfl <| zQ rfl rfl rfl <| zQ rfl rfl rfl <| g_u (z0 rfl rfl rfl) ?_
        refine zH ⟨by kernel_rfl, ?_⟩
        refine zA <| zc rfl <| zW <| zT <| zA <| zC <| g_u (zB rfl rfl) <| g_u (yh rfl rfl rfl) <| g_u (zE rfl rfl) <| zH <| zA ?_
        refine ⟨i + 1, hi, ⟨rfl, rfl, rfl, rfl, rfl, yr rfl er.symm, yt rfl er.symm, zb rfl (by rw [ze (by omega) (by omega)]; rfl), trivial⟩, by (try dsimp only); omega⟩
    · have hin : i = l.length := by have := of_decide_eq_false hb1; (try simp only [List.length_map] at this); omega
      subst hin
      refine yA <| zU <| zU <| zx <| zA <| zF <| zC <| g_u (xZ rfl rfl) <| g_u (yp rfl rfl) <| zH <| zA <| zd ?_
      exact ⟨⟨(rfl : toAV (Al.look _ _) = some _).trans (congrArg some (by rfl)), rfl⟩, trivial⟩
set_option maxHeartbeats 4000000 in
theorem rroots_c (l : List GCore) (h8 : ∀ c ∈ l, c.parent.length = 8) (hl : l.length ≤ 9000000) : z8 Try.prog Γ0 17 [.sl 35 (l.map GCore.av)] [.sl 1 (ivs ((List.range l.length).filter (rtP l)))] := by
  refine zq Try.func17 rfl Try.ntmps17 (by kernel_rfl) rfl fun w0 I0 G0 => ?_
  refine zF <| zC <| g_u (zE rfl rfl) <| zH <| zA <| zF <| zC <| g_u (zE rfl rfl) <| zH <| zA <| zF <| zF <| aw_newtok 3003 3 1 rfl rfl rfl rfl <| zC <| g_u (zE rfl rfl) <| zH <| zA <| za ?_
  refine yB (fun i : Nat => [(0, .imm (.sl 35 (l.map GCore.av))), (3, .slg 3003 1 (ivs ((List.range i).filter (rtP l)))), (3003, .tok 1 (ivs ((List.range i).filter (rtP l)))), (4, .imm (iv (i : Int)))]) (fun i => i ≤ l.length) (fun i => l.length - i) (0) ?_ ⟨rfl, rfl, rfl, rfl, trivial⟩ ?_
  · exact Nat.zero_le _
  · rintro i h1; have h1 : i ≤ l.length := h1
    refine zF <| zF <| zC <| g_u (zB rfl rfl) <| g_u (zB rfl rfl) <| g_u (yF rfl rfl Try.underlying33) <| g_u (y8 rfl rfl rfl) <| zH <| zA ?_
    refine zf rfl (fun hb1 => ?_) (fun hb1 => ?_)
    · have hi : i < l.length := by have := of_decide_eq_true hb1; (try simp only [List.length_map] at this); omega
      have hp8 := h8 _ (wG (d := gk0) hi)
      refine zW <| zA <| zF <| za <| zF <| zs yR <| g_u (zB rfl rfl) <| g_u (zB rfl rfl) ?_
      refine g_u (zK rfl rfl rfl Try.underlying33 tS44 (by omega) (ixK hi)) ?_
      refine g_u (zJ rfl rfl fa44_2 rfl rfl) <| g_u (zO rfl rfl tA28 tS28 rfl rfl) <| g_u (zP (zero31_c (nthK l i).parent hp8) rfl rfl) <| g_u (zB rfl rfl) <| z6 (t := 17) rfl ?_
      rintro (hb2 | hb2)
      · rw [hb2]
        have q1 : xh (nthK l i).parent = true := hb2
        have hp : rtP l i = true := by unfold rtP; rw [q1]; first | rfl | (rw [decide_eq_true q2]; rfl) | (rw [decide_eq_false q2]; rfl)
        have er : (ivs ((List.range (i + 1)).filter (rtP l))) = (ivs ((List.range i).filter (rtP l))) ++ [iv (i : Int)] := rng_yes hp
        refine zQ rfl rfl rfl <| zQ rfl rfl rfl <| zQ rfl rfl rfl <| zQ rfl rfl rfl <| zQ rfl rfl rfl <| zQ rfl rfl rfl <| zQ rfl rfl rfl <| zQ rfl rfl rfl <| zQ rfl rfl rfl <| zQ rfl rfl rfl <| zQ rfl rfl rfl <| zQ rfl rfl rfl <| zQ rfl rfl rfl <| g_u (zi rfl rfl rfl) ?_
        refine zH ⟨by kernel_rfl, ?_⟩
        refine zA <| yD rfl <| zC <| g_u (xZ rfl rfl) <| g_u (zB rfl rfl) <| g_u (z7 (X0 := z3) rfl Try.underlying48 tS3 tZ3 rfl rfl rfl rfl rfl rfl rfl rfl) ?_
        refine g_u (yi rfl rfl rfl rfl rfl Try.underlying48 Try.underlying48 tS3 zv3 rfl (by decide) by3 (by (try dsimp only); simp only [ivs, List.length_append, List.length_cons, List.length_nil, List.length_map]; have := xA (rtP l) i; omega) (by (try dsimp only); simp only [ivs, List.length_append, List.length_cons, List.length_nil, List.length_map]; have := xA (rtP l) i; omega)) ?_
        refine g_u (yp rfl rfl) <| zH <| zT <| zA <| zC <| g_u (zB rfl rfl) <| g_u (yh rfl rfl rfl) <| g_u (zE rfl rfl) <| zH <| zA ?_
        refine ⟨i + 1, hi, ⟨rfl, yr rfl er.symm, yt rfl er.symm, zb rfl (by rw [ze (by omega) (by omega)]; rfl), trivial⟩, by (try dsimp only); omega⟩
      · rw [hb2]
        have q1 : xh (nthK l i).parent = false := hb2
        refine zN rfl rfl (zB rfl rfl) <| zN rfl rfl (zB rfl rfl) <| zN rfl rfl (zB rfl rfl) ?_
        refine zN rfl rfl (zK rfl rfl rfl Try.underlying33 tS44 (by omega) (ixK hi)) ?_
        refine zN rfl rfl (zJ rfl rfl fa44_0 rfl rfl) <| zN rfl rfl (zO rfl rfl tA26 tS26 rfl rfl) <| zN rfl rfl (zB rfl rfl) <| zN rfl rfl (zB rfl rfl) ?_
        refine zN rfl rfl (zK rfl rfl rfl Try.underlying33 tS44 (by omega) (ixK hi)) ?_
        refine zN rfl rfl (zJ rfl rfl fa44_2 rfl rfl) <| zN rfl rfl (zO rfl rfl tA28 tS28 rfl rfl) <| zN rfl rfl (zP (rfind_c l (xU (nthK l i)) hl) rfl rfl) <| zN rfl rfl (y8 rfl rfl rfl) <| g_u (z0 rfl rfl rfl) ?_
        refine zH ⟨by kernel_rfl, ?_⟩
        refine zA ?_
        refine zf rfl (fun hb3 => ?_) (fun hb3 => ?_)
        · have q2 : yE l (xU (nthK l i)) < 0 := of_decide_eq_true hb3
          have hp : rtP l i = true := by unfold rtP; rw [q1]; first | rfl | (rw [decide_eq_true q2]; rfl) | (rw [decide_eq_false q2]; rfl)
          have er : (ivs ((List.range (i + 1)).filter (rtP l))) = (ivs ((List.range i).filter (rtP l))) ++ [iv (i : Int)] := rng_yes hp
          refine zC <| g_u (xZ rfl rfl) <| g_u (zB rfl rfl) <| g_u (z7 (X0 := z3) rfl Try.underlying48 tS3 tZ3 rfl rfl rfl rfl rfl rfl rfl rfl) ?_
          refine g_u (yi rfl rfl rfl rfl rfl Try.underlying48 Try.underlying48 tS3 zv3 rfl (by decide) by3 (by (try dsimp only); simp only [ivs, List.length_append, List.length_cons, List.length_nil, List.length_map]; have := xA (rtP l) i; omega) (by (try dsimp only); simp only [ivs, List.length_append, List.length_cons, List.length_nil, List.length_map]; have := xA (rtP l) i; omega)) ?_
          refine g_u (yp rfl rfl) <| zH <| zT <| zA <| zC <| g_u (zB rfl rfl) <| g_u (yh rfl rfl rfl) <| g_u (zE rfl rfl) <| zH <| zA ?_
          refine ⟨i + 1, hi, ⟨rfl, yr rfl er.symm, yt rfl er.symm, zb rfl (by rw [ze (by omega) (by omega)]; rfl), trivial⟩, by (try dsimp only); omega⟩
        · have q2 : ¬ yE l (xU (nthK l i)) < 0 := of_decide_eq_false hb3
          have hp : rtP l i = false := by unfold rtP; rw [q1]; first | rfl | (rw [decide_eq_true q2]; rfl) | (rw [decide_eq_false q2]; rfl)
          have er : (ivs ((List.range (i + 1)).filter (rtP l))) = (ivs ((List.range i).filter (rtP l))) := rng_no hp
          refine zW <| zT <| zA <| zC <| g_u (zB rfl rfl) <| g_u (yh rfl rfl rfl) <| g_u (zE rfl rfl) <| zH <| zA ?_
          refine ⟨i + 1, hi, ⟨rfl, yr rfl er.symm, yt rfl er.symm, zb rfl (by rw [ze (by omega) (by omega)]; rfl), trivial⟩, by (try dsimp only); omega⟩
    · have hin : i = l.length := by have := of_decide_eq_false hb1; (try simp only [List.length_map] at this); omega
      subst hin
      refine yA <| zU <| zU <| zx <| zA <| zF <| zC <| g_u (xZ rfl rfl) <| g_u (yp rfl rfl) <| zH <| zA <| zd ?_
      exact ⟨⟨(rfl : toAV (Al.look _ _) = some _).trans (congrArg some (by rfl)), rfl⟩, trivial⟩
set_option maxHeartbeats 4000000 in
theorem rtwice_c (l : List GCore) (hl : l.length ≤ 9000000) : z8 Try.prog Γ0 19 [.sl 35 (l.map GCore.av)] [.sl 1 (ivs ((List.range l.length).filter (twP l)))] := by
  refine zq Try.func19 rfl Try.ntmps19 (by kernel_rfl) rfl fun w0 I0 G0 => ?_
  refine zF <| zC <| g_u (zE rfl rfl) <| zH <| zA <| zF <| zC <| g_u (zE rfl rfl) <| zH <| zA <| zF <| zF <| aw_newtok 3003 3 1 rfl rfl rfl rfl <| zC <| g_u (zE rfl rfl) <| zH <| zA <| za ?_
  refine yB (fun i : Nat => [(0, .imm (.sl 35 (l.map GCore.av))), (3, .slg 3003 1 (ivs ((List.range i).filter (twP l)))), (3003, .tok 1 (ivs ((List.range i).filter (twP l)))), (4, .imm (iv (i : Int)))]) (fun i => i ≤ l.length) (fun i => l.length - i) (0) ?_ ⟨rfl, rfl, rfl, rfl, trivial⟩ ?_
  · exact Nat.zero_le _
  · rintro i h1; have h1 : i ≤ l.length := h1
    refine zF <| zF <| zC <| g_u (zB rfl rfl) <| g_u (zB rfl rfl) <| g_u (yF rfl rfl Try.underlying33) <| g_u (y8 rfl rfl rfl) <| zH <| zA ?_
    refine zf rfl (fun hb1 => ?_) (fun hb1 => ?_)
    · have hi : i < l.length := by have := of_decide_eq_true hb1; (try simp only [List.length_map] at this); omega
      refine zW <| zA <| zF <| za <| zF <| zs yR <| g_u (zB rfl rfl) <| g_u (zB rfl rfl) <| g_u (zB rfl rfl) ?_
      refine g_u (zK rfl rfl rfl Try.underlying33 tS44 (by omega) (ixK hi)) ?_
      refine g_u (zJ rfl rfl fa44_0 rfl rfl) <| g_u (zO rfl rfl tA26 tS26 rfl rfl) <| g_u (zB rfl rfl) <| g_u (zB rfl rfl) ?_
      refine g_u (zK rfl rfl rfl Try.underlying33 tS44 (by omega) (ixK hi)) ?_
      refine g_u (zJ rfl rfl fa44_1 rfl rfl) <| g_u (zO rfl rfl tA28 tS28 rfl rfl) <| g_u (zP (rfind_c l (yW (nthK l i)) hl) rfl rfl) <| g_u (zB rfl rfl) <| g_u (y8 rfl rfl rfl) ?_
      refine zH ⟨by kernel_rfl, ?_⟩
      refine zA ?_
      refine zf rfl (fun hb2 => ?_) (fun hb2 => ?_)
      · have er : (ivs ((List.range (i + 1)).filter (twP l))) = (ivs ((List.range i).filter (twP l))) ++ [iv (i : Int)] := rng_yes (show twP l i = true from hb2)
        refine zC <| g_u (xZ rfl rfl) <| g_u (zB rfl rfl) <| g_u (z7 (X0 := z3) rfl Try.underlying48 tS3 tZ3 rfl rfl rfl rfl rfl rfl rfl rfl) ?_
        refine g_u (yi rfl rfl rfl rfl rfl Try.underlying48 Try.underlying48 tS3 zv3 rfl (by decide) by3 (by (try dsimp only); simp only [ivs, List.length_append, List.length_cons, List.length_nil, List.length_map]; have := xA (twP l) i; omega) (by (try dsimp only); simp only [ivs, List.length_append, List.length_cons, List.length_nil, List.length_map]; have := xA (twP l) i; omega)) ?_
        refine g_u (yp rfl rfl) <| zH <| zT <| zA <| zC <| g_u (zB rfl rfl) <| g_u (yh rfl rfl rfl) <| g_u (zE rfl rfl) <| zH <| zA ?_
        refine ⟨i + 1, hi, ⟨rfl, yr rfl er.symm, yt rfl er.symm, zb rfl (by rw [ze (by omega) (by omega)]; rfl), trivial⟩, by (try dsimp only); omega⟩
      · have er : (ivs ((List.range (i + 1)).filter (twP l))) = (ivs ((List.range i).filter (twP l))) := rng_no (show twP l i = false from hb2)
        refine zW <| zT <| zA <| zC <| g_u (zB rfl rfl) <| g_u (yh rfl rfl rfl) <| g_u (zE rfl rfl) <| zH <| zA ?_
        refine ⟨i + 1, hi, ⟨rfl, yr rfl er.symm, yt rfl er.symm, zb rfl (by rw [ze (by omega) (by omega)]; rfl), trivial⟩, by (try dsimp only); omega⟩
    · have hin : i = l.length := by have := of_decide_eq_false hb1; (try simp only [List.length_map] at this); omega
      subst hin
      refine yA <| zU <| zU <| zx <| zA <| zF <| zC <| g_u (xZ rfl rfl) <| g_u (yp rfl rfl) <| zH <| zA <| zd ?_
      exact ⟨⟨(rfl : toAV (Al.look _ _) = some _).trans (congrArg some (by rfl)), rfl⟩, trivial⟩
end Go.Proofs
namespace Go.Proofs
open Go Go.Al
def plN (b : List GRes) (j : Nat) : AV := plav (nth (plR 0 b) j (0, 0, 0))
theorem kidx_lt {κ : Type} [DecidableEq κ] (ks : List κ) (k : κ) : kidx ks k < (yd ks k).length := by
  unfold kidx yd
  cases h : zX ks k 0 with
  | some i => exact (zz h).1
  | none => simp
def fndP (ks : List K2) (k : K2) : Bool := (zX ks k 0).isSome
theorem yk (b : List GRes) : (zD b).length = (plR 0 b).length := by
  show (List.map xT (allS b)).length = _
  rw [List.length_map, ← allS_eq, List.length_map]
theorem xi {b : List GRes} {i : Nat} {p : Nat × Nat × Nat} (h : (plR 0 b)[i]? = some p) : i < (zD b).length ∧ nth (plR 0 b) i (0, 0, 0) = p ∧ nthK (zD b) i = xT (spAt b p) := by
  have hi := (List.getElem?_eq_some_iff.1 h).1
  have h1 := yP (d := (0, 0, 0)) hi
  rw [h] at h1
  refine ⟨by rw [yk]; exact hi, (Option.some.inj h1).symm, ?_⟩
  have h2 : (zD b)[i]? = some (xT (spAt b p)) := by
    show (List.map xT (allS b))[i]? = _
    rw [← allS_eq, List.getElem?_map, List.getElem?_map, h]; rfl
  have h3 := yP (d := gk0) (show i < (zD b).length by rw [yk]; exact hi)
  rw [h2] at h3
  exact (Option.some.inj h3).symm
section
variable {b : List GRes} {i : Nat} {p : Nat × Nat × Nat}
theorem ixs_sk (h : (plR 0 b)[i]? = some p) : (ixF ((zD b).take (i + 1))).sk = yd (ixF ((zD b).take i)).sk ((spAt b p).trace, (spAt b p).id) := by
  obtain ⟨h1, h2, h3⟩ := xi h
  rw [yz h1, xt, h3]; rfl
theorem ixs_kk (h : (plR 0 b)[i]? = some p) : (ixF ((zD b).take (i + 1))).kk = yd (ixF ((zD b).take i)).kk ((spAt b p).trace, (spAt b p).parent) := by
  obtain ⟨h1, h2, h3⟩ := xi h
  rw [yz h1, xt, h3]; rfl
theorem ixs_rows (h : (plR 0 b)[i]? = some p) : (kpad (ixF ((zD b).take i)).kk ((ixF ((zD b).take i)).rows.map fun r => r.map (plN b)) ((spAt b p).trace, (spAt b p).parent)).set (kidx (ixF ((zD b).take i)).kk ((spAt b p).trace, (spAt b p).parent))
    ((rowK (ixF ((zD b).take i)).kk (ixF ((zD b).take i)).rows ((spAt b p).trace, (spAt b p).parent)).map (plN b) ++ [plav p]) = (ixF ((zD b).take (i + 1))).rows.map fun r => r.map (plN b) := by
  obtain ⟨h1, h2, h3⟩ := xi h
  have hn := ix_n ((zD b).take i)
  rw [List.length_take, Nat.min_eq_left (by omega)] at hn
  have e : [plav p] = [i].map (plN b) := by simp [plN, h2]
  rw [e, ← List.map_append, rowKP_av _ (ix_kl _)]
  rw [yz h1, xt, h3]
  show _ = (rowKP _ _ _ (rowK _ _ _ ++ [(ixF ((zD b).take i)).n])).map _
  rw [hn]; rfl
theorem ixs_new (h : (plR 0 b)[i]? = some p) (q : (zX (ixF ((zD b).take i)).sk ((spAt b p).trace, (spAt b p).id) 0).isNone = true) :
    (ixF ((zD b).take (i + 1))).fi.map (plN b) = (ixF ((zD b).take i)).fi.map (plN b) ++ [plav p] ∧ (ixF ((zD b).take (i + 1))).tw = (ixF ((zD b).take i)).tw := by
  obtain ⟨h1, h2, h3⟩ := xi h
  have hn := ix_n ((zD b).take i)
  rw [List.length_take, Nat.min_eq_left (by omega)] at hn
  rw [yz h1, xt, h3]
  have hq : zX (ixF ((zD b).take i)).sk (yW (xT (spAt b p))) 0 = none := Option.isNone_iff_eq_none.1 q
  have e2 : (stepX (ixF ((zD b).take i)) (xT (spAt b p))).fi = match zX (ixF ((zD b).take i)).sk (yW (xT (spAt b p))) 0 with | some _ => (ixF ((zD b).take i)).fi | none => (ixF ((zD b).take i)).fi ++ [(ixF ((zD b).take i)).n] := rfl
  have e3 : (stepX (ixF ((zD b).take i)) (xT (spAt b p))).tw = match zX (ixF ((zD b).take i)).sk (yW (xT (spAt b p))) 0 with | some _ => (ixF ((zD b).take i)).tw ++ [(ixF ((zD b).take i)).n] | none => (ixF ((zD b).take i)).tw := rfl
  rw [e2, e3, hq, hn]
  simp [plN, h2]
theorem ixs_old (h : (plR 0 b)[i]? = some p) (q : (zX (ixF ((zD b).take i)).sk ((spAt b p).trace, (spAt b p).id) 0).isNone = false) :
    (ixF ((zD b).take (i + 1))).tw.map (plN b) = (ixF ((zD b).take i)).tw.map (plN b) ++ [plav p] ∧ (ixF ((zD b).take (i + 1))).fi = (ixF ((zD b).take i)).fi := by
  obtain ⟨h1, h2, h3⟩ := xi h
  have hn := ix_n ((zD b).take i)
  rw [List.length_take, Nat.min_eq_left (by omega)] at hn
  rw [yz h1, xt, h3]
  have e2 : (stepX (ixF ((zD b).take i)) (xT (spAt b p))).fi = match zX (ixF ((zD b).take i)).sk (yW (xT (spAt b p))) 0 with | some _ => (ixF ((zD b).take i)).fi | none => (ixF ((zD b).take i)).fi ++ [(ixF ((zD b).take i)).n] := rfl
  have e3 : (stepX (ixF ((zD b).take i)) (xT (spAt b p))).tw = match zX (ixF ((zD b).take i)).sk (yW (xT (spAt b p))) 0 with | some _ => (ixF ((zD b).take i)).tw ++ [(ixF ((zD b).take i)).n] | none => (ixF ((zD b).take i)).tw := rfl
  rw [e2, e3]
  have hq : zX (ixF ((zD b).take i)).sk (yW (xT (spAt b p))) 0 ≠ none := fun e => by
    have e' : zX (ixF ((zD b).take i)).sk ((spAt b p).trace, (spAt b p).id) 0 = none := e
    rw [e'] at q; cases q
  cases hk : zX (ixF ((zD b).take i)).sk (yW (xT (spAt b p))) 0 with
  | none => exact absurd hk hq
  | some _ => rw [hn]; simp [plN, h2]
end
theorem fnd_iff (l : List GCore) (k : K2) : fndP (ixF l).sk k = decide (0 ≤ yE l k) := by
  obtain ⟨_, _, _, h4, h5⟩ := ix_seen l
  unfold fndP yE
  cases h : zX (K1 l) k 0 with
  | some j => obtain ⟨m, q1, _⟩ := h5 k j h; rw [q1]; simp
  | none => rw [h4 k h]; simp
theorem rt_prog (l : List GCore) (j : Nat) : rtP l j = (!(fndP (ixF l).sk (xU (nthK l j))) || xh (nthK l j).parent) := by
  rw [fnd_iff]
  unfold rtP
  have : (!decide (0 ≤ yE l (xU (nthK l j)))) = decide (yE l (xU (nthK l j)) < 0) := by
    rw [← decide_not]; congr 1; simp
  rw [this, Bool.or_comm]
def rtN (b : List GRes) (i : Nat) : List AV := ((List.range i).filter (rtP (zD b))).map (plN b)
theorem rtN_yes {b : List GRes} {i : Nat} {p : Nat × Nat × Nat} (h : (plR 0 b)[i]? = some p) (q : rtP (zD b) i = true) : rtN b (i + 1) = rtN b i ++ [plav p] := by
  obtain ⟨h1, h2, h3⟩ := xi h
  unfold rtN
  rw [rng_snoc, q, if_pos rfl, List.map_append]
  simp [plN, h2]
theorem rtN_no {b : List GRes} {i : Nat} (q : rtP (zD b) i = false) : rtN b (i + 1) = rtN b i := by
  unfold rtN
  rw [rng_snoc, q]; simp
theorem ix_small {b : List GRes} {i : Nat} (hi : i < (zD b).length) (hl : (zD b).length ≤ 9000000) :
    (ixF ((zD b).take i)).fi.length ≤ 9000000 ∧ (ixF ((zD b).take i)).tw.length ≤ 9000000 ∧ (∀ k, (rowK (ixF ((zD b).take i)).kk (ixF ((zD b).take i)).rows k).length ≤ 9000000) ∧ (rtN b i).length ≤ 9000000 := by
  obtain ⟨h1, h2⟩ := ix_tw (l := zD b) (i := i) (by omega)
  refine ⟨?_, ?_, fun k => ?_, ?_⟩
  · rw [h2]; have := xA (fun j => !twP (zD b) j) i; omega
  · rw [h1]; have := xA (twP (zD b)) i; omega
  · rw [ix_rows k (by omega)]; have := xA (kdP (zD b) k) i; omega
  · unfold rtN; rw [List.length_map]; have := xA (rtP (zD b)) i; omega
def seenA (l : List GCore) : AV := .mp ((ixF l).sk.map av2) (xw (ixF l).sk.length)
def idxA (b : List GRes) : AV := .cp (.agg [.sl 3 ((ixF (zD b)).fi.map (plN b)), .sl 3 ((ixF (zD b)).tw.map (plN b)), .sl 3 (rtN b (zD b).length), .cp (.agg [seenA (zD b)]),
  .mp ((ixF (zD b)).kk.map av2) (((ixF (zD b)).rows.map fun r => r.map (plN b)).map fun l => .sl 3 l)])
end Go.Proofs
namespace Go.Proofs
open Go Go.Al
end Go.Proofs
namespace Go.Proofs
open Go Go.Al
theorem spQ_mem {b : List GRes} {p : Nat × Nat × Nat} (h : p ∈ plR 0 b) : spAt b p ∈ (nthC (nthR b p.1).scopes p.2.1).spans ∧ nthC (nthR b p.1).scopes p.2.1 ∈ (nthR b p.1).scopes ∧ nthR b p.1 ∈ b := by
  obtain ⟨h1, h2, h3⟩ := plR_mem' (m := []) h
  exact ⟨nthS_mem h3, nthC_mem h2, nthR_mem h1⟩
theorem spQ_ok {b : List GRes} (ho : okB b) {p : Nat × Nat × Nat} (h : p ∈ plR 0 b) : (spAt b p).ok := by
  obtain ⟨h1, h2, h3⟩ := spQ_mem h
  exact ((ho _ h3).2 _ h2).2.2 _ h1
end Go.Proofs
namespace Go.Proofs
open Go Go.Al
theorem cores8 {b : List GRes} (ho : okB b) : ∀ c ∈ zD b, c.parent.length = 8 := fun c hc => by
  obtain ⟨j, hj⟩ := List.getElem?_of_mem hc
  have hlt := (List.getElem?_eq_some_iff.1 hj).1
  rw [yk] at hlt
  have hp := yP (d := (0, 0, 0)) hlt
  obtain ⟨h1, h2, h3⟩ := xi hp
  have e := yP (d := gk0) h1
  rw [hj] at e
  rw [Option.some.inj e]
  show (nthK (zD b) j).parent.length = 8
  rw [h3]
  exact (spQ_ok ho (List.mem_of_getElem? hp)).1.2.2
section
variable {b : List GRes} {i : Nat} {p : Nat × Nat × Nat}
theorem rt_at (hp : (plR 0 b)[i]? = some p) : rtP (zD b) i = (!(fndP (ixF (zD b)).sk ((spAt b p).trace, (spAt b p).parent)) || xh (spAt b p).parent) := by
  obtain ⟨h1, h2, h3⟩ := xi hp
  rw [rt_prog, h3]; rfl
theorem rt_pt (hp : (plR 0 b)[i]? = some p) (q : (!(fndP (ixF (zD b)).sk ((spAt b p).trace, (spAt b p).parent))) = true) : rtP (zD b) i = true := by
  rw [rt_at hp, q]; rfl
theorem rt_pz {r : Bool} (ho : okB b) (hp : (plR 0 b)[i]? = some p) (q : (!(fndP (ixF (zD b)).sk ((spAt b p).trace, (spAt b p).parent))) = false) (z : ((spAt b p).parent == List.replicate 8 0) = r) : rtP (zD b) i = r := by
  rw [rt_at hp, q, ← z, zeros_beq (spQ_ok ho (List.mem_of_getElem? hp)).1.2.2]; rfl
end
end Go.Proofs
namespace Go.Proofs
open Go Go.Al
set_option maxRecDepth 10000
set_option maxHeartbeats 8000000 in
theorem new31_c (b : List GRes) (ho : okB b) (hw : wtB b ≤ 9000000) : z8 Try.prog Γ0 8 [z9 b] [idxA b] := by
  have hcl : (zD b).length ≤ 9000000 := by have := plR_len 0 b; rw [yk]; have q : wtB b = ya GRes.wt b := rfl; omega
  have hrl : ∀ i, i < (zD b).length → (ixF ((zD b).take i)).fi.length ≤ 9000000 ∧ (ixF ((zD b).take i)).tw.length ≤ 9000000 ∧ (∀ k, (rowK (ixF ((zD b).take i)).kk (ixF ((zD b).take i)).rows k).length ≤ 9000000) ∧ (rtN b i).length ≤ 9000000 := fun i hi => ix_small hi hcl
  refine pcall_of_fw Try.func8 rfl Try.ntmps8 (by kernel_rfl) rfl fun w0 I0 G0 => ?_
  refine xf ?_
  refine fw_aw (fun w1 I1 E1 G1 D1 => ?_)
  refine zC <| g_uG (zV 50001 rfl rfl rfl rfl) rfl <| g_u (zE rfl rfl) <| zH <| zA <| xf ?_
  refine fw_aw (fun w1 I1 E1 G1 D1 => ?_)
  refine zC <| g_uG (s_mcall [(1003, 70001), (1001, 70002)] (idNew_c) rfl rfl trivial trivial rfl rfl rfl) rfl <| g_uG (s_makeMap 50014 rfl rfl rfl) rfl <| g_u (s_buildSV rfl tZ83 us83 pl83 rfl rfl) <| g_uG (s_box 50016 rfl rfl rfl rfl rfl rfl) rfl <| g_uG (zu 50003 rfl rfl rfl tZ31) rfl <| g_u (s_store rfl rfl rfl rfl tS31 rfl rfl) <| zH <| zA <| xf <| xf ?_
  refine fw_aw (fun w1 I1 E1 G1 D1 => ?_)
  refine aw_newtokB 53000 50016 3 0 rfl rfl rfl rfl rfl rfl rfl <| aw_newtokB 53001 50016 3 1 rfl rfl rfl rfl rfl rfl rfl <| aw_newtokB 53002 50016 3 2 rfl rfl rfl rfl rfl rfl rfl <| aw_kid0 50014 3 av2 rfl <| zC <| g_u (zG rfl rfl rfl tA24 tS24 rfl rfl) <| g_u (zP (all_c _) rfl rfl) <| zH <| zA <| fw_block ?_
  refine fw_range ([(1, .ptr 50001 0), (3, .ptr 50003 0)]) (fun i => [(50001, .box 24 (.imm (z9 b))), (50003, .box 31 (.ptr 50016 0)), (50016, .box 83 (.agg [.slg 53000 3 ((ixF ((zD b).take i)).fi.map (plN b)), .slg 53001 3 ((ixF ((zD b).take i)).tw.map (plN b)), .slg 53002 3 [], .ptr 70001 0, .mref 50014])), (53000, .tok 3 ((ixF ((zD b).take i)).fi.map (plN b))), (53001, .tok 3 ((ixF ((zD b).take i)).tw.map (plN b))), (53002, .tok 3 []), (70001, .box 109 (.agg [.mref 70002])), (70002, .mpr ((ixF ((zD b).take i)).sk.map av2) (xw (ixF ((zD b).take i)).sk.length)), (50014, .gen (KidF av2 3 (ixF ((zD b).take i)).kk ((ixF ((zD b).take i)).rows.map fun r => r.map (plN b)) (ixF ((zD b).take i)).kk.length))]) (fun _ => True) (trivial) (all1_c b hw) rfl ⟨rfl, rfl, rfl, rfl, rfl, rfl, rfl, rfl, rfl, rfl, rfl, trivial⟩ rfl (fun i => rfl) (seqB_two b) rfl (fun i xs hok hxs w2 I2 E2 G2 R2 => ?_) (fun hok => ?_)
  · obtain ⟨p, hp, rfl⟩ := seqB_get hxs
    obtain ⟨hil, hpn, hck⟩ := xi hp
    have hlt := (List.getElem?_eq_some_iff.1 hp).1
    refine zF <| zC <| g_uG (zu 1004 rfl rfl rfl tZ38) rfl <| g_u (zY rfl rfl rfl tS38 rfl rfl) <| zH <| zA <| zC <| g_uG (zu 1005 rfl rfl rfl tZ67) rfl ?_
    refine g_u (zY rfl rfl rfl tS67 (by first | exact beqW (GSpan.width _) | rfl) (by first | exact setS_w (z67_w.trans (GSpan.width _).symm) rfl | rfl)) ?_
    refine zH <| zA ?_
    intro w3 I3 E3 G3
    refine za <| zF <| zF <| zs yR <| g_u (yN rfl rfl rfl tA31 tS31 rfl rfl) <| g_u (zo rfl rfl) <| g_u (zI rfl rfl fa83_3 rfl) <| g_u (yN rfl rfl rfl tA79 tS79 rfl rfl) <| g_u (zI rfl rfl fa67_0 rfl) <| g_u (zk rfl rfl rfl tA26 tS26 rfl rfl) <| g_u (zI rfl rfl fa67_1 rfl) <| g_u (zG rfl rfl rfl tA28 tS28 rfl rfl) <| g_uG (s_mcall [(100001, 70001), (100002, 70002)] (idAdd_c (ixF ((zD b).take i)).sk ((spAt b p).trace, (spAt b p).id)) rfl rfl ⟨.inl rfl, .inl rfl, .inl rfl, trivial⟩ ⟨rfl, rfl, trivial⟩ rfl rfl rfl) rfl <| g_u (yq rfl rfl) <| g_u (zj rfl rfl rfl rfl) <| g_u (zj rfl rfl rfl rfl) <| g_u (zE rfl rfl) <| g_u (zE rfl rfl) ?_
    refine zH ⟨by kernel_rfl, ?_⟩
    refine zA <| zF <| zC <| g_u (zB rfl rfl) <| zH <| zA ?_
    refine zf rfl (fun hb1 => ?_) (fun hb1 => ?_)
    · obtain ⟨e1, e2⟩ := ixs_new hp hb1
      refine zs yR <| g_u (yN rfl rfl rfl tA31 tS31 rfl rfl) <| g_u (yN rfl rfl rfl tA31 tS31 rfl rfl) <| g_u (zo rfl rfl) <| g_u (zI rfl rfl fa83_0 rfl) <| g_u (wQ rfl rfl rfl tA46 tS46 rfl rfl) <| g_u (zk rfl rfl rfl tA38 tS38 rfl rfl) <| g_u (z7 (X0 := z38) rfl Try.underlying46 tS38 tZ38 rfl rfl rfl rfl rfl rfl rfl rfl) ?_
      refine g_u (yi rfl rfl rfl rfl rfl Try.underlying46 Try.underlying46 tS38 zv38 rfl (by decide) by38 (by have := hrl i hil; have hrk := this.2.2.1 ((spAt b p).trace, (spAt b p).parent); (try dsimp only); simp only [List.length_map, List.length_cons, List.length_nil]; omega) (by have := hrl i hil; have hrk := this.2.2.1 ((spAt b p).trace, (spAt b p).parent); (try dsimp only); simp only [List.length_map, List.length_cons, List.length_nil]; omega)) ?_
      refine g_u (zo rfl rfl) <| g_u (zI rfl rfl fa83_0 rfl) <| g_u (s_store rfl rfl rfl rfl tS46 rfl rfl) ?_
      refine zH ⟨by kernel_rfl, ?_⟩
      refine zA <| zF <| zC <| g_u (zI rfl rfl fa67_0 rfl) <| g_u (zk rfl rfl rfl tA26 tS26 rfl rfl) <| g_u (zI rfl rfl fa67_2 rfl) <| g_u (zG rfl rfl rfl tA28 tS28 rfl rfl) <| g_u (yc rfl tU87 us87 pl87 rfl rfl rfl rfl) <| g_uG (zu 1008 rfl rfl rfl tZ87) rfl <| g_u (zY rfl rfl rfl tS87 rfl rfl) <| zH <| zA <| zs yR <| g_u (yN rfl rfl rfl tA31 tS31 rfl rfl) <| g_u (zo rfl rfl) <| g_u (zI rfl rfl fa83_4 rfl) <| g_u (ym rfl rfl rfl tA81 tS81 rfl rfl rfl) <| g_u (zk rfl rfl rfl tA87 tS87 rfl rfl) <| g_u (zk rfl rfl rfl tA38 tS38 rfl rfl) <| g_u (z7 (X0 := z38) rfl Try.underlying46 tS38 tZ38 rfl rfl rfl rfl rfl rfl rfl rfl) <| g_uG (s_entryRowK 50014 3067 kok87 rfl rfl rfl rfl rfl rfl rfl rfl Try.underlying81 zv46 (rowK_av (plN b) (ix_kl _) ((spAt b p).trace, (spAt b p).parent))) rfl <| g_u (zj rfl rfl rfl rfl) ?_
      refine g_u (yi rfl rfl rfl rfl rfl Try.underlying46 Try.underlying46 tS38 zv38 rfl (by decide) by38 (by have := hrl i hil; have hrk := this.2.2.1 ((spAt b p).trace, (spAt b p).parent); (try dsimp only); simp only [List.length_map, List.length_cons, List.length_nil]; omega) (by have := hrl i hil; have hrk := this.2.2.1 ((spAt b p).trace, (spAt b p).parent); (try dsimp only); simp only [List.length_map, List.length_cons, List.length_nil]; omega)) ?_
      refine g_u (zj rfl rfl rfl rfl) <| g_u (s_entryPutK 50014 3067 (kidx (ixF ((zD b).take i)).kk ((spAt b p).trace, (spAt b p).parent)) rfl rfl rfl rfl rfl rfl (kidx_lt _ _)) ?_
      refine zH ⟨by kernel_rfl, ?_⟩
      refine zT ?_
      refine ⟨trivial, rfl, rfl, (by show _ = SV.box 83 (.agg [.slg 53000 3 ((ixF ((zD b).take (i + 1))).fi.map (plN b)), .slg 53001 3 ((ixF ((zD b).take (i + 1))).tw.map (plN b)), .slg 53002 3 [], .ptr 70001 0, .mref 50014]); rw [e1, e2]; rfl), (by show _ = SV.tok 3 ((ixF ((zD b).take (i + 1))).fi.map (plN b)); rw [e1]; rfl), (by show _ = SV.tok 3 ((ixF ((zD b).take (i + 1))).tw.map (plN b)); rw [e2]; rfl), rfl, rfl, (by show _ = SV.mpr ((ixF ((zD b).take (i + 1))).sk.map av2) (xw (ixF ((zD b).take (i + 1))).sk.length); rw [ixs_sk hp]; rfl), (by show _ = SV.gen (KidF av2 3 (ixF ((zD b).take (i + 1))).kk ((ixF ((zD b).take (i + 1))).rows.map fun r => r.map (plN b)) (ixF ((zD b).take (i + 1))).kk.length); rw [ixs_kk hp, ← ixs_rows hp]; rfl), trivial⟩
    · obtain ⟨e2, e1⟩ := ixs_old hp hb1
      refine zs yR <| g_u (yN rfl rfl rfl tA31 tS31 rfl rfl) <| g_u (yN rfl rfl rfl tA31 tS31 rfl rfl) <| g_u (zo rfl rfl) <| g_u (zI rfl rfl fa83_1 rfl) <| g_u (wQ rfl rfl rfl tA46 tS46 rfl rfl) <| g_u (zk rfl rfl rfl tA38 tS38 rfl rfl) <| g_u (z7 (X0 := z38) rfl Try.underlying46 tS38 tZ38 rfl rfl rfl rfl rfl rfl rfl rfl) ?_
      refine g_u (yi rfl rfl rfl rfl rfl Try.underlying46 Try.underlying46 tS38 zv38 rfl (by decide) by38 (by have := hrl i hil; have hrk := this.2.2.1 ((spAt b p).trace, (spAt b p).parent); (try dsimp only); simp only [List.length_map, List.length_cons, List.length_nil]; omega) (by have := hrl i hil; have hrk := this.2.2.1 ((spAt b p).trace, (spAt b p).parent); (try dsimp only); simp only [List.length_map, List.length_cons, List.length_nil]; omega)) ?_
      refine g_u (zo rfl rfl) <| g_u (zI rfl rfl fa83_1 rfl) <| g_u (s_store rfl rfl rfl rfl tS46 rfl rfl) ?_
      refine zH ⟨by kernel_rfl, ?_⟩
      refine zA <| zF <| zC <| g_u (zI rfl rfl fa67_0 rfl) <| g_u (zk rfl rfl rfl tA26 tS26 rfl rfl) <| g_u (zI rfl rfl fa67_2 rfl) <| g_u (zG rfl rfl rfl tA28 tS28 rfl rfl) <| g_u (yc rfl tU87 us87 pl87 rfl rfl rfl rfl) <| g_uG (zu 1008 rfl rfl rfl tZ87) rfl <| g_u (zY rfl rfl rfl tS87 rfl rfl) <| zH <| zA <| zs yR <| g_u (yN rfl rfl rfl tA31 tS31 rfl rfl) <| g_u (zo rfl rfl) <| g_u (zI rfl rfl fa83_4 rfl) <| g_u (ym rfl rfl rfl tA81 tS81 rfl rfl rfl) <| g_u (zk rfl rfl rfl tA87 tS87 rfl rfl) <| g_u (zk rfl rfl rfl tA38 tS38 rfl rfl) <| g_u (z7 (X0 := z38) rfl Try.underlying46 tS38 tZ38 rfl rfl rfl rfl rfl rfl rfl rfl) <| g_uG (s_entryRowK 50014 3067 kok87 rfl rfl rfl rfl rfl rfl rfl rfl Try.underlying81 zv46 (rowK_av (plN b) (ix_kl _) ((spAt b p).trace, (spAt b p).parent))) rfl <| g_u (zj rfl rfl rfl rfl) ?_
      refine g_u (yi rfl rfl rfl rfl rfl Try.underlying46 Try.underlying46 tS38 zv38 rfl (by decide) by38 (by have := hrl i hil; have hrk := this.2.2.1 ((spAt b p).trace, (spAt b p).parent); (try dsimp only); simp only [List.length_map, List.length_cons, List.length_nil]; omega) (by have := hrl i hil; have hrk := this.2.2.1 ((spAt b p).trace, (spAt b p).parent); (try dsimp only); simp only [List.length_map, List.length_cons, List.length_nil]; omega)) ?_
      refine g_u (zj rfl rfl rfl rfl) <| g_u (s_entryPutK 50014 3067 (kidx (ixF ((zD b).take i)).kk ((spAt b p).trace, (spAt b p).parent)) rfl rfl rfl rfl rfl rfl (kidx_lt _ _)) ?_
      refine zH ⟨by kernel_rfl, ?_⟩
      refine zT ?_
      refine ⟨trivial, rfl, rfl, (by show _ = SV.box 83 (.agg [.slg 53000 3 ((ixF ((zD b).take (i + 1))).fi.map (plN b)), .slg 53001 3 ((ixF ((zD b).take (i + 1))).tw.map (plN b)), .slg 53002 3 [], .ptr 70001 0, .mref 50014]); rw [e1, e2]; rfl), (by show _ = SV.tok 3 ((ixF ((zD b).take (i + 1))).fi.map (plN b)); rw [e1]; rfl), (by show _ = SV.tok 3 ((ixF ((zD b).take (i + 1))).tw.map (plN b)); rw [e2]; rfl), rfl, rfl, (by show _ = SV.mpr ((ixF ((zD b).take (i + 1))).sk.map av2) (xw (ixF ((zD b).take (i + 1))).sk.length); rw [ixs_sk hp]; rfl), (by show _ = SV.gen (KidF av2 3 (ixF ((zD b).take (i + 1))).kk ((ixF ((zD b).take (i + 1))).rows.map fun r => r.map (plN b)) (ixF ((zD b).take (i + 1))).kk.length); rw [ixs_kk hp, ← ixs_rows hp]; rfl), trivial⟩
  · have hN : (zD b).take (seqB b).length = (zD b) := by rw [seqB_len, ← yk, List.take_length]
    rw [hN]
    refine zT <| zA <| xf <| xf ?_
    refine fw_aw (fun w1 I1 E1 G1 D1 => ?_)
    refine zC <| g_u (zG rfl rfl rfl tA24 tS24 rfl rfl) <| g_u (zP (all_c _) rfl rfl) <| zH <| zA <| fw_block ?_
    refine fw_range ([(1, .ptr 50001 0), (3, .ptr 50003 0)]) (fun i => [(50001, .box 24 (.imm (z9 b))), (50003, .box 31 (.ptr 50016 0)), (50016, .box 83 (.agg [.slg 53000 3 ((ixF (zD b)).fi.map (plN b)), .slg 53001 3 ((ixF (zD b)).tw.map (plN b)), .slg 53002 3 (rtN b i), .ptr 70001 0, .mref 50014])), (53000, .tok 3 ((ixF (zD b)).fi.map (plN b))), (53001, .tok 3 ((ixF (zD b)).tw.map (plN b))), (53002, .tok 3 (rtN b i)), (70001, .box 109 (.agg [.mref 70002])), (70002, .mpr ((ixF (zD b)).sk.map av2) (xw (ixF (zD b)).sk.length)), (50014, .gen (KidF av2 3 (ixF (zD b)).kk ((ixF (zD b)).rows.map fun r => r.map (plN b)) (ixF (zD b)).kk.length))]) (fun _ => True) (trivial) (all1_c b hw) rfl ⟨rfl, rfl, rfl, rfl, rfl, rfl, rfl, rfl, rfl, rfl, rfl, trivial⟩ rfl (fun i => rfl) (seqB_two b) rfl (fun i xs hok hxs w2 I2 E2 G2 R2 => ?_) (fun hok => ?_)
    · obtain ⟨p, hp, rfl⟩ := seqB_get hxs
      obtain ⟨hil, hpn, hck⟩ := xi hp
      have hlt := (List.getElem?_eq_some_iff.1 hp).1
      refine zF <| zC <| g_uG (zu 1009 rfl rfl rfl tZ38) rfl <| g_u (zY rfl rfl rfl tS38 rfl rfl) <| zH <| zA <| zC <| g_uG (zu 1010 rfl rfl rfl tZ67) rfl ?_
      refine g_u (zY rfl rfl rfl tS67 (by first | exact beqW (GSpan.width _) | rfl) (by first | exact setS_w (z67_w.trans (GSpan.width _).symm) rfl | rfl)) ?_
      refine zH <| zA ?_
      intro w3 I3 E3 G3
      refine za <| zF <| zs yR <| g_u (yN rfl rfl rfl tA31 tS31 rfl rfl) <| g_u (zo rfl rfl) <| g_u (zI rfl rfl fa83_3 rfl) <| g_u (yN rfl rfl rfl tA79 tS79 rfl rfl) <| g_u (zI rfl rfl fa67_0 rfl) <| g_u (zk rfl rfl rfl tA26 tS26 rfl rfl) <| g_u (zI rfl rfl fa67_2 rfl) <| g_u (zG rfl rfl rfl tA28 tS28 rfl rfl) <| g_uG (s_mcall [(100001, 70001), (100002, 70002)] (idFind_c (ixF (zD b)).sk ((spAt b p).trace, (spAt b p).parent)) rfl rfl ⟨.inl rfl, .inl rfl, .inl rfl, trivial⟩ ⟨rfl, rfl, trivial⟩ rfl rfl rfl) rfl <| g_u (yq rfl rfl) <| g_u (zj rfl rfl rfl rfl) <| g_u (zj rfl rfl rfl rfl) <| g_u (zE rfl rfl) <| g_u (zE rfl rfl) ?_
      refine zH ⟨by kernel_rfl, ?_⟩
      refine zA <| zF <| zC <| g_u (zB rfl rfl) <| g_u (s_not rfl rfl) <| g_u (zB rfl rfl) <| z6 (t := 88) rfl ?_
      rintro (hb2 | hb2)
      · rw [hb2]
        have er := rtN_yes hp (rt_pt hp hb2)
        refine zQ rfl rfl rfl <| zQ rfl rfl rfl <| zQ rfl rfl rfl <| zQ rfl rfl rfl <| g_u (zi rfl rfl rfl) <| zH <| zA <| yD rfl <| zs yR <| g_u (yN rfl rfl rfl tA31 tS31 rfl rfl) <| g_u (yN rfl rfl rfl tA31 tS31 rfl rfl) <| g_u (zo rfl rfl) <| g_u (zI rfl rfl fa83_2 rfl) <| g_u (wQ rfl rfl rfl tA46 tS46 rfl rfl) <| g_u (zk rfl rfl rfl tA38 tS38 rfl rfl) <| g_u (z7 (X0 := z38) rfl Try.underlying46 tS38 tZ38 rfl rfl rfl rfl rfl rfl rfl rfl) ?_
        refine g_u (yi rfl rfl rfl rfl rfl Try.underlying46 Try.underlying46 tS38 zv38 rfl (by decide) by38 (by have := hrl i hil; have hrk := this.2.2.1 ((spAt b p).trace, (spAt b p).parent); (try dsimp only); simp only [List.length_map, List.length_cons, List.length_nil]; omega) (by have := hrl i hil; have hrk := this.2.2.1 ((spAt b p).trace, (spAt b p).parent); (try dsimp only); simp only [List.length_map, List.length_cons, List.length_nil]; omega)) ?_
        refine g_u (zo rfl rfl) <| g_u (zI rfl rfl fa83_2 rfl) <| g_u (s_store rfl rfl rfl rfl tS46 rfl rfl) ?_
        refine zH ⟨by kernel_rfl, ?_⟩
        refine zT ?_
        refine ⟨trivial, rfl, rfl, (by show _ = SV.box 83 (.agg [.slg 53000 3 ((ixF (zD b)).fi.map (plN b)), .slg 53001 3 ((ixF (zD b)).tw.map (plN b)), .slg 53002 3 (rtN b (i + 1)), .ptr 70001 0, .mref 50014]); rw [er]; rfl), rfl, rfl, (by show _ = SV.tok 3 (rtN b (i + 1)); rw [er]; rfl), rfl, rfl, rfl, trivial⟩
      · rw [hb2]
        have q1 := hb2
        refine zN rfl rfl (zI rfl rfl fa67_2 rfl) <| zN rfl rfl (zG rfl rfl rfl tA28 tS28 rfl rfl) <| zN rfl rfl (y_ rfl tU28 Try.underlying28 tS5 rfl rfl rfl rfl) <| zN rfl rfl (s_eqA rfl rfl rfl eg28 rfl rfl (eq28 _ _)) <| g_u (z0 rfl rfl rfl) <| zH <| zA ?_
        refine zf rfl (fun hb3 => ?_) (fun hb3 => ?_)
        · have er := rtN_yes hp (rt_pz ho hp q1 hb3)
          refine zs yR <| g_u (yN rfl rfl rfl tA31 tS31 rfl rfl) <| g_u (yN rfl rfl rfl tA31 tS31 rfl rfl) <| g_u (zo rfl rfl) <| g_u (zI rfl rfl fa83_2 rfl) <| g_u (wQ rfl rfl rfl tA46 tS46 rfl rfl) <| g_u (zk rfl rfl rfl tA38 tS38 rfl rfl) <| g_u (z7 (X0 := z38) rfl Try.underlying46 tS38 tZ38 rfl rfl rfl rfl rfl rfl rfl rfl) ?_
          refine g_u (yi rfl rfl rfl rfl rfl Try.underlying46 Try.underlying46 tS38 zv38 rfl (by decide) by38 (by have := hrl i hil; have hrk := this.2.2.1 ((spAt b p).trace, (spAt b p).parent); (try dsimp only); simp only [List.length_map, List.length_cons, List.length_nil]; omega) (by have := hrl i hil; have hrk := this.2.2.1 ((spAt b p).trace, (spAt b p).parent); (try dsimp only); simp only [List.length_map, List.length_cons, List.length_nil]; omega)) ?_
          refine g_u (zo rfl rfl) <| g_u (zI rfl rfl fa83_2 rfl) <| g_u (s_store rfl rfl rfl rfl tS46 rfl rfl) ?_
          refine zH ⟨by kernel_rfl, ?_⟩
          refine zT ?_
          refine ⟨trivial, rfl, rfl, (by show _ = SV.box 83 (.agg [.slg 53000 3 ((ixF (zD b)).fi.map (plN b)), .slg 53001 3 ((ixF (zD b)).tw.map (plN b)), .slg 53002 3 (rtN b (i + 1)), .ptr 70001 0, .mref 50014]); rw [er]; rfl), rfl, rfl, (by show _ = SV.tok 3 (rtN b (i + 1)); rw [er]; rfl), rfl, rfl, rfl, trivial⟩
        · have er := rtN_no (rt_pz ho hp q1 hb3)
          refine zW <| zT ?_
          refine ⟨trivial, rfl, rfl, (by show _ = SV.box 83 (.agg [.slg 53000 3 ((ixF (zD b)).fi.map (plN b)), .slg 53001 3 ((ixF (zD b)).tw.map (plN b)), .slg 53002 3 (rtN b (i + 1)), .ptr 70001 0, .mref 50014]); rw [er]; rfl), rfl, rfl, (by show _ = SV.tok 3 (rtN b (i + 1)); rw [er]; rfl), rfl, rfl, rfl, trivial⟩
    · have hN : (seqB b).length = (zD b).length := by rw [seqB_len, ← yk]
      rw [hN]
      refine zT <| zA ?_
      refine fw_aw (fun w1 I1 E1 G1 D1 => ?_)
      refine zF <| aw_mapInto 70001 70002 0 rfl rfl rfl rfl rfl <| aw_share 70001 rfl rfl <| aw_kidInto 50016 50014 4 rfl rfl rfl rfl rfl <| aw_share 50016 rfl rfl <| zC <| g_u (zG rfl rfl rfl tA31 tS31 rfl rfl) <| g_u (zE rfl rfl) <| zH <| zA <| zd ?_
      exact ⟨⟨(rfl : toAV (Al.look _ _) = some _).trans (congrArg some (by rfl)), rfl⟩, trivial⟩
end Go.Proofs
namespace Go.Proofs
open Go Go.Al
theorem seen_get {l : List GCore} {k : K2} {m : Nat} (h : zX (ixF l).sk k 0 = some m) : ∃ j, zX (K1 l) k 0 = some j ∧ (ixF l).fi[m]? = some j := by
  obtain ⟨_, _, _, h4, h5⟩ := ix_seen l
  cases hk : zX (K1 l) k 0 with
  | none => rw [h4 k hk] at h; cases h
  | some j => obtain ⟨m', q1, q2⟩ := h5 k j hk; rw [h] at q1; cases q1; exact ⟨j, rfl, q2⟩
theorem seen_no {l : List GCore} {k : K2} (h : zX (ixF l).sk k 0 = none) : zX (K1 l) k 0 = none := by
  obtain ⟨_, _, _, h4, h5⟩ := ix_seen l
  cases hk : zX (K1 l) k 0 with
  | none => rfl
  | some j => obtain ⟨m', q1, q2⟩ := h5 k j hk; rw [h] at q1; cases q1
theorem fi_get {b : List GRes} {m j : Nat} (h : (ixF (zD b)).fi[m]? = some j) : ((ixF (zD b)).fi.map (plN b))[((m : Nat) : Int).toNat]? = some (plN b j) := by
  show ((ixF (zD b)).fi.map (plN b))[m]? = _
  rw [List.getElem?_map, h]; rfl
def findA (b : List GRes) (k : K2) : AV := match zX (K1 (zD b)) k 0 with | some j => plN b j | none => plav (0, 0, 0)
def kidsN (b : List GRes) (k : K2) : List Nat := (List.range (zD b).length).filter (kzP (zD b) k)
def rootsN (b : List GRes) : List Nat := (List.range (zD b).length).filter (rtP (zD b))
def twiceN (b : List GRes) : List Nat := (List.range (zD b).length).filter (twP (zD b))
theorem kids_row (b : List GRes) (k : K2) (h : xh k.2 = false) : rowK (ixF (zD b)).kk (ixF (zD b)).rows k = kidsN b k := by
  have e := ix_rows (l := zD b) k (Nat.le_refl _)
  rw [List.take_length] at e
  rw [e]; unfold kidsN; congr 1; funext j; unfold kzP; rw [h]; simp
theorem kids_zero (b : List GRes) (k : K2) (h : xh k.2 = true) : kidsN b k = [] := by
  unfold kidsN; rw [List.filter_eq_nil_iff]; intro j _; unfold kzP; rw [h]; simp
theorem tw_row (b : List GRes) : (ixF (zD b)).tw = twiceN b := by
  have e := (ix_tw (l := zD b) (Nat.le_refl _)).1
  rwa [List.take_length] at e
theorem row_len (b : List GRes) (k : K2) : (rowK (ixF (zD b)).kk (ixF (zD b)).rows k).length ≤ (zD b).length := by
  have e := ix_rows (l := zD b) k (Nat.le_refl _)
  rw [List.take_length] at e
  rw [e]; exact xA _ _
theorem tw_len (b : List GRes) : (ixF (zD b)).tw.length ≤ (zD b).length := by rw [tw_row]; exact xA _ _
theorem rt_len (b : List GRes) : (rtN b (zD b).length).length ≤ (zD b).length := by unfold rtN; rw [List.length_map]; exact xA _ _
theorem rng_pl {b : List GRes} {p : Nat → Bool} : ∀ j ∈ (List.range (zD b).length).filter p, j < (plR 0 b).length := fun j h => by
  have := rng_lt j h; rwa [yk] at this
theorem rng_small {b : List GRes} {p : Nat → Bool} (hl : (zD b).length ≤ 9000000) : ((List.range (zD b).length).filter p).length ≤ 9000000 := Nat.le_trans (xA _ _) hl
theorem find_ge {b : List GRes} {k : K2} : fndP (ixF (zD b)).sk k = decide (yE (zD b) k ≥ 0) := by rw [fnd_iff]
theorem findA_at {b : List GRes} {k : K2} (h : 0 ≤ yE (zD b) k) : findA b k = plav (nth (plR 0 b) (yE (zD b) k).toNat (0, 0, 0)) := by
  unfold findA yE at *
  cases hk : zX (K1 (zD b)) k 0 with
  | some j => rfl
  | none => rw [hk] at h; exact absurd h (by decide)
theorem findA_no {b : List GRes} {k : K2} (h : ¬ 0 ≤ yE (zD b) k) : findA b k = plav (0, 0, 0) := by
  unfold findA yE at *
  cases hk : zX (K1 (zD b)) k 0 with
  | some j => rw [hk] at h; exact absurd (Int.natCast_nonneg j) h
  | none => rfl
theorem find_lt {b : List GRes} {k : K2} (h : 0 ≤ yE (zD b) k) : (yE (zD b) k).toNat < (plR 0 b).length := by
  have := find_rg (zD b) k; rw [yk] at this; omega
def one31 (i p : UInt8) : GSpan := ⟨7 :: List.replicate 15 0, i :: List.replicate 7 0, p :: List.replicate 7 0, ⟨#[]⟩, ⟨#[]⟩, 0, 1500, 4000, [], [], [], 0, ⟨#[]⟩⟩
def pOne (i p : UInt8) : AV := .agg [.agg (xV (7 :: List.replicate 15 0)), .agg (xV (i :: List.replicate 7 0)), .agg (xV (p :: List.replicate 7 0)), sv ⟨#[]⟩, sv ⟨#[]⟩, iv 0, uv 1500, uv 4000, .sl 7 [], .sl 3 [], .sl 26 [], .agg [iv 0, sv ⟨#[]⟩]]
theorem upOne (i p : UInt8) : Up (pOne i p) (one31 i p).av := Up.agg ⟨wL rfl, wL rfl, wL rfl, Up.refl _, Up.refl _, Up.refl _, Up.refl _, Up.refl _, Up.refl _, Up.refl _, Up.refl _, Up.refl _, trivial⟩
def gB31 : List GRes := [⟨[], [⟨⟨#[]⟩, ⟨#[]⟩, [one31 2 1, one31 1 0, one31 2 9]⟩]⟩]
theorem one31_ok (i p : UInt8) : (one31 i p).ok := ⟨⟨rfl, rfl, rfl⟩, ⟨Nat.zero_le _, Nat.zero_le _, Nat.zero_le _⟩, ⟨by show i64 0; unfold i64; decide, by show u64 1500; unfold u64; decide, by show u64 4000; unfold u64; decide, by show i64 0; unfold i64; decide⟩, (fun a h => by cases h), (fun a h => by cases h), (fun a h => by cases h)⟩
theorem gB31_ok : okB gB31 := fun r h => by
  cases List.mem_singleton.1 h
  refine ⟨fun a h => (by cases h), fun s h => ?_⟩
  cases List.mem_singleton.1 h
  refine ⟨Nat.zero_le _, Nat.zero_le _, fun x h => ?_⟩
  rcases List.mem_cons.1 h with rfl | h
  · exact one31_ok _ _
  rcases List.mem_cons.1 h with rfl | h
  · exact one31_ok _ _
  cases List.mem_singleton.1 h
  exact one31_ok _ _
theorem roots31 : rootsN gB31 = [1, 2] := by decide +kernel
theorem twice31 : twiceN gB31 = [2] := by decide +kernel
theorem kids31 : kidsN gB31 (7 :: List.replicate 15 0, 1 :: List.replicate 7 0) = [0] := by decide +kernel
theorem find31 : zX (K1 (zD gB31)) (7 :: List.replicate 15 0, 2 :: List.replicate 7 0) 0 = some 0 := by decide +kernel
theorem len31 : (zD gB31).length = 3 := by decide +kernel
theorem al31 : xO (zD gB31) (zD gB31) = true := by decide +kernel
theorem al31' : xO (zD gB31) (zD []) = false := by decide +kernel
end Go.Proofs
namespace Go.Proofs
open Go Go.Al
set_option maxRecDepth 10000
theorem xG {b : List GRes} (hw : wtB b ≤ 9000000) : (zD b).length ≤ 9000000 := by
  have := plR_len 0 b; rw [yk]; have q : wtB b = ya GRes.wt b := rfl; omega
theorem xfindY_c (b : List GRes) (k : K2) (m j : Nat) (hm : zX (ixF (zD b)).sk k 0 = some m) (hj : (ixF (zD b)).fi[m]? = some j) : z8 Try.prog Γ0 11 [idxA b, .arr 16 k.1, .arr 8 k.2] [plN b j, bv true] := by
  refine zq Try.func11 rfl Try.ntmps11 (by kernel_rfl) rfl fun w0 I0 G0 => ?_
  refine zF <| zC <| g_uG (zV 1004 rfl rfl rfl rfl) rfl <| g_uG (zV 1005 rfl rfl rfl rfl) rfl <| g_uG (zu 1006 rfl rfl rfl tZ38) rfl <| g_u (zE rfl rfl) <| zH <| zA <| zF <| zF <| zC <| g_u (zB rfl rfl) <| g_u (s_eqPc rfl rfl rfl Try.underlying31) <| zH <| zA <| zc rfl <| zW <| zA <| zF <| zs yR <| g_u (zB rfl rfl) <| g_u (yf rfl rfl) <| g_u (zJ rfl rfl fa83_3 rfl rfl) <| g_u (zO rfl rfl tA79 tS79 rfl rfl) <| g_u (zG rfl rfl rfl tA26 tS26 rfl rfl) <| g_u (zG rfl rfl rfl tA28 tS28 rfl rfl) <| g_u (s_call2 (idFindIY_c (ixF (zD b)).sk k m hm) rfl rfl) <| g_u (yq rfl rfl) <| g_u (zj rfl rfl rfl rfl) <| g_u (zj rfl rfl rfl rfl) <| g_u (zE rfl rfl) <| g_u (zE rfl rfl) ?_
  refine zH ⟨by kernel_rfl, ?_⟩
  refine zA <| zF <| zF <| zC <| g_u (zB rfl rfl) <| g_u (s_not rfl rfl) <| zH <| zA ?_
  refine zf rfl (fun hb1 => ?_) (fun hb1 => ?_)
  · exact killF hb1 (rfl)
  · refine zW ?_
    refine zA <| zF <| zC <| g_u (zB rfl rfl) <| g_u (yf rfl rfl) <| g_u (zJ rfl rfl fa83_0 rfl rfl) <| g_u (zO rfl rfl tA46 tS46 rfl rfl) <| g_u (zB rfl rfl) ?_
    refine g_u (zK rfl rfl rfl Try.underlying46 tS38 (by omega) (fi_get hj)) ?_
    refine g_u (zO rfl rfl tA38 tS38 rfl rfl) <| g_u (zY rfl rfl rfl tS38 rfl rfl) <| g_u (zE rfl rfl) <| zH <| zA <| zd ?_
    exact ⟨⟨_, _, _, _, _, _, _, rfl, rfl, tA38, tS38, rfl, rfl, (rfl : toAV _ = some _).trans (congrArg some (by rfl))⟩, ⟨(rfl : toAV (Al.look _ _) = some _).trans (congrArg some (by rfl)), rfl⟩, trivial⟩
theorem xfindN_c (b : List GRes) (k : K2) (hm : zX (ixF (zD b)).sk k 0 = none) : z8 Try.prog Γ0 11 [idxA b, .arr 16 k.1, .arr 8 k.2] [plav (0, 0, 0), bv false] := by
  refine zq Try.func11 rfl Try.ntmps11 (by kernel_rfl) rfl fun w0 I0 G0 => ?_
  refine zF <| zC <| g_uG (zV 1004 rfl rfl rfl rfl) rfl <| g_uG (zV 1005 rfl rfl rfl rfl) rfl <| g_uG (zu 1006 rfl rfl rfl tZ38) rfl <| g_u (zE rfl rfl) <| zH <| zA <| zF <| zF <| zC <| g_u (zB rfl rfl) <| g_u (s_eqPc rfl rfl rfl Try.underlying31) <| zH <| zA <| zc rfl <| zW <| zA <| zF <| zs yR <| g_u (zB rfl rfl) <| g_u (yf rfl rfl) <| g_u (zJ rfl rfl fa83_3 rfl rfl) <| g_u (zO rfl rfl tA79 tS79 rfl rfl) <| g_u (zG rfl rfl rfl tA26 tS26 rfl rfl) <| g_u (zG rfl rfl rfl tA28 tS28 rfl rfl) <| g_u (s_call2 (idFindIN_c (ixF (zD b)).sk k hm) rfl rfl) <| g_u (yq rfl rfl) <| g_u (zj rfl rfl rfl rfl) <| g_u (zj rfl rfl rfl rfl) <| g_u (zE rfl rfl) <| g_u (zE rfl rfl) ?_
  refine zH ⟨by kernel_rfl, ?_⟩
  refine zA <| zF <| zF <| zC <| g_u (zB rfl rfl) <| g_u (s_not rfl rfl) <| zH <| zA ?_
  refine zf rfl (fun hb1 => ?_) (fun hb1 => ?_)
  · refine zF ?_
    refine zC <| g_u (yc rfl tU38 us38 pl38 rfl rfl rfl rfl) <| g_u (zY rfl rfl rfl tS38 rfl rfl) <| g_u (zE rfl rfl) <| zH <| zA <| zd <| zh ?_
    exact ⟨⟨_, _, _, _, _, _, _, rfl, rfl, tA38, tS38, rfl, rfl, (rfl : toAV _ = some _).trans (congrArg some (by rfl))⟩, ⟨(rfl : toAV (Al.look _ _) = some _).trans (congrArg some (by rfl)), rfl⟩, trivial⟩
  · exact wP hb1 (rfl)
theorem xfindNil_c (k : K2) : z8 Try.prog Γ0 11 [.v (.pointer none), .arr 16 k.1, .arr 8 k.2] [plav (0, 0, 0), bv false] := by
  refine zq Try.func11 rfl Try.ntmps11 (by kernel_rfl) rfl fun w0 I0 G0 => ?_
  refine zF <| zC <| g_uG (zV 1004 rfl rfl rfl rfl) rfl <| g_uG (zV 1005 rfl rfl rfl rfl) rfl <| g_uG (zu 1006 rfl rfl rfl tZ38) rfl <| g_u (zE rfl rfl) <| zH <| zA <| zF <| zF <| zC <| g_u (zB rfl rfl) <| g_u (s_eqPn rfl rfl rfl Try.underlying31) <| zH <| zA <| yD rfl <| zF <| zC <| g_u (yc rfl tU38 us38 pl38 rfl rfl rfl rfl) <| g_u (zY rfl rfl rfl tS38 rfl rfl) <| g_u (zE rfl rfl) <| zH <| zA <| zd <| zh ?_
  exact ⟨⟨_, _, _, _, _, _, _, rfl, rfl, tA38, tS38, rfl, rfl, (rfl : toAV _ = some _).trans (congrArg some (by rfl))⟩, ⟨(rfl : toAV (Al.look _ _) = some _).trans (congrArg some (by rfl)), rfl⟩, trivial⟩
theorem xfind_c (b : List GRes) (k : K2) : z8 Try.prog Γ0 11 [idxA b, .arr 16 k.1, .arr 8 k.2] [findA b k, bv (fndP (ixF (zD b)).sk k)] := by
  cases h : zX (ixF (zD b)).sk k 0 with
  | some m =>
    obtain ⟨j, h1, h2⟩ := seen_get h
    rw [show findA b k = plN b j from by simp only [findA, h1], show fndP (ixF (zD b)).sk k = true from by simp only [fndP, h]; rfl]
    exact xfindY_c b k m j h h2
  | none =>
    rw [show findA b k = plav (0, 0, 0) from by simp only [findA, seen_no h], show fndP (ixF (zD b)).sk k = false from by simp only [fndP, h]; rfl]
    exact xfindN_c b k h
theorem xkids_c (b : List GRes) (k : K2) (h8 : k.2.length = 8) (hw : wtB b ≤ 9000000) : z8 Try.prog Γ0 14 [idxA b, .arr 16 k.1, .arr 8 k.2] [.sl 3 ((kidsN b k).map (plN b))] := by
  refine pcall_ofU Try.func14 rfl Try.ntmps14 (by kernel_rfl) rfl fun w0 I0 G0 => ?_
  refine zF <| zC <| g_uG (zV 1004 rfl rfl rfl rfl) rfl <| g_uG (zV 1005 rfl rfl rfl rfl) rfl <| g_u (zE rfl rfl) <| zH <| zA <| zF <| zF <| zC <| g_u (zB rfl rfl) <| g_u (s_eqPc rfl rfl rfl Try.underlying31) <| g_u (zB rfl rfl) <| zN rfl rfl (zG rfl rfl rfl tA28 tS28 rfl rfl) <| zN rfl rfl (y_ rfl tU28 Try.underlying28 tS5 rfl rfl rfl rfl) <| zN rfl rfl (s_eqA rfl rfl rfl eg28 rfl rfl (eq28 _ _)) <| g_u (z0 rfl rfl rfl) <| zH <| zA ?_
  refine zf rfl (fun hb1 => ?_) (fun hb1 => ?_)
  · have e := kids_zero b k ((zeros_beq h8).symm.trans hb1)
    refine zF <| zC <| g_u (zE rfl rfl) <| zH <| zA <| zd <| zh ?_
    exact ⟨[.v (.slice none 0 0)], ⟨⟨rfl, rfl⟩, trivial⟩, by (try rw [e]); exact ⟨Up.nil 3, trivial⟩⟩
  · have e := kids_row b k ((zeros_beq h8).symm.trans hb1)
    refine zW <| zA <| zF <| zs yR <| g_uG (s_build0 1014 3014 rfl rfl rfl rfl rfl rfl Try.underlying46 tS38) rfl <| g_u (zB rfl rfl) <| g_u (yf rfl rfl) <| g_u (zJ rfl rfl fa83_4 rfl rfl) <| g_u (zO rfl rfl tA81 tS81 rfl rfl) <| g_u (zG rfl rfl rfl tA26 tS26 rfl rfl) <| g_u (zG rfl rfl rfl tA28 tS28 rfl rfl) <| g_u (yc rfl tU87 us87 pl87 rfl rfl rfl rfl) <| g_u (s_lookupIR kok87 rfl rfl rfl Try.underlying81 zv46 (rowK_sl (plN b) (ix_kl _) k)) ?_
    refine g_u (yi rfl rfl rfl rfl rfl Try.underlying46 Try.underlying46 tS38 zv38 rfl (by decide) by38 (by have := xG hw; have := row_len b k; (try dsimp only); simp only [List.length_map, List.length_append, List.length_nil, List.length_cons]; omega) (by have := xG hw; have := row_len b k; (try dsimp only); simp only [List.length_map, List.length_append, List.length_nil, List.length_cons]; omega)) ?_
    refine g_u (yp rfl rfl) ?_
    refine zH ⟨by kernel_rfl, ?_⟩
    refine zA <| zd ?_
    exact ⟨[.sl 3 ((kidsN b k).map (plN b))], ⟨⟨(rfl : toAV (Al.look _ _) = some _).trans (congrArg some (by rw [← e]; rfl)), rfl⟩, trivial⟩, Ups.refl _⟩
theorem xroots_c (b : List GRes) (hw : wtB b ≤ 9000000) : z8 Try.prog Γ0 16 [idxA b] [.sl 3 ((rootsN b).map (plN b))] := by
  refine zq Try.func16 rfl Try.ntmps16 (by kernel_rfl) rfl fun w0 I0 G0 => ?_
  refine zF <| zC <| g_u (zE rfl rfl) <| zH <| zA <| zF <| zF <| zC <| g_u (zB rfl rfl) <| g_u (s_eqPc rfl rfl rfl Try.underlying31) <| zH <| zA <| zc rfl <| zW <| zA <| zF <| zC <| g_uG (s_build0 1005 3005 rfl rfl rfl rfl rfl rfl Try.underlying46 tS38) rfl <| g_u (zB rfl rfl) <| g_u (yf rfl rfl) <| g_u (zJ rfl rfl fa83_2 rfl rfl) <| g_u (zO rfl rfl tA46 tS46 rfl rfl) ?_
  refine g_u (yi rfl rfl rfl rfl rfl Try.underlying46 Try.underlying46 tS38 zv38 rfl (by decide) by38 (by have := xG hw; have := rt_len b; (try dsimp only); simp only [List.length_map, List.length_append, List.length_nil, List.length_cons]; omega) (by have := xG hw; have := rt_len b; (try dsimp only); simp only [List.length_map, List.length_append, List.length_nil, List.length_cons]; omega)) ?_
  refine g_u (yp rfl rfl) <| zH <| zA <| zd ?_
  exact ⟨⟨(rfl : toAV (Al.look _ _) = some _).trans (congrArg some (by (rfl))), rfl⟩, trivial⟩
theorem xtwice_c (b : List GRes) (hw : wtB b ≤ 9000000) : z8 Try.prog Γ0 18 [idxA b] [.sl 3 ((twiceN b).map (plN b))] := by
  refine zq Try.func18 rfl Try.ntmps18 (by kernel_rfl) rfl fun w0 I0 G0 => ?_
  refine zF <| zC <| g_u (zE rfl rfl) <| zH <| zA <| zF <| zF <| zC <| g_u (zB rfl rfl) <| g_u (s_eqPc rfl rfl rfl Try.underlying31) <| zH <| zA <| zc rfl <| zW <| zA <| zF <| zC <| g_uG (s_build0 1005 3005 rfl rfl rfl rfl rfl rfl Try.underlying46 tS38) rfl <| g_u (zB rfl rfl) <| g_u (yf rfl rfl) <| g_u (zJ rfl rfl fa83_1 rfl rfl) <| g_u (zO rfl rfl tA46 tS46 rfl rfl) ?_
  refine g_u (yi rfl rfl rfl rfl rfl Try.underlying46 Try.underlying46 tS38 zv38 rfl (by decide) by38 (by have := xG hw; have := tw_len b; (try dsimp only); simp only [List.length_map, List.length_append, List.length_nil, List.length_cons]; omega) (by have := xG hw; have := tw_len b; (try dsimp only); simp only [List.length_map, List.length_append, List.length_nil, List.length_cons]; omega)) ?_
  refine g_u (yp rfl rfl) <| zH <| zA <| zd ?_
  exact ⟨⟨(rfl : toAV (Al.look _ _) = some _).trans (congrArg some (by (rw [← tw_row]; rfl))), rfl⟩, trivial⟩
theorem xrootsNil_c : z8 Try.prog Γ0 16 [.v (.pointer none)] [.sl 3 []] := by
  refine pcall_ofU Try.func16 rfl Try.ntmps16 (by kernel_rfl) rfl fun w0 I0 G0 => ?_
  refine zF <| zC <| g_u (zE rfl rfl) <| zH <| zA <| zF <| zF <| zC <| g_u (zB rfl rfl) <| g_u (s_eqPn rfl rfl rfl Try.underlying31) <| zH <| zA <| yD rfl <| zF <| zC <| g_u (zE rfl rfl) <| zH <| zA <| zd <| zh ?_
  exact ⟨[.v (.slice none 0 0)], ⟨⟨rfl, rfl⟩, trivial⟩, by exact ⟨Up.nil 3, trivial⟩⟩
set_option maxHeartbeats 2000000 in
theorem at31_c (b : List GRes) (f : List Nat) (hf : ∀ j ∈ f, j < (plR 0 b).length) (hl : f.length ≤ 9000000) : z8 Try.prog Γ0 13 [.sl 3 (f.map (plN b)), .sl 3 ((plR 0 b).map plav), .sl 1 (ivs f)] [bv true] := by
  refine zq Try.func13 rfl Try.ntmps13 (by kernel_rfl) rfl fun w0 I0 G0 => ?_
  refine zF <| zC <| g_u (zE rfl rfl) <| zH <| zA <| zF <| zF <| zC <| g_u (zB rfl rfl) <| g_u (yF rfl rfl Try.underlying46) <| g_u (zB rfl rfl) <| g_u (yF rfl rfl Try.underlying48) <| g_u (s_neI rfl rfl rfl) <| zH <| zA ?_
  refine zf rfl (fun hb1 => ?_) (fun hb1 => ?_)
  · exact killF hb1 ((by simp [ivs]))
  · refine zW ?_
    refine zA <| zF <| zF <| zC <| g_u (zE rfl rfl) <| zH <| zA <| za ?_
    refine yB (fun i : Nat => [(0, .imm (.sl 3 (f.map (plN b)))), (1, .imm (.sl 3 ((plR 0 b).map plav))), (2, .imm (.sl 1 (ivs f))), (7, .imm (iv (i : Int)))]) (fun i => i ≤ f.length) (fun i => f.length - i) (0) ?_ ⟨rfl, rfl, rfl, rfl, trivial⟩ ?_
    · exact Nat.zero_le _
    · rintro i h1; have h1 : i ≤ f.length := h1
      refine zF <| zF <| zC <| g_u (zB rfl rfl) <| g_u (zB rfl rfl) <| g_u (yF rfl rfl Try.underlying48) <| g_u (y8 rfl rfl rfl) <| zH <| zA ?_
      refine zf rfl (fun hb2 => ?_) (fun hb2 => ?_)
      · have hi : i < f.length := by have e := of_decide_eq_true hb2; simp only [ivs, List.length_map] at e; omega
        have hfi := hf _ (wG (d := 0) hi)
        refine zW <| zA <| zF <| za <| zF <| zs yR <| g_u (zB rfl rfl) <| g_u (zB rfl rfl) ?_
        refine g_u (zK rfl rfl rfl Try.underlying46 tS38 (by omega) (xX (d := 0) (f := plN b) hi)) ?_
        refine g_u (zO rfl rfl tA38 tS38 rfl rfl) <| g_u (zB rfl rfl) <| g_u (zB rfl rfl) <| g_u (zB rfl rfl) ?_
        refine g_u (zK rfl rfl rfl Try.underlying48 tS3 (by omega) (ivs_get hi)) ?_
        refine g_u (zO rfl rfl tA3 tS3 rfl rfl) ?_
        refine g_u (zK rfl rfl rfl Try.underlying35 tS42 (by omega) (xX (d := (0, 0, 0)) (f := plav) hfi)) ?_
        refine g_u (zO rfl rfl tA42 tS42 rfl rfl) <| g_u (s_neA rfl rfl rfl eg42 rfl rfl (eq42 _ _ _ _ _ _)) ?_
        refine zH ⟨by kernel_rfl, ?_⟩
        refine zA ?_
        refine zf rfl (fun hb3 => ?_) (fun hb3 => ?_)
        · exact killF hb3 ((by simp))
        · refine zW ?_
          refine zT <| zA <| zC <| g_u (zB rfl rfl) <| g_u (yh rfl rfl rfl) <| g_u (zE rfl rfl) <| zH <| zA ?_
          refine ⟨i + 1, hi, ⟨rfl, rfl, rfl, zb rfl (by rw [ze (by omega) (by omega)]; rfl), trivial⟩, by (try dsimp only); omega⟩
      · refine yA ?_
        refine zU <| zU <| zx <| zA <| zF <| zC <| g_u (zE rfl rfl) <| zH <| zA <| zd ?_
        exact ⟨⟨(rfl : toAV (Al.look _ _) = some _).trans (congrArg some (by rfl)), rfl⟩, trivial⟩
theorem one31_c (i p : UInt8) : z8 Try.prog Γ0 26 [.v (byteV i), .v (byteV p)] [(one31 i p).av] := by
  refine pcall_ofU Try.func26 rfl Try.ntmps26 (by kernel_rfl) rfl fun w0 I0 G0 => ?_
  refine zF <| zC <| g_uG (zu 1004 rfl rfl rfl tZ67) rfl <| zH <| zA <| zF <| zC <| g_u (y_ rfl tV26 Try.underlying26 tS5 rfl rfl rfl rfl) <| g_u (zB rfl rfl) <| g_u (y_ rfl tV28 Try.underlying28 tS5 rfl rfl rfl rfl) <| g_u (zB rfl rfl) <| g_u (y_ rfl tV28 Try.underlying28 tS5 rfl rfl rfl rfl) <| g_u (yc rfl tU67 us67 pl67 rfl rfl rfl rfl) ?_
  refine g_u (zY rfl rfl rfl tS67 (by first | exact beqW (GSpan.width _) | rfl) (by first | exact setS_w (z67_w.trans (GSpan.width _).symm) rfl | rfl)) ?_
  refine zH <| zA <| zd ?_
  exact ⟨[pOne i p], ⟨⟨_, _, _, _, _, _, _, rfl, rfl, tA67, tS67, rfl, rfl, rfl⟩, trivial⟩, ⟨upOne i p, trivial⟩⟩
end Go.Proofs
namespace Go.Al
open Go.RowKit
section
variable {C : Cx} {d : Nat} {ty : TypeId} {pos : String} {af : Array Edge} {x : Operand}
theorem wp_nextA {st : St} {a : Act} {w : World} {gi gm n : Nat} {seen : List Nat} {ks vs : List AV} (S : Sim C (look st) a w) (hN : Nat.blt d C.N = true) (hx : opS (look st) x = .ptr gi 0) (hg : look st gi = .itr gm n seen) (hm : look st gm = .mpr ks vs) (hn : Nat.beq n ks.length = true) (hgN : Nat.ble C.N gi = true) :
    ((∀ i, i < n → i ∈ seen) ∧ Oper.wp C.P ⟨some d, .next x false, ty, pos, af, none⟩ a w (fun a' w' => Sim C (look ([(d, .tup [.imm (.v (.bool false))])] ++ st)) a' w') (fun _ _ _ => False)) ∨
    ∃ (i : Nat) (s v : AV), i < n ∧ i ∉ seen ∧ ks[i]? = some s ∧ vs[i]? = some v ∧
      Oper.wp C.P ⟨some d, .next x false, ty, pos, af, none⟩ a w (fun a' w' => Sim C (look ([(d, .tup [.imm (.v (.bool true)), .imm s, .imm v]), (gi, .itr gm n (seen ++ [i]))] ++ st)) a' w') (fun _ _ _ => False) := by
  obtain ⟨G, S⟩ := S
  have hN' : d < C.N := by simpa [Nat.blt_eq] using hN
  have hgN' : C.N ≤ gi := Nat.le_of_ble_eq_true hgN
  have hn' : n = ks.length := Nat.eq_of_beq_eq_true hn
  obtain ⟨c, hc1, hc2⟩ := S.opS hx rfl
  simp only [RepS] at hc1
  have hev : a.eval x = .pointer (some ⟨G.blk gi, 0, none⟩) := by rw [hc2, hc1]; rfl
  have hi := S.holds gi
  rw [hg] at hi
  simp only [Holds] at hi
  obtain ⟨ho1, hi1, hi2⟩ := hi
  have hb := S.holds gm
  rw [hm] at hb
  simp only [Holds] at hb
  obtain ⟨ho2, ⟨es, h1, h2, h3, h4⟩, hni⟩ := hb
  have hlen : es.size = ks.length := by have := yy h3; simpa using this
  have hold : ∀ x ∈ es.toList, x.born < n := by
    intro x hx
    obtain ⟨i, hi, rfl⟩ := List.getElem_of_mem hx
    have := h2 i (by simpa using hi)
    simp only [Array.getElem_toList, this]
    have : i < es.size := by simpa using hi
    omega
  have hes : es.size = n := by omega
  rcases run_next_at (P := C.P) w ty (G.blk gi) (G.blk gm) n n seen.toArray es es.size hi1 h1 hold (Nat.le_refl _) with ⟨h0, hrun⟩ | ⟨e, he, w1, hw1, hrun⟩
  · refine .inl ⟨fun i hi => ?_, ?_⟩
    · have hie : i < es.size := by omega
      have := leftOf_none h0 es[i] (by simp)
      rw [h2 i hie] at this
      simpa using this
    · unfold Oper.wp
      have : (execOp a.eval ⟨some d, .next x false, ty, pos, af, none⟩).run C.P w = .ok (.value (.tuple #[.bool false])) w := by
        simp only [execOp, hev, Sem.run_bind, hrun, Result.andThen_ok, Sem.run_pure]
      rw [this, Oper.upon_value]
      have S2 := S.put (d := d) hN' (x := .tup [.imm (.v (.bool false))]) (v := .tuple #[.bool false]) (by
        simp only [yO]
        exact ⟨[.bool false], rfl, .bool false, [], rfl, zm.2 (yw _ _ rfl), rfl⟩)
      rw [xM] at S2
      exact ⟨G, S2⟩
  · obtain ⟨he1, he2⟩ := leftOf_mem he
    obtain ⟨i, hi, rfl⟩ := List.getElem_of_mem he1
    have hie : i < es.size := by simpa using hi
    have hbi := h2 i hie
    simp only [Array.getElem_toList] at he2 hrun ⊢
    obtain ⟨uk, hk1, hk2⟩ := yb h3 (List.getElem?_eq_getElem (show i < ks.length by omega))
    simp only [List.getElem?_map, Array.getElem?_toList, Array.getElem?_eq_getElem hie, Option.map_some, Option.some.injEq] at hk1
    have hvl := yy h4
    have hvl' : vs.length = es.size := by simpa using hvl.symm
    obtain ⟨u, hu1, hu2⟩ := yb h4 (List.getElem?_eq_getElem (show i < vs.length by omega))
    simp only [List.getElem?_map, Array.getElem?_toList, Array.getElem?_eq_getElem hie, Option.map_some, Option.some.injEq] at hu1
    refine .inr ⟨i, ks[i]'(by omega), vs[i]'(by omega), by omega, ?_, List.getElem?_eq_getElem _, List.getElem?_eq_getElem _, ?_⟩
    · rw [hbi] at he2; simpa using he2
    · unfold Oper.wp
      have : (execOp a.eval ⟨some d, .next x false, ty, pos, af, none⟩).run C.P w = .ok (.value (.tuple #[.bool true, es[i].key, es[i].val])) (zn w1 (G.blk gi) (.mapIter (some (G.blk gm)) n (seen ++ [i]).toArray n)) := by
        simp only [execOp, hev, Sem.run_bind, hrun, Result.andThen_ok, Sem.run_pure]
        simp only [hbi, hes]
        congr 1
        simp only [ChangeMaps.setBlock, zn]
        congr 2
        simp
      rw [this, Oper.upon_value]
      have S1 := S.draws hw1
      have hhe : w1.heap = w.heap := by rcases hw1 with rfl | rfl <;> rfl
      have hle1 : Le w G.I w1 G.I := fun b o h => ⟨h, zy (by rw [hhe])⟩
      have S2 := S1.turnOG (g := gi) (X' := .itr gm n (seen ++ [i])) (o' := .mapIter (some (G.blk gm)) n (seen ++ [i]).toArray n) ⟨ho1.1, by rw [hhe]; exact ho1.2⟩ hi2 (by rw [hg]; simp [zR]) (fun b h => by simpa only [zR] using h) (fun hle => by
        simp only [Holds]
        exact ⟨⟨ho1.1, by rw [z_, hhe]; exact ho1.2⟩, yI (by rw [hhe]; exact ho1.2), hi2⟩)
      rw [xM] at S2
      have hle2 : Le w1 G.I (zn w1 (G.blk gi) (.mapIter (some (G.blk gm)) n (seen ++ [i]).toArray n)) G.I := fun b o h => ⟨h, by
        have : b ≠ G.blk gi := by rintro rfl; exact hi2 o h
        exact zy (yH this)⟩
      have S3 := S2.put (d := d) hN' (x := .tup [.imm (.v (.bool true)), .imm (ks[i]'(by omega)), .imm (vs[i]'(by omega))]) (v := .tuple #[.bool true, es[i].key, es[i].val]) (by
        simp only [yO]
        refine ⟨[.bool true, es[i].key, es[i].val], rfl, .bool true, _, rfl, zm.2 (yw _ _ rfl), es[i].key, _, rfl, zm.2 (by rw [hk1]; exact hk2.mono (hle1.trans hle2)), es[i].val, [], rfl, zm.2 ?_, rfl⟩
        rw [hu1]; exact hu2.mono (hle1.trans hle2))
      rw [xM] at S3
      exact ⟨G, S3⟩
theorem aw_nextA {id : Nat} {ops : Array Oper} {os : List Oper} {st : St} {Q : Exit → St → Prop} {gi gm n : Nat} {seen : List Nat} {ks vs : List AV} (hl : ops.toList = ⟨some d, .next x false, ty, pos, af, none⟩ :: os)
    (hN : Nat.blt d C.N = true) (hx : opS (look st) x = .ptr gi 0) (hg : look st gi = .itr gm n seen) (hm : look st gm = .mpr ks vs) (hn : Nat.beq n ks.length = true) (hgN : Nat.ble C.N gi = true)
    (hdone : (∀ i, i < n → i ∈ seen) → Go1 C ops os ((d, .tup [.imm (.v (.bool false))]) :: st) [] (fun st' _ => Q .normal st'))
    (hmore : ∀ i (s v : AV), i < n → i ∉ seen → ks[i]? = some s → vs[i]? = some v → Go1 C ops os ((d, .tup [.imm (.v (.bool true)), .imm s, .imm v]) :: (gi, .itr gm n (seen ++ [i])) :: st) [] (fun st' _ => Q .normal st')) (hnd : noDef ops.toList = true := by rfl) :
    AW C (.region id ops false) st Q := by
  refine aw_first (hnd := hnd) hl rfl fun a w S => ?_
  rcases wp_nextA (ty := ty) (pos := pos) (af := af) S hN hx hg hm hn hgN with ⟨h1, h2⟩ | ⟨i, s, v, h1, h2, h3, h4, h5⟩
  · exact ⟨_, h2, hdone h1⟩
  · exact ⟨_, h5, hmore i s v h1 h2 h3 h4⟩
end
section
variable {C : Cx} {A : Nat → SV} {d : Nat} {ty : TypeId} {pos : String} {af : Array Edge} {gd : Option (Nat × Bool)} {x : Operand}
theorem s_entryA {gi gm n i : Nat} {seen : List Nat} {ks vs : List AV} {s v : AV} (hN : Nat.blt d C.N = true) (hx : opS A x = .ptr gi 0) (hg : A gi = .itr gm n (seen ++ [i])) (hm : A gm = .mpr ks vs) (hn : Nat.beq n ks.length = true) (hs : ks[i]? = some s) (hv : vs[i]? = some v) :
    zZ C ⟨some d, .entry x, ty, pos, af, gd⟩ (gi :: gm :: opR x) [] A [(d, .tup [.imm s, .imm v])] := by
  refine zZ.value rfl hN fun A' G a w hR S => ?_
  have hgA : A' gi = .itr gm n (seen ++ [i]) := (hR gi (by simp)).trans hg
  have hmA : A' gm = .mpr ks vs := (hR gm (by simp)).trans hm
  have hn' : n = ks.length := Nat.eq_of_beq_eq_true hn
  obtain ⟨c, hc1, hc2⟩ := S.opS ((zt (fun k hk => hR k (List.mem_cons_of_mem _ (List.mem_cons_of_mem _ hk)))).trans hx) rfl
  simp only [RepS] at hc1
  have hev : a.eval x = .pointer (some ⟨G.blk gi, 0, none⟩) := by rw [hc2, hc1]; rfl
  have hi := S.holds gi
  rw [hgA] at hi
  simp only [Holds] at hi
  obtain ⟨ho1, hi1, hi2⟩ := hi
  have hb := S.holds gm
  rw [hmA] at hb
  simp only [Holds] at hb
  obtain ⟨ho2, ⟨es, h1, h2, h3, h4⟩, hni⟩ := hb
  have hlen : es.size = ks.length := by have := yy h3; simpa using this
  have hil : i < ks.length := (List.getElem?_eq_some_iff.1 hs).1
  have hie : i < es.size := by omega
  obtain ⟨uk, hk1, hk2⟩ := yb h3 hs
  simp only [List.getElem?_map, Array.getElem?_toList, Array.getElem?_eq_getElem hie, Option.map_some, Option.some.injEq] at hk1
  obtain ⟨u, hu1, hu2⟩ := yb h4 hv
  simp only [List.getElem?_map, Array.getElem?_toList, Array.getElem?_eq_getElem hie, Option.map_some, Option.some.injEq] at hu1
  have hnd : (es.toList.map (·.born)).Nodup := by
    have : es.toList.map (·.born) = List.range es.size := by
      refine List.ext_getElem (by simp) fun j h5 h6 => ?_
      have : j < es.size := by simpa using h5
      simp [h2 j this]
    rw [this]; exact List.nodup_range
  have hi1' : w.heap[G.blk gi]? = some (.mapIter (some (G.blk gm)) n (seen.toArray.push es[i].born) es.size) := by
    rw [hi1, h2 i hie, hn', hlen]; simp
  have hrun := run_entry_at (P := C.P) w (G.blk gi) (G.blk gm) n seen.toArray es es.size es[i] hi1' h1 (by simp) hnd
  refine ⟨.tuple #[es[i].key, es[i].val], ?_, ?_⟩
  · simp only [execOp, hev, Sem.run_bind, hrun, Result.andThen_ok, Sem.run_pure]
  · simp only [yO]
    exact ⟨[es[i].key, es[i].val], rfl, es[i].key, _, rfl, zm.2 (by rw [hk1]; exact hk2), es[i].val, [], rfl, zm.2 (by rw [hu1]; exact hu2), rfl⟩
end
end Go.Al
namespace Go.Proofs
open Go Go.Al
abbrev Cnt := List GCore × List Int
def cval (m : Cnt) (c : GCore) : Int := match zX m.1 c 0 with | some i => nth m.2 i 0 | none => 0
def cupd (m : Cnt) (c : GCore) (d : Int) : Cnt := (yd m.1 c, match zX m.1 c 0 with | some i => m.2.set i (nth m.2 i 0 + d) | none => m.2 ++ [d])
def cOk (m : Cnt) : Prop := m.1.length = m.2.length ∧ m.1.Nodup
section
variable {m : Cnt} {c : GCore} {d : Int}
theorem cupd_ok (h : cOk m) : cOk (cupd m c d) := by
  unfold cupd yd cOk
  cases hk : zX m.1 c 0 with
  | some i => exact ⟨by simp [h.1], h.2⟩
  | none =>
    refine ⟨by simp [h.1], ?_⟩
    rw [List.nodup_append]
    refine ⟨h.2, by simp, fun a ha b hb e => ?_⟩
    rw [List.mem_singleton.1 hb] at e
    exact kfind_none.1 hk (e ▸ ha)
theorem cupd_mem {k : GCore} : k ∈ (cupd m c d).1 ↔ k ∈ m.1 ∨ k = c := by
  unfold cupd yd
  cases hk : zX m.1 c 0 with
  | some i =>
    have := List.mem_of_getElem? (zz hk).2
    exact ⟨.inl, fun h => h.elim id (fun e => e ▸ this)⟩
  | none => simp
theorem cupd_val (h : cOk m) (k : GCore) : cval (cupd m c d) k = cval m k + (if k = c then d else 0) := by
  unfold cval cupd yd
  cases hk : zX m.1 c 0 with
  | some i =>
    have hi := zz hk
    simp only
    cases hj : zX m.1 k 0 with
    | some j =>
      have hj' := zz hj
      simp only
      by_cases e : k = c
      · subst e; rw [hk] at hj; cases hj
        rw [if_pos rfl]
        unfold nth; simp [List.getD, List.getElem?_set_self, show i < m.2.length by rw [← h.1]; exact hi.1]
      · rw [if_neg e]
        have : i ≠ j := by
          rintro rfl
          rw [hi.2] at hj'; exact e (Option.some.inj hj'.2).symm
        simp [nth, List.getD, List.getElem?_set_ne this]
    | none =>
      by_cases e : k = c
      · subst e; rw [hk] at hj; cases hj
      · rw [if_neg e]; rfl
  | none =>
    simp only
    rw [y3]
    cases hj : zX m.1 k 0 with
    | some j =>
      have hj' := (zz hj).1
      by_cases e : k = c
      · subst e; rw [hk] at hj; cases hj
      · simp [nth, List.getD, List.getElem?_append_left (show j < m.2.length by rw [← h.1]; exact hj'), e]
    | none =>
      by_cases e : k = c
      · simp only [if_pos e, Nat.zero_add]
        simp [nth, List.getD, h.1]
      · simp only [if_neg e]; rfl
theorem cval_at (h : cOk m) {i : Nat} (hi : i < m.1.length) : nth m.2 i 0 = cval m (nthK m.1 i) := by
  have hg := yP (d := gk0) hi
  obtain ⟨j, h1, h2⟩ := yg hg
  have h3 := zz h1
  have : j = i := (List.getElem?_inj h3.1 h.2).1 (h3.2.trans hg.symm)
  unfold cval
  have e : nthK m.1 i = nth m.1 i gk0 := rfl
  rw [e, h1, this]
theorem cval_av (h : cOk m) (c : GCore) : (match zX m.1 c 0 with | some i => (m.2.map iv)[i]? | none => some (iv 0)) = some (iv (cval m c)) := by
  unfold cval
  cases hk : zX m.1 c 0 with
  | some i =>
    have hi := (zz hk).1
    simp only
    rw [List.getElem?_map, yP (d := 0) (show i < m.2.length by rw [← h.1]; exact hi)]; rfl
  | none => rfl
theorem cupd_av (h : cOk m) {x : Int} (hx : x = cval m c + d) : (kold m.1 (m.2.map iv) c (iv 0)).set (kidx m.1 c) (iv x) = (cupd m c d).2.map iv := by
  subst hx
  unfold kold kidx cupd cval
  cases hk : zX m.1 c 0 with
  | some i => simp only; rw [List.map_set]
  | none =>
    simp only
    rw [List.map_append, h.1]
    rw [List.set_append_right _ _ (by simp)]
    simp
theorem kidx_lt_old (h : cOk m) : kidx m.1 c < (kold m.1 (m.2.map iv) c (iv 0)).length := by
  unfold kidx kold
  cases hk : zX m.1 c 0 with
  | some i => have := (zz hk).1; simp only [List.length_map, ← h.1]; exact this
  | none => simp [h.1]
end
def cntL (m : Cnt) (l : List GCore) (d : Int) : Cnt := l.foldl (fun m c => cupd m c d) m
theorem cntL_snoc (m : Cnt) (l : List GCore) (c : GCore) (d : Int) : cntL m (l ++ [c]) d = cupd (cntL m l d) c d := by unfold cntL; rw [List.foldl_append]; rfl
theorem cntL_take {m : Cnt} {l : List GCore} {d : Int} {i : Nat} (hi : i < l.length) : cntL m (l.take (i + 1)) d = cupd (cntL m (l.take i) d) (nthK l i) d := by rw [yz hi, cntL_snoc]
theorem wZ (x : GCore) (l : List GCore) (k : GCore) : yC (x :: l) k = yC l k + (if k = x then 1 else 0) := by
  unfold yC
  rw [List.countP_cons]
  by_cases e : k = x
  · subst e; simp
  · simp [e, Ne.symm e]
theorem vC (d : Int) : ∀ (l : List GCore) (m : Cnt), cOk m → cOk (cntL m l d) ∧ (∀ k, cval (cntL m l d) k = cval m k + d * (yC l k : Int)) ∧ ∀ k, k ∈ (cntL m l d).1 ↔ k ∈ m.1 ∨ k ∈ l
  | [], m, h => ⟨h, fun k => by show cval m k = cval m k + d * ((0 : Nat) : Int); simp, fun k => by show k ∈ m.1 ↔ _; simp⟩
  | x :: l, m, h => by
    obtain ⟨h1, h2, h3⟩ := vC d l (cupd m x d) (cupd_ok h)
    have e : cntL m (x :: l) d = cntL (cupd m x d) l d := rfl
    rw [e]
    refine ⟨h1, fun k => ?_, fun k => ?_⟩
    · rw [h2, cupd_val h, wZ]
      by_cases e : k = x
      · rw [if_pos e, if_pos e, Int.natCast_add, Int.mul_add]; simp; omega
      · rw [if_neg e, if_neg e]; simp
    · rw [h3, cupd_mem, List.mem_cons, or_assoc]
def c0 : Cnt := ([], [])
theorem c0_ok : cOk c0 := ⟨rfl, List.nodup_nil⟩
theorem c0_val (k : GCore) : cval c0 k = 0 := rfl
def cntA (x : List GCore) (i : Nat) : Cnt := cntL c0 (x.take i) 1
def cntB (x y : List GCore) (i : Nat) : Cnt := cntL (cntL c0 x 1) (y.take i) (-1)
theorem countC_take_le (l : List GCore) (c : GCore) (i : Nat) : yC (l.take i) c ≤ l.length := Nat.le_trans (countC_le _ _) (by rw [List.length_take]; omega)
theorem ww (x : List GCore) (i : Nat) : cOk (cntA x i) ∧ ∀ k, 0 ≤ cval (cntA x i) k ∧ cval (cntA x i) k ≤ x.length := by
  obtain ⟨h1, h2, _⟩ := vC 1 (x.take i) c0 c0_ok
  refine ⟨h1, fun k => ?_⟩
  have e : cval (cntA x i) k = _ := h2 k
  rw [c0_val] at e
  have := countC_take_le x k i
  omega
theorem xa (x y : List GCore) (i : Nat) : cOk (cntB x y i) ∧ ∀ k, -(y.length : Int) ≤ cval (cntB x y i) k ∧ cval (cntB x y i) k ≤ x.length := by
  obtain ⟨h1, h2, _⟩ := vC 1 x c0 c0_ok
  obtain ⟨g1, g2, _⟩ := vC (-1) (y.take i) _ h1
  refine ⟨g1, fun k => ?_⟩
  have e : cval (cntB x y i) k = _ := g2 k
  rw [h2, c0_val] at e
  have := countC_take_le y k i
  have := countC_le x k
  omega
theorem cntB_val (x y : List GCore) (k : GCore) : cval (cntB x y y.length) k = (yC x k : Int) - yC y k ∧ (k ∈ (cntB x y y.length).1 ↔ k ∈ x ∨ k ∈ y) := by
  obtain ⟨h1, h2, h3⟩ := vC 1 x c0 c0_ok
  obtain ⟨g1, g2, g3⟩ := vC (-1) (y.take y.length) _ h1
  have e : cval (cntB x y y.length) k = _ := g2 k
  rw [h2, c0_val, List.take_length] at e
  refine ⟨by omega, ?_⟩
  have e3 := g3 k
  rw [h3, List.take_length] at e3
  unfold cntB
  rw [List.take_length, e3]
  simp [c0]
theorem countC_perm {x y : List GCore} (h : x.Perm y) (c : GCore) : yC x c = yC y c := h.countP_eq _
theorem countC_app (x y : List GCore) (c : GCore) : yC (x ++ y) c = yC x c + yC y c := List.countP_append ..
theorem countC_pos {x : List GCore} {c : GCore} : 0 < yC x c ↔ c ∈ x := by
  unfold yC
  rw [List.countP_pos_iff]
  simp
theorem count_sub : ∀ (x y : List GCore), (∀ c ∈ x, yC x c ≤ yC y c) → ∃ z, y.Perm (x ++ z)
  | [], y, _ => ⟨y, .refl _⟩
  | a :: x, y, h => by
    have ha := h a List.mem_cons_self
    rw [wZ, if_pos rfl] at ha
    have hm : a ∈ y := countC_pos.1 (by omega)
    have hp : y.Perm (a :: y.erase a) := List.perm_cons_erase hm
    obtain ⟨z, hz⟩ := count_sub x (y.erase a) fun c hc => by
      have h1 := h c (List.mem_cons_of_mem _ hc)
      rw [wZ, countC_perm hp, wZ] at h1
      omega
    exact ⟨z, hp.trans (hz.cons a)⟩
theorem alike_iff {x y : List GCore} : xO x y = true ↔ x.Perm y := by
  refine ⟨fun h => ?_, alike_perm⟩
  unfold xO at h
  rw [Bool.and_eq_true, qa, List.all_eq_true] at h
  obtain ⟨z, hz⟩ := count_sub x y fun c hc => by have := of_decide_eq_true (h.2 c hc); omega
  have hl := hz.length_eq
  rw [List.length_append] at hl
  have : z = [] := List.length_eq_zero_iff.1 (by omega)
  rw [this, List.append_nil] at hz
  exact hz.symm
theorem alike_cnt {x y : List GCore} : xO x y = true ↔ ∀ c, c ∈ x ∨ c ∈ y → yC x c = yC y c := by
  rw [alike_iff]
  refine ⟨fun h c _ => countC_perm h c, fun h => ?_⟩
  obtain ⟨z, hz⟩ := count_sub x y fun c hc => by have := h c (.inl hc); omega
  cases z with
  | nil => rw [List.append_nil] at hz; exact hz.symm
  | cons a z =>
    have hy : a ∈ y := hz.mem_iff.2 (by simp)
    have e := h a (.inr hy)
    rw [countC_perm hz, countC_app, wZ, if_pos rfl] at e
    omega
theorem alike_sym (x y : List GCore) : xO x y = xO y x := by
  rw [Bool.eq_iff_iff, alike_iff, alike_iff]
  exact ⟨List.Perm.symm, List.Perm.symm⟩
theorem cnt_no {x y : List GCore} {i : Nat} (hi : i < (cntB x y y.length).1.length) (q : ¬ nth (cntB x y y.length).2 i 0 = 0) : xO x y = false := by
  rw [cval_at (xa x y _).1 hi] at q
  have hm : nthK (cntB x y y.length).1 i ∈ (cntB x y y.length).1 := wG (d := gk0) hi
  have h1 := (cntB_val x y (nthK (cntB x y y.length).1 i)).1
  have h2 := (cntB_val x y (nthK (cntB x y y.length).1 i)).2.1 hm
  cases h : xO x y with
  | false => rfl
  | true =>
    have := alike_cnt.1 h _ h2
    omega
theorem cnt_yes {x y : List GCore} (q : ∀ i, i < (cntB x y y.length).1.length → nth (cntB x y y.length).2 i 0 = 0) : xO x y = true := by
  refine alike_cnt.2 fun c hc => ?_
  have hm := (cntB_val x y c).2.2 hc
  obtain ⟨i, hi⟩ := List.getElem?_of_mem hm
  have hlt := (List.getElem?_eq_some_iff.1 hi).1
  have h1 := q i hlt
  rw [cval_at (xa x y _).1 hlt] at h1
  have e := yP (d := gk0) hlt
  rw [hi] at e
  have e2 : nthK (cntB x y y.length).1 i = c := (Option.some.inj e).symm
  rw [e2] at h1
  have := (cntB_val x y c).1
  omega
end Go.Proofs
namespace Go.Proofs
open Go Go.Al
theorem plC_nodup (i : Nat) : ∀ (l : List GScope) (k : Nat), (plC i k l).Nodup ∧ ∀ p ∈ plC i k l, k ≤ p.2.1
  | [], k => by simp [plC]
  | c :: l, k => by
    obtain ⟨h1, h2⟩ := plC_nodup i l (k + 1)
    rw [plC]
    refine ⟨List.nodup_append.2 ⟨?_, h1, fun p hp q hq e => ?_⟩, fun p hp => ?_⟩
    · exact (List.nodup_range).map (f := fun j => (i, k, j)) (fun a b e => by simpa using e)
    · obtain ⟨j, _, rfl⟩ := List.mem_map.1 hp
      subst e
      have := h2 _ hq; simp at this; omega
    · rcases List.mem_append.1 hp with hp | hp
      · obtain ⟨j, _, rfl⟩ := List.mem_map.1 hp; exact Nat.le_refl _
      · have := h2 _ hp; omega
theorem plR_nodup : ∀ (l : List GRes) (i : Nat), (plR i l).Nodup ∧ ∀ p ∈ plR i l, i ≤ p.1
  | [], i => by simp [plR]
  | r :: l, i => by
    obtain ⟨h1, h2⟩ := plR_nodup l (i + 1)
    rw [plR]
    refine ⟨List.nodup_append.2 ⟨(plC_nodup i _ _).1, h1, fun p hp q hq e => ?_⟩, fun p hp => ?_⟩
    · subst e
      have e1 := plR_spans.plC_fst i _ _ _ hp
      have := h2 _ hq; omega
    · rcases List.mem_append.1 hp with hp | hp
      · rw [plR_spans.plC_fst i _ _ _ hp]; exact Nat.le_refl _
      · have := h2 _ hp; omega
theorem first_at {b : List GRes} {i : Nat} {p : Nat × Nat × Nat} (h : (plR 0 b)[i]? = some p) :
    ∃ j : Nat, yE (zD b) (yW (nthK (zD b) i)) = (j : Int) ∧ j ≤ i ∧ j < (plR 0 b).length ∧ (twP (zD b) i = decide (j ≠ i)) ∧ (nth (plR 0 b) j (0, 0, 0) = p ↔ j = i) := by
  obtain ⟨hi, hp, hc⟩ := xi h
  obtain ⟨j, h1, h2⟩ := yg (K1_get hi)
  have hlt := (List.getElem?_eq_some_iff.1 h).1
  have e : yE (zD b) (yW (nthK (zD b) i)) = (j : Int) := by unfold yE; rw [h1]
  refine ⟨j, e, h2, by omega, ?_, ?_⟩
  · unfold twP; rw [e, Bool.eq_iff_iff]; simp; omega
  · have hj := yP (d := ((0, 0, 0) : Nat × Nat × Nat)) (show j < (plR 0 b).length by omega)
    refine ⟨fun q => ?_, fun q => by subst q; exact hp⟩
    rw [q, ← h] at hj
    exact (List.getElem?_inj (by omega) (plR_nodup b 0).1).1 hj
theorem cnt_le {p : Nat → Bool} (n : Nat) : ((List.range n).filter p).length = (List.range n).countP p := (List.countP_eq_length_filter ..).symm
def wH (b : List GRes) (i : Nat) : Nat := ((List.range i).map fun m => if twP (zD b) m then 0 else (kidsN b (yW (nthK (zD b) m))).length).sum
theorem kidSum_succ (b : List GRes) (i : Nat) : wH b (i + 1) = wH b i + if twP (zD b) i then 0 else (kidsN b (yW (nthK (zD b) i))).length := by
  unfold wH; rw [List.range_succ, List.map_append, List.sum_append]; simp
def upP (b : List GRes) (i : Nat) (j : Nat) : Bool := !xh (nthK (zD b) j).parent && decide (0 ≤ yE (zD b) (xU (nthK (zD b) j)) ∧ yE (zD b) (xU (nthK (zD b) j)) < (i : Int))
theorem countP_or {p q r : Nat → Bool} : ∀ (l : List Nat), (∀ x, r x = (p x || q x)) → (∀ x, ¬ (p x = true ∧ q x = true)) → l.countP r = l.countP p + l.countP q
  | [], _, _ => rfl
  | x :: l, h1, h2 => by
    have ih := countP_or l h1 h2
    have h2 := h2 x
    rw [List.countP_cons, List.countP_cons, List.countP_cons, ih, h1]
    cases hp : p x <;> cases hq : q x <;> simp_all <;> omega
theorem kid_up {b : List GRes} : ∀ {i : Nat}, i ≤ (zD b).length → wH b i = (List.range (zD b).length).countP (upP b i)
  | 0, _ => by
    unfold wH
    simp only [List.range_zero, List.map_nil, List.sum_nil]
    symm
    rw [List.countP_eq_zero]
    intro j _
    unfold upP
    simp
  | i + 1, h => by
    have hi : i < (zD b).length := by omega
    have ih := kid_up (b := b) (i := i) (by omega)
    rw [kidSum_succ, ih]
    by_cases ht : twP (zD b) i = true
    · rw [if_pos ht, Nat.add_zero]
      refine congrArg (fun p => List.countP p _) (funext fun j => ?_)
      unfold upP; congr 1
      rw [Bool.eq_iff_iff, qa, qa]
      refine ⟨fun ⟨h1, h2⟩ => ⟨h1, by omega⟩, fun ⟨h1, h2⟩ => ⟨h1, ?_⟩⟩
      rcases (by omega : (yE (zD b) (xU (nthK (zD b) j))) < (i : Int) ∨ (i : Int) ≤ (yE (zD b) (xU (nthK (zD b) j)))) with h3 | h3
      · exact h3
      · have h4 : yE (zD b) (xU (nthK (zD b) j)) = (i : Int) := by omega
        unfold yE at h4
        cases hk : zX (K1 (zD b)) (xU (nthK (zD b) j)) 0 with
        | none => rw [hk] at h4; simp only at h4; omega
        | some m =>
          rw [hk] at h4
          have : m = i := by simp only at h4; omega
          subst this
          have h5 := (zz hk).2
          rw [K1_get hi] at h5
          unfold twP yE at ht
          rw [Option.some.inj h5, hk] at ht
          simp at ht
    · rw [if_neg ht]
      have ht : twP (zD b) i = false := by simpa using ht
      have hl : (kidsN b (yW (nthK (zD b) i))).length = (List.range (zD b).length).countP (kzP (zD b) (yW (nthK (zD b) i))) := cnt_le _
      rw [hl]
      symm
      have hf : yE (zD b) (yW (nthK (zD b) i)) = (i : Int) := by
        obtain ⟨j, h1, h2⟩ := yg (K1_get hi)
        have e : yE (zD b) (yW (nthK (zD b) i)) = (j : Int) := by unfold yE; rw [h1]
        unfold twP at ht
        rw [e] at ht ⊢
        simp at ht; omega
      refine countP_or _ (fun j => ?_) (fun j => ?_)
      · unfold upP kzP kdP
        rw [Bool.eq_iff_iff]
        simp only [Bool.and_eq_true, Bool.or_eq_true, qa, Bool.not_eq_true']
        constructor
        · rintro ⟨h1, h2, h3⟩
          rcases (by omega : (yE (zD b) (xU (nthK (zD b) j))) < (i : Int) ∨ (i : Int) ≤ (yE (zD b) (xU (nthK (zD b) j)))) with h4 | h4
          · exact .inl ⟨h1, h2, h4⟩
          · right
            have h5 : yE (zD b) (xU (nthK (zD b) j)) = (i : Int) := by omega
            unfold yE at h5
            cases hk : zX (K1 (zD b)) (xU (nthK (zD b) j)) 0 with
            | none => rw [hk] at h5; simp only at h5; omega
            | some m =>
              rw [hk] at h5
              have : m = i := by simp only at h5; omega
              subst this
              have h6 := (zz hk).2
              rw [K1_get hi] at h6
              have h7 := Option.some.inj h6
              exact ⟨h7.symm, by rw [h7]; exact h1⟩
        · rintro (⟨h1, h2, h3⟩ | ⟨h1, h2⟩)
          · exact ⟨h1, h2, by omega⟩
          · refine ⟨?_, by rw [h1, hf]; omega, by rw [h1, hf]; omega⟩
            have : (nthK (zD b) j).parent = (yW (nthK (zD b) i)).2 := congrArg Prod.snd h1
            rw [this]; exact h2
      · rintro ⟨h1, h2⟩
        unfold upP at h1
        unfold kzP kdP at h2
        simp only [Bool.and_eq_true, qa, Bool.not_eq_true'] at h1 h2
        rw [h2.1, hf] at h1
        omega
theorem whole31 (b : List GRes) : (rootsN b).length + wH b (zD b).length = (zD b).length := by
  rw [kid_up (Nat.le_refl _)]
  have hl : (rootsN b).length = (List.range (zD b).length).countP (rtP (zD b)) := cnt_le _
  rw [hl]
  have := countP_or (p := rtP (zD b)) (q := upP b (zD b).length) (r := fun _ => true) (List.range (zD b).length) (fun j => ?_) (fun j => ?_)
  · rw [← this]; simp
  · unfold rtP upP
    have := find_rg (zD b) (xU (nthK (zD b) j))
    cases xh (nthK (zD b) j).parent
    · simp; omega
    · simp
  · unfold rtP upP
    cases xh (nthK (zD b) j).parent
    · simp; omega
    · simp
end Go.Proofs
namespace Go.Proofs
open Go Go.Al
theorem cval_av2 {m : Cnt} (h : cOk m) (c : GCore) : (match zX (yd m.1 c) c 0 with | some i => (kold m.1 (m.2.map iv) c (iv 0))[i]? | none => some (iv 0)) = some (iv (cval m c)) := by
  cases hk : zX m.1 c 0 with
  | some i =>
    have e : yd m.1 c = m.1 ∧ kold m.1 (m.2.map iv) c (iv 0) = m.2.map iv := by unfold yd kold; rw [hk]; exact ⟨rfl, rfl⟩
    rw [e.1, e.2]; exact cval_av h c
  | none =>
    have e : yd m.1 c = m.1 ++ [c] ∧ kold m.1 (m.2.map iv) c (iv 0) = m.2.map iv ++ [iv 0] ∧ cval m c = 0 := by unfold yd kold cval; rw [hk]; exact ⟨rfl, rfl, rfl⟩
    rw [e.1, e.2.1, e.2.2, y3, hk]
    simp only [if_true, Nat.zero_add]
    rw [h.1]; simp
end Go.Proofs
namespace Go.Al
open Go.RowKit
def wX (i0 k0 : Nat) (j : Nat) (t : Tr) : Tr := if j = i0 then { t with R := t.R.filter fun k => k != k0 } else t
theorem strip_W {i0 k0 j : Nat} {t : Tr} : (wX i0 k0 j t).W = t.W := by unfold wX; split <;> rfl
theorem strip_post {i0 k0 j : Nat} {t : Tr} : (wX i0 k0 j t).post = t.post := by unfold wX; split <;> rfl
theorem strip_Gs {i0 k0 j : Nat} {t : Tr} : (wX i0 k0 j t).Gs = t.Gs := by unfold wX; split <;> rfl
theorem strip_M {i0 k0 j k : Nat} {t : Tr} (h : k ∈ t.M) (h2 : ¬ (j = i0 ∧ k = k0 ∧ k ∉ y7 t.post)) : k ∈ (wX i0 k0 j t).M := by
  unfold wX
  split
  · rename_i hj
    simp only [Tr.M, List.mem_append] at h ⊢
    by_cases hk : k = k0
    · refine .inr (Decidable.byContradiction fun h3 => h2 ⟨hj, hk, h3⟩)
    · rcases h with h | h
      · exact .inl (List.mem_filter.2 ⟨h, by simpa using hk⟩)
      · exact .inr h
  · exact h
def stripAll (i0 k0 : Nat) : Nat → List Tr → List Tr
  | _, [] => []
  | j, t :: ts => (bif Nat.beq j i0 then { t with R := t.R.filter fun k => !(Nat.beq k k0) } else t) :: stripAll i0 k0 (j + 1) ts
theorem stripAll_get {i0 k0 : Nat} : ∀ (l : List Tr) (s j : Nat), (stripAll i0 k0 s l)[j]? = (l[j]?).map (wX i0 k0 (s + j))
  | [], s, j => rfl
  | t :: ts, s, 0 => by
    simp only [stripAll, List.getElem?_cons_zero, Option.map_some, Nat.add_zero, wX]
    congr 1
    by_cases h : s = i0
    · subst h
      simp only [Nat.beq_refl, cond_true, if_true]
      congr 1
      refine List.filter_congr fun k _ => ?_
      by_cases e : k = k0
      · subst e; simp
      · rw [zL e]; simp [e]
    · rw [zL h, if_neg h]; rfl
  | t :: ts, s, j + 1 => by
    simp only [stripAll, List.getElem?_cons_succ]
    rw [stripAll_get ts (s + 1) j, show s + 1 + j = s + (j + 1) by omega]
def lateAll (ms : List Nat) (i0 j0 k0 : Nat) : Nat → List Tr → Bool
  | _, [] => true
  | j, t :: ts => (Nat.beq j i0 || Nat.beq j j0 || !(has t.post k0) || (Nat.blt i0 j && Nat.blt j0 j && (ms.getD j 0).testBit i0)) && lateAll ms i0 j0 k0 (j + 1) ts
theorem lateAll_spec {ms : List Nat} {i0 j0 k0 : Nat} : ∀ (l : List Tr) (s : Nat), lateAll ms i0 j0 k0 s l = true → ∀ j t, l[j]? = some t → s + j ≠ i0 → s + j ≠ j0 → has t.post k0 = true → i0 < s + j ∧ j0 < s + j ∧ (ms.getD (s + j) 0).testBit i0 = true
  | [], _, _, j, t, hj, _, _, _ => by simp at hj
  | x :: l, s, h, 0, t, hj, h1, h2, h3 => by
    simp only [lateAll, Bool.and_eq_true, Bool.or_eq_true] at h
    simp at hj; subst hj
    simp only [Nat.add_zero] at h1 h2 ⊢
    rcases h.1 with ((q | q) | q) | q
    · exact absurd (Nat.eq_of_beq_eq_true q) h1
    · exact absurd (Nat.eq_of_beq_eq_true q) h2
    · rw [h3] at q; cases q
    · simpa [Nat.blt_eq, and_assoc] using q
  | x :: l, s, h, j + 1, t, hj, h1, h2, h3 => by
    simp only [lateAll, Bool.and_eq_true] at h
    have := lateAll_spec l (s + 1) h.2 j t (by simpa using hj) (by omega) (by omega) h3
    rw [show s + (j + 1) = s + 1 + j by omega]; exact this
theorem wpAny_run2 (i0 j0 k0 : Nat) {C : Cx} {ops : Array Oper} {n : Nat} (hnd : noDef ops.toList = true) {Q : Exit → Act → World → Prop} {A : Nat → SV} {tr : List Tr} (hrun : Run C ops ops.toList A tr)
    (hf0 : ∀ t ∈ tr, ∀ k, noG t.Gs (A k) = true) (hij : i0 < j0) (hok : okRegion ops (stripAll i0 k0 0 tr) = true) (hlt0 : lateAll (masks ops.toList []) i0 j0 k0 0 tr = true) (hpo : ∀ t, tr[i0]? = some t → has t.post k0 = false) (hhas : ∀ t, tr[j0]? = some t → has t.post k0 = true)
    (h2 : ∀ o t, ops[i0]? = some o → tr[i0]? = some t → Step C ops o (upd (fin (tr.take i0) A) [(k0, fin (tr.take (j0 + 1)) A k0)]) t) (hQ : ∀ a w, Sim C (fin tr A) a w → Q .normal a w) :
    ∀ (fuel : Nat) (listed : Array Bool) (a : Act) (w : World), listed.size = ops.size →
      (((List.range ops.size).filter fun i => !listed.getD i false).length ≤ fuel) →
      Down ops (fun i => listed.getD i false) → Sim C (AD (fun i => listed.getD i false) 0 tr A) a w → wpAnyIn (fen C.R) n C.P .any ops Q fuel listed a w := by
  have hlen : tr.length = ops.size := by simpa using hrun.length
  simp only [okRegion, okDraw, Bool.and_eq_true] at hok
  have hchk' := checkAll_spec _ 0 hok.1.1 (by simp)
  have hfr' := freshAll_spec _ 0 hok.1.2 (by simp)
  have hed := edgesOk_spec ops.toList 0 hok.2
  have hlate := lateAll_spec tr 0 hlt0
  simp only [Nat.zero_add] at hchk' hfr' hed hlate
  have hst : ∀ (j : Nat) (t : Tr), tr[j]? = some t → (stripAll i0 k0 0 tr)[j]? = some (wX i0 k0 j t) := fun j t h => by rw [stripAll_get, h, Nat.zero_add]; rfl
  have hchk : ∀ (j : Nat) (t : Tr), tr[j]? = some t → ∀ (k : Nat) (s : Tr), k < j → tr[k]? = some s → conf (wX i0 k0 k s) (wX i0 k0 j t) = true → ((masks ops.toList []).getD j 0).testBit k = true :=
    fun j t hj k s hk hs hc => hchk' j _ (hst j t hj) k _ hk (hst k s hs) hc
  have hfr : ∀ (j : Nat) (t : Tr), tr[j]? = some t → ∀ (k : Nat) (s : Tr), k < j → tr[k]? = some s → meets t.Gs (y7 s.post) = false := fun j t hj k s hk hs => by
    have := hfr' j _ (hst j t hj) k _ hk (hst k s hs)
    rwa [strip_Gs, strip_post] at this
  have htf : ∀ (listed : Array Bool) (j : Nat), listed.size = ops.size → j < ops.size → listed.getD j true = listed.getD j false := by
    intro listed j hs hj
    simp [Array.getD, hs, hj]
  -- some operation is ready unless all have come
  have hall : ∀ (listed : Array Bool), listed.size = ops.size → Region.ready .any ops listed = [] → ∀ i, i < ops.size → listed.getD i false = true := by
    intro listed hs hr i
    induction i using Nat.strongRecOn with
    | _ i ih =>
      intro hi
      cases hl : listed.getD i false
      · have hin : i ∈ Region.ready .any ops listed := by
          refine mem_ready.2 ⟨by rw [htf listed i hs hi]; exact hl, ops[i], by simp [hi], ?_⟩
          intro e he hb
          have hlt := hed i ops[i] (by simp [hi]) e he hb
          exact ih e.on hlt (by omega)
        rw [hr] at hin
        cases hin
      · rfl
  have hend : ∀ (listed : Array Bool) (a : Act) (w : World), listed.size = ops.size → Region.ready .any ops listed = [] →
      Sim C (AD (fun i => listed.getD i false) 0 tr A) a w → Q .normal a w := by
    intro listed a w hs hr S
    refine hQ a w ?_
    rw [AD_all tr 0 A _ (fun j hj => ?_)] at S
    · exact S
    · simp only [Nat.zero_add]; exact hall listed hs hr j (by omega)
  intro fuel
  induction fuel with
  | zero =>
    intro listed a w hsz hcnt hD S
    have hnil : Region.ready .any ops listed = [] := by
      cases hr : Region.ready .any ops listed with
      | nil => rfl
      | cons i rest =>
        have hi : i ∈ Region.ready .any ops listed := by rw [hr]; simp
        obtain ⟨h1, o, ho, _⟩ := mem_ready.1 hi
        have hlt : i < ops.size := (Array.getElem?_eq_some_iff.1 ho).1
        have : i ∈ (List.range ops.size).filter fun i => !listed.getD i false := by
          rw [List.mem_filter]
          exact ⟨List.mem_range.2 hlt, by rw [← htf listed i hsz hlt, h1]; rfl⟩
        have h0 : (List.range ops.size).filter (fun i => !listed.getD i false) = [] := List.eq_nil_of_length_eq_zero (by omega)
        rw [h0] at this
        cases this
    exact ⟨hnil, hend listed a w hsz hnil S⟩
  | succ fuel ih =>
    intro listed a w hsz hcnt hD S
    refine ⟨fun hr => hend listed a w hsz hr S, fun i hi => ?_⟩
    obtain ⟨h1, o, ho, hdeps⟩ := mem_ready.1 hi
    have hlt : i < ops.size := (Array.getElem?_eq_some_iff.1 ho).1
    have hli : listed.getD i false = false := by rw [← htf listed i hsz hlt]; exact h1
    have hti : i < tr.length := by omega
    obtain ⟨t, ht⟩ : ∃ t, tr[i]? = some t := ⟨tr[i], by simp [hti]⟩
    have hat := (hrun.at i o t (by simpa using ho) ht).1
    -- conflicts say who has come
    have hbefore : ∀ j s, tr[j]? = some s → j < i → conf (wX i0 k0 j s) (wX i0 k0 i t) = true → listed.getD j false = true := by
      intro j s hs hj hc
      have hb := hchk i t ht j s hj hs hc
      rcases wU hD ho (fun e he hbe => hdeps e he hbe) hb with e | e
      · omega
      · exact e
    have hafter : ∀ j s, tr[j]? = some s → i < j → conf (wX i0 k0 i t) (wX i0 k0 j s) = true → listed.getD j false = false := by
      intro j s hs hj hc
      cases hlj : listed.getD j false
      · rfl
      · have hb := hchk j s hs i t hj ht hc
        have hjlt : j < ops.size := by have := (List.getElem?_eq_some_iff.1 hs).1; omega
        rcases wU hD (i := j) (o := ops[j]) (by simp [hjlt]) (fun e he hbe => hD j ops[j] (by simp [hjlt]) hlj e he hbe) hb with e | e
        · omega
        · exact absurd e (by rw [hli]; simp)
    have hset : ∀ j, (listed.setIfInBounds i true).getD j false = (listed.getD j false || j == i) := by
      intro j
      by_cases hji : j = i
      · subst hji; simp [Array.getD, hsz, hlt]
      · have : (listed.setIfInBounds i true).getD j false = listed.getD j false := by
          simp [Array.getElem?_setIfInBounds_ne (Ne.symm hji)]
        rw [this]; simp [hji]
    have cf : ∀ (j : Nat) (s : Tr) (k : Nat), k ∈ s.W → (k ∈ t.W ∨ k ∈ t.M) → ¬ (i = i0 ∧ k = k0 ∧ k ∉ t.W ∧ k ∉ y7 t.post) → conf (wX i0 k0 j s) (wX i0 k0 i t) = true ∧ conf (wX i0 k0 i t) (wX i0 k0 j s) = true := by
      intro j s k h3 h4 h5
      refine conf_of (by rw [strip_W]; exact h3) ?_
      rcases h4 with h4 | h4
      · exact .inl (by rw [strip_W]; exact h4)
      · by_cases hw : k ∈ t.W
        · exact .inl (by rw [strip_W]; exact hw)
        · exact .inr (strip_M h4 fun h6 => h5 ⟨h6.1, h6.2.1, hw, h6.2.2⟩)
    have cg : ∀ (j : Nat) (s : Tr) (k : Nat), k ∈ t.W → (k ∈ s.W ∨ k ∈ y7 s.post) → conf (wX i0 k0 i t) (wX i0 k0 j s) = true := by
      intro j s k h3 h4
      refine (conf_of (by rw [strip_W]; exact h3) ?_).1
      rcases h4 with h4 | h4
      · exact .inl (by rw [strip_W]; exact h4)
      · exact .inr (strip_M (by simp only [Tr.M, List.mem_append]; exact .inr h4) fun h6 => h6.2.2 h4)
    -- (1) what it looks at
    have hR0 : ∀ k ∈ t.R, ¬ (i = i0 ∧ k = k0) → AD (fun i => listed.getD i false) 0 tr A k = fin (tr.take i) A k := by
      intro k hk hno
      rw [← AD_first tr 0 i A]
      refine wO tr 0 A A k rfl ?_
      intro j s hs hh
      simp only [Nat.zero_add]
      have hkW : k ∈ s.W := by simp only [Tr.W, List.mem_append]; exact .inl ((wW _ _).1 hh)
      have hkM : k ∈ t.M := by simp only [Tr.M, List.mem_append]; exact .inl hk
      have hc := cf j s k hkW (.inr hkM) fun h => hno ⟨h.1, h.2.1⟩
      rcases Nat.lt_trichotomy j i with hj | hj | hj
      · rw [hbefore j s hs hj hc.1]; simp [hj]
      · subst hj; rw [hli]; simp
      · rw [hafter j s hs hj hc.2]; simp; omega
    have hsp : i = i0 → ∀ j s, tr[j]? = some s → has s.post k0 = true → j ≠ j0 → j ≠ i0 ∧ i0 < j ∧ j0 < j ∧ listed.getD j false = false := by
      intro hi0 j s hs hh hj
      have hne : j ≠ i0 := by rintro rfl; rw [hpo s hs] at hh; cases hh
      obtain ⟨q1, q2, q3⟩ := hlate j s hs hne hj hh
      refine ⟨hne, q1, q2, ?_⟩
      cases hlj : listed.getD j false
      · rfl
      · have hjlt : j < ops.size := by have := (List.getElem?_eq_some_iff.1 hs).1; omega
        rcases wU hD (i := j) (o := ops[j]) (by simp [hjlt]) (fun e he hbe => hD j ops[j] (by simp [hjlt]) hlj e he hbe) q3 with e | e
        · omega
        · rw [hi0] at hli; exact absurd e (by rw [hli]; simp)
    have hR : (∀ k ∈ t.R, AD (fun i => listed.getD i false) 0 tr A k = fin (tr.take i) A k) ∨ (i = i0 ∧ ∀ k ∈ t.R, AD (fun i => listed.getD i false) 0 tr A k = upd (fin (tr.take i0) A) [(k0, fin (tr.take (j0 + 1)) A k0)] k) := by
      by_cases hi0 : i = i0
      · by_cases hl0 : listed.getD j0 false = true
        · refine .inr ⟨hi0, fun k hk => ?_⟩
          by_cases hk0 : k = k0
          · subst hk0
            have e : upd (fin (tr.take i0) A) [(k, fin (tr.take (j0 + 1)) A k)] k = fin (tr.take (j0 + 1)) A k := by simp [upd]
            rw [e, ← AD_first tr 0 (j0 + 1) A]
            refine wO tr 0 A A k rfl ?_
            intro j s hs hh
            simp only [Nat.zero_add]
            by_cases hj : j = j0
            · subst hj; rw [hl0]; simp
            · obtain ⟨_, _, q2, q3⟩ := hsp hi0 j s hs hh hj
              rw [q3]; simp; omega
          · have e : upd (fin (tr.take i0) A) [(k0, fin (tr.take (j0 + 1)) A k0)] k = fin (tr.take i0) A k := by simp [upd, zL (Ne.symm hk0)]
            rw [e, ← hi0]; exact hR0 k hk fun h => hk0 h.2
        · refine .inl fun k hk => ?_
          by_cases hk0 : k = k0
          · subst hk0
            rw [← AD_first tr 0 i A]
            refine wO tr 0 A A k rfl ?_
            intro j s hs hh
            simp only [Nat.zero_add]
            by_cases hj : j = j0
            · subst hj; rw [Bool.eq_false_iff.2 hl0]; simp; omega
            · obtain ⟨_, q1, _, q3⟩ := hsp hi0 j s hs hh hj
              rw [q3]; simp; omega
          · exact hR0 k hk fun h => hk0 h.2
      · exact .inl fun k hk => hR0 k hk fun h => hi0 h.1
    -- (2) what it names anew
    have hF : ∀ k, has t.post k = false → noG t.Gs (AD (fun i => listed.getD i false) 0 tr A k) = true := by
      intro k _
      refine AD_fresh tr 0 A k (hf0 t (List.mem_of_getElem? ht) k) ?_
      intro j s hs hd p hp
      simp only [Nat.zero_add] at hd
      refine wa p.2 fun g hg hgs => ?_
      have hgm : g ∈ y7 s.post := mentsOf_mem s.post p hp g hg
      rcases Nat.lt_trichotomy j i with hj | hj | hj
      · have := hfr i t ht j s hj hs
        have h2 : meets t.Gs (y7 s.post) = true := (meets_iff _ _).2 ⟨g, hgs, hgm⟩
        rw [h2] at this; cases this
      · subst hj; rw [hli] at hd; cases hd
      · have hgW : g ∈ t.W := by simp only [Tr.W, List.mem_append]; exact .inr hgs
        rw [hafter j s hs hj (cg j s g hgW (.inr hgm))] at hd; cases hd
    -- (3) what it leaves
    have hpost : upd (AD (fun i => listed.getD i false) 0 tr A) t.post = AD (fun j => (listed.setIfInBounds i true).getD j false) 0 tr A := by
      funext k
      cases hh : has t.post k
      · rw [y5 _ _ _ hh]
        refine wO tr 0 A A k rfl ?_
        intro j s hs hsk
        simp only [Nat.zero_add, hset]
        have : j ≠ i := by rintro rfl; rw [ht] at hs; cases hs; rw [hh] at hsk; cases hsk
        simp [this]
      · have e1 : upd (AD (fun i => listed.getD i false) 0 tr A) t.post k = upd (fin (tr.take i) A) t.post k := wx _ _ hh
        rw [e1]
        have e2 : upd (fin (tr.take i) A) t.post = fin (tr.take (i + 1)) A := by
          have : tr.take (i + 1) = tr.take i ++ [t] := by
            rw [List.take_add_one, ht]; rfl
          rw [this]
          exact (fin_snoc _ t A).symm
        rw [e2, ← AD_first tr 0 (i + 1) A]
        refine wO tr 0 A A k rfl ?_
        intro j s hs hsk
        simp only [Nat.zero_add, hset]
        have hkW : k ∈ s.W := by simp only [Tr.W, List.mem_append]; exact .inl ((wW _ _).1 hsk)
        have hkt : k ∈ t.W := by simp only [Tr.W, List.mem_append]; exact .inl ((wW _ _).1 hh)
        rcases Nat.lt_trichotomy j i with hj | hj | hj
        · rw [hbefore j s hs hj (cf j s k hkW (.inl hkt) fun h => h.2.2.1 hkt).1]; simp; omega
        · subst hj; simp
        · have hne : (j == i) = false := by simp; omega
          rw [hafter j s hs hj (cg j s k hkt (.inl hkW)), hne]; simp; omega
    have hD' : Down ops (fun j => (listed.setIfInBounds i true).getD j false) := by
      intro j o' hj hd e he hb
      simp only [hset, Bool.or_eq_true, beq_iff_eq] at hd ⊢
      rcases hd with hd | rfl
      · exact .inl (hD j o' hj hd e he hb)
      · rw [ho] at hj; cases hj; exact .inl (hdeps e he hb)
    have hcnt' : ((List.range ops.size).filter fun j => !(listed.setIfInBounds i true).getD j false).length ≤ fuel := by
      have := filter_less i (fun j => !listed.getD j false) (fun j => !(listed.setIfInBounds i true).getD j false) (by simp [hli]) (by simp [hset])
        (fun j hj => by simp only [hset, Bool.not_eq_true', Bool.or_eq_false_iff] at hj ⊢; exact hj.1) (List.range ops.size) (List.mem_range.2 hlt)
      omega
    have h4 : (if Region.wanted o (yielded ops a.tmps) then o.wp C.P a w (fun a' w' => Sim C (upd (AD (fun i => listed.getD i false) 0 tr A) t.post) a' w') (fun _ _ _ => False)
        else Sim C (upd (AD (fun i => listed.getD i false) 0 tr A) t.post) (a.put o.dst Go.undef) w) := by
      rcases hR with hR | ⟨rfl, hR⟩
      · exact hat _ a w hR hF S
      · exact h2 o t ho ht _ a w hR hF S
    unfold wpOpIn
    simp only [ho]
    split
    · rename_i hw
      simp only [hw, if_true] at h4
      refine Oper.wpIn_of_wp (noDef_get hnd ho) (xz.Oper.wp_mono' ?_ ?_ h4)
      · intro a' w' S'
        rw [hpost] at S'
        exact ih _ a' w' (by simp [hsz]) hcnt' hD' S'
      · exact fun _ _ _ h => h.elim
    · rename_i hw
      simp only [hw] at h4
      rw [if_neg (by simp)] at h4
      rw [hpost] at h4
      exact ⟨fun _ _ => trivial, ih _ _ w (by simp [hsz]) hcnt' hD' h4⟩
theorem aw_draw2 (i0 j0 k0 : Nat) {C : Cx} {id : Nat} {ops : Array Oper} {st : St} {Q : Exit → St → Prop} (hm : C.P.follows .mixedOrders = true)
    (h : Go1 C ops ops.toList st [] (fun st' tr => (okRegion ops (stripAll i0 k0 0 tr.reverse) && lateAll (masks ops.toList []) i0 j0 k0 0 tr.reverse && Nat.blt i0 j0 && (match tr.reverse[i0]? with | some t => !(has t.post k0) | none => true) && (match tr.reverse[j0]? with | some t => has t.post k0 | none => true)) = true ∧
      (∀ o t, ops[i0]? = some o → tr.reverse[i0]? = some t → Step C ops o (upd (fin (tr.reverse.take i0) (look st)) [(k0, fin (tr.reverse.take (j0 + 1)) (look st) k0)]) t) ∧ Q .normal st')) (hnd : noDef ops.toList = true := by rfl) : AW C (.region id ops true) st Q := by
  intro a w S n
  obtain ⟨tr, st', r, f, ⟨ok, h2, k⟩, hf⟩ := Go1.sound _ _ _ _ h
  simp only [List.append_nil, List.reverse_reverse, Bool.and_eq_true] at ok h2
  obtain ⟨⟨⟨⟨ok, ol⟩, oij⟩, o1⟩, o2⟩ := ok
  refine wpIn_region_any hm ?_
  have hrep : ∀ i, (Array.replicate ops.size false).getD i false = false := by
    intro i
    rcases Nat.lt_or_ge i ops.size with hi | hi
    · simp [Array.getD, hi]
    · simp [Array.getD, Nat.not_lt.2 hi]
  refine wpAny_run2 i0 j0 k0 hnd (A := look st) (tr := tr) r (fun t ht => xj st (hf t ht)) (by simpa [Nat.blt_eq] using oij) ok ol (fun t ht => by rw [ht] at o1; simpa using o1) (fun t ht => by rw [ht] at o2; simpa using o2) h2 (fun a' w' S' => ⟨st', k, f ▸ S'⟩) _ _ a _ (by simp) ?_ ?_ ?_
  · refine Nat.le_trans (List.length_filter_le _ _) (by simp)
  · intro i o _ hd
    exact absurd hd (by show ¬ ((Array.replicate ops.size false).getD i false = true); rw [hrep]; simp)
  · have : AD (fun i => (Array.replicate ops.size false).getD i false) 0 tr (look st) = look st := by
      have e : (fun i => (Array.replicate ops.size false).getD i false) = fun _ => false := funext hrep
      rw [e]; exact AD_none tr 0 _
    rw [this]
    obtain ⟨G, S⟩ := S
    exact ⟨G, S.heap rfl rfl rfl rfl⟩
theorem zZ.step0 {C : Cx} {ops : Array Oper} {o o' : Oper} {R Gs : List Nat} {A : Nat → SV} {post : List (Nat × SV)} {t t' : Tr} (ho : some o = some o') (ht : some t = some t') (hg : o.guard = none) (h : zZ C o R Gs A post) (e : t = ⟨R, Gs, post⟩) : Step C ops o' A t' := by
  cases ho; cases ht; subst e
  intro A' a w hR hF S
  have hw : Region.wanted o (yielded ops a.tmps) = true := by unfold Region.wanted; rw [hg]
  rw [if_pos hw]
  exact h A' a w hR hF S
end Go.Al
namespace Go.Proofs
open Go Go.Al
set_option maxRecDepth 10000
theorem kok55 : KeyOk Try.prog 55 GCore.av := ⟨fun a b => (ec55 a b).trans (congrArg some (by rw [Bool.eq_iff_iff, coreB_iff, decide_eq_true_iff])), fun a => rfl, fun a => rfl, ⟨_, Try.underlying55⟩⟩
set_option maxHeartbeats 4000000 in
theorem icores_c (b : List GRes) (hw : wtB b ≤ 9000000) : z8 Try.prog Γ0 20 [z9 b] [.sl 35 ((zD b).map GCore.av)] := by
  have hcl := xG hw
  refine pcall_of_fw Try.func20 rfl Try.ntmps20 (by kernel_rfl) rfl fun w0 I0 G0 => ?_
  refine xf ?_
  refine fw_aw (fun w1 I1 E1 G1 D1 => ?_)
  refine zC <| g_uG (zV 50001 rfl rfl rfl rfl) rfl <| g_u (zE rfl rfl) <| zH <| zA <| xf ?_
  refine fw_aw (fun w1 I1 E1 G1 D1 => ?_)
  refine zC <| g_uG (zu 50003 rfl rfl rfl tZ53) rfl <| zH <| zA <| xf <| xf ?_
  refine fw_aw (fun w1 I1 E1 G1 D1 => ?_)
  refine aw_newtokB 53003 50003 35 0 rfl rfl rfl rfl rfl rfl rfl <| zC <| g_u (zG rfl rfl rfl tA24 tS24 rfl rfl) <| g_u (zP (all_c _) rfl rfl) <| zH <| zA <| fw_block ?_
  refine fw_range ([(3, .ptr 50003 0)]) (fun i => [(50003, .box 53 (.slg 53003 35 (((zD b).take i).map GCore.av))), (53003, .tok 35 (((zD b).take i).map GCore.av))]) (fun _ => True) (trivial) (all1_c b hw) rfl ⟨rfl, rfl, rfl, trivial⟩ rfl (fun i => rfl) (seqB_two b) rfl (fun i xs hok hxs w2 I2 E2 G2 R2 => ?_) (fun hok => ?_)
  · obtain ⟨p, hp, rfl⟩ := seqB_get hxs
    obtain ⟨hil, hpn, hck⟩ := xi hp
    have hlt := (List.getElem?_eq_some_iff.1 hp).1
    refine zC <| g_uG (zu 1005 rfl rfl rfl tZ67) rfl ?_
    refine g_u (zY rfl rfl rfl tS67 (by first | exact beqW (GSpan.width _) | rfl) (by first | exact setS_w (z67_w.trans (GSpan.width _).symm) rfl | rfl)) ?_
    refine zH <| zA ?_
    intro w3 I3 E3 G3
    refine za <| zs yR <| g_u (wQ rfl rfl rfl tA53 tS53 rfl rfl) ?_
    refine g_u (zG rfl rfl rfl tA67 tS67 rfl (by first | exact getS_w (GSpan.width _) rfl | rfl)) ?_
    refine g_u (zP (iof_c _) rfl rfl) <| g_u (z7 (X0 := z55) rfl Try.underlying53 tS55 tZ55 rfl rfl rfl rfl rfl rfl rfl rfl) ?_
    refine g_u (yi rfl rfl rfl rfl rfl Try.underlying53 Try.underlying53 tS55 zv55 rfl (by decide) by55 (by (try dsimp only); simp only [List.length_map, List.length_take, List.length_cons, List.length_nil]; omega) (by (try dsimp only); simp only [List.length_map, List.length_take, List.length_cons, List.length_nil]; omega)) ?_
    refine g_u (s_store rfl rfl rfl rfl tS53 rfl rfl) ?_
    refine zH ⟨by kernel_rfl, ?_⟩
    refine zT ?_
    have et : (((zD b).take (i + 1)).map GCore.av) = (((zD b).take i).map GCore.av) ++ [(xT (spAt b p)).av] := by rw [yz hil, List.map_append, hck]; rfl
    refine ⟨trivial, (by show SV.box 53 (.slg 53003 35 ((((zD b).take i).map GCore.av) ++ [(xT (spAt b p)).av])) = _; rw [← et]), (by show SV.tok 35 ((((zD b).take i).map GCore.av) ++ [(xT (spAt b p)).av]) = _; rw [← et]), trivial⟩
  · have hN : (zD b).take (seqB b).length = zD b := by rw [seqB_len, ← yk, List.take_length]
    rw [hN]
    refine zT <| zA ?_
    refine fw_aw (fun w1 I1 E1 G1 D1 => ?_)
    refine zF <| zC <| g_u (wQ rfl rfl rfl tA53 tS53 rfl rfl) <| g_u (yp rfl rfl) <| zH <| zA <| zd ?_
    exact ⟨⟨(rfl : toAV (Al.look _ _) = some _).trans (congrArg some (by rfl)), rfl⟩, trivial⟩
set_option maxHeartbeats 8000000 in
theorem ialike_c (a b : List GRes) (ha : wtB a ≤ 9000000) (hb : wtB b ≤ 9000000) : z8 Try.prog Γ0 21 [z9 a, z9 b] [bv (xO (zD a) (zD b))] := by
  have hca := xG ha
  have hcb := xG hb
  refine zq Try.func21 rfl Try.ntmps21 (by kernel_rfl) rfl fun w0 I0 G0 => ?_
  refine zF <| zC <| g_uG (zV 1002 rfl rfl rfl rfl) rfl <| g_uG (zV 1003 rfl rfl rfl rfl) rfl <| g_u (zE rfl rfl) <| zH <| zA <| zF <| zC <| g_uG (s_makeMap 1012 rfl rfl rfl) rfl <| g_u (s_as_mref rfl rfl) <| zH <| zA <| zF <| zF <| zC <| g_u (zG rfl rfl rfl tA24 tS24 rfl rfl) ?_
  refine g_u (zP (icores_c _ (by omega)) rfl rfl) ?_
  refine g_u (yF rfl rfl Try.underlying53) <| g_u (zB rfl rfl) <| zH <| zA <| za ?_
  refine yB (fun i : Nat => [(3, .ptr 1003 0), (1003, .box 24 (.imm (z9 b))), (5, .mref 1012), (1012, .mpr ((cntA (zD a) i).1.map GCore.av) ((cntA (zD a) i).2.map iv)), (14, .imm (.sl 35 ((zD a).map GCore.av))), (15, .imm (iv ((zD a).length : Int))), (16, .imm (iv (i : Int)))]) (fun i => i ≤ (zD a).length) (fun i => (zD a).length - i) (0) ?_ ⟨rfl, rfl, rfl, rfl, rfl, zb rfl (by rw [List.length_map]), rfl, trivial⟩ ?_
  · exact Nat.zero_le _
  · rintro i h1; have h1 : i ≤ (zD a).length := h1
    have hsp := (ww (zD a) i).2 (nthK (zD a) i)
    refine zF <| zC <| g_u (y8 rfl rfl rfl) <| zH <| zA <| zF ?_
    refine zf rfl (fun hb1 => ?_) (fun hb1 => ?_)
    · have hi : i < (zD a).length := by have := of_decide_eq_true hb1; (try simp only [List.length_map] at this); omega
      refine zW <| zA <| zF <| za <| zF <| zC ?_
      refine g_u (zK rfl rfl rfl Try.underlying53 tS55 (by omega) (ixK hi)) ?_
      refine g_u (zO rfl rfl tA55 tS55 rfl rfl) <| g_uG (zu 1007 rfl rfl rfl tZ55) rfl <| g_u (zY rfl rfl rfl tS55 rfl rfl) <| zH <| zA <| aw_draw2 2 4 1012 yR <| g_u (s_mv_mref rfl rfl) <| g_u (zk rfl rfl rfl tA55 tS55 rfl rfl) <| g_u (s_lookupKD kok55 rfl rfl rfl rfl Try.underlying91 zv3 rfl (cval_av (ww (zD a) i).1 _)) <| g_u (yh rfl rfl rfl) <| g_u (s_mapEntryK kok55 rfl rfl rfl rfl rfl Try.underlying91 zv3 rfl (cval_av (ww (zD a) i).1 _)) <| g_u (zj rfl rfl rfl rfl) <| g_u (s_entryStoreK rfl rfl rfl rfl (kidx_lt_old (ww (zD a) i).1)) ?_
      refine zH ⟨by kernel_rfl, fun o t ho ht => zZ.step0 ho ht rfl (s_lookupKD kok55 rfl rfl rfl rfl Try.underlying91 zv3 rfl (cval_av2 (ww (zD a) i).1 _)) rfl, ?_⟩
      refine zT <| zA <| zC <| g_u (yh rfl rfl rfl) <| g_u (zB rfl rfl) <| zH <| zA ?_
      refine ⟨i + 1, hi, ⟨rfl, rfl, rfl, (by show _ = SV.mpr ((cntA (zD a) (i + 1)).1.map GCore.av) ((cntA (zD a) (i + 1)).2.map iv); rw [show cntA (zD a) (i + 1) = cupd (cntA (zD a) i) (nthK (zD a) i) 1 from cntL_take hi]; exact congrArg (SV.mpr _) (cupd_av (ww (zD a) i).1 (by rw [ze (by omega) (by omega)]; first | done | rfl | omega))), rfl, rfl, zb rfl (by rw [ze (by omega) (by omega)]; rfl), trivial⟩, by (try dsimp only); omega⟩
    · have hin : i = (zD a).length := by have := of_decide_eq_false hb1; (try simp only [List.length_map] at this); omega
      refine yA <| zU <| zU <| zx <| zA <| zF <| zF ?_
      rw [hin, show cntA (zD a) (zD a).length = cntB (zD a) (zD b) 0 from by unfold cntA cntB; rw [List.take_length]; rfl]
      refine zC <| g_u (zG rfl rfl rfl tA24 tS24 rfl rfl) ?_
      refine g_u (zP (icores_c _ (by omega)) rfl rfl) ?_
      refine g_u (yF rfl rfl Try.underlying53) <| g_u (zB rfl rfl) <| zH <| zA <| za ?_
      refine yB (fun i : Nat => [(3, .ptr 1003 0), (1003, .box 24 (.imm (z9 b))), (5, .mref 1012), (1012, .mpr ((cntB (zD a) (zD b) i).1.map GCore.av) ((cntB (zD a) (zD b) i).2.map iv)), (28, .imm (.sl 35 ((zD b).map GCore.av))), (29, .imm (iv ((zD b).length : Int))), (30, .imm (iv (i : Int)))]) (fun i => i ≤ (zD b).length) (fun i => (zD b).length - i) (0) ?_ ⟨rfl, rfl, rfl, rfl, rfl, zb rfl (by rw [List.length_map]), rfl, trivial⟩ ?_
      · exact Nat.zero_le _
      · rintro i h1; have h1 : i ≤ (zD b).length := h1
        have hsp := (xa (zD a) (zD b) i).2 (nthK (zD b) i)
        refine zF <| zC <| g_u (y8 rfl rfl rfl) <| zH <| zA <| zF ?_
        refine zf rfl (fun hb2 => ?_) (fun hb2 => ?_)
        · have hi : i < (zD b).length := by have := of_decide_eq_true hb2; (try simp only [List.length_map] at this); omega
          refine zW <| zA <| zF <| za <| zF <| zC ?_
          refine g_u (zK rfl rfl rfl Try.underlying53 tS55 (by omega) (ixK hi)) ?_
          refine g_u (zO rfl rfl tA55 tS55 rfl rfl) <| g_uG (zu 1009 rfl rfl rfl tZ55) rfl <| g_u (zY rfl rfl rfl tS55 rfl rfl) <| zH <| zA <| aw_draw2 2 4 1012 yR <| g_u (s_mv_mref rfl rfl) <| g_u (zk rfl rfl rfl tA55 tS55 rfl rfl) <| g_u (s_lookupKD kok55 rfl rfl rfl rfl Try.underlying91 zv3 rfl (cval_av (xa (zD a) (zD b) i).1 _)) <| g_u (vF rfl rfl rfl) <| g_u (s_mapEntryK kok55 rfl rfl rfl rfl rfl Try.underlying91 zv3 rfl (cval_av (xa (zD a) (zD b) i).1 _)) <| g_u (zj rfl rfl rfl rfl) <| g_u (s_entryStoreK rfl rfl rfl rfl (kidx_lt_old (xa (zD a) (zD b) i).1)) ?_
          refine zH ⟨by kernel_rfl, fun o t ho ht => zZ.step0 ho ht rfl (s_lookupKD kok55 rfl rfl rfl rfl Try.underlying91 zv3 rfl (cval_av2 (xa (zD a) (zD b) i).1 _)) rfl, ?_⟩
          refine zT <| zA <| zC <| g_u (yh rfl rfl rfl) <| g_u (zB rfl rfl) <| zH <| zA ?_
          refine ⟨i + 1, hi, ⟨rfl, rfl, rfl, (by show _ = SV.mpr ((cntB (zD a) (zD b) (i + 1)).1.map GCore.av) ((cntB (zD a) (zD b) (i + 1)).2.map iv); rw [show cntB (zD a) (zD b) (i + 1) = cupd (cntB (zD a) (zD b) i) (nthK (zD b) i) (-1) from cntL_take hi]; exact congrArg (SV.mpr _) (cupd_av (xa (zD a) (zD b) i).1 (by rw [ze (by omega) (by omega)]; first | done | rfl | omega))), rfl, rfl, zb rfl (by rw [ze (by omega) (by omega)]; rfl), trivial⟩, by (try dsimp only); omega⟩
        · have hin : i = (zD b).length := by have := of_decide_eq_false hb2; (try simp only [List.length_map] at this); omega
          refine yA <| zU <| zU <| zx <| zA <| zF <| zF ?_
          rw [hin]
          refine zC <| g_u (s_mv_mref rfl rfl) <| g_uG (s_range 1042 rfl rfl rfl rfl rfl rfl Try.underlying91) rfl <| zH <| zA <| za ?_
          refine yB (fun seen : List Nat => [(1012, .mpr ((cntB (zD a) (zD b) (zD b).length).1.map GCore.av) ((cntB (zD a) (zD b) (zD b).length).2.map iv)), (42, .ptr 1042 0), (1042, .itr 1012 ((cntB (zD a) (zD b) (zD b).length).1.map GCore.av).length seen)]) (fun seen => seen.Nodup ∧ (∀ j ∈ seen, j < ((cntB (zD a) (zD b) (zD b).length).1.map GCore.av).length) ∧ ∀ j ∈ seen, nth (cntB (zD a) (zD b) (zD b).length).2 j 0 = 0) (fun seen => ((cntB (zD a) (zD b) (zD b).length).1.map GCore.av).length - seen.length) ([]) ?_ ⟨rfl, rfl, rfl, trivial⟩ ?_
          · exact ⟨List.nodup_nil, (fun j h => by cases h), fun j h => by cases h⟩
          · rintro seen ⟨h1, h2, h3⟩; (try dsimp only at h1 h2 h3)
            have hsl := nodup_lt _ seen h1 h2
            refine zF ?_
            refine aw_nextA rfl rfl rfl rfl rfl (Nat.beq_refl _) rfl (fun hall => ?_) (fun q tx va hq hs hk hv => ?_)
            · have hq2 : ∀ i, i < (cntB (zD a) (zD b) (zD b).length).1.length → nth (cntB (zD a) (zD b) (zD b).length).2 i 0 = 0 := fun i hi => h3 i (hall i (by rw [List.length_map]; exact hi))
              refine g_u (zj rfl rfl rfl rfl) <| zH <| zA <| zF <| zc rfl <| yA <| zU <| zU <| zx <| zA <| zF <| zC <| g_u (zE rfl rfl) <| zH <| zA <| zd ?_
              exact ⟨⟨(rfl : toAV (Al.look _ _) = some _).trans (congrArg some (by (exact congrArg bv (by first | exact (cnt_no hq1 q1).symm | exact (cnt_yes hq2).symm)))), rfl⟩, trivial⟩
            · have hq1 : q < (cntB (zD a) (zD b) (zD b).length).1.length := by rw [List.length_map] at hq; exact hq
              have hva : va = iv (nth (cntB (zD a) (zD b) (zD b).length).2 q 0) := by have e := hv; rw [List.getElem?_map, yP (d := (0 : Int)) (show q < (cntB (zD a) (zD b) (zD b).length).2.length by rw [← (xa (zD a) (zD b) _).1.1]; exact hq1)] at e; exact (Option.some.inj e).symm
              subst hva
              refine g_u (zj rfl rfl rfl rfl) <| zH <| zA <| zF <| yD rfl <| zW <| zA <| za <| zF <| zC <| g_u (s_entryA rfl rfl rfl rfl (Nat.beq_refl _) hk hv) <| g_u (zj rfl rfl rfl rfl) <| g_u (zE rfl rfl) <| zH <| zA <| zF <| zC <| g_u (zB rfl rfl) <| g_u (s_neI rfl rfl rfl) <| zH <| zA ?_
              refine zf rfl (fun hb3 => ?_) (fun hb3 => ?_)
              · have q1 : ¬ nth (cntB (zD a) (zD b) (zD b).length).2 q 0 = 0 := qc.1 hb3
                refine zF <| zC <| g_u (zE rfl rfl) <| zH <| zA <| zd <| yT <| zh <| yT <| zh ?_
                exact ⟨⟨(rfl : toAV (Al.look _ _) = some _).trans (congrArg some (by (exact congrArg bv (by first | exact (cnt_no hq1 q1).symm | exact (cnt_yes hq2).symm)))), rfl⟩, trivial⟩
              · have q1 : nth (cntB (zD a) (zD b) (zD b).length).2 q 0 = 0 := qd.1 hb3
                refine zW <| zT <| zA ?_
                have hn2 := nodup_snoc h1 hs
                have hl2 : ∀ j ∈ seen ++ [q], j < ((cntB (zD a) (zD b) (zD b).length).1.map GCore.av).length := fun j hj => by rcases List.mem_append.1 hj with h | h; exact h2 j h; rw [List.mem_singleton.1 h]; exact hq
                have hl3 : ∀ j ∈ seen ++ [q], nth (cntB (zD a) (zD b) (zD b).length).2 j 0 = 0 := fun j hj => by rcases List.mem_append.1 hj with h | h; exact h3 j h; rw [List.mem_singleton.1 h]; exact q1
                have hsl2 := nodup_lt _ _ hn2 hl2
                rw [List.length_append] at hsl2
                refine ⟨seen ++ [q], ⟨hn2, hl2, hl3⟩, ⟨rfl, rfl, rfl, trivial⟩, by (try dsimp only); rw [List.length_append]; simp only [List.length_cons, List.length_nil] at *; omega⟩
end Go.Proofs
namespace Go.Proofs
open Go Go.Al
theorem cores_id8 {b : List GRes} (ho : okB b) : ∀ c ∈ zD b, c.id.length = 8 := fun c hc => by
  obtain ⟨s, hs, rfl⟩ := List.mem_map.1 hc
  obtain ⟨r, hr, q, hq, hs⟩ := allS_mem hs
  exact (((ho r hr).2 q hq).2.2 s hs).1.2.1
theorem own_found {l : List GCore} {i : Nat} (hi : i < l.length) : 0 ≤ yE l (yW (nthK l i)) := by
  obtain ⟨j, h1, h2⟩ := yg (K1_get hi)
  unfold yE; rw [h1]; exact Int.natCast_nonneg j
theorem fnd_true {b : List GRes} {k : K2} (h : 0 ≤ yE (zD b) k) : fndP (ixF (zD b)).sk k = true := by rw [fnd_iff]; exact decide_eq_true h
theorem fnd_false {b : List GRes} {k : K2} (h : ¬ 0 ≤ yE (zD b) k) : fndP (ixF (zD b)).sk k = false := by rw [fnd_iff]; exact decide_eq_false h
theorem plx_at {b : List GRes} {k : K2} (h : 0 ≤ yE (zD b) k) : ((plR 0 b).map plav)[(yE (zD b) k).toNat]? = some (plav (nth (plR 0 b) (yE (zD b) k).toNat (0, 0, 0))) := by
  rw [List.getElem?_map, yP (d := ((0, 0, 0) : Nat × Nat × Nat)) (find_lt h)]; rfl
theorem plx_lt {b : List GRes} {k : K2} (h : 0 ≤ yE (zD b) k) : yE (zD b) k < (((plR 0 b).map plav).length : Nat) := by
  rw [List.length_map]; have := find_lt h; omega
def kT31 : Bs := 7 :: List.replicate 15 0
def k31 (i : UInt8) : Bs := i :: List.replicate 7 0
theorem fnd31 : fndP (ixF (zD gB31)).sk (kT31, k31 2) = true := fnd_true (by unfold yE; rw [show zX (K1 (zD gB31)) (kT31, k31 2) 0 = some 0 from find31]; decide)
theorem kid31' : kidsN gB31 (kT31, k31 1) = [0] := kids31
theorem wt31 : wtB gB31 ≤ 9000000 := by decide +kernel
theorem wt31' : wtB [] ≤ 9000000 := by decide
theorem xd : (xT (one31 2 1)).begun = 1 ∧ (xT (one31 2 1)).lasts = 2 := by decide +kernel
end Go.Proofs
namespace Go.Proofs
open Go Go.Al
theorem kidSum_mono (b : List GRes) : ∀ (n i : Nat), wH b i ≤ wH b (i + n)
  | 0, i => Nat.le_refl _
  | n + 1, i => by have h1 := kidSum_mono b n i; have h2 := kidSum_succ b (i + n); rw [← Nat.add_assoc]; omega
theorem kidSum_le (b : List GRes) : ∀ i, i ≤ (zD b).length → wH b i ≤ (zD b).length := fun i hi => by
  have h1 := whole31 b
  have h2 := kidSum_mono b ((zD b).length - i) i
  rw [show i + ((zD b).length - i) = (zD b).length by omega] at h2
  omega
theorem twN_len (b : List GRes) : (twiceN b).length ≤ (zD b).length := xA _ _
end Go.Proofs
namespace Go.Proofs
open Go Go.Al
def findP (b : List GRes) (k : K2) : Nat × Nat × Nat := if 0 ≤ yE (zD b) k then nth (plR 0 b) (yE (zD b) k).toNat (0, 0, 0) else (0, 0, 0)
theorem findA_pl (b : List GRes) (k : K2) : findA b k = plav (findP b k) := by
  unfold findP
  split
  · rename_i h; exact findA_at h
  · rename_i h; exact findA_no h
theorem findP_at {b : List GRes} {k : K2} (h : 0 ≤ yE (zD b) k) : findP b k = nth (plR 0 b) (yE (zD b) k).toNat (0, 0, 0) := if_pos h
theorem findP_no {b : List GRes} {k : K2} (h : ¬ 0 ≤ yE (zD b) k) : findP b k = (0, 0, 0) := if_neg h
theorem findP31 : findP gB31 (kT31, k31 2) = (0, 0, 0) := by
  rw [findP_at (by unfold yE; rw [show zX (K1 (zD gB31)) (kT31, k31 2) 0 = some 0 from find31]; decide)]
  unfold yE; rw [show zX (K1 (zD gB31)) (kT31, k31 2) 0 = some 0 from find31]; rfl
end Go.Proofs
namespace Go.Proofs
open Go Go.Al
theorem pl3_iff {p q : Nat × Nat × Nat} : (((p.1 : Int) == (q.1 : Int)) && (((p.2.1 : Int) == (q.2.1 : Int)) && (((p.2.2 : Int) == (q.2.2 : Int)) && true))) = true ↔ p = q := by
  obtain ⟨a, b, c⟩ := p; obtain ⟨x, y, z⟩ := q
  simp only [Bool.and_eq_true, beq_iff_eq, and_true, Prod.mk.injEq]
  omega
theorem seqB_cores (b : List GRes) : (seqB b).length = (zD b).length := by rw [seqB_len, ← yk]
end Go.Proofs
namespace Go.Proofs
open Go Go.Al
set_option maxRecDepth 10000
theorem xfindP_c (b : List GRes) (k : K2) : z8 Try.prog Γ0 11 [idxA b, .arr 16 k.1, .arr 8 k.2] [plav (findP b k), bv (fndP (ixF (zD b)).sk k)] := by
  have h := xfind_c b k
  rwa [findA_pl] at h
theorem xfind31 : z8 Try.prog Γ0 11 [idxA gB31, .agg (xV kT31), .agg (xV (k31 2))] [plav (findP gB31 (kT31, k31 2)), bv (fndP (ixF (zD gB31)).sk (kT31, k31 2))] := (xfindP_c gB31 (kT31, k31 2)).args ⟨Up.refl _, wL rfl, wL rfl, trivial⟩
theorem xkids31 : z8 Try.prog Γ0 14 [idxA gB31, .agg (xV kT31), .agg (xV (k31 1))] [.sl 3 ((kidsN gB31 (kT31, k31 1)).map (plN gB31))] := (xkids_c gB31 (kT31, k31 1) rfl wt31).args ⟨Up.refl _, wL rfl, wL rfl, trivial⟩
theorem xnil31 : z8 Try.prog Γ0 11 [.v (.pointer none), .agg (xV kT31), .agg (xV (k31 2))] [plav (0, 0, 0), bv false] := (xfindNil_c (kT31, k31 2)).args ⟨Up.refl _, wL rfl, wL rfl, trivial⟩
set_option maxHeartbeats 8000000 in
theorem wY : z8 Try.prog Γ0 7 [] [bv true] := by
  refine zq Try.func7 rfl Try.ntmps7 (by kernel_rfl) rfl fun w0 I0 G0 => ?_
  refine zF <| zC <| g_u (zE rfl rfl) <| zH <| zA <| zF <| zC <| g_u (zP (one31_c 2 1) rfl rfl) <| g_u (zP (one31_c 1 0) rfl rfl) <| g_u (zP (one31_c 2 9) rfl rfl) <| g_u (z7 (X0 := z67) rfl Try.underlying73 tS67 tZ67 rfl rfl rfl rfl rfl rfl rfl rfl) <| g_u (yc rfl tU75 us75 pl75 rfl rfl rfl rfl) <| g_u (z7 (X0 := z75) rfl Try.underlying69 tS75 tZ75 rfl rfl rfl rfl rfl rfl rfl rfl) <| g_u (yc rfl tU71 us71 pl71 rfl rfl rfl rfl) <| g_u (z7 (X0 := z71) rfl Try.underlying22 tS71 tZ71 rfl rfl rfl rfl rfl rfl rfl rfl) <| g_u (yc rfl tU24 us24 pl24 rfl rfl rfl rfl) <| g_uG (zu 1001 rfl rfl rfl tZ24) rfl <| g_u (zY rfl rfl rfl tS24 rfl rfl) <| zH <| zA <| zF <| zC <| g_u (zk rfl rfl rfl tA24 tS24 rfl rfl) <| g_u (zP (new31_c gB31 gB31_ok wt31) rfl rfl) <| g_u (zE rfl rfl) <| zH <| zA <| zF <| zC <| g_u (zB rfl rfl) <| g_u (y_ rfl tV26 Try.underlying26 tS5 rfl rfl rfl rfl) <| g_u (y_ rfl tV28 Try.underlying28 tS5 rfl rfl rfl rfl) <| g_u (s_call2 (xfind31) rfl rfl) <| g_u (yq rfl rfl) <| g_u (zj rfl rfl rfl rfl) <| g_u (zj rfl rfl rfl rfl) <| g_uG (zu 1003 rfl rfl rfl tZ38) rfl <| g_u (zY rfl rfl rfl tS38 rfl rfl) <| g_u (zE rfl rfl) <| zH <| zA <| zF ?_
  rw [findP31]
  refine zC <| g_u (zB rfl rfl) <| g_u (zP (xroots_c gB31 wt31) rfl rfl) <| g_u (zB rfl rfl) <| g_u (zP (xtwice_c gB31 wt31) rfl rfl) <| g_u (zB rfl rfl) <| g_u (y_ rfl tV26 Try.underlying26 tS5 rfl rfl rfl rfl) <| g_u (y_ rfl tV28 Try.underlying28 tS5 rfl rfl rfl rfl) <| g_u (zP (xkids31) rfl rfl) <| g_u (zE rfl rfl) <| g_u (zE rfl rfl) <| g_u (zE rfl rfl) <| zH <| zA <| zF ?_
  rw [roots31, twice31, kid31']
  refine zC <| g_u (zE rfl rfl) <| zH <| zA <| zF <| zC <| g_u (zB rfl rfl) <| g_u (y_ rfl tV26 Try.underlying26 tS5 rfl rfl rfl rfl) <| g_u (y_ rfl tV28 Try.underlying28 tS5 rfl rfl rfl rfl) <| g_u (s_call2 (xnil31) rfl rfl) <| g_u (yq rfl rfl) <| g_u (zj rfl rfl rfl rfl) <| g_u (zj rfl rfl rfl rfl) <| g_uG (zu 1009 rfl rfl rfl tZ38) rfl <| g_u (zY rfl rfl rfl tS38 rfl rfl) <| g_u (zE rfl rfl) <| zH <| zA <| zF <| zC <| g_u (zP (one31_c 2 1) rfl rfl) <| g_u (zP (iof_c (one31 2 1)) rfl rfl) <| g_uG (zu 1011 rfl rfl rfl tZ55) rfl <| g_u (zY rfl rfl rfl tS55 rfl rfl) <| zH <| zA <| zF <| zC <| g_u (zB rfl rfl) <| g_u (zB rfl rfl) <| z6 (t := 48) rfl ?_
  rintro (hb1 | hb1)
  · rw [hb1]
    refine zN rfl rfl (zk rfl rfl rfl tA38 tS38 rfl rfl) <| zN rfl rfl (yc rfl tU38 us38 pl38 rfl rfl rfl rfl) <| zN rfl rfl (s_eqA rfl rfl rfl eg38 rfl rfl (eq38 _ _ _ _ _ _)) <| g_u (zi rfl rfl rfl) <| g_u (zB rfl rfl) <| z6 (t := 53) rfl ?_
    rintro (hb2 | hb2)
    · rw [hb2]
      refine zN rfl rfl (zB rfl rfl) <| zN rfl rfl (yF rfl rfl Try.underlying46) <| zN rfl rfl (s_eqI rfl rfl rfl) <| g_u (zi rfl rfl rfl) <| g_u (zB rfl rfl) <| z6 (t := 58) rfl ?_
      rintro (hb3 | hb3)
      · rw [hb3]
        refine zN rfl rfl (zB rfl rfl) ?_
        refine zN rfl rfl (zK rfl rfl rfl Try.underlying46 tS38 (by decide) rfl) ?_
        refine zN rfl rfl (zJ rfl rfl fa38_2 rfl rfl) <| zN rfl rfl (zO rfl rfl tA3 tS3 rfl rfl) <| zN rfl rfl (s_eqI rfl rfl rfl) <| g_u (zi rfl rfl rfl) <| g_u (zB rfl rfl) <| z6 (t := 65) rfl ?_
        rintro (hb4 | hb4)
        · rw [hb4]
          refine zN rfl rfl (zB rfl rfl) <| zN rfl rfl (yF rfl rfl Try.underlying46) <| zN rfl rfl (s_eqI rfl rfl rfl) <| g_u (zi rfl rfl rfl) <| g_u (zB rfl rfl) <| z6 (t := 70) rfl ?_
          rintro (hb5 | hb5)
          · rw [hb5]
            refine zN rfl rfl (zB rfl rfl) ?_
            refine zN rfl rfl (zK rfl rfl rfl Try.underlying46 tS38 (by decide) rfl) ?_
            refine zN rfl rfl (zJ rfl rfl fa38_2 rfl rfl) <| zN rfl rfl (zO rfl rfl tA3 tS3 rfl rfl) <| zN rfl rfl (s_eqI rfl rfl rfl) <| g_u (zi rfl rfl rfl) <| g_u (zB rfl rfl) <| z6 (t := 77) rfl ?_
            rintro (hb6 | hb6)
            · rw [hb6]
              refine zN rfl rfl (zB rfl rfl) <| zN rfl rfl (yF rfl rfl Try.underlying46) <| zN rfl rfl (s_eqI rfl rfl rfl) <| g_u (zi rfl rfl rfl) <| g_u (zB rfl rfl) <| z6 (t := 82) rfl ?_
              rintro (hb7 | hb7)
              · rw [hb7]
                refine zN rfl rfl (zB rfl rfl) ?_
                refine zN rfl rfl (zK rfl rfl rfl Try.underlying46 tS38 (by decide) rfl) ?_
                refine zN rfl rfl (zJ rfl rfl fa38_2 rfl rfl) <| zN rfl rfl (zO rfl rfl tA3 tS3 rfl rfl) <| zN rfl rfl (s_eqI rfl rfl rfl) <| g_u (zi rfl rfl rfl) <| g_u (zB rfl rfl) <| z6 (t := 89) rfl ?_
                rintro (hb8 | hb8)
                · rw [hb8]
                  refine zN rfl rfl (zB rfl rfl) <| zN rfl rfl (s_not rfl rfl) <| g_u (zi rfl rfl rfl) <| g_u (zB rfl rfl) <| z6 (t := 93) rfl ?_
                  rintro (hb9 | hb9)
                  · rw [hb9]
                    refine zN rfl rfl (zB rfl rfl) <| zN rfl rfl (zP (xrootsNil_c) rfl rfl) <| zN rfl rfl (yF rfl rfl Try.underlying46) <| zN rfl rfl (s_eqI rfl rfl rfl) <| g_u (zi rfl rfl rfl) <| g_u (zB rfl rfl) <| z6 (t := 99) rfl ?_
                    rintro (hb10 | hb10)
                    · rw [hb10]
                      refine zN rfl rfl (zI rfl rfl fa55_4 rfl) <| zN rfl rfl (zG rfl rfl rfl tA3 tS3 rfl rfl) <| zN rfl rfl (s_eqI rfl rfl rfl) <| g_u (zi rfl rfl rfl) <| g_u (zB rfl rfl) <| z6 (t := 104) rfl ?_
                      rintro (hb11 | hb11)
                      · rw [hb11]
                        refine zN rfl rfl (zI rfl rfl fa55_5 rfl) <| zN rfl rfl (zG rfl rfl rfl tA3 tS3 rfl rfl) <| zN rfl rfl (s_eqI rfl rfl rfl) <| g_u (zi rfl rfl rfl) <| g_u (zB rfl rfl) <| z6 (t := 109) rfl ?_
                        rintro (hb12 | hb12)
                        · rw [hb12]
                          refine zN rfl rfl (zk rfl rfl rfl tA24 tS24 rfl rfl) <| zN rfl rfl (zk rfl rfl rfl tA24 tS24 rfl rfl) <| zN rfl rfl (zP (ialike_c gB31 gB31 wt31 wt31) rfl rfl) <| g_u (zi rfl rfl rfl) <| g_u (zB rfl rfl) <| z6 (t := 114) rfl ?_
                          rintro (hb13 | hb13)
                          · rw [hb13]
                            refine zN rfl rfl (zk rfl rfl rfl tA24 tS24 rfl rfl) <| zN rfl rfl (yc rfl tU24 us24 pl24 rfl rfl rfl rfl) <| zN rfl rfl (zP (ialike_c gB31 [] wt31 wt31') rfl rfl) <| zN rfl rfl (s_not rfl rfl) <| g_u (zi rfl rfl rfl) <| g_u (zB rfl rfl) <| z6 (t := 120) rfl ?_
                            rintro (hb14 | hb14)
                            · rw [hb14]
                              refine zN rfl rfl (zk rfl rfl rfl tA24 tS24 rfl rfl) <| zN rfl rfl (zP (icores_c gB31 wt31) rfl rfl) <| zN rfl rfl (yF rfl rfl Try.underlying53) <| zN rfl rfl (s_eqI rfl rfl rfl) <| g_u (zi rfl rfl rfl) <| g_u (zE rfl rfl) <| zH <| zA <| zd ?_
                              exact ⟨⟨(rfl : toAV (Al.look _ _) = some _).trans (congrArg some (by rfl)), rfl⟩, trivial⟩
                            · exact wP hb14 ((by first | rfl | exact al31 | exact fnd31 | (rw [al31']; rfl) | (exact decide_eq_true xd.1) | (exact decide_eq_true xd.2) | decide +kernel | (rw [List.length_map, len31]; rfl)))
                          · exact wP hb13 ((by first | rfl | exact al31 | exact fnd31 | (rw [al31']; rfl) | (exact decide_eq_true xd.1) | (exact decide_eq_true xd.2) | decide +kernel | (rw [List.length_map, len31]; rfl)))
                        · exact wP hb12 ((by first | rfl | exact al31 | exact fnd31 | (rw [al31']; rfl) | (exact decide_eq_true xd.1) | (exact decide_eq_true xd.2) | decide +kernel | (rw [List.length_map, len31]; rfl)))
                      · exact wP hb11 ((by first | rfl | exact al31 | exact fnd31 | (rw [al31']; rfl) | (exact decide_eq_true xd.1) | (exact decide_eq_true xd.2) | decide +kernel | (rw [List.length_map, len31]; rfl)))
                    · exact wP hb10 ((by first | rfl | exact al31 | exact fnd31 | (rw [al31']; rfl) | (exact decide_eq_true xd.1) | (exact decide_eq_true xd.2) | decide +kernel | (rw [List.length_map, len31]; rfl)))
                  · exact wP hb9 ((by first | rfl | exact al31 | exact fnd31 | (rw [al31']; rfl) | (exact decide_eq_true xd.1) | (exact decide_eq_true xd.2) | decide +kernel | (rw [List.length_map, len31]; rfl)))
                · exact wP hb8 ((by first | rfl | exact al31 | exact fnd31 | (rw [al31']; rfl) | (exact decide_eq_true xd.1) | (exact decide_eq_true xd.2) | decide +kernel | (rw [List.length_map, len31]; rfl)))
              · exact wP hb7 ((by first | rfl | exact al31 | exact fnd31 | (rw [al31']; rfl) | (exact decide_eq_true xd.1) | (exact decide_eq_true xd.2) | decide +kernel | (rw [List.length_map, len31]; rfl)))
            · exact wP hb6 ((by first | rfl | exact al31 | exact fnd31 | (rw [al31']; rfl) | (exact decide_eq_true xd.1) | (exact decide_eq_true xd.2) | decide +kernel | (rw [List.length_map, len31]; rfl)))
          · exact wP hb5 ((by first | rfl | exact al31 | exact fnd31 | (rw [al31']; rfl) | (exact decide_eq_true xd.1) | (exact decide_eq_true xd.2) | decide +kernel | (rw [List.length_map, len31]; rfl)))
        · exact wP hb4 ((by first | rfl | exact al31 | exact fnd31 | (rw [al31']; rfl) | (exact decide_eq_true xd.1) | (exact decide_eq_true xd.2) | decide +kernel | (rw [List.length_map, len31]; rfl)))
      · exact wP hb3 ((by first | rfl | exact al31 | exact fnd31 | (rw [al31']; rfl) | (exact decide_eq_true xd.1) | (exact decide_eq_true xd.2) | decide +kernel | (rw [List.length_map, len31]; rfl)))
    · exact wP hb2 ((by first | rfl | exact al31 | exact fnd31 | (rw [al31']; rfl) | (exact decide_eq_true xd.1) | (exact decide_eq_true xd.2) | decide +kernel | (rw [List.length_map, len31]; rfl)))
  · exact wP hb1 ((by first | rfl | exact al31 | exact fnd31 | (rw [al31']; rfl) | (exact decide_eq_true xd.1) | (exact decide_eq_true xd.2) | decide +kernel | (rw [List.length_map, len31]; rfl)))
end Go.Proofs
namespace Go.Proofs
open Go Go.Al
set_option maxRecDepth 10000
set_option maxHeartbeats 8000000 in
theorem indexFinds_c (b : List GRes) (t id : Bs) (ho : okB b) (h8 : id.length = 8) : z8 Try.prog Γ0 3 [z9 b, .arr 16 t, .arr 8 id] [bv true] := by
  refine zq Try.func3 rfl Try.ntmps3 (by kernel_rfl) rfl fun w0 I0 G0 => ?_
  refine zF <| zC <| g_uG (zV 1003 rfl rfl rfl rfl) rfl <| g_uG (zV 1004 rfl rfl rfl rfl) rfl <| g_uG (zV 1005 rfl rfl rfl rfl) rfl <| g_u (zE rfl rfl) <| zH <| zA <| zF <| zF <| zC <| g_u (zG rfl rfl rfl tA24 tS24 rfl rfl) ?_
  refine g_u (zP (leftR_c _ _ (by first | decide | omega)) rfl rfl) ?_
  refine g_u (y8 rfl rfl rfl) <| zH <| zA ?_
  refine zf rfl (fun hb1 => ?_) (fun hb1 => ?_)
  · have z1 : wJ b 6000 < 0 := of_decide_eq_true hb1
    refine zF <| zC <| g_u (zP (wY) rfl rfl) <| g_u (zE rfl rfl) <| zH <| zA <| zd <| zh ?_
    exact ⟨⟨(rfl : toAV (Al.look _ _) = some _).trans (congrArg some (by rfl)), rfl⟩, trivial⟩
  · have z1 : ¬ wJ b 6000 < 0 := of_decide_eq_false hb1
    have hwb := leftR_le z1
    have hwc : wtB b ≤ 9000000 := by omega
    have hcl := xG hwc
    have hc8 := cores8 ho
    have hi8 := cores_id8 ho
    refine zW <| zA <| zF <| zs yR <| g_u (zG rfl rfl rfl tA24 tS24 rfl rfl) <| g_u (zP (new31_c b ho hwc) rfl rfl) <| g_u (zG rfl rfl rfl tA24 tS24 rfl rfl) <| g_u (zP (rcores_c b hwc) rfl rfl) <| g_u (zG rfl rfl rfl tA24 tS24 rfl rfl) <| g_u (zP (places_c b hwc) rfl rfl) <| g_u (zE rfl rfl) <| g_u (zE rfl rfl) <| g_u (zE rfl rfl) ?_
    refine zH ⟨by kernel_rfl, ?_⟩
    refine zA <| zF <| zC <| g_u (zB rfl rfl) <| g_u (zG rfl rfl rfl tA26 tS26 rfl rfl) <| g_u (zG rfl rfl rfl tA28 tS28 rfl rfl) <| g_u (s_call2 (xfindP_c b (t, id)) rfl rfl) <| g_u (yq rfl rfl) <| g_u (zj rfl rfl rfl rfl) <| g_u (zj rfl rfl rfl rfl) <| g_uG (zu 1010 rfl rfl rfl tZ38) rfl <| g_u (zY rfl rfl rfl tS38 rfl rfl) <| g_u (zE rfl rfl) <| zH <| zA <| zF <| zC <| g_u (zB rfl rfl) <| g_u (zG rfl rfl rfl tA26 tS26 rfl rfl) <| g_u (zG rfl rfl rfl tA28 tS28 rfl rfl) <| g_u (zP (rfind_c (zD b) (t, id) hcl) rfl rfl) <| g_u (zE rfl rfl) <| zH <| zA <| zF ?_
    refine aw_cut' (fun _ : Unit => [(4, .ptr 1004 0), (1004, .box 26 (.imm (.arr 16 t))), (5, .ptr 1005 0), (1005, .box 28 (.imm (.arr 8 id))), (7, .imm (idxA b)), (8, .imm (.sl 35 ((zD b).map GCore.av))), (9, .imm (.sl 3 ((plR 0 b).map plav)))]) (fun _ => True) ?_ ?_
    · refine zF ?_
      rcases Decidable.em (0 ≤ yE (zD b) (t, id)) with hf | hf
      · rw [findP_at hf]
        refine zs yR <| g_u (zB rfl rfl) <| g_u (zB rfl rfl) <| g_u (s_geI rfl rfl rfl) <| g_u (s_neB rfl rfl rfl Try.underlying4) <| g_u (zB rfl rfl) <| z6 (t := 41) rfl ?_
        rintro (hb2 | hb2)
        · exact killF hb2 ((by rw [find_ge]; exact bne_self_eq_false _))
        · rw [hb2]
          refine zN rfl rfl (zB rfl rfl) <| zN rfl rfl (zB rfl rfl) <| z6 (t := 43) rfl ?_
          rintro (hb3 | hb3)
          · rw [hb3]
            refine zN rfl rfl (zk rfl rfl rfl tA38 tS38 rfl rfl) <| zN rfl rfl (zB rfl rfl) <| zN rfl rfl (zB rfl rfl) ?_
            refine zN rfl rfl (zK rfl rfl rfl Try.underlying35 tS42 (by have := plx_lt hf; omega) (plx_at hf)) ?_
            refine zN rfl rfl (zO rfl rfl tA42 tS42 rfl rfl) <| zN rfl rfl (s_neA rfl rfl rfl eg42 rfl rfl (eq42 _ _ _ _ _ _)) <| zN rfl rfl (zi rfl rfl rfl) <| g_u (z0 rfl rfl rfl) <| g_u (zB rfl rfl) <| z6 (t := 52) rfl ?_
            rintro (hb4 | hb4)
            · exact killF hb4 ((by simp))
            · rw [hb4]
              refine zN rfl rfl (zB rfl rfl) <| zN rfl rfl (s_not rfl rfl) <| zN rfl rfl (zB rfl rfl) <| z6 (t := 55) rfl ?_
              rintro (hb5 | hb5)
              · exact killF hb5 ((by rfl))
              · rw [hb5]
                refine zQ rfl rfl rfl <| zQ rfl rfl rfl <| zQ rfl rfl rfl <| zN rfl rfl (z0 rfl rfl rfl) <| g_u (z0 rfl rfl rfl) ?_
                refine zH ⟨by kernel_rfl, ?_⟩
                refine zA <| zc rfl <| zW <| zA ?_
                exact ⟨(), trivial, ⟨rfl, rfl, rfl, rfl, rfl, rfl, rfl, trivial⟩⟩
          · exact wP hb3 ((by exact fnd_true hf))
      · rw [findP_no hf]
        refine zs yR <| g_u (zB rfl rfl) <| g_u (zB rfl rfl) <| g_u (s_geI rfl rfl rfl) <| g_u (s_neB rfl rfl rfl Try.underlying4) <| g_u (zB rfl rfl) <| z6 (t := 41) rfl ?_
        rintro (hb6 | hb6)
        · exact killF hb6 ((by rw [find_ge]; exact bne_self_eq_false _))
        · rw [hb6]
          refine zN rfl rfl (zB rfl rfl) <| zN rfl rfl (zB rfl rfl) <| z6 (t := 43) rfl ?_
          rintro (hb7 | hb7)
          · exact killF hb7 ((by exact fnd_false hf))
          · rw [hb7]
            refine zQ rfl rfl rfl <| zQ rfl rfl rfl <| zQ rfl rfl rfl <| zQ rfl rfl rfl <| zQ rfl rfl rfl <| zQ rfl rfl rfl <| zN rfl rfl (z0 rfl rfl rfl) <| g_u (z0 rfl rfl rfl) <| g_u (zB rfl rfl) <| zN rfl rfl (zB rfl rfl) <| zN rfl rfl (s_not rfl rfl) <| zN rfl rfl (zB rfl rfl) <| z6 (t := 55) rfl ?_
            rintro (hb8 | hb8)
            · rw [hb8]
              refine zN rfl rfl (zk rfl rfl rfl tA38 tS38 rfl rfl) <| zN rfl rfl (yc rfl tU38 us38 pl38 rfl rfl rfl rfl) <| zN rfl rfl (s_neA rfl rfl rfl eg38 rfl rfl (eq38 _ _ _ _ _ _)) <| zN rfl rfl (zi rfl rfl rfl) <| g_u (z0 rfl rfl rfl) ?_
              refine zH ⟨by kernel_rfl, ?_⟩
              refine zA ?_
              refine zf rfl (fun hb9 => ?_) (fun hb9 => ?_)
              · exact killF hb9 ((by rfl))
              · refine zW ?_
                refine zA ?_
                exact ⟨(), trivial, ⟨rfl, rfl, rfl, rfl, rfl, rfl, rfl, trivial⟩⟩
            · exact wP hb8 ((by rfl))
    · rintro ⟨⟩ _
      refine zF <| zF <| zC <| g_u (zE rfl rfl) <| zH <| zA <| za ?_
      refine yB (fun i : Nat => [(4, .ptr 1004 0), (1004, .box 26 (.imm (.arr 16 t))), (5, .ptr 1005 0), (1005, .box 28 (.imm (.arr 8 id))), (7, .imm (idxA b)), (8, .imm (.sl 35 ((zD b).map GCore.av))), (9, .imm (.sl 3 ((plR 0 b).map plav))), (13, .imm (iv (i : Int)))]) (fun i => i ≤ (zD b).length) (fun i => (zD b).length - i) (0) ?_ ⟨rfl, rfl, rfl, rfl, rfl, rfl, rfl, rfl, trivial⟩ ?_
      · exact Nat.zero_le _
      · rintro i h1; have h1 : i ≤ (zD b).length := h1
        refine zF <| zF <| zC <| g_u (zB rfl rfl) <| g_u (zB rfl rfl) <| g_u (yF rfl rfl Try.underlying33) <| g_u (y8 rfl rfl rfl) <| zH <| zA ?_
        refine zf rfl (fun hb10 => ?_) (fun hb10 => ?_)
        · have hi : i < (zD b).length := by have := of_decide_eq_true hb10; (try simp only [List.length_map] at this); omega
          have hfi := own_found hi
          have hi8i := hi8 _ (wG (d := gk0) hi)
          refine zW <| zA <| zF <| za <| zF <| zs yR <| g_u (zB rfl rfl) <| g_u (zB rfl rfl) <| g_u (zB rfl rfl) ?_
          refine g_u (zK rfl rfl rfl Try.underlying33 tS44 (by omega) (ixK hi)) ?_
          refine g_u (zJ rfl rfl fa44_0 rfl rfl) <| g_u (zO rfl rfl tA26 tS26 rfl rfl) <| g_u (zB rfl rfl) <| g_u (zB rfl rfl) ?_
          refine g_u (zK rfl rfl rfl Try.underlying33 tS44 (by omega) (ixK hi)) ?_
          refine g_u (zJ rfl rfl fa44_1 rfl rfl) <| g_u (zO rfl rfl tA28 tS28 rfl rfl) <| g_u (s_call2 (xfindP_c b (yW (nthK (zD b) i))) rfl rfl) <| g_u (yq rfl rfl) <| g_u (zj rfl rfl rfl rfl) <| g_u (zj rfl rfl rfl rfl) <| g_uG (zu 1014 rfl rfl rfl tZ38) rfl <| g_u (zY rfl rfl rfl tS38 rfl rfl) <| g_u (zE rfl rfl) ?_
          refine zH ⟨by kernel_rfl, ?_⟩
          refine zA <| zF ?_
          rw [findP_at hfi]
          refine zs yR <| g_u (zB rfl rfl) <| g_u (s_not rfl rfl) <| g_u (zB rfl rfl) <| z6 (t := 84) rfl ?_
          rintro (hb11 | hb11)
          · exact killF hb11 ((by rw [fnd_true hfi]; rfl))
          · rw [hb11]
            refine zN rfl rfl (zk rfl rfl rfl tA38 tS38 rfl rfl) <| zN rfl rfl (zB rfl rfl) <| zN rfl rfl (zB rfl rfl) <| zN rfl rfl (zB rfl rfl) <| zN rfl rfl (zB rfl rfl) ?_
            refine zN rfl rfl (zK rfl rfl rfl Try.underlying33 tS44 (by omega) (ixK hi)) ?_
            refine zN rfl rfl (zJ rfl rfl fa44_0 rfl rfl) <| zN rfl rfl (zO rfl rfl tA26 tS26 rfl rfl) <| zN rfl rfl (zB rfl rfl) <| zN rfl rfl (zB rfl rfl) ?_
            refine zN rfl rfl (zK rfl rfl rfl Try.underlying33 tS44 (by omega) (ixK hi)) ?_
            refine zN rfl rfl (zJ rfl rfl fa44_1 rfl rfl) <| zN rfl rfl (zO rfl rfl tA28 tS28 rfl rfl) <| zN rfl rfl (zP (rfind_c (zD b) (yW (nthK (zD b) i)) hcl) rfl rfl) ?_
            refine zN rfl rfl (zK rfl rfl rfl Try.underlying35 tS42 (by have := plx_lt hfi; omega) (plx_at hfi)) ?_
            refine zN rfl rfl (zO rfl rfl tA42 tS42 rfl rfl) <| zN rfl rfl (s_neA rfl rfl rfl eg42 rfl rfl (eq42 _ _ _ _ _ _)) <| g_u (z0 rfl rfl rfl) <| g_u (zB rfl rfl) <| z6 (t := 103) rfl ?_
            rintro (hb12 | hb12)
            · exact killF hb12 ((by simp))
            · rw [hb12]
              refine zN rfl rfl (zB rfl rfl) <| zN rfl rfl (zB rfl rfl) <| zN rfl rfl (zB rfl rfl) ?_
              refine zN rfl rfl (zK rfl rfl rfl Try.underlying33 tS44 (by omega) (ixK hi)) ?_
              refine zN rfl rfl (zJ rfl rfl fa44_0 rfl rfl) <| zN rfl rfl (zO rfl rfl tA26 tS26 rfl rfl) <| zN rfl rfl (zB rfl rfl) <| zN rfl rfl (zB rfl rfl) ?_
              refine zN rfl rfl (zK rfl rfl rfl Try.underlying33 tS44 (by omega) (ixK hi)) ?_
              refine zN rfl rfl (zJ rfl rfl fa44_1 rfl rfl) <| zN rfl rfl (zO rfl rfl tA28 tS28 rfl rfl) <| zN rfl rfl (zP (xkids_c b (yW (nthK (zD b) i)) hi8i hwc) rfl rfl) <| zN rfl rfl (zB rfl rfl) <| zN rfl rfl (zB rfl rfl) <| zN rfl rfl (zB rfl rfl) <| zN rfl rfl (zB rfl rfl) ?_
              refine zN rfl rfl (zK rfl rfl rfl Try.underlying33 tS44 (by omega) (ixK hi)) ?_
              refine zN rfl rfl (zJ rfl rfl fa44_0 rfl rfl) <| zN rfl rfl (zO rfl rfl tA26 tS26 rfl rfl) <| zN rfl rfl (zB rfl rfl) <| zN rfl rfl (zB rfl rfl) ?_
              refine zN rfl rfl (zK rfl rfl rfl Try.underlying33 tS44 (by omega) (ixK hi)) ?_
              refine zN rfl rfl (zJ rfl rfl fa44_1 rfl rfl) <| zN rfl rfl (zO rfl rfl tA28 tS28 rfl rfl) <| zN rfl rfl (zP (rkids_c (zD b) (yW (nthK (zD b) i)) hi8i hcl) rfl rfl) <| zN rfl rfl (zP (at31_c _ _ rng_pl (rng_small hcl)) rfl rfl) <| zN rfl rfl (s_not rfl rfl) <| g_u (z0 rfl rfl rfl) ?_
              refine zH ⟨by kernel_rfl, ?_⟩
              refine zA ?_
              refine zf rfl (fun hb13 => ?_) (fun hb13 => ?_)
              · exact killF hb13 ((by rfl))
              · refine zW ?_
                refine zT <| zA <| zC <| g_u (zB rfl rfl) <| g_u (yh rfl rfl rfl) <| g_u (zE rfl rfl) <| zH <| zA ?_
                refine ⟨i + 1, hi, ⟨rfl, rfl, rfl, rfl, rfl, rfl, rfl, zb rfl (by rw [ze (by omega) (by omega)]; rfl), trivial⟩, by (try dsimp only); omega⟩
        · refine yA ?_
          refine zU <| zU <| zx <| zA <| zF <| zs yR <| g_u (zB rfl rfl) <| g_u (zG rfl rfl rfl tA26 tS26 rfl rfl) <| g_u (zG rfl rfl rfl tA28 tS28 rfl rfl) <| g_u (zP (xkids_c b (t, id) h8 hwc) rfl rfl) <| g_u (zB rfl rfl) <| g_u (zB rfl rfl) <| g_u (zG rfl rfl rfl tA26 tS26 rfl rfl) <| g_u (zG rfl rfl rfl tA28 tS28 rfl rfl) <| g_u (zP (rkids_c (zD b) (t, id) h8 hcl) rfl rfl) <| g_u (zP (at31_c _ _ rng_pl (rng_small hcl)) rfl rfl) <| g_u (zB rfl rfl) <| z6 (t := 142) rfl ?_
          rintro (hb14 | hb14)
          · rw [hb14]
            refine zN rfl rfl (zB rfl rfl) <| zN rfl rfl (zP (xroots_c b hwc) rfl rfl) <| zN rfl rfl (zB rfl rfl) <| zN rfl rfl (zB rfl rfl) <| zN rfl rfl (zP (rroots_c (zD b) hc8 hcl) rfl rfl) <| zN rfl rfl (zP (at31_c _ _ rng_pl (rng_small hcl)) rfl rfl) <| g_u (zi rfl rfl rfl) <| g_u (zB rfl rfl) <| z6 (t := 150) rfl ?_
            rintro (hb15 | hb15)
            · rw [hb15]
              refine zN rfl rfl (zB rfl rfl) <| zN rfl rfl (zP (xtwice_c b hwc) rfl rfl) <| zN rfl rfl (zB rfl rfl) <| zN rfl rfl (zB rfl rfl) <| zN rfl rfl (zP (rtwice_c (zD b) hcl) rfl rfl) <| zN rfl rfl (zP (at31_c _ _ rng_pl (rng_small hcl)) rfl rfl) <| g_u (zi rfl rfl rfl) <| g_u (zB rfl rfl) <| z6 (t := 158) rfl ?_
              rintro (hb16 | hb16)
              · rw [hb16]
                refine zN rfl rfl (zP (wY) rfl rfl) <| g_u (zi rfl rfl rfl) <| g_u (zE rfl rfl) ?_
                refine zH ⟨by kernel_rfl, ?_⟩
                refine zA <| zd ?_
                exact ⟨⟨(rfl : toAV (Al.look _ _) = some _).trans (congrArg some (by rfl)), rfl⟩, trivial⟩
              · exact wP hb16 ((by rfl))
            · exact wP hb15 ((by rfl))
          · exact wP hb14 ((by rfl))
set_option maxHeartbeats 4000000 in
theorem indexCores_c (a b : List GRes) : z8 Try.prog Γ0 4 [z9 a, z9 b] [bv true] := by
  refine zq Try.func4 rfl Try.ntmps4 (by kernel_rfl) rfl fun w0 I0 G0 => ?_
  refine zF <| zC <| g_uG (zV 1002 rfl rfl rfl rfl) rfl <| g_uG (zV 1003 rfl rfl rfl rfl) rfl <| g_u (zE rfl rfl) <| zH <| zA <| zF <| zF <| zC <| g_u (zG rfl rfl rfl tA24 tS24 rfl rfl) ?_
  refine g_u (zP (leftR_c _ _ (by first | decide | omega)) rfl rfl) ?_
  refine g_u (y8 rfl rfl rfl) <| g_u (zB rfl rfl) <| z6 (t := 11) rfl ?_
  rintro (hb1 | hb1)
  · rw [hb1]
    have z1 : wJ a 6000 < 0 := of_decide_eq_true hb1
    refine zQ rfl rfl rfl <| zQ rfl rfl rfl <| zQ rfl rfl rfl <| g_u (zi rfl rfl rfl) <| zH <| zA <| yD rfl <| zF <| zC <| g_u (zP (wY) rfl rfl) <| g_u (zE rfl rfl) <| zH <| zA <| zd <| zh ?_
    exact ⟨⟨(rfl : toAV (Al.look _ _) = some _).trans (congrArg some (by rfl)), rfl⟩, trivial⟩
  · rw [hb1]
    have z1 : ¬ wJ a 6000 < 0 := of_decide_eq_false hb1
    have hwa := leftR_le z1
    refine zN rfl rfl (zG rfl rfl rfl tA24 tS24 rfl rfl) ?_
    refine zN rfl rfl (zP (leftR_c _ _ (by first | decide | omega)) rfl rfl) ?_
    refine zN rfl rfl (y8 rfl rfl rfl) <| g_u (z0 rfl rfl rfl) <| zH <| zA ?_
    refine zf rfl (fun hb2 => ?_) (fun hb2 => ?_)
    · have z2 : wJ b 6000 < 0 := of_decide_eq_true hb2
      refine zF <| zC <| g_u (zP (wY) rfl rfl) <| g_u (zE rfl rfl) <| zH <| zA <| zd <| zh ?_
      exact ⟨⟨(rfl : toAV (Al.look _ _) = some _).trans (congrArg some (by rfl)), rfl⟩, trivial⟩
    · have z2 : ¬ wJ b 6000 < 0 := of_decide_eq_false hb2
      have hwb := leftR_le z2
      have hca := xG (b := a) (by omega)
      have hcb := xG (b := b) (by omega)
      refine zW <| zA <| zF <| zs yR <| g_u (zG rfl rfl rfl tA24 tS24 rfl rfl) ?_
      refine g_u (zP (icores_c a (by omega)) rfl rfl) ?_
      refine g_u (zG rfl rfl rfl tA24 tS24 rfl rfl) ?_
      refine g_u (zP (rcores_c a (by omega)) rfl rfl) ?_
      refine g_u (zE rfl rfl) <| g_u (zE rfl rfl) ?_
      refine zH ⟨by kernel_rfl, ?_⟩
      refine zA <| zF <| zF <| zC <| g_u (zB rfl rfl) <| g_u (yF rfl rfl Try.underlying53) <| g_u (zB rfl rfl) <| g_u (yF rfl rfl Try.underlying33) <| g_u (s_neI rfl rfl rfl) <| zH <| zA ?_
      refine zf rfl (fun hb3 => ?_) (fun hb3 => ?_)
      · exact killF hb3 ((by exact bne_self_eq_false _))
      · refine zW ?_
        refine zA <| zF <| zF <| zC <| g_u (zE rfl rfl) <| zH <| zA <| za ?_
        refine yB (fun i : Nat => [(2, .ptr 1002 0), (1002, .box 24 (.imm (z9 a))), (3, .ptr 1003 0), (1003, .box 24 (.imm (z9 b))), (5, .imm (.sl 35 ((zD a).map GCore.av))), (6, .imm (.sl 35 ((zD a).map GCore.av))), (7, .imm (iv (i : Int)))]) (fun i => i ≤ (zD a).length) (fun i => (zD a).length - i) (0) ?_ ⟨rfl, rfl, rfl, rfl, rfl, rfl, rfl, trivial⟩ ?_
        · exact Nat.zero_le _
        · rintro i h1; have h1 : i ≤ (zD a).length := h1
          refine zF <| zF <| zC <| g_u (zB rfl rfl) <| g_u (zB rfl rfl) <| g_u (yF rfl rfl Try.underlying33) <| g_u (y8 rfl rfl rfl) <| zH <| zA ?_
          refine zf rfl (fun hb4 => ?_) (fun hb4 => ?_)
          · have hi : i < (zD a).length := by have := of_decide_eq_true hb4; (try simp only [List.length_map] at this); omega
            refine zW <| zA <| zF <| za <| zF <| zs yR <| g_u (zB rfl rfl) <| g_u (zB rfl rfl) ?_
            refine g_u (zK rfl rfl rfl Try.underlying53 tS55 (by omega) (ixK hi)) ?_
            refine g_u (zO rfl rfl tA55 tS55 rfl rfl) <| g_u (zB rfl rfl) <| g_u (zB rfl rfl) ?_
            refine g_u (zK rfl rfl rfl Try.underlying33 tS44 (by omega) (ixK hi)) ?_
            refine g_u (zO rfl rfl tA44 tS44 rfl rfl) <| g_u (s_neA rfl rfl rfl eg44 rfl rfl (ec44 _ _)) ?_
            refine zH ⟨by kernel_rfl, ?_⟩
            refine zA ?_
            refine zf rfl (fun hb5 => ?_) (fun hb5 => ?_)
            · exact killF hb5 ((by exact congrArg not ((coreB_iff _ _).2 rfl)))
            · refine zW ?_
              refine zT <| zA <| zC <| g_u (zB rfl rfl) <| g_u (yh rfl rfl rfl) <| g_u (zE rfl rfl) <| zH <| zA ?_
              refine ⟨i + 1, hi, ⟨rfl, rfl, rfl, rfl, rfl, rfl, zb rfl (by rw [ze (by omega) (by omega)]; rfl), trivial⟩, by (try dsimp only); omega⟩
          · refine yA ?_
            refine zU <| zU <| zx <| zA <| zF <| zs yR <| g_u (zG rfl rfl rfl tA24 tS24 rfl rfl) <| g_u (zG rfl rfl rfl tA24 tS24 rfl rfl) ?_
            refine g_u (zP (ialike_c a b (by omega) (by omega)) rfl rfl) ?_
            refine g_u (zG rfl rfl rfl tA24 tS24 rfl rfl) <| g_u (zG rfl rfl rfl tA24 tS24 rfl rfl) ?_
            refine g_u (zP (alike_c a b (by omega) (by omega)) rfl rfl) ?_
            refine g_u (s_eqB rfl rfl rfl Try.underlying4) <| g_u (zB rfl rfl) <| z6 (t := 48) rfl ?_
            rintro (hb6 | hb6)
            · rw [hb6]
              refine zN rfl rfl (zG rfl rfl rfl tA24 tS24 rfl rfl) <| zN rfl rfl (zG rfl rfl rfl tA24 tS24 rfl rfl) ?_
              refine zN rfl rfl (zP (ialike_c b a (by omega) (by omega)) rfl rfl) ?_
              refine zN rfl rfl (zG rfl rfl rfl tA24 tS24 rfl rfl) <| zN rfl rfl (zG rfl rfl rfl tA24 tS24 rfl rfl) ?_
              refine zN rfl rfl (zP (alike_c a b (by omega) (by omega)) rfl rfl) ?_
              refine zN rfl rfl (s_eqB rfl rfl rfl Try.underlying4) <| g_u (zi rfl rfl rfl) <| g_u (zB rfl rfl) <| z6 (t := 57) rfl ?_
              rintro (hb7 | hb7)
              · rw [hb7]
                refine zN rfl rfl (zP (wY) rfl rfl) <| g_u (zi rfl rfl rfl) <| g_u (zE rfl rfl) ?_
                refine zH ⟨by kernel_rfl, ?_⟩
                refine zA <| zd ?_
                exact ⟨⟨(rfl : toAV (Al.look _ _) = some _).trans (congrArg some (by rfl)), rfl⟩, trivial⟩
              · exact wP hb7 ((by rw [alike_sym]; exact beq_self_eq_true _))
            · exact wP hb6 ((by exact beq_self_eq_true _))
set_option maxHeartbeats 4000000 in
theorem indexWhole_c (b : List GRes) (ho : okB b) : z8 Try.prog Γ0 5 [z9 b] [bv true] := by
  refine pcall_of_fw Try.func5 rfl Try.ntmps5 (by kernel_rfl) rfl fun w0 I0 G0 => ?_
  refine xf ?_
  refine fw_aw (fun w1 I1 E1 G1 D1 => ?_)
  refine zC <| g_uG (zV 50001 rfl rfl rfl rfl) rfl <| g_uG (zu 50002 rfl rfl rfl tZ4) rfl <| zH <| zA <| xf ?_
  refine fw_aw (fun w1 I1 E1 G1 D1 => ?_)
  refine zF <| zC <| g_u (zG rfl rfl rfl tA24 tS24 rfl rfl) ?_
  refine g_u (zP (leftR_c _ _ (by first | decide | omega)) rfl rfl) ?_
  refine g_u (y8 rfl rfl rfl) <| zH <| zA ?_
  refine zf rfl (fun hb1 => ?_) (fun hb1 => ?_)
  · have z1 : wJ b 6000 < 0 := of_decide_eq_true hb1
    refine zF <| zC <| g_u (zP (wY) rfl rfl) <| g_u (zY rfl rfl rfl tS4 rfl rfl) <| zH <| zA <| zd <| zh ?_
    exact ⟨⟨_, _, _, _, _, _, _, rfl, rfl, tA4, tS4, rfl, rfl, (rfl : toAV _ = some _).trans (congrArg some (by rfl))⟩, trivial⟩
  · have z1 : ¬ wJ b 6000 < 0 := of_decide_eq_false hb1
    have hwb := leftR_le z1
    have hwc : wtB b ≤ 9000000 := by omega
    have hcl := xG hwc
    have hc8 := cores8 ho
    have hi8 := cores_id8 ho
    have hkb := kidSum_le b
    refine zW <| zA <| xf ?_
    refine fw_aw (fun w1 I1 E1 G1 D1 => ?_)
    refine zC <| g_u (zG rfl rfl rfl tA24 tS24 rfl rfl) <| g_u (zP (new31_c b ho hwc) rfl rfl) <| g_uG (zu 50003 rfl rfl rfl tZ31) rfl <| g_u (zY rfl rfl rfl tS31 rfl rfl) <| zH <| zA <| xf ?_
    refine fw_aw (fun w1 I1 E1 G1 D1 => ?_)
    refine zC <| g_uG (zu 50004 rfl rfl rfl tZ3) rfl <| g_uG (zu 50005 rfl rfl rfl tZ3) rfl <| g_u (zY rfl rfl rfl tS3 rfl rfl) <| g_u (zY rfl rfl rfl tS3 rfl rfl) <| zH <| zA <| xf ?_
    refine fw_aw (fun w1 I1 E1 G1 D1 => ?_)
    refine zC <| g_u (zG rfl rfl rfl tA24 tS24 rfl rfl) <| g_u (zP (all_c b) rfl rfl) <| g_u (zE rfl rfl) <| zH <| zA <| xf ?_
    refine fw_aw (fun w1 I1 E1 G1 D1 => ?_)
    refine zF <| zC <| g_u (zB rfl rfl) <| g_u (s_eqNF rfl rfl rfl Try.underlying58) <| zH <| zA <| zc rfl <| zW <| zA <| xf <| xf ?_
    refine fw_aw (fun w1 I1 E1 G1 D1 => ?_)
    refine zC <| g_u (zB rfl rfl) <| zH <| zA <| fw_block ?_
    refine fw_range ([(2, .ptr 50002 0), (3, .ptr 50003 0), (4, .ptr 50004 0), (5, .ptr 50005 0)]) (fun i => [(50002, .box 4 (.imm (bv false))), (50003, .box 31 (.imm (idxA b))), (50004, .box 3 (.imm (iv (i : Int)))), (50005, .box 3 (.imm (iv (wH b i : Int))))]) (fun _ => True) (trivial) (all1_c b hwc) rfl ⟨rfl, rfl, rfl, rfl, rfl, rfl, rfl, rfl, trivial⟩ rfl (fun i => rfl) (seqB_two b) rfl (fun i xs hok hxs w2 I2 E2 G2 R2 => ?_) (fun hok => ?_)
    · obtain ⟨p, hp, rfl⟩ := seqB_get hxs
      obtain ⟨hil, hpn, hck⟩ := xi hp
      have hlt := (List.getElem?_eq_some_iff.1 hp).1
      have hil2 : i + 1 ≤ (zD b).length := hil
      have hkb1 := hkb (i + 1) hil2
      obtain ⟨j, hfj, hji, hjl, htw, hpj⟩ := first_at hp
      have hks := kidSum_succ b i
      rw [hck] at hfj hks
      have hfj : yE (zD b) ((spAt b p).trace, (spAt b p).id) = (j : Int) := hfj
      have hks : wH b (i + 1) = wH b i + if twP (zD b) i = true then 0 else (kidsN b ((spAt b p).trace, (spAt b p).id)).length := hks
      have hfd : fndP (ixF (zD b)).sk ((spAt b p).trace, (spAt b p).id) = true := fnd_true (by rw [hfj]; omega)
      have hfa : findP b ((spAt b p).trace, (spAt b p).id) = nth (plR 0 b) j (0, 0, 0) := by rw [findP_at (by rw [hfj]; omega), hfj]; rfl
      have hi8i : (spAt b p).id.length = 8 := by have h : (nthK (zD b) i).id.length = 8 := hi8 _ (wG (d := gk0) hil); rw [hck] at h; exact h
      refine zF <| zC <| g_uG (zu 1007 rfl rfl rfl tZ38) rfl <| g_u (zY rfl rfl rfl tS38 rfl rfl) <| zH <| zA <| zC <| g_uG (zu 1008 rfl rfl rfl tZ67) rfl ?_
      refine g_u (zY rfl rfl rfl tS67 (by first | exact beqW (GSpan.width _) | rfl) (by first | exact setS_w (z67_w.trans (GSpan.width _).symm) rfl | rfl)) ?_
      refine zH <| zA ?_
      intro w3 I3 E3 G3
      refine za <| zF <| zC <| g_u (zG rfl rfl rfl tA3 tS3 rfl rfl) <| g_u (yh rfl rfl rfl) <| g_u (zY rfl rfl rfl tS3 rfl rfl) <| zH <| zA <| zF <| zC <| g_u (zG rfl rfl rfl tA31 tS31 rfl rfl) <| g_u (zI rfl rfl fa67_0 rfl) <| g_u (zk rfl rfl rfl tA26 tS26 rfl rfl) <| g_u (zI rfl rfl fa67_1 rfl) <| g_u (zG rfl rfl rfl tA28 tS28 rfl rfl) <| g_u (s_call2 (xfindP_c b ((spAt b p).trace, (spAt b p).id)) rfl rfl) <| g_u (yq rfl rfl) <| g_u (zj rfl rfl rfl rfl) <| g_u (zj rfl rfl rfl rfl) <| g_uG (zu 1009 rfl rfl rfl tZ38) rfl <| g_u (zY rfl rfl rfl tS38 rfl rfl) <| g_u (zE rfl rfl) <| zH <| zA <| zF <| zF <| zC <| g_u (zB rfl rfl) <| g_u (s_not rfl rfl) <| zH <| zA ?_
      refine zf rfl (fun hb2 => ?_) (fun hb2 => ?_)
      · exact killF hb2 ((by rw [hfd]; rfl))
      · refine zW ?_
        refine zA <| zF ?_
        rw [hfa]
        refine zC <| g_u (zk rfl rfl rfl tA38 tS38 rfl rfl) <| g_u (zk rfl rfl rfl tA38 tS38 rfl rfl) <| g_u (s_eqA rfl rfl rfl eg38 rfl rfl (eq38 _ _ _ _ _ _)) <| zH <| zA ?_
        refine zf rfl (fun hb3 => ?_) (fun hb3 => ?_)
        · have hq := hb3
          have hji2 : j = i := hpj.1 (pl3_iff.1 hq)
          subst hji2
          have hks2 : wH b (j + 1) = wH b j + (kidsN b ((spAt b p).trace, (spAt b p).id)).length := by rw [hks, htw]; simp
          refine zs yR <| g_u (zG rfl rfl rfl tA3 tS3 rfl rfl) <| g_u (zG rfl rfl rfl tA31 tS31 rfl rfl) <| g_u (zI rfl rfl fa67_0 rfl) <| g_u (zk rfl rfl rfl tA26 tS26 rfl rfl) <| g_u (zI rfl rfl fa67_1 rfl) <| g_u (zG rfl rfl rfl tA28 tS28 rfl rfl) <| g_u (zP (xkids_c b ((spAt b p).trace, (spAt b p).id) hi8i hwc) rfl rfl) <| g_u (yF rfl rfl Try.underlying46) <| g_u (yh rfl rfl rfl) <| g_u (zY rfl rfl rfl tS3 rfl rfl) ?_
          refine zH ⟨by kernel_rfl, ?_⟩
          refine zT ?_
          refine ⟨trivial, rfl, rfl, (by show SV.box 3 (.imm (iv _)) = SV.box 3 (.imm (iv _)); rw [ze (by omega) (by omega)]; rfl), (by first | (show SV.box 3 (.imm (iv _)) = SV.box 3 (.imm (iv _)); rw [hks2]; done) | (show SV.box 3 (.imm (iv _)) = SV.box 3 (.imm (iv _)); rw [hks2, List.length_map, ze (by omega) (by omega)]; rfl)), trivial⟩
        · have hq := hb3
          have hji2 : ¬ j = i := fun e => by rw [pl3_iff.2 (hpj.2 e)] at hq; cases hq
          have hks2 : wH b (i + 1) = wH b i := by rw [hks, htw]; simp [hji2]
          refine zW <| zT ?_
          refine ⟨trivial, rfl, rfl, (by show SV.box 3 (.imm (iv _)) = SV.box 3 (.imm (iv _)); rw [ze (by omega) (by omega)]; rfl), (by first | (show SV.box 3 (.imm (iv _)) = SV.box 3 (.imm (iv _)); rw [hks2]; done) | (show SV.box 3 (.imm (iv _)) = SV.box 3 (.imm (iv _)); rw [hks2, List.length_map, ze (by omega) (by omega)]; rfl)), trivial⟩
    · refine zT ?_
      refine zA ?_
      refine fw_aw (fun w1 I1 E1 G1 D1 => ?_)
      refine zF <| zs yR <| g_u (zG rfl rfl rfl tA31 tS31 rfl rfl) <| g_u (zP (xroots_c b hwc) rfl rfl) <| g_u (yF rfl rfl Try.underlying46) <| g_u (zG rfl rfl rfl tA3 tS3 rfl rfl) <| g_u (yh rfl rfl rfl) <| g_u (zG rfl rfl rfl tA3 tS3 rfl rfl) <| g_u (s_eqI rfl rfl rfl) <| g_u (zB rfl rfl) <| z6 (t := 56) rfl ?_
      rintro (hb4 | hb4)
      · rw [hb4]
        refine zN rfl rfl (zG rfl rfl rfl tA31 tS31 rfl rfl) <| zN rfl rfl (zP (xtwice_c b hwc) rfl rfl) <| zN rfl rfl (yF rfl rfl Try.underlying46) <| zN rfl rfl (zG rfl rfl rfl tA3 tS3 rfl rfl) <| zN rfl rfl (s_leI rfl rfl rfl) <| g_u (zi rfl rfl rfl) <| g_u (zB rfl rfl) <| z6 (t := 63) rfl ?_
        rintro (hb5 | hb5)
        · rw [hb5]
          refine zN rfl rfl (zP (wY) rfl rfl) <| g_u (zi rfl rfl rfl) <| g_u (zY rfl rfl rfl tS4 rfl rfl) ?_
          refine zH ⟨by kernel_rfl, ?_⟩
          refine zA <| zd ?_
          exact ⟨⟨_, _, _, _, _, _, _, rfl, rfl, tA4, tS4, rfl, rfl, (rfl : toAV _ = some _).trans (congrArg some (by rfl))⟩, trivial⟩
        · exact wP hb5 ((by have e2 := seqB_cores b; rw [e2, List.length_map]; refine decide_eq_true ?_; have := twN_len b; omega))
      · exact wP hb4 ((by have e1 := whole31 b; have e2 := seqB_cores b; rw [e2, beq_iff_eq, List.length_map, ze (by omega) (by omega)]; omega))
end Go.Proofs
