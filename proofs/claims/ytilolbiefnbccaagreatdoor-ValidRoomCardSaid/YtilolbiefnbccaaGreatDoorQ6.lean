/- Texts that the proofs of this claim share, part 6: the abstract logic, plain Lean on values and batches, and walks. No condition but those typed in each lemma. -/
import Derived.Test.YtilolbiefnbccaaGreatDoorQ5
set_option linter.unusedSimpArgs false
set_option linter.unusedVariables false
set_option maxHeartbeats 400000
namespace Go.Proofs
open Go Go.Al
set_option maxRecDepth 10000
theorem tA121 : ym Tryz.prog 121 = some true := by kernel_rfl
theorem tS121 : zs Tryz.prog 121 = some 3 := by kernel_rfl
theorem tA124 : ym Tryz.prog 124 = some false := by kernel_rfl
theorem tS124 : zs Tryz.prog 124 = some 1 := by kernel_rfl
def z121 : AV := .agg [.v (.pointer none), .v (.pointer none), .v (.int .u64 0)]
theorem tZ121 : yN Tryz.prog 121 z121 := ⟨.agg #[.pointer none, .pointer none, .int .u64 0], by kernel_rfl, by kernel_rfl⟩
abbrev eOf (c : Int) (l : List ByteArray) : AV := errOf 79 110 c l
abbrev eM (f : Fl) : AV := errM 79 110 f
def tyE : List ByteArray → Value
  | [] => (.iface 159 (.agg #[(.pointer (some ⟨3, 79, none⟩))]))
  | _ :: _ => (.iface 159 (.agg #[(.pointer (some ⟨3, 110, none⟩))]))
theorem x7 {v r : Value} {name : String} (hp : plain v = true) (hr : plain r = true) (h : ∀ w, (callMethod v name #[]).run Tryz.prog w = .ok (.value r) w) : ∀ w I u, Rep w I (.v v) u → ∃ x, (callMethod u name #[]).run Tryz.prog w = .ok (.value x) w ∧ Rep w I (.v r) x :=
  fun w I u k => by rw [xm k hp]; exact ⟨r, h w, yZ w I hr⟩
theorem inv1_raw {v z r : Value} {name : String} (hp : plain v = true) (hz : plain z = true) (hr : plain r = true) (h : ∀ w, (callMethod v name #[z]).run Tryz.prog w = .ok (.value r) w) : ∀ w I u y, Rep w I (.v v) u → Rep w I (.v z) y → ∃ x, (callMethod u name #[y]).run Tryz.prog w = .ok (.value x) w ∧ Rep w I (.v r) x :=
  fun w I u y k k2 => by rw [xm k hp, xm k2 hz]; exact ⟨r, h w, yZ w I hr⟩
theorem typeOf_e (c : Int) (l : List ByteArray) : ∀ w I vs, yA w I [eOf c l] vs → ∃ v, (callFunc 63 (List.toArray vs)).run Tryz.prog w = .ok (.value v) w ∧ Rep w I (.v (tyE l)) v := by
  intro w I vs h
  simp only [yA] at h
  obtain ⟨k, r, rfl, h1, rfl⟩ := h
  cases l with
  | nil => obtain ⟨u, e, _⟩ := rep_ifc (w := w) (I := I) (T := 79) ⟨k, h1, rfl⟩; exact ⟨_, by rw [show mkV (eOf c []) k = .iface 79 u from e]; exact fO79 u w, yZ w I rfl⟩
  | cons p ps => obtain ⟨u, e, _⟩ := rep_ifc (w := w) (I := I) (T := 110) ⟨k, h1, rfl⟩; exact ⟨_, by rw [show mkV (eOf c (p :: ps)) k = .iface 110 u from e]; exact fO110 u w, yZ w I rfl⟩
theorem asB_e (l : List ByteArray) : ∀ w I u y, Rep w I (.v (tyE l)) u → Rep w I (.v (.iface 159 (.agg #[(.pointer (some ⟨3, 79, none⟩))]))) y → ∃ x, (callMethod u "AssignableTo" #[y]).run Tryz.prog w = .ok (.value x) w ∧ Rep w I (bv (l.isEmpty)) x := by
  cases l with
  | nil => exact inv1_raw (v := (.iface 159 (.agg #[(.pointer (some ⟨3, 79, none⟩))]))) rfl rfl rfl fA79_79
  | cons p ps => exact inv1_raw (v := (.iface 159 (.agg #[(.pointer (some ⟨3, 110, none⟩))]))) rfl rfl rfl fA110_79
theorem asW_e (l : List ByteArray) : ∀ w I u y, Rep w I (.v (tyE l)) u → Rep w I (.v (.iface 159 (.agg #[(.pointer (some ⟨3, 110, none⟩))]))) y → ∃ x, (callMethod u "AssignableTo" #[y]).run Tryz.prog w = .ok (.value x) w ∧ Rep w I (bv (!l.isEmpty)) x := by
  cases l with
  | nil => exact inv1_raw (v := (.iface 159 (.agg #[(.pointer (some ⟨3, 79, none⟩))]))) rfl rfl rfl fA79_110
  | cons p ps => exact inv1_raw (v := (.iface 159 (.agg #[(.pointer (some ⟨3, 110, none⟩))]))) rfl rfl rfl fA110_110
theorem fnew_c (c : Int) : zg Tryz.prog Γ0 25 [iv c] [eM (c, [])] := by
  refine zU Tryz.func25 rfl Tryz.ntmps25 (by kernel_rfl) rfl fun w0 I0 G0 => ?_
  refine zC <| zB <| g_u (zE rfl rfl) <| zF <| zA <| zC <| zC <| zB <| g_u (zD rfl rfl) <| g_u (yR rfl rfl rfl) <| zF <| zA ?_
  refine zL rfl (fun hb1 => ?_) (fun hb1 => ?_)
  · have q : c = 0 := beq_iff_eq.1 hb1
    refine zC <| zB <| g_u (zE rfl rfl) <| zF <| zA <| zI <| zP ?_
    exact ⟨⟨(rfl : toAV (Al.look _ _) = some _).trans (congrArg some (by (rw [show eM (c, []) = _ from xY (f := (c, [])) q]))), rfl⟩, trivial⟩
  · have q : ¬ c = 0 := beq_eq_false_iff_ne.1 hb1
    refine zO <| zA <| zC <| zB <| g_u (zD rfl rfl) <| g_u (xB rfl tU83 us83 pl83 rfl rfl rfl rfl) <| g_uG (zl 1007 rfl rfl rfl rfl) rfl <| g_u (s_makeIfaceS rfl rfl rfl rfl rfl nI79) <| g_u (zE rfl rfl) <| zF <| zA <| zI ?_
    exact ⟨⟨(rfl : toAV (Al.look _ _) = some _).trans (congrArg some (by (rw [show eM (c, []) = _ from wm (f := (c, [])) q]; rfl))), rfl⟩, trivial⟩
theorem finN_c (p : ByteArray) : zg Tryz.prog Γ0 27 [sv p, .v .nilIface] [.v .nilIface] := by
  refine zU Tryz.func27 rfl Tryz.ntmps27 (by kernel_rfl) rfl fun w0 I0 G0 => ?_
  refine zC <| zB <| g_u (zE rfl rfl) <| zF <| zA <| zC <| zC <| zB <| g_u (zD rfl rfl) <| g_u (s_eqNN rfl rfl Tryz.underlying28) <| zF <| zA <| z7 rfl <| zC <| zB <| g_u (zE rfl rfl) <| zF <| zA <| zI <| zP ?_
  exact ⟨⟨(rfl : toAV (Al.look _ _) = some _).trans (congrArg some (by rfl)), rfl⟩, trivial⟩
theorem finP_c (p : ByteArray) (c : Int) (l : List ByteArray) : zg Tryz.prog Γ0 27 [sv p, eOf c l] [eOf c (p :: l)] := by
  refine zU Tryz.func27 rfl Tryz.ntmps27 (by kernel_rfl) rfl fun w0 I0 G0 => ?_
  refine zC <| zB <| g_u (zE rfl rfl) <| zF <| zA <| zC <| zC <| zB <| g_u (zD rfl rfl) <| g_u (s_eqNI' rfl rfl (xW _ _ _ _) rfl Tryz.underlying28) <| zF <| zA <| zX rfl <| zO <| zA <| zC <| zB <| g_u (zD rfl rfl) <| g_u (zD rfl rfl) <| g_u (xB rfl tU112 us112 pl112 rfl rfl rfl rfl) <| g_uG (zl 1010 rfl rfl rfl rfl) rfl <| g_u (s_makeIfaceS rfl rfl rfl rfl rfl nI110) <| g_u (zE rfl rfl) <| zF <| zA <| zI ?_
  exact ⟨⟨(rfl : toAV (Al.look _ _) = some _).trans (congrArg some (by rfl)), rfl⟩, trivial⟩
theorem fin_c (p : ByteArray) (f : Fl) : zg Tryz.prog Γ0 27 [sv p, eM f] [eM (f.1, p :: f.2)] := by
  by_cases h : f.1 = 0
  · rw [show eM f = _ from xY h, show eM (f.1, p :: f.2) = _ from xY (f := (f.1, p :: f.2)) h]; exact finN_c p
  · rw [show eM f = _ from wm h, show eM (f.1, p :: f.2) = _ from wm (f := (f.1, p :: f.2)) h]; exact finP_c p f.1 f.2
theorem unwrap_c (p : ByteArray) (c : Int) (l : List ByteArray) : zg Tryz.prog Γ0 247 [.cp (.agg [sv p, eOf c l])] [eOf c l] := by
  refine zU Tryz.func247 rfl Tryz.ntmps247 (by kernel_rfl) rfl fun w0 I0 G0 => ?_
  refine zC <| zB <| g_u (zE rfl rfl) <| zF <| zA <| zC <| zB <| g_u (zD rfl rfl) <| g_u (xq rfl rfl) <| g_u (zY rfl rfl fa112_1 rfl rfl) <| g_u (zb rfl rfl tA28 tS28 rfl rfl) <| g_u (zE rfl rfl) <| zF <| zA <| zI ?_
  exact ⟨⟨(rfl : toAV (Al.look _ _) = some _).trans (congrArg some (by rfl)), rfl⟩, trivial⟩
set_option maxHeartbeats 4000000 in
theorem asB_c (c : Int) (l : List ByteArray) (x : AV) (hx : x.width = 1) : xj Tryz.prog Γ0 59 [.imm (eOf c l), .ifp 81 100001 0, refV (.pointer (some ⟨3, 81, none⟩)) 100002 (.int .u64 150), .imm (.v (.iface 159 (.agg #[(.pointer (some ⟨3, 79, none⟩))])))] [(100001, .box 79 (.imm x)), (100002, .box 81 (.ptr 100001 0))] (.imm (bv true)) [(100001, .box 79 (.imm (.cp (.agg [iv c])))), (100002, .box 81 (.ptr 100001 0))] := by
  have hX : Nat.beq (SV.width (.imm x)) 1 = true := by show Nat.beq x.width 1 = true; rw [hx]; rfl
  refine yV (rs := [.imm (bv true)]) Tryz.func59 rfl Tryz.ntmps59 (by kernel_rfl) rfl rfl rfl rfl rfl fun w0 I0 G0 E => ?_
  refine zC <| zB <| g_uG (s_box 1006 rfl rfl rfl rfl rfl rfl) rfl <| g_u (zE rfl rfl) <| zF <| zA <| zT ?_
  refine z4 (fun l : List ByteArray => [(0, .imm (eOf c l)), (1, .ifp 81 100001 0), (3, .imm (.v (.iface 159 (.agg #[(.pointer (some ⟨3, 79, none⟩))])))), (6, .ptr 1006 0), (1006, .box 121 (refV (.pointer (some ⟨3, 81, none⟩)) 100002 (.int .u64 150))), (100001, .box 79 (.imm x)), (100002, .box 81 (.ptr 100001 0))]) (fun _ => True) (fun l => l.length) (l) ?_ ⟨rfl, rfl, rfl, rfl, rfl, rfl, rfl, trivial⟩ ?_
  · trivial
  · rintro l -
    refine zT <| zC <| zC <| zB <| g_u (zD rfl rfl) <| g_u (s_extV rfl rfl (typeOf_e c _)) <| g_u (zD rfl rfl) <| g_u (s_inv1 rfl rfl rfl (asB_e _)) <| zF <| zA ?_
    refine zL rfl (fun hb1 => ?_) (fun hb1 => ?_)
    · obtain rfl : l = [] := List.isEmpty_iff.1 hb1
      refine zC <| zB <| g_u (yY rfl rfl rfl tA121 tS121 rfl rfl rfl) <| g_u (s_elemV rfl rfl rfl rfl rfl rfl rfl fE81) <| g_u (zD rfl rfl) <| g_uG (s_valueOfC 1023 rfl rfl rfl rfl rfl rfl fV79) rfl ?_
      refine g_u (s_setV rfl rfl rfl rfl rfl rfl (by first | rfl | exact hX) tS79 rfl rfl rfl rfl fS79) ?_
      refine zF <| zA <| zC <| zB <| g_u (zE rfl rfl) <| zF <| zA <| zI <| zP <| zd <| zP <| zd ?_
      exact ⟨⟨.inl ⟨_, rfl, ⟨(rfl : toAV (Al.look _ _) = some _).trans (congrArg some (by rfl)), rfl⟩⟩, trivial⟩, ⟨rfl, rfl, trivial⟩⟩
    · obtain ⟨p, ps, rfl⟩ : ∃ p ps, l = p :: ps := by cases l with | nil => exact absurd hb1 (by decide) | cons p ps => exact ⟨p, ps, rfl⟩
      refine zO <| zA <| zC <| zC <| zB <| g_u (zD rfl rfl) <| g_u (s_hasNo rfl rfl (hs110_163)) <| g_u (wn rfl rfl) <| g_u (zZ rfl rfl rfl rfl) <| g_u (zZ rfl rfl rfl rfl) <| g_u (zE rfl rfl) <| g_u (zE rfl rfl) <| zF <| zA <| zC <| zB <| g_u (zD rfl rfl) <| g_u (zD rfl rfl) <| zS rfl rfl rfl <| zS rfl rfl rfl <| zS rfl rfl rfl <| g_u (z2 rfl rfl rfl) <| zF <| zA <| zX rfl <| zO <| zA <| zC <| zB <| g_u (zD rfl rfl) <| zF <| zA <| zT <| zC <| zB <| g_u (s_hasYes rfl rfl (hs110_166)) <| g_u (zZ rfl rfl rfl rfl) <| g_u (zZ rfl rfl rfl rfl) <| zF <| zA <| z7 rfl <| zC <| zB <| g_u (zE rfl rfl) <| zF <| zA <| zC <| zB <| g_u (zD rfl rfl) <| g_u (s_invC (unwrap_c p c ps) rfl rfl mu110) <| g_u (zE rfl rfl) <| zF <| zA <| zC <| zB <| g_u (zD rfl rfl) <| g_u (s_eqNI' rfl rfl (xW _ _ _ _) rfl Tryz.underlying28) <| zF <| zA <| zX rfl <| zO <| zJ <| zJ <| zA ?_
      refine ⟨ps, trivial, ⟨rfl, rfl, rfl, rfl, rfl, rfl, rfl, trivial⟩, by simp⟩
set_option maxHeartbeats 4000000 in
theorem asW_c (c : Int) (p : ByteArray) (ps : List ByteArray) (x : AV) (hx : x.width = 1) : xj Tryz.prog Γ0 59 [.imm (eOf c (p :: ps)), .ifp 130 100001 0, refV (.pointer (some ⟨3, 130, none⟩)) 100002 (.int .u64 150), .imm (.v (.iface 159 (.agg #[(.pointer (some ⟨3, 110, none⟩))])))] [(100001, .box 110 (.imm x)), (100002, .box 130 (.ptr 100001 0))] (.imm (bv true)) [(100001, .box 110 (.imm (.cp (.agg [sv p, eOf c ps])))), (100002, .box 130 (.ptr 100001 0))] := by
  have hX : Nat.beq (SV.width (.imm x)) 1 = true := by show Nat.beq x.width 1 = true; rw [hx]; rfl
  refine yV (rs := [.imm (bv true)]) Tryz.func59 rfl Tryz.ntmps59 (by kernel_rfl) rfl rfl rfl rfl rfl fun w0 I0 G0 E => ?_
  refine zC <| zB <| g_uG (s_box 1006 rfl rfl rfl rfl rfl rfl) rfl <| g_u (zE rfl rfl) <| zF <| zA <| zT ?_
  refine z4 (fun l : List ByteArray => [(0, .imm (eOf c l)), (1, .ifp 130 100001 0), (3, .imm (.v (.iface 159 (.agg #[(.pointer (some ⟨3, 110, none⟩))])))), (6, .ptr 1006 0), (1006, .box 121 (refV (.pointer (some ⟨3, 130, none⟩)) 100002 (.int .u64 150))), (100001, .box 110 (.imm x)), (100002, .box 130 (.ptr 100001 0))]) (fun l => l = (p :: ps)) (fun l => l.length) ((p :: ps)) ?_ ⟨rfl, rfl, rfl, rfl, rfl, rfl, rfl, trivial⟩ ?_
  · rfl
  · rintro l rfl
    refine zT <| zC <| zC <| zB <| g_u (zD rfl rfl) <| g_u (s_extV rfl rfl (typeOf_e c _)) <| g_u (zD rfl rfl) <| g_u (s_inv1 rfl rfl rfl (asW_e _)) <| zF <| zA ?_
    refine zL rfl (fun hb1 => ?_) (fun hb1 => ?_)
    · refine zC ?_
      refine zB <| g_u (yY rfl rfl rfl tA121 tS121 rfl rfl rfl) <| g_u (s_elemV rfl rfl rfl rfl rfl rfl rfl fE130) <| g_u (zD rfl rfl) <| g_uG (s_valueOfC 1023 rfl rfl rfl rfl rfl rfl fV110) rfl ?_
      refine g_u (s_setV rfl rfl rfl rfl rfl rfl (by first | rfl | exact hX) tS110 rfl rfl rfl rfl fS110) ?_
      refine zF <| zA <| zC <| zB <| g_u (zE rfl rfl) <| zF <| zA <| zI <| zP <| zd <| zP <| zd ?_
      exact ⟨⟨.inl ⟨_, rfl, ⟨(rfl : toAV (Al.look _ _) = some _).trans (congrArg some (by rfl)), rfl⟩⟩, trivial⟩, ⟨rfl, rfl, trivial⟩⟩
    · exact killT hb1 ((by rfl))
set_option maxHeartbeats 4000000 in
theorem asW0_c (c : Int) (x : AV) : xj Tryz.prog Γ0 59 [.imm (eOf c []), .ifp 130 100001 0, refV (.pointer (some ⟨3, 130, none⟩)) 100002 (.int .u64 150), .imm (.v (.iface 159 (.agg #[(.pointer (some ⟨3, 110, none⟩))])))] [(100001, .box 110 (.imm x)), (100002, .box 130 (.ptr 100001 0))] (.imm (bv false)) [(100001, .box 110 (.imm x)), (100002, .box 130 (.ptr 100001 0))] := by
  refine yV (rs := [.imm (bv false)]) Tryz.func59 rfl Tryz.ntmps59 (by kernel_rfl) rfl rfl rfl rfl rfl fun w0 I0 G0 E => ?_
  refine zC <| zB <| g_uG (s_box 1006 rfl rfl rfl rfl rfl rfl) rfl <| g_u (zE rfl rfl) <| zF <| zA <| zT ?_
  refine z4 (fun l : List ByteArray => [(0, .imm (eOf c l)), (1, .ifp 130 100001 0), (3, .imm (.v (.iface 159 (.agg #[(.pointer (some ⟨3, 110, none⟩))])))), (6, .ptr 1006 0), (1006, .box 121 (refV (.pointer (some ⟨3, 130, none⟩)) 100002 (.int .u64 150))), (100001, .box 110 (.imm x)), (100002, .box 130 (.ptr 100001 0))]) (fun l => l = []) (fun l => l.length) ([]) ?_ ⟨rfl, rfl, rfl, rfl, rfl, rfl, rfl, trivial⟩ ?_
  · rfl
  · rintro l rfl
    refine zT <| zC <| zC <| zB <| g_u (zD rfl rfl) <| g_u (s_extV rfl rfl (typeOf_e c _)) <| g_u (zD rfl rfl) <| g_u (s_inv1 rfl rfl rfl (asW_e _)) <| zF <| zA ?_
    refine zL rfl (fun hb1 => ?_) (fun hb1 => ?_)
    · exact killF hb1 ((by rfl))
    · refine zO ?_
      refine zA <| zC <| zC <| zB <| g_u (zD rfl rfl) <| g_u (s_hasNo rfl rfl (hs79_163)) <| g_u (wn rfl rfl) <| g_u (zZ rfl rfl rfl rfl) <| g_u (zZ rfl rfl rfl rfl) <| g_u (zE rfl rfl) <| g_u (zE rfl rfl) <| zF <| zA <| zC <| zB <| g_u (zD rfl rfl) <| g_u (zD rfl rfl) <| zS rfl rfl rfl <| zS rfl rfl rfl <| zS rfl rfl rfl <| g_u (z2 rfl rfl rfl) <| zF <| zA <| zX rfl <| zO <| zA <| zC <| zB <| g_u (zD rfl rfl) <| zF <| zA <| zT <| zC <| zB <| g_u (s_hasNo rfl rfl (hs79_166)) <| g_u (zZ rfl rfl rfl rfl) <| g_u (zZ rfl rfl rfl rfl) <| zF <| zA <| zX rfl <| zC <| zB <| g_u (s_hasNo rfl rfl (hs79_168)) <| g_u (zZ rfl rfl rfl rfl) <| g_u (zZ rfl rfl rfl rfl) <| zF <| zA <| zX rfl <| zC <| zB <| g_u (zE rfl rfl) <| zF <| zA <| zC <| zB <| g_u (zE rfl rfl) <| zF <| zA <| zI <| zd <| zd <| zP <| zd ?_
      exact ⟨⟨.inl ⟨_, rfl, ⟨(rfl : toAV (Al.look _ _) = some _).trans (congrArg some (by rfl)), rfl⟩⟩, trivial⟩, ⟨rfl, rfl, trivial⟩⟩
set_option maxHeartbeats 4000000 in
theorem AsB_c (c : Int) (l : List ByteArray) (x : AV) (hx : x.width = 1) : xj Tryz.prog Γ0 34 [.imm (eOf c l), .ifp 81 100001 0] [(100001, .box 79 (.imm x))] (.imm (bv true)) [(100001, .box 79 (.imm (.cp (.agg [iv c]))))] := by
  refine yV (rs := [.imm (bv true)]) Tryz.func34 rfl Tryz.ntmps34 (by kernel_rfl) rfl rfl rfl rfl rfl fun w0 I0 G0 E => ?_
  refine zC <| zB <| g_u (zE rfl rfl) <| zF <| zA <| zC <| zC <| zB <| g_u (zD rfl rfl) <| g_u (s_eqNI' rfl rfl (xW _ _ _ _) rfl Tryz.underlying28) <| zF <| zA <| zX rfl <| zO <| zA <| zC <| zC <| zB <| g_u (y6 rfl rfl) <| g_u (s_eqNP rfl rfl rfl Tryz.underlying20) <| zF <| zA <| zX rfl <| zO <| zA <| zC <| zB <| g_u (y6 rfl rfl) <| g_uG (s_valueOfP 1014 rfl rfl rfl rfl rfl rfl rfl fV81) rfl <| g_uG (zx 1005 rfl rfl rfl tZ121) rfl <| g_u (s_store rfl rfl rfl rfl tS121 rfl rfl) <| zF <| zA <| zC <| zB <| g_u (yY rfl rfl rfl tA121 tS121 rfl rfl rfl) <| g_u (s_refRaw rfl rfl rfl rfl rfl fT81) <| g_u (zE rfl rfl) <| zF <| zA <| zC <| zC <| zB <| g_u (zD rfl rfl) <| g_u (s_inv0 rfl rfl (x7 (v := (.iface 159 (.agg #[(.pointer (some ⟨3, 81, none⟩))]))) rfl rfl fK81)) <| g_u (xi rfl rfl rfl) <| g_u (zD rfl rfl) <| yQ (t := 20) rfl ?_
  rintro (hb1 | hb1)
  · exact killF hb1 ((by rfl))
  · rw [hb1]
    refine zf rfl rfl (yY rfl rfl rfl tA121 tS121 rfl rfl rfl) <| zf rfl rfl (s_isNilV rfl rfl rfl rfl rfl fN81) <| g_u (z2 rfl rfl rfl) <| zF <| zA <| zX rfl <| zO <| zA <| zC <| zB <| g_u (zD rfl rfl) <| g_u (s_inv0 rfl rfl (x7 (v := (.iface 159 (.agg #[(.pointer (some ⟨3, 81, none⟩))]))) rfl rfl fL81)) <| g_u (zE rfl rfl) <| zF <| zA <| zC <| zC <| zB <| g_u (zD rfl rfl) <| g_u (s_inv0 rfl rfl (x7 (v := (.iface 159 (.agg #[(.pointer (some ⟨3, 79, none⟩))]))) rfl rfl fK79)) <| g_u (xi rfl rfl rfl) <| g_u (zD rfl rfl) <| yQ (t := 30) rfl ?_
    rintro (hb2 | hb2)
    · rw [hb2]
      refine zf rfl rfl (zD rfl rfl) <| zf rfl rfl (s_loadGlob rfl rfl rfl tA124 tS124) <| zf rfl rfl (s_inv1 rfl rfl rfl (inv1_raw (v := (.iface 159 (.agg #[(.pointer (some ⟨3, 79, none⟩))]))) (z := (.iface 159 (.agg #[(.pointer (some ⟨3, 28, none⟩))]))) rfl rfl rfl fI79)) <| zf rfl rfl (s_not rfl rfl) <| g_u (zo rfl rfl rfl) <| zF <| zA ?_
      refine zL rfl (fun hb3 => ?_) (fun hb3 => ?_)
      · exact killF hb3 ((by rfl))
      · refine zO ?_
        refine zA <| zC <| zB <| g_u (zD rfl rfl) <| g_u (y6 rfl rfl) <| g_u (yY rfl rfl rfl tA121 tS121 rfl rfl rfl) <| g_u (zD rfl rfl) <| g_uG (yi [(100001, 100001), (100002, 1014)] (asB_c c l x hx) rfl rfl ⟨.inl rfl, .inl rfl, .inl rfl, .inl rfl, trivial⟩ ⟨rfl, rfl, trivial⟩ rfl rfl rfl) rfl <| g_u (zE rfl rfl) <| zF <| zA <| zI ?_
        exact ⟨⟨.inl ⟨_, rfl, ⟨(rfl : toAV (Al.look _ _) = some _).trans (congrArg some (by rfl)), rfl⟩⟩, trivial⟩, ⟨rfl, trivial⟩⟩
    · exact killT hb2 ((by rfl))
set_option maxHeartbeats 4000000 in
theorem AsW_c (c : Int) (p : ByteArray) (ps : List ByteArray) (x : AV) (hx : x.width = 1) : xj Tryz.prog Γ0 34 [.imm (eOf c (p :: ps)), .ifp 130 100001 0] [(100001, .box 110 (.imm x))] (.imm (bv true)) [(100001, .box 110 (.imm (.cp (.agg [sv p, eOf c ps]))))] := by
  refine yV (rs := [.imm (bv true)]) Tryz.func34 rfl Tryz.ntmps34 (by kernel_rfl) rfl rfl rfl rfl rfl fun w0 I0 G0 E => ?_
  refine zC <| zB <| g_u (zE rfl rfl) <| zF <| zA <| zC <| zC <| zB <| g_u (zD rfl rfl) <| g_u (s_eqNI' rfl rfl (xW _ _ _ _) rfl Tryz.underlying28) <| zF <| zA <| zX rfl <| zO <| zA <| zC <| zC <| zB <| g_u (y6 rfl rfl) <| g_u (s_eqNP rfl rfl rfl Tryz.underlying20) <| zF <| zA <| zX rfl <| zO <| zA <| zC <| zB <| g_u (y6 rfl rfl) <| g_uG (s_valueOfP 1014 rfl rfl rfl rfl rfl rfl rfl fV130) rfl <| g_uG (zx 1005 rfl rfl rfl tZ121) rfl <| g_u (s_store rfl rfl rfl rfl tS121 rfl rfl) <| zF <| zA <| zC <| zB <| g_u (yY rfl rfl rfl tA121 tS121 rfl rfl rfl) <| g_u (s_refRaw rfl rfl rfl rfl rfl fT130) <| g_u (zE rfl rfl) <| zF <| zA <| zC <| zC <| zB <| g_u (zD rfl rfl) <| g_u (s_inv0 rfl rfl (x7 (v := (.iface 159 (.agg #[(.pointer (some ⟨3, 130, none⟩))]))) rfl rfl fK130)) <| g_u (xi rfl rfl rfl) <| g_u (zD rfl rfl) <| yQ (t := 20) rfl ?_
  rintro (hb1 | hb1)
  · exact killF hb1 ((by rfl))
  · rw [hb1]
    refine zf rfl rfl (yY rfl rfl rfl tA121 tS121 rfl rfl rfl) <| zf rfl rfl (s_isNilV rfl rfl rfl rfl rfl fN130) <| g_u (z2 rfl rfl rfl) <| zF <| zA <| zX rfl <| zO <| zA <| zC <| zB <| g_u (zD rfl rfl) <| g_u (s_inv0 rfl rfl (x7 (v := (.iface 159 (.agg #[(.pointer (some ⟨3, 130, none⟩))]))) rfl rfl fL130)) <| g_u (zE rfl rfl) <| zF <| zA <| zC <| zC <| zB <| g_u (zD rfl rfl) <| g_u (s_inv0 rfl rfl (x7 (v := (.iface 159 (.agg #[(.pointer (some ⟨3, 110, none⟩))]))) rfl rfl fK110)) <| g_u (xi rfl rfl rfl) <| g_u (zD rfl rfl) <| yQ (t := 30) rfl ?_
    rintro (hb2 | hb2)
    · rw [hb2]
      refine zf rfl rfl (zD rfl rfl) <| zf rfl rfl (s_loadGlob rfl rfl rfl tA124 tS124) <| zf rfl rfl (s_inv1 rfl rfl rfl (inv1_raw (v := (.iface 159 (.agg #[(.pointer (some ⟨3, 110, none⟩))]))) (z := (.iface 159 (.agg #[(.pointer (some ⟨3, 28, none⟩))]))) rfl rfl rfl fI110)) <| zf rfl rfl (s_not rfl rfl) <| g_u (zo rfl rfl rfl) <| zF <| zA ?_
      refine zL rfl (fun hb3 => ?_) (fun hb3 => ?_)
      · exact killF hb3 ((by rfl))
      · refine zO ?_
        refine zA <| zC <| zB <| g_u (zD rfl rfl) <| g_u (y6 rfl rfl) <| g_u (yY rfl rfl rfl tA121 tS121 rfl rfl rfl) <| g_u (zD rfl rfl) <| g_uG (yi [(100001, 100001), (100002, 1014)] (asW_c c p ps x hx) rfl rfl ⟨.inl rfl, .inl rfl, .inl rfl, .inl rfl, trivial⟩ ⟨rfl, rfl, trivial⟩ rfl rfl rfl) rfl <| g_u (zE rfl rfl) <| zF <| zA <| zI ?_
        exact ⟨⟨.inl ⟨_, rfl, ⟨(rfl : toAV (Al.look _ _) = some _).trans (congrArg some (by rfl)), rfl⟩⟩, trivial⟩, ⟨rfl, trivial⟩⟩
    · exact killT hb2 ((by rfl))
set_option maxHeartbeats 4000000 in
theorem AsW0_c (c : Int) (x : AV) : xj Tryz.prog Γ0 34 [.imm (eOf c []), .ifp 130 100001 0] [(100001, .box 110 (.imm x))] (.imm (bv false)) [(100001, .box 110 (.imm x))] := by
  refine yV (rs := [.imm (bv false)]) Tryz.func34 rfl Tryz.ntmps34 (by kernel_rfl) rfl rfl rfl rfl rfl fun w0 I0 G0 E => ?_
  refine zC <| zB <| g_u (zE rfl rfl) <| zF <| zA <| zC <| zC <| zB <| g_u (zD rfl rfl) <| g_u (s_eqNI' rfl rfl (xW _ _ _ _) rfl Tryz.underlying28) <| zF <| zA <| zX rfl <| zO <| zA <| zC <| zC <| zB <| g_u (y6 rfl rfl) <| g_u (s_eqNP rfl rfl rfl Tryz.underlying20) <| zF <| zA <| zX rfl <| zO <| zA <| zC <| zB <| g_u (y6 rfl rfl) <| g_uG (s_valueOfP 1014 rfl rfl rfl rfl rfl rfl rfl fV130) rfl <| g_uG (zx 1005 rfl rfl rfl tZ121) rfl <| g_u (s_store rfl rfl rfl rfl tS121 rfl rfl) <| zF <| zA <| zC <| zB <| g_u (yY rfl rfl rfl tA121 tS121 rfl rfl rfl) <| g_u (s_refRaw rfl rfl rfl rfl rfl fT130) <| g_u (zE rfl rfl) <| zF <| zA <| zC <| zC <| zB <| g_u (zD rfl rfl) <| g_u (s_inv0 rfl rfl (x7 (v := (.iface 159 (.agg #[(.pointer (some ⟨3, 130, none⟩))]))) rfl rfl fK130)) <| g_u (xi rfl rfl rfl) <| g_u (zD rfl rfl) <| yQ (t := 20) rfl ?_
  rintro (hb1 | hb1)
  · exact killF hb1 ((by rfl))
  · rw [hb1]
    refine zf rfl rfl (yY rfl rfl rfl tA121 tS121 rfl rfl rfl) <| zf rfl rfl (s_isNilV rfl rfl rfl rfl rfl fN130) <| g_u (z2 rfl rfl rfl) <| zF <| zA <| zX rfl <| zO <| zA <| zC <| zB <| g_u (zD rfl rfl) <| g_u (s_inv0 rfl rfl (x7 (v := (.iface 159 (.agg #[(.pointer (some ⟨3, 130, none⟩))]))) rfl rfl fL130)) <| g_u (zE rfl rfl) <| zF <| zA <| zC <| zC <| zB <| g_u (zD rfl rfl) <| g_u (s_inv0 rfl rfl (x7 (v := (.iface 159 (.agg #[(.pointer (some ⟨3, 110, none⟩))]))) rfl rfl fK110)) <| g_u (xi rfl rfl rfl) <| g_u (zD rfl rfl) <| yQ (t := 30) rfl ?_
    rintro (hb2 | hb2)
    · rw [hb2]
      refine zf rfl rfl (zD rfl rfl) <| zf rfl rfl (s_loadGlob rfl rfl rfl tA124 tS124) <| zf rfl rfl (s_inv1 rfl rfl rfl (inv1_raw (v := (.iface 159 (.agg #[(.pointer (some ⟨3, 110, none⟩))]))) (z := (.iface 159 (.agg #[(.pointer (some ⟨3, 28, none⟩))]))) rfl rfl rfl fI110)) <| zf rfl rfl (s_not rfl rfl) <| g_u (zo rfl rfl rfl) <| zF <| zA ?_
      refine zL rfl (fun hb3 => ?_) (fun hb3 => ?_)
      · exact killF hb3 ((by rfl))
      · refine zO ?_
        refine zA <| zC <| zB <| g_u (zD rfl rfl) <| g_u (y6 rfl rfl) <| g_u (yY rfl rfl rfl tA121 tS121 rfl rfl rfl) <| g_u (zD rfl rfl) <| g_uG (yi [(100001, 100001), (100002, 1014)] (asW0_c c x) rfl rfl ⟨.inl rfl, .inl rfl, .inl rfl, .inl rfl, trivial⟩ ⟨rfl, rfl, trivial⟩ rfl rfl rfl) rfl <| g_u (zE rfl rfl) <| zF <| zA <| zI ?_
        exact ⟨⟨.inl ⟨_, rfl, ⟨(rfl : toAV (Al.look _ _) = some _).trans (congrArg some (by rfl)), rfl⟩⟩, trivial⟩, ⟨rfl, trivial⟩⟩
    · exact killT hb2 ((by rfl))
theorem AsBn_c (x : AV) : xj Tryz.prog Γ0 34 [.imm (.v .nilIface), .ifp 81 100001 0] [(100001, .box 79 (.imm x))] (.imm (bv false)) [(100001, .box 79 (.imm x))] := by
  refine yV (rs := [.imm (bv false)]) Tryz.func34 rfl Tryz.ntmps34 (by kernel_rfl) rfl rfl rfl rfl rfl fun w0 I0 G0 E => ?_
  refine zC <| zB <| g_u (zE rfl rfl) <| zF <| zA <| zC <| zC <| zB <| g_u (zD rfl rfl) <| g_u (s_eqNN rfl rfl Tryz.underlying28) <| zF <| zA <| z7 rfl <| zC <| zB <| g_u (zE rfl rfl) <| zF <| zA <| zI <| zP ?_
  exact ⟨⟨.inl ⟨_, rfl, ⟨(rfl : toAV (Al.look _ _) = some _).trans (congrArg some (by rfl)), rfl⟩⟩, trivial⟩, ⟨rfl, trivial⟩⟩
theorem foP_c (c : Int) (l : List ByteArray) : zg Tryz.prog Γ0 11 [eOf c l] [iv c] := by
  refine zU Tryz.func11 rfl Tryz.ntmps11 (by kernel_rfl) rfl fun w0 I0 G0 => ?_
  refine zC <| zB <| g_u (zE rfl rfl) <| zF <| zA <| zC <| zB <| g_uG (zx 1003 rfl rfl rfl tZ79) rfl <| zF <| zA <| zC <| zC <| zB <| g_u (zD rfl rfl) <| g_u (s_makeIfp rfl rfl nI81) <| g_uG (yi [(100001, 1003)] (AsB_c c l z79 rfl) rfl rfl ⟨.inl rfl, .inl rfl, trivial⟩ ⟨rfl, trivial⟩ rfl rfl rfl) rfl <| zF <| zA <| z7 rfl <| zC <| zB <| g_u (zG rfl rfl rfl tA79 tS79 rfl rfl) <| g_u (xq rfl rfl) <| g_u (zY rfl rfl fa83_0 rfl rfl) <| g_u (zb rfl rfl tA30 tS30 rfl rfl) <| g_u (zE rfl rfl) <| zF <| zA <| zI <| zP ?_
  exact ⟨⟨(rfl : toAV (Al.look _ _) = some _).trans (congrArg some (by rfl)), rfl⟩, trivial⟩
theorem foN_c : zg Tryz.prog Γ0 11 [.v .nilIface] [iv 0] := by
  refine zU Tryz.func11 rfl Tryz.ntmps11 (by kernel_rfl) rfl fun w0 I0 G0 => ?_
  refine zC <| zB <| g_u (zE rfl rfl) <| zF <| zA <| zC <| zB <| g_uG (zx 1003 rfl rfl rfl tZ79) rfl <| zF <| zA <| zC <| zC <| zB <| g_u (zD rfl rfl) <| g_u (s_makeIfp rfl rfl nI81) <| g_uG (yi [(100001, 1003)] (AsBn_c z79) rfl rfl ⟨.inl rfl, .inl rfl, trivial⟩ ⟨rfl, trivial⟩ rfl rfl rfl) rfl <| zF <| zA <| zX rfl <| zO <| zA <| zC <| zB <| g_u (zE rfl rfl) <| zF <| zA <| zI ?_
  exact ⟨⟨(rfl : toAV (Al.look _ _) = some _).trans (congrArg some (by rfl)), rfl⟩, trivial⟩
theorem fof_c (c : Int) (l : List ByteArray) : zg Tryz.prog Γ0 11 [eM (c, l)] [iv c] := by
  by_cases h : c = 0
  · rw [show eM (c, l) = _ from xY (f := (c, l)) h, h]; exact foN_c
  · rw [show eM (c, l) = _ from wm (f := (c, l)) h]; exact foP_c c l
set_option maxHeartbeats 4000000 in
theorem fpP_c (c : Int) (l0 : List ByteArray) (hl : l0.length ≤ 1000000) : zg Tryz.prog Γ0 35 [eOf c l0] [.sl 1 (l0.map fun x => sv x)] := by
  refine zU Tryz.func35 rfl Tryz.ntmps35 (by kernel_rfl) rfl fun w0 I0 G0 => ?_
  refine zC <| zB <| g_u (zE rfl rfl) <| zF <| zA <| zC <| zB <| g_u (zE rfl rfl) <| zF <| zA <| zC <| aw_newtok 3003 3 1 rfl rfl rfl rfl <| zB <| g_uG (zx 1004 rfl rfl rfl tZ110) rfl <| zF <| zA <| zC <| zT ?_
  refine z4 (fun j : Nat × List ByteArray × AV => [(0, .imm (eOf c j.2.1)), (3, .slg 3003 1 ((l0.take j.1).map fun x => sv x)), (3003, .tok 1 ((l0.take j.1).map fun x => sv x)), (4, .ptr 1004 0), (1004, .box 110 (.imm j.2.2))]) (fun j => j.1 ≤ l0.length ∧ j.2.1 = l0.drop j.1 ∧ j.2.2.width = 1) (fun j => j.2.1.length) (⟨0, l0, z110⟩) ?_ ⟨rfl, rfl, rfl, rfl, rfl, trivial⟩ ?_
  · exact ⟨Nat.zero_le _, rfl, rfl⟩
  · rintro ⟨k, l, x⟩ ⟨h1, h2, h3⟩; dsimp only at h1 h2 h3
    refine zC <| zC ?_
    rcases l with _ | ⟨p, ps⟩
    · refine zB ?_
      refine g_u (zD rfl rfl) <| g_u (s_makeIfp rfl rfl nI130) <| g_uG (yi [(100001, 1004)] (AsW0_c c x) rfl rfl ⟨.inl rfl, .inl rfl, trivial⟩ ⟨rfl, trivial⟩ rfl rfl rfl) rfl <| zF <| zA <| zX rfl <| yJ <| ze <| ze <| z8 <| zA <| zC <| zB <| g_u (yG rfl rfl) <| g_u (yI rfl rfl) <| zF <| zA <| zI ?_
      exact ⟨⟨(rfl : toAV (Al.look _ _) = some _).trans (congrArg some (by (have hk0 : l0.length ≤ k := (by have e := congrArg List.length h2; simp only [List.length_nil, List.length_drop] at e; omega); show AV.sl 1 (List.map _ (List.take k l0)) = _; rw [List.take_of_length_le hk0]))), rfl⟩, trivial⟩
    · refine zB ?_
      refine g_u (zD rfl rfl) <| g_u (s_makeIfp rfl rfl nI130) <| g_uG (yi [(100001, 1004)] (AsW_c c p ps x h3) rfl rfl ⟨.inl rfl, .inl rfl, trivial⟩ ⟨rfl, trivial⟩ rfl rfl rfl) rfl <| zF <| zA <| z7 rfl <| zO <| zA <| zT <| zC <| zB <| g_u (yG rfl rfl) <| g_u (zG rfl rfl rfl tA110 tS110 rfl rfl) <| g_u (xq rfl rfl) <| g_u (zY rfl rfl fa112_0 rfl rfl) <| g_u (zb rfl rfl tA9 tS9 rfl rfl) <| g_u (zt (X0 := z9) rfl Tryz.underlying31 tS9 tZ9 rfl rfl rfl rfl rfl rfl rfl rfl) ?_
      refine g_u (xD rfl rfl rfl rfl rfl Tryz.underlying31 Tryz.underlying31 tS9 zv9 rfl (by decide) by9 (by (try dsimp only); simp only [List.length_append, List.length_cons, List.length_nil, List.length_map, List.length_take]; omega) (by (try dsimp only); simp only [List.length_append, List.length_cons, List.length_nil, List.length_map, List.length_take]; omega)) ?_
      refine g_u (yI rfl rfl) <| zF <| zA <| zB <| g_u (zG rfl rfl rfl tA110 tS110 rfl rfl) <| g_u (xq rfl rfl) <| g_u (zY rfl rfl fa112_1 rfl rfl) <| g_u (zb rfl rfl tA28 tS28 rfl rfl) <| g_u (zE rfl rfl) <| zF <| zJ <| zA ?_
      have hk : k < l0.length := by have e := congrArg List.length h2; simp only [List.length_cons, List.length_drop] at e; omega
      have ed := x9 (d := (⟨#[]⟩ : ByteArray)) hk
      rw [← h2] at ed
      have ep := (List.cons.inj ed).1
      have et : ((l0.take (k + 1)).map fun x => sv x) = ((l0.take k).map fun x => sv x) ++ [sv p] := by rw [yf (wY (d := (⟨#[]⟩ : ByteArray)) hk), List.map_append, ← ep]; rfl
      refine ⟨⟨k + 1, ps, .cp (.agg [sv p, eOf c ps])⟩, ⟨hk, (List.cons.inj ed).2, rfl⟩, ⟨rfl, look_slg rfl et.symm, wj rfl et.symm, rfl, rfl, trivial⟩, by (try dsimp only); simp⟩
theorem pathB_mono (l : List ByteArray) (i : Nat) : (xQ (l.take i)).length ≤ (xQ l).length := by
  conv => rhs; rw [← List.take_append_drop i l]
  rw [pathB_app, List.length_append]; omega
theorem path_step {l : List ByteArray} {i : Nat} (h : i < l.length) : yC (xQ (l.take (i + 1))) = yC (xQ (l.take i)) ++ (nth l i ⟨#[]⟩ ++ ⟨#[58, 32]⟩) := by
  rw [pathB_take h, ← yy, ← yy, strOf_lst]; rfl
set_option maxHeartbeats 4000000 in
theorem ftP_c (c : Int) (l : List ByteArray) (h0 : c ≠ 0) (hl : l.length ≤ 1000000) (hs : (xQ l).length ≤ 9000000000000000000) (hc : -9223372036854775808 ≤ c ∧ c < 9223372036854775808) : zg Tryz.prog Γ0 12 [eOf c l] [sv (textF (c, l))] := by
  refine zU Tryz.func12 rfl Tryz.ntmps12 (by kernel_rfl) rfl fun w0 I0 G0 => ?_
  refine zC <| zB <| g_u (zE rfl rfl) <| zF <| zA <| zC <| zC <| zB <| g_u (zD rfl rfl) <| g_u (s_eqNI' rfl rfl (xW _ _ _ _) rfl Tryz.underlying28) <| zF <| zA <| zX rfl <| zO <| zA <| zC <| zB <| g_u (zE rfl rfl) <| zF <| zA <| zC <| zC <| zB <| g_u (zD rfl rfl) <| g_u (zQ (fpP_c c l hl) rfl rfl) <| g_u (yM rfl rfl Tryz.underlying31) <| g_u (zD rfl rfl) <| zF <| zA <| zT ?_
  refine z4 (fun i : Nat => [(0, .imm (eOf c l)), (3, .imm (sv (yC (xQ (l.take i))))), (9, .imm (.sl 1 (l.map fun x => sv x))), (10, .imm (iv (l.length : Int))), (11, .imm (iv (i : Int)))]) (fun i => i ≤ l.length) (fun i => l.length - i) (0) ?_ ⟨rfl, rfl, rfl, z_ rfl (by rw [List.length_map]), rfl, trivial⟩ ?_
  · exact Nat.zero_le _
  · rintro i h1; have h1 : i ≤ l.length := h1
    refine zC <| zB <| g_u (yh rfl rfl rfl) <| zF <| zA <| zC ?_
    refine zL rfl (fun hb1 => ?_) (fun hb1 => ?_)
    · have hi : i < l.length := by have := of_decide_eq_true hb1; (try simp only [List.length_map] at this); omega
      have hq : (xQ (l.take i)).length + (nth l i ⟨#[]⟩).size + 2 ≤ 9000000000000000000 := by have q := pathB_take hi; have q2 := congrArg List.length q; have q3 := pathB_mono l (i + 1); simp only [List.length_append, List.length_cons, List.length_nil, yE] at q2; omega
      refine zO <| zA <| zC <| zT <| zC <| zB ?_
      refine g_u (zq rfl rfl rfl Tryz.underlying31 tS9 (by omega) (ixStr hi)) ?_
      refine g_u (zb rfl rfl tA9 tS9 rfl rfl) <| g_u (zE rfl rfl) <| zF <| zA <| zB <| g_u (zD rfl rfl) <| g_u (zD rfl rfl) ?_
      refine g_u (s_catS rfl rfl rfl (by first | exact (by show _ ≤ (9223372036854775807 : Int); have q1 := hq; have q2 : (ByteArray.mk #[58, 32]).size = 2 := rfl; have q3 : (yC (xQ (l.take i))).size = (xQ (l.take i)).length := zk _; (try dsimp only); (try simp only [yX]); omega) | exact (by show _ ≤ (9223372036854775807 : Int); have q1 := wV c; have q3 : (yC (xQ (l.take i))).size = (xQ (l.take i)).length := zk _; have q4 : (yC (decB c)).size = (decB c).length := zk _; have q5 : (yC ([] ++ decB c)).size = (decB c).length := zk _; rw [hin, List.take_length] at q3; (try dsimp only); (try simp only [yX]); (try rw [hin, List.take_length]); omega))) ?_
      refine g_u (s_catS rfl rfl rfl (by first | exact (by show _ ≤ (9223372036854775807 : Int); have q1 := hq; have q2 : (ByteArray.mk #[58, 32]).size = 2 := rfl; have q3 : (yC (xQ (l.take i))).size = (xQ (l.take i)).length := zk _; (try dsimp only); (try simp only [yX]); omega) | exact (by show _ ≤ (9223372036854775807 : Int); have q1 := wV c; have q3 : (yC (xQ (l.take i))).size = (xQ (l.take i)).length := zk _; have q4 : (yC (decB c)).size = (decB c).length := zk _; have q5 : (yC ([] ++ decB c)).size = (decB c).length := zk _; rw [hin, List.take_length] at q3; (try dsimp only); (try simp only [yX]); (try rw [hin, List.take_length]); omega))) ?_
      refine g_u (zE rfl rfl) <| zF <| zJ <| zA <| zB <| g_u (z6 rfl rfl rfl) <| g_u (zD rfl rfl) <| zF <| zA ?_
      have et := path_step hi
      refine ⟨i + 1, hi, ⟨rfl, (by rw [et]; rfl), rfl, rfl, z_ rfl (by rw [zR (by omega) (by omega)]; rfl), trivial⟩, by (try dsimp only); omega⟩
    · have hin : i = l.length := by have := of_decide_eq_false hb1; (try simp only [List.length_map] at this); omega
      refine yJ <| ze <| ze <| z8 <| zA <| zC <| zB <| g_u (zD rfl rfl) <| g_u (zD rfl rfl) <| g_u (zQ (foP_c c l) rfl rfl) ?_
      refine g_u (zQ (nil1 (n := 1) (dput_c [] c hc (by simp))) rfl rfl) ?_
      refine g_u (s_cvBS' (rfl) rfl rfl Tryz.underlying85 Tryz.underlying9 Tryz.underlying5) ?_
      refine g_u (s_catS rfl rfl rfl (by first | exact (by show _ ≤ (9223372036854775807 : Int); have q1 := hq; have q2 : (ByteArray.mk #[58, 32]).size = 2 := rfl; have q3 : (yC (xQ (l.take i))).size = (xQ (l.take i)).length := zk _; (try dsimp only); (try simp only [yX]); omega) | exact (by show _ ≤ (9223372036854775807 : Int); have q1 := wV c; have q3 : (yC (xQ (l.take i))).size = (xQ (l.take i)).length := zk _; have q4 : (yC (decB c)).size = (decB c).length := zk _; have q5 : (yC ([] ++ decB c)).size = (decB c).length := zk _; rw [hin, List.take_length] at q3; (try dsimp only); (try simp only [yX]); (try rw [hin, List.take_length]); omega))) ?_
      refine g_u (zE rfl rfl) <| zF <| zA <| zI ?_
      exact ⟨⟨(rfl : toAV (Al.look _ _) = some _).trans (congrArg some (by (rw [hin, List.take_length]; show _ = sv (if c = 0 then _ else _); rw [if_neg h0, ← yy]; rfl))), rfl⟩, trivial⟩
theorem ftN_c : zg Tryz.prog Γ0 12 [.v .nilIface] [sv ⟨#[]⟩] := by
  refine zU Tryz.func12 rfl Tryz.ntmps12 (by kernel_rfl) rfl fun w0 I0 G0 => ?_
  refine zC <| zB <| g_u (zE rfl rfl) <| zF <| zA <| zC <| zC <| zB <| g_u (zD rfl rfl) <| g_u (s_eqNN rfl rfl Tryz.underlying28) <| zF <| zA <| z7 rfl <| zC <| zB <| g_u (zE rfl rfl) <| zF <| zA <| zI <| zP ?_
  exact ⟨⟨(rfl : toAV (Al.look _ _) = some _).trans (congrArg some (by rfl)), rfl⟩, trivial⟩
theorem ftext_c (c : Int) (l : List ByteArray) (hl : l.length ≤ 1000000) (hs : (xQ l).length ≤ 9000000000000000000) (hc : -9223372036854775808 ≤ c ∧ c < 9223372036854775808) : zg Tryz.prog Γ0 12 [eM (c, l)] [sv (textF (c, l))] := by
  by_cases h : c = 0
  · rw [show eM (c, l) = _ from xY (f := (c, l)) h, show textF (c, l) = ⟨#[]⟩ from if_pos h]; exact ftN_c
  · rw [show eM (c, l) = _ from wm (f := (c, l)) h]; exact ftP_c c l h hl hs hc
end Go.Proofs
namespace Go.Proofs
open Go Go.Al
set_option maxRecDepth 10000
theorem bareIs_c (c k : Int) : xj Tryz.prog Γ0 245 [.imm (.cp (.agg [iv c])), .ifp 79 100001 0] [(100001, .box 83 (.imm (.agg [iv k])))] (.imm (bv (k == c))) [(100001, .box 83 (.imm (.agg [iv k])))] := by
  refine yV (rs := [(.imm (bv (k == c)))]) Tryz.func245 rfl Tryz.ntmps245 (by kernel_rfl) rfl rfl rfl rfl rfl fun w0 I0 G0 E => ?_
  refine zC <| zB <| g_u (zE rfl rfl) <| zF <| zA <| zC <| zB <| g_u (y6 rfl rfl) <| g_u (s_assertP rfl rfl nI79) <| g_u (wn rfl rfl) <| g_u (zZ rfl rfl rfl rfl) <| g_u (zZ rfl rfl rfl rfl) <| g_u (s_as_ptr rfl rfl) <| g_u (zE rfl rfl) <| zF <| zA <| zC <| wH mixed <| g_u (zD rfl rfl) <| g_u (zD rfl rfl) <| zf rfl rfl (s_mv_ptr rfl rfl) <| zf rfl rfl (s_nePN rfl rfl rfl Tryz.underlying79) <| g_u (zo rfl rfl rfl) <| g_u (zD rfl rfl) <| zf rfl rfl (s_mv_ptr rfl rfl) <| zf rfl rfl (s_nilCheck_ptr rfl rfl) <| zf rfl rfl (zH rfl rfl fa83_0 rfl) <| zf rfl rfl (zG rfl rfl rfl tA30 tS30 rfl rfl) <| zf rfl rfl (zD rfl rfl) <| zf rfl rfl (xq rfl rfl) <| zf rfl rfl (zY rfl rfl fa83_0 rfl rfl) <| zf rfl rfl (zb rfl rfl tA30 tS30 rfl rfl) <| zf rfl rfl (yR rfl rfl rfl) <| g_u (zo rfl rfl rfl) <| g_u (zE rfl rfl) ?_
  refine zF ⟨by kernel_rfl, ?_⟩
  refine zA <| zI ?_
  exact ⟨⟨.inl ⟨_, rfl, ⟨(rfl : toAV (Al.look _ _) = some _).trans (congrArg some (by rfl)), rfl⟩⟩, trivial⟩, ⟨rfl, trivial⟩⟩
set_option maxHeartbeats 4000000 in
theorem eis_c (c k : Int) (l0 : List ByteArray) : xj Tryz.prog Γ0 64 [.imm (eOf c l0), .ifp 79 100001 0, .imm (bv true)] [(100001, .box 83 (.imm (.agg [iv k])))] (.imm (bv (k == c))) [(100001, .box 83 (.imm (.agg [iv k])))] := by
  refine yV (rs := [(.imm (bv (k == c)))]) Tryz.func64 rfl Tryz.ntmps64 (by kernel_rfl) rfl rfl rfl rfl rfl fun w0 I0 G0 E => ?_
  refine zC <| zB <| g_u (zE rfl rfl) <| zF <| zA <| zT ?_
  refine z4 (fun l : List ByteArray => [(0, .imm (eOf c l)), (1, .ifp 79 100001 0), (2, .imm (bv true)), (100001, .box 83 (.imm (.agg [iv k])))]) (fun _ => True) (fun l => l.length) (l0) ?_ ⟨rfl, rfl, rfl, rfl, trivial⟩ ?_
  · trivial
  · rintro l -
    refine zT <| zC <| zC <| zB <| g_u (zD rfl rfl) <| g_u (zD rfl rfl) <| zf rfl rfl (zD rfl rfl) <| zf rfl rfl (y6 rfl rfl) ?_
    refine zf rfl rfl (s_eqIP rfl rfl rfl rfl (by first | rfl | exact errB_w _ _ _ _) rfl Tryz.underlying28 Tryz.underlying79 pi79) ?_
    refine g_u (zo rfl rfl rfl) <| zF <| zA <| zX rfl <| zO <| zA <| zC <| zC ?_
    rcases l with _ | ⟨p, ps⟩
    · refine zB ?_
      refine g_u (zD rfl rfl) <| g_u (s_hasYes rfl rfl (hs79_172)) <| g_u (wn rfl rfl) <| g_u (zZ rfl rfl rfl rfl) <| g_u (zZ rfl rfl rfl rfl) <| g_u (zE rfl rfl) <| g_u (zE rfl rfl) <| zF <| zA <| zC <| zB <| g_u (zD rfl rfl) <| g_u (zD rfl rfl) <| zf rfl rfl (zD rfl rfl) <| zf rfl rfl (y6 rfl rfl) <| g_runG rfl rfl (s_mcallM [(100001, 100001)] (bareIs_c c k) mi79 rfl rfl rfl ⟨.inl rfl, .inl rfl, trivial⟩ ⟨rfl, trivial⟩ rfl rfl rfl) rfl <| g_u (zo rfl rfl rfl) <| zF <| zA ?_
      refine zL rfl (fun hb1 => ?_) (fun hb1 => ?_)
      · have q : (k == c) = true := hb1
        refine zC <| zB <| g_u (zE rfl rfl) <| zF <| zA <| zI <| zP <| zd <| zP <| zd ?_
        exact ⟨⟨.inl ⟨_, rfl, ⟨(rfl : toAV (Al.look _ _) = some _).trans (congrArg some (by (rw [q]))), rfl⟩⟩, trivial⟩, ⟨rfl, trivial⟩⟩
      · have q : (k == c) = false := hb1
        refine zO <| zA <| zC <| zB <| g_u (zD rfl rfl) <| zF <| zA <| zT <| zC <| zB <| g_u (s_hasNo rfl rfl (hs79_166)) <| g_u (zZ rfl rfl rfl rfl) <| g_u (zZ rfl rfl rfl rfl) <| zF <| zA <| zX rfl <| zC <| zB <| g_u (s_hasNo rfl rfl (hs79_168)) <| g_u (zZ rfl rfl rfl rfl) <| g_u (zZ rfl rfl rfl rfl) <| zF <| zA <| zX rfl <| zC <| zB <| g_u (zE rfl rfl) <| zF <| zA <| zC <| zB <| g_u (zE rfl rfl) <| zF <| zA <| zI <| zd <| zd <| zP <| zd ?_
        exact ⟨⟨.inl ⟨_, rfl, ⟨(rfl : toAV (Al.look _ _) = some _).trans (congrArg some (by (rw [q]))), rfl⟩⟩, trivial⟩, ⟨rfl, trivial⟩⟩
    · refine zB ?_
      refine g_u (zD rfl rfl) <| g_u (s_hasNo rfl rfl (hs110_172)) <| g_u (wn rfl rfl) <| g_u (zZ rfl rfl rfl rfl) <| g_u (zZ rfl rfl rfl rfl) <| g_u (zE rfl rfl) <| g_u (zE rfl rfl) <| zF <| zA <| zC <| zB <| g_u (zD rfl rfl) <| g_u (zD rfl rfl) <| zS rfl rfl rfl <| zS rfl rfl rfl <| zS rfl rfl rfl <| g_u (z2 rfl rfl rfl) <| zF <| zA <| zX rfl <| zO <| zA <| zC <| zB <| g_u (zD rfl rfl) <| zF <| zA <| zT <| zC <| zB <| g_u (s_hasYes rfl rfl (hs110_166)) <| g_u (zZ rfl rfl rfl rfl) <| g_u (zZ rfl rfl rfl rfl) <| zF <| zA <| z7 rfl <| zC <| zB <| g_u (zE rfl rfl) <| zF <| zA <| zC <| zB <| g_u (zD rfl rfl) <| g_u (s_invC (unwrap_c p c ps) rfl rfl mu110) <| g_u (zE rfl rfl) <| zF <| zA <| zC <| zB <| g_u (zD rfl rfl) <| g_u (s_eqNI' rfl rfl (xW _ _ _ _) rfl Tryz.underlying28) <| zF <| zA <| zX rfl <| zO <| zJ <| zJ <| zA ?_
      refine ⟨ps, trivial, ⟨rfl, rfl, rfl, rfl, trivial⟩, by simp⟩
set_option maxHeartbeats 4000000 in
theorem eIs_c (c k : Int) (l : List ByteArray) : xj Tryz.prog Γ0 38 [.imm (eOf c l), .ifp 79 100001 0] [(100001, .box 83 (.imm (.agg [iv k])))] (.imm (bv (k == c))) [(100001, .box 83 (.imm (.agg [iv k])))] := by
  refine yV (rs := [(.imm (bv (k == c)))]) Tryz.func38 rfl Tryz.ntmps38 (by kernel_rfl) rfl rfl rfl rfl rfl fun w0 I0 G0 E => ?_
  refine zC <| zB <| g_u (zE rfl rfl) <| zF <| zA <| zC <| zC <| zB <| g_u (zD rfl rfl) <| g_u (s_eqNI' rfl rfl (xW _ _ _ _) rfl Tryz.underlying28) <| g_u (zD rfl rfl) <| zf rfl rfl (y6 rfl rfl) <| zf rfl rfl (s_eqNP rfl rfl rfl Tryz.underlying28) <| g_u (z2 rfl rfl rfl) <| zF <| zA <| zX rfl <| zO <| zA <| zC <| zB <| g_u (y6 rfl rfl) <| g_u (s_extP rfl rfl rfl fO79) <| g_u (s_inv0 rfl rfl (x7 (v := (.iface 159 (.agg #[(.pointer (some ⟨3, 79, none⟩))]))) rfl rfl fC79)) <| g_u (zE rfl rfl) <| zF <| zA <| zC <| zB <| g_u (zD rfl rfl) <| g_u (y6 rfl rfl) <| g_u (zD rfl rfl) <| g_uG (yi [(100001, 100001)] (eis_c c k l) rfl rfl ⟨.inl rfl, .inl rfl, .inl rfl, trivial⟩ ⟨rfl, trivial⟩ rfl rfl rfl) rfl <| g_u (zE rfl rfl) <| zF <| zA <| zI ?_
  exact ⟨⟨.inl ⟨_, rfl, ⟨(rfl : toAV (Al.look _ _) = some _).trans (congrArg some (by rfl)), rfl⟩⟩, trivial⟩, ⟨rfl, trivial⟩⟩
end Go.Proofs
namespace Go.Al
open Go.RowKit
section
variable {C : Cx} {A : Nat → SV} {d : Nat} {ty : TypeId} {pos : String} {af : Array Edge} {gd : Option (Nat × Bool)} {x y : Operand} {T T' : TypeId}
open Go.Proofs in
theorem s_neM {Tb Tw : Nat} {f : Fl} {p : Array (String × TypeId)} (hN : Nat.blt d C.N = true) (hx : opV A x = some (errM Tb Tw f)) (hT : C.P.underlying T = some (.interface p)) :
    zW C ⟨some d, .binOp .neq T x (.const .nilIface) T', ty, pos, af, gd⟩ (opR x) [] A [(d, .imm (.v (.bool (!(f.1 == 0)))))] := by
  by_cases h : f.1 = 0
  · rw [xY h] at hx
    have e : (!(f.1 == 0)) = false := by simp [h]
    rw [e]; exact s_neNN hN hx hT
  · rw [wm h] at hx
    have e : (!(f.1 == 0)) = true := by simp [h]
    have k := s_neNI' (C := C) (A := A) (ty := ty) (pos := pos) (af := af) (gd := gd) (T' := T') (y := .const .nilIface) hN hx (xW _ _ _ _) rfl hT
    rw [show opR x ++ opR (.const .nilIface) = opR x from List.append_nil _] at k
    rw [e]; exact k
open Go.Proofs in
theorem s_eqM {Tb Tw : Nat} {f : Fl} {p : Array (String × TypeId)} (hN : Nat.blt d C.N = true) (hx : opV A x = some (errM Tb Tw f)) (hT : C.P.underlying T = some (.interface p)) :
    zW C ⟨some d, .binOp .eql T x (.const .nilIface) T', ty, pos, af, gd⟩ (opR x) [] A [(d, .imm (.v (.bool (f.1 == 0))))] := by
  by_cases h : f.1 = 0
  · rw [xY h] at hx
    have e : (f.1 == 0) = true := by simp [h]
    rw [e]; exact s_eqNN hN hx hT
  · rw [wm h] at hx
    have e : (f.1 == 0) = false := by simp [h]
    have k := s_eqNI' (C := C) (A := A) (ty := ty) (pos := pos) (af := af) (gd := gd) (T' := T') (y := .const .nilIface) hN hx (xW _ _ _ _) rfl hT
    rw [show opR x ++ opR (.const .nilIface) = opR x from List.append_nil _] at k
    rw [e]; exact k
end
end Go.Al
namespace Go.Proofs
open Go Go.Al
def nm2 (s : GScope) (i : Nat) : ByteArray := if i = 0 then s.name else s.version
theorem nm2_get {s : GScope} {i : Nat} (h : i < 2) : [sv s.name, sv s.version][((i : Nat) : Int).toNat]? = some (sv (nm2 s i)) := by
  match i, h with
  | 0, _ => rfl
  | 1, _ => rfl
theorem vs1 {s : GScope} {i : Nat} (hi : i < 2) (h : 0 < i → yU s.name = 0) (hn : yU (nm2 s i) ≠ 0) : yz s = (yU (nm2 s i), []) := by
  match i, hi with
  | 0, _ => exact scopeF_1 hn
  | 1, _ => exact scopeF_2 (h (by decide)) hn
theorem vs3 {s : GScope} {i : Nat} (h1 : yU s.name = 0) (h2 : yU s.version = 0) (h : wd 0 s.spans = wd i (s.spans.drop i)) (hi : i < s.spans.length) (hn : wL (nthS s.spans i) ≠ 0) : yz s = (wL (nthS s.spans i), [partM kSpan i]) := by
  rw [scopeF_3 h1 h2, h, spansF_drop hi, if_neg hn]
theorem vs4 {s : GScope} (h1 : yU s.name = 0) (h2 : yU s.version = 0) (h : wd 0 s.spans = (0, [])) : yz s = (0, []) := by rw [scopeF_3 h1 h2, h]
theorem vr1 {r : GRes} (h : yO r.attrs ≠ 0) : resF r = (yO r.attrs, []) := if_pos h
theorem vr2 {r : GRes} (h1 : yO r.attrs = 0) (h : 16 < r.scopes.length) : resF r = (34, []) := by unfold resF; rw [if_neg (by omega), if_pos h]
theorem vr3 {r : GRes} {i : Nat} (h1 : yO r.attrs = 0) (h2 : ¬ 16 < r.scopes.length) (h : xd 0 r.scopes = xd i (r.scopes.drop i)) (hi : i < r.scopes.length) (hn : (yz (nthC r.scopes i)).1 ≠ 0) : resF r = ((yz (nthC r.scopes i)).1, partM kScope i :: (yz (nthC r.scopes i)).2) := by
  rw [resF_3 h1 h2, h, scopesF_drop hi, if_neg hn]
theorem vr4 {r : GRes} (h1 : yO r.attrs = 0) (h2 : ¬ 16 < r.scopes.length) (h : xd 0 r.scopes = (0, [])) : resF r = (0, []) := by rw [resF_3 h1 h2, h]
theorem vk2 {b : List GRes} {i : Nat} (h1 : ¬ 32 < b.length) (h : ressF 0 b = ressF i (b.drop i)) (hi : i < b.length) (hn : (resF (nthR b i)).1 ≠ 0) : chkF b = ((resF (nthR b i)).1, partM kRes i :: (resF (nthR b i)).2) := by
  have e : ressF 0 b = ((resF (nthR b i)).1, partM kRes i :: (resF (nthR b i)).2) := by rw [h, ressF_drop hi, if_neg hn]
  unfold chkF
  rw [if_neg h1, e, if_pos hn]
theorem ress_ris {b : List GRes} (h : ressF 0 b = (0, [])) : ∀ r ∈ b, risA none r.attrs := fun r hr => (attrsC_iff.1 (ressF_iff.1 (by rw [h]) r hr).1).2.1
end Go.Proofs
namespace Go.Proofs
open Go Go.Al
set_option maxRecDepth 10000
theorem vat_c (k : ByteArray) (n : Nat) (hk : k.size ≤ 100) (hn : n ≤ 1000000000) : zg Tryz.prog Γ0 28 [sv k, iv (n : Int)] [sv (partM k n)] := by
  have hz : (k ++ ⟨#[32]⟩).size ≤ 101 := by rw [ByteArray.size_append]; have h2 : (ByteArray.mk #[32]).size = 1 := rfl; omega
  refine zU Tryz.func28 rfl Tryz.ntmps28 (by kernel_rfl) rfl fun w0 I0 G0 => ?_
  refine zC <| zB <| g_u (zE rfl rfl) <| zF <| zA <| zC <| zB <| g_u (zD rfl rfl) ?_
  refine g_u (s_catS rfl rfl rfl (by show _ ≤ (9223372036854775807 : Int); have h2 : (ByteArray.mk #[32]).size = 1 := rfl; (try dsimp only); omega)) ?_
  refine g_u (s_cvSB rfl rfl Tryz.underlying9 Tryz.underlying85 Tryz.underlying5 (by unfold maxLen; omega)) ?_
  refine g_u (zD rfl rfl) ?_
  refine g_u (zQ (dput_c (lst (k ++ ⟨#[32]⟩)) (n : Int) ⟨by omega, by omega⟩ (by rw [yE]; omega)) rfl rfl) ?_
  refine g_u (s_cvBS' (rfl) rfl rfl Tryz.underlying85 Tryz.underlying9 Tryz.underlying5) <| g_u (zE rfl rfl) <| zF <| zA <| zI ?_
  exact ⟨⟨(rfl : toAV (Al.look _ _) = some _).trans (congrArg some (by (exact congrArg sv (part_cat2 k n)))), rfl⟩, trivial⟩
set_option maxHeartbeats 4000000 in
theorem vscope_c (s : GScope) (ho : s.ok) (hw : s.wt ≤ 1000000) : zg Tryz.prog Γ0 50 [s.av] [eM (yz s)] := by
  have qw : s.wt = 1 + s.name.size + s.version.size + zu GSpan.wt s.spans := rfl
  have ql := yW GSpan.wt (fun e => by unfold GSpan.wt; omega) s.spans
  refine zU Tryz.func50 rfl Tryz.ntmps50 (by kernel_rfl) rfl fun w0 I0 G0 => ?_
  refine zC <| zB <| g_uG (zl 1001 rfl rfl rfl rfl) rfl <| g_u (zE rfl rfl) <| zF <| zA <| zC <| zC <| zB <| g_u (zH rfl rfl fa55_0 rfl) <| g_u (zG rfl rfl rfl tA9 tS9 rfl rfl) <| g_u (zH rfl rfl fa55_1 rfl) <| g_u (zG rfl rfl rfl tA9 tS9 rfl rfl) <| g_u (y4 rfl tU151 Tryz.underlying151 tS9 rfl rfl rfl rfl) <| g_u (zD rfl rfl) <| zF <| zA <| zT ?_
  refine z4 (fun i : Nat => [(1, .ptr 1001 0), (1001, .box 55 (.imm s.av)), (13, .imm (.agg [sv s.name, sv s.version])), (14, .imm (iv (i : Int)))]) (fun i => i ≤ 2 ∧ (0 < i → yU s.name = 0) ∧ (1 < i → yU s.version = 0)) (fun i => 2 - i) (0) ?_ ⟨rfl, rfl, rfl, rfl, trivial⟩ ?_
  · exact ⟨by omega, fun h => by omega, fun h => by omega⟩
  · rintro i ⟨h1, h2, h3⟩; (try dsimp only at h1 h2 h3)
    refine zC <| zB <| g_u (yh rfl rfl rfl) <| zF <| zA <| zC ?_
    refine zL rfl (fun hb1 => ?_) (fun hb1 => ?_)
    · have hi : i < 2 := by have := of_decide_eq_true hb1; omega
      have hsz : (nm2 s i).size ≤ 1000000 := by unfold nm2; split <;> omega
      refine zO <| zA <| zC <| zT <| zC <| zB ?_
      refine g_u (s_ixG rfl rfl rfl Tryz.underlying151 tS9 tA9 (by first | rfl | decide) ⟨by omega, by omega⟩ (nm2_get hi) rfl) ?_
      refine g_u (zE rfl rfl) <| zF <| zA <| zC <| zB <| g_u (zD rfl rfl) ?_
      refine g_u (zQ (spanName_c _ (by omega)) rfl rfl) ?_
      refine g_u (zE rfl rfl) <| zF <| zA <| zC <| zB <| g_u (zD rfl rfl) <| g_u (xi rfl rfl rfl) <| zF <| zA ?_
      refine zL rfl (fun hb2 => ?_) (fun hb2 => ?_)
      · have hz : yU (nm2 s i) ≠ 0 := qc.1 hb2
        refine zC <| zB <| g_u (zD rfl rfl) <| g_u (zQ (fnew_c _) rfl rfl) <| g_u (zE rfl rfl) <| zF <| zA <| zI <| zd <| zP <| zP <| zd <| zP ?_
        exact ⟨⟨(rfl : toAV (Al.look _ _) = some _).trans (congrArg some (by (rw [show eM (yz s) = eM _ from congrArg eM (vs1 hi h2 hz)]))), rfl⟩, trivial⟩
      · have hz : yU (nm2 s i) = 0 := qd.1 hb2
        refine zO <| zJ <| zA <| zB <| g_u (z6 rfl rfl rfl) <| g_u (zD rfl rfl) <| zF <| zA ?_
        refine ⟨i + 1, ⟨hi, fun _ => ?_, fun h => ?_⟩, ⟨rfl, rfl, rfl, z_ rfl (by rw [zR (by omega) (by omega)]; rfl), trivial⟩, by (try dsimp only); omega⟩
        · rcases Nat.eq_zero_or_pos i with hi0 | hi0
          · subst hi0; exact hz
          · exact h2 hi0
        · obtain rfl : i = 1 := by (try dsimp only at h); omega
          exact hz
    · have hin : i = 2 := by have := of_decide_eq_false hb1; omega
      have q1 := h2 (by omega)
      have q2 := h3 (by omega)
      refine yJ <| ze <| ze <| z8 <| zA <| zC <| zC <| zB <| g_u (zH rfl rfl fa55_2 rfl) <| g_u (zG rfl rfl rfl tA53 tS53 rfl rfl) <| g_u (yM rfl rfl Tryz.underlying53) <| g_u (zD rfl rfl) <| zF <| zA <| zT ?_
      refine z4 (fun i : Nat => [(1, .ptr 1001 0), (1001, .box 55 (.imm s.av)), (25, .imm (.sl 42 (s.spans.map GSpan.av))), (26, .imm (iv (s.spans.length : Int))), (27, .imm (iv (i : Int)))]) (fun i => i ≤ s.spans.length ∧ wd 0 s.spans = wd i (s.spans.drop i)) (fun i => s.spans.length - i) (0) ?_ ⟨rfl, rfl, rfl, z_ rfl (by rw [List.length_map]), rfl, trivial⟩ ?_
      · exact ⟨Nat.zero_le _, rfl⟩
      · rintro i ⟨h1, h2⟩; (try dsimp only at h1 h2)
        refine zC <| zB <| g_u (yh rfl rfl rfl) <| zF <| zA <| zC ?_
        refine zL rfl (fun hb3 => ?_) (fun hb3 => ?_)
        · have hi : i < s.spans.length := by have := of_decide_eq_true hb3; (try simp only [List.length_map] at this); omega
          have hsx := yn GSpan.wt (nthS_mem hi)
          have hso := ho.2.2 _ (nthS_mem hi)
          refine zO <| zA <| zC <| zT <| zC <| zB <| g_u (zD rfl rfl) ?_
          refine g_u (zq rfl rfl rfl Tryz.underlying53 tS52 (by omega) (ixS hi)) ?_
          refine g_u (zb rfl rfl tA52 tS52 rfl (by first | exact getS_w (GSpan.width _) rfl | rfl)) ?_
          refine g_uG (zx 1007 rfl rfl rfl tZ52) rfl <| g_u (zE rfl rfl) ?_
          refine g_u (zM rfl rfl rfl tS52 (by first | exact beqW (GSpan.width _) | rfl) (by first | exact setS_w (z52_w.trans (GSpan.width _).symm) rfl | rfl)) ?_
          refine zF <| zA <| zC <| zB ?_
          refine g_u (zG rfl rfl rfl tA52 tS52 rfl (by first | exact getS_w (GSpan.width _) rfl | rfl)) ?_
          refine g_u (zQ (spanCheck_c _ hso (by omega)) rfl rfl) ?_
          refine g_u (zE rfl rfl) <| zF <| zA <| zC <| zB <| g_u (zD rfl rfl) <| g_u (xi rfl rfl rfl) <| zF <| zA ?_
          refine zL rfl (fun hb4 => ?_) (fun hb4 => ?_)
          · have hz : wL (nthS s.spans i) ≠ 0 := qc.1 hb4
            refine zC <| zB <| g_u (zD rfl rfl) ?_
            refine g_u (zQ (vat_c kSpan i (by decide) (by omega)) rfl rfl) ?_
            refine g_u (zD rfl rfl) <| g_u (zQ (fnew_c _) rfl rfl) <| g_u (zQ (fin_c _ _) rfl rfl) <| g_u (zE rfl rfl) <| zF <| zA <| zI <| zd <| zP <| zP <| zd <| zP ?_
            exact ⟨⟨(rfl : toAV (Al.look _ _) = some _).trans (congrArg some (by (exact congrArg eM (vs3 q1 q2 h2 hi hz).symm))), rfl⟩, trivial⟩
          · have hz : wL (nthS s.spans i) = 0 := qd.1 hb4
            refine zO <| zJ <| zA <| zB <| g_u (z6 rfl rfl rfl) <| g_u (zD rfl rfl) <| zF <| zA ?_
            refine ⟨i + 1, ⟨hi, by (try dsimp only); rw [h2, spansF_drop hi, if_pos hz]⟩, ⟨rfl, rfl, rfl, rfl, z_ rfl (by rw [zR (by omega) (by omega)]; rfl), trivial⟩, by (try dsimp only); omega⟩
        · have hin : i = s.spans.length := by have := of_decide_eq_false hb3; (try simp only [List.length_map] at this); omega
          refine yJ <| ze <| ze <| z8 <| zA <| zC <| zB <| g_u (zE rfl rfl) <| zF <| zA <| zI ?_
          exact ⟨⟨(rfl : toAV (Al.look _ _) = some _).trans (congrArg some (by (rw [show eM (yz s) = _ from xY (by rw [vs4 q1 q2 (by rw [h2, hin, List.drop_length]; rfl)])]))), rfl⟩, trivial⟩
set_option maxHeartbeats 4000000 in
theorem vres_c (r : GRes) (ho : r.ok) (hf : fitR r) : zg Tryz.prog Γ0 26 [r.av] [eM (resF r)] := by
  have hwa := hf.1
  have ql := hf.2.1
  refine zU Tryz.func26 rfl Tryz.ntmps26 (by kernel_rfl) rfl fun w0 I0 G0 => ?_
  refine zC <| zB <| g_uG (zl 1001 rfl rfl rfl rfl) rfl <| g_u (zE rfl rfl) <| zF <| zA <| zC <| zC <| zB <| g_u (zH rfl rfl fa58_0 rfl) <| g_u (zG rfl rfl rfl tA46 tS46 rfl rfl) ?_
  refine g_u (zQ (checkAs_c _ ho.1 (by omega)) rfl rfl) ?_
  refine g_u (zE rfl rfl) <| zF <| zA <| zC <| zB <| g_u (zD rfl rfl) <| g_u (xi rfl rfl rfl) <| zF <| zA ?_
  refine zL rfl (fun hb1 => ?_) (fun hb1 => ?_)
  · have q1 : yO r.attrs ≠ 0 := qc.1 hb1
    refine zC <| zB <| g_u (zD rfl rfl) <| g_u (zQ (fnew_c _) rfl rfl) <| g_u (zE rfl rfl) <| zF <| zA <| zI <| zP ?_
    exact ⟨⟨(rfl : toAV (Al.look _ _) = some _).trans (congrArg some (by (exact congrArg eM (vr1 q1).symm))), rfl⟩, trivial⟩
  · have q1 : yO r.attrs = 0 := qd.1 hb1
    refine zO <| zA <| zC <| zC <| zB <| g_u (zH rfl rfl fa58_1 rfl) <| g_u (zG rfl rfl rfl tA56 tS56 rfl rfl) <| g_u (yM rfl rfl Tryz.underlying56) <| g_u (wh rfl rfl rfl) <| zF <| zA ?_
    refine zL rfl (fun hb2 => ?_) (fun hb2 => ?_)
    · have q2 : 16 < r.scopes.length := by have := of_decide_eq_true hb2; (try simp only [List.length_map] at this); omega
      refine zC <| zB <| g_u (zQ (fnew_c _) rfl rfl) <| g_u (zE rfl rfl) <| zF <| zA <| zI <| zP ?_
      exact ⟨⟨(rfl : toAV (Al.look _ _) = some _).trans (congrArg some (by (exact congrArg eM (vr2 q1 q2).symm))), rfl⟩, trivial⟩
    · have q2 : ¬ 16 < r.scopes.length := by have := of_decide_eq_false hb2; (try simp only [List.length_map] at this); omega
      refine zO <| zA <| zC <| zC <| zB <| g_u (zH rfl rfl fa58_1 rfl) <| g_u (zG rfl rfl rfl tA56 tS56 rfl rfl) <| g_u (yM rfl rfl Tryz.underlying56) <| g_u (zD rfl rfl) <| zF <| zA <| zT ?_
      refine z4 (fun i : Nat => [(1, .ptr 1001 0), (1001, .box 58 (.imm r.av)), (20, .imm (.sl 3 (r.scopes.map GScope.av))), (21, .imm (iv (r.scopes.length : Int))), (22, .imm (iv (i : Int)))]) (fun i => i ≤ r.scopes.length ∧ xd 0 r.scopes = xd i (r.scopes.drop i)) (fun i => r.scopes.length - i) (0) ?_ ⟨rfl, rfl, rfl, z_ rfl (by rw [List.length_map]), rfl, trivial⟩ ?_
      · exact ⟨Nat.zero_le _, rfl⟩
      · rintro i ⟨h1, h2⟩; (try dsimp only at h1 h2)
        refine zC <| zB <| g_u (yh rfl rfl rfl) <| zF <| zA <| zC ?_
        refine zL rfl (fun hb3 => ?_) (fun hb3 => ?_)
        · have hi : i < r.scopes.length := by have := of_decide_eq_true hb3; (try simp only [List.length_map] at this); omega
          have hsx := hf.2.2.2 _ (nthC_mem hi)
          have hso := ho.2 _ (nthC_mem hi)
          refine zO <| zA <| zC <| zT <| zC <| zB <| g_u (zD rfl rfl) ?_
          refine g_u (zq rfl rfl rfl Tryz.underlying56 tS55 (by omega) (ixC hi)) ?_
          refine g_u (zb rfl rfl tA55 tS55 rfl rfl) <| g_uG (zx 1005 rfl rfl rfl tZ55) rfl <| g_u (zE rfl rfl) <| g_u (zM rfl rfl rfl tS55 rfl rfl) <| zF <| zA <| zC <| zB <| g_u (zj rfl rfl rfl tA55 tS55 rfl rfl) ?_
          refine g_u (zQ (vscope_c _ hso (by omega)) rfl rfl) ?_
          refine g_u (zE rfl rfl) <| zF <| zA <| zC <| zB <| g_u (zD rfl rfl) <| g_u (s_neM rfl rfl Tryz.underlying28) <| zF <| zA ?_
          refine zL rfl (fun hb4 => ?_) (fun hb4 => ?_)
          · have hz : (yz (nthC r.scopes i)).1 ≠ 0 := by have e := hb4; simpa using e
            refine zC <| zB <| g_u (zD rfl rfl) ?_
            refine g_u (zQ (vat_c kScope i (by decide) (by omega)) rfl rfl) ?_
            refine g_u (zD rfl rfl) <| g_u (zQ (fin_c _ _) rfl rfl) <| g_u (zE rfl rfl) <| zF <| zA <| zI <| zd <| zP <| zP <| zd <| zP ?_
            exact ⟨⟨(rfl : toAV (Al.look _ _) = some _).trans (congrArg some (by (exact congrArg eM (vr3 q1 q2 h2 hi hz).symm))), rfl⟩, trivial⟩
          · have hz : (yz (nthC r.scopes i)).1 = 0 := by have e := hb4; simpa using e
            refine zO <| zJ <| zA <| zB <| g_u (z6 rfl rfl rfl) <| g_u (zD rfl rfl) <| zF <| zA ?_
            refine ⟨i + 1, ⟨hi, by (try dsimp only); rw [h2, scopesF_drop hi, if_pos hz]⟩, ⟨rfl, rfl, rfl, rfl, z_ rfl (by rw [zR (by omega) (by omega)]; rfl), trivial⟩, by (try dsimp only); omega⟩
        · have hin : i = r.scopes.length := by have := of_decide_eq_false hb3; (try simp only [List.length_map] at this); omega
          refine yJ <| ze <| ze <| z8 <| zA <| zC <| zB <| g_u (zE rfl rfl) <| zF <| zA <| zI ?_
          exact ⟨⟨(rfl : toAV (Al.look _ _) = some _).trans (congrArg some (by (rw [show eM (resF r) = _ from xY (by rw [vr4 q1 q2 (by rw [h2, hin, List.drop_length]; rfl)])]))), rfl⟩, trivial⟩
set_option maxHeartbeats 4000000 in
theorem vchk_c (b : List GRes) (ho : okB b) (hw : wtB b ≤ 60000) : zg Tryz.prog Γ0 9 [xp b] [eM (chkF b)] := by
  have hf := fitB_small hw
  have qw : wtB b = zu GRes.wt b := rfl
  have ql := yW GRes.wt (fun e => by unfold GRes.wt; omega) b
  refine zU Tryz.func9 rfl Tryz.ntmps9 (by kernel_rfl) rfl fun w0 I0 G0 => ?_
  refine zC <| zB <| g_uG (zl 1001 rfl rfl rfl rfl) rfl <| g_u (zE rfl rfl) <| zF <| zA <| zC <| zC <| zB <| g_u (zH rfl rfl fa24_0 rfl) <| g_u (zG rfl rfl rfl tA22 tS22 rfl rfl) <| g_u (yM rfl rfl Tryz.underlying22) <| g_u (wh rfl rfl rfl) <| zF <| zA ?_
  refine zL rfl (fun hb1 => ?_) (fun hb1 => ?_)
  · have q1 : 32 < b.length := by have := of_decide_eq_true hb1; (try simp only [List.length_map] at this); omega
    refine zC <| zB <| g_u (zQ (fnew_c _) rfl rfl) <| g_u (zE rfl rfl) <| zF <| zA <| zI <| zP ?_
    exact ⟨⟨(rfl : toAV (Al.look _ _) = some _).trans (congrArg some (by (exact congrArg eM (ck1 q1).symm))), rfl⟩, trivial⟩
  · have q1 : ¬ 32 < b.length := by have := of_decide_eq_false hb1; (try simp only [List.length_map] at this); omega
    refine zO <| zA <| zC <| zC <| zB <| g_u (zH rfl rfl fa24_0 rfl) <| g_u (zG rfl rfl rfl tA22 tS22 rfl rfl) <| g_u (yM rfl rfl Tryz.underlying22) <| g_u (zD rfl rfl) <| zF <| zA <| zT ?_
    refine z4 (fun i : Nat => [(1, .ptr 1001 0), (1001, .box 24 (.imm (xp b))), (12, .imm (.sl 2 (b.map GRes.av))), (13, .imm (iv (b.length : Int))), (14, .imm (iv (i : Int)))]) (fun i => i ≤ b.length ∧ ressF 0 b = ressF i (b.drop i)) (fun i => b.length - i) (0) ?_ ⟨rfl, rfl, rfl, z_ rfl (by rw [List.length_map]), rfl, trivial⟩ ?_
    · exact ⟨Nat.zero_le _, rfl⟩
    · rintro i ⟨h1, h2⟩; (try dsimp only at h1 h2)
      refine zC <| zB <| g_u (yh rfl rfl rfl) <| zF <| zA <| zC ?_
      refine zL rfl (fun hb2 => ?_) (fun hb2 => ?_)
      · have hi : i < b.length := by have := of_decide_eq_true hb2; (try simp only [List.length_map] at this); omega
        have hrm := hf.2 _ (nthR_mem hi)
        have hro := ho _ (nthR_mem hi)
        refine zO <| zA <| zC <| zT <| zC <| zB <| g_u (zD rfl rfl) ?_
        refine g_u (zq rfl rfl rfl Tryz.underlying22 tS58 (by omega) (ixR hi)) ?_
        refine g_u (zb rfl rfl tA58 tS58 rfl rfl) <| g_uG (zx 1004 rfl rfl rfl tZ58) rfl <| g_u (zE rfl rfl) <| g_u (zM rfl rfl rfl tS58 rfl rfl) <| zF <| zA <| zC <| zB <| g_u (zj rfl rfl rfl tA58 tS58 rfl rfl) ?_
        refine g_u (zQ (vres_c _ (by assumption) (by assumption)) rfl rfl) ?_
        refine g_u (zE rfl rfl) <| zF <| zA <| zC <| zB <| g_u (zD rfl rfl) <| g_u (s_neM rfl rfl Tryz.underlying28) <| zF <| zA ?_
        refine zL rfl (fun hb3 => ?_) (fun hb3 => ?_)
        · have hz : (resF (nthR b i)).1 ≠ 0 := by have e := hb3; simpa using e
          refine zC <| zB <| g_u (zD rfl rfl) ?_
          refine g_u (zQ (vat_c kRes i (by decide) (by omega)) rfl rfl) ?_
          refine g_u (zD rfl rfl) <| g_u (zQ (fin_c _ _) rfl rfl) <| g_u (zE rfl rfl) <| zF <| zA <| zI <| zd <| zP <| zP <| zd <| zP ?_
          exact ⟨⟨(rfl : toAV (Al.look _ _) = some _).trans (congrArg some (by (exact congrArg eM (vk2 q1 h2 hi hz).symm))), rfl⟩, trivial⟩
        · have hz : (resF (nthR b i)).1 = 0 := by have e := hb3; simpa using e
          refine zO <| zJ <| zA <| zB <| g_u (z6 rfl rfl rfl) <| g_u (zD rfl rfl) <| zF <| zA ?_
          refine ⟨i + 1, ⟨hi, by (try dsimp only); rw [h2, ressF_drop hi, if_pos hz]⟩, ⟨rfl, rfl, rfl, rfl, z_ rfl (by rw [zR (by omega) (by omega)]; rfl), trivial⟩, by (try dsimp only); omega⟩
      · have hin : i = b.length := by have := of_decide_eq_false hb2; (try simp only [List.length_map] at this); omega
        have hall : ressF 0 b = (0, []) := by rw [h2, hin, List.drop_length]; rfl
        refine yJ <| ze <| ze <| z8 <| zA <| zC <| zC <| zB <| g_u (zG rfl rfl rfl tA24 tS24 rfl rfl) ?_
        refine g_u (zQ (count_c _ (by omega)) rfl rfl) ?_
        refine g_u (wh rfl rfl rfl) <| zF <| zA ?_
        refine zL rfl (fun hb4 => ?_) (fun hb4 => ?_)
        · have q3 : 100 < (plR 0 b).length := by have := of_decide_eq_true hb4; (try simp only [List.length_map] at this); omega
          refine zC <| zB <| g_u (zQ (fnew_c _) rfl rfl) <| g_u (zE rfl rfl) <| zF <| zA <| zI <| zP ?_
          exact ⟨⟨(rfl : toAV (Al.look _ _) = some _).trans (congrArg some (by (exact congrArg eM (ck3 q1 hall q3).symm))), rfl⟩, trivial⟩
        · have q3 : ¬ 100 < (plR 0 b).length := by have := of_decide_eq_false hb4; (try simp only [List.length_map] at this); omega
          refine zO <| zA <| zC <| zC <| zB <| g_u (zG rfl rfl rfl tA24 tS24 rfl rfl) ?_
          refine g_u (zQ (batchW_c b ho (by omega) (ress_ris hall)) rfl rfl) ?_
          refine g_u (wh rfl rfl rfl) <| zF <| zA ?_
          refine zL rfl (fun hb5 => ?_) (fun hb5 => ?_)
          · have q4 : 65536 < batchW b := by have := of_decide_eq_true hb5; omega
            refine zC <| zB <| g_u (zQ (fnew_c _) rfl rfl) <| g_u (zE rfl rfl) <| zF <| zA <| zI <| zP ?_
            exact ⟨⟨(rfl : toAV (Al.look _ _) = some _).trans (congrArg some (by (exact congrArg eM (ck4 q1 hall q3 q4).symm))), rfl⟩, trivial⟩
          · have q4 : ¬ 65536 < batchW b := by have := of_decide_eq_false hb5; omega
            refine zO <| zA <| zC <| zB <| g_u (zE rfl rfl) <| zF <| zA <| zI ?_
            exact ⟨⟨(rfl : toAV (Al.look _ _) = some _).trans (congrArg some (by (rw [show eM (chkF b) = _ from xY (by rw [ck5 q1 hall q3 q4])]))), rfl⟩, trivial⟩
theorem vis_c (b : List GRes) (ho : okB b) (hw : wtB b ≤ 60000) : zg Tryz.prog Γ0 14 [xp b] [bv ((chkF b).1 == 0)] := by
  refine zU Tryz.func14 rfl Tryz.ntmps14 (by kernel_rfl) rfl fun w0 I0 G0 => ?_
  refine zC <| zB <| g_uG (zl 1001 rfl rfl rfl rfl) rfl <| g_u (zE rfl rfl) <| zF <| zA <| zC <| zB <| g_u (zG rfl rfl rfl tA24 tS24 rfl rfl) ?_
  refine g_u (zQ (vchk_c _ (by assumption) (by omega)) rfl rfl) ?_
  refine g_u (s_eqM rfl rfl Tryz.underlying28) <| g_u (zE rfl rfl) <| zF <| zA <| zI ?_
  exact ⟨⟨(rfl : toAV (Al.look _ _) = some _).trans (congrArg some (by rfl)), rfl⟩, trivial⟩
theorem fnewP_c (c : Int) (h : c ≠ 0) : xj Tryz.prog Γ0 25 [.imm (iv c)] [] (.ifp 79 1007 0) [(1007, .box 83 (.imm (.agg [iv c])))] := by
  refine yV (rs := [.ifp 79 1007 0]) Tryz.func25 rfl Tryz.ntmps25 (by kernel_rfl) rfl rfl rfl rfl rfl fun w0 I0 G0 E => ?_
  refine zC <| zB <| g_u (zE rfl rfl) <| zF <| zA <| zC <| zC <| zB <| g_u (zD rfl rfl) <| g_u (yR rfl rfl rfl) <| zF <| zA ?_
  refine zL rfl (fun hb1 => ?_) (fun hb1 => ?_)
  · exact killF hb1 ((beq_false_of_ne h))
  · refine zO ?_
    refine zA <| zC <| zB <| g_u (zD rfl rfl) <| g_u (xB rfl tU83 us83 pl83 rfl rfl rfl rfl) <| g_uG (zl 1007 rfl rfl rfl rfl) rfl <| g_u (s_makeIfp rfl rfl nI79) <| g_u (s_as_ifp rfl rfl) <| zF <| zA <| zI ?_
    exact ⟨⟨.inr ⟨_, rfl, (by rfl), rfl⟩, trivial⟩, ⟨rfl, trivial⟩⟩
set_option maxHeartbeats 4000000 in
theorem vlim_c (b : List GRes) (ho : okB b) (hw : wtB b ≤ 60000) : zg Tryz.prog Γ0 15 [xp b] [bv (decide (32 ≤ (chkF b).1 ∧ (chkF b).1 ≤ 36))] := by
  refine zU Tryz.func15 rfl Tryz.ntmps15 (by kernel_rfl) rfl fun w0 I0 G0 => ?_
  refine zC <| zB <| g_uG (zl 1001 rfl rfl rfl rfl) rfl <| g_u (zE rfl rfl) <| zF <| zA <| zC <| zB <| g_u (zG rfl rfl rfl tA24 tS24 rfl rfl) ?_
  refine g_u (zQ (vchk_c _ (by assumption) (by omega)) rfl rfl) ?_
  refine g_u (zE rfl rfl) <| zF <| zA <| zC <| zC <| zB <| g_u (zD rfl rfl) <| g_u (s_eqM rfl rfl Tryz.underlying28) <| zF <| zA ?_
  refine zL rfl (fun hb1 => ?_) (fun hb1 => ?_)
  · have q0 : (chkF b).1 = 0 := beq_iff_eq.1 hb1
    refine zC <| zB <| g_u (zE rfl rfl) <| zF <| zA <| zI <| zP ?_
    exact ⟨⟨(rfl : toAV (Al.look _ _) = some _).trans (congrArg some (by (exact congrArg bv (by rw [q0]; rfl)))), rfl⟩, trivial⟩
  · have q1 : (chkF b).1 ≠ 0 := beq_eq_false_iff_ne.1 hb1
    rw [show eM (chkF b) = _ from wm q1]
    refine zO <| zA <| zC <| zC <| zB <| g_u (zE rfl rfl) <| zF <| zA <| zT ?_
    refine z4 (fun k : Nat => [(3, .imm (eOf (chkF b).1 (chkF b).2)), (4, .imm (iv (k : Int)))]) (fun k => (32 ≤ k ∧ k ≤ 37) ∧ ∀ j : Nat, 32 ≤ j → j < k → (chkF b).1 ≠ (j : Int)) (fun k => 37 - k) (32) ?_ ⟨rfl, rfl, trivial⟩ ?_
    · exact ⟨by omega, fun j h1 h2 => by omega⟩
    · rintro k ⟨h1, h2⟩; (try dsimp only at h1 h2)
      refine zC <| zC <| zB <| g_u (zD rfl rfl) <| g_u (s_leI rfl rfl rfl) <| zF <| zA ?_
      refine zL rfl (fun hb2 => ?_) (fun hb2 => ?_)
      · have hk : k ≤ 36 := by have := of_decide_eq_true hb2; omega
        refine zO <| zA <| zC <| zT <| zC <| zB <| g_u (zD rfl rfl) <| g_u (zD rfl rfl) ?_
        refine g_uG (yi [(1007, 20001)] (fnewP_c _ (by omega)) rfl rfl ⟨.inl rfl, trivial⟩ trivial rfl rfl rfl) rfl ?_
        refine g_uG (yi [(100001, 20001)] (eIs_c (chkF b).1 (k : Int) (chkF b).2) rfl rfl ⟨.inl rfl, .inl rfl, trivial⟩ ⟨rfl, trivial⟩ rfl rfl rfl) rfl <| zF <| zA ?_
        refine zL rfl (fun hb3 => ?_) (fun hb3 => ?_)
        · have hz : (k : Int) = (chkF b).1 := beq_iff_eq.1 hb3
          refine zC <| zB <| g_u (zE rfl rfl) <| zF <| zA <| zI <| zd <| zP <| zP <| zd <| zP ?_
          exact ⟨⟨(rfl : toAV (Al.look _ _) = some _).trans (congrArg some (by (exact congrArg bv (decide_eq_true (by omega)).symm))), rfl⟩, trivial⟩
        · have hz : (k : Int) ≠ (chkF b).1 := beq_eq_false_iff_ne.1 hb3
          refine zO <| zJ <| zA <| zB <| g_u (zD rfl rfl) <| g_u (z6 rfl rfl rfl) <| g_u (zE rfl rfl) <| zF <| zA ?_
          refine ⟨k + 1, ⟨by omega, fun j g1 g2 => ?_⟩, ⟨rfl, z_ rfl (by rw [zR (by omega) (by omega)]; rfl), trivial⟩, by (try dsimp only); omega⟩
          rcases Nat.lt_or_ge j k with g3 | g3
          · exact h2 j g1 g3
          · obtain rfl : j = k := by (try dsimp only at g2); omega
            exact fun e => hz e.symm
      · have hkn : k = 37 := by have := of_decide_eq_false hb2; omega
        refine yJ <| ze <| ze <| z8 <| zA <| zC <| zB <| g_u (zE rfl rfl) <| zF <| zA <| zI ?_
        exact ⟨⟨(rfl : toAV (Al.look _ _) = some _).trans (congrArg some (by (exact congrArg bv (decide_eq_false (by intro hh; exact h2 (chkF b).1.toNat (by omega) (by omega) (by omega))).symm))), rfl⟩, trivial⟩
end Go.Proofs
namespace Go.Proofs
open Go Go.Al
end Go.Proofs
namespace Go.Proofs
open Go Go.Al
def R1 (c : Int) : Prop := 0 ≤ c ∧ c ≤ 100
theorem R1_orC {a b : Int} (ha : R1 a) (hb : R1 b) : R1 (orC a b) := by unfold orC; split <;> assumption
theorem nameC_R (s : ByteArray) : R1 (yU s) := by unfold yU R1; repeat' split <;> omega
theorem keyC_R (s : ByteArray) : R1 (keyC s) := by unfold keyC R1; repeat' split <;> omega
mutual
theorem checkV_R : ∀ (d : Int) (g : GV), R1 (xx d g)
  | d, .mk k t n b l m => by
    rw [xx]
    split
    · exact ⟨by decide, by decide⟩
    split
    · exact ⟨by decide, by decide⟩
    split
    · exact ⟨by decide, by decide⟩
    split
    · exact ⟨by decide, by decide⟩
    split
    · exact ⟨by decide, by decide⟩
    · exact R1_orC (checkVs_R _ l) (entC_R _ none m)
theorem checkVs_R : ∀ (d : Int) (l : List GV), R1 (xf d l)
  | d, [] => by rw [xf]; exact ⟨by decide, by decide⟩
  | d, x :: xs => by rw [xf]; exact R1_orC (checkV_R d x) (checkVs_R d xs)
theorem checkA_R : ∀ (d : Int) (a : GA), R1 (checkA d a)
  | d, .mk _ v => by rw [checkA]; exact checkV_R d v
theorem entC_R : ∀ (d : Int) (p : Option ByteArray) (l : List GA), R1 (entC d p l)
  | d, p, [] => by rw [entC]; exact ⟨by decide, by decide⟩
  | d, p, x :: xs => by
    rw [entC]
    refine R1_orC (keyC_R _) ?_
    split
    · exact ⟨by decide, by decide⟩
    · exact R1_orC (checkA_R d x) (entC_R d (some x.key) xs)
end
theorem attrsC_R (l : List GA) : R1 (yO l) := by
  unfold yO
  split
  · exact ⟨by decide, by decide⟩
  · exact R1_orC (entC_R _ _ _) (by split <;> exact ⟨by decide, by decide⟩)
theorem evC_R : ∀ l : List GE, R1 (evC l)
  | [] => ⟨by decide, by decide⟩
  | e :: es => by
    rw [evC]
    split
    · exact ⟨by decide, by decide⟩
    · exact R1_orC (R1_orC (nameC_R _) (attrsC_R _)) (evC_R es)
theorem lkC_R : ∀ l : List GL, R1 (lkC l)
  | [] => ⟨by decide, by decide⟩
  | e :: es => by
    rw [lkC]
    split
    · exact ⟨by decide, by decide⟩
    · exact R1_orC (R1_orC (nameC_R _) (attrsC_R _)) (lkC_R es)
theorem firstC_R : ∀ {l : List Int}, (∀ c ∈ l, R1 c) → R1 (xy l)
  | [], _ => ⟨by decide, by decide⟩
  | c :: cs, h => R1_orC (h c List.mem_cons_self) (firstC_R fun x hx => h x (List.mem_cons_of_mem _ hx))
theorem spanOk_R (s : GSpan) : R1 (wL s) := by
  unfold wL
  apply firstC_R
  intro c h
  simp only [List.mem_cons, List.not_mem_nil, or_false] at h
  rcases h with rfl | rfl | rfl | rfl | rfl | rfl | rfl | rfl | rfl | rfl
  · split <;> exact ⟨by decide, by decide⟩
  · exact nameC_R _
  · exact nameC_R _
  · split <;> exact ⟨by decide, by decide⟩
  · unfold wQ R1; repeat' split <;> omega
  · exact attrsC_R _
  · unfold evsC; split
    · exact ⟨by decide, by decide⟩
    · exact evC_R _
  · unfold lksC; split
    · exact ⟨by decide, by decide⟩
    · exact lkC_R _
  · split <;> exact ⟨by decide, by decide⟩
  · exact nameC_R _
def Fk (k : Nat) (f : Fl) : Prop := R1 f.1 ∧ f.2.length ≤ k ∧ ∀ p ∈ f.2, p.size ≤ 140737488351232
theorem Fk_0 {k : Nat} {c : Int} (h : R1 c) : Fk k (c, []) := ⟨h, Nat.zero_le _, fun p hp => by cases hp⟩
theorem Fk_cons {k : Nat} {f : Fl} {p : ByteArray} (h : Fk k f) (hp : p.size ≤ 1000) : Fk (k + 1) (f.1, p :: f.2) := ⟨h.1, by simpa using h.2.1, fun q hq => (List.mem_cons.1 hq).elim (fun e => by rw [e]; omega) (h.2.2 q)⟩
theorem partM_size {k : ByteArray} (i : Nat) (hk : k.size ≤ 100) : (partM k i).size ≤ 1000 := by
  unfold partM
  rw [zk, List.length_append, List.length_cons, yE]
  have := wV (i : Int)
  omega
theorem spansF_k : ∀ (i : Nat) (l : List GSpan), Fk 1 (wd i l)
  | _, [] => Fk_0 ⟨by decide, by decide⟩
  | i, x :: xs => by
    rw [wd]
    split
    · exact spansF_k (i + 1) xs
    · exact Fk_cons (k := 0) (f := (wL x, [])) (Fk_0 (spanOk_R x)) (partM_size i (by decide))
theorem scopeF_k (s : GScope) : Fk 1 (yz s) := by
  unfold yz
  split
  · exact Fk_0 (nameC_R _)
  split
  · exact Fk_0 (nameC_R _)
  · exact spansF_k 0 _
theorem scopesF_k : ∀ (i : Nat) (l : List GScope), Fk 2 (xd i l)
  | _, [] => Fk_0 ⟨by decide, by decide⟩
  | i, x :: xs => by
    rw [xd]
    split
    · exact scopesF_k (i + 1) xs
    · exact Fk_cons (scopeF_k x) (partM_size i (by decide))
theorem resF_k (r : GRes) : Fk 2 (resF r) := by
  unfold resF
  split
  · exact Fk_0 (attrsC_R _)
  split
  · exact Fk_0 ⟨by decide, by decide⟩
  · exact scopesF_k 0 _
theorem ressF_k : ∀ (i : Nat) (l : List GRes), Fk 3 (ressF i l)
  | _, [] => Fk_0 ⟨by decide, by decide⟩
  | i, x :: xs => by
    rw [ressF]
    split
    · exact ressF_k (i + 1) xs
    · exact Fk_cons (resF_k x) (partM_size i (by decide))
theorem chkF_k (b : List GRes) : Fk 3 (chkF b) := by
  unfold chkF
  split
  · exact Fk_0 ⟨by decide, by decide⟩
  split
  · exact ressF_k 0 b
  split
  · exact Fk_0 ⟨by decide, by decide⟩
  split
  · exact Fk_0 ⟨by decide, by decide⟩
  · exact Fk_0 ⟨by decide, by decide⟩
theorem chk_text (b : List GRes) : (chkF b).2.length ≤ 1000000 ∧ (xQ (chkF b).2).length ≤ 9000000000000000000 ∧ -9223372036854775808 ≤ (chkF b).1 ∧ (chkF b).1 < 9223372036854775808 := by
  obtain ⟨⟨h1, h2⟩, h3, h4⟩ := chkF_k b
  have key : ∀ (l : List ByteArray), (∀ x ∈ l, x.size ≤ 140737488351232) → (xQ l).length ≤ l.length * (140737488351232 + 2) := by
    intro l
    induction l with
    | nil => intro _; exact Nat.zero_le _
    | cons p l ih =>
      intro h
      have h1 := h p List.mem_cons_self
      have h2 := ih fun x hx => h x (List.mem_cons_of_mem _ hx)
      simp only [xQ, List.length_append, List.length_cons, List.length_nil, yE]
      rw [Nat.succ_mul]; omega
  have h5 := key _ h4
  have h6 : (chkF b).2.length * (140737488351232 + 2) ≤ 3 * (140737488351232 + 2) := Nat.mul_le_mul_right _ h3
  omega
end Go.Proofs
namespace Go.Proofs
open Go Go.Al
set_option maxRecDepth 10000
set_option maxRecDepth 100000
def gS30 : GSpan := ⟨1 :: List.replicate 15 0, 2 :: List.replicate 7 0, List.replicate 8 0, ⟨#[]⟩, ⟨#[]⟩, 0, 0, 0, [], [], [], 0, ⟨#[]⟩⟩
def gZ30 : GSpan := ⟨List.replicate 16 0, List.replicate 8 0, List.replicate 8 0, ⟨#[]⟩, ⟨#[]⟩, 0, 0, 0, [], [], [], 0, ⟨#[]⟩⟩
def gB30 : List GRes := [⟨[], [⟨⟨#[]⟩, ⟨#[]⟩, [gS30, gZ30]⟩]⟩]
def gE30 : List GRes := List.replicate 33 ⟨[], []⟩
theorem gS30_ok : gS30.ok := ⟨⟨by decide, by decide, by decide⟩, ⟨by decide, by decide, by decide⟩, ⟨by unfold i64; decide, by unfold u64; decide, by unfold u64; decide, by unfold i64; decide⟩, (fun a h => by cases h), (fun a h => by cases h), (fun a h => by cases h)⟩
theorem gZ30_ok : gZ30.ok := ⟨⟨by decide, by decide, by decide⟩, ⟨by decide, by decide, by decide⟩, ⟨by unfold i64; decide, by unfold u64; decide, by unfold u64; decide, by unfold i64; decide⟩, (fun a h => by cases h), (fun a h => by cases h), (fun a h => by cases h)⟩
theorem gB30_ok : okB gB30 := fun r hr => by
  cases List.mem_singleton.1 hr
  refine ⟨fun a h => (by cases h), fun c hc => ?_⟩
  cases List.mem_singleton.1 hc
  refine ⟨by decide, by decide, fun x hx => ?_⟩
  rcases List.mem_cons.1 hx with rfl | hx
  · exact gS30_ok
  · cases List.mem_singleton.1 hx; exact gZ30_ok
theorem gE30_ok : okB gE30 := fun r hr => by
  rw [List.eq_of_mem_replicate hr]
  exact ⟨fun a h => (by cases h), fun c hc => (by cases hc)⟩
def pS30 : AV := .agg [.agg (za gS30.trace), .agg (za gS30.id), .arr 8 gS30.parent, sv ⟨#[]⟩, sv ⟨#[]⟩, iv 0, uv 0, uv 0, .sl 7 [], .sl 3 [], .sl 26 [], .agg [iv 0, sv ⟨#[]⟩]]
theorem upS30 : Up pS30 gS30.av := Up.agg ⟨up_bytes rfl, up_bytes rfl, Up.refl _, Up.refl _, Up.refl _, Up.refl _, Up.refl _, Up.refl _, Up.refl _, Up.refl _, Up.refl _, Up.refl _, trivial⟩
def pB30 : AV := .agg [.sl 2 [.agg [.sl 7 [], .sl 3 [.agg [sv ⟨#[]⟩, sv ⟨#[]⟩, .sl 42 [pS30, gZ30.av]]]]]]
theorem upB30 : Up pB30 (xp gB30) := Up.agg ⟨Up.sl ⟨Up.agg ⟨Up.refl _, Up.sl ⟨Up.agg ⟨Up.refl _, Up.refl _, Up.sl ⟨upS30, Up.refl _, trivial⟩, trivial⟩, trivial⟩, trivial⟩, trivial⟩, trivial⟩
set_option maxHeartbeats 8000000 in
theorem works30_c : zg Tryz.prog Γ0 8 [] [bv true] := by
  refine zU Tryz.func8 rfl Tryz.ntmps8 (by kernel_rfl) rfl fun w0 I0 G0 => ?_
  refine zC <| zB <| g_u (zE rfl rfl) <| zF <| zA <| zC <| zB <| g_u (y4 rfl tV42 Tryz.underlying42 tS5 rfl rfl rfl rfl) <| g_u (y4 rfl tV44 Tryz.underlying44 tS5 rfl rfl rfl rfl) <| g_u (xB rfl tU52 us52 pl52 rfl rfl rfl rfl) <| g_uG (zx 1001 rfl rfl rfl tZ52) rfl ?_
  refine g_u (zM rfl rfl rfl tS52 (by first | exact beqW (GSpan.width _) | rfl) (by first | exact setS_w (z52_w.trans (GSpan.width _).symm) rfl | rfl)) ?_
  refine zF <| zA <| zC <| zB ?_
  refine g_u (zG rfl rfl rfl tA52 tS52 rfl (by first | exact getS_w (GSpan.width _) rfl | rfl)) ?_
  refine g_u (xB rfl tU52 us52 pl52 rfl rfl rfl rfl) <| g_u (zt (X0 := z52) rfl Tryz.underlying53 tS52 tZ52 rfl rfl rfl rfl rfl rfl rfl rfl) <| g_u (xB rfl tU55 us55 pl55 rfl rfl rfl rfl) <| g_u (zt (X0 := z55) rfl Tryz.underlying56 tS55 tZ55 rfl rfl rfl rfl rfl rfl rfl rfl) <| g_u (xB rfl tU58 us58 pl58 rfl rfl rfl rfl) <| g_u (zt (X0 := z58) rfl Tryz.underlying22 tS58 tZ58 rfl rfl rfl rfl rfl rfl rfl rfl) <| g_u (xB rfl tU24 us24 pl24 rfl rfl rfl rfl) <| g_uG (zx 1002 rfl rfl rfl tZ24) rfl <| g_u (zM rfl rfl rfl tS24 rfl rfl) <| zF <| zA <| zC <| zB ?_
  refine g_u (s_makeImm (X0 := zs58) (len := 33) (cap := 33) (n := 2) (by_ := 48) (il := 33) (ic := 33) (k1 := .i64) (k2 := .i64) (el := 58) rfl rfl rfl (by decide) (by decide) Tryz.underlying22 tS58 tU58 rfl rfl by58 rfl (by decide) (by decide)) ?_
  refine g_u (xB rfl tU24 us24 pl24 rfl rfl rfl rfl) <| g_uG (zx 1003 rfl rfl rfl tZ24) rfl <| g_u (zM rfl rfl rfl tS24 rfl rfl) <| zF <| zA <| zC <| aw_upB 1002 (xp gB30) rfl rfl upB30 <| zB <| g_u (zG rfl rfl rfl tA24 tS24 rfl rfl) ?_
  refine g_u (zQ (vchk_c gB30 gB30_ok (by decide)) rfl rfl) ?_
  refine g_u (zQ (ftext_c (chkF gB30).1 (chkF gB30).2 (chk_text gB30).1 (chk_text gB30).2.1 (chk_text gB30).2.2) rfl rfl) <| g_u (s_eqS rfl rfl rfl) <| g_u (zD rfl rfl) <| yQ (t := 21) rfl ?_
  rintro (hb1 | hb1)
  · rw [hb1]
    refine zf rfl rfl (zG rfl rfl rfl tA24 tS24 rfl rfl) ?_
    refine zf rfl rfl (zQ (vis_c gB30 gB30_ok (by decide)) rfl rfl) ?_
    refine zf rfl rfl (s_not rfl rfl) <| g_u (zo rfl rfl rfl) <| g_u (zD rfl rfl) <| yQ (t := 26) rfl ?_
    rintro (hb2 | hb2)
    · rw [hb2]
      refine zf rfl rfl (zG rfl rfl rfl tA24 tS24 rfl rfl) ?_
      refine zf rfl rfl (zQ (vlim_c gB30 gB30_ok (by decide)) rfl rfl) ?_
      refine zf rfl rfl (s_not rfl rfl) <| g_u (zo rfl rfl rfl) <| g_u (zD rfl rfl) <| yQ (t := 31) rfl ?_
      rintro (hb3 | hb3)
      · rw [hb3]
        refine zf rfl rfl (xB rfl tU24 us24 pl24 rfl rfl rfl rfl) ?_
        refine zf rfl rfl (zQ (vis_c [] (fun r h => by cases h) (by decide)) rfl rfl) ?_
        refine g_u (zo rfl rfl rfl) <| g_u (zD rfl rfl) <| yQ (t := 35) rfl ?_
        rintro (hb4 | hb4)
        · rw [hb4]
          refine zf rfl rfl (zj rfl rfl rfl tA24 tS24 rfl rfl) ?_
          refine zf rfl rfl (zQ (vlim_c gE30 gE30_ok (by decide)) rfl rfl) ?_
          refine g_u (zo rfl rfl rfl) <| g_u (zD rfl rfl) <| yQ (t := 39) rfl ?_
          rintro (hb5 | hb5)
          · rw [hb5]
            refine zf rfl rfl (zj rfl rfl rfl tA24 tS24 rfl rfl) ?_
            refine zf rfl rfl (zQ (vchk_c gE30 gE30_ok (by decide)) rfl rfl) ?_
            refine zf rfl rfl (zQ (fof_c (chkF gE30).1 (chkF gE30).2) rfl rfl) <| zf rfl rfl (yR rfl rfl rfl) <| g_u (zo rfl rfl rfl) <| g_u (zE rfl rfl) <| zF <| zA <| zI ?_
            exact ⟨⟨(rfl : toAV (Al.look _ _) = some _).trans (congrArg some (by (first | rfl | decide +kernel))), rfl⟩, trivial⟩
          · exact killT hb5 (by first | rfl | decide +kernel)
        · exact killT hb4 (by first | rfl | decide +kernel)
      · exact killT hb3 (by first | rfl | decide +kernel)
    · exact killT hb2 (by first | rfl | decide +kernel)
  · exact killT hb1 (by first | rfl | decide +kernel)
end Go.Proofs
namespace Go.Proofs
open Go Go.Al
def nB (k : Nat) : ByteArray := yC (List.replicate k 110)
theorem nB_step (k : Nat) : nB k ++ ⟨#[110]⟩ = nB (k + 1) := by
  unfold nB
  rw [List.replicate_succ', ← yy]; rfl
theorem nB_size (k : Nat) : (nB k).size = k := by unfold nB; rw [zk, List.length_replicate]
def wA (k : Nat) : GSpan := ⟨1 :: List.replicate 15 0, 2 :: List.replicate 7 0, List.replicate 8 0, ⟨#[]⟩, nB k, 0, 0, 0, [], [], [], 0, ⟨#[]⟩⟩
def room (n k : Nat) : List GRes := [⟨[], [⟨⟨#[]⟩, ⟨#[]⟩, List.replicate n (wA k)⟩]⟩]
theorem roomS_ok {k : Nat} (h : k ≤ 250) : (wA k).ok := by
  have z : (0 : Nat) ≤ maxLen := Nat.zero_le _
  exact ⟨⟨rfl, rfl, rfl⟩, ⟨z, by show (nB k).size ≤ maxLen; rw [nB_size]; unfold maxLen; omega, z⟩, ⟨by show i64 0; unfold i64; decide, by show u64 0; unfold u64; decide, by show u64 0; unfold u64; decide, by show i64 0; unfold i64; decide⟩, (fun a h => by cases h), (fun a h => by cases h), (fun a h => by cases h)⟩
theorem room_ok {n k : Nat} (h : k ≤ 250) : okB (room n k) := fun r hr => by
  have z : (0 : Nat) ≤ maxLen := Nat.zero_le _
  cases List.mem_singleton.1 hr
  refine ⟨fun a h => (by cases h), fun c hc => ?_⟩
  cases List.mem_singleton.1 hc
  exact ⟨z, z, fun x hx => by rw [List.eq_of_mem_replicate hx]; exact roomS_ok h⟩
theorem nB_name {k : Nat} (h : k ≤ 256) : yU (nB k) = 0 := by
  unfold yU
  have h1 : xS (nB k) = -1 := rB_ascii (l := List.replicate k 110) fun c hc => by rw [List.eq_of_mem_replicate hc]; decide
  rw [if_neg (by rw [h1]; decide), if_neg (by rw [nB_size]; omega)]
theorem n0_name : yU ⟨#[]⟩ = 0 := nB_name (k := 0) (by decide)
theorem roomS_fine {k : Nat} (h : k ≤ 250) : wL (wA k) = 0 := by
  have h1 := nB_name (k := k) (by omega)
  unfold wL
  have e : (wA k).name = nB k := rfl
  rw [e, h1, show (wA k).state = ⟨#[]⟩ from rfl, show (wA k).note = ⟨#[]⟩ from rfl, n0_name]
  rfl
theorem sum_rep {α : Type} (f : α → Nat) (x : α) : ∀ n : Nat, zu f (List.replicate n x) = n * f x
  | 0 => by simp [zu]
  | n + 1 => by rw [List.replicate_succ, zu, sum_rep f x n, Nat.succ_mul]; omega
theorem room_wt {n k : Nat} : wtB (room n k) = 2 + n * (1 + k) := by
  have e : (wA k).wt = 1 + k := by
    unfold GSpan.wt
    rw [show (wA k).name.size = k from nB_size k]
    show 1 + 0 + k + 0 + 0 + 0 + 0 = 1 + k
    omega
  show (1 + 0 + ((1 + 0 + 0 + zu GSpan.wt (List.replicate n (wA k))) + 0)) + 0 = 2 + n * (1 + k)
  rw [sum_rep, e]; omega
theorem room_W {n k : Nat} : batchW (room n k) = 144 + n * (512 + 6 * k) := by
  have e : spanW (wA k) ⟨#[]⟩ = 512 + 6 * k := by
    unfold spanW
    rw [show (wA k).name.size = k from nB_size k]
    show 512 + 6 * (0 + 0 + k + 0) + 0 + 0 + 0 = 512 + 6 * k
    omega
  have hs : xK (⟨[], [⟨⟨#[]⟩, ⟨#[]⟩, List.replicate n (wA k)⟩]⟩ : GRes) = ⟨#[]⟩ := (show textA [] skey = ⟨#[]⟩ from rfl)
  show 16 + ((64 + 0 + ((64 + 6 * (0 + 0) + zu (fun x => spanW x (xK (⟨[], [⟨⟨#[]⟩, ⟨#[]⟩, List.replicate n (wA k)⟩]⟩ : GRes))) (List.replicate n (wA k))) + 0)) + 0) = _
  rw [hs, sum_rep, e]; omega
theorem room_pl {n k : Nat} : (plR 0 (room n k)).length = n := by
  rw [plR_all]
  show ((List.replicate n (wA k) ++ []) ++ []).length = n
  simp
theorem room_chk {n k : Nat} (h : k ≤ 250) : (chkF (room n k)).1 = if 100 < n then 34 else if 65536 < 144 + n * (512 + 6 * k) then 36 else 0 := by
  have h1 : (ressF 0 (room n k)).1 = 0 := ressF_iff.2 fun r hr => by
    cases List.mem_singleton.1 hr
    refine ⟨rfl, (show 1 ≤ 16 by decide), fun c hc => ?_⟩
    cases List.mem_singleton.1 hc
    exact ⟨n0_name, n0_name, fun x hx => by rw [List.eq_of_mem_replicate hx]; exact roomS_fine h⟩
  unfold chkF
  rw [if_neg (by show ¬ 32 < 1; decide), if_neg (by omega), room_pl, room_W]
  split
  · rfl
  split
  · rfl
  · rfl
theorem rep_snoc {α β : Type} (f : α → β) (x : α) (k : Nat) : (List.replicate (k + 1) x).map f = (List.replicate k x).map f ++ [f x] := by rw [List.replicate_succ', List.map_append]; rfl
theorem rem8 {c m : Int} (hc : 0 ≤ c ∧ c < 256) (hm : 0 < m ∧ m < 256) : IntKind.i64.wrap (c.tmod m) = ((c.toNat % m.toNat : Nat) : Int) := by
  obtain ⟨n, rfl⟩ : ∃ n : Nat, c = n := ⟨c.toNat, by omega⟩
  obtain ⟨k, rfl⟩ : ∃ k : Nat, m = k := ⟨m.toNat, by omega⟩
  have e : ((n : Int).tmod k) = ((n % k : Nat) : Int) := by rw [Int.tmod_eq_emod_of_nonneg (by omega)]; rfl
  rw [e, Int.toNat_natCast, Int.toNat_natCast]
  have : n % k < k := Nat.mod_lt _ (by omega)
  rw [zR (by omega) (by omega)]
theorem room_expr {n k : Nat} (hn : n ≤ 120) (hk : k ≤ 250) : IntKind.i64.wrap (144 + IntKind.i64.wrap ((n : Int) * IntKind.i64.wrap (512 + IntKind.i64.wrap (6 * (k : Int))))) = ((144 + n * (512 + 6 * k) : Nat) : Int) := by
  rw [zR (n := 6 * (k : Int)) (by omega) (by omega), zR (n := 512 + 6 * (k : Int)) (by omega) (by omega)]
  have h : n * (512 + 6 * k) ≤ 120 * 2012 := Nat.mul_le_mul hn (by omega)
  have e : (n : Int) * (512 + 6 * (k : Int)) = ((n * (512 + 6 * k) : Nat) : Int) := by rw [Int.natCast_mul, Int.natCast_add, Int.natCast_mul]; rfl
  rw [e]
  generalize n * (512 + 6 * k) = m at h ⊢
  rw [zR (n := (m : Int)) (by omega) (by omega), zR (by omega) (by omega)]; omega
theorem room_gt {n k : Nat} (hn : n ≤ 120) (hk : k ≤ 250) {b : Bool} (h : decide (IntKind.i64.wrap (144 + IntKind.i64.wrap ((n : Int) * IntKind.i64.wrap (512 + IntKind.i64.wrap (6 * (k : Int))))) > 65536) = b) : b = decide (65536 < 144 + n * (512 + 6 * k)) := by
  rw [room_expr hn hk] at h
  rw [← h]
  exact decide_eq_decide.2 ⟨fun h => by have := h; omega, fun h => by omega⟩
end Go.Proofs
namespace Go.Proofs
open Go Go.Al
set_option maxRecDepth 10000
set_option maxHeartbeats 8000000 in
theorem validRoom_c (a c : Int) (ha : 0 ≤ a ∧ a < 256) (hc : 0 ≤ c ∧ c < 256) : zg Tryz.prog Γ0 4 [.v (.int .u8 a), .v (.int .u8 c)] [bv true] := by
  have kb : (c.toNat % 250) ≤ 250 := by omega
  have kw : wtB (room (a.toNat % 120) (c.toNat % 250)) ≤ 60000 := by rw [room_wt]; have : (a.toNat % 120) * (1 + (c.toNat % 250)) ≤ 120 * 251 := Nat.mul_le_mul (by omega) (by omega); omega
  have ko := room_ok (n := (a.toNat % 120)) kb
  have kc := room_chk (n := (a.toNat % 120)) kb
  refine zU Tryz.func4 rfl Tryz.ntmps4 (by kernel_rfl) rfl fun w0 I0 G0 => ?_
  refine zC <| zB <| g_u (zE rfl rfl) <| zF <| zA <| zC <| zB <| g_u (y4 rfl tV42 Tryz.underlying42 tS5 rfl rfl rfl rfl) <| g_u (y4 rfl tV44 Tryz.underlying44 tS5 rfl rfl rfl rfl) <| g_u (xB rfl tU52 us52 pl52 rfl rfl rfl rfl) <| g_uG (zx 1005 rfl rfl rfl tZ52) rfl ?_
  refine g_u (zM rfl rfl rfl tS52 (by first | exact beqW (GSpan.width _) | rfl) (by first | exact setS_w (z52_w.trans (GSpan.width _).symm) rfl | rfl)) ?_
  refine zF <| zA <| zC <| zC <| aw_upB 1005 (wA 0).av rfl rfl upS30 <| zB <| g_u (zE rfl rfl) <| zF <| zA <| zT ?_
  refine z4 (fun i : Nat => [(0, .imm (.v (.int .u8 a))), (1, .imm (.v (.int .u8 c))), (5, .ptr 1005 0), (1005, .box 52 (.imm (wA i).av)), (6, .imm (iv (i : Int)))]) (fun i => i ≤ (c.toNat % 250)) (fun i => (c.toNat % 250) - i) (0) ?_ ⟨rfl, rfl, rfl, rfl, rfl, trivial⟩ ?_
  · exact Nat.zero_le _
  · rintro i h1; have h1 : i ≤ (c.toNat % 250) := h1
    refine zC <| zC <| zB <| g_u (zD rfl rfl) <| g_u (zD rfl rfl) ?_
    refine g_u (s_rem rfl rfl rfl (by first | decide | omega | (((try simp only [qa, qb, qc, ne_eq, beq_iff_eq, qd, beq_eq_false_iff_ne, Bool.not_eq_true', Bool.not_eq_false', gt_iff_lt, ge_iff_le] at *); (repeat simp (disch := omega) only [zR, zh] at *)); omega))) ?_
    refine g_u (s_cvII rfl rfl Tryz.underlying5 Tryz.underlying3) <| g_u (yh rfl rfl rfl) <| zF <| zA ?_
    refine zL rfl (fun hb1 => ?_) (fun hb1 => ?_)
    · have hi : i < (c.toNat % 250) := by have e := of_decide_eq_true hb1; rw [rem8 hc (by decide)] at e; have e2 : (250 : Int).toNat = 250 := rfl; have e3 : (120 : Int).toNat = 120 := rfl; simp only [e2, e3] at e; omega
      refine zO <| zA <| zC <| zT <| zB <| g_u (zH rfl rfl fa52_4 rfl) <| g_u (zG rfl rfl rfl tA9 tS9 rfl rfl) ?_
      refine g_u (s_catS rfl rfl rfl (by show _ ≤ (9223372036854775807 : Int); have h2 : (ByteArray.mk #[110]).size = 1 := rfl; have h3 : (wA i).name.size = i := nB_size i; (try dsimp only); omega)) ?_
      refine g_u (zH rfl rfl fa52_4 rfl) <| g_u (zM rfl rfl rfl tS9 rfl rfl) <| zF <| zJ <| zA ?_
      refine aw_upB 1005 (wA (i + 1)).av rfl rfl (by unfold wA; rw [← nB_step i]; exact Up.refl _) ?_
      refine zB <| g_u (zD rfl rfl) <| g_u (z6 rfl rfl rfl) <| g_u (zE rfl rfl) <| zF <| zA ?_
      refine ⟨i + 1, hi, ⟨rfl, rfl, rfl, rfl, z_ rfl (by rw [zR (by omega) (by omega)]; rfl), trivial⟩, by (try dsimp only); omega⟩
    · have hin : i = (c.toNat % 250) := by have e := of_decide_eq_false hb1; rw [rem8 hc (by decide)] at e; have e2 : (250 : Int).toNat = 250 := rfl; have e3 : (120 : Int).toNat = 120 := rfl; simp only [e2, e3] at e; omega
      refine yJ <| ze <| ze <| z8 <| zA <| zC <| zB <| g_u (zE rfl rfl) <| zF <| zA <| zC <| zC <| aw_newtok 3007 7 42 rfl rfl rfl rfl <| zB <| g_u (zE rfl rfl) <| zF <| zA <| zT ?_
      refine z4 (fun j : Nat => [(0, .imm (.v (.int .u8 a))), (1, .imm (.v (.int .u8 c))), (5, .ptr 1005 0), (1005, .box 52 (.imm (wA (c.toNat % 250)).av)), (7, .slg 3007 42 ((List.replicate j (wA (c.toNat % 250))).map GSpan.av)), (3007, .tok 42 ((List.replicate j (wA (c.toNat % 250))).map GSpan.av)), (8, .imm (iv (j : Int)))]) (fun j => j ≤ (a.toNat % 120)) (fun j => (a.toNat % 120) - j) (0) ?_ ⟨rfl, rfl, rfl, (by rw [hin]; rfl), rfl, rfl, rfl, trivial⟩ ?_
      · exact Nat.zero_le _
      · rintro j h2; have h2 : j ≤ (a.toNat % 120) := h2
        refine zC <| zC <| zB <| g_u (zD rfl rfl) <| g_u (zD rfl rfl) ?_
        refine g_u (s_rem rfl rfl rfl (by first | decide | omega | (((try simp only [qa, qb, qc, ne_eq, beq_iff_eq, qd, beq_eq_false_iff_ne, Bool.not_eq_true', Bool.not_eq_false', gt_iff_lt, ge_iff_le] at *); (repeat simp (disch := omega) only [zR, zh] at *)); omega))) ?_
        refine g_u (s_cvII rfl rfl Tryz.underlying5 Tryz.underlying3) <| g_u (yh rfl rfl rfl) <| zF <| zA ?_
        refine zL rfl (fun hb2 => ?_) (fun hb2 => ?_)
        · have hj : j < (a.toNat % 120) := by have e := of_decide_eq_true hb2; rw [rem8 ha (by decide)] at e; have e2 : (250 : Int).toNat = 250 := rfl; have e3 : (120 : Int).toNat = 120 := rfl; simp only [e2, e3] at e; omega
          refine zO <| zA <| zC <| zT <| zB <| g_u (yG rfl rfl) ?_
          refine g_u (zG rfl rfl rfl tA52 tS52 rfl (by first | exact getS_w (GSpan.width _) rfl | rfl)) ?_
          refine g_u (zt (X0 := z52) rfl Tryz.underlying53 tS52 tZ52 rfl rfl rfl rfl rfl rfl rfl rfl) ?_
          refine g_u (xD rfl rfl rfl rfl rfl Tryz.underlying53 Tryz.underlying53 tS52 zv52 rfl (by decide) by52 (by (try dsimp only); simp only [List.length_append, List.length_cons, List.length_nil, List.length_map, List.length_replicate]; omega) (by (try dsimp only); simp only [List.length_append, List.length_cons, List.length_nil, List.length_map, List.length_replicate]; omega)) ?_
          refine g_u (yI rfl rfl) <| zF <| zJ <| zA <| zB <| g_u (zD rfl rfl) <| g_u (z6 rfl rfl rfl) <| g_u (zE rfl rfl) <| zF <| zA ?_
          have et := rep_snoc GSpan.av (wA (c.toNat % 250)) j
          refine ⟨j + 1, hj, ⟨rfl, rfl, rfl, rfl, look_slg rfl et.symm, wj rfl et.symm, z_ rfl (by rw [zR (by omega) (by omega)]; rfl), trivial⟩, by (try dsimp only); omega⟩
        · have hjn : j = (a.toNat % 120) := by have e := of_decide_eq_false hb2; rw [rem8 ha (by decide)] at e; have e2 : (250 : Int).toNat = 250 := rfl; have e3 : (120 : Int).toNat = 120 := rfl; simp only [e2, e3] at e; omega
          subst hjn
          refine yJ <| ze <| ze <| z8 <| zA <| zC <| zB <| g_u (yG rfl rfl) <| g_u (xB rfl tU55 us55 pl55 rfl rfl rfl rfl) <| g_u (zt (X0 := z55) rfl Tryz.underlying56 tS55 tZ55 rfl rfl rfl rfl rfl rfl rfl rfl) <| g_u (xB rfl tU58 us58 pl58 rfl rfl rfl rfl) <| g_u (zt (X0 := z58) rfl Tryz.underlying22 tS58 tZ58 rfl rfl rfl rfl rfl rfl rfl rfl) <| g_u (xB rfl tU24 us24 pl24 rfl rfl rfl rfl) <| g_uG (zx 1009 rfl rfl rfl tZ24) rfl <| g_u (zM rfl rfl rfl tS24 rfl rfl) <| zF <| zA <| zC <| zB <| g_u (zE rfl rfl) <| zF <| zA <| zC <| zC <| zB <| g_u (yG rfl rfl) <| g_u (yM rfl rfl Tryz.underlying53) <| g_u (wh rfl rfl rfl) <| zF <| zA ?_
          refine zL rfl (fun hb3 => ?_) (fun hb3 => ?_)
          · have qn : 100 < (a.toNat % 120) := by have e := of_decide_eq_true hb3; simp only [List.length_map, List.length_replicate] at e; omega
            refine zB <| g_u (zE rfl rfl) <| zF <| zA <| zC <| zB <| g_u (zj rfl rfl rfl tA24 tS24 rfl rfl) <| g_u (zQ (vchk_c (room (a.toNat % 120) (c.toNat % 250)) ko kw) rfl rfl) <| g_u (zQ (fof_c (chkF (room (a.toNat % 120) (c.toNat % 250))).1 (chkF (room (a.toNat % 120) (c.toNat % 250))).2) rfl rfl) <| g_u (zD rfl rfl) <| g_u (yR rfl rfl rfl) <| g_u (zD rfl rfl) <| yQ (t := 60) rfl ?_
            rintro (hb4 | hb4)
            · rw [hb4]
              refine zf rfl rfl (zQ (works30_c) rfl rfl) <| g_u (zo rfl rfl rfl) <| g_u (zE rfl rfl) <| zF <| zA <| zI ?_
              exact ⟨⟨(rfl : toAV (Al.look _ _) = some _).trans (congrArg some (by rfl)), rfl⟩, trivial⟩
            · exact killT hb4 ((by first | rfl | (rw [kc, if_pos qn]; rfl) | (rw [kc, if_neg qn, if_pos q6]; rfl) | (rw [kc, if_neg qn, if_neg q6]; rfl)))
          · have qn : ¬ 100 < (a.toNat % 120) := by have e := of_decide_eq_false hb3; simp only [List.length_map, List.length_replicate] at e; omega
            refine zC <| zB <| g_u (yG rfl rfl) <| g_u (yM rfl rfl Tryz.underlying53) <| g_u (zH rfl rfl fa52_4 rfl) <| g_u (zG rfl rfl rfl tA9 tS9 rfl rfl) <| g_u (xT rfl rfl Tryz.underlying9) <| g_u (s_mul rfl rfl rfl) <| g_u (z6 rfl rfl rfl) <| g_u (s_mul rfl rfl rfl) <| g_u (z6 rfl rfl rfl) <| g_u (wh rfl rfl rfl) <| zF <| zA ?_
            refine zL rfl (fun hb5 => ?_) (fun hb5 => ?_)
            · have q5 := room_gt (n := (a.toNat % 120)) (k := (c.toNat % 250)) (by omega) kb (by have e := hb5; simp only [List.length_map, List.length_replicate, show (wA (c.toNat % 250)).name.size = (c.toNat % 250) from nB_size _] at e; exact e)
              have q6 := of_decide_eq_true q5.symm
              refine zB <| g_u (zE rfl rfl) <| zF <| zA <| zC <| zB <| g_u (zj rfl rfl rfl tA24 tS24 rfl rfl) <| g_u (zQ (vchk_c (room (a.toNat % 120) (c.toNat % 250)) ko kw) rfl rfl) <| g_u (zQ (fof_c (chkF (room (a.toNat % 120) (c.toNat % 250))).1 (chkF (room (a.toNat % 120) (c.toNat % 250))).2) rfl rfl) <| g_u (zD rfl rfl) <| g_u (yR rfl rfl rfl) <| g_u (zD rfl rfl) <| yQ (t := 60) rfl ?_
              rintro (hb6 | hb6)
              · rw [hb6]
                refine zf rfl rfl (zQ (works30_c) rfl rfl) <| g_u (zo rfl rfl rfl) <| g_u (zE rfl rfl) <| zF <| zA <| zI ?_
                exact ⟨⟨(rfl : toAV (Al.look _ _) = some _).trans (congrArg some (by rfl)), rfl⟩, trivial⟩
              · exact killT hb6 ((by first | rfl | (rw [kc, if_pos qn]; rfl) | (rw [kc, if_neg qn, if_pos q6]; rfl) | (rw [kc, if_neg qn, if_neg q6]; rfl)))
            · have q5 := room_gt (n := (a.toNat % 120)) (k := (c.toNat % 250)) (by omega) kb (by have e := hb5; simp only [List.length_map, List.length_replicate, show (wA (c.toNat % 250)).name.size = (c.toNat % 250) from nB_size _] at e; exact e)
              have q6 := of_decide_eq_false q5.symm
              refine zO <| zA <| zC <| zB <| g_u (zj rfl rfl rfl tA24 tS24 rfl rfl) <| g_u (zQ (vchk_c (room (a.toNat % 120) (c.toNat % 250)) ko kw) rfl rfl) <| g_u (zQ (fof_c (chkF (room (a.toNat % 120) (c.toNat % 250))).1 (chkF (room (a.toNat % 120) (c.toNat % 250))).2) rfl rfl) <| g_u (zD rfl rfl) <| g_u (yR rfl rfl rfl) <| g_u (zD rfl rfl) <| yQ (t := 60) rfl ?_
              rintro (hb7 | hb7)
              · rw [hb7]
                refine zf rfl rfl (zQ (works30_c) rfl rfl) <| g_u (zo rfl rfl rfl) <| g_u (zE rfl rfl) <| zF <| zA <| zI ?_
                exact ⟨⟨(rfl : toAV (Al.look _ _) = some _).trans (congrArg some (by rfl)), rfl⟩, trivial⟩
              · exact killT hb7 ((by first | rfl | (rw [kc, if_pos qn]; rfl) | (rw [kc, if_neg qn, if_pos q6]; rfl) | (rw [kc, if_neg qn, if_neg q6]; rfl)))
end Go.Proofs
