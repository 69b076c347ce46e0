/- Texts that the proofs of this claim share, part 6: the abstract logic, plain Lean on values and batches, and walks. No condition but those typed in each lemma. -/
import Derived.Maps.RangeRun
import Derived.Sort.OwnSorted
import Derived.Test.YtiolofgnkkhjoaaGreatDoorQ5
set_option linter.unusedSimpArgs false
set_option linter.unusedVariables false
set_option maxHeartbeats 400000
namespace Go.Proofs
open Go Go.Al
set_option maxRecDepth 10000
theorem nil2nd {P : Program} {Γ : List (Nat × AV)} {f : FuncId} {n : Nat} {x : AV} {xs rs : List AV} (c : zo P Γ f (x :: .sl n [] :: xs) rs) : zo P Γ f (x :: .v (.slice none 0 0) :: xs) rs := c.args ⟨Up.refl _, Up.nil n, Ups.refl xs⟩
theorem kept_c (l : List GA) (ks : List ByteArray) (ho : ∀ a ∈ l, a.ok) (hw : wtAs l ≤ 9000000) (hk : ks.length ≤ 1000000000) : zo Tryz.prog Γ0 98 [(.sl 7 (l.map avA)), (.sl 1 (ks.map fun x => sv x))] [.sl 7 ((vI ks l).map avA)] := by
  have hl := yi l
  refine z_ Tryz.func98 rfl Tryz.ntmps98 (by kernel_rfl) rfl fun w0 I0 G0 => ?_
  refine zD <| zB <| g_u (zE rfl rfl) <| zI <| zA <| zD <| zB <| g_u (zC rfl rfl) <| g_u (za (X0 := z5) rfl Tryz.underlying42 tS5 tZ5 rfl rfl rfl rfl rfl rfl rfl rfl) ?_
  refine g_u (zP (plainAs_c l nJ ho (by omega) (by decide)) rfl rfl) ?_
  refine g_u (zC rfl rfl) ?_
  refine g_u (zP (drop_c (l.map (yl nJ)) ks (by rw [List.length_map]; omega) hk) rfl rfl) ?_
  refine g_u (zE rfl rfl) <| zI <| zA <| zL ?_
  exact ⟨⟨(rfl : toAV (Al.look _ _) = some _).trans (congrArg some (by rfl)), rfl⟩, trivial⟩
theorem rkept_c (l : List GA) (ks : List ByteArray) (ho : ∀ a ∈ l, a.ok) (hw : wtAs l ≤ 9000000) (hk : ks.length ≤ 1000000000) : zo Tryz.prog Γ0 64 [(.sl 7 (l.map avA)), (.sl 1 (ks.map fun x => sv x))] [.sl 7 ((vI ks l).map avA)] := by
  have hl := yi l
  have hd : ∀ a ∈ xE ks l, a.ok := fun a h => ho a (wU h).1
  have hwd := dropA_wt ks l
  refine z_ Tryz.func64 rfl Tryz.ntmps64 (by kernel_rfl) rfl fun w0 I0 G0 => ?_
  refine zD <| zB <| g_u (zE rfl rfl) <| zI <| zA <| zD <| zB <| g_u (zC rfl rfl) <| g_u (zC rfl rfl) ?_
  refine g_u (zP (rdrop_c l ks (by omega) hk) rfl rfl) ?_
  refine g_u (za (X0 := z5) rfl Tryz.underlying42 tS5 tZ5 rfl rfl rfl rfl rfl rfl rfl rfl) ?_
  refine g_u (zP (rplainAs_c (xE ks l) nJ hd (by omega) (by decide)) rfl rfl) ?_
  refine g_u (zE rfl rfl) <| zI <| zA <| zL ?_
  exact ⟨⟨(rfl : toAV (Al.look _ _) = some _).trans (congrArg some (by (unfold vI; rw [drop_plain]))), rfl⟩, trivial⟩
theorem wholeN_c (n : Int) : zo Tryz.prog Γ0 149 [uv n] [uv (wholeN n)] := by
  refine z_ Tryz.func149 rfl Tryz.ntmps149 (by kernel_rfl) rfl fun w0 I0 G0 => ?_
  refine zD <| zB <| g_u (zE rfl rfl) <| zI <| zA <| zD <| zB <| g_u (zC rfl rfl) <| g_u (zP (micro_c _) rfl rfl) <| g_u (xu (nano_c _) rfl rfl) <| g_u (y8 rfl rfl) <| g_u (zj rfl rfl rfl rfl) <| g_u (zj rfl rfl rfl rfl) <| g_u (zE rfl rfl) <| g_u (zE rfl rfl) <| zI <| zA <| zD <| zB <| g_u (zC rfl rfl) <| g_u (zE rfl rfl) <| zI <| zA <| zL ?_
  exact ⟨⟨(rfl : toAV (Al.look _ _) = some _).trans (congrArg some (by rfl)), rfl⟩, trivial⟩
theorem rwholeN_c (n : Int) : zo Tryz.prog Γ0 96 [uv n] [uv (wholeN n)] := by
  refine z_ Tryz.func96 rfl Tryz.ntmps96 (by kernel_rfl) rfl fun w0 I0 G0 => ?_
  refine zD <| zB <| g_u (zE rfl rfl) <| zI <| zA <| zD <| zB <| g_u (zC rfl rfl) <| g_u (zP (rmicro_c _) rfl rfl) <| g_u (xu (rnano_c _) rfl rfl) <| g_u (y8 rfl rfl) <| g_u (zj rfl rfl rfl rfl) <| g_u (zj rfl rfl rfl rfl) <| g_u (zE rfl rfl) <| g_u (zE rfl rfl) <| zI <| zA <| zD <| zB <| g_u (zC rfl rfl) <| g_u (zE rfl rfl) <| zI <| zA <| zL ?_
  exact ⟨⟨(rfl : toAV (Al.look _ _) = some _).trans (congrArg some (by (rw [← nano_same]; rfl))), rfl⟩, trivial⟩
theorem njE_c (e : GE) (ho : e.ok) (hw : e.wt ≤ 9000000) : zo Tryz.prog Γ0 128 [e.av] [(njE e).av] := by
  have q : e.wt = 1 + e.name.size + wtAs e.attrs := rfl
  refine z_ Tryz.func128 rfl Tryz.ntmps128 (by kernel_rfl) rfl fun w0 I0 G0 => ?_
  refine zD <| zB <| g_uG (zi 1001 rfl rfl rfl rfl) rfl <| g_uG (zl 1002 rfl rfl rfl tZ92) rfl <| zI <| zA <| zD <| yE yt <| g_u (zF rfl rfl fa92_0 rfl) <| g_u (zG rfl rfl rfl tA57 tS57 rfl rfl) <| g_u (zP (wholeN_c _) rfl rfl) <| g_u (zF rfl rfl fa92_1 rfl) <| g_u (zG rfl rfl rfl tA9 tS9 rfl rfl) <| g_u (zF rfl rfl fa92_2 rfl) <| g_u (zG rfl rfl rfl tA44 tS44 rfl rfl) <| g_u (za (X0 := z9) rfl Tryz.underlying27 tS9 tZ9 rfl rfl rfl rfl rfl rfl rfl rfl) ?_
  refine g_u (zP (kept_c e.attrs [k_event] ho.2.2 (by omega) (by decide)) rfl rfl) ?_
  refine g_u (y_ rfl tU92 us92 pl92 rfl rfl rfl rfl) <| g_u (zK rfl rfl rfl tS92 rfl rfl) ?_
  refine zI ⟨by kernel_rfl, ?_⟩
  refine zA <| zL ?_
  exact ⟨⟨_, _, _, _, _, _, _, rfl, rfl, tA92, tS92, rfl, rfl, (rfl : toAV _ = some _).trans (congrArg some (by rfl))⟩, trivial⟩
set_option maxHeartbeats 8000000 in
theorem njS_c (s : GSpan) (ho : s.ok) (hw : s.wt ≤ 9000000) : zo Tryz.prog Γ0 99 [s.av] [(njS s).av] := by
  have qw : s.wt = 1 + s.state.size + s.name.size + s.note.size + wtAs s.attrs + z7 GE.wt s.events + z7 GL.wt s.links := rfl
  have ql := yR GE.wt (fun e => by unfold GE.wt; omega) s.events
  have qm := yR GL.wt (fun e => by unfold GL.wt; omega) s.links
  refine z_ Tryz.func99 rfl Tryz.ntmps99 (by kernel_rfl) rfl fun w0 I0 G0 => ?_
  refine zD <| zB <| g_uG (zi 1001 rfl rfl rfl rfl) rfl <| g_uG (zl 1002 rfl rfl rfl tZ63) rfl <| zI <| zA <| zD <| zB <| g_u (zF rfl rfl fa63_6 rfl) <| g_u (zG rfl rfl rfl tA57 tS57 rfl rfl) <| g_u (zF rfl rfl fa63_7 rfl) <| g_u (zG rfl rfl rfl tA57 tS57 rfl rfl) <| g_u (y_ rfl tU105 us105 pl105 rfl rfl rfl rfl) <| g_u (zP (whole_c ⟨_, _⟩) rfl rfl) <| g_uG (zl 1003 rfl rfl rfl tZ105) rfl <| g_u (zK rfl rfl rfl tS105 rfl rfl) <| zI <| zA <| zD <| zB ?_
  refine g_u (zG rfl rfl rfl tA63 tS63 rfl (by first | exact xP (GSpan.width _) rfl | rfl)) ?_
  refine g_uG (zl 1004 rfl rfl rfl tZ63) rfl ?_
  refine g_u (zK rfl rfl rfl tS63 (by first | exact beqW (GSpan.width _) | rfl) (by first | exact xy (z63_w.trans (GSpan.width _).symm) rfl | rfl)) ?_
  refine zI <| zA <| zD <| yE yt <| g_u (zF rfl rfl fa105_0 rfl) <| g_u (zG rfl rfl rfl tA57 tS57 rfl rfl) <| g_u (zF rfl rfl fa105_1 rfl) <| g_u (zG rfl rfl rfl tA57 tS57 rfl rfl) <| g_u (zF rfl rfl fa63_3 rfl) <| g_u (zK rfl rfl rfl tS9 rfl rfl) <| g_u (zF rfl rfl fa63_6 rfl) <| g_u (zK rfl rfl rfl tS57 rfl rfl) <| g_u (zF rfl rfl fa63_7 rfl) <| g_u (zK rfl rfl rfl tS57 rfl rfl) ?_
  refine zI ⟨by kernel_rfl, ?_⟩
  refine zA <| zD <| zB <| g_u (zF rfl rfl wy rfl) <| g_u (zG rfl rfl rfl tA44 tS44 rfl rfl) <| g_u (za (X0 := z9) rfl Tryz.underlying27 tS9 tZ9 rfl rfl rfl rfl rfl rfl rfl rfl) ?_
  refine g_u (zP (kept_c s.attrs k4 ho.2.2.2.1 (by omega) (by decide)) rfl rfl) ?_
  refine g_u (zF rfl rfl wy rfl) <| g_u (zK rfl rfl rfl tS44 rfl rfl) <| zI <| zA <| zD <| zB <| g_u (zF rfl rfl yw rfl) <| g_u (zK rfl rfl rfl tS58 rfl rfl) <| g_u (zF rfl rfl yy rfl) <| g_u (zK rfl rfl rfl tS59 rfl rfl) <| zI <| zA <| zD <| zD <| yn 3009 1004 3 38 rfl rfl rfl rfl rfl rfl rfl <| zB <| g_u (zF rfl rfl yw rfl) <| g_u (zG rfl rfl rfl tA58 tS58 rfl rfl) <| g_u (zw rfl rfl Tryz.underlying58) <| g_u (zC rfl rfl) <| zI <| zA <| zU ?_
  refine zp (fun i : Nat => [(1, .ptr 1001 0), (1001, .box 63 (.imm s.av)), (2, .ptr 1002 0), (1002, .box 63 (.imm z63)), (4, .ptr 1004 0), (1004, .box 63 (.agg [.imm (.arr 16 s.trace), .imm (.arr 8 s.id), .imm (.arr 8 s.parent), .imm (sv ⟨#[]⟩), .imm (sv s.name), .imm (iv s.kind), .imm (uv (xH ⟨s.start, s.fin⟩).lo), .imm (uv (xH ⟨s.start, s.fin⟩).hi), .imm (.sl 7 ((vI k4 s.attrs).map avA)), .slg 3009 3 ((s.events.take i).map fun e => (njE e).av), .imm (.v (.slice none 0 0)), .imm (.agg [iv s.code, sv s.note])])), (3009, .tok 3 ((s.events.take i).map fun e => (njE e).av)), (31, .imm (.sl 3 (s.events.map GE.av))), (32, .imm (iv (s.events.length : Int))), (33, .imm (iv (i : Int)))]) (fun i => i ≤ s.events.length) (fun i => s.events.length - i) (0) ?_ ⟨rfl, rfl, rfl, rfl, rfl, rfl, rfl, rfl, zZ rfl (by rw [List.length_map]), rfl, trivial⟩ ?_
  · exact Nat.zero_le _
  · rintro i h1; have h1 : i ≤ s.events.length := h1
    refine zD <| zB <| g_u (yb rfl rfl rfl) <| zI <| zA <| zD ?_
    refine zW rfl (fun hb1 => ?_) (fun hb1 => ?_)
    · have hi : i < s.events.length := by have := of_decide_eq_true hb1; (try simp only [List.length_map] at this); omega
      have hex := yD GE.wt (xm hi)
      have heq : (nthE s.events i).wt = 1 + (nthE s.events i).name.size + wtAs (nthE s.events i).attrs := rfl
      have heo := ho.2.2.2.2.1 _ (xm hi)
      refine zY <| zA <| zD <| zU <| zD <| zB ?_
      refine g_u (zJ rfl rfl rfl Tryz.underlying58 tS92 (by omega) (ixE hi)) ?_
      refine g_u (zT rfl rfl tA92 tS92 rfl rfl) <| g_uG (zl 1006 rfl rfl rfl tZ92) rfl <| g_u (zK rfl rfl rfl tS92 rfl rfl) <| zI <| zA <| yE yt <| g_u (zF rfl rfl yw rfl) <| g_u (yj rfl rfl rfl tA58 tS58 rfl rfl) <| g_u (zk rfl rfl rfl tA92 tS92 rfl rfl) ?_
      refine g_u (zP (njE_c (nthE s.events i) heo (by omega)) rfl rfl) ?_
      refine g_u (za (X0 := z92) rfl Tryz.underlying58 tS92 tZ92 rfl rfl rfl rfl rfl rfl rfl rfl) ?_
      refine g_u (yA rfl rfl rfl rfl rfl Tryz.underlying58 Tryz.underlying58 tS92 zv92 rfl (by decide) by92 (by (try dsimp only); simp only [List.length_append, List.length_cons, List.length_nil, List.length_map, List.length_take, List.length_drop]; omega) (by (try dsimp only); simp only [List.length_append, List.length_cons, List.length_nil, List.length_map, List.length_take, List.length_drop]; omega)) ?_
      refine g_u (zF rfl rfl yw rfl) <| g_u (xO rfl rfl rfl rfl tS58 rfl rfl) ?_
      refine zI ⟨by kernel_rfl, ?_⟩
      refine zX <| zA <| zB <| g_u (yG rfl rfl rfl) <| g_u (zC rfl rfl) <| zI <| zA ?_
      have et : ((s.events.take (i + 1)).map fun e => (njE e).av) = ((s.events.take i).map fun e => (njE e).av) ++ [(njE (nthE s.events i)).av] := by rw [zx (yZ (d := ge0) hi), List.map_append]; rfl
      refine ⟨i + 1, hi, ⟨rfl, rfl, rfl, rfl, rfl, (by rw [et]; rfl), z8 rfl et.symm, rfl, rfl, zZ rfl (by rw [ze (by omega) (by omega)]; rfl), trivial⟩, by (try dsimp only); omega⟩
    · have hin : i = s.events.length := by have := of_decide_eq_false hb1; (try simp only [List.length_map] at this); omega
      refine zu <| zR <| zR <| zn <| zA <| zD <| zD <| yn 3010 1004 26 39 rfl rfl rfl rfl rfl rfl rfl <| zB <| g_u (zF rfl rfl yy rfl) <| g_u (zG rfl rfl rfl tA59 tS59 rfl rfl) <| g_u (zw rfl rfl Tryz.underlying59) <| g_u (zC rfl rfl) <| zI <| zA <| zU ?_
      refine zp (fun j : Nat => [(1, .ptr 1001 0), (1001, .box 63 (.imm s.av)), (2, .ptr 1002 0), (1002, .box 63 (.imm z63)), (4, .ptr 1004 0), (1004, .box 63 (.agg [.imm (.arr 16 s.trace), .imm (.arr 8 s.id), .imm (.arr 8 s.parent), .imm (sv ⟨#[]⟩), .imm (sv s.name), .imm (iv s.kind), .imm (uv (xH ⟨s.start, s.fin⟩).lo), .imm (uv (xH ⟨s.start, s.fin⟩).hi), .imm (.sl 7 ((vI k4 s.attrs).map avA)), .slg 3009 3 (s.events.map fun e => (njE e).av), .slg 3010 26 ((s.links.take j).map fun e => (njL e).av), .imm (.agg [iv s.code, sv s.note])])), (3010, .tok 26 ((s.links.take j).map fun e => (njL e).av)), (46, .imm (.sl 26 (s.links.map GL.av))), (47, .imm (iv (s.links.length : Int))), (48, .imm (iv (j : Int)))]) (fun j => j ≤ s.links.length) (fun j => s.links.length - j) (0) ?_ ⟨rfl, rfl, rfl, rfl, rfl, (by rw [hin, List.take_length]; rfl), rfl, rfl, zZ rfl (by rw [List.length_map]), rfl, trivial⟩ ?_
      · exact Nat.zero_le _
      · rintro j h1; have h1 : j ≤ s.links.length := h1
        refine zD <| zB <| g_u (yb rfl rfl rfl) <| zI <| zA <| zD ?_
        refine zW rfl (fun hb2 => ?_) (fun hb2 => ?_)
        · have hj : j < s.links.length := by have := of_decide_eq_true hb2; (try simp only [List.length_map] at this); omega
          refine zY <| zA <| zD <| zU <| zD <| zB ?_
          refine g_u (zJ rfl rfl rfl Tryz.underlying59 tS94 (by omega) (ixL hj)) ?_
          refine g_u (zT rfl rfl tA94 tS94 rfl (by first | exact xP (GL.width _) rfl | rfl)) ?_
          refine g_uG (zl 1008 rfl rfl rfl tZ94) rfl ?_
          refine g_u (zK rfl rfl rfl tS94 (by first | exact beqW (GL.width _) | rfl) (by first | exact xy (z94_w.trans (GL.width _).symm) rfl | rfl)) ?_
          refine zI <| zA <| zB <| g_u (zF rfl rfl yy rfl) <| g_u (yj rfl rfl rfl tA59 tS59 rfl rfl) <| g_u (zF rfl rfl fa94_0 rfl) <| g_u (zk rfl rfl rfl tA54 tS54 rfl rfl) <| g_u (zF rfl rfl fa94_1 rfl) <| g_u (zG rfl rfl rfl tA56 tS56 rfl rfl) <| g_u (y_ rfl tU94 us94 pl94 rfl rfl rfl rfl) <| g_u (za (X0 := z94) rfl Tryz.underlying59 tS94 tZ94 rfl rfl rfl rfl rfl rfl rfl rfl) ?_
          refine g_u (yA rfl rfl rfl rfl rfl Tryz.underlying59 Tryz.underlying59 tS94 zv94 rfl (by decide) by94 (by (try dsimp only); simp only [List.length_append, List.length_cons, List.length_nil, List.length_map, List.length_take, List.length_drop]; omega) (by (try dsimp only); simp only [List.length_append, List.length_cons, List.length_nil, List.length_map, List.length_take, List.length_drop]; omega)) ?_
          refine g_u (zF rfl rfl yy rfl) <| g_u (xO rfl rfl rfl rfl tS59 rfl rfl) <| zI <| zX <| zA <| zB <| g_u (yG rfl rfl rfl) <| g_u (zC rfl rfl) <| zI <| zA ?_
          have et : ((s.links.take (j + 1)).map fun e => (njL e).av) = ((s.links.take j).map fun e => (njL e).av) ++ [(njL (nthL s.links j)).av] := by rw [zx (yZ (d := gl0) hj), List.map_append]; rfl
          refine ⟨j + 1, hj, ⟨rfl, rfl, rfl, rfl, rfl, (by rw [et]; rfl), z8 rfl et.symm, rfl, rfl, zZ rfl (by rw [ze (by omega) (by omega)]; rfl), trivial⟩, by (try dsimp only); omega⟩
        · have hjn : j = s.links.length := by have := of_decide_eq_false hb2; (try simp only [List.length_map] at this); omega
          refine zu <| zR <| zR <| zn <| zA <| zD <| zB <| g_u (zk rfl rfl rfl tA63 tS63 rfl rfl) ?_
          refine g_u (zK rfl rfl rfl tS63 (by first | exact beqW (GSpan.width _) | rfl) (by first | exact xy (z63_w.trans (GSpan.width _).symm) rfl | rfl)) ?_
          refine zI <| zA <| zL ?_
          exact ⟨⟨_, _, _, _, _, _, _, rfl, rfl, tA63, tS63, rfl, rfl, (rfl : toAV _ = some _).trans (congrArg some (by (rw [hjn, List.take_length]; show _ = GSpan.av (njS s); simp only [GSpan.av, njS, List.map_map]; rfl)))⟩, trivial⟩
theorem named_c (l : List GA) (t : ByteArray) (hr : risA none l) (hl : l.length ≤ 10000000) : zo Tryz.prog Γ0 78 [(.sl 7 (l.map avA)), sv t] [.sl 7 ((wP l t).map avA)] := by
  refine z_ Tryz.func78 rfl Tryz.ntmps78 (by kernel_rfl) rfl fun w0 I0 G0 => ?_
  refine zD <| zB <| g_u (zE rfl rfl) <| zI <| zA <| zD <| zD <| zB <| g_u (zC rfl rfl) <| g_u (s_eqS rfl rfl rfl) <| zI <| zA ?_
  refine zW rfl (fun hb1 => ?_) (fun hb1 => ?_)
  · have q : t = ⟨#[]⟩ := by have e := hb1; rw [yN] at e; exact of_decide_eq_true e
    refine zD <| zB <| g_u (zC rfl rfl) <| g_u (za (X0 := z9) rfl Tryz.underlying27 tS9 tZ9 rfl rfl rfl rfl rfl rfl rfl rfl) ?_
    refine g_u (zP (drop_c l [skey] hl (by decide)) rfl rfl) ?_
    refine g_u (zE rfl rfl) <| zI <| zA <| zL <| zM ?_
    exact ⟨⟨(rfl : toAV (Al.look _ _) = some _).trans (congrArg some (by (exact congrArg (fun x : List GA => AV.sl 7 (x.map avA)) (by unfold wP; first | rw [if_pos q] | (rw [if_neg q]; done) | rw [if_neg q, into_drop hr])))), rfl⟩, trivial⟩
  · have q : ¬ t = ⟨#[]⟩ := by have e := hb1; rw [yN] at e; exact of_decide_eq_false e
    refine zY <| zA <| zD <| zB <| g_u (zC rfl rfl) <| g_u (zC rfl rfl) <| g_u (y_ rfl tU70 us70 pl70 rfl rfl rfl rfl) <| g_u (zP (putA_c l skey (tv t) hr hl) rfl rfl) <| g_u (zE rfl rfl) <| zI <| zA <| zL ?_
    exact ⟨⟨(rfl : toAV (Al.look _ _) = some _).trans (congrArg some (by (exact congrArg (fun x : List GA => AV.sl 7 (x.map avA)) (by unfold wP; first | rw [if_pos q] | (rw [if_neg q]; done) | rw [if_neg q, into_drop hr])))), rfl⟩, trivial⟩
theorem rnamed_c (l : List GA) (t : ByteArray) (hr : risA none l) (hl : l.length ≤ 10000000) : zo Tryz.prog Γ0 63 [(.sl 7 (l.map avA)), sv t] [.sl 7 ((wP l t).map avA)] := by
  have hdl := dropA_len [skey] l
  refine z_ Tryz.func63 rfl Tryz.ntmps63 (by kernel_rfl) rfl fun w0 I0 G0 => ?_
  refine zD <| zB <| g_u (zE rfl rfl) <| zI <| zA <| zD <| zB <| g_u (zC rfl rfl) <| g_u (za (X0 := z9) rfl Tryz.underlying27 tS9 tZ9 rfl rfl rfl rfl rfl rfl rfl rfl) ?_
  refine g_u (zP (rdrop_c l [skey] hl (by decide)) rfl rfl) ?_
  refine g_u (zE rfl rfl) <| zI <| zA <| zD <| zD <| zB <| g_u (zC rfl rfl) <| g_u (s_eqS rfl rfl rfl) <| zI <| zA ?_
  refine zW rfl (fun hb1 => ?_) (fun hb1 => ?_)
  · have q : t = ⟨#[]⟩ := by have e := hb1; rw [yN] at e; exact of_decide_eq_true e
    refine zD <| zB <| g_u (zC rfl rfl) <| g_u (zE rfl rfl) <| zI <| zA <| zL <| zM ?_
    exact ⟨⟨(rfl : toAV (Al.look _ _) = some _).trans (congrArg some (by (exact congrArg (fun x : List GA => AV.sl 7 (x.map avA)) (by unfold wP; first | rw [if_pos q] | (rw [if_neg q]; done) | rw [if_neg q, into_drop hr])))), rfl⟩, trivial⟩
  · have q : ¬ t = ⟨#[]⟩ := by have e := hb1; rw [yN] at e; exact of_decide_eq_false e
    refine zY <| zA <| zD <| zB <| g_u (zC rfl rfl) <| g_u (zC rfl rfl) <| g_u (y_ rfl tU70 us70 pl70 rfl rfl rfl rfl) <| g_u (y_ rfl tU72 us72 pl72 rfl rfl rfl rfl) ?_
    refine g_u (zP (into_c (xE [skey] l) (.mk skey (tv t)) (by omega)) rfl rfl) ?_
    refine g_u (zE rfl rfl) <| zI <| zA <| zL ?_
    exact ⟨⟨(rfl : toAV (Al.look _ _) = some _).trans (congrArg some (by (exact congrArg (fun x : List GA => AV.sl 7 (x.map avA)) (by unfold wP; first | rw [if_pos q] | (rw [if_neg q]; done) | rw [if_neg q, into_drop hr])))), rfl⟩, trivial⟩
set_option maxHeartbeats 4000000 in
theorem njR_c (r : GRes) (ho : r.ok) (hw : r.wt ≤ 9000000) (hr : risA none r.attrs) : zo Tryz.prog Γ0 70 [r.av] [(njR r).av] := by
  have qw : r.wt = 1 + wtAs r.attrs + z7 GScope.wt r.scopes := rfl
  have qc := yR GScope.wt (fun e => by unfold GScope.wt; omega) r.scopes
  have qa := yi r.attrs
  have hkr := ris_kept [] hr
  have hkl : (vI [] r.attrs).length ≤ r.attrs.length := by unfold vI; have := dropA_len [] (r.attrs.map (yl nJ)); rw [List.length_map] at this; exact this
  have qsp := spansOf_len r.scopes
  refine z_ Tryz.func70 rfl Tryz.ntmps70 (by kernel_rfl) rfl fun w0 I0 G0 => ?_
  refine zD <| zB <| g_uG (zi 1001 rfl rfl rfl rfl) rfl <| g_uG (zl 1002 rfl rfl rfl tZ47) rfl <| zI <| zA <| zD <| yE yt <| g_u (zF rfl rfl fa47_0 rfl) <| g_u (zG rfl rfl rfl tA44 tS44 rfl rfl) ?_
  refine g_u (zP (nil2nd (n := 1) (kept_c r.attrs [] ho.1 (by omega) (by decide))) rfl rfl) ?_
  refine g_u (zG rfl rfl rfl tA47 tS47 rfl rfl) ?_
  refine g_u (zP (service_c r ho.1 (by omega) hr) rfl rfl) ?_
  refine g_u (zP (named_c (vI [] r.attrs) (yg r) hkr (by omega)) rfl rfl) ?_
  refine g_u (y_ rfl tU47 us47 pl47 rfl rfl rfl rfl) <| g_uG (zl 1003 rfl rfl rfl tZ47) rfl <| g_u (zK rfl rfl rfl tS47 rfl rfl) ?_
  refine zI ⟨by kernel_rfl, ?_⟩
  refine zA <| zD <| zB <| g_u (zE rfl rfl) <| zI <| zA <| zD <| zD <| xJ 3004 4 42 rfl rfl rfl rfl <| zB <| g_u (zF rfl rfl wR rfl) <| g_u (zG rfl rfl rfl tA45 tS45 rfl rfl) <| g_u (zw rfl rfl Tryz.underlying45) <| g_u (zC rfl rfl) <| zI <| zA <| zU ?_
  refine zp (fun i : Nat => [(2, .ptr 1002 0), (1002, .box 47 (.imm z47)), (3, .ptr 1003 0), (1003, .box 47 (.imm (.agg [.sl 7 ((wP (vI [] r.attrs) (yg r)).map avA), .sl 3 []]))), (17, .imm (.sl 3 (r.scopes.map GScope.av))), (18, .imm (iv (r.scopes.length : Int))), (4, .slg 3004 42 ((zz (r.scopes.take i)).map fun x => (njS x).av)), (3004, .tok 42 ((zz (r.scopes.take i)).map fun x => (njS x).av)), (19, .imm (iv (i : Int)))]) (fun i => i ≤ r.scopes.length) (fun i => r.scopes.length - i) (0) ?_ ⟨rfl, rfl, rfl, rfl, rfl, zZ rfl (by rw [List.length_map]), rfl, rfl, rfl, trivial⟩ ?_
  · exact Nat.zero_le _
  · rintro i h1; have h1 : i ≤ r.scopes.length := h1
    refine zD <| zB <| g_u (yb rfl rfl rfl) <| zI <| zA <| zD ?_
    refine zW rfl (fun hb1 => ?_) (fun hb1 => ?_)
    · have hi : i < r.scopes.length := by have := of_decide_eq_true hb1; (try simp only [List.length_map] at this); omega
      have hcx := yD GScope.wt (vC hi)
      have hcq : (nthC r.scopes i).wt = 1 + (nthC r.scopes i).name.size + (nthC r.scopes i).version.size + z7 GSpan.wt (nthC r.scopes i).spans := rfl
      have hco := ho.2 _ (vC hi)
      have hcl := yR GSpan.wt (fun e => by unfold GSpan.wt; omega) (nthC r.scopes i).spans
      have hst : (zz (r.scopes.take i)).length + (nthC r.scopes i).spans.length ≤ (zz r.scopes).length := by have := congrArg List.length (spansOf_take hi); rw [List.length_append] at this; have h3 := spansOf_append (r.scopes.take (i + 1)) (r.scopes.drop (i + 1)); rw [List.take_append_drop] at h3; have h4 := congrArg List.length h3; rw [List.length_append] at h4; omega
      refine zY <| zA <| zD <| zU <| zD <| zB ?_
      refine g_u (zJ rfl rfl rfl Tryz.underlying45 tS51 (by omega) (ixC hi)) ?_
      refine g_u (zT rfl rfl tA51 tS51 rfl rfl) <| g_uG (zl 1006 rfl rfl rfl tZ51) rfl <| g_u (zK rfl rfl rfl tS51 rfl rfl) <| zI <| zA <| zD <| zB <| g_u (zF rfl rfl wm rfl) <| g_u (zG rfl rfl rfl tA49 tS49 rfl rfl) <| g_u (zw rfl rfl Tryz.underlying49) <| g_u (zC rfl rfl) <| zI <| zA <| zU ?_
      refine zp (fun j : Nat => [(2, .ptr 1002 0), (1002, .box 47 (.imm z47)), (3, .ptr 1003 0), (1003, .box 47 (.imm (.agg [.sl 7 ((wP (vI [] r.attrs) (yg r)).map avA), .sl 3 []]))), (17, .imm (.sl 3 (r.scopes.map GScope.av))), (18, .imm (iv (r.scopes.length : Int))), (4, .slg 3004 42 (((zz (r.scopes.take i)).map fun x => (njS x).av) ++ (((nthC r.scopes i).spans.take j).map fun x => (njS x).av))), (3004, .tok 42 (((zz (r.scopes.take i)).map fun x => (njS x).av) ++ (((nthC r.scopes i).spans.take j).map fun x => (njS x).av))), (19, .imm (iv (i : Int))), (24, .imm (.sl 42 ((nthC r.scopes i).spans.map GSpan.av))), (25, .imm (iv ((nthC r.scopes i).spans.length : Int))), (26, .imm (iv (j : Int)))]) (fun j => j ≤ (nthC r.scopes i).spans.length) (fun j => (nthC r.scopes i).spans.length - j) (0) ?_ ⟨rfl, rfl, rfl, rfl, rfl, rfl, yV rfl (by simp), z8 rfl (by simp), rfl, rfl, zZ rfl (by rw [List.length_map]), rfl, trivial⟩ ?_
      · exact Nat.zero_le _
      · rintro j g1; have g1 : j ≤ (nthC r.scopes i).spans.length := g1
        refine zD <| zB <| g_u (yb rfl rfl rfl) <| zI <| zA <| zD ?_
        refine zW rfl (fun hb2 => ?_) (fun hb2 => ?_)
        · have hj : j < (nthC r.scopes i).spans.length := by have := of_decide_eq_true hb2; (try simp only [List.length_map] at this); omega
          have hsx := yD GSpan.wt (nthS_mem hj)
          have hso := hco.2.2 _ (nthS_mem hj)
          refine zY <| zA <| zD <| zU <| zD <| zB ?_
          refine g_u (zJ rfl rfl rfl Tryz.underlying49 tS63 (by omega) (ixS hj)) ?_
          refine g_u (zT rfl rfl tA63 tS63 rfl (by first | exact xP (GSpan.width _) rfl | rfl)) ?_
          refine g_uG (zl 1008 rfl rfl rfl tZ63) rfl ?_
          refine g_u (zK rfl rfl rfl tS63 (by first | exact beqW (GSpan.width _) | rfl) (by first | exact xy (z63_w.trans (GSpan.width _).symm) rfl | rfl)) ?_
          refine zI <| zA <| zB <| g_u (zy rfl rfl) ?_
          refine g_u (zG rfl rfl rfl tA63 tS63 rfl (by first | exact xP (GSpan.width _) rfl | rfl)) ?_
          refine g_u (zP (njS_c _ hso (by omega)) rfl rfl) ?_
          refine g_u (za (X0 := z63) rfl Tryz.underlying49 tS63 tZ63 rfl rfl rfl rfl rfl rfl rfl rfl) ?_
          refine g_u (yA rfl rfl rfl rfl rfl Tryz.underlying49 Tryz.underlying49 tS63 zv63 rfl (by decide) by63 (by (try dsimp only); simp only [List.length_append, List.length_cons, List.length_nil, List.length_map, List.length_take, List.length_drop]; omega) (by (try dsimp only); simp only [List.length_append, List.length_cons, List.length_nil, List.length_map, List.length_take, List.length_drop]; omega)) ?_
          refine g_u (yB rfl rfl) <| zI <| zX <| zA <| zB <| g_u (yG rfl rfl rfl) <| g_u (zC rfl rfl) <| zI <| zA ?_
          have et : (((zz (r.scopes.take i)).map fun x => (njS x).av) ++ (((nthC r.scopes i).spans.take (j + 1)).map fun x => (njS x).av)) = (((zz (r.scopes.take i)).map fun x => (njS x).av) ++ (((nthC r.scopes i).spans.take j).map fun x => (njS x).av)) ++ [(njS (nthS (nthC r.scopes i).spans j)).av] := by rw [zx (yZ (d := gs0) hj), List.map_append, List.append_assoc]; rfl
          refine ⟨j + 1, hj, ⟨rfl, rfl, rfl, rfl, rfl, rfl, yV rfl et.symm, z8 rfl et.symm, rfl, rfl, rfl, zZ rfl (by rw [ze (by omega) (by omega)]; rfl), trivial⟩, by (try dsimp only); omega⟩
        · have hjn : j = (nthC r.scopes i).spans.length := by have := of_decide_eq_false hb2; (try simp only [List.length_map] at this); omega
          refine zu <| zR <| zR <| zn <| zX <| zA <| zB <| g_u (yG rfl rfl rfl) <| g_u (zC rfl rfl) <| zI <| zA ?_
          have et : ((zz (r.scopes.take (i + 1))).map fun x => (njS x).av) = (((zz (r.scopes.take i)).map fun x => (njS x).av) ++ (((nthC r.scopes i).spans.take j).map fun x => (njS x).av)) := by rw [spansOf_take hi, List.map_append, hjn, List.take_length]
          refine ⟨i + 1, hi, ⟨rfl, rfl, rfl, rfl, rfl, rfl, yV rfl et.symm, z8 rfl et.symm, zZ rfl (by rw [ze (by omega) (by omega)]; rfl), trivial⟩, by (try dsimp only); omega⟩
    · have hin : i = r.scopes.length := by have := of_decide_eq_false hb1; (try simp only [List.length_map] at this); omega
      refine zu <| zR <| zR <| zn <| zA <| zD <| zD <| zB <| g_u (zy rfl rfl) <| g_u (zw rfl rfl Tryz.underlying49) <| g_u (s_gtI rfl rfl rfl) <| zI <| zA ?_
      refine zW rfl (fun hb3 => ?_) (fun hb3 => ?_)
      · have q : ((zz (r.scopes.take i)).length : Int) > 0 := by have e := of_decide_eq_true hb3; simp only [List.length_map] at e; omega
        refine zB <| g_u (zy rfl rfl) <| g_u (y_ rfl tU51 us51 pl51 rfl rfl rfl rfl) <| g_u (za (X0 := z51) rfl Tryz.underlying45 tS51 tZ51 rfl rfl rfl rfl rfl rfl rfl rfl) <| g_u (zF rfl rfl wR rfl) <| g_u (xO rfl rfl rfl rfl tS45 rfl rfl) <| zI <| zA <| zD <| zB <| g_u (zk rfl rfl rfl tA47 tS47 rfl rfl) <| g_u (zK rfl rfl rfl tS47 rfl rfl) <| zI <| zA <| zL ?_
        exact ⟨⟨_, _, _, _, _, _, _, rfl, rfl, tA47, tS47, rfl, rfl, (rfl : toAV _ = some _).trans (congrArg some (by (rw [hin, List.take_length] at *; show _ = GRes.av (njR r); unfold njR scopeJ; first | (rw [if_pos (by rw [List.length_map]; omega)]; simp only [GRes.av, GScope.av, List.map_cons, List.map_nil, List.map_map]; rfl) | (rw [if_neg (by rw [List.length_map]; omega)]; rfl))))⟩, trivial⟩
      · have q : ¬ ((zz (r.scopes.take i)).length : Int) > 0 := by have e := of_decide_eq_false hb3; simp only [List.length_map] at e; omega
        refine zY <| zA <| zD <| zB <| g_u (zG rfl rfl rfl tA47 tS47 rfl rfl) <| g_u (zK rfl rfl rfl tS47 rfl rfl) <| zI <| zA <| zL ?_
        exact ⟨⟨_, _, _, _, _, _, _, rfl, rfl, tA47, tS47, rfl, rfl, (rfl : toAV _ = some _).trans (congrArg some (by (rw [hin, List.take_length] at *; show _ = GRes.av (njR r); unfold njR scopeJ; first | (rw [if_pos (by rw [List.length_map]; omega)]; simp only [GRes.av, GScope.av, List.map_cons, List.map_nil, List.map_map]; rfl) | (rw [if_neg (by rw [List.length_map]; omega)]; rfl))))⟩, trivial⟩
end Go.Proofs
namespace Go.Proofs
open Go Go.Al
theorem wholeN_rg (n : Int) : u64 (wholeN n) := by have := nano_rg (microM n); unfold u64 wholeN; omega
theorem ofR_rg (b l : Int) : u64 (ofR b l).lo ∧ u64 (ofR b l).hi := by
  have h := nano_rg b
  unfold ofR
  split
  · unfold u64; simp
  · refine ⟨by unfold u64; dsimp only; omega, ?_⟩
    unfold u64
    dsimp only
    simp only [IntKind.wrap, IntKind.bits, IntKind.signed, Bool.false_and, Bool.false_eq_true, if_false]
    omega
theorem njB_ris {b : List GRes} (hr : ∀ r ∈ b, risA none r.attrs) : ∀ r ∈ njB b, risA none r.attrs := fun r h => by
  obtain ⟨x, hx, rfl⟩ := List.mem_map.1 h; exact ris_named (ris_kept [] (hr x hx)) _
theorem e0_ok : (⟨#[]⟩ : ByteArray).size ≤ maxLen := by decide
theorem skey_ok : skey.size ≤ maxLen := by decide
theorem tv_ok {t : ByteArray} (ht : t.size ≤ maxLen) : (tv t).ok := by
  rw [GV.ok_iff]
  exact ⟨by show (0 : Int) ≤ 1 ∧ (1 : Int) < 256; decide, ht, by show (-9223372036854775808 : Int) ≤ 0 ∧ (0 : Int) < 9223372036854775808; decide, by show (0 : Int) ≤ 0 ∧ (0 : Int) < 18446744073709551616; decide, (fun x h => by cases h), (fun x h => by cases h)⟩
theorem keptA_ok (but : List ByteArray) {l : List GA} (ho : ∀ a ∈ l, a.ok) (hw : wtAs l ≤ 1000000) : ∀ a ∈ vI but l, a.ok := fun a h => by
  obtain ⟨x, hx, rfl⟩ := List.mem_map.1 (wU h).1
  exact plainA_ok (ho x hx) (Nat.le_trans (xa hx) hw)
theorem namedM_ok {l : List GA} {t : ByteArray} (ho : ∀ a ∈ l, a.ok) (ht : t.size ≤ maxLen) : ∀ a ∈ wP l t, a.ok := fun a h => by
  unfold wP at h
  split at h
  · exact ho a (wU h).1
  · rcases mem_intoA h with rfl | h
    · exact (GA.ok_iff _).2 ⟨skey_ok, tv_ok ht⟩
    · exact ho a h
theorem njE_ok {e : GE} (h : e.ok) (hw : e.wt ≤ 1000000) : (njE e).ok := ⟨wholeN_rg _, h.2.1, keptA_ok _ h.2.2 (by have : e.wt = 1 + e.name.size + wtAs e.attrs := rfl; omega)⟩
theorem njS_ok {s : GSpan} (h : s.ok) (hw : s.wt ≤ 1000000) : (njS s).ok := by
  have qw : s.wt = 1 + s.state.size + s.name.size + s.note.size + wtAs s.attrs + z7 GE.wt s.events + z7 GL.wt s.links := rfl
  have hr := ofR_rg (BegunM ⟨s.start, s.fin⟩) (LastsM ⟨s.start, s.fin⟩)
  refine ⟨h.1, ⟨e0_ok, h.2.1.2.1, h.2.1.2.2⟩, ⟨h.2.2.1.1, hr.1, hr.2, h.2.2.1.2.2.2⟩, keptA_ok _ h.2.2.2.1 (by omega), fun e he => ?_, fun e he => ?_⟩
  · obtain ⟨x, hx, rfl⟩ := List.mem_map.1 he
    exact njE_ok (h.2.2.2.2.1 x hx) (by have := yD GE.wt hx; omega)
  · obtain ⟨x, hx, rfl⟩ := List.mem_map.1 he
    have := h.2.2.2.2.2 x hx
    exact ⟨this.1, this.2.1, e0_ok, fun a ha => by cases ha⟩
theorem njR_ok {r : GRes} (h : r.ok) (hw : r.wt ≤ 1000000) : (njR r).ok := by
  have qw : r.wt = 1 + wtAs r.attrs + z7 GScope.wt r.scopes := rfl
  have hs := serviceM_le r
  refine ⟨namedM_ok (keptA_ok _ h.1 (by omega)) (by unfold maxLen; omega), fun c hc => ?_⟩
  have hc : c ∈ scopeJ ((zz r.scopes).map njS) := hc
  unfold scopeJ at hc
  split at hc
  · cases List.mem_singleton.1 hc
    refine ⟨e0_ok, e0_ok, fun x hx => ?_⟩
    obtain ⟨s, hs, rfl⟩ := List.mem_map.1 hx
    obtain ⟨c, hc, hs⟩ := spansOf_mem hs
    have h1 := yD GScope.wt hc
    have h2 : c.wt = 1 + c.name.size + c.version.size + z7 GSpan.wt c.spans := rfl
    have h3 := yD GSpan.wt hs
    exact njS_ok ((h.2 c hc).2.2 s hs) (by omega)
  · cases hc
theorem njB_ok {b : List GRes} (h : okB b) (hw : wtB b ≤ 1000000) : okB (njB b) := fun r hr => by
  obtain ⟨x, hx, rfl⟩ := List.mem_map.1 hr
  exact njR_ok (h x hx) (by have := yD GRes.wt hx; unfold wtB at hw; omega)
theorem xj {α : Type} {f : α → α} {g : α → Nat} (k : Nat) (h : ∀ x, g (f x) ≤ k * g x) : ∀ l : List α, z7 g (l.map f) ≤ k * z7 g l
  | [] => by simp [z7]
  | x :: l => by simp only [List.map_cons, z7, Nat.mul_add]; have := h x; have := xj k h l; omega
theorem njS_wt (s : GSpan) : (njS s).wt ≤ 151 * s.wt := by
  have h1 := keptA_wt k4 s.attrs
  have h2 := xj (f := njE) (g := GE.wt) 151 (fun e => by
    have q : e.wt = 1 + e.name.size + wtAs e.attrs := rfl
    have q2 : (njE e).wt = 1 + e.name.size + wtAs (vI [k_event] e.attrs) := rfl
    have := keptA_wt [k_event] e.attrs; omega) s.events
  have h3 := xj (f := njL) (g := GL.wt) 151 (fun e => by
    have q : e.wt = 1 + e.state.size + wtAs e.attrs := rfl
    have q2 : (njL e).wt = 1 := rfl
    omega) s.links
  have q1 : (njS s).wt = 1 + 0 + s.name.size + s.note.size + wtAs (vI k4 s.attrs) + z7 GE.wt (s.events.map njE) + z7 GL.wt (s.links.map njL) := rfl
  have q2 : s.wt = 1 + s.state.size + s.name.size + s.note.size + wtAs s.attrs + z7 GE.wt s.events + z7 GL.wt s.links := rfl
  omega
theorem spansOf_wt : ∀ l : List GScope, z7 GSpan.wt (zz l) ≤ z7 GScope.wt l
  | [] => Nat.le_refl _
  | c :: l => by
    rw [zz, wr, z7]
    have := spansOf_wt l
    have h3 : c.wt = 1 + c.name.size + c.version.size + z7 GSpan.wt c.spans := rfl
    omega
theorem namedM_wt (l : List GA) (t : ByteArray) : wtAs (wP l t) ≤ wtAs l + 13 + t.size := by
  unfold wP; split
  · have := dropA_wt [skey] l; omega
  · have h1 := wt_intoA l (.mk skey (tv t))
    have h2 : (GA.mk skey (tv t)).wt = 12 + (1 + t.size + 0 + 0) := by rw [GA.wt_eq, GV.wt_eq]; rfl
    omega
theorem njR_wt (r : GRes) : (njR r).wt ≤ 400 * r.wt := by
  have h1 := namedM_wt (vI [] r.attrs) (yg r)
  have h2 := keptA_wt [] r.attrs
  have h3 := serviceM_le r
  have h4 := xj (f := njS) (g := GSpan.wt) 151 njS_wt (zz r.scopes)
  have h5 := spansOf_wt r.scopes
  have q1 : (njR r).wt = 1 + wtAs (wP (vI [] r.attrs) (yg r)) + z7 GScope.wt (scopeJ ((zz r.scopes).map njS)) := rfl
  have q2 : r.wt = 1 + wtAs r.attrs + z7 GScope.wt r.scopes := rfl
  have h6 : z7 GScope.wt (scopeJ ((zz r.scopes).map njS)) ≤ 1 + z7 GSpan.wt ((zz r.scopes).map njS) := by
    unfold scopeJ; split
    · simp only [z7, GScope.wt]
      show 1 + 0 + 0 + _ + 0 ≤ _
      omega
    · exact Nat.zero_le _
  omega
theorem njB_wt (b : List GRes) : wtB (njB b) ≤ 400 * wtB b := xj 400 njR_wt b
end Go.Proofs
namespace Go.Proofs
open Go Go.Al
set_option maxRecDepth 10000
set_option maxHeartbeats 4000000 in
theorem njB_c (b : List GRes) (ho : okB b) (hw : wtB b ≤ 9000000) (hr : ∀ r ∈ b, risA none r.attrs) : zo Tryz.prog Γ0 42 [yK b] [yK (njB b)] := by
  have ql := yR GRes.wt (fun e => by unfold GRes.wt; omega) b
  have qw : wtB b = z7 GRes.wt b := rfl
  refine z_ Tryz.func42 rfl Tryz.ntmps42 (by kernel_rfl) rfl fun w0 I0 G0 => ?_
  refine zD <| zB <| g_uG (zi 1001 rfl rfl rfl rfl) rfl <| g_uG (zl 1002 rfl rfl rfl tZ24) rfl <| zI <| zA <| zD <| zB <| g_uG (zl 1003 rfl rfl rfl tZ24) rfl <| zI <| zA <| zD <| zD <| yn 3099 1003 2 0 rfl rfl rfl rfl rfl rfl rfl <| zB <| g_u (zF rfl rfl xD rfl) <| g_u (zG rfl rfl rfl tA22 tS22 rfl rfl) <| g_u (zw rfl rfl Tryz.underlying22) <| g_u (zC rfl rfl) <| zI <| zA <| zU ?_
  refine zp (fun i : Nat => [(2, .ptr 1002 0), (1002, .box 24 (.imm z24)), (3, .ptr 1003 0), (1003, .box 24 (.agg [.slg 3099 2 ((b.take i).map fun r => (njR r).av)])), (3099, .tok 2 ((b.take i).map fun r => (njR r).av)), (7, .imm (.sl 2 (b.map GRes.av))), (8, .imm (iv (b.length : Int))), (9, .imm (iv (i : Int)))]) (fun i => i ≤ b.length) (fun i => b.length - i) (0) ?_ ⟨rfl, rfl, rfl, rfl, rfl, rfl, zZ rfl (by rw [List.length_map]), rfl, trivial⟩ ?_
  · exact Nat.zero_le _
  · rintro i h1; have h1 : i ≤ b.length := h1
    refine zD <| zB <| g_u (yb rfl rfl rfl) <| zI <| zA <| zD ?_
    refine zW rfl (fun hb1 => ?_) (fun hb1 => ?_)
    · have hi : i < b.length := by have := of_decide_eq_true hb1; (try simp only [List.length_map] at this); omega
      have hrx := yD GRes.wt (xZ hi)
      have hro := ho _ (xZ hi)
      have hrr := hr _ (xZ hi)
      refine zY <| zA <| zD <| zU <| zD <| zB ?_
      refine g_u (zJ rfl rfl rfl Tryz.underlying22 tS47 (by omega) (ixR hi)) ?_
      refine g_u (zT rfl rfl tA47 tS47 rfl rfl) <| g_uG (zl 1005 rfl rfl rfl tZ47) rfl <| g_u (zK rfl rfl rfl tS47 rfl rfl) <| zI <| zA <| yE yt <| g_u (zF rfl rfl xD rfl) <| g_u (yj rfl rfl rfl tA22 tS22 rfl rfl) <| g_u (zk rfl rfl rfl tA47 tS47 rfl rfl) ?_
      refine g_u (zP (njR_c (nthR b i) hro (by omega) hrr) rfl rfl) ?_
      refine g_u (za (X0 := z47) rfl Tryz.underlying22 tS47 tZ47 rfl rfl rfl rfl rfl rfl rfl rfl) ?_
      refine g_u (yA rfl rfl rfl rfl rfl Tryz.underlying22 Tryz.underlying22 tS47 zv47 rfl (by decide) by47 (by (try dsimp only); simp only [List.length_append, List.length_cons, List.length_nil, List.length_map, List.length_take, List.length_drop]; omega) (by (try dsimp only); simp only [List.length_append, List.length_cons, List.length_nil, List.length_map, List.length_take, List.length_drop]; omega)) ?_
      refine g_u (zF rfl rfl xD rfl) <| g_u (xO rfl rfl rfl rfl tS22 rfl rfl) ?_
      refine zI ⟨by kernel_rfl, ?_⟩
      refine zX <| zA <| zB <| g_u (yG rfl rfl rfl) <| g_u (zC rfl rfl) <| zI <| zA ?_
      have et : ((b.take (i + 1)).map fun r => (njR r).av) = ((b.take i).map fun r => (njR r).av) ++ [(njR (nthR b i)).av] := by rw [zx (yZ (d := gr0) hi), List.map_append]; rfl
      refine ⟨i + 1, hi, ⟨rfl, rfl, rfl, (by rw [et]; rfl), z8 rfl et.symm, rfl, rfl, zZ rfl (by rw [ze (by omega) (by omega)]; rfl), trivial⟩, by (try dsimp only); omega⟩
    · have hin : i = b.length := by have := of_decide_eq_false hb1; (try simp only [List.length_map] at this); omega
      refine zu <| zR <| zR <| zn <| zA <| zD <| zB <| g_u (zk rfl rfl rfl tA24 tS24 rfl rfl) <| g_u (zK rfl rfl rfl tS24 rfl rfl) <| zI <| zA <| zL ?_
      exact ⟨⟨_, _, _, _, _, _, _, rfl, rfl, tA24, tS24, rfl, rfl, (rfl : toAV _ = some _).trans (congrArg some (by (rw [hin, List.take_length]; show AV.agg [.sl 2 _] = AV.agg [.sl 2 ((b.map njR).map GRes.av)]; rw [List.map_map]; rfl)))⟩, trivial⟩
set_option maxHeartbeats 8000000 in
theorem rnjS_c (s : GSpan) (ho : s.ok) (hw : s.wt ≤ 9000000) : zo Tryz.prog Γ0 65 [s.av] [(njS s).av] := by
  have qw : s.wt = 1 + s.state.size + s.name.size + s.note.size + wtAs s.attrs + z7 GE.wt s.events + z7 GL.wt s.links := rfl
  have ql := yR GE.wt (fun e => by unfold GE.wt; omega) s.events
  have qm := yR GL.wt (fun e => by unfold GL.wt; omega) s.links
  refine z_ Tryz.func65 rfl Tryz.ntmps65 (by kernel_rfl) rfl fun w0 I0 G0 => ?_
  refine zD <| zB <| g_uG (zi 1001 rfl rfl rfl rfl) rfl <| g_uG (zl 1002 rfl rfl rfl tZ63) rfl <| zI <| zA <| zD <| zB <| g_u (zF rfl rfl fa63_0 rfl) <| g_u (zG rfl rfl rfl tA54 tS54 rfl rfl) <| g_u (zF rfl rfl fa63_1 rfl) <| g_u (zG rfl rfl rfl tA56 tS56 rfl rfl) <| g_u (zF rfl rfl fa63_2 rfl) <| g_u (zG rfl rfl rfl tA56 tS56 rfl rfl) <| g_u (zF rfl rfl fa63_4 rfl) <| g_u (zG rfl rfl rfl tA9 tS9 rfl rfl) <| g_u (zF rfl rfl fa63_5 rfl) <| g_u (zG rfl rfl rfl tA3 tS3 rfl rfl) <| g_u (zF rfl rfl fa63_11 rfl) <| g_u (zG rfl rfl rfl tA61 tS61 rfl rfl) <| g_u (y_ rfl tZ63 us63 pl63 rfl rfl rfl rfl) <| g_uG (zl 1003 rfl rfl rfl tZ63) rfl ?_
  refine g_u (zK rfl rfl rfl tS63 (by first | exact beqW (GSpan.width _) | rfl) (by first | exact xy (z63_w.trans (GSpan.width _).symm) rfl | rfl)) ?_
  refine zI <| zA <| zD <| zB <| g_u (zF rfl rfl fa63_6 rfl) <| g_u (zG rfl rfl rfl tA57 tS57 rfl rfl) <| g_u (zF rfl rfl fa63_7 rfl) <| g_u (zG rfl rfl rfl tA57 tS57 rfl rfl) ?_
  refine g_u (xu ((show zo Tryz.prog Γ0 95 [uv s.start, uv s.fin] [uv (xH ⟨s.start, s.fin⟩).lo, uv (xH ⟨s.start, s.fin⟩).hi] from by rw [(tells5 _ _).1, (tells5 _ _).2]; exact rwhole_c _ _)) rfl rfl) ?_
  refine g_u (y8 rfl rfl) <| g_u (zj rfl rfl rfl rfl) <| g_u (zj rfl rfl rfl rfl) <| g_u (zF rfl rfl fa63_6 rfl) <| g_u (zK rfl rfl rfl tS57 rfl rfl) <| g_u (zF rfl rfl fa63_7 rfl) <| g_u (zK rfl rfl rfl tS57 rfl rfl) <| zI <| zA <| zD <| zB <| g_u (zF rfl rfl wy rfl) <| g_u (zG rfl rfl rfl tA44 tS44 rfl rfl) <| g_u (za (X0 := z9) rfl Tryz.underlying27 tS9 tZ9 rfl rfl rfl rfl rfl rfl rfl rfl) ?_
  refine g_u (zP (rkept_c s.attrs k4 ho.2.2.2.1 (by omega) (by decide)) rfl rfl) ?_
  refine g_u (zF rfl rfl wy rfl) <| g_u (zK rfl rfl rfl tS44 rfl rfl) <| zI <| zA <| zD <| zD <| yn 3009 1003 3 38 rfl rfl rfl rfl rfl rfl rfl <| zB <| g_u (zE rfl rfl) <| zI <| zA <| zU ?_
  refine zp (fun i : Nat => [(1, .ptr 1001 0), (1001, .box 63 (.imm s.av)), (2, .ptr 1002 0), (1002, .box 63 (.imm z63)), (3, .ptr 1003 0), (1003, .box 63 (.agg [.imm (.arr 16 s.trace), .imm (.arr 8 s.id), .imm (.arr 8 s.parent), .imm (sv ⟨#[]⟩), .imm (sv s.name), .imm (iv s.kind), .imm (uv (xH ⟨s.start, s.fin⟩).lo), .imm (uv (xH ⟨s.start, s.fin⟩).hi), .imm (.sl 7 ((vI k4 s.attrs).map avA)), .slg 3009 3 ((s.events.take i).map fun e => (njE e).av), .imm (.v (.slice none 0 0)), .imm (.agg [iv s.code, sv s.note])])), (3009, .tok 3 ((s.events.take i).map fun e => (njE e).av)), (4, .imm (iv (i : Int)))]) (fun i => i ≤ s.events.length) (fun i => s.events.length - i) (0) ?_ ⟨rfl, rfl, rfl, rfl, rfl, rfl, rfl, rfl, trivial⟩ ?_
  · exact Nat.zero_le _
  · rintro i h1; have h1 : i ≤ s.events.length := h1
    refine zD <| zD <| zB <| g_u (zC rfl rfl) <| g_u (zF rfl rfl yw rfl) <| g_u (zG rfl rfl rfl tA58 tS58 rfl rfl) <| g_u (zw rfl rfl Tryz.underlying58) <| g_u (yb rfl rfl rfl) <| zI <| zA ?_
    refine zW rfl (fun hb1 => ?_) (fun hb1 => ?_)
    · have hi : i < s.events.length := by have := of_decide_eq_true hb1; (try simp only [List.length_map] at this); omega
      have hex := yD GE.wt (xm hi)
      have heq : (nthE s.events i).wt = 1 + (nthE s.events i).name.size + wtAs (nthE s.events i).attrs := rfl
      have heo := ho.2.2.2.2.1 _ (xm hi)
      refine zY <| zA <| zD <| zU <| zD <| zB <| g_u (zF rfl rfl yw rfl) <| g_u (zG rfl rfl rfl tA58 tS58 rfl rfl) <| g_u (zC rfl rfl) ?_
      refine g_u (zJ rfl rfl rfl Tryz.underlying58 tS92 (by omega) (ixE hi)) ?_
      refine g_u (zT rfl rfl tA92 tS92 rfl rfl) <| g_uG (zl 1005 rfl rfl rfl tZ92) rfl <| g_u (zK rfl rfl rfl tS92 rfl rfl) <| zI <| zA <| yE yt <| g_u (zF rfl rfl yw rfl) <| g_u (yj rfl rfl rfl tA58 tS58 rfl rfl) <| g_u (zF rfl rfl fa92_0 rfl) <| g_u (zG rfl rfl rfl tA57 tS57 rfl rfl) <| g_u (zP (rwholeN_c _) rfl rfl) <| g_u (zF rfl rfl fa92_1 rfl) <| g_u (zG rfl rfl rfl tA9 tS9 rfl rfl) <| g_u (zF rfl rfl fa92_2 rfl) <| g_u (zG rfl rfl rfl tA44 tS44 rfl rfl) <| g_u (za (X0 := z9) rfl Tryz.underlying27 tS9 tZ9 rfl rfl rfl rfl rfl rfl rfl rfl) ?_
      refine g_u (zP (rkept_c (nthE s.events i).attrs [k_event] heo.2.2 (by omega) (by decide)) rfl rfl) ?_
      refine g_u (y_ rfl tU92 us92 pl92 rfl rfl rfl rfl) <| g_u (za (X0 := z92) rfl Tryz.underlying58 tS92 tZ92 rfl rfl rfl rfl rfl rfl rfl rfl) ?_
      refine g_u (yA rfl rfl rfl rfl rfl Tryz.underlying58 Tryz.underlying58 tS92 zv92 rfl (by decide) by92 (by (try dsimp only); simp only [List.length_append, List.length_cons, List.length_nil, List.length_map, List.length_take, List.length_drop]; omega) (by (try dsimp only); simp only [List.length_append, List.length_cons, List.length_nil, List.length_map, List.length_take, List.length_drop]; omega)) ?_
      refine g_u (zF rfl rfl yw rfl) <| g_u (xO rfl rfl rfl rfl tS58 rfl rfl) ?_
      refine zI ⟨by kernel_rfl, ?_⟩
      refine zX <| zA <| zB <| g_u (zC rfl rfl) <| g_u (yG rfl rfl rfl) <| g_u (zE rfl rfl) <| zI <| zA ?_
      have et : ((s.events.take (i + 1)).map fun e => (njE e).av) = ((s.events.take i).map fun e => (njE e).av) ++ [(njE (nthE s.events i)).av] := by rw [zx (yZ (d := ge0) hi), List.map_append]; rfl
      refine ⟨i + 1, hi, ⟨rfl, rfl, rfl, rfl, rfl, (by rw [et]; rfl), z8 rfl et.symm, zZ rfl (by rw [ze (by omega) (by omega)]; rfl), trivial⟩, by (try dsimp only); omega⟩
    · have hin : i = s.events.length := by have := of_decide_eq_false hb1; (try simp only [List.length_map] at this); omega
      refine zu <| zR <| zR <| zn <| zA <| zD <| zD <| yn 3010 1003 26 39 rfl rfl rfl rfl rfl rfl rfl <| zB <| g_u (zE rfl rfl) <| zI <| zA <| zU ?_
      refine zp (fun j : Nat => [(1, .ptr 1001 0), (1001, .box 63 (.imm s.av)), (2, .ptr 1002 0), (1002, .box 63 (.imm z63)), (3, .ptr 1003 0), (1003, .box 63 (.agg [.imm (.arr 16 s.trace), .imm (.arr 8 s.id), .imm (.arr 8 s.parent), .imm (sv ⟨#[]⟩), .imm (sv s.name), .imm (iv s.kind), .imm (uv (xH ⟨s.start, s.fin⟩).lo), .imm (uv (xH ⟨s.start, s.fin⟩).hi), .imm (.sl 7 ((vI k4 s.attrs).map avA)), .slg 3009 3 (s.events.map fun e => (njE e).av), .slg 3010 26 ((s.links.take j).map fun e => (njL e).av), .imm (.agg [iv s.code, sv s.note])])), (3010, .tok 26 ((s.links.take j).map fun e => (njL e).av)), (6, .imm (iv (j : Int)))]) (fun j => j ≤ s.links.length) (fun j => s.links.length - j) (0) ?_ ⟨rfl, rfl, rfl, rfl, rfl, (by rw [hin, List.take_length]; rfl), rfl, rfl, trivial⟩ ?_
      · exact Nat.zero_le _
      · rintro j h1; have h1 : j ≤ s.links.length := h1
        refine zD <| zD <| zB <| g_u (zC rfl rfl) <| g_u (zF rfl rfl yy rfl) <| g_u (zG rfl rfl rfl tA59 tS59 rfl rfl) <| g_u (zw rfl rfl Tryz.underlying59) <| g_u (yb rfl rfl rfl) <| zI <| zA ?_
        refine zW rfl (fun hb2 => ?_) (fun hb2 => ?_)
        · have hj : j < s.links.length := by have := of_decide_eq_true hb2; (try simp only [List.length_map] at this); omega
          refine zY <| zA <| zD <| zU <| yE yt <| g_u (zF rfl rfl yy rfl) <| g_u (yj rfl rfl rfl tA59 tS59 rfl rfl) <| g_u (zF rfl rfl yy rfl) <| g_u (zG rfl rfl rfl tA59 tS59 rfl rfl) <| g_u (zC rfl rfl) ?_
          refine g_u (zJ rfl rfl rfl Tryz.underlying59 tS94 (by omega) (ixL hj)) ?_
          refine g_u (zV rfl rfl fa94_0 rfl rfl) <| g_u (zT rfl rfl tA54 tS54 rfl rfl) <| g_u (zF rfl rfl yy rfl) <| g_u (zG rfl rfl rfl tA59 tS59 rfl rfl) <| g_u (zC rfl rfl) ?_
          refine g_u (zJ rfl rfl rfl Tryz.underlying59 tS94 (by omega) (ixL hj)) ?_
          refine g_u (zV rfl rfl fa94_1 rfl rfl) <| g_u (zT rfl rfl tA56 tS56 rfl rfl) <| g_u (y_ rfl tU94 us94 pl94 rfl rfl rfl rfl) <| g_u (za (X0 := z94) rfl Tryz.underlying59 tS94 tZ94 rfl rfl rfl rfl rfl rfl rfl rfl) ?_
          refine g_u (yA rfl rfl rfl rfl rfl Tryz.underlying59 Tryz.underlying59 tS94 zv94 rfl (by decide) by94 (by (try dsimp only); simp only [List.length_append, List.length_cons, List.length_nil, List.length_map, List.length_take, List.length_drop]; omega) (by (try dsimp only); simp only [List.length_append, List.length_cons, List.length_nil, List.length_map, List.length_take, List.length_drop]; omega)) ?_
          refine g_u (zF rfl rfl yy rfl) <| g_u (xO rfl rfl rfl rfl tS59 rfl rfl) ?_
          refine zI ⟨by kernel_rfl, ?_⟩
          refine zX <| zA <| zB <| g_u (zC rfl rfl) <| g_u (yG rfl rfl rfl) <| g_u (zE rfl rfl) <| zI <| zA ?_
          have et : ((s.links.take (j + 1)).map fun e => (njL e).av) = ((s.links.take j).map fun e => (njL e).av) ++ [(njL (nthL s.links j)).av] := by rw [zx (yZ (d := gl0) hj), List.map_append]; rfl
          refine ⟨j + 1, hj, ⟨rfl, rfl, rfl, rfl, rfl, (by rw [et]; rfl), z8 rfl et.symm, zZ rfl (by rw [ze (by omega) (by omega)]; rfl), trivial⟩, by (try dsimp only); omega⟩
        · have hjn : j = s.links.length := by have := of_decide_eq_false hb2; (try simp only [List.length_map] at this); omega
          refine zu <| zR <| zR <| zn <| zA <| zD <| zB <| g_u (zk rfl rfl rfl tA63 tS63 rfl rfl) ?_
          refine g_u (zK rfl rfl rfl tS63 (by first | exact beqW (GSpan.width _) | rfl) (by first | exact xy (z63_w.trans (GSpan.width _).symm) rfl | rfl)) ?_
          refine zI <| zA <| zL ?_
          exact ⟨⟨_, _, _, _, _, _, _, rfl, rfl, tA63, tS63, rfl, rfl, (rfl : toAV _ = some _).trans (congrArg some (by (rw [hjn, List.take_length]; show _ = GSpan.av (njS s); simp only [GSpan.av, njS, List.map_map]; rfl)))⟩, trivial⟩
theorem plR_len : ∀ (i : Nat) (l : List GRes), (plR i l).length ≤ z7 GRes.wt l
  | _, [] => Nat.le_refl _
  | i, r :: l => by
    rw [plR, List.length_append, plC_len, z7]
    have h1 := plR_len (i + 1) l
    have h2 := spansOf_len r.scopes
    have h3 : r.wt = 1 + wtAs r.attrs + z7 GScope.wt r.scopes := rfl
    omega
def p00 : Nat × Nat × Nat := (0, 0, 0)
def nthP (l : List (Nat × Nat × Nat)) (i : Nat) : Nat × Nat × Nat := nth l i p00
theorem ixP {l : List (Nat × Nat × Nat)} {i : Nat} (h : i < l.length) : (l.map plav)[((i : Nat) : Int).toNat]? = some (plav (nthP l i)) := vD (d := p00) h
theorem nthP_mem {l : List (Nat × Nat × Nat)} {i : Nat} (h : i < l.length) : nthP l i ∈ l := nth_mem h
set_option maxHeartbeats 2000000 in
theorem places_c (b : List GRes) (hw : wtB b ≤ 9000000) : zo Tryz.prog Γ0 26 [yK b] [.sl 3 ((plR 0 b).map plav)] := by
  have ql := yR GRes.wt (fun e => by unfold GRes.wt; omega) b
  have qw : wtB b = z7 GRes.wt b := rfl
  refine z_ Tryz.func26 rfl Tryz.ntmps26 (by kernel_rfl) rfl fun w0 I0 G0 => ?_
  refine zD <| zB <| g_uG (zi 1001 rfl rfl rfl rfl) rfl <| g_u (zE rfl rfl) <| zI <| zA <| zD <| zB <| g_u (zE rfl rfl) <| zI <| zA <| zD <| zD <| xJ 3003 3 3 rfl rfl rfl rfl <| zB <| g_u (zE rfl rfl) <| zI <| zA <| zU ?_
  refine zp (fun i : Nat => [(1, .ptr 1001 0), (1001, .box 24 (.imm (yK b))), (3, .slg 3003 3 (((plR 0 (b.take i))).map plav)), (3003, .tok 3 (((plR 0 (b.take i))).map plav)), (4, .imm (iv (i : Int)))]) (fun i => i ≤ b.length) (fun i => b.length - i) (0) ?_ ⟨rfl, rfl, rfl, rfl, rfl, trivial⟩ ?_
  · exact Nat.zero_le _
  · rintro i h1; have h1 : i ≤ b.length := h1
    refine zD <| zD <| zB <| g_u (zC rfl rfl) <| g_u (zF rfl rfl xD rfl) <| g_u (zG rfl rfl rfl tA22 tS22 rfl rfl) <| g_u (zw rfl rfl Tryz.underlying22) <| g_u (yb rfl rfl rfl) <| zI <| zA ?_
    refine zW rfl (fun hb1 => ?_) (fun hb1 => ?_)
    · have hi : i < b.length := by have := of_decide_eq_true hb1; (try simp only [List.length_map] at this); omega
      have hrx := yD GRes.wt (xZ hi)
      have hrq : (nthR b i).wt = 1 + wtAs (nthR b i).attrs + z7 GScope.wt (nthR b i).scopes := rfl
      have hcl := yR GScope.wt (fun e => by unfold GScope.wt; omega) (nthR b i).scopes
      have hl1 : (plR 0 (b.take i)).length ≤ 9000000 := by have h1 := plR_len 0 (b.take i); have h2 := sumBy_take GRes.wt b i; omega
      refine zY <| zA <| zD <| zU <| zD <| zB <| g_u (zE rfl rfl) <| zI <| zA <| zU ?_
      refine zp (fun k : Nat => [(1, .ptr 1001 0), (1001, .box 24 (.imm (yK b))), (3, .slg 3003 3 (((plR 0 (b.take i)) ++ (plC i 0 ((nthR b i).scopes.take k))).map plav)), (3003, .tok 3 (((plR 0 (b.take i)) ++ (plC i 0 ((nthR b i).scopes.take k))).map plav)), (4, .imm (iv (i : Int))), (5, .imm (iv (k : Int)))]) (fun k => k ≤ (nthR b i).scopes.length) (fun k => (nthR b i).scopes.length - k) (0) ?_ ⟨rfl, rfl, yV rfl (by simp [plC]), z8 rfl (by simp [plC]), rfl, rfl, trivial⟩ ?_
      · exact Nat.zero_le _
      · rintro k g1; have g1 : k ≤ (nthR b i).scopes.length := g1
        refine zD <| zD <| zB <| g_u (zC rfl rfl) <| g_u (zF rfl rfl xD rfl) <| g_u (zG rfl rfl rfl tA22 tS22 rfl rfl) <| g_u (zC rfl rfl) ?_
        refine g_u (zJ rfl rfl rfl Tryz.underlying22 tS47 (by omega) (ixR hi)) ?_
        refine g_u (zV rfl rfl wR rfl rfl) <| g_u (zT rfl rfl tA45 tS45 rfl rfl) <| g_u (zw rfl rfl Tryz.underlying45) <| g_u (yb rfl rfl rfl) <| zI <| zA ?_
        refine zW rfl (fun hb2 => ?_) (fun hb2 => ?_)
        · have hk : k < (nthR b i).scopes.length := by have := of_decide_eq_true hb2; (try simp only [List.length_map] at this); omega
          have hcx := yD GScope.wt (vC hk)
          have hcq : (nthC (nthR b i).scopes k).wt = 1 + (nthC (nthR b i).scopes k).name.size + (nthC (nthR b i).scopes k).version.size + z7 GSpan.wt (nthC (nthR b i).scopes k).spans := rfl
          have hsl := yR GSpan.wt (fun e => by unfold GSpan.wt; omega) (nthC (nthR b i).scopes k).spans
          have hl2 : (plC i 0 ((nthR b i).scopes.take k)).length ≤ 9000000 := by have h1 := plC_len i 0 ((nthR b i).scopes.take k); have h2 := spansOf_len ((nthR b i).scopes.take k); have h3 := sumBy_take GScope.wt (nthR b i).scopes k; omega
          refine zY <| zA <| zD <| zU <| zD <| zB <| g_u (zE rfl rfl) <| zI <| zA <| zU ?_
          refine zp (fun m : Nat => [(1, .ptr 1001 0), (1001, .box 24 (.imm (yK b))), (3, .slg 3003 3 (((plR 0 (b.take i)) ++ (plC i 0 ((nthR b i).scopes.take k)) ++ ((List.range m).map fun m => (i, k, m))).map plav)), (3003, .tok 3 (((plR 0 (b.take i)) ++ (plC i 0 ((nthR b i).scopes.take k)) ++ ((List.range m).map fun m => (i, k, m))).map plav)), (4, .imm (iv (i : Int))), (5, .imm (iv (k : Int))), (6, .imm (iv (m : Int)))]) (fun m => m ≤ (nthC (nthR b i).scopes k).spans.length) (fun m => (nthC (nthR b i).scopes k).spans.length - m) (0) ?_ ⟨rfl, rfl, yV rfl (by simp), z8 rfl (by simp), rfl, rfl, rfl, trivial⟩ ?_
          · exact Nat.zero_le _
          · rintro m f1; have f1 : m ≤ (nthC (nthR b i).scopes k).spans.length := f1
            refine zD <| zD <| zB <| g_u (zC rfl rfl) <| g_u (zF rfl rfl xD rfl) <| g_u (zG rfl rfl rfl tA22 tS22 rfl rfl) <| g_u (zC rfl rfl) ?_
            refine g_u (zJ rfl rfl rfl Tryz.underlying22 tS47 (by omega) (ixR hi)) ?_
            refine g_u (zV rfl rfl wR rfl rfl) <| g_u (zT rfl rfl tA45 tS45 rfl rfl) <| g_u (zC rfl rfl) ?_
            refine g_u (zJ rfl rfl rfl Tryz.underlying45 tS51 (by omega) (ixC hk)) ?_
            refine g_u (zV rfl rfl wm rfl rfl) <| g_u (zT rfl rfl tA49 tS49 rfl rfl) <| g_u (zw rfl rfl Tryz.underlying49) <| g_u (yb rfl rfl rfl) <| zI <| zA ?_
            refine zW rfl (fun hb3 => ?_) (fun hb3 => ?_)
            · have hm : m < (nthC (nthR b i).scopes k).spans.length := by have := of_decide_eq_true hb3; (try simp only [List.length_map] at this); omega
              refine zY <| zA <| zD <| zU <| zB <| g_u (zy rfl rfl) <| g_u (zC rfl rfl) <| g_u (zC rfl rfl) <| g_u (zC rfl rfl) <| g_u (y_ rfl tU98 us98 pl98 rfl rfl rfl rfl) <| g_u (za (X0 := z98) rfl Tryz.underlying66 tS98 tZ98 rfl rfl rfl rfl rfl rfl rfl rfl) ?_
              refine g_u (yA rfl rfl rfl rfl rfl Tryz.underlying66 Tryz.underlying66 tS98 zv98 rfl (by decide) by98 (by (try dsimp only); simp only [List.length_append, List.length_cons, List.length_nil, List.length_map, List.length_range]; omega) (by (try dsimp only); simp only [List.length_append, List.length_cons, List.length_nil, List.length_map, List.length_range]; omega)) ?_
              refine g_u (yB rfl rfl) <| zI <| zX <| zA <| zB <| g_u (zC rfl rfl) <| g_u (yG rfl rfl rfl) <| g_u (zE rfl rfl) <| zI <| zA ?_
              have et : (((plR 0 (b.take i)) ++ (plC i 0 ((nthR b i).scopes.take k)) ++ ((List.range (m + 1)).map fun m => (i, k, m))).map plav) = (((plR 0 (b.take i)) ++ (plC i 0 ((nthR b i).scopes.take k)) ++ ((List.range m).map fun m => (i, k, m))).map plav) ++ [plav (i, k, m)] := by rw [range_snoc, ← List.append_assoc, List.map_append]; rfl
              refine ⟨m + 1, hm, ⟨rfl, rfl, yV rfl et.symm, z8 rfl et.symm, rfl, rfl, zZ rfl (by rw [ze (by omega) (by omega)]; rfl), trivial⟩, by (try dsimp only); omega⟩
            · have hmn : m = (nthC (nthR b i).scopes k).spans.length := by have := of_decide_eq_false hb3; (try simp only [List.length_map] at this); omega
              refine zu <| zR <| zR <| zn <| zX <| zA <| zB <| g_u (zC rfl rfl) <| g_u (yG rfl rfl rfl) <| g_u (zE rfl rfl) <| zI <| zA ?_
              have et : (((plR 0 (b.take i)) ++ (plC i 0 ((nthR b i).scopes.take (k + 1)))).map plav) = (((plR 0 (b.take i)) ++ (plC i 0 ((nthR b i).scopes.take k)) ++ ((List.range m).map fun m => (i, k, m))).map plav) := by rw [plC_take hk, hmn, List.append_assoc]
              refine ⟨k + 1, hk, ⟨rfl, rfl, yV rfl et.symm, z8 rfl et.symm, rfl, zZ rfl (by rw [ze (by omega) (by omega)]; rfl), trivial⟩, by (try dsimp only); omega⟩
        · have hkn : k = (nthR b i).scopes.length := by have := of_decide_eq_false hb2; (try simp only [List.length_map] at this); omega
          refine zu <| zR <| zR <| zn <| zX <| zA <| zB <| g_u (zC rfl rfl) <| g_u (yG rfl rfl rfl) <| g_u (zE rfl rfl) <| zI <| zA ?_
          have et : ((plR 0 (b.take (i + 1))).map plav) = (((plR 0 (b.take i)) ++ (plC i 0 ((nthR b i).scopes.take k))).map plav) := by rw [plR_take hi, hkn, List.take_length]
          refine ⟨i + 1, hi, ⟨rfl, rfl, yV rfl et.symm, z8 rfl et.symm, zZ rfl (by rw [ze (by omega) (by omega)]; rfl), trivial⟩, by (try dsimp only); omega⟩
    · have hin : i = b.length := by have := of_decide_eq_false hb1; (try simp only [List.length_map] at this); omega
      refine zu <| zR <| zR <| zn <| zA <| zD <| zB <| g_u (zy rfl rfl) <| g_u (yB rfl rfl) <| zI <| zA <| zL ?_
      exact ⟨⟨(rfl : toAV (Al.look _ _) = some _).trans (congrArg some (by (rw [hin, List.take_length]))), rfl⟩, trivial⟩
set_option maxHeartbeats 8000000 in
theorem rnjB_c (b : List GRes) (ho : okB b) (hw : wtB b ≤ 9000000) (hr : ∀ r ∈ b, risA none r.attrs) : zo Tryz.prog Γ0 37 [yK b] [yK (njB b)] := by
  have ql := yR GRes.wt (fun e => by unfold GRes.wt; omega) b
  have qw : wtB b = z7 GRes.wt b := rfl
  refine z_ Tryz.func37 rfl Tryz.ntmps37 (by kernel_rfl) rfl fun w0 I0 G0 => ?_
  refine zD <| zB <| g_uG (zi 1001 rfl rfl rfl rfl) rfl <| g_uG (zl 1002 rfl rfl rfl tZ24) rfl <| zI <| zA <| zD <| zB <| g_uG (zl 1003 rfl rfl rfl tZ24) rfl <| zI <| zA <| zD <| zD <| yn 3099 1003 2 0 rfl rfl rfl rfl rfl rfl rfl <| zB <| g_u (zE rfl rfl) <| zI <| zA <| zU ?_
  refine zp (fun i : Nat => [(1, .ptr 1001 0), (1001, .box 24 (.imm (yK b))), (2, .ptr 1002 0), (1002, .box 24 (.imm z24)), (3, .ptr 1003 0), (1003, .box 24 (.agg [.slg 3099 2 ((b.take i).map fun r => (njR r).av)])), (3099, .tok 2 ((b.take i).map fun r => (njR r).av)), (4, .imm (iv (i : Int)))]) (fun i => i ≤ b.length) (fun i => b.length - i) (0) ?_ ⟨rfl, rfl, rfl, rfl, rfl, rfl, rfl, rfl, trivial⟩ ?_
  · exact Nat.zero_le _
  · rintro i h1; have h1 : i ≤ b.length := h1
    refine zD <| zD <| zB <| g_u (zC rfl rfl) <| g_u (zF rfl rfl xD rfl) <| g_u (zG rfl rfl rfl tA22 tS22 rfl rfl) <| g_u (zw rfl rfl Tryz.underlying22) <| g_u (yb rfl rfl rfl) <| zI <| zA ?_
    refine zW rfl (fun hb1 => ?_) (fun hb1 => ?_)
    · have hi : i < b.length := by have := of_decide_eq_true hb1; (try simp only [List.length_map] at this); omega
      have hrx := yD GRes.wt (xZ hi)
      have hro := ho _ (xZ hi)
      have hrr := hr _ (xZ hi)
      have hrq : (nthR b i).wt = 1 + wtAs (nthR b i).attrs + z7 GScope.wt (nthR b i).scopes := rfl
      have hkr := ris_kept [] hrr
      have hkl : (vI [] (nthR b i).attrs).length ≤ (nthR b i).attrs.length := by unfold vI; have := dropA_len [] ((nthR b i).attrs.map (yl nJ)); rw [List.length_map] at this; exact this
      have qa := yi (nthR b i).attrs
      have qsp := spansOf_len (nthR b i).scopes
      have hpl : (plR 0 [(nthR b i)]).length = (zz (nthR b i).scopes).length := by rw [plR_one, plC_len]
      have hps : ((plR 0 [(nthR b i)]).map fun p => (njS (nthS (nthC (nthR b i).scopes p.2.1).spans p.2.2)).av) = ((zz (nthR b i).scopes).map njS).map GSpan.av := by rw [plR_one, List.map_map, ← plC_spans 0 (nthR b i).scopes [], List.map_map]; rfl
      have hw1 : wtB [(nthR b i)] ≤ 9000000 := by show z7 GRes.wt [(nthR b i)] ≤ _; simp only [z7]; omega
      refine zY <| zA <| zD <| zU <| zD <| zB <| g_u (zF rfl rfl xD rfl) <| g_u (zG rfl rfl rfl tA22 tS22 rfl rfl) <| g_u (zC rfl rfl) ?_
      refine g_u (zJ rfl rfl rfl Tryz.underlying22 tS47 (by omega) (ixR hi)) ?_
      refine g_u (zT rfl rfl tA47 tS47 rfl rfl) <| g_uG (zl 1005 rfl rfl rfl tZ47) rfl <| g_u (zK rfl rfl rfl tS47 rfl rfl) <| zI <| zA <| zD <| zB <| g_u (zk rfl rfl rfl tA47 tS47 rfl rfl) <| g_u (za (X0 := z47) rfl Tryz.underlying22 tS47 tZ47 rfl rfl rfl rfl rfl rfl rfl rfl) <| g_u (y_ rfl tU24 us24 pl24 rfl rfl rfl rfl) <| g_u (zP (places_c [(nthR b i)] hw1) rfl rfl) <| g_u (zE rfl rfl) <| zI <| zA <| zD <| yE yt <| g_u (zF rfl rfl fa47_0 rfl) <| g_u (zG rfl rfl rfl tA44 tS44 rfl rfl) ?_
      refine g_u (zP (nil2nd (n := 1) (rkept_c (nthR b i).attrs [] hro.1 (by omega) (by decide))) rfl rfl) ?_
      refine g_u (zk rfl rfl rfl tA47 tS47 rfl rfl) ?_
      refine g_u (zP (rservice_c (nthR b i) hro.1 (by omega)) rfl rfl) ?_
      refine g_u (zP (rnamed_c (vI [] (nthR b i).attrs) (yg (nthR b i)) hkr (by omega)) rfl rfl) ?_
      refine g_u (y_ rfl tU47 us47 pl47 rfl rfl rfl rfl) <| g_uG (zl 1007 rfl rfl rfl tZ47) rfl <| g_u (zK rfl rfl rfl tS47 rfl rfl) ?_
      refine zI ⟨by kernel_rfl, ?_⟩
      refine zA <| zD <| zB <| g_u (zE rfl rfl) <| zI <| zA <| zD <| zD <| xJ 3008 8 42 rfl rfl rfl rfl <| zB <| g_u (zE rfl rfl) <| zI <| zA <| zU ?_
      refine zp (fun k : Nat => [(1, .ptr 1001 0), (1001, .box 24 (.imm (yK b))), (2, .ptr 1002 0), (1002, .box 24 (.imm z24)), (3, .ptr 1003 0), (1003, .box 24 (.agg [.slg 3099 2 ((b.take i).map fun r => (njR r).av)])), (3099, .tok 2 ((b.take i).map fun r => (njR r).av)), (4, .imm (iv (i : Int))), (5, .ptr 1005 0), (1005, .box 47 (.imm (nthR b i).av)), (6, .imm (.sl 3 ((plR 0 [(nthR b i)]).map plav))), (7, .ptr 1007 0), (1007, .box 47 (.imm (.agg [.sl 7 ((wP (vI [] (nthR b i).attrs) (yg (nthR b i))).map avA), .sl 3 []]))), (8, .slg 3008 42 (((plR 0 [(nthR b i)]).take k).map fun p => (njS (nthS (nthC (nthR b i).scopes p.2.1).spans p.2.2)).av)), (3008, .tok 42 (((plR 0 [(nthR b i)]).take k).map fun p => (njS (nthS (nthC (nthR b i).scopes p.2.1).spans p.2.2)).av)), (9, .imm (iv (k : Int)))]) (fun k => k ≤ (plR 0 [(nthR b i)]).length) (fun k => (plR 0 [(nthR b i)]).length - k) (0) ?_ ⟨rfl, rfl, rfl, rfl, rfl, rfl, rfl, rfl, rfl, rfl, rfl, rfl, rfl, rfl, rfl, rfl, trivial⟩ ?_
      · exact Nat.zero_le _
      · rintro k g1; have g1 : k ≤ (plR 0 [(nthR b i)]).length := g1
        refine zD <| zD <| zB <| g_u (zC rfl rfl) <| g_u (zC rfl rfl) <| g_u (zw rfl rfl Tryz.underlying66) <| g_u (yb rfl rfl rfl) <| zI <| zA ?_
        refine zW rfl (fun hb2 => ?_) (fun hb2 => ?_)
        · have hk : k < (plR 0 [(nthR b i)]).length := by have := of_decide_eq_true hb2; (try simp only [List.length_map] at this); omega
          have hkm : (nthP (plR 0 [(nthR b i)]) k) ∈ plC 0 ([] : List GScope).length (nthR b i).scopes := by have := nthP_mem hk; rw [plR_one] at this ⊢; exact this
          have hk1 : (nthP (plR 0 [(nthR b i)]) k).2.1 < (nthR b i).scopes.length := (plC_mem hkm).1
          have hk2 : (nthP (plR 0 [(nthR b i)]) k).2.2 < (nthC (nthR b i).scopes (nthP (plR 0 [(nthR b i)]) k).2.1).spans.length := (plC_mem hkm).2
          have hcx := yD GScope.wt (vC hk1)
          have hcq : (nthC (nthR b i).scopes (nthP (plR 0 [(nthR b i)]) k).2.1).wt = 1 + (nthC (nthR b i).scopes (nthP (plR 0 [(nthR b i)]) k).2.1).name.size + (nthC (nthR b i).scopes (nthP (plR 0 [(nthR b i)]) k).2.1).version.size + z7 GSpan.wt (nthC (nthR b i).scopes (nthP (plR 0 [(nthR b i)]) k).2.1).spans := rfl
          have hsx := yD GSpan.wt (nthS_mem hk2)
          have hso := (hro.2 _ (vC hk1)).2.2 _ (nthS_mem hk2)
          refine zY <| zA <| zD <| zU <| yE yt <| g_u (zy rfl rfl) <| g_u (zF rfl rfl wR rfl) <| g_u (zG rfl rfl rfl tA45 tS45 rfl rfl) <| g_u (zC rfl rfl) <| g_u (zC rfl rfl) ?_
          refine g_u (zJ rfl rfl rfl Tryz.underlying66 tS98 (by omega) (ixP hk)) ?_
          refine g_u (zV rfl rfl fa98_1 rfl rfl) <| g_u (zT rfl rfl tA3 tS3 rfl rfl) ?_
          refine g_u (zJ rfl rfl rfl Tryz.underlying45 tS51 (by omega) (ixC hk1)) ?_
          refine g_u (zV rfl rfl wm rfl rfl) <| g_u (zT rfl rfl tA49 tS49 rfl rfl) <| g_u (zC rfl rfl) <| g_u (zC rfl rfl) ?_
          refine g_u (zJ rfl rfl rfl Tryz.underlying66 tS98 (by omega) (ixP hk)) ?_
          refine g_u (zV rfl rfl fa98_2 rfl rfl) <| g_u (zT rfl rfl tA3 tS3 rfl rfl) ?_
          refine g_u (zJ rfl rfl rfl Tryz.underlying49 tS63 (by omega) (ixS hk2)) ?_
          refine g_u (zT rfl rfl tA63 tS63 rfl (by first | exact xP (GSpan.width _) rfl | rfl)) ?_
          refine g_u (zP (rnjS_c _ hso (by omega)) rfl rfl) ?_
          refine g_u (za (X0 := z63) rfl Tryz.underlying49 tS63 tZ63 rfl rfl rfl rfl rfl rfl rfl rfl) ?_
          refine g_u (yA rfl rfl rfl rfl rfl Tryz.underlying49 Tryz.underlying49 tS63 zv63 rfl (by decide) by63 (by (try dsimp only); simp only [List.length_append, List.length_cons, List.length_nil, List.length_map, List.length_take, List.length_drop]; omega) (by (try dsimp only); simp only [List.length_append, List.length_cons, List.length_nil, List.length_map, List.length_take, List.length_drop]; omega)) ?_
          refine g_u (yB rfl rfl) ?_
          refine zI ⟨by kernel_rfl, ?_⟩
          refine zX <| zA <| zB <| g_u (zC rfl rfl) <| g_u (yG rfl rfl rfl) <| g_u (zE rfl rfl) <| zI <| zA ?_
          have eu : (((plR 0 [(nthR b i)]).take (k + 1)).map fun p => (njS (nthS (nthC (nthR b i).scopes p.2.1).spans p.2.2)).av) = (((plR 0 [(nthR b i)]).take k).map fun p => (njS (nthS (nthC (nthR b i).scopes p.2.1).spans p.2.2)).av) ++ [(njS (nthS (nthC (nthR b i).scopes (nthP (plR 0 [(nthR b i)]) k).2.1).spans (nthP (plR 0 [(nthR b i)]) k).2.2)).av] := by rw [zx (yZ (d := p00) hk), List.map_append]; rfl
          refine ⟨k + 1, hk, ⟨rfl, rfl, rfl, rfl, rfl, rfl, rfl, rfl, rfl, rfl, rfl, rfl, rfl, yV rfl eu.symm, z8 rfl eu.symm, zZ rfl (by rw [ze (by omega) (by omega)]; rfl), trivial⟩, by (try dsimp only); omega⟩
        · have hkn : k = (plR 0 [(nthR b i)]).length := by have := of_decide_eq_false hb2; (try simp only [List.length_map] at this); omega
          refine zu <| zR <| zR <| zn <| zA <| zD <| zD <| zB <| g_u (zy rfl rfl) <| g_u (zw rfl rfl Tryz.underlying49) <| g_u (s_gtI rfl rfl rfl) <| zI <| zA ?_
          refine zW rfl (fun hb3 => ?_) (fun hb3 => ?_)
          · have hfull : (((plR 0 [(nthR b i)]).take k).map fun p => (njS (nthS (nthC (nthR b i).scopes p.2.1).spans p.2.2)).av) = ((zz (nthR b i).scopes).map njS).map GSpan.av := by rw [hkn, List.take_length]; exact hps
            have et : ((b.take (i + 1)).map fun r => (njR r).av) = ((b.take i).map fun r => (njR r).av) ++ [.agg [.sl 7 ((wP (vI [] (nthR b i).attrs) (yg (nthR b i))).map avA), .sl 3 [.agg [sv ⟨#[]⟩, sv ⟨#[]⟩, .sl 42 (((plR 0 [(nthR b i)]).take k).map fun p => (njS (nthS (nthC (nthR b i).scopes p.2.1).spans p.2.2)).av)]]]] := by rw [zx (yZ (d := gr0) hi), List.map_append]; refine congrArg (_ ++ ·) ?_; show [(njR (nthR b i)).av] = _; unfold njR scopeJ; rw [if_pos (by have e := of_decide_eq_true hb3; simp only [List.length_map, List.length_take] at e ⊢; omega)]; rw [hfull]; rfl
            refine zB <| g_u (zy rfl rfl) <| g_u (y_ rfl tU51 us51 pl51 rfl rfl rfl rfl) <| g_u (za (X0 := z51) rfl Tryz.underlying45 tS51 tZ51 rfl rfl rfl rfl rfl rfl rfl rfl) <| g_u (zF rfl rfl wR rfl) <| g_u (xO rfl rfl rfl rfl tS45 rfl rfl) <| zI <| zA <| zB <| g_u (zF rfl rfl xD rfl) <| g_u (yj rfl rfl rfl tA22 tS22 rfl rfl) <| g_u (zk rfl rfl rfl tA47 tS47 rfl rfl) <| g_u (za (X0 := z47) rfl Tryz.underlying22 tS47 tZ47 rfl rfl rfl rfl rfl rfl rfl rfl) ?_
            refine g_u (yA rfl rfl rfl rfl rfl Tryz.underlying22 Tryz.underlying22 tS47 zv47 rfl (by decide) by47 (by (try dsimp only); simp only [List.length_append, List.length_cons, List.length_nil, List.length_map, List.length_take, List.length_drop]; omega) (by (try dsimp only); simp only [List.length_append, List.length_cons, List.length_nil, List.length_map, List.length_take, List.length_drop]; omega)) ?_
            refine g_u (zF rfl rfl xD rfl) <| g_u (xO rfl rfl rfl rfl tS22 rfl rfl) <| zI <| zX <| zA <| zB <| g_u (zC rfl rfl) <| g_u (yG rfl rfl rfl) <| g_u (zE rfl rfl) <| zI <| zA ?_
            refine ⟨i + 1, hi, ⟨rfl, rfl, rfl, rfl, rfl, (by rw [et]; rfl), z8 rfl et.symm, zZ rfl (by rw [ze (by omega) (by omega)]; rfl), trivial⟩, by (try dsimp only); omega⟩
          · have et : ((b.take (i + 1)).map fun r => (njR r).av) = ((b.take i).map fun r => (njR r).av) ++ [.agg [.sl 7 ((wP (vI [] (nthR b i).attrs) (yg (nthR b i))).map avA), .sl 3 []]] := by rw [zx (yZ (d := gr0) hi), List.map_append]; refine congrArg (_ ++ ·) ?_; show [(njR (nthR b i)).av] = _; unfold njR scopeJ; rw [if_neg (by have e := of_decide_eq_false hb3; simp only [List.length_map, List.length_take] at e ⊢; omega)]; rfl
            refine zY <| zA <| zB <| g_u (zF rfl rfl xD rfl) <| g_u (yj rfl rfl rfl tA22 tS22 rfl rfl) <| g_u (zG rfl rfl rfl tA47 tS47 rfl rfl) <| g_u (za (X0 := z47) rfl Tryz.underlying22 tS47 tZ47 rfl rfl rfl rfl rfl rfl rfl rfl) ?_
            refine g_u (yA rfl rfl rfl rfl rfl Tryz.underlying22 Tryz.underlying22 tS47 zv47 rfl (by decide) by47 (by (try dsimp only); simp only [List.length_append, List.length_cons, List.length_nil, List.length_map, List.length_take, List.length_drop]; omega) (by (try dsimp only); simp only [List.length_append, List.length_cons, List.length_nil, List.length_map, List.length_take, List.length_drop]; omega)) ?_
            refine g_u (zF rfl rfl xD rfl) <| g_u (xO rfl rfl rfl rfl tS22 rfl rfl) <| zI <| zX <| zA <| zB <| g_u (zC rfl rfl) <| g_u (yG rfl rfl rfl) <| g_u (zE rfl rfl) <| zI <| zA ?_
            refine ⟨i + 1, hi, ⟨rfl, rfl, rfl, rfl, rfl, (by rw [et]; rfl), z8 rfl et.symm, zZ rfl (by rw [ze (by omega) (by omega)]; rfl), trivial⟩, by (try dsimp only); omega⟩
    · have hin : i = b.length := by have := of_decide_eq_false hb1; (try simp only [List.length_map] at this); omega
      refine zu <| zR <| zR <| zn <| zA <| zD <| zB <| g_u (zk rfl rfl rfl tA24 tS24 rfl rfl) <| g_u (zK rfl rfl rfl tS24 rfl rfl) <| zI <| zA <| zL ?_
      exact ⟨⟨_, _, _, _, _, _, _, rfl, rfl, tA24, tS24, rfl, rfl, (rfl : toAV _ = some _).trans (congrArg some (by (rw [hin, List.take_length]; show AV.agg [.sl 2 _] = AV.agg [.sl 2 ((b.map njR).map GRes.av)]; rw [List.map_map]; rfl)))⟩, trivial⟩
end Go.Proofs
namespace Go.Proofs
open Go Go.Al
set_option maxRecDepth 10000
theorem eq54 (a b : List UInt8) : eqV Tryz.prog 100 54 (.arr 16 a) (.arr 16 b) = some (a == b) := by kernel_rfl
theorem eq56 (a b : List UInt8) : eqV Tryz.prog 100 56 (.arr 8 a) (.arr 8 b) = some (a == b) := by kernel_rfl
theorem eq61 (c d : Int) (m n : ByteArray) : eqV Tryz.prog 100 61 (.agg [iv c, sv m]) (.agg [iv d, sv n]) = some ((c == d) && ((m.toList == n.toList) && true)) := by kernel_rfl
set_option maxHeartbeats 4000000 in
theorem rsameS_c (a b : GSpan) (hw : a.wt ≤ 1000000000) : zo Tryz.prog Γ0 69 [a.av, b.av] [bv (decide (a = b))] := by
  have qw : a.wt = 1 + a.state.size + a.name.size + a.note.size + wtAs a.attrs + z7 GE.wt a.events + z7 GL.wt a.links := rfl
  have ql := yR GE.wt (fun e => by unfold GE.wt; omega) a.events
  have qm := yR GL.wt (fun e => by unfold GL.wt; omega) a.links
  refine z_ Tryz.func69 rfl Tryz.ntmps69 (by kernel_rfl) rfl fun w0 I0 G0 => ?_
  refine zD <| zB <| g_uG (zi 1002 rfl rfl rfl rfl) rfl <| g_uG (zi 1003 rfl rfl rfl rfl) rfl <| g_u (zE rfl rfl) <| zI <| zA <| zD <| zD <| zB <| g_u (zF rfl rfl fa63_0 rfl) <| g_u (zG rfl rfl rfl tA54 tS54 rfl rfl) <| g_u (zF rfl rfl fa63_0 rfl) <| g_u (zG rfl rfl rfl tA54 tS54 rfl rfl) <| g_u (s_neA rfl rfl rfl eg54 rfl rfl (eq54 _ _)) <| g_u (zC rfl rfl) <| z0 (t := 16) rfl ?_
  rintro (hb1 | hb1)
  · rw [hb1]
    have q : ¬ a.trace = b.trace := by have e := hb1; simpa using e
    refine zH rfl rfl rfl <| zH rfl rfl rfl <| zH rfl rfl rfl <| zH rfl rfl rfl <| zH rfl rfl rfl <| g_u (zQ rfl rfl rfl) <| g_u (zC rfl rfl) <| zH rfl rfl rfl <| zH rfl rfl rfl <| zH rfl rfl rfl <| zH rfl rfl rfl <| zH rfl rfl rfl <| g_u (zQ rfl rfl rfl) <| g_u (zC rfl rfl) <| zH rfl rfl rfl <| zH rfl rfl rfl <| zH rfl rfl rfl <| zH rfl rfl rfl <| zH rfl rfl rfl <| g_u (zQ rfl rfl rfl) <| g_u (zC rfl rfl) <| zH rfl rfl rfl <| zH rfl rfl rfl <| zH rfl rfl rfl <| zH rfl rfl rfl <| zH rfl rfl rfl <| g_u (zQ rfl rfl rfl) <| g_u (zC rfl rfl) <| zH rfl rfl rfl <| zH rfl rfl rfl <| zH rfl rfl rfl <| zH rfl rfl rfl <| zH rfl rfl rfl <| g_u (zQ rfl rfl rfl) <| g_u (zC rfl rfl) <| zH rfl rfl rfl <| zH rfl rfl rfl <| zH rfl rfl rfl <| zH rfl rfl rfl <| zH rfl rfl rfl <| g_u (zQ rfl rfl rfl) <| g_u (zC rfl rfl) <| zH rfl rfl rfl <| zH rfl rfl rfl <| zH rfl rfl rfl <| zH rfl rfl rfl <| zH rfl rfl rfl <| g_u (zQ rfl rfl rfl) <| g_u (zC rfl rfl) <| zH rfl rfl rfl <| zH rfl rfl rfl <| zH rfl rfl rfl <| zH rfl rfl rfl <| zH rfl rfl rfl <| g_u (zQ rfl rfl rfl) <| zI <| zA <| zg rfl <| zD <| zB <| g_u (zE rfl rfl) <| zI <| zA <| zL <| zM ?_
    exact ⟨⟨(rfl : toAV (Al.look _ _) = some _).trans (congrArg some (by (exact congrArg bv (by first | exact (decide_eq_false (fun e => q ⟨congrArg GSpan.code e, congrArg GSpan.note e⟩)).symm | exact (decide_eq_false (fun e => q (by rw [e]))).symm | exact (decide_eq_true (GSpan.ext' e0 e1 e2 e3 e4 e5 e6 e7 e9 (zv ge0 e10 (fun j hj => hev j (by omega))) (zv gl0 e11 (fun j hj => h4 j (by omega))) e8.1 e8.2)).symm)))), rfl⟩, trivial⟩
  · rw [hb1]
    have e0 : a.trace = b.trace := by have e := hb1; simpa using e
    refine zN rfl rfl (zF rfl rfl fa63_1 rfl) <| zN rfl rfl (zG rfl rfl rfl tA56 tS56 rfl rfl) <| zN rfl rfl (zF rfl rfl fa63_1 rfl) <| zN rfl rfl (zG rfl rfl rfl tA56 tS56 rfl rfl) <| zN rfl rfl (s_neA rfl rfl rfl eg56 rfl rfl (eq56 _ _)) <| g_u (zh rfl rfl rfl) <| g_u (zC rfl rfl) <| z0 (t := 23) rfl ?_
    rintro (hb2 | hb2)
    · rw [hb2]
      have q : ¬ a.id = b.id := by have e := hb2; simpa using e
      refine zH rfl rfl rfl <| zH rfl rfl rfl <| zH rfl rfl rfl <| zH rfl rfl rfl <| zH rfl rfl rfl <| g_u (zQ rfl rfl rfl) <| g_u (zC rfl rfl) <| zH rfl rfl rfl <| zH rfl rfl rfl <| zH rfl rfl rfl <| zH rfl rfl rfl <| zH rfl rfl rfl <| g_u (zQ rfl rfl rfl) <| g_u (zC rfl rfl) <| zH rfl rfl rfl <| zH rfl rfl rfl <| zH rfl rfl rfl <| zH rfl rfl rfl <| zH rfl rfl rfl <| g_u (zQ rfl rfl rfl) <| g_u (zC rfl rfl) <| zH rfl rfl rfl <| zH rfl rfl rfl <| zH rfl rfl rfl <| zH rfl rfl rfl <| zH rfl rfl rfl <| g_u (zQ rfl rfl rfl) <| g_u (zC rfl rfl) <| zH rfl rfl rfl <| zH rfl rfl rfl <| zH rfl rfl rfl <| zH rfl rfl rfl <| zH rfl rfl rfl <| g_u (zQ rfl rfl rfl) <| g_u (zC rfl rfl) <| zH rfl rfl rfl <| zH rfl rfl rfl <| zH rfl rfl rfl <| zH rfl rfl rfl <| zH rfl rfl rfl <| g_u (zQ rfl rfl rfl) <| g_u (zC rfl rfl) <| zH rfl rfl rfl <| zH rfl rfl rfl <| zH rfl rfl rfl <| zH rfl rfl rfl <| zH rfl rfl rfl <| g_u (zQ rfl rfl rfl) <| zI <| zA <| zg rfl <| zD <| zB <| g_u (zE rfl rfl) <| zI <| zA <| zL <| zM ?_
      exact ⟨⟨(rfl : toAV (Al.look _ _) = some _).trans (congrArg some (by (exact congrArg bv (by first | exact (decide_eq_false (fun e => q ⟨congrArg GSpan.code e, congrArg GSpan.note e⟩)).symm | exact (decide_eq_false (fun e => q (by rw [e]))).symm | exact (decide_eq_true (GSpan.ext' e0 e1 e2 e3 e4 e5 e6 e7 e9 (zv ge0 e10 (fun j hj => hev j (by omega))) (zv gl0 e11 (fun j hj => h4 j (by omega))) e8.1 e8.2)).symm)))), rfl⟩, trivial⟩
    · rw [hb2]
      have e1 : a.id = b.id := by have e := hb2; simpa using e
      refine zN rfl rfl (zF rfl rfl fa63_2 rfl) <| zN rfl rfl (zG rfl rfl rfl tA56 tS56 rfl rfl) <| zN rfl rfl (zF rfl rfl fa63_2 rfl) <| zN rfl rfl (zG rfl rfl rfl tA56 tS56 rfl rfl) <| zN rfl rfl (s_neA rfl rfl rfl eg56 rfl rfl (eq56 _ _)) <| g_u (zh rfl rfl rfl) <| g_u (zC rfl rfl) <| z0 (t := 30) rfl ?_
      rintro (hb3 | hb3)
      · rw [hb3]
        have q : ¬ a.parent = b.parent := by have e := hb3; simpa using e
        refine zH rfl rfl rfl <| zH rfl rfl rfl <| zH rfl rfl rfl <| zH rfl rfl rfl <| zH rfl rfl rfl <| g_u (zQ rfl rfl rfl) <| g_u (zC rfl rfl) <| zH rfl rfl rfl <| zH rfl rfl rfl <| zH rfl rfl rfl <| zH rfl rfl rfl <| zH rfl rfl rfl <| g_u (zQ rfl rfl rfl) <| g_u (zC rfl rfl) <| zH rfl rfl rfl <| zH rfl rfl rfl <| zH rfl rfl rfl <| zH rfl rfl rfl <| zH rfl rfl rfl <| g_u (zQ rfl rfl rfl) <| g_u (zC rfl rfl) <| zH rfl rfl rfl <| zH rfl rfl rfl <| zH rfl rfl rfl <| zH rfl rfl rfl <| zH rfl rfl rfl <| g_u (zQ rfl rfl rfl) <| g_u (zC rfl rfl) <| zH rfl rfl rfl <| zH rfl rfl rfl <| zH rfl rfl rfl <| zH rfl rfl rfl <| zH rfl rfl rfl <| g_u (zQ rfl rfl rfl) <| g_u (zC rfl rfl) <| zH rfl rfl rfl <| zH rfl rfl rfl <| zH rfl rfl rfl <| zH rfl rfl rfl <| zH rfl rfl rfl <| g_u (zQ rfl rfl rfl) <| zI <| zA <| zg rfl <| zD <| zB <| g_u (zE rfl rfl) <| zI <| zA <| zL <| zM ?_
        exact ⟨⟨(rfl : toAV (Al.look _ _) = some _).trans (congrArg some (by (exact congrArg bv (by first | exact (decide_eq_false (fun e => q ⟨congrArg GSpan.code e, congrArg GSpan.note e⟩)).symm | exact (decide_eq_false (fun e => q (by rw [e]))).symm | exact (decide_eq_true (GSpan.ext' e0 e1 e2 e3 e4 e5 e6 e7 e9 (zv ge0 e10 (fun j hj => hev j (by omega))) (zv gl0 e11 (fun j hj => h4 j (by omega))) e8.1 e8.2)).symm)))), rfl⟩, trivial⟩
      · rw [hb3]
        have e2 : a.parent = b.parent := by have e := hb3; simpa using e
        refine zN rfl rfl (zF rfl rfl fa63_3 rfl) <| zN rfl rfl (zG rfl rfl rfl tA9 tS9 rfl rfl) <| zN rfl rfl (zF rfl rfl fa63_3 rfl) <| zN rfl rfl (zG rfl rfl rfl tA9 tS9 rfl rfl) <| zN rfl rfl (s_neS rfl rfl rfl) <| g_u (zh rfl rfl rfl) <| g_u (zC rfl rfl) <| z0 (t := 37) rfl ?_
        rintro (hb4 | hb4)
        · rw [hb4]
          have q : ¬ a.state = b.state := by have e := hb4; rw [yN] at e; simpa using e
          refine zH rfl rfl rfl <| zH rfl rfl rfl <| zH rfl rfl rfl <| zH rfl rfl rfl <| zH rfl rfl rfl <| g_u (zQ rfl rfl rfl) <| g_u (zC rfl rfl) <| zH rfl rfl rfl <| zH rfl rfl rfl <| zH rfl rfl rfl <| zH rfl rfl rfl <| zH rfl rfl rfl <| g_u (zQ rfl rfl rfl) <| g_u (zC rfl rfl) <| zH rfl rfl rfl <| zH rfl rfl rfl <| zH rfl rfl rfl <| zH rfl rfl rfl <| zH rfl rfl rfl <| g_u (zQ rfl rfl rfl) <| g_u (zC rfl rfl) <| zH rfl rfl rfl <| zH rfl rfl rfl <| zH rfl rfl rfl <| zH rfl rfl rfl <| zH rfl rfl rfl <| g_u (zQ rfl rfl rfl) <| g_u (zC rfl rfl) <| zH rfl rfl rfl <| zH rfl rfl rfl <| zH rfl rfl rfl <| zH rfl rfl rfl <| zH rfl rfl rfl <| g_u (zQ rfl rfl rfl) <| zI <| zA <| zg rfl <| zD <| zB <| g_u (zE rfl rfl) <| zI <| zA <| zL <| zM ?_
          exact ⟨⟨(rfl : toAV (Al.look _ _) = some _).trans (congrArg some (by (exact congrArg bv (by first | exact (decide_eq_false (fun e => q ⟨congrArg GSpan.code e, congrArg GSpan.note e⟩)).symm | exact (decide_eq_false (fun e => q (by rw [e]))).symm | exact (decide_eq_true (GSpan.ext' e0 e1 e2 e3 e4 e5 e6 e7 e9 (zv ge0 e10 (fun j hj => hev j (by omega))) (zv gl0 e11 (fun j hj => h4 j (by omega))) e8.1 e8.2)).symm)))), rfl⟩, trivial⟩
        · rw [hb4]
          have e3 : a.state = b.state := by have e := hb4; rw [yN] at e; simpa using e
          refine zN rfl rfl (zF rfl rfl fa63_4 rfl) <| zN rfl rfl (zG rfl rfl rfl tA9 tS9 rfl rfl) <| zN rfl rfl (zF rfl rfl fa63_4 rfl) <| zN rfl rfl (zG rfl rfl rfl tA9 tS9 rfl rfl) <| zN rfl rfl (s_neS rfl rfl rfl) <| g_u (zh rfl rfl rfl) <| g_u (zC rfl rfl) <| z0 (t := 44) rfl ?_
          rintro (hb5 | hb5)
          · rw [hb5]
            have q : ¬ a.name = b.name := by have e := hb5; rw [yN] at e; simpa using e
            refine zH rfl rfl rfl <| zH rfl rfl rfl <| zH rfl rfl rfl <| zH rfl rfl rfl <| zH rfl rfl rfl <| g_u (zQ rfl rfl rfl) <| g_u (zC rfl rfl) <| zH rfl rfl rfl <| zH rfl rfl rfl <| zH rfl rfl rfl <| zH rfl rfl rfl <| zH rfl rfl rfl <| g_u (zQ rfl rfl rfl) <| g_u (zC rfl rfl) <| zH rfl rfl rfl <| zH rfl rfl rfl <| zH rfl rfl rfl <| zH rfl rfl rfl <| zH rfl rfl rfl <| g_u (zQ rfl rfl rfl) <| g_u (zC rfl rfl) <| zH rfl rfl rfl <| zH rfl rfl rfl <| zH rfl rfl rfl <| zH rfl rfl rfl <| zH rfl rfl rfl <| g_u (zQ rfl rfl rfl) <| zI <| zA <| zg rfl <| zD <| zB <| g_u (zE rfl rfl) <| zI <| zA <| zL <| zM ?_
            exact ⟨⟨(rfl : toAV (Al.look _ _) = some _).trans (congrArg some (by (exact congrArg bv (by first | exact (decide_eq_false (fun e => q ⟨congrArg GSpan.code e, congrArg GSpan.note e⟩)).symm | exact (decide_eq_false (fun e => q (by rw [e]))).symm | exact (decide_eq_true (GSpan.ext' e0 e1 e2 e3 e4 e5 e6 e7 e9 (zv ge0 e10 (fun j hj => hev j (by omega))) (zv gl0 e11 (fun j hj => h4 j (by omega))) e8.1 e8.2)).symm)))), rfl⟩, trivial⟩
          · rw [hb5]
            have e4 : a.name = b.name := by have e := hb5; rw [yN] at e; simpa using e
            refine zN rfl rfl (zF rfl rfl fa63_5 rfl) <| zN rfl rfl (zG rfl rfl rfl tA3 tS3 rfl rfl) <| zN rfl rfl (zF rfl rfl fa63_5 rfl) <| zN rfl rfl (zG rfl rfl rfl tA3 tS3 rfl rfl) <| zN rfl rfl (wM rfl rfl rfl) <| g_u (zh rfl rfl rfl) <| g_u (zC rfl rfl) <| z0 (t := 51) rfl ?_
            rintro (hb6 | hb6)
            · rw [hb6]
              have q : ¬ a.kind = b.kind := bne_iff_ne.1 hb6
              refine zH rfl rfl rfl <| zH rfl rfl rfl <| zH rfl rfl rfl <| zH rfl rfl rfl <| zH rfl rfl rfl <| g_u (zQ rfl rfl rfl) <| g_u (zC rfl rfl) <| zH rfl rfl rfl <| zH rfl rfl rfl <| zH rfl rfl rfl <| zH rfl rfl rfl <| zH rfl rfl rfl <| g_u (zQ rfl rfl rfl) <| g_u (zC rfl rfl) <| zH rfl rfl rfl <| zH rfl rfl rfl <| zH rfl rfl rfl <| zH rfl rfl rfl <| zH rfl rfl rfl <| g_u (zQ rfl rfl rfl) <| zI <| zA <| zg rfl <| zD <| zB <| g_u (zE rfl rfl) <| zI <| zA <| zL <| zM ?_
              exact ⟨⟨(rfl : toAV (Al.look _ _) = some _).trans (congrArg some (by (exact congrArg bv (by first | exact (decide_eq_false (fun e => q ⟨congrArg GSpan.code e, congrArg GSpan.note e⟩)).symm | exact (decide_eq_false (fun e => q (by rw [e]))).symm | exact (decide_eq_true (GSpan.ext' e0 e1 e2 e3 e4 e5 e6 e7 e9 (zv ge0 e10 (fun j hj => hev j (by omega))) (zv gl0 e11 (fun j hj => h4 j (by omega))) e8.1 e8.2)).symm)))), rfl⟩, trivial⟩
            · rw [hb6]
              have e5 : a.kind = b.kind := qd.1 hb6
              refine zN rfl rfl (zF rfl rfl fa63_6 rfl) <| zN rfl rfl (zG rfl rfl rfl tA57 tS57 rfl rfl) <| zN rfl rfl (zF rfl rfl fa63_6 rfl) <| zN rfl rfl (zG rfl rfl rfl tA57 tS57 rfl rfl) <| zN rfl rfl (wM rfl rfl rfl) <| g_u (zh rfl rfl rfl) <| g_u (zC rfl rfl) <| z0 (t := 58) rfl ?_
              rintro (hb7 | hb7)
              · rw [hb7]
                have q : ¬ a.start = b.start := bne_iff_ne.1 hb7
                refine zH rfl rfl rfl <| zH rfl rfl rfl <| zH rfl rfl rfl <| zH rfl rfl rfl <| zH rfl rfl rfl <| g_u (zQ rfl rfl rfl) <| g_u (zC rfl rfl) <| zH rfl rfl rfl <| zH rfl rfl rfl <| zH rfl rfl rfl <| zH rfl rfl rfl <| zH rfl rfl rfl <| g_u (zQ rfl rfl rfl) <| zI <| zA <| zg rfl <| zD <| zB <| g_u (zE rfl rfl) <| zI <| zA <| zL <| zM ?_
                exact ⟨⟨(rfl : toAV (Al.look _ _) = some _).trans (congrArg some (by (exact congrArg bv (by first | exact (decide_eq_false (fun e => q ⟨congrArg GSpan.code e, congrArg GSpan.note e⟩)).symm | exact (decide_eq_false (fun e => q (by rw [e]))).symm | exact (decide_eq_true (GSpan.ext' e0 e1 e2 e3 e4 e5 e6 e7 e9 (zv ge0 e10 (fun j hj => hev j (by omega))) (zv gl0 e11 (fun j hj => h4 j (by omega))) e8.1 e8.2)).symm)))), rfl⟩, trivial⟩
              · rw [hb7]
                have e6 : a.start = b.start := qd.1 hb7
                refine zN rfl rfl (zF rfl rfl fa63_7 rfl) <| zN rfl rfl (zG rfl rfl rfl tA57 tS57 rfl rfl) <| zN rfl rfl (zF rfl rfl fa63_7 rfl) <| zN rfl rfl (zG rfl rfl rfl tA57 tS57 rfl rfl) <| zN rfl rfl (wM rfl rfl rfl) <| g_u (zh rfl rfl rfl) <| g_u (zC rfl rfl) <| z0 (t := 65) rfl ?_
                rintro (hb8 | hb8)
                · rw [hb8]
                  have q : ¬ a.fin = b.fin := bne_iff_ne.1 hb8
                  refine zH rfl rfl rfl <| zH rfl rfl rfl <| zH rfl rfl rfl <| zH rfl rfl rfl <| zH rfl rfl rfl <| g_u (zQ rfl rfl rfl) <| zI <| zA <| zg rfl <| zD <| zB <| g_u (zE rfl rfl) <| zI <| zA <| zL <| zM ?_
                  exact ⟨⟨(rfl : toAV (Al.look _ _) = some _).trans (congrArg some (by (exact congrArg bv (by first | exact (decide_eq_false (fun e => q ⟨congrArg GSpan.code e, congrArg GSpan.note e⟩)).symm | exact (decide_eq_false (fun e => q (by rw [e]))).symm | exact (decide_eq_true (GSpan.ext' e0 e1 e2 e3 e4 e5 e6 e7 e9 (zv ge0 e10 (fun j hj => hev j (by omega))) (zv gl0 e11 (fun j hj => h4 j (by omega))) e8.1 e8.2)).symm)))), rfl⟩, trivial⟩
                · rw [hb8]
                  have e7 : a.fin = b.fin := qd.1 hb8
                  refine zN rfl rfl (zF rfl rfl fa63_11 rfl) <| zN rfl rfl (zG rfl rfl rfl tA61 tS61 rfl rfl) <| zN rfl rfl (zF rfl rfl fa63_11 rfl) <| zN rfl rfl (zG rfl rfl rfl tA61 tS61 rfl rfl) <| zN rfl rfl (s_neA rfl rfl rfl eg61 rfl rfl (eq61 _ _ _ _)) <| g_u (zh rfl rfl rfl) <| zI <| zA ?_
                  refine zW rfl (fun hb9 => ?_) (fun hb9 => ?_)
                  · have q : ¬ (a.code = b.code ∧ a.note = b.note) := fun h => by have e := hb9; rw [yN, h.1, h.2] at e; simp at e
                    refine zD <| zB <| g_u (zE rfl rfl) <| zI <| zA <| zL <| zM ?_
                    exact ⟨⟨(rfl : toAV (Al.look _ _) = some _).trans (congrArg some (by (exact congrArg bv (by first | exact (decide_eq_false (fun e => q ⟨congrArg GSpan.code e, congrArg GSpan.note e⟩)).symm | exact (decide_eq_false (fun e => q (by rw [e]))).symm | exact (decide_eq_true (GSpan.ext' e0 e1 e2 e3 e4 e5 e6 e7 e9 (zv ge0 e10 (fun j hj => hev j (by omega))) (zv gl0 e11 (fun j hj => h4 j (by omega))) e8.1 e8.2)).symm)))), rfl⟩, trivial⟩
                  · have e8 : a.code = b.code ∧ a.note = b.note := by have e := hb9; rw [yN] at e; simpa using e
                    refine zY <| zA <| zD <| zD <| zB <| g_u (zF rfl rfl wy rfl) <| g_u (zG rfl rfl rfl tA44 tS44 rfl rfl) <| g_u (zF rfl rfl wy rfl) <| g_u (zG rfl rfl rfl tA44 tS44 rfl rfl) ?_
                    refine g_u (zP (rsameAs_c _ _ (by omega)) rfl rfl) ?_
                    refine g_u (wZ rfl rfl) <| g_u (zC rfl rfl) <| z0 (t := 78) rfl ?_
                    rintro (hb10 | hb10)
                    · rw [hb10]
                      have q : ¬ a.attrs = b.attrs := fun h => by have e := hb10; rw [h, sameAs_refl] at e; cases e
                      refine zH rfl rfl rfl <| zH rfl rfl rfl <| zH rfl rfl rfl <| zH rfl rfl rfl <| zH rfl rfl rfl <| zH rfl rfl rfl <| zH rfl rfl rfl <| g_u (zQ rfl rfl rfl) <| g_u (zC rfl rfl) <| zH rfl rfl rfl <| zH rfl rfl rfl <| zH rfl rfl rfl <| zH rfl rfl rfl <| zH rfl rfl rfl <| zH rfl rfl rfl <| zH rfl rfl rfl <| g_u (zQ rfl rfl rfl) <| zI <| zA <| zg rfl <| zD <| zB <| g_u (zE rfl rfl) <| zI <| zA <| zL <| zM ?_
                      exact ⟨⟨(rfl : toAV (Al.look _ _) = some _).trans (congrArg some (by (exact congrArg bv (by first | exact (decide_eq_false (fun e => q ⟨congrArg GSpan.code e, congrArg GSpan.note e⟩)).symm | exact (decide_eq_false (fun e => q (by rw [e]))).symm | exact (decide_eq_true (GSpan.ext' e0 e1 e2 e3 e4 e5 e6 e7 e9 (zv ge0 e10 (fun j hj => hev j (by omega))) (zv gl0 e11 (fun j hj => h4 j (by omega))) e8.1 e8.2)).symm)))), rfl⟩, trivial⟩
                    · rw [hb10]
                      have e9 : a.attrs = b.attrs := (ya _ _).1 (by have e := hb10; simpa using e)
                      refine zN rfl rfl (zF rfl rfl yw rfl) <| zN rfl rfl (zG rfl rfl rfl tA58 tS58 rfl rfl) <| zN rfl rfl (zw rfl rfl Tryz.underlying58) <| zN rfl rfl (zF rfl rfl yw rfl) <| zN rfl rfl (zG rfl rfl rfl tA58 tS58 rfl rfl) <| zN rfl rfl (zw rfl rfl Tryz.underlying58) <| zN rfl rfl (wM rfl rfl rfl) <| g_u (zh rfl rfl rfl) <| g_u (zC rfl rfl) <| z0 (t := 87) rfl ?_
                      rintro (hb11 | hb11)
                      · rw [hb11]
                        have q : ¬ a.events.length = b.events.length := by have e := bne_iff_ne.1 hb11; simp only [List.length_map] at e; omega
                        refine zH rfl rfl rfl <| zH rfl rfl rfl <| zH rfl rfl rfl <| zH rfl rfl rfl <| zH rfl rfl rfl <| zH rfl rfl rfl <| zH rfl rfl rfl <| g_u (zQ rfl rfl rfl) <| zI <| zA <| zg rfl <| zD <| zB <| g_u (zE rfl rfl) <| zI <| zA <| zL <| zM ?_
                        exact ⟨⟨(rfl : toAV (Al.look _ _) = some _).trans (congrArg some (by (exact congrArg bv (by first | exact (decide_eq_false (fun e => q ⟨congrArg GSpan.code e, congrArg GSpan.note e⟩)).symm | exact (decide_eq_false (fun e => q (by rw [e]))).symm | exact (decide_eq_true (GSpan.ext' e0 e1 e2 e3 e4 e5 e6 e7 e9 (zv ge0 e10 (fun j hj => hev j (by omega))) (zv gl0 e11 (fun j hj => h4 j (by omega))) e8.1 e8.2)).symm)))), rfl⟩, trivial⟩
                      · rw [hb11]
                        have e10 : a.events.length = b.events.length := by have e := qd.1 hb11; simp only [List.length_map] at e; omega
                        refine zN rfl rfl (zF rfl rfl yy rfl) <| zN rfl rfl (zG rfl rfl rfl tA59 tS59 rfl rfl) <| zN rfl rfl (zw rfl rfl Tryz.underlying59) <| zN rfl rfl (zF rfl rfl yy rfl) <| zN rfl rfl (zG rfl rfl rfl tA59 tS59 rfl rfl) <| zN rfl rfl (zw rfl rfl Tryz.underlying59) <| zN rfl rfl (wM rfl rfl rfl) <| g_u (zh rfl rfl rfl) <| zI <| zA ?_
                        refine zW rfl (fun hb12 => ?_) (fun hb12 => ?_)
                        · have q : ¬ a.links.length = b.links.length := by have e := bne_iff_ne.1 hb12; simp only [List.length_map] at e; omega
                          refine zD <| zB <| g_u (zE rfl rfl) <| zI <| zA <| zL <| zM ?_
                          exact ⟨⟨(rfl : toAV (Al.look _ _) = some _).trans (congrArg some (by (exact congrArg bv (by first | exact (decide_eq_false (fun e => q ⟨congrArg GSpan.code e, congrArg GSpan.note e⟩)).symm | exact (decide_eq_false (fun e => q (by rw [e]))).symm | exact (decide_eq_true (GSpan.ext' e0 e1 e2 e3 e4 e5 e6 e7 e9 (zv ge0 e10 (fun j hj => hev j (by omega))) (zv gl0 e11 (fun j hj => h4 j (by omega))) e8.1 e8.2)).symm)))), rfl⟩, trivial⟩
                        · have e11 : a.links.length = b.links.length := by have e := qd.1 hb12; simp only [List.length_map] at e; omega
                          refine zY <| zA <| zD <| zD <| zB <| g_u (zE rfl rfl) <| zI <| zA <| zU ?_
                          refine zp (fun i : Nat => [(2, .ptr 1002 0), (1002, .box 63 (.imm a.av)), (3, .ptr 1003 0), (1003, .box 63 (.imm b.av)), (5, .imm (iv (i : Int)))]) (fun i => (i ≤ a.events.length ∧ ∀ p, p < i → nth a.events p ge0 = nth b.events p ge0)) (fun i => a.events.length - i) (0) ?_ ⟨rfl, rfl, rfl, rfl, rfl, trivial⟩ ?_
                          · exact ⟨Nat.zero_le _, fun j h => absurd h (Nat.not_lt_zero _)⟩
                          · rintro i ⟨h1, h2⟩; (try dsimp only at h1 h2)
                            refine zD <| zD <| zB <| g_u (zC rfl rfl) <| g_u (zF rfl rfl yw rfl) <| g_u (zG rfl rfl rfl tA58 tS58 rfl rfl) <| g_u (zw rfl rfl Tryz.underlying58) <| g_u (yb rfl rfl rfl) <| zI <| zA ?_
                            refine zW rfl (fun hb13 => ?_) (fun hb13 => ?_)
                            · have hi : i < a.events.length := by have := of_decide_eq_true hb13; (try simp only [List.length_map] at this); omega
                              have hib : i < b.events.length := by omega
                              have hex := yD GE.wt (xm hi)
                              have heq : (nthE a.events i).wt = 1 + (nthE a.events i).name.size + wtAs (nthE a.events i).attrs := rfl
                              refine zY <| zA <| zD <| zU <| zD <| yE yt <| g_u (zF rfl rfl yw rfl) <| g_u (zG rfl rfl rfl tA58 tS58 rfl rfl) <| g_u (zC rfl rfl) ?_
                              refine g_u (zJ rfl rfl rfl Tryz.underlying58 tS92 (by omega) (ixE hi)) ?_
                              refine g_u (zT rfl rfl tA92 tS92 rfl rfl) <| g_u (zF rfl rfl yw rfl) <| g_u (zG rfl rfl rfl tA58 tS58 rfl rfl) <| g_u (zC rfl rfl) ?_
                              refine g_u (zJ rfl rfl rfl Tryz.underlying58 tS92 (by omega) (ixE hib)) ?_
                              refine g_u (zT rfl rfl tA92 tS92 rfl rfl) <| g_uG (zl 1006 rfl rfl rfl tZ92) rfl <| g_uG (zl 1007 rfl rfl rfl tZ92) rfl <| g_u (zK rfl rfl rfl tS92 rfl rfl) <| g_u (zK rfl rfl rfl tS92 rfl rfl) ?_
                              refine zI ⟨by kernel_rfl, ?_⟩
                              refine zA <| zD <| zB <| g_u (zF rfl rfl fa92_0 rfl) <| g_u (zG rfl rfl rfl tA57 tS57 rfl rfl) <| g_u (zF rfl rfl fa92_0 rfl) <| g_u (zG rfl rfl rfl tA57 tS57 rfl rfl) <| g_u (wM rfl rfl rfl) <| g_u (zC rfl rfl) <| z0 (t := 118) rfl ?_
                              rintro (hb14 | hb14)
                              · rw [hb14]
                                have q : ¬ (nthE a.events i).time = (nthE b.events i).time := bne_iff_ne.1 hb14
                                refine zH rfl rfl rfl <| zH rfl rfl rfl <| zH rfl rfl rfl <| zH rfl rfl rfl <| zH rfl rfl rfl <| g_u (zQ rfl rfl rfl) <| g_u (zC rfl rfl) <| zH rfl rfl rfl <| zH rfl rfl rfl <| zH rfl rfl rfl <| zH rfl rfl rfl <| zH rfl rfl rfl <| zH rfl rfl rfl <| g_u (zQ rfl rfl rfl) <| zI <| zA <| zg rfl <| zD <| zB <| g_u (zE rfl rfl) <| zI <| zA <| zL <| zq <| zM <| zM <| zq <| zM ?_
                                exact ⟨⟨(rfl : toAV (Al.look _ _) = some _).trans (congrArg some (by (exact congrArg bv (by first | exact (decide_eq_false (fun e => q ⟨congrArg GSpan.code e, congrArg GSpan.note e⟩)).symm | exact (decide_eq_false (fun e => q (by rw [e]))).symm | exact (decide_eq_true (GSpan.ext' e0 e1 e2 e3 e4 e5 e6 e7 e9 (zv ge0 e10 (fun j hj => hev j (by omega))) (zv gl0 e11 (fun j hj => h4 j (by omega))) e8.1 e8.2)).symm)))), rfl⟩, trivial⟩
                              · rw [hb14]
                                have f1 : (nthE a.events i).time = (nthE b.events i).time := qd.1 hb14
                                refine zN rfl rfl (zF rfl rfl fa92_1 rfl) <| zN rfl rfl (zG rfl rfl rfl tA9 tS9 rfl rfl) <| zN rfl rfl (zF rfl rfl fa92_1 rfl) <| zN rfl rfl (zG rfl rfl rfl tA9 tS9 rfl rfl) <| zN rfl rfl (s_neS rfl rfl rfl) <| g_u (zh rfl rfl rfl) <| g_u (zC rfl rfl) <| z0 (t := 125) rfl ?_
                                rintro (hb15 | hb15)
                                · rw [hb15]
                                  have q : ¬ (nthE a.events i).name = (nthE b.events i).name := by have e := hb15; rw [yN] at e; simpa using e
                                  refine zH rfl rfl rfl <| zH rfl rfl rfl <| zH rfl rfl rfl <| zH rfl rfl rfl <| zH rfl rfl rfl <| zH rfl rfl rfl <| g_u (zQ rfl rfl rfl) <| zI <| zA <| zg rfl <| zD <| zB <| g_u (zE rfl rfl) <| zI <| zA <| zL <| zq <| zM <| zM <| zq <| zM ?_
                                  exact ⟨⟨(rfl : toAV (Al.look _ _) = some _).trans (congrArg some (by (exact congrArg bv (by first | exact (decide_eq_false (fun e => q ⟨congrArg GSpan.code e, congrArg GSpan.note e⟩)).symm | exact (decide_eq_false (fun e => q (by rw [e]))).symm | exact (decide_eq_true (GSpan.ext' e0 e1 e2 e3 e4 e5 e6 e7 e9 (zv ge0 e10 (fun j hj => hev j (by omega))) (zv gl0 e11 (fun j hj => h4 j (by omega))) e8.1 e8.2)).symm)))), rfl⟩, trivial⟩
                                · rw [hb15]
                                  have f2 : (nthE a.events i).name = (nthE b.events i).name := by have e := hb15; rw [yN] at e; simpa using e
                                  refine zN rfl rfl (zF rfl rfl fa92_2 rfl) <| zN rfl rfl (zG rfl rfl rfl tA44 tS44 rfl rfl) <| zN rfl rfl (zF rfl rfl fa92_2 rfl) <| zN rfl rfl (zG rfl rfl rfl tA44 tS44 rfl rfl) ?_
                                  refine zN rfl rfl (zP (rsameAs_c _ _ (by omega)) rfl rfl) ?_
                                  refine zN rfl rfl (wZ rfl rfl) <| g_u (zh rfl rfl rfl) <| zI <| zA ?_
                                  refine zW rfl (fun hb16 => ?_) (fun hb16 => ?_)
                                  · have q : ¬ (nthE a.events i).attrs = (nthE b.events i).attrs := fun h => by have e := hb16; rw [h, sameAs_refl] at e; cases e
                                    refine zD <| zB <| g_u (zE rfl rfl) <| zI <| zA <| zL <| zq <| zM <| zM <| zq <| zM ?_
                                    exact ⟨⟨(rfl : toAV (Al.look _ _) = some _).trans (congrArg some (by (exact congrArg bv (by first | exact (decide_eq_false (fun e => q ⟨congrArg GSpan.code e, congrArg GSpan.note e⟩)).symm | exact (decide_eq_false (fun e => q (by rw [e]))).symm | exact (decide_eq_true (GSpan.ext' e0 e1 e2 e3 e4 e5 e6 e7 e9 (zv ge0 e10 (fun j hj => hev j (by omega))) (zv gl0 e11 (fun j hj => h4 j (by omega))) e8.1 e8.2)).symm)))), rfl⟩, trivial⟩
                                  · have f3 : (nthE a.events i).attrs = (nthE b.events i).attrs := (ya _ _).1 (by have e := hb16; simpa using e)
                                    refine zY <| zX <| zA <| zB <| g_u (zC rfl rfl) <| g_u (yG rfl rfl rfl) <| g_u (zE rfl rfl) <| zI <| zA ?_
                                    refine ⟨i + 1, ⟨hi, fun j hj => by rcases Nat.lt_or_ge j i with h | h; exact h2 j h; rw [show j = i by omega]; exact GE.ext' f1 f2 f3⟩, ⟨rfl, rfl, rfl, rfl, zZ rfl (by rw [ze (by omega) (by omega)]; rfl), trivial⟩, by (try dsimp only); omega⟩
                            · have hin : i = a.events.length := by have := of_decide_eq_false hb13; (try simp only [List.length_map] at this); omega
                              have hev : ∀ j, j < a.events.length → nth a.events j ge0 = nth b.events j ge0 := fun j hj => h2 j (by omega)
                              refine zu <| zR <| zR <| zn <| zA <| zD <| zD <| zB <| g_u (zE rfl rfl) <| zI <| zA <| zU ?_
                              refine zp (fun j : Nat => [(2, .ptr 1002 0), (1002, .box 63 (.imm a.av)), (3, .ptr 1003 0), (1003, .box 63 (.imm b.av)), (8, .imm (iv (j : Int)))]) (fun j => (j ≤ a.links.length ∧ ∀ p, p < j → nth a.links p gl0 = nth b.links p gl0)) (fun j => a.links.length - j) (0) ?_ ⟨rfl, rfl, rfl, rfl, rfl, trivial⟩ ?_
                              · exact ⟨Nat.zero_le _, fun j h => absurd h (Nat.not_lt_zero _)⟩
                              · rintro j ⟨h3, h4⟩; (try dsimp only at h3 h4)
                                refine zD <| zD <| zB <| g_u (zC rfl rfl) <| g_u (zF rfl rfl yy rfl) <| g_u (zG rfl rfl rfl tA59 tS59 rfl rfl) <| g_u (zw rfl rfl Tryz.underlying59) <| g_u (yb rfl rfl rfl) <| zI <| zA ?_
                                refine zW rfl (fun hb17 => ?_) (fun hb17 => ?_)
                                · have hj : j < a.links.length := by have := of_decide_eq_true hb17; (try simp only [List.length_map] at this); omega
                                  have hjb : j < b.links.length := by omega
                                  have hlx := yD GL.wt (nthL_mem hj)
                                  have hlq : (nthL a.links j).wt = 1 + (nthL a.links j).state.size + wtAs (nthL a.links j).attrs := rfl
                                  refine zY <| zA <| zD <| zU <| zD <| yE yt <| g_u (zF rfl rfl yy rfl) <| g_u (zG rfl rfl rfl tA59 tS59 rfl rfl) <| g_u (zC rfl rfl) ?_
                                  refine g_u (zJ rfl rfl rfl Tryz.underlying59 tS94 (by omega) (ixL hj)) ?_
                                  refine g_u (zT rfl rfl tA94 tS94 rfl (by first | exact xP (GL.width _) rfl | rfl)) ?_
                                  refine g_u (zF rfl rfl yy rfl) <| g_u (zG rfl rfl rfl tA59 tS59 rfl rfl) <| g_u (zC rfl rfl) ?_
                                  refine g_u (zJ rfl rfl rfl Tryz.underlying59 tS94 (by omega) (ixL hjb)) ?_
                                  refine g_u (zT rfl rfl tA94 tS94 rfl (by first | exact xP (GL.width _) rfl | rfl)) ?_
                                  refine g_uG (zl 1009 rfl rfl rfl tZ94) rfl <| g_uG (zl 1010 rfl rfl rfl tZ94) rfl ?_
                                  refine g_u (zK rfl rfl rfl tS94 (by first | exact beqW (GL.width _) | rfl) (by first | exact xy (z94_w.trans (GL.width _).symm) rfl | rfl)) ?_
                                  refine g_u (zK rfl rfl rfl tS94 (by first | exact beqW (GL.width _) | rfl) (by first | exact xy (z94_w.trans (GL.width _).symm) rfl | rfl)) ?_
                                  refine zI ⟨by kernel_rfl, ?_⟩
                                  refine zA <| zD <| zB <| g_u (zF rfl rfl fa94_0 rfl) <| g_u (zk rfl rfl rfl tA54 tS54 rfl rfl) <| g_u (zF rfl rfl fa94_0 rfl) <| g_u (zk rfl rfl rfl tA54 tS54 rfl rfl) <| g_u (s_neA rfl rfl rfl eg54 rfl rfl (eq54 _ _)) <| g_u (zC rfl rfl) <| z0 (t := 155) rfl ?_
                                  rintro (hb18 | hb18)
                                  · rw [hb18]
                                    have q : ¬ (nthL a.links j).trace = (nthL b.links j).trace := by have e := hb18; simpa using e
                                    refine zH rfl rfl rfl <| zH rfl rfl rfl <| zH rfl rfl rfl <| zH rfl rfl rfl <| zH rfl rfl rfl <| g_u (zQ rfl rfl rfl) <| g_u (zC rfl rfl) <| zH rfl rfl rfl <| zH rfl rfl rfl <| zH rfl rfl rfl <| zH rfl rfl rfl <| zH rfl rfl rfl <| g_u (zQ rfl rfl rfl) <| g_u (zC rfl rfl) <| zH rfl rfl rfl <| zH rfl rfl rfl <| zH rfl rfl rfl <| zH rfl rfl rfl <| zH rfl rfl rfl <| zH rfl rfl rfl <| g_u (zQ rfl rfl rfl) <| zI <| zA <| zg rfl <| zD <| zB <| g_u (zE rfl rfl) <| zI <| zA <| zL <| zq <| zM <| zM <| zq <| zM ?_
                                    exact ⟨⟨(rfl : toAV (Al.look _ _) = some _).trans (congrArg some (by (exact congrArg bv (by first | exact (decide_eq_false (fun e => q ⟨congrArg GSpan.code e, congrArg GSpan.note e⟩)).symm | exact (decide_eq_false (fun e => q (by rw [e]))).symm | exact (decide_eq_true (GSpan.ext' e0 e1 e2 e3 e4 e5 e6 e7 e9 (zv ge0 e10 (fun j hj => hev j (by omega))) (zv gl0 e11 (fun j hj => h4 j (by omega))) e8.1 e8.2)).symm)))), rfl⟩, trivial⟩
                                  · rw [hb18]
                                    have g1 : (nthL a.links j).trace = (nthL b.links j).trace := by have e := hb18; simpa using e
                                    refine zN rfl rfl (zF rfl rfl fa94_1 rfl) <| zN rfl rfl (zG rfl rfl rfl tA56 tS56 rfl rfl) <| zN rfl rfl (zF rfl rfl fa94_1 rfl) <| zN rfl rfl (zG rfl rfl rfl tA56 tS56 rfl rfl) <| zN rfl rfl (s_neA rfl rfl rfl eg56 rfl rfl (eq56 _ _)) <| g_u (zh rfl rfl rfl) <| g_u (zC rfl rfl) <| z0 (t := 162) rfl ?_
                                    rintro (hb19 | hb19)
                                    · rw [hb19]
                                      have q : ¬ (nthL a.links j).span = (nthL b.links j).span := by have e := hb19; simpa using e
                                      refine zH rfl rfl rfl <| zH rfl rfl rfl <| zH rfl rfl rfl <| zH rfl rfl rfl <| zH rfl rfl rfl <| g_u (zQ rfl rfl rfl) <| g_u (zC rfl rfl) <| zH rfl rfl rfl <| zH rfl rfl rfl <| zH rfl rfl rfl <| zH rfl rfl rfl <| zH rfl rfl rfl <| zH rfl rfl rfl <| g_u (zQ rfl rfl rfl) <| zI <| zA <| zg rfl <| zD <| zB <| g_u (zE rfl rfl) <| zI <| zA <| zL <| zq <| zM <| zM <| zq <| zM ?_
                                      exact ⟨⟨(rfl : toAV (Al.look _ _) = some _).trans (congrArg some (by (exact congrArg bv (by first | exact (decide_eq_false (fun e => q ⟨congrArg GSpan.code e, congrArg GSpan.note e⟩)).symm | exact (decide_eq_false (fun e => q (by rw [e]))).symm | exact (decide_eq_true (GSpan.ext' e0 e1 e2 e3 e4 e5 e6 e7 e9 (zv ge0 e10 (fun j hj => hev j (by omega))) (zv gl0 e11 (fun j hj => h4 j (by omega))) e8.1 e8.2)).symm)))), rfl⟩, trivial⟩
                                    · rw [hb19]
                                      have g2 : (nthL a.links j).span = (nthL b.links j).span := by have e := hb19; simpa using e
                                      refine zN rfl rfl (zF rfl rfl fa94_2 rfl) <| zN rfl rfl (zG rfl rfl rfl tA9 tS9 rfl rfl) <| zN rfl rfl (zF rfl rfl fa94_2 rfl) <| zN rfl rfl (zG rfl rfl rfl tA9 tS9 rfl rfl) <| zN rfl rfl (s_neS rfl rfl rfl) <| g_u (zh rfl rfl rfl) <| g_u (zC rfl rfl) <| z0 (t := 169) rfl ?_
                                      rintro (hb20 | hb20)
                                      · rw [hb20]
                                        have q : ¬ (nthL a.links j).state = (nthL b.links j).state := by have e := hb20; rw [yN] at e; simpa using e
                                        refine zH rfl rfl rfl <| zH rfl rfl rfl <| zH rfl rfl rfl <| zH rfl rfl rfl <| zH rfl rfl rfl <| zH rfl rfl rfl <| g_u (zQ rfl rfl rfl) <| zI <| zA <| zg rfl <| zD <| zB <| g_u (zE rfl rfl) <| zI <| zA <| zL <| zq <| zM <| zM <| zq <| zM ?_
                                        exact ⟨⟨(rfl : toAV (Al.look _ _) = some _).trans (congrArg some (by (exact congrArg bv (by first | exact (decide_eq_false (fun e => q ⟨congrArg GSpan.code e, congrArg GSpan.note e⟩)).symm | exact (decide_eq_false (fun e => q (by rw [e]))).symm | exact (decide_eq_true (GSpan.ext' e0 e1 e2 e3 e4 e5 e6 e7 e9 (zv ge0 e10 (fun j hj => hev j (by omega))) (zv gl0 e11 (fun j hj => h4 j (by omega))) e8.1 e8.2)).symm)))), rfl⟩, trivial⟩
                                      · rw [hb20]
                                        have g3 : (nthL a.links j).state = (nthL b.links j).state := by have e := hb20; rw [yN] at e; simpa using e
                                        refine zN rfl rfl (zF rfl rfl fa94_3 rfl) <| zN rfl rfl (zG rfl rfl rfl tA44 tS44 rfl rfl) <| zN rfl rfl (zF rfl rfl fa94_3 rfl) <| zN rfl rfl (zG rfl rfl rfl tA44 tS44 rfl rfl) ?_
                                        refine zN rfl rfl (zP (rsameAs_c _ _ (by omega)) rfl rfl) ?_
                                        refine zN rfl rfl (wZ rfl rfl) <| g_u (zh rfl rfl rfl) <| zI <| zA ?_
                                        refine zW rfl (fun hb21 => ?_) (fun hb21 => ?_)
                                        · have q : ¬ (nthL a.links j).attrs = (nthL b.links j).attrs := fun h => by have e := hb21; rw [h, sameAs_refl] at e; cases e
                                          refine zD <| zB <| g_u (zE rfl rfl) <| zI <| zA <| zL <| zq <| zM <| zM <| zq <| zM ?_
                                          exact ⟨⟨(rfl : toAV (Al.look _ _) = some _).trans (congrArg some (by (exact congrArg bv (by first | exact (decide_eq_false (fun e => q ⟨congrArg GSpan.code e, congrArg GSpan.note e⟩)).symm | exact (decide_eq_false (fun e => q (by rw [e]))).symm | exact (decide_eq_true (GSpan.ext' e0 e1 e2 e3 e4 e5 e6 e7 e9 (zv ge0 e10 (fun j hj => hev j (by omega))) (zv gl0 e11 (fun j hj => h4 j (by omega))) e8.1 e8.2)).symm)))), rfl⟩, trivial⟩
                                        · have g4 : (nthL a.links j).attrs = (nthL b.links j).attrs := (ya _ _).1 (by have e := hb21; simpa using e)
                                          refine zY <| zX <| zA <| zB <| g_u (zC rfl rfl) <| g_u (yG rfl rfl rfl) <| g_u (zE rfl rfl) <| zI <| zA ?_
                                          refine ⟨j + 1, ⟨hj, fun p hp => by rcases Nat.lt_or_ge p j with h | h; exact h4 p h; rw [show p = j by omega]; exact GL.ext' g1 g2 g3 g4⟩, ⟨rfl, rfl, rfl, rfl, zZ rfl (by rw [ze (by omega) (by omega)]; rfl), trivial⟩, by (try dsimp only); omega⟩
                                · have hjn : j = a.links.length := by have := of_decide_eq_false hb17; (try simp only [List.length_map] at this); omega
                                  refine zu <| zR <| zR <| zn <| zA <| zD <| zB <| g_u (zE rfl rfl) <| zI <| zA <| zL ?_
                                  exact ⟨⟨(rfl : toAV (Al.look _ _) = some _).trans (congrArg some (by (exact congrArg bv (by first | exact (decide_eq_false (fun e => q ⟨congrArg GSpan.code e, congrArg GSpan.note e⟩)).symm | exact (decide_eq_false (fun e => q (by rw [e]))).symm | exact (decide_eq_true (GSpan.ext' e0 e1 e2 e3 e4 e5 e6 e7 e9 (zv ge0 e10 (fun j hj => hev j (by omega))) (zv gl0 e11 (fun j hj => h4 j (by omega))) e8.1 e8.2)).symm)))), rfl⟩, trivial⟩
set_option maxHeartbeats 2000000 in
theorem rsameCs_c (a b : List GScope) (hw : z7 GScope.wt a ≤ 1000000000) : zo Tryz.prog Γ0 40 [.sl 3 (a.map GScope.av), .sl 3 (b.map GScope.av)] [bv (decide (a = b))] := by
  have ql := yR GScope.wt (fun e => by unfold GScope.wt; omega) a
  refine z_ Tryz.func40 rfl Tryz.ntmps40 (by kernel_rfl) rfl fun w0 I0 G0 => ?_
  refine zD <| zB <| g_u (zE rfl rfl) <| zI <| zA <| zD <| zD <| zB <| g_u (zC rfl rfl) <| g_u (zw rfl rfl Tryz.underlying45) <| g_u (zC rfl rfl) <| g_u (zw rfl rfl Tryz.underlying45) <| g_u (wM rfl rfl rfl) <| zI <| zA ?_
  refine zW rfl (fun hb1 => ?_) (fun hb1 => ?_)
  · have q : ¬ a.length = b.length := by have e := bne_iff_ne.1 hb1; simp only [List.length_map] at e; omega
    refine zD <| zB <| g_u (zE rfl rfl) <| zI <| zA <| zL <| zM ?_
    exact ⟨⟨(rfl : toAV (Al.look _ _) = some _).trans (congrArg some (by (exact congrArg bv (by first | exact (decide_eq_false (fun e => q (by rw [e]))).symm | exact (decide_eq_true (zv gc0 el (fun j hj => h2 j (by omega)))).symm)))), rfl⟩, trivial⟩
  · have el : a.length = b.length := by have e := qd.1 hb1; simp only [List.length_map] at e; omega
    refine zY <| zA <| zD <| zD <| zB <| g_u (zE rfl rfl) <| zI <| zA <| zU ?_
    refine zp (fun i : Nat => [(0, .imm (.sl 3 (a.map GScope.av))), (1, .imm (.sl 3 (b.map GScope.av))), (5, .imm (iv (i : Int)))]) (fun i => (i ≤ a.length ∧ ∀ p, p < i → nth a p gc0 = nth b p gc0)) (fun i => a.length - i) (0) ?_ ⟨rfl, rfl, rfl, trivial⟩ ?_
    · exact ⟨Nat.zero_le _, fun j h => absurd h (Nat.not_lt_zero _)⟩
    · rintro i ⟨h1, h2⟩; (try dsimp only at h1 h2)
      refine zD <| zD <| zB <| g_u (zC rfl rfl) <| g_u (zC rfl rfl) <| g_u (zw rfl rfl Tryz.underlying45) <| g_u (yb rfl rfl rfl) <| zI <| zA ?_
      refine zW rfl (fun hb2 => ?_) (fun hb2 => ?_)
      · have hi : i < a.length := by have := of_decide_eq_true hb2; (try simp only [List.length_map] at this); omega
        have hib : i < b.length := by omega
        have hcx := yD GScope.wt (vC hi)
        have hcq : (nthC a i).wt = 1 + (nthC a i).name.size + (nthC a i).version.size + z7 GSpan.wt (nthC a i).spans := rfl
        have hsl := yR GSpan.wt (fun e => by unfold GSpan.wt; omega) (nthC a i).spans
        refine zY <| zA <| zD <| zU <| zD <| zD <| yE yt <| g_u (zC rfl rfl) <| g_u (zC rfl rfl) ?_
        refine g_u (zJ rfl rfl rfl Tryz.underlying45 tS51 (by omega) (ixC hi)) ?_
        refine g_u (zV rfl rfl fa51_0 rfl rfl) <| g_u (zT rfl rfl tA9 tS9 rfl rfl) <| g_u (zC rfl rfl) <| g_u (zC rfl rfl) ?_
        refine g_u (zJ rfl rfl rfl Tryz.underlying45 tS51 (by omega) (ixC hib)) ?_
        refine g_u (zV rfl rfl fa51_0 rfl rfl) <| g_u (zT rfl rfl tA9 tS9 rfl rfl) <| g_u (s_neS rfl rfl rfl) <| g_u (zC rfl rfl) <| z0 (t := 29) rfl ?_
        rintro (hb3 | hb3)
        · rw [hb3]
          have q : ¬ (nthC a i).name = (nthC b i).name := by have e := hb3; rw [yN] at e; simpa using e
          refine zH rfl rfl rfl <| zH rfl rfl rfl <| zH rfl rfl rfl <| zH rfl rfl rfl <| zH rfl rfl rfl <| zH rfl rfl rfl <| zH rfl rfl rfl <| zH rfl rfl rfl <| zH rfl rfl rfl <| zH rfl rfl rfl <| zH rfl rfl rfl <| g_u (zQ rfl rfl rfl) <| g_u (zC rfl rfl) <| zH rfl rfl rfl <| zH rfl rfl rfl <| zH rfl rfl rfl <| zH rfl rfl rfl <| zH rfl rfl rfl <| zH rfl rfl rfl <| zH rfl rfl rfl <| zH rfl rfl rfl <| zH rfl rfl rfl <| zH rfl rfl rfl <| zH rfl rfl rfl <| zH rfl rfl rfl <| zH rfl rfl rfl <| g_u (zQ rfl rfl rfl) ?_
          refine zI ⟨by kernel_rfl, ?_⟩
          refine zA <| zg rfl <| zD <| zB <| g_u (zE rfl rfl) <| zI <| zA <| zL <| zM <| zq <| zM <| zM <| zq <| zM ?_
          exact ⟨⟨(rfl : toAV (Al.look _ _) = some _).trans (congrArg some (by (exact congrArg bv (by first | exact (decide_eq_false (fun e => q (by rw [e]))).symm | exact (decide_eq_true (zv gc0 el (fun j hj => h2 j (by omega)))).symm)))), rfl⟩, trivial⟩
        · rw [hb3]
          have f1 : (nthC a i).name = (nthC b i).name := by have e := hb3; rw [yN] at e; simpa using e
          refine zN rfl rfl (zC rfl rfl) <| zN rfl rfl (zC rfl rfl) ?_
          refine zN rfl rfl (zJ rfl rfl rfl Tryz.underlying45 tS51 (by omega) (ixC hi)) ?_
          refine zN rfl rfl (zV rfl rfl fa51_1 rfl rfl) <| zN rfl rfl (zT rfl rfl tA9 tS9 rfl rfl) <| zN rfl rfl (zC rfl rfl) <| zN rfl rfl (zC rfl rfl) ?_
          refine zN rfl rfl (zJ rfl rfl rfl Tryz.underlying45 tS51 (by omega) (ixC hib)) ?_
          refine zN rfl rfl (zV rfl rfl fa51_1 rfl rfl) <| zN rfl rfl (zT rfl rfl tA9 tS9 rfl rfl) <| zN rfl rfl (s_neS rfl rfl rfl) <| g_u (zh rfl rfl rfl) <| g_u (zC rfl rfl) <| z0 (t := 42) rfl ?_
          rintro (hb4 | hb4)
          · rw [hb4]
            have q : ¬ (nthC a i).version = (nthC b i).version := by have e := hb4; rw [yN] at e; simpa using e
            refine zH rfl rfl rfl <| zH rfl rfl rfl <| zH rfl rfl rfl <| zH rfl rfl rfl <| zH rfl rfl rfl <| zH rfl rfl rfl <| zH rfl rfl rfl <| zH rfl rfl rfl <| zH rfl rfl rfl <| zH rfl rfl rfl <| zH rfl rfl rfl <| zH rfl rfl rfl <| zH rfl rfl rfl <| g_u (zQ rfl rfl rfl) ?_
            refine zI ⟨by kernel_rfl, ?_⟩
            refine zA <| zg rfl <| zD <| zB <| g_u (zE rfl rfl) <| zI <| zA <| zL <| zM <| zq <| zM <| zM <| zq <| zM ?_
            exact ⟨⟨(rfl : toAV (Al.look _ _) = some _).trans (congrArg some (by (exact congrArg bv (by first | exact (decide_eq_false (fun e => q (by rw [e]))).symm | exact (decide_eq_true (zv gc0 el (fun j hj => h2 j (by omega)))).symm)))), rfl⟩, trivial⟩
          · rw [hb4]
            have f2 : (nthC a i).version = (nthC b i).version := by have e := hb4; rw [yN] at e; simpa using e
            refine zN rfl rfl (zC rfl rfl) <| zN rfl rfl (zC rfl rfl) ?_
            refine zN rfl rfl (zJ rfl rfl rfl Tryz.underlying45 tS51 (by omega) (ixC hi)) ?_
            refine zN rfl rfl (zV rfl rfl wm rfl rfl) <| zN rfl rfl (zT rfl rfl tA49 tS49 rfl rfl) <| zN rfl rfl (zw rfl rfl Tryz.underlying49) <| zN rfl rfl (zC rfl rfl) <| zN rfl rfl (zC rfl rfl) ?_
            refine zN rfl rfl (zJ rfl rfl rfl Tryz.underlying45 tS51 (by omega) (ixC hib)) ?_
            refine zN rfl rfl (zV rfl rfl wm rfl rfl) <| zN rfl rfl (zT rfl rfl tA49 tS49 rfl rfl) <| zN rfl rfl (zw rfl rfl Tryz.underlying49) <| zN rfl rfl (wM rfl rfl rfl) <| g_u (zh rfl rfl rfl) ?_
            refine zI ⟨by kernel_rfl, ?_⟩
            refine zA ?_
            refine zW rfl (fun hb5 => ?_) (fun hb5 => ?_)
            · have q : ¬ (nthC a i).spans.length = (nthC b i).spans.length := by have e := bne_iff_ne.1 hb5; simp only [List.length_map] at e; omega
              refine zD <| zB <| g_u (zE rfl rfl) <| zI <| zA <| zL <| zM <| zq <| zM <| zM <| zq <| zM ?_
              exact ⟨⟨(rfl : toAV (Al.look _ _) = some _).trans (congrArg some (by (exact congrArg bv (by first | exact (decide_eq_false (fun e => q (by rw [e]))).symm | exact (decide_eq_true (zv gc0 el (fun j hj => h2 j (by omega)))).symm)))), rfl⟩, trivial⟩
            · have f3 : (nthC a i).spans.length = (nthC b i).spans.length := by have e := qd.1 hb5; simp only [List.length_map] at e; omega
              refine zY <| zA <| zD <| zB <| g_u (zE rfl rfl) <| zI <| zA <| zU ?_
              refine zp (fun m : Nat => [(0, .imm (.sl 3 (a.map GScope.av))), (1, .imm (.sl 3 (b.map GScope.av))), (5, .imm (iv (i : Int))), (6, .imm (iv (m : Int)))]) (fun m => (m ≤ (nthC a i).spans.length ∧ ∀ p, p < m → nth (nthC a i).spans p gs0 = nth (nthC b i).spans p gs0)) (fun m => (nthC a i).spans.length - m) (0) ?_ ⟨rfl, rfl, rfl, rfl, trivial⟩ ?_
              · exact ⟨Nat.zero_le _, fun j h => absurd h (Nat.not_lt_zero _)⟩
              · rintro m ⟨h3, h4⟩; (try dsimp only at h3 h4)
                refine zD <| zD <| zB <| g_u (zC rfl rfl) <| g_u (zC rfl rfl) <| g_u (zC rfl rfl) ?_
                refine g_u (zJ rfl rfl rfl Tryz.underlying45 tS51 (by omega) (ixC hi)) ?_
                refine g_u (zV rfl rfl wm rfl rfl) <| g_u (zT rfl rfl tA49 tS49 rfl rfl) <| g_u (zw rfl rfl Tryz.underlying49) <| g_u (yb rfl rfl rfl) <| zI <| zA ?_
                refine zW rfl (fun hb6 => ?_) (fun hb6 => ?_)
                · have hm : m < (nthC a i).spans.length := by have := of_decide_eq_true hb6; (try simp only [List.length_map] at this); omega
                  have hmb : m < (nthC b i).spans.length := by omega
                  have hsx := yD GSpan.wt (nthS_mem hm)
                  refine zY <| zA <| zD <| zU <| zD <| yE yt <| g_u (zC rfl rfl) <| g_u (zC rfl rfl) ?_
                  refine g_u (zJ rfl rfl rfl Tryz.underlying45 tS51 (by omega) (ixC hi)) ?_
                  refine g_u (zV rfl rfl wm rfl rfl) <| g_u (zT rfl rfl tA49 tS49 rfl rfl) <| g_u (zC rfl rfl) ?_
                  refine g_u (zJ rfl rfl rfl Tryz.underlying49 tS63 (by omega) (ixS hm)) ?_
                  refine g_u (zT rfl rfl tA63 tS63 rfl (by first | exact xP (GSpan.width _) rfl | rfl)) ?_
                  refine g_u (zC rfl rfl) <| g_u (zC rfl rfl) ?_
                  refine g_u (zJ rfl rfl rfl Tryz.underlying45 tS51 (by omega) (ixC hib)) ?_
                  refine g_u (zV rfl rfl wm rfl rfl) <| g_u (zT rfl rfl tA49 tS49 rfl rfl) <| g_u (zC rfl rfl) ?_
                  refine g_u (zJ rfl rfl rfl Tryz.underlying49 tS63 (by omega) (ixS hmb)) ?_
                  refine g_u (zT rfl rfl tA63 tS63 rfl (by first | exact xP (GSpan.width _) rfl | rfl)) ?_
                  refine g_u (zP (rsameS_c _ _ (by omega)) rfl rfl) ?_
                  refine g_u (wZ rfl rfl) ?_
                  refine zI ⟨by kernel_rfl, ?_⟩
                  refine zA ?_
                  refine zW rfl (fun hb7 => ?_) (fun hb7 => ?_)
                  · have q : ¬ (nthS (nthC a i).spans m) = (nthS (nthC b i).spans m) := fun h => by have e := hb7; rw [decide_eq_true h] at e; cases e
                    refine zD <| zB <| g_u (zE rfl rfl) <| zI <| zA <| zL <| zq <| zM <| zM <| zq <| zq <| zM <| zM <| zq <| zM ?_
                    exact ⟨⟨(rfl : toAV (Al.look _ _) = some _).trans (congrArg some (by (exact congrArg bv (by first | exact (decide_eq_false (fun e => q (by rw [e]))).symm | exact (decide_eq_true (zv gc0 el (fun j hj => h2 j (by omega)))).symm)))), rfl⟩, trivial⟩
                  · have f4 : (nthS (nthC a i).spans m) = (nthS (nthC b i).spans m) := by have e := hb7; simpa using e
                    refine zY <| zX <| zA <| zB <| g_u (zC rfl rfl) <| g_u (yG rfl rfl rfl) <| g_u (zE rfl rfl) <| zI <| zA ?_
                    refine ⟨m + 1, ⟨hm, fun p hp => by rcases Nat.lt_or_ge p m with h | h; exact h4 p h; rw [show p = m by omega]; exact f4⟩, ⟨rfl, rfl, rfl, zZ rfl (by rw [ze (by omega) (by omega)]; rfl), trivial⟩, by (try dsimp only); omega⟩
                · have hmn : m = (nthC a i).spans.length := by have := of_decide_eq_false hb6; (try simp only [List.length_map] at this); omega
                  refine zu <| zR <| zR <| zn <| zX <| zA <| zB <| g_u (zC rfl rfl) <| g_u (yG rfl rfl rfl) <| g_u (zE rfl rfl) <| zI <| zA ?_
                  refine ⟨i + 1, ⟨hi, fun j hj => by rcases Nat.lt_or_ge j i with h | h; exact h2 j h; rw [show j = i by omega]; exact GScope.ext' f1 f2 (show (nthC a i).spans = (nthC b i).spans from zv gs0 f3 (fun j hj => h4 j (by omega)))⟩, ⟨rfl, rfl, zZ rfl (by rw [ze (by omega) (by omega)]; rfl), trivial⟩, by (try dsimp only); omega⟩
      · have hin : i = a.length := by have := of_decide_eq_false hb2; (try simp only [List.length_map] at this); omega
        refine zu <| zR <| zR <| zn <| zA <| zD <| zB <| g_u (zE rfl rfl) <| zI <| zA <| zL ?_
        exact ⟨⟨(rfl : toAV (Al.look _ _) = some _).trans (congrArg some (by (exact congrArg bv (by first | exact (decide_eq_false (fun e => q (by rw [e]))).symm | exact (decide_eq_true (zv gc0 el (fun j hj => h2 j (by omega)))).symm)))), rfl⟩, trivial⟩
set_option maxHeartbeats 2000000 in
theorem rsameB_c (a b : List GRes) (hw : wtB a ≤ 1000000000) : zo Tryz.prog Γ0 18 [yK a, yK b] [bv (decide (a = b))] := by
  have ql := yR GRes.wt (fun e => by unfold GRes.wt; omega) a
  have qw : wtB a = z7 GRes.wt a := rfl
  refine z_ Tryz.func18 rfl Tryz.ntmps18 (by kernel_rfl) rfl fun w0 I0 G0 => ?_
  refine zD <| zB <| g_uG (zi 1002 rfl rfl rfl rfl) rfl <| g_uG (zi 1003 rfl rfl rfl rfl) rfl <| g_u (zE rfl rfl) <| zI <| zA <| zD <| zD <| zB <| g_u (zF rfl rfl xD rfl) <| g_u (zG rfl rfl rfl tA22 tS22 rfl rfl) <| g_u (zw rfl rfl Tryz.underlying22) <| g_u (zF rfl rfl xD rfl) <| g_u (zG rfl rfl rfl tA22 tS22 rfl rfl) <| g_u (zw rfl rfl Tryz.underlying22) <| g_u (wM rfl rfl rfl) <| zI <| zA ?_
  refine zW rfl (fun hb1 => ?_) (fun hb1 => ?_)
  · have q : ¬ a.length = b.length := by have e := bne_iff_ne.1 hb1; simp only [List.length_map] at e; omega
    refine zD <| zB <| g_u (zE rfl rfl) <| zI <| zA <| zL <| zM ?_
    exact ⟨⟨(rfl : toAV (Al.look _ _) = some _).trans (congrArg some (by (exact congrArg bv (by first | exact (decide_eq_false (fun e => q (by rw [e]))).symm | exact (decide_eq_true (zv gr0 el (fun j hj => h2 j (by omega)))).symm)))), rfl⟩, trivial⟩
  · have el : a.length = b.length := by have e := qd.1 hb1; simp only [List.length_map] at e; omega
    refine zY <| zA <| zD <| zD <| zB <| g_u (zE rfl rfl) <| zI <| zA <| zU ?_
    refine zp (fun i : Nat => [(2, .ptr 1002 0), (1002, .box 24 (.imm (yK a))), (3, .ptr 1003 0), (1003, .box 24 (.imm (yK b))), (5, .imm (iv (i : Int)))]) (fun i => (i ≤ a.length ∧ ∀ p, p < i → nth a p gr0 = nth b p gr0)) (fun i => a.length - i) (0) ?_ ⟨rfl, rfl, rfl, rfl, rfl, trivial⟩ ?_
    · exact ⟨Nat.zero_le _, fun j h => absurd h (Nat.not_lt_zero _)⟩
    · rintro i ⟨h1, h2⟩; (try dsimp only at h1 h2)
      refine zD <| zD <| zB <| g_u (zC rfl rfl) <| g_u (zF rfl rfl xD rfl) <| g_u (zG rfl rfl rfl tA22 tS22 rfl rfl) <| g_u (zw rfl rfl Tryz.underlying22) <| g_u (yb rfl rfl rfl) <| zI <| zA ?_
      refine zW rfl (fun hb2 => ?_) (fun hb2 => ?_)
      · have hi : i < a.length := by have := of_decide_eq_true hb2; (try simp only [List.length_map] at this); omega
        have hib : i < b.length := by omega
        have hrx := yD GRes.wt (xZ hi)
        have hrq : (nthR a i).wt = 1 + wtAs (nthR a i).attrs + z7 GScope.wt (nthR a i).scopes := rfl
        refine zY <| zA <| zD <| zU <| zD <| yE yt <| g_u (zF rfl rfl xD rfl) <| g_u (zG rfl rfl rfl tA22 tS22 rfl rfl) <| g_u (zC rfl rfl) ?_
        refine g_u (zJ rfl rfl rfl Tryz.underlying22 tS47 (by omega) (ixR hi)) ?_
        refine g_u (zV rfl rfl fa47_0 rfl rfl) <| g_u (zT rfl rfl tA44 tS44 rfl rfl) <| g_u (zF rfl rfl xD rfl) <| g_u (zG rfl rfl rfl tA22 tS22 rfl rfl) <| g_u (zC rfl rfl) ?_
        refine g_u (zJ rfl rfl rfl Tryz.underlying22 tS47 (by omega) (ixR hib)) ?_
        refine g_u (zV rfl rfl fa47_0 rfl rfl) <| g_u (zT rfl rfl tA44 tS44 rfl rfl) ?_
        refine g_u (zP (rsameAs_c _ _ (by omega)) rfl rfl) ?_
        refine g_u (wZ rfl rfl) <| g_u (zC rfl rfl) <| z0 (t := 34) rfl ?_
        rintro (hb3 | hb3)
        · rw [hb3]
          have q : ¬ (nthR a i).attrs = (nthR b i).attrs := fun h => by have e := hb3; rw [h, sameAs_refl] at e; cases e
          refine zH rfl rfl rfl <| zH rfl rfl rfl <| zH rfl rfl rfl <| zH rfl rfl rfl <| zH rfl rfl rfl <| zH rfl rfl rfl <| zH rfl rfl rfl <| zH rfl rfl rfl <| zH rfl rfl rfl <| zH rfl rfl rfl <| zH rfl rfl rfl <| zH rfl rfl rfl <| zH rfl rfl rfl <| zH rfl rfl rfl <| g_u (zQ rfl rfl rfl) ?_
          refine zI ⟨by kernel_rfl, ?_⟩
          refine zA <| zg rfl <| zD <| zB <| g_u (zE rfl rfl) <| zI <| zA <| zL <| zq <| zM <| zM <| zq <| zM ?_
          exact ⟨⟨(rfl : toAV (Al.look _ _) = some _).trans (congrArg some (by (exact congrArg bv (by first | exact (decide_eq_false (fun e => q (by rw [e]))).symm | exact (decide_eq_true (zv gr0 el (fun j hj => h2 j (by omega)))).symm)))), rfl⟩, trivial⟩
        · rw [hb3]
          have f1 : (nthR a i).attrs = (nthR b i).attrs := (ya _ _).1 (by have e := hb3; simpa using e)
          refine zN rfl rfl (zF rfl rfl xD rfl) <| zN rfl rfl (zG rfl rfl rfl tA22 tS22 rfl rfl) <| zN rfl rfl (zC rfl rfl) ?_
          refine zN rfl rfl (zJ rfl rfl rfl Tryz.underlying22 tS47 (by omega) (ixR hi)) ?_
          refine zN rfl rfl (zV rfl rfl wR rfl rfl) <| zN rfl rfl (zT rfl rfl tA45 tS45 rfl rfl) <| zN rfl rfl (zF rfl rfl xD rfl) <| zN rfl rfl (zG rfl rfl rfl tA22 tS22 rfl rfl) <| zN rfl rfl (zC rfl rfl) ?_
          refine zN rfl rfl (zJ rfl rfl rfl Tryz.underlying22 tS47 (by omega) (ixR hib)) ?_
          refine zN rfl rfl (zV rfl rfl wR rfl rfl) <| zN rfl rfl (zT rfl rfl tA45 tS45 rfl rfl) ?_
          refine zN rfl rfl (zP (rsameCs_c _ _ (by omega)) rfl rfl) ?_
          refine zN rfl rfl (wZ rfl rfl) <| g_u (zh rfl rfl rfl) ?_
          refine zI ⟨by kernel_rfl, ?_⟩
          refine zA ?_
          refine zW rfl (fun hb4 => ?_) (fun hb4 => ?_)
          · have q : ¬ (nthR a i).scopes = (nthR b i).scopes := fun h => by have e := hb4; rw [decide_eq_true h] at e; cases e
            refine zD <| zB <| g_u (zE rfl rfl) <| zI <| zA <| zL <| zq <| zM <| zM <| zq <| zM ?_
            exact ⟨⟨(rfl : toAV (Al.look _ _) = some _).trans (congrArg some (by (exact congrArg bv (by first | exact (decide_eq_false (fun e => q (by rw [e]))).symm | exact (decide_eq_true (zv gr0 el (fun j hj => h2 j (by omega)))).symm)))), rfl⟩, trivial⟩
          · have f2 : (nthR a i).scopes = (nthR b i).scopes := by have e := hb4; simpa using e
            refine zY <| zX <| zA <| zB <| g_u (zC rfl rfl) <| g_u (yG rfl rfl rfl) <| g_u (zE rfl rfl) <| zI <| zA ?_
            refine ⟨i + 1, ⟨hi, fun j hj => by rcases Nat.lt_or_ge j i with h | h; exact h2 j h; rw [show j = i by omega]; exact GRes.ext' f1 f2⟩, ⟨rfl, rfl, rfl, rfl, zZ rfl (by rw [ze (by omega) (by omega)]; rfl), trivial⟩, by (try dsimp only); omega⟩
      · have hin : i = a.length := by have := of_decide_eq_false hb2; (try simp only [List.length_map] at this); omega
        refine zu <| zR <| zR <| zn <| zA <| zD <| zB <| g_u (zE rfl rfl) <| zI <| zA <| zL ?_
        exact ⟨⟨(rfl : toAV (Al.look _ _) = some _).trans (congrArg some (by (exact congrArg bv (by first | exact (decide_eq_false (fun e => q (by rw [e]))).symm | exact (decide_eq_true (zv gr0 el (fun j hj => h2 j (by omega)))).symm)))), rfl⟩, trivial⟩
end Go.Proofs
namespace Go.Al
open Go.RowKit
theorem up_bytes {l : List UInt8} {n : Nat} (h : l.length = n) : Up (.agg (zs l)) (.arr n l) := by
  have hw : ∀ x ∈ zs l, x.width = 1 := W1.bytes l
  refine ⟨rfl, ?_, fun w I c r => ?_⟩
  · have key : ∀ l : List UInt8, AV.widths (zs l) = l.length := by
      intro l
      induction l with
      | nil => rfl
      | cons b l ih => simp only [zs, List.map_cons, AV.widths, List.length_cons] at ih ⊢; rw [ih]; simp only [AV.width, vF, Value.cells]; show 1 + _ = _; omega
    show n = AV.widths (zs l)
    rw [key, h]
  · simp only [RepC] at r ⊢
    exact ⟨repE_bytes_inv l c ((repCs_E (n := 1) hw).1 r), h⟩
end Go.Al
namespace Go.Proofs
open Go Go.Al
set_option maxRecDepth 10000
theorem tV54 : yu Tryz.prog 54 (.agg (List.replicate 16 (.v (.int .u8 0)))) := ⟨.agg #[.int .u8 0, .int .u8 0, .int .u8 0, .int .u8 0, .int .u8 0, .int .u8 0, .int .u8 0, .int .u8 0, .int .u8 0, .int .u8 0, .int .u8 0, .int .u8 0, .int .u8 0, .int .u8 0, .int .u8 0, .int .u8 0], by kernel_rfl, by kernel_rfl⟩
theorem tV56 : yu Tryz.prog 56 (.agg (List.replicate 8 (.v (.int .u8 0)))) := ⟨.agg #[.int .u8 0, .int .u8 0, .int .u8 0, .int .u8 0, .int .u8 0, .int .u8 0, .int .u8 0, .int .u8 0], by kernel_rfl, by kernel_rfl⟩
end Go.Proofs
namespace Go.Al
open Go.RowKit
theorem SimG.turnOG {C : Cx} {A : Nat → SV} {G : Gh} {a : Act} {w : World} (S : SimG C A G a w) {g : Nat} {X' : SV} {o' : Obj}
    (how : Owned C.w0 C.E w (G.blk g)) (hni : ∀ o, ¬ G.I (G.blk g) o) (hown : zm G g (G.blk g) (A g)) (hown' : ∀ b, zm G g b X' → G.blk g = b)
    (hnew : Le w G.I (yU w (G.blk g) o') G.I → Holds C.w0 C.E G a (yU w (G.blk g) o') g X') :
    SimG C (upd A [(g, X')]) G a (yU w (G.blk g) o') := by
  have hlt : G.blk g < w.heap.size := how.2
  have hle : Le w G.I (yU w (G.blk g) o') G.I := fun b o h => ⟨h, by
    have : b ≠ G.blk g := by rintro rfl; exact hni o h
    exact yx (xB this)⟩
  have hu : ∀ k, upd A [(g, X')] k = if k = g then X' else A k := xW A g X'
  have conv : ∀ k b, zm G k b (upd A [(g, X')] k) → zm G k b (A k) := by
    intro k b h
    rw [hu] at h
    split at h
    · rename_i hk; subst hk; have := hown' b h; rw [← this]; exact hown
    · exact h
  refine ⟨S.os, S.tape, S.output, by rw [yW]; exact S.size, fun k h1 h2 => ?_, S.sub.trans hle, S.rel, S.glob.mono hle, S.new, fun b o h => by rw [yW]; exact S.val b o h, S.nts, S.dfs, fun k => ?_, fun k j b hkj h1 h2 => S.apart k j b hkj (conv k b h1) (conv j b h2)⟩
  · have : k ≠ G.blk g := by
      rintro rfl
      rcases how.1 with h | h
      · omega
      · exact h2 h
    rw [xB this]; exact S.block k h1 h2
  · rw [hu]
    split
    · rename_i hk; subst hk; exact hnew hle
    · rename_i hk
      refine (S.holds k).keep hle (GRel.refl G) (xT.1 _) (by rw [yW]; exact Nat.le_refl _) (fun h => ⟨h, rfl⟩) (fun _ => ⟨rfl, rfl, rfl⟩) (fun b hb => ⟨?_, fun _ h => h⟩)
      have : b ≠ G.blk g := by
        rintro rfl
        exact S.apart k g (G.blk g) hk hb hown
      exact xB this
theorem SimG.turnO {C : Cx} {A : Nat → SV} {G : Gh} {a : Act} {w : World} (S : SimG C A G a w) {g : Nat} {X' : SV} {o' : Obj}
    (how : Owned C.w0 C.E w (G.blk g)) (hni : ∀ o, ¬ G.I (G.blk g) o) (hown : zm G g (G.blk g) (A g)) (hown' : ∀ b, zm G g b X' → G.blk g = b)
    (hnew : Le w G.I (yU w (G.blk g) o') G.I → Holds C.w0 C.E G a (yU w (G.blk g) o') g X') :
    Sim C (upd A [(g, X')]) a (yU w (G.blk g) o') := ⟨G, S.turnOG how hni hown hown' hnew⟩
def mfind : List ByteArray → ByteArray → Nat → Option Nat
  | [], _, _ => none
  | x :: xs, s, i => if s = x then some i else mfind xs s (i + 1)
def strs (l : List ByteArray) : List AV := l.map fun s => .v (.string s)
def mputK (l : List ByteArray) (s : ByteArray) : List ByteArray := match mfind l s 0 with | some _ => l | none => l ++ [s]
def mputV (l : List ByteArray) (vs : List AV) (s : ByteArray) (v : AV) : List AV := match mfind l s 0 with | some i => vs.set i v | none => vs ++ [v]
theorem mfind_lt : ∀ {l : List ByteArray} {s : ByteArray} {i j : Nat}, mfind l s i = some j → i ≤ j ∧ j < i + l.length
  | x :: xs, s, i, j, h => by
    rw [mfind] at h
    split at h
    · cases h; simp
    · have := mfind_lt h; simp; omega
theorem mfind_get : ∀ {l : List ByteArray} {s : ByteArray} {i j : Nat}, mfind l s i = some j → l[j - i]? = some s
  | x :: xs, s, i, j, h => by
    rw [mfind] at h
    split at h
    · rename_i hs; cases h; simp [hs]
    · have h1 := mfind_lt h
      have h2 := mfind_get h
      rw [show j - i = (j - (i + 1)) + 1 by omega, List.getElem?_cons_succ]; exact h2
theorem repVs_strs {w : World} {I : Nat → Nat → Prop} : ∀ {l : List ByteArray} {vs : List Value}, yc w I (strs l) vs → vs = l.map Value.string
  | [], vs, h => by simpa [strs, yc] using h
  | x :: xs, vs, h => by
    simp only [strs, List.map_cons, yc] at h
    obtain ⟨c, r, rfl, h1, h2⟩ := h
    simp only [RepC] at h1
    rw [repVs_strs (l := xs) h2, h1.1]
    simp [mkV, AV.isAgg, Value.cells]
theorem ba_beq (a b : ByteArray) : (a == b) = decide (a = b) := by
  rcases a with ⟨a⟩; rcases b with ⟨b⟩
  show (a == b) = _
  rw [Bool.eq_iff_iff]; simp
theorem findNow_str : ∀ (es : List MapEntry) (l : List ByteArray) (s : ByteArray) (i : Nat), es.map (·.key) = l.map Value.string →
    Instr.findNow .string (.string s) es i = some ((mfind l s i).bind fun j => (es[j - i]?).map fun e => (j, e.val))
  | [], l, s, i, h => by
    cases l with
    | nil => rfl
    | cons x l => simp at h
  | e :: es, l, s, i, h => by
    cases l with
    | nil => simp at h
    | cons x l =>
      simp only [List.map_cons, List.cons.injEq] at h
      simp only [Instr.findNow, h.1, Instr.sameNow]
      by_cases hs : s = x
      · subst hs
        simp [mfind, ba_beq]
      · have : (s == x) = false := by rw [ba_beq]; simpa using hs
        rw [this]
        simp only
        rw [findNow_str es l s (i + 1) h.2, mfind, if_neg hs]
        cases hm : mfind l s (i + 1) with
        | none => rfl
        | some j =>
          have := mfind_lt hm
          simp only [Option.bind_some]
          rw [show j - i = (j - (i + 1)) + 1 by omega, List.getElem?_cons_succ]
theorem run_checkKey {P : Program} {kt : TypeId} {s : ByteArray} (h : P.underlying kt = some .string) (b : Bool) (n : Nat) (w : World) : (Instr.checkKey b (n + 1) kt (.string s)).run P w = .ok () w := by
  simp only [Instr.checkKey, Sem.run_bind, zd h, Result.andThen_ok, Sem.run_pure]
theorem run_findKey {P : Program} {kt : TypeId} {s : ByteArray} (h : P.underlying kt = some .string) {es : List MapEntry} {l : List ByteArray} (he : es.map (·.key) = l.map Value.string) (w : World) :
    (Instr.findKey kt (.string s) es).run P w = .ok ((mfind l s 0).bind fun j => (es[j]?).map fun e => (j, e.val)) w := by
  have := findNow_str es l s 0 he
  simp only [Nat.sub_zero] at this
  simp only [Instr.findKey, Sem.run_bind, zd h, Result.andThen_ok, this, Sem.run_pure]
theorem run_getMap {P : Program} {w : World} {r : Nat} {es : Array MapEntry} {ck : Nat} (h : w.heap[r]? = some (.map es ck)) : (getObj r).run P w = .ok (.map es ck) w := by simp [getObj, Sem.run, h]
theorem run_setMap {P : Program} {w : World} {r : Nat} {es : Array MapEntry} {ck : Nat} {o' : Obj} (h : w.heap[r]? = some (.map es ck)) : (setObj r o').run P w = .ok () (yU w r o') := by simp [setObj, Sem.run, h, yU]
section
variable {C : Cx} {A : Nat → SV} {d : Nat} {ty : TypeId} {pos : String} {af : Array Edge} {gd : Option (Nat × Bool)} {x y z : Operand} {T T' : TypeId}
theorem s_makeMap (g : Nat) (hgN : Nat.ble C.N g = true) (hgK : Nat.blt g C.K = true) (hN : Nat.blt d C.N = true) :
    zr C ⟨some d, .makeMap T none, ty, pos, af, gd⟩ [] [g] A [(g, .mpr [] []), (d, .mref g)] := by
  intro A' a w hR hF ⟨G, S⟩
  have hN' : d < C.N := by simpa [Nat.blt_eq] using hN
  have hgd : g ≠ d := by have := Nat.le_of_ble_eq_true hgN; omega
  unfold Oper.wp
  have hrun : (execOp a.eval ⟨some d, .makeMap T none, ty, pos, af, gd⟩).run C.P w = .ok (.value (.map (some w.heap.size))) (w.alloc (.map #[] 0)) := by
    simp only [execOp, Option.map_none, Instr.makeMap, Sem.run_bind, Sem.run_pure, Result.andThen_ok, run_newObj]
    rfl
  rw [hrun, Oper.upon_value]
  refine S.allocO hgd (by simpa [Nat.blt_eq] using hgK) hN' (fun _ _ h => by simpa only [zm] using h) (fun G' e _ hg hle hni => ?_) (fun G' e => ?_) (fun k hk => hF k hk)
  · simp only [Holds]
    refine ⟨⟨.inl (by rw [e]; exact S.size), by rw [e]; simp⟩, ⟨#[], by rw [e]; exact alloc_new, fun i h => by simp at h, by simp [yc], by simp [yc]⟩, fun o => ?_⟩
    rw [e]; exact hni o
  · exact ⟨[.map (some w.heap.size)], by simp [RepS, e], by simp [mkS, SV.isAgg]⟩
theorem repVs_set {w : World} {I : Nat → Nat → Prop} : ∀ {xs : List AV} {vs : List Value} {i : Nat} {y : AV} {v : Value}, yc w I xs vs → Rep w I y v → yc w I (xs.set i y) (vs.set i v)
  | [], vs, i, y, v, h, _ => by
    simp only [yc] at h; subst h; simp [yc]
  | x :: xs, vs, 0, y, v, h, k => by
    simp only [yc] at h
    obtain ⟨c, r, rfl, h1, h2⟩ := h
    obtain ⟨c', k1, k2⟩ := k
    simp only [List.set_cons_zero, yc]
    exact ⟨c', r, by rw [k2], k1, h2⟩
  | x :: xs, vs, i + 1, y, v, h, k => by
    simp only [yc] at h
    obtain ⟨c, r, rfl, h1, h2⟩ := h
    simp only [List.set_cons_succ, yc]
    exact ⟨c, _, rfl, h1, repVs_set h2 k⟩
theorem s_mapUpdate {g : Nat} {kt vt : TypeId} {l : List ByteArray} {vs : List AV} {s : ByteArray} {v : AV} (hx : opS A x = .mref g) (hg : A g = .mpr (strs l) vs) (hy : opV A y = some (.v (.string s))) (hz : opV A z = some v)
    (hT : C.P.underlying T = some (.map kt vt)) (hk : C.P.underlying kt = some .string) :
    zr C ⟨none, .mapUpdate T x y z, ty, pos, af, gd⟩ (g :: (opR x ++ (opR y ++ opR z))) [] A [(g, .mpr (strs (mputK l s)) (mputV l vs s v))] := by
  intro A' a w hR hF ⟨G, S⟩
  have hgA : A' g = .mpr (strs l) vs := (hR g List.mem_cons_self).trans hg
  obtain ⟨c, hc1, hc2⟩ := S.opS ((ye (fun k hk => hR k (List.mem_cons_of_mem _ (List.mem_append_left _ hk)))).trans hx) rfl
  simp only [RepS] at hc1
  have hev : a.eval x = .map (some (G.blk g)) := by rw [hc2, hc1]; rfl
  rw [← yX (fun k hk => hR k (List.mem_cons_of_mem _ (List.mem_append_right _ (List.mem_append_left _ hk))))] at hy
  rw [← yX (fun k hk => hR k (List.mem_cons_of_mem _ (List.mem_append_right _ (List.mem_append_right _ hk))))] at hz
  have hys := xl (S.opV hy)
  have hzv := S.opV hz
  have hb := S.holds g
  rw [hgA] at hb
  simp only [Holds] at hb
  obtain ⟨how, ⟨es, h1, h2, h3, h4⟩, hni⟩ := hb
  have hkeys : es.toList.map (·.key) = l.map Value.string := repVs_strs h3
  have hlen : es.size = l.length := by have := congrArg List.length hkeys; simpa using this
  have hfind := run_findKey (P := C.P) (s := s) hk hkeys w
  have hobj := run_getMap (P := C.P) h1
  unfold Oper.wp
  cases hm : mfind l s 0 with
  | some i =>
    have hi := mfind_lt hm
    have hie : i < es.size := by omega
    have hkey : es[i].key = .string s := by
      have hk2 : (es.toList.map (·.key))[i]? = (l.map Value.string)[i]? := by rw [hkeys]
      have hsl : l[i]? = some s := by
        have := mfind_get hm
        simpa using this
      simp only [List.getElem?_map, hsl, Option.map_some] at hk2
      rw [Array.getElem?_toList, Array.getElem?_eq_getElem hie] at hk2
      simpa using hk2
    have hrun : (execOp a.eval ⟨none, .mapUpdate T x y z, ty, pos, af, gd⟩).run C.P w = .ok .skip (yU w (G.blk g) (.map (es.modify i fun e => { e with key := .string s, val := a.eval z }) es.size)) := by
      have e1 : (es[i]?).map (·.key) = some (.string s) := by rw [Array.getElem?_eq_getElem hie]; simp [hkey]
      have e2 : (es.toList[i]?).map (fun e => (i, e.val)) = some (i, es[i].val) := by rw [Array.getElem?_toList, Array.getElem?_eq_getElem hie]; rfl
      have e3 : Instr.sameBits 10000 (.string s) (.string s) = true := by simp [Instr.sameBits, ba_beq]
      simp only [execOp, Instr.mapUpdate, Sem.run_bind, zd hT, Result.andThen_ok, hev, hobj, hys, run_checkKey hk, hfind, hm, Option.bind_some, e2, e1, Option.getD_some, Instr.keyThatStays, e3, if_true, Sem.run_pure, run_setMap h1]
    rw [hrun, Oper.upon_skip]
    have hmp : mputK l s = l ∧ mputV l vs s v = vs.set i v := by unfold mputK mputV; rw [hm]; exact ⟨rfl, rfl⟩
    rw [hmp.1, hmp.2]
    refine S.turnO how hni (by rw [hgA]; simp [zm]) (fun b h => by simpa only [zm] using h) fun hle => ?_
    simp only [Holds]
    refine ⟨⟨how.1, by rw [yW]; exact how.2⟩, ⟨es.modify i fun e => { e with key := .string s, val := a.eval z }, by rw [xt how.2]; simp, fun j hj => ?_, ?_, ?_⟩, hni⟩
    · simp only [Array.getElem_modify]
      split
      · exact h2 j (by simpa using hj)
      · exact h2 j (by simpa using hj)
    · have : ((es.modify i fun e => { e with key := .string s, val := a.eval z }).toList.map (·.key)) = es.toList.map (·.key) := by
        refine List.ext_getElem (by simp) fun j h5 h6 => ?_
        simp only [List.getElem_map, Array.getElem_toList, Array.getElem_modify]
        split
        · rename_i hij; subst hij; rw [hkey]
        · rfl
      rw [this]; exact yc.mono hle _ _ h3
    · have : ((es.modify i fun e => { e with key := .string s, val := a.eval z }).toList.map (·.val)) = (es.toList.map (·.val)).set i (a.eval z) := by
        refine List.ext_getElem (by simp) fun j h5 h6 => ?_
        simp only [List.getElem_map, Array.getElem_toList, Array.getElem_modify, List.getElem_set]
        split <;> rfl
      rw [this]; exact repVs_set (yc.mono hle _ _ h4) (hzv.mono hle)
  | none =>
    have hrun : (execOp a.eval ⟨none, .mapUpdate T x y z, ty, pos, af, gd⟩).run C.P w = .ok .skip (yU w (G.blk g) (.map (es.push { key := .string s, val := a.eval z, born := es.size }) (es.size + 1))) := by
      simp only [execOp, Instr.mapUpdate, Sem.run_bind, zd hT, Result.andThen_ok, hev, hobj, hys, run_checkKey hk, hfind, hm, Option.bind_none, Sem.run_pure, run_setMap h1]
    rw [hrun, Oper.upon_skip]
    have hmp : mputK l s = l ++ [s] ∧ mputV l vs s v = vs ++ [v] := by unfold mputK mputV; rw [hm]; exact ⟨rfl, rfl⟩
    rw [hmp.1, hmp.2]
    refine S.turnO how hni (by rw [hgA]; simp [zm]) (fun b h => by simpa only [zm] using h) fun hle => ?_
    simp only [Holds]
    refine ⟨⟨how.1, by rw [yW]; exact how.2⟩, ⟨es.push { key := .string s, val := a.eval z, born := es.size }, by rw [xt how.2]; simp, fun j hj => ?_, ?_, ?_⟩, hni⟩
    · simp only [Array.getElem_push]
      split
      · rename_i hj2; exact h2 j hj2
      · rename_i hj2; simp at hj; show es.size = j; omega
    · have e : strs (l ++ [s]) = strs l ++ [.v (.string s)] := by simp [strs]
      rw [e]
      simp only [Array.toList_push, List.map_append, List.map_cons, List.map_nil]
      exact repVs_append (yc.mono hle _ _ h3) (by simp only [yc]; exact ⟨[.string s], [], by simp [mkV, AV.isAgg], by simp [RepC, Value.cells, Al.plain], rfl⟩)
    · simp only [Array.toList_push, List.map_append, List.map_cons, List.map_nil]
      obtain ⟨cz, k1, k2⟩ := hzv.mono hle
      exact repVs_append (yc.mono hle _ _ h4) (by simp only [yc]; exact ⟨cz, [], by rw [k2], k1, rfl⟩)
end
end Go.Al
namespace Go.Al
open Go.RowKit
def units (n : Nat) : List AV := List.replicate n (.agg [])
@[simp] theorem units_length (n : Nat) : (units n).length = n := List.length_replicate
section
variable {C : Cx} {A : Nat → SV} {d : Nat} {ty : TypeId} {pos : String} {af : Array Edge} {gd : Option (Nat × Bool)} {x y z : Operand} {T T' : TypeId}
end
end Go.Al
namespace Go.Al
open Go.RowKit
structure SortC (P : Program) (Γ : List (Nat × AV)) (f : FuncId) : Prop where
  call : callable P f = true
  sorts : ∀ (blk cap : Nat) (ss : List (List UInt8)) (w : World), Sort.Holds Proofs.encStr w blk 0 ss.toArray → blk < w.heap.size → ss.length < 4611686018427387904 →
    Calls P f #[.slice (some ⟨blk, 0, none⟩) ss.length cap] w fun e w' =>
      e = .returned (.tuple #[]) ∧ ∃ n os, w' = Sort.grow (Sort.putRow Proofs.encStr (Sort.ahead w n) blk 0 (ss.mergeSort fun x y => decide (x ≤ y)).toArray) os
  empty : zo P Γ f [.v (.slice none 0 0)] []
section
variable {C : Cx} {A : Nat → SV} {d : Nat} {ty : TypeId} {pos : String} {af : Array Edge} {gd : Option (Nat × Bool)} {x y z : Operand} {T T' : TypeId}
end
end Go.Al
namespace Go.Proofs
open Go Go.Al
end Go.Proofs
namespace Go.Al
open Go.RowKit
section
variable {C : Cx} {d : Nat} {ty : TypeId} {pos : String} {af : Array Edge} {x : Operand}
end
end Go.Al
namespace Go.Al
section
variable {C : Cx} {A : Nat → SV} {d : Nat} {ty : TypeId} {pos : String} {af : Array Edge} {gd : Option (Nat × Bool)} {x : Operand}
end
end Go.Al
namespace Go.Proofs
open Go Go.Al
theorem sameVs_ne {a b : List GV} (h : a ≠ b) : sameVs a b = false := by cases hs : sameVs a b; rfl; exact absurd ((wj _ _).1 hs) h
theorem sameA_ne {a b : GA} (h : a ≠ b) : sameA a b = false := by cases hs : sameA a b; rfl; exact absurd ((sameA_iff _ _).1 hs) h
theorem sameA_refl (a : GA) : sameA a a = true := (sameA_iff a a).2 rfl
theorem sameVs_refl (a : List GV) : sameVs a a = true := (wj a a).2 rfl
end Go.Proofs
namespace Go.Proofs
open Go Go.Al
set_option maxRecDepth 10000
set_option maxHeartbeats 1000000 in
theorem eqfV_c (a b : List GV) (fn : FuncId) (hl : a.length ≤ 1000000000) (hf : ∀ x ∈ a, ∀ y : GV, zo Tryz.prog Γ0 fn ([] ++ [x.av, y.av] ++ []) [bv (sameV x y)]) : zo Tryz.prog Γ0 150 [(.sl 6 (a.map avV)), (.sl 6 (b.map avV)), .fn (.func fn) [] []] [bv (sameVs a b)] := by
  refine z_ Tryz.func150 rfl Tryz.ntmps150 (by kernel_rfl) rfl fun w0 I0 G0 => ?_
  refine zD <| zB <| g_u (zE rfl rfl) <| zI <| zA <| zD <| zD <| zB <| g_u (zC rfl rfl) <| g_u (zw rfl rfl Tryz.underlying68) <| g_u (zC rfl rfl) <| g_u (zw rfl rfl Tryz.underlying68) <| g_u (wM rfl rfl rfl) <| zI <| zA ?_
  refine zW rfl (fun hb1 => ?_) (fun hb1 => ?_)
  · have q : ¬ a.length = b.length := by have e := bne_iff_ne.1 hb1; simp only [List.length_map] at e; omega
    refine zD <| zB <| g_u (zE rfl rfl) <| zI <| zA <| zL <| zM ?_
    exact ⟨⟨(rfl : toAV (Al.look _ _) = some _).trans (congrArg some (by (exact congrArg bv (by first | exact (sameVs_ne (fun e => q (by rw [e]))).symm | exact ((wj _ _).2 (zv v0 el (fun j hj => h2 j (by omega)))).symm)))), rfl⟩, trivial⟩
  · have el : a.length = b.length := by have e := qd.1 hb1; simp only [List.length_map] at e; omega
    refine zY <| zA <| zD <| zD <| zB <| g_u (zC rfl rfl) <| g_u (zw rfl rfl Tryz.underlying68) <| g_u (zC rfl rfl) <| zI <| zA <| zU ?_
    refine zp (fun i : Nat => [(1, .imm (.sl 6 (b.map avV))), (2, .imm (.fn (.func fn) [] [])), (15, .imm (.sl 6 (a.map avV))), (16, .imm (iv (a.length : Int))), (17, .imm (iv (i : Int)))]) (fun i => i ≤ a.length ∧ ∀ j, j < i → nth a j v0 = nth b j v0) (fun i => a.length - i) (0) ?_ ⟨rfl, rfl, rfl, zZ rfl (by rw [List.length_map]), rfl, trivial⟩ ?_
    · exact ⟨Nat.zero_le _, fun j h => absurd h (Nat.not_lt_zero _)⟩
    · rintro i ⟨h1, h2⟩; (try dsimp only at h1 h2)
      refine zD <| zB <| g_u (yb rfl rfl rfl) <| zI <| zA <| zD ?_
      refine zW rfl (fun hb2 => ?_) (fun hb2 => ?_)
      · have hi : i < a.length := by have := of_decide_eq_true hb2; (try simp only [List.length_map] at this); omega
        have hib : i < b.length := by omega
        refine zY <| zA <| zD <| zU <| zD <| zB <| g_u (zC rfl rfl) ?_
        refine g_u (zJ rfl rfl rfl Tryz.underlying68 tS70 (by omega) (ixV hi)) ?_
        refine g_u (zT rfl rfl tA70 tS70 rfl rfl) <| g_uG (zl 1008 rfl rfl rfl tZ70) rfl <| g_u (zE rfl rfl) <| g_u (zK rfl rfl rfl tS70 rfl rfl) <| zI <| zA <| zD <| zB <| g_u (zC rfl rfl) <| g_u (zC rfl rfl) ?_
        refine g_u (zJ rfl rfl rfl Tryz.underlying68 tS70 (by omega) (ixV hib)) ?_
        refine g_u (zT rfl rfl tA70 tS70 rfl rfl) <| g_uG (zl 1009 rfl rfl rfl tZ70) rfl <| g_u (zK rfl rfl rfl tS70 rfl rfl) <| zI <| zA <| zD <| zB <| g_u (zC rfl rfl) <| g_u (zk rfl rfl rfl tA70 tS70 rfl rfl) <| g_u (zk rfl rfl rfl tA70 tS70 rfl rfl) <| g_u (xv (hf _ (nthV_mem hi) _) rfl rfl rfl) <| g_u (wZ rfl rfl) <| zI <| zA ?_
        refine zW rfl (fun hb3 => ?_) (fun hb3 => ?_)
        · have q : ¬ nthV a i = nthV b i := fun h => by have e := hb3; rw [h, sameV_refl] at e; cases e
          refine zD <| zB <| g_u (zE rfl rfl) <| zI <| zA <| zL <| zq <| zM <| zM <| zq <| zM ?_
          exact ⟨⟨(rfl : toAV (Al.look _ _) = some _).trans (congrArg some (by (exact congrArg bv (by first | exact (sameVs_ne (fun e => q (by rw [e]))).symm | exact ((wj _ _).2 (zv v0 el (fun j hj => h2 j (by omega)))).symm)))), rfl⟩, trivial⟩
        · have ev : nthV a i = nthV b i := (wB _ _).1 (by have e := hb3; simpa using e)
          refine zY <| zX <| zA <| zB <| g_u (yG rfl rfl rfl) <| g_u (zC rfl rfl) <| zI <| zA ?_
          refine ⟨i + 1, ⟨hi, fun j hj => by rcases Nat.lt_or_ge j i with h | h; exact h2 j h; rw [show j = i by omega]; exact ev⟩, ⟨rfl, rfl, rfl, rfl, zZ rfl (by rw [ze (by omega) (by omega)]; rfl), trivial⟩, by (try dsimp only); omega⟩
      · have hin : i = a.length := by have := of_decide_eq_false hb2; (try simp only [List.length_map] at this); omega
        refine zu <| zR <| zR <| zn <| zA <| zD <| zB <| g_u (zE rfl rfl) <| zI <| zA <| zL ?_
        exact ⟨⟨(rfl : toAV (Al.look _ _) = some _).trans (congrArg some (by (exact congrArg bv (by first | exact (sameVs_ne (fun e => q (by rw [e]))).symm | exact ((wj _ _).2 (zv v0 el (fun j hj => h2 j (by omega)))).symm)))), rfl⟩, trivial⟩
set_option maxHeartbeats 1000000 in
theorem eqfA_c (a b : List GA) (fn : FuncId) (hl : a.length ≤ 1000000000) (hf : ∀ x ∈ a, ∀ y : GA, zo Tryz.prog Γ0 fn ([] ++ [x.av, y.av] ++ []) [bv (sameA x y)]) : zo Tryz.prog Γ0 129 [(.sl 7 (a.map avA)), (.sl 7 (b.map avA)), .fn (.func fn) [] []] [bv (vK a b)] := by
  refine z_ Tryz.func129 rfl Tryz.ntmps129 (by kernel_rfl) rfl fun w0 I0 G0 => ?_
  refine zD <| zB <| g_u (zE rfl rfl) <| zI <| zA <| zD <| zD <| zB <| g_u (zC rfl rfl) <| g_u (zw rfl rfl Tryz.underlying44) <| g_u (zC rfl rfl) <| g_u (zw rfl rfl Tryz.underlying44) <| g_u (wM rfl rfl rfl) <| zI <| zA ?_
  refine zW rfl (fun hb1 => ?_) (fun hb1 => ?_)
  · have q : ¬ a.length = b.length := by have e := bne_iff_ne.1 hb1; simp only [List.length_map] at e; omega
    refine zD <| zB <| g_u (zE rfl rfl) <| zI <| zA <| zL <| zM ?_
    exact ⟨⟨(rfl : toAV (Al.look _ _) = some _).trans (congrArg some (by (exact congrArg bv (by first | exact (sameAs_ne (fun e => q (by rw [e]))).symm | exact ((ya _ _).2 (zv a0 el (fun j hj => h2 j (by omega)))).symm)))), rfl⟩, trivial⟩
  · have el : a.length = b.length := by have e := qd.1 hb1; simp only [List.length_map] at e; omega
    refine zY <| zA <| zD <| zD <| zB <| g_u (zC rfl rfl) <| g_u (zw rfl rfl Tryz.underlying44) <| g_u (zC rfl rfl) <| zI <| zA <| zU ?_
    refine zp (fun i : Nat => [(1, .imm (.sl 7 (b.map avA))), (2, .imm (.fn (.func fn) [] [])), (15, .imm (.sl 7 (a.map avA))), (16, .imm (iv (a.length : Int))), (17, .imm (iv (i : Int)))]) (fun i => i ≤ a.length ∧ ∀ j, j < i → nth a j a0 = nth b j a0) (fun i => a.length - i) (0) ?_ ⟨rfl, rfl, rfl, zZ rfl (by rw [List.length_map]), rfl, trivial⟩ ?_
    · exact ⟨Nat.zero_le _, fun j h => absurd h (Nat.not_lt_zero _)⟩
    · rintro i ⟨h1, h2⟩; (try dsimp only at h1 h2)
      refine zD <| zB <| g_u (yb rfl rfl rfl) <| zI <| zA <| zD ?_
      refine zW rfl (fun hb2 => ?_) (fun hb2 => ?_)
      · have hi : i < a.length := by have := of_decide_eq_true hb2; (try simp only [List.length_map] at this); omega
        have hib : i < b.length := by omega
        refine zY <| zA <| zD <| zU <| zD <| zB <| g_u (zC rfl rfl) ?_
        refine g_u (zJ rfl rfl rfl Tryz.underlying44 tS72 (by omega) (ixA hi)) ?_
        refine g_u (zT rfl rfl tA72 tS72 rfl rfl) <| g_uG (zl 1008 rfl rfl rfl tZ72) rfl <| g_u (zE rfl rfl) <| g_u (zK rfl rfl rfl tS72 rfl rfl) <| zI <| zA <| zD <| zB <| g_u (zC rfl rfl) <| g_u (zC rfl rfl) ?_
        refine g_u (zJ rfl rfl rfl Tryz.underlying44 tS72 (by omega) (ixA hib)) ?_
        refine g_u (zT rfl rfl tA72 tS72 rfl rfl) <| g_uG (zl 1009 rfl rfl rfl tZ72) rfl <| g_u (zK rfl rfl rfl tS72 rfl rfl) <| zI <| zA <| zD <| zB <| g_u (zC rfl rfl) <| g_u (zk rfl rfl rfl tA72 tS72 rfl rfl) <| g_u (zk rfl rfl rfl tA72 tS72 rfl rfl) <| g_u (xv (hf _ (wL hi) _) rfl rfl rfl) <| g_u (wZ rfl rfl) <| zI <| zA ?_
        refine zW rfl (fun hb3 => ?_) (fun hb3 => ?_)
        · have q : ¬ nthA a i = nthA b i := fun h => by have e := hb3; rw [h, sameA_refl] at e; cases e
          refine zD <| zB <| g_u (zE rfl rfl) <| zI <| zA <| zL <| zq <| zM <| zM <| zq <| zM ?_
          exact ⟨⟨(rfl : toAV (Al.look _ _) = some _).trans (congrArg some (by (exact congrArg bv (by first | exact (sameAs_ne (fun e => q (by rw [e]))).symm | exact ((ya _ _).2 (zv a0 el (fun j hj => h2 j (by omega)))).symm)))), rfl⟩, trivial⟩
        · have ev : nthA a i = nthA b i := (sameA_iff _ _).1 (by have e := hb3; simpa using e)
          refine zY <| zX <| zA <| zB <| g_u (yG rfl rfl rfl) <| g_u (zC rfl rfl) <| zI <| zA ?_
          refine ⟨i + 1, ⟨hi, fun j hj => by rcases Nat.lt_or_ge j i with h | h; exact h2 j h; rw [show j = i by omega]; exact ev⟩, ⟨rfl, rfl, rfl, rfl, zZ rfl (by rw [ze (by omega) (by omega)]; rfl), trivial⟩, by (try dsimp only); omega⟩
      · have hin : i = a.length := by have := of_decide_eq_false hb2; (try simp only [List.length_map] at this); omega
        refine zu <| zR <| zR <| zn <| zA <| zD <| zB <| g_u (zE rfl rfl) <| zI <| zA <| zL ?_
        exact ⟨⟨(rfl : toAV (Al.look _ _) = some _).trans (congrArg some (by (exact congrArg bv (by first | exact (sameAs_ne (fun e => q (by rw [e]))).symm | exact ((ya _ _).2 (zv a0 el (fun j hj => h2 j (by omega)))).symm)))), rfl⟩, trivial⟩
theorem psameA_st (a b : GA) (ih : zo Tryz.prog Γ0 131 [a.val.av, b.val.av] [bv (sameV a.val b.val)]) : zo Tryz.prog Γ0 130 [a.av, b.av] [bv (sameA a b)] := by
  refine z_ Tryz.func130 rfl Tryz.ntmps130 (by kernel_rfl) rfl fun w0 I0 G0 => ?_
  refine zD <| zB <| g_uG (zi 1002 rfl rfl rfl rfl) rfl <| g_uG (zi 1003 rfl rfl rfl rfl) rfl <| g_u (zE rfl rfl) <| zI <| zA <| zD <| zB <| g_u (zF rfl rfl wh rfl) <| g_u (zG rfl rfl rfl tA9 tS9 rfl rfl) <| g_u (zF rfl rfl wh rfl) <| g_u (zG rfl rfl rfl tA9 tS9 rfl rfl) <| g_u (s_eqS rfl rfl rfl) <| g_u (zC rfl rfl) <| z0 (t := 10) rfl ?_
  rintro (hb1 | hb1)
  · rw [hb1]
    have ek : a.key = b.key := by have e := hb1; rw [yN] at e; exact of_decide_eq_true e
    refine zN rfl rfl (zF rfl rfl fa72_1 rfl) <| zN rfl rfl (zG rfl rfl rfl tA70 tS70 rfl rfl) <| zN rfl rfl (zF rfl rfl fa72_1 rfl) <| zN rfl rfl (zG rfl rfl rfl tA70 tS70 rfl rfl) <| zN rfl rfl (zP (ih) rfl rfl) <| g_u (zQ rfl rfl rfl) <| g_u (zE rfl rfl) <| zI <| zA <| zL ?_
    exact ⟨⟨(rfl : toAV (Al.look _ _) = some _).trans (congrArg some (by (exact congrArg bv (by first | exact (sameA_ne (fun e => q (by rw [e]))).symm | (rw [Bool.eq_iff_iff, wB, sameA_iff]; exact ⟨fun h => GA.ext' ek h, fun h => by rw [h]⟩))))), rfl⟩, trivial⟩
  · rw [hb1]
    have q : ¬ a.key = b.key := by have e := hb1; rw [yN] at e; exact of_decide_eq_false e
    refine zH rfl rfl rfl <| zH rfl rfl rfl <| zH rfl rfl rfl <| zH rfl rfl rfl <| zH rfl rfl rfl <| g_u (zh rfl rfl rfl) <| g_u (zE rfl rfl) <| zI <| zA <| zL ?_
    exact ⟨⟨(rfl : toAV (Al.look _ _) = some _).trans (congrArg some (by (exact congrArg bv (by first | exact (sameA_ne (fun e => q (by rw [e]))).symm | (rw [Bool.eq_iff_iff, wB, sameA_iff]; exact ⟨fun h => GA.ext' ek h, fun h => by rw [h]⟩))))), rfl⟩, trivial⟩
theorem psameAs_st (a b : List GA) (hl : a.length ≤ 1000000000) (ih : ∀ x ∈ a, ∀ y : GA, zo Tryz.prog Γ0 131 [x.val.av, y.val.av] [bv (sameV x.val y.val)]) : zo Tryz.prog Γ0 100 [.sl 7 (a.map avA), .sl 7 (b.map avA)] [bv (vK a b)] := by
  refine z_ Tryz.func100 rfl Tryz.ntmps100 (by kernel_rfl) rfl fun w0 I0 G0 => ?_
  refine zD <| zB <| g_u (zE rfl rfl) <| zI <| zA <| zD <| zB <| g_u (zC rfl rfl) <| g_u (zC rfl rfl) ?_
  refine g_u (zP (eqfA_c a b 130 hl (fun x hx y => psameA_st x y (ih x hx y))) rfl rfl) ?_
  refine g_u (zE rfl rfl) <| zI <| zA <| zL ?_
  exact ⟨⟨(rfl : toAV (Al.look _ _) = some _).trans (congrArg some (by rfl)), rfl⟩, trivial⟩
set_option maxHeartbeats 2000000 in
theorem psameV_st (a b : GV) (ihl : zo Tryz.prog Γ0 150 [.sl 6 (a.list.map avV), .sl 6 (b.list.map avV), .fn (.func 131) [] []] [bv (sameVs a.list b.list)]) (ihm : zo Tryz.prog Γ0 100 [.sl 7 (a.map.map avA), .sl 7 (b.map.map avA)] [bv (vK a.map b.map)]) : zo Tryz.prog Γ0 131 [a.av, b.av] [bv (sameV a b)] := by
  refine z_ Tryz.func131 rfl Tryz.ntmps131 (by kernel_rfl) rfl fun w0 I0 G0 => ?_
  refine zD <| zB <| g_uG (zi 1002 rfl rfl rfl rfl) rfl <| g_uG (zi 1003 rfl rfl rfl rfl) rfl <| g_u (zE rfl rfl) <| zI <| zA <| zD <| zD <| zB <| g_u (zF rfl rfl xf rfl) <| g_u (zG rfl rfl rfl tA5 tS5 rfl rfl) <| g_u (zF rfl rfl xf rfl) <| g_u (zG rfl rfl rfl tA5 tS5 rfl rfl) <| g_u (wM rfl rfl rfl) <| g_u (zC rfl rfl) <| z0 (t := 10) rfl ?_
  rintro (hb1 | hb1)
  · rw [hb1]
    have q : ¬ a.kind = b.kind := bne_iff_ne.1 hb1
    refine zH rfl rfl rfl <| zH rfl rfl rfl <| zH rfl rfl rfl <| zH rfl rfl rfl <| zH rfl rfl rfl <| g_u (zQ rfl rfl rfl) <| g_u (zC rfl rfl) <| zH rfl rfl rfl <| zH rfl rfl rfl <| zH rfl rfl rfl <| zH rfl rfl rfl <| zH rfl rfl rfl <| g_u (zQ rfl rfl rfl) <| g_u (zC rfl rfl) <| zH rfl rfl rfl <| zH rfl rfl rfl <| zH rfl rfl rfl <| zH rfl rfl rfl <| zH rfl rfl rfl <| g_u (zQ rfl rfl rfl) <| zI <| zA <| zg rfl <| zD <| zB <| g_u (zE rfl rfl) <| zI <| zA <| zL <| zM ?_
    exact ⟨⟨(rfl : toAV (Al.look _ _) = some _).trans (congrArg some (by (exact congrArg bv (by first | exact (wK (fun e => q (by rw [e]))).symm | exact xc e1 e2 e3 e4 e5)))), rfl⟩, trivial⟩
  · rw [hb1]
    have e1 : a.kind = b.kind := qd.1 hb1
    refine zN rfl rfl (zF rfl rfl fa70_1 rfl) <| zN rfl rfl (zG rfl rfl rfl tA9 tS9 rfl rfl) <| zN rfl rfl (zF rfl rfl fa70_1 rfl) <| zN rfl rfl (zG rfl rfl rfl tA9 tS9 rfl rfl) <| zN rfl rfl (s_neS rfl rfl rfl) <| g_u (zh rfl rfl rfl) <| g_u (zC rfl rfl) <| z0 (t := 17) rfl ?_
    rintro (hb2 | hb2)
    · rw [hb2]
      have q : ¬ a.text = b.text := by have e := hb2; rw [yN] at e; simpa using e
      refine zH rfl rfl rfl <| zH rfl rfl rfl <| zH rfl rfl rfl <| zH rfl rfl rfl <| zH rfl rfl rfl <| g_u (zQ rfl rfl rfl) <| g_u (zC rfl rfl) <| zH rfl rfl rfl <| zH rfl rfl rfl <| zH rfl rfl rfl <| zH rfl rfl rfl <| zH rfl rfl rfl <| g_u (zQ rfl rfl rfl) <| zI <| zA <| zg rfl <| zD <| zB <| g_u (zE rfl rfl) <| zI <| zA <| zL <| zM ?_
      exact ⟨⟨(rfl : toAV (Al.look _ _) = some _).trans (congrArg some (by (exact congrArg bv (by first | exact (wK (fun e => q (by rw [e]))).symm | exact xc e1 e2 e3 e4 e5)))), rfl⟩, trivial⟩
    · rw [hb2]
      have e2 : a.text = b.text := by have e := hb2; rw [yN] at e; simpa using e
      refine zN rfl rfl (zF rfl rfl fa70_2 rfl) <| zN rfl rfl (zG rfl rfl rfl tA3 tS3 rfl rfl) <| zN rfl rfl (zF rfl rfl fa70_2 rfl) <| zN rfl rfl (zG rfl rfl rfl tA3 tS3 rfl rfl) <| zN rfl rfl (wM rfl rfl rfl) <| g_u (zh rfl rfl rfl) <| g_u (zC rfl rfl) <| z0 (t := 24) rfl ?_
      rintro (hb3 | hb3)
      · rw [hb3]
        have q : ¬ a.num = b.num := bne_iff_ne.1 hb3
        refine zH rfl rfl rfl <| zH rfl rfl rfl <| zH rfl rfl rfl <| zH rfl rfl rfl <| zH rfl rfl rfl <| g_u (zQ rfl rfl rfl) <| zI <| zA <| zg rfl <| zD <| zB <| g_u (zE rfl rfl) <| zI <| zA <| zL <| zM ?_
        exact ⟨⟨(rfl : toAV (Al.look _ _) = some _).trans (congrArg some (by (exact congrArg bv (by first | exact (wK (fun e => q (by rw [e]))).symm | exact xc e1 e2 e3 e4 e5)))), rfl⟩, trivial⟩
      · rw [hb3]
        have e3 : a.num = b.num := qd.1 hb3
        refine zN rfl rfl (zF rfl rfl fa70_3 rfl) <| zN rfl rfl (zG rfl rfl rfl tA57 tS57 rfl rfl) <| zN rfl rfl (zF rfl rfl fa70_3 rfl) <| zN rfl rfl (zG rfl rfl rfl tA57 tS57 rfl rfl) <| zN rfl rfl (wM rfl rfl rfl) <| g_u (zh rfl rfl rfl) <| zI <| zA ?_
        refine zW rfl (fun hb4 => ?_) (fun hb4 => ?_)
        · have q : ¬ a.bits = b.bits := bne_iff_ne.1 hb4
          refine zD <| zB <| g_u (zE rfl rfl) <| zI <| zA <| zL <| zM ?_
          exact ⟨⟨(rfl : toAV (Al.look _ _) = some _).trans (congrArg some (by (exact congrArg bv (by first | exact (wK (fun e => q (by rw [e]))).symm | exact xc e1 e2 e3 e4 e5)))), rfl⟩, trivial⟩
        · have e4 : a.bits = b.bits := qd.1 hb4
          refine zY <| zA <| zD <| zB <| g_u (zF rfl rfl fa70_4 rfl) <| g_u (zG rfl rfl rfl tA68 tS68 rfl rfl) <| g_u (zF rfl rfl fa70_4 rfl) <| g_u (zG rfl rfl rfl tA68 tS68 rfl rfl) <| g_u (zP (ihl) rfl rfl) <| g_u (zC rfl rfl) <| z0 (t := 36) rfl ?_
          rintro (hb5 | hb5)
          · rw [hb5]
            have e5 : a.list = b.list := (wj _ _).1 hb5
            refine zN rfl rfl (zF rfl rfl fa70_5 rfl) <| zN rfl rfl (zG rfl rfl rfl tA44 tS44 rfl rfl) <| zN rfl rfl (zF rfl rfl fa70_5 rfl) <| zN rfl rfl (zG rfl rfl rfl tA44 tS44 rfl rfl) <| zN rfl rfl (zP (ihm) rfl rfl) <| g_u (zQ rfl rfl rfl) <| g_u (zE rfl rfl) <| zI <| zA <| zL ?_
            exact ⟨⟨(rfl : toAV (Al.look _ _) = some _).trans (congrArg some (by (exact congrArg bv (by first | exact (wK (fun e => q (by rw [e]))).symm | exact xc e1 e2 e3 e4 e5)))), rfl⟩, trivial⟩
          · rw [hb5]
            have q : ¬ a.list = b.list := fun h => by have e := hb5; rw [h, sameVs_refl] at e; cases e
            refine zH rfl rfl rfl <| zH rfl rfl rfl <| zH rfl rfl rfl <| zH rfl rfl rfl <| zH rfl rfl rfl <| g_u (zh rfl rfl rfl) <| g_u (zE rfl rfl) <| zI <| zA <| zL ?_
            exact ⟨⟨(rfl : toAV (Al.look _ _) = some _).trans (congrArg some (by (exact congrArg bv (by first | exact (wK (fun e => q (by rw [e]))).symm | exact xc e1 e2 e3 e4 e5)))), rfl⟩, trivial⟩
theorem psameV_c (a : GV) : a.wt ≤ 1000000000 → ∀ b : GV, zo Tryz.prog Γ0 131 [a.av, b.av] [bv (sameV a b)] := by
  refine GV.ind (P := fun a => a.wt ≤ 1000000000 → ∀ b : GV, zo Tryz.prog Γ0 131 [a.av, b.av] [bv (sameV a b)]) ?_ a
  intro a h1 h2 hw b
  have ek := a.wt_eq
  have la := yi a.map
  have lv := xR a.list
  exact psameV_st a b (eqfV_c a.list b.list 131 (by omega) fun y hy z => h1 y hy (by have := wtVs_mem hy; omega) z) (psameAs_st a.map b.map (by omega) fun x hx y => h2 x hx (by have := xa hx; have := x.wt_eq; omega) y.val)
theorem psameAs_c (a b : List GA) (hw : wtAs a ≤ 1000000000) : zo Tryz.prog Γ0 100 [.sl 7 (a.map avA), .sl 7 (b.map avA)] [bv (vK a b)] := by
  have la := yi a
  exact psameAs_st a b (by omega) fun x hx y => psameV_c x.val (by have := xa hx; have := x.wt_eq; omega) y.val
end Go.Proofs
namespace Go.Proofs
open Go Go.Al
set_option maxRecDepth 10000
end Go.Proofs
namespace Go.Proofs
open Go Go.Al
end Go.Proofs
namespace Go.Proofs
open Go Go.Al
set_option maxRecDepth 10000
end Go.Proofs
namespace Go.Proofs
open Go Go.Al
end Go.Proofs
namespace Go.Al
section
variable {P : Program} {b : Frame} {a : Act} {k : List Item} {cs : List Frame} {w : World}
end
end Go.Al
