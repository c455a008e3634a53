/- Walks of functions: each computes its pure function, if that gives a value. -/
import Derived.Test.YtfodlhkoafhplaaGreatSTy
import Derived.Test.YtfodlhkoafhplaaGreatSF6
import Derived.Test.YtfodlhkoafhplaaGreatSF11
import Derived.Test.YtfodlhkoafhplaaGreatSF7
import Derived.Test.YtfodlhkoafhplaaGreatSF12
namespace Go.Proofs.YtfodlhkoafhplaaGreat
open Go
set_option linter.unusedSimpArgs false
set_option linter.unusedVariables false
set_option maxRecDepth 100000
set_option maxHeartbeats 1000000
def g_spec_l02Is_l1 (K : Nat) (a0 : ((List Int) × (List MpT))) : Nat → Int → Option (Ex Bool (Unit))
 | 0, _ => none
 | k + 1, b0 => (if b0 < (a0.2.length : Int) then ((g_spec_l02D K (a0.1, a0.2) (rd a0.2 b0)).bind fun b3 => (if 0 < (b3.length : Int) then some (.ret false) else g_spec_l02Is_l1 K a0 k (b0 + 1))) else some (.go ()))
def g_spec_l02Is_l0 (K : Nat) (a0 : ((List Int) × (List MpT))) : Nat → Int → Option (Ex Bool (Unit))
 | 0, _ => none
 | k + 1, a1 => (if a1 < (a0.2.length : Int) then ((g_spec_l01Is K a0.1 (rd a0.2 a1)).bind fun c2 => (if c2 = true then ((g_spec_l01Degree K a0.1 (rd a0.2 a1)).bind fun a3 => (if a3.2 = true then (if 0 < ((rd a0.2 a1).length : Int) then (if a1 < (a0.1.length : Int) then (if a3.1 = (IntKind.i64.wrap ((rd a0.1 a1) + 1)) then g_spec_l02Is_l0 K a0 k (a1 + 1) else some (.ret false)) else none) else g_spec_l02Is_l0 K a0 k (a1 + 1)) else some (.ret false))) else some (.ret false))) else some (.go ()))
def g_spec_l02Is_j1 (K : Nat) (a0 : ((List Int) × (List MpT))) (b4 : Bool) : Option Bool := (if b4 = true then some false else ((g_spec_l02Is_l0 K a0 K 0).bind (Ex.elim (fun r => some r) (fun s => ((g_spec_l02Is_l1 K a0 K 0).bind (Ex.elim (fun r => some r) (fun s => some true)))))))
def g_spec_l02Is (K : Nat) (a0 : ((List Int) × (List MpT))) : Option Bool := ((g_spec_l01Degrees K a0.1).bind fun c7 => (if c7 = true then g_spec_l02Is_j1 K a0 (!decide ((a0.2.length : Int) = (a0.1.length : Int))) else g_spec_l02Is_j1 K a0 true))
theorem g_spec_l02Is_ok {K : Nat} {a0 : ((List Int) × (List MpT))} {r : Bool} (q0 : g_spec_l02Is K a0 = some r) {H : FH} {w : World} {L : OL} {s0 : Value} {s1 : Value} (a6 : RdSl (tyInt .i64) H s0 a0.1) (a7 : RdSl (tySl yT) H s1 a0.2) (hS : St H w L) :
 Calls Tryz.prog 92 #[vA ([s0] ++ [s1])] w (Done (fun v G => R.bool.p G v r) H L) := by
 have hsub := Sub.refl H
 refine calls_of_run Tryz.func92 rfl Tryz.ntmps92 rfl ?_
 unfold g_spec_l02Is at q0
 refine run_seq (run_region ?_)
 refine r_box (v := vA ([s0] ++ [s1])) ([s0] ++ [s1]).toArray rfl rfl hS rfl ?_
 intro b1 w2 hS
 refine r_assign (Value.bool false) rfl rfl (reg_nil (run_seq (run_seq ?_)))
 refine run_cut (fun f w => ∃ (b4 : Bool) (H1 : FH), g_spec_l02Is_j1 K a0 b4 = some r ∧ Sub H H1 ∧ St H1 w ([(b1, cA ([s0] ++ [s1]) 29)] ++ L) ∧ RdSl (tyInt .i64) H1 s0 a0.1 ∧ RdSl (tySl yT) H1 s1 a0.2 ∧ ev f (.tmp 1) = vP b1 ∧ ev f (.tmp 19) = Value.bool b4) ?_ ?_
 rintro fj1 v9 ⟨b4, i6, e3, hsub, hS, a6, a7, g0, d1⟩
 unfold g_spec_l02Is_j1 at e3
 by_cases e7 : b4 = true
 rw [if_pos e7] at e3
 refine run_cond_true (Eq.trans (by exact d1) (congrArg Value.bool e7)) (run_seq (run_region (r_assign (Value.bool false) rfl rfl (reg_nil ?_))))
 refine run_ret (vs := [Value.bool false]) Tryz.func92 ⟨rfl, trivial⟩ ?_
 have hz := Option.some.inj e3
 subst hz
 exact ⟨_, _, rfl, hsub, (St.dropA (A := [(b1, cA ([s0] ++ [s1]) 29)]) hS), rfl⟩
 rw [if_neg e7] at e3
 refine run_cond_false (Eq.trans (by exact d1) (congrArg Value.bool (bfalse e7))) (run_skip (run_seq (run_seq (run_region (r_assign (vI 0) rfl rfl (reg_nil (run_block ?_)))))))
 obtain ⟨g1, a5, b6⟩ := bind_some e3
 refine loop_ind (id := 0) (fun k f w => ∃ (a1 : Int) (H1 : FH), g_spec_l02Is_l0 K a0 k a1 = some g1 ∧ Sub H H1 ∧ St H1 w ([(b1, cA ([s0] ++ [s1]) 29)] ++ L) ∧ 0 ≤ a1 ∧ RdSl (tyInt .i64) H1 s0 a0.1 ∧ RdSl (tySl yT) H1 s1 a0.2 ∧ ev f (.tmp 1) = vP b1 ∧ ev f (.tmp 3) = vI a1) (fun f w => ∃ (H1 : FH), g1 = .go () ∧ Sub H H1 ∧ St H1 w ([(b1, cA ([s0] ++ [s1]) 29)] ++ L) ∧ RdSl (tyInt .i64) H1 s0 a0.1 ∧ RdSl (tySl yT) H1 s1 a0.2 ∧ ev f (.tmp 1) = vP b1) rfl ?_ ?_ K ?_ ?_
 rintro f w ⟨a1, H1, a5, _⟩
 rw [g_spec_l02Is_l0] at a5; cases a5
 rintro k a13 a14 m8 t7 ⟨a1, n4, a5, hsub, hS, t8, a6, a7, b5, b8⟩
 rw [g_spec_l02Is_l0] at a5
 refine run_seq (run_seq (run_region (r_move (vI a1) (by exact b8) rfl (r_fieldAddr fld29_1 (by exact b5) rfl ?_))))
 refine r_loadOne (s1) ty27 rfl (hS.get mL) rfl rfl ?_
 have bl5 := a7.bound
 refine r_lenRd sl27 rfl a7 rfl ?_
 refine r_lss (k := .i64) (a := a1) (b := (a0.2.length : Int)) rfl rfl rfl (reg_nil ?_)
 by_cases e8 : a1 < (a0.2.length : Int)
 rw [if_pos e8] at a5
 refine run_cond_true (Eq.trans rfl (congrArg Value.bool (decide_eq_true e8))) (run_skip (run_seq (run_block (run_seq (run_seq ?_)))))
 obtain ⟨m9, n0, a15, E62, _, n5, e4, ⟨d3, rfl, c8⟩, n6⟩ := a7.elem (i := a1) (by omega) (by omega)
 obtain ⟨c2, n7, a5⟩ := bind_some a5
 refine run_draw 9 (tabL [(27, MP.eq (vP b1)), (28, MP.eq (s0)), (29, MP.eq (Value.pointer (some ⟨b1, 1, none⟩))), (30, MP.eq (s1)), (31, MP.eq (vI a1)), (32, MP.eq (Value.pointer (some ⟨m9, n0, none⟩))), (33, MP.eq (vA ([d3]))), (34, MP.eq (Value.bool c2)), (35, MP.eq (Value.bool (!c2)))]) [] mixed rfl rfl rfl hS (hop_q rfl ?_ (hop_q rfl ?_ (hop_q rfl ?_ (hop_q rfl ?_ (hop_q rfl ?_ (hop_q rfl ?_ (hop_q rfl ?_ (hop_q rfl ?_ (hop_q rfl ?_ hop_nil))))))))) ?_
 intro f7 w8 H9 X10 a16 hS n8 a17 hcq
 refine r_fieldAddr fld29_0 (evT (n8 1 rfl) b5) rfl ?_
 exact qn (.refl _) rfl hS rfl
 intro t9 w17 H18 X19 a18 hS a19 n9 hcq
 have u0 : ev t9 (.tmp 27) = vP b1 := n9 0 27 rfl rfl
 refine r_loadOne (s0) ty22 u0 (hS.get (mR mL)) rfl rfl ?_
 exact qn (.refl _) rfl hS rfl
 intro f25 w26 H27 X28 a20 hS o0 a21 hcq
 refine r_fieldAddr fld29_1 (evT (o0 1 rfl) b5) rfl ?_
 exact qn (.refl _) rfl hS rfl
 intro u1 w35 H36 X37 a22 hS a23 o1 hcq
 have u2 : ev u1 (.tmp 29) = Value.pointer (some ⟨b1, 1, none⟩) := o1 2 29 rfl rfl
 refine r_loadOne (s1) ty27 u2 (hS.get (mR mL)) rfl rfl ?_
 exact qn (.refl _) rfl hS rfl
 intro f43 w44 H45 X46 a24 hS o2 a25 hcq
 refine r_move (vI a1) (evT (o2 3 rfl) b8) rfl ?_
 exact qn (.refl _) rfl hS rfl
 intro n1 w53 H54 X55 a26 hS a27 g2 hcq
 have u3 : ev n1 (.tmp 30) = s1 := g2 3 30 rfl rfl
 have u4 : ev n1 (.tmp 31) = vI a1 := g2 4 31 rfl rfl
 refine r_indexAt sl27 rfl u3 n5 u4 (by omega) (by omega) rfl ?_
 exact qn (.refl _) rfl hS rfl
 intro u5 w64 H65 X66 o3 hS a28 o4 hcq
 have e4 := o3.1 _ _ e4
 have u6 : ev u5 (.tmp 32) = Value.pointer (some ⟨m9, n0, none⟩) := o4 5 32 rfl rfl
 refine r_loadAgg ([d3]) ty47 u6 (hS.froz _ _ e4) rfl n6 rfl ?_
 exact qn (.refl _) rfl hS rfl
 intro n2 w73 H74 X75 g3 hS a29 g4 hcq
 have a6 := a6.mono g3
 have c8 := c8.mono g3
 have u7 : ev n2 (.tmp 28) = s0 := g4 1 28 rfl rfl
 have u8 : ev n2 (.tmp 33) = vA ([d3]) := g4 6 33 rfl rfl
 refine r_callFn Tryz.call113 (args2 u7 u8) rfl (g_spec_l01Is_ok n7 a6 c8 hS) ?_
 rintro e82 w83 ⟨_, H82, rfl, o5, hS, rfl⟩
 refine ⟨_, rfl, ?_⟩
 exact qn o5 rfl hS rfl
 intro u9 w85 H86 X87 a30 hS a31 o6 hcq
 have v0 : ev u9 (.tmp 34) = Value.bool c2 := o6 7 34 rfl rfl
 refine r_not (b := c2) v0 rfl ?_
 exact qn (.refl _) rfl hS rfl
 intro v1 v2 v3 e5 hS g5 o7 hcq
 have hS : St v3 v2 ([(b1, cA ([s0] ++ [s1]) 29)] ++ L) := hS
 have hsub := hsub.trans e5
 have a6 := a6.mono e5
 have a7 := a7.mono e5
 have g6 := evT (g5 1 rfl) b5
 have g7 := evT (g5 3 rfl) b8
 have g8 : ev v1 (.tmp 35) = Value.bool (!c2) := o7 8 35 (by decide) rfl
 refine reg_nil ?_
 by_cases c3 : c2 = true
 rw [if_pos c3] at a5
 refine run_cond_false (Eq.trans (by exact g8) (congrArg (fun b => Value.bool (!b)) c3)) (run_skip (run_seq ?_))
 obtain ⟨g9, h0, w0, a32, _, i7, d4, ⟨c9, rfl, b9⟩, i8⟩ := a7.elem (i := a1) (by omega) (by omega)
 obtain ⟨a3, i9, a5⟩ := bind_some a5
 refine run_draw 13 (tabL [(37, MP.eq (vP b1)), (38, MP.eq (s0)), (39, MP.eq (Value.pointer (some ⟨b1, 1, none⟩))), (40, MP.eq (s1)), (41, MP.eq (vI a1)), (42, MP.eq (Value.pointer (some ⟨g9, h0, none⟩))), (43, MP.eq (vA ([c9]))), (44, MP.eq (Value.tuple #[vI a3.1, Value.bool a3.2])), (36, MP.eq (Value.tuple #[vI a3.1, Value.bool a3.2])), (45, MP.eq (vI a3.1)), (46, MP.eq (Value.bool a3.2)), (4, MP.eq (vI a3.1)), (5, MP.eq (Value.bool a3.2))]) [] mixed rfl rfl rfl hS (hop_q rfl ?_ (hop_q rfl ?_ (hop_q rfl ?_ (hop_q rfl ?_ (hop_q rfl ?_ (hop_q rfl ?_ (hop_q rfl ?_ (hop_q rfl ?_ (hop_q rfl ?_ (hop_q rfl ?_ (hop_q rfl ?_ (hop_q rfl ?_ (hop_q rfl ?_ hop_nil))))))))))))) ?_
 intro a33 a34 a35 a36 w1 hS j0 w3 hcq
 refine r_fieldAddr fld29_0 (evT (j0 1 rfl) g6) rfl ?_
 exact qn (.refl _) rfl hS rfl
 intro o8 a37 a38 a39 w4 hS w5 j1 hcq
 have o9 : ev o8 (.tmp 37) = vP b1 := j1 0 37 rfl rfl
 refine r_loadOne (s0) ty22 o9 (hS.get (mR mL)) rfl rfl ?_
 exact qn (.refl _) rfl hS rfl
 intro a40 a41 a42 a43 w6 hS j2 w7 hcq
 refine r_fieldAddr fld29_1 (evT (j2 1 rfl) g6) rfl ?_
 exact qn (.refl _) rfl hS rfl
 intro p0 a44 a45 a46 w9 hS x0 j3 hcq
 have p1 : ev p0 (.tmp 39) = Value.pointer (some ⟨b1, 1, none⟩) := j3 2 39 rfl rfl
 refine r_loadOne (s1) ty27 p1 (hS.get (mR mL)) rfl rfl ?_
 exact qn (.refl _) rfl hS rfl
 intro a47 a48 a49 a50 x1 hS j4 x2 hcq
 refine r_move (vI a1) (evT (j4 3 rfl) g7) rfl ?_
 exact qn (.refl _) rfl hS rfl
 intro h1 a51 a52 a53 x3 hS x4 e9 hcq
 have p2 : ev h1 (.tmp 40) = s1 := e9 3 40 rfl rfl
 have p3 : ev h1 (.tmp 41) = vI a1 := e9 4 41 rfl rfl
 refine r_indexAt sl27 rfl p2 i7 p3 (by omega) (by omega) rfl ?_
 exact qn (.refl _) rfl hS rfl
 intro p4 a54 a55 a56 j5 hS x5 j6 hcq
 have d4 := j5.1 _ _ d4
 have p5 : ev p4 (.tmp 42) = Value.pointer (some ⟨g9, h0, none⟩) := j6 5 42 rfl rfl
 refine r_loadAgg ([c9]) ty47 p5 (hS.froz _ _ d4) rfl i8 rfl ?_
 exact qn (.refl _) rfl hS rfl
 intro h2 a57 a58 a59 f0 hS x6 f1 hcq
 have a6 := a6.mono f0
 have b9 := b9.mono f0
 have p6 : ev h2 (.tmp 38) = s0 := f1 1 38 rfl rfl
 have p7 : ev h2 (.tmp 43) = vA ([c9]) := f1 6 43 rfl rfl
 refine r_callFn Tryz.call140 (args2 p6 p7) rfl (g_spec_l01Degree_ok i9 a6 b9 hS) ?_
 rintro a60 a61 ⟨_, a62, rfl, j7, hS, ⟨v4, v5, rfl, rfl, rfl⟩⟩
 refine ⟨_, rfl, ?_⟩
 exact qn j7 rfl hS rfl
 intro p8 a63 a64 a65 x7 hS x8 j8 hcq
 have p9 : ev p8 (.tmp 44) = Value.tuple #[vI a3.1, Value.bool a3.2] := j8 7 44 rfl rfl
 refine r_move (Value.tuple #[vI a3.1, Value.bool a3.2]) p9 rfl ?_
 exact qn (.refl _) rfl hS rfl
 intro q1 a66 a67 a68 x9 hS y0 j9 hcq
 have q2 : ev q1 (.tmp 36) = Value.tuple #[vI a3.1, Value.bool a3.2] := j9 8 36 rfl rfl
 refine r_extract (vI a3.1) q2 rfl rfl ?_
 exact qn (.refl _) rfl hS rfl
 intro q3 a69 a70 a71 y1 hS y2 k0 hcq
 have q4 : ev q3 (.tmp 36) = Value.tuple #[vI a3.1, Value.bool a3.2] := k0 8 36 rfl rfl
 refine r_extract (Value.bool a3.2) q4 rfl rfl ?_
 exact qn (.refl _) rfl hS rfl
 intro q5 a72 a73 a74 y3 hS y4 k1 hcq
 have q6 : ev q5 (.tmp 45) = vI a3.1 := k1 9 45 rfl rfl
 refine r_assign (vI a3.1) q6 rfl ?_
 exact qn (.refl _) rfl hS rfl
 intro q7 a75 a76 a77 y5 hS y6 k2 hcq
 have q8 : ev q7 (.tmp 46) = Value.bool a3.2 := k2 10 46 rfl rfl
 refine r_assign (Value.bool a3.2) q8 rfl ?_
 exact qn (.refl _) rfl hS rfl
 intro h3 q9 e6 d5 hS f2 f3 hcq
 have hS : St e6 q9 ([(b1, cA ([s0] ++ [s1]) 29)] ++ L) := hS
 have hsub := hsub.trans d5
 have a6 := a6.mono d5
 have a7 := a7.mono d5
 have d6 := evT (f2 1 rfl) g6
 have d7 := evT (f2 3 rfl) g7
 have r0 : ev h3 (.tmp 4) = vI a3.1 := f3 11 4 (by decide) rfl
 have r1 : ev h3 (.tmp 5) = Value.bool a3.2 := f3 12 5 (by decide) rfl
 refine reg_nil (run_seq (run_region (r_move (Value.bool a3.2) (by exact r1) rfl (r_not (b := a3.2) rfl rfl (r_move (Value.bool (!a3.2)) rfl rfl ?_)))))
 by_cases a4 : a3.2 = true
 rw [if_pos a4] at a5
 refine reg_guard rfl rfl (Eq.trans rfl (congrArg (fun b => Value.bool (!b)) a4)) (r_fieldAddr fld29_1 (by exact d6) rfl ?_)
 refine reg_guard rfl rfl (Eq.trans rfl (congrArg (fun b => Value.bool (!b)) a4)) ?_
 refine r_loadOne (s1) ty27 rfl (hS.get mL) rfl rfl ?_
 refine reg_guard rfl rfl (Eq.trans rfl (congrArg (fun b => Value.bool (!b)) a4)) (r_move (vI a1) (by exact d7) rfl ?_)
 obtain ⟨a78, a79, y7, a80, _, k3, k4, ⟨h4, rfl, d2⟩, k5⟩ := a7.elem (i := a1) (by omega) (by omega)
 refine reg_guard rfl rfl (Eq.trans rfl (congrArg (fun b => Value.bool (!b)) a4)) ?_
 refine r_indexAt sl27 rfl rfl k3 rfl (by omega) (by omega) rfl ?_
 refine reg_guard rfl rfl (Eq.trans rfl (congrArg (fun b => Value.bool (!b)) a4)) (r_fieldAddr fld47_0 rfl rfl ?_)
 refine reg_guard rfl rfl (Eq.trans rfl (congrArg (fun b => Value.bool (!b)) a4)) ?_
 refine r_loadOne (h4) ty45 rfl (hS.froz _ _ k4) (k5 0 (show 0 < 1 by decide)) rfl ?_
 have y8 := d2.bound
 refine reg_guard rfl rfl (Eq.trans rfl (congrArg (fun b => Value.bool (!b)) a4)) ?_
 refine r_lenRd sl45 rfl d2 rfl ?_
 refine reg_guard rfl rfl (Eq.trans rfl (congrArg (fun b => Value.bool (!b)) a4)) ?_
 refine r_gtr (k := .i64) (a := ((rd a0.2 a1).length : Int)) (b := 0) rfl rfl rfl ?_
 refine reg_guard rfl rfl (Eq.trans rfl (congrArg (fun b => Value.bool (!b)) a4)) (r_move (Value.bool (decide (0 < ((rd a0.2 a1).length : Int)))) rfl rfl ?_)
 by_cases a8 : 0 < ((rd a0.2 a1).length : Int)
 rw [if_pos a8] at a5
 refine reg_guard rfl rfl (Eq.trans rfl (congrArg Value.bool (decide_eq_true a8))) (r_move (vI a3.1) (by exact r0) rfl ?_)
 refine reg_guard rfl rfl (Eq.trans rfl (congrArg Value.bool (decide_eq_true a8))) (r_fieldAddr fld29_0 (by exact d6) rfl ?_)
 refine reg_guard rfl rfl (Eq.trans rfl (congrArg Value.bool (decide_eq_true a8))) ?_
 refine r_loadOne (s0) ty22 rfl (hS.get mL) rfl rfl ?_
 refine reg_guard rfl rfl (Eq.trans rfl (congrArg Value.bool (decide_eq_true a8))) (r_move (vI a1) (by exact d7) rfl ?_)
 refine reg_guard rfl rfl (Eq.trans rfl (congrArg Value.bool (decide_eq_true a8))) ?_
 obtain ⟨y9, a5⟩ := gd a5
 obtain ⟨a81, a82, z0, a83, _, k6, k7, rfl, k8⟩ := a6.elem (i := a1) (by omega) (by omega)
 refine r_indexAt sl22 rfl rfl k6 rfl (by omega) (by omega) rfl ?_
 refine reg_guard rfl rfl (Eq.trans rfl (congrArg Value.bool (decide_eq_true a8))) ?_
 refine r_loadOne (vI (rd a0.1 a1)) ty2 rfl (hS.froz _ _ k7) (k8 0 (show 0 < 1 by decide)) rfl ?_
 refine reg_guard rfl rfl (Eq.trans rfl (congrArg Value.bool (decide_eq_true a8))) ?_
 refine r_add (IntKind.i64.wrap ((rd a0.1 a1) + 1)) rfl rfl rfl rfl ?_
 refine reg_guard rfl rfl (Eq.trans rfl (congrArg Value.bool (decide_eq_true a8))) ?_
 refine r_neq (k := .i64) (a := a3.1) (b := (IntKind.i64.wrap ((rd a0.1 a1) + 1))) rfl rfl rfl ?_
 refine reg_guard rfl rfl (Eq.trans rfl (congrArg (fun b => Value.bool (!b)) a4)) ?_
 refine r_pick (t := true) (Value.bool (!decide (a3.1 = (IntKind.i64.wrap ((rd a0.1 a1) + 1))))) (Eq.trans rfl (congrArg Value.bool (decide_eq_true a8))) ((if_pos rfl).trans rfl) rfl ?_
 refine r_pick (t := false) (Value.bool (!decide (a3.1 = (IntKind.i64.wrap ((rd a0.1 a1) + 1))))) (Eq.trans rfl (congrArg (fun b => Value.bool (!b)) a4)) ((if_neg Bool.false_ne_true).trans rfl) rfl (reg_nil ?_)
 by_cases c4 : a3.1 = (IntKind.i64.wrap ((rd a0.1 a1) + 1))
 rw [if_pos c4] at a5
 refine run_cond_false (Eq.trans rfl (congrArg (fun b => Value.bool (!b)) (decide_eq_true c4))) (run_skip (run_inBlock (run_region (r_move (vI a1) (by exact d7) rfl ?_))))
 refine r_add (a1 + 1) rfl rfl (IntWalk.i64_in _ (by omega)) rfl (r_assign (vI (a1 + 1)) rfl rfl (reg_nil ?_))
 exact m8 _ _ ⟨(a1 + 1), e6, a5, hsub, hS, (by omega), a6, a7, d6, rfl⟩
 rw [if_neg c4] at a5
 refine run_cond_true (Eq.trans rfl (congrArg (fun b => Value.bool (!b)) (decide_eq_false c4))) (run_seq (run_region (r_assign (Value.bool false) rfl rfl (reg_nil ?_))))
 refine run_ret (vs := [Value.bool false]) Tryz.func92 ⟨rfl, trivial⟩ ?_
 have hz := Option.some.inj a5
 subst hz
 dsimp only [Ex.elim] at b6
 have hz := Option.some.inj b6
 subst hz
 exact ⟨_, _, rfl, hsub, (St.dropA (A := [(b1, cA ([s0] ++ [s1]) 29)]) hS), rfl⟩
 rw [if_neg a8] at a5
 refine reg_unguard rfl rfl (Eq.trans rfl (congrArg Value.bool (decide_eq_false a8))) rfl rfl rfl (reg_unguard rfl rfl (Eq.trans rfl (congrArg Value.bool (decide_eq_false a8))) rfl rfl rfl (reg_unguard rfl rfl (Eq.trans rfl (congrArg Value.bool (decide_eq_false a8))) rfl rfl rfl (reg_unguard rfl rfl (Eq.trans rfl (congrArg Value.bool (decide_eq_false a8))) rfl rfl rfl (reg_unguard rfl rfl (Eq.trans rfl (congrArg Value.bool (decide_eq_false a8))) rfl rfl rfl (reg_unguard rfl rfl (Eq.trans rfl (congrArg Value.bool (decide_eq_false a8))) rfl rfl rfl (reg_unguard rfl rfl (Eq.trans rfl (congrArg Value.bool (decide_eq_false a8))) rfl rfl rfl (reg_unguard rfl rfl (Eq.trans rfl (congrArg Value.bool (decide_eq_false a8))) rfl rfl rfl ?_)))))))
 refine reg_guard rfl rfl (Eq.trans rfl (congrArg (fun b => Value.bool (!b)) a4)) ?_
 refine r_pick (t := false) (Value.bool false) (Eq.trans rfl (congrArg Value.bool (decide_eq_false a8))) ((if_neg Bool.false_ne_true).trans rfl) rfl ?_
 refine r_pick (t := false) (Value.bool false) (Eq.trans rfl (congrArg (fun b => Value.bool (!b)) a4)) ((if_neg Bool.false_ne_true).trans rfl) rfl (reg_nil (run_cond_false rfl (run_skip (run_inBlock (run_region (r_move (vI a1) (by exact d7) rfl ?_))))))
 refine r_add (a1 + 1) rfl rfl (IntWalk.i64_in _ (by omega)) rfl (r_assign (vI (a1 + 1)) rfl rfl (reg_nil ?_))
 exact m8 _ _ ⟨(a1 + 1), e6, a5, hsub, hS, (by omega), a6, a7, d6, rfl⟩
 rw [if_neg a4] at a5
 refine reg_unguard rfl rfl (Eq.trans rfl (congrArg (fun b => Value.bool (!b)) (bfalse a4))) rfl rfl rfl (reg_unguard rfl rfl (Eq.trans rfl (congrArg (fun b => Value.bool (!b)) (bfalse a4))) rfl rfl rfl (reg_unguard rfl rfl (Eq.trans rfl (congrArg (fun b => Value.bool (!b)) (bfalse a4))) rfl rfl rfl (reg_unguard rfl rfl (Eq.trans rfl (congrArg (fun b => Value.bool (!b)) (bfalse a4))) rfl rfl rfl (reg_unguard rfl rfl (Eq.trans rfl (congrArg (fun b => Value.bool (!b)) (bfalse a4))) rfl rfl rfl (reg_unguard rfl rfl (Eq.trans rfl (congrArg (fun b => Value.bool (!b)) (bfalse a4))) rfl rfl rfl (reg_unguard rfl rfl (Eq.trans rfl (congrArg (fun b => Value.bool (!b)) (bfalse a4))) rfl rfl rfl (reg_unguard rfl rfl (Eq.trans rfl (congrArg (fun b => Value.bool (!b)) (bfalse a4))) rfl rfl rfl (reg_unguard rfl rfl (Eq.trans rfl (congrArg (fun b => Value.bool (!b)) (bfalse a4))) rfl rfl rfl ?_))))))))
 refine reg_undef rfl rfl rfl rfl rfl ?_
 refine reg_undef rfl rfl rfl rfl rfl ?_
 refine reg_undef rfl rfl rfl rfl rfl ?_
 refine reg_undef rfl rfl rfl rfl rfl ?_
 refine reg_undef rfl rfl rfl rfl rfl ?_
 refine reg_undef rfl rfl rfl rfl rfl ?_
 refine reg_undef rfl rfl rfl rfl rfl ?_
 refine reg_undef rfl rfl rfl rfl rfl (reg_unguard rfl rfl (Eq.trans rfl (congrArg (fun b => Value.bool (!b)) (bfalse a4))) rfl rfl rfl ?_)
 refine r_pick (t := true) (Value.bool true) (Eq.trans rfl (congrArg (fun b => Value.bool (!b)) (bfalse a4))) ((if_pos rfl).trans rfl) rfl (reg_nil (run_cond_true rfl (run_seq (run_region (r_assign (Value.bool false) rfl rfl (reg_nil ?_))))))
 refine run_ret (vs := [Value.bool false]) Tryz.func92 ⟨rfl, trivial⟩ ?_
 have hz := Option.some.inj a5
 subst hz
 dsimp only [Ex.elim] at b6
 have hz := Option.some.inj b6
 subst hz
 exact ⟨_, _, rfl, hsub, (St.dropA (A := [(b1, cA ([s0] ++ [s1]) 29)]) hS), rfl⟩
 rw [if_neg c3] at a5
 refine run_cond_true (Eq.trans (by exact g8) (congrArg (fun b => Value.bool (!b)) (bfalse c3))) (run_seq (run_region (r_assign (Value.bool false) rfl rfl (reg_nil ?_))))
 refine run_ret (vs := [Value.bool false]) Tryz.func92 ⟨rfl, trivial⟩ ?_
 have hz := Option.some.inj a5
 subst hz
 dsimp only [Ex.elim] at b6
 have hz := Option.some.inj b6
 subst hz
 exact ⟨_, _, rfl, hsub, (St.dropA (A := [(b1, cA ([s0] ++ [s1]) 29)]) hS), rfl⟩
 rw [if_neg e8] at a5
 refine run_cond_false (Eq.trans rfl (congrArg Value.bool (decide_eq_false e8))) ?_
 refine run_exit rfl ?_
 have hz := Option.some.inj a5
 subst hz
 exact t7 _ _ ⟨n4, rfl, hsub, hS, a6, a7, b5⟩
 exact ⟨0, i6, a5, hsub, hS, (by omega), a6, a7, g0, rfl⟩
 rintro a84 a85 ⟨r2, rfl, hsub, hS, a6, a7, f8⟩
 dsimp only [Ex.elim] at b6
 refine run_seq (run_seq (run_region (r_assign (vI 0) rfl rfl (reg_nil (run_block ?_)))))
 obtain ⟨h5, b2, d8⟩ := bind_some b6
 refine loop_ind (id := 2) (fun k f w => ∃ (b0 : Int) (H1 : FH), g_spec_l02Is_l1 K a0 k b0 = some h5 ∧ Sub H H1 ∧ St H1 w ([(b1, cA ([s0] ++ [s1]) 29)] ++ L) ∧ 0 ≤ b0 ∧ RdSl (tyInt .i64) H1 s0 a0.1 ∧ RdSl (tySl yT) H1 s1 a0.2 ∧ ev f (.tmp 1) = vP b1 ∧ ev f (.tmp 6) = vI b0) (fun f w => ∃ (H1 : FH), h5 = .go () ∧ Sub H H1 ∧ St H1 w ([(b1, cA ([s0] ++ [s1]) 29)] ++ L) ∧ RdSl (tyInt .i64) H1 s0 a0.1 ∧ RdSl (tySl yT) H1 s1 a0.2) rfl ?_ ?_ K ?_ ?_
 rintro f w ⟨b0, H1, b2, _⟩
 rw [g_spec_l02Is_l1] at b2; cases b2
 rintro k a86 a87 v6 v7 ⟨b0, r3, b2, hsub, hS, v8, a6, a7, b7, c0⟩
 rw [g_spec_l02Is_l1] at b2
 refine run_seq (run_seq (run_region (r_move (vI b0) (by exact c0) rfl (r_fieldAddr fld29_1 (by exact b7) rfl ?_))))
 refine r_loadOne (s1) ty27 rfl (hS.get mL) rfl rfl ?_
 have z1 := a7.bound
 refine r_lenRd sl27 rfl a7 rfl ?_
 refine r_lss (k := .i64) (a := b0) (b := (a0.2.length : Int)) rfl rfl rfl (reg_nil ?_)
 by_cases c5 : b0 < (a0.2.length : Int)
 rw [if_pos c5] at b2
 refine run_cond_true (Eq.trans rfl (congrArg Value.bool (decide_eq_true c5))) (run_skip (run_seq (run_block (run_seq ?_))))
 obtain ⟨h6, h7, z2, a88, _, k9, d9, ⟨d0, rfl, c1⟩, l0⟩ := a7.elem (i := b0) (by omega) (by omega)
 obtain ⟨b3, l1, b2⟩ := bind_some b2
 refine run_draw 10 (tabL [(76, MP.eq (vA ([s0] ++ [s1]))), (77, MP.eq (Value.pointer (some ⟨b1, 1, none⟩))), (78, MP.eq (s1)), (79, MP.eq (vI b0)), (80, MP.eq (Value.pointer (some ⟨h6, h7, none⟩))), (81, MP.eq (vA ([d0]))), (82, MP.rep (R.agg (tySl yT)) (b3)), (83, MP.sl yT (b3)), (84, MP.eq (vI (b3.length : Int))), (85, MP.eq (Value.bool (decide (0 < (b3.length : Int)))))]) [] mixed rfl rfl rfl hS (hop_q rfl ?_ (hop_q rfl ?_ (hop_q rfl ?_ (hop_q rfl ?_ (hop_q rfl ?_ (hop_q rfl ?_ (hop_q rfl ?_ (hop_q rfl ?_ (hop_q rfl ?_ (hop_q rfl ?_ hop_nil)))))))))) ?_
 intro a89 a90 a91 a92 z3 hS l2 z4 hcq
 refine r_loadAll ty29 (evT (l2 1 rfl) b7) (hS.get (mR mL)) rfl rfl ?_
 exact qn (.refl _) rfl hS rfl
 intro a93 a94 a95 a96 z5 hS l3 z6 hcq
 refine r_fieldAddr fld29_1 (evT (l3 1 rfl) b7) rfl ?_
 exact qn (.refl _) rfl hS rfl
 intro r4 a97 a98 a99 z7 hS z8 l4 hcq
 have r5 : ev r4 (.tmp 77) = Value.pointer (some ⟨b1, 1, none⟩) := l4 1 77 rfl rfl
 refine r_loadOne (s1) ty27 r5 (hS.get (mR mL)) rfl rfl ?_
 exact qn (.refl _) rfl hS rfl
 intro aa0 aa1 aa2 aa3 z9 hS l5 a00 hcq
 refine r_move (vI b0) (evT (l5 6 rfl) c0) rfl ?_
 exact qn (.refl _) rfl hS rfl
 intro h8 aa4 aa5 aa6 a01 hS a02 f4 hcq
 have r6 : ev h8 (.tmp 78) = s1 := f4 2 78 rfl rfl
 have r7 : ev h8 (.tmp 79) = vI b0 := f4 3 79 rfl rfl
 refine r_indexAt sl27 rfl r6 k9 r7 (by omega) (by omega) rfl ?_
 exact qn (.refl _) rfl hS rfl
 intro r8 aa7 aa8 aa9 l6 hS a03 l7 hcq
 have d9 := l6.1 _ _ d9
 have r9 : ev r8 (.tmp 80) = Value.pointer (some ⟨h6, h7, none⟩) := l7 4 80 rfl rfl
 refine r_loadAgg ([d0]) ty47 r9 (hS.froz _ _ d9) rfl l0 rfl ?_
 exact qn (.refl _) rfl hS rfl
 intro h9 ab0 ab1 ab2 e0 hS a04 f5 hcq
 have a6 := a6.mono e0
 have a7 := a7.mono e0
 have c1 := c1.mono e0
 have s2 : ev h9 (.tmp 76) = vA ([s0] ++ [s1]) := f5 0 76 rfl rfl
 have s3 : ev h9 (.tmp 81) = vA ([d0]) := f5 5 81 rfl rfl
 refine r_callFn Tryz.call123 (args2 s2 s3) rfl (g_spec_l02D_ok l1 a6 a7 c1 hS) ?_
 rintro ab3 ab4 ⟨s4, ab5, rfl, l9, hS, m0⟩
 refine ⟨s4, rfl, ?_⟩
 exact qn l9 rfl hS m0
 intro s5 ab6 s6 ab7 a05 hS a06 m1 hcq
 obtain ⟨s7, i0⟩ : ∃ v, ev s5 (.tmp 82) = v := ⟨_, rfl⟩
 have m2 : (R.agg (tySl yT)).p s6 s7 (b3) := i0 ▸ (m1 6 82 rfl rfl)
 obtain ⟨_, rfl, ⟨i1, rfl, f9⟩⟩ := m2
 refine r_fieldOne (i1) fie47_0 i0 rfl rfl ?_
 exact qn (.refl _) rfl hS f9
 intro s8 ab8 s9 ab9 a07 hS a08 m3 hcq
 obtain ⟨t0, i2⟩ : ∃ v, ev s8 (.tmp 83) = v := ⟨_, rfl⟩
 have m4 : RdSl yT s9 t0 (b3) := i2 ▸ (m3 7 83 rfl rfl)
 refine r_lenRd sl45 i2 m4 rfl ?_
 exact qn (.refl _) rfl hS rfl
 intro t1 ac0 ac1 ac2 a09 hS a10 m5 hcq
 have t4 : ev t1 (.tmp 84) = vI (b3.length : Int) := m5 8 84 rfl rfl
 refine r_gtr (k := .i64) (a := (b3.length : Int)) (b := 0) t4 rfl rfl ?_
 exact qn (.refl _) rfl hS rfl
 intro t5 t6 i3 e1 hS f6 m6 hcq
 have hS : St i3 t6 ([(b1, cA ([s0] ++ [s1]) 29)] ++ L) := hS
 have hsub := hsub.trans e1
 have a6 := a6.mono e1
 have a7 := a7.mono e1
 have i4 : ev t5 (.tmp 85) = Value.bool (decide (0 < (b3.length : Int))) := m6 9 85 (by decide) rfl
 refine reg_nil ?_
 by_cases c6 : 0 < (b3.length : Int)
 rw [if_pos c6] at b2
 refine run_cond_true (Eq.trans (by exact i4) (congrArg Value.bool (decide_eq_true c6))) (run_seq (run_region (r_assign (Value.bool false) rfl rfl (reg_nil ?_))))
 refine run_ret (vs := [Value.bool false]) Tryz.func92 ⟨rfl, trivial⟩ ?_
 have hz := Option.some.inj b2
 subst hz
 dsimp only [Ex.elim] at d8
 have hz := Option.some.inj d8
 subst hz
 exact ⟨_, _, rfl, hsub, (St.dropA (A := [(b1, cA ([s0] ++ [s1]) 29)]) hS), rfl⟩
 rw [if_neg c6] at b2
 refine run_cond_false (Eq.trans (by exact i4) (congrArg Value.bool (decide_eq_false c6))) (run_skip (run_inBlock (run_region (r_move (vI b0) (by exact (evT (f6 6 rfl) c0)) rfl ?_))))
 refine r_add (b0 + 1) rfl rfl (IntWalk.i64_in _ (by omega)) rfl (r_assign (vI (b0 + 1)) rfl rfl (reg_nil ?_))
 exact v6 _ _ ⟨(b0 + 1), i3, b2, hsub, hS, (by omega), a6, a7, (evT (f6 1 rfl) b7), rfl⟩
 rw [if_neg c5] at b2
 refine run_cond_false (Eq.trans rfl (congrArg Value.bool (decide_eq_false c5))) ?_
 refine run_exit rfl ?_
 have hz := Option.some.inj b2
 subst hz
 exact v7 _ _ ⟨r3, rfl, hsub, hS, a6, a7⟩
 exact ⟨0, r2, b2, hsub, hS, (by omega), a6, a7, f8, rfl⟩
 rintro ac3 ac4 ⟨ac5, rfl, hsub, hS, a6, a7⟩
 dsimp only [Ex.elim] at d8
 refine run_seq (run_region (r_assign (Value.bool true) rfl rfl (reg_nil ?_)))
 refine run_ret (vs := [Value.bool true]) Tryz.func92 ⟨rfl, trivial⟩ ?_
 have hz := Option.some.inj d8
 subst hz
 exact ⟨_, _, rfl, hsub, (St.dropA (A := [(b1, cA ([s0] ++ [s1]) 29)]) hS), rfl⟩
 intro n3
 refine run_region (r_fieldAddr fld29_0 rfl rfl ?_)
 refine r_loadOne (s0) ty22 rfl (hS.get mL) rfl rfl ?_
 obtain ⟨c7, m7, q0⟩ := bind_some q0
 refine r_callFn Tryz.call178 (args1 rfl) rfl (g_spec_l01Degrees_ok m7 a6 hS) ?_
 rintro ac6 ac7 ⟨_, i5, rfl, e2, hS, rfl⟩
 refine ⟨_, rfl, ?_⟩
 have hsub := hsub.trans e2
 have a6 := a6.mono e2
 have a7 := a7.mono e2
 refine r_not (b := c7) rfl rfl (r_move (Value.bool (!c7)) rfl rfl ?_)
 by_cases a9 : c7 = true
 rw [if_pos a9] at q0
 refine reg_guard rfl rfl (Eq.trans rfl (congrArg (fun b => Value.bool (!b)) a9)) (r_fieldAddr fld29_1 rfl rfl ?_)
 refine reg_guard rfl rfl (Eq.trans rfl (congrArg (fun b => Value.bool (!b)) a9)) ?_
 refine r_loadOne (s1) ty27 rfl (hS.get mL) rfl rfl ?_
 have a11 := a7.bound
 refine reg_guard rfl rfl (Eq.trans rfl (congrArg (fun b => Value.bool (!b)) a9)) ?_
 refine r_lenRd sl27 rfl a7 rfl ?_
 refine reg_guard rfl rfl (Eq.trans rfl (congrArg (fun b => Value.bool (!b)) a9)) (r_fieldAddr fld29_0 rfl rfl ?_)
 refine reg_guard rfl rfl (Eq.trans rfl (congrArg (fun b => Value.bool (!b)) a9)) ?_
 refine r_loadOne (s0) ty22 rfl (hS.get mL) rfl rfl ?_
 have a12 := a6.bound
 refine reg_guard rfl rfl (Eq.trans rfl (congrArg (fun b => Value.bool (!b)) a9)) ?_
 refine r_lenRd sl22 rfl a6 rfl ?_
 refine reg_guard rfl rfl (Eq.trans rfl (congrArg (fun b => Value.bool (!b)) a9)) ?_
 refine r_neq (k := .i64) (a := (a0.2.length : Int)) (b := (a0.1.length : Int)) rfl rfl rfl ?_
 refine r_pick (t := false) (Value.bool (!decide ((a0.2.length : Int) = (a0.1.length : Int)))) (Eq.trans rfl (congrArg (fun b => Value.bool (!b)) a9)) ((if_neg Bool.false_ne_true).trans rfl) rfl (reg_nil ?_)
 exact n3 _ _ ⟨(!decide ((a0.2.length : Int) = (a0.1.length : Int))), i5, q0, hsub, hS, a6, a7, rfl, rfl⟩
 rw [if_neg a9] at q0
 refine reg_unguard rfl rfl (Eq.trans rfl (congrArg (fun b => Value.bool (!b)) (bfalse a9))) rfl rfl rfl (reg_unguard rfl rfl (Eq.trans rfl (congrArg (fun b => Value.bool (!b)) (bfalse a9))) rfl rfl rfl (reg_unguard rfl rfl (Eq.trans rfl (congrArg (fun b => Value.bool (!b)) (bfalse a9))) rfl rfl rfl (reg_unguard rfl rfl (Eq.trans rfl (congrArg (fun b => Value.bool (!b)) (bfalse a9))) rfl rfl rfl (reg_unguard rfl rfl (Eq.trans rfl (congrArg (fun b => Value.bool (!b)) (bfalse a9))) rfl rfl rfl (reg_unguard rfl rfl (Eq.trans rfl (congrArg (fun b => Value.bool (!b)) (bfalse a9))) rfl rfl rfl (reg_unguard rfl rfl (Eq.trans rfl (congrArg (fun b => Value.bool (!b)) (bfalse a9))) rfl rfl rfl ?_))))))
 refine r_pick (t := true) (Value.bool true) (Eq.trans rfl (congrArg (fun b => Value.bool (!b)) (bfalse a9))) ((if_pos rfl).trans rfl) rfl (reg_nil ?_)
 exact n3 _ _ ⟨true, i5, q0, hsub, hS, a6, a7, rfl, rfl⟩
def g_laws_eqFormS_l0 (K : Nat) (a0 : (List MpT)) (a1 : (List MpT)) : Nat → Int → Option (Ex Bool (Unit))
 | 0, _ => none
 | k + 1, a3 => (if a3 < (a0.length : Int) then (if a3 < (a1.length : Int) then ((g_laws_eqForm K (rd a0 a3) (rd a1 a3)).bind fun a5 => (if a5 = true then g_laws_eqFormS_l0 K a0 a1 k (a3 + 1) else some (.ret false))) else none) else some (.go ()))
def g_laws_eqFormS (K : Nat) (a0 : (List MpT)) (a1 : (List MpT)) : Option Bool := (if (a0.length : Int) = (a1.length : Int) then ((g_laws_eqFormS_l0 K a0 a1 K 0).bind (Ex.elim (fun r => some r) (fun s => some true))) else some false)
theorem g_laws_eqFormS_ok {K : Nat} {a0 : (List MpT)} {a1 : (List MpT)} {r : Bool} (q0 : g_laws_eqFormS K a0 a1 = some r) {H : FH} {w : World} {L : OL} {s0 : Value} {s1 : Value} (a7 : RdSl (tySl yT) H s0 a0) (a9 : RdSl (tySl yT) H s1 a1) (hS : St H w L) :
 Calls Tryz.prog 37 #[s0, s1] w (Done (fun v G => R.bool.p G v r) H L) := by
 have hsub := Sub.refl H
 refine calls_of_run Tryz.func37 rfl Tryz.ntmps37 rfl ?_
 unfold g_laws_eqFormS at q0
 refine run_seq (run_region (r_assign (Value.bool false) rfl rfl (reg_nil (run_seq (run_seq (run_region (r_move (s0) rfl rfl ?_)))))))
 have k3 := a7.bound
 refine r_lenRd sl27 rfl a7 rfl (r_move (s1) rfl rfl ?_)
 have k4 := a9.bound
 refine r_lenRd sl27 rfl a9 rfl ?_
 refine r_neq (k := .i64) (a := (a0.length : Int)) (b := (a1.length : Int)) rfl rfl rfl (reg_nil ?_)
 by_cases c1 : (a0.length : Int) = (a1.length : Int)
 rw [if_pos c1] at q0
 refine run_cond_false (Eq.trans rfl (congrArg (fun b => Value.bool (!b)) (decide_eq_true c1))) (run_skip (run_seq (run_seq (run_region (r_assign (vI 0) rfl rfl (reg_nil (run_block ?_)))))))
 obtain ⟨c3, a4, b4⟩ := bind_some q0
 refine loop_ind (id := 0) (fun k f w => ∃ (a3 : Int) (H1 : FH), g_laws_eqFormS_l0 K a0 a1 k a3 = some c3 ∧ Sub H H1 ∧ St H1 w (L) ∧ 0 ≤ a3 ∧ RdSl (tySl yT) H1 s0 a0 ∧ RdSl (tySl yT) H1 s1 a1 ∧ ev f (.tmp 0) = s0 ∧ ev f (.tmp 1) = s1 ∧ ev f (.tmp 5) = vI a3) (fun f w => ∃ (H1 : FH), c3 = .go () ∧ Sub H H1 ∧ St H1 w (L)) rfl ?_ ?_ K ?_ ?_
 rintro f w ⟨a3, H1, a4, _⟩
 rw [g_laws_eqFormS_l0] at a4; cases a4
 rintro k h4 h5 g1 g2 ⟨a3, e1, a4, hsub, hS, g3, a7, a9, a8, b3, a6⟩
 rw [g_laws_eqFormS_l0] at a4
 refine run_seq (run_seq (run_region (r_move (vI a3) (by exact a6) rfl (r_move (s0) (by exact a8) rfl ?_))))
 have k5 := a7.bound
 refine r_lenRd sl27 rfl a7 rfl ?_
 refine r_lss (k := .i64) (a := a3) (b := (a0.length : Int)) rfl rfl rfl (reg_nil ?_)
 by_cases c2 : a3 < (a0.length : Int)
 rw [if_pos c2] at a4
 refine run_cond_true (Eq.trans rfl (congrArg Value.bool (decide_eq_true c2))) (run_skip (run_seq (run_block (run_seq ?_))))
 obtain ⟨d4, d5, h6, k6, _, e2, b9, ⟨b5, rfl, b1⟩, e3⟩ := a7.elem (i := a3) (by omega) (by omega)
 obtain ⟨h7, a4⟩ := gd a4
 obtain ⟨d6, d7, h8, k7, _, e4, c0, ⟨b6, rfl, b2⟩, e5⟩ := a9.elem (i := a3) (by omega) (by omega)
 obtain ⟨a5, d0, a4⟩ := bind_some a4
 refine run_draw 10 (tabL [(17, MP.eq (s0)), (18, MP.eq (vI a3)), (19, MP.eq (Value.pointer (some ⟨d4, d5, none⟩))), (20, MP.eq (vA ([b5]))), (21, MP.eq (s1)), (22, MP.eq (vI a3)), (23, MP.eq (Value.pointer (some ⟨d6, d7, none⟩))), (24, MP.eq (vA ([b6]))), (25, MP.eq (Value.bool a5)), (26, MP.eq (Value.bool (!a5)))]) [] mixed rfl rfl rfl hS (hop_q rfl ?_ (hop_q rfl ?_ (hop_q rfl ?_ (hop_q rfl ?_ (hop_q rfl ?_ (hop_q rfl ?_ (hop_q rfl ?_ (hop_q rfl ?_ (hop_q rfl ?_ (hop_q rfl ?_ hop_nil)))))))))) ?_
 intro f6 w7 H8 X9 h9 hS e6 i0 hcq
 refine r_move (s0) (evT (e6 0 rfl) a8) rfl ?_
 exact qn (.refl _) rfl hS rfl
 intro k8 k9 l0 l1 i1 hS e7 i2 hcq
 refine r_move (vI a3) (evT (e7 5 rfl) a6) rfl ?_
 exact qn (.refl _) rfl hS rfl
 intro d8 l2 l3 l4 i3 hS i4 c4 hcq
 have g4 : ev d8 (.tmp 17) = s0 := c4 0 17 rfl rfl
 have g5 : ev d8 (.tmp 18) = vI a3 := c4 1 18 rfl rfl
 refine r_indexAt sl27 rfl g4 e2 g5 (by omega) (by omega) rfl ?_
 exact qn (.refl _) rfl hS rfl
 intro g6 l5 l6 l7 e8 hS i5 e9 hcq
 have b9 := e8.1 _ _ b9
 have g7 : ev g6 (.tmp 19) = Value.pointer (some ⟨d4, d5, none⟩) := e9 2 19 rfl rfl
 refine r_loadAgg ([b5]) ty47 g7 (hS.froz _ _ b9) rfl e3 rfl ?_
 exact qn (.refl _) rfl hS rfl
 intro l9 m0 m1 m2 i6 hS f0 i7 hcq
 refine r_move (s1) (evT (f0 1 rfl) b3) rfl ?_
 exact qn (.refl _) rfl hS rfl
 intro m3 m4 m5 m6 i8 hS f1 i9 hcq
 refine r_move (vI a3) (evT (f1 5 rfl) a6) rfl ?_
 exact qn (.refl _) rfl hS rfl
 intro d9 m7 m8 m9 j0 hS j1 c5 hcq
 have g8 : ev d9 (.tmp 21) = s1 := c5 4 21 rfl rfl
 have g9 : ev d9 (.tmp 22) = vI a3 := c5 5 22 rfl rfl
 refine r_indexAt sl27 rfl g8 e4 g9 (by omega) (by omega) rfl ?_
 exact qn (.refl _) rfl hS rfl
 intro h0 n0 n1 n2 f2 hS j2 f3 hcq
 have c0 := f2.1 _ _ c0
 have h1 : ev h0 (.tmp 23) = Value.pointer (some ⟨d6, d7, none⟩) := f3 6 23 rfl rfl
 refine r_loadAgg ([b6]) ty47 h1 (hS.froz _ _ c0) rfl e5 rfl ?_
 exact qn (.refl _) rfl hS rfl
 intro e0 n3 n4 n5 c6 hS j3 c7 hcq
 have b1 := b1.mono c6
 have b2 := b2.mono c6
 have f4 : ev e0 (.tmp 20) = vA ([b5]) := c7 3 20 rfl rfl
 have f5 : ev e0 (.tmp 24) = vA ([b6]) := c7 7 24 rfl rfl
 refine r_callFn Tryz.call31 (args2 f4 f5) rfl (g_laws_eqForm_ok d0 b1 b2 hS) ?_
 rintro j4 j5 ⟨_, j6, rfl, d1, hS, rfl⟩
 refine ⟨_, rfl, ?_⟩
 exact qn d1 rfl hS rfl
 intro f7 j7 j8 j9 h2 hS h3 d2 hcq
 have f8 : ev f7 (.tmp 25) = Value.bool a5 := d2 8 25 rfl rfl
 refine r_not (b := a5) f8 rfl ?_
 exact qn (.refl _) rfl hS rfl
 intro f9 g0 c8 b7 hS b8 d3 hcq
 have hS : St c8 g0 (L) := hS
 have hsub := hsub.trans b7
 have a7 := a7.mono b7
 have a9 := a9.mono b7
 have c9 : ev f9 (.tmp 26) = Value.bool (!a5) := d3 9 26 (by decide) rfl
 refine reg_nil ?_
 by_cases b0 : a5 = true
 rw [if_pos b0] at a4
 refine run_cond_false (Eq.trans (by exact c9) (congrArg (fun b => Value.bool (!b)) b0)) (run_skip (run_inBlock (run_region (r_move (vI a3) (by exact (evT (b8 5 rfl) a6)) rfl ?_))))
 refine r_add (a3 + 1) rfl rfl (IntWalk.i64_in _ (by omega)) rfl (r_assign (vI (a3 + 1)) rfl rfl (reg_nil ?_))
 exact g1 _ _ ⟨(a3 + 1), c8, a4, hsub, hS, (by omega), a7, a9, (evT (b8 0 rfl) a8), (evT (b8 1 rfl) b3), rfl⟩
 rw [if_neg b0] at a4
 refine run_cond_true (Eq.trans (by exact c9) (congrArg (fun b => Value.bool (!b)) (bfalse b0))) (run_seq (run_region (r_assign (Value.bool false) rfl rfl (reg_nil ?_))))
 refine run_ret (vs := [Value.bool false]) Tryz.func37 ⟨rfl, trivial⟩ ?_
 have hz := Option.some.inj a4
 subst hz
 dsimp only [Ex.elim] at b4
 have hz := Option.some.inj b4
 subst hz
 exact ⟨_, _, rfl, hsub, hS, rfl⟩
 rw [if_neg c2] at a4
 refine run_cond_false (Eq.trans rfl (congrArg Value.bool (decide_eq_false c2))) ?_
 refine run_exit rfl ?_
 have hz := Option.some.inj a4
 subst hz
 exact g2 _ _ ⟨e1, rfl, hsub, hS⟩
 exact ⟨0, H, a4, hsub, hS, (by omega), a7, a9, rfl, rfl, rfl⟩
 rintro k0 k1 ⟨k2, rfl, hsub, hS⟩
 dsimp only [Ex.elim] at b4
 refine run_seq (run_region (r_assign (Value.bool true) rfl rfl (reg_nil ?_)))
 refine run_ret (vs := [Value.bool true]) Tryz.func37 ⟨rfl, trivial⟩ ?_
 have hz := Option.some.inj b4
 subst hz
 exact ⟨_, _, rfl, hsub, hS, rfl⟩
 rw [if_neg c1] at q0
 refine run_cond_true (Eq.trans rfl (congrArg (fun b => Value.bool (!b)) (decide_eq_false c1))) (run_seq (run_region (r_assign (Value.bool false) rfl rfl (reg_nil ?_))))
 refine run_ret (vs := [Value.bool false]) Tryz.func37 ⟨rfl, trivial⟩ ?_
 have hz := Option.some.inj q0
 subst hz
 exact ⟨_, _, rfl, hsub, hS, rfl⟩
end Go.Proofs.YtfodlhkoafhplaaGreat
