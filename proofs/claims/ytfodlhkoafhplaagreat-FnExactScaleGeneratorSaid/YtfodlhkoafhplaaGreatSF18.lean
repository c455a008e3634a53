/- Walks of functions: each computes its pure function, if that gives a value. -/
import Derived.Test.YtfodlhkoafhplaaGreatSTy
import Derived.Test.YtfodlhkoafhplaaGreatSF10
import Derived.Test.YtfodlhkoafhplaaGreatSF9
import Derived.Test.YtfodlhkoafhplaaGreatSF8
import Derived.Test.YtfodlhkoafhplaaGreatSF17
namespace Go.Proofs.YtfodlhkoafhplaaGreat
open Go
set_option linter.unusedSimpArgs false
set_option linter.unusedVariables false
set_option maxRecDepth 100000
set_option maxHeartbeats 1000000
def g_impl_IsAlgebra_l0 (K : Nat) (a0 : ((List Int) × (List MpT))) : Nat → Int → Option (Ex Bool (Unit))
 | 0, _ => none
 | k + 1, a1 => (if a1 < (a0.2.length : Int) then ((g_impl_isForm K a0.1 (rd a0.2 a1)).bind fun a3 => (if a3 = true then (if a1 < (a0.1.length : Int) then ((g_impl_isOfDegree K a0.1 (rd a0.2 a1) (IntKind.i64.wrap ((rd a0.1 a1) + 1))).bind fun b4 => (if b4 = true then g_impl_IsAlgebra_l0 K a0 k (a1 + 1) else some (.ret false))) else none) else some (.ret false))) else some (.go ()))
def g_impl_IsAlgebra_j1 (K : Nat) (a0 : ((List Int) × (List MpT))) (b2 : Bool) : Option Bool := (if b2 = true then some false else ((g_impl_IsAlgebra_l0 K a0 K 0).bind (Ex.elim (fun r => some r) (fun s => ((g_slices_ContainsFunc_Simpl_Form_impl_Form K a0.2 (fun x => g_impl_IsAlgebra_c1 K x (a0.1, a0.2))).bind fun c2 => some (!c2))))))
def g_impl_IsAlgebra (K : Nat) (a0 : ((List Int) × (List MpT))) : Option Bool := ((g_impl_AreDegrees K a0.1).bind fun c3 => (if c3 = true then g_impl_IsAlgebra_j1 K a0 (!decide ((a0.2.length : Int) = (a0.1.length : Int))) else g_impl_IsAlgebra_j1 K a0 true))
theorem g_impl_IsAlgebra_ok {K : Nat} {a0 : ((List Int) × (List MpT))} {r : Bool} (q0 : g_impl_IsAlgebra K a0 = some r) {H : FH} {w : World} {L : OL} {s0 : Value} {s1 : Value} (a7 : RdSl (tyInt .i64) H s0 a0.1) (a8 : RdSl (tySl yT) H s1 a0.2) (hS : St H w L) :
 Calls Tryz.prog 45 #[vA ([s0] ++ [s1])] w (Done (fun v G => R.bool.p G v r) H L) := by
 have hsub := Sub.refl H
 refine calls_of_run Tryz.func45 rfl Tryz.ntmps45 rfl ?_
 unfold g_impl_IsAlgebra at q0
 refine run_seq (run_region ?_)
 refine r_box (v := vA ([s0] ++ [s1])) ([s0] ++ [s1]).toArray rfl rfl hS rfl ?_
 intro b1 w2 hS
 refine r_assign (Value.bool false) rfl rfl (reg_nil (run_seq (run_seq ?_)))
 refine run_cut (fun f w => ∃ (b2 : Bool) (H1 : FH), g_impl_IsAlgebra_j1 K a0 b2 = some r ∧ Sub H H1 ∧ St H1 w ([(b1, cA ([s0] ++ [s1]) 29)] ++ L) ∧ RdSl (tyInt .i64) H1 s0 a0.1 ∧ RdSl (tySl yT) H1 s1 a0.2 ∧ ev f (.tmp 1) = vP b1 ∧ ev f (.tmp 17) = Value.bool b2) ?_ ?_
 rintro fj1 w5 ⟨b2, i3, d6, hsub, hS, a7, a8, d7, c8⟩
 unfold g_impl_IsAlgebra_j1 at d6
 by_cases e6 : b2 = true
 rw [if_pos e6] at d6
 refine run_cond_true (Eq.trans (by exact c8) (congrArg Value.bool e6)) (run_seq (run_region (r_assign (Value.bool false) rfl rfl (reg_nil ?_))))
 refine run_ret (vs := [Value.bool false]) Tryz.func45 ⟨rfl, trivial⟩ ?_
 have hz := Option.some.inj d6
 subst hz
 exact ⟨_, _, rfl, hsub, (St.dropA (A := [(b1, cA ([s0] ++ [s1]) 29)]) hS), rfl⟩
 rw [if_neg e6] at d6
 refine run_cond_false (Eq.trans (by exact c8) (congrArg Value.bool (bfalse e6))) (run_skip (run_seq (run_seq (run_region (r_fieldAddr fld29_1 (by exact d7) rfl ?_)))))
 refine r_loadOne (s1) ty27 rfl (hS.get mL) rfl rfl ?_
 have bl5 := a8.bound
 refine r_lenRd sl27 rfl a8 rfl (r_move (vI 0) rfl rfl (reg_nil (run_block ?_)))
 obtain ⟨f7, a6, b6⟩ := bind_some d6
 refine loop_ind (id := 0) (fun k f w => ∃ (a1 : Int) (H1 : FH), g_impl_IsAlgebra_l0 K a0 k a1 = some f7 ∧ Sub H H1 ∧ St H1 w ([(b1, cA ([s0] ++ [s1]) 29)] ++ L) ∧ 0 ≤ a1 ∧ RdSl (tyInt .i64) H1 s0 a0.1 ∧ RdSl (tySl yT) H1 s1 a0.2 ∧ ev f (.tmp 1) = vP b1 ∧ ev f (.tmp 19) = s1 ∧ ev f (.tmp 20) = vI (a0.2.length : Int) ∧ ev f (.tmp 21) = vI a1) (fun f w => ∃ (H1 : FH), f7 = .go () ∧ Sub H H1 ∧ St H1 w ([(b1, cA ([s0] ++ [s1]) 29)] ++ L) ∧ RdSl (tyInt .i64) H1 s0 a0.1 ∧ RdSl (tySl yT) H1 s1 a0.2 ∧ ev f (.tmp 1) = vP b1) rfl ?_ ?_ K ?_ ?_
 rintro f w ⟨a1, H1, a6, _⟩
 rw [g_impl_IsAlgebra_l0] at a6; cases a6
 rintro k a11 a12 s7 s8 ⟨a1, l5, a6, hsub, hS, s6, a7, a8, b3, c4, c5, b5⟩
 rw [g_impl_IsAlgebra_l0] at a6
 refine run_seq (run_region ?_)
 refine r_lss (k := .i64) (a := a1) (b := (a0.2.length : Int)) (by exact b5) (by exact c5) rfl (reg_nil (run_seq ?_))
 by_cases e7 : a1 < (a0.2.length : Int)
 rw [if_pos e7] at a6
 refine run_cond_true (Eq.trans rfl (congrArg Value.bool (decide_eq_true e7))) (run_skip (run_seq (run_block (run_seq (run_region (r_move (vI a1) (by exact b5) rfl ?_))))))
 obtain ⟨b7, o7, cs7, E7, _, s9, t0, ⟨a9, rfl, b0⟩, t1⟩ := a8.elem (i := a1) (by omega) (by omega)
 refine r_indexAt sl27 rfl (by exact c4) s9 (by exact b5) (by omega) (by omega) rfl ?_
 refine r_loadAgg ([a9]) ty47 rfl (hS.froz _ _ t0) rfl t1 rfl ?_
 refine r_alloc (z := vA ([vN])) ([vN]).toArray ze47.zero rfl hS rfl ?_
 intro b8 w9 hS
 refine r_assign (vI a1) rfl rfl ?_
 refine r_storeAll (v := vA ([a9])) (vs := ([a9]).toArray) (cs := ([vN]).toArray) ty47 rfl rfl rfl hS rfl (one1 b0.isOne) rfl ?_
 intro w11 hS
 refine reg_nil (run_seq ?_)
 obtain ⟨a3, f8, a6⟩ := bind_some a6
 by_cases a4 : a3 = true
 rw [if_pos a4] at a6
 obtain ⟨w6, a6⟩ := gd a6
 obtain ⟨f9, g0, w7, a13, _, i4, d0, rfl, i5⟩ := a7.elem (i := a1) (by omega) (by omega)
 obtain ⟨b4, i6, a6⟩ := bind_some a6
 refine run_draw 18 (tabL [(26, MP.eq (vP b1)), (27, MP.eq (s0)), (28, MP.eq (vA ([a9]))), (29, MP.eq (Value.bool a3)), (30, MP.eq (Value.bool (!a3))), (31, MP.eq (Value.bool (!a3))), (32, MP.eq (vP b1)), (33, MP.eq (s0)), (34, MP.eq (vA ([a9]))), (35, MP.eq (vP b1)), (36, MP.eq (s0)), (37, MP.eq (vI a1)), (38, MP.eq (Value.pointer (some ⟨f9, g0, none⟩))), (39, MP.eq (vI (rd a0.1 a1))), (40, MP.eq (vI (IntKind.i64.wrap ((rd a0.1 a1) + 1)))), (41, MP.eq (Value.bool b4)), (42, MP.eq (Value.bool (!b4))), (43, MP.eq (Value.bool (!b4)))]) [] mixed rfl rfl rfl hS (hop_q rfl ?_ (hop_q rfl ?_ (hop_q rfl ?_ (hop_q rfl ?_ (hop_q rfl ?_ (hop_q rfl ?_ (hop_q rfl ?_ (hop_q rfl ?_ (hop_q rfl ?_ (hop_q rfl ?_ (hop_q rfl ?_ (hop_q rfl ?_ (hop_q rfl ?_ (hop_q rfl ?_ (hop_q rfl ?_ (hop_q rfl ?_ (hop_q rfl ?_ (hop_q rfl ?_ hop_nil)))))))))))))))))) ?_
 intro t4 t5 t6 t7 l6 hS d9 l7 hcq
 have g1 := evT (d9 1 rfl) b3
 refine r_fieldAddr fld29_0 g1 rfl ?_
 exact qn (.refl _) rfl hS rfl
 intro g2 t8 t9 u0 l9 hS m0 e0 hcq
 have g3 : ev g2 (.tmp 26) = vP b1 := e0 0 26 rfl rfl
 refine r_loadOne (s0) ty22 g3 (hS.get (mR (mR mL))) rfl rfl ?_
 exact qn (.refl _) rfl hS rfl
 intro g4 u1 u2 u3 m1 hS e1 m2 hcq
 have g5 : ev g4 (.tmp 4) = vP b8 := Eq.trans (e1 4 rfl) rfl
 refine r_loadAll ty47 g5 (hS.get (mR mL)) rfl rfl ?_
 exact qn (.refl _) rfl hS rfl
 intro d8 u4 u5 u6 c6 hS m3 c7 hcq
 have a7 := a7.mono c6
 have b0 := b0.mono c6
 have g6 : ev d8 (.tmp 27) = s0 := c7 1 27 rfl rfl
 have g7 : ev d8 (.tmp 28) = vA ([a9]) := c7 2 28 rfl rfl
 refine r_callFn Tryz.call125 (args2 g6 g7) rfl (g_impl_isForm_ok f8 a7 b0 hS) ?_
 rintro u7 u8 ⟨_, u9, rfl, e2, hS, rfl⟩
 refine ⟨_, rfl, ?_⟩
 exact qn e2 rfl hS rfl
 intro g8 v0 v1 v2 m4 hS m5 e3 hcq
 have g9 : ev g8 (.tmp 29) = Value.bool a3 := e3 3 29 rfl rfl
 refine r_not (b := a3) g9 rfl ?_
 exact qn (.refl _) rfl hS rfl
 intro h0 v3 v4 v5 m6 hS m7 e4 hcq
 have h1 : ev h0 (.tmp 30) = Value.bool (!a3) := e4 4 30 rfl rfl
 refine r_move (Value.bool (!a3)) h1 rfl ?_
 exact qn (.refl _) rfl hS rfl
 intro v6 w80 H81 X82 a14 hS m8 m9 hcq
 have v7 : ev v6 (.tmp 31) = Value.bool (!a3) := m9 5 31 rfl rfl
 refine reg_guard rfl rfl (Eq.trans v7 (congrArg (fun b => Value.bool (!b)) a4)) (r_fieldAddr fld29_0 (evT (m8 1 rfl) b3) rfl ?_)
 exact qn (.refl _) rfl hS rfl
 intro l2 w90 H91 X92 a15 hS a16 h2 hcq
 have v8 : ev l2 (.tmp 31) = Value.bool (!a3) := h2 5 31 rfl rfl
 have v9 : ev l2 (.tmp 32) = vP b1 := h2 6 32 rfl rfl
 refine reg_guard rfl rfl (Eq.trans v8 (congrArg (fun b => Value.bool (!b)) a4)) ?_
 refine r_loadOne (s0) ty22 v9 (hS.get (mR (mR mL))) rfl rfl ?_
 exact qn (.refl _) rfl hS rfl
 intro l3 a17 a18 a19 w8 hS i7 i8 hcq
 have n0 : ev l3 (.tmp 31) = Value.bool (!a3) := i8 5 31 rfl rfl
 have n1 : ev l3 (.tmp 4) = vP b8 := Eq.trans (i7 4 rfl) rfl
 refine reg_guard rfl rfl (Eq.trans n0 (congrArg (fun b => Value.bool (!b)) a4)) ?_
 refine r_loadAll ty47 n1 (hS.get (mR mL)) rfl rfl ?_
 exact qn (.refl _) rfl hS rfl
 intro n2 a20 a21 a22 x0 hS i9 j0 hcq
 have n3 : ev n2 (.tmp 31) = Value.bool (!a3) := j0 5 31 rfl rfl
 refine reg_guard rfl rfl (Eq.trans n3 (congrArg (fun b => Value.bool (!b)) a4)) (r_fieldAddr fld29_0 (evT (i9 1 rfl) b3) rfl ?_)
 exact qn (.refl _) rfl hS rfl
 intro h3 a23 a24 a25 x1 hS x2 e8 hcq
 have n4 : ev h3 (.tmp 31) = Value.bool (!a3) := e8 5 31 rfl rfl
 have n5 : ev h3 (.tmp 35) = vP b1 := e8 9 35 rfl rfl
 refine reg_guard rfl rfl (Eq.trans n4 (congrArg (fun b => Value.bool (!b)) a4)) ?_
 refine r_loadOne (s0) ty22 n5 (hS.get (mR (mR mL))) rfl rfl ?_
 exact qn (.refl _) rfl hS rfl
 intro h4 a26 a27 a28 x3 hS j1 j2 hcq
 have n6 : ev h4 (.tmp 31) = Value.bool (!a3) := j2 5 31 rfl rfl
 have n7 : ev h4 (.tmp 3) = vI a1 := Eq.trans (j1 3 rfl) rfl
 refine reg_guard rfl rfl (Eq.trans n6 (congrArg (fun b => Value.bool (!b)) a4)) (r_move (vI a1) n7 rfl ?_)
 exact qn (.refl _) rfl hS rfl
 intro e5 a29 a30 a31 x4 hS x5 d1 hcq
 have n8 : ev e5 (.tmp 31) = Value.bool (!a3) := d1 5 31 rfl rfl
 have n9 : ev e5 (.tmp 36) = s0 := d1 10 36 rfl rfl
 have o0 : ev e5 (.tmp 37) = vI a1 := d1 11 37 rfl rfl
 refine reg_guard rfl rfl (Eq.trans n8 (congrArg (fun b => Value.bool (!b)) a4)) ?_
 refine r_indexAt sl22 rfl n9 i4 o0 (by omega) (by omega) rfl ?_
 exact qn (.refl _) rfl hS rfl
 intro h5 a32 a33 a34 j3 hS x6 e9 hcq
 have d0 := j3.1 _ _ d0
 have o1 : ev h5 (.tmp 31) = Value.bool (!a3) := e9 5 31 rfl rfl
 have o2 : ev h5 (.tmp 38) = Value.pointer (some ⟨f9, g0, none⟩) := e9 12 38 rfl rfl
 refine reg_guard rfl rfl (Eq.trans o1 (congrArg (fun b => Value.bool (!b)) a4)) ?_
 refine r_loadOne (vI (rd a0.1 a1)) ty2 o2 (hS.froz _ _ d0) (i5 0 (show 0 < 1 by decide)) rfl ?_
 exact qn (.refl _) rfl hS rfl
 intro h6 a35 a36 a37 x7 hS x8 f0 hcq
 have o3 : ev h6 (.tmp 31) = Value.bool (!a3) := f0 5 31 rfl rfl
 have o4 : ev h6 (.tmp 39) = vI (rd a0.1 a1) := f0 13 39 rfl rfl
 refine reg_guard rfl rfl (Eq.trans o3 (congrArg (fun b => Value.bool (!b)) a4)) ?_
 refine r_add (IntKind.i64.wrap ((rd a0.1 a1) + 1)) o4 rfl rfl rfl ?_
 exact qn (.refl _) rfl hS rfl
 intro d2 a38 a39 a40 f1 hS x9 b9 hcq
 have a7 := a7.mono f1
 have b0 := b0.mono f1
 have o5 : ev d2 (.tmp 31) = Value.bool (!a3) := b9 5 31 rfl rfl
 have o6 : ev d2 (.tmp 33) = s0 := b9 7 33 rfl rfl
 have o8 : ev d2 (.tmp 34) = vA ([a9]) := b9 8 34 rfl rfl
 have o9 : ev d2 (.tmp 40) = vI (IntKind.i64.wrap ((rd a0.1 a1) + 1)) := b9 14 40 rfl rfl
 refine reg_guard rfl rfl (Eq.trans o5 (congrArg (fun b => Value.bool (!b)) a4)) ?_
 refine r_callFn Tryz.call126 (args3 o6 o8 o9) rfl (g_impl_isOfDegree_ok i6 a7 b0 hS) ?_
 rintro a41 a42 ⟨_, a43, rfl, j4, hS, rfl⟩
 refine ⟨_, rfl, ?_⟩
 exact qn j4 rfl hS rfl
 intro h7 a44 a45 a46 y0 hS y1 f2 hcq
 have p0 : ev h7 (.tmp 31) = Value.bool (!a3) := f2 5 31 rfl rfl
 have p1 : ev h7 (.tmp 41) = Value.bool b4 := f2 15 41 rfl rfl
 refine reg_guard rfl rfl (Eq.trans p0 (congrArg (fun b => Value.bool (!b)) a4)) (r_not (b := b4) p1 rfl ?_)
 exact qn (.refl _) rfl hS rfl
 intro h8 a47 a48 a49 y2 hS y3 f3 hcq
 have p2 : ev h8 (.tmp 31) = Value.bool (!a3) := f3 5 31 rfl rfl
 have p3 : ev h8 (.tmp 42) = Value.bool (!b4) := f3 16 42 rfl rfl
 refine r_pick (t := false) (Value.bool (!b4)) (Eq.trans p2 (congrArg (fun b => Value.bool (!b)) a4)) ((if_neg Bool.false_ne_true).trans p3) rfl ?_
 exact qn (.refl _) rfl hS rfl
 intro p4 p5 h9 d3 hS c0 j5 hcq
 have hS : St h9 p5 ([(b8, cA ([a9]) 47)] ++ ([(b1, cA ([s0] ++ [s1]) 29)] ++ L)) := hS
 have hsub := hsub.trans d3
 have a8 := a8.mono d3
 have a7 := a7.mono d3
 have i0 : ev p4 (.tmp 43) = Value.bool (!b4) := j5 17 43 (by decide) rfl
 refine reg_nil ?_
 by_cases c1 : b4 = true
 rw [if_pos c1] at a6
 refine run_cond_false (Eq.trans (by exact i0) (congrArg (fun b => Value.bool (!b)) c1)) (run_skip (run_inBlock (run_region ?_)))
 refine r_add (a1 + 1) (by exact (evT (c0 21 rfl) b5)) rfl (IntWalk.i64_in _ (by omega)) rfl (r_move (vI (a1 + 1)) rfl rfl (reg_nil ?_))
 have hS := St.dropA (A := [(b8, cA ([a9]) 47)]) hS
 exact s7 _ _ ⟨(a1 + 1), h9, a6, hsub, hS, (by omega), a7, a8, (evT (c0 1 rfl) b3), (evT (c0 19 rfl) c4), (evT (c0 20 rfl) c5), rfl⟩
 rw [if_neg c1] at a6
 refine run_cond_true (Eq.trans (by exact i0) (congrArg (fun b => Value.bool (!b)) (bfalse c1))) (run_seq (run_region (r_assign (Value.bool false) rfl rfl (reg_nil ?_))))
 refine run_ret (vs := [Value.bool false]) Tryz.func45 ⟨rfl, trivial⟩ ?_
 have hz := Option.some.inj a6
 subst hz
 dsimp only [Ex.elim] at b6
 have hz := Option.some.inj b6
 subst hz
 exact ⟨_, _, rfl, hsub, (St.dropA (A := [(b1, cA ([s0] ++ [s1]) 29)]) (St.dropA (A := [(b8, cA ([a9]) 47)]) hS)), rfl⟩
 rw [if_neg a4] at a6
 refine run_draw 18 (tabL [(26, MP.eq (vP b1)), (27, MP.eq (s0)), (28, MP.eq (vA ([a9]))), (29, MP.eq (Value.bool a3)), (30, MP.eq (Value.bool (!a3))), (31, MP.eq (Value.bool (!a3))), (32, MP.eq (undef)), (33, MP.eq (undef)), (34, MP.eq (undef)), (35, MP.eq (undef)), (36, MP.eq (undef)), (37, MP.eq (undef)), (38, MP.eq (undef)), (39, MP.eq (undef)), (40, MP.eq (undef)), (41, MP.eq (undef)), (42, MP.eq (undef)), (43, MP.eq (Value.bool true))]) [] mixed rfl rfl rfl hS (hop_q rfl ?_ (hop_q rfl ?_ (hop_q rfl ?_ (hop_q rfl ?_ (hop_q rfl ?_ (hop_q rfl ?_ (hop_q rfl ?_ (hop_q rfl ?_ (hop_q rfl ?_ (hop_q rfl ?_ (hop_q rfl ?_ (hop_q rfl ?_ (hop_q rfl ?_ (hop_q rfl ?_ (hop_q rfl ?_ (hop_q rfl ?_ (hop_q rfl ?_ (hop_q rfl ?_ hop_nil)))))))))))))))))) ?_
 intro t4 t5 t6 t7 l6 hS d9 l7 hcq
 have g1 := evT (d9 1 rfl) b3
 refine r_fieldAddr fld29_0 g1 rfl ?_
 exact qn (.refl _) rfl hS rfl
 intro g2 t8 t9 u0 l9 hS m0 e0 hcq
 have g3 : ev g2 (.tmp 26) = vP b1 := e0 0 26 rfl rfl
 refine r_loadOne (s0) ty22 g3 (hS.get (mR (mR mL))) rfl rfl ?_
 exact qn (.refl _) rfl hS rfl
 intro g4 u1 u2 u3 m1 hS e1 m2 hcq
 have g5 : ev g4 (.tmp 4) = vP b8 := Eq.trans (e1 4 rfl) rfl
 refine r_loadAll ty47 g5 (hS.get (mR mL)) rfl rfl ?_
 exact qn (.refl _) rfl hS rfl
 intro d8 u4 u5 u6 c6 hS m3 c7 hcq
 have a7 := a7.mono c6
 have b0 := b0.mono c6
 have g6 : ev d8 (.tmp 27) = s0 := c7 1 27 rfl rfl
 have g7 : ev d8 (.tmp 28) = vA ([a9]) := c7 2 28 rfl rfl
 refine r_callFn Tryz.call125 (args2 g6 g7) rfl (g_impl_isForm_ok f8 a7 b0 hS) ?_
 rintro u7 u8 ⟨_, u9, rfl, e2, hS, rfl⟩
 refine ⟨_, rfl, ?_⟩
 exact qn e2 rfl hS rfl
 intro g8 v0 v1 v2 m4 hS m5 e3 hcq
 have g9 : ev g8 (.tmp 29) = Value.bool a3 := e3 3 29 rfl rfl
 refine r_not (b := a3) g9 rfl ?_
 exact qn (.refl _) rfl hS rfl
 intro h0 v3 v4 v5 m6 hS m7 e4 hcq
 have h1 : ev h0 (.tmp 30) = Value.bool (!a3) := e4 4 30 rfl rfl
 refine r_move (Value.bool (!a3)) h1 rfl ?_
 exact qn (.refl _) rfl hS rfl
 intro p6 a50 a51 a52 y4 hS y5 j6 hcq
 have p7 : ev p6 (.tmp 31) = Value.bool (!a3) := j6 5 31 rfl rfl
 refine reg_unguard rfl rfl (Eq.trans p7 (congrArg (fun b => Value.bool (!b)) (bfalse a4))) rfl rfl rfl ?_
 exact qn (.refl _) rfl hS rfl
 intro p8 a53 a54 a55 y6 hS y7 j7 hcq
 have p9 : ev p8 (.tmp 31) = Value.bool (!a3) := j7 5 31 rfl rfl
 refine reg_unguard rfl rfl (Eq.trans p9 (congrArg (fun b => Value.bool (!b)) (bfalse a4))) rfl rfl rfl ?_
 exact qn (.refl _) rfl hS rfl
 intro q1 a56 a57 a58 y8 hS y9 j8 hcq
 have q2 : ev q1 (.tmp 31) = Value.bool (!a3) := j8 5 31 rfl rfl
 refine reg_unguard rfl rfl (Eq.trans q2 (congrArg (fun b => Value.bool (!b)) (bfalse a4))) rfl rfl rfl ?_
 exact qn (.refl _) rfl hS rfl
 intro q3 a59 a60 a61 z0 hS z1 j9 hcq
 have q4 : ev q3 (.tmp 31) = Value.bool (!a3) := j9 5 31 rfl rfl
 refine reg_unguard rfl rfl (Eq.trans q4 (congrArg (fun b => Value.bool (!b)) (bfalse a4))) rfl rfl rfl ?_
 exact qn (.refl _) rfl hS rfl
 intro q5 a62 a63 a64 z2 hS z3 k0 hcq
 have q6 : ev q5 (.tmp 31) = Value.bool (!a3) := k0 5 31 rfl rfl
 refine reg_unguard rfl rfl (Eq.trans q6 (congrArg (fun b => Value.bool (!b)) (bfalse a4))) rfl rfl rfl ?_
 exact qn (.refl _) rfl hS rfl
 intro q7 a65 a66 a67 z4 hS z5 k1 hcq
 have q8 : ev q7 (.tmp 31) = Value.bool (!a3) := k1 5 31 rfl rfl
 refine reg_unguard rfl rfl (Eq.trans q8 (congrArg (fun b => Value.bool (!b)) (bfalse a4))) rfl rfl rfl ?_
 exact qn (.refl _) rfl hS rfl
 intro q9 a68 a69 a70 z6 hS z7 k2 hcq
 have r0 : ev q9 (.tmp 31) = Value.bool (!a3) := k2 5 31 rfl rfl
 refine reg_unguard rfl rfl (Eq.trans r0 (congrArg (fun b => Value.bool (!b)) (bfalse a4))) rfl rfl rfl ?_
 exact qn (.refl _) rfl hS rfl
 intro r1 a71 a72 a73 z8 hS z9 k3 hcq
 have r2 : ev r1 (.tmp 31) = Value.bool (!a3) := k3 5 31 rfl rfl
 refine reg_unguard rfl rfl (Eq.trans r2 (congrArg (fun b => Value.bool (!b)) (bfalse a4))) rfl rfl rfl ?_
 exact qn (.refl _) rfl hS rfl
 intro r3 a74 a75 a76 a00 hS a01 k4 hcq
 have r4 : ev r3 (.tmp 31) = Value.bool (!a3) := k4 5 31 rfl rfl
 refine reg_unguard rfl rfl (Eq.trans r4 (congrArg (fun b => Value.bool (!b)) (bfalse a4))) rfl rfl rfl ?_
 exact qn (.refl _) rfl hS rfl
 intro r5 a77 a78 a79 a02 hS a03 k5 hcq
 have r6 : ev r5 (.tmp 31) = Value.bool (!a3) := k5 5 31 rfl rfl
 refine reg_unguard rfl rfl (Eq.trans r6 (congrArg (fun b => Value.bool (!b)) (bfalse a4))) rfl rfl rfl ?_
 exact qn (.refl _) rfl hS rfl
 intro r7 a80 a81 a82 a04 hS a05 k6 hcq
 have r8 : ev r7 (.tmp 31) = Value.bool (!a3) := k6 5 31 rfl rfl
 refine reg_unguard rfl rfl (Eq.trans r8 (congrArg (fun b => Value.bool (!b)) (bfalse a4))) rfl rfl rfl ?_
 exact qn (.refl _) rfl hS rfl
 intro i1 a83 a84 a85 a06 hS a07 f4 hcq
 have r9 : ev i1 (.tmp 31) = Value.bool (!a3) := f4 5 31 rfl rfl
 have a86 : ev i1 (.tmp 42) = undef := f4 16 42 rfl rfl
 refine r_pick (t := true) (Value.bool true) (Eq.trans r9 (congrArg (fun b => Value.bool (!b)) (bfalse a4))) ((if_pos rfl).trans rfl) rfl ?_
 exact qn (.refl _) rfl hS rfl
 intro s2 s3 s4 k7 hS a08 k8 hcq
 have hS : St s4 s3 ([(b8, cA ([a9]) 47)] ++ ([(b1, cA ([s0] ++ [s1]) 29)] ++ L)) := hS
 have hsub := hsub.trans k7
 have s5 : ev s2 (.tmp 43) = Value.bool true := k8 17 43 (by decide) rfl
 refine reg_nil (run_cond_true (by exact s5) (run_seq (run_region (r_assign (Value.bool false) rfl rfl (reg_nil ?_)))))
 refine run_ret (vs := [Value.bool false]) Tryz.func45 ⟨rfl, trivial⟩ ?_
 have hz := Option.some.inj a6
 subst hz
 dsimp only [Ex.elim] at b6
 have hz := Option.some.inj b6
 subst hz
 exact ⟨_, _, rfl, hsub, (St.dropA (A := [(b1, cA ([s0] ++ [s1]) 29)]) (St.dropA (A := [(b8, cA ([a9]) 47)]) hS)), rfl⟩
 rw [if_neg e7] at a6
 refine run_cond_false (Eq.trans rfl (congrArg Value.bool (decide_eq_false e7))) ?_
 refine run_exit rfl ?_
 have hz := Option.some.inj a6
 subst hz
 exact s8 _ _ ⟨l5, rfl, hsub, hS, a7, a8, b3⟩
 exact ⟨0, i3, a6, hsub, hS, (by omega), a7, a8, d7, rfl, rfl, rfl⟩
 rintro a87 a88 ⟨a89, rfl, hsub, hS, a7, a8, c9⟩
 dsimp only [Ex.elim] at b6
 refine run_seq ?_
 obtain ⟨a90, d4, hS, f5⟩ := St.freezeBox hS
 have hsub := hsub.trans d4
 have a7 := a7.mono d4
 have a8 := a8.mono d4
 refine run_region (r_fieldAddr fld29_1 (by exact c9) rfl ?_)
 refine r_loadOne (s1) ty27 rfl (hS.froz _ _ f5) ((frozAll ([s0] ++ [s1]) 2) 1 (show 1 < 2 by decide)) rfl ?_
 refine r_makeFunc1 (by exact c9) rfl ?_
 obtain ⟨c2, k9, b6⟩ := bind_some b6
 refine r_callFn Tryz.call127 (args2 rfl rfl) rfl (g_slices_ContainsFunc_Simpl_Form_impl_Form_ok k9 a8 ⟨128, #[vP b1], rfl, Tryz.call128, fun H2 w2 L2 v x b w0 w1 hv w3 => by obtain ⟨_, rfl, ⟨w4, rfl, f6⟩⟩ := hv; exact g_impl_IsAlgebra_c1_ok w3 f6 (PtrF.mono w0 ⟨_, _, _, _, _, rfl, f5, ⟨_, _, rfl, ⟨_, rfl, a7⟩, ⟨_, rfl, a8⟩⟩, (frozAll ([s0] ++ [s1]) 2)⟩) w1⟩ hS) ?_
 rintro a91 a92 ⟨_, a93, rfl, l0, hS, rfl⟩
 refine ⟨_, rfl, ?_⟩
 have hsub := hsub.trans l0
 refine r_not (b := c2) rfl rfl (r_assign (Value.bool (!c2)) rfl rfl (reg_nil ?_))
 refine run_ret (vs := [Value.bool (!c2)]) Tryz.func45 ⟨rfl, trivial⟩ ?_
 have hz := Option.some.inj b6
 subst hz
 exact ⟨_, _, rfl, hsub, hS, rfl⟩
 intro l4
 refine run_region (r_fieldAddr fld29_0 rfl rfl ?_)
 refine r_loadOne (s0) ty22 rfl (hS.get mL) rfl rfl ?_
 obtain ⟨c3, l1, q0⟩ := bind_some q0
 refine r_callFn Tryz.call124 (args1 rfl) rfl (g_impl_AreDegrees_ok l1 a7 hS) ?_
 rintro a94 a95 ⟨_, i2, rfl, d5, hS, rfl⟩
 refine ⟨_, rfl, ?_⟩
 have hsub := hsub.trans d5
 have a7 := a7.mono d5
 have a8 := a8.mono d5
 refine r_not (b := c3) rfl rfl (r_move (Value.bool (!c3)) rfl rfl ?_)
 by_cases a5 : c3 = true
 rw [if_pos a5] at q0
 refine reg_guard rfl rfl (Eq.trans rfl (congrArg (fun b => Value.bool (!b)) a5)) (r_fieldAddr fld29_1 rfl rfl ?_)
 refine reg_guard rfl rfl (Eq.trans rfl (congrArg (fun b => Value.bool (!b)) a5)) ?_
 refine r_loadOne (s1) ty27 rfl (hS.get mL) rfl rfl ?_
 have a09 := a8.bound
 refine reg_guard rfl rfl (Eq.trans rfl (congrArg (fun b => Value.bool (!b)) a5)) ?_
 refine r_lenRd sl27 rfl a8 rfl ?_
 refine reg_guard rfl rfl (Eq.trans rfl (congrArg (fun b => Value.bool (!b)) a5)) (r_fieldAddr fld29_0 rfl rfl ?_)
 refine reg_guard rfl rfl (Eq.trans rfl (congrArg (fun b => Value.bool (!b)) a5)) ?_
 refine r_loadOne (s0) ty22 rfl (hS.get mL) rfl rfl ?_
 have a10 := a7.bound
 refine reg_guard rfl rfl (Eq.trans rfl (congrArg (fun b => Value.bool (!b)) a5)) ?_
 refine r_lenRd sl22 rfl a7 rfl ?_
 refine reg_guard rfl rfl (Eq.trans rfl (congrArg (fun b => Value.bool (!b)) a5)) ?_
 refine r_neq (k := .i64) (a := (a0.2.length : Int)) (b := (a0.1.length : Int)) rfl rfl rfl ?_
 refine r_pick (t := false) (Value.bool (!decide ((a0.2.length : Int) = (a0.1.length : Int)))) (Eq.trans rfl (congrArg (fun b => Value.bool (!b)) a5)) ((if_neg Bool.false_ne_true).trans rfl) rfl (reg_nil ?_)
 exact l4 _ _ ⟨(!decide ((a0.2.length : Int) = (a0.1.length : Int))), i2, q0, hsub, hS, a7, a8, rfl, rfl⟩
 rw [if_neg a5] at q0
 refine reg_unguard rfl rfl (Eq.trans rfl (congrArg (fun b => Value.bool (!b)) (bfalse a5))) rfl rfl rfl (reg_unguard rfl rfl (Eq.trans rfl (congrArg (fun b => Value.bool (!b)) (bfalse a5))) rfl rfl rfl (reg_unguard rfl rfl (Eq.trans rfl (congrArg (fun b => Value.bool (!b)) (bfalse a5))) rfl rfl rfl (reg_unguard rfl rfl (Eq.trans rfl (congrArg (fun b => Value.bool (!b)) (bfalse a5))) rfl rfl rfl (reg_unguard rfl rfl (Eq.trans rfl (congrArg (fun b => Value.bool (!b)) (bfalse a5))) rfl rfl rfl (reg_unguard rfl rfl (Eq.trans rfl (congrArg (fun b => Value.bool (!b)) (bfalse a5))) rfl rfl rfl (reg_unguard rfl rfl (Eq.trans rfl (congrArg (fun b => Value.bool (!b)) (bfalse a5))) rfl rfl rfl ?_))))))
 refine r_pick (t := true) (Value.bool true) (Eq.trans rfl (congrArg (fun b => Value.bool (!b)) (bfalse a5))) ((if_pos rfl).trans rfl) rfl (reg_nil ?_)
 exact l4 _ _ ⟨true, i2, q0, hsub, hS, a7, a8, rfl, rfl⟩
def g_impl_substitute (K : Nat) (a0 : (List Int)) (a1 : MpT) (a2 : (List MpT)) : Option MpT := ((g_impl_leader_lead K (a0, a0, a2) a1).bind fun b0 => some b0)
theorem g_impl_substitute_ok {K : Nat} {a0 : (List Int)} {a1 : MpT} {a2 : (List MpT)} {r : MpT} (q0 : g_impl_substitute K a0 a1 a2 = some r) {H : FH} {w : World} {L : OL} {s0 : Value} {s1 : Value} {s2 : Value} (a3 : RdSl (tyInt .i64) H s0 a0) (a7 : RdMp .i64 H s1 a1) (a6 : RdSl (tyMp .i64) H s2 a2) (hS : St H w L) :
 Calls Tryz.prog 238 #[s0, s1, s2] w (DoneM .i64 r H L) := by
 have hsub := Sub.refl H
 refine calls_of_run Tryz.func238 rfl Tryz.ntmps238 rfl ?_
 unfold g_impl_substitute at q0
 refine run_seq (run_region (r_assign (Value.map none) rfl rfl (reg_nil (run_seq (run_region (r_move (s0) rfl rfl (r_move (s0) rfl rfl (r_move (s2) rfl rfl ?_))))))))
 refine r_makeMap0 hS rfl ?_
 intro a4 w2 hS
 refine r_build ([s0] ++ ([s0] ++ ([s2] ++ [(Value.map (some a4))]))) bu214 (parts4 rfl rfl rfl rfl) (fill_cons rfl a3.cellsL rfl (Nat.le_of_ble_eq_true rfl) (fill_cons rfl a3.cellsL rfl (Nat.le_of_ble_eq_true rfl) (fill_cons rfl a6.cellsL rfl (Nat.le_of_ble_eq_true rfl) (fill_cons rfl rfl rfl (Nat.le_of_ble_eq_true rfl) (fill_nil rfl))))) rfl ?_
 refine r_box (v := vA ([s0] ++ ([s0] ++ ([s2] ++ [(Value.map (some a4))])))) ([s0] ++ ([s0] ++ ([s2] ++ [(Value.map (some a4))]))).toArray rfl rfl hS rfl ?_
 intro b4 w5 hS
 refine r_assign (vP b4) rfl rfl (reg_nil (run_seq (run_region (r_move (vP b4) rfl rfl (r_move (s1) rfl rfl ?_)))))
 have hS : St H w5 ([(a4, .map #[] 0)] ++ ([(b4, cA ([s0] ++ ([s0] ++ ([s2] ++ [(Value.map (some a4))]))) 214)] ++ L)) := hS.perm (perm1 (A1 := [(b4, cA ([s0] ++ ([s0] ++ ([s2] ++ [(Value.map (some a4))]))) 214)]))
 obtain ⟨H7, a8, hS, a9⟩ := St.toMemo hS K (a0, a0, a2)
 have hsub := hsub.trans a8
 have a7 := a7.mono a8
 have a3 := a3.mono a8
 have a6 := a6.mono a8
 obtain ⟨b7, a5, hS, b2⟩ := St.freezeBox hS
 have hsub := hsub.trans a5
 have a7 := a7.mono a5
 have a3 := a3.mono a5
 have a6 := a6.mono a5
 have a9 := a9.mono a5
 obtain ⟨b0, b3, q0⟩ := bind_some q0
 refine r_callFn Tryz.call117 (args2 rfl rfl) rfl (g_impl_leader_lead_ok b3 ⟨_, _, _, _, _, rfl, b2, ⟨_, _, _, _, rfl, a3, a3, a6, a9⟩, (frozAll ([s0] ++ ([s0] ++ ([s2] ++ [(Value.map (some a4))]))) 4)⟩ a7 hS) ?_
 rintro b8 b9 ⟨b1, c0, c1, rfl, b5, hS, b6⟩
 refine ⟨_, rfl, ?_⟩
 have hsub := hsub.trans b5
 refine r_assign (b1) rfl rfl (reg_nil ?_)
 refine run_ret (vs := [b1]) Tryz.func238 ⟨rfl, trivial⟩ ?_
 have hz := Option.some.inj q0
 subst hz
 exact ⟨_, _, _, rfl, hsub, hS, b6⟩
end Go.Proofs.YtfodlhkoafhplaaGreat
