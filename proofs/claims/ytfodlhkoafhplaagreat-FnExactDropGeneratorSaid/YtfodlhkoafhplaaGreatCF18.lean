/- Walks of functions: each computes its pure function, if that gives a value. -/
import Derived.Test.YtfodlhkoafhplaaGreatCTy
import Derived.Test.YtfodlhkoafhplaaGreatCF10
import Derived.Test.YtfodlhkoafhplaaGreatCF9
import Derived.Test.YtfodlhkoafhplaaGreatCF6
import Derived.Test.YtfodlhkoafhplaaGreatCF17
import Derived.Test.YtfodlhkoafhplaaGreatCF2
namespace Go.Proofs.YtfodlhkoafhplaaGreat
open Go
set_option linter.unusedSimpArgs false
set_option linter.unusedVariables false
def g_impl_IsAlgebra_l0 (K : Nat) (a0 : ((List Int) × (List MpT))) : Nat → Int → Option (Ex Bool (Unit))
 | 0, _ => none
 | k + 1, a1 => (if a1 < (a0.2.length : Int) then ((g_impl_isForm K a0.1 (rd a0.2 a1)).bind fun a3 => (if a3 = true then (if a1 < (a0.1.length : Int) then ((g_impl_isOfDegree K a0.1 (rd a0.2 a1) (IntKind.i64.wrap ((rd a0.1 a1) + 1))).bind fun b4 => (if b4 = true then g_impl_IsAlgebra_l0 K a0 k (a1 + 1) else some (.ret false))) else none) else some (.ret false))) else some (.go ()))
def g_impl_IsAlgebra_j1 (K : Nat) (a0 : ((List Int) × (List MpT))) (b2 : Bool) : Option Bool := (if b2 = true then some false else ((g_impl_IsAlgebra_l0 K a0 K 0).bind (Ex.elim (fun r => some r) (fun s => ((g_slices_ContainsFunc_Simpl_Form_impl_Form K a0.2 (fun x => g_impl_IsAlgebra_c1 K x (a0.1, a0.2))).bind fun c2 => some (!c2))))))
def g_impl_IsAlgebra (K : Nat) (a0 : ((List Int) × (List MpT))) : Option Bool := ((g_impl_AreDegrees K a0.1).bind fun c3 => (if c3 = true then g_impl_IsAlgebra_j1 K a0 (!decide ((a0.2.length : Int) = (a0.1.length : Int))) else g_impl_IsAlgebra_j1 K a0 true))
set_option maxRecDepth 100000 in
set_option maxHeartbeats 1000000 in
theorem g_impl_IsAlgebra_ok {K : Nat} {a0 : ((List Int) × (List MpT))} {r : Bool} (q0 : g_impl_IsAlgebra K a0 = some r) {H : FH} {w : World} {L : OL} {s0 : Value} {s1 : Value} (a7 : RdSl (tyInt .i64) H s0 a0.1) (a8 : RdSl (tySl yT) H s1 a0.2) (hS : St H w L) :
 Calls Tryz.prog 45 #[Value.agg ([s0] ++ [s1]).toArray] w (Done (fun v G => R.bool.p G v r) H L) := by
 have hsub := Sub.refl H
 refine calls_of_run Tryz.func45 rfl Tryz.ntmps45 rfl ?_
 unfold g_impl_IsAlgebra at q0
 refine run_seq (run_region ?_)
 refine r_box (v := Value.agg ([s0] ++ [s1]).toArray) ([s0] ++ [s1]).toArray rfl rfl hS rfl ?_
 intro b1 w2 hS
 refine r_assign (Value.bool false) rfl rfl ?_
 refine reg_nil (run_seq ?_)
 refine run_seq ?_
 refine run_cut (fun f w => ∃ (b2 : Bool) (H1 : FH), g_impl_IsAlgebra_j1 K a0 b2 = some r ∧ Sub H H1 ∧ St H1 w ([(b1, .cells ([s0] ++ [s1]).toArray 29)] ++ L) ∧ RdSl (tyInt .i64) H1 s0 a0.1 ∧ RdSl (tySl yT) H1 s1 a0.2 ∧ ev f (.tmp 1) = vP b1 ∧ ev f (.tmp 17) = Value.bool b2) ?_ ?_
 rintro fj1 w6 ⟨b2, i4, d6, hsub, hS, a7, a8, d7, c8⟩
 unfold g_impl_IsAlgebra_j1 at d6
 by_cases e6 : b2 = true
 rw [if_pos e6] at d6
 refine run_cond_true (Eq.trans (by exact c8) (congrArg Value.bool e6)) ?_
 refine run_seq (run_region ?_)
 refine r_assign (Value.bool false) rfl rfl ?_
 refine reg_nil ?_
 refine run_ret (vs := [Value.bool false]) Tryz.func45 ⟨rfl, trivial⟩ ?_
 have hz := Option.some.inj d6
 subst hz
 exact ⟨_, _, rfl, hsub, (St.dropA (A := [(b1, .cells ([s0] ++ [s1]).toArray 29)]) hS), rfl⟩
 rw [if_neg e6] at d6
 refine run_cond_false (Eq.trans (by exact c8) (congrArg Value.bool (bfalse e6))) ?_
 refine run_skip (run_seq ?_)
 refine run_seq (run_region ?_)
 refine r_fieldAddr fld29_1 (by exact d7) rfl ?_
 refine r_loadOne (s1) ty27 rfl (hS.get mL) rfl rfl ?_
 have bl5 := a8.bound
 refine r_lenRd sl27 rfl a8 rfl ?_
 refine r_move (vI 0) rfl rfl ?_
 refine reg_nil (run_block ?_)
 obtain ⟨f8, a6, b6⟩ := bind_some d6
 refine loop_ind (id := 0) (fun k f w => ∃ (a1 : Int) (H1 : FH), g_impl_IsAlgebra_l0 K a0 k a1 = some f8 ∧ Sub H H1 ∧ St H1 w ([(b1, .cells ([s0] ++ [s1]).toArray 29)] ++ L) ∧ 0 ≤ a1 ∧ RdSl (tyInt .i64) H1 s0 a0.1 ∧ RdSl (tySl yT) H1 s1 a0.2 ∧ ev f (.tmp 1) = vP b1 ∧ ev f (.tmp 19) = s1 ∧ ev f (.tmp 20) = vI (a0.2.length : Int) ∧ ev f (.tmp 21) = vI a1) (fun f w => ∃ (H1 : FH), f8 = .go () ∧ Sub H H1 ∧ St H1 w ([(b1, .cells ([s0] ++ [s1]).toArray 29)] ++ L) ∧ RdSl (tyInt .i64) H1 s0 a0.1 ∧ RdSl (tySl yT) H1 s1 a0.2 ∧ ev f (.tmp 1) = vP b1) rfl ?_ ?_ K ?_ ?_
 rintro f w ⟨a1, H1, a6, _⟩
 rw [g_impl_IsAlgebra_l0] at a6; cases a6
 rintro k a12 a13 s8 s9 ⟨a1, l6, a6, hsub, hS, s7, a7, a8, b3, c4, c5, b5⟩
 rw [g_impl_IsAlgebra_l0] at a6
 refine run_seq (run_region ?_)
 refine r_lss (k := .i64) (a := a1) (b := (a0.2.length : Int)) (by exact b5) (by exact c5) rfl ?_
 refine reg_nil (run_seq ?_)
 by_cases e7 : a1 < (a0.2.length : Int)
 rw [if_pos e7] at a6
 refine run_cond_true (Eq.trans rfl (congrArg Value.bool (decide_eq_true e7))) ?_
 refine run_skip (run_seq ?_)
 refine run_block (run_seq ?_)
 refine run_region ?_
 refine r_move (vI a1) (by exact b5) rfl ?_
 obtain ⟨b7, o7, cs7, E7, _, t0, t1, ⟨a9, rfl, b0⟩, t4⟩ := a8.elem (i := a1) (by omega) (by omega)
 refine r_indexAt sl27 rfl (by exact c4) t0 (by exact b5) (by omega) (by omega) rfl ?_
 refine r_loadAgg ([a9]) ty47 rfl (hS.froz _ _ t1) rfl t4 rfl ?_
 refine r_alloc (z := Value.agg ([Value.slice none 0 0]).toArray) ([Value.slice none 0 0]).toArray ze47.zero rfl hS rfl ?_
 intro b8 w9 hS
 refine r_assign (vI a1) rfl rfl ?_
 refine r_storeAll (v := Value.agg ([a9]).toArray) (vs := ([a9]).toArray) (cs := ([Value.slice none 0 0]).toArray) ty47 rfl rfl rfl hS rfl (one1 b0.isOne) rfl ?_
 intro w11 hS
 refine reg_nil (run_seq ?_)
 obtain ⟨a3, f9, a6⟩ := bind_some a6
 by_cases a4 : a3 = true
 rw [if_pos a4] at a6
 obtain ⟨w7, a6⟩ := gd a6
 obtain ⟨g0, g1, w8, a14, _, i5, d0, rfl, i6⟩ := a7.elem (i := a1) (by omega) (by omega)
 obtain ⟨b4, i7, a6⟩ := bind_some a6
 refine run_draw 18 (tabL [(26, MP.eq (vP b1)), (27, MP.eq (s0)), (28, MP.eq (Value.agg ([a9]).toArray)), (29, MP.eq (Value.bool a3)), (30, MP.eq (Value.bool (!a3))), (31, MP.eq (Value.bool (!a3))), (32, MP.eq (vP b1)), (33, MP.eq (s0)), (34, MP.eq (Value.agg ([a9]).toArray)), (35, MP.eq (vP b1)), (36, MP.eq (s0)), (37, MP.eq (vI a1)), (38, MP.eq (Value.pointer (some ⟨g0, g1, none⟩))), (39, MP.eq (vI (rd a0.1 a1))), (40, MP.eq (vI (IntKind.i64.wrap ((rd a0.1 a1) + 1)))), (41, MP.eq (Value.bool b4)), (42, MP.eq (Value.bool (!b4))), (43, MP.eq (Value.bool (!b4)))]) [] mixed rfl rfl rfl hS (hop_q rfl ?_ (hop_q rfl ?_ (hop_q rfl ?_ (hop_q rfl ?_ (hop_q rfl ?_ (hop_q rfl ?_ (hop_q rfl ?_ (hop_q rfl ?_ (hop_q rfl ?_ (hop_q rfl ?_ (hop_q rfl ?_ (hop_q rfl ?_ (hop_q rfl ?_ (hop_q rfl ?_ (hop_q rfl ?_ (hop_q rfl ?_ (hop_q rfl ?_ (hop_q rfl ?_ hop_nil)))))))))))))))))) ?_
 intro t5 t6 t7 t8 l7 hS d9 l9 hcq
 have g2 := evT (d9 1 rfl) b3
 refine r_fieldAddr fld29_0 g2 rfl ?_
 exact qn (.refl _) rfl hS rfl
 intro g3 t9 u0 u1 m0 hS m1 e0 hcq
 have g4 : ev g3 (.tmp 26) = vP b1 := e0 0 26 rfl rfl
 refine r_loadOne (s0) ty22 g4 (hS.get (mR (mR mL))) rfl rfl ?_
 exact qn (.refl _) rfl hS rfl
 intro g5 u2 u3 u4 m2 hS e1 m3 hcq
 have g6 : ev g5 (.tmp 4) = vP b8 := Eq.trans (e1 4 rfl) rfl
 refine r_loadAll ty47 g6 (hS.get (mR mL)) rfl rfl ?_
 exact qn (.refl _) rfl hS rfl
 intro d8 u5 u6 u7 c6 hS m4 c7 hcq
 have a7 := a7.mono c6
 have b0 := b0.mono c6
 have g7 : ev d8 (.tmp 27) = s0 := c7 1 27 rfl rfl
 have g8 : ev d8 (.tmp 28) = Value.agg ([a9]).toArray := c7 2 28 rfl rfl
 refine r_callFn Tryz.call125 (args2 g7 g8) rfl (g_impl_isForm_ok f9 a7 b0 hS) ?_
 rintro u8 u9 ⟨_, v0, rfl, e2, hS, rfl⟩
 refine ⟨_, rfl, ?_⟩
 exact qn e2 rfl hS rfl
 intro g9 v1 v2 v3 m5 hS m6 e3 hcq
 have h0 : ev g9 (.tmp 29) = Value.bool a3 := e3 3 29 rfl rfl
 refine r_not (b := a3) h0 rfl ?_
 exact qn (.refl _) rfl hS rfl
 intro h1 v4 v5 v6 m7 hS m8 e4 hcq
 have h2 : ev h1 (.tmp 30) = Value.bool (!a3) := e4 4 30 rfl rfl
 refine r_move (Value.bool (!a3)) h2 rfl ?_
 exact qn (.refl _) rfl hS rfl
 intro v7 w80 H81 X82 a15 hS m9 n0 hcq
 have v8 : ev v7 (.tmp 31) = Value.bool (!a3) := n0 5 31 rfl rfl
 refine reg_guard rfl rfl (Eq.trans v8 (congrArg (fun b => Value.bool (!b)) a4)) ?_
 refine r_fieldAddr fld29_0 (evT (m9 1 rfl) b3) rfl ?_
 exact qn (.refl _) rfl hS rfl
 intro l3 w90 H91 X92 a16 hS a17 h3 hcq
 have v9 : ev l3 (.tmp 31) = Value.bool (!a3) := h3 5 31 rfl rfl
 have w0 : ev l3 (.tmp 32) = vP b1 := h3 6 32 rfl rfl
 refine reg_guard rfl rfl (Eq.trans v9 (congrArg (fun b => Value.bool (!b)) a4)) ?_
 refine r_loadOne (s0) ty22 w0 (hS.get (mR (mR mL))) rfl rfl ?_
 exact qn (.refl _) rfl hS rfl
 intro l4 a18 a19 a20 x0 hS i8 i9 hcq
 have n1 : ev l4 (.tmp 31) = Value.bool (!a3) := i9 5 31 rfl rfl
 have n2 : ev l4 (.tmp 4) = vP b8 := Eq.trans (i8 4 rfl) rfl
 refine reg_guard rfl rfl (Eq.trans n1 (congrArg (fun b => Value.bool (!b)) a4)) ?_
 refine r_loadAll ty47 n2 (hS.get (mR mL)) rfl rfl ?_
 exact qn (.refl _) rfl hS rfl
 intro n3 a21 a22 a23 x1 hS j0 j1 hcq
 have n4 : ev n3 (.tmp 31) = Value.bool (!a3) := j1 5 31 rfl rfl
 refine reg_guard rfl rfl (Eq.trans n4 (congrArg (fun b => Value.bool (!b)) a4)) ?_
 refine r_fieldAddr fld29_0 (evT (j0 1 rfl) b3) rfl ?_
 exact qn (.refl _) rfl hS rfl
 intro h4 a24 a25 a26 x2 hS x3 e8 hcq
 have n5 : ev h4 (.tmp 31) = Value.bool (!a3) := e8 5 31 rfl rfl
 have n6 : ev h4 (.tmp 35) = vP b1 := e8 9 35 rfl rfl
 refine reg_guard rfl rfl (Eq.trans n5 (congrArg (fun b => Value.bool (!b)) a4)) ?_
 refine r_loadOne (s0) ty22 n6 (hS.get (mR (mR mL))) rfl rfl ?_
 exact qn (.refl _) rfl hS rfl
 intro h5 a27 a28 a29 x4 hS j2 j3 hcq
 have n7 : ev h5 (.tmp 31) = Value.bool (!a3) := j3 5 31 rfl rfl
 have n8 : ev h5 (.tmp 3) = vI a1 := Eq.trans (j2 3 rfl) rfl
 refine reg_guard rfl rfl (Eq.trans n7 (congrArg (fun b => Value.bool (!b)) a4)) ?_
 refine r_move (vI a1) n8 rfl ?_
 exact qn (.refl _) rfl hS rfl
 intro e5 a30 a31 a32 x5 hS x6 d1 hcq
 have n9 : ev e5 (.tmp 31) = Value.bool (!a3) := d1 5 31 rfl rfl
 have o0 : ev e5 (.tmp 36) = s0 := d1 10 36 rfl rfl
 have o1 : ev e5 (.tmp 37) = vI a1 := d1 11 37 rfl rfl
 refine reg_guard rfl rfl (Eq.trans n9 (congrArg (fun b => Value.bool (!b)) a4)) ?_
 refine r_indexAt sl22 rfl o0 i5 o1 (by omega) (by omega) rfl ?_
 exact qn (.refl _) rfl hS rfl
 intro h6 a33 a34 a35 j4 hS x7 e9 hcq
 have d0 := j4.1 _ _ d0
 have o2 : ev h6 (.tmp 31) = Value.bool (!a3) := e9 5 31 rfl rfl
 have o3 : ev h6 (.tmp 38) = Value.pointer (some ⟨g0, g1, none⟩) := e9 12 38 rfl rfl
 refine reg_guard rfl rfl (Eq.trans o2 (congrArg (fun b => Value.bool (!b)) a4)) ?_
 refine r_loadOne (vI (rd a0.1 a1)) ty2 o3 (hS.froz _ _ d0) (i6 0 (show 0 < 1 by decide)) rfl ?_
 exact qn (.refl _) rfl hS rfl
 intro h7 a36 a37 a38 x8 hS x9 f0 hcq
 have o4 : ev h7 (.tmp 31) = Value.bool (!a3) := f0 5 31 rfl rfl
 have o5 : ev h7 (.tmp 39) = vI (rd a0.1 a1) := f0 13 39 rfl rfl
 refine reg_guard rfl rfl (Eq.trans o4 (congrArg (fun b => Value.bool (!b)) a4)) ?_
 refine r_add (IntKind.i64.wrap ((rd a0.1 a1) + 1)) o5 rfl rfl rfl ?_
 exact qn (.refl _) rfl hS rfl
 intro d2 a39 a40 a41 f1 hS y0 b9 hcq
 have a7 := a7.mono f1
 have b0 := b0.mono f1
 have o6 : ev d2 (.tmp 31) = Value.bool (!a3) := b9 5 31 rfl rfl
 have o8 : ev d2 (.tmp 33) = s0 := b9 7 33 rfl rfl
 have o9 : ev d2 (.tmp 34) = Value.agg ([a9]).toArray := b9 8 34 rfl rfl
 have p0 : ev d2 (.tmp 40) = vI (IntKind.i64.wrap ((rd a0.1 a1) + 1)) := b9 14 40 rfl rfl
 refine reg_guard rfl rfl (Eq.trans o6 (congrArg (fun b => Value.bool (!b)) a4)) ?_
 refine r_callFn Tryz.call126 (args3 o8 o9 p0) rfl (g_impl_isOfDegree_ok i7 a7 b0 hS) ?_
 rintro a42 a43 ⟨_, a44, rfl, j5, hS, rfl⟩
 refine ⟨_, rfl, ?_⟩
 exact qn j5 rfl hS rfl
 intro h8 a45 a46 a47 y1 hS y2 f2 hcq
 have p1 : ev h8 (.tmp 31) = Value.bool (!a3) := f2 5 31 rfl rfl
 have p2 : ev h8 (.tmp 41) = Value.bool b4 := f2 15 41 rfl rfl
 refine reg_guard rfl rfl (Eq.trans p1 (congrArg (fun b => Value.bool (!b)) a4)) ?_
 refine r_not (b := b4) p2 rfl ?_
 exact qn (.refl _) rfl hS rfl
 intro h9 a48 a49 a50 y3 hS y4 f3 hcq
 have p3 : ev h9 (.tmp 31) = Value.bool (!a3) := f3 5 31 rfl rfl
 have p4 : ev h9 (.tmp 42) = Value.bool (!b4) := f3 16 42 rfl rfl
 refine r_pick (t := false) (Value.bool (!b4)) (Eq.trans p3 (congrArg (fun b => Value.bool (!b)) a4)) ((if_neg Bool.false_ne_true).trans p4) rfl ?_
 exact qn (.refl _) rfl hS rfl
 intro p5 p6 i0 d3 hS c0 j6 hcq
 have hS : St i0 p6 ([(b8, .cells ([a9]).toArray 47)] ++ ([(b1, .cells ([s0] ++ [s1]).toArray 29)] ++ L)) := hS
 have hsub := hsub.trans d3
 have a8 := a8.mono d3
 have a7 := a7.mono d3
 have i1 : ev p5 (.tmp 43) = Value.bool (!b4) := j6 17 43 (by decide) rfl
 refine reg_nil ?_
 by_cases c1 : b4 = true
 rw [if_pos c1] at a6
 refine run_cond_false (Eq.trans (by exact i1) (congrArg (fun b => Value.bool (!b)) c1)) ?_
 refine run_skip (run_inBlock ?_)
 refine run_region ?_
 refine r_add (a1 + 1) (by exact (evT (c0 21 rfl) b5)) rfl (IntWalk.i64_in _ (by omega)) rfl ?_
 refine r_move (vI (a1 + 1)) rfl rfl ?_
 refine reg_nil ?_
 have hS := St.dropA (A := [(b8, .cells ([a9]).toArray 47)]) hS
 exact s8 _ _ ⟨(a1 + 1), i0, a6, hsub, hS, (by omega), a7, a8, (evT (c0 1 rfl) b3), (evT (c0 19 rfl) c4), (evT (c0 20 rfl) c5), rfl⟩
 rw [if_neg c1] at a6
 refine run_cond_true (Eq.trans (by exact i1) (congrArg (fun b => Value.bool (!b)) (bfalse c1))) ?_
 refine run_seq (run_region ?_)
 refine r_assign (Value.bool false) rfl rfl ?_
 refine reg_nil ?_
 refine run_ret (vs := [Value.bool false]) Tryz.func45 ⟨rfl, trivial⟩ ?_
 have hz := Option.some.inj a6
 subst hz
 dsimp only [Ex.elim] at b6
 have hz := Option.some.inj b6
 subst hz
 exact ⟨_, _, rfl, hsub, (St.dropA (A := [(b1, .cells ([s0] ++ [s1]).toArray 29)]) (St.dropA (A := [(b8, .cells ([a9]).toArray 47)]) hS)), rfl⟩
 rw [if_neg a4] at a6
 refine run_draw 18 (tabL [(26, MP.eq (vP b1)), (27, MP.eq (s0)), (28, MP.eq (Value.agg ([a9]).toArray)), (29, MP.eq (Value.bool a3)), (30, MP.eq (Value.bool (!a3))), (31, MP.eq (Value.bool (!a3))), (32, MP.eq (undef)), (33, MP.eq (undef)), (34, MP.eq (undef)), (35, MP.eq (undef)), (36, MP.eq (undef)), (37, MP.eq (undef)), (38, MP.eq (undef)), (39, MP.eq (undef)), (40, MP.eq (undef)), (41, MP.eq (undef)), (42, MP.eq (undef)), (43, MP.eq (Value.bool true))]) [] mixed rfl rfl rfl hS (hop_q rfl ?_ (hop_q rfl ?_ (hop_q rfl ?_ (hop_q rfl ?_ (hop_q rfl ?_ (hop_q rfl ?_ (hop_q rfl ?_ (hop_q rfl ?_ (hop_q rfl ?_ (hop_q rfl ?_ (hop_q rfl ?_ (hop_q rfl ?_ (hop_q rfl ?_ (hop_q rfl ?_ (hop_q rfl ?_ (hop_q rfl ?_ (hop_q rfl ?_ (hop_q rfl ?_ hop_nil)))))))))))))))))) ?_
 intro t5 t6 t7 t8 l7 hS d9 l9 hcq
 have g2 := evT (d9 1 rfl) b3
 refine r_fieldAddr fld29_0 g2 rfl ?_
 exact qn (.refl _) rfl hS rfl
 intro g3 t9 u0 u1 m0 hS m1 e0 hcq
 have g4 : ev g3 (.tmp 26) = vP b1 := e0 0 26 rfl rfl
 refine r_loadOne (s0) ty22 g4 (hS.get (mR (mR mL))) rfl rfl ?_
 exact qn (.refl _) rfl hS rfl
 intro g5 u2 u3 u4 m2 hS e1 m3 hcq
 have g6 : ev g5 (.tmp 4) = vP b8 := Eq.trans (e1 4 rfl) rfl
 refine r_loadAll ty47 g6 (hS.get (mR mL)) rfl rfl ?_
 exact qn (.refl _) rfl hS rfl
 intro d8 u5 u6 u7 c6 hS m4 c7 hcq
 have a7 := a7.mono c6
 have b0 := b0.mono c6
 have g7 : ev d8 (.tmp 27) = s0 := c7 1 27 rfl rfl
 have g8 : ev d8 (.tmp 28) = Value.agg ([a9]).toArray := c7 2 28 rfl rfl
 refine r_callFn Tryz.call125 (args2 g7 g8) rfl (g_impl_isForm_ok f9 a7 b0 hS) ?_
 rintro u8 u9 ⟨_, v0, rfl, e2, hS, rfl⟩
 refine ⟨_, rfl, ?_⟩
 exact qn e2 rfl hS rfl
 intro g9 v1 v2 v3 m5 hS m6 e3 hcq
 have h0 : ev g9 (.tmp 29) = Value.bool a3 := e3 3 29 rfl rfl
 refine r_not (b := a3) h0 rfl ?_
 exact qn (.refl _) rfl hS rfl
 intro h1 v4 v5 v6 m7 hS m8 e4 hcq
 have h2 : ev h1 (.tmp 30) = Value.bool (!a3) := e4 4 30 rfl rfl
 refine r_move (Value.bool (!a3)) h2 rfl ?_
 exact qn (.refl _) rfl hS rfl
 intro p7 a51 a52 a53 y5 hS y6 j7 hcq
 have p8 : ev p7 (.tmp 31) = Value.bool (!a3) := j7 5 31 rfl rfl
 refine reg_unguard rfl rfl (Eq.trans p8 (congrArg (fun b => Value.bool (!b)) (bfalse a4))) rfl rfl rfl ?_
 exact qn (.refl _) rfl hS rfl
 intro p9 a54 a55 a56 y7 hS y8 j8 hcq
 have q1 : ev p9 (.tmp 31) = Value.bool (!a3) := j8 5 31 rfl rfl
 refine reg_unguard rfl rfl (Eq.trans q1 (congrArg (fun b => Value.bool (!b)) (bfalse a4))) rfl rfl rfl ?_
 exact qn (.refl _) rfl hS rfl
 intro q2 a57 a58 a59 y9 hS z0 j9 hcq
 have q3 : ev q2 (.tmp 31) = Value.bool (!a3) := j9 5 31 rfl rfl
 refine reg_unguard rfl rfl (Eq.trans q3 (congrArg (fun b => Value.bool (!b)) (bfalse a4))) rfl rfl rfl ?_
 exact qn (.refl _) rfl hS rfl
 intro q4 a60 a61 a62 z1 hS z2 k0 hcq
 have q5 : ev q4 (.tmp 31) = Value.bool (!a3) := k0 5 31 rfl rfl
 refine reg_unguard rfl rfl (Eq.trans q5 (congrArg (fun b => Value.bool (!b)) (bfalse a4))) rfl rfl rfl ?_
 exact qn (.refl _) rfl hS rfl
 intro q6 a63 a64 a65 z3 hS z4 k1 hcq
 have q7 : ev q6 (.tmp 31) = Value.bool (!a3) := k1 5 31 rfl rfl
 refine reg_unguard rfl rfl (Eq.trans q7 (congrArg (fun b => Value.bool (!b)) (bfalse a4))) rfl rfl rfl ?_
 exact qn (.refl _) rfl hS rfl
 intro q8 a66 a67 a68 z5 hS z6 k2 hcq
 have q9 : ev q8 (.tmp 31) = Value.bool (!a3) := k2 5 31 rfl rfl
 refine reg_unguard rfl rfl (Eq.trans q9 (congrArg (fun b => Value.bool (!b)) (bfalse a4))) rfl rfl rfl ?_
 exact qn (.refl _) rfl hS rfl
 intro r0 a69 a70 a71 z7 hS z8 k3 hcq
 have r1 : ev r0 (.tmp 31) = Value.bool (!a3) := k3 5 31 rfl rfl
 refine reg_unguard rfl rfl (Eq.trans r1 (congrArg (fun b => Value.bool (!b)) (bfalse a4))) rfl rfl rfl ?_
 exact qn (.refl _) rfl hS rfl
 intro r2 a72 a73 a74 z9 hS a00 k4 hcq
 have r3 : ev r2 (.tmp 31) = Value.bool (!a3) := k4 5 31 rfl rfl
 refine reg_unguard rfl rfl (Eq.trans r3 (congrArg (fun b => Value.bool (!b)) (bfalse a4))) rfl rfl rfl ?_
 exact qn (.refl _) rfl hS rfl
 intro r4 a75 a76 a77 a01 hS a02 k5 hcq
 have r5 : ev r4 (.tmp 31) = Value.bool (!a3) := k5 5 31 rfl rfl
 refine reg_unguard rfl rfl (Eq.trans r5 (congrArg (fun b => Value.bool (!b)) (bfalse a4))) rfl rfl rfl ?_
 exact qn (.refl _) rfl hS rfl
 intro r6 a78 a79 a80 a03 hS a04 k6 hcq
 have r7 : ev r6 (.tmp 31) = Value.bool (!a3) := k6 5 31 rfl rfl
 refine reg_unguard rfl rfl (Eq.trans r7 (congrArg (fun b => Value.bool (!b)) (bfalse a4))) rfl rfl rfl ?_
 exact qn (.refl _) rfl hS rfl
 intro r8 a81 a82 a83 a05 hS a06 k7 hcq
 have r9 : ev r8 (.tmp 31) = Value.bool (!a3) := k7 5 31 rfl rfl
 refine reg_unguard rfl rfl (Eq.trans r9 (congrArg (fun b => Value.bool (!b)) (bfalse a4))) rfl rfl rfl ?_
 exact qn (.refl _) rfl hS rfl
 intro i2 a84 a85 a86 a07 hS a08 f4 hcq
 have s2 : ev i2 (.tmp 31) = Value.bool (!a3) := f4 5 31 rfl rfl
 have a87 : ev i2 (.tmp 42) = undef := f4 16 42 rfl rfl
 refine r_pick (t := true) (Value.bool true) (Eq.trans s2 (congrArg (fun b => Value.bool (!b)) (bfalse a4))) ((if_pos rfl).trans rfl) rfl ?_
 exact qn (.refl _) rfl hS rfl
 intro s3 s4 s5 k8 hS a09 k9 hcq
 have hS : St s5 s4 ([(b8, .cells ([a9]).toArray 47)] ++ ([(b1, .cells ([s0] ++ [s1]).toArray 29)] ++ L)) := hS
 have hsub := hsub.trans k8
 have s6 : ev s3 (.tmp 43) = Value.bool true := k9 17 43 (by decide) rfl
 refine reg_nil ?_
 refine run_cond_true (by exact s6) ?_
 refine run_seq (run_region ?_)
 refine r_assign (Value.bool false) rfl rfl ?_
 refine reg_nil ?_
 refine run_ret (vs := [Value.bool false]) Tryz.func45 ⟨rfl, trivial⟩ ?_
 have hz := Option.some.inj a6
 subst hz
 dsimp only [Ex.elim] at b6
 have hz := Option.some.inj b6
 subst hz
 exact ⟨_, _, rfl, hsub, (St.dropA (A := [(b1, .cells ([s0] ++ [s1]).toArray 29)]) (St.dropA (A := [(b8, .cells ([a9]).toArray 47)]) hS)), rfl⟩
 rw [if_neg e7] at a6
 refine run_cond_false (Eq.trans rfl (congrArg Value.bool (decide_eq_false e7))) ?_
 refine run_exit rfl ?_
 have hz := Option.some.inj a6
 subst hz
 exact s9 _ _ ⟨l6, rfl, hsub, hS, a7, a8, b3⟩
 exact ⟨0, i4, a6, hsub, hS, (by omega), a7, a8, d7, rfl, rfl, rfl⟩
 rintro a88 a89 ⟨a90, rfl, hsub, hS, a7, a8, c9⟩
 dsimp only [Ex.elim] at b6
 refine run_seq ?_
 obtain ⟨a91, d4, hS, f5⟩ := St.freezeBox hS
 have f6 := frozAll ([s0] ++ [s1]) 2
 have hsub := hsub.trans d4
 have a7 := a7.mono d4
 have a8 := a8.mono d4
 refine run_region ?_
 refine r_fieldAddr fld29_1 (by exact c9) rfl ?_
 refine r_loadOne (s1) ty27 rfl (hS.froz _ _ f5) (f6 1 (show 1 < 2 by decide)) rfl ?_
 refine r_makeFunc1 (by exact c9) rfl ?_
 obtain ⟨c2, l0, b6⟩ := bind_some b6
 refine r_callFn Tryz.call127 (args2 rfl rfl) rfl (g_slices_ContainsFunc_Simpl_Form_impl_Form_ok l0 a8 ⟨128, #[vP b1], rfl, Tryz.call128, fun H2 w2 L2 v x b w1 w3 hv w4 => by obtain ⟨_, rfl, ⟨w5, rfl, f7⟩⟩ := hv; exact g_impl_IsAlgebra_c1_ok w4 f7 (PtrF.mono w1 ⟨_, _, _, _, _, rfl, f5, ⟨_, _, rfl, ⟨_, rfl, a7⟩, ⟨_, rfl, a8⟩⟩, f6⟩) w3⟩ hS) ?_
 rintro a92 a93 ⟨_, a94, rfl, l1, hS, rfl⟩
 refine ⟨_, rfl, ?_⟩
 have hsub := hsub.trans l1
 refine r_not (b := c2) rfl rfl ?_
 refine r_assign (Value.bool (!c2)) rfl rfl ?_
 refine reg_nil ?_
 refine run_ret (vs := [Value.bool (!c2)]) Tryz.func45 ⟨rfl, trivial⟩ ?_
 have hz := Option.some.inj b6
 subst hz
 exact ⟨_, _, rfl, hsub, hS, rfl⟩
 intro l5
 refine run_region ?_
 refine r_fieldAddr fld29_0 rfl rfl ?_
 refine r_loadOne (s0) ty22 rfl (hS.get mL) rfl rfl ?_
 obtain ⟨c3, l2, q0⟩ := bind_some q0
 refine r_callFn Tryz.call124 (args1 rfl) rfl (g_impl_AreDegrees_ok l2 a7 hS) ?_
 rintro a95 a96 ⟨_, i3, rfl, d5, hS, rfl⟩
 refine ⟨_, rfl, ?_⟩
 have hsub := hsub.trans d5
 have a7 := a7.mono d5
 have a8 := a8.mono d5
 refine r_not (b := c3) rfl rfl ?_
 refine r_move (Value.bool (!c3)) rfl rfl ?_
 by_cases a5 : c3 = true
 rw [if_pos a5] at q0
 refine reg_guard rfl rfl (Eq.trans rfl (congrArg (fun b => Value.bool (!b)) a5)) ?_
 refine r_fieldAddr fld29_1 rfl rfl ?_
 refine reg_guard rfl rfl (Eq.trans rfl (congrArg (fun b => Value.bool (!b)) a5)) ?_
 refine r_loadOne (s1) ty27 rfl (hS.get mL) rfl rfl ?_
 have a10 := a8.bound
 refine reg_guard rfl rfl (Eq.trans rfl (congrArg (fun b => Value.bool (!b)) a5)) ?_
 refine r_lenRd sl27 rfl a8 rfl ?_
 refine reg_guard rfl rfl (Eq.trans rfl (congrArg (fun b => Value.bool (!b)) a5)) ?_
 refine r_fieldAddr fld29_0 rfl rfl ?_
 refine reg_guard rfl rfl (Eq.trans rfl (congrArg (fun b => Value.bool (!b)) a5)) ?_
 refine r_loadOne (s0) ty22 rfl (hS.get mL) rfl rfl ?_
 have a11 := a7.bound
 refine reg_guard rfl rfl (Eq.trans rfl (congrArg (fun b => Value.bool (!b)) a5)) ?_
 refine r_lenRd sl22 rfl a7 rfl ?_
 refine reg_guard rfl rfl (Eq.trans rfl (congrArg (fun b => Value.bool (!b)) a5)) ?_
 refine r_neq (k := .i64) (a := (a0.2.length : Int)) (b := (a0.1.length : Int)) rfl rfl rfl ?_
 refine r_pick (t := false) (Value.bool (!decide ((a0.2.length : Int) = (a0.1.length : Int)))) (Eq.trans rfl (congrArg (fun b => Value.bool (!b)) a5)) ((if_neg Bool.false_ne_true).trans rfl) rfl ?_
 refine reg_nil ?_
 exact l5 _ _ ⟨(!decide ((a0.2.length : Int) = (a0.1.length : Int))), i3, q0, hsub, hS, a7, a8, rfl, rfl⟩
 rw [if_neg a5] at q0
 refine reg_unguard rfl rfl (Eq.trans rfl (congrArg (fun b => Value.bool (!b)) (bfalse a5))) rfl rfl rfl ?_
 refine reg_unguard rfl rfl (Eq.trans rfl (congrArg (fun b => Value.bool (!b)) (bfalse a5))) rfl rfl rfl ?_
 refine reg_unguard rfl rfl (Eq.trans rfl (congrArg (fun b => Value.bool (!b)) (bfalse a5))) rfl rfl rfl ?_
 refine reg_unguard rfl rfl (Eq.trans rfl (congrArg (fun b => Value.bool (!b)) (bfalse a5))) rfl rfl rfl ?_
 refine reg_unguard rfl rfl (Eq.trans rfl (congrArg (fun b => Value.bool (!b)) (bfalse a5))) rfl rfl rfl ?_
 refine reg_unguard rfl rfl (Eq.trans rfl (congrArg (fun b => Value.bool (!b)) (bfalse a5))) rfl rfl rfl ?_
 refine reg_unguard rfl rfl (Eq.trans rfl (congrArg (fun b => Value.bool (!b)) (bfalse a5))) rfl rfl rfl ?_
 refine r_pick (t := true) (Value.bool true) (Eq.trans rfl (congrArg (fun b => Value.bool (!b)) (bfalse a5))) ((if_pos rfl).trans rfl) rfl ?_
 refine reg_nil ?_
 exact l5 _ _ ⟨true, i3, q0, hsub, hS, a7, a8, rfl, rfl⟩
def g_impl_renumbered_l0 (K : Nat) (a2 : (List Int)) : Nat → Int → (List MpT) → Option (Ex MpT ((List MpT)))
 | 0, _, _ => none
 | k + 1, a4, a7 => (if a4 < (a2.length : Int) then (if (rd a2 a4) < 0 then (if a7.length + ([([] : MpT)]).length ≤ 1099511627776 then g_impl_renumbered_l0 K a2 k (a4 + 1) (a7 ++ [([] : MpT)]) else none) else ((g_impl_generator K (rd a2 a4)).bind fun d5 => (if a7.length + ([(mput ([] : MpT) d5 1)]).length ≤ 1099511627776 then g_impl_renumbered_l0 K a2 k (a4 + 1) (a7 ++ [(mput ([] : MpT) d5 1)]) else none))) else some (.go a7))
def g_impl_renumbered (K : Nat) (a0 : (List Int)) (a1 : MpT) (a2 : (List Int)) (a3 : (List Int)) : Option MpT := ((g_impl_renumbered_l0 K a2 K 0 ([] : List MpT)).bind (Ex.elim (fun r => some r) (fun s => (fun (b4 : (List MpT)) => ((g_impl_leader_lead K (a0, a3, b4) a1).bind fun e8 => some e8)) s)))
set_option maxRecDepth 100000 in
set_option maxHeartbeats 1000000 in
theorem g_impl_renumbered_ok {K : Nat} {a0 : (List Int)} {a1 : MpT} {a2 : (List Int)} {a3 : (List Int)} {r : MpT} (q0 : g_impl_renumbered K a0 a1 a2 a3 = some r) {H : FH} {w : World} {L : OL} {s0 : Value} {s1 : Value} {s2 : Value} {s3 : Value} (a9 : RdSl (tyInt .i64) H s0 a0) (b1 : RdMp .i64 H s1 a1) (b3 : RdSl (tyInt .i64) H s2 a2) (b0 : RdSl (tyInt .i64) H s3 a3) (hS : St H w L) :
 Calls Tryz.prog 89 #[s0, s1, s2, s3] w (DoneM .i64 r H L) := by
 have hsub := Sub.refl H
 refine calls_of_run Tryz.func89 rfl Tryz.ntmps89 rfl ?_
 unfold g_impl_renumbered at q0
 refine run_seq (run_region ?_)
 refine r_assign (Value.map none) rfl rfl ?_
 refine reg_nil (run_seq ?_)
 refine run_region ?_
 refine r_lit0 (τ := (tyMp .i64)) sl184 ze109 rfl hS rfl ?_
 intro u1 w2 C3 h4 hS
 refine r_assign (u1) rfl rfl ?_
 refine reg_nil (run_seq ?_)
 refine run_seq (run_region ?_)
 refine r_move (s2) rfl rfl ?_
 have i9 := b3.bound
 refine r_lenRd sl105 rfl b3 rfl ?_
 refine r_move (vI 0) rfl rfl ?_
 refine reg_nil (run_block ?_)
 obtain ⟨e7, a8, d7⟩ := bind_some q0
 refine loop_ind (id := 0) (fun k f w => ∃ (a4 : Int) (a7 : (List MpT)) (H1 : FH) (b5 : OL) (b2 : Value), g_impl_renumbered_l0 K a2 k a4 a7 = some e7 ∧ Sub H H1 ∧ St H1 w (b5 ++ L) ∧ 0 ≤ a4 ∧ OwnSl (tyMp .i64) 109 H1 b2 a7 b5 ∧ RdSl (tyInt .i64) H1 s0 a0 ∧ RdMp .i64 H1 s1 a1 ∧ RdSl (tyInt .i64) H1 s2 a2 ∧ RdSl (tyInt .i64) H1 s3 a3 ∧ ev f (.tmp 0) = s0 ∧ ev f (.tmp 1) = s1 ∧ ev f (.tmp 3) = s3 ∧ ev f (.tmp 9) = b2 ∧ ev f (.tmp 14) = s2 ∧ ev f (.tmp 15) = vI (a2.length : Int) ∧ ev f (.tmp 16) = vI a4) (fun f w => ∃ (b4 : (List MpT)) (H1 : FH) (b7 : OL) (a6 : Value), e7 = .go b4 ∧ Sub H H1 ∧ St H1 w (b7 ++ L) ∧ OwnSl (tyMp .i64) 109 H1 a6 b4 b7 ∧ RdSl (tyInt .i64) H1 s0 a0 ∧ RdMp .i64 H1 s1 a1 ∧ RdSl (tyInt .i64) H1 s3 a3 ∧ ev f (.tmp 0) = s0 ∧ ev f (.tmp 1) = s1 ∧ ev f (.tmp 3) = s3 ∧ ev f (.tmp 9) = a6) rfl ?_ ?_ K ?_ ?_
 rintro f w ⟨a4, a7, H1, b5, b2, a8, _⟩
 rw [g_impl_renumbered_l0] at a8; cases a8
 rintro k i5 i6 e9 h5 ⟨a4, a7, f5, b5, b2, a8, hsub, hS, h3, a5, a9, b1, b3, b0, c3, c4, c5, c6, c0, c1, b9⟩
 rw [g_impl_renumbered_l0] at a8
 refine run_seq (run_region ?_)
 refine r_lss (k := .i64) (a := a4) (b := (a2.length : Int)) (by exact b9) (by exact c1) rfl ?_
 refine reg_nil (run_seq ?_)
 by_cases e1 : a4 < (a2.length : Int)
 rw [if_pos e1] at a8
 refine run_cond_true (Eq.trans rfl (congrArg Value.bool (decide_eq_true e1))) ?_
 refine run_skip (run_seq ?_)
 refine run_block (run_seq ?_)
 refine run_region ?_
 obtain ⟨b8, o8, j0, E8, _, h6, h7, rfl, h8⟩ := b3.elem (i := a4) (by omega) (by omega)
 refine r_indexAt sl105 rfl (by exact c0) h6 (by exact b9) (by omega) (by omega) rfl ?_
 refine r_loadOne (vI (rd a2 a4)) ty3 rfl (hS.froz _ _ h7) (h8 0 (show 0 < 1 by decide)) rfl ?_
 refine r_assign (vI (rd a2 a4)) rfl rfl ?_
 refine reg_nil (run_seq ?_)
 refine run_region ?_
 refine r_move (vI (rd a2 a4)) rfl rfl ?_
 refine r_lss (k := .i64) (a := (rd a2 a4)) (b := 0) rfl rfl rfl ?_
 refine reg_nil ?_
 by_cases e2 : (rd a2 a4) < 0
 rw [if_pos e2] at a8
 refine run_cond_true (Eq.trans rfl (congrArg Value.bool (decide_eq_true e2))) ?_
 refine run_region ?_
 refine r_move (b2) (by exact c6) rfl ?_
 refine r_makeMap (k := .i64) hS rfl ?_
 intro h9 j1 j2 f6 hS
 obtain ⟨j3, c7, hS, f7⟩ := f6.freeze hS
 have hsub := hsub.trans c7
 have a9 := a9.mono c7
 have b1 := b1.mono c7
 have b0 := b0.mono c7
 have b3 := b3.mono c7
 have a5 := a5.mono c7
 refine r_lit (τ := (tyMp .i64)) sl184 ze109 rfl [h9] [([] : MpT)] rfl rfl (parts1 rfl) (rel1 f7.relv) (by decide) (by decide) hS rfl ?_
 intro j4 i0 j5 c8 hS f8
 have hsub := hsub.trans c8
 have a9 := a9.mono c8
 have b1 := b1.mono c8
 have b0 := b0.mono c8
 have b3 := b3.mono c8
 have a5 := a5.mono c8
 obtain ⟨f9, a8⟩ := gd a8
 refine r_append (τ := (tyMp .i64)) ap184 rfl rfl rfl a5 hS f8 f9 rfl ?_
 intro f0 j6 i1 g0 hS
 refine r_assign (f0) rfl rfl ?_
 refine reg_nil (run_inBlock ?_)
 refine run_region ?_
 refine r_add (a4 + 1) (by exact b9) rfl (IntWalk.i64_in _ (by omega)) rfl ?_
 refine r_move (vI (a4 + 1)) rfl rfl ?_
 refine reg_nil ?_
 exact e9 _ _ ⟨(a4 + 1), (a7 ++ [([] : MpT)]), i0, i1, f0, a8, hsub, hS, (by omega), g0, a9, b1, b3, b0, c3, c4, c5, rfl, c0, c1, rfl⟩
 rw [if_neg e2] at a8
 refine run_cond_false (Eq.trans rfl (congrArg Value.bool (decide_eq_false e2))) ?_
 refine run_region ?_
 refine r_move (b2) (by exact c6) rfl ?_
 refine r_makeMap (k := .i64) hS rfl ?_
 intro f1 j7 j8 d9 hS
 refine r_move (vI (rd a2 a4)) rfl rfl ?_
 obtain ⟨d5, g1, a8⟩ := bind_some a8
 refine r_callFn Tryz.call151 (args1 rfl) rfl (g_impl_generator_ok g1  hS) ?_
 rintro j9 k0 ⟨k1, k2, rfl, c2, hS, ⟨_, rfl, rfl⟩⟩
 refine ⟨_, rfl, ?_⟩
 have hsub := hsub.trans c2
 have a9 := a9.mono c2
 have b1 := b1.mono c2
 have b0 := b0.mono c2
 have b3 := b3.mono c2
 have a5 := a5.mono c2
 have d9 := d9.mono c2
 refine r_insert (a := d5) (m := 1) mp109 rfl rfl rfl d9 hS ?_
 intro k3 k4 g2 hS
 refine r_move (f1) rfl rfl ?_
 obtain ⟨k5, c9, hS, g3⟩ := g2.freeze hS
 have hsub := hsub.trans c9
 have a9 := a9.mono c9
 have b1 := b1.mono c9
 have b0 := b0.mono c9
 have b3 := b3.mono c9
 have a5 := a5.mono c9
 refine r_lit (τ := (tyMp .i64)) sl184 ze109 rfl [f1] [(mput ([] : MpT) d5 1)] rfl rfl (parts1 rfl) (rel1 g3.relv) (by decide) (by decide) hS rfl ?_
 intro k6 i2 k7 d0 hS g4
 have hsub := hsub.trans d0
 have a9 := a9.mono d0
 have b1 := b1.mono d0
 have b0 := b0.mono d0
 have b3 := b3.mono d0
 have a5 := a5.mono d0
 obtain ⟨g5, a8⟩ := gd a8
 refine r_append (τ := (tyMp .i64)) ap184 rfl rfl rfl a5 hS g4 g5 rfl ?_
 intro f2 k8 i3 g6 hS
 refine r_assign (f2) rfl rfl ?_
 refine reg_nil (run_inBlock ?_)
 refine run_region ?_
 refine r_add (a4 + 1) (by exact b9) rfl (IntWalk.i64_in _ (by omega)) rfl ?_
 refine r_move (vI (a4 + 1)) rfl rfl ?_
 refine reg_nil ?_
 exact e9 _ _ ⟨(a4 + 1), (a7 ++ [(mput ([] : MpT) d5 1)]), i2, i3, f2, a8, hsub, hS, (by omega), g6, a9, b1, b3, b0, c3, c4, c5, rfl, c0, c1, rfl⟩
 rw [if_neg e1] at a8
 refine run_cond_false (Eq.trans rfl (congrArg Value.bool (decide_eq_false e1))) ?_
 refine run_exit rfl ?_
 have hz := Option.some.inj a8
 subst hz
 exact h5 _ _ ⟨a7, f5, b5, b2, rfl, hsub, hS, a5, a9, b1, b0, c3, c4, c5, c6⟩
 exact ⟨0, ([] : List MpT), H, C3, u1, a8, hsub, hS, (by omega), h4, a9, b1, b3, b0, rfl, rfl, rfl, rfl, rfl, rfl, rfl⟩
 rintro i7 i8 ⟨b4, g7, b7, a6, rfl, hsub, hS, d2, a9, b1, b0, e3, e4, e5, e6⟩
 dsimp only [Ex.elim] at d7
 refine run_seq (run_region ?_)
 refine r_move (s0) (by exact e3) rfl ?_
 refine r_move (s3) (by exact e5) rfl ?_
 refine r_move (a6) (by exact e6) rfl ?_
 refine r_makeMap0 hS rfl ?_
 intro b6 k9 hS
 refine r_build ([s0] ++ ([s3] ++ ([a6] ++ [(Value.map (some b6))]))) bu214 (parts4 rfl rfl rfl rfl) (fill_cons rfl a9.cellsL rfl (Nat.le_of_ble_eq_true rfl) (fill_cons rfl b0.cellsL rfl (Nat.le_of_ble_eq_true rfl) (fill_cons rfl d2.cellsL rfl (Nat.le_of_ble_eq_true rfl) (fill_cons rfl rfl rfl (Nat.le_of_ble_eq_true rfl) (fill_nil rfl))))) rfl ?_
 refine r_box (v := Value.agg ([s0] ++ ([s3] ++ ([a6] ++ [(Value.map (some b6))]))).toArray) ([s0] ++ ([s3] ++ ([a6] ++ [(Value.map (some b6))]))).toArray rfl rfl hS rfl ?_
 intro d6 f3 hS
 refine r_assign (vP d6) rfl rfl ?_
 refine reg_nil (run_seq ?_)
 refine run_region ?_
 refine r_move (vP d6) rfl rfl ?_
 refine r_move (s1) (by exact e4) rfl ?_
 have hS : St g7 f3 (b7 ++ ([(d6, .cells ([s0] ++ ([s3] ++ ([a6] ++ [(Value.map (some b6))]))).toArray 214)] ++ ([(b6, .map #[] 0)] ++ L))) := hS.perm (perm2 (A1 := [(d6, .cells ([s0] ++ ([s3] ++ ([a6] ++ [(Value.map (some b6))]))).toArray 214)]) (A2 := [(b6, .map #[] 0)]))
 obtain ⟨i4, d8, hS, d3⟩ := d2.freeze hS
 have hsub := hsub.trans d8
 have b1 := b1.mono d8
 have a9 := a9.mono d8
 have b0 := b0.mono d8
 have hS : St i4 f3 ([(b6, .map #[] 0)] ++ ([(d6, .cells ([s0] ++ ([s3] ++ ([a6] ++ [(Value.map (some b6))]))).toArray 214)] ++ L)) := hS.perm (perm1 (A1 := [(d6, .cells ([s0] ++ ([s3] ++ ([a6] ++ [(Value.map (some b6))]))).toArray 214)]))
 obtain ⟨l0, d4, hS, e0⟩ := St.toMemo hS K (a0, a3, b4)
 have hsub := hsub.trans d4
 have b1 := b1.mono d4
 have a9 := a9.mono d4
 have b0 := b0.mono d4
 have d3 := d3.mono d4
 obtain ⟨l1, d1, hS, g8⟩ := St.freezeBox hS
 have g9 := frozAll ([s0] ++ ([s3] ++ ([a6] ++ [(Value.map (some b6))]))) 4
 have hsub := hsub.trans d1
 have b1 := b1.mono d1
 have a9 := a9.mono d1
 have b0 := b0.mono d1
 have d3 := d3.mono d1
 have e0 := e0.mono d1
 obtain ⟨e8, h0, d7⟩ := bind_some d7
 refine r_callFn Tryz.call117 (args2 rfl rfl) rfl (g_impl_leader_lead_ok h0 ⟨_, _, _, _, _, rfl, g8, ⟨_, _, _, _, rfl, a9, b0, d3, e0⟩, g9⟩ b1 hS) ?_
 rintro l2 l3 ⟨f4, l4, l5, rfl, h1, hS, h2⟩
 refine ⟨_, rfl, ?_⟩
 have hsub := hsub.trans h1
 refine r_assign (f4) rfl rfl ?_
 refine reg_nil ?_
 refine run_ret (vs := [f4]) Tryz.func89 ⟨rfl, trivial⟩ ?_
 have hz := Option.some.inj d7
 subst hz
 exact ⟨_, _, _, rfl, hsub, hS, h2⟩
end Go.Proofs.YtfodlhkoafhplaaGreat
