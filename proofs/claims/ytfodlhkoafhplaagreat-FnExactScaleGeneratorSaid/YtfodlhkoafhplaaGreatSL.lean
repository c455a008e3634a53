/- The walk of the law. -/
import Derived.Test.YtfodlhkoafhplaaGreatSF17
import Derived.Test.YtfodlhkoafhplaaGreatSF20
import Derived.Test.YtfodlhkoafhplaaGreatSF11
import Derived.Test.YtfodlhkoafhplaaGreatSF15
import Derived.Test.YtfodlhkoafhplaaGreatSF9
import Derived.Test.YtfodlhkoafhplaaGreatSX
import Derived.Test.YtfodlhkoafhplaaGreatSTy
namespace Go.Proofs.YtfodlhkoafhplaaGreat
open Go
set_option linter.unusedSimpArgs false
set_option linter.unusedVariables false
set_option maxRecDepth 100000
set_option maxHeartbeats 1000000
def g_laws_FnExactScaleGenerator_j3 (K : Nat) (a5 : (((List Int) × (List MpT)) × Int)) (e1 : Bool) : Option Bool := (if e1 = true then some false else ((g_laws_heldAlgebra K ((mkA a5.1 1).1, (mkA a5.1 1).2) 1).bind fun f2 => (if f2 < 0 then some false else (if f2 = (1 + cntA a5.1) then some true else some false))))
def g_laws_FnExactScaleGenerator_j2 (K : Nat) (a0 : ((List Int) × (List MpT))) (a1 : Int) (a2 : Int) (a5 : (((List Int) × (List MpT)) × Int)) (r9 : (((List Int) × (List MpT)) × Int)) (e2 : Bool) : Option Bool := (if e2 = true then some false else (if cntA a5.1 ≤ 1000000000000 ∧ 0 ≤ (1 : Int) ∧ (1 : Int) ≤ 1000000 then ((g_laws_heldAlgebra K ((mkA a5.1 1).1, (mkA a5.1 1).2) 1).bind fun f3 => (if f3 < 0 then some false else (if f3 = (1 + cntA a5.1) then ((g_laws_toAlgebra K (a0.1, a0.2)).bind fun j1 => ((g_impl_ScaleGenerator K (j1.1, j1.2) a1 a2).bind fun d0 => ((g_laws_eqAlgebra K (d0.1.1, d0.1.2) (r9.1.1, r9.1.2)).bind fun h3 => (if h3 = true then g_laws_FnExactScaleGenerator_j3 K a5 (!decide (d0.2 = r9.2)) else g_laws_FnExactScaleGenerator_j3 K a5 true)))) else some false))) else none))
def g_laws_FnExactScaleGenerator_j1 (K : Nat) (a0 : ((List Int) × (List MpT))) (a1 : Int) (a2 : Int) (c6 : ((List Int) × (List MpT))) (a5 : (((List Int) × (List MpT)) × Int)) (r9 : (((List Int) × (List MpT)) × Int)) (e3 : Bool) : Option Bool := (if e3 = true then some false else ((g_laws_toAlgebra K (a0.1, a0.2)).bind fun i6 => ((g_laws_eqAlgebra K (c6.1, c6.2) (i6.1, i6.2)).bind fun g4 => (if g4 = true then (if cntA c6 ≤ 1000000000000 ∧ 0 ≤ (1 : Int) ∧ (1 : Int) ≤ 1000000 then (if (1 + cntA c6) < 0 then g_laws_FnExactScaleGenerator_j2 K a0 a1 a2 a5 r9 true else ((g_laws_eqAlgebra K (a5.1.1, a5.1.2) (r9.1.1, r9.1.2)).bind fun g1 => (if g1 = true then g_laws_FnExactScaleGenerator_j2 K a0 a1 a2 a5 r9 (!decide (a5.2 = r9.2)) else g_laws_FnExactScaleGenerator_j2 K a0 a1 a2 a5 r9 true))) else none) else some false))))
def g_laws_FnExactScaleGenerator (K : Nat) (a0 : ((List Int) × (List MpT))) (a1 : Int) (a2 : Int) : Option Bool := ((g_laws_szAlgebra K (a0.1, a0.2) 1048576).bind fun r4 => (if r4 < 0 then some true else ((g_laws_toAlgebra K (a0.1, a0.2)).bind fun r7 => ((g_spec_ScaleGenerator K (r7.1, r7.2) a1 a2).bind fun r9 => ((g_laws_toAlgebra K (a0.1, a0.2)).bind fun c6 => ((g_impl_ScaleGenerator K (c6.1, c6.2) a1 a2).bind fun a5 => ((g_laws_eqAlgebra K (a5.1.1, a5.1.2) (r9.1.1, r9.1.2)).bind fun h4 => (if h4 = true then g_laws_FnExactScaleGenerator_j1 K a0 a1 a2 c6 a5 r9 (!decide (a5.2 = r9.2)) else g_laws_FnExactScaleGenerator_j1 K a0 a1 a2 c6 a5 r9 true))))))))
theorem g_laws_FnExactScaleGenerator_ok {K : Nat} {a0 : ((List Int) × (List MpT))} {a1 : Int} {a2 : Int} {r : Bool} (q0 : g_laws_FnExactScaleGenerator K a0 a1 a2 = some r) {H : FH} {w : World} {L : OL} {s0 : Value} {s1 : Value} (a6 : RdSl (tyInt .i64) H s0 a0.1) (a7 : RdSl (tySl yT) H s1 a0.2) (hM : ∀ b, H.memo b = none) (hL : ∀ b, b < H.lim → H b ≠ none) (hS : St H w L) :
 Calls Tryz.prog 10 #[vA ([s0] ++ [s1]), vI a1, vI a2] w (Done (fun v G => R.bool.p G v r) H L) := by
 have hsub := Sub.refl H
 refine calls_of_run Tryz.func10 rfl Tryz.ntmps10 rfl ?_
 unfold g_laws_FnExactScaleGenerator at q0
 refine run_seq (run_region ?_)
 refine r_box (v := vA ([s0] ++ [s1])) ([s0] ++ [s1]).toArray rfl rfl hS rfl ?_
 intro b1 w2 hS
 refine r_assign (Value.bool false) rfl rfl (reg_nil (run_seq (run_region (r_assign (vI 1048576) rfl rfl (reg_nil (run_seq (run_region ?_)))))))
 refine r_loadAll ty25 rfl (hS.get mL) rfl rfl (r_move (vI 1048576) rfl rfl ?_)
 obtain ⟨r4, r1, q0⟩ := bind_some q0
 refine r_callFn Tryz.call15 (args2 rfl rfl) rfl (g_laws_szAlgebra_ok r1 a6 a7 hS) ?_
 rintro e4 w5 ⟨_, H4, rfl, k4, hS, rfl⟩
 refine ⟨_, rfl, ?_⟩
 have hsub := hsub.trans k4
 have a6 := a6.mono k4
 have a7 := a7.mono k4
 refine r_assign (vI r4) rfl rfl (reg_nil (run_seq (run_seq (run_region (r_move (vI r4) rfl rfl ?_)))))
 refine r_lss (k := .i64) (a := r4) (b := 0) rfl rfl rfl (reg_nil ?_)
 by_cases j3 : r4 < 0
 rw [if_pos j3] at q0
 refine run_cond_true (Eq.trans rfl (congrArg Value.bool (decide_eq_true j3))) (run_seq (run_region (r_assign (Value.bool true) rfl rfl (reg_nil ?_))))
 refine run_ret (vs := [Value.bool true]) Tryz.func10 ⟨rfl, trivial⟩ ?_
 have hz := Option.some.inj q0
 subst hz
 exact ⟨_, _, rfl, hsub, (St.dropA (A := [(b1, cA ([s0] ++ [s1]) 25)]) hS), rfl⟩
 rw [if_neg j3] at q0
 refine run_cond_false (Eq.trans rfl (congrArg Value.bool (decide_eq_false j3))) (run_skip (run_seq (run_region ?_)))
 refine r_loadAll ty25 rfl (hS.get mL) rfl rfl ?_
 have t1 := hsub
 obtain ⟨r7, r2, q0⟩ := bind_some q0
 refine r_callFn Tryz.call17 (args1 rfl) rfl (g_laws_toAlgebra_ok r2 a6 a7 hS) ?_
 rintro e7 w8 ⟨y4, H7, rfl, k5, hS, r3⟩
 obtain ⟨y5, y6, rfl, k6, k7⟩ := id r3.old
 have k6 := RdSl.old k6
 have k7 := RdSl.old k7
 refine ⟨_, rfl, ?_⟩
 have hsub := hsub.trans k5
 have a6 := a6.mono k5
 have a7 := a7.mono k5
 have y7 := Sub.refl H7
 refine r_move (vI a1) rfl rfl (r_move (vI a2) rfl rfl ?_)
 obtain ⟨r9, r5, q0⟩ := bind_some q0
 refine r_callFn Tryz.call66 (args3 rfl rfl rfl) rfl (g_spec_ScaleGenerator_ok r5 k6 k7 hS) ?_
 rintro e9 y8 ⟨_, H9, rfl, k8, hS, ⟨u8, u9, rfl, ⟨_, rfl, ⟨_, _, rfl, ⟨a8, rfl, a3⟩, ⟨a9, rfl, a4⟩⟩⟩, rfl⟩⟩
 refine ⟨_, rfl, ?_⟩
 have hsub := hsub.trans k8
 have a6 := a6.mono k8
 have a7 := a7.mono k8
 refine r_move (Value.tuple #[vA ([a8] ++ [a9]), vI r9.2]) rfl rfl (r_extract (vA ([a8] ++ [a9])) rfl rfl rfl (r_extract (vI r9.2) rfl rfl rfl ?_))
 refine r_alloc (z := vA ([vN] ++ [vN])) ([vN] ++ [vN]).toArray ze29.zero rfl hS rfl ?_
 intro e5 y9 hS
 refine r_storeAll (v := vA ([a8] ++ [a9])) (vs := ([a8] ++ [a9]).toArray) (cs := ([vN] ++ [vN]).toArray) ty29 rfl rfl rfl hS rfl (one_app (one1 a3.isOne) (one1 a4.isOne)) rfl ?_
 intro z0 hS
 refine r_assign (vI r9.2) rfl rfl (reg_nil (run_seq (run_region ?_)))
 refine r_loadAll ty25 rfl (hS.get (mR mL)) rfl rfl ?_
 have j4 := RdSl.noMI a6
 have j5 := RdSl.noMF a7
 have g5 := RdSl.noMI a3
 have g6 := RdSl.noMF a4
 have sB := noM_sub H9
 have i7 := hsub
 have p2 := sB
 obtain ⟨c6, p3, q0⟩ := bind_some q0
 refine r_callFn Tryz.call17 (args1 rfl) rfl (g_laws_toAlgebra_ok p3 a6 a7 hS) ?_
 rintro z1 z2 ⟨v0, o4, rfl, g2, hS, k9⟩
 obtain ⟨b6, b7, rfl, c7, c8⟩ := id k9.old
 have c7 := RdSl.old c7
 have c8 := RdSl.old c8
 refine ⟨_, rfl, ?_⟩
 have hsub := hsub.trans g2
 have a6 := a6.mono g2
 have a7 := a7.mono g2
 have a3 := a3.mono g2
 have a4 := a4.mono g2
 have sB := sB.trans g2
 have e6 := Sub.refl o4
 refine r_alloc (z := vA ([vN] ++ [vN])) ([vN] ++ [vN]).toArray ze29.zero rfl hS rfl ?_
 intro e8 z3 hS
 refine r_storeAll (v := vA ([b6] ++ [b7])) (vs := ([b6] ++ [b7]).toArray) (cs := ([vN] ++ [vN]).toArray) ty29 rfl rfl rfl hS rfl (one_app (one1 c7.isOne) (one1 c8.isOne)) rfl ?_
 intro z4 hS
 refine reg_nil (run_seq (run_region ?_))
 refine r_loadAll ty29 rfl (hS.get mL) rfl rfl (r_move (vI a1) rfl rfl (r_move (vI a2) rfl rfl ?_))
 have i8 := hsub
 have p4 := sB
 have j9 := e6
 obtain ⟨a5, p5, q0⟩ := bind_some q0
 refine r_callFn Tryz.call67 (args3 rfl rfl rfl) rfl (g_impl_ScaleGenerator_ok p5 c7 c8 hS) ?_
 rintro z5 z6 ⟨_, o5, rfl, f5, hS, v1, _, rfl, g3, rfl⟩
 obtain ⟨b2, b3, rfl, b8, b9⟩ := id g3.old
 have b8 := RdSl.old b8
 have b9 := RdSl.old b9
 refine ⟨_, rfl, ?_⟩
 have hsub := hsub.trans f5
 have c7 := c7.mono f5
 have c8 := c8.mono f5
 have a6 := a6.mono f5
 have a7 := a7.mono f5
 have a3 := a3.mono f5
 have a4 := a4.mono f5
 have sB := sB.trans f5
 have e6 := e6.trans f5
 have c2 := Sub.refl o5
 refine r_move (Value.tuple #[vA ([b2] ++ [b3]), vI a5.2]) rfl rfl (r_extract (vA ([b2] ++ [b3])) rfl rfl rfl (r_extract (vI a5.2) rfl rfl rfl ?_))
 refine r_alloc (z := vA ([vN] ++ [vN])) ([vN] ++ [vN]).toArray ze29.zero rfl hS rfl ?_
 intro d7 z7 hS
 refine r_storeAll (v := vA ([b2] ++ [b3])) (vs := ([b2] ++ [b3]).toArray) (cs := ([vN] ++ [vN]).toArray) ty29 rfl rfl rfl hS rfl (one_app (one1 b8.isOne) (one1 b9.isOne)) rfl ?_
 intro z8 hS
 refine r_assign (vI a5.2) rfl rfl (reg_nil (run_seq (run_seq ?_)))
 refine run_cut (fun f w => ∃ (e3 : Bool) (H1 : FH), g_laws_FnExactScaleGenerator_j1 K a0 a1 a2 c6 a5 r9 e3 = some r ∧ Sub H H1 ∧ St H1 w ([(d7, cA ([b2] ++ [b3]) 29)] ++ ([(e8, cA ([b6] ++ [b7]) 29)] ++ ([(e5, cA ([a8] ++ [a9]) 29)] ++ ([(b1, cA ([s0] ++ [s1]) 25)] ++ L)))) ∧ RdSl (tyInt .i64) H1 b6 c6.1 ∧ RdSl (tyInt .i64) H1 b2 a5.1.1 ∧ RdSl (tySl yT) H1 b7 c6.2 ∧ RdSl (tySl yT) H1 b3 a5.1.2 ∧ RdSl (tyInt .i64) H1 s0 a0.1 ∧ RdSl (tySl yT) H1 s1 a0.2 ∧ RdSl (tyInt .i64) H1 a8 r9.1.1 ∧ RdSl (tySl yT) H1 a9 r9.1.2 ∧ ev f (.tmp 1) = vI a1 ∧ ev f (.tmp 2) = vI a2 ∧ ev f (.tmp 3) = vP b1 ∧ ev f (.tmp 8) = vP e5 ∧ ev f (.tmp 9) = vI r9.2 ∧ ev f (.tmp 10) = vP e8 ∧ ev f (.tmp 11) = vP d7 ∧ ev f (.tmp 12) = vI a5.2 ∧ ev f (.tmp 48) = Value.bool e3 ∧ Sub H9.noM H1 ∧ Sub o4 H1 ∧ Sub o5 H1) ?_ ?_
 rintro z9 t4 ⟨e3, t5, c1, hsub, hS, c7, b8, c8, b9, a6, a7, a3, a4, l0, l1, i9, l2, l3, h6, k0, k1, h7, sB, e6, c2⟩
 unfold g_laws_FnExactScaleGenerator_j1 at c1
 by_cases i0 : e3 = true
 rw [if_pos i0] at c1
 refine run_cond_true (Eq.trans (by exact h7) (congrArg Value.bool i0)) (run_seq (run_region (r_assign (Value.bool false) rfl rfl (reg_nil ?_))))
 refine run_ret (vs := [Value.bool false]) Tryz.func10 ⟨rfl, trivial⟩ ?_
 have hz := Option.some.inj c1
 subst hz
 exact ⟨_, _, rfl, hsub, (St.dropA (A := [(b1, cA ([s0] ++ [s1]) 25)]) (St.dropA (A := [(e5, cA ([a8] ++ [a9]) 29)]) (St.dropA (A := [(e8, cA ([b6] ++ [b7]) 29)]) (St.dropA (A := [(d7, cA ([b2] ++ [b3]) 29)]) hS)))), rfl⟩
 rw [if_neg i0] at c1
 refine run_cond_false (Eq.trans (by exact h7) (congrArg Value.bool (bfalse i0))) (run_skip (run_seq (run_seq ?_)))
 obtain ⟨i6, p6, c1⟩ := bind_some c1
 obtain ⟨g4, p7, c1⟩ := bind_some c1
 refine run_draw 5 (tabL [(49, MP.eq (vA ([b6] ++ [b7]))), (50, MP.eq (vA ([s0] ++ [s1]))), (51, MP.rep (R.agg (tyPr (tySl (tyInt .i64)) (tySl (tySl yT)))) (i6)), (52, MP.eq (Value.bool g4)), (53, MP.eq (Value.bool (!g4)))]) [] mixed rfl rfl rfl hS (hop_q rfl ?_ (hop_q rfl ?_ (hop_q rfl ?_ (hop_q rfl ?_ (hop_q rfl ?_ hop_nil))))) ?_
 intro f28 w29 H30 X31 v2 hS p8 v3 hcq
 refine r_loadAll ty29 (evT (p8 10 rfl) h6) (hS.get (mR (mR mL))) rfl rfl ?_
 exact qn (.refl _) rfl hS rfl
 intro f37 w38 H39 X40 v4 hS p9 v5 hcq
 refine r_loadAll ty25 (evT (p9 3 rfl) i9) (hS.get (mR (mR (mR (mR mL))))) rfl rfl ?_
 exact qn (.refl _) rfl hS rfl
 intro r6 w47 H48 X49 l4 hS v6 q1 hcq
 have a6 := a6.mono l4
 have a7 := a7.mono l4
 have r8 : ev r6 (.tmp 50) = vA ([s0] ++ [s1]) := q1 1 50 rfl rfl
 refine r_callFn Tryz.call17 (args1 r8) rfl (g_laws_toAlgebra_ok p6 a6 a7 hS) ?_
 rintro e55 w56 ⟨s2, H55, rfl, q2, hS, j2⟩
 refine ⟨s2, rfl, ?_⟩
 have j2 := AlgN.rep j2
 exact qn q2 rfl hS j2
 intro o6 w58 s3 X60 l5 hS v7 l6 hcq
 have c7 := c7.mono l5
 have c8 := c8.mono l5
 have s4 : ev o6 (.tmp 49) = vA ([b6] ++ [b7]) := l6 0 49 rfl rfl
 obtain ⟨s5, o7⟩ : ∃ v, ev o6 (.tmp 51) = v := ⟨_, rfl⟩
 have q3 : (R.agg (tyPr (tySl (tyInt .i64)) (tySl (tySl yT)))).p s3 s5 (i6) := o7 ▸ (l6 2 51 rfl rfl)
 obtain ⟨_, rfl, ⟨_, _, rfl, ⟨t6, rfl, l7⟩, ⟨t7, rfl, l9⟩⟩⟩ := q3
 refine r_callFn Tryz.call19 (args2 s4 o7) rfl (g_laws_eqAlgebra_ok p7 c7 c8 l7 l9 hS) ?_
 rintro e68 w69 ⟨_, H68, rfl, q4, hS, rfl⟩
 refine ⟨_, rfl, ?_⟩
 exact qn q4 rfl hS rfl
 intro s6 w71 H72 X73 v8 hS v9 q5 hcq
 have s7 : ev s6 (.tmp 52) = Value.bool g4 := q5 3 52 rfl rfl
 refine r_not (b := g4) s7 rfl ?_
 exact qn (.refl _) rfl hS rfl
 intro s8 s9 t0 f4 hS f7 q6 hcq
 have hS : St t0 s9 ([(d7, cA ([b2] ++ [b3]) 29)] ++ ([(e8, cA ([b6] ++ [b7]) 29)] ++ ([(e5, cA ([a8] ++ [a9]) 29)] ++ ([(b1, cA ([s0] ++ [s1]) 25)] ++ L)))) := hS
 have hsub := hsub.trans f4
 have b8 := b8.mono f4
 have b9 := b9.mono f4
 have a3 := a3.mono f4
 have a4 := a4.mono f4
 have a6 := a6.mono f4
 have a7 := a7.mono f4
 have sB := sB.trans f4
 have e6 := e6.trans f4
 have c2 := c2.trans f4
 have m0 := evT (f7 1 rfl) l0
 have m1 := evT (f7 2 rfl) l1
 have m2 := evT (f7 3 rfl) i9
 have j6 := evT (f7 8 rfl) l2
 have j7 := evT (f7 9 rfl) l3
 have j8 := evT (f7 11 rfl) k0
 have o8 : ev s8 (.tmp 53) = Value.bool (!g4) := q6 4 53 (by decide) rfl
 refine reg_nil ?_
 by_cases i1 : g4 = true
 rw [if_pos i1] at c1
 refine run_cond_false (Eq.trans (by exact o8) (congrArg (fun b => Value.bool (!b)) i1)) (run_skip (run_seq (run_region (r_assign (vI 1) rfl rfl (reg_nil (run_seq (run_region ?_)))))))
 refine r_loadAll ty29 (by exact (evT (f7 10 rfl) h6)) (hS.get (mR mL)) rfl rfl (r_move (vI 1) rfl rfl ?_)
 obtain ⟨q7, c1⟩ := gd c1
 refine r_callFn Tryz.call20 (args2 rfl rfl) rfl (markAlg_ok k9 e6 q7 (lim_of hL i7 hsub) hS) ?_
 rintro e96 w97 ⟨m3, rfl, hS, f8, f9, i2⟩
 refine ⟨_, rfl, ?_⟩
 have hsub := i2 H hsub hM (fun b h => .inl (sub_ne i7 b h))
 have g3 := AlgN.tr (g3.mono c2) (i2 _ (new_sub _ _) (fun _ => rfl) (new_apart j9))
 have sB := i2 _ sB (fun _ => rfl) (fun b h => .inl (sub_ne p2 b h))
 have c2 := Sub.refl m3
 have b8 := (AlgN.rd g3).1
 have b9 := (AlgN.rd g3).2
 have a6 := j4.mono sB
 have a7 := j5.mono sB
 have a3 := g5.mono sB
 have a4 := g6.mono sB
 refine r_assign (vI (1 + cntA c6)) rfl rfl (reg_nil (run_seq (run_seq ?_)))
 refine run_cut (fun f w => ∃ (e2 : Bool) (H1 : FH), g_laws_FnExactScaleGenerator_j2 K a0 a1 a2 a5 r9 e2 = some r ∧ Sub H H1 ∧ St H1 w ([(d7, cA ([b2] ++ [b3]) 29)] ++ ([(e8, cA ([b6] ++ [b7]) 29)] ++ ([(e5, cA ([a8] ++ [a9]) 29)] ++ ([(b1, cA ([s0] ++ [s1]) 25)] ++ L)))) ∧ RdSl (tyInt .i64) H1 b2 a5.1.1 ∧ RdSl (tySl yT) H1 b3 a5.1.2 ∧ RdSl (tyInt .i64) H1 b6 ((mkA c6 1).1) ∧ RdSl (tySl yT) H1 b7 ((mkA c6 1).2) ∧ RdSl (tyInt .i64) H1 s0 a0.1 ∧ RdSl (tySl yT) H1 s1 a0.2 ∧ RdSl (tyInt .i64) H1 a8 r9.1.1 ∧ RdSl (tySl yT) H1 a9 r9.1.2 ∧ ev f (.tmp 1) = vI a1 ∧ ev f (.tmp 2) = vI a2 ∧ ev f (.tmp 3) = vP b1 ∧ ev f (.tmp 8) = vP e5 ∧ ev f (.tmp 9) = vI r9.2 ∧ ev f (.tmp 11) = vP d7 ∧ ev f (.tmp 69) = Value.bool e2 ∧ Sub H9.noM H1 ∧ Sub m3 H1) ?_ ?_
 rintro fj2 t8 ⟨e2, t9, b0, hsub, hS, b8, b9, f8, f9, a6, a7, a3, a4, m4, m5, m6, m7, m8, g0, h8, sB, c2⟩
 unfold g_laws_FnExactScaleGenerator_j2 at b0
 by_cases i3 : e2 = true
 rw [if_pos i3] at b0
 refine run_cond_true (Eq.trans (by exact h8) (congrArg Value.bool i3)) (run_seq (run_region (r_assign (Value.bool false) rfl rfl (reg_nil ?_))))
 refine run_ret (vs := [Value.bool false]) Tryz.func10 ⟨rfl, trivial⟩ ?_
 have hz := Option.some.inj b0
 subst hz
 exact ⟨_, _, rfl, hsub, (St.dropA (A := [(b1, cA ([s0] ++ [s1]) 25)]) (St.dropA (A := [(e5, cA ([a8] ++ [a9]) 29)]) (St.dropA (A := [(e8, cA ([b6] ++ [b7]) 29)]) (St.dropA (A := [(d7, cA ([b2] ++ [b3]) 29)]) hS)))), rfl⟩
 rw [if_neg i3] at b0
 refine run_cond_false (Eq.trans (by exact h8) (congrArg Value.bool (bfalse i3))) (run_skip (run_seq (run_region (r_assign (vI 1) rfl rfl (reg_nil (run_seq (run_region ?_)))))))
 refine r_loadAll ty29 (by exact g0) (hS.get mL) rfl rfl (r_move (vI 1) rfl rfl ?_)
 obtain ⟨q8, b0⟩ := gd b0
 refine r_callFn Tryz.call20 (args2 rfl rfl) rfl (markAlg_ok g3 c2 q8 (lim_of hL i8 hsub) hS) ?_
 rintro w0 w1 ⟨w3, rfl, hS, b4, b5, j0⟩
 refine ⟨_, rfl, ?_⟩
 have hsub := j0 H hsub hM (fun b h => .inl (sub_ne i8 b h))
 have sB := j0 _ sB (fun _ => rfl) (fun b h => .inl (sub_ne p4 b h))
 have a6 := j4.mono sB
 have a7 := j5.mono sB
 have a3 := g5.mono sB
 have a4 := g6.mono sB
 refine r_assign (vI (1 + cntA a5.1)) rfl rfl (reg_nil (run_seq (run_region (r_assign (vI 1) rfl rfl (reg_nil (run_seq (run_region ?_)))))))
 refine r_loadAll ty29 (by exact g0) (hS.get mL) rfl rfl (r_move (vI 1) rfl rfl ?_)
 obtain ⟨f3, n5, b0⟩ := bind_some b0
 refine r_callFn Tryz.call21 (args2 rfl rfl) rfl (g_laws_heldAlgebra_ok n5 b4 b5 hS) ?_
 rintro w4 w6 ⟨_, w7, rfl, f0, hS, rfl⟩
 refine ⟨_, rfl, ?_⟩
 have hsub := hsub.trans f0
 have b4 := b4.mono f0
 have b5 := b5.mono f0
 have a3 := a3.mono f0
 have a4 := a4.mono f0
 have a6 := a6.mono f0
 have a7 := a7.mono f0
 have sB := sB.trans f0
 refine r_assign (vI f3) rfl rfl (reg_nil (run_seq (run_seq (run_region (r_move (vI f3) rfl rfl ?_)))))
 refine r_lss (k := .i64) (a := f3) (b := 0) rfl rfl rfl (reg_nil ?_)
 by_cases g7 : f3 < 0
 rw [if_pos g7] at b0
 refine run_cond_true (Eq.trans rfl (congrArg Value.bool (decide_eq_true g7))) (run_seq (run_region (r_assign (Value.bool false) rfl rfl (reg_nil ?_))))
 refine run_ret (vs := [Value.bool false]) Tryz.func10 ⟨rfl, trivial⟩ ?_
 have hz := Option.some.inj b0
 subst hz
 exact ⟨_, _, rfl, hsub, (St.dropA (A := [(b1, cA ([s0] ++ [s1]) 25)]) (St.dropA (A := [(e5, cA ([a8] ++ [a9]) 29)]) (St.dropA (A := [(e8, cA ([b6] ++ [b7]) 29)]) (St.dropA (A := [(d7, cA ([b2] ++ [b3]) 29)]) hS)))), rfl⟩
 rw [if_neg g7] at b0
 refine run_cond_false (Eq.trans rfl (congrArg Value.bool (decide_eq_false g7))) (run_skip (run_seq (run_seq (run_region (r_move (vI f3) rfl rfl (r_move (vI (1 + cntA a5.1)) rfl rfl ?_))))))
 refine r_neq (k := .i64) (a := f3) (b := (1 + cntA a5.1)) rfl rfl rfl (reg_nil ?_)
 by_cases g8 : f3 = (1 + cntA a5.1)
 rw [if_pos g8] at b0
 refine run_cond_false (Eq.trans rfl (congrArg (fun b => Value.bool (!b)) (decide_eq_true g8))) (run_skip (run_seq (run_region ?_)))
 refine r_loadAll ty25 (by exact m6) (hS.get (mR (mR (mR mL)))) rfl rfl ?_
 have q9 := hsub
 have u0 := sB
 obtain ⟨j1, n6, b0⟩ := bind_some b0
 refine r_callFn Tryz.call17 (args1 rfl) rfl (g_laws_toAlgebra_ok n6 a6 a7 hS) ?_
 rintro w9 x0 ⟨u1, m9, rfl, f1, hS, n7⟩
 obtain ⟨u2, u3, rfl, i4, i5⟩ := id n7.old
 have i4 := RdSl.old i4
 have i5 := RdSl.old i5
 refine ⟨_, rfl, ?_⟩
 have hsub := hsub.trans f1
 have a6 := a6.mono f1
 have a7 := a7.mono f1
 have b4 := b4.mono f1
 have b5 := b5.mono f1
 have a3 := a3.mono f1
 have a4 := a4.mono f1
 have sB := sB.trans f1
 have d1 := Sub.refl m9
 refine r_move (vI a1) (by exact m4) rfl (r_move (vI a2) (by exact m5) rfl ?_)
 have r0 := hsub
 have u4 := sB
 have o9 := d1
 obtain ⟨d0, n8, b0⟩ := bind_some b0
 refine r_callFn Tryz.call67 (args3 rfl rfl rfl) rfl (g_impl_ScaleGenerator_ok n8 i4 i5 hS) ?_
 rintro x1 x2 ⟨_, n0, rfl, d8, hS, u5, _, rfl, n9, rfl⟩
 obtain ⟨d2, d3, rfl, d9, e0⟩ := id n9.old
 have d9 := RdSl.old d9
 have e0 := RdSl.old e0
 refine ⟨_, rfl, ?_⟩
 have hsub := hsub.trans d8
 have a6 := a6.mono d8
 have a7 := a7.mono d8
 have b4 := b4.mono d8
 have b5 := b5.mono d8
 have a3 := a3.mono d8
 have a4 := a4.mono d8
 have sB := sB.trans d8
 have d1 := d1.trans d8
 have f6 := Sub.refl n0
 refine r_move (Value.tuple #[vA ([d2] ++ [d3]), vI d0.2]) rfl rfl (r_extract (vA ([d2] ++ [d3])) rfl rfl rfl (r_extract (vI d0.2) rfl rfl rfl ?_))
 refine r_alloc (z := vA ([vN] ++ [vN])) ([vN] ++ [vN]).toArray ze29.zero rfl hS rfl ?_
 intro h5 x3 hS
 refine r_storeAll (v := vA ([d2] ++ [d3])) (vs := ([d2] ++ [d3]).toArray) (cs := ([vN] ++ [vN]).toArray) ty29 rfl rfl rfl hS rfl (one_app (one1 d9.isOne) (one1 e0.isOne)) rfl ?_
 intro x4 hS
 refine r_assign (vI d0.2) rfl rfl (reg_nil (run_seq (run_seq ?_)))
 refine run_cut (fun f w => ∃ (e1 : Bool) (H1 : FH), g_laws_FnExactScaleGenerator_j3 K a5 e1 = some r ∧ Sub H H1 ∧ St H1 w ([(h5, cA ([d2] ++ [d3]) 29)] ++ ([(d7, cA ([b2] ++ [b3]) 29)] ++ ([(e8, cA ([b6] ++ [b7]) 29)] ++ ([(e5, cA ([a8] ++ [a9]) 29)] ++ ([(b1, cA ([s0] ++ [s1]) 25)] ++ L))))) ∧ RdSl (tyInt .i64) H1 d2 d0.1.1 ∧ RdSl (tySl yT) H1 d3 d0.1.2 ∧ RdSl (tyInt .i64) H1 b2 ((mkA a5.1 1).1) ∧ RdSl (tySl yT) H1 b3 ((mkA a5.1 1).2) ∧ RdSl (tyInt .i64) H1 s0 a0.1 ∧ RdSl (tySl yT) H1 s1 a0.2 ∧ RdSl (tyInt .i64) H1 a8 r9.1.1 ∧ RdSl (tySl yT) H1 a9 r9.1.2 ∧ ev f (.tmp 11) = vP d7 ∧ ev f (.tmp 14) = vI (1 + cntA a5.1) ∧ ev f (.tmp 97) = Value.bool e1 ∧ Sub H9.noM H1 ∧ Sub m9 H1 ∧ Sub n0 H1) ?_ ?_
 rintro fj3 u6 ⟨e1, u7, c0, hsub, hS, d9, e0, b4, b5, a6, a7, a3, a4, k2, k3, h9, sB, d1, f6⟩
 unfold g_laws_FnExactScaleGenerator_j3 at c0
 by_cases g9 : e1 = true
 rw [if_pos g9] at c0
 refine run_cond_true (Eq.trans (by exact h9) (congrArg Value.bool g9)) (run_seq (run_region (r_assign (Value.bool false) rfl rfl (reg_nil ?_))))
 refine run_ret (vs := [Value.bool false]) Tryz.func10 ⟨rfl, trivial⟩ ?_
 have hz := Option.some.inj c0
 subst hz
 exact ⟨_, _, rfl, hsub, (St.dropA (A := [(b1, cA ([s0] ++ [s1]) 25)]) (St.dropA (A := [(e5, cA ([a8] ++ [a9]) 29)]) (St.dropA (A := [(e8, cA ([b6] ++ [b7]) 29)]) (St.dropA (A := [(d7, cA ([b2] ++ [b3]) 29)]) (St.dropA (A := [(h5, cA ([d2] ++ [d3]) 29)]) hS))))), rfl⟩
 rw [if_neg g9] at c0
 refine run_cond_false (Eq.trans (by exact h9) (congrArg Value.bool (bfalse g9))) (run_skip (run_seq (run_region (r_assign (vI 1) rfl rfl (reg_nil (run_seq (run_region ?_)))))))
 refine r_loadAll ty29 (by exact k2) (hS.get (mR mL)) rfl rfl (r_move (vI 1) rfl rfl ?_)
 obtain ⟨f2, o0, c0⟩ := bind_some c0
 refine r_callFn Tryz.call21 (args2 rfl rfl) rfl (g_laws_heldAlgebra_ok o0 b4 b5 hS) ?_
 rintro x5 x6 ⟨_, x7, rfl, h0, hS, rfl⟩
 refine ⟨_, rfl, ?_⟩
 have hsub := hsub.trans h0
 have sB := sB.trans h0
 have d1 := d1.trans h0
 have f6 := f6.trans h0
 refine r_assign (vI f2) rfl rfl (reg_nil (run_seq (run_seq (run_region (r_move (vI f2) rfl rfl ?_)))))
 refine r_lss (k := .i64) (a := f2) (b := 0) rfl rfl rfl (reg_nil ?_)
 by_cases h1 : f2 < 0
 rw [if_pos h1] at c0
 refine run_cond_true (Eq.trans rfl (congrArg Value.bool (decide_eq_true h1))) (run_seq (run_region (r_assign (Value.bool false) rfl rfl (reg_nil ?_))))
 refine run_ret (vs := [Value.bool false]) Tryz.func10 ⟨rfl, trivial⟩ ?_
 have hz := Option.some.inj c0
 subst hz
 exact ⟨_, _, rfl, hsub, (St.dropA (A := [(b1, cA ([s0] ++ [s1]) 25)]) (St.dropA (A := [(e5, cA ([a8] ++ [a9]) 29)]) (St.dropA (A := [(e8, cA ([b6] ++ [b7]) 29)]) (St.dropA (A := [(d7, cA ([b2] ++ [b3]) 29)]) (St.dropA (A := [(h5, cA ([d2] ++ [d3]) 29)]) hS))))), rfl⟩
 rw [if_neg h1] at c0
 refine run_cond_false (Eq.trans rfl (congrArg Value.bool (decide_eq_false h1))) (run_skip (run_seq (run_seq (run_region (r_move (vI f2) rfl rfl (r_move (vI (1 + cntA a5.1)) (by exact k3) rfl ?_))))))
 refine r_neq (k := .i64) (a := f2) (b := (1 + cntA a5.1)) rfl rfl rfl (reg_nil ?_)
 by_cases h2 : f2 = (1 + cntA a5.1)
 rw [if_pos h2] at c0
 refine run_cond_false (Eq.trans rfl (congrArg (fun b => Value.bool (!b)) (decide_eq_true h2))) (run_skip (run_seq (run_region (r_assign (Value.bool true) rfl rfl (reg_nil ?_)))))
 refine run_ret (vs := [Value.bool true]) Tryz.func10 ⟨rfl, trivial⟩ ?_
 have hz := Option.some.inj c0
 subst hz
 exact ⟨_, _, rfl, hsub, (St.dropA (A := [(b1, cA ([s0] ++ [s1]) 25)]) (St.dropA (A := [(e5, cA ([a8] ++ [a9]) 29)]) (St.dropA (A := [(e8, cA ([b6] ++ [b7]) 29)]) (St.dropA (A := [(d7, cA ([b2] ++ [b3]) 29)]) (St.dropA (A := [(h5, cA ([d2] ++ [d3]) 29)]) hS))))), rfl⟩
 rw [if_neg h2] at c0
 refine run_cond_true (Eq.trans rfl (congrArg (fun b => Value.bool (!b)) (decide_eq_false h2))) (run_seq (run_region (r_assign (Value.bool false) rfl rfl (reg_nil ?_))))
 refine run_ret (vs := [Value.bool false]) Tryz.func10 ⟨rfl, trivial⟩ ?_
 have hz := Option.some.inj c0
 subst hz
 exact ⟨_, _, rfl, hsub, (St.dropA (A := [(b1, cA ([s0] ++ [s1]) 25)]) (St.dropA (A := [(e5, cA ([a8] ++ [a9]) 29)]) (St.dropA (A := [(e8, cA ([b6] ++ [b7]) 29)]) (St.dropA (A := [(d7, cA ([b2] ++ [b3]) 29)]) (St.dropA (A := [(h5, cA ([d2] ++ [d3]) 29)]) hS))))), rfl⟩
 intro p0
 refine run_region ?_
 refine r_loadAll ty29 rfl (hS.get mL) rfl rfl ?_
 refine r_loadAll ty29 (by exact m7) (hS.get (mR (mR (mR mL)))) rfl rfl ?_
 obtain ⟨h3, o1, b0⟩ := bind_some b0
 refine r_callFn Tryz.call19 (args2 rfl rfl) rfl (g_laws_eqAlgebra_ok o1 d9 e0 a3 a4 hS) ?_
 rintro x8 x9 ⟨_, n1, rfl, c3, hS, rfl⟩
 refine ⟨_, rfl, ?_⟩
 have hsub := hsub.trans c3
 have d9 := d9.mono c3
 have e0 := e0.mono c3
 have a3 := a3.mono c3
 have a4 := a4.mono c3
 have b4 := b4.mono c3
 have b5 := b5.mono c3
 have a6 := a6.mono c3
 have a7 := a7.mono c3
 have sB := sB.trans c3
 have d1 := d1.trans c3
 have f6 := f6.trans c3
 refine r_not (b := h3) rfl rfl (r_move (Value.bool (!h3)) rfl rfl ?_)
 by_cases d4 : h3 = true
 rw [if_pos d4] at b0
 refine reg_guard rfl rfl (Eq.trans rfl (congrArg (fun b => Value.bool (!b)) d4)) (r_move (vI d0.2) rfl rfl ?_)
 refine reg_guard rfl rfl (Eq.trans rfl (congrArg (fun b => Value.bool (!b)) d4)) (r_move (vI r9.2) (by exact m8) rfl ?_)
 refine reg_guard rfl rfl (Eq.trans rfl (congrArg (fun b => Value.bool (!b)) d4)) ?_
 refine r_neq (k := .i64) (a := d0.2) (b := r9.2) rfl rfl rfl ?_
 refine r_pick (t := false) (Value.bool (!decide (d0.2 = r9.2))) (Eq.trans rfl (congrArg (fun b => Value.bool (!b)) d4)) ((if_neg Bool.false_ne_true).trans rfl) rfl (reg_nil ?_)
 exact p0 _ _ ⟨(!decide (d0.2 = r9.2)), n1, b0, hsub, hS, d9, e0, b4, b5, a6, a7, a3, a4, g0, rfl, rfl, sB, d1, f6⟩
 rw [if_neg d4] at b0
 refine reg_unguard rfl rfl (Eq.trans rfl (congrArg (fun b => Value.bool (!b)) (bfalse d4))) rfl rfl rfl (reg_unguard rfl rfl (Eq.trans rfl (congrArg (fun b => Value.bool (!b)) (bfalse d4))) rfl rfl rfl (reg_unguard rfl rfl (Eq.trans rfl (congrArg (fun b => Value.bool (!b)) (bfalse d4))) rfl rfl rfl ?_))
 refine r_pick (t := true) (Value.bool true) (Eq.trans rfl (congrArg (fun b => Value.bool (!b)) (bfalse d4))) ((if_pos rfl).trans rfl) rfl (reg_nil ?_)
 exact p0 _ _ ⟨true, n1, b0, hsub, hS, d9, e0, b4, b5, a6, a7, a3, a4, g0, rfl, rfl, sB, d1, f6⟩
 rw [if_neg g8] at b0
 refine run_cond_true (Eq.trans rfl (congrArg (fun b => Value.bool (!b)) (decide_eq_false g8))) (run_seq (run_region (r_assign (Value.bool false) rfl rfl (reg_nil ?_))))
 refine run_ret (vs := [Value.bool false]) Tryz.func10 ⟨rfl, trivial⟩ ?_
 have hz := Option.some.inj b0
 subst hz
 exact ⟨_, _, rfl, hsub, (St.dropA (A := [(b1, cA ([s0] ++ [s1]) 25)]) (St.dropA (A := [(e5, cA ([a8] ++ [a9]) 29)]) (St.dropA (A := [(e8, cA ([b6] ++ [b7]) 29)]) (St.dropA (A := [(d7, cA ([b2] ++ [b3]) 29)]) hS)))), rfl⟩
 intro n2
 refine run_region (r_move (vI (1 + cntA c6)) rfl rfl ?_)
 refine r_lss (k := .i64) (a := (1 + cntA c6)) (b := 0) rfl rfl rfl (r_move (Value.bool (decide ((1 + cntA c6) < 0))) rfl rfl ?_)
 by_cases c4 : (1 + cntA c6) < 0
 rw [if_pos c4] at c1
 refine reg_unguard rfl rfl (Eq.trans rfl (congrArg Value.bool (decide_eq_true c4))) rfl rfl rfl (reg_unguard rfl rfl (Eq.trans rfl (congrArg Value.bool (decide_eq_true c4))) rfl rfl rfl (reg_unguard rfl rfl (Eq.trans rfl (congrArg Value.bool (decide_eq_true c4))) rfl rfl rfl (reg_unguard rfl rfl (Eq.trans rfl (congrArg Value.bool (decide_eq_true c4))) rfl rfl rfl ?_)))
 refine r_pick (t := true) (Value.bool true) (Eq.trans rfl (congrArg Value.bool (decide_eq_true c4))) ((if_pos rfl).trans rfl) rfl (r_move (Value.bool true) rfl rfl (reg_unguard rfl rfl rfl rfl rfl rfl (reg_unguard rfl rfl rfl rfl rfl rfl (reg_unguard rfl rfl rfl rfl rfl rfl ?_))))
 refine r_pick (t := true) (Value.bool true) rfl ((if_pos rfl).trans rfl) rfl (reg_nil ?_)
 exact n2 _ _ ⟨true, m3, c1, hsub, hS, b8, b9, f8, f9, a6, a7, a3, a4, m0, m1, m2, j6, j7, j8, rfl, sB, c2⟩
 rw [if_neg c4] at c1
 refine reg_guard rfl rfl (Eq.trans rfl (congrArg Value.bool (decide_eq_false c4))) ?_
 refine r_loadAll ty29 (by exact j8) (hS.get mL) rfl rfl ?_
 refine reg_guard rfl rfl (Eq.trans rfl (congrArg Value.bool (decide_eq_false c4))) ?_
 refine r_loadAll ty29 (by exact j6) (hS.get (mR (mR mL))) rfl rfl ?_
 obtain ⟨g1, o2, c1⟩ := bind_some c1
 refine reg_guard rfl rfl (Eq.trans rfl (congrArg Value.bool (decide_eq_false c4))) ?_
 refine r_callFn Tryz.call19 (args2 rfl rfl) rfl (g_laws_eqAlgebra_ok o2 b8 b9 a3 a4 hS) ?_
 rintro y0 y1 ⟨_, n3, rfl, c9, hS, rfl⟩
 refine ⟨_, rfl, ?_⟩
 have hsub := hsub.trans c9
 have b8 := b8.mono c9
 have b9 := b9.mono c9
 have a3 := a3.mono c9
 have a4 := a4.mono c9
 have f8 := f8.mono c9
 have f9 := f9.mono c9
 have a6 := a6.mono c9
 have a7 := a7.mono c9
 have sB := sB.trans c9
 have c2 := c2.trans c9
 refine reg_guard rfl rfl (Eq.trans rfl (congrArg Value.bool (decide_eq_false c4))) (r_not (b := g1) rfl rfl ?_)
 refine r_pick (t := false) (Value.bool (!g1)) (Eq.trans rfl (congrArg Value.bool (decide_eq_false c4))) ((if_neg Bool.false_ne_true).trans rfl) rfl (r_move (Value.bool (!g1)) rfl rfl ?_)
 by_cases d5 : g1 = true
 rw [if_pos d5] at c1
 refine reg_guard rfl rfl (Eq.trans rfl (congrArg (fun b => Value.bool (!b)) d5)) (r_move (vI a5.2) (by exact (evT (f7 12 rfl) k1)) rfl ?_)
 refine reg_guard rfl rfl (Eq.trans rfl (congrArg (fun b => Value.bool (!b)) d5)) (r_move (vI r9.2) (by exact j7) rfl ?_)
 refine reg_guard rfl rfl (Eq.trans rfl (congrArg (fun b => Value.bool (!b)) d5)) ?_
 refine r_neq (k := .i64) (a := a5.2) (b := r9.2) rfl rfl rfl ?_
 refine r_pick (t := false) (Value.bool (!decide (a5.2 = r9.2))) (Eq.trans rfl (congrArg (fun b => Value.bool (!b)) d5)) ((if_neg Bool.false_ne_true).trans rfl) rfl (reg_nil ?_)
 exact n2 _ _ ⟨(!decide (a5.2 = r9.2)), n3, c1, hsub, hS, b8, b9, f8, f9, a6, a7, a3, a4, m0, m1, m2, j6, j7, j8, rfl, sB, c2⟩
 rw [if_neg d5] at c1
 refine reg_unguard rfl rfl (Eq.trans rfl (congrArg (fun b => Value.bool (!b)) (bfalse d5))) rfl rfl rfl (reg_unguard rfl rfl (Eq.trans rfl (congrArg (fun b => Value.bool (!b)) (bfalse d5))) rfl rfl rfl (reg_unguard rfl rfl (Eq.trans rfl (congrArg (fun b => Value.bool (!b)) (bfalse d5))) rfl rfl rfl ?_))
 refine r_pick (t := true) (Value.bool true) (Eq.trans rfl (congrArg (fun b => Value.bool (!b)) (bfalse d5))) ((if_pos rfl).trans rfl) rfl (reg_nil ?_)
 exact n2 _ _ ⟨true, n3, c1, hsub, hS, b8, b9, f8, f9, a6, a7, a3, a4, m0, m1, m2, j6, j7, j8, rfl, sB, c2⟩
 rw [if_neg i1] at c1
 refine run_cond_true (Eq.trans (by exact o8) (congrArg (fun b => Value.bool (!b)) (bfalse i1))) (run_seq (run_region (r_assign (Value.bool false) rfl rfl (reg_nil ?_))))
 refine run_ret (vs := [Value.bool false]) Tryz.func10 ⟨rfl, trivial⟩ ?_
 have hz := Option.some.inj c1
 subst hz
 exact ⟨_, _, rfl, hsub, (St.dropA (A := [(b1, cA ([s0] ++ [s1]) 25)]) (St.dropA (A := [(e5, cA ([a8] ++ [a9]) 29)]) (St.dropA (A := [(e8, cA ([b6] ++ [b7]) 29)]) (St.dropA (A := [(d7, cA ([b2] ++ [b3]) 29)]) hS)))), rfl⟩
 intro p1
 refine run_region ?_
 refine r_loadAll ty29 rfl (hS.get mL) rfl rfl ?_
 refine r_loadAll ty29 rfl (hS.get (mR (mR mL))) rfl rfl ?_
 obtain ⟨h4, o3, q0⟩ := bind_some q0
 refine r_callFn Tryz.call19 (args2 rfl rfl) rfl (g_laws_eqAlgebra_ok o3 b8 b9 a3 a4 hS) ?_
 rintro y2 y3 ⟨_, n4, rfl, c5, hS, rfl⟩
 refine ⟨_, rfl, ?_⟩
 have hsub := hsub.trans c5
 have b8 := b8.mono c5
 have b9 := b9.mono c5
 have a3 := a3.mono c5
 have a4 := a4.mono c5
 have a6 := a6.mono c5
 have a7 := a7.mono c5
 have c7 := c7.mono c5
 have c8 := c8.mono c5
 have sB := sB.trans c5
 have e6 := e6.trans c5
 have c2 := c2.trans c5
 refine r_not (b := h4) rfl rfl (r_move (Value.bool (!h4)) rfl rfl ?_)
 by_cases d6 : h4 = true
 rw [if_pos d6] at q0
 refine reg_guard rfl rfl (Eq.trans rfl (congrArg (fun b => Value.bool (!b)) d6)) (r_move (vI a5.2) rfl rfl ?_)
 refine reg_guard rfl rfl (Eq.trans rfl (congrArg (fun b => Value.bool (!b)) d6)) (r_move (vI r9.2) rfl rfl ?_)
 refine reg_guard rfl rfl (Eq.trans rfl (congrArg (fun b => Value.bool (!b)) d6)) ?_
 refine r_neq (k := .i64) (a := a5.2) (b := r9.2) rfl rfl rfl ?_
 refine r_pick (t := false) (Value.bool (!decide (a5.2 = r9.2))) (Eq.trans rfl (congrArg (fun b => Value.bool (!b)) d6)) ((if_neg Bool.false_ne_true).trans rfl) rfl (reg_nil ?_)
 exact p1 _ _ ⟨(!decide (a5.2 = r9.2)), n4, q0, hsub, hS, c7, b8, c8, b9, a6, a7, a3, a4, rfl, rfl, rfl, rfl, rfl, rfl, rfl, rfl, rfl, sB, e6, c2⟩
 rw [if_neg d6] at q0
 refine reg_unguard rfl rfl (Eq.trans rfl (congrArg (fun b => Value.bool (!b)) (bfalse d6))) rfl rfl rfl (reg_unguard rfl rfl (Eq.trans rfl (congrArg (fun b => Value.bool (!b)) (bfalse d6))) rfl rfl rfl (reg_unguard rfl rfl (Eq.trans rfl (congrArg (fun b => Value.bool (!b)) (bfalse d6))) rfl rfl rfl ?_))
 refine r_pick (t := true) (Value.bool true) (Eq.trans rfl (congrArg (fun b => Value.bool (!b)) (bfalse d6))) ((if_pos rfl).trans rfl) rfl (reg_nil ?_)
 exact p1 _ _ ⟨true, n4, q0, hsub, hS, c7, b8, c8, b9, a6, a7, a3, a4, rfl, rfl, rfl, rfl, rfl, rfl, rfl, rfl, rfl, sB, e6, c2⟩
end Go.Proofs.YtfodlhkoafhplaaGreat
