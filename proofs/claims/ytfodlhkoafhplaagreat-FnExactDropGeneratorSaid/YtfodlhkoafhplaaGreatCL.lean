/- The walk of the law. -/
import Derived.Test.YtfodlhkoafhplaaGreatCF12
import Derived.Test.YtfodlhkoafhplaaGreatCF17
import Derived.Test.YtfodlhkoafhplaaGreatCF15
import Derived.Test.YtfodlhkoafhplaaGreatCF20
import Derived.Test.YtfodlhkoafhplaaGreatCF9
import Derived.Test.YtfodlhkoafhplaaGreatCX
import Derived.Test.YtfodlhkoafhplaaGreatCTy
namespace Go.Proofs.YtfodlhkoafhplaaGreat
open Go
set_option linter.unusedSimpArgs false
set_option linter.unusedVariables false
def g_laws_FnExactDropGenerator_j3 (K : Nat) (a5 : (((List Int) × (List MpT)) × Int)) (e1 : Bool) : Option Bool := (if e1 = true then some false else ((g_laws_heldAlgebra K ((mkA a5.1 1).1, (mkA a5.1 1).2) 1).bind fun f2 => (if f2 < 0 then some false else (if f2 = (1 + cntA a5.1) then some true else some false))))
def g_laws_FnExactDropGenerator_j2 (K : Nat) (a0 : ((List Int) × (List MpT))) (a1 : Int) (a5 : (((List Int) × (List MpT)) × Int)) (r9 : (((List Int) × (List MpT)) × Int)) (e2 : Bool) : Option Bool := (if e2 = true then some false else (if cntA a5.1 ≤ 1000000000000 ∧ 0 ≤ (1 : Int) ∧ (1 : Int) ≤ 1000000 then ((g_laws_heldAlgebra K ((mkA a5.1 1).1, (mkA a5.1 1).2) 1).bind fun f3 => (if f3 < 0 then some false else (if f3 = (1 + cntA a5.1) then ((g_laws_toAlgebra K (a0.1, a0.2)).bind fun j0 => ((g_impl_DropGenerator K (j0.1, j0.2) a1).bind fun d0 => ((g_laws_eqAlgebra K (d0.1.1, d0.1.2) (r9.1.1, r9.1.2)).bind fun h3 => (if h3 = true then g_laws_FnExactDropGenerator_j3 K a5 (!decide (d0.2 = r9.2)) else g_laws_FnExactDropGenerator_j3 K a5 true)))) else some false))) else none))
def g_laws_FnExactDropGenerator_j1 (K : Nat) (a0 : ((List Int) × (List MpT))) (a1 : Int) (c6 : ((List Int) × (List MpT))) (a5 : (((List Int) × (List MpT)) × Int)) (r9 : (((List Int) × (List MpT)) × Int)) (e3 : Bool) : Option Bool := (if e3 = true then some false else ((g_laws_toAlgebra K (a0.1, a0.2)).bind fun i5 => ((g_laws_eqAlgebra K (c6.1, c6.2) (i5.1, i5.2)).bind fun g4 => (if g4 = true then (if cntA c6 ≤ 1000000000000 ∧ 0 ≤ (1 : Int) ∧ (1 : Int) ≤ 1000000 then (if (1 + cntA c6) < 0 then g_laws_FnExactDropGenerator_j2 K a0 a1 a5 r9 true else ((g_laws_eqAlgebra K (a5.1.1, a5.1.2) (r9.1.1, r9.1.2)).bind fun g1 => (if g1 = true then g_laws_FnExactDropGenerator_j2 K a0 a1 a5 r9 (!decide (a5.2 = r9.2)) else g_laws_FnExactDropGenerator_j2 K a0 a1 a5 r9 true))) else none) else some false))))
def g_laws_FnExactDropGenerator (K : Nat) (a0 : ((List Int) × (List MpT))) (a1 : Int) : Option Bool := ((g_laws_szAlgebra K (a0.1, a0.2) 1048576).bind fun r4 => (if r4 < 0 then some true else ((g_laws_toAlgebra K (a0.1, a0.2)).bind fun r7 => ((g_spec_DropGenerator K (r7.1, r7.2) a1).bind fun r9 => ((g_laws_toAlgebra K (a0.1, a0.2)).bind fun c6 => ((g_impl_DropGenerator K (c6.1, c6.2) a1).bind fun a5 => ((g_laws_eqAlgebra K (a5.1.1, a5.1.2) (r9.1.1, r9.1.2)).bind fun h4 => (if h4 = true then g_laws_FnExactDropGenerator_j1 K a0 a1 c6 a5 r9 (!decide (a5.2 = r9.2)) else g_laws_FnExactDropGenerator_j1 K a0 a1 c6 a5 r9 true))))))))
set_option maxRecDepth 100000 in
set_option maxHeartbeats 1000000 in
theorem g_laws_FnExactDropGenerator_ok {K : Nat} {a0 : ((List Int) × (List MpT))} {a1 : Int} {r : Bool} (q0 : g_laws_FnExactDropGenerator K a0 a1 = some r) {H : FH} {w : World} {L : OL} {s0 : Value} {s1 : Value} (a6 : RdSl (tyInt .i64) H s0 a0.1) (a7 : RdSl (tySl yT) H s1 a0.2) (hM : ∀ b, H.memo b = none) (hL : ∀ b, b < H.lim → H b ≠ none) (hS : St H w L) :
 Calls Tryz.prog 3 #[Value.agg ([s0] ++ [s1]).toArray, vI a1] w (Done (fun v G => R.bool.p G v r) H L) := by
 have hsub := Sub.refl H
 refine calls_of_run Tryz.func3 rfl Tryz.ntmps3 rfl ?_
 unfold g_laws_FnExactDropGenerator at q0
 refine run_seq (run_region ?_)
 refine r_box (v := Value.agg ([s0] ++ [s1]).toArray) ([s0] ++ [s1]).toArray rfl rfl hS rfl ?_
 intro b1 w2 hS
 refine r_assign (Value.bool false) rfl rfl ?_
 refine reg_nil (run_seq ?_)
 refine run_region ?_
 refine r_assign (vI 1048576) rfl rfl ?_
 refine reg_nil (run_seq ?_)
 refine run_region ?_
 refine r_loadAll ty25 rfl (hS.get mL) rfl rfl ?_
 refine r_move (vI 1048576) rfl rfl ?_
 obtain ⟨r4, q8, q0⟩ := bind_some q0
 refine r_callFn Tryz.call15 (args2 rfl rfl) rfl (g_laws_szAlgebra_ok q8 a6 a7 hS) ?_
 rintro e4 w5 ⟨_, H4, rfl, k2, hS, rfl⟩
 refine ⟨_, rfl, ?_⟩
 have hsub := hsub.trans k2
 have a6 := a6.mono k2
 have a7 := a7.mono k2
 refine r_assign (vI r4) rfl rfl ?_
 refine reg_nil (run_seq ?_)
 refine run_seq (run_region ?_)
 refine r_move (vI r4) rfl rfl ?_
 refine r_lss (k := .i64) (a := r4) (b := 0) rfl rfl rfl ?_
 refine reg_nil ?_
 by_cases j2 : r4 < 0
 rw [if_pos j2] at q0
 refine run_cond_true (Eq.trans rfl (congrArg Value.bool (decide_eq_true j2))) ?_
 refine run_seq (run_region ?_)
 refine r_assign (Value.bool true) rfl rfl ?_
 refine reg_nil ?_
 refine run_ret (vs := [Value.bool true]) Tryz.func3 ⟨rfl, trivial⟩ ?_
 have hz := Option.some.inj q0
 subst hz
 exact ⟨_, _, rfl, hsub, (St.dropA (A := [(b1, .cells ([s0] ++ [s1]).toArray 25)]) hS), rfl⟩
 rw [if_neg j2] at q0
 refine run_cond_false (Eq.trans rfl (congrArg Value.bool (decide_eq_false j2))) ?_
 refine run_skip (run_seq ?_)
 refine run_region ?_
 refine r_loadAll ty25 rfl (hS.get mL) rfl rfl ?_
 have s8 := hsub
 obtain ⟨r7, q9, q0⟩ := bind_some q0
 refine r_callFn Tryz.call17 (args1 rfl) rfl (g_laws_toAlgebra_ok q9 a6 a7 hS) ?_
 rintro e7 w8 ⟨x9, H7, rfl, k3, hS, r0⟩
 obtain ⟨y0, y1, rfl, k4, k5⟩ := id r0.old
 have k4 := RdSl.old k4
 have k5 := RdSl.old k5
 refine ⟨_, rfl, ?_⟩
 have hsub := hsub.trans k3
 have a6 := a6.mono k3
 have a7 := a7.mono k3
 have y2 := Sub.refl H7
 refine r_move (vI a1) rfl rfl ?_
 obtain ⟨r9, r1, q0⟩ := bind_some q0
 refine r_callFn Tryz.call16 (args2 rfl rfl) rfl (g_spec_DropGenerator_ok r1 k4 k5 hS) ?_
 rintro e9 y3 ⟨_, H9, rfl, k6, hS, ⟨u5, u6, rfl, ⟨_, rfl, ⟨_, _, rfl, ⟨a8, rfl, a3⟩, ⟨a9, rfl, a4⟩⟩⟩, rfl⟩⟩
 refine ⟨_, rfl, ?_⟩
 have hsub := hsub.trans k6
 have a6 := a6.mono k6
 have a7 := a7.mono k6
 refine r_move (Value.tuple #[Value.agg ([a8] ++ [a9]).toArray, vI r9.2]) rfl rfl ?_
 refine r_extract (Value.agg ([a8] ++ [a9]).toArray) rfl rfl rfl ?_
 refine r_extract (vI r9.2) rfl rfl rfl ?_
 refine r_alloc (z := Value.agg ([Value.slice none 0 0] ++ [Value.slice none 0 0]).toArray) ([Value.slice none 0 0] ++ [Value.slice none 0 0]).toArray ze29.zero rfl hS rfl ?_
 intro e5 y4 hS
 refine r_storeAll (v := Value.agg ([a8] ++ [a9]).toArray) (vs := ([a8] ++ [a9]).toArray) (cs := ([Value.slice none 0 0] ++ [Value.slice none 0 0]).toArray) ty29 rfl rfl rfl hS rfl (one_app (one1 a3.isOne) (one1 a4.isOne)) rfl ?_
 intro y5 hS
 refine r_assign (vI r9.2) rfl rfl ?_
 refine reg_nil (run_seq ?_)
 refine run_region ?_
 refine r_loadAll ty25 rfl (hS.get (mR mL)) rfl rfl ?_
 have j3 := RdSl.noMI a6
 have j4 := RdSl.noMF a7
 have g5 := RdSl.noMI a3
 have g6 := RdSl.noMF a4
 have sB := noM_sub H9
 have i6 := hsub
 have o9 := sB
 obtain ⟨c6, p0, q0⟩ := bind_some q0
 refine r_callFn Tryz.call17 (args1 rfl) rfl (g_laws_toAlgebra_ok p0 a6 a7 hS) ?_
 rintro y6 y7 ⟨u7, o1, rfl, g2, hS, k7⟩
 obtain ⟨b4, b5, rfl, c7, c8⟩ := id k7.old
 have c7 := RdSl.old c7
 have c8 := RdSl.old c8
 refine ⟨_, rfl, ?_⟩
 have hsub := hsub.trans g2
 have a6 := a6.mono g2
 have a7 := a7.mono g2
 have a3 := a3.mono g2
 have a4 := a4.mono g2
 have sB := sB.trans g2
 have e6 := Sub.refl o1
 refine r_alloc (z := Value.agg ([Value.slice none 0 0] ++ [Value.slice none 0 0]).toArray) ([Value.slice none 0 0] ++ [Value.slice none 0 0]).toArray ze29.zero rfl hS rfl ?_
 intro e8 y8 hS
 refine r_storeAll (v := Value.agg ([b4] ++ [b5]).toArray) (vs := ([b4] ++ [b5]).toArray) (cs := ([Value.slice none 0 0] ++ [Value.slice none 0 0]).toArray) ty29 rfl rfl rfl hS rfl (one_app (one1 c7.isOne) (one1 c8.isOne)) rfl ?_
 intro y9 hS
 refine reg_nil (run_seq ?_)
 refine run_region ?_
 refine r_loadAll ty29 rfl (hS.get mL) rfl rfl ?_
 refine r_move (vI a1) rfl rfl ?_
 have i7 := hsub
 have p1 := sB
 have j9 := e6
 obtain ⟨a5, p2, q0⟩ := bind_some q0
 refine r_callFn Tryz.call18 (args2 rfl rfl) rfl (g_impl_DropGenerator_ok p2 c7 c8 hS) ?_
 rintro z0 z1 ⟨_, o2, rfl, f5, hS, u8, _, rfl, g3, rfl⟩
 obtain ⟨b2, b3, rfl, b6, b7⟩ := id g3.old
 have b6 := RdSl.old b6
 have b7 := RdSl.old b7
 refine ⟨_, rfl, ?_⟩
 have hsub := hsub.trans f5
 have c7 := c7.mono f5
 have c8 := c8.mono f5
 have a6 := a6.mono f5
 have a7 := a7.mono f5
 have a3 := a3.mono f5
 have a4 := a4.mono f5
 have sB := sB.trans f5
 have e6 := e6.trans f5
 have c2 := Sub.refl o2
 refine r_move (Value.tuple #[Value.agg ([b2] ++ [b3]).toArray, vI a5.2]) rfl rfl ?_
 refine r_extract (Value.agg ([b2] ++ [b3]).toArray) rfl rfl rfl ?_
 refine r_extract (vI a5.2) rfl rfl rfl ?_
 refine r_alloc (z := Value.agg ([Value.slice none 0 0] ++ [Value.slice none 0 0]).toArray) ([Value.slice none 0 0] ++ [Value.slice none 0 0]).toArray ze29.zero rfl hS rfl ?_
 intro d7 z2 hS
 refine r_storeAll (v := Value.agg ([b2] ++ [b3]).toArray) (vs := ([b2] ++ [b3]).toArray) (cs := ([Value.slice none 0 0] ++ [Value.slice none 0 0]).toArray) ty29 rfl rfl rfl hS rfl (one_app (one1 b6.isOne) (one1 b7.isOne)) rfl ?_
 intro z3 hS
 refine r_assign (vI a5.2) rfl rfl ?_
 refine reg_nil (run_seq ?_)
 refine run_seq ?_
 refine run_cut (fun f w => ∃ (e3 : Bool) (H1 : FH), g_laws_FnExactDropGenerator_j1 K a0 a1 c6 a5 r9 e3 = some r ∧ Sub H H1 ∧ St H1 w ([(d7, .cells ([b2] ++ [b3]).toArray 29)] ++ ([(e8, .cells ([b4] ++ [b5]).toArray 29)] ++ ([(e5, .cells ([a8] ++ [a9]).toArray 29)] ++ ([(b1, .cells ([s0] ++ [s1]).toArray 25)] ++ L)))) ∧ RdSl (tyInt .i64) H1 b4 c6.1 ∧ RdSl (tyInt .i64) H1 b2 a5.1.1 ∧ RdSl (tySl yT) H1 b5 c6.2 ∧ RdSl (tySl yT) H1 b3 a5.1.2 ∧ RdSl (tyInt .i64) H1 s0 a0.1 ∧ RdSl (tySl yT) H1 s1 a0.2 ∧ RdSl (tyInt .i64) H1 a8 r9.1.1 ∧ RdSl (tySl yT) H1 a9 r9.1.2 ∧ ev f (.tmp 1) = vI a1 ∧ ev f (.tmp 2) = vP b1 ∧ ev f (.tmp 6) = vP e5 ∧ ev f (.tmp 7) = vI r9.2 ∧ ev f (.tmp 8) = vP e8 ∧ ev f (.tmp 9) = vP d7 ∧ ev f (.tmp 10) = vI a5.2 ∧ ev f (.tmp 44) = Value.bool e3 ∧ Sub H9.noM H1 ∧ Sub o1 H1 ∧ Sub o2 H1) ?_ ?_
 rintro z4 s9 ⟨e3, t0, c1, hsub, hS, c7, b6, c8, b7, a6, a7, a3, a4, k8, i8, k9, l0, i9, l1, k0, h6, sB, e6, c2⟩
 unfold g_laws_FnExactDropGenerator_j1 at c1
 by_cases h9 : e3 = true
 rw [if_pos h9] at c1
 refine run_cond_true (Eq.trans (by exact h6) (congrArg Value.bool h9)) ?_
 refine run_seq (run_region ?_)
 refine r_assign (Value.bool false) rfl rfl ?_
 refine reg_nil ?_
 refine run_ret (vs := [Value.bool false]) Tryz.func3 ⟨rfl, trivial⟩ ?_
 have hz := Option.some.inj c1
 subst hz
 exact ⟨_, _, rfl, hsub, (St.dropA (A := [(b1, .cells ([s0] ++ [s1]).toArray 25)]) (St.dropA (A := [(e5, .cells ([a8] ++ [a9]).toArray 29)]) (St.dropA (A := [(e8, .cells ([b4] ++ [b5]).toArray 29)]) (St.dropA (A := [(d7, .cells ([b2] ++ [b3]).toArray 29)]) hS)))), rfl⟩
 rw [if_neg h9] at c1
 refine run_cond_false (Eq.trans (by exact h6) (congrArg Value.bool (bfalse h9))) ?_
 refine run_skip (run_seq ?_)
 refine run_seq ?_
 obtain ⟨i5, p3, c1⟩ := bind_some c1
 obtain ⟨g4, p4, c1⟩ := bind_some c1
 refine run_draw 5 (tabL [(45, MP.eq (Value.agg ([b4] ++ [b5]).toArray)), (46, MP.eq (Value.agg ([s0] ++ [s1]).toArray)), (47, MP.rep (R.agg (tyPr (tySl (tyInt .i64)) (tySl (tySl yT)))) (i5)), (48, MP.eq (Value.bool g4)), (49, MP.eq (Value.bool (!g4)))]) [] mixed rfl rfl rfl hS (hop_q rfl ?_ (hop_q rfl ?_ (hop_q rfl ?_ (hop_q rfl ?_ (hop_q rfl ?_ hop_nil))))) ?_
 intro z5 z6 z7 z8 u9 hS p5 v0 hcq
 refine r_loadAll ty29 (evT (p5 8 rfl) i9) (hS.get (mR (mR mL))) rfl rfl ?_
 exact qn (.refl _) rfl hS rfl
 intro z9 w38 H39 X40 v1 hS p6 v2 hcq
 refine r_loadAll ty25 (evT (p6 2 rfl) i8) (hS.get (mR (mR (mR (mR mL))))) rfl rfl ?_
 exact qn (.refl _) rfl hS rfl
 intro r2 w47 H48 X49 l2 hS v3 p7 hcq
 have a6 := a6.mono l2
 have a7 := a7.mono l2
 have r3 : ev r2 (.tmp 46) = Value.agg ([s0] ++ [s1]).toArray := p7 1 46 rfl rfl
 refine r_callFn Tryz.call17 (args1 r3) rfl (g_laws_toAlgebra_ok p3 a6 a7 hS) ?_
 rintro e55 w56 ⟨r5, H55, rfl, p8, hS, j1⟩
 refine ⟨r5, rfl, ?_⟩
 have j1 := AlgN.rep j1
 exact qn p8 rfl hS j1
 intro o3 w58 r6 X60 l3 hS v4 l4 hcq
 have c7 := c7.mono l3
 have c8 := c8.mono l3
 have r8 : ev o3 (.tmp 45) = Value.agg ([b4] ++ [b5]).toArray := l4 0 45 rfl rfl
 obtain ⟨s2, o4⟩ : ∃ v, ev o3 (.tmp 47) = v := ⟨_, rfl⟩
 have p9 : (R.agg (tyPr (tySl (tyInt .i64)) (tySl (tySl yT)))).p r6 s2 (i5) := o4 ▸ (l4 2 47 rfl rfl)
 obtain ⟨_, rfl, ⟨_, _, rfl, ⟨t1, rfl, l5⟩, ⟨t4, rfl, l6⟩⟩⟩ := p9
 refine r_callFn Tryz.call19 (args2 r8 o4) rfl (g_laws_eqAlgebra_ok p4 c7 c8 l5 l6 hS) ?_
 rintro e68 w69 ⟨_, H68, rfl, q1, hS, rfl⟩
 refine ⟨_, rfl, ?_⟩
 exact qn q1 rfl hS rfl
 intro s3 w71 H72 X73 v5 hS v6 q2 hcq
 have s4 : ev s3 (.tmp 48) = Value.bool g4 := q2 3 48 rfl rfl
 refine r_not (b := g4) s4 rfl ?_
 exact qn (.refl _) rfl hS rfl
 intro s5 s6 s7 f4 hS f9 q3 hcq
 have hS : St s7 s6 ([(d7, .cells ([b2] ++ [b3]).toArray 29)] ++ ([(e8, .cells ([b4] ++ [b5]).toArray 29)] ++ ([(e5, .cells ([a8] ++ [a9]).toArray 29)] ++ ([(b1, .cells ([s0] ++ [s1]).toArray 25)] ++ L)))) := hS
 have hsub := hsub.trans f4
 have b6 := b6.mono f4
 have b7 := b7.mono f4
 have a3 := a3.mono f4
 have a4 := a4.mono f4
 have a6 := a6.mono f4
 have a7 := a7.mono f4
 have sB := sB.trans f4
 have e6 := e6.trans f4
 have c2 := c2.trans f4
 have l7 := evT (f9 1 rfl) k8
 have l9 := evT (f9 2 rfl) i8
 have j5 := evT (f9 6 rfl) k9
 have j6 := evT (f9 7 rfl) l0
 have j7 := evT (f9 9 rfl) l1
 have o5 : ev s5 (.tmp 49) = Value.bool (!g4) := q3 4 49 (by decide) rfl
 refine reg_nil ?_
 by_cases i0 : g4 = true
 rw [if_pos i0] at c1
 refine run_cond_false (Eq.trans (by exact o5) (congrArg (fun b => Value.bool (!b)) i0)) ?_
 refine run_skip (run_seq ?_)
 refine run_region ?_
 refine r_assign (vI 1) rfl rfl ?_
 refine reg_nil (run_seq ?_)
 refine run_region ?_
 refine r_loadAll ty29 (by exact (evT (f9 8 rfl) i9)) (hS.get (mR mL)) rfl rfl ?_
 refine r_move (vI 1) rfl rfl ?_
 obtain ⟨q4, c1⟩ := gd c1
 refine r_callFn Tryz.call20 (args2 rfl rfl) rfl (markAlg_ok k7 e6 q4 (lim_of hL i6 hsub) hS) ?_
 rintro e95 w96 ⟨m0, rfl, hS, f7, f8, i1⟩
 refine ⟨_, rfl, ?_⟩
 have hsub := i1 H hsub hM (fun b h => .inl (sub_ne i6 b h))
 have g3 := AlgN.tr (g3.mono c2) (i1 _ (new_sub _ _) (fun _ => rfl) (new_apart j9))
 have sB := i1 _ sB (fun _ => rfl) (fun b h => .inl (sub_ne o9 b h))
 have c2 := Sub.refl m0
 have b6 := (AlgN.rd g3).1
 have b7 := (AlgN.rd g3).2
 have a6 := j3.mono sB
 have a7 := j4.mono sB
 have a3 := g5.mono sB
 have a4 := g6.mono sB
 refine r_assign (vI (1 + cntA c6)) rfl rfl ?_
 refine reg_nil (run_seq ?_)
 refine run_seq ?_
 refine run_cut (fun f w => ∃ (e2 : Bool) (H1 : FH), g_laws_FnExactDropGenerator_j2 K a0 a1 a5 r9 e2 = some r ∧ Sub H H1 ∧ St H1 w ([(d7, .cells ([b2] ++ [b3]).toArray 29)] ++ ([(e8, .cells ([b4] ++ [b5]).toArray 29)] ++ ([(e5, .cells ([a8] ++ [a9]).toArray 29)] ++ ([(b1, .cells ([s0] ++ [s1]).toArray 25)] ++ L)))) ∧ RdSl (tyInt .i64) H1 b2 a5.1.1 ∧ RdSl (tySl yT) H1 b3 a5.1.2 ∧ RdSl (tyInt .i64) H1 b4 ((mkA c6 1).1) ∧ RdSl (tySl yT) H1 b5 ((mkA c6 1).2) ∧ RdSl (tyInt .i64) H1 s0 a0.1 ∧ RdSl (tySl yT) H1 s1 a0.2 ∧ RdSl (tyInt .i64) H1 a8 r9.1.1 ∧ RdSl (tySl yT) H1 a9 r9.1.2 ∧ ev f (.tmp 1) = vI a1 ∧ ev f (.tmp 2) = vP b1 ∧ ev f (.tmp 6) = vP e5 ∧ ev f (.tmp 7) = vI r9.2 ∧ ev f (.tmp 9) = vP d7 ∧ ev f (.tmp 65) = Value.bool e2 ∧ Sub H9.noM H1 ∧ Sub m0 H1) ?_ ?_
 rintro fj2 t5 ⟨e2, t6, b0, hsub, hS, b6, b7, f7, f8, a6, a7, a3, a4, m1, m2, m3, m4, g0, h7, sB, c2⟩
 unfold g_laws_FnExactDropGenerator_j2 at b0
 by_cases i2 : e2 = true
 rw [if_pos i2] at b0
 refine run_cond_true (Eq.trans (by exact h7) (congrArg Value.bool i2)) ?_
 refine run_seq (run_region ?_)
 refine r_assign (Value.bool false) rfl rfl ?_
 refine reg_nil ?_
 refine run_ret (vs := [Value.bool false]) Tryz.func3 ⟨rfl, trivial⟩ ?_
 have hz := Option.some.inj b0
 subst hz
 exact ⟨_, _, rfl, hsub, (St.dropA (A := [(b1, .cells ([s0] ++ [s1]).toArray 25)]) (St.dropA (A := [(e5, .cells ([a8] ++ [a9]).toArray 29)]) (St.dropA (A := [(e8, .cells ([b4] ++ [b5]).toArray 29)]) (St.dropA (A := [(d7, .cells ([b2] ++ [b3]).toArray 29)]) hS)))), rfl⟩
 rw [if_neg i2] at b0
 refine run_cond_false (Eq.trans (by exact h7) (congrArg Value.bool (bfalse i2))) ?_
 refine run_skip (run_seq ?_)
 refine run_region ?_
 refine r_assign (vI 1) rfl rfl ?_
 refine reg_nil (run_seq ?_)
 refine run_region ?_
 refine r_loadAll ty29 (by exact g0) (hS.get mL) rfl rfl ?_
 refine r_move (vI 1) rfl rfl ?_
 obtain ⟨q5, b0⟩ := gd b0
 refine r_callFn Tryz.call20 (args2 rfl rfl) rfl (markAlg_ok g3 c2 q5 (lim_of hL i7 hsub) hS) ?_
 rintro e99 v7 ⟨G99, rfl, hS, b8, b9, j8⟩
 refine ⟨_, rfl, ?_⟩
 have hsub := j8 H hsub hM (fun b h => .inl (sub_ne i7 b h))
 have sB := j8 _ sB (fun _ => rfl) (fun b h => .inl (sub_ne p1 b h))
 have a6 := j3.mono sB
 have a7 := j4.mono sB
 have a3 := g5.mono sB
 have a4 := g6.mono sB
 refine r_assign (vI (1 + cntA a5.1)) rfl rfl ?_
 refine reg_nil (run_seq ?_)
 refine run_region ?_
 refine r_assign (vI 1) rfl rfl ?_
 refine reg_nil (run_seq ?_)
 refine run_region ?_
 refine r_loadAll ty29 (by exact g0) (hS.get mL) rfl rfl ?_
 refine r_move (vI 1) rfl rfl ?_
 obtain ⟨f3, n2, b0⟩ := bind_some b0
 refine r_callFn Tryz.call21 (args2 rfl rfl) rfl (g_laws_heldAlgebra_ok n2 b8 b9 hS) ?_
 rintro v8 v9 ⟨_, w0, rfl, f0, hS, rfl⟩
 refine ⟨_, rfl, ?_⟩
 have hsub := hsub.trans f0
 have b8 := b8.mono f0
 have b9 := b9.mono f0
 have a3 := a3.mono f0
 have a4 := a4.mono f0
 have a6 := a6.mono f0
 have a7 := a7.mono f0
 have sB := sB.trans f0
 refine r_assign (vI f3) rfl rfl ?_
 refine reg_nil (run_seq ?_)
 refine run_seq (run_region ?_)
 refine r_move (vI f3) rfl rfl ?_
 refine r_lss (k := .i64) (a := f3) (b := 0) rfl rfl rfl ?_
 refine reg_nil ?_
 by_cases g7 : f3 < 0
 rw [if_pos g7] at b0
 refine run_cond_true (Eq.trans rfl (congrArg Value.bool (decide_eq_true g7))) ?_
 refine run_seq (run_region ?_)
 refine r_assign (Value.bool false) rfl rfl ?_
 refine reg_nil ?_
 refine run_ret (vs := [Value.bool false]) Tryz.func3 ⟨rfl, trivial⟩ ?_
 have hz := Option.some.inj b0
 subst hz
 exact ⟨_, _, rfl, hsub, (St.dropA (A := [(b1, .cells ([s0] ++ [s1]).toArray 25)]) (St.dropA (A := [(e5, .cells ([a8] ++ [a9]).toArray 29)]) (St.dropA (A := [(e8, .cells ([b4] ++ [b5]).toArray 29)]) (St.dropA (A := [(d7, .cells ([b2] ++ [b3]).toArray 29)]) hS)))), rfl⟩
 rw [if_neg g7] at b0
 refine run_cond_false (Eq.trans rfl (congrArg Value.bool (decide_eq_false g7))) ?_
 refine run_skip (run_seq ?_)
 refine run_seq (run_region ?_)
 refine r_move (vI f3) rfl rfl ?_
 refine r_move (vI (1 + cntA a5.1)) rfl rfl ?_
 refine r_neq (k := .i64) (a := f3) (b := (1 + cntA a5.1)) rfl rfl rfl ?_
 refine reg_nil ?_
 by_cases g8 : f3 = (1 + cntA a5.1)
 rw [if_pos g8] at b0
 refine run_cond_false (Eq.trans rfl (congrArg (fun b => Value.bool (!b)) (decide_eq_true g8))) ?_
 refine run_skip (run_seq ?_)
 refine run_region ?_
 refine r_loadAll ty25 (by exact m2) (hS.get (mR (mR (mR mL)))) rfl rfl ?_
 have q6 := hsub
 have t7 := sB
 obtain ⟨j0, n3, b0⟩ := bind_some b0
 refine r_callFn Tryz.call17 (args1 rfl) rfl (g_laws_toAlgebra_ok n3 a6 a7 hS) ?_
 rintro w1 w3 ⟨t8, m5, rfl, f1, hS, n4⟩
 obtain ⟨t9, u0, rfl, i3, i4⟩ := id n4.old
 have i3 := RdSl.old i3
 have i4 := RdSl.old i4
 refine ⟨_, rfl, ?_⟩
 have hsub := hsub.trans f1
 have a6 := a6.mono f1
 have a7 := a7.mono f1
 have b8 := b8.mono f1
 have b9 := b9.mono f1
 have a3 := a3.mono f1
 have a4 := a4.mono f1
 have sB := sB.trans f1
 have d1 := Sub.refl m5
 refine r_move (vI a1) (by exact m1) rfl ?_
 have q7 := hsub
 have u1 := sB
 have o6 := d1
 obtain ⟨d0, n5, b0⟩ := bind_some b0
 refine r_callFn Tryz.call18 (args2 rfl rfl) rfl (g_impl_DropGenerator_ok n5 i3 i4 hS) ?_
 rintro w4 w6 ⟨_, m6, rfl, d8, hS, u2, _, rfl, n6, rfl⟩
 obtain ⟨d2, d3, rfl, d9, e0⟩ := id n6.old
 have d9 := RdSl.old d9
 have e0 := RdSl.old e0
 refine ⟨_, rfl, ?_⟩
 have hsub := hsub.trans d8
 have a6 := a6.mono d8
 have a7 := a7.mono d8
 have b8 := b8.mono d8
 have b9 := b9.mono d8
 have a3 := a3.mono d8
 have a4 := a4.mono d8
 have sB := sB.trans d8
 have d1 := d1.trans d8
 have f6 := Sub.refl m6
 refine r_move (Value.tuple #[Value.agg ([d2] ++ [d3]).toArray, vI d0.2]) rfl rfl ?_
 refine r_extract (Value.agg ([d2] ++ [d3]).toArray) rfl rfl rfl ?_
 refine r_extract (vI d0.2) rfl rfl rfl ?_
 refine r_alloc (z := Value.agg ([Value.slice none 0 0] ++ [Value.slice none 0 0]).toArray) ([Value.slice none 0 0] ++ [Value.slice none 0 0]).toArray ze29.zero rfl hS rfl ?_
 intro h5 w7 hS
 refine r_storeAll (v := Value.agg ([d2] ++ [d3]).toArray) (vs := ([d2] ++ [d3]).toArray) (cs := ([Value.slice none 0 0] ++ [Value.slice none 0 0]).toArray) ty29 rfl rfl rfl hS rfl (one_app (one1 d9.isOne) (one1 e0.isOne)) rfl ?_
 intro w9 hS
 refine r_assign (vI d0.2) rfl rfl ?_
 refine reg_nil (run_seq ?_)
 refine run_seq ?_
 refine run_cut (fun f w => ∃ (e1 : Bool) (H1 : FH), g_laws_FnExactDropGenerator_j3 K a5 e1 = some r ∧ Sub H H1 ∧ St H1 w ([(h5, .cells ([d2] ++ [d3]).toArray 29)] ++ ([(d7, .cells ([b2] ++ [b3]).toArray 29)] ++ ([(e8, .cells ([b4] ++ [b5]).toArray 29)] ++ ([(e5, .cells ([a8] ++ [a9]).toArray 29)] ++ ([(b1, .cells ([s0] ++ [s1]).toArray 25)] ++ L))))) ∧ RdSl (tyInt .i64) H1 d2 d0.1.1 ∧ RdSl (tySl yT) H1 d3 d0.1.2 ∧ RdSl (tyInt .i64) H1 b2 ((mkA a5.1 1).1) ∧ RdSl (tySl yT) H1 b3 ((mkA a5.1 1).2) ∧ RdSl (tyInt .i64) H1 s0 a0.1 ∧ RdSl (tySl yT) H1 s1 a0.2 ∧ RdSl (tyInt .i64) H1 a8 r9.1.1 ∧ RdSl (tySl yT) H1 a9 r9.1.2 ∧ ev f (.tmp 9) = vP d7 ∧ ev f (.tmp 12) = vI (1 + cntA a5.1) ∧ ev f (.tmp 92) = Value.bool e1 ∧ Sub H9.noM H1 ∧ Sub m5 H1 ∧ Sub m6 H1) ?_ ?_
 rintro fj3 u3 ⟨e1, u4, c0, hsub, hS, d9, e0, b8, b9, a6, a7, a3, a4, m7, k1, h8, sB, d1, f6⟩
 unfold g_laws_FnExactDropGenerator_j3 at c0
 by_cases g9 : e1 = true
 rw [if_pos g9] at c0
 refine run_cond_true (Eq.trans (by exact h8) (congrArg Value.bool g9)) ?_
 refine run_seq (run_region ?_)
 refine r_assign (Value.bool false) rfl rfl ?_
 refine reg_nil ?_
 refine run_ret (vs := [Value.bool false]) Tryz.func3 ⟨rfl, trivial⟩ ?_
 have hz := Option.some.inj c0
 subst hz
 exact ⟨_, _, rfl, hsub, (St.dropA (A := [(b1, .cells ([s0] ++ [s1]).toArray 25)]) (St.dropA (A := [(e5, .cells ([a8] ++ [a9]).toArray 29)]) (St.dropA (A := [(e8, .cells ([b4] ++ [b5]).toArray 29)]) (St.dropA (A := [(d7, .cells ([b2] ++ [b3]).toArray 29)]) (St.dropA (A := [(h5, .cells ([d2] ++ [d3]).toArray 29)]) hS))))), rfl⟩
 rw [if_neg g9] at c0
 refine run_cond_false (Eq.trans (by exact h8) (congrArg Value.bool (bfalse g9))) ?_
 refine run_skip (run_seq ?_)
 refine run_region ?_
 refine r_assign (vI 1) rfl rfl ?_
 refine reg_nil (run_seq ?_)
 refine run_region ?_
 refine r_loadAll ty29 (by exact m7) (hS.get (mR mL)) rfl rfl ?_
 refine r_move (vI 1) rfl rfl ?_
 obtain ⟨f2, n7, c0⟩ := bind_some c0
 refine r_callFn Tryz.call21 (args2 rfl rfl) rfl (g_laws_heldAlgebra_ok n7 b8 b9 hS) ?_
 rintro x0 x1 ⟨_, x2, rfl, h0, hS, rfl⟩
 refine ⟨_, rfl, ?_⟩
 have hsub := hsub.trans h0
 have sB := sB.trans h0
 have d1 := d1.trans h0
 have f6 := f6.trans h0
 refine r_assign (vI f2) rfl rfl ?_
 refine reg_nil (run_seq ?_)
 refine run_seq (run_region ?_)
 refine r_move (vI f2) rfl rfl ?_
 refine r_lss (k := .i64) (a := f2) (b := 0) rfl rfl rfl ?_
 refine reg_nil ?_
 by_cases h1 : f2 < 0
 rw [if_pos h1] at c0
 refine run_cond_true (Eq.trans rfl (congrArg Value.bool (decide_eq_true h1))) ?_
 refine run_seq (run_region ?_)
 refine r_assign (Value.bool false) rfl rfl ?_
 refine reg_nil ?_
 refine run_ret (vs := [Value.bool false]) Tryz.func3 ⟨rfl, trivial⟩ ?_
 have hz := Option.some.inj c0
 subst hz
 exact ⟨_, _, rfl, hsub, (St.dropA (A := [(b1, .cells ([s0] ++ [s1]).toArray 25)]) (St.dropA (A := [(e5, .cells ([a8] ++ [a9]).toArray 29)]) (St.dropA (A := [(e8, .cells ([b4] ++ [b5]).toArray 29)]) (St.dropA (A := [(d7, .cells ([b2] ++ [b3]).toArray 29)]) (St.dropA (A := [(h5, .cells ([d2] ++ [d3]).toArray 29)]) hS))))), rfl⟩
 rw [if_neg h1] at c0
 refine run_cond_false (Eq.trans rfl (congrArg Value.bool (decide_eq_false h1))) ?_
 refine run_skip (run_seq ?_)
 refine run_seq (run_region ?_)
 refine r_move (vI f2) rfl rfl ?_
 refine r_move (vI (1 + cntA a5.1)) (by exact k1) rfl ?_
 refine r_neq (k := .i64) (a := f2) (b := (1 + cntA a5.1)) rfl rfl rfl ?_
 refine reg_nil ?_
 by_cases h2 : f2 = (1 + cntA a5.1)
 rw [if_pos h2] at c0
 refine run_cond_false (Eq.trans rfl (congrArg (fun b => Value.bool (!b)) (decide_eq_true h2))) ?_
 refine run_skip (run_seq ?_)
 refine run_region ?_
 refine r_assign (Value.bool true) rfl rfl ?_
 refine reg_nil ?_
 refine run_ret (vs := [Value.bool true]) Tryz.func3 ⟨rfl, trivial⟩ ?_
 have hz := Option.some.inj c0
 subst hz
 exact ⟨_, _, rfl, hsub, (St.dropA (A := [(b1, .cells ([s0] ++ [s1]).toArray 25)]) (St.dropA (A := [(e5, .cells ([a8] ++ [a9]).toArray 29)]) (St.dropA (A := [(e8, .cells ([b4] ++ [b5]).toArray 29)]) (St.dropA (A := [(d7, .cells ([b2] ++ [b3]).toArray 29)]) (St.dropA (A := [(h5, .cells ([d2] ++ [d3]).toArray 29)]) hS))))), rfl⟩
 rw [if_neg h2] at c0
 refine run_cond_true (Eq.trans rfl (congrArg (fun b => Value.bool (!b)) (decide_eq_false h2))) ?_
 refine run_seq (run_region ?_)
 refine r_assign (Value.bool false) rfl rfl ?_
 refine reg_nil ?_
 refine run_ret (vs := [Value.bool false]) Tryz.func3 ⟨rfl, trivial⟩ ?_
 have hz := Option.some.inj c0
 subst hz
 exact ⟨_, _, rfl, hsub, (St.dropA (A := [(b1, .cells ([s0] ++ [s1]).toArray 25)]) (St.dropA (A := [(e5, .cells ([a8] ++ [a9]).toArray 29)]) (St.dropA (A := [(e8, .cells ([b4] ++ [b5]).toArray 29)]) (St.dropA (A := [(d7, .cells ([b2] ++ [b3]).toArray 29)]) (St.dropA (A := [(h5, .cells ([d2] ++ [d3]).toArray 29)]) hS))))), rfl⟩
 intro o7
 refine run_region ?_
 refine r_loadAll ty29 rfl (hS.get mL) rfl rfl ?_
 refine r_loadAll ty29 (by exact m3) (hS.get (mR (mR (mR mL)))) rfl rfl ?_
 obtain ⟨h3, n8, b0⟩ := bind_some b0
 refine r_callFn Tryz.call19 (args2 rfl rfl) rfl (g_laws_eqAlgebra_ok n8 d9 e0 a3 a4 hS) ?_
 rintro x3 x4 ⟨_, m8, rfl, c3, hS, rfl⟩
 refine ⟨_, rfl, ?_⟩
 have hsub := hsub.trans c3
 have d9 := d9.mono c3
 have e0 := e0.mono c3
 have a3 := a3.mono c3
 have a4 := a4.mono c3
 have b8 := b8.mono c3
 have b9 := b9.mono c3
 have a6 := a6.mono c3
 have a7 := a7.mono c3
 have sB := sB.trans c3
 have d1 := d1.trans c3
 have f6 := f6.trans c3
 refine r_not (b := h3) rfl rfl ?_
 refine r_move (Value.bool (!h3)) rfl rfl ?_
 by_cases d4 : h3 = true
 rw [if_pos d4] at b0
 refine reg_guard rfl rfl (Eq.trans rfl (congrArg (fun b => Value.bool (!b)) d4)) ?_
 refine r_move (vI d0.2) rfl rfl ?_
 refine reg_guard rfl rfl (Eq.trans rfl (congrArg (fun b => Value.bool (!b)) d4)) ?_
 refine r_move (vI r9.2) (by exact m4) rfl ?_
 refine reg_guard rfl rfl (Eq.trans rfl (congrArg (fun b => Value.bool (!b)) d4)) ?_
 refine r_neq (k := .i64) (a := d0.2) (b := r9.2) rfl rfl rfl ?_
 refine r_pick (t := false) (Value.bool (!decide (d0.2 = r9.2))) (Eq.trans rfl (congrArg (fun b => Value.bool (!b)) d4)) ((if_neg Bool.false_ne_true).trans rfl) rfl ?_
 refine reg_nil ?_
 exact o7 _ _ ⟨(!decide (d0.2 = r9.2)), m8, b0, hsub, hS, d9, e0, b8, b9, a6, a7, a3, a4, g0, rfl, rfl, sB, d1, f6⟩
 rw [if_neg d4] at b0
 refine reg_unguard rfl rfl (Eq.trans rfl (congrArg (fun b => Value.bool (!b)) (bfalse d4))) rfl rfl rfl ?_
 refine reg_unguard rfl rfl (Eq.trans rfl (congrArg (fun b => Value.bool (!b)) (bfalse d4))) rfl rfl rfl ?_
 refine reg_unguard rfl rfl (Eq.trans rfl (congrArg (fun b => Value.bool (!b)) (bfalse d4))) rfl rfl rfl ?_
 refine r_pick (t := true) (Value.bool true) (Eq.trans rfl (congrArg (fun b => Value.bool (!b)) (bfalse d4))) ((if_pos rfl).trans rfl) rfl ?_
 refine reg_nil ?_
 exact o7 _ _ ⟨true, m8, b0, hsub, hS, d9, e0, b8, b9, a6, a7, a3, a4, g0, rfl, rfl, sB, d1, f6⟩
 rw [if_neg g8] at b0
 refine run_cond_true (Eq.trans rfl (congrArg (fun b => Value.bool (!b)) (decide_eq_false g8))) ?_
 refine run_seq (run_region ?_)
 refine r_assign (Value.bool false) rfl rfl ?_
 refine reg_nil ?_
 refine run_ret (vs := [Value.bool false]) Tryz.func3 ⟨rfl, trivial⟩ ?_
 have hz := Option.some.inj b0
 subst hz
 exact ⟨_, _, rfl, hsub, (St.dropA (A := [(b1, .cells ([s0] ++ [s1]).toArray 25)]) (St.dropA (A := [(e5, .cells ([a8] ++ [a9]).toArray 29)]) (St.dropA (A := [(e8, .cells ([b4] ++ [b5]).toArray 29)]) (St.dropA (A := [(d7, .cells ([b2] ++ [b3]).toArray 29)]) hS)))), rfl⟩
 intro m9
 refine run_region ?_
 refine r_move (vI (1 + cntA c6)) rfl rfl ?_
 refine r_lss (k := .i64) (a := (1 + cntA c6)) (b := 0) rfl rfl rfl ?_
 refine r_move (Value.bool (decide ((1 + cntA c6) < 0))) rfl rfl ?_
 by_cases c4 : (1 + cntA c6) < 0
 rw [if_pos c4] at c1
 refine reg_unguard rfl rfl (Eq.trans rfl (congrArg Value.bool (decide_eq_true c4))) rfl rfl rfl ?_
 refine reg_unguard rfl rfl (Eq.trans rfl (congrArg Value.bool (decide_eq_true c4))) rfl rfl rfl ?_
 refine reg_unguard rfl rfl (Eq.trans rfl (congrArg Value.bool (decide_eq_true c4))) rfl rfl rfl ?_
 refine reg_unguard rfl rfl (Eq.trans rfl (congrArg Value.bool (decide_eq_true c4))) rfl rfl rfl ?_
 refine r_pick (t := true) (Value.bool true) (Eq.trans rfl (congrArg Value.bool (decide_eq_true c4))) ((if_pos rfl).trans rfl) rfl ?_
 refine r_move (Value.bool true) rfl rfl ?_
 refine reg_unguard rfl rfl rfl rfl rfl rfl ?_
 refine reg_unguard rfl rfl rfl rfl rfl rfl ?_
 refine reg_unguard rfl rfl rfl rfl rfl rfl ?_
 refine r_pick (t := true) (Value.bool true) rfl ((if_pos rfl).trans rfl) rfl ?_
 refine reg_nil ?_
 exact m9 _ _ ⟨true, m0, c1, hsub, hS, b6, b7, f7, f8, a6, a7, a3, a4, l7, l9, j5, j6, j7, rfl, sB, c2⟩
 rw [if_neg c4] at c1
 refine reg_guard rfl rfl (Eq.trans rfl (congrArg Value.bool (decide_eq_false c4))) ?_
 refine r_loadAll ty29 (by exact j7) (hS.get mL) rfl rfl ?_
 refine reg_guard rfl rfl (Eq.trans rfl (congrArg Value.bool (decide_eq_false c4))) ?_
 refine r_loadAll ty29 (by exact j5) (hS.get (mR (mR mL))) rfl rfl ?_
 obtain ⟨g1, n9, c1⟩ := bind_some c1
 refine reg_guard rfl rfl (Eq.trans rfl (congrArg Value.bool (decide_eq_false c4))) ?_
 refine r_callFn Tryz.call19 (args2 rfl rfl) rfl (g_laws_eqAlgebra_ok n9 b6 b7 a3 a4 hS) ?_
 rintro x5 x6 ⟨_, n0, rfl, c9, hS, rfl⟩
 refine ⟨_, rfl, ?_⟩
 have hsub := hsub.trans c9
 have b6 := b6.mono c9
 have b7 := b7.mono c9
 have a3 := a3.mono c9
 have a4 := a4.mono c9
 have f7 := f7.mono c9
 have f8 := f8.mono c9
 have a6 := a6.mono c9
 have a7 := a7.mono c9
 have sB := sB.trans c9
 have c2 := c2.trans c9
 refine reg_guard rfl rfl (Eq.trans rfl (congrArg Value.bool (decide_eq_false c4))) ?_
 refine r_not (b := g1) rfl rfl ?_
 refine r_pick (t := false) (Value.bool (!g1)) (Eq.trans rfl (congrArg Value.bool (decide_eq_false c4))) ((if_neg Bool.false_ne_true).trans rfl) rfl ?_
 refine r_move (Value.bool (!g1)) rfl rfl ?_
 by_cases d5 : g1 = true
 rw [if_pos d5] at c1
 refine reg_guard rfl rfl (Eq.trans rfl (congrArg (fun b => Value.bool (!b)) d5)) ?_
 refine r_move (vI a5.2) (by exact (evT (f9 10 rfl) k0)) rfl ?_
 refine reg_guard rfl rfl (Eq.trans rfl (congrArg (fun b => Value.bool (!b)) d5)) ?_
 refine r_move (vI r9.2) (by exact j6) rfl ?_
 refine reg_guard rfl rfl (Eq.trans rfl (congrArg (fun b => Value.bool (!b)) d5)) ?_
 refine r_neq (k := .i64) (a := a5.2) (b := r9.2) rfl rfl rfl ?_
 refine r_pick (t := false) (Value.bool (!decide (a5.2 = r9.2))) (Eq.trans rfl (congrArg (fun b => Value.bool (!b)) d5)) ((if_neg Bool.false_ne_true).trans rfl) rfl ?_
 refine reg_nil ?_
 exact m9 _ _ ⟨(!decide (a5.2 = r9.2)), n0, c1, hsub, hS, b6, b7, f7, f8, a6, a7, a3, a4, l7, l9, j5, j6, j7, rfl, sB, c2⟩
 rw [if_neg d5] at c1
 refine reg_unguard rfl rfl (Eq.trans rfl (congrArg (fun b => Value.bool (!b)) (bfalse d5))) rfl rfl rfl ?_
 refine reg_unguard rfl rfl (Eq.trans rfl (congrArg (fun b => Value.bool (!b)) (bfalse d5))) rfl rfl rfl ?_
 refine reg_unguard rfl rfl (Eq.trans rfl (congrArg (fun b => Value.bool (!b)) (bfalse d5))) rfl rfl rfl ?_
 refine r_pick (t := true) (Value.bool true) (Eq.trans rfl (congrArg (fun b => Value.bool (!b)) (bfalse d5))) ((if_pos rfl).trans rfl) rfl ?_
 refine reg_nil ?_
 exact m9 _ _ ⟨true, n0, c1, hsub, hS, b6, b7, f7, f8, a6, a7, a3, a4, l7, l9, j5, j6, j7, rfl, sB, c2⟩
 rw [if_neg i0] at c1
 refine run_cond_true (Eq.trans (by exact o5) (congrArg (fun b => Value.bool (!b)) (bfalse i0))) ?_
 refine run_seq (run_region ?_)
 refine r_assign (Value.bool false) rfl rfl ?_
 refine reg_nil ?_
 refine run_ret (vs := [Value.bool false]) Tryz.func3 ⟨rfl, trivial⟩ ?_
 have hz := Option.some.inj c1
 subst hz
 exact ⟨_, _, rfl, hsub, (St.dropA (A := [(b1, .cells ([s0] ++ [s1]).toArray 25)]) (St.dropA (A := [(e5, .cells ([a8] ++ [a9]).toArray 29)]) (St.dropA (A := [(e8, .cells ([b4] ++ [b5]).toArray 29)]) (St.dropA (A := [(d7, .cells ([b2] ++ [b3]).toArray 29)]) hS)))), rfl⟩
 intro o8
 refine run_region ?_
 refine r_loadAll ty29 rfl (hS.get mL) rfl rfl ?_
 refine r_loadAll ty29 rfl (hS.get (mR (mR mL))) rfl rfl ?_
 obtain ⟨h4, o0, q0⟩ := bind_some q0
 refine r_callFn Tryz.call19 (args2 rfl rfl) rfl (g_laws_eqAlgebra_ok o0 b6 b7 a3 a4 hS) ?_
 rintro x7 x8 ⟨_, n1, rfl, c5, hS, rfl⟩
 refine ⟨_, rfl, ?_⟩
 have hsub := hsub.trans c5
 have b6 := b6.mono c5
 have b7 := b7.mono c5
 have a3 := a3.mono c5
 have a4 := a4.mono c5
 have a6 := a6.mono c5
 have a7 := a7.mono c5
 have c7 := c7.mono c5
 have c8 := c8.mono c5
 have sB := sB.trans c5
 have e6 := e6.trans c5
 have c2 := c2.trans c5
 refine r_not (b := h4) rfl rfl ?_
 refine r_move (Value.bool (!h4)) rfl rfl ?_
 by_cases d6 : h4 = true
 rw [if_pos d6] at q0
 refine reg_guard rfl rfl (Eq.trans rfl (congrArg (fun b => Value.bool (!b)) d6)) ?_
 refine r_move (vI a5.2) rfl rfl ?_
 refine reg_guard rfl rfl (Eq.trans rfl (congrArg (fun b => Value.bool (!b)) d6)) ?_
 refine r_move (vI r9.2) rfl rfl ?_
 refine reg_guard rfl rfl (Eq.trans rfl (congrArg (fun b => Value.bool (!b)) d6)) ?_
 refine r_neq (k := .i64) (a := a5.2) (b := r9.2) rfl rfl rfl ?_
 refine r_pick (t := false) (Value.bool (!decide (a5.2 = r9.2))) (Eq.trans rfl (congrArg (fun b => Value.bool (!b)) d6)) ((if_neg Bool.false_ne_true).trans rfl) rfl ?_
 refine reg_nil ?_
 exact o8 _ _ ⟨(!decide (a5.2 = r9.2)), n1, q0, hsub, hS, c7, b6, c8, b7, a6, a7, a3, a4, rfl, rfl, rfl, rfl, rfl, rfl, rfl, rfl, sB, e6, c2⟩
 rw [if_neg d6] at q0
 refine reg_unguard rfl rfl (Eq.trans rfl (congrArg (fun b => Value.bool (!b)) (bfalse d6))) rfl rfl rfl ?_
 refine reg_unguard rfl rfl (Eq.trans rfl (congrArg (fun b => Value.bool (!b)) (bfalse d6))) rfl rfl rfl ?_
 refine reg_unguard rfl rfl (Eq.trans rfl (congrArg (fun b => Value.bool (!b)) (bfalse d6))) rfl rfl rfl ?_
 refine r_pick (t := true) (Value.bool true) (Eq.trans rfl (congrArg (fun b => Value.bool (!b)) (bfalse d6))) ((if_pos rfl).trans rfl) rfl ?_
 refine reg_nil ?_
 exact o8 _ _ ⟨true, n1, q0, hsub, hS, c7, b6, c8, b7, a6, a7, a3, a4, rfl, rfl, rfl, rfl, rfl, rfl, rfl, rfl, sB, e6, c2⟩
end Go.Proofs.YtfodlhkoafhplaaGreat
