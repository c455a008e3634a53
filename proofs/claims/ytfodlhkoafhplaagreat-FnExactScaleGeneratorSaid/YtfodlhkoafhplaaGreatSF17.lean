/- Walks of functions: each computes its pure function, if that gives a value. -/
import Derived.Test.YtfodlhkoafhplaaGreatSTy
import Derived.Test.YtfodlhkoafhplaaGreatSF15
import Derived.Test.YtfodlhkoafhplaaGreatSF12
import Derived.Test.YtfodlhkoafhplaaGreatSF16
import Derived.Test.YtfodlhkoafhplaaGreatSF2
import Derived.Test.YtfodlhkoafhplaaGreatSF8
import Derived.Test.YtfodlhkoafhplaaGreatSF5
import Derived.Test.YtfodlhkoafhplaaGreatSF3
import Derived.Test.YtfodlhkoafhplaaGreatSF11
import Derived.Test.YtfodlhkoafhplaaGreatSF1
import Derived.Test.YtfodlhkoafhplaaGreatSF14
import Derived.Test.YtfodlhkoafhplaaGreatSF10
namespace Go.Proofs.YtfodlhkoafhplaaGreat
open Go
set_option linter.unusedSimpArgs false
set_option linter.unusedVariables false
set_option maxRecDepth 100000
set_option maxHeartbeats 1000000
def g_spec_ScaleGenerator_j2 (K : Nat) (a0 : ((List Int) × (List MpT))) (a1 : Int) (a2 : Int) (a4 : Int) : Option (((List Int) × (List MpT)) × Int) := (if a4 = 0 then ((g_spec_l02Own K (a0.1, a0.2)).bind fun f3 => (if 0 ≤ a1 then (if a1 < (a0.2.length : Int) then ((g_spec_l01Add K ([] : List (A8 × Int)) (rd a0.2 a1) a2).bind fun c9 => (if a1 < (f3.2.length : Int) then ((g_spec_l06Named K (a0.1.length : Int) ([] : (List Int))).bind fun c2 => (if a1 < (c2.length : Int) then ((g_spec_l01Inverse K a2).bind fun d9 => ((g_spec_l01Add K ([] : List (A8 × Int)) (rd c2 a1) d9).bind fun d0 => ((g_spec_l06Images K (f3.1, (f3.2.set (a1).toNat c9)) f3.1 (c2.set (a1).toNat d0) ([] : (List Int))).bind fun b9 => some ((b9.1.1, b9.1.2), b9.2)))) else none)) else none)) else none) else none)) else some ((([] : List Int), ([] : List MpT)), a4))
def g_spec_ScaleGenerator_j1 (K : Nat) (a0 : ((List Int) × (List MpT))) (a1 : Int) (a2 : Int) (r7 : Int) (b6 : Bool) : Option (((List Int) × (List MpT)) × Int) := (if b6 = true then g_spec_ScaleGenerator_j2 K a0 a1 a2 2 else g_spec_ScaleGenerator_j2 K a0 a1 a2 r7)
def g_spec_ScaleGenerator (K : Nat) (a0 : ((List Int) × (List MpT))) (a1 : Int) (a2 : Int) : Option (((List Int) × (List MpT)) × Int) := ((g_spec_l06Place K (a0.1, a0.2) a1).bind fun r7 => (if r7 = 0 then ((g_spec_l01In K a2 1 10006).bind fun d1 => g_spec_ScaleGenerator_j1 K a0 a1 a2 r7 (!d1)) else g_spec_ScaleGenerator_j1 K a0 a1 a2 r7 false))
theorem g_spec_ScaleGenerator_ok {K : Nat} {a0 : ((List Int) × (List MpT))} {a1 : Int} {a2 : Int} {r : (((List Int) × (List MpT)) × Int)} (q0 : g_spec_ScaleGenerator K a0 a1 a2 = some r) {H : FH} {w : World} {L : OL} {s0 : Value} {s1 : Value} (a7 : RdSl (tyInt .i64) H s0 a0.1) (b7 : RdSl (tySl yT) H s1 a0.2) (hS : St H w L) :
 Calls Tryz.prog 66 #[vA ([s0] ++ [s1]), vI a1, vI a2] w (Done (fun v G => (R.t2 (R.agg (tyPr (tySl (tyInt .i64)) (tySl (tySl yT)))) (R.int .i64)).p G v r) H L) := by
 have hsub := Sub.refl H
 refine calls_of_run Tryz.func66 rfl Tryz.ntmps66 rfl ?_
 unfold g_spec_ScaleGenerator at q0
 refine run_seq (run_region ?_)
 refine r_box (v := vA ([s0] ++ [s1])) ([s0] ++ [s1]).toArray rfl rfl hS rfl ?_
 intro b1 w2 hS
 refine r_alloc (z := vA ([vN] ++ [vN])) ([vN] ++ [vN]).toArray ze29.zero rfl hS rfl ?_
 intro b4 w5 hS
 refine r_assign (vI 0) rfl rfl (reg_nil (run_seq (run_region ?_)))
 refine r_loadAll ty29 rfl (hS.get (mR mL)) rfl rfl (r_move (vI a1) rfl rfl ?_)
 obtain ⟨r7, t4, q0⟩ := bind_some q0
 refine r_callFn Tryz.call78 (args2 rfl rfl) rfl (g_spec_l06Place_ok t4 a7 b7 hS) ?_
 rintro e7 w8 ⟨_, H7, rfl, i3, hS, rfl⟩
 refine ⟨_, rfl, ?_⟩
 have hsub := hsub.trans i3
 have a7 := a7.mono i3
 have b7 := b7.mono i3
 refine r_assign (vI r7) rfl rfl (reg_nil (run_seq (run_seq ?_)))
 refine run_cut (fun f w => ∃ (b6 : Bool) (H1 : FH), g_spec_ScaleGenerator_j1 K a0 a1 a2 r7 b6 = some r ∧ Sub H H1 ∧ St H1 w ([(b4, cA ([vN] ++ [vN]) 29)] ++ ([(b1, cA ([s0] ++ [s1]) 29)] ++ L)) ∧ RdSl (tyInt .i64) H1 s0 a0.1 ∧ RdSl (tySl yT) H1 s1 a0.2 ∧ ev f (.tmp 1) = vI a1 ∧ ev f (.tmp 2) = vI a2 ∧ ev f (.tmp 3) = vP b1 ∧ ev f (.tmp 6) = vP b4 ∧ ev f (.tmp 8) = vI r7 ∧ ev f (.tmp 20) = Value.bool b6) ?_ ?_
 rintro fj1 u5 ⟨b6, g8, f4, hsub, hS, a7, b7, f5, f6, f7, f8, i4, d8⟩
 unfold g_spec_ScaleGenerator_j1 at f4
 refine run_cut (fun f w => ∃ (a4 : Int) (H1 : FH), g_spec_ScaleGenerator_j2 K a0 a1 a2 a4 = some r ∧ Sub H H1 ∧ St H1 w ([(b4, cA ([vN] ++ [vN]) 29)] ++ ([(b1, cA ([s0] ++ [s1]) 29)] ++ L)) ∧ RdSl (tyInt .i64) H1 s0 a0.1 ∧ RdSl (tySl yT) H1 s1 a0.2 ∧ ev f (.tmp 1) = vI a1 ∧ ev f (.tmp 2) = vI a2 ∧ ev f (.tmp 3) = vP b1 ∧ ev f (.tmp 6) = vP b4 ∧ ev f (.tmp 8) = vI a4) ?_ ?_
 rintro fj2 u6 ⟨a4, u7, a3, hsub, hS, a7, b7, d2, f9, d3, d4, g0⟩
 unfold g_spec_ScaleGenerator_j2 at a3
 refine run_seq (run_seq (run_region (r_move (vI a4) (by exact g0) rfl ?_)))
 refine r_neq (k := .i64) (a := a4) (b := 0) rfl rfl rfl (reg_nil ?_)
 by_cases g9 : a4 = 0
 rw [if_pos g9] at a3
 refine run_cond_false (Eq.trans rfl (congrArg (fun b => Value.bool (!b)) (decide_eq_true g9))) (run_skip (run_seq (run_region ?_)))
 refine r_loadAll ty29 (by exact d3) (hS.get (mR mL)) rfl rfl ?_
 obtain ⟨f3, o1, a3⟩ := bind_some a3
 refine r_callFn Tryz.call142 (args1 rfl) rfl (g_spec_l02Own_ok o1 a7 b7 hS) ?_
 rintro e11 w12 ⟨a8, a5, H11, n8, rfl, g1, hS, a9, d5⟩
 refine ⟨_, rfl, ?_⟩
 have hsub := hsub.trans g1
 have a7 := a7.mono g1
 have b7 := b7.mono g1
 refine r_alloc (z := vA ([vN] ++ [vN])) ([vN] ++ [vN]).toArray ze29.zero rfl hS rfl ?_
 intro a6 w15 hS
 refine r_storeAll (v := vA ([a8] ++ [a5])) (vs := ([a8] ++ [a5]).toArray) (cs := ([vN] ++ [vN]).toArray) ty29 rfl rfl rfl hS rfl (one_app (one1 a9.isOne) (one1 d5.isOne)) rfl ?_
 intro w17 hS
 refine reg_nil (run_seq ?_)
 obtain ⟨y7, a3⟩ := gd a3
 obtain ⟨u8, a3⟩ := gd a3
 obtain ⟨i5, i6, u9, y8, _, k7, e0, ⟨d6, rfl, c3⟩, k8⟩ := b7.elem (i := a1) (by omega) (by omega)
 obtain ⟨c9, k9, a3⟩ := bind_some a3
 obtain ⟨v0, a3⟩ := gd a3
 obtain ⟨i7, y9, h0⟩ := d5.some (i := a1) (by omega) (by omega)
 refine run_draw 12 (tabL [(27, MP.eq (Value.pointer (some ⟨a6, 1, none⟩))), (28, MP.eq (a5)), (29, MP.eq (vI a1)), (30, MP.eq (vA ([vN]))), (31, MP.eq (Value.pointer (some ⟨b1, 1, none⟩))), (32, MP.eq (s1)), (33, MP.eq (vI a1)), (34, MP.eq (Value.pointer (some ⟨i5, i6, none⟩))), (35, MP.eq (vA ([d6]))), (36, MP.eq (vI a2)), (37, MP.rep (R.agg (tySl yT)) (c9)), (38, MP.eq (Value.pointer (some ⟨i7, (a1).toNat * 1, none⟩)))]) [] mixed rfl rfl rfl hS (hop_q rfl ?_ (hop_q rfl ?_ (hop_q rfl ?_ (hop_q rfl ?_ (hop_q rfl ?_ (hop_q rfl ?_ (hop_q rfl ?_ (hop_q rfl ?_ (hop_q rfl ?_ (hop_q rfl ?_ (hop_q rfl ?_ (hop_q rfl ?_ hop_nil)))))))))))) ?_
 intro t5 w19 H20 X21 z0 hS o2 z1 hcq
 have t6 : ev t5 (.tmp 9) = vP a6 := Eq.trans (o2 9 rfl) rfl
 refine r_fieldAddr fld29_1 t6 rfl ?_
 exact qn (.refl _) rfl hS rfl
 intro t7 w28 H29 X30 z2 hS z3 o3 hcq
 have t8 : ev t7 (.tmp 27) = Value.pointer (some ⟨a6, 1, none⟩) := o3 0 27 rfl rfl
 refine r_loadOne (a5) ty27 t8 (hS.get (mR mL)) rfl rfl ?_
 exact qn (.refl _) rfl hS rfl
 intro f36 w37 H38 X39 z4 hS o4 z5 hcq
 refine r_move (vI a1) (evT (o4 1 rfl) d2) rfl ?_
 exact qn (.refl _) rfl hS rfl
 intro f45 w46 H47 X48 z6 hS z7 z8 hcq
 refine r_build0 (vA ([vN])) bz47 rfl ?_
 exact qn (.refl _) rfl hS rfl
 intro f53 w54 H55 X56 z9 hS o5 a00 hcq
 refine r_fieldAddr fld29_1 (evT (o5 3 rfl) d3) rfl ?_
 exact qn (.refl _) rfl hS rfl
 intro t9 w63 H64 X65 a01 hS a02 o6 hcq
 have u0 : ev t9 (.tmp 31) = Value.pointer (some ⟨b1, 1, none⟩) := o6 4 31 rfl rfl
 refine r_loadOne (s1) ty27 u0 (hS.get (mR (mR (mR (mR mL))))) rfl rfl ?_
 exact qn (.refl _) rfl hS rfl
 intro f71 w72 H73 X74 a03 hS o7 a04 hcq
 refine r_move (vI a1) (evT (o7 1 rfl) d2) rfl ?_
 exact qn (.refl _) rfl hS rfl
 intro i8 a05 a06 a07 v1 hS v2 h1 hcq
 have o8 : ev i8 (.tmp 32) = s1 := h1 5 32 rfl rfl
 have o9 : ev i8 (.tmp 33) = vI a1 := h1 6 33 rfl rfl
 refine r_indexAt sl27 rfl o8 k7 o9 (by omega) (by omega) rfl ?_
 exact qn (.refl _) rfl hS rfl
 intro p0 a08 a09 a10 l0 hS v3 l1 hcq
 have e0 := l0.1 _ _ e0
 have p1 : ev p0 (.tmp 34) = Value.pointer (some ⟨i5, i6, none⟩) := l1 7 34 rfl rfl
 refine r_loadAgg ([d6]) ty47 p1 (hS.froz _ _ e0) rfl k8 rfl ?_
 exact qn (.refl _) rfl hS rfl
 intro a11 a12 a13 a14 v4 hS l2 v5 hcq
 refine r_move (vI a2) (evT (l2 2 rfl) f9) rfl ?_
 exact qn (.refl _) rfl hS rfl
 intro g2 a15 a16 a17 l3 hS v6 e1 hcq
 have c3 := c3.mono l3
 have p2 : ev g2 (.tmp 30) = vA ([vN]) := e1 3 30 rfl rfl
 have p3 : ev g2 (.tmp 35) = vA ([d6]) := e1 8 35 rfl rfl
 have p4 : ev g2 (.tmp 36) = vI a2 := e1 9 36 rfl rfl
 refine r_callFn Tryz.call143 (args3 p2 p3 p4) rfl (g_spec_l01Add_ok k9 RdSl.nil c3 hS) ?_
 rintro a18 a19 ⟨p5, a20, rfl, l4, hS, l5⟩
 refine ⟨p5, rfl, ?_⟩
 exact qn l4 rfl hS l5
 intro i9 a21 a22 a23 v7 hS v8 h2 hcq
 have p6 : ev i9 (.tmp 28) = a5 := h2 1 28 rfl rfl
 have p7 : ev i9 (.tmp 29) = vI a1 := h2 2 29 rfl rfl
 refine r_indexSl0 sl27 (Eq.trans p6 h0) p7 (by omega) (by omega) rfl ?_
 exact qn (.refl _) rfl hS rfl
 intro g3 j0 e2 c6 hS c0 h3 hcq
 have hS : St e2 j0 ([(a6, cA ([a8] ++ [a5]) 29)] ++ (n8 ++ ([(b4, cA ([vN] ++ [vN]) 29)] ++ ([(b1, cA ([s0] ++ [s1]) 29)] ++ L)))) := hS
 have hsub := hsub.trans c6
 have a7 := a7.mono c6
 have a9 := a9.mono c6
 have d5 := d5.mono c6
 have j1 := evT (c0 1 rfl) d2
 have p8 : ev g3 (.tmp 9) = vP a6 := Eq.trans (c0 9 rfl) rfl
 obtain ⟨p9, j2⟩ : ∃ v, ev g3 (.tmp 37) = v := ⟨_, rfl⟩
 have l6 : (R.agg (tySl yT)).p e2 p9 (c9) := j2 ▸ (h3 10 37 (by decide) rfl)
 obtain ⟨_, rfl, ⟨j3, rfl, h9⟩⟩ := l6
 have q1 : ev g3 (.tmp 38) = Value.pointer (some ⟨i7, (a1).toNat * 1, none⟩) := h3 11 38 (by decide) rfl
 have hS : St e2 j0 (n8 ++ ([(a6, cA ([a8] ++ [a5]) 29)] ++ ([(b4, cA ([vN] ++ [vN]) 29)] ++ ([(b1, cA ([s0] ++ [s1]) 29)] ++ L)))) := hS.perm (perm1 (A1 := [(a6, cA ([a8] ++ [a5]) 29)]))
 refine r_storeOwn (τ := (tySl yT)) (v := a5) (u := vA ([j3])) c9 (i := a1) rfl ty47 h0 d5 hS (by exact q1) (by exact j2) (by omega) (by omega) ⟨_, rfl, h9⟩ ?_
 intro q2 d7 c1 hS
 have hS : St e2 q2 ([(a6, cA ([a8] ++ [a5]) 29)] ++ (d7 ++ ([(b4, cA ([vN] ++ [vN]) 29)] ++ ([(b1, cA ([s0] ++ [s1]) 29)] ++ L)))) := hS.perm (perm1 (A1 := [(a6, cA ([a8] ++ [a5]) 29)])).symm
 refine reg_nil (run_seq (run_region (r_fieldAddr fld29_0 (by exact (evT (c0 3 rfl) d3)) rfl ?_)))
 refine r_loadOne (s0) ty22 rfl (hS.get (mR (mR (mR mL)))) rfl rfl ?_
 have v9 := a7.bound
 refine r_lenRd sl22 rfl a7 rfl ?_
 obtain ⟨c2, l7, a3⟩ := bind_some a3
 refine r_callFn Tryz.call80 (args2 rfl rfl) rfl (g_spec_l06Named_ok l7 RdSl.nil hS) ?_
 rintro a24 a25 ⟨b5, a26, g4, rfl, e3, hS, b8⟩
 refine ⟨_, rfl, ?_⟩
 have hsub := hsub.trans e3
 have a9 := a9.mono e3
 have c1 := c1.mono e3
 refine r_assign (b5) rfl rfl (reg_nil (run_seq ?_))
 obtain ⟨w0, a3⟩ := gd a3
 obtain ⟨j4, a27, h4⟩ := b8.some (i := a1) (by omega) (by omega)
 obtain ⟨d9, l9, a3⟩ := bind_some a3
 obtain ⟨d0, m0, a3⟩ := bind_some a3
 obtain ⟨j5, a28, h5⟩ := b8.some (i := a1) (by omega) (by omega)
 refine run_draw 11 (tabL [(43, MP.eq (b5)), (44, MP.eq (vI a1)), (45, MP.eq (vA ([vN]))), (46, MP.eq (b5)), (47, MP.eq (vI a1)), (48, MP.eq (Value.pointer (some ⟨j4, (a1).toNat * 1, none⟩))), (49, MP.rep (R.agg (tySl yT)) ((rd c2 a1))), (50, MP.eq (vI a2)), (51, MP.eq (vI d9)), (52, MP.rep (R.agg (tySl yT)) (d0)), (53, MP.eq (Value.pointer (some ⟨j5, (a1).toNat * 1, none⟩)))]) [] mixed rfl rfl rfl hS (hop_q rfl ?_ (hop_q rfl ?_ (hop_q rfl ?_ (hop_q rfl ?_ (hop_q rfl ?_ (hop_q rfl ?_ (hop_q rfl ?_ (hop_q rfl ?_ (hop_q rfl ?_ (hop_q rfl ?_ (hop_q rfl ?_ hop_nil))))))))))) ?_
 intro q3 a29 a30 a31 w1 hS m1 w3 hcq
 have q4 : ev q3 (.tmp 10) = b5 := Eq.trans (m1 10 rfl) rfl
 refine r_move (b5) q4 rfl ?_
 exact qn (.refl _) rfl hS rfl
 intro a32 a33 a34 a35 w4 hS m2 w6 hcq
 refine r_move (vI a1) (evT (m2 1 rfl) j1) rfl ?_
 exact qn (.refl _) rfl hS rfl
 intro a36 a37 a38 a39 w7 hS w9 x0 hcq
 refine r_build0 (vA ([vN])) bz47 rfl ?_
 exact qn (.refl _) rfl hS rfl
 intro q5 a40 a41 a42 x1 hS m3 x2 hcq
 have q6 : ev q5 (.tmp 10) = b5 := Eq.trans (m3 10 rfl) rfl
 refine r_move (b5) q6 rfl ?_
 exact qn (.refl _) rfl hS rfl
 intro a43 a44 a45 a46 x3 hS m4 x4 hcq
 refine r_move (vI a1) (evT (m4 1 rfl) j1) rfl ?_
 exact qn (.refl _) rfl hS rfl
 intro j6 a47 a48 a49 x5 hS x6 h6 hcq
 have q7 : ev j6 (.tmp 46) = b5 := h6 3 46 rfl rfl
 have q8 : ev j6 (.tmp 47) = vI a1 := h6 4 47 rfl rfl
 refine r_indexSl0 sl27 (Eq.trans q7 h4) q8 (by omega) (by omega) rfl ?_
 exact qn (.refl _) rfl hS rfl
 intro q9 j7 j8 e4 m5 hS x7 m6 hcq
 have b8 := b8.mono m5
 have r0 : ev q9 (.tmp 48) = Value.pointer (some ⟨j4, (a1).toNat * 1, none⟩) := m6 5 48 rfl rfl
 have hS : St j8 j7 (g4 ++ (e4 ++ ([(a6, cA ([a8] ++ [a5]) 29)] ++ (d7 ++ ([(b4, cA ([vN] ++ [vN]) 29)] ++ ([(b1, cA ([s0] ++ [s1]) 29)] ++ L)))))) := hS.perm (perm1 (A1 := e4))
 refine r_loadOwnA rfl ty47 h4 b8 hS r0 (by omega) (by omega) rfl ?_
 intro x8 r1
 obtain ⟨u1, rfl, i0⟩ := r1
 have hS : St j8 j7 (e4 ++ (g4 ++ ([(a6, cA ([a8] ++ [a5]) 29)] ++ (d7 ++ ([(b4, cA ([vN] ++ [vN]) 29)] ++ ([(b1, cA ([s0] ++ [s1]) 29)] ++ L)))))) := hS.perm (perm1 (A1 := e4)).symm
 exact qn (.refl _) rfl hS ⟨_, rfl, ⟨_, rfl, i0⟩⟩
 intro a50 a51 a52 a53 x9 hS m7 y0 hcq
 refine r_move (vI a2) (evT (m7 2 rfl) (evT (c0 2 rfl) f9)) rfl ?_
 exact qn (.refl _) rfl hS rfl
 intro r2 a54 a55 a56 y1 hS y2 m8 hcq
 have r3 : ev r2 (.tmp 50) = vI a2 := m8 7 50 rfl rfl
 refine r_callFn Tryz.call149 (args1 r3) rfl (g_spec_l01Inverse_ok l9  hS) ?_
 rintro a57 a58 ⟨_, a59, rfl, m9, hS, rfl⟩
 refine ⟨_, rfl, ?_⟩
 exact qn m9 rfl hS rfl
 intro g5 a60 r4 a61 y3 hS y4 e5 hcq
 have r5 : ev g5 (.tmp 45) = vA ([vN]) := e5 2 45 rfl rfl
 obtain ⟨r6, j9⟩ : ∃ v, ev g5 (.tmp 49) = v := ⟨_, rfl⟩
 have n0 : (R.agg (tySl yT)).p r4 r6 ((rd c2 a1)) := j9 ▸ (e5 6 49 rfl rfl)
 obtain ⟨_, rfl, ⟨u2, rfl, i1⟩⟩ := n0
 have r8 : ev g5 (.tmp 51) = vI d9 := e5 8 51 rfl rfl
 refine r_callFn Tryz.call143 (args3 r5 j9 r8) rfl (g_spec_l01Add_ok m0 RdSl.nil i1 hS) ?_
 rintro a62 a63 ⟨r9, a64, rfl, n1, hS, n2⟩
 refine ⟨r9, rfl, ?_⟩
 exact qn n1 rfl hS n2
 intro k0 a65 a66 a67 y5 hS y6 h7 hcq
 have s2 : ev k0 (.tmp 43) = b5 := h7 0 43 rfl rfl
 have s3 : ev k0 (.tmp 44) = vI a1 := h7 1 44 rfl rfl
 refine r_indexSl0 sl27 (Eq.trans s2 h5) s3 (by omega) (by omega) rfl ?_
 exact qn (.refl _) rfl hS rfl
 intro g6 s4 g7 c7 hS e6 h8 hcq
 have hS : St g7 s4 (g4 ++ ([(a6, cA ([a8] ++ [a5]) 29)] ++ (d7 ++ ([(b4, cA ([vN] ++ [vN]) 29)] ++ ([(b1, cA ([s0] ++ [s1]) 29)] ++ L))))) := hS
 have hsub := hsub.trans c7
 have a9 := a9.mono c7
 have c1 := c1.mono c7
 have b8 := b8.mono c7
 have k1 := evT (e6 6 rfl) (evT (c0 6 rfl) d4)
 have k2 := evT (e6 9 rfl) p8
 have s5 : ev g6 (.tmp 10) = b5 := Eq.trans (e6 10 rfl) rfl
 obtain ⟨s6, k3⟩ : ∃ v, ev g6 (.tmp 52) = v := ⟨_, rfl⟩
 have n3 : (R.agg (tySl yT)).p g7 s6 (d0) := k3 ▸ (h8 9 52 (by decide) rfl)
 obtain ⟨_, rfl, ⟨k4, rfl, i2⟩⟩ := n3
 have s7 : ev g6 (.tmp 53) = Value.pointer (some ⟨j5, (a1).toNat * 1, none⟩) := h8 10 53 (by decide) rfl
 refine r_storeOwn (τ := (tySl yT)) (v := b5) (u := vA ([k4])) d0 (i := a1) rfl ty47 h5 b8 hS (by exact s7) (by exact k3) (by omega) (by omega) ⟨_, rfl, i2⟩ ?_
 intro s8 k5 e8 hS
 refine reg_nil (run_seq (run_region ?_))
 refine r_loadAll ty29 (by exact k2) (hS.get (mR mL)) rfl rfl (r_fieldAddr fld29_0 (by exact k2) rfl ?_)
 refine r_loadOne (a8) ty22 rfl (hS.get (mR mL)) rfl rfl (r_move (b5) (by exact s5) rfl ?_)
 have hS : St g7 s8 (d7 ++ (k5 ++ ([(a6, cA ([a8] ++ [a5]) 29)] ++ ([(b4, cA ([vN] ++ [vN]) 29)] ++ ([(b1, cA ([s0] ++ [s1]) 29)] ++ L))))) := hS.perm (perm2 (A1 := k5) (A2 := [(a6, cA ([a8] ++ [a5]) 29)]))
 obtain ⟨a68, e9, hS, f0⟩ := c1.freeze hS
 have hsub := hsub.trans e9
 have a9 := a9.mono e9
 have e8 := e8.mono e9
 obtain ⟨a69, f1, hS, n4⟩ := e8.freeze hS
 have hsub := hsub.trans f1
 have a9 := a9.mono f1
 have f0 := f0.mono f1
 obtain ⟨b9, n5, a3⟩ := bind_some a3
 refine r_callFn Tryz.call82 (args4 rfl rfl rfl rfl) rfl (g_spec_l06Images_ok n5 a9 f0 a9 n4 RdSl.nil hS) ?_
 rintro a70 s9 ⟨_, k6, rfl, n6, hS, ⟨u3, u4, rfl, ⟨_, rfl, ⟨_, _, rfl, ⟨b0, rfl, c4⟩, ⟨b2, rfl, c5⟩⟩⟩, rfl⟩⟩
 refine ⟨_, rfl, ?_⟩
 have hsub := hsub.trans n6
 refine r_extract (vA ([b0] ++ [b2])) rfl rfl rfl (r_extract (vI b9.2) rfl rfl rfl ?_)
 have hS : St k6 s9 ([(b4, cA ([vN] ++ [vN]) 29)] ++ ([(a6, cA ([a8] ++ [a5]) 29)] ++ ([(b1, cA ([s0] ++ [s1]) 29)] ++ L))) := hS.perm (perm1 (A1 := [(a6, cA ([a8] ++ [a5]) 29)]))
 refine r_storeAll (v := vA ([b0] ++ [b2])) (vs := ([b0] ++ [b2]).toArray) (cs := ([vN] ++ [vN]).toArray) ty29 (by exact k1) rfl rfl hS rfl (one_app (one1 c4.isOne) (one1 c5.isOne)) rfl ?_
 intro t0 hS
 have hS : St k6 t0 ([(a6, cA ([a8] ++ [a5]) 29)] ++ ([(b4, cA ([b0] ++ [b2]) 29)] ++ ([(b1, cA ([s0] ++ [s1]) 29)] ++ L))) := hS.perm (perm1 (A1 := [(a6, cA ([a8] ++ [a5]) 29)])).symm
 refine r_assign (vI b9.2) rfl rfl (reg_nil ?_)
 refine run_ret (vs := [vA ([b0] ++ [b2]), vI b9.2]) Tryz.func66 ⟨⟨_, (by exact k1), run_loadAll ty29 (hS.get (mR mL)) rfl⟩, rfl, trivial⟩ ?_
 have hz := Option.some.inj a3
 subst hz
 exact ⟨_, _, rfl, hsub, (St.dropA (A := [(b1, cA ([s0] ++ [s1]) 29)]) (St.dropA (A := [(b4, cA ([b0] ++ [b2]) 29)]) (St.dropA (A := [(a6, cA ([a8] ++ [a5]) 29)]) hS))), ⟨_, _, rfl, ⟨_, rfl, ⟨_, _, rfl, ⟨_, rfl, c4⟩, ⟨_, rfl, c5⟩⟩⟩, rfl⟩⟩
 rw [if_neg g9] at a3
 refine run_cond_true (Eq.trans rfl (congrArg (fun b => Value.bool (!b)) (decide_eq_false g9))) (run_seq (run_region ?_))
 refine r_build0 (vA ([vN] ++ [vN])) bz29 rfl (r_move (vI a4) (by exact g0) rfl ?_)
 refine r_storeAll (v := vA ([vN] ++ [vN])) (vs := ([vN] ++ [vN]).toArray) (cs := ([vN] ++ [vN]).toArray) ty29 (by exact d4) rfl rfl hS rfl (one_app (one1 rfl) (one1 rfl)) rfl ?_
 intro a71 hS
 refine r_assign (vI a4) rfl rfl (reg_nil ?_)
 refine run_ret (vs := [vA ([vN] ++ [vN]), vI a4]) Tryz.func66 ⟨⟨_, (by exact d4), run_loadAll ty29 (hS.get mL) rfl⟩, rfl, trivial⟩ ?_
 have hz := Option.some.inj a3
 subst hz
 exact ⟨_, _, rfl, hsub, (St.dropA (A := [(b1, cA ([s0] ++ [s1]) 29)]) (St.dropA (A := [(b4, cA ([vN] ++ [vN]) 29)]) hS)), ⟨_, _, rfl, ⟨_, rfl, ⟨_, _, rfl, ⟨_, rfl, RdSl.nil⟩, ⟨_, rfl, RdSl.nil⟩⟩⟩, rfl⟩⟩
 intro n9
 by_cases c8 : b6 = true
 rw [if_pos c8] at f4
 refine run_cond_true (Eq.trans (by exact d8) (congrArg Value.bool c8)) (run_region (r_assign (vI 2) rfl rfl (reg_nil ?_)))
 exact n9 _ _ ⟨2, g8, f4, hsub, hS, a7, b7, f5, f6, f7, f8, rfl⟩
 rw [if_neg c8] at f4
 refine run_cond_false (Eq.trans (by exact d8) (congrArg Value.bool (bfalse c8))) (run_skip ?_)
 exact n9 _ _ ⟨r7, g8, f4, hsub, hS, a7, b7, f5, f6, f7, f8, i4⟩
 intro o0
 refine run_region (r_move (vI r7) rfl rfl ?_)
 refine r_eql (k := .i64) (a := r7) (b := 0) rfl rfl rfl (r_move (Value.bool (decide (r7 = 0))) rfl rfl ?_)
 by_cases b3 : r7 = 0
 rw [if_pos b3] at q0
 refine reg_guard rfl rfl (Eq.trans rfl (congrArg Value.bool (decide_eq_true b3))) (r_move (vI a2) rfl rfl ?_)
 obtain ⟨d1, n7, q0⟩ := bind_some q0
 refine reg_guard rfl rfl (Eq.trans rfl (congrArg Value.bool (decide_eq_true b3))) ?_
 refine r_callFn Tryz.call93 (args3 rfl rfl rfl) rfl (g_spec_l01In_ok n7  hS) ?_
 rintro a72 a73 ⟨_, t1, rfl, f2, hS, rfl⟩
 refine ⟨_, rfl, ?_⟩
 have hsub := hsub.trans f2
 have a7 := a7.mono f2
 have b7 := b7.mono f2
 refine reg_guard rfl rfl (Eq.trans rfl (congrArg Value.bool (decide_eq_true b3))) (r_not (b := d1) rfl rfl ?_)
 refine r_pick (t := true) (Value.bool (!d1)) (Eq.trans rfl (congrArg Value.bool (decide_eq_true b3))) ((if_pos rfl).trans rfl) rfl (reg_nil ?_)
 exact o0 _ _ ⟨(!d1), t1, q0, hsub, hS, a7, b7, rfl, rfl, rfl, rfl, rfl, rfl⟩
 rw [if_neg b3] at q0
 refine reg_unguard rfl rfl (Eq.trans rfl (congrArg Value.bool (decide_eq_false b3))) rfl rfl rfl (reg_unguard rfl rfl (Eq.trans rfl (congrArg Value.bool (decide_eq_false b3))) rfl rfl rfl (reg_unguard rfl rfl (Eq.trans rfl (congrArg Value.bool (decide_eq_false b3))) rfl rfl rfl ?_))
 refine r_pick (t := false) (Value.bool false) (Eq.trans rfl (congrArg Value.bool (decide_eq_false b3))) ((if_neg Bool.false_ne_true).trans rfl) rfl (reg_nil ?_)
 exact o0 _ _ ⟨false, H7, q0, hsub, hS, a7, b7, rfl, rfl, rfl, rfl, rfl, rfl⟩
def g_impl_leader_lead_l1 (K : Nat) (a0 : LdT) (a9 : (A8 × Int)) : Nat → MpT → Int → Option (Ex MpT (MpT))
 | 0, _, _ => none
 | k + 1, c4, a3 => (if a3 < (a0.1.length : Int) then (if a3 < 8 then (if 0 < (idx8 a9.1 a3) then ((g_impl_leader_power K (a0.1, a0.2.1, a0.2.2) a3 (idx8 a9.1 a3)).bind fun f5 => ((g_impl_sum_times K c4 a0.2.1 f5).bind fun e7 => g_impl_leader_lead_l1 K a0 a9 k e7 (a3 + 1))) else g_impl_leader_lead_l1 K a0 a9 k c4 (a3 + 1)) else none) else some (.go c4))
def g_impl_leader_lead_l0 (K : Nat) (a0 : LdT) : Nat → MpT → MpT → Option (Ex MpT (MpT))
 | 0, _, _ => none
 | k + 1, [], a8 => some (.go a8)
 | k + 1, a9 :: e8, a8 => ((g_impl_number K).bind fun h6 => ((g_impl_leader_lead_l1 K a0 a9 K h6 0).bind (Ex.elim (fun r => some (.ret r)) (fun s => (fun (e9 : MpT) => ((g_impl_sum_addAll K a8 e9 a9.2).bind fun g3 => g_impl_leader_lead_l0 K a0 k e8 g3)) s))))
theorem g_impl_leader_lead_l0_perm {K : Nat} {a0 : LdT} {a8 : MpT} {k : Nat} {zp zq : MpT} {o : Ex MpT (MpT)} (hp : zp.Perm zq) (q : g_impl_leader_lead_l0 K a0 k zp a8 = some o) : g_impl_leader_lead_l0 K a0 k zq a8 = some o := by
 exact (perm_loop (K := K) (fun k zs s => g_impl_leader_lead_l0 K a0 k zs s) (by intros; rw [g_impl_leader_lead_l0])
  (fun z => by
   refine ⟨fun s => (g_impl_number K).bind fun r => (g_impl_leader_lead_l1 K a0 z K r 0).bind fun e => (match e with | .ret _ => none | .go y => g_impl_sum_addAll K s y z.2), .const fun r => ?_, fun k zs s => ?_⟩
   cases g_impl_leader_lead_l1 K a0 z K r 0 with
   | none => exact .fail
   | some e => cases e with
    | ret _ => exact .fail
    | go y => exact addAll_add _ _
   rw [g_impl_leader_lead_l0]
   cases g_impl_number K with
   | none => rfl
   | some r =>
    simp only [Option.bind_some]
    cases hq : g_impl_leader_lead_l1 K a0 z K r 0 with
    | none => rfl
    | some e => cases e with
     | go y => rfl
     | ret y =>
      have : ∀ (k : Nat) (t : MpT) (i : Int) e, g_impl_leader_lead_l1 K a0 z k t i = some e → ∃ y, e = .go y := by
       intro k
       induction k with
       | zero => intro t i e h; rw [g_impl_leader_lead_l1] at h; cases h
       | succ k ih =>
        intro t i e h
        rw [g_impl_leader_lead_l1] at h
        split at h
        split at h
        split at h
        obtain ⟨_, _, h⟩ := bind_some h
        obtain ⟨_, _, h⟩ := bind_some h
        exact ih _ _ _ h
        exact ih _ _ _ h
        cases h
        cases h; exact ⟨_, rfl⟩
      obtain ⟨y', h⟩ := this _ _ _ _ hq
      cases h) hp k a8).symm.trans q
def g_impl_leader_lead (K : Nat) (a0 : LdT) (a1 : MpT) : Option MpT := ((g_impl_leader_lead_l0 K a0 K a1 ([] : MpT)).bind (Ex.elim (fun r => some r) (fun s => (fun (c5 : MpT) => some c5) s)))
theorem g_impl_leader_lead_ok {K : Nat} {a0 : LdT} {a1 : MpT} {r : MpT} (q0 : g_impl_leader_lead K a0 a1 = some r) {H : FH} {w : World} {L : OL} {s0 : Value} {s1 : Value} (o6 : PtrF (tyLd K) H s0 a0) (o7 : RdMp .i64 H s1 a1) (hS : St H w L) :
 Calls Tryz.prog 117 #[s0, s1] w (DoneM .i64 r H L) := by
 obtain ⟨b7, c2, g4, h7, _, rfl, b1, ⟨d9, c6, f0, f6, rfl, a5, a4, a6, b0⟩, g5⟩ := o6
 have hsub := Sub.refl H
 refine calls_of_run Tryz.func117 rfl Tryz.ntmps117 rfl ?_
 unfold g_impl_leader_lead at q0
 refine run_seq (run_region (r_assign (Value.map none) rfl rfl (reg_nil (run_seq (run_region ?_)))))
 refine r_makeMap (k := .i64) hS rfl ?_
 intro m1 w2 C3 o8 hS
 refine r_assign (m1) rfl rfl (reg_nil (run_seq (run_seq (run_region (r_move (s1) rfl rfl ?_)))))
 refine r_range mp109 rfl o7 hS rfl ?_
 intro f1 w7 C8 o9 hS
 refine reg_nil (run_block ?_)
 obtain ⟨h8, b6, h9⟩ := bind_some q0
 refine loop_ind (id := 0) (fun k f w => ∃ (c8 : MpT) (a8 : MpT) (H1 : FH) (b8 : OL) (b2 : OL), g_impl_leader_lead_l0 K a0 k c8 a8 = some h8 ∧ Sub H H1 ∧ St H1 w (b8 ++ (b2 ++ L)) ∧ ItMp .i64 H1 f1 c8 none b8 ∧ OwnMp .i64 m1 a8 b2 ∧ MemoAt H1 f6 (MemoI K a0) ∧ RdSl (tyInt .i64) H1 d9 a0.1 ∧ RdSl (tyInt .i64) H1 c6 a0.2.1 ∧ RdSl (tyMp .i64) H1 f0 a0.2.2 ∧ H1 b7 = some (.cells g4 h7) ∧ ev f (.tmp 0) = Value.pointer (some ⟨b7, c2, none⟩) ∧ ev f (.tmp 5) = m1 ∧ ev f (.tmp 12) = f1) (fun f w => ∃ (c5 : MpT) (H1 : FH) (b5 : OL) (c1 : OL), h8 = .go c5 ∧ Sub H H1 ∧ St H1 w (b5 ++ (c1 ++ L)) ∧ ItMp .i64 H1 f1 ([] : MpT) none b5 ∧ OwnMp .i64 m1 c5 c1 ∧ ev f (.tmp 5) = m1) rfl ?_ ?_ K ?_ ?_
 rintro f w ⟨c8, a8, H1, b8, b2, b6, _⟩
 rw [g_impl_leader_lead_l0] at b6; cases b6
 rintro k q8 q9 p0 p1 ⟨c8, a8, l0, b8, b2, b6, hsub, hS, e0, a7, b0, a5, a4, a6, b1, f2, f3, d6⟩
 refine run_seq (run_region ?_)
 refine r_next (by exact d6) e0 hS rfl ?_ ?_
 intro l1; subst l1
 rw [g_impl_leader_lead_l0] at b6
 refine r_extract (Value.bool false) rfl rfl rfl (reg_nil (run_seq (run_cond_false rfl ?_)))
 refine run_exit rfl ?_
 have hz := Option.some.inj b6
 subst hz
 exact p1 _ _ ⟨a8, l0, b8, b2, rfl, hsub, hS, e0, a7, f3⟩
 intro a9 e8 v6 d5 l2 b4 hS
 replace b6 := g_impl_leader_lead_l0_perm l2 b6
 rw [g_impl_leader_lead_l0] at b6
 refine r_extract (Value.bool true) rfl rfl rfl (reg_nil (run_seq (run_cond_true rfl (run_skip (run_block (run_seq (run_region ?_)))))))
 refine r_entry (by exact d6) b4 hS rfl (r_extract (vA (enc8 .i64 a9.1)) rfl rfl rfl (r_extract (vI a9.2) rfl rfl rfl ?_))
 refine r_alloc (z := vA (enc8 .i64 (fun _ => 0))) (enc8 .i64 (fun _ => 0)).toArray ze188.zero rfl hS rfl ?_
 intro d2 v7 hS
 refine r_storeAll (v := vA (enc8 .i64 a9.1)) (vs := (enc8 .i64 a9.1).toArray) (cs := (enc8 .i64 (fun _ => 0)).toArray) ty188 rfl rfl rfl hS rfl (enc8_one .i64 a9.1) rfl ?_
 intro v8 hS
 refine r_assign (vI a9.2) rfl rfl (reg_nil (run_seq (run_region ?_)))
 obtain ⟨h6, l3, b6⟩ := bind_some b6
 refine r_callFn Tryz.call207 args0 rfl (g_impl_number_ok l3  hS) ?_
 rintro v9 w0 ⟨k8, w1, w3, rfl, d3, hS, l4⟩
 refine ⟨_, rfl, ?_⟩
 have hsub := hsub.trans d3
 have a5 := a5.mono d3
 have a4 := a4.mono d3
 have a6 := a6.mono d3
 have b0 := b0.mono d3
 have a7 := a7.mono d3
 have b4 := b4.mono d3
 have b1 := d3.1 _ _ b1
 refine r_assign (k8) rfl rfl (reg_nil (run_seq (run_seq (run_region (r_move (Value.pointer (some ⟨b7, c2, none⟩)) (by exact f2) rfl (r_nilCheck rfl rfl (r_fieldAddr fld214_0 rfl rfl ?_)))))))
 refine r_loadOne (d9) ty22 rfl (hS.froz _ _ b1) (g5 0 (show 0 < 4 by decide)) rfl ?_
 have r0 := a5.bound
 refine r_lenRd sl22 rfl a5 rfl (r_move (vI 0) rfl rfl (reg_nil (run_block ?_)))
 obtain ⟨i8, b9, hS, i0⟩ := l4.freeze hS
 have hsub := hsub.trans b9
 have a5 := a5.mono b9
 have a4 := a4.mono b9
 have a6 := a6.mono b9
 have b0 := b0.mono b9
 have a7 := a7.mono b9
 have b4 := b4.mono b9
 have b1 := b9.1 _ _ b1
 obtain ⟨i1, b3, f7⟩ := bind_some b6
 refine loop_ind (id := 2) (fun k f w => ∃ (c4 : MpT) (a3 : Int) (H1 : FH) (c0 : Value), g_impl_leader_lead_l1 K a0 a9 k c4 a3 = some i1 ∧ Sub H H1 ∧ St H1 w ([(d2, cA (enc8 .i64 a9.1) 188)] ++ (d5 ++ (b2 ++ L))) ∧ 0 ≤ a3 ∧ RdMp .i64 H1 c0 c4 ∧ MemoAt H1 f6 (MemoI K a0) ∧ RdSl (tyInt .i64) H1 d9 a0.1 ∧ RdSl (tyInt .i64) H1 c6 a0.2.1 ∧ RdSl (tyMp .i64) H1 f0 a0.2.2 ∧ OwnMp .i64 m1 a8 b2 ∧ ItMp .i64 H1 f1 e8 (some a9) d5 ∧ H1 b7 = some (.cells g4 h7) ∧ ev f (.tmp 0) = Value.pointer (some ⟨b7, c2, none⟩) ∧ ev f (.tmp 5) = m1 ∧ ev f (.tmp 6) = vP d2 ∧ ev f (.tmp 7) = vI a9.2 ∧ ev f (.tmp 8) = c0 ∧ ev f (.tmp 12) = f1 ∧ ev f (.tmp 23) = vI (a0.1.length : Int) ∧ ev f (.tmp 24) = vI a3) (fun f w => ∃ (e9 : MpT) (H1 : FH) (e6 : Value), i1 = .go e9 ∧ Sub H H1 ∧ St H1 w ([(d2, cA (enc8 .i64 a9.1) 188)] ++ (d5 ++ (b2 ++ L))) ∧ RdMp .i64 H1 e6 e9 ∧ MemoAt H1 f6 (MemoI K a0) ∧ RdSl (tyInt .i64) H1 d9 a0.1 ∧ RdSl (tyInt .i64) H1 c6 a0.2.1 ∧ RdSl (tyMp .i64) H1 f0 a0.2.2 ∧ OwnMp .i64 m1 a8 b2 ∧ ItMp .i64 H1 f1 e8 (some a9) d5 ∧ H1 b7 = some (.cells g4 h7) ∧ ev f (.tmp 0) = Value.pointer (some ⟨b7, c2, none⟩) ∧ ev f (.tmp 5) = m1 ∧ ev f (.tmp 7) = vI a9.2 ∧ ev f (.tmp 8) = e6 ∧ ev f (.tmp 12) = f1) rfl ?_ ?_ K ?_ ?_
 rintro f w ⟨c4, a3, H1, c0, b3, _⟩
 rw [g_impl_leader_lead_l1] at b3; cases b3
 rintro k r1 r2 k9 p2 ⟨c4, a3, i2, c0, b3, hsub, hS, o5, e1, b0, a5, a4, a6, a7, b4, b1, c7, e3, d4, e4, e5, d7, d8, c9⟩
 rw [g_impl_leader_lead_l1] at b3
 refine run_seq (run_region ?_)
 refine r_lss (k := .i64) (a := a3) (b := (a0.1.length : Int)) (by exact c9) (by exact d8) rfl (reg_nil (run_seq ?_))
 by_cases f8 : a3 < (a0.1.length : Int)
 rw [if_pos f8] at b3
 refine run_cond_true (Eq.trans rfl (congrArg Value.bool (decide_eq_true f8))) (run_skip (run_seq (run_block (run_seq (run_region (r_move (vI a3) (by exact c9) rfl (r_assign (vI a3) rfl rfl (reg_nil (run_seq (run_region (r_move (vI a3) rfl rfl ?_)))))))))))
 obtain ⟨r3, b3⟩ := gd b3
 refine r_indexArP ar188 (by exact d4) rfl (by omega) (by omega) rfl ?_
 refine r_loadOne (vI (idx8 a9.1 a3)) ty3 rfl (hS.get (o := cA (enc8 .i64 a9.1) 188) mL) (box_ix ([]) ([]) (by omega) (by omega)) rfl ?_
 refine r_gtr (k := .i64) (a := (idx8 a9.1 a3)) (b := 0) rfl rfl rfl (reg_nil ?_)
 by_cases f9 : 0 < (idx8 a9.1 a3)
 rw [if_pos f9] at b3
 refine run_cond_true (Eq.trans rfl (congrArg Value.bool (decide_eq_true f9))) ?_
 obtain ⟨f5, i9, b3⟩ := bind_some b3
 obtain ⟨e7, j0, b3⟩ := bind_some b3
 refine run_draw 12 (tabL [(31, MP.eq (c0)), (32, MP.eq (Value.pointer (some ⟨b7, c2, none⟩))), (33, MP.eq (Value.pointer (some ⟨b7, c2, none⟩))), (34, MP.eq (Value.pointer (some ⟨b7, c2 + 1, none⟩))), (35, MP.eq (c6)), (36, MP.eq (Value.pointer (some ⟨b7, c2, none⟩))), (37, MP.eq (vI a3)), (38, MP.eq (vI a3)), (39, MP.eq (Value.pointer (some ⟨d2, 0 + (a3).toNat * 1, none⟩))), (40, MP.eq (vI (idx8 a9.1 a3))), (41, MP.rep (R.mp .i64) (f5)), (42, MP.mp .i64 (e7))]) [] mixed rfl rfl rfl hS (hop_q rfl ?_ (hop_q rfl ?_ (hop_q rfl ?_ (hop_q rfl ?_ (hop_q rfl ?_ (hop_q rfl ?_ (hop_q rfl ?_ (hop_q rfl ?_ (hop_q rfl ?_ (hop_q rfl ?_ (hop_q rfl ?_ (hop_q rfl ?_ hop_nil)))))))))))) ?_
 intro w4 w5 w6 w8 r4 hS l5 r5 hcq
 refine r_move (c0) (evT (l5 8 rfl) e5) rfl ?_
 exact qn (.refl _) rfl hS rfl
 intro w9 x0 x1 x2 r6 hS l6 r7 hcq
 refine r_move (Value.pointer (some ⟨b7, c2, none⟩)) (evT (l6 0 rfl) c7) rfl ?_
 exact qn (.refl _) rfl hS rfl
 intro p3 x3 x4 x5 r8 hS r9 l7 hcq
 have p4 : ev p3 (.tmp 32) = Value.pointer (some ⟨b7, c2, none⟩) := l7 1 32 rfl rfl
 refine r_nilCheck p4 rfl ?_
 exact qn (.refl _) rfl hS rfl
 intro p5 x6 x7 x8 s2 hS s3 l9 hcq
 have p6 : ev p5 (.tmp 33) = Value.pointer (some ⟨b7, c2, none⟩) := l9 2 33 rfl rfl
 refine r_fieldAddr fld214_1 p6 rfl ?_
 exact qn (.refl _) rfl hS rfl
 intro p7 x9 y0 y1 m0 hS s4 m2 hcq
 have b1 := m0.1 _ _ b1
 have p8 : ev p7 (.tmp 34) = Value.pointer (some ⟨b7, c2 + 1, none⟩) := m2 3 34 rfl rfl
 refine r_loadOne (c6) ty22 p8 (hS.froz _ _ b1) (g5 1 (show 1 < 4 by decide)) rfl ?_
 exact qn (.refl _) rfl hS rfl
 intro y2 y3 y4 y5 s5 hS m3 s6 hcq
 refine r_move (Value.pointer (some ⟨b7, c2, none⟩)) (evT (m3 0 rfl) c7) rfl ?_
 exact qn (.refl _) rfl hS rfl
 intro p9 y6 y7 y8 s7 hS m4 s8 hcq
 have q1 : ev p9 (.tmp 9) = vI a3 := Eq.trans (m4 9 rfl) rfl
 refine r_move (vI a3) q1 rfl ?_
 exact qn (.refl _) rfl hS rfl
 intro q2 y9 z0 z1 s9 hS m5 t0 hcq
 have m6 : ev q2 (.tmp 9) = vI a3 := Eq.trans (m5 9 rfl) rfl
 refine r_move (vI a3) m6 rfl ?_
 exact qn (.refl _) rfl hS rfl
 intro m7 t1 t4 t5 q3 hS j1 j2 hcq
 have m8 : ev m7 (.tmp 38) = vI a3 := j2 7 38 rfl rfl
 refine r_indexArP ar188 (evT (j1 6 rfl) d4) m8 (by omega) (by omega) rfl ?_
 exact qn (.refl _) rfl hS rfl
 intro m9 t6 t7 t8 q4 hS q5 j3 hcq
 have n0 : ev m9 (.tmp 39) = Value.pointer (some ⟨d2, 0 + (a3).toNat * 1, none⟩) := j3 8 39 rfl rfl
 refine r_loadOne (vI (idx8 a9.1 a3)) ty3 n0 (hS.get (o := cA (enc8 .i64 a9.1) 188) (mR mL)) (box_ix ([]) ([]) (by omega) (by omega)) rfl ?_
 exact qn (.refl _) rfl hS rfl
 intro g6 t9 u0 u1 e2 hS q6 g0 hcq
 have a5 := a5.mono e2
 have a4 := a4.mono e2
 have a6 := a6.mono e2
 have b0 := b0.mono e2
 have b1 := e2.1 _ _ b1
 have n1 : ev g6 (.tmp 36) = Value.pointer (some ⟨b7, c2, none⟩) := g0 5 36 rfl rfl
 have n2 : ev g6 (.tmp 37) = vI a3 := g0 6 37 rfl rfl
 have n3 : ev g6 (.tmp 40) = vI (idx8 a9.1 a3) := g0 9 40 rfl rfl
 refine r_callFn Tryz.call208 (args3 n1 n2 n3) rfl (g_impl_leader_power_ok i9 ⟨_, _, _, _, _, rfl, b1, ⟨_, _, _, _, rfl, a5, a4, a6, b0⟩, g5⟩ hS) ?_
 rintro u2 u3 ⟨n4, u4, rfl, j4, hS, j5⟩
 refine ⟨n4, rfl, ?_⟩
 exact qn j4 rfl hS j5
 intro g7 u5 i3 u6 h1 hS q7 g1 hcq
 have hsub := Sub.refl i3
 have a4 := a4.mono h1
 have e1 := e1.mono h1
 have n5 : ev g7 (.tmp 31) = c0 := g1 0 31 rfl rfl
 have n6 : ev g7 (.tmp 35) = c6 := g1 4 35 rfl rfl
 obtain ⟨n7, i4⟩ : ∃ v, ev g7 (.tmp 41) = v := ⟨_, rfl⟩
 have j6 : (R.mp .i64).p i3 n7 (f5) := i4 ▸ (g1 10 41 rfl rfl)
 have j7 := j6
 refine r_callFn Tryz.call131 (args3 n5 n6 i4) rfl (g_impl_sum_times_ok j0 e1 a4 j7 hS) ?_
 rintro u7 u8 ⟨u9, v0, v1, rfl, j8, hS, j9⟩
 refine ⟨_, rfl, ?_⟩
 have hsub := hsub.trans j8
 obtain ⟨v2, k0, hS, k1⟩ := j9.freeze hS
 have hsub := hsub.trans k0
 exact reg_nil ⟨42, _, _, rfl, rfl, hsub, hS, k1⟩
 intro n8 n9 g8 c3 hS d0 k2 hcq
 have hS : St g8 n9 ([(d2, cA (enc8 .i64 a9.1) 188)] ++ (d5 ++ (b2 ++ L))) := hS
 have hsub := hsub.trans c3
 have a5 := a5.mono c3
 have a4 := a4.mono c3
 have a6 := a6.mono c3
 have b0 := b0.mono c3
 have a7 := a7.mono c3
 have b4 := b4.mono c3
 have b1 := c3.1 _ _ b1
 obtain ⟨g9, i5⟩ : ∃ v, ev n8 (.tmp 42) = v := ⟨_, rfl⟩
 have k3 : RdMp .i64 g8 g9 (e7) := i5 ▸ (k2 11 42 (by decide) rfl)
 refine r_assign (g9) (by exact i5) rfl (reg_nil (run_inBlock (run_region ?_)))
 refine r_add (a3 + 1) (by exact (evT (d0 24 rfl) c9)) rfl (IntWalk.i64_in _ (by omega)) rfl (r_move (vI (a3 + 1)) rfl rfl (reg_nil ?_))
 exact k9 _ _ ⟨e7, (a3 + 1), g8, g9, b3, hsub, hS, (by omega), k3, b0, a5, a4, a6, a7, b4, b1, (evT (d0 0 rfl) c7), (evT (d0 5 rfl) e3), (evT (d0 6 rfl) d4), (evT (d0 7 rfl) e4), rfl, (evT (d0 12 rfl) d7), (evT (d0 23 rfl) d8), rfl⟩
 rw [if_neg f9] at b3
 refine run_cond_false (Eq.trans rfl (congrArg Value.bool (decide_eq_false f9))) (run_skip (run_inBlock (run_region ?_)))
 refine r_add (a3 + 1) (by exact c9) rfl (IntWalk.i64_in _ (by omega)) rfl (r_move (vI (a3 + 1)) rfl rfl (reg_nil ?_))
 exact k9 _ _ ⟨c4, (a3 + 1), i2, c0, b3, hsub, hS, (by omega), e1, b0, a5, a4, a6, a7, b4, b1, c7, e3, d4, e4, e5, d7, d8, rfl⟩
 rw [if_neg f8] at b3
 refine run_cond_false (Eq.trans rfl (congrArg Value.bool (decide_eq_false f8))) ?_
 refine run_exit rfl ?_
 have hz := Option.some.inj b3
 subst hz
 exact p2 _ _ ⟨c4, i2, c0, rfl, hsub, hS, e1, b0, a5, a4, a6, a7, b4, b1, c7, e3, e4, e5, d7⟩
 exact ⟨h6, 0, i8, k8, b3, hsub, hS, (by omega), i0, b0, a5, a4, a6, a7, b4, b1, f2, f3, rfl, rfl, rfl, d6, rfl, rfl⟩
 rintro v3 o0 ⟨e9, o1, e6, rfl, hsub, hS, k4, b0, a5, a4, a6, a7, b4, b1, h2, f4, h3, h4, h0⟩
 dsimp only [Ex.elim] at f7
 refine run_region (r_move (m1) (by exact f4) rfl (r_move (e6) (by exact h4) rfl (r_move (vI a9.2) (by exact h3) rfl ?_)))
 obtain ⟨g3, k5, f7⟩ := bind_some f7
 have hS : St o1 o0 (b2 ++ ([(d2, cA (enc8 .i64 a9.1) 188)] ++ (d5 ++ L))) := hS.perm (perm2 (A1 := [(d2, cA (enc8 .i64 a9.1) 188)]) (A2 := d5))
 refine r_callFn Tryz.call132 (args3 rfl rfl rfl) rfl (g_impl_sum_addAll_ok k5 a7 k4 hS) ?_
 rintro v4 o2 ⟨i6, i7, rfl, d1, hS, k6⟩
 refine ⟨_, rfl, ?_⟩
 have hsub := hsub.trans d1
 have a5 := a5.mono d1
 have a4 := a4.mono d1
 have a6 := a6.mono d1
 have b0 := b0.mono d1
 have b4 := b4.mono d1
 have b1 := d1.1 _ _ b1
 have hS : St i6 o2 ([(d2, cA (enc8 .i64 a9.1) 188)] ++ (d5 ++ (i7 ++ L))) := hS.perm (perm2 (A1 := [(d2, cA (enc8 .i64 a9.1) 188)]) (A2 := d5)).symm
 refine reg_nil (run_inBlock ?_)
 have hS := St.dropA (A := [(d2, cA (enc8 .i64 a9.1) 188)]) hS
 exact p0 _ _ ⟨e8, g3, i6, d5, i7, f7, hsub, hS, b4.drop, k6, b0, a5, a4, a6, b1, h2, f4, h0⟩
 exact ⟨a1, ([] : MpT), H, C8, C3, b6, hsub, hS, o9, o8, b0, a5, a4, a6, b1, rfl, rfl, rfl⟩
 rintro v5 o3 ⟨c5, o4, b5, c1, rfl, hsub, hS, k7, g2, h5⟩
 dsimp only [Ex.elim] at h9
 refine run_seq (run_region (r_move (m1) (by exact h5) rfl (r_assign (m1) rfl rfl (reg_nil ?_))))
 refine run_ret (vs := [m1]) Tryz.func117 ⟨rfl, trivial⟩ ?_
 have hS : St o4 o3 (c1 ++ (b5 ++ L)) := hS.perm (perm1 (A1 := b5))
 have hS := St.dropMid (A := c1) (B := b5) hS
 have hz := Option.some.inj h9
 subst hz
 exact ⟨_, _, _, rfl, hsub, hS, g2⟩
def g_impl_IsAlgebra_c1 (K : Nat) (a0 : MpT) (a1 : ((List Int) × (List MpT))) : Option Bool := ((g_impl_sumOf K a0).bind fun r5 => ((g_impl_Algebra_d K (a1.1, a1.2) r5).bind fun a6 => some (decide (0 < (a6.length : Int)))))
theorem g_impl_IsAlgebra_c1_ok {K : Nat} {a0 : MpT} {a1 : ((List Int) × (List MpT))} {r : Bool} (q0 : g_impl_IsAlgebra_c1 K a0 a1 = some r) {H : FH} {w : World} {L : OL} {s0 : Value} {s1 : Value} (b5 : RdSl yT H s0 a0) (b6 : PtrF (tyPr (tySl (tyInt .i64)) (tySl (tySl yT))) H s1 a1) (hS : St H w L) :
 Calls Tryz.prog 128 #[vA ([s0]), s1] w (Done (fun v G => R.bool.p G v r) H L) := by
 obtain ⟨c3, c4, c2, c5, _, rfl, a5, ⟨_, _, rfl, ⟨b7, rfl, a3⟩, ⟨b8, rfl, a4⟩⟩, a9⟩ := b6
 have hsub := Sub.refl H
 refine calls_of_run Tryz.func128 rfl Tryz.ntmps128 rfl ?_
 unfold g_impl_IsAlgebra_c1 at q0
 refine run_seq (run_region ?_)
 refine r_box (v := vA ([s0])) ([s0]).toArray rfl rfl hS rfl ?_
 intro b1 w2 hS
 refine r_assign (Value.bool false) rfl rfl (reg_nil (run_seq (run_region ?_)))
 refine r_loadAll ty47 rfl (hS.get mL) rfl rfl ?_
 obtain ⟨r5, b9, q0⟩ := bind_some q0
 refine r_callFn Tryz.call90 (args1 rfl) rfl (g_impl_sumOf_ok b9 b5 hS) ?_
 rintro e5 w6 ⟨m5, H5, C5, rfl, a7, hS, c0⟩
 refine ⟨_, rfl, ?_⟩
 have hsub := hsub.trans a7
 have a3 := a3.mono a7
 have a4 := a4.mono a7
 have a5 := a7.1 _ _ a5
 obtain ⟨H8, a8, hS, b0⟩ := c0.freeze hS
 have hsub := hsub.trans a8
 have a3 := a3.mono a8
 have a4 := a4.mono a8
 have a5 := a8.1 _ _ a5
 obtain ⟨a6, b2, q0⟩ := bind_some q0
 refine r_callFn Tryz.call120 (args2 rfl rfl) rfl (g_impl_Algebra_d_ok b2 ⟨_, _, _, _, _, rfl, a5, ⟨_, _, rfl, ⟨_, rfl, a3⟩, ⟨_, rfl, a4⟩⟩, a9⟩ b0 hS) ?_
 rintro c6 c7 ⟨c8, c9, c1, rfl, b3, hS, b4⟩
 refine ⟨_, rfl, ?_⟩
 have hsub := hsub.trans b3
 refine r_lenMapO mp109 rfl b4 hS rfl ?_
 refine r_gtr (k := .i64) (a := (a6.length : Int)) (b := 0) rfl rfl rfl (r_assign (Value.bool (decide (0 < (a6.length : Int)))) rfl rfl (reg_nil ?_))
 refine run_ret (vs := [Value.bool (decide (0 < (a6.length : Int)))]) Tryz.func128 ⟨rfl, trivial⟩ ?_
 have hz := Option.some.inj q0
 subst hz
 exact ⟨_, _, rfl, hsub, (St.dropA (A := [(b1, cA ([s0]) 47)]) (St.dropA (A := c1) hS)), rfl⟩
end Go.Proofs.YtfodlhkoafhplaaGreat
