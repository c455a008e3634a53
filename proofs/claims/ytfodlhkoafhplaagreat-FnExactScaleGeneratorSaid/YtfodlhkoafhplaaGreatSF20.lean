/- Walks of functions: each computes its pure function, if that gives a value. -/
import Derived.Test.YtfodlhkoafhplaaGreatSTy
import Derived.Test.YtfodlhkoafhplaaGreatSF2
import Derived.Test.YtfodlhkoafhplaaGreatSF19
import Derived.Test.YtfodlhkoafhplaaGreatSF1
import Derived.Test.YtfodlhkoafhplaaGreatSF7
import Derived.Test.YtfodlhkoafhplaaGreatSF11
import Derived.Test.YtfodlhkoafhplaaGreatSF9
import Derived.Test.YtfodlhkoafhplaaGreatSF8
import Derived.Test.YtfodlhkoafhplaaGreatSF4
namespace Go.Proofs.YtfodlhkoafhplaaGreat
open Go
set_option linter.unusedSimpArgs false
set_option linter.unusedVariables false
set_option maxRecDepth 100000
set_option maxHeartbeats 1000000
def g_impl_ScaleGenerator_j1 (K : Nat) (a0 : ((List Int) × (List MpT))) (a1 : Int) (a2 : Int) (a6 : Int) : Option (((List Int) × (List MpT)) × Int) := (if a6 = 0 then ((g_impl_Algebra_images K (a0.1, a0.2)).bind fun e9 => ((g_impl_ownSums K (a0.1.length : Int)).bind fun g2 => (if 0 ≤ a1 then (if a1 < 8 then ((g_impl_sum_addAll K ([] : MpT) (idxM e9 a1) a2).bind fun h3 => ((g_impl_generator K a1).bind fun f0 => ((g_impl_inverse K a2).bind fun f1 => (if a1 < (g2.length : Int) then ((g_impl_Algebra_withImages K (a0.1, a0.2) (updM e9 a1 h3) (g2.set (a1).toNat (mput ([] : MpT) f0 f1))).bind fun b8 => some ((b8.1.1, b8.1.2), b8.2)) else none)))) else none) else none))) else some ((([] : List Int), ([] : List MpT)), a6))
def g_impl_ScaleGenerator (K : Nat) (a0 : ((List Int) × (List MpT))) (a1 : Int) (a2 : Int) : Option (((List Int) × (List MpT)) × Int) := ((g_impl_algebraCode K (a0.1, a0.2) ([] : (List MpT))).bind fun c8 => ((g_impl_Algebra_isGenerator K (a0.1, a0.2) a1).bind fun e1 => (if e1 = true then ((g_impl_isFactor K a2).bind fun f2 => ((g_impl_when K (!f2) 2).bind fun f3 => ((g_impl_first K ([c8, f3])).bind fun f4 => g_impl_ScaleGenerator_j1 K a0 a1 a2 f4))) else ((g_impl_when K true 2).bind fun f5 => ((g_impl_first K ([c8, f5])).bind fun f6 => g_impl_ScaleGenerator_j1 K a0 a1 a2 f6)))))
theorem g_impl_ScaleGenerator_ok {K : Nat} {a0 : ((List Int) × (List MpT))} {a1 : Int} {a2 : Int} {r : (((List Int) × (List MpT)) × Int)} (q0 : g_impl_ScaleGenerator K a0 a1 a2 = some r) {H : FH} {w : World} {L : OL} {s0 : Value} {s1 : Value} (a3 : RdSl (tyInt .i64) H s0 a0.1) (a4 : RdSl (tySl yT) H s1 a0.2) (hS : St H w L) :
 Calls Tryz.prog 67 #[vA ([s0] ++ [s1]), vI a1, vI a2] w (Done (fun v G => ∃ v0 v1, v = .tuple #[v0, v1] ∧ AlgN H G v0 r.1 ∧ v1 = .int .i64 r.2) H L) := by
 have hsub := Sub.refl H
 refine calls_of_run Tryz.func67 rfl Tryz.ntmps67 rfl ?_
 unfold g_impl_ScaleGenerator at q0
 refine run_seq (run_region ?_)
 refine r_box (v := vA ([s0] ++ [s1])) ([s0] ++ [s1]).toArray rfl rfl hS rfl ?_
 intro b1 w2 hS
 refine r_alloc (z := vA ([vN] ++ [vN])) ([vN] ++ [vN]).toArray ze29.zero rfl hS rfl ?_
 intro b4 w5 hS
 refine r_assign (vI 0) rfl rfl (reg_nil (run_seq (run_seq ?_)))
 refine run_cut (fun f w => ∃ (a6 : Int) (H1 : FH), g_impl_ScaleGenerator_j1 K a0 a1 a2 a6 = some r ∧ Sub H H1 ∧ St H1 w ([(b4, cA ([vN] ++ [vN]) 29)] ++ L) ∧ RdSl (tyInt .i64) H1 s0 a0.1 ∧ RdSl (tySl yT) H1 s1 a0.2 ∧ H1 b1 = some (cA ([s0] ++ [s1]) 29) ∧ ev f (.tmp 1) = vI a1 ∧ ev f (.tmp 2) = vI a2 ∧ ev f (.tmp 3) = vP b1 ∧ ev f (.tmp 6) = vP b4 ∧ ev f (.tmp 8) = vI a6) ?_ ?_
 rintro x6 q3 ⟨a6, q4, a7, hsub, hS, a3, a4, b2, h4, h5, e2, e3, g3⟩
 unfold g_impl_ScaleGenerator_j1 at a7
 refine run_seq (run_region (r_move (vI a6) (by exact g3) rfl ?_))
 refine r_neq (k := .i64) (a := a6) (b := 0) rfl rfl rfl (reg_nil ?_)
 by_cases g6 : a6 = 0
 rw [if_pos g6] at a7
 refine run_cond_false (Eq.trans rfl (congrArg (fun b => Value.bool (!b)) (decide_eq_true g6))) (run_skip (run_seq ?_))
 obtain ⟨e9, l6, a7⟩ := bind_some a7
 have q8 := a3.bound
 obtain ⟨g2, l7, a7⟩ := bind_some a7
 have hsubO := hsub
 refine run_drawC 7 (fun t C => tabL [(28, MP.rep (R.agg (tyV .i64)) (e9)), (29, MP.eq (Value.pointer (some ⟨b1, 0 + 0, none⟩))), (30, MP.eq (s0)), (31, MP.eq (vI (a0.1.length : Int))), (32, MP.own (tyMp .i64) 109 (g2) C), (9, MP.box (cA (encV nilV) 182))] t) [Co.st 5 9 6 0 28 (objA 182)] mixed rfl (conOk_num (ns := [(5, 9, 6, 0, 28)]) rfl rfl) rfl hS (hop_qC rfl ?_ (hop_qC rfl ?_ (hop_qC rfl ?_ (hop_qC rfl ?_ (hop_qC rfl ?_ (hop_qC rfl ?_ (hop_sC rfl ?_ hop_nil))))))) ?_
 intro G1 f8 w9 o2 x7 f7 hS l9 q9 hcq
 have hsub := Sub.refl o2
 have hsubA := hsubO.trans f7
 have a3 := a3.mono f7
 have a4 := a4.mono f7
 have b2 := f7.1 _ _ b2
 refine r_callFn Tryz.call146 (args1 (evT (l9 3 rfl) e2)) rfl (g_impl_Algebra_images_ok l6 ⟨_, _, _, _, _, rfl, b2, ⟨_, _, rfl, ⟨_, rfl, a3⟩, ⟨_, rfl, a4⟩⟩, (frozAll ([s0] ++ [s1]) 2)⟩ hS) ?_
 rintro x8 x9 ⟨o3, y0, rfl, m0, hS, m1⟩
 refine ⟨o3, rfl, ?_⟩
 have hsub := hsub.trans m0
 exact reg_nil ⟨28, _, _, [], rfl, rfl, hsub, hS, m1⟩
 intro G1 y1 y2 o4 y3 m2 hS m3 r0 hcq
 have hsub := Sub.refl o4
 have hsubA := hsubO.trans m2
 refine r_fieldAddr fld29_0 (evT (m3 3 rfl) e2) rfl ?_
 exact reg_nil ⟨29, _, _, [], rfl, rfl, hsub, hS, rfl⟩
 intro G1 o5 y4 o6 y5 h6 hS r1 m4 hcq
 have hsub := Sub.refl o6
 have hsubA := hsubO.trans h6
 have b2 := h6.1 _ _ b2
 have o7 : ev o5 (.tmp 29) = Value.pointer (some ⟨b1, 0 + 0, none⟩) := m4 1 29 rfl rfl
 refine r_loadOne (s0) ty22 o7 (hS.froz _ _ b2) ((frozAll ([s0] ++ [s1]) 2) 0 (show 0 < 2 by decide)) rfl ?_
 exact reg_nil ⟨30, _, _, [], rfl, rfl, hsub, hS, rfl⟩
 intro G1 o8 y6 o9 y7 h7 hS r2 m5 hcq
 have hsub := Sub.refl o9
 have hsubA := hsubO.trans h7
 have a3 := a3.mono h7
 have p0 : ev o8 (.tmp 30) = s0 := m5 2 30 rfl rfl
 refine r_lenRd sl22 p0 a3 rfl ?_
 exact reg_nil ⟨31, _, _, [], rfl, rfl, hsub, hS, rfl⟩
 intro G1 p1 y8 p2 y9 m6 hS r3 m7 hcq
 have hsub := Sub.refl p2
 have hsubA := hsubO.trans m6
 have p3 : ev p1 (.tmp 31) = vI (a0.1.length : Int) := m7 3 31 rfl rfl
 refine r_callFn Tryz.call147 (args1 p3) rfl (g_impl_ownSums_ok l7  hS) ?_
 rintro z0 z1 ⟨z2, z3, p4, rfl, m8, hS, m9⟩
 refine ⟨_, rfl, ?_⟩
 have hsub := hsub.trans m8
 exact reg_nil ⟨32, _, _, p4, rfl, rfl, hsub, hS, m9⟩
 intro G1 z4 z5 p5 z6 n0 hS r4 r5 hcq
 have hsub := Sub.refl p5
 have hsubA := hsubO.trans n0
 refine r_alloc (z := vA (encV nilV)) (encV nilV).toArray ze182.zero rfl hS rfl ?_
 intro z7 z8 hS
 exact reg_nil ⟨9, _, _, [], rfl, rfl, hsub, hS, ⟨_, rfl⟩⟩
 intro G1 e4 p6 h8 p7 n1 hS r6 h9 hcq
 have hsub := Sub.refl h8
 have hsubA := hsubO.trans n1
 obtain ⟨l0, g4⟩ := h9 5 9 rfl rfl
 have g4 : e4 9 = vP l0 := g4
 have hS : St h8 p6 (ptrRes (cA (encV nilV) 182) (e4 9) ++ (p7 ++ ([(b4, cA ([vN] ++ [vN]) 29)] ++ L))) := hS
 rw [g4] at hS
 have p8 : ev e4 (.tmp 9) = vP l0 := g4
 obtain ⟨p9, i0⟩ : ∃ v, ev e4 (.tmp 28) = v := ⟨_, rfl⟩
 have n2 : (R.agg (tyV .i64)).p h8 p9 (e9) := i0 ▸ (h9 0 28 rfl rfl)
 obtain ⟨_, rfl, ⟨i1, rfl, n3⟩⟩ := n2
 refine r_storeAll (v := vA (encV i1)) (vs := (encV i1).toArray) (cs := (encV nilV).toArray) ty182 p8 i0 rfl hS rfl (encV_one n3) rfl ?_
 intro z9 hS
 have q1 : e4 28 = vA (encV i1) := i0
 exact reg_nil ⟨_, rfl, rfl, hsub, by show St _ _ (ptrRes (objA 182 (e4 28)) (e4 9) ++ _); rw [g4, q1]; exact hS, trivial⟩
 intro i2 e5 l1 g7 f9 hS g0 g5 hcq
 have hS : St g7 l1 ((i2 32 ++ (ptrRes (objA 182 (e5 28)) (e5 9) ++ ([]))) ++ ([(b4, cA ([vN] ++ [vN]) 29)] ++ L)) := hS
 have hsub := hsub.trans f9
 have a3 := a3.mono f9
 have a4 := a4.mono f9
 have b2 := f9.1 _ _ b2
 have g8 := evT (g0 1 rfl) h4
 have l2 := evT (g0 2 rfl) h5
 have l3 := evT (g0 6 rfl) e3
 obtain ⟨q2, l4⟩ : ∃ v, ev e5 (.tmp 28) = v := ⟨_, rfl⟩
 have n4 : (R.agg (tyV .i64)).p g7 q2 (e9) := l4 ▸ (g5 0 28 (by decide) rfl)
 obtain ⟨_, rfl, ⟨b9, rfl, d1⟩⟩ := n4
 obtain ⟨e6, i3⟩ : ∃ v, ev e5 (.tmp 32) = v := ⟨_, rfl⟩
 have b0 : OwnSl (tyMp .i64) 109 g7 e6 (g2) (i2 32) := i3 ▸ (g5 4 32 (by decide) rfl)
 obtain ⟨e7, i6⟩ : ∃ C, i2 32 = C := ⟨_, rfl⟩
 rw [i6] at hS b0
 obtain ⟨c0, c3⟩ := g5 5 9 (by decide) rfl
 have c3 : e5 9 = vP c0 := c3
 rw [c3] at hS
 have c3 : ev e5 (.tmp 9) = _ := c3
 have n5 : e5 28 = vA (encV b9) := l4
 rw [n5] at hS
 have hS : St g7 l1 (e7 ++ ([(c0, cA (encV b9) 182)] ++ ([(b4, cA ([vN] ++ [vN]) 29)] ++ L))) := by have h := hS; simp only [List.append_assoc, List.nil_append, List.append_nil] at h; exact h
 refine r_assign (e6) (by exact i3) rfl (reg_nil (run_seq (run_region ?_)))
 refine r_makeMap (k := .i64) hS rfl ?_
 intro b6 r7 r8 i7 hS
 refine r_assign (b6) rfl rfl (reg_nil (run_seq (run_region (r_move (b6) rfl rfl (r_move (vI a1) (by exact g8) rfl ?_)))))
 obtain ⟨q5, a7⟩ := gd a7
 obtain ⟨q6, a7⟩ := gd a7
 refine r_indexArP ar182 (by exact c3) rfl (by omega) (by omega) rfl ?_
 have i8 := RdV.at d1 (a1)
 refine r_loadOne (idxV b9 a1) ty109 rfl (hS.get (o := cA (encV b9) 182) (mR (mR mL))) (encV_get (by omega) (by omega)) rfl (r_move (vI a2) (by exact l2) rfl ?_)
 obtain ⟨h3, i9, a7⟩ := bind_some a7
 refine r_callFn Tryz.call132 (args3 rfl rfl rfl) rfl (g_impl_sum_addAll_ok i9 i7 i8 hS) ?_
 rintro r9 n6 ⟨s2, s3, rfl, c5, hS, j0⟩
 refine ⟨_, rfl, ?_⟩
 have hsub := hsub.trans c5
 have a3 := a3.mono c5
 have a4 := a4.mono c5
 have d1 := d1.mono c5
 have b0 := b0.mono c5
 have b2 := c5.1 _ _ b2
 refine reg_nil (run_seq (run_region (r_move (vI a1) (by exact g8) rfl (r_move (b6) rfl rfl ?_))))
 refine r_indexArP ar182 (by exact c3) rfl (by omega) (by omega) rfl ?_
 obtain ⟨i4, c6, hS, g9⟩ := j0.freeze hS
 have hsub := hsub.trans c6
 have a3 := a3.mono c6
 have a4 := a4.mono c6
 have d1 := d1.mono c6
 have b0 := b0.mono c6
 have b2 := c6.1 _ _ b2
 have hS : St i4 n6 ([(c0, cA (encV b9) 182)] ++ (e7 ++ ([(b4, cA ([vN] ++ [vN]) 29)] ++ L))) := hS.perm (perm1 (A1 := e7))
 have b5 := RdV.upd d1 (a1) g9
 refine r_store1 (v := b6) (cs := (encV b9).toArray) (cs' := (encV (updV b9 a1 b6)).toArray) ty109 rfl rfl hS g9.isOne rfl (by simp [enc8, encV]; omega) (encV_set (by omega) (by omega)) ?_
 intro n7 hS
 have hS : St i4 n7 (e7 ++ ([(c0, cA (encV (updV b9 a1 b6)) 182)] ++ ([(b4, cA ([vN] ++ [vN]) 29)] ++ L))) := hS.perm (perm1 (A1 := e7)).symm
 refine reg_nil (run_seq (run_region (r_move (e6) rfl rfl (r_move (vI a1) (by exact g8) rfl ?_))))
 refine r_makeMap (k := .i64) hS rfl ?_
 intro i5 s4 s5 c9 hS
 refine r_move (vI a1) (by exact g8) rfl ?_
 obtain ⟨f0, j1, a7⟩ := bind_some a7
 refine r_callFn Tryz.call151 (args1 rfl) rfl (g_impl_generator_ok j1  hS) ?_
 rintro s6 s7 ⟨s8, s9, rfl, c1, hS, ⟨_, rfl, rfl⟩⟩
 refine ⟨_, rfl, ?_⟩
 have hsub := hsub.trans c1
 have a3 := a3.mono c1
 have a4 := a4.mono c1
 have b5 := b5.mono c1
 have b0 := b0.mono c1
 have c9 := c9.mono c1
 have b2 := c1.1 _ _ b2
 refine r_move (vI a2) (by exact l2) rfl ?_
 obtain ⟨f1, j2, a7⟩ := bind_some a7
 refine r_callFn Tryz.call152 (args1 rfl) rfl (g_impl_inverse_ok j2  hS) ?_
 rintro t0 t1 ⟨_, t4, rfl, c2, hS, rfl⟩
 refine ⟨_, rfl, ?_⟩
 have hsub := hsub.trans c2
 have a3 := a3.mono c2
 have a4 := a4.mono c2
 have b5 := b5.mono c2
 have b0 := b0.mono c2
 have c9 := c9.mono c2
 have b2 := c2.1 _ _ b2
 refine r_insert (a := f0) (m := f1) mp109 rfl rfl rfl c9 hS ?_
 intro t5 t6 j3 hS
 refine r_move (i5) rfl rfl ?_
 obtain ⟨q7, a7⟩ := gd a7
 obtain ⟨t7, t8, h0⟩ := b0.some (i := a1) (by omega) (by omega)
 refine r_indexSl0 sl184 (Eq.trans rfl h0) rfl (by omega) (by omega) rfl ?_
 obtain ⟨t9, c7, hS, j4⟩ := j3.freeze hS
 have hsub := hsub.trans c7
 have a3 := a3.mono c7
 have a4 := a4.mono c7
 have b5 := b5.mono c7
 have b0 := b0.mono c7
 have b2 := c7.1 _ _ b2
 refine r_storeOwn (τ := (tyMp .i64)) (v := e6) (u := i5) (mput ([] : MpT) f0 f1) (i := a1) rfl ty109 h0 b0 hS rfl rfl (by omega) (by omega) j4.relv ?_
 intro u0 u1 j5 hS
 refine reg_nil (run_seq (run_region ?_))
 refine r_loadAll ty182 (by exact c3) (hS.get (mR mL)) rfl rfl (r_move (e6) rfl rfl ?_)
 obtain ⟨u2, d0, hS, j6⟩ := j5.freeze hS
 have hsub := hsub.trans d0
 have a3 := a3.mono d0
 have a4 := a4.mono d0
 have b5 := b5.mono d0
 have b2 := d0.1 _ _ b2
 obtain ⟨b8, j7, a7⟩ := bind_some a7
 have h1 := hsub
 refine r_callFn Tryz.call148 (args3 (by exact (evT (g0 3 rfl) e2)) rfl rfl) rfl (g_impl_Algebra_withImages_ok j7 ⟨_, _, _, _, _, rfl, b2, ⟨_, _, rfl, ⟨_, rfl, a3⟩, ⟨_, rfl, a4⟩⟩, (frozAll ([s0] ++ [s1]) 2)⟩ b5 j6 hS) ?_
 rintro u3 n8 ⟨_, e8, rfl, j8, hS, ⟨_, _, rfl, ⟨a8, a9, rfl, b7, c4⟩, rfl⟩⟩
 refine ⟨_, rfl, ?_⟩
 have hsub := hsub.trans j8
 have j9 : RdF (tyInt .i64) H e8 a8 b8.1.1 := RdSl.mono (new_anti h1) b7
 have b7 := RdSl.old b7
 have h2 : RdN (tySl yT) H e8 a9 b8.1.2 (roots [a8] ++ ([] : List Nat)) := RdN.anti c4 h1
 have k0 : RdF (tySl yT) H e8 a9 b8.1.2 := RdN.old h2
 have c4 := RdSl.old k0
 refine r_extract (vA ([a8] ++ [a9])) rfl rfl rfl (r_extract (vI b8.2) rfl rfl rfl ?_)
 have hS : St e8 n8 ([(b4, cA ([vN] ++ [vN]) 29)] ++ ([(c0, cA (encV (updV b9 a1 b6)) 182)] ++ L)) := hS.perm (perm1 (A1 := [(c0, cA (encV (updV b9 a1 b6)) 182)]))
 refine r_storeAll (v := vA ([a8] ++ [a9])) (vs := ([a8] ++ [a9]).toArray) (cs := ([vN] ++ [vN]).toArray) ty29 (by exact l3) rfl rfl hS rfl (one_app (one1 b7.isOne) (one1 c4.isOne)) rfl ?_
 intro n9 hS
 have hS : St e8 n9 ([(c0, cA (encV (updV b9 a1 b6)) 182)] ++ ([(b4, cA ([a8] ++ [a9]) 29)] ++ L)) := hS.perm (perm1 (A1 := [(c0, cA (encV (updV b9 a1 b6)) 182)])).symm
 refine r_assign (vI b8.2) rfl rfl (reg_nil ?_)
 refine run_ret (vs := [vA ([a8] ++ [a9]), vI b8.2]) Tryz.func67 ⟨⟨_, (by exact l3), run_loadAll ty29 (hS.get (mR mL)) rfl⟩, rfl, trivial⟩ ?_
 have hz := Option.some.inj a7
 subst hz
 exact ⟨_, _, rfl, hsub, (St.dropA (A := [(b4, cA ([a8] ++ [a9]) 29)]) (St.dropA (A := [(c0, cA (encV (updV b9 a1 b6)) 182)]) hS)), ⟨_, _, rfl, ⟨_, _, rfl, j9, h2⟩, rfl⟩⟩
 rw [if_neg g6] at a7
 refine run_cond_true (Eq.trans rfl (congrArg (fun b => Value.bool (!b)) (decide_eq_false g6))) (run_seq (run_region ?_))
 refine r_build0 (vA ([vN] ++ [vN])) bz29 rfl (r_move (vI a6) (by exact g3) rfl ?_)
 refine r_storeAll (v := vA ([vN] ++ [vN])) (vs := ([vN] ++ [vN]).toArray) (cs := ([vN] ++ [vN]).toArray) ty29 (by exact e3) rfl rfl hS rfl (one_app (one1 rfl) (one1 rfl)) rfl ?_
 intro u4 hS
 refine r_assign (vI a6) rfl rfl (reg_nil ?_)
 refine run_ret (vs := [vA ([vN] ++ [vN]), vI a6]) Tryz.func67 ⟨⟨_, (by exact e3), run_loadAll ty29 (hS.get mL) rfl⟩, rfl, trivial⟩ ?_
 have hz := Option.some.inj a7
 subst hz
 exact ⟨_, _, rfl, hsub, (St.dropA (A := [(b4, cA ([vN] ++ [vN]) 29)]) hS), ⟨_, _, rfl, ⟨_, _, rfl, RdSl.nil, RdN.nil (by first | exact List.nodup_nil | (rw [List.append_nil]; exact roots_nodup _))⟩, rfl⟩⟩
 intro l5
 refine run_region ?_
 have hS : St H w5 ([(b1, cA ([s0] ++ [s1]) 29)] ++ ([(b4, cA ([vN] ++ [vN]) 29)] ++ L)) := hS.perm (perm1 (A1 := [(b4, cA ([vN] ++ [vN]) 29)]))
 obtain ⟨u5, g1, hS, a5⟩ := St.freezeBox hS
 have hsub := hsub.trans g1
 have a3 := a3.mono g1
 have a4 := a4.mono g1
 obtain ⟨c8, k1, q0⟩ := bind_some q0
 refine r_callFn Tryz.call85 (args2 rfl rfl) rfl (g_impl_algebraCode_ok k1 ⟨_, _, _, _, _, rfl, a5, ⟨_, _, rfl, ⟨_, rfl, a3⟩, ⟨_, rfl, a4⟩⟩, (frozAll ([s0] ++ [s1]) 2)⟩ RdSl.nil hS) ?_
 rintro u6 u7 ⟨_, u8, rfl, d2, hS, rfl⟩
 refine ⟨_, rfl, ?_⟩
 have hsub := hsub.trans d2
 have a3 := a3.mono d2
 have a4 := a4.mono d2
 have a5 := d2.1 _ _ a5
 refine r_move (vI a1) rfl rfl ?_
 obtain ⟨e1, k2, q0⟩ := bind_some q0
 refine r_callFn Tryz.call87 (args2 rfl rfl) rfl (g_impl_Algebra_isGenerator_ok k2 ⟨_, _, _, _, _, rfl, a5, ⟨_, _, rfl, ⟨_, rfl, a3⟩, ⟨_, rfl, a4⟩⟩, (frozAll ([s0] ++ [s1]) 2)⟩ hS) ?_
 rintro u9 v2 ⟨_, v3, rfl, d3, hS, rfl⟩
 refine ⟨_, rfl, ?_⟩
 have hsub := hsub.trans d3
 have a3 := a3.mono d3
 have a4 := a4.mono d3
 have a5 := d3.1 _ _ a5
 refine r_not (b := e1) rfl rfl (r_move (Value.bool (!e1)) rfl rfl ?_)
 by_cases b3 : e1 = true
 rw [if_pos b3] at q0
 refine reg_guard rfl rfl (Eq.trans rfl (congrArg (fun b => Value.bool (!b)) b3)) (r_move (vI a2) rfl rfl ?_)
 obtain ⟨f2, k3, q0⟩ := bind_some q0
 refine reg_guard rfl rfl (Eq.trans rfl (congrArg (fun b => Value.bool (!b)) b3)) ?_
 refine r_callFn Tryz.call150 (args1 rfl) rfl (g_impl_isFactor_ok k3  hS) ?_
 rintro v4 v5 ⟨_, v6, rfl, d4, hS, rfl⟩
 refine ⟨_, rfl, ?_⟩
 have hsub := hsub.trans d4
 have a3 := a3.mono d4
 have a4 := a4.mono d4
 have a5 := d4.1 _ _ a5
 refine reg_guard rfl rfl (Eq.trans rfl (congrArg (fun b => Value.bool (!b)) b3)) (r_not (b := f2) rfl rfl ?_)
 refine r_pick (t := false) (Value.bool (!f2)) (Eq.trans rfl (congrArg (fun b => Value.bool (!b)) b3)) ((if_neg Bool.false_ne_true).trans rfl) rfl ?_
 obtain ⟨f3, k4, q0⟩ := bind_some q0
 refine r_callFn Tryz.call86 (args2 rfl rfl) rfl (g_impl_when_ok k4  hS) ?_
 rintro v7 v8 ⟨_, v9, rfl, d5, hS, rfl⟩
 refine ⟨_, rfl, ?_⟩
 have hsub := hsub.trans d5
 have a3 := a3.mono d5
 have a4 := a4.mono d5
 have a5 := d5.1 _ _ a5
 refine r_lit (τ := (tyInt .i64)) sl22 ze2 rfl [vI c8, vI f3] [c8, f3] rfl rfl (parts2 rfl rfl) (rel2 rfl rfl) (by decide) (by decide) hS rfl ?_
 intro w0 w1 w3 d6 hS k5
 have hsub := hsub.trans d6
 have a3 := a3.mono d6
 have a4 := a4.mono d6
 have a5 := d6.1 _ _ a5
 obtain ⟨f4, k6, q0⟩ := bind_some q0
 refine r_callFn Tryz.call84 (args1 rfl) rfl (g_impl_first_ok k6 k5 hS) ?_
 rintro w4 w6 ⟨_, o0, rfl, d7, hS, rfl⟩
 refine ⟨_, rfl, ?_⟩
 have hsub := hsub.trans d7
 have a3 := a3.mono d7
 have a4 := a4.mono d7
 have a5 := d7.1 _ _ a5
 refine r_assign (vI f4) rfl rfl (reg_nil ?_)
 exact l5 _ _ ⟨f4, o0, q0, hsub, hS, a3, a4, a5, rfl, rfl, rfl, rfl, rfl⟩
 rw [if_neg b3] at q0
 refine reg_unguard rfl rfl (Eq.trans rfl (congrArg (fun b => Value.bool (!b)) (bfalse b3))) rfl rfl rfl (reg_unguard rfl rfl (Eq.trans rfl (congrArg (fun b => Value.bool (!b)) (bfalse b3))) rfl rfl rfl (reg_unguard rfl rfl (Eq.trans rfl (congrArg (fun b => Value.bool (!b)) (bfalse b3))) rfl rfl rfl ?_))
 refine r_pick (t := true) (Value.bool true) (Eq.trans rfl (congrArg (fun b => Value.bool (!b)) (bfalse b3))) ((if_pos rfl).trans rfl) rfl ?_
 obtain ⟨f5, k7, q0⟩ := bind_some q0
 refine r_callFn Tryz.call86 (args2 rfl rfl) rfl (g_impl_when_ok k7  hS) ?_
 rintro w7 w8 ⟨_, x0, rfl, d8, hS, rfl⟩
 refine ⟨_, rfl, ?_⟩
 have hsub := hsub.trans d8
 have a3 := a3.mono d8
 have a4 := a4.mono d8
 have a5 := d8.1 _ _ a5
 refine r_lit (τ := (tyInt .i64)) sl22 ze2 rfl [vI c8, vI f5] [c8, f5] rfl rfl (parts2 rfl rfl) (rel2 rfl rfl) (by decide) (by decide) hS rfl ?_
 intro x1 x2 x3 d9 hS k8
 have hsub := hsub.trans d9
 have a3 := a3.mono d9
 have a4 := a4.mono d9
 have a5 := d9.1 _ _ a5
 obtain ⟨f6, k9, q0⟩ := bind_some q0
 refine r_callFn Tryz.call84 (args1 rfl) rfl (g_impl_first_ok k9 k8 hS) ?_
 rintro x4 x5 ⟨_, o1, rfl, e0, hS, rfl⟩
 refine ⟨_, rfl, ?_⟩
 have hsub := hsub.trans e0
 have a3 := a3.mono e0
 have a4 := a4.mono e0
 have a5 := e0.1 _ _ a5
 refine r_assign (vI f6) rfl rfl (reg_nil ?_)
 exact l5 _ _ ⟨f6, o1, q0, hsub, hS, a3, a4, a5, rfl, rfl, rfl, rfl, rfl⟩
end Go.Proofs.YtfodlhkoafhplaaGreat
