/- Walks of functions: each computes its pure function, if that gives a value. -/
import Derived.Test.YtfodlhkoafhplaaGreatSTy
namespace Go.Proofs.YtfodlhkoafhplaaGreat
open Go
set_option linter.unusedSimpArgs false
set_option linter.unusedVariables false
set_option maxRecDepth 100000
set_option maxHeartbeats 1000000
def g_spec_l02Copy_l1 (K : Nat) (a0 : MpT) (a1 : Int) (a5 : Int) : Nat → Int → A8 → Option (Ex MpT (A8))
 | 0, _, _ => none
 | k + 1, a9, b2 => (if (IntKind.i64.wrap (a9 + a1)) < 8 then (if a9 < 8 then (if 0 ≤ (IntKind.i64.wrap (a9 + a1)) then g_spec_l02Copy_l1 K a0 a1 a5 k (a9 + 1) (upd8 b2 (IntKind.i64.wrap (a9 + a1)) (idx8 ((rd a0 a5).1) a9)) else none) else none) else some (.go b2))
def g_spec_l02Copy_l0 (K : Nat) (a0 : MpT) (a1 : Int) : Nat → Int → MpT → Option (Ex MpT (MpT))
 | 0, _, _ => none
 | k + 1, a5, a8 => (if a5 < (a0.length : Int) then ((g_spec_l02Copy_l1 K a0 a1 a5 K 0 (fun _ => 0)).bind (Ex.elim (fun r => some (.ret r)) (fun s => (fun (a3 : A8) => (if a8.length + ([(a3, (rd a0 a5).2)]).length ≤ 1099511627776 then g_spec_l02Copy_l0 K a0 a1 k (a5 + 1) (a8 ++ [(a3, (rd a0 a5).2)]) else none)) s))) else some (.go a8))
def g_spec_l02Copy (K : Nat) (a0 : MpT) (a1 : Int) : Option MpT := ((g_spec_l02Copy_l0 K a0 a1 K 0 ([] : List (A8 × Int))).bind (Ex.elim (fun r => some r) (fun s => (fun (b5 : MpT) => some b5) s)))
theorem g_spec_l02Copy_ok {K : Nat} {a0 : MpT} {a1 : Int} {r : MpT} (q0 : g_spec_l02Copy K a0 a1 = some r) {H : FH} {w : World} {L : OL} {s0 : Value} (b8 : RdSl yT H s0 a0) (hS : St H w L) :
 Calls Tryz.prog 235 #[vA ([s0]), vI a1] w (Done (fun v G => (R.agg (tySl yT)).p G v r) H L) := by
 have hsub := Sub.refl H
 refine calls_of_run Tryz.func235 rfl Tryz.ntmps235 rfl ?_
 unfold g_spec_l02Copy at q0
 refine run_seq (run_region ?_)
 refine r_box (v := vA ([s0])) ([s0]).toArray rfl rfl hS rfl ?_
 intro b1 w2 hS
 refine r_alloc (z := vA ([vN])) ([vN]).toArray ze47.zero rfl hS rfl ?_
 intro b4 w5 hS
 refine reg_nil (run_seq (run_region ?_))
 refine r_build0 (vA ([vN])) bz47 rfl ?_
 refine r_alloc (z := vA ([vN])) ([vN]).toArray ze47.zero rfl hS rfl ?_
 intro b7 w8 hS
 refine r_storeAll (v := vA ([vN])) (vs := ([vN]).toArray) (cs := ([vN]).toArray) ty47 rfl rfl rfl hS rfl (one1 rfl) rfl ?_
 intro q3 hS
 refine reg_nil (run_seq (run_seq (run_region (r_assign (vI 0) rfl rfl (reg_nil (run_block ?_))))))
 have f6 : OwnSl yT 76 H (.slice none 0 0) [] [] := OwnSl.nil _ _ _
 obtain ⟨f7, c0, f8⟩ := bind_some q0
 refine loop_ind (id := 0) (fun k f w => ∃ (a5 : Int) (a8 : MpT) (H1 : FH) (a7 : OL) (a4 : Value), g_spec_l02Copy_l0 K a0 a1 k a5 a8 = some f7 ∧ Sub H H1 ∧ St H1 w (a7 ++ ([(b7, cA ([a4]) 47)] ++ ([(b4, cA ([vN]) 47)] ++ ([(b1, cA ([s0]) 47)] ++ L)))) ∧ 0 ≤ a5 ∧ OwnSl yT 76 H1 a4 a8 a7 ∧ RdSl yT H1 s0 a0 ∧ ev f (.tmp 1) = vI a1 ∧ ev f (.tmp 2) = vP b1 ∧ ev f (.tmp 4) = vP b4 ∧ ev f (.tmp 5) = vP b7 ∧ ev f (.tmp 6) = vI a5) (fun f w => ∃ (b5 : MpT) (H1 : FH) (b3 : OL) (a6 : Value), f7 = .go b5 ∧ Sub H H1 ∧ St H1 w (b3 ++ ([(b7, cA ([a6]) 47)] ++ ([(b4, cA ([vN]) 47)] ++ ([(b1, cA ([s0]) 47)] ++ L)))) ∧ OwnSl yT 76 H1 a6 b5 b3 ∧ RdSl yT H1 s0 a0 ∧ ev f (.tmp 4) = vP b4 ∧ ev f (.tmp 5) = vP b7) rfl ?_ ?_ K ?_ ?_
 rintro f w ⟨a5, a8, H1, a7, a4, c0, _⟩
 rw [g_spec_l02Copy_l0] at c0; cases c0
 rintro k m3 m4 k2 k3 ⟨a5, a8, f9, a7, a4, c0, hsub, hS, k4, b0, b8, f1, d0, d1, d2, d3⟩
 rw [g_spec_l02Copy_l0] at c0
 refine run_seq (run_seq (run_region (r_move (vI a5) (by exact d3) rfl (r_fieldAddr fld47_0 (by exact d0) rfl ?_))))
 refine r_loadOne (s0) ty45 rfl (hS.get (mR (mR (mR mL)))) rfl rfl ?_
 have m5 := b8.bound
 refine r_lenRd sl45 rfl b8 rfl ?_
 refine r_lss (k := .i64) (a := a5) (b := (a0.length : Int)) rfl rfl rfl (reg_nil ?_)
 by_cases e0 : a5 < (a0.length : Int)
 rw [if_pos e0] at c0
 refine run_cond_true (Eq.trans rfl (congrArg Value.bool (decide_eq_true e0))) (run_skip (run_seq (run_block (run_seq (run_region ?_)))))
 refine r_build0 (vA (enc8 .u8 (fun _ => 0))) bz70 rfl ?_
 refine r_alloc (z := vA (enc8 .u8 (fun _ => 0))) (enc8 .u8 (fun _ => 0)).toArray ze70.zero rfl hS rfl ?_
 intro b9 q4 hS
 refine r_storeAll (v := vA (enc8 .u8 (fun _ => 0))) (vs := (enc8 .u8 (fun _ => 0)).toArray) (cs := (enc8 .u8 (fun _ => 0)).toArray) ty70 rfl rfl rfl hS rfl (enc8_one .u8 (fun _ => 0)) rfl ?_
 intro q5 hS
 refine reg_nil (run_seq (run_seq (run_region (r_assign (vI 0) rfl rfl (reg_nil (run_block ?_))))))
 obtain ⟨g0, b6, e1⟩ := bind_some c0
 refine loop_ind (id := 2) (fun k f w => ∃ (a9 : Int) (b2 : A8) (H1 : FH), g_spec_l02Copy_l1 K a0 a1 a5 k a9 b2 = some g0 ∧ Sub H H1 ∧ St H1 w ([(b9, cA (enc8 .u8 b2) 70)] ++ (a7 ++ ([(b7, cA ([a4]) 47)] ++ ([(b4, cA ([vN]) 47)] ++ ([(b1, cA ([s0]) 47)] ++ L))))) ∧ 0 ≤ a9 ∧ RdSl yT H1 s0 a0 ∧ OwnSl yT 76 H1 a4 a8 a7 ∧ ev f (.tmp 1) = vI a1 ∧ ev f (.tmp 2) = vP b1 ∧ ev f (.tmp 4) = vP b4 ∧ ev f (.tmp 5) = vP b7 ∧ ev f (.tmp 6) = vI a5 ∧ ev f (.tmp 7) = vP b9 ∧ ev f (.tmp 8) = vI a9) (fun f w => ∃ (a3 : A8) (H1 : FH), g0 = .go a3 ∧ Sub H H1 ∧ St H1 w ([(b9, cA (enc8 .u8 a3) 70)] ++ (a7 ++ ([(b7, cA ([a4]) 47)] ++ ([(b4, cA ([vN]) 47)] ++ ([(b1, cA ([s0]) 47)] ++ L))))) ∧ RdSl yT H1 s0 a0 ∧ OwnSl yT 76 H1 a4 a8 a7 ∧ ev f (.tmp 1) = vI a1 ∧ ev f (.tmp 2) = vP b1 ∧ ev f (.tmp 4) = vP b4 ∧ ev f (.tmp 5) = vP b7 ∧ ev f (.tmp 6) = vI a5 ∧ ev f (.tmp 7) = vP b9) rfl ?_ ?_ K ?_ ?_
 rintro f w ⟨a9, b2, H1, b6, _⟩
 rw [g_spec_l02Copy_l1] at b6; cases b6
 rintro k m6 m7 k5 k6 ⟨a9, b2, g1, b6, hsub, hS, k7, b8, b0, c2, c6, d4, d5, c7, c8, c3⟩
 rw [g_spec_l02Copy_l1] at b6
 refine run_seq (run_seq (run_region (r_move (vI a9) (by exact c3) rfl (r_move (vI a1) (by exact c2) rfl ?_))))
 refine r_add (IntKind.i64.wrap (a9 + a1)) rfl rfl rfl rfl ?_
 refine r_lss (k := .i64) (a := (IntKind.i64.wrap (a9 + a1))) (b := 8) rfl rfl rfl (reg_nil ?_)
 by_cases e2 : (IntKind.i64.wrap (a9 + a1)) < 8
 rw [if_pos e2] at b6
 refine run_cond_true (Eq.trans rfl (congrArg Value.bool (decide_eq_true e2))) (run_skip (run_seq (run_block (run_region (r_move (vI a9) (by exact c3) rfl (r_move (vI a1) (by exact c2) rfl ?_))))))
 refine r_add (IntKind.i64.wrap (a9 + a1)) rfl rfl rfl rfl (r_fieldAddr fld47_0 (by exact c6) rfl ?_)
 refine r_loadOne (s0) ty45 rfl (hS.get (mR (mR (mR (mR mL))))) rfl rfl (r_move (vI a5) (by exact c7) rfl (r_move (vI a9) (by exact c3) rfl ?_))
 obtain ⟨q6, q7, m8, q8, _, i0, i1, ⟨_, _, rfl, rfl, rfl⟩, i2⟩ := b8.elem (i := a5) (by omega) (by omega)
 refine r_indexAt sl45 rfl rfl i0 rfl (by omega) (by omega) rfl (r_fieldAddr fld76_0 rfl rfl ?_)
 obtain ⟨m9, b6⟩ := gd b6
 refine r_indexArP ar70 rfl rfl (by omega) (by omega) rfl ?_
 refine r_loadOne (Value.int .u8 (idx8 ((rd a0 a5).1) a9)) ty5 rfl (hS.froz _ _ i1) (fro_ix ([]) (([vI ((rd a0 a5).2)])) i2 (Nat.le_of_ble_eq_true rfl) (by omega) (by omega)) rfl ?_
 obtain ⟨n0, b6⟩ := gd b6
 refine r_indexArP ar70 (by exact c8) rfl (by omega) (by omega) rfl ?_
 refine r_store (v := Value.int .u8 (idx8 ((rd a0 a5).1) a9)) (cs := (enc8 .u8 b2).toArray) (cs' := (enc8 .u8 (upd8 b2 (IntKind.i64.wrap (a9 + a1)) (idx8 ((rd a0 a5).1) a9))).toArray) ty5 rfl rfl hS rfl (oneL rfl) (by simp [enc8, encV]; omega) (enc8_set (by omega) (by omega)) ?_
 intro q9 hS
 refine reg_nil (run_inBlock (run_region (r_move (vI a9) (by exact c3) rfl ?_)))
 refine r_add (a9 + 1) rfl rfl (IntWalk.i64_in _ (by omega)) rfl (r_assign (vI (a9 + 1)) rfl rfl (reg_nil ?_))
 exact k5 _ _ ⟨(a9 + 1), (upd8 b2 (IntKind.i64.wrap (a9 + a1)) (idx8 ((rd a0 a5).1) a9)), g1, b6, hsub, hS, (by omega), b8, b0, c2, c6, d4, d5, c7, c8, rfl⟩
 rw [if_neg e2] at b6
 refine run_cond_false (Eq.trans rfl (congrArg Value.bool (decide_eq_false e2))) ?_
 refine run_exit rfl ?_
 have hz := Option.some.inj b6
 subst hz
 exact k6 _ _ ⟨b2, g1, rfl, hsub, hS, b8, b0, c2, c6, d4, d5, c7, c8⟩
 exact ⟨0, (fun _ => 0), f9, b6, hsub, hS, (by omega), b8, b0, f1, d0, d1, d2, d3, rfl, rfl⟩
 rintro n1 n2 ⟨a3, n3, rfl, hsub, hS, b8, b0, f2, d6, f3, d7, d8, f4⟩
 dsimp only [Ex.elim] at e1
 obtain ⟨e6, e7, n4, r0, _, i3, e5, ⟨_, _, rfl, rfl, rfl⟩, i4⟩ := b8.elem (i := a5) (by omega) (by omega)
 refine run_draw 11 (tabL [(36, MP.eq (vP b7)), (37, MP.eq (a4)), (38, MP.eq (vA (enc8 .u8 a3))), (39, MP.eq (vP b1)), (40, MP.eq (s0)), (41, MP.eq (vI a5)), (42, MP.eq (Value.pointer (some ⟨e6, e7, none⟩))), (43, MP.eq (Value.pointer (some ⟨e6, e7 + 8, none⟩))), (44, MP.eq (vI ((rd a0 a5).2))), (45, MP.eq (vA (enc8 .u8 a3 ++ [vI ((rd a0 a5).2)]))), (46, MP.sl yT ([(a3, (rd a0 a5).2)]))]) [] mixed rfl rfl rfl hS (hop_q rfl ?_ (hop_q rfl ?_ (hop_q rfl ?_ (hop_q rfl ?_ (hop_q rfl ?_ (hop_q rfl ?_ (hop_q rfl ?_ (hop_q rfl ?_ (hop_q rfl ?_ (hop_q rfl ?_ (hop_q rfl ?_ hop_nil))))))))))) ?_
 intro r1 r2 r3 r4 n5 hS i5 n6 hcq
 refine r_fieldAddr fld47_0 (evT (i5 5 rfl) d7) rfl ?_
 exact qn (.refl _) rfl hS rfl
 intro k8 r5 r6 r7 n7 hS n8 i6 hcq
 have k9 : ev k8 (.tmp 36) = vP b7 := i6 0 36 rfl rfl
 refine r_loadOne (a4) ty45 k9 (hS.get (mR (mR (mR mL)))) rfl rfl ?_
 exact qn (.refl _) rfl hS rfl
 intro r8 r9 s1 s2 n9 hS i7 o0 hcq
 refine r_loadAll ty70 (evT (i7 7 rfl) f4) (hS.get (mR mL)) rfl rfl ?_
 exact qn (.refl _) rfl hS rfl
 intro s3 s4 s5 s6 o1 hS i8 o2 hcq
 refine r_fieldAddr fld47_0 (evT (i8 2 rfl) d6) rfl ?_
 exact qn (.refl _) rfl hS rfl
 intro l0 s7 s8 s9 o3 hS o4 i9 hcq
 have l1 : ev l0 (.tmp 39) = vP b1 := i9 3 39 rfl rfl
 refine r_loadOne (s0) ty45 l1 (hS.get (mR (mR (mR (mR (mR mL)))))) rfl rfl ?_
 exact qn (.refl _) rfl hS rfl
 intro t0 t1 t4 t5 o5 hS j0 o6 hcq
 refine r_move (vI a5) (evT (j0 6 rfl) d8) rfl ?_
 exact qn (.refl _) rfl hS rfl
 intro h9 t6 t7 t8 o7 hS o8 g2 hcq
 have l2 : ev h9 (.tmp 40) = s0 := g2 4 40 rfl rfl
 have l3 : ev h9 (.tmp 41) = vI a5 := g2 5 41 rfl rfl
 refine r_indexAt sl45 rfl l2 i3 l3 (by omega) (by omega) rfl ?_
 exact qn (.refl _) rfl hS rfl
 intro l4 t9 u0 u1 o9 hS p0 j1 hcq
 have l5 : ev l4 (.tmp 42) = Value.pointer (some ⟨e6, e7, none⟩) := j1 6 42 rfl rfl
 refine r_fieldAddr fld76_1 l5 rfl ?_
 exact qn (.refl _) rfl hS rfl
 intro l6 u2 u3 u4 h0 hS l7 h1 hcq
 have e5 := h0.1 _ _ e5
 have j2 : ev l6 (.tmp 43) = Value.pointer (some ⟨e6, e7 + 8, none⟩) := h1 7 43 rfl rfl
 refine r_loadOne (vI ((rd a0 a5).2)) ty2 j2 (hS.froz _ _ e5) (i4 8 (show 8 < 9 by decide)) rfl ?_
 exact qn (.refl _) rfl hS rfl
 intro g3 p1 p2 p3 l9 hS m0 e8 hcq
 have j3 : ev g3 (.tmp 38) = vA (enc8 .u8 a3) := e8 2 38 rfl rfl
 have j4 : ev g3 (.tmp 44) = vI ((rd a0 a5).2) := e8 8 44 rfl rfl
 refine r_build (enc8 .u8 a3 ++ [vI ((rd a0 a5).2)]) bu76 (parts2 j3 j4) (fill_cons rfl rfl rfl (Nat.le_of_ble_eq_true rfl) (fill_cons rfl rfl rfl (Nat.le_of_ble_eq_true rfl) (fill_nil rfl))) rfl ?_
 exact qn (.refl _) rfl hS rfl
 intro j5 p4 p5 p6 m1 hS m2 h2 hcq
 have j6 : ev j5 (.tmp 45) = vA (enc8 .u8 a3 ++ [vI ((rd a0 a5).2)]) := h2 9 45 rfl rfl
 refine r_lit (τ := yT) sl45 ze76 rfl [vA (enc8 .u8 a3 ++ [vI ((rd a0 a5).2)])] [(a3, (rd a0 a5).2)] rfl rfl (parts1 j6) (rel1 ⟨_, _, rfl, rfl, rfl⟩) (by decide) (by decide) hS rfl ?_
 intro p7 p8 p9 h3 hS h4
 exact qn h3 rfl hS h4
 intro g4 g5 c4 e3 hS c5 e9 hcq
 have hS : St c4 g5 ([(b9, cA (enc8 .u8 a3) 70)] ++ (a7 ++ ([(b7, cA ([a4]) 47)] ++ ([(b4, cA ([vN]) 47)] ++ ([(b1, cA ([s0]) 47)] ++ L))))) := hS
 have hsub := hsub.trans e3
 have b8 := b8.mono e3
 have b0 := b0.mono e3
 have g6 := evT (c5 5 rfl) d7
 have j7 : ev g4 (.tmp 37) = a4 := e9 1 37 (by decide) rfl
 obtain ⟨j8, g7⟩ : ∃ v, ev g4 (.tmp 46) = v := ⟨_, rfl⟩
 have h5 : RdSl yT c4 j8 ([(a3, (rd a0 a5).2)]) := g7 ▸ (e9 10 46 (by decide) rfl)
 obtain ⟨h6, e1⟩ := gd e1
 have hS : St c4 g5 (a7 ++ ([(b9, cA (enc8 .u8 a3) 70)] ++ ([(b7, cA ([a4]) 47)] ++ ([(b4, cA ([vN]) 47)] ++ ([(b1, cA ([s0]) 47)] ++ L))))) := hS.perm (perm1 (A1 := [(b9, cA (enc8 .u8 a3) 70)]))
 refine r_append (τ := yT) ap45 rfl (by exact j7) (by exact g7) b0 hS h5 h6 rfl ?_
 intro e4 g8 c9 f0 hS
 have hS : St c4 g8 ([(b9, cA (enc8 .u8 a3) 70)] ++ (c9 ++ ([(b7, cA ([a4]) 47)] ++ ([(b4, cA ([vN]) 47)] ++ ([(b1, cA ([s0]) 47)] ++ L))))) := hS.perm (perm1 (A1 := [(b9, cA (enc8 .u8 a3) 70)])).symm
 refine r_fieldAddr fld47_0 (by exact g6) rfl ?_
 have hS : St c4 g8 ([(b7, cA ([a4]) 47)] ++ ([(b9, cA (enc8 .u8 a3) 70)] ++ (c9 ++ ([(b4, cA ([vN]) 47)] ++ ([(b1, cA ([s0]) 47)] ++ L))))) := hS.perm (perm2 (A1 := [(b9, cA (enc8 .u8 a3) 70)]) (A2 := c9))
 refine r_store1 (v := e4) (cs := ([a4]).toArray) (cs' := ([e4]).toArray) ty45 rfl rfl hS f0.isOne rfl (Nat.le_of_ble_eq_true rfl) rfl ?_
 intro j9 hS
 have hS : St c4 j9 ([(b9, cA (enc8 .u8 a3) 70)] ++ (c9 ++ ([(b7, cA ([e4]) 47)] ++ ([(b4, cA ([vN]) 47)] ++ ([(b1, cA ([s0]) 47)] ++ L))))) := hS.perm (perm2 (A1 := [(b9, cA (enc8 .u8 a3) 70)]) (A2 := c9)).symm
 refine reg_nil (run_inBlock (run_region (r_move (vI a5) (by exact (evT (c5 6 rfl) d8)) rfl ?_)))
 refine r_add (a5 + 1) rfl rfl (IntWalk.i64_in _ (by omega)) rfl (r_assign (vI (a5 + 1)) rfl rfl (reg_nil ?_))
 have hS := St.dropA (A := [(b9, cA (enc8 .u8 a3) 70)]) hS
 exact k2 _ _ ⟨(a5 + 1), (a8 ++ [(a3, (rd a0 a5).2)]), c4, c9, e4, e1, hsub, hS, (by omega), f0, b8, (evT (c5 1 rfl) f2), (evT (c5 2 rfl) d6), (evT (c5 4 rfl) f3), g6, rfl⟩
 rw [if_neg e0] at c0
 refine run_cond_false (Eq.trans rfl (congrArg Value.bool (decide_eq_false e0))) ?_
 refine run_exit rfl ?_
 have hz := Option.some.inj c0
 subst hz
 exact k3 _ _ ⟨a8, f9, a7, a4, rfl, hsub, hS, b0, b8, d1, d2⟩
 exact ⟨0, ([] : List (A8 × Int)), H, ([]), (vN), c0, hsub, hS, (by omega), f6, b8, rfl, rfl, rfl, rfl, rfl⟩
 rintro q1 k0 ⟨b5, g9, b3, a6, rfl, hsub, hS, c1, b8, d9, f5⟩
 dsimp only [Ex.elim] at f8
 refine run_seq (run_region ?_)
 refine r_loadAll ty47 (by exact f5) (hS.get (mR mL)) rfl rfl ?_
 have hS : St g9 k0 ([(b4, cA ([vN]) 47)] ++ (b3 ++ ([(b7, cA ([a6]) 47)] ++ ([(b1, cA ([s0]) 47)] ++ L)))) := hS.perm (perm2 (A1 := b3) (A2 := [(b7, cA ([a6]) 47)]))
 refine r_storeAll (v := vA ([a6])) (vs := ([a6]).toArray) (cs := ([vN]).toArray) ty47 (by exact d9) rfl rfl hS rfl (one1 c1.isOne) rfl ?_
 intro k1 hS
 have hS : St g9 k1 (b3 ++ ([(b7, cA ([a6]) 47)] ++ ([(b4, cA ([a6]) 47)] ++ ([(b1, cA ([s0]) 47)] ++ L)))) := hS.perm (perm2 (A1 := b3) (A2 := [(b7, cA ([a6]) 47)])).symm
 refine reg_nil ?_
 refine run_ret (vs := [vA ([a6])]) Tryz.func235 ⟨⟨_, (by exact d9), run_loadAll ty47 (hS.get (mR (mR mL))) rfl⟩, trivial⟩ ?_
 obtain ⟨q2, h7, hS, h8⟩ := c1.freeze hS
 have hsub := hsub.trans h7
 have hz := Option.some.inj f8
 subst hz
 exact ⟨_, _, rfl, hsub, (St.dropA (A := [(b1, cA ([s0]) 47)]) (St.dropA (A := [(b4, cA ([a6]) 47)]) (St.dropA (A := [(b7, cA ([a6]) 47)]) hS))), ⟨_, rfl, ⟨_, rfl, h8⟩⟩⟩
def g_spec_l01Before_l0 (K : Nat) (a0 : A8) (a1 : A8) : Nat → Int → Option (Ex Bool (Unit))
 | 0, _ => none
 | k + 1, a3 => (if a3 < 8 then (if (idx8 a0 a3) = (idx8 a1 a3) then g_spec_l01Before_l0 K a0 a1 k (a3 + 1) else some (.ret (decide ((idx8 a1 a3) < (idx8 a0 a3))))) else some (.go ()))
def g_spec_l01Before (K : Nat) (a0 : A8) (a1 : A8) : Option Bool := ((g_spec_l01Before_l0 K a0 a1 K 0).bind (Ex.elim (fun r => some r) (fun s => some false)))
theorem g_spec_l01Before_ok {K : Nat} {a0 : A8} {a1 : A8} {r : Bool} (q0 : g_spec_l01Before K a0 a1 = some r) {H : FH} {w : World} {L : OL} (hS : St H w L) :
 Calls Tryz.prog 203 #[vA (enc8 .u8 a0), vA (enc8 .u8 a1)] w (Done (fun v G => R.bool.p G v r) H L) := by
 have hsub := Sub.refl H
 refine calls_of_run Tryz.func203 rfl Tryz.ntmps203 rfl ?_
 unfold g_spec_l01Before at q0
 refine run_seq (run_region ?_)
 refine r_box (v := vA (enc8 .u8 a0)) (enc8 .u8 a0).toArray rfl rfl hS rfl ?_
 intro b1 w2 hS
 refine r_box (v := vA (enc8 .u8 a1)) (enc8 .u8 a1).toArray rfl rfl hS rfl ?_
 intro b4 w5 hS
 refine r_assign (Value.bool false) rfl rfl (reg_nil (run_seq (run_seq (run_region (r_assign (vI 0) rfl rfl (reg_nil (run_block ?_)))))))
 obtain ⟨b5, a4, a8⟩ := bind_some q0
 refine loop_ind (id := 0) (fun k f w => ∃ (a3 : Int) (H1 : FH), g_spec_l01Before_l0 K a0 a1 k a3 = some b5 ∧ Sub H H1 ∧ St H1 w ([(b4, cA (enc8 .u8 a1) 70)] ++ ([(b1, cA (enc8 .u8 a0) 70)] ++ L)) ∧ 0 ≤ a3 ∧ ev f (.tmp 2) = vP b1 ∧ ev f (.tmp 3) = vP b4 ∧ ev f (.tmp 5) = vI a3) (fun f w => ∃ (H1 : FH), b5 = .go () ∧ Sub H H1 ∧ St H1 w ([(b4, cA (enc8 .u8 a1) 70)] ++ ([(b1, cA (enc8 .u8 a0) 70)] ++ L))) rfl ?_ ?_ K ?_ ?_
 rintro f w ⟨a3, H1, a4, _⟩
 rw [g_spec_l01Before_l0] at a4; cases a4
 rintro k j0 j1 g2 g3 ⟨a3, d3, a4, hsub, hS, g4, a6, a7, a5⟩
 rw [g_spec_l01Before_l0] at a4
 refine run_seq (run_seq (run_region (r_move (vI a3) (by exact a5) rfl ?_)))
 refine r_lss (k := .i64) (a := a3) (b := 8) rfl rfl rfl (reg_nil ?_)
 by_cases b2 : a3 < 8
 rw [if_pos b2] at a4
 refine run_cond_true (Eq.trans rfl (congrArg Value.bool (decide_eq_true b2))) (run_skip (run_seq (run_block (run_seq ?_))))
 refine run_draw 7 (tabL [(10, MP.eq (vI a3)), (11, MP.eq (Value.pointer (some ⟨b1, 0 + (a3).toNat * 1, none⟩))), (12, MP.eq (Value.int .u8 (idx8 a0 a3))), (13, MP.eq (vI a3)), (14, MP.eq (Value.pointer (some ⟨b4, 0 + (a3).toNat * 1, none⟩))), (15, MP.eq (Value.int .u8 (idx8 a1 a3))), (16, MP.eq (Value.bool (!decide ((idx8 a0 a3) = (idx8 a1 a3)))))]) [] mixed rfl rfl rfl hS (hop_q rfl ?_ (hop_q rfl ?_ (hop_q rfl ?_ (hop_q rfl ?_ (hop_q rfl ?_ (hop_q rfl ?_ (hop_q rfl ?_ hop_nil))))))) ?_
 intro f8 w9 n0 n1 j2 hS d4 j3 hcq
 refine r_move (vI a3) (evT (d4 5 rfl) a5) rfl ?_
 exact qn (.refl _) rfl hS rfl
 intro g5 n2 n3 n4 j4 hS d5 d6 hcq
 have g6 : ev g5 (.tmp 10) = vI a3 := d6 0 10 rfl rfl
 refine r_indexArP ar70 (evT (d5 2 rfl) a6) g6 (by omega) (by omega) rfl ?_
 exact qn (.refl _) rfl hS rfl
 intro g7 n5 n6 n7 j5 hS j6 d7 hcq
 have g8 : ev g7 (.tmp 11) = Value.pointer (some ⟨b1, 0 + (a3).toNat * 1, none⟩) := d7 1 11 rfl rfl
 refine r_loadOne (Value.int .u8 (idx8 a0 a3)) ty5 g8 (hS.get (o := cA (enc8 .u8 a0) 70) (mR (mR mL))) (box_ix ([]) ([]) (by omega) (by omega)) rfl ?_
 exact qn (.refl _) rfl hS rfl
 intro n8 n9 o0 o1 j7 hS d8 j8 hcq
 refine r_move (vI a3) (evT (d8 5 rfl) a5) rfl ?_
 exact qn (.refl _) rfl hS rfl
 intro g9 o2 o3 o4 j9 hS d9 e0 hcq
 have h0 : ev g9 (.tmp 13) = vI a3 := e0 3 13 rfl rfl
 refine r_indexArP ar70 (evT (d9 3 rfl) a7) h0 (by omega) (by omega) rfl ?_
 exact qn (.refl _) rfl hS rfl
 intro h1 o5 o6 o7 k0 hS k1 e1 hcq
 have h2 : ev h1 (.tmp 14) = Value.pointer (some ⟨b4, 0 + (a3).toNat * 1, none⟩) := e1 4 14 rfl rfl
 refine r_loadOne (Value.int .u8 (idx8 a1 a3)) ty5 h2 (hS.get (o := cA (enc8 .u8 a1) 70) (mR mL)) (box_ix ([]) ([]) (by omega) (by omega)) rfl ?_
 exact qn (.refl _) rfl hS rfl
 intro c8 o8 o9 p0 k2 hS k3 b6 hcq
 have h3 : ev c8 (.tmp 12) = Value.int .u8 (idx8 a0 a3) := b6 2 12 rfl rfl
 have h4 : ev c8 (.tmp 15) = Value.int .u8 (idx8 a1 a3) := b6 5 15 rfl rfl
 refine r_neq (k := .u8) (a := (idx8 a0 a3)) (b := (idx8 a1 a3)) h3 h4 rfl ?_
 exact qn (.refl _) rfl hS rfl
 intro h5 h6 c9 e2 hS b0 e3 hcq
 have hS : St c9 h6 ([(b4, cA (enc8 .u8 a1) 70)] ++ ([(b1, cA (enc8 .u8 a0) 70)] ++ L)) := hS
 have hsub := hsub.trans e2
 have d0 := evT (b0 2 rfl) a6
 have d1 := evT (b0 3 rfl) a7
 have b7 := evT (b0 5 rfl) a5
 have d2 : ev h5 (.tmp 16) = Value.bool (!decide ((idx8 a0 a3) = (idx8 a1 a3))) := e3 6 16 (by decide) rfl
 refine reg_nil ?_
 by_cases a9 : (idx8 a0 a3) = (idx8 a1 a3)
 rw [if_pos a9] at a4
 refine run_cond_false (Eq.trans (by exact d2) (congrArg (fun b => Value.bool (!b)) (decide_eq_true a9))) (run_skip (run_inBlock (run_region (r_move (vI a3) (by exact b7) rfl ?_))))
 refine r_add (a3 + 1) rfl rfl (IntWalk.i64_in _ (by omega)) rfl (r_assign (vI (a3 + 1)) rfl rfl (reg_nil ?_))
 exact g2 _ _ ⟨(a3 + 1), c9, a4, hsub, hS, (by omega), d0, d1, rfl⟩
 rw [if_neg a9] at a4
 refine run_cond_true (Eq.trans (by exact d2) (congrArg (fun b => Value.bool (!b)) (decide_eq_false a9))) (run_seq ?_)
 refine run_draw 8 (tabL [(17, MP.eq (vI a3)), (18, MP.eq (Value.pointer (some ⟨b1, 0 + (a3).toNat * 1, none⟩))), (19, MP.eq (Value.int .u8 (idx8 a0 a3))), (20, MP.eq (vI a3)), (21, MP.eq (Value.pointer (some ⟨b4, 0 + (a3).toNat * 1, none⟩))), (22, MP.eq (Value.int .u8 (idx8 a1 a3))), (23, MP.eq (Value.bool (decide ((idx8 a1 a3) < (idx8 a0 a3))))), (4, MP.eq (Value.bool (decide ((idx8 a1 a3) < (idx8 a0 a3)))))]) [] mixed rfl rfl rfl hS (hop_q rfl ?_ (hop_q rfl ?_ (hop_q rfl ?_ (hop_q rfl ?_ (hop_q rfl ?_ (hop_q rfl ?_ (hop_q rfl ?_ (hop_q rfl ?_ hop_nil)))))))) ?_
 intro p1 p2 p3 p4 k4 hS e4 k5 hcq
 refine r_move (vI a3) (evT (e4 5 rfl) b7) rfl ?_
 exact qn (.refl _) rfl hS rfl
 intro h7 p5 p6 p7 k6 hS e5 b9 hcq
 have e6 : ev h7 (.tmp 17) = vI a3 := b9 0 17 rfl rfl
 refine r_indexArP ar70 (evT (e5 2 rfl) d0) e6 (by omega) (by omega) rfl ?_
 exact qn (.refl _) rfl hS rfl
 intro e7 k7 k8 k9 h8 hS h9 c0 hcq
 have e8 : ev e7 (.tmp 18) = Value.pointer (some ⟨b1, 0 + (a3).toNat * 1, none⟩) := c0 1 18 rfl rfl
 refine r_loadOne (Value.int .u8 (idx8 a0 a3)) ty5 e8 (hS.get (o := cA (enc8 .u8 a0) 70) (mR (mR mL))) (box_ix ([]) ([]) (by omega) (by omega)) rfl ?_
 exact qn (.refl _) rfl hS rfl
 intro l0 l1 l2 l3 i0 hS c1 i1 hcq
 refine r_move (vI a3) (evT (c1 5 rfl) b7) rfl ?_
 exact qn (.refl _) rfl hS rfl
 intro e9 l4 l5 l6 i2 hS c2 c3 hcq
 have f0 : ev e9 (.tmp 20) = vI a3 := c3 3 20 rfl rfl
 refine r_indexArP ar70 (evT (c2 3 rfl) d1) f0 (by omega) (by omega) rfl ?_
 exact qn (.refl _) rfl hS rfl
 intro f1 l7 l9 m0 i3 hS i4 c4 hcq
 have f2 : ev f1 (.tmp 21) = Value.pointer (some ⟨b4, 0 + (a3).toNat * 1, none⟩) := c4 4 21 rfl rfl
 refine r_loadOne (Value.int .u8 (idx8 a1 a3)) ty5 f2 (hS.get (o := cA (enc8 .u8 a1) 70) (mR mL)) (box_ix ([]) ([]) (by omega) (by omega)) rfl ?_
 exact qn (.refl _) rfl hS rfl
 intro b8 m1 m2 m3 i5 hS i6 b3 hcq
 have f3 : ev b8 (.tmp 19) = Value.int .u8 (idx8 a0 a3) := b3 2 19 rfl rfl
 have f4 : ev b8 (.tmp 22) = Value.int .u8 (idx8 a1 a3) := b3 5 22 rfl rfl
 refine r_gtr (k := .u8) (a := (idx8 a0 a3)) (b := (idx8 a1 a3)) f3 f4 rfl ?_
 exact qn (.refl _) rfl hS rfl
 intro f5 m4 m5 m6 i7 hS i8 c5 hcq
 have f6 : ev f5 (.tmp 23) = Value.bool (decide ((idx8 a1 a3) < (idx8 a0 a3))) := c5 6 23 rfl rfl
 refine r_assign (Value.bool (decide ((idx8 a1 a3) < (idx8 a0 a3)))) f6 rfl ?_
 exact qn (.refl _) rfl hS rfl
 intro f7 f9 g0 c6 hS i9 c7 hcq
 have hS : St g0 f9 ([(b4, cA (enc8 .u8 a1) 70)] ++ ([(b1, cA (enc8 .u8 a0) 70)] ++ L)) := hS
 have hsub := hsub.trans c6
 have g1 : ev f7 (.tmp 4) = Value.bool (decide ((idx8 a1 a3) < (idx8 a0 a3))) := c7 7 4 (by decide) rfl
 refine reg_nil ?_
 refine run_ret (vs := [Value.bool (decide ((idx8 a1 a3) < (idx8 a0 a3)))]) Tryz.func203 ⟨(by exact g1), trivial⟩ ?_
 have hz := Option.some.inj a4
 subst hz
 dsimp only [Ex.elim] at a8
 have hz := Option.some.inj a8
 subst hz
 exact ⟨_, _, rfl, hsub, (St.dropA (A := [(b1, cA (enc8 .u8 a0) 70)]) (St.dropA (A := [(b4, cA (enc8 .u8 a1) 70)]) hS)), rfl⟩
 rw [if_neg b2] at a4
 refine run_cond_false (Eq.trans rfl (congrArg Value.bool (decide_eq_false b2))) ?_
 refine run_exit rfl ?_
 have hz := Option.some.inj a4
 subst hz
 exact g3 _ _ ⟨d3, rfl, hsub, hS⟩
 exact ⟨0, H, a4, hsub, hS, (by omega), rfl, rfl, rfl⟩
 rintro m7 m8 ⟨m9, rfl, hsub, hS⟩
 dsimp only [Ex.elim] at a8
 refine run_seq (run_region (r_assign (Value.bool false) rfl rfl (reg_nil ?_)))
 refine run_ret (vs := [Value.bool false]) Tryz.func203 ⟨rfl, trivial⟩ ?_
 have hz := Option.some.inj a8
 subst hz
 exact ⟨_, _, rfl, hsub, (St.dropA (A := [(b1, cA (enc8 .u8 a0) 70)]) (St.dropA (A := [(b4, cA (enc8 .u8 a1) 70)]) hS)), rfl⟩
def g_laws_eqInt64S_l0 (K : Nat) (a0 : (List Int)) (a1 : (List Int)) : Nat → Int → Option (Ex Bool (Unit))
 | 0, _ => none
 | k + 1, a3 => (if a3 < (a0.length : Int) then (if a3 < (a1.length : Int) then (if (rd a0 a3) = (rd a1 a3) then g_laws_eqInt64S_l0 K a0 a1 k (a3 + 1) else some (.ret false)) else none) else some (.go ()))
def g_laws_eqInt64S (K : Nat) (a0 : (List Int)) (a1 : (List Int)) : Option Bool := (if (a0.length : Int) = (a1.length : Int) then ((g_laws_eqInt64S_l0 K a0 a1 K 0).bind (Ex.elim (fun r => some r) (fun s => some true))) else some false)
theorem g_laws_eqInt64S_ok {K : Nat} {a0 : (List Int)} {a1 : (List Int)} {r : Bool} (q0 : g_laws_eqInt64S K a0 a1 = some r) {H : FH} {w : World} {L : OL} {s0 : Value} {s1 : Value} (a6 : RdSl (tyInt .i64) H s0 a0) (a8 : RdSl (tyInt .i64) H s1 a1) (hS : St H w L) :
 Calls Tryz.prog 24 #[s0, s1] w (Done (fun v G => R.bool.p G v r) H L) := by
 have hsub := Sub.refl H
 refine calls_of_run Tryz.func24 rfl Tryz.ntmps24 rfl ?_
 unfold g_laws_eqInt64S at q0
 refine run_seq (run_region (r_assign (Value.bool false) rfl rfl (reg_nil (run_seq (run_seq (run_region (r_move (s0) rfl rfl ?_)))))))
 have i5 := a6.bound
 refine r_lenRd sl22 rfl a6 rfl (r_move (s1) rfl rfl ?_)
 have i6 := a8.bound
 refine r_lenRd sl22 rfl a8 rfl ?_
 refine r_neq (k := .i64) (a := (a0.length : Int)) (b := (a1.length : Int)) rfl rfl rfl (reg_nil ?_)
 by_cases b6 : (a0.length : Int) = (a1.length : Int)
 rw [if_pos b6] at q0
 refine run_cond_false (Eq.trans rfl (congrArg (fun b => Value.bool (!b)) (decide_eq_true b6))) (run_skip (run_seq (run_seq (run_region (r_assign (vI 0) rfl rfl (reg_nil (run_block ?_)))))))
 obtain ⟨b8, a4, b1⟩ := bind_some q0
 refine loop_ind (id := 0) (fun k f w => ∃ (a3 : Int) (H1 : FH), g_laws_eqInt64S_l0 K a0 a1 k a3 = some b8 ∧ Sub H H1 ∧ St H1 w (L) ∧ 0 ≤ a3 ∧ RdSl (tyInt .i64) H1 s0 a0 ∧ RdSl (tyInt .i64) H1 s1 a1 ∧ ev f (.tmp 0) = s0 ∧ ev f (.tmp 1) = s1 ∧ ev f (.tmp 5) = vI a3) (fun f w => ∃ (H1 : FH), b8 = .go () ∧ Sub H H1 ∧ St H1 w (L)) rfl ?_ ?_ K ?_ ?_
 rintro f w ⟨a3, H1, a4, _⟩
 rw [g_laws_eqInt64S_l0] at a4; cases a4
 rintro k g1 g2 e9 f0 ⟨a3, d2, a4, hsub, hS, f1, a6, a8, a7, b0, a5⟩
 rw [g_laws_eqInt64S_l0] at a4
 refine run_seq (run_seq (run_region (r_move (vI a3) (by exact a5) rfl (r_move (s0) (by exact a7) rfl ?_))))
 have i7 := a6.bound
 refine r_lenRd sl22 rfl a6 rfl ?_
 refine r_lss (k := .i64) (a := a3) (b := (a0.length : Int)) rfl rfl rfl (reg_nil ?_)
 by_cases b7 : a3 < (a0.length : Int)
 rw [if_pos b7] at a4
 refine run_cond_true (Eq.trans rfl (congrArg Value.bool (decide_eq_true b7))) (run_skip (run_seq (run_block (run_seq ?_))))
 obtain ⟨c5, c6, g3, i8, _, d3, b4, rfl, d4⟩ := a6.elem (i := a3) (by omega) (by omega)
 obtain ⟨g4, a4⟩ := gd a4
 obtain ⟨c7, c8, g5, i9, _, d5, b5, rfl, d6⟩ := a8.elem (i := a3) (by omega) (by omega)
 refine run_draw 9 (tabL [(17, MP.eq (s0)), (18, MP.eq (vI a3)), (19, MP.eq (Value.pointer (some ⟨c5, c6, none⟩))), (20, MP.eq (vI (rd a0 a3))), (21, MP.eq (s1)), (22, MP.eq (vI a3)), (23, MP.eq (Value.pointer (some ⟨c7, c8, none⟩))), (24, MP.eq (vI (rd a1 a3))), (25, MP.eq (Value.bool (!decide ((rd a0 a3) = (rd a1 a3)))))]) [] mixed rfl rfl rfl hS (hop_q rfl ?_ (hop_q rfl ?_ (hop_q rfl ?_ (hop_q rfl ?_ (hop_q rfl ?_ (hop_q rfl ?_ (hop_q rfl ?_ (hop_q rfl ?_ (hop_q rfl ?_ hop_nil))))))))) ?_
 intro f6 w7 H8 X9 g6 hS d7 g7 hcq
 refine r_move (s0) (evT (d7 0 rfl) a7) rfl ?_
 exact qn (.refl _) rfl hS rfl
 intro j0 j1 j2 j3 g8 hS d8 g9 hcq
 refine r_move (vI a3) (evT (d8 5 rfl) a5) rfl ?_
 exact qn (.refl _) rfl hS rfl
 intro c9 j4 j5 j6 h0 hS h1 b9 hcq
 have f2 : ev c9 (.tmp 17) = s0 := b9 0 17 rfl rfl
 have f3 : ev c9 (.tmp 18) = vI a3 := b9 1 18 rfl rfl
 refine r_indexAt sl22 rfl f2 d3 f3 (by omega) (by omega) rfl ?_
 exact qn (.refl _) rfl hS rfl
 intro f4 j7 j8 j9 d9 hS h2 e0 hcq
 have b4 := d9.1 _ _ b4
 have f5 : ev f4 (.tmp 19) = Value.pointer (some ⟨c5, c6, none⟩) := e0 2 19 rfl rfl
 refine r_loadOne (vI (rd a0 a3)) ty2 f5 (hS.froz _ _ b4) (d4 0 (show 0 < 1 by decide)) rfl ?_
 exact qn (.refl _) rfl hS rfl
 intro k0 k1 k2 k3 h3 hS e1 h4 hcq
 refine r_move (s1) (evT (e1 1 rfl) b0) rfl ?_
 exact qn (.refl _) rfl hS rfl
 intro k4 k5 k6 k7 h5 hS e2 h6 hcq
 refine r_move (vI a3) (evT (e2 5 rfl) a5) rfl ?_
 exact qn (.refl _) rfl hS rfl
 intro d0 k8 k9 l0 h7 hS h8 c0 hcq
 have f7 : ev d0 (.tmp 21) = s1 := c0 4 21 rfl rfl
 have f8 : ev d0 (.tmp 22) = vI a3 := c0 5 22 rfl rfl
 refine r_indexAt sl22 rfl f7 d5 f8 (by omega) (by omega) rfl ?_
 exact qn (.refl _) rfl hS rfl
 intro f9 l1 l2 l3 e3 hS h9 e4 hcq
 have b5 := e3.1 _ _ b5
 have g0 : ev f9 (.tmp 23) = Value.pointer (some ⟨c7, c8, none⟩) := e4 6 23 rfl rfl
 refine r_loadOne (vI (rd a1 a3)) ty2 g0 (hS.froz _ _ b5) (d6 0 (show 0 < 1 by decide)) rfl ?_
 exact qn (.refl _) rfl hS rfl
 intro d1 l4 l5 l6 i0 hS i1 c1 hcq
 have e5 : ev d1 (.tmp 20) = vI (rd a0 a3) := c1 3 20 rfl rfl
 have e6 : ev d1 (.tmp 24) = vI (rd a1 a3) := c1 7 24 rfl rfl
 refine r_neq (k := .i64) (a := (rd a0 a3)) (b := (rd a1 a3)) e5 e6 rfl ?_
 exact qn (.refl _) rfl hS rfl
 intro e7 e8 c2 b2 hS b3 c4 hcq
 have hS : St c2 e8 (L) := hS
 have hsub := hsub.trans b2
 have a6 := a6.mono b2
 have a8 := a8.mono b2
 have c3 : ev e7 (.tmp 25) = Value.bool (!decide ((rd a0 a3) = (rd a1 a3))) := c4 8 25 (by decide) rfl
 refine reg_nil ?_
 by_cases a9 : (rd a0 a3) = (rd a1 a3)
 rw [if_pos a9] at a4
 refine run_cond_false (Eq.trans (by exact c3) (congrArg (fun b => Value.bool (!b)) (decide_eq_true a9))) (run_skip (run_inBlock (run_region (r_move (vI a3) (by exact (evT (b3 5 rfl) a5)) rfl ?_))))
 refine r_add (a3 + 1) rfl rfl (IntWalk.i64_in _ (by omega)) rfl (r_assign (vI (a3 + 1)) rfl rfl (reg_nil ?_))
 exact e9 _ _ ⟨(a3 + 1), c2, a4, hsub, hS, (by omega), a6, a8, (evT (b3 0 rfl) a7), (evT (b3 1 rfl) b0), rfl⟩
 rw [if_neg a9] at a4
 refine run_cond_true (Eq.trans (by exact c3) (congrArg (fun b => Value.bool (!b)) (decide_eq_false a9))) (run_seq (run_region (r_assign (Value.bool false) rfl rfl (reg_nil ?_))))
 refine run_ret (vs := [Value.bool false]) Tryz.func24 ⟨rfl, trivial⟩ ?_
 have hz := Option.some.inj a4
 subst hz
 dsimp only [Ex.elim] at b1
 have hz := Option.some.inj b1
 subst hz
 exact ⟨_, _, rfl, hsub, hS, rfl⟩
 rw [if_neg b7] at a4
 refine run_cond_false (Eq.trans rfl (congrArg Value.bool (decide_eq_false b7))) ?_
 refine run_exit rfl ?_
 have hz := Option.some.inj a4
 subst hz
 exact f0 _ _ ⟨d2, rfl, hsub, hS⟩
 exact ⟨0, H, a4, hsub, hS, (by omega), a6, a8, rfl, rfl, rfl⟩
 rintro i2 i3 ⟨i4, rfl, hsub, hS⟩
 dsimp only [Ex.elim] at b1
 refine run_seq (run_region (r_assign (Value.bool true) rfl rfl (reg_nil ?_)))
 refine run_ret (vs := [Value.bool true]) Tryz.func24 ⟨rfl, trivial⟩ ?_
 have hz := Option.some.inj b1
 subst hz
 exact ⟨_, _, rfl, hsub, hS, rfl⟩
 rw [if_neg b6] at q0
 refine run_cond_true (Eq.trans rfl (congrArg (fun b => Value.bool (!b)) (decide_eq_false b6))) (run_seq (run_region (r_assign (Value.bool false) rfl rfl (reg_nil ?_))))
 refine run_ret (vs := [Value.bool false]) Tryz.func24 ⟨rfl, trivial⟩ ?_
 have hz := Option.some.inj q0
 subst hz
 exact ⟨_, _, rfl, hsub, hS, rfl⟩
def g_spec_l01Inverse_j5 (K : Nat) (c3 : Int → Int → Int → Option (Ex Int (Int))) (a1 : Int) (a3 : Int) (a6 : Int) : Option (Ex Int (Int)) := c3 a6 (((IntKind.i64.wrap (a1 * a1))).tmod 10007) (IntKind.i64.wrap ((a3).tdiv 2))
def g_spec_l01Inverse_l0 (K : Nat) : Nat → Int → Int → Int → Option (Ex Int (Int))
 | 0, _, _, _ => none
 | k + 1, a4, a1, a3 => (if 0 < a3 then (if ((a3).tmod 2) = 1 then g_spec_l01Inverse_j5 K (g_spec_l01Inverse_l0 K k) a1 a3 (((IntKind.i64.wrap (a4 * a1))).tmod 10007) else g_spec_l01Inverse_j5 K (g_spec_l01Inverse_l0 K k) a1 a3 a4) else some (.go a4))
def g_spec_l01Inverse (K : Nat) (a0 : Int) : Option Int := ((g_spec_l01Inverse_l0 K K 1 a0 10005).bind (Ex.elim (fun r => some r) (fun s => (fun (a7 : Int) => some a7) s)))
theorem g_spec_l01Inverse_ok {K : Nat} {a0 : Int} {r : Int} (q0 : g_spec_l01Inverse K a0 = some r) {H : FH} {w : World} {L : OL} (hS : St H w L) :
 Calls Tryz.prog 149 #[vI a0] w (Done (fun v G => (R.int .i64).p G v r) H L) := by
 have hsub := Sub.refl H
 refine calls_of_run Tryz.func149 rfl Tryz.ntmps149 rfl ?_
 unfold g_spec_l01Inverse at q0
 refine run_seq (run_region (r_assign (vI 0) rfl rfl (reg_nil (run_seq (run_region (r_move (vI a0) rfl rfl (r_assign (vI 1) rfl rfl (r_assign (vI a0) rfl rfl (reg_nil (run_seq (run_seq (run_region (r_assign (vI 10005) rfl rfl (reg_nil (run_block ?_)))))))))))))))
 obtain ⟨b2, a5, b8⟩ := bind_some q0
 refine loop_ind (id := 0) (fun k f w => ∃ (a4 : Int) (a1 : Int) (a3 : Int) (H1 : FH), g_spec_l01Inverse_l0 K k a4 a1 a3 = some b2 ∧ Sub H H1 ∧ St H1 w (L) ∧ ev f (.tmp 3) = vI a4 ∧ ev f (.tmp 4) = vI a1 ∧ ev f (.tmp 5) = vI a3) (fun f w => ∃ (a7 : Int) (H1 : FH), b2 = .go a7 ∧ Sub H H1 ∧ St H1 w (L) ∧ ev f (.tmp 3) = vI a7) rfl ?_ ?_ K ?_ ?_
 rintro f w ⟨a4, a1, a3, H1, a5, _⟩
 rw [g_spec_l01Inverse_l0] at a5; cases a5
 rintro k c7 c8 c4 c5 ⟨a4, a1, a3, b3, a5, hsub, hS, a9, b0, a8⟩
 rw [g_spec_l01Inverse_l0] at a5
 refine run_seq (run_seq (run_region (r_move (vI a3) (by exact a8) rfl ?_)))
 refine r_gtr (k := .i64) (a := a3) (b := 0) rfl rfl rfl (reg_nil ?_)
 by_cases b4 : 0 < a3
 rw [if_pos b4] at a5
 refine run_cond_true (Eq.trans rfl (congrArg Value.bool (decide_eq_true b4))) (run_skip (run_seq (run_block (run_seq (run_seq (run_region (r_move (vI a3) (by exact a8) rfl ?_)))))))
 refine r_rem ((a3).tmod 2) rfl rfl (by decide) rfl rfl ?_
 refine r_eql (k := .i64) (a := ((a3).tmod 2)) (b := 1) rfl rfl rfl (reg_nil ?_)
 refine run_cut (fun f w => ∃ (a6 : Int) (H1 : FH), g_spec_l01Inverse_j5 K (g_spec_l01Inverse_l0 K k) a1 a3 a6 = some b2 ∧ Sub H H1 ∧ St H1 w (L) ∧ ev f (.tmp 3) = vI a6 ∧ ev f (.tmp 4) = vI a1 ∧ ev f (.tmp 5) = vI a3) ?_ ?_
 rintro d2 c6 ⟨a6, c1, b5, hsub, hS, b9, b1, c0⟩
 unfold g_spec_l01Inverse_j5 at b5
 refine run_region (r_move (vI a1) (by exact b1) rfl (r_move (vI a1) (by exact b1) rfl ?_))
 refine r_mul (IntKind.i64.wrap (a1 * a1)) rfl rfl rfl rfl ?_
 refine r_rem (((IntKind.i64.wrap (a1 * a1))).tmod 10007) rfl rfl (by decide) rfl rfl (r_assign (vI (((IntKind.i64.wrap (a1 * a1))).tmod 10007)) rfl rfl (reg_nil (run_inBlock (run_region (r_move (vI a3) (by exact c0) rfl ?_)))))
 refine r_quo (IntKind.i64.wrap ((a3).tdiv 2)) rfl rfl (by decide) rfl rfl (r_assign (vI (IntKind.i64.wrap ((a3).tdiv 2))) rfl rfl (reg_nil ?_))
 exact c4 _ _ ⟨a6, (((IntKind.i64.wrap (a1 * a1))).tmod 10007), (IntKind.i64.wrap ((a3).tdiv 2)), c1, b5, hsub, hS, b9, rfl, rfl⟩
 intro c2
 by_cases b6 : ((a3).tmod 2) = 1
 rw [if_pos b6] at a5
 refine run_cond_true (Eq.trans rfl (congrArg Value.bool (decide_eq_true b6))) (run_region (r_move (vI a4) (by exact a9) rfl (r_move (vI a1) (by exact b0) rfl ?_)))
 refine r_mul (IntKind.i64.wrap (a4 * a1)) rfl rfl rfl rfl ?_
 refine r_rem (((IntKind.i64.wrap (a4 * a1))).tmod 10007) rfl rfl (by decide) rfl rfl (r_assign (vI (((IntKind.i64.wrap (a4 * a1))).tmod 10007)) rfl rfl (reg_nil ?_))
 exact c2 _ _ ⟨(((IntKind.i64.wrap (a4 * a1))).tmod 10007), b3, a5, hsub, hS, rfl, b0, a8⟩
 rw [if_neg b6] at a5
 refine run_cond_false (Eq.trans rfl (congrArg Value.bool (decide_eq_false b6))) (run_skip ?_)
 exact c2 _ _ ⟨a4, b3, a5, hsub, hS, a9, b0, a8⟩
 rw [if_neg b4] at a5
 refine run_cond_false (Eq.trans rfl (congrArg Value.bool (decide_eq_false b4))) ?_
 refine run_exit rfl ?_
 have hz := Option.some.inj a5
 subst hz
 exact c5 _ _ ⟨a4, b3, rfl, hsub, hS, a9⟩
 exact ⟨1, a0, 10005, H, a5, hsub, hS, rfl, rfl, rfl⟩
 rintro c9 d0 ⟨a7, d1, rfl, hsub, hS, b7⟩
 dsimp only [Ex.elim] at b8
 refine run_seq (run_region (r_move (vI a7) (by exact b7) rfl (r_assign (vI a7) rfl rfl (reg_nil ?_))))
 refine run_ret (vs := [vI a7]) Tryz.func149 ⟨rfl, trivial⟩ ?_
 have hz := Option.some.inj b8
 subst hz
 exact ⟨_, _, rfl, hsub, hS, rfl⟩
def g_laws_toInt64S_l0 (K : Nat) (a0 : (List Int)) : Nat → Int → (List Int) → Option (Ex (List Int) ((List Int)))
 | 0, _, _ => none
 | k + 1, a1, a3 => (if a1 < (a0.length : Int) then (if a1 < (a3.length : Int) then g_laws_toInt64S_l0 K a0 k (a1 + 1) (a3.set (a1).toNat (rd a0 a1)) else none) else some (.go a3))
def g_laws_toInt64S (K : Nat) (a0 : (List Int)) : Option (List Int) := (if (a0.length : Int) ≤ 1099511627776 then ((g_laws_toInt64S_l0 K a0 K 0 (List.replicate ((a0.length : Int)).toNat (0 : Int))).bind (Ex.elim (fun r => some r) (fun s => (fun (a7 : (List Int)) => some a7) s))) else none)
theorem g_laws_toInt64S_ok {K : Nat} {a0 : (List Int)} {r : (List Int)} (q0 : g_laws_toInt64S K a0 = some r) {H : FH} {w : World} {L : OL} {s0 : Value} (b4 : RdSl (tyInt .i64) H s0 a0) (hS : St H w L) :
 Calls Tryz.prog 83 #[s0] w (Done (fun v G => (R.sl (tyInt .i64)).p (G.new H) v r) H L) := by
 have hsub := Sub.refl H
 refine calls_of_run Tryz.func83 rfl Tryz.ntmps83 rfl ?_
 unfold g_laws_toInt64S at q0
 refine run_seq (run_region (r_assign (vN) rfl rfl (reg_nil (run_seq (run_region (r_move (s0) rfl rfl ?_))))))
 have e2 := b4.bound
 refine r_lenRd sl22 rfl b4 rfl ?_
 obtain ⟨e3, q0⟩ := gd q0
 refine r_make (τ := (tyInt .i64)) (0 : Int) ap22 rfl rfl rfl (fun _ => rfl) (by omega) (by omega) hS rfl ?_
 intro u3 w4 C5 c8 hS
 refine r_assign (u3) rfl rfl (reg_nil (run_seq (run_seq (run_region (r_assign (vI 0) rfl rfl (reg_nil (run_block ?_)))))))
 obtain ⟨b9, a6, c0⟩ := bind_some q0
 refine loop_ind (id := 0) (fun k f w => ∃ (a1 : Int) (a3 : (List Int)) (H1 : FH) (a8 : OL) (a4 : Value), g_laws_toInt64S_l0 K a0 k a1 a3 = some b9 ∧ Sub H H1 ∧ St H1 w (a8 ++ L) ∧ 0 ≤ a1 ∧ OwnSl (tyInt .i64) 2 H1 a4 a3 a8 ∧ RdSl (tyInt .i64) H1 s0 a0 ∧ ev f (.tmp 0) = s0 ∧ ev f (.tmp 3) = a4 ∧ ev f (.tmp 4) = vI a1) (fun f w => ∃ (a7 : (List Int)) (H1 : FH) (b1 : OL) (a5 : Value), b9 = .go a7 ∧ Sub H H1 ∧ St H1 w (b1 ++ L) ∧ OwnSl (tyInt .i64) 2 H1 a5 a7 b1 ∧ ev f (.tmp 3) = a5) rfl ?_ ?_ K ?_ ?_
 rintro f w ⟨a1, a3, H1, a8, a4, a6, _⟩
 rw [g_laws_toInt64S_l0] at a6; cases a6
 rintro k d4 d5 c9 d0 ⟨a1, a3, c1, a8, a4, a6, hsub, hS, d1, a9, b4, b2, b3, b0⟩
 rw [g_laws_toInt64S_l0] at a6
 refine run_seq (run_seq (run_region (r_move (vI a1) (by exact b0) rfl (r_move (s0) (by exact b2) rfl ?_))))
 have e4 := b4.bound
 refine r_lenRd sl22 rfl b4 rfl ?_
 refine r_lss (k := .i64) (a := a1) (b := (a0.length : Int)) rfl rfl rfl (reg_nil ?_)
 by_cases b7 : a1 < (a0.length : Int)
 rw [if_pos b7] at a6
 refine run_cond_true (Eq.trans rfl (congrArg Value.bool (decide_eq_true b7))) (run_skip (run_seq (run_block (run_region (r_move (a4) (by exact b3) rfl (r_move (vI a1) (by exact b0) rfl (r_move (s0) (by exact b2) rfl (r_move (vI a1) (by exact b0) rfl ?_))))))))
 obtain ⟨e5, e6, d6, e7, _, c3, c4, rfl, c5⟩ := b4.elem (i := a1) (by omega) (by omega)
 refine r_indexAt sl22 rfl rfl c3 rfl (by omega) (by omega) rfl ?_
 refine r_loadOne (vI (rd a0 a1)) ty2 rfl (hS.froz _ _ c4) (c5 0 (show 0 < 1 by decide)) rfl ?_
 obtain ⟨d7, a6⟩ := gd a6
 obtain ⟨e8, e9, c2⟩ := a9.some (i := a1) (by omega) (by omega)
 refine r_indexSl0 sl22 (Eq.trans rfl c2) rfl (by omega) (by omega) rfl ?_
 refine r_storeOwn (τ := (tyInt .i64)) (v := a4) (u := vI (rd a0 a1)) (rd a0 a1) (i := a1) rfl ty2 c2 a9 hS rfl rfl (by omega) (by omega) rfl ?_
 intro f0 d2 c6 hS
 refine reg_nil (run_inBlock (run_region (r_move (vI a1) (by exact b0) rfl ?_)))
 refine r_add (a1 + 1) rfl rfl (IntWalk.i64_in _ (by omega)) rfl (r_assign (vI (a1 + 1)) rfl rfl (reg_nil ?_))
 exact c9 _ _ ⟨(a1 + 1), (a3.set (a1).toNat (rd a0 a1)), c1, d2, a4, a6, hsub, hS, (by omega), c6, b4, b2, b3, rfl⟩
 rw [if_neg b7] at a6
 refine run_cond_false (Eq.trans rfl (congrArg Value.bool (decide_eq_false b7))) ?_
 refine run_exit rfl ?_
 have hz := Option.some.inj a6
 subst hz
 exact d0 _ _ ⟨a3, c1, a8, a4, rfl, hsub, hS, a9, b3⟩
 exact ⟨0, (List.replicate ((a0.length : Int)).toNat (0 : Int)), H, C5, u3, a6, hsub, hS, (by omega), c8, b4, rfl, rfl, rfl⟩
 rintro d8 d9 ⟨a7, e0, b1, a5, rfl, hsub, hS, b6, b8⟩
 dsimp only [Ex.elim] at c0
 refine run_seq (run_region (r_move (a5) (by exact b8) rfl (r_assign (a5) rfl rfl (reg_nil ?_))))
 refine run_ret (vs := [a5]) Tryz.func83 ⟨rfl, trivial⟩ ?_
 obtain ⟨d3, c7, hS, b5⟩ := OwnSl.freezeF (τ := (tyInt .i64)) (H0 := H) b6 hS hsub
 have e1 := RdSl.old b5
 have b5 : RdF (tyInt .i64) H d3 a5 a7 := b5
 have hsub := hsub.trans c7
 have hz := Option.some.inj c0
 subst hz
 exact ⟨_, _, rfl, hsub, hS, b5⟩
def g_laws_heldInt64S_l0 (K : Nat) (a0 : (List Int)) : Nat → Int → Int → Option (Ex Int (Int))
 | 0, _, _ => none
 | k + 1, a4, a3 => (if a3 < (a0.length : Int) then (if (rd a0 a3) = a4 then g_laws_heldInt64S_l0 K a0 k (IntKind.i64.wrap (a4 + 1)) (a3 + 1) else some (.ret (-1))) else some (.go a4))
def g_laws_heldInt64S (K : Nat) (a0 : (List Int)) (a1 : Int) : Option Int := ((g_laws_heldInt64S_l0 K a0 K a1 0).bind (Ex.elim (fun r => some r) (fun s => (fun (a6 : Int) => some a6) s)))
theorem g_laws_heldInt64S_ok {K : Nat} {a0 : (List Int)} {a1 : Int} {r : Int} (q0 : g_laws_heldInt64S K a0 a1 = some r) {H : FH} {w : World} {L : OL} {s0 : Value} (b0 : RdSl (tyInt .i64) H s0 a0) (hS : St H w L) :
 Calls Tryz.prog 26 #[s0, vI a1] w (Done (fun v G => (R.int .i64).p G v r) H L) := by
 have hsub := Sub.refl H
 refine calls_of_run Tryz.func26 rfl Tryz.ntmps26 rfl ?_
 unfold g_laws_heldInt64S at q0
 refine run_seq (run_region (r_assign (vI 0) rfl rfl (reg_nil (run_seq (run_seq (run_region (r_assign (vI 0) rfl rfl (reg_nil (run_block ?_)))))))))
 obtain ⟨b6, a5, b1⟩ := bind_some q0
 refine loop_ind (id := 0) (fun k f w => ∃ (a4 : Int) (a3 : Int) (H1 : FH), g_laws_heldInt64S_l0 K a0 k a4 a3 = some b6 ∧ Sub H H1 ∧ St H1 w (L) ∧ 0 ≤ a3 ∧ RdSl (tyInt .i64) H1 s0 a0 ∧ ev f (.tmp 0) = s0 ∧ ev f (.tmp 1) = vI a4 ∧ ev f (.tmp 5) = vI a3) (fun f w => ∃ (a6 : Int) (H1 : FH), b6 = .go a6 ∧ Sub H H1 ∧ St H1 w (L) ∧ ev f (.tmp 1) = vI a6) rfl ?_ ?_ K ?_ ?_
 rintro f w ⟨a4, a3, H1, a5, _⟩
 rw [g_laws_heldInt64S_l0] at a5; cases a5
 rintro k c4 c5 b8 b9 ⟨a4, a3, b7, a5, hsub, hS, c0, b0, a7, a8, a9⟩
 rw [g_laws_heldInt64S_l0] at a5
 refine run_seq (run_seq (run_region (r_move (vI a3) (by exact a9) rfl (r_move (s0) (by exact a7) rfl ?_))))
 have c9 := b0.bound
 refine r_lenRd sl22 rfl b0 rfl ?_
 refine r_lss (k := .i64) (a := a3) (b := (a0.length : Int)) rfl rfl rfl (reg_nil ?_)
 by_cases b2 : a3 < (a0.length : Int)
 rw [if_pos b2] at a5
 refine run_cond_true (Eq.trans rfl (congrArg Value.bool (decide_eq_true b2))) (run_skip (run_seq (run_block (run_seq (run_seq (run_region (r_move (s0) (by exact a7) rfl (r_move (vI a3) (by exact a9) rfl ?_))))))))
 obtain ⟨b3, o3, d0, E3, _, c1, c2, rfl, c3⟩ := b0.elem (i := a3) (by omega) (by omega)
 refine r_indexAt sl22 rfl rfl c1 rfl (by omega) (by omega) rfl ?_
 refine r_loadOne (vI (rd a0 a3)) ty2 rfl (hS.froz _ _ c2) (c3 0 (show 0 < 1 by decide)) rfl (r_move (vI a4) (by exact a8) rfl ?_)
 refine r_neq (k := .i64) (a := (rd a0 a3)) (b := a4) rfl rfl rfl (reg_nil ?_)
 by_cases b4 : (rd a0 a3) = a4
 rw [if_pos b4] at a5
 refine run_cond_false (Eq.trans rfl (congrArg (fun b => Value.bool (!b)) (decide_eq_true b4))) (run_skip (run_region (r_move (vI a4) (by exact a8) rfl ?_)))
 refine r_add (IntKind.i64.wrap (a4 + 1)) rfl rfl rfl rfl (r_assign (vI (IntKind.i64.wrap (a4 + 1))) rfl rfl (reg_nil (run_inBlock (run_region (r_move (vI a3) (by exact a9) rfl ?_)))))
 refine r_add (a3 + 1) rfl rfl (IntWalk.i64_in _ (by omega)) rfl (r_assign (vI (a3 + 1)) rfl rfl (reg_nil ?_))
 exact b8 _ _ ⟨(IntKind.i64.wrap (a4 + 1)), (a3 + 1), b7, a5, hsub, hS, (by omega), b0, a7, rfl, rfl⟩
 rw [if_neg b4] at a5
 refine run_cond_true (Eq.trans rfl (congrArg (fun b => Value.bool (!b)) (decide_eq_false b4))) (run_seq (run_region (r_assign (vI (-1)) rfl rfl (reg_nil ?_))))
 refine run_ret (vs := [vI (-1)]) Tryz.func26 ⟨rfl, trivial⟩ ?_
 have hz := Option.some.inj a5
 subst hz
 dsimp only [Ex.elim] at b1
 have hz := Option.some.inj b1
 subst hz
 exact ⟨_, _, rfl, hsub, hS, rfl⟩
 rw [if_neg b2] at a5
 refine run_cond_false (Eq.trans rfl (congrArg Value.bool (decide_eq_false b2))) ?_
 refine run_exit rfl ?_
 have hz := Option.some.inj a5
 subst hz
 exact b9 _ _ ⟨a4, b7, rfl, hsub, hS, a8⟩
 exact ⟨a1, 0, H, a5, hsub, hS, (by omega), b0, rfl, rfl, rfl⟩
 rintro c6 c7 ⟨a6, c8, rfl, hsub, hS, b5⟩
 dsimp only [Ex.elim] at b1
 refine run_seq (run_region (r_move (vI a6) (by exact b5) rfl (r_assign (vI a6) rfl rfl (reg_nil ?_))))
 refine run_ret (vs := [vI a6]) Tryz.func26 ⟨rfl, trivial⟩ ?_
 have hz := Option.some.inj b1
 subst hz
 exact ⟨_, _, rfl, hsub, hS, rfl⟩
def g_laws_szInt64S (K : Nat) (a0 : (List Int)) (a1 : Int) : Option Int := (if (IntKind.i64.wrap (a1 - (a0.length : Int))) < 0 then some (-1) else some (IntKind.i64.wrap (a1 - (a0.length : Int))))
theorem g_laws_szInt64S_ok {K : Nat} {a0 : (List Int)} {a1 : Int} {r : Int} (q0 : g_laws_szInt64S K a0 a1 = some r) {H : FH} {w : World} {L : OL} {s0 : Value} (a4 : RdSl (tyInt .i64) H s0 a0) (hS : St H w L) :
 Calls Tryz.prog 77 #[s0, vI a1] w (Done (fun v G => (R.int .i64).p G v r) H L) := by
 have hsub := Sub.refl H
 refine calls_of_run Tryz.func77 rfl Tryz.ntmps77 rfl ?_
 unfold g_laws_szInt64S at q0
 refine run_seq (run_region (r_assign (vI 0) rfl rfl (reg_nil (run_seq (run_region (r_move (vI a1) rfl rfl (r_move (s0) rfl rfl ?_)))))))
 have a5 := a4.bound
 refine r_lenRd sl22 rfl a4 rfl ?_
 refine r_sub (IntKind.i64.wrap (a1 - (a0.length : Int))) rfl rfl rfl rfl (r_assign (vI (IntKind.i64.wrap (a1 - (a0.length : Int)))) rfl rfl (reg_nil (run_seq (run_seq (run_region (r_move (vI (IntKind.i64.wrap (a1 - (a0.length : Int)))) rfl rfl ?_))))))
 refine r_lss (k := .i64) (a := (IntKind.i64.wrap (a1 - (a0.length : Int)))) (b := 0) rfl rfl rfl (reg_nil ?_)
 by_cases a3 : (IntKind.i64.wrap (a1 - (a0.length : Int))) < 0
 rw [if_pos a3] at q0
 refine run_cond_true (Eq.trans rfl (congrArg Value.bool (decide_eq_true a3))) (run_seq (run_region (r_assign (vI (-1)) rfl rfl (reg_nil ?_))))
 refine run_ret (vs := [vI (-1)]) Tryz.func77 ⟨rfl, trivial⟩ ?_
 have hz := Option.some.inj q0
 subst hz
 exact ⟨_, _, rfl, hsub, hS, rfl⟩
 rw [if_neg a3] at q0
 refine run_cond_false (Eq.trans rfl (congrArg Value.bool (decide_eq_false a3))) (run_skip (run_seq (run_region (r_move (vI (IntKind.i64.wrap (a1 - (a0.length : Int)))) rfl rfl (r_assign (vI (IntKind.i64.wrap (a1 - (a0.length : Int)))) rfl rfl (reg_nil ?_))))))
 refine run_ret (vs := [vI (IntKind.i64.wrap (a1 - (a0.length : Int)))]) Tryz.func77 ⟨rfl, trivial⟩ ?_
 have hz := Option.some.inj q0
 subst hz
 exact ⟨_, _, rfl, hsub, hS, rfl⟩
def g_spec_l01Own (K : Nat) (a0 : (List Int)) : Option (List Int) := (if ([] : List Int).length + a0.length ≤ 1099511627776 then some (([] : List Int) ++ a0) else none)
theorem g_spec_l01Own_ok {K : Nat} {a0 : (List Int)} {r : (List Int)} (q0 : g_spec_l01Own K a0 = some r) {H : FH} {w : World} {L : OL} {s0 : Value} (a5 : RdSl (tyInt .i64) H s0 a0) (hS : St H w L) :
 Calls Tryz.prog 234 #[s0] w (Done (fun v G => (R.sl (tyInt .i64)).p G v r) H L) := by
 have hsub := Sub.refl H
 refine calls_of_run Tryz.func234 rfl Tryz.ntmps234 rfl ?_
 unfold g_spec_l01Own at q0
 refine run_seq (run_region (r_assign (vN) rfl rfl (reg_nil (run_seq (run_region ?_)))))
 refine r_lit0 (τ := (tyInt .i64)) sl22 ze2 rfl hS rfl ?_
 intro u1 w2 C3 a6 hS
 refine r_move (s0) rfl rfl ?_
 obtain ⟨a7, q0⟩ := gd q0
 refine r_append (τ := (tyInt .i64)) ap22 rfl rfl rfl a6 hS a5 a7 rfl ?_
 intro u7 w8 C9 a1 hS
 refine r_assign (u7) rfl rfl (reg_nil ?_)
 refine run_ret (vs := [u7]) Tryz.func234 ⟨rfl, trivial⟩ ?_
 obtain ⟨a8, a3, hS, a4⟩ := a1.freeze hS
 have hsub := hsub.trans a3
 have hz := Option.some.inj q0
 subst hz
 exact ⟨_, _, rfl, hsub, hS, a4⟩
def g_impl_field (K : Nat) (a0 : Int) : Option Int := some (((IntKind.i64.wrap (((a0).tmod 10007) + 10007))).tmod 10007)
theorem g_impl_field_ok {K : Nat} {a0 : Int} {r : Int} (q0 : g_impl_field K a0 = some r) {H : FH} {w : World} {L : OL} (hS : St H w L) :
 Calls Tryz.prog 215 #[vI a0] w (Done (fun v G => (R.int .i64).p G v r) H L) := by
 have hsub := Sub.refl H
 refine calls_of_run Tryz.func215 rfl Tryz.ntmps215 rfl ?_
 unfold g_impl_field at q0
 refine run_seq (run_region (r_assign (vI 0) rfl rfl (reg_nil (run_seq (run_region (r_move (vI a0) rfl rfl ?_))))))
 refine r_rem ((a0).tmod 10007) rfl rfl (by decide) rfl rfl ?_
 refine r_add (IntKind.i64.wrap (((a0).tmod 10007) + 10007)) rfl rfl rfl rfl ?_
 refine r_rem (((IntKind.i64.wrap (((a0).tmod 10007) + 10007))).tmod 10007) rfl rfl (by decide) rfl rfl (r_assign (vI (((IntKind.i64.wrap (((a0).tmod 10007) + 10007))).tmod 10007)) rfl rfl (reg_nil ?_))
 refine run_ret (vs := [vI (((IntKind.i64.wrap (((a0).tmod 10007) + 10007))).tmod 10007)]) Tryz.func215 ⟨rfl, trivial⟩ ?_
 have hz := Option.some.inj q0
 subst hz
 exact ⟨_, _, rfl, hsub, hS, rfl⟩
end Go.Proofs.YtfodlhkoafhplaaGreat
