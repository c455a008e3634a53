/- Walks of functions: each computes its pure function, if that gives a value. -/
import Derived.Test.YtfodlhkoafhplaaGreatSTy
import Derived.Test.YtfodlhkoafhplaaGreatSF10
import Derived.Test.YtfodlhkoafhplaaGreatSF1
import Derived.Test.YtfodlhkoafhplaaGreatSF8
import Derived.Test.YtfodlhkoafhplaaGreatSF9
namespace Go.Proofs.YtfodlhkoafhplaaGreat
open Go
set_option linter.unusedSimpArgs false
set_option linter.unusedVariables false
set_option maxRecDepth 100000
set_option maxHeartbeats 1000000
def g_impl_sum_form_l1 (K : Nat) (a5 : (List A8)) (a1 : Int) : Nat → Int → A8 → Option (Ex (MpT × Int) (A8))
 | 0, _, _ => none
 | k + 1, a8, a9 => (if a8 < 8 then (if 20 < (idx8 (rd a5 a1) a8) then some (.ret (([] : List (A8 × Int)), 3)) else g_impl_sum_form_l1 K a5 a1 k (a8 + 1) (upd8 a9 a8 (IntKind.u8.wrap (idx8 (rd a5 a1) a8)))) else some (.go a9))
def g_impl_sum_form_l0 (K : Nat) (a0 : MpT) (a5 : (List A8)) : Nat → Int → MpT → Option (Ex (MpT × Int) (MpT))
 | 0, _, _ => none
 | k + 1, a1, b0 => (if a1 < (a5.length : Int) then ((g_impl_sum_form_l1 K a5 a1 K 0 (fun _ => 0)).bind (Ex.elim (fun r => some (.ret r)) (fun s => (fun (a4 : A8) => (if b0.length + ([(a4, (mget a0 (rd a5 a1)))]).length ≤ 1099511627776 then g_impl_sum_form_l0 K a0 a5 k (a1 + 1) (b0 ++ [(a4, (mget a0 (rd a5 a1)))]) else none)) s))) else some (.go b0))
def g_impl_sum_form (K : Nat) (a0 : MpT) : Option (MpT × Int) := (if 400 < (a0.length : Int) then some (([] : List (A8 × Int)), 3) else ((g_impl_sum_powers K a0).bind fun a5 => ((g_impl_sum_form_l0 K a0 a5 K 0 ([] : List (A8 × Int))).bind (Ex.elim (fun r => some r) (fun s => (fun (b4 : MpT) => some (b4, 0)) s)))))
theorem g_impl_sum_form_ok {K : Nat} {a0 : MpT} {r : (MpT × Int)} (q0 : g_impl_sum_form K a0 = some r) {H : FH} {w : World} {L : OL} {s0 : Value} (c0 : RdMp .i64 H s0 a0) (hS : St H w L) :
 Calls Tryz.prog 91 #[s0] w (Done (fun v G => (R.t2 (R.agg (tySl yT)) (R.int .i64)).p (G.new H) v r) H L) := by
 have hsub := Sub.refl H
 refine calls_of_run Tryz.func91 rfl Tryz.ntmps91 rfl ?_
 unfold g_impl_sum_form at q0
 refine run_seq (run_region ?_)
 refine r_alloc (z := vA ([vN])) ([vN]).toArray ze47.zero rfl hS rfl ?_
 intro b1 w2 hS
 refine r_assign (vI 0) rfl rfl (reg_nil (run_seq (run_seq (run_region (r_move (s0) rfl rfl ?_)))))
 refine r_lenMapR mp109 rfl c0 hS rfl ?_
 refine r_gtr (k := .i64) (a := (a0.length : Int)) (b := 400) rfl rfl rfl (reg_nil ?_)
 by_cases f7 : 400 < (a0.length : Int)
 rw [if_pos f7] at q0
 refine run_cond_true (Eq.trans rfl (congrArg Value.bool (decide_eq_true f7))) (run_seq (run_region ?_))
 refine r_build0 (vA ([vN])) bz47 rfl ?_
 refine r_storeAll (v := vA ([vN])) (vs := ([vN]).toArray) (cs := ([vN]).toArray) ty47 rfl rfl rfl hS rfl (one1 rfl) rfl ?_
 intro w5 hS
 refine r_assign (vI 3) rfl rfl (reg_nil ?_)
 refine run_ret (vs := [vA ([vN]), vI 3]) Tryz.func91 ⟨⟨_, rfl, run_loadAll ty47 (hS.get mL) rfl⟩, rfl, trivial⟩ ?_
 have hz := Option.some.inj q0
 subst hz
 exact ⟨_, _, rfl, hsub, (St.dropA (A := [(b1, cA ([vN]) 47)]) hS), ⟨_, _, rfl, ⟨_, rfl, ⟨_, rfl, RdSl.nil⟩⟩, rfl⟩⟩
 rw [if_neg f7] at q0
 refine run_cond_false (Eq.trans rfl (congrArg Value.bool (decide_eq_false f7))) (run_skip (run_seq (run_region ?_)))
 refine r_build0 (vA ([vN])) bz47 rfl ?_
 refine r_alloc (z := vA ([vN])) ([vN]).toArray ze47.zero rfl hS rfl ?_
 intro b6 w7 hS
 refine r_storeAll (v := vA ([vN])) (vs := ([vN]).toArray) (cs := ([vN]).toArray) ty47 rfl rfl rfl hS rfl (one1 rfl) rfl ?_
 intro w9 hS
 refine reg_nil (run_seq (run_seq (run_region (r_move (s0) rfl rfl ?_))))
 obtain ⟨a5, i7, q0⟩ := bind_some q0
 refine r_callFn Tryz.call177 (args1 rfl) rfl (g_impl_sum_powers_ok i7 c0 hS) ?_
 rintro p6 p7 ⟨d9, i4, rfl, g5, hS, b8⟩
 refine ⟨_, rfl, ?_⟩
 have hsub := hsub.trans g5
 have c0 := c0.mono g5
 have n6 := b8.bound
 refine r_lenRd sl120 rfl b8 rfl (r_move (vI 0) rfl rfl (reg_nil (run_block ?_)))
 have g6 : OwnSl yT 76 i4 (.slice none 0 0) [] [] := OwnSl.nil _ _ _
 obtain ⟨g7, c1, e8⟩ := bind_some q0
 refine loop_ind (id := 0) (fun k f w => ∃ (a1 : Int) (b0 : MpT) (H1 : FH) (a6 : OL) (a3 : Value), g_impl_sum_form_l0 K a0 a5 k a1 b0 = some g7 ∧ Sub H H1 ∧ St H1 w (a6 ++ ([(b6, cA ([a3]) 47)] ++ ([(b1, cA ([vN]) 47)] ++ L))) ∧ 0 ≤ a1 ∧ OwnSl yT 76 H1 a3 b0 a6 ∧ RdMp .i64 H1 s0 a0 ∧ RdSl (tyA8 .i64) H1 d9 a5 ∧ ev f (.tmp 0) = s0 ∧ ev f (.tmp 2) = vP b1 ∧ ev f (.tmp 4) = vP b6 ∧ ev f (.tmp 16) = d9 ∧ ev f (.tmp 17) = vI (a5.length : Int) ∧ ev f (.tmp 18) = vI a1) (fun f w => ∃ (b4 : MpT) (H1 : FH) (b3 : OL) (a7 : Value), g7 = .go b4 ∧ Sub H H1 ∧ St H1 w (b3 ++ ([(b6, cA ([a7]) 47)] ++ ([(b1, cA ([vN]) 47)] ++ L))) ∧ OwnSl yT 76 H1 a7 b4 b3 ∧ ev f (.tmp 2) = vP b1 ∧ ev f (.tmp 4) = vP b6) rfl ?_ ?_ K ?_ ?_
 rintro f w ⟨a1, b0, H1, a6, a3, c1, _⟩
 rw [g_impl_sum_form_l0] at c1; cases c1
 rintro k n7 n8 l4 l5 ⟨a1, b0, g8, a6, a3, c1, hsub, hS, l2, b2, c0, b8, g0, e0, e1, d3, d4, c6⟩
 rw [g_impl_sum_form_l0] at c1
 refine run_seq (run_region ?_)
 refine r_lss (k := .i64) (a := a1) (b := (a5.length : Int)) (by exact c6) (by exact d4) rfl (reg_nil (run_seq ?_))
 by_cases e9 : a1 < (a5.length : Int)
 rw [if_pos e9] at c1
 refine run_cond_true (Eq.trans rfl (congrArg Value.bool (decide_eq_true e9))) (run_skip (run_seq (run_block (run_seq (run_region ?_)))))
 obtain ⟨p8, p9, n9, q1, _, i8, i9, rfl, j0⟩ := b8.elem (i := a1) (by omega) (by omega)
 refine r_indexAt sl120 rfl (by exact d3) i8 (by exact c6) (by omega) (by omega) rfl ?_
 refine r_loadAgg (enc8 .i64 (rd a5 a1)) ty188 rfl (hS.froz _ _ i9) rfl j0 rfl ?_
 refine r_alloc (z := vA (enc8 .i64 (fun _ => 0))) (enc8 .i64 (fun _ => 0)).toArray ze188.zero rfl hS rfl ?_
 intro b5 q2 hS
 refine r_storeAll (v := vA (enc8 .i64 (rd a5 a1))) (vs := (enc8 .i64 (rd a5 a1)).toArray) (cs := (enc8 .i64 (fun _ => 0)).toArray) ty188 rfl rfl rfl hS rfl (enc8_one .i64 (rd a5 a1)) rfl ?_
 intro q3 hS
 refine reg_nil (run_seq (run_region ?_))
 refine r_build0 (vA (enc8 .u8 (fun _ => 0))) bz70 rfl ?_
 refine r_alloc (z := vA (enc8 .u8 (fun _ => 0))) (enc8 .u8 (fun _ => 0)).toArray ze70.zero rfl hS rfl ?_
 intro b7 q4 hS
 refine r_storeAll (v := vA (enc8 .u8 (fun _ => 0))) (vs := (enc8 .u8 (fun _ => 0)).toArray) (cs := (enc8 .u8 (fun _ => 0)).toArray) ty70 rfl rfl rfl hS rfl (enc8_one .u8 (fun _ => 0)) rfl ?_
 intro q5 hS
 refine reg_nil (run_seq (run_seq (run_region ?_)))
 refine r_loadAll ty188 rfl (hS.get (mR mL)) rfl rfl (r_move (vI 0) rfl rfl (reg_nil (run_block ?_)))
 obtain ⟨g9, b9, c8⟩ := bind_some c1
 refine loop_ind (id := 2) (fun k f w => ∃ (a8 : Int) (a9 : A8) (H1 : FH), g_impl_sum_form_l1 K a5 a1 k a8 a9 = some g9 ∧ Sub H H1 ∧ St H1 w ([(b7, cA (enc8 .u8 a9) 70)] ++ ([(b5, cA (enc8 .i64 (rd a5 a1)) 188)] ++ (a6 ++ ([(b6, cA ([a3]) 47)] ++ ([(b1, cA ([vN]) 47)] ++ L))))) ∧ 0 ≤ a8 ∧ RdMp .i64 H1 s0 a0 ∧ RdSl (tyA8 .i64) H1 d9 a5 ∧ OwnSl yT 76 H1 a3 b0 a6 ∧ ev f (.tmp 0) = s0 ∧ ev f (.tmp 2) = vP b1 ∧ ev f (.tmp 4) = vP b6 ∧ ev f (.tmp 6) = vP b5 ∧ ev f (.tmp 7) = vP b7 ∧ ev f (.tmp 16) = d9 ∧ ev f (.tmp 17) = vI (a5.length : Int) ∧ ev f (.tmp 18) = vI a1 ∧ ev f (.tmp 23) = vA (enc8 .i64 (rd a5 a1)) ∧ ev f (.tmp 24) = vI a8) (fun f w => ∃ (a4 : A8) (H1 : FH), g9 = .go a4 ∧ Sub H H1 ∧ St H1 w ([(b7, cA (enc8 .u8 a4) 70)] ++ ([(b5, cA (enc8 .i64 (rd a5 a1)) 188)] ++ (a6 ++ ([(b6, cA ([a3]) 47)] ++ ([(b1, cA ([vN]) 47)] ++ L))))) ∧ RdMp .i64 H1 s0 a0 ∧ RdSl (tyA8 .i64) H1 d9 a5 ∧ OwnSl yT 76 H1 a3 b0 a6 ∧ ev f (.tmp 0) = s0 ∧ ev f (.tmp 2) = vP b1 ∧ ev f (.tmp 4) = vP b6 ∧ ev f (.tmp 6) = vP b5 ∧ ev f (.tmp 7) = vP b7 ∧ ev f (.tmp 16) = d9 ∧ ev f (.tmp 17) = vI (a5.length : Int) ∧ ev f (.tmp 18) = vI a1) rfl ?_ ?_ K ?_ ?_
 rintro f w ⟨a8, a9, H1, b9, _⟩
 rw [g_impl_sum_form_l1] at b9; cases b9
 rintro k o0 j1 l6 l7 ⟨a8, a9, f0, b9, hsub, hS, l3, c0, b8, b2, e2, c4, e3, e4, c9, d5, d6, d7, d8, c2⟩
 rw [g_impl_sum_form_l1] at b9
 refine run_seq (run_region ?_)
 refine r_lss (k := .i64) (a := a8) (b := 8) (by exact c2) rfl rfl (reg_nil (run_seq ?_))
 by_cases f1 : a8 < 8
 rw [if_pos f1] at b9
 refine run_cond_true (Eq.trans rfl (congrArg Value.bool (decide_eq_true f1))) (run_skip (run_seq (run_block (run_seq (run_region (r_move (vI a8) (by exact c2) rfl ?_))))))
 refine r_indexAr (vI (idx8 (rd a5 a1) a8)) ar188 (by exact d8) (by exact c2) (by omega) (by omega) (enc8_get (by omega) (by omega)) rfl (r_assign (vI a8) rfl rfl (r_assign (vI (idx8 (rd a5 a1) a8)) rfl rfl (reg_nil (run_seq (run_seq (run_region (r_move (vI (idx8 (rd a5 a1) a8)) rfl rfl ?_)))))))
 refine r_gtr (k := .i64) (a := (idx8 (rd a5 a1) a8)) (b := 20) rfl rfl rfl (reg_nil ?_)
 by_cases f2 : 20 < (idx8 (rd a5 a1) a8)
 rw [if_pos f2] at b9
 refine run_cond_true (Eq.trans rfl (congrArg Value.bool (decide_eq_true f2))) (run_seq (run_region ?_))
 refine r_build0 (vA ([vN])) bz47 rfl ?_
 have hS : St f0 j1 ([(b1, cA ([vN]) 47)] ++ ([(b7, cA (enc8 .u8 a9) 70)] ++ ([(b5, cA (enc8 .i64 (rd a5 a1)) 188)] ++ (a6 ++ ([(b6, cA ([a3]) 47)] ++ L))))) := hS.perm (perm4 (A1 := [(b7, cA (enc8 .u8 a9) 70)]) (A2 := [(b5, cA (enc8 .i64 (rd a5 a1)) 188)]) (A3 := a6) (A4 := [(b6, cA ([a3]) 47)]))
 refine r_storeAll (v := vA ([vN])) (vs := ([vN]).toArray) (cs := ([vN]).toArray) ty47 (by exact c4) rfl rfl hS rfl (one1 rfl) rfl ?_
 intro l9 hS
 have hS : St f0 l9 ([(b7, cA (enc8 .u8 a9) 70)] ++ ([(b5, cA (enc8 .i64 (rd a5 a1)) 188)] ++ (a6 ++ ([(b6, cA ([a3]) 47)] ++ ([(b1, cA ([vN]) 47)] ++ L))))) := hS.perm (perm4 (A1 := [(b7, cA (enc8 .u8 a9) 70)]) (A2 := [(b5, cA (enc8 .i64 (rd a5 a1)) 188)]) (A3 := a6) (A4 := [(b6, cA ([a3]) 47)])).symm
 refine r_assign (vI 3) rfl rfl (reg_nil ?_)
 refine run_ret (vs := [vA ([vN]), vI 3]) Tryz.func91 ⟨⟨_, (by exact c4), run_loadAll ty47 (hS.get (mR (mR (mR (mR mL))))) rfl⟩, rfl, trivial⟩ ?_
 have hz := Option.some.inj b9
 subst hz
 dsimp only [Ex.elim] at c8
 have hz := Option.some.inj c8
 subst hz
 dsimp only [Ex.elim] at e8
 have hz := Option.some.inj e8
 subst hz
 exact ⟨_, _, rfl, hsub, (St.dropA (A := [(b1, cA ([vN]) 47)]) (St.dropA (A := [(b6, cA ([a3]) 47)]) (St.dropA (A := a6) (St.dropA (A := [(b5, cA (enc8 .i64 (rd a5 a1)) 188)]) (St.dropA (A := [(b7, cA (enc8 .u8 a9) 70)]) hS))))), ⟨_, _, rfl, ⟨_, rfl, ⟨_, rfl, RdSl.nil⟩⟩, rfl⟩⟩
 rw [if_neg f2] at b9
 refine run_cond_false (Eq.trans rfl (congrArg Value.bool (decide_eq_false f2))) (run_skip (run_region (r_move (vI a8) rfl rfl (r_move (vI (idx8 (rd a5 a1) a8)) rfl rfl ?_))))
 refine r_conv (s := .i64) ((IntKind.u8.wrap (idx8 (rd a5 a1) a8))) co3_5 rfl rfl rfl ?_
 refine r_indexArP ar70 (by exact c9) rfl (by omega) (by omega) rfl ?_
 refine r_store (v := Value.int .u8 (IntKind.u8.wrap (idx8 (rd a5 a1) a8))) (cs := (enc8 .u8 a9).toArray) (cs' := (enc8 .u8 (upd8 a9 a8 (IntKind.u8.wrap (idx8 (rd a5 a1) a8)))).toArray) ty5 rfl rfl hS rfl (oneL rfl) (by simp [enc8, encV]; omega) (enc8_set (by omega) (by omega)) ?_
 intro q6 hS
 refine reg_nil (run_inBlock (run_region ?_))
 refine r_add (a8 + 1) (by exact c2) rfl (IntWalk.i64_in _ (by omega)) rfl (r_move (vI (a8 + 1)) rfl rfl (reg_nil ?_))
 exact l6 _ _ ⟨(a8 + 1), (upd8 a9 a8 (IntKind.u8.wrap (idx8 (rd a5 a1) a8))), f0, b9, hsub, hS, (by omega), c0, b8, b2, e2, c4, e3, e4, c9, d5, d6, d7, d8, rfl⟩
 rw [if_neg f1] at b9
 refine run_cond_false (Eq.trans rfl (congrArg Value.bool (decide_eq_false f1))) ?_
 refine run_exit rfl ?_
 have hz := Option.some.inj b9
 subst hz
 exact l7 _ _ ⟨a9, f0, rfl, hsub, hS, c0, b8, b2, e2, c4, e3, e4, c9, d5, d6, d7⟩
 exact ⟨0, (fun _ => 0), g8, b9, hsub, hS, (by omega), c0, b8, b2, g0, e0, e1, rfl, rfl, d3, d4, c6, rfl, rfl⟩
 rintro o1 o2 ⟨a4, o3, rfl, hsub, hS, c0, b8, b2, e5, g1, e6, g2, g3, f4, f5, f6⟩
 dsimp only [Ex.elim] at c8
 have hsubO := hsub
 refine run_draw 8 (tabL [(36, MP.eq (vP b6)), (37, MP.eq (a3)), (38, MP.eq (vA (enc8 .u8 a4))), (39, MP.eq (s0)), (40, MP.eq (vA (enc8 .i64 (rd a5 a1)))), (41, MP.eq (vI (mget a0 (rd a5 a1)))), (42, MP.eq (vA (enc8 .u8 a4 ++ [vI (mget a0 (rd a5 a1))]))), (43, MP.sl yT ([(a4, (mget a0 (rd a5 a1)))]))]) [] mixed rfl rfl rfl hS (hop_q rfl ?_ (hop_q rfl ?_ (hop_q rfl ?_ (hop_q rfl ?_ (hop_q rfl ?_ (hop_q rfl ?_ (hop_q rfl ?_ (hop_q rfl ?_ hop_nil)))))))) ?_
 intro q7 q8 m0 q9 j2 hS j3 o4 hcq
 have hsub := Sub.refl m0
 have hsubA := hsubO.trans j2
 refine r_fieldAddr fld47_0 (evT (j3 4 rfl) e6) rfl ?_
 exact reg_nil ⟨36, _, _, rfl, rfl, hsub, hS, rfl⟩
 intro m1 r0 m2 r1 j4 hS o5 j5 hcq
 have hsub := Sub.refl m2
 have hsubA := hsubO.trans j4
 have m3 : ev m1 (.tmp 36) = vP b6 := j5 0 36 rfl rfl
 refine r_loadOne (a3) ty45 m3 (hS.get (mR (mR (mR (mR mL))))) rfl rfl ?_
 exact reg_nil ⟨37, _, _, rfl, rfl, hsub, hS, rfl⟩
 intro r2 r3 m4 r4 j6 hS j7 o6 hcq
 have hsub := Sub.refl m4
 have hsubA := hsubO.trans j6
 refine r_loadAll ty70 (evT (j7 7 rfl) g3) (hS.get (mR mL)) rfl rfl ?_
 exact reg_nil ⟨38, _, _, rfl, rfl, hsub, hS, rfl⟩
 intro r5 r6 m5 r7 j8 hS j9 o7 hcq
 have hsub := Sub.refl m5
 have hsubA := hsubO.trans j8
 refine r_move (s0) (evT (j9 0 rfl) e5) rfl ?_
 exact reg_nil ⟨39, _, _, rfl, rfl, hsub, hS, rfl⟩
 intro r8 r9 m6 s1 k0 hS k1 o8 hcq
 have hsub := Sub.refl m6
 have hsubA := hsubO.trans k0
 refine r_loadAll ty188 (evT (k1 6 rfl) g2) (hS.get (mR (mR mL))) rfl rfl ?_
 exact reg_nil ⟨40, _, _, rfl, rfl, hsub, hS, rfl⟩
 intro i5 s2 m7 s3 h0 hS o9 h1 hcq
 have hsub := Sub.refl m7
 have hsubA := hsubO.trans h0
 have c0 := c0.mono h0
 have m8 : ev i5 (.tmp 39) = s0 := h1 3 39 rfl rfl
 have m9 : ev i5 (.tmp 40) = vA (enc8 .i64 (rd a5 a1)) := h1 4 40 rfl rfl
 refine r_lookupR (a := (rd a5 a1)) mp109 m8 m9 c0 hS rfl ?_
 exact reg_nil ⟨41, _, _, rfl, rfl, hsub, hS, rfl⟩
 intro i6 s4 n0 s5 k2 hS p0 h2 hcq
 have hsub := Sub.refl n0
 have hsubA := hsubO.trans k2
 have n1 : ev i6 (.tmp 38) = vA (enc8 .u8 a4) := h2 2 38 rfl rfl
 have n2 : ev i6 (.tmp 41) = vI (mget a0 (rd a5 a1)) := h2 5 41 rfl rfl
 refine r_build (enc8 .u8 a4 ++ [vI (mget a0 (rd a5 a1))]) bu76 (parts2 n1 n2) (fill_cons rfl rfl rfl (Nat.le_of_ble_eq_true rfl) (fill_cons rfl rfl rfl (Nat.le_of_ble_eq_true rfl) (fill_nil rfl))) rfl ?_
 exact reg_nil ⟨42, _, _, rfl, rfl, hsub, hS, rfl⟩
 intro n3 s6 n4 s7 k3 hS p1 k4 hcq
 have hsub := Sub.refl n4
 have hsubA := hsubO.trans k3
 have k5 : ev n3 (.tmp 42) = vA (enc8 .u8 a4 ++ [vI (mget a0 (rd a5 a1))]) := k4 6 42 rfl rfl
 refine r_lit (τ := yT) sl45 ze76 rfl [vA (enc8 .u8 a4 ++ [vI (mget a0 (rd a5 a1))])] [(a4, (mget a0 (rd a5 a1)))] rfl rfl (parts1 k5) (rel1 ⟨_, _, rfl, rfl, rfl⟩) (by decide) (by decide) hS rfl ?_
 intro p2 p3 p4 h9 hS i0
 have hsub := hsub.trans h9
 exact reg_nil ⟨43, _, _, rfl, rfl, hsub, hS, i0⟩
 intro h3 h4 c7 d1 hS c5 f8 hcq
 have hS : St c7 h4 ([(b7, cA (enc8 .u8 a4) 70)] ++ ([(b5, cA (enc8 .i64 (rd a5 a1)) 188)] ++ (a6 ++ ([(b6, cA ([a3]) 47)] ++ ([(b1, cA ([vN]) 47)] ++ L))))) := hS
 have hsub := hsub.trans d1
 have c0 := c0.mono d1
 have b8 := b8.mono d1
 have b2 := b2.mono d1
 have h5 := evT (c5 4 rfl) e6
 have k6 : ev h3 (.tmp 37) = a3 := f8 1 37 (by decide) rfl
 obtain ⟨k7, h6⟩ : ∃ v, ev h3 (.tmp 43) = v := ⟨_, rfl⟩
 have i1 : RdSl yT c7 k7 ([(a4, (mget a0 (rd a5 a1)))]) := h6 ▸ (f8 7 43 (by decide) rfl)
 obtain ⟨i2, c8⟩ := gd c8
 have hS : St c7 h4 (a6 ++ ([(b7, cA (enc8 .u8 a4) 70)] ++ ([(b5, cA (enc8 .i64 (rd a5 a1)) 188)] ++ ([(b6, cA ([a3]) 47)] ++ ([(b1, cA ([vN]) 47)] ++ L))))) := hS.perm (perm2 (A1 := [(b7, cA (enc8 .u8 a4) 70)]) (A2 := [(b5, cA (enc8 .i64 (rd a5 a1)) 188)]))
 refine r_append (τ := yT) ap45 rfl (by exact k6) (by exact h6) b2 hS i1 i2 rfl ?_
 intro f3 h7 d0 f9 hS
 have hS : St c7 h7 ([(b7, cA (enc8 .u8 a4) 70)] ++ ([(b5, cA (enc8 .i64 (rd a5 a1)) 188)] ++ (d0 ++ ([(b6, cA ([a3]) 47)] ++ ([(b1, cA ([vN]) 47)] ++ L))))) := hS.perm (perm2 (A1 := [(b7, cA (enc8 .u8 a4) 70)]) (A2 := [(b5, cA (enc8 .i64 (rd a5 a1)) 188)])).symm
 refine r_fieldAddr fld47_0 (by exact h5) rfl ?_
 have hS : St c7 h7 ([(b6, cA ([a3]) 47)] ++ ([(b7, cA (enc8 .u8 a4) 70)] ++ ([(b5, cA (enc8 .i64 (rd a5 a1)) 188)] ++ (d0 ++ ([(b1, cA ([vN]) 47)] ++ L))))) := hS.perm (perm3 (A1 := [(b7, cA (enc8 .u8 a4) 70)]) (A2 := [(b5, cA (enc8 .i64 (rd a5 a1)) 188)]) (A3 := d0))
 refine r_store1 (v := f3) (cs := ([a3]).toArray) (cs' := ([f3]).toArray) ty45 rfl rfl hS f9.isOne rfl (Nat.le_of_ble_eq_true rfl) rfl ?_
 intro k8 hS
 have hS : St c7 k8 ([(b7, cA (enc8 .u8 a4) 70)] ++ ([(b5, cA (enc8 .i64 (rd a5 a1)) 188)] ++ (d0 ++ ([(b6, cA ([f3]) 47)] ++ ([(b1, cA ([vN]) 47)] ++ L))))) := hS.perm (perm3 (A1 := [(b7, cA (enc8 .u8 a4) 70)]) (A2 := [(b5, cA (enc8 .i64 (rd a5 a1)) 188)]) (A3 := d0)).symm
 refine reg_nil (run_inBlock (run_region ?_))
 refine r_add (a1 + 1) (by exact (evT (c5 18 rfl) f6)) rfl (IntWalk.i64_in _ (by omega)) rfl (r_move (vI (a1 + 1)) rfl rfl (reg_nil ?_))
 have hS := St.dropA (A := [(b7, cA (enc8 .u8 a4) 70)]) hS
 have hS := St.dropA (A := [(b5, cA (enc8 .i64 (rd a5 a1)) 188)]) hS
 exact l4 _ _ ⟨(a1 + 1), (b0 ++ [(a4, (mget a0 (rd a5 a1)))]), c7, d0, f3, c8, hsub, hS, (by omega), f9, c0, b8, (evT (c5 0 rfl) e5), (evT (c5 2 rfl) g1), h5, (evT (c5 16 rfl) f4), (evT (c5 17 rfl) f5), rfl⟩
 rw [if_neg e9] at c1
 refine run_cond_false (Eq.trans rfl (congrArg Value.bool (decide_eq_false e9))) ?_
 refine run_exit rfl ?_
 have hz := Option.some.inj c1
 subst hz
 exact l5 _ _ ⟨b0, g8, a6, a3, rfl, hsub, hS, b2, e0, e1⟩
 exact ⟨0, ([] : List (A8 × Int)), i4, ([]), (vN), c1, hsub, hS, (by omega), g6, c0, b8, rfl, rfl, rfl, rfl, rfl, rfl⟩
 rintro p5 k9 ⟨b4, h8, b3, a7, rfl, hsub, hS, c3, e7, g4⟩
 dsimp only [Ex.elim] at e8
 refine run_seq (run_region ?_)
 refine r_loadAll ty47 (by exact g4) (hS.get (mR mL)) rfl rfl ?_
 have hS : St h8 k9 ([(b1, cA ([vN]) 47)] ++ (b3 ++ ([(b6, cA ([a7]) 47)] ++ L))) := hS.perm (perm2 (A1 := b3) (A2 := [(b6, cA ([a7]) 47)]))
 refine r_storeAll (v := vA ([a7])) (vs := ([a7]).toArray) (cs := ([vN]).toArray) ty47 (by exact e7) rfl rfl hS rfl (one1 c3.isOne) rfl ?_
 intro l0 hS
 have hS : St h8 l0 (b3 ++ ([(b6, cA ([a7]) 47)] ++ ([(b1, cA ([a7]) 47)] ++ L))) := hS.perm (perm2 (A1 := b3) (A2 := [(b6, cA ([a7]) 47)])).symm
 refine r_assign (vI 0) rfl rfl (reg_nil ?_)
 refine run_ret (vs := [vA ([a7]), vI 0]) Tryz.func91 ⟨⟨_, (by exact e7), run_loadAll ty47 (hS.get (mR (mR mL))) rfl⟩, rfl, trivial⟩ ?_
 obtain ⟨l1, i3, hS, d2⟩ := OwnSl.freezeF (τ := yT) (H0 := H) c3 hS hsub
 have n5 := RdSl.old d2
 have d2 : RdF yT H l1 a7 b4 := d2
 have hsub := hsub.trans i3
 have hz := Option.some.inj e8
 subst hz
 exact ⟨_, _, rfl, hsub, (St.dropA (A := [(b1, cA ([a7]) 47)]) (St.dropA (A := [(b6, cA ([a7]) 47)]) hS)), ⟨_, _, rfl, ⟨_, rfl, ⟨_, rfl, d2⟩⟩, rfl⟩⟩
def g_impl_sum_times_l1 (K : Nat) (a1 : (List Int)) (a4 : (A8 × Int)) : Nat → MpT → MpT → Option (Ex MpT (MpT))
 | 0, _, _ => none
 | k + 1, [], a3 => some (.go a3)
 | k + 1, b0 :: e1, a3 => ((g_impl_power_times K a4.1 a1 b0.1).bind fun a6 => (if a6.2 = 0 then g_impl_sum_times_l1 K a1 a4 k e1 a3 else ((g_impl_sum_add K a3 a6.1 (((IntKind.i64.wrap ((IntKind.i64.wrap (a6.2 * a4.2)) * b0.2))).tmod 10007)).bind fun g0 => g_impl_sum_times_l1 K a1 a4 k e1 g0)))
theorem g_impl_sum_times_l1_perm {K : Nat} {a1 : (List Int)} {a4 : (A8 × Int)} {a3 : MpT} {k : Nat} {zp zq : MpT} {o : Ex MpT (MpT)} (hp : zp.Perm zq) (q : g_impl_sum_times_l1 K a1 a4 k zp a3 = some o) : g_impl_sum_times_l1 K a1 a4 k zq a3 = some o := by
 exact (perm_loop (K := K) (fun k zs s => g_impl_sum_times_l1 K a1 a4 k zs s) (by intros; rw [g_impl_sum_times_l1])
  (fun z => ⟨fun s => (g_impl_power_times K a4.1 a1 z.1).bind fun r => if r.2 = 0 then some s else g_impl_sum_add K s r.1 (((IntKind.i64.wrap ((IntKind.i64.wrap (r.2 * a4.2)) * z.2))).tmod 10007), .const fun r => .ite .skip (.add _ _), by
   intro k zs s
   rw [g_impl_sum_times_l1]
   cases g_impl_power_times K a4.1 a1 z.1 with
   | none => rfl
   | some r => simp only [Option.bind_some]; split <;> rfl⟩) hp k a3).symm.trans q
def g_impl_sum_times_l0 (K : Nat) (a1 : (List Int)) (a2 : MpT) : Nat → MpT → MpT → Option (Ex MpT (MpT))
 | 0, _, _ => none
 | k + 1, [], a5 => some (.go a5)
 | k + 1, a4 :: e2, a5 => ((g_impl_sum_times_l1 K a1 a4 K a2 a5).bind (Ex.elim (fun r => some (.ret r)) (fun s => (fun (b6 : MpT) => g_impl_sum_times_l0 K a1 a2 k e2 b6) s)))
theorem g_impl_sum_times_l0_perm {K : Nat} {a1 : (List Int)} {a2 : MpT} {a5 : MpT} {k : Nat} {zp zq : MpT} {o : Ex MpT (MpT)} (hp : zp.Perm zq) (q : g_impl_sum_times_l0 K a1 a2 k zp a5 = some o) : g_impl_sum_times_l0 K a1 a2 k zq a5 = some o := by
 have hl : ∀ (z : A8 × Int) (k : Nat) (zs : MpT), AddE K (fun (_ : Unit) s => s) (fun s => g_impl_sum_times_l1 K a1 z k zs s) := by
  intro z k
  induction k with
  | zero => intro zs; exact ⟨none, fun s => (show g_impl_sum_times_l1 K a1 z 0 zs s = none by rw [g_impl_sum_times_l1])⟩
  | succ k ih =>
   intro zs
   cases zs with
   | nil =>
    have e : (fun s => g_impl_sum_times_l1 K a1 z (k + 1) [] s) = fun s => some (.go s) := by funext s; rw [g_impl_sum_times_l1]
    rw [e]; exact .go (h := fun (_ : Unit) s => s) ()
   | cons y zs =>
    have e : (fun s => g_impl_sum_times_l1 K a1 z (k + 1) (y :: zs) s) = fun s => (g_impl_power_times K z.1 a1 y.1).bind fun r => if r.2 = 0 then g_impl_sum_times_l1 K a1 z k zs s else (g_impl_sum_add K s r.1 (((IntKind.i64.wrap ((IntKind.i64.wrap (r.2 * z.2)) * y.2))).tmod 10007)).bind fun t => g_impl_sum_times_l1 K a1 z k zs t := by
     funext s; rw [g_impl_sum_times_l1]
    rw [e]
    exact .const fun r => .ite (ih zs) (.bind (.add _ _) (ih zs))
 exact (perm_loop (K := K) (fun k zs s => g_impl_sum_times_l0 K a1 a2 k zs s) (by intros; rw [g_impl_sum_times_l0])
  (fun z => by
   obtain ⟨F, hF, hs⟩ := (hl z K a2).step (fun s => s) (fun _ _ => rfl)
   refine ⟨F, hF, fun k zs s => ?_⟩
   rw [g_impl_sum_times_l0]
   exact hs _ (g_impl_sum_times_l0 K a1 a2 k zs) s) hp k a5).symm.trans q
def g_impl_sum_times (K : Nat) (a0 : MpT) (a1 : (List Int)) (a2 : MpT) : Option MpT := ((g_impl_sum_times_l0 K a1 a2 K a0 ([] : MpT)).bind (Ex.elim (fun r => some r) (fun s => (fun (c2 : MpT) => some c2) s)))
theorem g_impl_sum_times_ok {K : Nat} {a0 : MpT} {a1 : (List Int)} {a2 : MpT} {r : MpT} (q0 : g_impl_sum_times K a0 a1 a2 = some r) {H : FH} {w : World} {L : OL} {s0 : Value} {s1 : Value} {s2 : Value} (i4 : RdMp .i64 H s0 a0) (b9 : RdSl (tyInt .i64) H s1 a1) (c0 : RdMp .i64 H s2 a2) (hS : St H w L) :
 Calls Tryz.prog 131 #[s0, s1, s2] w (DoneM .i64 r H L) := by
 have hsub := Sub.refl H
 refine calls_of_run Tryz.func131 rfl Tryz.ntmps131 rfl ?_
 unfold g_impl_sum_times at q0
 refine run_seq (run_region (r_assign (Value.map none) rfl rfl (reg_nil (run_seq (run_region ?_)))))
 refine r_makeMap (k := .i64) hS rfl ?_
 intro m1 w2 C3 i5 hS
 refine r_assign (m1) rfl rfl (reg_nil (run_seq (run_seq (run_region (r_move (s0) rfl rfl ?_)))))
 refine r_range mp109 rfl i4 hS rfl ?_
 intro e3 w7 C8 i6 hS
 refine reg_nil (run_block ?_)
 obtain ⟨g1, b7, g2⟩ := bind_some q0
 refine loop_ind (id := 0) (fun k f w => ∃ (c3 : MpT) (a5 : MpT) (H1 : FH) (b2 : OL) (b1 : OL), g_impl_sum_times_l0 K a1 a2 k c3 a5 = some g1 ∧ Sub H H1 ∧ St H1 w (b2 ++ (b1 ++ L)) ∧ ItMp .i64 H1 e3 c3 none b2 ∧ OwnMp .i64 m1 a5 b1 ∧ RdSl (tyInt .i64) H1 s1 a1 ∧ RdMp .i64 H1 s2 a2 ∧ ev f (.tmp 1) = s1 ∧ ev f (.tmp 2) = s2 ∧ ev f (.tmp 7) = m1 ∧ ev f (.tmp 16) = e3) (fun f w => ∃ (c2 : MpT) (H1 : FH) (a9 : OL) (b8 : OL), g1 = .go c2 ∧ Sub H H1 ∧ St H1 w (a9 ++ (b8 ++ L)) ∧ ItMp .i64 H1 e3 ([] : MpT) none a9 ∧ OwnMp .i64 m1 c2 b8 ∧ ev f (.tmp 7) = m1) rfl ?_ ?_ K ?_ ?_
 rintro f w ⟨c3, a5, H1, b2, b1, b7, _⟩
 rw [g_impl_sum_times_l0] at b7; cases b7
 rintro k j5 j6 i7 i8 ⟨c3, a5, g3, b2, b1, b7, hsub, hS, d2, d9, b9, c0, f5, e5, e6, c9⟩
 refine run_seq (run_region ?_)
 refine r_next (by exact c9) d2 hS rfl ?_ ?_
 intro h2; subst h2
 rw [g_impl_sum_times_l0] at b7
 refine r_extract (Value.bool false) rfl rfl rfl (reg_nil (run_seq (run_cond_false rfl ?_)))
 refine run_exit rfl ?_
 have hz := Option.some.inj b7
 subst hz
 exact i8 _ _ ⟨a5, g3, b2, b1, rfl, hsub, hS, d2, d9, e6⟩
 intro a4 e2 k2 d3 h3 b5 hS
 replace b7 := g_impl_sum_times_l0_perm h3 b7
 rw [g_impl_sum_times_l0] at b7
 refine r_extract (Value.bool true) rfl rfl rfl (reg_nil (run_seq (run_cond_true rfl (run_skip (run_block (run_seq (run_region ?_)))))))
 refine r_entry (by exact c9) b5 hS rfl (r_extract (vA (enc8 .i64 a4.1)) rfl rfl rfl (r_extract (vI a4.2) rfl rfl rfl ?_))
 refine r_alloc (z := vA (enc8 .i64 (fun _ => 0))) (enc8 .i64 (fun _ => 0)).toArray ze188.zero rfl hS rfl ?_
 intro e0 k3 hS
 refine r_storeAll (v := vA (enc8 .i64 a4.1)) (vs := (enc8 .i64 a4.1).toArray) (cs := (enc8 .i64 (fun _ => 0)).toArray) ty188 rfl rfl rfl hS rfl (enc8_one .i64 a4.1) rfl ?_
 intro k4 hS
 refine r_assign (vI a4.2) rfl rfl (reg_nil (run_seq (run_region (r_move (s2) (by exact e5) rfl ?_))))
 refine r_range mp109 rfl c0 hS rfl ?_
 intro f3 k5 i9 h4 hS
 refine reg_nil (run_block ?_)
 obtain ⟨g4, a7, g5⟩ := bind_some b7
 refine loop_ind (id := 2) (fun k f w => ∃ (c4 : MpT) (a3 : MpT) (H1 : FH) (b3 : OL) (a8 : OL), g_impl_sum_times_l1 K a1 a4 k c4 a3 = some g4 ∧ Sub H H1 ∧ St H1 w (b3 ++ ([(e0, cA (enc8 .i64 a4.1) 188)] ++ (d3 ++ (a8 ++ L)))) ∧ ItMp .i64 H1 f3 c4 none b3 ∧ OwnMp .i64 m1 a3 a8 ∧ RdSl (tyInt .i64) H1 s1 a1 ∧ RdMp .i64 H1 s2 a2 ∧ ItMp .i64 H1 e3 e2 (some a4) d3 ∧ ev f (.tmp 1) = s1 ∧ ev f (.tmp 2) = s2 ∧ ev f (.tmp 7) = m1 ∧ ev f (.tmp 8) = vP e0 ∧ ev f (.tmp 9) = vI a4.2 ∧ ev f (.tmp 16) = e3 ∧ ev f (.tmp 23) = f3) (fun f w => ∃ (b6 : MpT) (H1 : FH) (c1 : OL) (c5 : OL), g4 = .go b6 ∧ Sub H H1 ∧ St H1 w (c1 ++ ([(e0, cA (enc8 .i64 a4.1) 188)] ++ (d3 ++ (c5 ++ L)))) ∧ ItMp .i64 H1 f3 ([] : MpT) none c1 ∧ OwnMp .i64 m1 b6 c5 ∧ RdSl (tyInt .i64) H1 s1 a1 ∧ RdMp .i64 H1 s2 a2 ∧ ItMp .i64 H1 e3 e2 (some a4) d3 ∧ ev f (.tmp 1) = s1 ∧ ev f (.tmp 2) = s2 ∧ ev f (.tmp 7) = m1 ∧ ev f (.tmp 16) = e3) rfl ?_ ?_ K ?_ ?_
 rintro f w ⟨c4, a3, H1, b3, a8, a7, _⟩
 rw [g_impl_sum_times_l1] at a7; cases a7
 rintro k j7 j8 g8 j0 ⟨c4, a3, h5, b3, a8, a7, hsub, hS, d4, b4, b9, c0, b5, c7, d5, c8, d6, d7, d0, c6⟩
 refine run_seq (run_region ?_)
 refine r_next (by exact c6) d4 hS rfl ?_ ?_
 intro h6; subst h6
 rw [g_impl_sum_times_l1] at a7
 refine r_extract (Value.bool false) rfl rfl rfl (reg_nil (run_seq (run_cond_false rfl ?_)))
 refine run_exit rfl ?_
 have hz := Option.some.inj a7
 subst hz
 exact j0 _ _ ⟨a3, h5, b3, a8, rfl, hsub, hS, d4, b4, b9, c0, b5, c7, d5, c8, d0⟩
 intro b0 e1 k6 e7 h7 d1 hS
 replace a7 := g_impl_sum_times_l1_perm h7 a7
 rw [g_impl_sum_times_l1] at a7
 refine r_extract (Value.bool true) rfl rfl rfl (reg_nil (run_seq (run_cond_true rfl (run_skip (run_block (run_seq (run_region ?_)))))))
 refine r_entry (by exact c6) d1 hS rfl (r_extract (vA (enc8 .i64 b0.1)) rfl rfl rfl (r_extract (vI b0.2) rfl rfl rfl ?_))
 refine r_alloc (z := vA (enc8 .i64 (fun _ => 0))) (enc8 .i64 (fun _ => 0)).toArray ze188.zero rfl hS rfl ?_
 intro e8 k7 hS
 refine r_storeAll (v := vA (enc8 .i64 b0.1)) (vs := (enc8 .i64 b0.1).toArray) (cs := (enc8 .i64 (fun _ => 0)).toArray) ty188 rfl rfl rfl hS rfl (enc8_one .i64 b0.1) rfl ?_
 intro k8 hS
 refine r_assign (vI b0.2) rfl rfl (reg_nil (run_seq (run_region ?_)))
 refine r_loadAll ty188 (by exact d6) (hS.get (mR (mR mL))) rfl rfl (r_move (s1) (by exact c7) rfl ?_)
 refine r_loadAll ty188 rfl (hS.get mL) rfl rfl ?_
 obtain ⟨a6, h8, a7⟩ := bind_some a7
 refine r_callFn Tryz.call224 (args3 rfl rfl rfl) rfl (g_impl_power_times_ok h8 b9 hS) ?_
 rintro k9 l0 ⟨_, g9, rfl, d8, hS, ⟨j3, j4, rfl, ⟨_, rfl, rfl⟩, rfl⟩⟩
 refine ⟨_, rfl, ?_⟩
 have hsub := hsub.trans d8
 have b9 := b9.mono d8
 have c0 := c0.mono d8
 have b4 := b4.mono d8
 have b5 := b5.mono d8
 have d1 := d1.mono d8
 refine r_move (Value.tuple #[vA (enc8 .i64 a6.1), vI a6.2]) rfl rfl (r_extract (vA (enc8 .i64 a6.1)) rfl rfl rfl (r_extract (vI a6.2) rfl rfl rfl ?_))
 refine r_alloc (z := vA (enc8 .i64 (fun _ => 0))) (enc8 .i64 (fun _ => 0)).toArray ze188.zero rfl hS rfl ?_
 intro e9 l1 hS
 refine r_storeAll (v := vA (enc8 .i64 a6.1)) (vs := (enc8 .i64 a6.1).toArray) (cs := (enc8 .i64 (fun _ => 0)).toArray) ty188 rfl rfl rfl hS rfl (enc8_one .i64 a6.1) rfl ?_
 intro j1 hS
 refine r_assign (vI a6.2) rfl rfl (reg_nil (run_seq (run_region (r_move (vI a6.2) rfl rfl ?_))))
 refine r_neq (k := .i64) (a := a6.2) (b := 0) rfl rfl rfl (reg_nil ?_)
 by_cases f0 : a6.2 = 0
 rw [if_pos f0] at a7
 refine run_cond_false (Eq.trans rfl (congrArg (fun b => Value.bool (!b)) (decide_eq_true f0))) (run_skip (run_inBlock ?_))
 have hS := St.dropA (A := [(e9, cA (enc8 .i64 a6.1) 188)]) hS
 have hS := St.dropA (A := [(e8, cA (enc8 .i64 b0.1) 188)]) hS
 exact g8 _ _ ⟨e1, a3, g9, e7, a8, a7, hsub, hS, d1.drop, b4, b9, c0, b5, c7, d5, c8, d6, d7, d0, c6⟩
 rw [if_neg f0] at a7
 refine run_cond_true (Eq.trans rfl (congrArg (fun b => Value.bool (!b)) (decide_eq_false f0))) (run_region (r_move (m1) (by exact c8) rfl ?_))
 refine r_loadAll ty188 rfl (hS.get mL) rfl rfl (r_move (vI a6.2) rfl rfl (r_move (vI a4.2) (by exact d7) rfl ?_))
 refine r_mul (IntKind.i64.wrap (a6.2 * a4.2)) rfl rfl rfl rfl (r_move (vI b0.2) rfl rfl ?_)
 refine r_mul (IntKind.i64.wrap ((IntKind.i64.wrap (a6.2 * a4.2)) * b0.2)) rfl rfl rfl rfl ?_
 refine r_rem (((IntKind.i64.wrap ((IntKind.i64.wrap (a6.2 * a4.2)) * b0.2))).tmod 10007) rfl rfl (by decide) rfl rfl ?_
 obtain ⟨g0, h9, a7⟩ := bind_some a7
 have hS : St g9 j1 (a8 ++ ([(e9, cA (enc8 .i64 a6.1) 188)] ++ ([(e8, cA (enc8 .i64 b0.1) 188)] ++ (e7 ++ ([(e0, cA (enc8 .i64 a4.1) 188)] ++ (d3 ++ L)))))) := hS.perm (perm5 (A1 := [(e9, cA (enc8 .i64 a6.1) 188)]) (A2 := [(e8, cA (enc8 .i64 b0.1) 188)]) (A3 := e7) (A4 := [(e0, cA (enc8 .i64 a4.1) 188)]) (A5 := d3))
 refine r_callFn Tryz.call225 (args3 rfl rfl rfl) rfl (g_impl_sum_add_ok h9 b4 hS) ?_
 rintro l2 j2 ⟨h0, h1, rfl, e4, hS, i0⟩
 refine ⟨_, rfl, ?_⟩
 have hsub := hsub.trans e4
 have b9 := b9.mono e4
 have c0 := c0.mono e4
 have b5 := b5.mono e4
 have d1 := d1.mono e4
 have hS : St h0 j2 ([(e9, cA (enc8 .i64 a6.1) 188)] ++ ([(e8, cA (enc8 .i64 b0.1) 188)] ++ (e7 ++ ([(e0, cA (enc8 .i64 a4.1) 188)] ++ (d3 ++ (h1 ++ L)))))) := hS.perm (perm5 (A1 := [(e9, cA (enc8 .i64 a6.1) 188)]) (A2 := [(e8, cA (enc8 .i64 b0.1) 188)]) (A3 := e7) (A4 := [(e0, cA (enc8 .i64 a4.1) 188)]) (A5 := d3)).symm
 refine reg_nil (run_inBlock ?_)
 have hS := St.dropA (A := [(e9, cA (enc8 .i64 a6.1) 188)]) hS
 have hS := St.dropA (A := [(e8, cA (enc8 .i64 b0.1) 188)]) hS
 exact g8 _ _ ⟨e1, g0, h0, e7, h1, a7, hsub, hS, d1.drop, i0, b9, c0, b5, c7, d5, c8, d6, d7, d0, c6⟩
 exact ⟨a2, a5, g3, i9, b1, a7, hsub, hS, h4, d9, b9, c0, b5, f5, e5, e6, rfl, rfl, c9, rfl⟩
 rintro j9 k0 ⟨b6, i1, c1, c5, rfl, hsub, hS, g6, f1, b9, c0, b5, f6, f7, f8, f4⟩
 dsimp only [Ex.elim] at g5
 refine run_inBlock ?_
 have hS := St.dropA (A := c1) hS
 have hS := St.dropA (A := [(e0, cA (enc8 .i64 a4.1) 188)]) hS
 exact i7 _ _ ⟨e2, b6, i1, d3, c5, g5, hsub, hS, b5.drop, f1, b9, c0, f6, f7, f8, f4⟩
 exact ⟨a0, ([] : MpT), H, C8, C3, b7, hsub, hS, i6, i5, b9, c0, rfl, rfl, rfl, rfl⟩
 rintro k1 i2 ⟨c2, i3, a9, b8, rfl, hsub, hS, g7, f2, f9⟩
 dsimp only [Ex.elim] at g2
 refine run_seq (run_region (r_move (m1) (by exact f9) rfl (r_assign (m1) rfl rfl (reg_nil ?_))))
 refine run_ret (vs := [m1]) Tryz.func131 ⟨rfl, trivial⟩ ?_
 have hS : St i3 i2 (b8 ++ (a9 ++ L)) := hS.perm (perm1 (A1 := a9))
 have hS := St.dropMid (A := b8) (B := a9) hS
 have hz := Option.some.inj g2
 subst hz
 exact ⟨_, _, _, rfl, hsub, hS, f2⟩
def g_spec_l06Named_l1 (K : Nat) (a1 : (List Int)) (a4 : Int) : Nat → Bool → Int → Option (Ex (List MpT) (Bool))
 | 0, _, _ => none
 | k + 1, b4, a5 => (if a5 < (a1.length : Int) then (if b4 = true then g_spec_l06Named_l1 K a1 a4 k true (a5 + 1) else g_spec_l06Named_l1 K a1 a4 k (decide ((rd a1 a5) = a4)) (a5 + 1)) else some (.go b4))
def g_spec_l06Named_l0 (K : Nat) (a0 : Int) (a1 : (List Int)) : Nat → Int → (List MpT) → Int → Option (Ex (List MpT) ((List MpT)))
 | 0, _, _, _ => none
 | k + 1, a4, a6, a9 => (if a4 < a0 then ((g_spec_l06Named_l1 K a1 a4 K false 0).bind (Ex.elim (fun r => some (.ret r)) (fun s => (fun (c1 : Bool) => (if c1 = true then (if a6.length + ([([] : List (A8 × Int))]).length ≤ 1099511627776 then g_spec_l06Named_l0 K a0 a1 k (IntKind.i64.wrap (a4 + 1)) (a6 ++ [([] : List (A8 × Int))]) a9 else none) else ((g_spec_l04Generator K a9).bind fun d6 => (if a6.length + ([d6]).length ≤ 1099511627776 then g_spec_l06Named_l0 K a0 a1 k (IntKind.i64.wrap (a4 + 1)) (a6 ++ [d6]) (IntKind.i64.wrap (a9 + 1)) else none)))) s))) else some (.go a6))
def g_spec_l06Named (K : Nat) (a0 : Int) (a1 : (List Int)) : Option (List MpT) := ((g_spec_l06Named_l0 K a0 a1 K 0 ([] : List MpT) 0).bind (Ex.elim (fun r => some r) (fun s => (fun (b7 : (List MpT)) => some b7) s)))
theorem g_spec_l06Named_ok {K : Nat} {a0 : Int} {a1 : (List Int)} {r : (List MpT)} (q0 : g_spec_l06Named K a0 a1 = some r) {H : FH} {w : World} {L : OL} {s0 : Value} (b0 : RdSl (tyInt .i64) H s0 a1) (hS : St H w L) :
 Calls Tryz.prog 80 #[vI a0, s0] w (DoneS (tySl yT) 47 r H L) := by
 have hsub := Sub.refl H
 refine calls_of_run Tryz.func80 rfl Tryz.ntmps80 rfl ?_
 unfold g_spec_l06Named at q0
 refine run_seq (run_region (r_assign (vN) rfl rfl (reg_nil (run_seq (run_region ?_)))))
 refine r_lit0 (τ := (tySl yT)) sl27 ze47 rfl hS rfl ?_
 intro u1 w2 C3 g8 hS
 refine r_assign (u1) rfl rfl (r_assign (vI 0) rfl rfl (reg_nil (run_seq (run_seq (run_region (r_assign (vI 0) rfl rfl (reg_nil (run_block ?_))))))))
 obtain ⟨e8, b6, e9⟩ := bind_some q0
 refine loop_ind (id := 0) (fun k f w => ∃ (a4 : Int) (a6 : (List MpT)) (a9 : Int) (H1 : FH) (a8 : OL) (a7 : Value), g_spec_l06Named_l0 K a0 a1 k a4 a6 a9 = some e8 ∧ Sub H H1 ∧ St H1 w (a8 ++ L) ∧ OwnSl (tySl yT) 47 H1 a7 a6 a8 ∧ RdSl (tyInt .i64) H1 s0 a1 ∧ ev f (.tmp 0) = vI a0 ∧ ev f (.tmp 1) = s0 ∧ ev f (.tmp 5) = a7 ∧ ev f (.tmp 6) = vI a9 ∧ ev f (.tmp 7) = vI a4) (fun f w => ∃ (b7 : (List MpT)) (H1 : FH) (c2 : OL) (b1 : Value), e8 = .go b7 ∧ Sub H H1 ∧ St H1 w (c2 ++ L) ∧ OwnSl (tySl yT) 47 H1 b1 b7 c2 ∧ ev f (.tmp 5) = b1) rfl ?_ ?_ K ?_ ?_
 rintro f w ⟨a4, a6, a9, H1, a8, a7, b6, _⟩
 rw [g_spec_l06Named_l0] at b6; cases b6
 rintro k h6 h7 f4 g9 ⟨a4, a6, a9, f0, a8, a7, b6, hsub, hS, a3, b0, c7, e4, c8, e5, c9⟩
 rw [g_spec_l06Named_l0] at b6
 refine run_seq (run_seq (run_region (r_move (vI a4) (by exact c9) rfl (r_move (vI a0) (by exact c7) rfl ?_))))
 refine r_lss (k := .i64) (a := a4) (b := a0) rfl rfl rfl (reg_nil ?_)
 by_cases e2 : a4 < a0
 rw [if_pos e2] at b6
 refine run_cond_true (Eq.trans rfl (congrArg Value.bool (decide_eq_true e2))) (run_skip (run_seq (run_block (run_seq (run_region (r_assign (Value.bool false) rfl rfl (reg_nil (run_seq (run_seq (run_region (r_assign (vI 0) rfl rfl (reg_nil (run_block ?_)))))))))))))
 obtain ⟨f1, b2, b5⟩ := bind_some b6
 refine loop_ind (id := 2) (fun k f w => ∃ (b4 : Bool) (a5 : Int) (H1 : FH), g_spec_l06Named_l1 K a1 a4 k b4 a5 = some f1 ∧ Sub H H1 ∧ St H1 w (a8 ++ L) ∧ 0 ≤ a5 ∧ RdSl (tyInt .i64) H1 s0 a1 ∧ OwnSl (tySl yT) 47 H1 a7 a6 a8 ∧ ev f (.tmp 0) = vI a0 ∧ ev f (.tmp 1) = s0 ∧ ev f (.tmp 5) = a7 ∧ ev f (.tmp 6) = vI a9 ∧ ev f (.tmp 7) = vI a4 ∧ ev f (.tmp 8) = Value.bool b4 ∧ ev f (.tmp 9) = vI a5) (fun f w => ∃ (c1 : Bool) (H1 : FH), f1 = .go c1 ∧ Sub H H1 ∧ St H1 w (a8 ++ L) ∧ RdSl (tyInt .i64) H1 s0 a1 ∧ OwnSl (tySl yT) 47 H1 a7 a6 a8 ∧ ev f (.tmp 0) = vI a0 ∧ ev f (.tmp 1) = s0 ∧ ev f (.tmp 5) = a7 ∧ ev f (.tmp 6) = vI a9 ∧ ev f (.tmp 7) = vI a4 ∧ ev f (.tmp 8) = Value.bool c1) rfl ?_ ?_ K ?_ ?_
 rintro f w ⟨b4, a5, H1, b2, _⟩
 rw [g_spec_l06Named_l1] at b2; cases b2
 rintro k h8 h9 f5 h0 ⟨b4, a5, d8, b2, hsub, hS, h1, b0, a3, c3, b8, c4, c5, b9, d0, c0⟩
 rw [g_spec_l06Named_l1] at b2
 refine run_seq (run_seq (run_region (r_move (vI a5) (by exact c0) rfl (r_move (s0) (by exact b8) rfl ?_))))
 have i7 := b0.bound
 refine r_lenRd sl105 rfl b0 rfl ?_
 refine r_lss (k := .i64) (a := a5) (b := (a1.length : Int)) rfl rfl rfl (reg_nil ?_)
 by_cases e3 : a5 < (a1.length : Int)
 rw [if_pos e3] at b2
 refine run_cond_true (Eq.trans rfl (congrArg Value.bool (decide_eq_true e3))) (run_skip (run_seq (run_block (run_region (r_move (Value.bool b4) (by exact d0) rfl (r_move (Value.bool b4) rfl rfl ?_))))))
 by_cases b3 : b4 = true
 rw [if_pos b3] at b2
 refine reg_unguard rfl rfl (Eq.trans rfl (congrArg Value.bool b3)) rfl rfl rfl (reg_unguard rfl rfl (Eq.trans rfl (congrArg Value.bool b3)) rfl rfl rfl (reg_unguard rfl rfl (Eq.trans rfl (congrArg Value.bool b3)) rfl rfl rfl (reg_unguard rfl rfl (Eq.trans rfl (congrArg Value.bool b3)) rfl rfl rfl (reg_unguard rfl rfl (Eq.trans rfl (congrArg Value.bool b3)) rfl rfl rfl (reg_unguard rfl rfl (Eq.trans rfl (congrArg Value.bool b3)) rfl rfl rfl ?_)))))
 refine r_pick (t := true) (Value.bool true) (Eq.trans rfl (congrArg Value.bool b3)) ((if_pos rfl).trans rfl) rfl (r_assign (Value.bool true) rfl rfl (reg_nil (run_inBlock (run_region (r_move (vI a5) (by exact c0) rfl ?_)))))
 refine r_add (a5 + 1) rfl rfl (IntWalk.i64_in _ (by omega)) rfl (r_assign (vI (a5 + 1)) rfl rfl (reg_nil ?_))
 exact f5 _ _ ⟨true, (a5 + 1), d8, b2, hsub, hS, (by omega), b0, a3, c3, b8, c4, c5, b9, rfl, rfl⟩
 rw [if_neg b3] at b2
 refine reg_guard rfl rfl (Eq.trans rfl (congrArg Value.bool (bfalse b3))) (r_move (s0) (by exact b8) rfl ?_)
 refine reg_guard rfl rfl (Eq.trans rfl (congrArg Value.bool (bfalse b3))) (r_move (vI a5) (by exact c0) rfl ?_)
 obtain ⟨i8, i9, i0, j0, _, f8, f9, rfl, g0⟩ := b0.elem (i := a5) (by omega) (by omega)
 refine reg_guard rfl rfl (Eq.trans rfl (congrArg Value.bool (bfalse b3))) ?_
 refine r_indexAt sl105 rfl rfl f8 rfl (by omega) (by omega) rfl ?_
 refine reg_guard rfl rfl (Eq.trans rfl (congrArg Value.bool (bfalse b3))) ?_
 refine r_loadOne (vI (rd a1 a5)) ty3 rfl (hS.froz _ _ f9) (g0 0 (show 0 < 1 by decide)) rfl ?_
 refine reg_guard rfl rfl (Eq.trans rfl (congrArg Value.bool (bfalse b3))) (r_move (vI a4) (by exact b9) rfl ?_)
 refine reg_guard rfl rfl (Eq.trans rfl (congrArg Value.bool (bfalse b3))) ?_
 refine r_eql (k := .i64) (a := (rd a1 a5)) (b := a4) rfl rfl rfl ?_
 refine r_pick (t := false) (Value.bool (decide ((rd a1 a5) = a4))) (Eq.trans rfl (congrArg Value.bool (bfalse b3))) ((if_neg Bool.false_ne_true).trans rfl) rfl (r_assign (Value.bool (decide ((rd a1 a5) = a4))) rfl rfl (reg_nil (run_inBlock (run_region (r_move (vI a5) (by exact c0) rfl ?_)))))
 refine r_add (a5 + 1) rfl rfl (IntWalk.i64_in _ (by omega)) rfl (r_assign (vI (a5 + 1)) rfl rfl (reg_nil ?_))
 exact f5 _ _ ⟨(decide ((rd a1 a5) = a4)), (a5 + 1), d8, b2, hsub, hS, (by omega), b0, a3, c3, b8, c4, c5, b9, rfl, rfl⟩
 rw [if_neg e3] at b2
 refine run_cond_false (Eq.trans rfl (congrArg Value.bool (decide_eq_false e3))) ?_
 refine run_exit rfl ?_
 have hz := Option.some.inj b2
 subst hz
 exact h0 _ _ ⟨b4, d8, rfl, hsub, hS, b0, a3, c3, b8, c4, c5, b9, d0⟩
 exact ⟨false, 0, f0, b2, hsub, hS, (by omega), b0, a3, c7, e4, c8, e5, c9, rfl, rfl⟩
 rintro i1 i2 ⟨c1, i3, rfl, hsub, hS, b0, a3, d1, d2, d3, c6, d4, e6⟩
 dsimp only [Ex.elim] at b5
 refine run_seq (run_seq (run_region (r_move (Value.bool c1) (by exact e6) rfl (reg_nil ?_))))
 by_cases d5 : c1 = true
 rw [if_pos d5] at b5
 refine run_cond_true (Eq.trans rfl (congrArg Value.bool d5)) (run_seq (run_region (r_move (a7) (by exact d3) rfl ?_)))
 refine r_build0 (vA ([vN])) bz47 rfl ?_
 refine r_lit (τ := (tySl yT)) sl27 ze47 rfl [vA ([vN])] [([] : List (A8 × Int))] rfl rfl (parts1 rfl) (rel1 ⟨_, rfl, RdSl.nil⟩) (by decide) (by decide) hS rfl ?_
 intro j1 h2 j2 d9 hS g1
 have hsub := hsub.trans d9
 have b0 := b0.mono d9
 have a3 := a3.mono d9
 obtain ⟨g2, b5⟩ := gd b5
 refine r_append (τ := (tySl yT)) ap27 rfl rfl rfl a3 hS g1 g2 rfl ?_
 intro f6 j3 h3 g3 hS
 refine r_assign (f6) rfl rfl (reg_nil ?_)
 refine run_exit rfl (run_region (r_move (vI a4) (by exact d4) rfl ?_))
 refine r_add (IntKind.i64.wrap (a4 + 1)) rfl rfl rfl rfl (r_assign (vI (IntKind.i64.wrap (a4 + 1))) rfl rfl (reg_nil ?_))
 exact f4 _ _ ⟨(IntKind.i64.wrap (a4 + 1)), (a6 ++ [([] : List (A8 × Int))]), a9, h2, h3, f6, b5, hsub, hS, g3, b0, d1, d2, rfl, c6, rfl⟩
 rw [if_neg d5] at b5
 refine run_cond_false (Eq.trans rfl (congrArg Value.bool (bfalse d5))) (run_skip (run_seq (run_region (r_move (a7) (by exact d3) rfl (r_move (vI a9) (by exact c6) rfl ?_)))))
 obtain ⟨d6, g4, b5⟩ := bind_some b5
 refine r_callFn Tryz.call169 (args1 rfl) rfl (g_spec_l04Generator_ok g4  hS) ?_
 rintro j4 j5 ⟨j6, j7, rfl, e0, hS, ⟨_, rfl, ⟨f3, rfl, f2⟩⟩⟩
 refine ⟨_, rfl, ?_⟩
 have hsub := hsub.trans e0
 have b0 := b0.mono e0
 have a3 := a3.mono e0
 refine r_lit (τ := (tySl yT)) sl27 ze47 rfl [vA ([f3])] [d6] rfl rfl (parts1 rfl) (rel1 ⟨_, rfl, f2⟩) (by decide) (by decide) hS rfl ?_
 intro j8 h4 j9 e1 hS g5
 have hsub := hsub.trans e1
 have b0 := b0.mono e1
 have a3 := a3.mono e1
 obtain ⟨g6, b5⟩ := gd b5
 refine r_append (τ := (tySl yT)) ap27 rfl rfl rfl a3 hS g5 g6 rfl ?_
 intro f7 k0 h5 g7 hS
 refine r_assign (f7) rfl rfl (reg_nil (run_region (r_move (vI a9) (by exact c6) rfl ?_)))
 refine r_add (IntKind.i64.wrap (a9 + 1)) rfl rfl rfl rfl (r_assign (vI (IntKind.i64.wrap (a9 + 1))) rfl rfl (reg_nil (run_inBlock (run_region (r_move (vI a4) (by exact d4) rfl ?_)))))
 refine r_add (IntKind.i64.wrap (a4 + 1)) rfl rfl rfl rfl (r_assign (vI (IntKind.i64.wrap (a4 + 1))) rfl rfl (reg_nil ?_))
 exact f4 _ _ ⟨(IntKind.i64.wrap (a4 + 1)), (a6 ++ [d6]), (IntKind.i64.wrap (a9 + 1)), h4, h5, f7, b5, hsub, hS, g7, b0, d1, d2, rfl, rfl, rfl⟩
 rw [if_neg e2] at b6
 refine run_cond_false (Eq.trans rfl (congrArg Value.bool (decide_eq_false e2))) ?_
 refine run_exit rfl ?_
 have hz := Option.some.inj b6
 subst hz
 exact g9 _ _ ⟨a6, f0, a8, a7, rfl, hsub, hS, a3, c8⟩
 exact ⟨0, ([] : List MpT), 0, H, C3, u1, b6, hsub, hS, g8, b0, rfl, rfl, rfl, rfl, rfl⟩
 rintro i4 i5 ⟨b7, i6, c2, b1, rfl, hsub, hS, d7, e7⟩
 dsimp only [Ex.elim] at e9
 refine run_seq (run_region (r_move (b1) (by exact e7) rfl (r_assign (b1) rfl rfl (reg_nil ?_))))
 refine run_ret (vs := [b1]) Tryz.func80 ⟨rfl, trivial⟩ ?_
 have hz := Option.some.inj e9
 subst hz
 exact ⟨_, _, _, rfl, hsub, hS, d7⟩
def g_spec_l04Power_l0 (K : Nat) (a0 : (List Int)) (a1 : MpT) : Nat → Int → MpT → Option (Ex MpT (MpT))
 | 0, _, _ => none
 | k + 1, a6, a4 => (if 0 < a6 then ((g_spec_l01Times K a0 a4 a1).bind fun c9 => g_spec_l04Power_l0 K a0 a1 k (IntKind.u8.wrap (a6 - 1)) c9) else some (.go a4))
def g_spec_l04Power (K : Nat) (a0 : (List Int)) (a1 : MpT) (a2 : Int) : Option MpT := ((g_spec_l01Single K (fun _ => 0) 1).bind fun r7 => ((g_spec_l04Power_l0 K a0 a1 K a2 r7).bind (Ex.elim (fun r => some r) (fun s => (fun (a7 : MpT) => some a7) s))))
theorem g_spec_l04Power_ok {K : Nat} {a0 : (List Int)} {a1 : MpT} {a2 : Int} {r : MpT} (q0 : g_spec_l04Power K a0 a1 a2 = some r) {H : FH} {w : World} {L : OL} {s0 : Value} {s1 : Value} (b5 : RdSl (tyInt .i64) H s0 a0) (b0 : RdSl yT H s1 a1) (hS : St H w L) :
 Calls Tryz.prog 172 #[s0, vA ([s1]), Value.int .u8 a2] w (Done (fun v G => (R.agg (tySl yT)).p G v r) H L) := by
 have hsub := Sub.refl H
 refine calls_of_run Tryz.func172 rfl Tryz.ntmps172 rfl ?_
 unfold g_spec_l04Power at q0
 refine run_seq (run_region ?_)
 refine r_box (v := vA ([s1])) ([s1]).toArray rfl rfl hS rfl ?_
 intro b1 w2 hS
 refine r_alloc (z := vA ([vN])) ([vN]).toArray ze47.zero rfl hS rfl ?_
 intro b4 w5 hS
 refine reg_nil (run_seq (run_region ?_))
 refine r_build0 (vA (enc8 .u8 (fun _ => 0))) bz70 rfl ?_
 obtain ⟨r7, d7, q0⟩ := bind_some q0
 refine r_callFn Tryz.call170 (args2 rfl rfl) rfl (g_spec_l01Single_ok d7  hS) ?_
 rintro e7 w8 ⟨v7, H7, rfl, d0, hS, ⟨_, rfl, ⟨c5, rfl, c7⟩⟩⟩
 refine ⟨_, rfl, ?_⟩
 have hsub := hsub.trans d0
 have b5 := b5.mono d0
 have b0 := b0.mono d0
 refine r_alloc (z := vA ([vN])) ([vN]).toArray ze47.zero rfl hS rfl ?_
 intro b9 e5 hS
 refine r_storeAll (v := vA ([c5])) (vs := ([c5]).toArray) (cs := ([vN]).toArray) ty47 rfl rfl rfl hS rfl (one1 c7.isOne) rfl ?_
 intro e6 hS
 refine reg_nil (run_seq (run_block ?_))
 obtain ⟨d1, a8, d2⟩ := bind_some q0
 refine loop_ind (id := 0) (fun k f w => ∃ (a6 : Int) (a4 : MpT) (H1 : FH) (a5 : Value), g_spec_l04Power_l0 K a0 a1 k a6 a4 = some d1 ∧ Sub H H1 ∧ St H1 w ([(b9, cA ([a5]) 47)] ++ ([(b4, cA ([vN]) 47)] ++ ([(b1, cA ([s1]) 47)] ++ L))) ∧ RdSl yT H1 a5 a4 ∧ RdSl (tyInt .i64) H1 s0 a0 ∧ RdSl yT H1 s1 a1 ∧ ev f (.tmp 0) = s0 ∧ ev f (.tmp 2) = Value.int .u8 a6 ∧ ev f (.tmp 4) = vP b1 ∧ ev f (.tmp 6) = vP b4 ∧ ev f (.tmp 7) = vP b9) (fun f w => ∃ (a7 : MpT) (H1 : FH) (a3 : Value), d1 = .go a7 ∧ Sub H H1 ∧ St H1 w ([(b9, cA ([a3]) 47)] ++ ([(b4, cA ([vN]) 47)] ++ ([(b1, cA ([s1]) 47)] ++ L))) ∧ RdSl yT H1 a3 a7 ∧ RdSl yT H1 s1 a1 ∧ ev f (.tmp 6) = vP b4 ∧ ev f (.tmp 7) = vP b9) rfl ?_ ?_ K ?_ ?_
 rintro f w ⟨a6, a4, H1, a5, a8, _⟩
 rw [g_spec_l04Power_l0] at a8; cases a8
 rintro k e2 e3 d8 d9 ⟨a6, a4, d4, a5, a8, hsub, hS, b2, b5, b0, b6, b7, b8, c0, a9⟩
 rw [g_spec_l04Power_l0] at a8
 refine run_seq (run_seq (run_region (r_move (Value.int .u8 a6) (by exact b7) rfl ?_)))
 refine r_gtr (k := .u8) (a := a6) (b := 0) rfl rfl rfl (reg_nil ?_)
 by_cases c2 : 0 < a6
 rw [if_pos c2] at a8
 refine run_cond_true (Eq.trans rfl (congrArg Value.bool (decide_eq_true c2))) (run_skip (run_seq (run_block (run_region (r_move (s0) (by exact b6) rfl ?_)))))
 refine r_loadAll ty47 (by exact a9) (hS.get mL) rfl rfl ?_
 refine r_loadAll ty47 (by exact b8) (hS.get (mR (mR mL))) rfl rfl ?_
 obtain ⟨c9, d5, a8⟩ := bind_some a8
 refine r_callFn Tryz.call171 (args3 rfl rfl rfl) rfl (g_spec_l01Times_ok d5 b5 b2 b0 hS) ?_
 rintro e8 e9 ⟨f0, e0, rfl, c6, hS, ⟨_, rfl, ⟨c3, rfl, c4⟩⟩⟩
 refine ⟨_, rfl, ?_⟩
 have hsub := hsub.trans c6
 have b5 := b5.mono c6
 have b0 := b0.mono c6
 refine r_storeAll (v := vA ([c3])) (vs := ([c3]).toArray) (cs := ([a5]).toArray) ty47 (by exact a9) rfl rfl hS rfl (one1 c4.isOne) rfl ?_
 intro f1 hS
 refine reg_nil (run_inBlock (run_region (r_move (Value.int .u8 a6) (by exact b7) rfl ?_)))
 refine r_sub (IntKind.u8.wrap (a6 - 1)) rfl rfl rfl rfl (r_assign (Value.int .u8 (IntKind.u8.wrap (a6 - 1))) rfl rfl (reg_nil ?_))
 exact d8 _ _ ⟨(IntKind.u8.wrap (a6 - 1)), c9, e0, c3, a8, hsub, hS, c4, b5, b0, b6, rfl, b8, c0, a9⟩
 rw [if_neg c2] at a8
 refine run_cond_false (Eq.trans rfl (congrArg Value.bool (decide_eq_false c2))) ?_
 refine run_exit rfl ?_
 have hz := Option.some.inj a8
 subst hz
 exact d9 _ _ ⟨a4, d4, a5, rfl, hsub, hS, b2, b0, c0, a9⟩
 exact ⟨a2, r7, H7, c5, a8, hsub, hS, c7, b5, b0, rfl, rfl, rfl, rfl, rfl⟩
 rintro e4 d6 ⟨a7, d3, a3, rfl, hsub, hS, b3, b0, c1, c8⟩
 dsimp only [Ex.elim] at d2
 refine run_seq (run_region ?_)
 refine r_loadAll ty47 (by exact c8) (hS.get mL) rfl rfl ?_
 have hS : St d3 d6 ([(b4, cA ([vN]) 47)] ++ ([(b9, cA ([a3]) 47)] ++ ([(b1, cA ([s1]) 47)] ++ L))) := hS.perm (perm1 (A1 := [(b9, cA ([a3]) 47)]))
 refine r_storeAll (v := vA ([a3])) (vs := ([a3]).toArray) (cs := ([vN]).toArray) ty47 (by exact c1) rfl rfl hS rfl (one1 b3.isOne) rfl ?_
 intro e1 hS
 have hS : St d3 e1 ([(b9, cA ([a3]) 47)] ++ ([(b4, cA ([a3]) 47)] ++ ([(b1, cA ([s1]) 47)] ++ L))) := hS.perm (perm1 (A1 := [(b9, cA ([a3]) 47)])).symm
 refine reg_nil ?_
 refine run_ret (vs := [vA ([a3])]) Tryz.func172 ⟨⟨_, (by exact c1), run_loadAll ty47 (hS.get (mR mL)) rfl⟩, trivial⟩ ?_
 have hz := Option.some.inj d2
 subst hz
 exact ⟨_, _, rfl, hsub, (St.dropA (A := [(b1, cA ([s1]) 47)]) (St.dropA (A := [(b4, cA ([a3]) 47)]) (St.dropA (A := [(b9, cA ([a3]) 47)]) hS))), ⟨_, rfl, ⟨_, rfl, b3⟩⟩⟩
def g_impl_algebraCode_c1 (K : Nat) (a0 : MpT) (a1 : ((List Int) × (List MpT))) : Option Bool := ((g_impl_isForm K a1.1 a0).bind fun a3 => some (!a3))
theorem g_impl_algebraCode_c1_ok {K : Nat} {a0 : MpT} {a1 : ((List Int) × (List MpT))} {r : Bool} (q0 : g_impl_algebraCode_c1 K a0 a1 = some r) {H : FH} {w : World} {L : OL} {s0 : Value} {s1 : Value} (b0 : RdSl yT H s0 a0) (d0 : PtrF (tyPtr (tyPr (tySl (tyInt .i64)) (tySl (tySl yT)))) H s1 a1) (hS : St H w L) :
 Calls Tryz.prog 174 #[vA ([s0]), s1] w (Done (fun v G => R.bool.p G v r) H L) := by
 obtain ⟨d1, d2, f6, h2, _, rfl, a9, ⟨_, rfl, ⟨a4, a5, f5, f7, _, rfl, a8, ⟨_, _, rfl, ⟨a7, rfl, a6⟩, ⟨c9, rfl, b6⟩⟩, b4⟩⟩, b7⟩ := d0
 have hsub := Sub.refl H
 refine calls_of_run Tryz.func174 rfl Tryz.ntmps174 rfl ?_
 unfold g_impl_algebraCode_c1 at q0
 refine run_seq (run_region ?_)
 refine r_box (v := vA ([s0])) ([s0]).toArray rfl rfl hS rfl ?_
 intro b1 w2 hS
 refine r_assign (Value.bool false) rfl rfl (reg_nil (run_seq ?_))
 obtain ⟨a3, b8, q0⟩ := bind_some q0
 refine run_draw 8 (tabL [(4, MP.eq (Value.pointer (some ⟨a4, a5, none⟩))), (5, MP.eq (Value.pointer (some ⟨a4, a5, none⟩))), (6, MP.eq (Value.pointer (some ⟨a4, a5 + 0, none⟩))), (7, MP.eq (a7)), (8, MP.eq (vA ([s0]))), (9, MP.eq (Value.bool a3)), (10, MP.eq (Value.bool (!a3))), (3, MP.eq (Value.bool (!a3)))]) [] mixed rfl rfl rfl hS (hop_q rfl ?_ (hop_q rfl ?_ (hop_q rfl ?_ (hop_q rfl ?_ (hop_q rfl ?_ (hop_q rfl ?_ (hop_q rfl ?_ (hop_q rfl ?_ hop_nil)))))))) ?_
 intro f4 w5 H6 X7 d3 hS d4 f8 hcq
 have a9 := d3.1 _ _ a9
 have d5 : ev f4 (.tmp 1) = Value.pointer (some ⟨d1, d2, none⟩) := Eq.trans (d4 1 rfl) rfl
 refine r_loadOne (Value.pointer (some ⟨a4, a5, none⟩)) ty102 d5 (hS.froz _ _ a9) (b7 0 (show 0 < 1 by decide)) rfl ?_
 exact qn (.refl _) rfl hS rfl
 intro d6 h3 h4 h5 f9 hS g0 b9 hcq
 have d7 : ev d6 (.tmp 4) = Value.pointer (some ⟨a4, a5, none⟩) := b9 0 4 rfl rfl
 refine r_nilCheck d7 rfl ?_
 exact qn (.refl _) rfl hS rfl
 intro d8 h6 h7 h8 g1 hS g2 c0 hcq
 have d9 : ev d8 (.tmp 5) = Value.pointer (some ⟨a4, a5, none⟩) := c0 1 5 rfl rfl
 refine r_fieldAddr fld29_0 d9 rfl ?_
 exact qn (.refl _) rfl hS rfl
 intro e0 h9 i0 i1 c1 hS g3 c2 hcq
 have a8 := c1.1 _ _ a8
 have e1 : ev e0 (.tmp 6) = Value.pointer (some ⟨a4, a5 + 0, none⟩) := c2 2 6 rfl rfl
 refine r_loadOne (a7) ty22 e1 (hS.froz _ _ a8) (b4 0 (show 0 < 2 by decide)) rfl ?_
 exact qn (.refl _) rfl hS rfl
 intro e2 i2 i3 i4 g4 hS c3 g5 hcq
 have e3 : ev e2 (.tmp 2) = vP b1 := Eq.trans (c3 2 rfl) rfl
 refine r_loadAll ty47 e3 (hS.get (mR mL)) rfl rfl ?_
 exact qn (.refl _) rfl hS rfl
 intro b5 i5 i6 i7 b2 hS g6 b3 hcq
 have a6 := a6.mono b2
 have b0 := b0.mono b2
 have e4 : ev b5 (.tmp 7) = a7 := b3 3 7 rfl rfl
 have e5 : ev b5 (.tmp 8) = vA ([s0]) := b3 4 8 rfl rfl
 refine r_callFn Tryz.call125 (args2 e4 e5) rfl (g_impl_isForm_ok b8 a6 b0 hS) ?_
 rintro i8 i9 ⟨_, j0, rfl, c4, hS, rfl⟩
 refine ⟨_, rfl, ?_⟩
 exact qn c4 rfl hS rfl
 intro e6 j1 j2 j3 g7 hS g8 c5 hcq
 have e7 : ev e6 (.tmp 9) = Value.bool a3 := c5 5 9 rfl rfl
 refine r_not (b := a3) e7 rfl ?_
 exact qn (.refl _) rfl hS rfl
 intro e8 j4 j5 j6 g9 hS h0 c6 hcq
 have e9 : ev e8 (.tmp 10) = Value.bool (!a3) := c6 6 10 rfl rfl
 refine r_assign (Value.bool (!a3)) e9 rfl ?_
 exact qn (.refl _) rfl hS rfl
 intro f0 f1 f2 c7 hS h1 c8 hcq
 have hS : St f2 f1 ([(b1, cA ([s0]) 47)] ++ L) := hS
 have hsub := hsub.trans c7
 have f3 : ev f0 (.tmp 3) = Value.bool (!a3) := c8 7 3 (by decide) rfl
 refine reg_nil ?_
 refine run_ret (vs := [Value.bool (!a3)]) Tryz.func174 ⟨(by exact f3), trivial⟩ ?_
 have hz := Option.some.inj q0
 subst hz
 exact ⟨_, _, rfl, hsub, (St.dropA (A := [(b1, cA ([s0]) 47)]) hS), rfl⟩
def g_laws_eqForm (K : Nat) (a0 : MpT) (a1 : MpT) : Option Bool := ((g_laws_eqTermS K a0 a1).bind fun r7 => (if r7 = true then some true else some false))
theorem g_laws_eqForm_ok {K : Nat} {a0 : MpT} {a1 : MpT} {r : Bool} (q0 : g_laws_eqForm K a0 a1 = some r) {H : FH} {w : World} {L : OL} {s0 : Value} {s1 : Value} (a4 : RdSl yT H s0 a0) (a5 : RdSl yT H s1 a1) (hS : St H w L) :
 Calls Tryz.prog 31 #[vA ([s0]), vA ([s1])] w (Done (fun v G => R.bool.p G v r) H L) := by
 have hsub := Sub.refl H
 refine calls_of_run Tryz.func31 rfl Tryz.ntmps31 rfl ?_
 unfold g_laws_eqForm at q0
 refine run_seq (run_region ?_)
 refine r_box (v := vA ([s0])) ([s0]).toArray rfl rfl hS rfl ?_
 intro b1 w2 hS
 refine r_box (v := vA ([s1])) ([s1]).toArray rfl rfl hS rfl ?_
 intro b4 w5 hS
 refine r_assign (Value.bool false) rfl rfl (reg_nil (run_seq (run_seq (run_region (r_fieldAddr fld47_0 rfl rfl ?_)))))
 refine r_loadOne (s0) ty45 rfl (hS.get (mR mL)) rfl rfl (r_fieldAddr fld47_0 rfl rfl ?_)
 refine r_loadOne (s1) ty45 rfl (hS.get mL) rfl rfl ?_
 obtain ⟨r7, a6, q0⟩ := bind_some q0
 refine r_callFn Tryz.call110 (args2 rfl rfl) rfl (g_laws_eqTermS_ok a6 a4 a5 hS) ?_
 rintro e7 w8 ⟨_, H7, rfl, a7, hS, rfl⟩
 refine ⟨_, rfl, ?_⟩
 have hsub := hsub.trans a7
 refine r_not (b := r7) rfl rfl (reg_nil ?_)
 by_cases a3 : r7 = true
 rw [if_pos a3] at q0
 refine run_cond_false (Eq.trans rfl (congrArg (fun b => Value.bool (!b)) a3)) (run_skip (run_seq (run_region (r_assign (Value.bool true) rfl rfl (reg_nil ?_)))))
 refine run_ret (vs := [Value.bool true]) Tryz.func31 ⟨rfl, trivial⟩ ?_
 have hz := Option.some.inj q0
 subst hz
 exact ⟨_, _, rfl, hsub, (St.dropA (A := [(b1, cA ([s0]) 47)]) (St.dropA (A := [(b4, cA ([s1]) 47)]) hS)), rfl⟩
 rw [if_neg a3] at q0
 refine run_cond_true (Eq.trans rfl (congrArg (fun b => Value.bool (!b)) (bfalse a3))) (run_seq (run_region (r_assign (Value.bool false) rfl rfl (reg_nil ?_))))
 refine run_ret (vs := [Value.bool false]) Tryz.func31 ⟨rfl, trivial⟩ ?_
 have hz := Option.some.inj q0
 subst hz
 exact ⟨_, _, rfl, hsub, (St.dropA (A := [(b1, cA ([s0]) 47)]) (St.dropA (A := [(b4, cA ([s1]) 47)]) hS)), rfl⟩
end Go.Proofs.YtfodlhkoafhplaaGreat
