/- Walks of functions: each computes its pure function, if that gives a value. -/
import Derived.Test.YtfodlhkoafhplaaGreatSTy
import Derived.Test.YtfodlhkoafhplaaGreatSF8
import Derived.Test.YtfodlhkoafhplaaGreatSF2
import Derived.Test.YtfodlhkoafhplaaGreatSF1
import Derived.Test.YtfodlhkoafhplaaGreatSF4
import Derived.Test.YtfodlhkoafhplaaGreatSF7
import Derived.Test.YtfodlhkoafhplaaGreatSF3
namespace Go.Proofs.YtfodlhkoafhplaaGreat
open Go
set_option linter.unusedSimpArgs false
set_option linter.unusedVariables false
set_option maxRecDepth 100000
set_option maxHeartbeats 1000000
def g_impl_isForm_j4 (K : Nat) (k8 : Int → Option (Ex Bool (Unit))) (a1 : MpT) (a3 : Int) (b0 : Bool) : Option (Ex Bool (Unit)) := (if b0 = true then some (.ret false) else (if 0 < a3 then (if 0 ≤ (IntKind.i64.wrap (a3 - 1)) then (if (IntKind.i64.wrap (a3 - 1)) < (a1.length : Int) then ((g_impl_powerOf K ((rd a1 (IntKind.i64.wrap (a3 - 1))).1)).bind fun d2 => ((g_impl_powerOf K ((rd a1 a3).1)).bind fun d3 => ((g_impl_power_compare K d2 d3).bind fun b2 => (if 0 ≤ b2 then some (.ret false) else k8 (a3 + 1))))) else none) else none) else k8 (a3 + 1)))
def g_impl_isForm_l0 (K : Nat) (a0 : (List Int)) (a1 : MpT) : Nat → Int → Option (Ex Bool (Unit))
 | 0, _ => none
 | k + 1, a3 => (if a3 < (a1.length : Int) then ((g_impl_isMonomial K a0 ((rd a1 a3).1)).bind fun c3 => (if c3 = true then ((g_impl_isFactor K ((rd a1 a3).2)).bind fun c4 => g_impl_isForm_j4 K (g_impl_isForm_l0 K a0 a1 k) a1 a3 (!c4)) else g_impl_isForm_j4 K (g_impl_isForm_l0 K a0 a1 k) a1 a3 true)) else some (.go ()))
def g_impl_isForm (K : Nat) (a0 : (List Int)) (a1 : MpT) : Option Bool := (if 400 < (a1.length : Int) then some false else ((g_impl_isForm_l0 K a0 a1 K 0).bind (Ex.elim (fun r => some r) (fun s => some true))))
theorem g_impl_isForm_ok {K : Nat} {a0 : (List Int)} {a1 : MpT} {r : Bool} (q0 : g_impl_isForm K a0 a1 = some r) {H : FH} {w : World} {L : OL} {s0 : Value} {s1 : Value} (a9 : RdSl (tyInt .i64) H s0 a0) (a6 : RdSl yT H s1 a1) (hS : St H w L) :
 Calls Tryz.prog 125 #[s0, vA ([s1])] w (Done (fun v G => R.bool.p G v r) H L) := by
 have hsub := Sub.refl H
 refine calls_of_run Tryz.func125 rfl Tryz.ntmps125 rfl ?_
 unfold g_impl_isForm at q0
 refine run_seq (run_region ?_)
 refine r_box (v := vA ([s1])) ([s1]).toArray rfl rfl hS rfl ?_
 intro b1 w2 hS
 refine r_assign (Value.bool false) rfl rfl (reg_nil (run_seq (run_seq (run_region (r_fieldAddr fld47_0 rfl rfl ?_)))))
 refine r_loadOne (s1) ty45 rfl (hS.get mL) rfl rfl ?_
 have bl4 := a6.bound
 refine r_lenRd sl45 rfl a6 rfl ?_
 refine r_gtr (k := .i64) (a := (a1.length : Int)) (b := 400) rfl rfl rfl (reg_nil ?_)
 by_cases f1 : 400 < (a1.length : Int)
 rw [if_pos f1] at q0
 refine run_cond_true (Eq.trans rfl (congrArg Value.bool (decide_eq_true f1))) (run_seq (run_region (r_assign (Value.bool false) rfl rfl (reg_nil ?_))))
 refine run_ret (vs := [Value.bool false]) Tryz.func125 ⟨rfl, trivial⟩ ?_
 have hz := Option.some.inj q0
 subst hz
 exact ⟨_, _, rfl, hsub, (St.dropA (A := [(b1, cA ([s1]) 47)]) hS), rfl⟩
 rw [if_neg f1] at q0
 refine run_cond_false (Eq.trans rfl (congrArg Value.bool (decide_eq_false f1))) (run_skip (run_seq (run_seq (run_region (r_fieldAddr fld47_0 rfl rfl ?_)))))
 refine r_loadOne (s1) ty45 rfl (hS.get mL) rfl rfl ?_
 have bl6 := a6.bound
 refine r_lenRd sl45 rfl a6 rfl (r_move (vI 0) rfl rfl (reg_nil (run_block ?_)))
 obtain ⟨e5, a7, c0⟩ := bind_some q0
 refine loop_ind (id := 0) (fun k f w => ∃ (a3 : Int) (H1 : FH), g_impl_isForm_l0 K a0 a1 k a3 = some e5 ∧ Sub H H1 ∧ St H1 w ([(b1, cA ([s1]) 47)] ++ L) ∧ 0 ≤ a3 ∧ RdSl (tyInt .i64) H1 s0 a0 ∧ RdSl yT H1 s1 a1 ∧ ev f (.tmp 0) = s0 ∧ ev f (.tmp 3) = vP b1 ∧ ev f (.tmp 12) = s1 ∧ ev f (.tmp 13) = vI (a1.length : Int) ∧ ev f (.tmp 14) = vI a3) (fun f w => ∃ (H1 : FH), e5 = .go () ∧ Sub H H1 ∧ St H1 w ([(b1, cA ([s1]) 47)] ++ L) ∧ RdSl yT H1 s1 a1) rfl ?_ ?_ K ?_ ?_
 rintro f w ⟨a3, H1, a7, _⟩
 rw [g_impl_isForm_l0] at a7; cases a7
 rintro k a02 a03 k9 s6 ⟨a3, l3, a7, hsub, hS, s5, a9, a6, c1, c7, b4, b5, b3⟩
 rw [g_impl_isForm_l0] at a7
 refine run_seq (run_region ?_)
 refine r_lss (k := .i64) (a := a3) (b := (a1.length : Int)) (by exact b3) (by exact b5) rfl (reg_nil (run_seq ?_))
 by_cases f2 : a3 < (a1.length : Int)
 rw [if_pos f2] at a7
 refine run_cond_true (Eq.trans rfl (congrArg Value.bool (decide_eq_true f2))) (run_skip (run_seq (run_block (run_seq (run_region (r_move (vI a3) (by exact b3) rfl ?_))))))
 obtain ⟨b8, o8, cs8, E8, _, s7, s8, ⟨_, _, rfl, rfl, rfl⟩, s9⟩ := a6.elem (i := a3) (by omega) (by omega)
 refine r_indexAt sl45 rfl (by exact b4) s7 (by exact b3) (by omega) (by omega) rfl ?_
 refine r_loadAgg (enc8 .u8 ((rd a1 a3).1) ++ [vI ((rd a1 a3).2)]) ty76 rfl (hS.froz _ _ s8) rfl s9 rfl ?_
 refine r_alloc (z := vA (enc8 .u8 (fun _ => 0) ++ [vI 0])) (enc8 .u8 (fun _ => 0) ++ [vI 0]).toArray ze76.zero rfl hS rfl ?_
 intro b9 w10 hS
 refine r_assign (vI a3) rfl rfl ?_
 refine r_storeAll (v := vA (enc8 .u8 ((rd a1 a3).1) ++ [vI ((rd a1 a3).2)])) (vs := (enc8 .u8 ((rd a1 a3).1) ++ [vI ((rd a1 a3).2)]).toArray) (cs := (enc8 .u8 (fun _ => 0) ++ [vI 0]).toArray) ty76 rfl rfl rfl hS rfl (one_app (enc8_one .u8 ((rd a1 a3).1)) (one1 rfl)) rfl ?_
 intro w12 hS
 refine reg_nil (run_seq (run_seq ?_))
 refine run_cut (fun f w => ∃ (b0 : Bool) (H1 : FH), g_impl_isForm_j4 K (g_impl_isForm_l0 K a0 a1 k) a1 a3 b0 = some e5 ∧ Sub H H1 ∧ St H1 w ([(b9, cA (enc8 .u8 ((rd a1 a3).1) ++ [vI ((rd a1 a3).2)]) 76)] ++ ([(b1, cA ([s1]) 47)] ++ L)) ∧ RdSl (tyInt .i64) H1 s0 a0 ∧ RdSl yT H1 s1 a1 ∧ ev f (.tmp 0) = s0 ∧ ev f (.tmp 3) = vP b1 ∧ ev f (.tmp 5) = vI a3 ∧ ev f (.tmp 6) = vP b9 ∧ ev f (.tmp 12) = s1 ∧ ev f (.tmp 13) = vI (a1.length : Int) ∧ ev f (.tmp 14) = vI a3 ∧ ev f (.tmp 29) = Value.bool b0) ?_ ?_
 rintro fj4 v0 ⟨b0, v1, a5, hsub, hS, a9, a6, e4, c5, c6, g1, c8, c9, d0, d1⟩
 unfold g_impl_isForm_j4 at a5
 by_cases d4 : b0 = true
 rw [if_pos d4] at a5
 refine run_cond_true (Eq.trans (by exact d1) (congrArg Value.bool d4)) (run_seq (run_region (r_assign (Value.bool false) rfl rfl (reg_nil ?_))))
 refine run_ret (vs := [Value.bool false]) Tryz.func125 ⟨rfl, trivial⟩ ?_
 have hz := Option.some.inj a5
 subst hz
 dsimp only [Ex.elim] at c0
 have hz := Option.some.inj c0
 subst hz
 exact ⟨_, _, rfl, hsub, (St.dropA (A := [(b1, cA ([s1]) 47)]) (St.dropA (A := [(b9, cA (enc8 .u8 ((rd a1 a3).1) ++ [vI ((rd a1 a3).2)]) 76)]) hS)), rfl⟩
 rw [if_neg d4] at a5
 refine run_cond_false (Eq.trans (by exact d1) (congrArg Value.bool (bfalse d4))) (run_skip (run_seq ?_))
 by_cases a4 : 0 < a3
 rw [if_pos a4] at a5
 obtain ⟨v2, a5⟩ := gd a5
 obtain ⟨v3, a5⟩ := gd a5
 obtain ⟨d5, d6, v4, a04, _, i0, d7, ⟨_, _, rfl, rfl, rfl⟩, i1⟩ := a6.elem (i := (IntKind.i64.wrap (a3 - 1))) (by omega) (by omega)
 obtain ⟨d2, i2, a5⟩ := bind_some a5
 obtain ⟨d3, i3, a5⟩ := bind_some a5
 obtain ⟨b2, i4, a5⟩ := bind_some a5
 refine run_draw 17 (tabL [(30, MP.eq (vI a3)), (31, MP.eq (Value.bool (decide (0 < a3)))), (32, MP.eq (Value.bool (decide (0 < a3)))), (33, MP.eq (vP b1)), (34, MP.eq (s1)), (35, MP.eq (vI a3)), (36, MP.eq (vI (IntKind.i64.wrap (a3 - 1)))), (37, MP.eq (Value.pointer (some ⟨d5, d6, none⟩))), (38, MP.eq (Value.pointer (some ⟨d5, d6 + 0, none⟩))), (39, MP.eq (vA (enc8 .u8 ((rd a1 (IntKind.i64.wrap (a3 - 1))).1)))), (40, MP.eq (vA (enc8 .i64 d2))), (41, MP.eq (vP b9)), (42, MP.eq (vA (enc8 .u8 ((rd a1 a3).1)))), (43, MP.eq (vA (enc8 .i64 d3))), (44, MP.eq (vI b2)), (45, MP.eq (Value.bool (decide (0 ≤ b2)))), (46, MP.eq (Value.bool (decide (0 ≤ b2))))]) [] mixed rfl rfl rfl hS (hop_q rfl ?_ (hop_q rfl ?_ (hop_q rfl ?_ (hop_q rfl ?_ (hop_q rfl ?_ (hop_q rfl ?_ (hop_q rfl ?_ (hop_q rfl ?_ (hop_q rfl ?_ (hop_q rfl ?_ (hop_q rfl ?_ (hop_q rfl ?_ (hop_q rfl ?_ (hop_q rfl ?_ (hop_q rfl ?_ (hop_q rfl ?_ (hop_q rfl ?_ hop_nil))))))))))))))))) ?_
 intro t0 t1 t4 t5 l4 hS e6 l5 hcq
 have g2 := evT (e6 5 rfl) c6
 refine r_move (vI a3) g2 rfl ?_
 exact qn (.refl _) rfl hS rfl
 intro g3 t6 t7 t8 l6 hS l7 e7 hcq
 have g4 : ev g3 (.tmp 30) = vI a3 := e7 0 30 rfl rfl
 refine r_gtr (k := .i64) (a := a3) (b := 0) g4 rfl rfl ?_
 exact qn (.refl _) rfl hS rfl
 intro g5 t9 u0 u1 l9 hS m0 e8 hcq
 have g6 : ev g5 (.tmp 31) = Value.bool (decide (0 < a3)) := e8 1 31 rfl rfl
 refine r_move (Value.bool (decide (0 < a3))) g6 rfl ?_
 exact qn (.refl _) rfl hS rfl
 intro u2 w52 H53 X54 a05 hS m1 m2 hcq
 have u3 : ev u2 (.tmp 32) = Value.bool (decide (0 < a3)) := m2 2 32 rfl rfl
 refine reg_guard rfl rfl (Eq.trans u3 (congrArg Value.bool (decide_eq_true a4))) (r_fieldAddr fld47_0 (evT (m1 3 rfl) c5) rfl ?_)
 exact qn (.refl _) rfl hS rfl
 intro l0 w62 H63 X64 a06 hS a07 g7 hcq
 have u4 : ev l0 (.tmp 32) = Value.bool (decide (0 < a3)) := g7 2 32 rfl rfl
 have u5 : ev l0 (.tmp 33) = vP b1 := g7 3 33 rfl rfl
 refine reg_guard rfl rfl (Eq.trans u4 (congrArg Value.bool (decide_eq_true a4))) ?_
 refine r_loadOne (s1) ty45 u5 (hS.get (mR (mR mL))) rfl rfl ?_
 exact qn (.refl _) rfl hS rfl
 intro u6 w72 H73 X74 a08 hS m3 m4 hcq
 have u7 : ev u6 (.tmp 32) = Value.bool (decide (0 < a3)) := m4 2 32 rfl rfl
 refine reg_guard rfl rfl (Eq.trans u7 (congrArg Value.bool (decide_eq_true a4))) (r_move (vI a3) (evT (m3 5 rfl) c6) rfl ?_)
 exact qn (.refl _) rfl hS rfl
 intro l1 w82 H83 X84 a09 hS a10 g8 hcq
 have u8 : ev l1 (.tmp 32) = Value.bool (decide (0 < a3)) := g8 2 32 rfl rfl
 have u9 : ev l1 (.tmp 35) = vI a3 := g8 5 35 rfl rfl
 refine reg_guard rfl rfl (Eq.trans u8 (congrArg Value.bool (decide_eq_true a4))) ?_
 refine r_sub (IntKind.i64.wrap (a3 - 1)) u9 rfl rfl rfl ?_
 exact qn (.refl _) rfl hS rfl
 intro e9 a11 a12 a13 v5 hS v6 d8 hcq
 have m5 : ev e9 (.tmp 32) = Value.bool (decide (0 < a3)) := d8 2 32 rfl rfl
 have m6 : ev e9 (.tmp 34) = s1 := d8 4 34 rfl rfl
 have m7 : ev e9 (.tmp 36) = vI (IntKind.i64.wrap (a3 - 1)) := d8 6 36 rfl rfl
 refine reg_guard rfl rfl (Eq.trans m5 (congrArg Value.bool (decide_eq_true a4))) ?_
 refine r_indexAt sl45 rfl m6 i0 m7 (by omega) (by omega) rfl ?_
 exact qn (.refl _) rfl hS rfl
 intro g9 a14 a15 a16 v7 hS v8 f3 hcq
 have m8 : ev g9 (.tmp 32) = Value.bool (decide (0 < a3)) := f3 2 32 rfl rfl
 have m9 : ev g9 (.tmp 37) = Value.pointer (some ⟨d5, d6, none⟩) := f3 7 37 rfl rfl
 refine reg_guard rfl rfl (Eq.trans m8 (congrArg Value.bool (decide_eq_true a4))) (r_fieldAddr fld76_0 m9 rfl ?_)
 exact qn (.refl _) rfl hS rfl
 intro h0 a17 a18 a19 i5 hS v9 f4 hcq
 have d7 := i5.1 _ _ d7
 have n0 : ev h0 (.tmp 32) = Value.bool (decide (0 < a3)) := f4 2 32 rfl rfl
 have n1 : ev h0 (.tmp 38) = Value.pointer (some ⟨d5, d6 + 0, none⟩) := f4 8 38 rfl rfl
 refine reg_guard rfl rfl (Eq.trans n0 (congrArg Value.bool (decide_eq_true a4))) ?_
 refine r_loadAgg (enc8 .u8 ((rd a1 (IntKind.i64.wrap (a3 - 1))).1)) ty70 n1 (hS.froz _ _ d7) rfl (sub_cells ([]) (enc8 .u8 ((rd a1 (IntKind.i64.wrap (a3 - 1))).1)) (([vI ((rd a1 (IntKind.i64.wrap (a3 - 1))).2)])) i1 (Nat.le_of_ble_eq_true rfl)) rfl ?_
 exact qn (.refl _) rfl hS rfl
 intro h1 a20 a21 a22 w0 hS w1 f5 hcq
 have n2 : ev h1 (.tmp 32) = Value.bool (decide (0 < a3)) := f5 2 32 rfl rfl
 have n3 : ev h1 (.tmp 39) = vA (enc8 .u8 ((rd a1 (IntKind.i64.wrap (a3 - 1))).1)) := f5 9 39 rfl rfl
 refine reg_guard rfl rfl (Eq.trans n2 (congrArg Value.bool (decide_eq_true a4))) ?_
 refine r_callFn Tryz.call176 (args1 n3) rfl (g_impl_powerOf_ok i2  hS) ?_
 rintro a23 a24 ⟨a25, a26, rfl, i6, hS, ⟨_, rfl, rfl⟩⟩
 refine ⟨_, rfl, ?_⟩
 exact qn i6 rfl hS rfl
 intro n4 a27 a28 a29 w3 hS i7 i8 hcq
 have n5 : ev n4 (.tmp 32) = Value.bool (decide (0 < a3)) := i8 2 32 rfl rfl
 refine reg_guard rfl rfl (Eq.trans n5 (congrArg Value.bool (decide_eq_true a4))) (r_fieldAddr fld76_0 (evT (i7 6 rfl) g1) rfl ?_)
 exact qn (.refl _) rfl hS rfl
 intro h2 a30 a31 a32 w4 hS w5 f6 hcq
 have n6 : ev h2 (.tmp 32) = Value.bool (decide (0 < a3)) := f6 2 32 rfl rfl
 have n7 : ev h2 (.tmp 41) = vP b9 := f6 11 41 rfl rfl
 refine reg_guard rfl rfl (Eq.trans n6 (congrArg Value.bool (decide_eq_true a4))) ?_
 refine r_loadAgg (enc8 .u8 ((rd a1 a3).1)) ty70 n7 (hS.get (o := cA (enc8 .u8 ((rd a1 a3).1) ++ [vI ((rd a1 a3).2)]) 76) (mR mL)) rfl (fun j hj => sub_box ([]) (enc8 .u8 ((rd a1 a3).1)) (([vI ((rd a1 a3).2)])) j hj) rfl ?_
 exact qn (.refl _) rfl hS rfl
 intro h3 a33 a34 a35 w6 hS w7 f7 hcq
 have n8 : ev h3 (.tmp 32) = Value.bool (decide (0 < a3)) := f7 2 32 rfl rfl
 have n9 : ev h3 (.tmp 42) = vA (enc8 .u8 ((rd a1 a3).1)) := f7 12 42 rfl rfl
 refine reg_guard rfl rfl (Eq.trans n8 (congrArg Value.bool (decide_eq_true a4))) ?_
 refine r_callFn Tryz.call176 (args1 n9) rfl (g_impl_powerOf_ok i3  hS) ?_
 rintro a36 a37 ⟨a38, a39, rfl, i9, hS, ⟨_, rfl, rfl⟩⟩
 refine ⟨_, rfl, ?_⟩
 exact qn i9 rfl hS rfl
 intro f0 a40 a41 a42 w8 hS w9 d9 hcq
 have o0 : ev f0 (.tmp 32) = Value.bool (decide (0 < a3)) := d9 2 32 rfl rfl
 have o1 : ev f0 (.tmp 40) = vA (enc8 .i64 d2) := d9 10 40 rfl rfl
 have o2 : ev f0 (.tmp 43) = vA (enc8 .i64 d3) := d9 13 43 rfl rfl
 refine reg_guard rfl rfl (Eq.trans o0 (congrArg Value.bool (decide_eq_true a4))) ?_
 refine r_callFn Tryz.call221 (args2 o1 o2) rfl (g_impl_power_compare_ok i4  hS) ?_
 rintro a43 a44 ⟨_, a45, rfl, j0, hS, rfl⟩
 refine ⟨_, rfl, ?_⟩
 exact qn j0 rfl hS rfl
 intro h4 a46 a47 a48 x0 hS x1 f8 hcq
 have o3 : ev h4 (.tmp 32) = Value.bool (decide (0 < a3)) := f8 2 32 rfl rfl
 have o4 : ev h4 (.tmp 44) = vI b2 := f8 14 44 rfl rfl
 refine reg_guard rfl rfl (Eq.trans o3 (congrArg Value.bool (decide_eq_true a4))) ?_
 refine r_geq (k := .i64) (a := b2) (b := 0) o4 rfl rfl ?_
 exact qn (.refl _) rfl hS rfl
 intro h5 a49 a50 a51 x2 hS x3 f9 hcq
 have o5 : ev h5 (.tmp 32) = Value.bool (decide (0 < a3)) := f9 2 32 rfl rfl
 have o6 : ev h5 (.tmp 45) = Value.bool (decide (0 ≤ b2)) := f9 15 45 rfl rfl
 refine r_pick (t := true) (Value.bool (decide (0 ≤ b2))) (Eq.trans o5 (congrArg Value.bool (decide_eq_true a4))) ((if_pos rfl).trans o6) rfl ?_
 exact qn (.refl _) rfl hS rfl
 intro o7 o9 h6 e0 hS b6 j1 hcq
 have hS : St h6 o9 ([(b9, cA (enc8 .u8 ((rd a1 a3).1) ++ [vI ((rd a1 a3).2)]) 76)] ++ ([(b1, cA ([s1]) 47)] ++ L)) := hS
 have hsub := hsub.trans e0
 have a9 := a9.mono e0
 have a6 := a6.mono e0
 have h7 : ev o7 (.tmp 46) = Value.bool (decide (0 ≤ b2)) := j1 16 46 (by decide) rfl
 refine reg_nil ?_
 by_cases c2 : 0 ≤ b2
 rw [if_pos c2] at a5
 refine run_cond_true (Eq.trans (by exact h7) (congrArg Value.bool (decide_eq_true c2))) (run_seq (run_region (r_assign (Value.bool false) rfl rfl (reg_nil ?_))))
 refine run_ret (vs := [Value.bool false]) Tryz.func125 ⟨rfl, trivial⟩ ?_
 have hz := Option.some.inj a5
 subst hz
 dsimp only [Ex.elim] at c0
 have hz := Option.some.inj c0
 subst hz
 exact ⟨_, _, rfl, hsub, (St.dropA (A := [(b1, cA ([s1]) 47)]) (St.dropA (A := [(b9, cA (enc8 .u8 ((rd a1 a3).1) ++ [vI ((rd a1 a3).2)]) 76)]) hS)), rfl⟩
 rw [if_neg c2] at a5
 refine run_cond_false (Eq.trans (by exact h7) (congrArg Value.bool (decide_eq_false c2))) (run_skip (run_inBlock (run_region ?_)))
 refine r_add (a3 + 1) (by exact (evT (b6 14 rfl) d0)) rfl (IntWalk.i64_in _ (by omega)) rfl (r_move (vI (a3 + 1)) rfl rfl (reg_nil ?_))
 have hS := St.dropA (A := [(b9, cA (enc8 .u8 ((rd a1 a3).1) ++ [vI ((rd a1 a3).2)]) 76)]) hS
 exact k9 _ _ ⟨(a3 + 1), h6, a5, hsub, hS, (by omega), a9, a6, (evT (b6 0 rfl) e4), (evT (b6 3 rfl) c5), (evT (b6 12 rfl) c8), (evT (b6 13 rfl) c9), rfl⟩
 rw [if_neg a4] at a5
 refine run_draw 17 (tabL [(30, MP.eq (vI a3)), (31, MP.eq (Value.bool (decide (0 < a3)))), (32, MP.eq (Value.bool (decide (0 < a3)))), (33, MP.eq (undef)), (34, MP.eq (undef)), (35, MP.eq (undef)), (36, MP.eq (undef)), (37, MP.eq (undef)), (38, MP.eq (undef)), (39, MP.eq (undef)), (40, MP.eq (undef)), (41, MP.eq (undef)), (42, MP.eq (undef)), (43, MP.eq (undef)), (44, MP.eq (undef)), (45, MP.eq (undef)), (46, MP.eq (Value.bool false))]) [] mixed rfl rfl rfl hS (hop_q rfl ?_ (hop_q rfl ?_ (hop_q rfl ?_ (hop_q rfl ?_ (hop_q rfl ?_ (hop_q rfl ?_ (hop_q rfl ?_ (hop_q rfl ?_ (hop_q rfl ?_ (hop_q rfl ?_ (hop_q rfl ?_ (hop_q rfl ?_ (hop_q rfl ?_ (hop_q rfl ?_ (hop_q rfl ?_ (hop_q rfl ?_ (hop_q rfl ?_ hop_nil))))))))))))))))) ?_
 intro t0 t1 t4 t5 l4 hS e6 l5 hcq
 have g2 := evT (e6 5 rfl) c6
 refine r_move (vI a3) g2 rfl ?_
 exact qn (.refl _) rfl hS rfl
 intro g3 t6 t7 t8 l6 hS l7 e7 hcq
 have g4 : ev g3 (.tmp 30) = vI a3 := e7 0 30 rfl rfl
 refine r_gtr (k := .i64) (a := a3) (b := 0) g4 rfl rfl ?_
 exact qn (.refl _) rfl hS rfl
 intro g5 t9 u0 u1 l9 hS m0 e8 hcq
 have g6 : ev g5 (.tmp 31) = Value.bool (decide (0 < a3)) := e8 1 31 rfl rfl
 refine r_move (Value.bool (decide (0 < a3))) g6 rfl ?_
 exact qn (.refl _) rfl hS rfl
 intro p0 a52 a53 a54 x4 hS x5 j2 hcq
 have p1 : ev p0 (.tmp 32) = Value.bool (decide (0 < a3)) := j2 2 32 rfl rfl
 refine reg_unguard rfl rfl (Eq.trans p1 (congrArg Value.bool (decide_eq_false a4))) rfl rfl rfl ?_
 exact qn (.refl _) rfl hS rfl
 intro p2 a55 a56 a57 x6 hS x7 j3 hcq
 have p3 : ev p2 (.tmp 32) = Value.bool (decide (0 < a3)) := j3 2 32 rfl rfl
 refine reg_unguard rfl rfl (Eq.trans p3 (congrArg Value.bool (decide_eq_false a4))) rfl rfl rfl ?_
 exact qn (.refl _) rfl hS rfl
 intro p4 a58 a59 a60 x8 hS x9 j4 hcq
 have p5 : ev p4 (.tmp 32) = Value.bool (decide (0 < a3)) := j4 2 32 rfl rfl
 refine reg_unguard rfl rfl (Eq.trans p5 (congrArg Value.bool (decide_eq_false a4))) rfl rfl rfl ?_
 exact qn (.refl _) rfl hS rfl
 intro p6 a61 a62 a63 y0 hS y1 j5 hcq
 have p7 : ev p6 (.tmp 32) = Value.bool (decide (0 < a3)) := j5 2 32 rfl rfl
 refine reg_unguard rfl rfl (Eq.trans p7 (congrArg Value.bool (decide_eq_false a4))) rfl rfl rfl ?_
 exact qn (.refl _) rfl hS rfl
 intro p8 a64 a65 a66 y2 hS y3 j6 hcq
 have p9 : ev p8 (.tmp 32) = Value.bool (decide (0 < a3)) := j6 2 32 rfl rfl
 refine reg_unguard rfl rfl (Eq.trans p9 (congrArg Value.bool (decide_eq_false a4))) rfl rfl rfl ?_
 exact qn (.refl _) rfl hS rfl
 intro q1 a67 a68 a69 y4 hS y5 j7 hcq
 have q2 : ev q1 (.tmp 32) = Value.bool (decide (0 < a3)) := j7 2 32 rfl rfl
 refine reg_unguard rfl rfl (Eq.trans q2 (congrArg Value.bool (decide_eq_false a4))) rfl rfl rfl ?_
 exact qn (.refl _) rfl hS rfl
 intro q3 a70 a71 a72 y6 hS y7 j8 hcq
 have q4 : ev q3 (.tmp 32) = Value.bool (decide (0 < a3)) := j8 2 32 rfl rfl
 refine reg_unguard rfl rfl (Eq.trans q4 (congrArg Value.bool (decide_eq_false a4))) rfl rfl rfl ?_
 exact qn (.refl _) rfl hS rfl
 intro q5 a73 a74 a75 y8 hS y9 j9 hcq
 have q6 : ev q5 (.tmp 32) = Value.bool (decide (0 < a3)) := j9 2 32 rfl rfl
 refine reg_unguard rfl rfl (Eq.trans q6 (congrArg Value.bool (decide_eq_false a4))) rfl rfl rfl ?_
 exact qn (.refl _) rfl hS rfl
 intro q7 a76 a77 a78 z0 hS z1 k0 hcq
 have q8 : ev q7 (.tmp 32) = Value.bool (decide (0 < a3)) := k0 2 32 rfl rfl
 refine reg_unguard rfl rfl (Eq.trans q8 (congrArg Value.bool (decide_eq_false a4))) rfl rfl rfl ?_
 exact qn (.refl _) rfl hS rfl
 intro q9 a79 a80 a81 z2 hS z3 k1 hcq
 have r0 : ev q9 (.tmp 32) = Value.bool (decide (0 < a3)) := k1 2 32 rfl rfl
 refine reg_unguard rfl rfl (Eq.trans r0 (congrArg Value.bool (decide_eq_false a4))) rfl rfl rfl ?_
 exact qn (.refl _) rfl hS rfl
 intro r1 a82 a83 a84 z4 hS z5 k2 hcq
 have r2 : ev r1 (.tmp 32) = Value.bool (decide (0 < a3)) := k2 2 32 rfl rfl
 refine reg_unguard rfl rfl (Eq.trans r2 (congrArg Value.bool (decide_eq_false a4))) rfl rfl rfl ?_
 exact qn (.refl _) rfl hS rfl
 intro r3 a85 a86 a87 z6 hS z7 k3 hcq
 have r4 : ev r3 (.tmp 32) = Value.bool (decide (0 < a3)) := k3 2 32 rfl rfl
 refine reg_unguard rfl rfl (Eq.trans r4 (congrArg Value.bool (decide_eq_false a4))) rfl rfl rfl ?_
 exact qn (.refl _) rfl hS rfl
 intro r5 a88 a89 a90 z8 hS z9 k4 hcq
 have r6 : ev r5 (.tmp 32) = Value.bool (decide (0 < a3)) := k4 2 32 rfl rfl
 refine reg_unguard rfl rfl (Eq.trans r6 (congrArg Value.bool (decide_eq_false a4))) rfl rfl rfl ?_
 exact qn (.refl _) rfl hS rfl
 intro h8 a91 a92 a93 a00 hS a01 g0 hcq
 have r7 : ev h8 (.tmp 32) = Value.bool (decide (0 < a3)) := g0 2 32 rfl rfl
 have a94 : ev h8 (.tmp 45) = undef := g0 15 45 rfl rfl
 refine r_pick (t := false) (Value.bool false) (Eq.trans r7 (congrArg Value.bool (decide_eq_false a4))) ((if_neg Bool.false_ne_true).trans rfl) rfl ?_
 exact qn (.refl _) rfl hS rfl
 intro r8 r9 h9 e1 hS b7 k5 hcq
 have hS : St h9 r9 ([(b9, cA (enc8 .u8 ((rd a1 a3).1) ++ [vI ((rd a1 a3).2)]) 76)] ++ ([(b1, cA ([s1]) 47)] ++ L)) := hS
 have hsub := hsub.trans e1
 have a9 := a9.mono e1
 have a6 := a6.mono e1
 have s2 : ev r8 (.tmp 46) = Value.bool false := k5 16 46 (by decide) rfl
 refine reg_nil (run_cond_false (by exact s2) (run_skip (run_inBlock (run_region ?_))))
 refine r_add (a3 + 1) (by exact (evT (b7 14 rfl) d0)) rfl (IntWalk.i64_in _ (by omega)) rfl (r_move (vI (a3 + 1)) rfl rfl (reg_nil ?_))
 have hS := St.dropA (A := [(b9, cA (enc8 .u8 ((rd a1 a3).1) ++ [vI ((rd a1 a3).2)]) 76)]) hS
 exact k9 _ _ ⟨(a3 + 1), h9, a5, hsub, hS, (by omega), a9, a6, (evT (b7 0 rfl) e4), (evT (b7 3 rfl) c5), (evT (b7 12 rfl) c8), (evT (b7 13 rfl) c9), rfl⟩
 intro l2
 refine run_region (r_move (s0) (by exact c1) rfl (r_fieldAddr fld76_0 rfl rfl ?_))
 refine r_loadAgg (enc8 .u8 ((rd a1 a3).1)) ty70 rfl (hS.get (o := cA (enc8 .u8 ((rd a1 a3).1) ++ [vI ((rd a1 a3).2)]) 76) mL) rfl (fun j hj => sub_box ([]) (enc8 .u8 ((rd a1 a3).1)) (([vI ((rd a1 a3).2)])) j hj) rfl ?_
 obtain ⟨c3, k6, a7⟩ := bind_some a7
 refine r_callFn Tryz.call220 (args2 rfl rfl) rfl (g_impl_isMonomial_ok k6 a9 hS) ?_
 rintro a95 a96 ⟨_, s3, rfl, e2, hS, rfl⟩
 refine ⟨_, rfl, ?_⟩
 have hsub := hsub.trans e2
 have a9 := a9.mono e2
 have a6 := a6.mono e2
 refine r_not (b := c3) rfl rfl (r_move (Value.bool (!c3)) rfl rfl ?_)
 by_cases a8 : c3 = true
 rw [if_pos a8] at a7
 refine reg_guard rfl rfl (Eq.trans rfl (congrArg (fun b => Value.bool (!b)) a8)) (r_fieldAddr fld76_1 rfl rfl ?_)
 refine reg_guard rfl rfl (Eq.trans rfl (congrArg (fun b => Value.bool (!b)) a8)) ?_
 refine r_loadOne (vI ((rd a1 a3).2)) ty2 rfl (hS.get mL) rfl rfl ?_
 obtain ⟨c4, k7, a7⟩ := bind_some a7
 refine reg_guard rfl rfl (Eq.trans rfl (congrArg (fun b => Value.bool (!b)) a8)) ?_
 refine r_callFn Tryz.call150 (args1 rfl) rfl (g_impl_isFactor_ok k7  hS) ?_
 rintro a97 a98 ⟨_, s4, rfl, e3, hS, rfl⟩
 refine ⟨_, rfl, ?_⟩
 have hsub := hsub.trans e3
 have a9 := a9.mono e3
 have a6 := a6.mono e3
 refine reg_guard rfl rfl (Eq.trans rfl (congrArg (fun b => Value.bool (!b)) a8)) (r_not (b := c4) rfl rfl ?_)
 refine r_pick (t := false) (Value.bool (!c4)) (Eq.trans rfl (congrArg (fun b => Value.bool (!b)) a8)) ((if_neg Bool.false_ne_true).trans rfl) rfl (reg_nil ?_)
 exact l2 _ _ ⟨(!c4), s4, a7, hsub, hS, a9, a6, c1, c7, rfl, rfl, b4, b5, b3, rfl⟩
 rw [if_neg a8] at a7
 refine reg_unguard rfl rfl (Eq.trans rfl (congrArg (fun b => Value.bool (!b)) (bfalse a8))) rfl rfl rfl (reg_unguard rfl rfl (Eq.trans rfl (congrArg (fun b => Value.bool (!b)) (bfalse a8))) rfl rfl rfl (reg_unguard rfl rfl (Eq.trans rfl (congrArg (fun b => Value.bool (!b)) (bfalse a8))) rfl rfl rfl (reg_unguard rfl rfl (Eq.trans rfl (congrArg (fun b => Value.bool (!b)) (bfalse a8))) rfl rfl rfl ?_)))
 refine r_pick (t := true) (Value.bool true) (Eq.trans rfl (congrArg (fun b => Value.bool (!b)) (bfalse a8))) ((if_pos rfl).trans rfl) rfl (reg_nil ?_)
 exact l2 _ _ ⟨true, s3, a7, hsub, hS, a9, a6, c1, c7, rfl, rfl, b4, b5, b3, rfl⟩
 rw [if_neg f2] at a7
 refine run_cond_false (Eq.trans rfl (congrArg Value.bool (decide_eq_false f2))) ?_
 refine run_exit rfl ?_
 have hz := Option.some.inj a7
 subst hz
 exact s6 _ _ ⟨l3, rfl, hsub, hS, a6⟩
 exact ⟨0, H, a7, hsub, hS, (by omega), a9, a6, rfl, rfl, rfl, rfl, rfl⟩
 rintro a99 aa0 ⟨aa1, rfl, hsub, hS, a6⟩
 dsimp only [Ex.elim] at c0
 refine run_seq (run_region (r_assign (Value.bool true) rfl rfl (reg_nil ?_)))
 refine run_ret (vs := [Value.bool true]) Tryz.func125 ⟨rfl, trivial⟩ ?_
 have hz := Option.some.inj c0
 subst hz
 exact ⟨_, _, rfl, hsub, (St.dropA (A := [(b1, cA ([s1]) 47)]) hS), rfl⟩
def g_laws_eqTermS_l0 (K : Nat) (a0 : MpT) (a1 : MpT) : Nat → Int → Option (Ex Bool (Unit))
 | 0, _ => none
 | k + 1, a3 => (if a3 < (a0.length : Int) then (if a3 < (a1.length : Int) then ((g_laws_eqTerm K ((rd a0 a3).1, (rd a0 a3).2) ((rd a1 a3).1, (rd a1 a3).2)).bind fun a5 => (if a5 = true then g_laws_eqTermS_l0 K a0 a1 k (a3 + 1) else some (.ret false))) else none) else some (.go ()))
def g_laws_eqTermS (K : Nat) (a0 : MpT) (a1 : MpT) : Option Bool := (if (a0.length : Int) = (a1.length : Int) then ((g_laws_eqTermS_l0 K a0 a1 K 0).bind (Ex.elim (fun r => some r) (fun s => some true))) else some false)
theorem g_laws_eqTermS_ok {K : Nat} {a0 : MpT} {a1 : MpT} {r : Bool} (q0 : g_laws_eqTermS K a0 a1 = some r) {H : FH} {w : World} {L : OL} {s0 : Value} {s1 : Value} (a7 : RdSl yT H s0 a0) (a9 : RdSl yT H s1 a1) (hS : St H w L) :
 Calls Tryz.prog 110 #[s0, s1] w (Done (fun v G => R.bool.p G v r) H L) := by
 have hsub := Sub.refl H
 refine calls_of_run Tryz.func110 rfl Tryz.ntmps110 rfl ?_
 unfold g_laws_eqTermS at q0
 refine run_seq (run_region (r_assign (Value.bool false) rfl rfl (reg_nil (run_seq (run_seq (run_region (r_move (s0) rfl rfl ?_)))))))
 have j9 := a7.bound
 refine r_lenRd sl45 rfl a7 rfl (r_move (s1) rfl rfl ?_)
 have k0 := a9.bound
 refine r_lenRd sl45 rfl a9 rfl ?_
 refine r_neq (k := .i64) (a := (a0.length : Int)) (b := (a1.length : Int)) rfl rfl rfl (reg_nil ?_)
 by_cases b7 : (a0.length : Int) = (a1.length : Int)
 rw [if_pos b7] at q0
 refine run_cond_false (Eq.trans rfl (congrArg (fun b => Value.bool (!b)) (decide_eq_true b7))) (run_skip (run_seq (run_seq (run_region (r_assign (vI 0) rfl rfl (reg_nil (run_block ?_)))))))
 obtain ⟨b9, a4, b2⟩ := bind_some q0
 refine loop_ind (id := 0) (fun k f w => ∃ (a3 : Int) (H1 : FH), g_laws_eqTermS_l0 K a0 a1 k a3 = some b9 ∧ Sub H H1 ∧ St H1 w (L) ∧ 0 ≤ a3 ∧ RdSl yT H1 s0 a0 ∧ RdSl yT H1 s1 a1 ∧ ev f (.tmp 0) = s0 ∧ ev f (.tmp 1) = s1 ∧ ev f (.tmp 5) = vI a3) (fun f w => ∃ (H1 : FH), b9 = .go () ∧ Sub H H1 ∧ St H1 w (L)) rfl ?_ ?_ K ?_ ?_
 rintro f w ⟨a3, H1, a4, _⟩
 rw [g_laws_eqTermS_l0] at a4; cases a4
 rintro k g9 h0 f5 f7 ⟨a3, d6, a4, hsub, hS, f8, a7, a9, a8, b1, a6⟩
 rw [g_laws_eqTermS_l0] at a4
 refine run_seq (run_seq (run_region (r_move (vI a3) (by exact a6) rfl (r_move (s0) (by exact a8) rfl ?_))))
 have k1 := a7.bound
 refine r_lenRd sl45 rfl a7 rfl ?_
 refine r_lss (k := .i64) (a := a3) (b := (a0.length : Int)) rfl rfl rfl (reg_nil ?_)
 by_cases b8 : a3 < (a0.length : Int)
 rw [if_pos b8] at a4
 refine run_cond_true (Eq.trans rfl (congrArg Value.bool (decide_eq_true b8))) (run_skip (run_seq (run_block (run_seq ?_))))
 obtain ⟨c9, d0, h1, k2, _, d7, b5, ⟨_, _, rfl, rfl, rfl⟩, d8⟩ := a7.elem (i := a3) (by omega) (by omega)
 obtain ⟨h2, a4⟩ := gd a4
 obtain ⟨d1, d2, h3, k3, _, d9, b6, ⟨_, _, rfl, rfl, rfl⟩, e0⟩ := a9.elem (i := a3) (by omega) (by omega)
 obtain ⟨a5, c5, a4⟩ := bind_some a4
 refine run_draw 10 (tabL [(17, MP.eq (s0)), (18, MP.eq (vI a3)), (19, MP.eq (Value.pointer (some ⟨c9, d0, none⟩))), (20, MP.eq (vA (enc8 .u8 ((rd a0 a3).1) ++ [vI ((rd a0 a3).2)]))), (21, MP.eq (s1)), (22, MP.eq (vI a3)), (23, MP.eq (Value.pointer (some ⟨d1, d2, none⟩))), (24, MP.eq (vA (enc8 .u8 ((rd a1 a3).1) ++ [vI ((rd a1 a3).2)]))), (25, MP.eq (Value.bool a5)), (26, MP.eq (Value.bool (!a5)))]) [] mixed rfl rfl rfl hS (hop_q rfl ?_ (hop_q rfl ?_ (hop_q rfl ?_ (hop_q rfl ?_ (hop_q rfl ?_ (hop_q rfl ?_ (hop_q rfl ?_ (hop_q rfl ?_ (hop_q rfl ?_ (hop_q rfl ?_ hop_nil)))))))))) ?_
 intro f6 w7 H8 X9 h4 hS e1 h5 hcq
 refine r_move (s0) (evT (e1 0 rfl) a8) rfl ?_
 exact qn (.refl _) rfl hS rfl
 intro k4 k5 k6 k7 h6 hS e2 h7 hcq
 refine r_move (vI a3) (evT (e2 5 rfl) a6) rfl ?_
 exact qn (.refl _) rfl hS rfl
 intro d3 k8 k9 l0 h8 hS h9 c0 hcq
 have f9 : ev d3 (.tmp 17) = s0 := c0 0 17 rfl rfl
 have g0 : ev d3 (.tmp 18) = vI a3 := c0 1 18 rfl rfl
 refine r_indexAt sl45 rfl f9 d7 g0 (by omega) (by omega) rfl ?_
 exact qn (.refl _) rfl hS rfl
 intro g1 l1 l2 l3 e3 hS i0 e4 hcq
 have b5 := e3.1 _ _ b5
 have g2 : ev g1 (.tmp 19) = Value.pointer (some ⟨c9, d0, none⟩) := e4 2 19 rfl rfl
 refine r_loadAgg (enc8 .u8 ((rd a0 a3).1) ++ [vI ((rd a0 a3).2)]) ty76 g2 (hS.froz _ _ b5) rfl d8 rfl ?_
 exact qn (.refl _) rfl hS rfl
 intro l4 l5 l6 l7 i1 hS e5 i2 hcq
 refine r_move (s1) (evT (e5 1 rfl) b1) rfl ?_
 exact qn (.refl _) rfl hS rfl
 intro l9 m0 m1 m2 i3 hS e6 i4 hcq
 refine r_move (vI a3) (evT (e6 5 rfl) a6) rfl ?_
 exact qn (.refl _) rfl hS rfl
 intro d4 m3 m4 m5 i5 hS i6 c1 hcq
 have g3 : ev d4 (.tmp 21) = s1 := c1 4 21 rfl rfl
 have g4 : ev d4 (.tmp 22) = vI a3 := c1 5 22 rfl rfl
 refine r_indexAt sl45 rfl g3 d9 g4 (by omega) (by omega) rfl ?_
 exact qn (.refl _) rfl hS rfl
 intro g5 m6 m7 m8 e7 hS i7 e8 hcq
 have b6 := e7.1 _ _ b6
 have g6 : ev g5 (.tmp 23) = Value.pointer (some ⟨d1, d2, none⟩) := e8 6 23 rfl rfl
 refine r_loadAgg (enc8 .u8 ((rd a1 a3).1) ++ [vI ((rd a1 a3).2)]) ty76 g6 (hS.froz _ _ b6) rfl e0 rfl ?_
 exact qn (.refl _) rfl hS rfl
 intro d5 m9 n0 n1 i8 hS i9 c2 hcq
 have e9 : ev d5 (.tmp 20) = vA (enc8 .u8 ((rd a0 a3).1) ++ [vI ((rd a0 a3).2)]) := c2 3 20 rfl rfl
 have f0 : ev d5 (.tmp 24) = vA (enc8 .u8 ((rd a1 a3).1) ++ [vI ((rd a1 a3).2)]) := c2 7 24 rfl rfl
 refine r_callFn Tryz.call201 (args2 e9 f0) rfl (g_laws_eqTerm_ok c5  hS) ?_
 rintro j0 j1 ⟨_, j2, rfl, c6, hS, rfl⟩
 refine ⟨_, rfl, ?_⟩
 exact qn c6 rfl hS rfl
 intro f1 j3 j4 j5 g7 hS g8 c7 hcq
 have f2 : ev f1 (.tmp 25) = Value.bool a5 := c7 8 25 rfl rfl
 refine r_not (b := a5) f2 rfl ?_
 exact qn (.refl _) rfl hS rfl
 intro f3 f4 c3 b3 hS b4 c8 hcq
 have hS : St c3 f4 (L) := hS
 have hsub := hsub.trans b3
 have a7 := a7.mono b3
 have a9 := a9.mono b3
 have c4 : ev f3 (.tmp 26) = Value.bool (!a5) := c8 9 26 (by decide) rfl
 refine reg_nil ?_
 by_cases b0 : a5 = true
 rw [if_pos b0] at a4
 refine run_cond_false (Eq.trans (by exact c4) (congrArg (fun b => Value.bool (!b)) b0)) (run_skip (run_inBlock (run_region (r_move (vI a3) (by exact (evT (b4 5 rfl) a6)) rfl ?_))))
 refine r_add (a3 + 1) rfl rfl (IntWalk.i64_in _ (by omega)) rfl (r_assign (vI (a3 + 1)) rfl rfl (reg_nil ?_))
 exact f5 _ _ ⟨(a3 + 1), c3, a4, hsub, hS, (by omega), a7, a9, (evT (b4 0 rfl) a8), (evT (b4 1 rfl) b1), rfl⟩
 rw [if_neg b0] at a4
 refine run_cond_true (Eq.trans (by exact c4) (congrArg (fun b => Value.bool (!b)) (bfalse b0))) (run_seq (run_region (r_assign (Value.bool false) rfl rfl (reg_nil ?_))))
 refine run_ret (vs := [Value.bool false]) Tryz.func110 ⟨rfl, trivial⟩ ?_
 have hz := Option.some.inj a4
 subst hz
 dsimp only [Ex.elim] at b2
 have hz := Option.some.inj b2
 subst hz
 exact ⟨_, _, rfl, hsub, hS, rfl⟩
 rw [if_neg b8] at a4
 refine run_cond_false (Eq.trans rfl (congrArg Value.bool (decide_eq_false b8))) ?_
 refine run_exit rfl ?_
 have hz := Option.some.inj a4
 subst hz
 exact f7 _ _ ⟨d6, rfl, hsub, hS⟩
 exact ⟨0, H, a4, hsub, hS, (by omega), a7, a9, rfl, rfl, rfl⟩
 rintro j6 j7 ⟨j8, rfl, hsub, hS⟩
 dsimp only [Ex.elim] at b2
 refine run_seq (run_region (r_assign (Value.bool true) rfl rfl (reg_nil ?_)))
 refine run_ret (vs := [Value.bool true]) Tryz.func110 ⟨rfl, trivial⟩ ?_
 have hz := Option.some.inj b2
 subst hz
 exact ⟨_, _, rfl, hsub, hS, rfl⟩
 rw [if_neg b7] at q0
 refine run_cond_true (Eq.trans rfl (congrArg (fun b => Value.bool (!b)) (decide_eq_false b7))) (run_seq (run_region (r_assign (Value.bool false) rfl rfl (reg_nil ?_))))
 refine run_ret (vs := [Value.bool false]) Tryz.func110 ⟨rfl, trivial⟩ ?_
 have hz := Option.some.inj q0
 subst hz
 exact ⟨_, _, rfl, hsub, hS, rfl⟩
def g_impl_Algebra_images_l0 (K : Nat) (a0 : ((List Int) × (List MpT))) : Nat → Int → M8 → Option (Ex M8 (M8))
 | 0, _, _ => none
 | k + 1, a1, a6 => (if a1 < (a0.2.length : Int) then ((g_impl_sumOf K (rd a0.2 a1)).bind fun c9 => (if a1 < 8 then g_impl_Algebra_images_l0 K a0 k (a1 + 1) (updM a6 a1 c9) else none)) else some (.go a6))
def g_impl_Algebra_images (K : Nat) (a0 : ((List Int) × (List MpT))) : Option M8 := ((g_impl_Algebra_images_l0 K a0 K 0 (fun _ => ([] : MpT))).bind (Ex.elim (fun r => some r) (fun s => (fun (b0 : M8) => some b0) s)))
theorem g_impl_Algebra_images_ok {K : Nat} {a0 : ((List Int) × (List MpT))} {r : M8} (q0 : g_impl_Algebra_images K a0 = some r) {H : FH} {w : World} {L : OL} {s0 : Value} (e8 : PtrF (tyPr (tySl (tyInt .i64)) (tySl (tySl yT))) H s0 a0) (hS : St H w L) :
 Calls Tryz.prog 146 #[s0] w (Done (fun v G => (R.agg (tyV .i64)).p G v r) H L) := by
 obtain ⟨e9, f0, f7, g4, _, rfl, d6, ⟨_, _, rfl, ⟨f1, rfl, e6⟩, ⟨b5, rfl, a5⟩⟩, d7⟩ := e8
 have hsub := Sub.refl H
 refine calls_of_run Tryz.func146 rfl Tryz.ntmps146 rfl ?_
 unfold g_impl_Algebra_images at q0
 refine run_seq (run_region ?_)
 have b3 : RdV .i64 H nilV (fun _ => ([] : MpT)) := RdV.nil
 refine r_alloc (z := vA (encV nilV)) (encV nilV).toArray ze182.zero rfl hS rfl ?_
 intro b2 w3 hS
 refine reg_nil (run_seq (run_region ?_))
 have d5 : RdV .i64 H nilV (fun _ => ([] : MpT)) := RdV.nil
 refine r_build0 (vA (encV nilV)) bz182 rfl ?_
 have g5 : RdV .i64 H nilV (fun _ => ([] : MpT)) := RdV.nil
 refine r_alloc (z := vA (encV nilV)) (encV nilV).toArray ze182.zero rfl hS rfl ?_
 intro b7 w8 hS
 refine r_storeAll (v := vA (encV nilV)) (vs := (encV nilV).toArray) (cs := (encV nilV).toArray) ty182 rfl rfl rfl hS rfl (encV_one d5) rfl ?_
 intro g6 hS
 refine reg_nil (run_seq (run_seq (run_region (r_move (Value.pointer (some ⟨e9, f0, none⟩)) rfl rfl (r_nilCheck rfl rfl (r_fieldAddr fld29_1 rfl rfl ?_))))))
 refine r_loadOne (b5) ty27 rfl (hS.froz _ _ d6) (d7 1 (show 1 < 2 by decide)) rfl ?_
 have f8 := a5.bound
 refine r_lenRd sl27 rfl a5 rfl (r_move (vI 0) rfl rfl (reg_nil (run_block ?_)))
 obtain ⟨d0, a7, d1⟩ := bind_some q0
 refine loop_ind (id := 0) (fun k f w => ∃ (a1 : Int) (a6 : M8) (H1 : FH) (a4 : V8), g_impl_Algebra_images_l0 K a0 k a1 a6 = some d0 ∧ Sub H H1 ∧ St H1 w ([(b7, cA (encV a4) 182)] ++ ([(b2, cA (encV nilV) 182)] ++ L)) ∧ 0 ≤ a1 ∧ RdV .i64 H1 a4 a6 ∧ RdV .i64 H1 nilV (fun _ => ([] : MpT)) ∧ RdSl (tySl yT) H1 b5 a0.2 ∧ ev f (.tmp 2) = vP b2 ∧ ev f (.tmp 3) = vP b7 ∧ ev f (.tmp 10) = b5 ∧ ev f (.tmp 11) = vI (a0.2.length : Int) ∧ ev f (.tmp 12) = vI a1) (fun f w => ∃ (b0 : M8) (H1 : FH) (a3 : V8), d0 = .go b0 ∧ Sub H H1 ∧ St H1 w ([(b7, cA (encV a3) 182)] ++ ([(b2, cA (encV nilV) 182)] ++ L)) ∧ RdV .i64 H1 a3 b0 ∧ RdV .i64 H1 nilV (fun _ => ([] : MpT)) ∧ ev f (.tmp 2) = vP b2 ∧ ev f (.tmp 3) = vP b7) rfl ?_ ?_ K ?_ ?_
 rintro f w ⟨a1, a6, H1, a4, a7, _⟩
 rw [g_impl_Algebra_images_l0] at a7; cases a7
 rintro k f9 g0 f2 f3 ⟨a1, a6, d8, a4, a7, hsub, hS, e7, a8, b3, a5, c0, b4, b6, b8, b1⟩
 rw [g_impl_Algebra_images_l0] at a7
 refine run_seq (run_region ?_)
 refine r_lss (k := .i64) (a := a1) (b := (a0.2.length : Int)) (by exact b1) (by exact b8) rfl (reg_nil (run_seq ?_))
 by_cases c2 : a1 < (a0.2.length : Int)
 rw [if_pos c2] at a7
 refine run_cond_true (Eq.trans rfl (congrArg Value.bool (decide_eq_true c2))) (run_skip (run_seq (run_block (run_seq (run_region (r_move (vI a1) (by exact b1) rfl ?_))))))
 obtain ⟨g7, g8, g1, g9, _, d9, e0, ⟨a9, rfl, c5⟩, e1⟩ := a5.elem (i := a1) (by omega) (by omega)
 refine r_indexAt sl27 rfl (by exact b6) d9 (by exact b1) (by omega) (by omega) rfl ?_
 refine r_loadAgg ([a9]) ty47 rfl (hS.froz _ _ e0) rfl e1 rfl ?_
 refine r_alloc (z := vA ([vN])) ([vN]).toArray ze47.zero rfl hS rfl ?_
 intro c6 h0 hS
 refine r_assign (vI a1) rfl rfl ?_
 refine r_storeAll (v := vA ([a9])) (vs := ([a9]).toArray) (cs := ([vN]).toArray) ty47 rfl rfl rfl hS rfl (one1 c5.isOne) rfl ?_
 intro h1 hS
 refine reg_nil (run_region (r_move (vI a1) rfl rfl ?_))
 refine r_loadAll ty47 rfl (hS.get mL) rfl rfl ?_
 obtain ⟨c9, e2, a7⟩ := bind_some a7
 refine r_callFn Tryz.call90 (args1 rfl) rfl (g_impl_sumOf_ok e2 c5 hS) ?_
 rintro h2 f4 ⟨c7, h3, h4, rfl, c3, hS, e3⟩
 refine ⟨_, rfl, ?_⟩
 have hsub := hsub.trans c3
 have a5 := a5.mono c3
 have b3 := b3.mono c3
 have a8 := a8.mono c3
 obtain ⟨g2, a7⟩ := gd a7
 refine r_indexArP ar182 (by exact b4) rfl (by omega) (by omega) rfl ?_
 obtain ⟨d2, c4, hS, d3⟩ := e3.freeze hS
 have hsub := hsub.trans c4
 have a5 := a5.mono c4
 have b3 := b3.mono c4
 have a8 := a8.mono c4
 have hS : St d2 f4 ([(b7, cA (encV a4) 182)] ++ ([(c6, cA ([a9]) 47)] ++ ([(b2, cA (encV nilV) 182)] ++ L))) := hS.perm (perm1 (A1 := [(c6, cA ([a9]) 47)]))
 have e4 := RdV.upd a8 (a1) d3
 refine r_store1 (v := c7) (cs := (encV a4).toArray) (cs' := (encV (updV a4 a1 c7)).toArray) ty109 rfl rfl hS d3.isOne rfl (by simp [enc8, encV]; omega) (encV_set (by omega) (by omega)) ?_
 intro f5 hS
 have hS : St d2 f5 ([(c6, cA ([a9]) 47)] ++ ([(b7, cA (encV (updV a4 a1 c7)) 182)] ++ ([(b2, cA (encV nilV) 182)] ++ L))) := hS.perm (perm1 (A1 := [(c6, cA ([a9]) 47)])).symm
 refine reg_nil (run_inBlock (run_region ?_))
 refine r_add (a1 + 1) (by exact b1) rfl (IntWalk.i64_in _ (by omega)) rfl (r_move (vI (a1 + 1)) rfl rfl (reg_nil ?_))
 have hS := St.dropA (A := [(c6, cA ([a9]) 47)]) hS
 exact f2 _ _ ⟨(a1 + 1), (updM a6 a1 c9), d2, (updV a4 a1 c7), a7, hsub, hS, (by omega), e4, b3, a5, c0, b4, b6, b8, rfl⟩
 rw [if_neg c2] at a7
 refine run_cond_false (Eq.trans rfl (congrArg Value.bool (decide_eq_false c2))) ?_
 refine run_exit rfl ?_
 have hz := Option.some.inj a7
 subst hz
 exact f3 _ _ ⟨a6, d8, a4, rfl, hsub, hS, a8, b3, c0, b4⟩
 exact ⟨0, (fun _ => ([] : MpT)), H, nilV, a7, hsub, hS, (by omega), d5, b3, a5, rfl, rfl, rfl, rfl, rfl⟩
 rintro g3 e5 ⟨b0, d4, a3, rfl, hsub, hS, b9, b3, c1, c8⟩
 dsimp only [Ex.elim] at d1
 refine run_seq (run_region ?_)
 refine r_loadAll ty182 (by exact c8) (hS.get mL) rfl rfl ?_
 have hS : St d4 e5 ([(b2, cA (encV nilV) 182)] ++ ([(b7, cA (encV a3) 182)] ++ L)) := hS.perm (perm1 (A1 := [(b7, cA (encV a3) 182)]))
 refine r_storeAll (v := vA (encV a3)) (vs := (encV a3).toArray) (cs := (encV nilV).toArray) ty182 (by exact c1) rfl rfl hS rfl (encV_one b9) rfl ?_
 intro f6 hS
 have hS : St d4 f6 ([(b7, cA (encV a3) 182)] ++ ([(b2, cA (encV a3) 182)] ++ L)) := hS.perm (perm1 (A1 := [(b7, cA (encV a3) 182)])).symm
 refine reg_nil ?_
 refine run_ret (vs := [vA (encV a3)]) Tryz.func146 ⟨⟨_, (by exact c1), run_loadAll ty182 (hS.get (mR mL)) rfl⟩, trivial⟩ ?_
 have hz := Option.some.inj d1
 subst hz
 exact ⟨_, _, rfl, hsub, (St.dropA (A := [(b2, cA (encV a3) 182)]) (St.dropA (A := [(b7, cA (encV a3) 182)]) hS)), ⟨_, rfl, ⟨_, rfl, b9⟩⟩⟩
def g_impl_isOfDegree (K : Nat) (a0 : (List Int)) (a1 : MpT) (a2 : Int) : Option Bool := ((g_impl_degreeOf K a0 a1).bind fun r4 => (if r4.2 = true then (if r4.1 = (-1) then some true else some (decide (r4.1 = a2))) else some false))
theorem g_impl_isOfDegree_ok {K : Nat} {a0 : (List Int)} {a1 : MpT} {a2 : Int} {r : Bool} (q0 : g_impl_isOfDegree K a0 a1 a2 = some r) {H : FH} {w : World} {L : OL} {s0 : Value} {s1 : Value} (a5 : RdSl (tyInt .i64) H s0 a0) (a6 : RdSl yT H s1 a1) (hS : St H w L) :
 Calls Tryz.prog 126 #[s0, vA ([s1]), vI a2] w (Done (fun v G => R.bool.p G v r) H L) := by
 have hsub := Sub.refl H
 refine calls_of_run Tryz.func126 rfl Tryz.ntmps126 rfl ?_
 unfold g_impl_isOfDegree at q0
 refine run_seq (run_region ?_)
 refine r_box (v := vA ([s1])) ([s1]).toArray rfl rfl hS rfl ?_
 intro b1 w2 hS
 refine r_assign (Value.bool false) rfl rfl (reg_nil (run_seq (run_region (r_move (s0) rfl rfl ?_))))
 refine r_loadAll ty47 rfl (hS.get mL) rfl rfl ?_
 obtain ⟨r4, a7, q0⟩ := bind_some q0
 refine r_callFn Tryz.call130 (args2 rfl rfl) rfl (g_impl_degreeOf_ok a7 a5 a6 hS) ?_
 rintro e4 w5 ⟨_, H4, rfl, a8, hS, ⟨a9, b0, rfl, rfl, rfl⟩⟩
 refine ⟨_, rfl, ?_⟩
 have hsub := hsub.trans a8
 refine r_move (Value.tuple #[vI r4.1, Value.bool r4.2]) rfl rfl (r_extract (vI r4.1) rfl rfl rfl (r_extract (Value.bool r4.2) rfl rfl rfl (r_assign (vI r4.1) rfl rfl (r_assign (Value.bool r4.2) rfl rfl (reg_nil (run_seq (run_region (r_move (Value.bool r4.2) rfl rfl (r_move (Value.bool r4.2) rfl rfl ?_)))))))))
 by_cases a3 : r4.2 = true
 rw [if_pos a3] at q0
 refine reg_guard rfl rfl (Eq.trans rfl (congrArg Value.bool a3)) (r_move (vI r4.1) rfl rfl ?_)
 refine reg_guard rfl rfl (Eq.trans rfl (congrArg Value.bool a3)) ?_
 refine r_eql (k := .i64) (a := r4.1) (b := (-1)) rfl rfl rfl ?_
 refine reg_guard rfl rfl (Eq.trans rfl (congrArg Value.bool a3)) (r_move (Value.bool (decide (r4.1 = (-1)))) rfl rfl ?_)
 by_cases a4 : r4.1 = (-1)
 rw [if_pos a4] at q0
 refine reg_unguard rfl rfl (Eq.trans rfl (congrArg Value.bool (decide_eq_true a4))) rfl rfl rfl (reg_unguard rfl rfl (Eq.trans rfl (congrArg Value.bool (decide_eq_true a4))) rfl rfl rfl (reg_unguard rfl rfl (Eq.trans rfl (congrArg Value.bool (decide_eq_true a4))) rfl rfl rfl ?_))
 refine reg_guard rfl rfl (Eq.trans rfl (congrArg Value.bool a3)) ?_
 refine r_pick (t := true) (Value.bool true) (Eq.trans rfl (congrArg Value.bool (decide_eq_true a4))) ((if_pos rfl).trans rfl) rfl ?_
 refine r_pick (t := true) (Value.bool true) (Eq.trans rfl (congrArg Value.bool a3)) ((if_pos rfl).trans rfl) rfl (r_assign (Value.bool true) rfl rfl (reg_nil ?_))
 refine run_ret (vs := [Value.bool true]) Tryz.func126 ⟨rfl, trivial⟩ ?_
 have hz := Option.some.inj q0
 subst hz
 exact ⟨_, _, rfl, hsub, (St.dropA (A := [(b1, cA ([s1]) 47)]) hS), rfl⟩
 rw [if_neg a4] at q0
 refine reg_guard rfl rfl (Eq.trans rfl (congrArg Value.bool (decide_eq_false a4))) (r_move (vI r4.1) rfl rfl ?_)
 refine reg_guard rfl rfl (Eq.trans rfl (congrArg Value.bool (decide_eq_false a4))) (r_move (vI a2) rfl rfl ?_)
 refine reg_guard rfl rfl (Eq.trans rfl (congrArg Value.bool (decide_eq_false a4))) ?_
 refine r_eql (k := .i64) (a := r4.1) (b := a2) rfl rfl rfl ?_
 refine reg_guard rfl rfl (Eq.trans rfl (congrArg Value.bool a3)) ?_
 refine r_pick (t := false) (Value.bool (decide (r4.1 = a2))) (Eq.trans rfl (congrArg Value.bool (decide_eq_false a4))) ((if_neg Bool.false_ne_true).trans rfl) rfl ?_
 refine r_pick (t := true) (Value.bool (decide (r4.1 = a2))) (Eq.trans rfl (congrArg Value.bool a3)) ((if_pos rfl).trans rfl) rfl (r_assign (Value.bool (decide (r4.1 = a2))) rfl rfl (reg_nil ?_))
 refine run_ret (vs := [Value.bool (decide (r4.1 = a2))]) Tryz.func126 ⟨rfl, trivial⟩ ?_
 have hz := Option.some.inj q0
 subst hz
 exact ⟨_, _, rfl, hsub, (St.dropA (A := [(b1, cA ([s1]) 47)]) hS), rfl⟩
 rw [if_neg a3] at q0
 refine reg_unguard rfl rfl (Eq.trans rfl (congrArg Value.bool (bfalse a3))) rfl rfl rfl (reg_unguard rfl rfl (Eq.trans rfl (congrArg Value.bool (bfalse a3))) rfl rfl rfl (reg_unguard rfl rfl (Eq.trans rfl (congrArg Value.bool (bfalse a3))) rfl rfl rfl ?_))
 refine reg_undef rfl rfl rfl rfl rfl ?_
 refine reg_undef rfl rfl rfl rfl rfl ?_
 refine reg_undef rfl rfl rfl rfl rfl (reg_unguard rfl rfl (Eq.trans rfl (congrArg Value.bool (bfalse a3))) rfl rfl rfl ?_)
 refine r_pick (t := false) (Value.bool false) (Eq.trans rfl (congrArg Value.bool (bfalse a3))) ((if_neg Bool.false_ne_true).trans rfl) rfl (r_assign (Value.bool false) rfl rfl (reg_nil ?_))
 refine run_ret (vs := [Value.bool false]) Tryz.func126 ⟨rfl, trivial⟩ ?_
 have hz := Option.some.inj q0
 subst hz
 exact ⟨_, _, rfl, hsub, (St.dropA (A := [(b1, cA ([s1]) 47)]) hS), rfl⟩
def g_laws_heldAlgebra (K : Nat) (a0 : ((List Int) × (List MpT))) (a1 : Int) : Option Int := ((g_laws_heldInt64S K a0.1 a1).bind fun r4 => (if r4 < 0 then some (-1) else ((g_laws_heldFormS K a0.2 r4).bind fun r7 => (if r7 < 0 then some (-1) else some r7))))
theorem g_laws_heldAlgebra_ok {K : Nat} {a0 : ((List Int) × (List MpT))} {a1 : Int} {r : Int} (q0 : g_laws_heldAlgebra K a0 a1 = some r) {H : FH} {w : World} {L : OL} {s0 : Value} {s1 : Value} (a7 : RdSl (tyInt .i64) H s0 a0.1) (a5 : RdSl (tySl yT) H s1 a0.2) (hS : St H w L) :
 Calls Tryz.prog 21 #[vA ([s0] ++ [s1]), vI a1] w (Done (fun v G => (R.int .i64).p G v r) H L) := by
 have hsub := Sub.refl H
 refine calls_of_run Tryz.func21 rfl Tryz.ntmps21 rfl ?_
 unfold g_laws_heldAlgebra at q0
 refine run_seq (run_region ?_)
 refine r_box (v := vA ([s0] ++ [s1])) ([s0] ++ [s1]).toArray rfl rfl hS rfl ?_
 intro b1 w2 hS
 refine r_assign (vI 0) rfl rfl (reg_nil (run_seq (run_region (r_fieldAddr fld29_0 rfl rfl ?_))))
 refine r_loadOne (s0) ty22 rfl (hS.get mL) rfl rfl (r_move (vI a1) rfl rfl ?_)
 obtain ⟨r4, a8, q0⟩ := bind_some q0
 refine r_callFn Tryz.call26 (args2 rfl rfl) rfl (g_laws_heldInt64S_ok a8 a7 hS) ?_
 rintro e4 w5 ⟨_, H4, rfl, a6, hS, rfl⟩
 refine ⟨_, rfl, ?_⟩
 have hsub := hsub.trans a6
 have a5 := a5.mono a6
 refine r_assign (vI r4) rfl rfl (reg_nil (run_seq (run_seq (run_region (r_move (vI r4) rfl rfl ?_)))))
 refine r_lss (k := .i64) (a := r4) (b := 0) rfl rfl rfl (reg_nil ?_)
 by_cases a3 : r4 < 0
 rw [if_pos a3] at q0
 refine run_cond_true (Eq.trans rfl (congrArg Value.bool (decide_eq_true a3))) (run_seq (run_region (r_assign (vI (-1)) rfl rfl (reg_nil ?_))))
 refine run_ret (vs := [vI (-1)]) Tryz.func21 ⟨rfl, trivial⟩ ?_
 have hz := Option.some.inj q0
 subst hz
 exact ⟨_, _, rfl, hsub, (St.dropA (A := [(b1, cA ([s0] ++ [s1]) 29)]) hS), rfl⟩
 rw [if_neg a3] at q0
 refine run_cond_false (Eq.trans rfl (congrArg Value.bool (decide_eq_false a3))) (run_skip (run_seq (run_region (r_fieldAddr fld29_1 rfl rfl ?_))))
 refine r_loadOne (s1) ty27 rfl (hS.get mL) rfl rfl (r_move (vI r4) rfl rfl ?_)
 obtain ⟨r7, a9, q0⟩ := bind_some q0
 refine r_callFn Tryz.call72 (args2 rfl rfl) rfl (g_laws_heldFormS_ok a9 a5 hS) ?_
 rintro e7 w8 ⟨_, H7, rfl, b0, hS, rfl⟩
 refine ⟨_, rfl, ?_⟩
 have hsub := hsub.trans b0
 refine r_assign (vI r7) rfl rfl (reg_nil (run_seq (run_seq (run_region (r_move (vI r7) rfl rfl ?_)))))
 refine r_lss (k := .i64) (a := r7) (b := 0) rfl rfl rfl (reg_nil ?_)
 by_cases a4 : r7 < 0
 rw [if_pos a4] at q0
 refine run_cond_true (Eq.trans rfl (congrArg Value.bool (decide_eq_true a4))) (run_seq (run_region (r_assign (vI (-1)) rfl rfl (reg_nil ?_))))
 refine run_ret (vs := [vI (-1)]) Tryz.func21 ⟨rfl, trivial⟩ ?_
 have hz := Option.some.inj q0
 subst hz
 exact ⟨_, _, rfl, hsub, (St.dropA (A := [(b1, cA ([s0] ++ [s1]) 29)]) hS), rfl⟩
 rw [if_neg a4] at q0
 refine run_cond_false (Eq.trans rfl (congrArg Value.bool (decide_eq_false a4))) (run_skip (run_seq (run_region (r_move (vI r7) rfl rfl (r_assign (vI r7) rfl rfl (reg_nil ?_))))))
 refine run_ret (vs := [vI r7]) Tryz.func21 ⟨rfl, trivial⟩ ?_
 have hz := Option.some.inj q0
 subst hz
 exact ⟨_, _, rfl, hsub, (St.dropA (A := [(b1, cA ([s0] ++ [s1]) 29)]) hS), rfl⟩
def g_spec_l04Generator (K : Nat) (a0 : Int) : Option MpT := (if 0 ≤ a0 then (if a0 < 8 then ((g_spec_l01Single K (upd8 (fun _ => 0) a0 1) 1).bind fun a4 => some a4) else none) else none)
theorem g_spec_l04Generator_ok {K : Nat} {a0 : Int} {r : MpT} (q0 : g_spec_l04Generator K a0 = some r) {H : FH} {w : World} {L : OL} (hS : St H w L) :
 Calls Tryz.prog 169 #[vI a0] w (Done (fun v G => (R.agg (tySl yT)).p G v r) H L) := by
 have hsub := Sub.refl H
 refine calls_of_run Tryz.func169 rfl Tryz.ntmps169 rfl ?_
 unfold g_spec_l04Generator at q0
 refine run_seq (run_region ?_)
 refine r_alloc (z := vA ([vN])) ([vN]).toArray ze47.zero rfl hS rfl ?_
 intro b1 w2 hS
 refine reg_nil (run_seq (run_region ?_))
 refine r_build0 (vA (enc8 .u8 (fun _ => 0))) bz70 rfl ?_
 refine r_alloc (z := vA (enc8 .u8 (fun _ => 0))) (enc8 .u8 (fun _ => 0)).toArray ze70.zero rfl hS rfl ?_
 intro b4 w5 hS
 refine r_storeAll (v := vA (enc8 .u8 (fun _ => 0))) (vs := (enc8 .u8 (fun _ => 0)).toArray) (cs := (enc8 .u8 (fun _ => 0)).toArray) ty70 rfl rfl rfl hS rfl (enc8_one .u8 (fun _ => 0)) rfl ?_
 intro w7 hS
 refine reg_nil (run_seq (run_region (r_move (vI a0) rfl rfl ?_)))
 obtain ⟨b0, q0⟩ := gd q0
 obtain ⟨b2, q0⟩ := gd q0
 refine r_indexArP ar70 rfl rfl (by omega) (by omega) rfl ?_
 refine r_store (v := Value.int .u8 1) (cs := (enc8 .u8 (fun _ => 0)).toArray) (cs' := (enc8 .u8 (upd8 (fun _ => 0) a0 1)).toArray) ty5 rfl rfl hS rfl (oneL rfl) (by simp [enc8, encV]; omega) (enc8_set (by omega) (by omega)) ?_
 intro b3 hS
 refine reg_nil (run_seq (run_region ?_))
 refine r_loadAll ty70 rfl (hS.get mL) rfl rfl ?_
 obtain ⟨a4, a6, q0⟩ := bind_some q0
 refine r_callFn Tryz.call170 (args2 rfl rfl) rfl (g_spec_l01Single_ok a6  hS) ?_
 rintro b5 a8 ⟨b6, a5, rfl, a7, hS, ⟨_, rfl, ⟨a1, rfl, a3⟩⟩⟩
 refine ⟨_, rfl, ?_⟩
 have hsub := hsub.trans a7
 have hS : St a5 a8 ([(b1, cA ([vN]) 47)] ++ ([(b4, cA (enc8 .u8 (upd8 (fun _ => 0) a0 1)) 70)] ++ L)) := hS.perm (perm1 (A1 := [(b4, cA (enc8 .u8 (upd8 (fun _ => 0) a0 1)) 70)]))
 refine r_storeAll (v := vA ([a1])) (vs := ([a1]).toArray) (cs := ([vN]).toArray) ty47 rfl rfl rfl hS rfl (one1 a3.isOne) rfl ?_
 intro a9 hS
 have hS : St a5 a9 ([(b4, cA (enc8 .u8 (upd8 (fun _ => 0) a0 1)) 70)] ++ ([(b1, cA ([a1]) 47)] ++ L)) := hS.perm (perm1 (A1 := [(b4, cA (enc8 .u8 (upd8 (fun _ => 0) a0 1)) 70)])).symm
 refine reg_nil ?_
 refine run_ret (vs := [vA ([a1])]) Tryz.func169 ⟨⟨_, rfl, run_loadAll ty47 (hS.get (mR mL)) rfl⟩, trivial⟩ ?_
 have hz := Option.some.inj q0
 subst hz
 exact ⟨_, _, rfl, hsub, (St.dropA (A := [(b1, cA ([a1]) 47)]) (St.dropA (A := [(b4, cA (enc8 .u8 (upd8 (fun _ => 0) a0 1)) 70)]) hS)), ⟨_, rfl, ⟨_, rfl, a3⟩⟩⟩
end Go.Proofs.YtfodlhkoafhplaaGreat
