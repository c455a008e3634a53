/- Walks of functions: each computes its pure function, if that gives a value. -/
import Derived.Test.YtfodlhkoafhplaaGreatSTy
import Derived.Test.YtfodlhkoafhplaaGreatSF2
import Derived.Test.YtfodlhkoafhplaaGreatSF4
import Derived.Test.YtfodlhkoafhplaaGreatSF3
import Derived.Test.YtfodlhkoafhplaaGreatSF1
namespace Go.Proofs.YtfodlhkoafhplaaGreat
open Go
set_option linter.unusedSimpArgs false
set_option linter.unusedVariables false
set_option maxRecDepth 100000
set_option maxHeartbeats 1000000
def g_spec_l01Is_l0 (K : Nat) (a0 : (List Int)) (a1 : MpT) : Nat → Int → Option (Ex Bool (Unit))
 | 0, _ => none
 | k + 1, a3 => (if a3 < (a1.length : Int) then ((g_spec_l01Mono K a0 ((rd a1 a3).1)).bind fun a5 => (if a5 = true then ((g_spec_l01In K ((rd a1 a3).2) 1 10006).bind fun a4 => (if a4 = true then (if 0 < a3 then (if 0 ≤ (IntKind.i64.wrap (a3 - 1)) then (if (IntKind.i64.wrap (a3 - 1)) < (a1.length : Int) then ((g_spec_l01Before K ((rd a1 (IntKind.i64.wrap (a3 - 1))).1) ((rd a1 a3).1)).bind fun b2 => (if b2 = true then g_spec_l01Is_l0 K a0 a1 k (a3 + 1) else some (.ret false))) else none) else none) else g_spec_l01Is_l0 K a0 a1 k (a3 + 1)) else some (.ret false))) else some (.ret false))) else some (.go ()))
def g_spec_l01Is (K : Nat) (a0 : (List Int)) (a1 : MpT) : Option Bool := ((g_spec_l01Is_l0 K a0 a1 K 0).bind (Ex.elim (fun r => some r) (fun s => some (decide ((a1.length : Int) ≤ 400)))))
theorem g_spec_l01Is_ok {K : Nat} {a0 : (List Int)} {a1 : MpT} {r : Bool} (q0 : g_spec_l01Is K a0 a1 = some r) {H : FH} {w : World} {L : OL} {s0 : Value} {s1 : Value} (b0 : RdSl (tyInt .i64) H s0 a0) (b4 : RdSl yT H s1 a1) (hS : St H w L) :
 Calls Tryz.prog 113 #[s0, vA ([s1])] w (Done (fun v G => R.bool.p G v r) H L) := by
 have hsub := Sub.refl H
 refine calls_of_run Tryz.func113 rfl Tryz.ntmps113 rfl ?_
 unfold g_spec_l01Is at q0
 refine run_seq (run_region ?_)
 refine r_box (v := vA ([s1])) ([s1]).toArray rfl rfl hS rfl ?_
 intro b1 w2 hS
 refine r_assign (Value.bool false) rfl rfl (reg_nil (run_seq (run_seq (run_region (r_assign (vI 0) rfl rfl (reg_nil (run_block ?_)))))))
 obtain ⟨m9, a7, c3⟩ := bind_some q0
 refine loop_ind (id := 0) (fun k f w => ∃ (a3 : Int) (H1 : FH), g_spec_l01Is_l0 K a0 a1 k a3 = some m9 ∧ Sub H H1 ∧ St H1 w ([(b1, cA ([s1]) 47)] ++ L) ∧ 0 ≤ a3 ∧ RdSl (tyInt .i64) H1 s0 a0 ∧ RdSl yT H1 s1 a1 ∧ ev f (.tmp 0) = s0 ∧ ev f (.tmp 3) = vP b1 ∧ ev f (.tmp 5) = vI a3) (fun f w => ∃ (H1 : FH), m9 = .go () ∧ Sub H H1 ∧ St H1 w ([(b1, cA ([s1]) 47)] ++ L) ∧ RdSl yT H1 s1 a1 ∧ ev f (.tmp 3) = vP b1) rfl ?_ ?_ K ?_ ?_
 rintro f w ⟨a3, H1, a7, _⟩
 rw [g_spec_l01Is_l0] at a7; cases a7
 rintro k at4 at5 ih0 hx0 ⟨a3, a08, a7, hsub, hS, ag0, b0, b4, b5, b8, b3⟩
 rw [g_spec_l01Is_l0] at a7
 refine run_seq (run_seq (run_region (r_move (vI a3) (by exact b3) rfl (r_fieldAddr fld47_0 (by exact b8) rfl ?_))))
 refine r_loadOne (s1) ty45 rfl (hS.get mL) rfl rfl ?_
 have bl4 := b4.bound
 refine r_lenRd sl45 rfl b4 rfl ?_
 refine r_lss (k := .i64) (a := a3) (b := (a1.length : Int)) rfl rfl rfl (reg_nil ?_)
 by_cases k7 : a3 < (a1.length : Int)
 rw [if_pos k7] at a7
 refine run_cond_true (Eq.trans rfl (congrArg Value.bool (decide_eq_true k7))) (run_skip (run_seq (run_block (run_seq (run_region (r_fieldAddr fld47_0 (by exact b8) rfl ?_))))))
 refine r_loadOne (s1) ty45 rfl (hS.get mL) rfl rfl (r_move (vI a3) (by exact b3) rfl ?_)
 obtain ⟨b6, o6, cs6, E6, _, hp6, hb6, ⟨_, _, rfl, rfl, rfl⟩, hc6⟩ := b4.elem (i := a3) (by omega) (by omega)
 refine r_indexAt sl45 rfl rfl hp6 rfl (by omega) (by omega) rfl ?_
 refine r_loadAgg (enc8 .u8 ((rd a1 a3).1) ++ [vI ((rd a1 a3).2)]) ty76 rfl (hS.froz _ _ hb6) rfl hc6 rfl ?_
 refine r_alloc (z := vA (enc8 .u8 (fun _ => 0) ++ [vI 0])) (enc8 .u8 (fun _ => 0) ++ [vI 0]).toArray ze76.zero rfl hS rfl ?_
 intro b7 w8 hS
 refine r_storeAll (v := vA (enc8 .u8 ((rd a1 a3).1) ++ [vI ((rd a1 a3).2)])) (vs := (enc8 .u8 ((rd a1 a3).1) ++ [vI ((rd a1 a3).2)]).toArray) (cs := (enc8 .u8 (fun _ => 0) ++ [vI 0]).toArray) ty76 rfl rfl rfl hS rfl (one_app (enc8_one .u8 ((rd a1 a3).1)) (one1 rfl)) rfl ?_
 intro w10 hS
 refine reg_nil (run_seq ?_)
 obtain ⟨a5, g6, a7⟩ := bind_some a7
 by_cases a8 : a5 = true
 rw [if_pos a8] at a7
 obtain ⟨a4, g7, a7⟩ := bind_some a7
 by_cases a9 : a4 = true
 rw [if_pos a9] at a7
 by_cases a6 : 0 < a3
 rw [if_pos a6] at a7
 obtain ⟨ag4, a7⟩ := gd a7
 obtain ⟨ag5, a7⟩ := gd a7
 obtain ⟨g8, g9, ag6, at6, _, s8, h0, ⟨_, _, rfl, rfl, rfl⟩, s9⟩ := b4.elem (i := (IntKind.i64.wrap (a3 - 1))) (by omega) (by omega)
 obtain ⟨b2, t0, a7⟩ := bind_some a7
 refine run_draw 28 (tabL [(19, MP.eq (s0)), (20, MP.eq (vP b7)), (21, MP.eq (vA (enc8 .u8 ((rd a1 a3).1)))), (22, MP.eq (Value.bool a5)), (23, MP.eq (Value.bool (!a5))), (24, MP.eq (Value.bool (!a5))), (25, MP.eq (Value.pointer (some ⟨b7, 8, none⟩))), (26, MP.eq (vI ((rd a1 a3).2))), (27, MP.eq (Value.bool a4)), (28, MP.eq (Value.bool (!a4))), (29, MP.eq (Value.bool (!a4))), (30, MP.eq (Value.bool (!a4))), (31, MP.eq (vI a3)), (32, MP.eq (Value.bool (decide (0 < a3)))), (33, MP.eq (Value.bool (decide (0 < a3)))), (34, MP.eq (vP b1)), (35, MP.eq (s1)), (36, MP.eq (vI a3)), (37, MP.eq (vI (IntKind.i64.wrap (a3 - 1)))), (38, MP.eq (Value.pointer (some ⟨g8, g9, none⟩))), (39, MP.eq (Value.pointer (some ⟨g8, g9 + 0, none⟩))), (40, MP.eq (vA (enc8 .u8 ((rd a1 (IntKind.i64.wrap (a3 - 1))).1)))), (41, MP.eq (vP b7)), (42, MP.eq (vA (enc8 .u8 ((rd a1 a3).1)))), (43, MP.eq (Value.bool b2)), (44, MP.eq (Value.bool (!b2))), (45, MP.eq (Value.bool (!b2))), (46, MP.eq (Value.bool (!b2)))]) [] mixed rfl rfl rfl hS (hop_q rfl ?_ (hop_q rfl ?_ (hop_q rfl ?_ (hop_q rfl ?_ (hop_q rfl ?_ (hop_q rfl ?_ (hop_q rfl ?_ (hop_q rfl ?_ (hop_q rfl ?_ (hop_q rfl ?_ (hop_q rfl ?_ (hop_q rfl ?_ (hop_q rfl ?_ (hop_q rfl ?_ (hop_q rfl ?_ (hop_q rfl ?_ (hop_q rfl ?_ (hop_q rfl ?_ (hop_q rfl ?_ (hop_q rfl ?_ (hop_q rfl ?_ (hop_q rfl ?_ (hop_q rfl ?_ (hop_q rfl ?_ (hop_q rfl ?_ (hop_q rfl ?_ (hop_q rfl ?_ (hop_q rfl ?_ hop_nil)))))))))))))))))))))))))))) ?_
 intro n0 n1 n2 n3 i5 hS c8 i6 hcq
 have e3 := evT (c8 0 rfl) b5
 refine r_move (s0) e3 rfl ?_
 exact qn (.refl _) rfl hS rfl
 intro e4 n4 n5 n6 i7 hS c9 i8 hcq
 have e5 : ev e4 (.tmp 6) = vP b7 := Eq.trans (c9 6 rfl) rfl
 refine r_fieldAddr fld76_0 e5 rfl ?_
 exact qn (.refl _) rfl hS rfl
 intro e6 n7 n8 n9 i9 hS j0 d0 hcq
 have e7 : ev e6 (.tmp 20) = vP b7 := d0 1 20 rfl rfl
 refine r_loadAgg (enc8 .u8 ((rd a1 a3).1)) ty70 e7 (hS.get (o := cA (enc8 .u8 ((rd a1 a3).1) ++ [vI ((rd a1 a3).2)]) 76) (mR mL)) rfl (fun j hj => sub_box ([]) (enc8 .u8 ((rd a1 a3).1)) (([vI ((rd a1 a3).2)])) j hj) rfl ?_
 exact qn (.refl _) rfl hS rfl
 intro c4 o0 o1 o2 d1 hS j1 b9 hcq
 have b0 := b0.mono d1
 have e8 : ev c4 (.tmp 19) = s0 := b9 0 19 rfl rfl
 have e9 : ev c4 (.tmp 21) = vA (enc8 .u8 ((rd a1 a3).1)) := b9 2 21 rfl rfl
 refine r_callFn Tryz.call202 (args2 e8 e9) rfl (g_spec_l01Mono_ok g6 b0 hS) ?_
 rintro o3 o4 ⟨_, o5, rfl, d2, hS, rfl⟩
 refine ⟨_, rfl, ?_⟩
 exact qn d2 rfl hS rfl
 intro f0 o7 o8 o9 j2 hS j3 d3 hcq
 have f1 : ev f0 (.tmp 22) = Value.bool a5 := d3 3 22 rfl rfl
 refine r_not (b := a5) f1 rfl ?_
 exact qn (.refl _) rfl hS rfl
 intro f2 p0 p1 p2 j4 hS j5 d4 hcq
 have f3 : ev f2 (.tmp 23) = Value.bool (!a5) := d4 4 23 rfl rfl
 refine r_move (Value.bool (!a5)) f3 rfl ?_
 exact qn (.refl _) rfl hS rfl
 intro d9 w79 H80 X81 p3 hS f4 f5 hcq
 have i1 : ev d9 (.tmp 24) = Value.bool (!a5) := f5 5 24 rfl rfl
 have i2 : ev d9 (.tmp 6) = vP b7 := Eq.trans (f4 6 rfl) rfl
 refine reg_guard rfl rfl (Eq.trans i1 (congrArg (fun b => Value.bool (!b)) a8)) (r_fieldAddr fld76_1 i2 rfl ?_)
 exact qn (.refl _) rfl hS rfl
 intro e0 w89 H90 X91 p4 hS p5 c5 hcq
 have i3 : ev e0 (.tmp 24) = Value.bool (!a5) := c5 5 24 rfl rfl
 have i4 : ev e0 (.tmp 25) = Value.pointer (some ⟨b7, 8, none⟩) := c5 6 25 rfl rfl
 refine reg_guard rfl rfl (Eq.trans i3 (congrArg (fun b => Value.bool (!b)) a8)) ?_
 refine r_loadOne (vI ((rd a1 a3).2)) ty2 i4 (hS.get (mR mL)) rfl rfl ?_
 exact qn (.refl _) rfl hS rfl
 intro e1 w99 p6 p7 k8 hS k9 c0 hcq
 have f6 : ev e1 (.tmp 24) = Value.bool (!a5) := c0 5 24 rfl rfl
 have f7 : ev e1 (.tmp 26) = vI ((rd a1 a3).2) := c0 7 26 rfl rfl
 refine reg_guard rfl rfl (Eq.trans f6 (congrArg (fun b => Value.bool (!b)) a8)) ?_
 refine r_callFn Tryz.call93 (args3 f7 rfl rfl) rfl (g_spec_l01In_ok g7  hS) ?_
 rintro p8 p9 ⟨_, q1, rfl, d5, hS, rfl⟩
 refine ⟨_, rfl, ?_⟩
 exact qn d5 rfl hS rfl
 intro c6 q2 q3 q4 l0 hS l1 c1 hcq
 have f8 : ev c6 (.tmp 24) = Value.bool (!a5) := c1 5 24 rfl rfl
 have f9 : ev c6 (.tmp 27) = Value.bool a4 := c1 8 27 rfl rfl
 refine reg_guard rfl rfl (Eq.trans f8 (congrArg (fun b => Value.bool (!b)) a8)) (r_not (b := a4) f9 rfl ?_)
 exact qn (.refl _) rfl hS rfl
 intro c7 q5 q6 q7 l2 hS l3 c2 hcq
 have g0 : ev c7 (.tmp 24) = Value.bool (!a5) := c2 5 24 rfl rfl
 have g1 : ev c7 (.tmp 28) = Value.bool (!a4) := c2 9 28 rfl rfl
 refine r_pick (t := false) (Value.bool (!a4)) (Eq.trans g0 (congrArg (fun b => Value.bool (!b)) a8)) ((if_neg Bool.false_ne_true).trans g1) rfl ?_
 exact qn (.refl _) rfl hS rfl
 intro g2 q8 q9 r0 l4 hS l5 d6 hcq
 have g3 : ev g2 (.tmp 29) = Value.bool (!a4) := d6 10 29 rfl rfl
 refine r_move (Value.bool (!a4)) g3 rfl ?_
 exact qn (.refl _) rfl hS rfl
 intro j6 a09 a10 a11 t1 hS h1 h2 hcq
 have j7 : ev j6 (.tmp 30) = Value.bool (!a4) := h2 11 30 rfl rfl
 have j8 := evT (h1 5 rfl) b3
 refine reg_guard rfl rfl (Eq.trans j7 (congrArg (fun b => Value.bool (!b)) a9)) (r_move (vI a3) j8 rfl ?_)
 exact qn (.refl _) rfl hS rfl
 intro g4 a12 a13 a14 t4 hS t5 d7 hcq
 have j9 : ev g4 (.tmp 30) = Value.bool (!a4) := d7 11 30 rfl rfl
 have k0 : ev g4 (.tmp 31) = vI a3 := d7 12 31 rfl rfl
 refine reg_guard rfl rfl (Eq.trans j9 (congrArg (fun b => Value.bool (!b)) a9)) ?_
 refine r_gtr (k := .i64) (a := a3) (b := 0) k0 rfl rfl ?_
 exact qn (.refl _) rfl hS rfl
 intro g5 a15 a16 a17 t6 hS t7 d8 hcq
 have k1 : ev g5 (.tmp 30) = Value.bool (!a4) := d8 11 30 rfl rfl
 have k2 : ev g5 (.tmp 32) = Value.bool (decide (0 < a3)) := d8 13 32 rfl rfl
 refine reg_guard rfl rfl (Eq.trans k1 (congrArg (fun b => Value.bool (!b)) a9)) (r_move (Value.bool (decide (0 < a3))) k2 rfl ?_)
 exact qn (.refl _) rfl hS rfl
 intro a18 at7 at8 at9 ag7 hS t8 t9 hcq
 have a19 : ev a18 (.tmp 33) = Value.bool (decide (0 < a3)) := t9 14 33 rfl rfl
 refine reg_guard rfl rfl (Eq.trans a19 (congrArg Value.bool (decide_eq_true a6))) (r_fieldAddr fld47_0 (evT (t8 3 rfl) b8) rfl ?_)
 exact qn (.refl _) rfl hS rfl
 intro r1 au0 au1 au2 ag8 hS ag9 l6 hcq
 have a20 : ev r1 (.tmp 33) = Value.bool (decide (0 < a3)) := l6 14 33 rfl rfl
 have a21 : ev r1 (.tmp 34) = vP b1 := l6 15 34 rfl rfl
 refine reg_guard rfl rfl (Eq.trans a20 (congrArg Value.bool (decide_eq_true a6))) ?_
 refine r_loadOne (s1) ty45 a21 (hS.get (mR (mR mL))) rfl rfl ?_
 exact qn (.refl _) rfl hS rfl
 intro a22 au3 au4 au5 ah0 hS u0 u1 hcq
 have a23 : ev a22 (.tmp 33) = Value.bool (decide (0 < a3)) := u1 14 33 rfl rfl
 refine reg_guard rfl rfl (Eq.trans a23 (congrArg Value.bool (decide_eq_true a6))) (r_move (vI a3) (evT (u0 5 rfl) b3) rfl ?_)
 exact qn (.refl _) rfl hS rfl
 intro r2 au6 au7 au8 ah1 hS ah2 l7 hcq
 have a24 : ev r2 (.tmp 33) = Value.bool (decide (0 < a3)) := l7 14 33 rfl rfl
 have a25 : ev r2 (.tmp 36) = vI a3 := l7 17 36 rfl rfl
 refine reg_guard rfl rfl (Eq.trans a24 (congrArg Value.bool (decide_eq_true a6))) ?_
 refine r_sub (IntKind.i64.wrap (a3 - 1)) a25 rfl rfl rfl ?_
 exact qn (.refl _) rfl hS rfl
 intro k3 au9 av0 av1 ah3 hS ah4 h3 hcq
 have a26 : ev k3 (.tmp 33) = Value.bool (decide (0 < a3)) := h3 14 33 rfl rfl
 have a27 : ev k3 (.tmp 35) = s1 := h3 16 35 rfl rfl
 have a28 : ev k3 (.tmp 37) = vI (IntKind.i64.wrap (a3 - 1)) := h3 18 37 rfl rfl
 refine reg_guard rfl rfl (Eq.trans a26 (congrArg Value.bool (decide_eq_true a6))) ?_
 refine r_indexAt sl45 rfl a27 s8 a28 (by omega) (by omega) rfl ?_
 exact qn (.refl _) rfl hS rfl
 intro r3 av2 av3 av4 ah5 hS ah6 l9 hcq
 have a29 : ev r3 (.tmp 33) = Value.bool (decide (0 < a3)) := l9 14 33 rfl rfl
 have a30 : ev r3 (.tmp 38) = Value.pointer (some ⟨g8, g9, none⟩) := l9 19 38 rfl rfl
 refine reg_guard rfl rfl (Eq.trans a29 (congrArg Value.bool (decide_eq_true a6))) (r_fieldAddr fld76_0 a30 rfl ?_)
 exact qn (.refl _) rfl hS rfl
 intro r4 av5 av6 av7 u2 hS ah7 m0 hcq
 have h0 := u2.1 _ _ h0
 have a31 : ev r4 (.tmp 33) = Value.bool (decide (0 < a3)) := m0 14 33 rfl rfl
 have a32 : ev r4 (.tmp 39) = Value.pointer (some ⟨g8, g9 + 0, none⟩) := m0 20 39 rfl rfl
 refine reg_guard rfl rfl (Eq.trans a31 (congrArg Value.bool (decide_eq_true a6))) ?_
 refine r_loadAgg (enc8 .u8 ((rd a1 (IntKind.i64.wrap (a3 - 1))).1)) ty70 a32 (hS.froz _ _ h0) rfl (sub_cells ([]) (enc8 .u8 ((rd a1 (IntKind.i64.wrap (a3 - 1))).1)) (([vI ((rd a1 (IntKind.i64.wrap (a3 - 1))).2)])) s9 (Nat.le_of_ble_eq_true rfl)) rfl ?_
 exact qn (.refl _) rfl hS rfl
 intro r5 av8 av9 aw0 ah8 hS u3 u4 hcq
 have a33 : ev r5 (.tmp 33) = Value.bool (decide (0 < a3)) := u4 14 33 rfl rfl
 have a34 : ev r5 (.tmp 6) = vP b7 := Eq.trans (u3 6 rfl) rfl
 refine reg_guard rfl rfl (Eq.trans a33 (congrArg Value.bool (decide_eq_true a6))) (r_fieldAddr fld76_0 a34 rfl ?_)
 exact qn (.refl _) rfl hS rfl
 intro r6 aw1 aw2 aw3 ah9 hS ai0 m1 hcq
 have a35 : ev r6 (.tmp 33) = Value.bool (decide (0 < a3)) := m1 14 33 rfl rfl
 have a36 : ev r6 (.tmp 41) = vP b7 := m1 22 41 rfl rfl
 refine reg_guard rfl rfl (Eq.trans a35 (congrArg Value.bool (decide_eq_true a6))) ?_
 refine r_loadAgg (enc8 .u8 ((rd a1 a3).1)) ty70 a36 (hS.get (o := cA (enc8 .u8 ((rd a1 a3).1) ++ [vI ((rd a1 a3).2)]) 76) (mR mL)) rfl (fun j hj => sub_box ([]) (enc8 .u8 ((rd a1 a3).1)) (([vI ((rd a1 a3).2)])) j hj) rfl ?_
 exact qn (.refl _) rfl hS rfl
 intro k4 aw4 aw5 aw6 ai1 hS ai2 h4 hcq
 have a37 : ev k4 (.tmp 33) = Value.bool (decide (0 < a3)) := h4 14 33 rfl rfl
 have a38 : ev k4 (.tmp 40) = vA (enc8 .u8 ((rd a1 (IntKind.i64.wrap (a3 - 1))).1)) := h4 21 40 rfl rfl
 have a39 : ev k4 (.tmp 42) = vA (enc8 .u8 ((rd a1 a3).1)) := h4 23 42 rfl rfl
 refine reg_guard rfl rfl (Eq.trans a37 (congrArg Value.bool (decide_eq_true a6))) ?_
 refine r_callFn Tryz.call203 (args2 a38 a39) rfl (g_spec_l01Before_ok t0  hS) ?_
 rintro aw7 aw8 ⟨_, aw9, rfl, u5, hS, rfl⟩
 refine ⟨_, rfl, ?_⟩
 exact qn u5 rfl hS rfl
 intro r7 ax0 ax1 ax2 ai3 hS ai4 m2 hcq
 have a40 : ev r7 (.tmp 33) = Value.bool (decide (0 < a3)) := m2 14 33 rfl rfl
 have a41 : ev r7 (.tmp 43) = Value.bool b2 := m2 24 43 rfl rfl
 refine reg_guard rfl rfl (Eq.trans a40 (congrArg Value.bool (decide_eq_true a6))) (r_not (b := b2) a41 rfl ?_)
 exact qn (.refl _) rfl hS rfl
 intro k5 ax3 ax4 ax5 ai5 hS ai6 h5 hcq
 have a42 : ev k5 (.tmp 30) = Value.bool (!a4) := h5 11 30 rfl rfl
 have a43 : ev k5 (.tmp 33) = Value.bool (decide (0 < a3)) := h5 14 33 rfl rfl
 have a44 : ev k5 (.tmp 44) = Value.bool (!b2) := h5 25 44 rfl rfl
 refine reg_guard rfl rfl (Eq.trans a42 (congrArg (fun b => Value.bool (!b)) a9)) ?_
 refine r_pick (t := true) (Value.bool (!b2)) (Eq.trans a43 (congrArg Value.bool (decide_eq_true a6))) ((if_pos rfl).trans a44) rfl ?_
 exact qn (.refl _) rfl hS rfl
 intro r8 ax6 ax7 ax8 ai7 hS ai8 m3 hcq
 have a45 : ev r8 (.tmp 30) = Value.bool (!a4) := m3 11 30 rfl rfl
 have a46 : ev r8 (.tmp 45) = Value.bool (!b2) := m3 26 45 rfl rfl
 refine r_pick (t := false) (Value.bool (!b2)) (Eq.trans a45 (congrArg (fun b => Value.bool (!b)) a9)) ((if_neg Bool.false_ne_true).trans a46) rfl ?_
 exact qn (.refl _) rfl hS rfl
 intro a47 a48 r9 h6 hS h7 u6 hcq
 have hS : St r9 a48 ([(b7, cA (enc8 .u8 ((rd a1 a3).1) ++ [vI ((rd a1 a3).2)]) 76)] ++ ([(b1, cA ([s1]) 47)] ++ L)) := hS
 have hsub := hsub.trans h6
 have b0 := b0.mono h6
 have b4 := b4.mono h6
 have s2 : ev a47 (.tmp 46) = Value.bool (!b2) := u6 27 46 (by decide) rfl
 refine reg_nil ?_
 by_cases e2 : b2 = true
 rw [if_pos e2] at a7
 refine run_cond_false (Eq.trans (by exact s2) (congrArg (fun b => Value.bool (!b)) e2)) (run_skip (run_inBlock (run_region (r_move (vI a3) (by exact (evT (h7 5 rfl) b3)) rfl ?_))))
 refine r_add (a3 + 1) rfl rfl (IntWalk.i64_in _ (by omega)) rfl (r_assign (vI (a3 + 1)) rfl rfl (reg_nil ?_))
 have hS := St.dropA (A := [(b7, cA (enc8 .u8 ((rd a1 a3).1) ++ [vI ((rd a1 a3).2)]) 76)]) hS
 exact ih0 _ _ ⟨(a3 + 1), r9, a7, hsub, hS, (by omega), b0, b4, (evT (h7 0 rfl) b5), (evT (h7 3 rfl) b8), rfl⟩
 rw [if_neg e2] at a7
 refine run_cond_true (Eq.trans (by exact s2) (congrArg (fun b => Value.bool (!b)) (bfalse e2))) (run_seq (run_region (r_assign (Value.bool false) rfl rfl (reg_nil ?_))))
 refine run_ret (vs := [Value.bool false]) Tryz.func113 ⟨rfl, trivial⟩ ?_
 have hz := Option.some.inj a7
 subst hz
 dsimp only [Ex.elim] at c3
 have hz := Option.some.inj c3
 subst hz
 exact ⟨_, _, rfl, hsub, (St.dropA (A := [(b1, cA ([s1]) 47)]) (St.dropA (A := [(b7, cA (enc8 .u8 ((rd a1 a3).1) ++ [vI ((rd a1 a3).2)]) 76)]) hS)), rfl⟩
 rw [if_neg a6] at a7
 refine run_draw 28 (tabL [(19, MP.eq (s0)), (20, MP.eq (vP b7)), (21, MP.eq (vA (enc8 .u8 ((rd a1 a3).1)))), (22, MP.eq (Value.bool a5)), (23, MP.eq (Value.bool (!a5))), (24, MP.eq (Value.bool (!a5))), (25, MP.eq (Value.pointer (some ⟨b7, 8, none⟩))), (26, MP.eq (vI ((rd a1 a3).2))), (27, MP.eq (Value.bool a4)), (28, MP.eq (Value.bool (!a4))), (29, MP.eq (Value.bool (!a4))), (30, MP.eq (Value.bool (!a4))), (31, MP.eq (vI a3)), (32, MP.eq (Value.bool (decide (0 < a3)))), (33, MP.eq (Value.bool (decide (0 < a3)))), (34, MP.eq (undef)), (35, MP.eq (undef)), (36, MP.eq (undef)), (37, MP.eq (undef)), (38, MP.eq (undef)), (39, MP.eq (undef)), (40, MP.eq (undef)), (41, MP.eq (undef)), (42, MP.eq (undef)), (43, MP.eq (undef)), (44, MP.eq (undef)), (45, MP.eq (Value.bool false)), (46, MP.eq (Value.bool false))]) [] mixed rfl rfl rfl hS (hop_q rfl ?_ (hop_q rfl ?_ (hop_q rfl ?_ (hop_q rfl ?_ (hop_q rfl ?_ (hop_q rfl ?_ (hop_q rfl ?_ (hop_q rfl ?_ (hop_q rfl ?_ (hop_q rfl ?_ (hop_q rfl ?_ (hop_q rfl ?_ (hop_q rfl ?_ (hop_q rfl ?_ (hop_q rfl ?_ (hop_q rfl ?_ (hop_q rfl ?_ (hop_q rfl ?_ (hop_q rfl ?_ (hop_q rfl ?_ (hop_q rfl ?_ (hop_q rfl ?_ (hop_q rfl ?_ (hop_q rfl ?_ (hop_q rfl ?_ (hop_q rfl ?_ (hop_q rfl ?_ (hop_q rfl ?_ hop_nil)))))))))))))))))))))))))))) ?_
 intro n0 n1 n2 n3 i5 hS c8 i6 hcq
 have e3 := evT (c8 0 rfl) b5
 refine r_move (s0) e3 rfl ?_
 exact qn (.refl _) rfl hS rfl
 intro e4 n4 n5 n6 i7 hS c9 i8 hcq
 have e5 : ev e4 (.tmp 6) = vP b7 := Eq.trans (c9 6 rfl) rfl
 refine r_fieldAddr fld76_0 e5 rfl ?_
 exact qn (.refl _) rfl hS rfl
 intro e6 n7 n8 n9 i9 hS j0 d0 hcq
 have e7 : ev e6 (.tmp 20) = vP b7 := d0 1 20 rfl rfl
 refine r_loadAgg (enc8 .u8 ((rd a1 a3).1)) ty70 e7 (hS.get (o := cA (enc8 .u8 ((rd a1 a3).1) ++ [vI ((rd a1 a3).2)]) 76) (mR mL)) rfl (fun j hj => sub_box ([]) (enc8 .u8 ((rd a1 a3).1)) (([vI ((rd a1 a3).2)])) j hj) rfl ?_
 exact qn (.refl _) rfl hS rfl
 intro c4 o0 o1 o2 d1 hS j1 b9 hcq
 have b0 := b0.mono d1
 have e8 : ev c4 (.tmp 19) = s0 := b9 0 19 rfl rfl
 have e9 : ev c4 (.tmp 21) = vA (enc8 .u8 ((rd a1 a3).1)) := b9 2 21 rfl rfl
 refine r_callFn Tryz.call202 (args2 e8 e9) rfl (g_spec_l01Mono_ok g6 b0 hS) ?_
 rintro o3 o4 ⟨_, o5, rfl, d2, hS, rfl⟩
 refine ⟨_, rfl, ?_⟩
 exact qn d2 rfl hS rfl
 intro f0 o7 o8 o9 j2 hS j3 d3 hcq
 have f1 : ev f0 (.tmp 22) = Value.bool a5 := d3 3 22 rfl rfl
 refine r_not (b := a5) f1 rfl ?_
 exact qn (.refl _) rfl hS rfl
 intro f2 p0 p1 p2 j4 hS j5 d4 hcq
 have f3 : ev f2 (.tmp 23) = Value.bool (!a5) := d4 4 23 rfl rfl
 refine r_move (Value.bool (!a5)) f3 rfl ?_
 exact qn (.refl _) rfl hS rfl
 intro d9 w79 H80 X81 p3 hS f4 f5 hcq
 have i1 : ev d9 (.tmp 24) = Value.bool (!a5) := f5 5 24 rfl rfl
 have i2 : ev d9 (.tmp 6) = vP b7 := Eq.trans (f4 6 rfl) rfl
 refine reg_guard rfl rfl (Eq.trans i1 (congrArg (fun b => Value.bool (!b)) a8)) (r_fieldAddr fld76_1 i2 rfl ?_)
 exact qn (.refl _) rfl hS rfl
 intro e0 w89 H90 X91 p4 hS p5 c5 hcq
 have i3 : ev e0 (.tmp 24) = Value.bool (!a5) := c5 5 24 rfl rfl
 have i4 : ev e0 (.tmp 25) = Value.pointer (some ⟨b7, 8, none⟩) := c5 6 25 rfl rfl
 refine reg_guard rfl rfl (Eq.trans i3 (congrArg (fun b => Value.bool (!b)) a8)) ?_
 refine r_loadOne (vI ((rd a1 a3).2)) ty2 i4 (hS.get (mR mL)) rfl rfl ?_
 exact qn (.refl _) rfl hS rfl
 intro e1 w99 p6 p7 k8 hS k9 c0 hcq
 have f6 : ev e1 (.tmp 24) = Value.bool (!a5) := c0 5 24 rfl rfl
 have f7 : ev e1 (.tmp 26) = vI ((rd a1 a3).2) := c0 7 26 rfl rfl
 refine reg_guard rfl rfl (Eq.trans f6 (congrArg (fun b => Value.bool (!b)) a8)) ?_
 refine r_callFn Tryz.call93 (args3 f7 rfl rfl) rfl (g_spec_l01In_ok g7  hS) ?_
 rintro p8 p9 ⟨_, q1, rfl, d5, hS, rfl⟩
 refine ⟨_, rfl, ?_⟩
 exact qn d5 rfl hS rfl
 intro c6 q2 q3 q4 l0 hS l1 c1 hcq
 have f8 : ev c6 (.tmp 24) = Value.bool (!a5) := c1 5 24 rfl rfl
 have f9 : ev c6 (.tmp 27) = Value.bool a4 := c1 8 27 rfl rfl
 refine reg_guard rfl rfl (Eq.trans f8 (congrArg (fun b => Value.bool (!b)) a8)) (r_not (b := a4) f9 rfl ?_)
 exact qn (.refl _) rfl hS rfl
 intro c7 q5 q6 q7 l2 hS l3 c2 hcq
 have g0 : ev c7 (.tmp 24) = Value.bool (!a5) := c2 5 24 rfl rfl
 have g1 : ev c7 (.tmp 28) = Value.bool (!a4) := c2 9 28 rfl rfl
 refine r_pick (t := false) (Value.bool (!a4)) (Eq.trans g0 (congrArg (fun b => Value.bool (!b)) a8)) ((if_neg Bool.false_ne_true).trans g1) rfl ?_
 exact qn (.refl _) rfl hS rfl
 intro g2 q8 q9 r0 l4 hS l5 d6 hcq
 have g3 : ev g2 (.tmp 29) = Value.bool (!a4) := d6 10 29 rfl rfl
 refine r_move (Value.bool (!a4)) g3 rfl ?_
 exact qn (.refl _) rfl hS rfl
 intro j6 a09 a10 a11 t1 hS h1 h2 hcq
 have j7 : ev j6 (.tmp 30) = Value.bool (!a4) := h2 11 30 rfl rfl
 have j8 := evT (h1 5 rfl) b3
 refine reg_guard rfl rfl (Eq.trans j7 (congrArg (fun b => Value.bool (!b)) a9)) (r_move (vI a3) j8 rfl ?_)
 exact qn (.refl _) rfl hS rfl
 intro g4 a12 a13 a14 t4 hS t5 d7 hcq
 have j9 : ev g4 (.tmp 30) = Value.bool (!a4) := d7 11 30 rfl rfl
 have k0 : ev g4 (.tmp 31) = vI a3 := d7 12 31 rfl rfl
 refine reg_guard rfl rfl (Eq.trans j9 (congrArg (fun b => Value.bool (!b)) a9)) ?_
 refine r_gtr (k := .i64) (a := a3) (b := 0) k0 rfl rfl ?_
 exact qn (.refl _) rfl hS rfl
 intro g5 a15 a16 a17 t6 hS t7 d8 hcq
 have k1 : ev g5 (.tmp 30) = Value.bool (!a4) := d8 11 30 rfl rfl
 have k2 : ev g5 (.tmp 32) = Value.bool (decide (0 < a3)) := d8 13 32 rfl rfl
 refine reg_guard rfl rfl (Eq.trans k1 (congrArg (fun b => Value.bool (!b)) a9)) (r_move (Value.bool (decide (0 < a3))) k2 rfl ?_)
 exact qn (.refl _) rfl hS rfl
 intro a49 ax9 ay0 ay1 ai9 hS aj0 u7 hcq
 have a50 : ev a49 (.tmp 33) = Value.bool (decide (0 < a3)) := u7 14 33 rfl rfl
 refine reg_unguard rfl rfl (Eq.trans a50 (congrArg Value.bool (decide_eq_false a6))) rfl rfl rfl ?_
 exact qn (.refl _) rfl hS rfl
 intro a51 ay2 ay3 ay4 aj1 hS aj2 u8 hcq
 have a52 : ev a51 (.tmp 33) = Value.bool (decide (0 < a3)) := u8 14 33 rfl rfl
 refine reg_unguard rfl rfl (Eq.trans a52 (congrArg Value.bool (decide_eq_false a6))) rfl rfl rfl ?_
 exact qn (.refl _) rfl hS rfl
 intro a53 ay5 ay6 ay7 aj3 hS aj4 u9 hcq
 have a54 : ev a53 (.tmp 33) = Value.bool (decide (0 < a3)) := u9 14 33 rfl rfl
 refine reg_unguard rfl rfl (Eq.trans a54 (congrArg Value.bool (decide_eq_false a6))) rfl rfl rfl ?_
 exact qn (.refl _) rfl hS rfl
 intro a55 ay8 ay9 az0 aj5 hS aj6 v0 hcq
 have a56 : ev a55 (.tmp 33) = Value.bool (decide (0 < a3)) := v0 14 33 rfl rfl
 refine reg_unguard rfl rfl (Eq.trans a56 (congrArg Value.bool (decide_eq_false a6))) rfl rfl rfl ?_
 exact qn (.refl _) rfl hS rfl
 intro a57 az1 az2 az3 aj7 hS aj8 v1 hcq
 have a58 : ev a57 (.tmp 33) = Value.bool (decide (0 < a3)) := v1 14 33 rfl rfl
 refine reg_unguard rfl rfl (Eq.trans a58 (congrArg Value.bool (decide_eq_false a6))) rfl rfl rfl ?_
 exact qn (.refl _) rfl hS rfl
 intro a59 az4 az5 az6 aj9 hS ak0 v2 hcq
 have a60 : ev a59 (.tmp 33) = Value.bool (decide (0 < a3)) := v2 14 33 rfl rfl
 refine reg_unguard rfl rfl (Eq.trans a60 (congrArg Value.bool (decide_eq_false a6))) rfl rfl rfl ?_
 exact qn (.refl _) rfl hS rfl
 intro a61 az7 az8 az9 ak1 hS ak2 v3 hcq
 have a62 : ev a61 (.tmp 33) = Value.bool (decide (0 < a3)) := v3 14 33 rfl rfl
 refine reg_unguard rfl rfl (Eq.trans a62 (congrArg Value.bool (decide_eq_false a6))) rfl rfl rfl ?_
 exact qn (.refl _) rfl hS rfl
 intro a63 b00 b01 b02 ak3 hS ak4 v4 hcq
 have a64 : ev a63 (.tmp 33) = Value.bool (decide (0 < a3)) := v4 14 33 rfl rfl
 refine reg_unguard rfl rfl (Eq.trans a64 (congrArg Value.bool (decide_eq_false a6))) rfl rfl rfl ?_
 exact qn (.refl _) rfl hS rfl
 intro a65 b03 b04 b05 ak5 hS ak6 v5 hcq
 have a66 : ev a65 (.tmp 33) = Value.bool (decide (0 < a3)) := v5 14 33 rfl rfl
 refine reg_unguard rfl rfl (Eq.trans a66 (congrArg Value.bool (decide_eq_false a6))) rfl rfl rfl ?_
 exact qn (.refl _) rfl hS rfl
 intro a67 b06 b07 b08 ak7 hS ak8 v6 hcq
 have a68 : ev a67 (.tmp 33) = Value.bool (decide (0 < a3)) := v6 14 33 rfl rfl
 refine reg_unguard rfl rfl (Eq.trans a68 (congrArg Value.bool (decide_eq_false a6))) rfl rfl rfl ?_
 exact qn (.refl _) rfl hS rfl
 intro a69 b09 b10 b11 ak9 hS al0 v7 hcq
 have a70 : ev a69 (.tmp 33) = Value.bool (decide (0 < a3)) := v7 14 33 rfl rfl
 refine reg_unguard rfl rfl (Eq.trans a70 (congrArg Value.bool (decide_eq_false a6))) rfl rfl rfl ?_
 exact qn (.refl _) rfl hS rfl
 intro k6 b12 b13 b14 al1 hS al2 h8 hcq
 have a71 : ev k6 (.tmp 30) = Value.bool (!a4) := h8 11 30 rfl rfl
 have a72 : ev k6 (.tmp 33) = Value.bool (decide (0 < a3)) := h8 14 33 rfl rfl
 have b15 : ev k6 (.tmp 44) = undef := h8 25 44 rfl rfl
 refine reg_guard rfl rfl (Eq.trans a71 (congrArg (fun b => Value.bool (!b)) a9)) ?_
 refine r_pick (t := false) (Value.bool false) (Eq.trans a72 (congrArg Value.bool (decide_eq_false a6))) ((if_neg Bool.false_ne_true).trans rfl) rfl ?_
 exact qn (.refl _) rfl hS rfl
 intro s3 b16 b17 b18 al3 hS al4 m4 hcq
 have a73 : ev s3 (.tmp 30) = Value.bool (!a4) := m4 11 30 rfl rfl
 have a74 : ev s3 (.tmp 45) = Value.bool false := m4 26 45 rfl rfl
 refine r_pick (t := false) (Value.bool false) (Eq.trans a73 (congrArg (fun b => Value.bool (!b)) a9)) ((if_neg Bool.false_ne_true).trans a74) rfl ?_
 exact qn (.refl _) rfl hS rfl
 intro a75 a76 s4 h9 hS i0 v8 hcq
 have hS : St s4 a76 ([(b7, cA (enc8 .u8 ((rd a1 a3).1) ++ [vI ((rd a1 a3).2)]) 76)] ++ ([(b1, cA ([s1]) 47)] ++ L)) := hS
 have hsub := hsub.trans h9
 have b0 := b0.mono h9
 have b4 := b4.mono h9
 have a77 : ev a75 (.tmp 46) = Value.bool false := v8 27 46 (by decide) rfl
 refine reg_nil (run_cond_false (by exact a77) (run_skip (run_inBlock (run_region (r_move (vI a3) (by exact (evT (i0 5 rfl) b3)) rfl ?_)))))
 refine r_add (a3 + 1) rfl rfl (IntWalk.i64_in _ (by omega)) rfl (r_assign (vI (a3 + 1)) rfl rfl (reg_nil ?_))
 have hS := St.dropA (A := [(b7, cA (enc8 .u8 ((rd a1 a3).1) ++ [vI ((rd a1 a3).2)]) 76)]) hS
 exact ih0 _ _ ⟨(a3 + 1), s4, a7, hsub, hS, (by omega), b0, b4, (evT (i0 0 rfl) b5), (evT (i0 3 rfl) b8), rfl⟩
 rw [if_neg a9] at a7
 refine run_draw 28 (tabL [(19, MP.eq (s0)), (20, MP.eq (vP b7)), (21, MP.eq (vA (enc8 .u8 ((rd a1 a3).1)))), (22, MP.eq (Value.bool a5)), (23, MP.eq (Value.bool (!a5))), (24, MP.eq (Value.bool (!a5))), (25, MP.eq (Value.pointer (some ⟨b7, 8, none⟩))), (26, MP.eq (vI ((rd a1 a3).2))), (27, MP.eq (Value.bool a4)), (28, MP.eq (Value.bool (!a4))), (29, MP.eq (Value.bool (!a4))), (30, MP.eq (Value.bool (!a4))), (31, MP.eq (undef)), (32, MP.eq (undef)), (33, MP.eq (undef)), (34, MP.eq (undef)), (35, MP.eq (undef)), (36, MP.eq (undef)), (37, MP.eq (undef)), (38, MP.eq (undef)), (39, MP.eq (undef)), (40, MP.eq (undef)), (41, MP.eq (undef)), (42, MP.eq (undef)), (43, MP.eq (undef)), (44, MP.eq (undef)), (45, MP.eq (undef)), (46, MP.eq (Value.bool true))]) [] mixed rfl rfl rfl hS (hop_q rfl ?_ (hop_q rfl ?_ (hop_q rfl ?_ (hop_q rfl ?_ (hop_q rfl ?_ (hop_q rfl ?_ (hop_q rfl ?_ (hop_q rfl ?_ (hop_q rfl ?_ (hop_q rfl ?_ (hop_q rfl ?_ (hop_q rfl ?_ (hop_q rfl ?_ (hop_q rfl ?_ (hop_q rfl ?_ (hop_q rfl ?_ (hop_q rfl ?_ (hop_q rfl ?_ (hop_q rfl ?_ (hop_q rfl ?_ (hop_q rfl ?_ (hop_q rfl ?_ (hop_q rfl ?_ (hop_q rfl ?_ (hop_q rfl ?_ (hop_q rfl ?_ (hop_q rfl ?_ (hop_q rfl ?_ hop_nil)))))))))))))))))))))))))))) ?_
 intro n0 n1 n2 n3 i5 hS c8 i6 hcq
 have e3 := evT (c8 0 rfl) b5
 refine r_move (s0) e3 rfl ?_
 exact qn (.refl _) rfl hS rfl
 intro e4 n4 n5 n6 i7 hS c9 i8 hcq
 have e5 : ev e4 (.tmp 6) = vP b7 := Eq.trans (c9 6 rfl) rfl
 refine r_fieldAddr fld76_0 e5 rfl ?_
 exact qn (.refl _) rfl hS rfl
 intro e6 n7 n8 n9 i9 hS j0 d0 hcq
 have e7 : ev e6 (.tmp 20) = vP b7 := d0 1 20 rfl rfl
 refine r_loadAgg (enc8 .u8 ((rd a1 a3).1)) ty70 e7 (hS.get (o := cA (enc8 .u8 ((rd a1 a3).1) ++ [vI ((rd a1 a3).2)]) 76) (mR mL)) rfl (fun j hj => sub_box ([]) (enc8 .u8 ((rd a1 a3).1)) (([vI ((rd a1 a3).2)])) j hj) rfl ?_
 exact qn (.refl _) rfl hS rfl
 intro c4 o0 o1 o2 d1 hS j1 b9 hcq
 have b0 := b0.mono d1
 have e8 : ev c4 (.tmp 19) = s0 := b9 0 19 rfl rfl
 have e9 : ev c4 (.tmp 21) = vA (enc8 .u8 ((rd a1 a3).1)) := b9 2 21 rfl rfl
 refine r_callFn Tryz.call202 (args2 e8 e9) rfl (g_spec_l01Mono_ok g6 b0 hS) ?_
 rintro o3 o4 ⟨_, o5, rfl, d2, hS, rfl⟩
 refine ⟨_, rfl, ?_⟩
 exact qn d2 rfl hS rfl
 intro f0 o7 o8 o9 j2 hS j3 d3 hcq
 have f1 : ev f0 (.tmp 22) = Value.bool a5 := d3 3 22 rfl rfl
 refine r_not (b := a5) f1 rfl ?_
 exact qn (.refl _) rfl hS rfl
 intro f2 p0 p1 p2 j4 hS j5 d4 hcq
 have f3 : ev f2 (.tmp 23) = Value.bool (!a5) := d4 4 23 rfl rfl
 refine r_move (Value.bool (!a5)) f3 rfl ?_
 exact qn (.refl _) rfl hS rfl
 intro d9 w79 H80 X81 p3 hS f4 f5 hcq
 have i1 : ev d9 (.tmp 24) = Value.bool (!a5) := f5 5 24 rfl rfl
 have i2 : ev d9 (.tmp 6) = vP b7 := Eq.trans (f4 6 rfl) rfl
 refine reg_guard rfl rfl (Eq.trans i1 (congrArg (fun b => Value.bool (!b)) a8)) (r_fieldAddr fld76_1 i2 rfl ?_)
 exact qn (.refl _) rfl hS rfl
 intro e0 w89 H90 X91 p4 hS p5 c5 hcq
 have i3 : ev e0 (.tmp 24) = Value.bool (!a5) := c5 5 24 rfl rfl
 have i4 : ev e0 (.tmp 25) = Value.pointer (some ⟨b7, 8, none⟩) := c5 6 25 rfl rfl
 refine reg_guard rfl rfl (Eq.trans i3 (congrArg (fun b => Value.bool (!b)) a8)) ?_
 refine r_loadOne (vI ((rd a1 a3).2)) ty2 i4 (hS.get (mR mL)) rfl rfl ?_
 exact qn (.refl _) rfl hS rfl
 intro e1 w99 p6 p7 k8 hS k9 c0 hcq
 have f6 : ev e1 (.tmp 24) = Value.bool (!a5) := c0 5 24 rfl rfl
 have f7 : ev e1 (.tmp 26) = vI ((rd a1 a3).2) := c0 7 26 rfl rfl
 refine reg_guard rfl rfl (Eq.trans f6 (congrArg (fun b => Value.bool (!b)) a8)) ?_
 refine r_callFn Tryz.call93 (args3 f7 rfl rfl) rfl (g_spec_l01In_ok g7  hS) ?_
 rintro p8 p9 ⟨_, q1, rfl, d5, hS, rfl⟩
 refine ⟨_, rfl, ?_⟩
 exact qn d5 rfl hS rfl
 intro c6 q2 q3 q4 l0 hS l1 c1 hcq
 have f8 : ev c6 (.tmp 24) = Value.bool (!a5) := c1 5 24 rfl rfl
 have f9 : ev c6 (.tmp 27) = Value.bool a4 := c1 8 27 rfl rfl
 refine reg_guard rfl rfl (Eq.trans f8 (congrArg (fun b => Value.bool (!b)) a8)) (r_not (b := a4) f9 rfl ?_)
 exact qn (.refl _) rfl hS rfl
 intro c7 q5 q6 q7 l2 hS l3 c2 hcq
 have g0 : ev c7 (.tmp 24) = Value.bool (!a5) := c2 5 24 rfl rfl
 have g1 : ev c7 (.tmp 28) = Value.bool (!a4) := c2 9 28 rfl rfl
 refine r_pick (t := false) (Value.bool (!a4)) (Eq.trans g0 (congrArg (fun b => Value.bool (!b)) a8)) ((if_neg Bool.false_ne_true).trans g1) rfl ?_
 exact qn (.refl _) rfl hS rfl
 intro g2 q8 q9 r0 l4 hS l5 d6 hcq
 have g3 : ev g2 (.tmp 29) = Value.bool (!a4) := d6 10 29 rfl rfl
 refine r_move (Value.bool (!a4)) g3 rfl ?_
 exact qn (.refl _) rfl hS rfl
 intro a78 b19 b20 b21 al5 hS al6 v9 hcq
 have a79 : ev a78 (.tmp 30) = Value.bool (!a4) := v9 11 30 rfl rfl
 refine reg_unguard rfl rfl (Eq.trans a79 (congrArg (fun b => Value.bool (!b)) (bfalse a9))) rfl rfl rfl ?_
 exact qn (.refl _) rfl hS rfl
 intro a80 b22 b23 b24 al7 hS al8 w0 hcq
 have a81 : ev a80 (.tmp 30) = Value.bool (!a4) := w0 11 30 rfl rfl
 refine reg_unguard rfl rfl (Eq.trans a81 (congrArg (fun b => Value.bool (!b)) (bfalse a9))) rfl rfl rfl ?_
 exact qn (.refl _) rfl hS rfl
 intro a82 b25 b26 b27 al9 hS am0 w1 hcq
 have a83 : ev a82 (.tmp 30) = Value.bool (!a4) := w1 11 30 rfl rfl
 refine reg_unguard rfl rfl (Eq.trans a83 (congrArg (fun b => Value.bool (!b)) (bfalse a9))) rfl rfl rfl ?_
 exact qn (.refl _) rfl hS rfl
 intro a84 b28 b29 b30 am1 hS am2 w3 hcq
 have a85 : ev a84 (.tmp 33) = undef := w3 14 33 rfl rfl
 refine reg_undef rfl rfl a85 rfl rfl ?_
 exact qn (.refl _) rfl hS rfl
 intro a86 b31 b32 b33 am3 hS am4 w4 hcq
 have a87 : ev a86 (.tmp 33) = undef := w4 14 33 rfl rfl
 refine reg_undef rfl rfl a87 rfl rfl ?_
 exact qn (.refl _) rfl hS rfl
 intro a88 b34 b35 b36 am5 hS am6 w5 hcq
 have a89 : ev a88 (.tmp 33) = undef := w5 14 33 rfl rfl
 refine reg_undef rfl rfl a89 rfl rfl ?_
 exact qn (.refl _) rfl hS rfl
 intro a90 b37 b38 b39 am7 hS am8 w6 hcq
 have a91 : ev a90 (.tmp 33) = undef := w6 14 33 rfl rfl
 refine reg_undef rfl rfl a91 rfl rfl ?_
 exact qn (.refl _) rfl hS rfl
 intro a92 b40 b41 b42 am9 hS an0 w7 hcq
 have a93 : ev a92 (.tmp 33) = undef := w7 14 33 rfl rfl
 refine reg_undef rfl rfl a93 rfl rfl ?_
 exact qn (.refl _) rfl hS rfl
 intro a94 b43 b44 b45 an1 hS an2 w9 hcq
 have a95 : ev a94 (.tmp 33) = undef := w9 14 33 rfl rfl
 refine reg_undef rfl rfl a95 rfl rfl ?_
 exact qn (.refl _) rfl hS rfl
 intro a96 b46 b47 b48 an3 hS an4 x0 hcq
 have a97 : ev a96 (.tmp 33) = undef := x0 14 33 rfl rfl
 refine reg_undef rfl rfl a97 rfl rfl ?_
 exact qn (.refl _) rfl hS rfl
 intro a98 b49 b50 b51 an5 hS an6 x1 hcq
 have a99 : ev a98 (.tmp 33) = undef := x1 14 33 rfl rfl
 refine reg_undef rfl rfl a99 rfl rfl ?_
 exact qn (.refl _) rfl hS rfl
 intro aa0 b52 b53 b54 an7 hS an8 x2 hcq
 have aa1 : ev aa0 (.tmp 33) = undef := x2 14 33 rfl rfl
 refine reg_undef rfl rfl aa1 rfl rfl ?_
 exact qn (.refl _) rfl hS rfl
 intro aa2 b55 b56 b57 an9 hS ao0 x3 hcq
 have aa3 : ev aa2 (.tmp 33) = undef := x3 14 33 rfl rfl
 refine reg_undef rfl rfl aa3 rfl rfl ?_
 exact qn (.refl _) rfl hS rfl
 intro aa4 b58 b59 b60 ao1 hS ao2 x4 hcq
 have aa5 : ev aa4 (.tmp 33) = undef := x4 14 33 rfl rfl
 refine reg_undef rfl rfl aa5 rfl rfl ?_
 exact qn (.refl _) rfl hS rfl
 intro aa6 b61 b62 b63 ao3 hS ao4 x5 hcq
 have aa7 : ev aa6 (.tmp 30) = Value.bool (!a4) := x5 11 30 rfl rfl
 refine reg_unguard rfl rfl (Eq.trans aa7 (congrArg (fun b => Value.bool (!b)) (bfalse a9))) rfl rfl rfl ?_
 exact qn (.refl _) rfl hS rfl
 intro s5 b64 b65 b66 ao5 hS ao6 m5 hcq
 have aa8 : ev s5 (.tmp 30) = Value.bool (!a4) := m5 11 30 rfl rfl
 have b67 : ev s5 (.tmp 45) = undef := m5 26 45 rfl rfl
 refine r_pick (t := true) (Value.bool true) (Eq.trans aa8 (congrArg (fun b => Value.bool (!b)) (bfalse a9))) ((if_pos rfl).trans rfl) rfl ?_
 exact qn (.refl _) rfl hS rfl
 intro aa9 ab0 ab1 x6 hS ao7 x7 hcq
 have hS : St ab1 ab0 ([(b7, cA (enc8 .u8 ((rd a1 a3).1) ++ [vI ((rd a1 a3).2)]) 76)] ++ ([(b1, cA ([s1]) 47)] ++ L)) := hS
 have hsub := hsub.trans x6
 have ab2 : ev aa9 (.tmp 46) = Value.bool true := x7 27 46 (by decide) rfl
 refine reg_nil (run_cond_true (by exact ab2) (run_seq (run_region (r_assign (Value.bool false) rfl rfl (reg_nil ?_)))))
 refine run_ret (vs := [Value.bool false]) Tryz.func113 ⟨rfl, trivial⟩ ?_
 have hz := Option.some.inj a7
 subst hz
 dsimp only [Ex.elim] at c3
 have hz := Option.some.inj c3
 subst hz
 exact ⟨_, _, rfl, hsub, (St.dropA (A := [(b1, cA ([s1]) 47)]) (St.dropA (A := [(b7, cA (enc8 .u8 ((rd a1 a3).1) ++ [vI ((rd a1 a3).2)]) 76)]) hS)), rfl⟩
 rw [if_neg a8] at a7
 refine run_draw 28 (tabL [(19, MP.eq (s0)), (20, MP.eq (vP b7)), (21, MP.eq (vA (enc8 .u8 ((rd a1 a3).1)))), (22, MP.eq (Value.bool a5)), (23, MP.eq (Value.bool (!a5))), (24, MP.eq (Value.bool (!a5))), (25, MP.eq (undef)), (26, MP.eq (undef)), (27, MP.eq (undef)), (28, MP.eq (undef)), (29, MP.eq (Value.bool true)), (30, MP.eq (Value.bool true)), (31, MP.eq (undef)), (32, MP.eq (undef)), (33, MP.eq (undef)), (34, MP.eq (undef)), (35, MP.eq (undef)), (36, MP.eq (undef)), (37, MP.eq (undef)), (38, MP.eq (undef)), (39, MP.eq (undef)), (40, MP.eq (undef)), (41, MP.eq (undef)), (42, MP.eq (undef)), (43, MP.eq (undef)), (44, MP.eq (undef)), (45, MP.eq (undef)), (46, MP.eq (Value.bool true))]) [] mixed rfl rfl rfl hS (hop_q rfl ?_ (hop_q rfl ?_ (hop_q rfl ?_ (hop_q rfl ?_ (hop_q rfl ?_ (hop_q rfl ?_ (hop_q rfl ?_ (hop_q rfl ?_ (hop_q rfl ?_ (hop_q rfl ?_ (hop_q rfl ?_ (hop_q rfl ?_ (hop_q rfl ?_ (hop_q rfl ?_ (hop_q rfl ?_ (hop_q rfl ?_ (hop_q rfl ?_ (hop_q rfl ?_ (hop_q rfl ?_ (hop_q rfl ?_ (hop_q rfl ?_ (hop_q rfl ?_ (hop_q rfl ?_ (hop_q rfl ?_ (hop_q rfl ?_ (hop_q rfl ?_ (hop_q rfl ?_ (hop_q rfl ?_ hop_nil)))))))))))))))))))))))))))) ?_
 intro n0 n1 n2 n3 i5 hS c8 i6 hcq
 have e3 := evT (c8 0 rfl) b5
 refine r_move (s0) e3 rfl ?_
 exact qn (.refl _) rfl hS rfl
 intro e4 n4 n5 n6 i7 hS c9 i8 hcq
 have e5 : ev e4 (.tmp 6) = vP b7 := Eq.trans (c9 6 rfl) rfl
 refine r_fieldAddr fld76_0 e5 rfl ?_
 exact qn (.refl _) rfl hS rfl
 intro e6 n7 n8 n9 i9 hS j0 d0 hcq
 have e7 : ev e6 (.tmp 20) = vP b7 := d0 1 20 rfl rfl
 refine r_loadAgg (enc8 .u8 ((rd a1 a3).1)) ty70 e7 (hS.get (o := cA (enc8 .u8 ((rd a1 a3).1) ++ [vI ((rd a1 a3).2)]) 76) (mR mL)) rfl (fun j hj => sub_box ([]) (enc8 .u8 ((rd a1 a3).1)) (([vI ((rd a1 a3).2)])) j hj) rfl ?_
 exact qn (.refl _) rfl hS rfl
 intro c4 o0 o1 o2 d1 hS j1 b9 hcq
 have b0 := b0.mono d1
 have e8 : ev c4 (.tmp 19) = s0 := b9 0 19 rfl rfl
 have e9 : ev c4 (.tmp 21) = vA (enc8 .u8 ((rd a1 a3).1)) := b9 2 21 rfl rfl
 refine r_callFn Tryz.call202 (args2 e8 e9) rfl (g_spec_l01Mono_ok g6 b0 hS) ?_
 rintro o3 o4 ⟨_, o5, rfl, d2, hS, rfl⟩
 refine ⟨_, rfl, ?_⟩
 exact qn d2 rfl hS rfl
 intro f0 o7 o8 o9 j2 hS j3 d3 hcq
 have f1 : ev f0 (.tmp 22) = Value.bool a5 := d3 3 22 rfl rfl
 refine r_not (b := a5) f1 rfl ?_
 exact qn (.refl _) rfl hS rfl
 intro f2 p0 p1 p2 j4 hS j5 d4 hcq
 have f3 : ev f2 (.tmp 23) = Value.bool (!a5) := d4 4 23 rfl rfl
 refine r_move (Value.bool (!a5)) f3 rfl ?_
 exact qn (.refl _) rfl hS rfl
 intro ab3 b68 b69 b70 ao8 hS ao9 x8 hcq
 have ab4 : ev ab3 (.tmp 24) = Value.bool (!a5) := x8 5 24 rfl rfl
 refine reg_unguard rfl rfl (Eq.trans ab4 (congrArg (fun b => Value.bool (!b)) (bfalse a8))) rfl rfl rfl ?_
 exact qn (.refl _) rfl hS rfl
 intro ab5 b71 b72 b73 ap0 hS ap1 x9 hcq
 have ab6 : ev ab5 (.tmp 24) = Value.bool (!a5) := x9 5 24 rfl rfl
 refine reg_unguard rfl rfl (Eq.trans ab6 (congrArg (fun b => Value.bool (!b)) (bfalse a8))) rfl rfl rfl ?_
 exact qn (.refl _) rfl hS rfl
 intro ab7 b74 b75 b76 ap2 hS ap3 y0 hcq
 have ab8 : ev ab7 (.tmp 24) = Value.bool (!a5) := y0 5 24 rfl rfl
 refine reg_unguard rfl rfl (Eq.trans ab8 (congrArg (fun b => Value.bool (!b)) (bfalse a8))) rfl rfl rfl ?_
 exact qn (.refl _) rfl hS rfl
 intro ab9 b77 b78 b79 ap4 hS ap5 y1 hcq
 have ac0 : ev ab9 (.tmp 24) = Value.bool (!a5) := y1 5 24 rfl rfl
 refine reg_unguard rfl rfl (Eq.trans ac0 (congrArg (fun b => Value.bool (!b)) (bfalse a8))) rfl rfl rfl ?_
 exact qn (.refl _) rfl hS rfl
 intro s6 b80 b81 b82 ap6 hS ap7 m6 hcq
 have ac1 : ev s6 (.tmp 24) = Value.bool (!a5) := m6 5 24 rfl rfl
 have b83 : ev s6 (.tmp 28) = undef := m6 9 28 rfl rfl
 refine r_pick (t := true) (Value.bool true) (Eq.trans ac1 (congrArg (fun b => Value.bool (!b)) (bfalse a8))) ((if_pos rfl).trans rfl) rfl ?_
 exact qn (.refl _) rfl hS rfl
 intro ac2 b84 b85 b86 ap8 hS ap9 y2 hcq
 have ac3 : ev ac2 (.tmp 29) = Value.bool true := y2 10 29 rfl rfl
 refine r_move (Value.bool true) ac3 rfl ?_
 exact qn (.refl _) rfl hS rfl
 intro ac4 b87 b88 b89 aq0 hS aq1 y3 hcq
 have ac5 : ev ac4 (.tmp 30) = Value.bool true := y3 11 30 rfl rfl
 refine reg_unguard rfl rfl ac5 rfl rfl rfl ?_
 exact qn (.refl _) rfl hS rfl
 intro ac6 b90 b91 b92 aq2 hS aq3 y4 hcq
 have ac7 : ev ac6 (.tmp 30) = Value.bool true := y4 11 30 rfl rfl
 refine reg_unguard rfl rfl ac7 rfl rfl rfl ?_
 exact qn (.refl _) rfl hS rfl
 intro ac8 b93 b94 b95 aq4 hS aq5 y5 hcq
 have ac9 : ev ac8 (.tmp 30) = Value.bool true := y5 11 30 rfl rfl
 refine reg_unguard rfl rfl ac9 rfl rfl rfl ?_
 exact qn (.refl _) rfl hS rfl
 intro ad0 b96 b97 b98 aq6 hS aq7 y6 hcq
 have ad1 : ev ad0 (.tmp 33) = undef := y6 14 33 rfl rfl
 refine reg_undef rfl rfl ad1 rfl rfl ?_
 exact qn (.refl _) rfl hS rfl
 intro ad2 b99 ba0 ba1 aq8 hS aq9 y7 hcq
 have ad3 : ev ad2 (.tmp 33) = undef := y7 14 33 rfl rfl
 refine reg_undef rfl rfl ad3 rfl rfl ?_
 exact qn (.refl _) rfl hS rfl
 intro ad4 ba2 ba3 ba4 ar0 hS ar1 y8 hcq
 have ad5 : ev ad4 (.tmp 33) = undef := y8 14 33 rfl rfl
 refine reg_undef rfl rfl ad5 rfl rfl ?_
 exact qn (.refl _) rfl hS rfl
 intro ad6 ba5 ba6 ba7 ar2 hS ar3 y9 hcq
 have ad7 : ev ad6 (.tmp 33) = undef := y9 14 33 rfl rfl
 refine reg_undef rfl rfl ad7 rfl rfl ?_
 exact qn (.refl _) rfl hS rfl
 intro ad8 ba8 ba9 bb0 ar4 hS ar5 z0 hcq
 have ad9 : ev ad8 (.tmp 33) = undef := z0 14 33 rfl rfl
 refine reg_undef rfl rfl ad9 rfl rfl ?_
 exact qn (.refl _) rfl hS rfl
 intro ae0 bb1 bb2 bb3 ar6 hS ar7 z1 hcq
 have ae1 : ev ae0 (.tmp 33) = undef := z1 14 33 rfl rfl
 refine reg_undef rfl rfl ae1 rfl rfl ?_
 exact qn (.refl _) rfl hS rfl
 intro ae2 bb4 bb5 bb6 ar8 hS ar9 z2 hcq
 have ae3 : ev ae2 (.tmp 33) = undef := z2 14 33 rfl rfl
 refine reg_undef rfl rfl ae3 rfl rfl ?_
 exact qn (.refl _) rfl hS rfl
 intro ae4 bb7 bb8 bb9 as0 hS as1 z3 hcq
 have ae5 : ev ae4 (.tmp 33) = undef := z3 14 33 rfl rfl
 refine reg_undef rfl rfl ae5 rfl rfl ?_
 exact qn (.refl _) rfl hS rfl
 intro ae6 bc0 bc1 bc2 as2 hS as3 z4 hcq
 have ae7 : ev ae6 (.tmp 33) = undef := z4 14 33 rfl rfl
 refine reg_undef rfl rfl ae7 rfl rfl ?_
 exact qn (.refl _) rfl hS rfl
 intro ae8 bc3 bc4 bc5 as4 hS as5 z5 hcq
 have ae9 : ev ae8 (.tmp 33) = undef := z5 14 33 rfl rfl
 refine reg_undef rfl rfl ae9 rfl rfl ?_
 exact qn (.refl _) rfl hS rfl
 intro af0 bc6 bc7 bc8 as6 hS as7 z6 hcq
 have af1 : ev af0 (.tmp 33) = undef := z6 14 33 rfl rfl
 refine reg_undef rfl rfl af1 rfl rfl ?_
 exact qn (.refl _) rfl hS rfl
 intro af2 bc9 bd0 bd1 as8 hS as9 z7 hcq
 have af3 : ev af2 (.tmp 30) = Value.bool true := z7 11 30 rfl rfl
 refine reg_unguard rfl rfl af3 rfl rfl rfl ?_
 exact qn (.refl _) rfl hS rfl
 intro s7 bd2 bd3 bd4 at0 hS at1 m7 hcq
 have af4 : ev s7 (.tmp 30) = Value.bool true := m7 11 30 rfl rfl
 have bd5 : ev s7 (.tmp 45) = undef := m7 26 45 rfl rfl
 refine r_pick (t := true) (Value.bool true) af4 ((if_pos rfl).trans rfl) rfl ?_
 exact qn (.refl _) rfl hS rfl
 intro af5 af6 af7 z8 hS at2 z9 hcq
 have hS : St af7 af6 ([(b7, cA (enc8 .u8 ((rd a1 a3).1) ++ [vI ((rd a1 a3).2)]) 76)] ++ ([(b1, cA ([s1]) 47)] ++ L)) := hS
 have hsub := hsub.trans z8
 have af8 : ev af5 (.tmp 46) = Value.bool true := z9 27 46 (by decide) rfl
 refine reg_nil (run_cond_true (by exact af8) (run_seq (run_region (r_assign (Value.bool false) rfl rfl (reg_nil ?_)))))
 refine run_ret (vs := [Value.bool false]) Tryz.func113 ⟨rfl, trivial⟩ ?_
 have hz := Option.some.inj a7
 subst hz
 dsimp only [Ex.elim] at c3
 have hz := Option.some.inj c3
 subst hz
 exact ⟨_, _, rfl, hsub, (St.dropA (A := [(b1, cA ([s1]) 47)]) (St.dropA (A := [(b7, cA (enc8 .u8 ((rd a1 a3).1) ++ [vI ((rd a1 a3).2)]) 76)]) hS)), rfl⟩
 rw [if_neg k7] at a7
 refine run_cond_false (Eq.trans rfl (congrArg Value.bool (decide_eq_false k7))) ?_
 refine run_exit rfl ?_
 have hz := Option.some.inj a7
 subst hz
 exact hx0 _ _ ⟨a08, rfl, hsub, hS, b4, b8⟩
 exact ⟨0, H, a7, hsub, hS, (by omega), b0, b4, rfl, rfl, rfl⟩
 rintro bd6 bd7 ⟨bd8, rfl, hsub, hS, b4, m8⟩
 dsimp only [Ex.elim] at c3
 refine run_seq (run_region (r_fieldAddr fld47_0 (by exact m8) rfl ?_))
 refine r_loadOne (s1) ty45 rfl (hS.get mL) rfl rfl ?_
 have at3 := b4.bound
 refine r_lenRd sl45 rfl b4 rfl ?_
 refine r_leq (k := .i64) (a := (a1.length : Int)) (b := 400) rfl rfl rfl (r_assign (Value.bool (decide ((a1.length : Int) ≤ 400))) rfl rfl (reg_nil ?_))
 refine run_ret (vs := [Value.bool (decide ((a1.length : Int) ≤ 400))]) Tryz.func113 ⟨rfl, trivial⟩ ?_
 have hz := Option.some.inj c3
 subst hz
 exact ⟨_, _, rfl, hsub, (St.dropA (A := [(b1, cA ([s1]) 47)]) hS), rfl⟩
def g_laws_toTerm (K : Nat) (a0 : (A8 × Int)) : Option (A8 × Int) := ((g_laws_toMonomial K a0.1).bind fun a1 => some (a1, a0.2))
theorem g_laws_toTerm_ok {K : Nat} {a0 : (A8 × Int)} {r : (A8 × Int)} (q0 : g_laws_toTerm K a0 = some r) {H : FH} {w : World} {L : OL} (hS : St H w L) :
 Calls Tryz.prog 200 #[vA (enc8 .u8 a0.1 ++ [vI a0.2])] w (Done (fun v G => (R.agg yT).p (G.new H) v r) H L) := by
 have hsub := Sub.refl H
 refine calls_of_run Tryz.func200 rfl Tryz.ntmps200 rfl ?_
 unfold g_laws_toTerm at q0
 refine run_seq (run_region ?_)
 refine r_box (v := vA (enc8 .u8 a0.1 ++ [vI a0.2])) (enc8 .u8 a0.1 ++ [vI a0.2]).toArray rfl rfl hS rfl ?_
 intro b1 w2 hS
 refine r_alloc (z := vA (enc8 .u8 (fun _ => 0) ++ [vI 0])) (enc8 .u8 (fun _ => 0) ++ [vI 0]).toArray ze76.zero rfl hS rfl ?_
 intro b4 w5 hS
 refine reg_nil (run_seq (run_region ?_))
 refine r_alloc (z := vA (enc8 .u8 (fun _ => 0) ++ [vI 0])) (enc8 .u8 (fun _ => 0) ++ [vI 0]).toArray ze76.zero rfl hS rfl ?_
 intro b7 w8 hS
 refine reg_nil (run_seq (run_region (r_fieldAddr fld236_0 rfl rfl ?_)))
 refine r_loadAgg (enc8 .u8 a0.1) ty69 rfl (hS.get (o := cA (enc8 .u8 a0.1 ++ [vI a0.2]) 236) (mR (mR mL))) rfl (fun j hj => sub_box ([]) (enc8 .u8 a0.1) (([vI a0.2])) j hj) rfl ?_
 obtain ⟨a1, a4, q0⟩ := bind_some q0
 refine r_callFn Tryz.call267 (args1 rfl) rfl (g_laws_toMonomial_ok a4  hS) ?_
 rintro a8 a9 ⟨b0, a3, rfl, a5, hS, ⟨_, rfl, rfl⟩⟩
 refine ⟨_, rfl, ?_⟩
 have hsub := hsub.trans a5
 refine r_fieldAddr fld76_0 rfl rfl ?_
 refine r_store (v := vA (enc8 .u8 a1)) (cs := (enc8 .u8 (fun _ => 0) ++ [vI 0]).toArray) (cs' := (enc8 .u8 a1 ++ [vI 0]).toArray) ty70 rfl rfl hS rfl (enc8_one .u8 a1) (Nat.le_of_ble_eq_true rfl) (by have h := splice_part (enc8 .u8 a1) ([]) (enc8 .u8 (fun _ => 0)) (([vI 0])) rfl; simp only [List.append_assoc, List.nil_append, List.append_nil] at h ⊢; exact h) ?_
 intro b2 hS
 refine reg_nil (run_seq (run_region (r_fieldAddr fld236_1 rfl rfl ?_)))
 refine r_loadOne (vI a0.2) ty2 rfl (hS.get (mR (mR mL))) rfl rfl (r_fieldAddr fld76_1 rfl rfl ?_)
 refine r_store (v := vI a0.2) (cs := (enc8 .u8 a1 ++ [vI 0]).toArray) (cs' := (enc8 .u8 a1 ++ [vI a0.2]).toArray) ty2 rfl rfl hS rfl (oneL rfl) (Nat.le_of_ble_eq_true rfl) rfl ?_
 intro a6 hS
 refine reg_nil (run_seq (run_region ?_))
 refine r_loadAll ty76 rfl (hS.get mL) rfl rfl ?_
 have hS : St a3 a6 ([(b4, cA (enc8 .u8 (fun _ => 0) ++ [vI 0]) 76)] ++ ([(b7, cA (enc8 .u8 a1 ++ [vI a0.2]) 76)] ++ ([(b1, cA (enc8 .u8 a0.1 ++ [vI a0.2]) 236)] ++ L))) := hS.perm (perm1 (A1 := [(b7, cA (enc8 .u8 a1 ++ [vI a0.2]) 76)]))
 refine r_storeAll (v := vA (enc8 .u8 a1 ++ [vI a0.2])) (vs := (enc8 .u8 a1 ++ [vI a0.2]).toArray) (cs := (enc8 .u8 (fun _ => 0) ++ [vI 0]).toArray) ty76 rfl rfl rfl hS rfl (one_app (enc8_one .u8 a1) (one1 rfl)) rfl ?_
 intro a7 hS
 have hS : St a3 a7 ([(b7, cA (enc8 .u8 a1 ++ [vI a0.2]) 76)] ++ ([(b4, cA (enc8 .u8 a1 ++ [vI a0.2]) 76)] ++ ([(b1, cA (enc8 .u8 a0.1 ++ [vI a0.2]) 236)] ++ L))) := hS.perm (perm1 (A1 := [(b7, cA (enc8 .u8 a1 ++ [vI a0.2]) 76)])).symm
 refine reg_nil ?_
 refine run_ret (vs := [vA (enc8 .u8 a1 ++ [vI a0.2])]) Tryz.func200 ⟨⟨_, rfl, run_loadAll ty76 (hS.get (mR mL)) rfl⟩, trivial⟩ ?_
 have hz := Option.some.inj q0
 subst hz
 exact ⟨_, _, rfl, hsub, (St.dropA (A := [(b1, cA (enc8 .u8 a0.1 ++ [vI a0.2]) 236)]) (St.dropA (A := [(b4, cA (enc8 .u8 a1 ++ [vI a0.2]) 76)]) (St.dropA (A := [(b7, cA (enc8 .u8 a1 ++ [vI a0.2]) 76)]) hS))), ⟨_, rfl, ⟨_, _, rfl, rfl, rfl⟩⟩⟩
def g_slices_ContainsFunc_Sint64_int64 (K : Nat) (a0 : (List Int)) (a1 : (Int → Option Bool)) : Option Bool := ((g_slices_IndexFunc_Sint64_int64 K a0 a1).bind fun r1 => some (decide (0 ≤ r1)))
theorem g_slices_ContainsFunc_Sint64_int64_ok {K : Nat} {a0 : (List Int)} {a1 : (Int → Option Bool)} {r : Bool} (q0 : g_slices_ContainsFunc_Sint64_int64 K a0 a1 = some r) {H : FH} {w : World} {L : OL} {s0 : Value} {s1 : Value} (a3 : RdSl (tyInt .i64) H s0 a0) (a4 : FnQ Tryz.prog s1 (R.int .i64) a1 H) (hS : St H w L) :
 Calls Tryz.prog 218 #[s0, s1] w (Done (fun v G => R.bool.p G v r) H L) := by
 have hsub := Sub.refl H
 refine calls_of_run Tryz.func218 rfl Tryz.ntmps218 rfl ?_
 unfold g_slices_ContainsFunc_Sint64_int64 at q0
 refine run_seq (run_region (r_assign (Value.bool false) rfl rfl (reg_nil (run_seq (run_region (r_move (s0) rfl rfl (r_move (s1) rfl rfl ?_)))))))
 obtain ⟨r1, a5, q0⟩ := bind_some q0
 refine r_callFn Tryz.call263 (args2 rfl rfl) rfl (g_slices_IndexFunc_Sint64_int64_ok a5 a3 a4 hS) ?_
 rintro e1 w2 ⟨_, H1, rfl, a6, hS, rfl⟩
 refine ⟨_, rfl, ?_⟩
 have hsub := hsub.trans a6
 refine r_geq (k := .i64) (a := r1) (b := 0) rfl rfl rfl (r_assign (Value.bool (decide (0 ≤ r1))) rfl rfl (reg_nil ?_))
 refine run_ret (vs := [Value.bool (decide (0 ≤ r1))]) Tryz.func218 ⟨rfl, trivial⟩ ?_
 have hz := Option.some.inj q0
 subst hz
 exact ⟨_, _, rfl, hsub, hS, rfl⟩
end Go.Proofs.YtfodlhkoafhplaaGreat
