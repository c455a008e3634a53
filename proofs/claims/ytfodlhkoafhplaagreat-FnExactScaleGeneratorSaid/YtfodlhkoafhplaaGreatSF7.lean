/- Walks of functions: each computes its pure function, if that gives a value. -/
import Derived.Test.YtfodlhkoafhplaaGreatSTy
import Derived.Test.YtfodlhkoafhplaaGreatSF2
import Derived.Test.YtfodlhkoafhplaaGreatSF4
import Derived.Test.YtfodlhkoafhplaaGreatSF1
namespace Go.Proofs.YtfodlhkoafhplaaGreat
open Go
set_option linter.unusedSimpArgs false
set_option linter.unusedVariables false
set_option maxRecDepth 100000
set_option maxHeartbeats 1000000
def g_spec_l01Shift_l0 (K : Nat) (a0 : (List Int)) (a1 : (A8 × Int)) (a2 : MpT) : Nat → Int → MpT → Option (Ex MpT (MpT))
 | 0, _, _ => none
 | k + 1, a5, a7 => (if a5 < (a2.length : Int) then ((g_spec_l01Joined K a0 a1.1 ((rd a2 a5).1)).bind fun a3 => (if a3.2 = 0 then g_spec_l01Shift_l0 K a0 a1 a2 k (a5 + 1) a7 else ((g_spec_l01Mod K (IntKind.i64.wrap ((IntKind.i64.wrap (a3.2 * a1.2)) * (rd a2 a5).2))).bind fun b6 => (if a7.length + ([(a3.1, b6)]).length ≤ 1099511627776 then g_spec_l01Shift_l0 K a0 a1 a2 k (a5 + 1) (a7 ++ [(a3.1, b6)]) else none)))) else some (.go a7))
def g_spec_l01Shift (K : Nat) (a0 : (List Int)) (a1 : (A8 × Int)) (a2 : MpT) : Option MpT := ((g_spec_l01Shift_l0 K a0 a1 a2 K 0 ([] : List (A8 × Int))).bind (Ex.elim (fun r => some r) (fun s => (fun (b3 : MpT) => some b3) s)))
theorem g_spec_l01Shift_ok {K : Nat} {a0 : (List Int)} {a1 : (A8 × Int)} {a2 : MpT} {r : MpT} (q0 : g_spec_l01Shift K a0 a1 a2 = some r) {H : FH} {w : World} {L : OL} {s0 : Value} {s1 : Value} (c0 : RdSl (tyInt .i64) H s0 a0) (b9 : RdSl yT H s1 a2) (hS : St H w L) :
 Calls Tryz.prog 251 #[s0, vA (enc8 .u8 a1.1 ++ [vI a1.2]), vA ([s1])] w (Done (fun v G => (R.agg (tySl yT)).p G v r) H L) := by
 have hsub := Sub.refl H
 refine calls_of_run Tryz.func251 rfl Tryz.ntmps251 rfl ?_
 unfold g_spec_l01Shift at q0
 refine run_seq (run_region ?_)
 refine r_box (v := vA (enc8 .u8 a1.1 ++ [vI a1.2])) (enc8 .u8 a1.1 ++ [vI a1.2]).toArray rfl rfl hS rfl ?_
 intro b1 w2 hS
 refine r_box (v := vA ([s1])) ([s1]).toArray rfl rfl hS rfl ?_
 intro b4 w5 hS
 refine r_alloc (z := vA ([vN])) ([vN]).toArray ze47.zero rfl hS rfl ?_
 intro b7 w8 hS
 refine reg_nil (run_seq (run_region ?_))
 refine r_build0 (vA ([vN])) bz47 rfl ?_
 refine r_alloc (z := vA ([vN])) ([vN]).toArray ze47.zero rfl hS rfl ?_
 intro b5 w11 hS
 refine r_storeAll (v := vA ([vN])) (vs := ([vN]).toArray) (cs := ([vN]).toArray) ty47 rfl rfl rfl hS rfl (one1 rfl) rfl ?_
 intro w13 hS
 refine reg_nil (run_seq (run_seq (run_region (r_assign (vI 0) rfl rfl (reg_nil (run_block ?_))))))
 have g2 : OwnSl yT 76 H (.slice none 0 0) [] [] := OwnSl.nil _ _ _
 obtain ⟨g3, b2, g4⟩ := bind_some q0
 refine loop_ind (id := 0) (fun k f w => ∃ (a5 : Int) (a7 : MpT) (H1 : FH) (a8 : OL) (a4 : Value), g_spec_l01Shift_l0 K a0 a1 a2 k a5 a7 = some g3 ∧ Sub H H1 ∧ St H1 w (a8 ++ ([(b5, cA ([a4]) 47)] ++ ([(b7, cA ([vN]) 47)] ++ ([(b4, cA ([s1]) 47)] ++ ([(b1, cA (enc8 .u8 a1.1 ++ [vI a1.2]) 76)] ++ L))))) ∧ 0 ≤ a5 ∧ OwnSl yT 76 H1 a4 a7 a8 ∧ RdSl (tyInt .i64) H1 s0 a0 ∧ RdSl yT H1 s1 a2 ∧ ev f (.tmp 0) = s0 ∧ ev f (.tmp 4) = vP b1 ∧ ev f (.tmp 5) = vP b4 ∧ ev f (.tmp 6) = vP b7 ∧ ev f (.tmp 7) = vP b5 ∧ ev f (.tmp 8) = vI a5) (fun f w => ∃ (b3 : MpT) (H1 : FH) (b0 : OL) (a6 : Value), g3 = .go b3 ∧ Sub H H1 ∧ St H1 w (b0 ++ ([(b5, cA ([a6]) 47)] ++ ([(b7, cA ([vN]) 47)] ++ ([(b4, cA ([s1]) 47)] ++ ([(b1, cA (enc8 .u8 a1.1 ++ [vI a1.2]) 76)] ++ L))))) ∧ OwnSl yT 76 H1 a6 b3 b0 ∧ RdSl yT H1 s1 a2 ∧ ev f (.tmp 6) = vP b7 ∧ ev f (.tmp 7) = vP b5) rfl ?_ ?_ K ?_ ?_
 rintro f w ⟨a5, a7, H1, a8, a4, b2, _⟩
 rw [g_spec_l01Shift_l0] at b2; cases b2
 rintro k y5 y6 l5 r6 ⟨a5, a7, l7, a8, a4, b2, hsub, hS, r7, a9, c0, b9, d5, d6, c7, d7, d8, c8⟩
 rw [g_spec_l01Shift_l0] at b2
 refine run_seq (run_seq (run_region (r_move (vI a5) (by exact c8) rfl (r_fieldAddr fld47_0 (by exact c7) rfl ?_))))
 refine r_loadOne (s1) ty45 rfl (hS.get (mR (mR (mR mL)))) rfl rfl ?_
 have y7 := b9.bound
 refine r_lenRd sl45 rfl b9 rfl ?_
 refine r_lss (k := .i64) (a := a5) (b := (a2.length : Int)) rfl rfl rfl (reg_nil ?_)
 by_cases e0 : a5 < (a2.length : Int)
 rw [if_pos e0] at b2
 refine run_cond_true (Eq.trans rfl (congrArg Value.bool (decide_eq_true e0))) (run_skip (run_seq (run_block (run_seq ?_))))
 obtain ⟨f2, f3, y8, E80, _, l9, e7, ⟨_, _, rfl, rfl, rfl⟩, m0⟩ := b9.elem (i := a5) (by omega) (by omega)
 obtain ⟨a3, i4, b2⟩ := bind_some b2
 refine run_draw 16 (tabL [(20, MP.eq (s0)), (21, MP.eq (vP b1)), (22, MP.eq (vA (enc8 .u8 a1.1))), (23, MP.eq (vP b4)), (24, MP.eq (s1)), (25, MP.eq (vI a5)), (26, MP.eq (Value.pointer (some ⟨f2, f3, none⟩))), (27, MP.eq (Value.pointer (some ⟨f2, f3 + 0, none⟩))), (28, MP.eq (vA (enc8 .u8 ((rd a2 a5).1)))), (29, MP.eq (Value.tuple #[vA (enc8 .u8 a3.1), vI a3.2])), (19, MP.eq (Value.tuple #[vA (enc8 .u8 a3.1), vI a3.2])), (30, MP.eq (vA (enc8 .u8 a3.1))), (31, MP.eq (vI a3.2)), (9, MP.box (cA (enc8 .u8 (fun _ => 0)) 70)), (10, MP.eq (vI a3.2))]) [Co.st 13 9 14 11 30 (objA 70)] mixed rfl (conOk_num (ns := [(13, 9, 14, 11, 30)]) rfl rfl) rfl hS (hop_q rfl ?_ (hop_q rfl ?_ (hop_q rfl ?_ (hop_q rfl ?_ (hop_q rfl ?_ (hop_q rfl ?_ (hop_q rfl ?_ (hop_q rfl ?_ (hop_q rfl ?_ (hop_q rfl ?_ (hop_q rfl ?_ (hop_q rfl ?_ (hop_q rfl ?_ (hop_q rfl ?_ (hop_s rfl ?_ (hop_q rfl ?_ hop_nil)))))))))))))))) ?_
 intro f16 w17 H18 X19 y9 hS m1 z0 hcq
 refine r_move (s0) (evT (m1 0 rfl) d5) rfl ?_
 exact qn (.refl _) rfl hS rfl
 intro f25 w26 H27 X28 z1 hS m2 z2 hcq
 refine r_fieldAddr fld76_0 (evT (m2 4 rfl) d6) rfl ?_
 exact qn (.refl _) rfl hS rfl
 intro r8 w35 H36 X37 z3 hS z4 m3 hcq
 have r9 : ev r8 (.tmp 21) = vP b1 := m3 1 21 rfl rfl
 refine r_loadAgg (enc8 .u8 a1.1) ty70 r9 (hS.get (o := cA (enc8 .u8 a1.1 ++ [vI a1.2]) 76) (mR (mR (mR (mR (mR mL)))))) rfl (fun j hj => sub_box ([]) (enc8 .u8 a1.1) (([vI a1.2])) j hj) rfl ?_
 exact qn (.refl _) rfl hS rfl
 intro f43 w44 H45 X46 z5 hS m4 z6 hcq
 refine r_fieldAddr fld47_0 (evT (m4 5 rfl) c7) rfl ?_
 exact qn (.refl _) rfl hS rfl
 intro s2 w53 H54 X55 z7 hS z8 m5 hcq
 have s3 : ev s2 (.tmp 23) = vP b4 := m5 3 23 rfl rfl
 refine r_loadOne (s1) ty45 s3 (hS.get (mR (mR (mR (mR mL))))) rfl rfl ?_
 exact qn (.refl _) rfl hS rfl
 intro f61 w62 H63 X64 z9 hS m6 a00 hcq
 refine r_move (vI a5) (evT (m6 8 rfl) c8) rfl ?_
 exact qn (.refl _) rfl hS rfl
 intro l6 w71 H72 X73 a01 hS a02 g5 hcq
 have s4 : ev l6 (.tmp 24) = s1 := g5 4 24 rfl rfl
 have s5 : ev l6 (.tmp 25) = vI a5 := g5 5 25 rfl rfl
 refine r_indexAt sl45 rfl s4 l9 s5 (by omega) (by omega) rfl ?_
 exact qn (.refl _) rfl hS rfl
 intro s6 w82 H83 X84 a03 hS a04 m7 hcq
 have s7 : ev s6 (.tmp 26) = Value.pointer (some ⟨f2, f3, none⟩) := m7 6 26 rfl rfl
 refine r_fieldAddr fld76_0 s7 rfl ?_
 exact qn (.refl _) rfl hS rfl
 intro s8 w91 H92 X93 m8 hS a05 m9 hcq
 have e7 := m8.1 _ _ e7
 have s9 : ev s8 (.tmp 27) = Value.pointer (some ⟨f2, f3 + 0, none⟩) := m9 7 27 rfl rfl
 refine r_loadAgg (enc8 .u8 ((rd a2 a5).1)) ty70 s9 (hS.froz _ _ e7) rfl (sub_cells ([]) (enc8 .u8 ((rd a2 a5).1)) (([vI ((rd a2 a5).2)])) m0 (Nat.le_of_ble_eq_true rfl)) rfl ?_
 exact qn (.refl _) rfl hS rfl
 intro g6 a06 a07 a08 i5 hS t4 e1 hcq
 have c0 := c0.mono i5
 have n0 : ev g6 (.tmp 20) = s0 := e1 0 20 rfl rfl
 have n1 : ev g6 (.tmp 22) = vA (enc8 .u8 a1.1) := e1 2 22 rfl rfl
 have n2 : ev g6 (.tmp 28) = vA (enc8 .u8 ((rd a2 a5).1)) := e1 8 28 rfl rfl
 refine r_callFn Tryz.call282 (args3 n0 n1 n2) rfl (g_spec_l01Joined_ok i4 c0 hS) ?_
 rintro a09 a10 ⟨_, a11, rfl, i6, hS, ⟨t0, t1, rfl, ⟨_, rfl, rfl⟩, rfl⟩⟩
 refine ⟨_, rfl, ?_⟩
 exact qn i6 rfl hS rfl
 intro n3 a12 a13 a14 t5 hS t6 i7 hcq
 have n4 : ev n3 (.tmp 29) = Value.tuple #[vA (enc8 .u8 a3.1), vI a3.2] := i7 9 29 rfl rfl
 refine r_move (Value.tuple #[vA (enc8 .u8 a3.1), vI a3.2]) n4 rfl ?_
 exact qn (.refl _) rfl hS rfl
 intro n5 a15 a16 a17 t7 hS t8 i8 hcq
 have n6 : ev n5 (.tmp 19) = Value.tuple #[vA (enc8 .u8 a3.1), vI a3.2] := i8 10 19 rfl rfl
 refine r_extract (vA (enc8 .u8 a3.1)) n6 rfl rfl ?_
 exact qn (.refl _) rfl hS rfl
 intro n7 a18 a19 a20 t9 hS u0 i9 hcq
 have n8 : ev n7 (.tmp 19) = Value.tuple #[vA (enc8 .u8 a3.1), vI a3.2] := i9 10 19 rfl rfl
 refine r_extract (vI a3.2) n8 rfl rfl ?_
 exact qn (.refl _) rfl hS rfl
 intro a21 a22 a23 a24 u1 hS u2 u3 hcq
 refine r_alloc (z := vA (enc8 .u8 (fun _ => 0))) (enc8 .u8 (fun _ => 0)).toArray ze70.zero rfl hS rfl ?_
 intro a25 a26 hS
 exact qn (.refl _) rfl hS ⟨_, rfl⟩
 intro c4 n9 g7 o0 u4 hS u5 f4 hcq
 have hsub := Sub.refl g7
 obtain ⟨g8, d4⟩ := f4 13 9 rfl rfl
 have d4 : c4 9 = vP g8 := d4
 have hS : St g7 n9 (ptrRes (cA (enc8 .u8 (fun _ => 0)) 70) (c4 9) ++ (o0 ++ (a8 ++ ([(b5, cA ([a4]) 47)] ++ ([(b7, cA ([vN]) 47)] ++ ([(b4, cA ([s1]) 47)] ++ ([(b1, cA (enc8 .u8 a1.1 ++ [vI a1.2]) 76)] ++ L))))))) := hS
 rw [d4] at hS
 have o1 : ev c4 (.tmp 9) = vP g8 := d4
 have g9 : ev c4 (.tmp 30) = vA (enc8 .u8 a3.1) := f4 11 30 rfl rfl
 refine r_storeAll (v := vA (enc8 .u8 a3.1)) (vs := (enc8 .u8 a3.1).toArray) (cs := (enc8 .u8 (fun _ => 0)).toArray) ty70 o1 g9 rfl hS rfl (enc8_one .u8 a3.1) rfl ?_
 intro a27 hS
 have o2 : c4 30 = vA (enc8 .u8 a3.1) := g9
 exact reg_nil ⟨_, rfl, rfl, hsub, by show St _ _ (ptrRes (objA 70 (c4 30)) (c4 9) ++ _); rw [d4, o2]; exact hS, trivial⟩
 intro o3 a28 a29 a30 u6 hS u7 j0 hcq
 have o4 : ev o3 (.tmp 31) = vI a3.2 := j0 12 31 rfl rfl
 refine r_assign (vI a3.2) o4 rfl ?_
 exact qn (.refl _) rfl hS rfl
 intro c5 o5 h0 d1 hS c2 e2 hcq
 have hS : St h0 o5 ((ptrRes (objA 70 (c5 30)) (c5 9) ++ ([])) ++ (a8 ++ ([(b5, cA ([a4]) 47)] ++ ([(b7, cA ([vN]) 47)] ++ ([(b4, cA ([s1]) 47)] ++ ([(b1, cA (enc8 .u8 a1.1 ++ [vI a1.2]) 76)] ++ L)))))) := hS
 have hsub := hsub.trans d1
 have c0 := c0.mono d1
 have b9 := b9.mono d1
 have a9 := a9.mono d1
 have h1 := evT (c2 0 rfl) d5
 have e8 := evT (c2 4 rfl) d6
 have e9 := evT (c2 5 rfl) c7
 have h2 := evT (c2 6 rfl) d7
 have f0 := evT (c2 7 rfl) d8
 have f1 := evT (c2 8 rfl) c8
 have o6 : ev c5 (.tmp 30) = vA (enc8 .u8 a3.1) := e2 11 30 (by decide) rfl
 have h3 : ev c5 (.tmp 10) = vI a3.2 := e2 15 10 (by decide) rfl
 obtain ⟨b8, c9⟩ := e2 13 9 (by decide) rfl
 have c9 : c5 9 = vP b8 := c9
 rw [c9] at hS
 have c9 : ev c5 (.tmp 9) = _ := c9
 have o7 : c5 30 = vA (enc8 .u8 a3.1) := o6
 rw [o7] at hS
 refine reg_nil (run_seq (run_region (r_move (vI a3.2) (by exact h3) rfl ?_)))
 refine r_neq (k := .i64) (a := a3.2) (b := 0) rfl rfl rfl (reg_nil ?_)
 by_cases d2 : a3.2 = 0
 rw [if_pos d2] at b2
 refine run_cond_false (Eq.trans rfl (congrArg (fun b => Value.bool (!b)) (decide_eq_true d2))) (run_skip (run_inBlock (run_region (r_move (vI a5) (by exact f1) rfl ?_))))
 refine r_add (a5 + 1) rfl rfl (IntWalk.i64_in _ (by omega)) rfl (r_assign (vI (a5 + 1)) rfl rfl (reg_nil ?_))
 have hS := St.dropA (A := [(b8, cA (enc8 .u8 a3.1) 70)]) hS
 exact l5 _ _ ⟨(a5 + 1), a7, h0, a8, a4, b2, hsub, hS, (by omega), a9, c0, b9, h1, e8, e9, h2, f0, rfl⟩
 rw [if_neg d2] at b2
 refine run_cond_true (Eq.trans rfl (congrArg (fun b => Value.bool (!b)) (decide_eq_false d2))) ?_
 obtain ⟨e3, e4, u8, a31, _, j1, e5, ⟨_, _, rfl, rfl, rfl⟩, j2⟩ := b9.elem (i := a5) (by omega) (by omega)
 obtain ⟨b6, j3, b2⟩ := bind_some b2
 refine run_draw 17 (tabL [(34, MP.eq (vP b5)), (35, MP.eq (a4)), (36, MP.eq (vA (enc8 .u8 a3.1))), (37, MP.eq (vI a3.2)), (38, MP.eq (Value.pointer (some ⟨b1, 8, none⟩))), (39, MP.eq (vI a1.2)), (40, MP.eq (vI (IntKind.i64.wrap (a3.2 * a1.2)))), (41, MP.eq (vP b4)), (42, MP.eq (s1)), (43, MP.eq (vI a5)), (44, MP.eq (Value.pointer (some ⟨e3, e4, none⟩))), (45, MP.eq (Value.pointer (some ⟨e3, e4 + 8, none⟩))), (46, MP.eq (vI ((rd a2 a5).2))), (47, MP.eq (vI (IntKind.i64.wrap ((IntKind.i64.wrap (a3.2 * a1.2)) * (rd a2 a5).2)))), (48, MP.eq (vI b6)), (49, MP.eq (vA (enc8 .u8 a3.1 ++ [vI b6]))), (50, MP.sl yT ([(a3.1, b6)]))]) [] mixed rfl rfl rfl hS (hop_q rfl ?_ (hop_q rfl ?_ (hop_q rfl ?_ (hop_q rfl ?_ (hop_q rfl ?_ (hop_q rfl ?_ (hop_q rfl ?_ (hop_q rfl ?_ (hop_q rfl ?_ (hop_q rfl ?_ (hop_q rfl ?_ (hop_q rfl ?_ (hop_q rfl ?_ (hop_q rfl ?_ (hop_q rfl ?_ (hop_q rfl ?_ (hop_q rfl ?_ hop_nil))))))))))))))))) ?_
 intro a32 a33 a34 a35 u9 hS j4 v0 hcq
 refine r_fieldAddr fld47_0 (evT (j4 7 rfl) f0) rfl ?_
 exact qn (.refl _) rfl hS rfl
 intro o8 a36 a37 a38 v1 hS v2 j5 hcq
 have o9 : ev o8 (.tmp 34) = vP b5 := j5 0 34 rfl rfl
 refine r_loadOne (a4) ty45 o9 (hS.get (mR (mR (mR mL)))) rfl rfl ?_
 exact qn (.refl _) rfl hS rfl
 intro a39 a40 a41 a42 v3 hS j6 v4 hcq
 refine r_loadAll ty70 (evT (j6 9 rfl) c9) (hS.get (mR mL)) rfl rfl ?_
 exact qn (.refl _) rfl hS rfl
 intro a43 a44 a45 a46 v5 hS j7 v6 hcq
 refine r_move (vI a3.2) (evT (j7 10 rfl) h3) rfl ?_
 exact qn (.refl _) rfl hS rfl
 intro a47 a48 a49 a50 v7 hS j8 v8 hcq
 refine r_fieldAddr fld76_1 (evT (j8 4 rfl) e8) rfl ?_
 exact qn (.refl _) rfl hS rfl
 intro p0 a51 a52 a53 v9 hS w0 j9 hcq
 have p1 : ev p0 (.tmp 38) = Value.pointer (some ⟨b1, 8, none⟩) := j9 4 38 rfl rfl
 refine r_loadOne (vI a1.2) ty2 p1 (hS.get (mR (mR (mR (mR (mR (mR mL))))))) rfl rfl ?_
 exact qn (.refl _) rfl hS rfl
 intro h4 a54 a55 a56 w1 hS w3 f5 hcq
 have p2 : ev h4 (.tmp 37) = vI a3.2 := f5 3 37 rfl rfl
 have p3 : ev h4 (.tmp 39) = vI a1.2 := f5 5 39 rfl rfl
 refine r_mul (IntKind.i64.wrap (a3.2 * a1.2)) p2 p3 rfl rfl ?_
 exact qn (.refl _) rfl hS rfl
 intro a57 a58 a59 a60 w4 hS k0 w6 hcq
 refine r_fieldAddr fld47_0 (evT (k0 5 rfl) e9) rfl ?_
 exact qn (.refl _) rfl hS rfl
 intro p4 a61 a62 a63 w7 hS w9 k1 hcq
 have p5 : ev p4 (.tmp 41) = vP b4 := k1 7 41 rfl rfl
 refine r_loadOne (s1) ty45 p5 (hS.get (mR (mR (mR (mR (mR mL)))))) rfl rfl ?_
 exact qn (.refl _) rfl hS rfl
 intro a64 a65 a66 a67 x0 hS k2 x1 hcq
 refine r_move (vI a5) (evT (k2 8 rfl) f1) rfl ?_
 exact qn (.refl _) rfl hS rfl
 intro h5 a68 a69 a70 x2 hS x3 f6 hcq
 have p6 : ev h5 (.tmp 42) = s1 := f6 8 42 rfl rfl
 have p7 : ev h5 (.tmp 43) = vI a5 := f6 9 43 rfl rfl
 refine r_indexAt sl45 rfl p6 j1 p7 (by omega) (by omega) rfl ?_
 exact qn (.refl _) rfl hS rfl
 intro p8 a71 a72 a73 x4 hS x5 k3 hcq
 have p9 : ev p8 (.tmp 44) = Value.pointer (some ⟨e3, e4, none⟩) := k3 10 44 rfl rfl
 refine r_fieldAddr fld76_1 p9 rfl ?_
 exact qn (.refl _) rfl hS rfl
 intro q1 a74 a75 a76 k4 hS x6 k5 hcq
 have e5 := k4.1 _ _ e5
 have q2 : ev q1 (.tmp 45) = Value.pointer (some ⟨e3, e4 + 8, none⟩) := k5 11 45 rfl rfl
 refine r_loadOne (vI ((rd a2 a5).2)) ty2 q2 (hS.froz _ _ e5) (j2 8 (show 8 < 9 by decide)) rfl ?_
 exact qn (.refl _) rfl hS rfl
 intro h6 a77 a78 a79 x7 hS x8 f7 hcq
 have q3 : ev h6 (.tmp 40) = vI (IntKind.i64.wrap (a3.2 * a1.2)) := f7 6 40 rfl rfl
 have q4 : ev h6 (.tmp 46) = vI ((rd a2 a5).2) := f7 12 46 rfl rfl
 refine r_mul (IntKind.i64.wrap ((IntKind.i64.wrap (a3.2 * a1.2)) * (rd a2 a5).2)) q3 q4 rfl rfl ?_
 exact qn (.refl _) rfl hS rfl
 intro q5 a80 a81 a82 x9 hS y0 k6 hcq
 have q6 : ev q5 (.tmp 47) = vI (IntKind.i64.wrap ((IntKind.i64.wrap (a3.2 * a1.2)) * (rd a2 a5).2)) := k6 13 47 rfl rfl
 refine r_callFn Tryz.call217 (args1 q6) rfl (g_spec_l01Mod_ok j3  hS) ?_
 rintro a83 a84 ⟨_, a85, rfl, k7, hS, rfl⟩
 refine ⟨_, rfl, ?_⟩
 exact qn k7 rfl hS rfl
 intro h7 a86 a87 a88 y1 hS y2 f8 hcq
 have q7 : ev h7 (.tmp 36) = vA (enc8 .u8 a3.1) := f8 2 36 rfl rfl
 have q8 : ev h7 (.tmp 48) = vI b6 := f8 14 48 rfl rfl
 refine r_build (enc8 .u8 a3.1 ++ [vI b6]) bu76 (parts2 q7 q8) (fill_cons rfl rfl rfl (Nat.le_of_ble_eq_true rfl) (fill_cons rfl rfl rfl (Nat.le_of_ble_eq_true rfl) (fill_nil rfl))) rfl ?_
 exact qn (.refl _) rfl hS rfl
 intro q9 a89 a90 a91 y3 hS y4 k8 hcq
 have r0 : ev q9 (.tmp 49) = vA (enc8 .u8 a3.1 ++ [vI b6]) := k8 15 49 rfl rfl
 refine r_lit (τ := yT) sl45 ze76 rfl [vA (enc8 .u8 a3.1 ++ [vI b6])] [(a3.1, b6)] rfl rfl (parts1 r0) (rel1 ⟨_, _, rfl, rfl, rfl⟩) (by decide) (by decide) hS rfl ?_
 intro a92 a93 a94 k9 hS l0
 exact qn k9 rfl hS l0
 intro h8 h9 c6 d3 hS c3 f9 hcq
 have hS : St c6 h9 ([(b8, cA (enc8 .u8 a3.1) 70)] ++ (a8 ++ ([(b5, cA ([a4]) 47)] ++ ([(b7, cA ([vN]) 47)] ++ ([(b4, cA ([s1]) 47)] ++ ([(b1, cA (enc8 .u8 a1.1 ++ [vI a1.2]) 76)] ++ L)))))) := hS
 have hsub := hsub.trans d3
 have c0 := c0.mono d3
 have b9 := b9.mono d3
 have a9 := a9.mono d3
 have i0 := evT (c3 7 rfl) f0
 have r1 : ev h8 (.tmp 35) = a4 := f9 1 35 (by decide) rfl
 obtain ⟨r2, i1⟩ : ∃ v, ev h8 (.tmp 50) = v := ⟨_, rfl⟩
 have l1 : RdSl yT c6 r2 ([(a3.1, b6)]) := i1 ▸ (f9 16 50 (by decide) rfl)
 obtain ⟨l2, b2⟩ := gd b2
 have hS : St c6 h9 (a8 ++ ([(b8, cA (enc8 .u8 a3.1) 70)] ++ ([(b5, cA ([a4]) 47)] ++ ([(b7, cA ([vN]) 47)] ++ ([(b4, cA ([s1]) 47)] ++ ([(b1, cA (enc8 .u8 a1.1 ++ [vI a1.2]) 76)] ++ L)))))) := hS.perm (perm1 (A1 := [(b8, cA (enc8 .u8 a3.1) 70)]))
 refine r_append (τ := yT) ap45 rfl (by exact r1) (by exact i1) a9 hS l1 l2 rfl ?_
 intro e6 i2 d0 g0 hS
 have hS : St c6 i2 ([(b8, cA (enc8 .u8 a3.1) 70)] ++ (d0 ++ ([(b5, cA ([a4]) 47)] ++ ([(b7, cA ([vN]) 47)] ++ ([(b4, cA ([s1]) 47)] ++ ([(b1, cA (enc8 .u8 a1.1 ++ [vI a1.2]) 76)] ++ L)))))) := hS.perm (perm1 (A1 := [(b8, cA (enc8 .u8 a3.1) 70)])).symm
 refine r_fieldAddr fld47_0 (by exact i0) rfl ?_
 have hS : St c6 i2 ([(b5, cA ([a4]) 47)] ++ ([(b8, cA (enc8 .u8 a3.1) 70)] ++ (d0 ++ ([(b7, cA ([vN]) 47)] ++ ([(b4, cA ([s1]) 47)] ++ ([(b1, cA (enc8 .u8 a1.1 ++ [vI a1.2]) 76)] ++ L)))))) := hS.perm (perm2 (A1 := [(b8, cA (enc8 .u8 a3.1) 70)]) (A2 := d0))
 refine r_store1 (v := e6) (cs := ([a4]).toArray) (cs' := ([e6]).toArray) ty45 rfl rfl hS g0.isOne rfl (Nat.le_of_ble_eq_true rfl) rfl ?_
 intro r3 hS
 have hS : St c6 r3 ([(b8, cA (enc8 .u8 a3.1) 70)] ++ (d0 ++ ([(b5, cA ([e6]) 47)] ++ ([(b7, cA ([vN]) 47)] ++ ([(b4, cA ([s1]) 47)] ++ ([(b1, cA (enc8 .u8 a1.1 ++ [vI a1.2]) 76)] ++ L)))))) := hS.perm (perm2 (A1 := [(b8, cA (enc8 .u8 a3.1) 70)]) (A2 := d0)).symm
 refine reg_nil (run_inBlock (run_region (r_move (vI a5) (by exact (evT (c3 8 rfl) f1)) rfl ?_)))
 refine r_add (a5 + 1) rfl rfl (IntWalk.i64_in _ (by omega)) rfl (r_assign (vI (a5 + 1)) rfl rfl (reg_nil ?_))
 have hS := St.dropA (A := [(b8, cA (enc8 .u8 a3.1) 70)]) hS
 exact l5 _ _ ⟨(a5 + 1), (a7 ++ [(a3.1, b6)]), c6, d0, e6, b2, hsub, hS, (by omega), g0, c0, b9, (evT (c3 0 rfl) h1), (evT (c3 4 rfl) e8), (evT (c3 5 rfl) e9), (evT (c3 6 rfl) h2), i0, rfl⟩
 rw [if_neg e0] at b2
 refine run_cond_false (Eq.trans rfl (congrArg Value.bool (decide_eq_false e0))) ?_
 refine run_exit rfl ?_
 have hz := Option.some.inj b2
 subst hz
 exact r6 _ _ ⟨a7, l7, a8, a4, rfl, hsub, hS, a9, b9, d7, d8⟩
 exact ⟨0, ([] : List (A8 × Int)), H, ([]), (vN), b2, hsub, hS, (by omega), g2, c0, b9, rfl, rfl, rfl, rfl, rfl, rfl⟩
 rintro a95 r4 ⟨b3, i3, b0, a6, rfl, hsub, hS, c1, b9, d9, g1⟩
 dsimp only [Ex.elim] at g4
 refine run_seq (run_region ?_)
 refine r_loadAll ty47 (by exact g1) (hS.get (mR mL)) rfl rfl ?_
 have hS : St i3 r4 ([(b7, cA ([vN]) 47)] ++ (b0 ++ ([(b5, cA ([a6]) 47)] ++ ([(b4, cA ([s1]) 47)] ++ ([(b1, cA (enc8 .u8 a1.1 ++ [vI a1.2]) 76)] ++ L))))) := hS.perm (perm2 (A1 := b0) (A2 := [(b5, cA ([a6]) 47)]))
 refine r_storeAll (v := vA ([a6])) (vs := ([a6]).toArray) (cs := ([vN]).toArray) ty47 (by exact d9) rfl rfl hS rfl (one1 c1.isOne) rfl ?_
 intro r5 hS
 have hS : St i3 r5 (b0 ++ ([(b5, cA ([a6]) 47)] ++ ([(b7, cA ([a6]) 47)] ++ ([(b4, cA ([s1]) 47)] ++ ([(b1, cA (enc8 .u8 a1.1 ++ [vI a1.2]) 76)] ++ L))))) := hS.perm (perm2 (A1 := b0) (A2 := [(b5, cA ([a6]) 47)])).symm
 refine reg_nil ?_
 refine run_ret (vs := [vA ([a6])]) Tryz.func251 ⟨⟨_, (by exact d9), run_loadAll ty47 (hS.get (mR (mR mL))) rfl⟩, trivial⟩ ?_
 obtain ⟨a96, l3, hS, l4⟩ := c1.freeze hS
 have hsub := hsub.trans l3
 have hz := Option.some.inj g4
 subst hz
 exact ⟨_, _, rfl, hsub, (St.dropA (A := [(b1, cA (enc8 .u8 a1.1 ++ [vI a1.2]) 76)]) (St.dropA (A := [(b4, cA ([s1]) 47)]) (St.dropA (A := [(b7, cA ([a6]) 47)]) (St.dropA (A := [(b5, cA ([a6]) 47)]) hS)))), ⟨_, rfl, ⟨_, rfl, l4⟩⟩⟩
def g_impl_degreeOf_j4 (K : Nat) (e2 : Int → Int → Option (Ex (Int × Bool) (Int))) (a6 : Int) (a3 : Int) (a7 : Bool) : Option (Ex (Int × Bool) (Int)) := (if a7 = true then some (.ret (0, false)) else e2 a6 (a3 + 1))
def g_impl_degreeOf_l0 (K : Nat) (a0 : (List Int)) (a1 : MpT) : Nat → Int → Int → Option (Ex (Int × Bool) (Int))
 | 0, _, _ => none
 | k + 1, a4, a3 => (if a3 < (a1.length : Int) then ((g_impl_powerOf K ((rd a1 a3).1)).bind fun d5 => ((g_impl_power_degree K d5 a0).bind fun a6 => (if 0 ≤ a4 then g_impl_degreeOf_j4 K (g_impl_degreeOf_l0 K a0 a1 k) a6 a3 (!decide (a6 = a4)) else g_impl_degreeOf_j4 K (g_impl_degreeOf_l0 K a0 a1 k) a6 a3 false))) else some (.go a4))
def g_impl_degreeOf (K : Nat) (a0 : (List Int)) (a1 : MpT) : Option (Int × Bool) := ((g_impl_degreeOf_l0 K a0 a1 K (-1) 0).bind (Ex.elim (fun r => some r) (fun s => (fun (b2 : Int) => some (b2, true)) s)))
theorem g_impl_degreeOf_ok {K : Nat} {a0 : (List Int)} {a1 : MpT} {r : (Int × Bool)} (q0 : g_impl_degreeOf K a0 a1 = some r) {H : FH} {w : World} {L : OL} {s0 : Value} {s1 : Value} (b3 : RdSl (tyInt .i64) H s0 a0) (a8 : RdSl yT H s1 a1) (hS : St H w L) :
 Calls Tryz.prog 130 #[s0, vA ([s1])] w (Done (fun v G => (R.t2 (R.int .i64) R.bool).p G v r) H L) := by
 have hsub := Sub.refl H
 refine calls_of_run Tryz.func130 rfl Tryz.ntmps130 rfl ?_
 unfold g_impl_degreeOf at q0
 refine run_seq (run_region ?_)
 refine r_box (v := vA ([s1])) ([s1]).toArray rfl rfl hS rfl ?_
 intro b1 w2 hS
 refine r_assign (vI 0) rfl rfl (r_assign (Value.bool false) rfl rfl (reg_nil (run_seq (run_region (r_assign (vI (-1)) rfl rfl (reg_nil (run_seq (run_seq (run_region (r_fieldAddr fld47_0 rfl rfl ?_))))))))))
 refine r_loadOne (s1) ty45 rfl (hS.get mL) rfl rfl ?_
 have f4 := a8.bound
 refine r_lenRd sl45 rfl a8 rfl (r_move (vI 0) rfl rfl (reg_nil (run_block ?_)))
 obtain ⟨c4, a5, c2⟩ := bind_some q0
 refine loop_ind (id := 0) (fun k f w => ∃ (a4 : Int) (a3 : Int) (H1 : FH), g_impl_degreeOf_l0 K a0 a1 k a4 a3 = some c4 ∧ Sub H H1 ∧ St H1 w ([(b1, cA ([s1]) 47)] ++ L) ∧ 0 ≤ a3 ∧ RdSl (tyInt .i64) H1 s0 a0 ∧ RdSl yT H1 s1 a1 ∧ ev f (.tmp 0) = s0 ∧ ev f (.tmp 6) = vI a4 ∧ ev f (.tmp 11) = s1 ∧ ev f (.tmp 12) = vI (a1.length : Int) ∧ ev f (.tmp 13) = vI a3) (fun f w => ∃ (b2 : Int) (H1 : FH), c4 = .go b2 ∧ Sub H H1 ∧ St H1 w ([(b1, cA ([s1]) 47)] ++ L) ∧ RdSl yT H1 s1 a1 ∧ ev f (.tmp 6) = vI b2) rfl ?_ ?_ K ?_ ?_
 rintro f w ⟨a4, a3, H1, a5, _⟩
 rw [g_impl_degreeOf_l0] at a5; cases a5
 rintro k e9 f0 e3 e4 ⟨a4, a3, d8, a5, hsub, hS, e1, b3, a8, b9, c0, b4, b5, b0⟩
 rw [g_impl_degreeOf_l0] at a5
 refine run_seq (run_region ?_)
 refine r_lss (k := .i64) (a := a3) (b := (a1.length : Int)) (by exact b0) (by exact b5) rfl (reg_nil (run_seq ?_))
 by_cases c7 : a3 < (a1.length : Int)
 rw [if_pos c7] at a5
 refine run_cond_true (Eq.trans rfl (congrArg Value.bool (decide_eq_true c7))) (run_skip (run_seq (run_block (run_seq (run_region ?_)))))
 obtain ⟨b6, o6, f5, E6, _, e5, e6, ⟨_, _, rfl, rfl, rfl⟩, e7⟩ := a8.elem (i := a3) (by omega) (by omega)
 refine r_indexAt sl45 rfl (by exact b4) e5 (by exact b0) (by omega) (by omega) rfl ?_
 refine r_loadAgg (enc8 .u8 ((rd a1 a3).1) ++ [vI ((rd a1 a3).2)]) ty76 rfl (hS.froz _ _ e6) rfl e7 rfl ?_
 refine r_alloc (z := vA (enc8 .u8 (fun _ => 0) ++ [vI 0])) (enc8 .u8 (fun _ => 0) ++ [vI 0]).toArray ze76.zero rfl hS rfl ?_
 intro b7 w8 hS
 refine r_storeAll (v := vA (enc8 .u8 ((rd a1 a3).1) ++ [vI ((rd a1 a3).2)])) (vs := (enc8 .u8 ((rd a1 a3).1) ++ [vI ((rd a1 a3).2)]).toArray) (cs := (enc8 .u8 (fun _ => 0) ++ [vI 0]).toArray) ty76 rfl rfl rfl hS rfl (one_app (enc8_one .u8 ((rd a1 a3).1)) (one1 rfl)) rfl ?_
 intro f6 hS
 refine reg_nil (run_seq (run_region (r_fieldAddr fld76_0 rfl rfl ?_)))
 refine r_loadAgg (enc8 .u8 ((rd a1 a3).1)) ty70 rfl (hS.get (o := cA (enc8 .u8 ((rd a1 a3).1) ++ [vI ((rd a1 a3).2)]) 76) mL) rfl (fun j hj => sub_box ([]) (enc8 .u8 ((rd a1 a3).1)) (([vI ((rd a1 a3).2)])) j hj) rfl ?_
 obtain ⟨d5, d9, a5⟩ := bind_some a5
 refine r_callFn Tryz.call176 (args1 rfl) rfl (g_impl_powerOf_ok d9  hS) ?_
 rintro f7 f8 ⟨f9, g0, rfl, c5, hS, ⟨_, rfl, rfl⟩⟩
 refine ⟨_, rfl, ?_⟩
 have hsub := hsub.trans c5
 have b3 := b3.mono c5
 have a8 := a8.mono c5
 refine r_move (s0) (by exact b9) rfl ?_
 obtain ⟨a6, e0, a5⟩ := bind_some a5
 refine r_callFn Tryz.call223 (args2 rfl rfl) rfl (g_impl_power_degree_ok e0 b3 hS) ?_
 rintro g1 g2 ⟨_, d6, rfl, c6, hS, rfl⟩
 refine ⟨_, rfl, ?_⟩
 have hsub := hsub.trans c6
 have b3 := b3.mono c6
 have a8 := a8.mono c6
 refine r_assign (vI a6) rfl rfl (reg_nil (run_seq (run_seq ?_)))
 refine run_cut (fun f w => ∃ (a7 : Bool) (H1 : FH), g_impl_degreeOf_j4 K (g_impl_degreeOf_l0 K a0 a1 k) a6 a3 a7 = some c4 ∧ Sub H H1 ∧ St H1 w ([(b7, cA (enc8 .u8 ((rd a1 a3).1) ++ [vI ((rd a1 a3).2)]) 76)] ++ ([(b1, cA ([s1]) 47)] ++ L)) ∧ RdSl (tyInt .i64) H1 s0 a0 ∧ RdSl yT H1 s1 a1 ∧ ev f (.tmp 0) = s0 ∧ ev f (.tmp 9) = vI a6 ∧ ev f (.tmp 11) = s1 ∧ ev f (.tmp 12) = vI (a1.length : Int) ∧ ev f (.tmp 13) = vI a3 ∧ ev f (.tmp 28) = Value.bool a7) ?_ ?_
 rintro g3 e8 ⟨a7, d4, b8, hsub, hS, b3, a8, d2, d3, c8, c9, d0, c1⟩
 unfold g_impl_degreeOf_j4 at b8
 by_cases c3 : a7 = true
 rw [if_pos c3] at b8
 refine run_cond_true (Eq.trans (by exact c1) (congrArg Value.bool c3)) (run_seq (run_region (r_assign (vI 0) rfl rfl (r_assign (Value.bool false) rfl rfl (reg_nil ?_)))))
 refine run_ret (vs := [vI 0, Value.bool false]) Tryz.func130 ⟨rfl, rfl, trivial⟩ ?_
 have hz := Option.some.inj b8
 subst hz
 dsimp only [Ex.elim] at c2
 have hz := Option.some.inj c2
 subst hz
 exact ⟨_, _, rfl, hsub, (St.dropA (A := [(b1, cA ([s1]) 47)]) (St.dropA (A := [(b7, cA (enc8 .u8 ((rd a1 a3).1) ++ [vI ((rd a1 a3).2)]) 76)]) hS)), ⟨_, _, rfl, rfl, rfl⟩⟩
 rw [if_neg c3] at b8
 refine run_cond_false (Eq.trans (by exact c1) (congrArg Value.bool (bfalse c3))) (run_skip (run_region (r_move (vI a6) (by exact d3) rfl (r_assign (vI a6) rfl rfl (reg_nil (run_inBlock (run_region ?_)))))))
 refine r_add (a3 + 1) (by exact d0) rfl (IntWalk.i64_in _ (by omega)) rfl (r_move (vI (a3 + 1)) rfl rfl (reg_nil ?_))
 have hS := St.dropA (A := [(b7, cA (enc8 .u8 ((rd a1 a3).1) ++ [vI ((rd a1 a3).2)]) 76)]) hS
 exact e3 _ _ ⟨a6, (a3 + 1), d4, b8, hsub, hS, (by omega), b3, a8, d2, rfl, c8, c9, rfl⟩
 intro d7
 refine run_region (r_move (vI a4) (by exact c0) rfl ?_)
 refine r_geq (k := .i64) (a := a4) (b := 0) rfl rfl rfl (r_move (Value.bool (decide (0 ≤ a4))) rfl rfl ?_)
 by_cases a9 : 0 ≤ a4
 rw [if_pos a9] at a5
 refine reg_guard rfl rfl (Eq.trans rfl (congrArg Value.bool (decide_eq_true a9))) (r_move (vI a6) rfl rfl ?_)
 refine reg_guard rfl rfl (Eq.trans rfl (congrArg Value.bool (decide_eq_true a9))) (r_move (vI a4) (by exact c0) rfl ?_)
 refine reg_guard rfl rfl (Eq.trans rfl (congrArg Value.bool (decide_eq_true a9))) ?_
 refine r_neq (k := .i64) (a := a6) (b := a4) rfl rfl rfl ?_
 refine r_pick (t := true) (Value.bool (!decide (a6 = a4))) (Eq.trans rfl (congrArg Value.bool (decide_eq_true a9))) ((if_pos rfl).trans rfl) rfl (reg_nil ?_)
 exact d7 _ _ ⟨(!decide (a6 = a4)), d6, a5, hsub, hS, b3, a8, b9, rfl, b4, b5, b0, rfl⟩
 rw [if_neg a9] at a5
 refine reg_unguard rfl rfl (Eq.trans rfl (congrArg Value.bool (decide_eq_false a9))) rfl rfl rfl (reg_unguard rfl rfl (Eq.trans rfl (congrArg Value.bool (decide_eq_false a9))) rfl rfl rfl (reg_unguard rfl rfl (Eq.trans rfl (congrArg Value.bool (decide_eq_false a9))) rfl rfl rfl ?_))
 refine r_pick (t := false) (Value.bool false) (Eq.trans rfl (congrArg Value.bool (decide_eq_false a9))) ((if_neg Bool.false_ne_true).trans rfl) rfl (reg_nil ?_)
 exact d7 _ _ ⟨false, d6, a5, hsub, hS, b3, a8, b9, rfl, b4, b5, b0, rfl⟩
 rw [if_neg c7] at a5
 refine run_cond_false (Eq.trans rfl (congrArg Value.bool (decide_eq_false c7))) ?_
 refine run_exit rfl ?_
 have hz := Option.some.inj a5
 subst hz
 exact e4 _ _ ⟨a4, d8, rfl, hsub, hS, a8, c0⟩
 exact ⟨(-1), 0, H, a5, hsub, hS, (by omega), b3, a8, rfl, rfl, rfl, rfl, rfl⟩
 rintro f1 f2 ⟨b2, f3, rfl, hsub, hS, a8, d1⟩
 dsimp only [Ex.elim] at c2
 refine run_seq (run_region (r_move (vI b2) (by exact d1) rfl (r_assign (vI b2) rfl rfl (r_assign (Value.bool true) rfl rfl (reg_nil ?_)))))
 refine run_ret (vs := [vI b2, Value.bool true]) Tryz.func130 ⟨rfl, rfl, trivial⟩ ?_
 have hz := Option.some.inj c2
 subst hz
 exact ⟨_, _, rfl, hsub, (St.dropA (A := [(b1, cA ([s1]) 47)]) hS), ⟨_, _, rfl, rfl, rfl⟩⟩
def g_spec_l01Degree_l0 (K : Nat) (a0 : (List Int)) (a1 : MpT) (r8 : Int) : Nat → Int → Option (Ex (Int × Bool) (Unit))
 | 0, _ => none
 | k + 1, a3 => (if a3 < (a1.length : Int) then ((g_spec_l01Weight K a0 ((rd a1 a3).1)).bind fun b6 => (if b6 = r8 then g_spec_l01Degree_l0 K a0 a1 r8 k (a3 + 1) else some (.ret (0, false)))) else some (.go ()))
def g_spec_l01Degree (K : Nat) (a0 : (List Int)) (a1 : MpT) : Option (Int × Bool) := (if (a1.length : Int) = 0 then some ((-1), true) else (if 0 < (a1.length : Int) then ((g_spec_l01Weight K a0 ((rd a1 0).1)).bind fun r8 => ((g_spec_l01Degree_l0 K a0 a1 r8 K 1).bind (Ex.elim (fun r => some r) (fun s => some (r8, true))))) else none))
theorem g_spec_l01Degree_ok {K : Nat} {a0 : (List Int)} {a1 : MpT} {r : (Int × Bool)} (q0 : g_spec_l01Degree K a0 a1 = some r) {H : FH} {w : World} {L : OL} {s0 : Value} {s1 : Value} (a6 : RdSl (tyInt .i64) H s0 a0) (a5 : RdSl yT H s1 a1) (hS : St H w L) :
 Calls Tryz.prog 140 #[s0, vA ([s1])] w (Done (fun v G => (R.t2 (R.int .i64) R.bool).p G v r) H L) := by
 have hsub := Sub.refl H
 refine calls_of_run Tryz.func140 rfl Tryz.ntmps140 rfl ?_
 unfold g_spec_l01Degree at q0
 refine run_seq (run_region ?_)
 refine r_box (v := vA ([s1])) ([s1]).toArray rfl rfl hS rfl ?_
 intro b1 w2 hS
 refine r_assign (vI 0) rfl rfl (r_assign (Value.bool false) rfl rfl (reg_nil (run_seq (run_seq (run_region (r_fieldAddr fld47_0 rfl rfl ?_))))))
 refine r_loadOne (s1) ty45 rfl (hS.get mL) rfl rfl ?_
 have e2 := a5.bound
 refine r_lenRd sl45 rfl a5 rfl ?_
 refine r_eql (k := .i64) (a := (a1.length : Int)) (b := 0) rfl rfl rfl (reg_nil ?_)
 by_cases b8 : (a1.length : Int) = 0
 rw [if_pos b8] at q0
 refine run_cond_true (Eq.trans rfl (congrArg Value.bool (decide_eq_true b8))) (run_seq (run_region (r_assign (vI (-1)) rfl rfl (r_assign (Value.bool true) rfl rfl (reg_nil ?_)))))
 refine run_ret (vs := [vI (-1), Value.bool true]) Tryz.func140 ⟨rfl, rfl, trivial⟩ ?_
 have hz := Option.some.inj q0
 subst hz
 exact ⟨_, _, rfl, hsub, (St.dropA (A := [(b1, cA ([s1]) 47)]) hS), ⟨_, _, rfl, rfl, rfl⟩⟩
 rw [if_neg b8] at q0
 refine run_cond_false (Eq.trans rfl (congrArg Value.bool (decide_eq_false b8))) (run_skip (run_seq (run_region (r_move (s0) rfl rfl (r_fieldAddr fld47_0 rfl rfl ?_)))))
 refine r_loadOne (s1) ty45 rfl (hS.get mL) rfl rfl ?_
 obtain ⟨e3, q0⟩ := gd q0
 obtain ⟨b7, o7, e4, E7, _, c7, c8, ⟨_, _, rfl, rfl, rfl⟩, c9⟩ := a5.elem (i := 0) (by omega) (by omega)
 refine r_indexAt sl45 rfl rfl c7 rfl (by omega) (by omega) rfl (r_fieldAddr fld76_0 rfl rfl ?_)
 refine r_loadAgg (enc8 .u8 ((rd a1 0).1)) ty70 rfl (hS.froz _ _ c8) rfl (sub_cells ([]) (enc8 .u8 ((rd a1 0).1)) (([vI ((rd a1 0).2)])) c9 (Nat.le_of_ble_eq_true rfl)) rfl ?_
 obtain ⟨r8, d0, q0⟩ := bind_some q0
 refine r_callFn Tryz.call216 (args2 rfl rfl) rfl (g_spec_l01Weight_ok d0 a6 hS) ?_
 rintro e8 w9 ⟨_, H8, rfl, c0, hS, rfl⟩
 refine ⟨_, rfl, ?_⟩
 have hsub := hsub.trans c0
 have a6 := a6.mono c0
 have a5 := a5.mono c0
 refine r_assign (vI r8) rfl rfl (reg_nil (run_seq (run_seq (run_region (r_assign (vI 1) rfl rfl (reg_nil (run_block ?_)))))))
 obtain ⟨c1, a4, b2⟩ := bind_some q0
 refine loop_ind (id := 0) (fun k f w => ∃ (a3 : Int) (H1 : FH), g_spec_l01Degree_l0 K a0 a1 r8 k a3 = some c1 ∧ Sub H H1 ∧ St H1 w ([(b1, cA ([s1]) 47)] ++ L) ∧ 0 ≤ a3 ∧ RdSl (tyInt .i64) H1 s0 a0 ∧ RdSl yT H1 s1 a1 ∧ ev f (.tmp 0) = s0 ∧ ev f (.tmp 3) = vP b1 ∧ ev f (.tmp 6) = vI r8 ∧ ev f (.tmp 7) = vI a3) (fun f w => ∃ (H1 : FH), c1 = .go () ∧ Sub H H1 ∧ St H1 w ([(b1, cA ([s1]) 47)] ++ L) ∧ RdSl yT H1 s1 a1 ∧ ev f (.tmp 6) = vI r8) rfl ?_ ?_ K ?_ ?_
 rintro f w ⟨a3, H1, a4, _⟩
 rw [g_spec_l01Degree_l0] at a4; cases a4
 rintro k d5 d6 d1 d2 ⟨a3, c2, a4, hsub, hS, d3, a6, a5, b0, a7, a8, a9⟩
 rw [g_spec_l01Degree_l0] at a4
 refine run_seq (run_seq (run_region (r_move (vI a3) (by exact a9) rfl (r_fieldAddr fld47_0 (by exact a7) rfl ?_))))
 refine r_loadOne (s1) ty45 rfl (hS.get mL) rfl rfl ?_
 have d7 := a5.bound
 refine r_lenRd sl45 rfl a5 rfl ?_
 refine r_lss (k := .i64) (a := a3) (b := (a1.length : Int)) rfl rfl rfl (reg_nil ?_)
 by_cases b3 : a3 < (a1.length : Int)
 rw [if_pos b3] at a4
 refine run_cond_true (Eq.trans rfl (congrArg Value.bool (decide_eq_true b3))) (run_skip (run_seq (run_block (run_seq (run_region (r_move (s0) (by exact b0) rfl (r_fieldAddr fld47_0 (by exact a7) rfl ?_)))))))
 refine r_loadOne (s1) ty45 rfl (hS.get mL) rfl rfl (r_move (vI a3) (by exact a9) rfl ?_)
 obtain ⟨e5, e6, d8, e7, _, c3, c4, ⟨_, _, rfl, rfl, rfl⟩, c5⟩ := a5.elem (i := a3) (by omega) (by omega)
 refine r_indexAt sl45 rfl rfl c3 rfl (by omega) (by omega) rfl (r_fieldAddr fld76_0 rfl rfl ?_)
 refine r_loadAgg (enc8 .u8 ((rd a1 a3).1)) ty70 rfl (hS.froz _ _ c4) rfl (sub_cells ([]) (enc8 .u8 ((rd a1 a3).1)) (([vI ((rd a1 a3).2)])) c5 (Nat.le_of_ble_eq_true rfl)) rfl ?_
 obtain ⟨b6, c6, a4⟩ := bind_some a4
 refine r_callFn Tryz.call216 (args2 rfl rfl) rfl (g_spec_l01Weight_ok c6 a6 hS) ?_
 rintro e9 f0 ⟨_, d4, rfl, b5, hS, rfl⟩
 refine ⟨_, rfl, ?_⟩
 have hsub := hsub.trans b5
 have a6 := a6.mono b5
 have a5 := a5.mono b5
 refine r_move (vI r8) (by exact a8) rfl ?_
 refine r_neq (k := .i64) (a := b6) (b := r8) rfl rfl rfl (reg_nil ?_)
 by_cases b4 : b6 = r8
 rw [if_pos b4] at a4
 refine run_cond_false (Eq.trans rfl (congrArg (fun b => Value.bool (!b)) (decide_eq_true b4))) (run_skip (run_inBlock (run_region (r_move (vI a3) (by exact a9) rfl ?_))))
 refine r_add (a3 + 1) rfl rfl (IntWalk.i64_in _ (by omega)) rfl (r_assign (vI (a3 + 1)) rfl rfl (reg_nil ?_))
 exact d1 _ _ ⟨(a3 + 1), d4, a4, hsub, hS, (by omega), a6, a5, b0, a7, a8, rfl⟩
 rw [if_neg b4] at a4
 refine run_cond_true (Eq.trans rfl (congrArg (fun b => Value.bool (!b)) (decide_eq_false b4))) (run_seq (run_region (r_assign (vI 0) rfl rfl (r_assign (Value.bool false) rfl rfl (reg_nil ?_)))))
 refine run_ret (vs := [vI 0, Value.bool false]) Tryz.func140 ⟨rfl, rfl, trivial⟩ ?_
 have hz := Option.some.inj a4
 subst hz
 dsimp only [Ex.elim] at b2
 have hz := Option.some.inj b2
 subst hz
 exact ⟨_, _, rfl, hsub, (St.dropA (A := [(b1, cA ([s1]) 47)]) hS), ⟨_, _, rfl, rfl, rfl⟩⟩
 rw [if_neg b3] at a4
 refine run_cond_false (Eq.trans rfl (congrArg Value.bool (decide_eq_false b3))) ?_
 refine run_exit rfl ?_
 have hz := Option.some.inj a4
 subst hz
 exact d2 _ _ ⟨c2, rfl, hsub, hS, a5, a8⟩
 exact ⟨1, H8, a4, hsub, hS, (by omega), a6, a5, rfl, rfl, rfl, rfl⟩
 rintro d9 e0 ⟨e1, rfl, hsub, hS, a5, b9⟩
 dsimp only [Ex.elim] at b2
 refine run_seq (run_region (r_move (vI r8) (by exact b9) rfl (r_assign (vI r8) rfl rfl (r_assign (Value.bool true) rfl rfl (reg_nil ?_)))))
 refine run_ret (vs := [vI r8, Value.bool true]) Tryz.func140 ⟨rfl, rfl, trivial⟩ ?_
 have hz := Option.some.inj b2
 subst hz
 exact ⟨_, _, rfl, hsub, (St.dropA (A := [(b1, cA ([s1]) 47)]) hS), ⟨_, _, rfl, rfl, rfl⟩⟩
def g_laws_heldFormS_l0 (K : Nat) (a0 : (List MpT)) : Nat → Int → Int → Option (Ex Int (Int))
 | 0, _, _ => none
 | k + 1, a5, a3 => (if a3 < (a0.length : Int) then ((g_laws_heldTermS K (rd a0 a3) a5).bind fun r4 => (if r4 < 0 then some (.ret (-1)) else g_laws_heldFormS_l0 K a0 k r4 (a3 + 1))) else some (.go a5))
def g_laws_heldFormS (K : Nat) (a0 : (List MpT)) (a1 : Int) : Option Int := ((g_laws_heldFormS_l0 K a0 K a1 0).bind (Ex.elim (fun r => some r) (fun s => (fun (a6 : Int) => some a6) s)))
theorem g_laws_heldFormS_ok {K : Nat} {a0 : (List MpT)} {a1 : Int} {r : Int} (q0 : g_laws_heldFormS K a0 a1 = some r) {H : FH} {w : World} {L : OL} {s0 : Value} (a9 : RdSl (tySl yT) H s0 a0) (hS : St H w L) :
 Calls Tryz.prog 72 #[s0, vI a1] w (Done (fun v G => (R.int .i64).p G v r) H L) := by
 have hsub := Sub.refl H
 refine calls_of_run Tryz.func72 rfl Tryz.ntmps72 rfl ?_
 unfold g_laws_heldFormS at q0
 refine run_seq (run_region (r_assign (vI 0) rfl rfl (reg_nil (run_seq (run_seq (run_region (r_assign (vI 0) rfl rfl (reg_nil (run_block ?_)))))))))
 obtain ⟨b6, a4, b1⟩ := bind_some q0
 refine loop_ind (id := 0) (fun k f w => ∃ (a5 : Int) (a3 : Int) (H1 : FH), g_laws_heldFormS_l0 K a0 k a5 a3 = some b6 ∧ Sub H H1 ∧ St H1 w (L) ∧ 0 ≤ a3 ∧ RdSl (tySl yT) H1 s0 a0 ∧ ev f (.tmp 0) = s0 ∧ ev f (.tmp 1) = vI a5 ∧ ev f (.tmp 5) = vI a3) (fun f w => ∃ (a6 : Int) (H1 : FH), b6 = .go a6 ∧ Sub H H1 ∧ St H1 w (L) ∧ ev f (.tmp 1) = vI a6) rfl ?_ ?_ K ?_ ?_
 rintro f w ⟨a5, a3, H1, a4, _⟩
 rw [g_laws_heldFormS_l0] at a4; cases a4
 rintro k c8 c9 c1 c2 ⟨a5, a3, b9, a4, hsub, hS, c3, a9, a7, b0, a8⟩
 rw [g_laws_heldFormS_l0] at a4
 refine run_seq (run_seq (run_region (r_move (vI a3) (by exact a8) rfl (r_move (s0) (by exact a7) rfl ?_))))
 have d3 := a9.bound
 refine r_lenRd sl27 rfl a9 rfl ?_
 refine r_lss (k := .i64) (a := a3) (b := (a0.length : Int)) rfl rfl rfl (reg_nil ?_)
 by_cases b2 : a3 < (a0.length : Int)
 rw [if_pos b2] at a4
 refine run_cond_true (Eq.trans rfl (congrArg Value.bool (decide_eq_true b2))) (run_skip (run_seq (run_block (run_seq (run_region (r_move (s0) (by exact a7) rfl (r_move (vI a3) (by exact a8) rfl ?_)))))))
 obtain ⟨b3, o3, d4, E3, _, c4, c5, ⟨c0, rfl, b7⟩, c6⟩ := a9.elem (i := a3) (by omega) (by omega)
 refine r_indexAt sl27 rfl rfl c4 rfl (by omega) (by omega) rfl (r_fieldAddr fld47_0 rfl rfl ?_)
 refine r_loadOne (c0) ty45 rfl (hS.froz _ _ c5) (c6 0 (show 0 < 1 by decide)) rfl (r_move (vI a5) (by exact b0) rfl ?_)
 obtain ⟨r4, c7, a4⟩ := bind_some a4
 refine r_callFn Tryz.call118 (args2 rfl rfl) rfl (g_laws_heldTermS_ok c7 b7 hS) ?_
 rintro e4 w5 ⟨_, H4, rfl, b8, hS, rfl⟩
 refine ⟨_, rfl, ?_⟩
 have hsub := hsub.trans b8
 have a9 := a9.mono b8
 refine r_assign (vI r4) rfl rfl (reg_nil (run_seq (run_region (r_move (vI r4) rfl rfl ?_))))
 refine r_lss (k := .i64) (a := r4) (b := 0) rfl rfl rfl (reg_nil ?_)
 by_cases b4 : r4 < 0
 rw [if_pos b4] at a4
 refine run_cond_true (Eq.trans rfl (congrArg Value.bool (decide_eq_true b4))) (run_seq (run_region (r_assign (vI (-1)) rfl rfl (reg_nil ?_))))
 refine run_ret (vs := [vI (-1)]) Tryz.func72 ⟨rfl, trivial⟩ ?_
 have hz := Option.some.inj a4
 subst hz
 dsimp only [Ex.elim] at b1
 have hz := Option.some.inj b1
 subst hz
 exact ⟨_, _, rfl, hsub, hS, rfl⟩
 rw [if_neg b4] at a4
 refine run_cond_false (Eq.trans rfl (congrArg Value.bool (decide_eq_false b4))) (run_skip (run_inBlock (run_region (r_move (vI a3) (by exact a8) rfl ?_))))
 refine r_add (a3 + 1) rfl rfl (IntWalk.i64_in _ (by omega)) rfl (r_assign (vI (a3 + 1)) rfl rfl (reg_nil ?_))
 exact c1 _ _ ⟨r4, (a3 + 1), H4, a4, hsub, hS, (by omega), a9, a7, rfl, rfl⟩
 rw [if_neg b2] at a4
 refine run_cond_false (Eq.trans rfl (congrArg Value.bool (decide_eq_false b2))) ?_
 refine run_exit rfl ?_
 have hz := Option.some.inj a4
 subst hz
 exact c2 _ _ ⟨a5, b9, rfl, hsub, hS, b0⟩
 exact ⟨a1, 0, H, a4, hsub, hS, (by omega), a9, rfl, rfl, rfl⟩
 rintro d0 d1 ⟨a6, d2, rfl, hsub, hS, b5⟩
 dsimp only [Ex.elim] at b1
 refine run_seq (run_region (r_move (vI a6) (by exact b5) rfl (r_assign (vI a6) rfl rfl (reg_nil ?_))))
 refine run_ret (vs := [vI a6]) Tryz.func72 ⟨rfl, trivial⟩ ?_
 have hz := Option.some.inj b1
 subst hz
 exact ⟨_, _, rfl, hsub, hS, rfl⟩
def g_spec_l01Degrees_l0 (K : Nat) (a0 : (List Int)) : Nat → Int → Option (Ex Bool (Unit))
 | 0, _ => none
 | k + 1, a1 => (if a1 < (a0.length : Int) then ((g_spec_l01In K (rd a0 a1) 1 12).bind fun r4 => (if r4 = true then g_spec_l01Degrees_l0 K a0 k (a1 + 1) else some (.ret false))) else some (.go ()))
def g_spec_l01Degrees (K : Nat) (a0 : (List Int)) : Option Bool := ((g_spec_l01Degrees_l0 K a0 K 0).bind (Ex.elim (fun r => some r) (fun s => some (decide ((a0.length : Int) ≤ 8)))))
theorem g_spec_l01Degrees_ok {K : Nat} {a0 : (List Int)} {r : Bool} (q0 : g_spec_l01Degrees K a0 = some r) {H : FH} {w : World} {L : OL} {s0 : Value} (a4 : RdSl (tyInt .i64) H s0 a0) (hS : St H w L) :
 Calls Tryz.prog 178 #[s0] w (Done (fun v G => R.bool.p G v r) H L) := by
 have hsub := Sub.refl H
 refine calls_of_run Tryz.func178 rfl Tryz.ntmps178 rfl ?_
 unfold g_spec_l01Degrees at q0
 refine run_seq (run_region (r_assign (Value.bool false) rfl rfl (reg_nil (run_seq (run_seq (run_region (r_assign (vI 0) rfl rfl (reg_nil (run_block ?_)))))))))
 obtain ⟨b1, a3, a7⟩ := bind_some q0
 refine loop_ind (id := 0) (fun k f w => ∃ (a1 : Int) (H1 : FH), g_spec_l01Degrees_l0 K a0 k a1 = some b1 ∧ Sub H H1 ∧ St H1 w (L) ∧ 0 ≤ a1 ∧ RdSl (tyInt .i64) H1 s0 a0 ∧ ev f (.tmp 0) = s0 ∧ ev f (.tmp 3) = vI a1) (fun f w => ∃ (H1 : FH), b1 = .go () ∧ Sub H H1 ∧ St H1 w (L) ∧ RdSl (tyInt .i64) H1 s0 a0 ∧ ev f (.tmp 0) = s0) rfl ?_ ?_ K ?_ ?_
 rintro f w ⟨a1, H1, a3, _⟩
 rw [g_spec_l01Degrees_l0] at a3; cases a3
 rintro k c2 c3 b5 b6 ⟨a1, b4, a3, hsub, hS, b7, a4, a5, a6⟩
 rw [g_spec_l01Degrees_l0] at a3
 refine run_seq (run_seq (run_region (r_move (vI a1) (by exact a6) rfl (r_move (s0) (by exact a5) rfl ?_))))
 have c7 := a4.bound
 refine r_lenRd sl22 rfl a4 rfl ?_
 refine r_lss (k := .i64) (a := a1) (b := (a0.length : Int)) rfl rfl rfl (reg_nil ?_)
 by_cases a8 : a1 < (a0.length : Int)
 rw [if_pos a8] at a3
 refine run_cond_true (Eq.trans rfl (congrArg Value.bool (decide_eq_true a8))) (run_skip (run_seq (run_block (run_seq (run_region (r_move (s0) (by exact a5) rfl (r_move (vI a1) (by exact a6) rfl ?_)))))))
 obtain ⟨b3, o3, c8, E3, _, b8, b9, rfl, c0⟩ := a4.elem (i := a1) (by omega) (by omega)
 refine r_indexAt sl22 rfl rfl b8 rfl (by omega) (by omega) rfl ?_
 refine r_loadOne (vI (rd a0 a1)) ty2 rfl (hS.froz _ _ b9) (c0 0 (show 0 < 1 by decide)) rfl ?_
 obtain ⟨r4, c1, a3⟩ := bind_some a3
 refine r_callFn Tryz.call93 (args3 rfl rfl rfl) rfl (g_spec_l01In_ok c1  hS) ?_
 rintro e4 w5 ⟨_, H4, rfl, b2, hS, rfl⟩
 refine ⟨_, rfl, ?_⟩
 have hsub := hsub.trans b2
 have a4 := a4.mono b2
 refine r_not (b := r4) rfl rfl (reg_nil ?_)
 by_cases a9 : r4 = true
 rw [if_pos a9] at a3
 refine run_cond_false (Eq.trans rfl (congrArg (fun b => Value.bool (!b)) a9)) (run_skip (run_inBlock (run_region (r_move (vI a1) (by exact a6) rfl ?_))))
 refine r_add (a1 + 1) rfl rfl (IntWalk.i64_in _ (by omega)) rfl (r_assign (vI (a1 + 1)) rfl rfl (reg_nil ?_))
 exact b5 _ _ ⟨(a1 + 1), H4, a3, hsub, hS, (by omega), a4, a5, rfl⟩
 rw [if_neg a9] at a3
 refine run_cond_true (Eq.trans rfl (congrArg (fun b => Value.bool (!b)) (bfalse a9))) (run_seq (run_region (r_assign (Value.bool false) rfl rfl (reg_nil ?_))))
 refine run_ret (vs := [Value.bool false]) Tryz.func178 ⟨rfl, trivial⟩ ?_
 have hz := Option.some.inj a3
 subst hz
 dsimp only [Ex.elim] at a7
 have hz := Option.some.inj a7
 subst hz
 exact ⟨_, _, rfl, hsub, hS, rfl⟩
 rw [if_neg a8] at a3
 refine run_cond_false (Eq.trans rfl (congrArg Value.bool (decide_eq_false a8))) ?_
 refine run_exit rfl ?_
 have hz := Option.some.inj a3
 subst hz
 exact b6 _ _ ⟨b4, rfl, hsub, hS, a4, a5⟩
 exact ⟨0, H, a3, hsub, hS, (by omega), a4, rfl, rfl⟩
 rintro c4 c5 ⟨c6, rfl, hsub, hS, a4, b0⟩
 dsimp only [Ex.elim] at a7
 refine run_seq (run_region (r_move (s0) (by exact b0) rfl ?_))
 have c9 := a4.bound
 refine r_lenRd sl22 rfl a4 rfl ?_
 refine r_leq (k := .i64) (a := (a0.length : Int)) (b := 8) rfl rfl rfl (r_assign (Value.bool (decide ((a0.length : Int) ≤ 8))) rfl rfl (reg_nil ?_))
 refine run_ret (vs := [Value.bool (decide ((a0.length : Int) ≤ 8))]) Tryz.func178 ⟨rfl, trivial⟩ ?_
 have hz := Option.some.inj a7
 subst hz
 exact ⟨_, _, rfl, hsub, hS, rfl⟩
def g_laws_szForm (K : Nat) (a0 : MpT) (a1 : Int) : Option Int := ((g_laws_szTermS K a0 a1).bind fun r4 => (if r4 < 0 then some (-1) else some r4))
theorem g_laws_szForm_ok {K : Nat} {a0 : MpT} {a1 : Int} {r : Int} (q0 : g_laws_szForm K a0 a1 = some r) {H : FH} {w : World} {L : OL} {s0 : Value} (a4 : RdSl yT H s0 a0) (hS : St H w L) :
 Calls Tryz.prog 27 #[vA ([s0]), vI a1] w (Done (fun v G => (R.int .i64).p G v r) H L) := by
 have hsub := Sub.refl H
 refine calls_of_run Tryz.func27 rfl Tryz.ntmps27 rfl ?_
 unfold g_laws_szForm at q0
 refine run_seq (run_region ?_)
 refine r_box (v := vA ([s0])) ([s0]).toArray rfl rfl hS rfl ?_
 intro b1 w2 hS
 refine r_assign (vI 0) rfl rfl (reg_nil (run_seq (run_region (r_fieldAddr fld42_0 rfl rfl ?_))))
 refine r_loadOne (s0) ty40 rfl (hS.get mL) rfl rfl (r_move (vI a1) rfl rfl ?_)
 obtain ⟨r4, a5, q0⟩ := bind_some q0
 refine r_callFn Tryz.call105 (args2 rfl rfl) rfl (g_laws_szTermS_ok a5 a4 hS) ?_
 rintro e4 w5 ⟨_, H4, rfl, a6, hS, rfl⟩
 refine ⟨_, rfl, ?_⟩
 have hsub := hsub.trans a6
 refine r_assign (vI r4) rfl rfl (reg_nil (run_seq (run_seq (run_region (r_move (vI r4) rfl rfl ?_)))))
 refine r_lss (k := .i64) (a := r4) (b := 0) rfl rfl rfl (reg_nil ?_)
 by_cases a3 : r4 < 0
 rw [if_pos a3] at q0
 refine run_cond_true (Eq.trans rfl (congrArg Value.bool (decide_eq_true a3))) (run_seq (run_region (r_assign (vI (-1)) rfl rfl (reg_nil ?_))))
 refine run_ret (vs := [vI (-1)]) Tryz.func27 ⟨rfl, trivial⟩ ?_
 have hz := Option.some.inj q0
 subst hz
 exact ⟨_, _, rfl, hsub, (St.dropA (A := [(b1, cA ([s0]) 42)]) hS), rfl⟩
 rw [if_neg a3] at q0
 refine run_cond_false (Eq.trans rfl (congrArg Value.bool (decide_eq_false a3))) (run_skip (run_seq (run_region (r_move (vI r4) rfl rfl (r_assign (vI r4) rfl rfl (reg_nil ?_))))))
 refine run_ret (vs := [vI r4]) Tryz.func27 ⟨rfl, trivial⟩ ?_
 have hz := Option.some.inj q0
 subst hz
 exact ⟨_, _, rfl, hsub, (St.dropA (A := [(b1, cA ([s0]) 42)]) hS), rfl⟩
def g_impl_Algebra_isGenerator (K : Nat) (a0 : ((List Int) × (List MpT))) (a1 : Int) : Option Bool := ((g_impl_within K a1 0 (IntKind.i64.wrap ((a0.1.length : Int) - 1))).bind fun r2 => some r2)
theorem g_impl_Algebra_isGenerator_ok {K : Nat} {a0 : ((List Int) × (List MpT))} {a1 : Int} {r : Bool} (q0 : g_impl_Algebra_isGenerator K a0 a1 = some r) {H : FH} {w : World} {L : OL} {s0 : Value} (a8 : PtrF (tyPr (tySl (tyInt .i64)) (tySl (tySl yT))) H s0 a0) (hS : St H w L) :
 Calls Tryz.prog 87 #[s0, vI a1] w (Done (fun v G => R.bool.p G v r) H L) := by
 obtain ⟨a9, b0, b4, b5, _, rfl, a5, ⟨_, _, rfl, ⟨a4, rfl, a3⟩, ⟨b1, rfl, a7⟩⟩, a6⟩ := a8
 have hsub := Sub.refl H
 refine calls_of_run Tryz.func87 rfl Tryz.ntmps87 rfl ?_
 unfold g_impl_Algebra_isGenerator at q0
 refine run_seq (run_region (r_assign (Value.bool false) rfl rfl (reg_nil (run_seq (run_region (r_move (vI a1) rfl rfl (r_move (Value.pointer (some ⟨a9, b0, none⟩)) rfl rfl (r_nilCheck rfl rfl (r_fieldAddr fld29_0 rfl rfl ?_)))))))))
 refine r_loadOne (a4) ty22 rfl (hS.froz _ _ a5) (a6 0 (show 0 < 2 by decide)) rfl ?_
 have b6 := a3.bound
 refine r_lenRd sl22 rfl a3 rfl ?_
 refine r_sub (IntKind.i64.wrap ((a0.1.length : Int) - 1)) rfl rfl rfl rfl ?_
 obtain ⟨r2, b2, q0⟩ := bind_some q0
 refine r_callFn Tryz.call97 (args3 rfl rfl rfl) rfl (g_impl_within_ok b2  hS) ?_
 rintro e2 w3 ⟨_, H2, rfl, b3, hS, rfl⟩
 refine ⟨_, rfl, ?_⟩
 have hsub := hsub.trans b3
 refine r_assign (Value.bool r2) rfl rfl (reg_nil ?_)
 refine run_ret (vs := [Value.bool r2]) Tryz.func87 ⟨rfl, trivial⟩ ?_
 have hz := Option.some.inj q0
 subst hz
 exact ⟨_, _, rfl, hsub, hS, rfl⟩
def g_impl_AreDegrees_c1 (K : Nat) (a0 : Int) : Option Bool := ((g_impl_within K a0 1 12).bind fun r1 => some (!r1))
theorem g_impl_AreDegrees_c1_ok {K : Nat} {a0 : Int} {r : Bool} (q0 : g_impl_AreDegrees_c1 K a0 = some r) {H : FH} {w : World} {L : OL} (hS : St H w L) :
 Calls Tryz.prog 219 #[vI a0] w (Done (fun v G => R.bool.p G v r) H L) := by
 have hsub := Sub.refl H
 refine calls_of_run Tryz.func219 rfl Tryz.ntmps219 rfl ?_
 unfold g_impl_AreDegrees_c1 at q0
 refine run_seq (run_region (r_assign (Value.bool false) rfl rfl (reg_nil (run_seq (run_region (r_move (vI a0) rfl rfl ?_))))))
 obtain ⟨r1, a1, q0⟩ := bind_some q0
 refine r_callFn Tryz.call97 (args3 rfl rfl rfl) rfl (g_impl_within_ok a1  hS) ?_
 rintro e1 w2 ⟨_, H1, rfl, a3, hS, rfl⟩
 refine ⟨_, rfl, ?_⟩
 have hsub := hsub.trans a3
 refine r_not (b := r1) rfl rfl (r_assign (Value.bool (!r1)) rfl rfl (reg_nil ?_))
 refine run_ret (vs := [Value.bool (!r1)]) Tryz.func219 ⟨rfl, trivial⟩ ?_
 have hz := Option.some.inj q0
 subst hz
 exact ⟨_, _, rfl, hsub, hS, rfl⟩
end Go.Proofs.YtfodlhkoafhplaaGreat
