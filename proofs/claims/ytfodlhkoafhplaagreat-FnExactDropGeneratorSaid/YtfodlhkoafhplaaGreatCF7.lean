/- Walks of functions: each computes its pure function, if that gives a value. -/
import Derived.Test.YtfodlhkoafhplaaGreatCTy
import Derived.Test.YtfodlhkoafhplaaGreatCF3
import Derived.Test.YtfodlhkoafhplaaGreatCF2
import Derived.Test.YtfodlhkoafhplaaGreatCF1
namespace Go.Proofs.YtfodlhkoafhplaaGreat
open Go
set_option linter.unusedSimpArgs false
set_option linter.unusedVariables false
def g_spec_l01Shift_l0 (K : Nat) (a0 : (List Int)) (a1 : (A8 × Int)) (a2 : MpT) : Nat → Int → MpT → Option (Ex MpT (MpT))
 | 0, _, _ => none
 | k + 1, a5, a7 => (if a5 < (a2.length : Int) then ((g_spec_l01Joined K a0 a1.1 ((rd a2 a5).1)).bind fun a3 => (if a3.2 = 0 then g_spec_l01Shift_l0 K a0 a1 a2 k (a5 + 1) a7 else ((g_spec_l01Mod K (IntKind.i64.wrap ((IntKind.i64.wrap (a3.2 * a1.2)) * (rd a2 a5).2))).bind fun b6 => (if a7.length + ([(a3.1, b6)]).length ≤ 1099511627776 then g_spec_l01Shift_l0 K a0 a1 a2 k (a5 + 1) (a7 ++ [(a3.1, b6)]) else none)))) else some (.go a7))
def g_spec_l01Shift (K : Nat) (a0 : (List Int)) (a1 : (A8 × Int)) (a2 : MpT) : Option MpT := ((g_spec_l01Shift_l0 K a0 a1 a2 K 0 ([] : List (A8 × Int))).bind (Ex.elim (fun r => some r) (fun s => (fun (b3 : MpT) => some b3) s)))
set_option maxRecDepth 100000 in
set_option maxHeartbeats 1000000 in
theorem g_spec_l01Shift_ok {K : Nat} {a0 : (List Int)} {a1 : (A8 × Int)} {a2 : MpT} {r : MpT} (q0 : g_spec_l01Shift K a0 a1 a2 = some r) {H : FH} {w : World} {L : OL} {s0 : Value} {s1 : Value} (c0 : RdSl (tyInt .i64) H s0 a0) (b9 : RdSl yT H s1 a2) (hS : St H w L) :
 Calls Tryz.prog 251 #[s0, Value.agg (enc8 .u8 a1.1 ++ [vI a1.2]).toArray, Value.agg ([s1]).toArray] w (Done (fun v G => (R.agg (tySl yT)).p G v r) H L) := by
 have hsub := Sub.refl H
 refine calls_of_run Tryz.func251 rfl Tryz.ntmps251 rfl ?_
 unfold g_spec_l01Shift at q0
 refine run_seq (run_region ?_)
 refine r_box (v := Value.agg (enc8 .u8 a1.1 ++ [vI a1.2]).toArray) (enc8 .u8 a1.1 ++ [vI a1.2]).toArray rfl rfl hS rfl ?_
 intro b1 w2 hS
 refine r_box (v := Value.agg ([s1]).toArray) ([s1]).toArray rfl rfl hS rfl ?_
 intro b4 w5 hS
 refine r_alloc (z := Value.agg ([Value.slice none 0 0]).toArray) ([Value.slice none 0 0]).toArray ze47.zero rfl hS rfl ?_
 intro b7 w8 hS
 refine reg_nil (run_seq ?_)
 refine run_region ?_
 refine r_build0 (Value.agg ([Value.slice none 0 0]).toArray) bz47 rfl ?_
 refine r_alloc (z := Value.agg ([Value.slice none 0 0]).toArray) ([Value.slice none 0 0]).toArray ze47.zero rfl hS rfl ?_
 intro b5 w11 hS
 refine r_storeAll (v := Value.agg ([Value.slice none 0 0]).toArray) (vs := ([Value.slice none 0 0]).toArray) (cs := ([Value.slice none 0 0]).toArray) ty47 rfl rfl rfl hS rfl (one1 rfl) rfl ?_
 intro w13 hS
 refine reg_nil (run_seq ?_)
 refine run_seq (run_region ?_)
 refine r_assign (vI 0) rfl rfl ?_
 refine reg_nil (run_block ?_)
 have g2 : OwnSl yT 76 H (.slice none 0 0) [] [] := OwnSl.nil _ _ _
 obtain ⟨g3, b2, g4⟩ := bind_some q0
 refine loop_ind (id := 0) (fun k f w => ∃ (a5 : Int) (a7 : MpT) (H1 : FH) (a8 : OL) (a4 : Value), g_spec_l01Shift_l0 K a0 a1 a2 k a5 a7 = some g3 ∧ Sub H H1 ∧ St H1 w (a8 ++ ([(b5, .cells ([a4]).toArray 47)] ++ ([(b7, .cells ([Value.slice none 0 0]).toArray 47)] ++ ([(b4, .cells ([s1]).toArray 47)] ++ ([(b1, .cells (enc8 .u8 a1.1 ++ [vI a1.2]).toArray 76)] ++ L))))) ∧ 0 ≤ a5 ∧ OwnSl yT 76 H1 a4 a7 a8 ∧ RdSl (tyInt .i64) H1 s0 a0 ∧ RdSl yT H1 s1 a2 ∧ ev f (.tmp 0) = s0 ∧ ev f (.tmp 4) = vP b1 ∧ ev f (.tmp 5) = vP b4 ∧ ev f (.tmp 6) = vP b7 ∧ ev f (.tmp 7) = vP b5 ∧ ev f (.tmp 8) = vI a5) (fun f w => ∃ (b3 : MpT) (H1 : FH) (b0 : OL) (a6 : Value), g3 = .go b3 ∧ Sub H H1 ∧ St H1 w (b0 ++ ([(b5, .cells ([a6]).toArray 47)] ++ ([(b7, .cells ([Value.slice none 0 0]).toArray 47)] ++ ([(b4, .cells ([s1]).toArray 47)] ++ ([(b1, .cells (enc8 .u8 a1.1 ++ [vI a1.2]).toArray 76)] ++ L))))) ∧ OwnSl yT 76 H1 a6 b3 b0 ∧ RdSl yT H1 s1 a2 ∧ ev f (.tmp 6) = vP b7 ∧ ev f (.tmp 7) = vP b5) rfl ?_ ?_ K ?_ ?_
 rintro f w ⟨a5, a7, H1, a8, a4, b2, _⟩
 rw [g_spec_l01Shift_l0] at b2; cases b2
 rintro k y5 y6 l5 r6 ⟨a5, a7, l7, a8, a4, b2, hsub, hS, r7, a9, c0, b9, d5, d6, c7, d7, d8, c8⟩
 rw [g_spec_l01Shift_l0] at b2
 refine run_seq (run_seq (run_region ?_))
 refine r_move (vI a5) (by exact c8) rfl ?_
 refine r_fieldAddr fld47_0 (by exact c7) rfl ?_
 refine r_loadOne (s1) ty45 rfl (hS.get (mR (mR (mR mL)))) rfl rfl ?_
 have y7 := b9.bound
 refine r_lenRd sl45 rfl b9 rfl ?_
 refine r_lss (k := .i64) (a := a5) (b := (a2.length : Int)) rfl rfl rfl ?_
 refine reg_nil ?_
 by_cases e0 : a5 < (a2.length : Int)
 rw [if_pos e0] at b2
 refine run_cond_true (Eq.trans rfl (congrArg Value.bool (decide_eq_true e0))) ?_
 refine run_skip (run_seq ?_)
 refine run_block (run_seq ?_)
 obtain ⟨f2, f3, y8, E80, _, l9, e7, ⟨_, _, rfl, rfl, rfl⟩, m0⟩ := b9.elem (i := a5) (by omega) (by omega)
 obtain ⟨a3, i4, b2⟩ := bind_some b2
 refine run_draw 16 (tabL [(20, MP.eq (s0)), (21, MP.eq (vP b1)), (22, MP.eq (Value.agg (enc8 .u8 a1.1).toArray)), (23, MP.eq (vP b4)), (24, MP.eq (s1)), (25, MP.eq (vI a5)), (26, MP.eq (Value.pointer (some ⟨f2, f3, none⟩))), (27, MP.eq (Value.pointer (some ⟨f2, f3 + 0, none⟩))), (28, MP.eq (Value.agg (enc8 .u8 ((rd a2 a5).1)).toArray)), (29, MP.eq (Value.tuple #[Value.agg (enc8 .u8 a3.1).toArray, vI a3.2])), (19, MP.eq (Value.tuple #[Value.agg (enc8 .u8 a3.1).toArray, vI a3.2])), (30, MP.eq (Value.agg (enc8 .u8 a3.1).toArray)), (31, MP.eq (vI a3.2)), (9, MP.box (.cells (enc8 .u8 (fun _ => 0)).toArray 70)), (10, MP.eq (vI a3.2))]) [Co.st 13 9 14 11 30 (objA 70)] mixed rfl (conOk_num (ns := [(13, 9, 14, 11, 30)]) rfl rfl) rfl hS (hop_q rfl ?_ (hop_q rfl ?_ (hop_q rfl ?_ (hop_q rfl ?_ (hop_q rfl ?_ (hop_q rfl ?_ (hop_q rfl ?_ (hop_q rfl ?_ (hop_q rfl ?_ (hop_q rfl ?_ (hop_q rfl ?_ (hop_q rfl ?_ (hop_q rfl ?_ (hop_q rfl ?_ (hop_s rfl ?_ (hop_q rfl ?_ hop_nil)))))))))))))))) ?_
 intro f16 w17 H18 X19 y9 hS m1 z0 hcq
 refine r_move (s0) (evT (m1 0 rfl) d5) rfl ?_
 exact qn (.refl _) rfl hS rfl
 intro f25 w26 H27 X28 z1 hS m2 z2 hcq
 refine r_fieldAddr fld76_0 (evT (m2 4 rfl) d6) rfl ?_
 exact qn (.refl _) rfl hS rfl
 intro r8 w35 H36 X37 z3 hS z4 m3 hcq
 have r9 : ev r8 (.tmp 21) = vP b1 := m3 1 21 rfl rfl
 refine r_loadAgg (enc8 .u8 a1.1) ty70 r9 (hS.get (o := .cells (enc8 .u8 a1.1 ++ [vI a1.2]).toArray 76) (mR (mR (mR (mR (mR mL)))))) rfl (fun j hj => sub_box ([]) (enc8 .u8 a1.1) (([vI a1.2])) j hj) rfl ?_
 exact qn (.refl _) rfl hS rfl
 intro f43 w44 H45 X46 z5 hS m4 z6 hcq
 refine r_fieldAddr fld47_0 (evT (m4 5 rfl) c7) rfl ?_
 exact qn (.refl _) rfl hS rfl
 intro s2 w53 H54 X55 z7 hS z8 m5 hcq
 have s3 : ev s2 (.tmp 23) = vP b4 := m5 3 23 rfl rfl
 refine r_loadOne (s1) ty45 s3 (hS.get (mR (mR (mR (mR mL))))) rfl rfl ?_
 exact qn (.refl _) rfl hS rfl
 intro f61 w62 H63 X64 z9 hS m6 a00 hcq
 refine r_move (vI a5) (evT (m6 8 rfl) c8) rfl ?_
 exact qn (.refl _) rfl hS rfl
 intro l6 w71 H72 X73 a01 hS a02 g5 hcq
 have s4 : ev l6 (.tmp 24) = s1 := g5 4 24 rfl rfl
 have s5 : ev l6 (.tmp 25) = vI a5 := g5 5 25 rfl rfl
 refine r_indexAt sl45 rfl s4 l9 s5 (by omega) (by omega) rfl ?_
 exact qn (.refl _) rfl hS rfl
 intro s6 w82 H83 X84 a03 hS a04 m7 hcq
 have s7 : ev s6 (.tmp 26) = Value.pointer (some ⟨f2, f3, none⟩) := m7 6 26 rfl rfl
 refine r_fieldAddr fld76_0 s7 rfl ?_
 exact qn (.refl _) rfl hS rfl
 intro s8 w91 H92 X93 m8 hS a05 m9 hcq
 have e7 := m8.1 _ _ e7
 have s9 : ev s8 (.tmp 27) = Value.pointer (some ⟨f2, f3 + 0, none⟩) := m9 7 27 rfl rfl
 refine r_loadAgg (enc8 .u8 ((rd a2 a5).1)) ty70 s9 (hS.froz _ _ e7) rfl (sub_cells ([]) (enc8 .u8 ((rd a2 a5).1)) (([vI ((rd a2 a5).2)])) m0 (Nat.le_of_ble_eq_true rfl)) rfl ?_
 exact qn (.refl _) rfl hS rfl
 intro g6 a06 a07 a08 i5 hS t4 e1 hcq
 have c0 := c0.mono i5
 have n0 : ev g6 (.tmp 20) = s0 := e1 0 20 rfl rfl
 have n1 : ev g6 (.tmp 22) = Value.agg (enc8 .u8 a1.1).toArray := e1 2 22 rfl rfl
 have n2 : ev g6 (.tmp 28) = Value.agg (enc8 .u8 ((rd a2 a5).1)).toArray := e1 8 28 rfl rfl
 refine r_callFn Tryz.call282 (args3 n0 n1 n2) rfl (g_spec_l01Joined_ok i4 c0 hS) ?_
 rintro a09 a10 ⟨_, a11, rfl, i6, hS, ⟨t0, t1, rfl, ⟨_, rfl, rfl⟩, rfl⟩⟩
 refine ⟨_, rfl, ?_⟩
 exact qn i6 rfl hS rfl
 intro n3 a12 a13 a14 t5 hS t6 i7 hcq
 have n4 : ev n3 (.tmp 29) = Value.tuple #[Value.agg (enc8 .u8 a3.1).toArray, vI a3.2] := i7 9 29 rfl rfl
 refine r_move (Value.tuple #[Value.agg (enc8 .u8 a3.1).toArray, vI a3.2]) n4 rfl ?_
 exact qn (.refl _) rfl hS rfl
 intro n5 a15 a16 a17 t7 hS t8 i8 hcq
 have n6 : ev n5 (.tmp 19) = Value.tuple #[Value.agg (enc8 .u8 a3.1).toArray, vI a3.2] := i8 10 19 rfl rfl
 refine r_extract (Value.agg (enc8 .u8 a3.1).toArray) n6 rfl rfl ?_
 exact qn (.refl _) rfl hS rfl
 intro n7 a18 a19 a20 t9 hS u0 i9 hcq
 have n8 : ev n7 (.tmp 19) = Value.tuple #[Value.agg (enc8 .u8 a3.1).toArray, vI a3.2] := i9 10 19 rfl rfl
 refine r_extract (vI a3.2) n8 rfl rfl ?_
 exact qn (.refl _) rfl hS rfl
 intro a21 a22 a23 a24 u1 hS u2 u3 hcq
 refine r_alloc (z := Value.agg (enc8 .u8 (fun _ => 0)).toArray) (enc8 .u8 (fun _ => 0)).toArray ze70.zero rfl hS rfl ?_
 intro a25 a26 hS
 exact qn (.refl _) rfl hS ⟨_, rfl⟩
 intro c4 n9 g7 o0 u4 hS u5 f4 hcq
 have hsub := Sub.refl g7
 obtain ⟨g8, d4⟩ := f4 13 9 rfl rfl
 have d4 : c4 9 = vP g8 := d4
 have hS : St g7 n9 (ptrRes (.cells (enc8 .u8 (fun _ => 0)).toArray 70) (c4 9) ++ (o0 ++ (a8 ++ ([(b5, .cells ([a4]).toArray 47)] ++ ([(b7, .cells ([Value.slice none 0 0]).toArray 47)] ++ ([(b4, .cells ([s1]).toArray 47)] ++ ([(b1, .cells (enc8 .u8 a1.1 ++ [vI a1.2]).toArray 76)] ++ L))))))) := hS
 rw [d4] at hS
 have o1 : ev c4 (.tmp 9) = vP g8 := d4
 have g9 : ev c4 (.tmp 30) = Value.agg (enc8 .u8 a3.1).toArray := f4 11 30 rfl rfl
 refine r_storeAll (v := Value.agg (enc8 .u8 a3.1).toArray) (vs := (enc8 .u8 a3.1).toArray) (cs := (enc8 .u8 (fun _ => 0)).toArray) ty70 o1 g9 rfl hS rfl (enc8_one .u8 a3.1) rfl ?_
 intro a27 hS
 have o2 : c4 30 = Value.agg (enc8 .u8 a3.1).toArray := g9
 exact reg_nil ⟨_, rfl, rfl, hsub, by show St _ _ (ptrRes (objA 70 (c4 30)) (c4 9) ++ _); rw [d4, o2]; exact hS, trivial⟩
 intro o3 a28 a29 a30 u6 hS u7 j0 hcq
 have o4 : ev o3 (.tmp 31) = vI a3.2 := j0 12 31 rfl rfl
 refine r_assign (vI a3.2) o4 rfl ?_
 exact qn (.refl _) rfl hS rfl
 intro c5 o5 h0 d1 hS c2 e2 hcq
 have hS : St h0 o5 ((ptrRes (objA 70 (c5 30)) (c5 9) ++ ([])) ++ (a8 ++ ([(b5, .cells ([a4]).toArray 47)] ++ ([(b7, .cells ([Value.slice none 0 0]).toArray 47)] ++ ([(b4, .cells ([s1]).toArray 47)] ++ ([(b1, .cells (enc8 .u8 a1.1 ++ [vI a1.2]).toArray 76)] ++ L)))))) := hS
 have hsub := hsub.trans d1
 have c0 := c0.mono d1
 have b9 := b9.mono d1
 have a9 := a9.mono d1
 have h1 := evT (c2 0 rfl) d5
 have e8 := evT (c2 4 rfl) d6
 have e9 := evT (c2 5 rfl) c7
 have h2 := evT (c2 6 rfl) d7
 have f0 := evT (c2 7 rfl) d8
 have f1 := evT (c2 8 rfl) c8
 have o6 : ev c5 (.tmp 30) = Value.agg (enc8 .u8 a3.1).toArray := e2 11 30 (by decide) rfl
 have h3 : ev c5 (.tmp 10) = vI a3.2 := e2 15 10 (by decide) rfl
 obtain ⟨b8, c9⟩ := e2 13 9 (by decide) rfl
 have c9 : c5 9 = vP b8 := c9
 rw [c9] at hS
 have c9 : ev c5 (.tmp 9) = _ := c9
 have o7 : c5 30 = Value.agg (enc8 .u8 a3.1).toArray := o6
 rw [o7] at hS
 refine reg_nil (run_seq ?_)
 refine run_region ?_
 refine r_move (vI a3.2) (by exact h3) rfl ?_
 refine r_neq (k := .i64) (a := a3.2) (b := 0) rfl rfl rfl ?_
 refine reg_nil ?_
 by_cases d2 : a3.2 = 0
 rw [if_pos d2] at b2
 refine run_cond_false (Eq.trans rfl (congrArg (fun b => Value.bool (!b)) (decide_eq_true d2))) ?_
 refine run_skip (run_inBlock ?_)
 refine run_region ?_
 refine r_move (vI a5) (by exact f1) rfl ?_
 refine r_add (a5 + 1) rfl rfl (IntWalk.i64_in _ (by omega)) rfl ?_
 refine r_assign (vI (a5 + 1)) rfl rfl ?_
 refine reg_nil ?_
 have hS := St.dropA (A := [(b8, .cells (enc8 .u8 a3.1).toArray 70)]) hS
 exact l5 _ _ ⟨(a5 + 1), a7, h0, a8, a4, b2, hsub, hS, (by omega), a9, c0, b9, h1, e8, e9, h2, f0, rfl⟩
 rw [if_neg d2] at b2
 refine run_cond_true (Eq.trans rfl (congrArg (fun b => Value.bool (!b)) (decide_eq_false d2))) ?_
 obtain ⟨e3, e4, u8, a31, _, j1, e5, ⟨_, _, rfl, rfl, rfl⟩, j2⟩ := b9.elem (i := a5) (by omega) (by omega)
 obtain ⟨b6, j3, b2⟩ := bind_some b2
 refine run_draw 17 (tabL [(34, MP.eq (vP b5)), (35, MP.eq (a4)), (36, MP.eq (Value.agg (enc8 .u8 a3.1).toArray)), (37, MP.eq (vI a3.2)), (38, MP.eq (Value.pointer (some ⟨b1, 8, none⟩))), (39, MP.eq (vI a1.2)), (40, MP.eq (vI (IntKind.i64.wrap (a3.2 * a1.2)))), (41, MP.eq (vP b4)), (42, MP.eq (s1)), (43, MP.eq (vI a5)), (44, MP.eq (Value.pointer (some ⟨e3, e4, none⟩))), (45, MP.eq (Value.pointer (some ⟨e3, e4 + 8, none⟩))), (46, MP.eq (vI ((rd a2 a5).2))), (47, MP.eq (vI (IntKind.i64.wrap ((IntKind.i64.wrap (a3.2 * a1.2)) * (rd a2 a5).2)))), (48, MP.eq (vI b6)), (49, MP.eq (Value.agg (enc8 .u8 a3.1 ++ [vI b6]).toArray)), (50, MP.sl yT ([(a3.1, b6)]))]) [] mixed rfl rfl rfl hS (hop_q rfl ?_ (hop_q rfl ?_ (hop_q rfl ?_ (hop_q rfl ?_ (hop_q rfl ?_ (hop_q rfl ?_ (hop_q rfl ?_ (hop_q rfl ?_ (hop_q rfl ?_ (hop_q rfl ?_ (hop_q rfl ?_ (hop_q rfl ?_ (hop_q rfl ?_ (hop_q rfl ?_ (hop_q rfl ?_ (hop_q rfl ?_ (hop_q rfl ?_ hop_nil))))))))))))))))) ?_
 intro a32 a33 a34 a35 u9 hS j4 v0 hcq
 refine r_fieldAddr fld47_0 (evT (j4 7 rfl) f0) rfl ?_
 exact qn (.refl _) rfl hS rfl
 intro o8 a36 a37 a38 v1 hS v2 j5 hcq
 have o9 : ev o8 (.tmp 34) = vP b5 := j5 0 34 rfl rfl
 refine r_loadOne (a4) ty45 o9 (hS.get (mR (mR (mR mL)))) rfl rfl ?_
 exact qn (.refl _) rfl hS rfl
 intro a39 a40 a41 a42 v3 hS j6 v4 hcq
 refine r_loadAll ty70 (evT (j6 9 rfl) c9) (hS.get (mR mL)) rfl rfl ?_
 exact qn (.refl _) rfl hS rfl
 intro a43 a44 a45 a46 v5 hS j7 v6 hcq
 refine r_move (vI a3.2) (evT (j7 10 rfl) h3) rfl ?_
 exact qn (.refl _) rfl hS rfl
 intro a47 a48 a49 a50 v7 hS j8 v8 hcq
 refine r_fieldAddr fld76_1 (evT (j8 4 rfl) e8) rfl ?_
 exact qn (.refl _) rfl hS rfl
 intro p0 a51 a52 a53 v9 hS w0 j9 hcq
 have p1 : ev p0 (.tmp 38) = Value.pointer (some ⟨b1, 8, none⟩) := j9 4 38 rfl rfl
 refine r_loadOne (vI a1.2) ty2 p1 (hS.get (mR (mR (mR (mR (mR (mR mL))))))) rfl rfl ?_
 exact qn (.refl _) rfl hS rfl
 intro h4 a54 a55 a56 w1 hS w3 f5 hcq
 have p2 : ev h4 (.tmp 37) = vI a3.2 := f5 3 37 rfl rfl
 have p3 : ev h4 (.tmp 39) = vI a1.2 := f5 5 39 rfl rfl
 refine r_mul (IntKind.i64.wrap (a3.2 * a1.2)) p2 p3 rfl rfl ?_
 exact qn (.refl _) rfl hS rfl
 intro a57 a58 a59 a60 w4 hS k0 w6 hcq
 refine r_fieldAddr fld47_0 (evT (k0 5 rfl) e9) rfl ?_
 exact qn (.refl _) rfl hS rfl
 intro p4 a61 a62 a63 w7 hS w9 k1 hcq
 have p5 : ev p4 (.tmp 41) = vP b4 := k1 7 41 rfl rfl
 refine r_loadOne (s1) ty45 p5 (hS.get (mR (mR (mR (mR (mR mL)))))) rfl rfl ?_
 exact qn (.refl _) rfl hS rfl
 intro a64 a65 a66 a67 x0 hS k2 x1 hcq
 refine r_move (vI a5) (evT (k2 8 rfl) f1) rfl ?_
 exact qn (.refl _) rfl hS rfl
 intro h5 a68 a69 a70 x2 hS x3 f6 hcq
 have p6 : ev h5 (.tmp 42) = s1 := f6 8 42 rfl rfl
 have p7 : ev h5 (.tmp 43) = vI a5 := f6 9 43 rfl rfl
 refine r_indexAt sl45 rfl p6 j1 p7 (by omega) (by omega) rfl ?_
 exact qn (.refl _) rfl hS rfl
 intro p8 a71 a72 a73 x4 hS x5 k3 hcq
 have p9 : ev p8 (.tmp 44) = Value.pointer (some ⟨e3, e4, none⟩) := k3 10 44 rfl rfl
 refine r_fieldAddr fld76_1 p9 rfl ?_
 exact qn (.refl _) rfl hS rfl
 intro q1 a74 a75 a76 k4 hS x6 k5 hcq
 have e5 := k4.1 _ _ e5
 have q2 : ev q1 (.tmp 45) = Value.pointer (some ⟨e3, e4 + 8, none⟩) := k5 11 45 rfl rfl
 refine r_loadOne (vI ((rd a2 a5).2)) ty2 q2 (hS.froz _ _ e5) (j2 8 (show 8 < 9 by decide)) rfl ?_
 exact qn (.refl _) rfl hS rfl
 intro h6 a77 a78 a79 x7 hS x8 f7 hcq
 have q3 : ev h6 (.tmp 40) = vI (IntKind.i64.wrap (a3.2 * a1.2)) := f7 6 40 rfl rfl
 have q4 : ev h6 (.tmp 46) = vI ((rd a2 a5).2) := f7 12 46 rfl rfl
 refine r_mul (IntKind.i64.wrap ((IntKind.i64.wrap (a3.2 * a1.2)) * (rd a2 a5).2)) q3 q4 rfl rfl ?_
 exact qn (.refl _) rfl hS rfl
 intro q5 a80 a81 a82 x9 hS y0 k6 hcq
 have q6 : ev q5 (.tmp 47) = vI (IntKind.i64.wrap ((IntKind.i64.wrap (a3.2 * a1.2)) * (rd a2 a5).2)) := k6 13 47 rfl rfl
 refine r_callFn Tryz.call217 (args1 q6) rfl (g_spec_l01Mod_ok j3  hS) ?_
 rintro a83 a84 ⟨_, a85, rfl, k7, hS, rfl⟩
 refine ⟨_, rfl, ?_⟩
 exact qn k7 rfl hS rfl
 intro h7 a86 a87 a88 y1 hS y2 f8 hcq
 have q7 : ev h7 (.tmp 36) = Value.agg (enc8 .u8 a3.1).toArray := f8 2 36 rfl rfl
 have q8 : ev h7 (.tmp 48) = vI b6 := f8 14 48 rfl rfl
 refine r_build (enc8 .u8 a3.1 ++ [vI b6]) bu76 (parts2 q7 q8) (fill_cons rfl rfl rfl (Nat.le_of_ble_eq_true rfl) (fill_cons rfl rfl rfl (Nat.le_of_ble_eq_true rfl) (fill_nil rfl))) rfl ?_
 exact qn (.refl _) rfl hS rfl
 intro q9 a89 a90 a91 y3 hS y4 k8 hcq
 have r0 : ev q9 (.tmp 49) = Value.agg (enc8 .u8 a3.1 ++ [vI b6]).toArray := k8 15 49 rfl rfl
 refine r_lit (τ := yT) sl45 ze76 rfl [Value.agg (enc8 .u8 a3.1 ++ [vI b6]).toArray] [(a3.1, b6)] rfl rfl (parts1 r0) (rel1 ⟨_, _, rfl, rfl, rfl⟩) (by decide) (by decide) hS rfl ?_
 intro a92 a93 a94 k9 hS l0
 exact qn k9 rfl hS l0
 intro h8 h9 c6 d3 hS c3 f9 hcq
 have hS : St c6 h9 ([(b8, .cells (enc8 .u8 a3.1).toArray 70)] ++ (a8 ++ ([(b5, .cells ([a4]).toArray 47)] ++ ([(b7, .cells ([Value.slice none 0 0]).toArray 47)] ++ ([(b4, .cells ([s1]).toArray 47)] ++ ([(b1, .cells (enc8 .u8 a1.1 ++ [vI a1.2]).toArray 76)] ++ L)))))) := hS
 have hsub := hsub.trans d3
 have c0 := c0.mono d3
 have b9 := b9.mono d3
 have a9 := a9.mono d3
 have i0 := evT (c3 7 rfl) f0
 have r1 : ev h8 (.tmp 35) = a4 := f9 1 35 (by decide) rfl
 obtain ⟨r2, i1⟩ : ∃ v, ev h8 (.tmp 50) = v := ⟨_, rfl⟩
 have l1 : RdSl yT c6 r2 ([(a3.1, b6)]) := i1 ▸ (f9 16 50 (by decide) rfl)
 obtain ⟨l2, b2⟩ := gd b2
 have hS : St c6 h9 (a8 ++ ([(b8, .cells (enc8 .u8 a3.1).toArray 70)] ++ ([(b5, .cells ([a4]).toArray 47)] ++ ([(b7, .cells ([Value.slice none 0 0]).toArray 47)] ++ ([(b4, .cells ([s1]).toArray 47)] ++ ([(b1, .cells (enc8 .u8 a1.1 ++ [vI a1.2]).toArray 76)] ++ L)))))) := hS.perm (perm1 (A1 := [(b8, .cells (enc8 .u8 a3.1).toArray 70)]))
 refine r_append (τ := yT) ap45 rfl (by exact r1) (by exact i1) a9 hS l1 l2 rfl ?_
 intro e6 i2 d0 g0 hS
 have hS : St c6 i2 ([(b8, .cells (enc8 .u8 a3.1).toArray 70)] ++ (d0 ++ ([(b5, .cells ([a4]).toArray 47)] ++ ([(b7, .cells ([Value.slice none 0 0]).toArray 47)] ++ ([(b4, .cells ([s1]).toArray 47)] ++ ([(b1, .cells (enc8 .u8 a1.1 ++ [vI a1.2]).toArray 76)] ++ L)))))) := hS.perm (perm1 (A1 := [(b8, .cells (enc8 .u8 a3.1).toArray 70)])).symm
 refine r_fieldAddr fld47_0 (by exact i0) rfl ?_
 have hS : St c6 i2 ([(b5, .cells ([a4]).toArray 47)] ++ ([(b8, .cells (enc8 .u8 a3.1).toArray 70)] ++ (d0 ++ ([(b7, .cells ([Value.slice none 0 0]).toArray 47)] ++ ([(b4, .cells ([s1]).toArray 47)] ++ ([(b1, .cells (enc8 .u8 a1.1 ++ [vI a1.2]).toArray 76)] ++ L)))))) := hS.perm (perm2 (A1 := [(b8, .cells (enc8 .u8 a3.1).toArray 70)]) (A2 := d0))
 refine r_store1 (v := e6) (cs := ([a4]).toArray) (cs' := ([e6]).toArray) ty45 rfl rfl hS g0.isOne rfl (Nat.le_of_ble_eq_true rfl) rfl ?_
 intro r3 hS
 have hS : St c6 r3 ([(b8, .cells (enc8 .u8 a3.1).toArray 70)] ++ (d0 ++ ([(b5, .cells ([e6]).toArray 47)] ++ ([(b7, .cells ([Value.slice none 0 0]).toArray 47)] ++ ([(b4, .cells ([s1]).toArray 47)] ++ ([(b1, .cells (enc8 .u8 a1.1 ++ [vI a1.2]).toArray 76)] ++ L)))))) := hS.perm (perm2 (A1 := [(b8, .cells (enc8 .u8 a3.1).toArray 70)]) (A2 := d0)).symm
 refine reg_nil (run_inBlock ?_)
 refine run_region ?_
 refine r_move (vI a5) (by exact (evT (c3 8 rfl) f1)) rfl ?_
 refine r_add (a5 + 1) rfl rfl (IntWalk.i64_in _ (by omega)) rfl ?_
 refine r_assign (vI (a5 + 1)) rfl rfl ?_
 refine reg_nil ?_
 have hS := St.dropA (A := [(b8, .cells (enc8 .u8 a3.1).toArray 70)]) hS
 exact l5 _ _ ⟨(a5 + 1), (a7 ++ [(a3.1, b6)]), c6, d0, e6, b2, hsub, hS, (by omega), g0, c0, b9, (evT (c3 0 rfl) h1), (evT (c3 4 rfl) e8), (evT (c3 5 rfl) e9), (evT (c3 6 rfl) h2), i0, rfl⟩
 rw [if_neg e0] at b2
 refine run_cond_false (Eq.trans rfl (congrArg Value.bool (decide_eq_false e0))) ?_
 refine run_exit rfl ?_
 have hz := Option.some.inj b2
 subst hz
 exact r6 _ _ ⟨a7, l7, a8, a4, rfl, hsub, hS, a9, b9, d7, d8⟩
 exact ⟨0, ([] : List (A8 × Int)), H, ([]), (Value.slice none 0 0), b2, hsub, hS, (by omega), g2, c0, b9, rfl, rfl, rfl, rfl, rfl, rfl⟩
 rintro a95 r4 ⟨b3, i3, b0, a6, rfl, hsub, hS, c1, b9, d9, g1⟩
 dsimp only [Ex.elim] at g4
 refine run_seq (run_region ?_)
 refine r_loadAll ty47 (by exact g1) (hS.get (mR mL)) rfl rfl ?_
 have hS : St i3 r4 ([(b7, .cells ([Value.slice none 0 0]).toArray 47)] ++ (b0 ++ ([(b5, .cells ([a6]).toArray 47)] ++ ([(b4, .cells ([s1]).toArray 47)] ++ ([(b1, .cells (enc8 .u8 a1.1 ++ [vI a1.2]).toArray 76)] ++ L))))) := hS.perm (perm2 (A1 := b0) (A2 := [(b5, .cells ([a6]).toArray 47)]))
 refine r_storeAll (v := Value.agg ([a6]).toArray) (vs := ([a6]).toArray) (cs := ([Value.slice none 0 0]).toArray) ty47 (by exact d9) rfl rfl hS rfl (one1 c1.isOne) rfl ?_
 intro r5 hS
 have hS : St i3 r5 (b0 ++ ([(b5, .cells ([a6]).toArray 47)] ++ ([(b7, .cells ([a6]).toArray 47)] ++ ([(b4, .cells ([s1]).toArray 47)] ++ ([(b1, .cells (enc8 .u8 a1.1 ++ [vI a1.2]).toArray 76)] ++ L))))) := hS.perm (perm2 (A1 := b0) (A2 := [(b5, .cells ([a6]).toArray 47)])).symm
 refine reg_nil ?_
 refine run_ret (vs := [Value.agg ([a6]).toArray]) Tryz.func251 ⟨⟨_, (by exact d9), run_loadAll ty47 (hS.get (mR (mR mL))) rfl⟩, trivial⟩ ?_
 obtain ⟨a96, l3, hS, l4⟩ := c1.freeze hS
 have hsub := hsub.trans l3
 have hz := Option.some.inj g4
 subst hz
 exact ⟨_, _, rfl, hsub, (St.dropA (A := [(b1, .cells (enc8 .u8 a1.1 ++ [vI a1.2]).toArray 76)]) (St.dropA (A := [(b4, .cells ([s1]).toArray 47)]) (St.dropA (A := [(b7, .cells ([a6]).toArray 47)]) (St.dropA (A := [(b5, .cells ([a6]).toArray 47)]) hS)))), ⟨_, rfl, ⟨_, rfl, l4⟩⟩⟩
def g_impl_sumOf_l0 (K : Nat) (a0 : MpT) : Nat → Int → MpT → Option (Ex MpT (MpT))
 | 0, _, _ => none
 | k + 1, a1, a3 => (if a1 < (a0.length : Int) then ((g_impl_powerOf K ((rd a0 a1).1)).bind fun b4 => g_impl_sumOf_l0 K a0 k (a1 + 1) (mput a3 b4 ((rd a0 a1).2))) else some (.go a3))
def g_impl_sumOf (K : Nat) (a0 : MpT) : Option MpT := ((g_impl_sumOf_l0 K a0 K 0 ([] : MpT)).bind (Ex.elim (fun r => some r) (fun s => (fun (a7 : MpT) => some a7) s)))
set_option maxRecDepth 100000 in
set_option maxHeartbeats 1000000 in
theorem g_impl_sumOf_ok {K : Nat} {a0 : MpT} {r : MpT} (q0 : g_impl_sumOf K a0 = some r) {H : FH} {w : World} {L : OL} {s0 : Value} (b0 : RdSl yT H s0 a0) (hS : St H w L) :
 Calls Tryz.prog 90 #[Value.agg ([s0]).toArray] w (DoneM .i64 r H L) := by
 have hsub := Sub.refl H
 refine calls_of_run Tryz.func90 rfl Tryz.ntmps90 rfl ?_
 unfold g_impl_sumOf at q0
 refine run_seq (run_region ?_)
 refine r_box (v := Value.agg ([s0]).toArray) ([s0]).toArray rfl rfl hS rfl ?_
 intro b1 w2 hS
 refine r_assign (Value.map none) rfl rfl ?_
 refine reg_nil (run_seq ?_)
 refine run_region ?_
 refine r_makeMap (k := .i64) hS rfl ?_
 intro m4 w5 C6 e3 hS
 refine r_assign (m4) rfl rfl ?_
 refine reg_nil (run_seq ?_)
 refine run_seq (run_region ?_)
 refine r_fieldAddr fld47_0 rfl rfl ?_
 refine r_loadOne (s0) ty45 rfl (hS.get (mR mL)) rfl rfl ?_
 have h8 := b0.bound
 refine r_lenRd sl45 rfl b0 rfl ?_
 refine r_move (vI 0) rfl rfl ?_
 refine reg_nil (run_block ?_)
 obtain ⟨c4, a5, c5⟩ := bind_some q0
 refine loop_ind (id := 0) (fun k f w => ∃ (a1 : Int) (a3 : MpT) (H1 : FH) (a4 : OL), g_impl_sumOf_l0 K a0 k a1 a3 = some c4 ∧ Sub H H1 ∧ St H1 w (a4 ++ ([(b1, .cells ([s0]).toArray 47)] ++ L)) ∧ 0 ≤ a1 ∧ OwnMp .i64 m4 a3 a4 ∧ RdSl yT H1 s0 a0 ∧ ev f (.tmp 3) = m4 ∧ ev f (.tmp 8) = s0 ∧ ev f (.tmp 9) = vI (a0.length : Int) ∧ ev f (.tmp 10) = vI a1) (fun f w => ∃ (a7 : MpT) (H1 : FH) (a8 : OL), c4 = .go a7 ∧ Sub H H1 ∧ St H1 w (a8 ++ ([(b1, .cells ([s0]).toArray 47)] ++ L)) ∧ OwnMp .i64 m4 a7 a8 ∧ RdSl yT H1 s0 a0 ∧ ev f (.tmp 3) = m4) rfl ?_ ?_ K ?_ ?_
 rintro f w ⟨a1, a3, H1, a4, a5, _⟩
 rw [g_impl_sumOf_l0] at a5; cases a5
 rintro k g0 g1 e4 e5 ⟨a1, a3, c9, a4, a5, hsub, hS, e2, a6, b0, b3, b5, b6, b2⟩
 rw [g_impl_sumOf_l0] at a5
 refine run_seq (run_region ?_)
 refine r_lss (k := .i64) (a := a1) (b := (a0.length : Int)) (by exact b2) (by exact b6) rfl ?_
 refine reg_nil (run_seq ?_)
 by_cases b7 : a1 < (a0.length : Int)
 rw [if_pos b7] at a5
 refine run_cond_true (Eq.trans rfl (congrArg Value.bool (decide_eq_true b7))) ?_
 refine run_skip (run_seq ?_)
 refine run_block (run_seq ?_)
 refine run_region ?_
 obtain ⟨h9, i0, g2, i1, _, d0, d1, ⟨_, _, rfl, rfl, rfl⟩, d2⟩ := b0.elem (i := a1) (by omega) (by omega)
 refine r_indexAt sl45 rfl (by exact b5) d0 (by exact b2) (by omega) (by omega) rfl ?_
 refine r_loadAgg (enc8 .u8 ((rd a0 a1).1) ++ [vI ((rd a0 a1).2)]) ty76 rfl (hS.froz _ _ d1) rfl d2 rfl ?_
 refine r_alloc (z := Value.agg (enc8 .u8 (fun _ => 0) ++ [vI 0]).toArray) (enc8 .u8 (fun _ => 0) ++ [vI 0]).toArray ze76.zero rfl hS rfl ?_
 intro a9 i2 hS
 refine r_storeAll (v := Value.agg (enc8 .u8 ((rd a0 a1).1) ++ [vI ((rd a0 a1).2)]).toArray) (vs := (enc8 .u8 ((rd a0 a1).1) ++ [vI ((rd a0 a1).2)]).toArray) (cs := (enc8 .u8 (fun _ => 0) ++ [vI 0]).toArray) ty76 rfl rfl rfl hS rfl (one_app (enc8_one .u8 ((rd a0 a1).1)) (one1 rfl)) rfl ?_
 intro i3 hS
 refine reg_nil ?_
 obtain ⟨b4, d3, a5⟩ := bind_some a5
 refine run_draw 6 (tabL [(14, MP.eq (m4)), (15, MP.eq (vP a9)), (16, MP.eq (Value.agg (enc8 .u8 ((rd a0 a1).1)).toArray)), (17, MP.eq (Value.agg (enc8 .i64 b4).toArray)), (18, MP.eq (Value.pointer (some ⟨a9, 8, none⟩))), (19, MP.eq (vI ((rd a0 a1).2)))]) [] mixed rfl rfl rfl hS (hop_q rfl ?_ (hop_q rfl ?_ (hop_q rfl ?_ (hop_q rfl ?_ (hop_q rfl ?_ (hop_q rfl ?_ hop_nil)))))) ?_
 intro i4 i5 i6 i7 g3 hS d4 g4 hcq
 refine r_move (m4) (evT (d4 3 rfl) b3) rfl ?_
 exact qn (.refl _) rfl hS rfl
 intro e6 i8 i9 j0 g5 hS d5 g6 hcq
 have e7 : ev e6 (.tmp 5) = vP a9 := Eq.trans (d5 5 rfl) rfl
 refine r_fieldAddr fld76_0 e7 rfl ?_
 exact qn (.refl _) rfl hS rfl
 intro e8 j1 j2 j3 g7 hS g8 d6 hcq
 have e9 : ev e8 (.tmp 15) = vP a9 := d6 1 15 rfl rfl
 refine r_loadAgg (enc8 .u8 ((rd a0 a1).1)) ty70 e9 (hS.get (o := .cells (enc8 .u8 ((rd a0 a1).1) ++ [vI ((rd a0 a1).2)]).toArray 76) (mR mL)) rfl (fun j hj => sub_box ([]) (enc8 .u8 ((rd a0 a1).1)) (([vI ((rd a0 a1).2)])) j hj) rfl ?_
 exact qn (.refl _) rfl hS rfl
 intro f0 j4 j5 j6 g9 hS h0 d7 hcq
 have f1 : ev f0 (.tmp 16) = Value.agg (enc8 .u8 ((rd a0 a1).1)).toArray := d7 2 16 rfl rfl
 refine r_callFn Tryz.call176 (args1 f1) rfl (g_impl_powerOf_ok d3  hS) ?_
 rintro j7 j8 ⟨j9, k0, rfl, d8, hS, ⟨_, rfl, rfl⟩⟩
 refine ⟨_, rfl, ?_⟩
 exact qn d8 rfl hS rfl
 intro f2 k1 k2 k3 h1 hS d9 h2 hcq
 have f3 : ev f2 (.tmp 5) = vP a9 := Eq.trans (d9 5 rfl) rfl
 refine r_fieldAddr fld76_1 f3 rfl ?_
 exact qn (.refl _) rfl hS rfl
 intro f4 k4 k5 k6 h3 hS h4 e0 hcq
 have f5 : ev f4 (.tmp 18) = Value.pointer (some ⟨a9, 8, none⟩) := e0 4 18 rfl rfl
 refine r_loadOne (vI ((rd a0 a1).2)) ty2 f5 (hS.get (mR mL)) rfl rfl ?_
 exact qn (.refl _) rfl hS rfl
 intro c6 c7 c2 c0 hS b8 c1 hcq
 have hS : St c2 c7 ([(a9, .cells (enc8 .u8 ((rd a0 a1).1) ++ [vI ((rd a0 a1).2)]).toArray 76)] ++ (a4 ++ ([(b1, .cells ([s0]).toArray 47)] ++ L))) := hS
 have hsub := hsub.trans c0
 have b0 := b0.mono c0
 have a6 := a6.mono c0
 have f6 : ev c6 (.tmp 14) = m4 := c1 0 14 (by decide) rfl
 have f7 : ev c6 (.tmp 17) = Value.agg (enc8 .i64 b4).toArray := c1 3 17 (by decide) rfl
 have f8 : ev c6 (.tmp 19) = vI ((rd a0 a1).2) := c1 5 19 (by decide) rfl
 have hS : St c2 c7 (a4 ++ ([(a9, .cells (enc8 .u8 ((rd a0 a1).1) ++ [vI ((rd a0 a1).2)]).toArray 76)] ++ ([(b1, .cells ([s0]).toArray 47)] ++ L))) := hS.perm (perm1 (A1 := [(a9, .cells (enc8 .u8 ((rd a0 a1).1) ++ [vI ((rd a0 a1).2)]).toArray 76)]))
 refine r_mapUpdate (a := b4) (m := (rd a0 a1).2) mp109 (by exact f6) (by exact f7) (by exact f8) a6 hS ?_
 intro f9 c8 e1 hS
 have hS : St c2 f9 ([(a9, .cells (enc8 .u8 ((rd a0 a1).1) ++ [vI ((rd a0 a1).2)]).toArray 76)] ++ (c8 ++ ([(b1, .cells ([s0]).toArray 47)] ++ L))) := hS.perm (perm1 (A1 := [(a9, .cells (enc8 .u8 ((rd a0 a1).1) ++ [vI ((rd a0 a1).2)]).toArray 76)])).symm
 refine reg_nil (run_inBlock ?_)
 refine run_region ?_
 refine r_add (a1 + 1) (by exact (evT (b8 10 rfl) b2)) rfl (IntWalk.i64_in _ (by omega)) rfl ?_
 refine r_move (vI (a1 + 1)) rfl rfl ?_
 refine reg_nil ?_
 have hS := St.dropA (A := [(a9, .cells (enc8 .u8 ((rd a0 a1).1) ++ [vI ((rd a0 a1).2)]).toArray 76)]) hS
 exact e4 _ _ ⟨(a1 + 1), (mput a3 b4 ((rd a0 a1).2)), c2, c8, a5, hsub, hS, (by omega), e1, b0, (evT (b8 3 rfl) b3), (evT (b8 8 rfl) b5), (evT (b8 9 rfl) b6), rfl⟩
 rw [if_neg b7] at a5
 refine run_cond_false (Eq.trans rfl (congrArg Value.bool (decide_eq_false b7))) ?_
 refine run_exit rfl ?_
 have hz := Option.some.inj a5
 subst hz
 exact e5 _ _ ⟨a3, c9, a4, rfl, hsub, hS, a6, b0, b3⟩
 exact ⟨0, ([] : MpT), H, C6, a5, hsub, hS, (by omega), e3, b0, rfl, rfl, rfl, rfl⟩
 rintro h5 h6 ⟨a7, h7, a8, rfl, hsub, hS, b9, b0, c3⟩
 dsimp only [Ex.elim] at c5
 refine run_seq (run_region ?_)
 refine r_move (m4) (by exact c3) rfl ?_
 refine r_assign (m4) rfl rfl ?_
 refine reg_nil ?_
 refine run_ret (vs := [m4]) Tryz.func90 ⟨rfl, trivial⟩ ?_
 have hS := St.dropMid (A := a8) (B := [(b1, .cells ([s0]).toArray 47)]) hS
 have hz := Option.some.inj c5
 subst hz
 exact ⟨_, _, _, rfl, hsub, hS, b9⟩
def g_spec_l01Single (K : Nat) (a0 : A8) (a1 : Int) : Option MpT := ((g_spec_l01Mod K a1).bind fun r7 => (if r7 = 0 then some ([] : List (A8 × Int)) else ((g_spec_l01Mod K a1).bind fun a3 => some ([(a0, a3)]))))
set_option maxRecDepth 100000 in
set_option maxHeartbeats 1000000 in
theorem g_spec_l01Single_ok {K : Nat} {a0 : A8} {a1 : Int} {r : MpT} (q0 : g_spec_l01Single K a0 a1 = some r) {H : FH} {w : World} {L : OL} (hS : St H w L) :
 Calls Tryz.prog 170 #[Value.agg (enc8 .u8 a0).toArray, vI a1] w (Done (fun v G => (R.agg (tySl yT)).p G v r) H L) := by
 have hsub := Sub.refl H
 refine calls_of_run Tryz.func170 rfl Tryz.ntmps170 rfl ?_
 unfold g_spec_l01Single at q0
 refine run_seq (run_region ?_)
 refine r_box (v := Value.agg (enc8 .u8 a0).toArray) (enc8 .u8 a0).toArray rfl rfl hS rfl ?_
 intro b1 w2 hS
 refine r_alloc (z := Value.agg ([Value.slice none 0 0]).toArray) ([Value.slice none 0 0]).toArray ze47.zero rfl hS rfl ?_
 intro b4 w5 hS
 refine reg_nil (run_seq ?_)
 refine run_seq (run_region ?_)
 refine r_move (vI a1) rfl rfl ?_
 obtain ⟨r7, d1, q0⟩ := bind_some q0
 refine r_callFn Tryz.call217 (args1 rfl) rfl (g_spec_l01Mod_ok d1  hS) ?_
 rintro e7 w8 ⟨_, H7, rfl, d2, hS, rfl⟩
 refine ⟨_, rfl, ?_⟩
 have hsub := hsub.trans d2
 refine r_eql (k := .i64) (a := r7) (b := 0) rfl rfl rfl ?_
 refine reg_nil ?_
 by_cases a6 : r7 = 0
 rw [if_pos a6] at q0
 refine run_cond_true (Eq.trans rfl (congrArg Value.bool (decide_eq_true a6))) ?_
 refine run_seq (run_region ?_)
 refine r_build0 (Value.agg ([Value.slice none 0 0]).toArray) bz47 rfl ?_
 refine r_storeAll (v := Value.agg ([Value.slice none 0 0]).toArray) (vs := ([Value.slice none 0 0]).toArray) (cs := ([Value.slice none 0 0]).toArray) ty47 rfl rfl rfl hS rfl (one1 rfl) rfl ?_
 intro g0 hS
 refine reg_nil ?_
 refine run_ret (vs := [Value.agg ([Value.slice none 0 0]).toArray]) Tryz.func170 ⟨⟨_, rfl, run_loadAll ty47 (hS.get mL) rfl⟩, trivial⟩ ?_
 have hz := Option.some.inj q0
 subst hz
 exact ⟨_, _, rfl, hsub, (St.dropA (A := [(b1, .cells (enc8 .u8 a0).toArray 70)]) (St.dropA (A := [(b4, .cells ([Value.slice none 0 0]).toArray 47)]) hS)), ⟨_, rfl, ⟨_, rfl, RdSl.nil⟩⟩⟩
 rw [if_neg a6] at q0
 refine run_cond_false (Eq.trans rfl (congrArg Value.bool (decide_eq_false a6))) ?_
 refine run_skip (run_seq ?_)
 obtain ⟨a3, b8, q0⟩ := bind_some q0
 refine run_draw 6 (tabL [(9, MP.eq (Value.agg (enc8 .u8 a0).toArray)), (10, MP.eq (vI a1)), (11, MP.eq (vI a3)), (12, MP.eq (Value.agg (enc8 .u8 a0 ++ [vI a3]).toArray)), (13, MP.sl yT ([(a0, a3)])), (14, MP.rep (R.agg (tySl yT)) ([(a0, a3)]))]) [] mixed rfl rfl rfl hS (hop_q rfl ?_ (hop_q rfl ?_ (hop_q rfl ?_ (hop_q rfl ?_ (hop_q rfl ?_ (hop_q rfl ?_ hop_nil)))))) ?_
 intro d3 g1 g2 g3 e8 hS b9 e9 hcq
 have d4 : ev d3 (.tmp 2) = vP b1 := Eq.trans (b9 2 rfl) rfl
 refine r_loadAll ty70 d4 (hS.get (mR (mR mL))) rfl rfl ?_
 exact qn (.refl _) rfl hS rfl
 intro d5 g4 g5 g6 f0 hS c0 f1 hcq
 have d6 : ev d5 (.tmp 1) = vI a1 := Eq.trans (c0 1 rfl) rfl
 refine r_move (vI a1) d6 rfl ?_
 exact qn (.refl _) rfl hS rfl
 intro d7 g7 g8 g9 f2 hS f3 c1 hcq
 have d8 : ev d7 (.tmp 10) = vI a1 := c1 1 10 rfl rfl
 refine r_callFn Tryz.call217 (args1 d8) rfl (g_spec_l01Mod_ok b8  hS) ?_
 rintro h0 h1 ⟨_, h2, rfl, c2, hS, rfl⟩
 refine ⟨_, rfl, ?_⟩
 exact qn c2 rfl hS rfl
 intro a9 h3 h4 h5 f4 hS f5 a7 hcq
 have d9 : ev a9 (.tmp 9) = Value.agg (enc8 .u8 a0).toArray := a7 0 9 rfl rfl
 have e0 : ev a9 (.tmp 11) = vI a3 := a7 2 11 rfl rfl
 refine r_build (enc8 .u8 a0 ++ [vI a3]) bu76 (parts2 d9 e0) (fill_cons rfl rfl rfl (Nat.le_of_ble_eq_true rfl) (fill_cons rfl rfl rfl (Nat.le_of_ble_eq_true rfl) (fill_nil rfl))) rfl ?_
 exact qn (.refl _) rfl hS rfl
 intro e1 h6 h7 h8 f6 hS f7 c3 hcq
 have e2 : ev e1 (.tmp 12) = Value.agg (enc8 .u8 a0 ++ [vI a3]).toArray := c3 3 12 rfl rfl
 refine r_lit (τ := yT) sl45 ze76 rfl [Value.agg (enc8 .u8 a0 ++ [vI a3]).toArray] [(a0, a3)] rfl rfl (parts1 e2) (rel1 ⟨_, _, rfl, rfl, rfl⟩) (by decide) (by decide) hS rfl ?_
 intro h9 i0 i1 c4 hS c5
 exact qn c4 rfl hS c5
 intro e3 i2 e4 i3 f8 hS f9 c6 hcq
 obtain ⟨b0, b2⟩ : ∃ v, ev e3 (.tmp 13) = v := ⟨_, rfl⟩
 have a8 : RdSl yT e4 b0 ([(a0, a3)]) := b2 ▸ (c6 4 13 rfl rfl)
 refine r_build ([b0]) bu47 (parts1 b2) (fill_cons rfl a8.cellsL rfl (Nat.le_of_ble_eq_true rfl) (fill_nil rfl)) rfl ?_
 exact qn (.refl _) rfl hS ⟨_, rfl, ⟨_, rfl, a8⟩⟩
 intro b3 e5 b5 c7 hS c8 c9 hcq
 have hS : St b5 e5 ([(b4, .cells ([Value.slice none 0 0]).toArray 47)] ++ ([(b1, .cells (enc8 .u8 a0).toArray 70)] ++ L)) := hS
 have hsub := hsub.trans c7
 have b6 : ev b3 (.tmp 4) = vP b4 := Eq.trans (c8 4 rfl) rfl
 obtain ⟨e6, b7⟩ : ∃ v, ev b3 (.tmp 14) = v := ⟨_, rfl⟩
 have d0 : (R.agg (tySl yT)).p b5 e6 ([(a0, a3)]) := b7 ▸ (c9 5 14 (by decide) rfl)
 obtain ⟨_, rfl, ⟨a4, rfl, a5⟩⟩ := d0
 refine r_storeAll (v := Value.agg ([a4]).toArray) (vs := ([a4]).toArray) (cs := ([Value.slice none 0 0]).toArray) ty47 (by exact b6) (by exact b7) rfl hS rfl (one1 a5.isOne) rfl ?_
 intro i4 hS
 refine reg_nil ?_
 refine run_ret (vs := [Value.agg ([a4]).toArray]) Tryz.func170 ⟨⟨_, (by exact b6), run_loadAll ty47 (hS.get mL) rfl⟩, trivial⟩ ?_
 have hz := Option.some.inj q0
 subst hz
 exact ⟨_, _, rfl, hsub, (St.dropA (A := [(b1, .cells (enc8 .u8 a0).toArray 70)]) (St.dropA (A := [(b4, .cells ([a4]).toArray 47)]) hS)), ⟨_, rfl, ⟨_, rfl, a5⟩⟩⟩
def g_spec_l01Degrees_l0 (K : Nat) (a0 : (List Int)) : Nat → Int → Option (Ex Bool (Unit))
 | 0, _ => none
 | k + 1, a1 => (if a1 < (a0.length : Int) then ((g_spec_l01In K (rd a0 a1) 1 12).bind fun r4 => (if r4 = true then g_spec_l01Degrees_l0 K a0 k (a1 + 1) else some (.ret false))) else some (.go ()))
def g_spec_l01Degrees (K : Nat) (a0 : (List Int)) : Option Bool := ((g_spec_l01Degrees_l0 K a0 K 0).bind (Ex.elim (fun r => some r) (fun s => some (decide ((a0.length : Int) ≤ 8)))))
set_option maxRecDepth 100000 in
set_option maxHeartbeats 1000000 in
theorem g_spec_l01Degrees_ok {K : Nat} {a0 : (List Int)} {r : Bool} (q0 : g_spec_l01Degrees K a0 = some r) {H : FH} {w : World} {L : OL} {s0 : Value} (a4 : RdSl (tyInt .i64) H s0 a0) (hS : St H w L) :
 Calls Tryz.prog 178 #[s0] w (Done (fun v G => R.bool.p G v r) H L) := by
 have hsub := Sub.refl H
 refine calls_of_run Tryz.func178 rfl Tryz.ntmps178 rfl ?_
 unfold g_spec_l01Degrees at q0
 refine run_seq (run_region ?_)
 refine r_assign (Value.bool false) rfl rfl ?_
 refine reg_nil (run_seq ?_)
 refine run_seq (run_region ?_)
 refine r_assign (vI 0) rfl rfl ?_
 refine reg_nil (run_block ?_)
 obtain ⟨b1, a3, a7⟩ := bind_some q0
 refine loop_ind (id := 0) (fun k f w => ∃ (a1 : Int) (H1 : FH), g_spec_l01Degrees_l0 K a0 k a1 = some b1 ∧ Sub H H1 ∧ St H1 w (L) ∧ 0 ≤ a1 ∧ RdSl (tyInt .i64) H1 s0 a0 ∧ ev f (.tmp 0) = s0 ∧ ev f (.tmp 3) = vI a1) (fun f w => ∃ (H1 : FH), b1 = .go () ∧ Sub H H1 ∧ St H1 w (L) ∧ RdSl (tyInt .i64) H1 s0 a0 ∧ ev f (.tmp 0) = s0) rfl ?_ ?_ K ?_ ?_
 rintro f w ⟨a1, H1, a3, _⟩
 rw [g_spec_l01Degrees_l0] at a3; cases a3
 rintro k c2 c3 b5 b6 ⟨a1, b4, a3, hsub, hS, b7, a4, a5, a6⟩
 rw [g_spec_l01Degrees_l0] at a3
 refine run_seq (run_seq (run_region ?_))
 refine r_move (vI a1) (by exact a6) rfl ?_
 refine r_move (s0) (by exact a5) rfl ?_
 have c7 := a4.bound
 refine r_lenRd sl22 rfl a4 rfl ?_
 refine r_lss (k := .i64) (a := a1) (b := (a0.length : Int)) rfl rfl rfl ?_
 refine reg_nil ?_
 by_cases a8 : a1 < (a0.length : Int)
 rw [if_pos a8] at a3
 refine run_cond_true (Eq.trans rfl (congrArg Value.bool (decide_eq_true a8))) ?_
 refine run_skip (run_seq ?_)
 refine run_block (run_seq ?_)
 refine run_region ?_
 refine r_move (s0) (by exact a5) rfl ?_
 refine r_move (vI a1) (by exact a6) rfl ?_
 obtain ⟨b3, o3, c8, E3, _, b8, b9, rfl, c0⟩ := a4.elem (i := a1) (by omega) (by omega)
 refine r_indexAt sl22 rfl rfl b8 rfl (by omega) (by omega) rfl ?_
 refine r_loadOne (vI (rd a0 a1)) ty2 rfl (hS.froz _ _ b9) (c0 0 (show 0 < 1 by decide)) rfl ?_
 obtain ⟨r4, c1, a3⟩ := bind_some a3
 refine r_callFn Tryz.call93 (args3 rfl rfl rfl) rfl (g_spec_l01In_ok c1  hS) ?_
 rintro e4 w5 ⟨_, H4, rfl, b2, hS, rfl⟩
 refine ⟨_, rfl, ?_⟩
 have hsub := hsub.trans b2
 have a4 := a4.mono b2
 refine r_not (b := r4) rfl rfl ?_
 refine reg_nil ?_
 by_cases a9 : r4 = true
 rw [if_pos a9] at a3
 refine run_cond_false (Eq.trans rfl (congrArg (fun b => Value.bool (!b)) a9)) ?_
 refine run_skip (run_inBlock ?_)
 refine run_region ?_
 refine r_move (vI a1) (by exact a6) rfl ?_
 refine r_add (a1 + 1) rfl rfl (IntWalk.i64_in _ (by omega)) rfl ?_
 refine r_assign (vI (a1 + 1)) rfl rfl ?_
 refine reg_nil ?_
 exact b5 _ _ ⟨(a1 + 1), H4, a3, hsub, hS, (by omega), a4, a5, rfl⟩
 rw [if_neg a9] at a3
 refine run_cond_true (Eq.trans rfl (congrArg (fun b => Value.bool (!b)) (bfalse a9))) ?_
 refine run_seq (run_region ?_)
 refine r_assign (Value.bool false) rfl rfl ?_
 refine reg_nil ?_
 refine run_ret (vs := [Value.bool false]) Tryz.func178 ⟨rfl, trivial⟩ ?_
 have hz := Option.some.inj a3
 subst hz
 dsimp only [Ex.elim] at a7
 have hz := Option.some.inj a7
 subst hz
 exact ⟨_, _, rfl, hsub, hS, rfl⟩
 rw [if_neg a8] at a3
 refine run_cond_false (Eq.trans rfl (congrArg Value.bool (decide_eq_false a8))) ?_
 refine run_exit rfl ?_
 have hz := Option.some.inj a3
 subst hz
 exact b6 _ _ ⟨b4, rfl, hsub, hS, a4, a5⟩
 exact ⟨0, H, a3, hsub, hS, (by omega), a4, rfl, rfl⟩
 rintro c4 c5 ⟨c6, rfl, hsub, hS, a4, b0⟩
 dsimp only [Ex.elim] at a7
 refine run_seq (run_region ?_)
 refine r_move (s0) (by exact b0) rfl ?_
 have c9 := a4.bound
 refine r_lenRd sl22 rfl a4 rfl ?_
 refine r_leq (k := .i64) (a := (a0.length : Int)) (b := 8) rfl rfl rfl ?_
 refine r_assign (Value.bool (decide ((a0.length : Int) ≤ 8))) rfl rfl ?_
 refine reg_nil ?_
 refine run_ret (vs := [Value.bool (decide ((a0.length : Int) ≤ 8))]) Tryz.func178 ⟨rfl, trivial⟩ ?_
 have hz := Option.some.inj a7
 subst hz
 exact ⟨_, _, rfl, hsub, hS, rfl⟩
def g_laws_toTerm (K : Nat) (a0 : (A8 × Int)) : Option (A8 × Int) := ((g_laws_toMonomial K a0.1).bind fun a1 => some (a1, a0.2))
set_option maxRecDepth 100000 in
set_option maxHeartbeats 1000000 in
theorem g_laws_toTerm_ok {K : Nat} {a0 : (A8 × Int)} {r : (A8 × Int)} (q0 : g_laws_toTerm K a0 = some r) {H : FH} {w : World} {L : OL} (hS : St H w L) :
 Calls Tryz.prog 200 #[Value.agg (enc8 .u8 a0.1 ++ [vI a0.2]).toArray] w (Done (fun v G => (R.agg yT).p (G.new H) v r) H L) := by
 have hsub := Sub.refl H
 refine calls_of_run Tryz.func200 rfl Tryz.ntmps200 rfl ?_
 unfold g_laws_toTerm at q0
 refine run_seq (run_region ?_)
 refine r_box (v := Value.agg (enc8 .u8 a0.1 ++ [vI a0.2]).toArray) (enc8 .u8 a0.1 ++ [vI a0.2]).toArray rfl rfl hS rfl ?_
 intro b1 w2 hS
 refine r_alloc (z := Value.agg (enc8 .u8 (fun _ => 0) ++ [vI 0]).toArray) (enc8 .u8 (fun _ => 0) ++ [vI 0]).toArray ze76.zero rfl hS rfl ?_
 intro b4 w5 hS
 refine reg_nil (run_seq ?_)
 refine run_region ?_
 refine r_alloc (z := Value.agg (enc8 .u8 (fun _ => 0) ++ [vI 0]).toArray) (enc8 .u8 (fun _ => 0) ++ [vI 0]).toArray ze76.zero rfl hS rfl ?_
 intro b7 w8 hS
 refine reg_nil (run_seq ?_)
 refine run_region ?_
 refine r_fieldAddr fld236_0 rfl rfl ?_
 refine r_loadAgg (enc8 .u8 a0.1) ty69 rfl (hS.get (o := .cells (enc8 .u8 a0.1 ++ [vI a0.2]).toArray 236) (mR (mR mL))) rfl (fun j hj => sub_box ([]) (enc8 .u8 a0.1) (([vI a0.2])) j hj) rfl ?_
 obtain ⟨a1, a4, q0⟩ := bind_some q0
 refine r_callFn Tryz.call267 (args1 rfl) rfl (g_laws_toMonomial_ok a4  hS) ?_
 rintro a8 a9 ⟨b0, a3, rfl, a5, hS, ⟨_, rfl, rfl⟩⟩
 refine ⟨_, rfl, ?_⟩
 have hsub := hsub.trans a5
 refine r_fieldAddr fld76_0 rfl rfl ?_
 refine r_store (v := Value.agg (enc8 .u8 a1).toArray) (cs := (enc8 .u8 (fun _ => 0) ++ [vI 0]).toArray) (cs' := (enc8 .u8 a1 ++ [vI 0]).toArray) ty70 rfl rfl hS rfl (enc8_one .u8 a1) (Nat.le_of_ble_eq_true rfl) (by have h := splice_part (enc8 .u8 a1) ([]) (enc8 .u8 (fun _ => 0)) (([vI 0])) rfl; simp only [List.append_assoc, List.nil_append, List.append_nil] at h ⊢; exact h) ?_
 intro b2 hS
 refine reg_nil (run_seq ?_)
 refine run_region ?_
 refine r_fieldAddr fld236_1 rfl rfl ?_
 refine r_loadOne (vI a0.2) ty2 rfl (hS.get (mR (mR mL))) rfl rfl ?_
 refine r_fieldAddr fld76_1 rfl rfl ?_
 refine r_store (v := vI a0.2) (cs := (enc8 .u8 a1 ++ [vI 0]).toArray) (cs' := (enc8 .u8 a1 ++ [vI a0.2]).toArray) ty2 rfl rfl hS rfl (oneL rfl) (Nat.le_of_ble_eq_true rfl) rfl ?_
 intro a6 hS
 refine reg_nil (run_seq ?_)
 refine run_region ?_
 refine r_loadAll ty76 rfl (hS.get mL) rfl rfl ?_
 have hS : St a3 a6 ([(b4, .cells (enc8 .u8 (fun _ => 0) ++ [vI 0]).toArray 76)] ++ ([(b7, .cells (enc8 .u8 a1 ++ [vI a0.2]).toArray 76)] ++ ([(b1, .cells (enc8 .u8 a0.1 ++ [vI a0.2]).toArray 236)] ++ L))) := hS.perm (perm1 (A1 := [(b7, .cells (enc8 .u8 a1 ++ [vI a0.2]).toArray 76)]))
 refine r_storeAll (v := Value.agg (enc8 .u8 a1 ++ [vI a0.2]).toArray) (vs := (enc8 .u8 a1 ++ [vI a0.2]).toArray) (cs := (enc8 .u8 (fun _ => 0) ++ [vI 0]).toArray) ty76 rfl rfl rfl hS rfl (one_app (enc8_one .u8 a1) (one1 rfl)) rfl ?_
 intro a7 hS
 have hS : St a3 a7 ([(b7, .cells (enc8 .u8 a1 ++ [vI a0.2]).toArray 76)] ++ ([(b4, .cells (enc8 .u8 a1 ++ [vI a0.2]).toArray 76)] ++ ([(b1, .cells (enc8 .u8 a0.1 ++ [vI a0.2]).toArray 236)] ++ L))) := hS.perm (perm1 (A1 := [(b7, .cells (enc8 .u8 a1 ++ [vI a0.2]).toArray 76)])).symm
 refine reg_nil ?_
 refine run_ret (vs := [Value.agg (enc8 .u8 a1 ++ [vI a0.2]).toArray]) Tryz.func200 ⟨⟨_, rfl, run_loadAll ty76 (hS.get (mR mL)) rfl⟩, trivial⟩ ?_
 have hz := Option.some.inj q0
 subst hz
 exact ⟨_, _, rfl, hsub, (St.dropA (A := [(b1, .cells (enc8 .u8 a0.1 ++ [vI a0.2]).toArray 236)]) (St.dropA (A := [(b4, .cells (enc8 .u8 a1 ++ [vI a0.2]).toArray 76)]) (St.dropA (A := [(b7, .cells (enc8 .u8 a1 ++ [vI a0.2]).toArray 76)]) hS))), ⟨_, rfl, ⟨_, _, rfl, rfl, rfl⟩⟩⟩
def g_impl_Algebra_isGenerator (K : Nat) (a0 : ((List Int) × (List MpT))) (a1 : Int) : Option Bool := ((g_impl_within K a1 0 (IntKind.i64.wrap ((a0.1.length : Int) - 1))).bind fun r2 => some r2)
set_option maxRecDepth 100000 in
set_option maxHeartbeats 1000000 in
theorem g_impl_Algebra_isGenerator_ok {K : Nat} {a0 : ((List Int) × (List MpT))} {a1 : Int} {r : Bool} (q0 : g_impl_Algebra_isGenerator K a0 a1 = some r) {H : FH} {w : World} {L : OL} {s0 : Value} (a8 : PtrF (tyPr (tySl (tyInt .i64)) (tySl (tySl yT))) H s0 a0) (hS : St H w L) :
 Calls Tryz.prog 87 #[s0, vI a1] w (Done (fun v G => R.bool.p G v r) H L) := by
 obtain ⟨a9, b0, b4, b5, _, rfl, a5, ⟨_, _, rfl, ⟨a4, rfl, a3⟩, ⟨b1, rfl, a7⟩⟩, a6⟩ := a8
 have hsub := Sub.refl H
 refine calls_of_run Tryz.func87 rfl Tryz.ntmps87 rfl ?_
 unfold g_impl_Algebra_isGenerator at q0
 refine run_seq (run_region ?_)
 refine r_assign (Value.bool false) rfl rfl ?_
 refine reg_nil (run_seq ?_)
 refine run_region ?_
 refine r_move (vI a1) rfl rfl ?_
 refine r_move (Value.pointer (some ⟨a9, b0, none⟩)) rfl rfl ?_
 refine r_nilCheck rfl rfl ?_
 refine r_fieldAddr fld29_0 rfl rfl ?_
 refine r_loadOne (a4) ty22 rfl (hS.froz _ _ a5) (a6 0 (show 0 < 2 by decide)) rfl ?_
 have b6 := a3.bound
 refine r_lenRd sl22 rfl a3 rfl ?_
 refine r_sub (IntKind.i64.wrap ((a0.1.length : Int) - 1)) rfl rfl rfl rfl ?_
 obtain ⟨r2, b2, q0⟩ := bind_some q0
 refine r_callFn Tryz.call97 (args3 rfl rfl rfl) rfl (g_impl_within_ok b2  hS) ?_
 rintro e2 w3 ⟨_, H2, rfl, b3, hS, rfl⟩
 refine ⟨_, rfl, ?_⟩
 have hsub := hsub.trans b3
 refine r_assign (Value.bool r2) rfl rfl ?_
 refine reg_nil ?_
 refine run_ret (vs := [Value.bool r2]) Tryz.func87 ⟨rfl, trivial⟩ ?_
 have hz := Option.some.inj q0
 subst hz
 exact ⟨_, _, rfl, hsub, hS, rfl⟩
def g_slices_ContainsFunc_Sint64_int64 (K : Nat) (a0 : (List Int)) (a1 : (Int → Option Bool)) : Option Bool := ((g_slices_IndexFunc_Sint64_int64 K a0 a1).bind fun r1 => some (decide (0 ≤ r1)))
set_option maxRecDepth 100000 in
set_option maxHeartbeats 1000000 in
theorem g_slices_ContainsFunc_Sint64_int64_ok {K : Nat} {a0 : (List Int)} {a1 : (Int → Option Bool)} {r : Bool} (q0 : g_slices_ContainsFunc_Sint64_int64 K a0 a1 = some r) {H : FH} {w : World} {L : OL} {s0 : Value} {s1 : Value} (a3 : RdSl (tyInt .i64) H s0 a0) (a4 : FnQ Tryz.prog s1 (R.int .i64) a1 H) (hS : St H w L) :
 Calls Tryz.prog 218 #[s0, s1] w (Done (fun v G => R.bool.p G v r) H L) := by
 have hsub := Sub.refl H
 refine calls_of_run Tryz.func218 rfl Tryz.ntmps218 rfl ?_
 unfold g_slices_ContainsFunc_Sint64_int64 at q0
 refine run_seq (run_region ?_)
 refine r_assign (Value.bool false) rfl rfl ?_
 refine reg_nil (run_seq ?_)
 refine run_region ?_
 refine r_move (s0) rfl rfl ?_
 refine r_move (s1) rfl rfl ?_
 obtain ⟨r1, a5, q0⟩ := bind_some q0
 refine r_callFn Tryz.call263 (args2 rfl rfl) rfl (g_slices_IndexFunc_Sint64_int64_ok a5 a3 a4 hS) ?_
 rintro e1 w2 ⟨_, H1, rfl, a6, hS, rfl⟩
 refine ⟨_, rfl, ?_⟩
 have hsub := hsub.trans a6
 refine r_geq (k := .i64) (a := r1) (b := 0) rfl rfl rfl ?_
 refine r_assign (Value.bool (decide (0 ≤ r1))) rfl rfl ?_
 refine reg_nil ?_
 refine run_ret (vs := [Value.bool (decide (0 ≤ r1))]) Tryz.func218 ⟨rfl, trivial⟩ ?_
 have hz := Option.some.inj q0
 subst hz
 exact ⟨_, _, rfl, hsub, hS, rfl⟩
end Go.Proofs.YtfodlhkoafhplaaGreat
