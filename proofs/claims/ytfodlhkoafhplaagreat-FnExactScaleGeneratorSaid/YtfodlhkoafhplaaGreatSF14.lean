/- Walks of functions: each computes its pure function, if that gives a value. -/
import Derived.Test.YtfodlhkoafhplaaGreatSTy
import Derived.Test.YtfodlhkoafhplaaGreatSF5
import Derived.Test.YtfodlhkoafhplaaGreatSF8
import Derived.Test.YtfodlhkoafhplaaGreatSF10
import Derived.Test.YtfodlhkoafhplaaGreatSF12
import Derived.Test.YtfodlhkoafhplaaGreatSF1
import Derived.Test.YtfodlhkoafhplaaGreatSF11
namespace Go.Proofs.YtfodlhkoafhplaaGreat
open Go
set_option linter.unusedSimpArgs false
set_option linter.unusedVariables false
set_option maxRecDepth 100000
set_option maxHeartbeats 1000000
def g_spec_l04Apply_l1 (K : Nat) (a0 : (List Int)) (a1 : (List MpT)) (a2 : MpT) (a4 : Int) : Nat → Int → MpT → Option (Ex MpT (MpT))
 | 0, _, _ => none
 | k + 1, a3, a9 => (if a3 < (a1.length : Int) then (if a3 < 8 then (if 0 < (idx8 ((rd a2 a4).1) a3) then ((g_spec_l04Power K a0 (rd a1 a3) (idx8 ((rd a2 a4).1) a3)).bind fun f2 => ((g_spec_l01Times K a0 a9 f2).bind fun e2 => g_spec_l04Apply_l1 K a0 a1 a2 a4 k (a3 + 1) e2)) else g_spec_l04Apply_l1 K a0 a1 a2 a4 k (a3 + 1) a9) else none) else some (.go a9))
def g_spec_l04Apply_l0 (K : Nat) (a0 : (List Int)) (a1 : (List MpT)) (a2 : MpT) : Nat → Int → MpT → Option (Ex MpT (MpT))
 | 0, _, _ => none
 | k + 1, a4, b0 => (if a4 < (a2.length : Int) then ((g_spec_l01Single K (fun _ => 0) ((rd a2 a4).2)).bind fun i3 => ((g_spec_l04Apply_l1 K a0 a1 a2 a4 K 0 i3).bind (Ex.elim (fun r => some (.ret r)) (fun s => (fun (b9 : MpT) => ((g_spec_l01Add K b0 b9 1).bind fun g3 => g_spec_l04Apply_l0 K a0 a1 a2 k (a4 + 1) g3)) s)))) else some (.go b0))
def g_spec_l04Apply (K : Nat) (a0 : (List Int)) (a1 : (List MpT)) (a2 : MpT) : Option MpT := ((g_spec_l04Apply_l0 K a0 a1 a2 K 0 ([] : List (A8 × Int))).bind (Ex.elim (fun r => some r) (fun s => (fun (c2 : MpT) => some c2) s)))
theorem g_spec_l04Apply_ok {K : Nat} {a0 : (List Int)} {a1 : (List MpT)} {a2 : MpT} {r : MpT} (q0 : g_spec_l04Apply K a0 a1 a2 = some r) {H : FH} {w : World} {L : OL} {s0 : Value} {s1 : Value} {s2 : Value} (b6 : RdSl (tyInt .i64) H s0 a0) (c0 : RdSl (tySl yT) H s1 a1) (b5 : RdSl yT H s2 a2) (hS : St H w L) :
 Calls Tryz.prog 81 #[s0, s1, vA ([s2])] w (Done (fun v G => (R.agg (tySl yT)).p G v r) H L) := by
 have hsub := Sub.refl H
 refine calls_of_run Tryz.func81 rfl Tryz.ntmps81 rfl ?_
 unfold g_spec_l04Apply at q0
 refine run_seq (run_region ?_)
 refine r_box (v := vA ([s2])) ([s2]).toArray rfl rfl hS rfl ?_
 intro b1 w2 hS
 refine r_alloc (z := vA ([vN])) ([vN]).toArray ze47.zero rfl hS rfl ?_
 intro b4 w5 hS
 refine reg_nil (run_seq (run_region ?_))
 refine r_build0 (vA ([vN])) bz47 rfl ?_
 refine r_alloc (z := vA ([vN])) ([vN]).toArray ze47.zero rfl hS rfl ?_
 intro b7 w8 hS
 refine r_storeAll (v := vA ([vN])) (vs := ([vN]).toArray) (cs := ([vN]).toArray) ty47 rfl rfl rfl hS rfl (one1 rfl) rfl ?_
 intro w10 hS
 refine reg_nil (run_seq (run_seq (run_region (r_assign (vI 0) rfl rfl (reg_nil (run_block ?_))))))
 have i4 : RdSl yT H (.slice none 0 0) ([] : List (A8 × Int)) := RdSl.nil
 obtain ⟨i5, c3, i6⟩ := bind_some q0
 refine loop_ind (id := 0) (fun k f w => ∃ (a4 : Int) (b0 : MpT) (H1 : FH) (a6 : Value), g_spec_l04Apply_l0 K a0 a1 a2 k a4 b0 = some i5 ∧ Sub H H1 ∧ St H1 w ([(b7, cA ([a6]) 47)] ++ ([(b4, cA ([vN]) 47)] ++ ([(b1, cA ([s2]) 47)] ++ L))) ∧ 0 ≤ a4 ∧ RdSl yT H1 a6 b0 ∧ RdSl (tyInt .i64) H1 s0 a0 ∧ RdSl (tySl yT) H1 s1 a1 ∧ RdSl yT H1 s2 a2 ∧ ev f (.tmp 0) = s0 ∧ ev f (.tmp 1) = s1 ∧ ev f (.tmp 5) = vP b1 ∧ ev f (.tmp 6) = vP b4 ∧ ev f (.tmp 7) = vP b7 ∧ ev f (.tmp 8) = vI a4) (fun f w => ∃ (c2 : MpT) (H1 : FH) (a5 : Value), i5 = .go c2 ∧ Sub H H1 ∧ St H1 w ([(b7, cA ([a5]) 47)] ++ ([(b4, cA ([vN]) 47)] ++ ([(b1, cA ([s2]) 47)] ++ L))) ∧ RdSl yT H1 a5 c2 ∧ RdSl yT H1 s2 a2 ∧ ev f (.tmp 6) = vP b4 ∧ ev f (.tmp 7) = vP b7) rfl ?_ ?_ K ?_ ?_
 rintro f w ⟨a4, b0, H1, a6, c3, _⟩
 rw [g_spec_l04Apply_l0] at c3; cases c3
 rintro k t6 t7 q4 q5 ⟨a4, b0, l9, a6, c3, hsub, hS, q6, a7, b6, c0, b5, h3, h4, d4, e7, e8, d5⟩
 rw [g_spec_l04Apply_l0] at c3
 refine run_seq (run_seq (run_region (r_move (vI a4) (by exact d5) rfl (r_fieldAddr fld47_0 (by exact d4) rfl ?_))))
 refine r_loadOne (s2) ty45 rfl (hS.get (mR (mR mL))) rfl rfl ?_
 have t8 := b5.bound
 refine r_lenRd sl45 rfl b5 rfl ?_
 refine r_lss (k := .i64) (a := a4) (b := (a2.length : Int)) rfl rfl rfl (reg_nil ?_)
 by_cases f3 : a4 < (a2.length : Int)
 rw [if_pos f3] at c3
 refine run_cond_true (Eq.trans rfl (congrArg Value.bool (decide_eq_true f3))) (run_skip (run_seq (run_block (run_seq (run_region ?_)))))
 refine r_build0 (vA (enc8 .u8 (fun _ => 0))) bz70 rfl (r_fieldAddr fld47_0 (by exact d4) rfl ?_)
 refine r_loadOne (s2) ty45 rfl (hS.get (mR (mR mL))) rfl rfl (r_move (vI a4) (by exact d5) rfl ?_)
 obtain ⟨b13, o13, t9, E13, _, m0, m1, ⟨_, _, rfl, rfl, rfl⟩, m2⟩ := b5.elem (i := a4) (by omega) (by omega)
 refine r_indexAt sl45 rfl rfl m0 rfl (by omega) (by omega) rfl (r_fieldAddr fld76_1 rfl rfl ?_)
 refine r_loadOne (vI ((rd a2 a4).2)) ty2 rfl (hS.froz _ _ m1) (m2 8 (show 8 < 9 by decide)) rfl ?_
 obtain ⟨i3, m3, c3⟩ := bind_some c3
 refine r_callFn Tryz.call170 (args2 rfl rfl) rfl (g_spec_l01Single_ok m3  hS) ?_
 rintro e14 w15 ⟨v14, q7, rfl, e3, hS, ⟨_, rfl, ⟨f4, rfl, g2⟩⟩⟩
 refine ⟨_, rfl, ?_⟩
 have hsub := hsub.trans e3
 have b6 := b6.mono e3
 have c0 := c0.mono e3
 have b5 := b5.mono e3
 have a7 := a7.mono e3
 refine r_alloc (z := vA ([vN])) ([vN]).toArray ze47.zero rfl hS rfl ?_
 intro d0 w17 hS
 refine r_storeAll (v := vA ([f4])) (vs := ([f4]).toArray) (cs := ([vN]).toArray) ty47 rfl rfl rfl hS rfl (one1 g2.isOne) rfl ?_
 intro w19 hS
 refine reg_nil (run_seq (run_seq (run_region (r_assign (vI 0) rfl rfl (reg_nil (run_block ?_))))))
 obtain ⟨i7, b3, f5⟩ := bind_some c3
 refine loop_ind (id := 2) (fun k f w => ∃ (a3 : Int) (a9 : MpT) (H1 : FH) (a8 : Value), g_spec_l04Apply_l1 K a0 a1 a2 a4 k a3 a9 = some i7 ∧ Sub H H1 ∧ St H1 w ([(d0, cA ([a8]) 47)] ++ ([(b7, cA ([a6]) 47)] ++ ([(b4, cA ([vN]) 47)] ++ ([(b1, cA ([s2]) 47)] ++ L)))) ∧ 0 ≤ a3 ∧ RdSl yT H1 a8 a9 ∧ RdSl (tyInt .i64) H1 s0 a0 ∧ RdSl (tySl yT) H1 s1 a1 ∧ RdSl yT H1 s2 a2 ∧ RdSl yT H1 a6 b0 ∧ ev f (.tmp 0) = s0 ∧ ev f (.tmp 1) = s1 ∧ ev f (.tmp 5) = vP b1 ∧ ev f (.tmp 6) = vP b4 ∧ ev f (.tmp 7) = vP b7 ∧ ev f (.tmp 8) = vI a4 ∧ ev f (.tmp 9) = vP d0 ∧ ev f (.tmp 10) = vI a3) (fun f w => ∃ (b9 : MpT) (H1 : FH) (b2 : Value), i7 = .go b9 ∧ Sub H H1 ∧ St H1 w ([(d0, cA ([b2]) 47)] ++ ([(b7, cA ([a6]) 47)] ++ ([(b4, cA ([vN]) 47)] ++ ([(b1, cA ([s2]) 47)] ++ L)))) ∧ RdSl yT H1 b2 b9 ∧ RdSl (tyInt .i64) H1 s0 a0 ∧ RdSl (tySl yT) H1 s1 a1 ∧ RdSl yT H1 s2 a2 ∧ RdSl yT H1 a6 b0 ∧ ev f (.tmp 0) = s0 ∧ ev f (.tmp 1) = s1 ∧ ev f (.tmp 5) = vP b1 ∧ ev f (.tmp 6) = vP b4 ∧ ev f (.tmp 7) = vP b7 ∧ ev f (.tmp 8) = vI a4 ∧ ev f (.tmp 9) = vP d0) rfl ?_ ?_ K ?_ ?_
 rintro f w ⟨a3, a9, H1, a8, b3, _⟩
 rw [g_spec_l04Apply_l1] at b3; cases b3
 rintro k u0 u1 l4 q8 ⟨a3, a9, i8, a8, b3, hsub, hS, q3, b8, b6, c0, b5, a7, c5, c6, c7, d6, d7, c8, c9, c1⟩
 rw [g_spec_l04Apply_l1] at b3
 refine run_seq (run_seq (run_region (r_move (vI a3) (by exact c1) rfl (r_move (s1) (by exact c6) rfl ?_))))
 have u2 := c0.bound
 refine r_lenRd sl27 rfl c0 rfl ?_
 refine r_lss (k := .i64) (a := a3) (b := (a1.length : Int)) rfl rfl rfl (reg_nil ?_)
 by_cases f6 : a3 < (a1.length : Int)
 rw [if_pos f6] at b3
 refine run_cond_true (Eq.trans rfl (congrArg Value.bool (decide_eq_true f6))) (run_skip (run_seq (run_block (run_seq (run_region (r_fieldAddr fld47_0 (by exact c7) rfl ?_))))))
 refine r_loadOne (s2) ty45 rfl (hS.get (mR (mR (mR mL)))) rfl rfl (r_move (vI a4) (by exact c8) rfl (r_move (vI a3) (by exact c1) rfl ?_))
 obtain ⟨b22, o22, u3, E22, _, m4, m5, ⟨_, _, rfl, rfl, rfl⟩, m6⟩ := b5.elem (i := a4) (by omega) (by omega)
 refine r_indexAt sl45 rfl rfl m4 rfl (by omega) (by omega) rfl (r_fieldAddr fld76_0 rfl rfl ?_)
 obtain ⟨u4, b3⟩ := gd b3
 refine r_indexArP ar70 rfl rfl (by omega) (by omega) rfl ?_
 refine r_loadOne (Value.int .u8 (idx8 ((rd a2 a4).1) a3)) ty5 rfl (hS.froz _ _ m5) (fro_ix ([]) (([vI ((rd a2 a4).2)])) m6 (Nat.le_of_ble_eq_true rfl) (by omega) (by omega)) rfl ?_
 refine r_gtr (k := .u8) (a := (idx8 ((rd a2 a4).1) a3)) (b := 0) rfl rfl rfl (reg_nil ?_)
 by_cases f7 : 0 < (idx8 ((rd a2 a4).1) a3)
 rw [if_pos f7] at b3
 refine run_cond_true (Eq.trans rfl (congrArg Value.bool (decide_eq_true f7))) ?_
 obtain ⟨l5, l6, u5, E80, _, m7, g4, ⟨f8, rfl, e4⟩, m8⟩ := c0.elem (i := a3) (by omega) (by omega)
 obtain ⟨d8, d9, r5, u6, _, j6, f9, ⟨_, _, rfl, rfl, rfl⟩, j7⟩ := b5.elem (i := a4) (by omega) (by omega)
 obtain ⟨f2, j8, b3⟩ := bind_some b3
 obtain ⟨e2, j9, b3⟩ := bind_some b3
 refine run_draw 17 (tabL [(42, MP.eq (s0)), (43, MP.eq (vA ([a8]))), (44, MP.eq (s0)), (45, MP.eq (s1)), (46, MP.eq (vI a3)), (47, MP.eq (Value.pointer (some ⟨l5, l6, none⟩))), (48, MP.eq (vA ([f8]))), (49, MP.eq (vP b1)), (50, MP.eq (s2)), (51, MP.eq (vI a4)), (52, MP.eq (vI a3)), (53, MP.eq (Value.pointer (some ⟨d8, d9, none⟩))), (54, MP.eq (Value.pointer (some ⟨d8, d9 + 0, none⟩))), (55, MP.eq (Value.pointer (some ⟨d8, d9 + 0 + (a3).toNat * 1, none⟩))), (56, MP.eq (Value.int .u8 (idx8 ((rd a2 a4).1) a3))), (57, MP.rep (R.agg (tySl yT)) (f2)), (58, MP.rep (R.agg (tySl yT)) (e2))]) [] mixed rfl rfl rfl hS (hop_q rfl ?_ (hop_q rfl ?_ (hop_q rfl ?_ (hop_q rfl ?_ (hop_q rfl ?_ (hop_q rfl ?_ (hop_q rfl ?_ (hop_q rfl ?_ (hop_q rfl ?_ (hop_q rfl ?_ (hop_q rfl ?_ (hop_q rfl ?_ (hop_q rfl ?_ (hop_q rfl ?_ (hop_q rfl ?_ (hop_q rfl ?_ (hop_q rfl ?_ hop_nil))))))))))))))))) ?_
 intro f25 w26 H27 X28 u7 hS m9 u8 hcq
 refine r_move (s0) (evT (m9 0 rfl) c5) rfl ?_
 exact qn (.refl _) rfl hS rfl
 intro f34 w35 H36 X37 u9 hS n0 v0 hcq
 refine r_loadAll ty47 (evT (n0 9 rfl) c9) (hS.get (mR mL)) rfl rfl ?_
 exact qn (.refl _) rfl hS rfl
 intro f43 w44 H45 X46 v1 hS n1 v2 hcq
 refine r_move (s0) (evT (n1 0 rfl) c5) rfl ?_
 exact qn (.refl _) rfl hS rfl
 intro f52 w53 H54 X55 v3 hS n2 v4 hcq
 refine r_move (s1) (evT (n2 1 rfl) c6) rfl ?_
 exact qn (.refl _) rfl hS rfl
 intro f61 w62 H63 X64 v5 hS n3 v6 hcq
 refine r_move (vI a3) (evT (n3 10 rfl) c1) rfl ?_
 exact qn (.refl _) rfl hS rfl
 intro l7 w71 H72 X73 v7 hS v8 i9 hcq
 have q9 : ev l7 (.tmp 45) = s1 := i9 3 45 rfl rfl
 have r0 : ev l7 (.tmp 46) = vI a3 := i9 4 46 rfl rfl
 refine r_indexAt sl27 rfl q9 m7 r0 (by omega) (by omega) rfl ?_
 exact qn (.refl _) rfl hS rfl
 intro r1 w82 H83 X84 n4 hS v9 n5 hcq
 have g4 := n4.1 _ _ g4
 have r2 : ev r1 (.tmp 47) = Value.pointer (some ⟨l5, l6, none⟩) := n5 5 47 rfl rfl
 refine r_loadAgg ([f8]) ty47 r2 (hS.froz _ _ g4) rfl m8 rfl ?_
 exact qn (.refl _) rfl hS rfl
 intro f90 w91 H92 X93 w0 hS n6 w1 hcq
 refine r_fieldAddr fld47_0 (evT (n6 5 rfl) c7) rfl ?_
 exact qn (.refl _) rfl hS rfl
 intro r3 w3 w4 w6 r6 hS r7 k0 hcq
 have n7 : ev r3 (.tmp 49) = vP b1 := k0 7 49 rfl rfl
 refine r_loadOne (s2) ty45 n7 (hS.get (mR (mR (mR (mR mL))))) rfl rfl ?_
 exact qn (.refl _) rfl hS rfl
 intro w7 w9 x0 x1 r8 hS k1 r9 hcq
 refine r_move (vI a4) (evT (k1 8 rfl) c8) rfl ?_
 exact qn (.refl _) rfl hS rfl
 intro x2 x3 x4 x5 s3 hS k2 s4 hcq
 refine r_move (vI a3) (evT (k2 10 rfl) c1) rfl ?_
 exact qn (.refl _) rfl hS rfl
 intro j0 x6 x7 x8 s5 hS s6 g9 hcq
 have n8 : ev j0 (.tmp 50) = s2 := g9 8 50 rfl rfl
 have n9 : ev j0 (.tmp 51) = vI a4 := g9 9 51 rfl rfl
 refine r_indexAt sl45 rfl n8 j6 n9 (by omega) (by omega) rfl ?_
 exact qn (.refl _) rfl hS rfl
 intro o0 x9 y0 y1 s7 hS s8 k3 hcq
 have o1 : ev o0 (.tmp 53) = Value.pointer (some ⟨d8, d9, none⟩) := k3 11 53 rfl rfl
 refine r_fieldAddr fld76_0 o1 rfl ?_
 exact qn (.refl _) rfl hS rfl
 intro j1 y2 y3 y4 s9 hS t0 h0 hcq
 have o2 : ev j1 (.tmp 52) = vI a3 := h0 10 52 rfl rfl
 have o3 : ev j1 (.tmp 54) = Value.pointer (some ⟨d8, d9 + 0, none⟩) := h0 12 54 rfl rfl
 refine r_indexArP ar70 o3 o2 (by omega) (by omega) rfl ?_
 exact qn (.refl _) rfl hS rfl
 intro o4 y5 y6 y7 k4 hS t1 k5 hcq
 have f9 := k4.1 _ _ f9
 have o5 : ev o4 (.tmp 55) = Value.pointer (some ⟨d8, d9 + 0 + (a3).toNat * 1, none⟩) := k5 13 55 rfl rfl
 refine r_loadOne (Value.int .u8 (idx8 ((rd a2 a4).1) a3)) ty5 o5 (hS.froz _ _ f9) (fro_ix ([]) (([vI ((rd a2 a4).2)])) j7 (Nat.le_of_ble_eq_true rfl) (by omega) (by omega)) rfl ?_
 exact qn (.refl _) rfl hS rfl
 intro g5 y8 y9 z0 h1 hS t4 g0 hcq
 have b6 := b6.mono h1
 have e4 := e4.mono h1
 have o6 : ev g5 (.tmp 44) = s0 := g0 2 44 rfl rfl
 have o7 : ev g5 (.tmp 48) = vA ([f8]) := g0 6 48 rfl rfl
 have o8 : ev g5 (.tmp 56) = Value.int .u8 (idx8 ((rd a2 a4).1) a3) := g0 14 56 rfl rfl
 refine r_callFn Tryz.call172 (args3 o6 o7 o8) rfl (g_spec_l04Power_ok j8 b6 e4 hS) ?_
 rintro z1 z2 ⟨o9, z3, rfl, k6, hS, k7⟩
 refine ⟨o9, rfl, ?_⟩
 exact qn k6 rfl hS k7
 intro g6 z4 p0 z5 h2 hS t5 g1 hcq
 have b6 := b6.mono h2
 have b8 := b8.mono h2
 have p1 : ev g6 (.tmp 42) = s0 := g1 0 42 rfl rfl
 have p2 : ev g6 (.tmp 43) = vA ([a8]) := g1 1 43 rfl rfl
 obtain ⟨p3, j2⟩ : ∃ v, ev g6 (.tmp 57) = v := ⟨_, rfl⟩
 have k8 : (R.agg (tySl yT)).p p0 p3 (f2) := j2 ▸ (g1 15 57 rfl rfl)
 obtain ⟨_, rfl, ⟨r4, rfl, h5⟩⟩ := k8
 refine r_callFn Tryz.call171 (args3 p1 p2 j2) rfl (g_spec_l01Times_ok j9 b6 b8 h5 hS) ?_
 rintro z6 z7 ⟨p4, z8, rfl, k9, hS, l0⟩
 refine ⟨p4, rfl, ?_⟩
 exact qn k9 rfl hS l0
 intro p5 p6 g7 d1 hS c4 l1 hcq
 have hS : St g7 p6 ([(d0, cA ([a8]) 47)] ++ ([(b7, cA ([a6]) 47)] ++ ([(b4, cA ([vN]) 47)] ++ ([(b1, cA ([s2]) 47)] ++ L)))) := hS
 have hsub := hsub.trans d1
 have b6 := b6.mono d1
 have c0 := c0.mono d1
 have b5 := b5.mono d1
 have a7 := a7.mono d1
 have j3 := evT (c4 9 rfl) c9
 obtain ⟨p7, j4⟩ : ∃ v, ev p5 (.tmp 58) = v := ⟨_, rfl⟩
 have l2 : (R.agg (tySl yT)).p g7 p7 (e2) := j4 ▸ (l1 16 58 (by decide) rfl)
 obtain ⟨_, rfl, ⟨e5, rfl, e9⟩⟩ := l2
 refine r_storeAll (v := vA ([e5])) (vs := ([e5]).toArray) (cs := ([a8]).toArray) ty47 (by exact j3) (by exact j4) rfl hS rfl (one1 e9.isOne) rfl ?_
 intro z9 hS
 refine reg_nil (run_inBlock (run_region (r_move (vI a3) (by exact (evT (c4 10 rfl) c1)) rfl ?_)))
 refine r_add (a3 + 1) rfl rfl (IntWalk.i64_in _ (by omega)) rfl (r_assign (vI (a3 + 1)) rfl rfl (reg_nil ?_))
 exact l4 _ _ ⟨(a3 + 1), e2, g7, e5, b3, hsub, hS, (by omega), e9, b6, c0, b5, a7, (evT (c4 0 rfl) c5), (evT (c4 1 rfl) c6), (evT (c4 5 rfl) c7), (evT (c4 6 rfl) d6), (evT (c4 7 rfl) d7), (evT (c4 8 rfl) c8), j3, rfl⟩
 rw [if_neg f7] at b3
 refine run_cond_false (Eq.trans rfl (congrArg Value.bool (decide_eq_false f7))) (run_skip (run_inBlock (run_region (r_move (vI a3) (by exact c1) rfl ?_))))
 refine r_add (a3 + 1) rfl rfl (IntWalk.i64_in _ (by omega)) rfl (r_assign (vI (a3 + 1)) rfl rfl (reg_nil ?_))
 exact l4 _ _ ⟨(a3 + 1), a9, i8, a8, b3, hsub, hS, (by omega), b8, b6, c0, b5, a7, c5, c6, c7, d6, d7, c8, c9, rfl⟩
 rw [if_neg f6] at b3
 refine run_cond_false (Eq.trans rfl (congrArg Value.bool (decide_eq_false f6))) ?_
 refine run_exit rfl ?_
 have hz := Option.some.inj b3
 subst hz
 exact q8 _ _ ⟨a9, i8, a8, rfl, hsub, hS, b8, b6, c0, b5, a7, c5, c6, c7, d6, d7, c8, c9⟩
 exact ⟨0, i3, q7, f4, b3, hsub, hS, (by omega), g2, b6, c0, b5, a7, h3, h4, d4, e7, e8, d5, rfl, rfl⟩
 rintro a00 a01 ⟨b9, a02, b2, rfl, hsub, hS, e6, b6, c0, b5, a7, h6, h7, h8, h9, e0, i0, i1⟩
 dsimp only [Ex.elim] at f5
 refine run_region ?_
 refine r_loadAll ty47 (by exact e0) (hS.get (mR mL)) rfl rfl ?_
 refine r_loadAll ty47 (by exact i1) (hS.get mL) rfl rfl ?_
 obtain ⟨g3, l3, f5⟩ := bind_some f5
 refine r_callFn Tryz.call143 (args3 rfl rfl rfl) rfl (g_spec_l01Add_ok l3 a7 e6 hS) ?_
 rintro a03 p8 ⟨a04, g8, rfl, e1, hS, ⟨_, rfl, ⟨d2, rfl, f0⟩⟩⟩
 refine ⟨_, rfl, ?_⟩
 have hsub := hsub.trans e1
 have b6 := b6.mono e1
 have c0 := c0.mono e1
 have b5 := b5.mono e1
 have hS : St g8 p8 ([(b7, cA ([a6]) 47)] ++ ([(d0, cA ([b2]) 47)] ++ ([(b4, cA ([vN]) 47)] ++ ([(b1, cA ([s2]) 47)] ++ L)))) := hS.perm (perm1 (A1 := [(d0, cA ([b2]) 47)]))
 refine r_storeAll (v := vA ([d2])) (vs := ([d2]).toArray) (cs := ([a6]).toArray) ty47 (by exact e0) rfl rfl hS rfl (one1 f0.isOne) rfl ?_
 intro p9 hS
 have hS : St g8 p9 ([(d0, cA ([b2]) 47)] ++ ([(b7, cA ([d2]) 47)] ++ ([(b4, cA ([vN]) 47)] ++ ([(b1, cA ([s2]) 47)] ++ L)))) := hS.perm (perm1 (A1 := [(d0, cA ([b2]) 47)])).symm
 refine reg_nil (run_inBlock (run_region (r_move (vI a4) (by exact i0) rfl ?_)))
 refine r_add (a4 + 1) rfl rfl (IntWalk.i64_in _ (by omega)) rfl (r_assign (vI (a4 + 1)) rfl rfl (reg_nil ?_))
 have hS := St.dropA (A := [(d0, cA ([b2]) 47)]) hS
 exact q4 _ _ ⟨(a4 + 1), g3, g8, d2, f5, hsub, hS, (by omega), f0, b6, c0, b5, h6, h7, h8, h9, e0, rfl⟩
 rw [if_neg f3] at c3
 refine run_cond_false (Eq.trans rfl (congrArg Value.bool (decide_eq_false f3))) ?_
 refine run_exit rfl ?_
 have hz := Option.some.inj c3
 subst hz
 exact q5 _ _ ⟨b0, l9, a6, rfl, hsub, hS, a7, b5, e7, e8⟩
 exact ⟨0, ([] : List (A8 × Int)), H, (vN), c3, hsub, hS, (by omega), i4, b6, c0, b5, rfl, rfl, rfl, rfl, rfl, rfl⟩
 rintro a05 q1 ⟨c2, j5, a5, rfl, hsub, hS, d3, b5, f1, i2⟩
 dsimp only [Ex.elim] at i6
 refine run_seq (run_region ?_)
 refine r_loadAll ty47 (by exact i2) (hS.get mL) rfl rfl ?_
 have hS : St j5 q1 ([(b4, cA ([vN]) 47)] ++ ([(b7, cA ([a5]) 47)] ++ ([(b1, cA ([s2]) 47)] ++ L))) := hS.perm (perm1 (A1 := [(b7, cA ([a5]) 47)]))
 refine r_storeAll (v := vA ([a5])) (vs := ([a5]).toArray) (cs := ([vN]).toArray) ty47 (by exact f1) rfl rfl hS rfl (one1 d3.isOne) rfl ?_
 intro q2 hS
 have hS : St j5 q2 ([(b7, cA ([a5]) 47)] ++ ([(b4, cA ([a5]) 47)] ++ ([(b1, cA ([s2]) 47)] ++ L))) := hS.perm (perm1 (A1 := [(b7, cA ([a5]) 47)])).symm
 refine reg_nil ?_
 refine run_ret (vs := [vA ([a5])]) Tryz.func81 ⟨⟨_, (by exact f1), run_loadAll ty47 (hS.get (mR mL)) rfl⟩, trivial⟩ ?_
 have hz := Option.some.inj i6
 subst hz
 exact ⟨_, _, rfl, hsub, (St.dropA (A := [(b1, cA ([s2]) 47)]) (St.dropA (A := [(b4, cA ([a5]) 47)]) (St.dropA (A := [(b7, cA ([a5]) 47)]) hS))), ⟨_, rfl, ⟨_, rfl, d3⟩⟩⟩
abbrev LdT := List Int × List Int × List MpT
def pwN (K : Nat) (x : LdT) (i : Int) : Nat → Option MpT
 | 0 => g_impl_number K
 | n + 1 => if 0 ≤ i ∧ i < (x.2.2.length : Int) then (pwN K x i n).bind fun r => g_impl_sum_times K r x.2.1 (rd x.2.2 i) else none
def g_impl_leader_power (K : Nat) (x : LdT) (i e : Int) : Option MpT := if 0 ≤ e ∧ e ≤ 4611686018427387904 then pwN K x i e.toNat else none
def key2 (i e : Int) : Value := .agg #[.int .i64 i, .int .i64 e]
theorem key2_inj {i e j f : Int} (h : key2 i e = key2 j f) : i = j ∧ e = f := by simpa [key2] using h
/-- what the map of powers keeps -/
def MemoI (K : Nat) (x : LdT) : InvM := fun F o => ∃ es clock, o = .map es clock ∧
 ∀ n, n ∈ es.toList → ∃ i e t, n.key = key2 i e ∧ g_impl_leader_power K x i e = some t ∧ RdMp .i64 ⟨F, fun _ => none, none⟩ n.val t
theorem memo_mono (K : Nat) (x : LdT) : MonoI (MemoI K x) := by
 rintro F F' o hs ⟨es, c, rfl, h⟩
 refine ⟨es, c, rfl, fun n hn => ?_⟩
 obtain ⟨i, e, t, h1, h2, h3⟩ := h n hn
 exact ⟨i, e, t, h1, h2, RdMp.mono (H := ⟨F, fun _ => none, none⟩) (H' := ⟨F', fun _ => none, none⟩) ⟨hs, fun _ _ h => h, rfl⟩ h3⟩
def MemoAt (H : FH) (b : Nat) (I : InvM) : Prop := H.memo b = some I
theorem MemoAt.mono {H H' : FH} {b : Nat} {I : InvM} (h : MemoAt H b I) (hs : Sub H H') : MemoAt H' b I := hs.2.1 _ _ h
theorem RdMp.fr {k : IntKind} {H H' : FH} {v : Value} {t : MpT} (h : RdMp k H v t) (e : H.fr = H'.fr) : RdMp k H' v t := by
 rcases h with h | ⟨s, b, es, c, ys, h1, h2, h3, h4⟩
 exact .inl h
 exact .inr ⟨s, b, es, c, ys, h1, by rw [← e]; exact h2, h3, h4⟩
def tyLd (K : Nat) : Ty LdT :=
 ⟨4, fun H cs x => ∃ v1 v2 v3 b, cs = [v1, v2, v3, .map (some b)] ∧ RdSl (tyInt .i64) H v1 x.1 ∧ RdSl (tyInt .i64) H v2 x.2.1 ∧ RdSl (tyMp .i64) H v3 x.2.2 ∧ MemoAt H b (MemoI K x),
  fun ⟨_, _, _, _, h, _⟩ => by rw [h]; rfl, fun hs ⟨v1, v2, v3, b, h, h1, h2, h3, h4⟩ => ⟨v1, v2, v3, b, h, h1.mono hs, h2.mono hs, h3.mono hs, h4.mono hs⟩,
  fun ⟨v1, v2, v3, b, h, h1, h2, h3, h4⟩ u hu => by
   rw [h] at hu
   simp only [List.mem_cons, List.not_mem_nil, or_false] at hu
   rcases hu with rfl | rfl | rfl | rfl
   exact h1.isOne
   exact h2.isOne
   exact h3.isOne
   rfl⟩
section
variable {P : Program} {w : World} {H : FH} {L : OL}
/-- a map of one's own, still empty, becomes the map of powers -/
theorem St.toMemo {b : Nat} (h : St H w ([(b, .map #[] 0)] ++ L)) (K : Nat) (x : LdT) : ∃ H', Sub H H' ∧ St H' w L ∧ MemoAt H' b (MemoI K x) :=
 ⟨H.addM b (MemoI K x), Sub.addM (St.noneM h), St.freezeM h (memo_mono K x) ⟨#[], 0, rfl, by simp⟩, FH.addM_self ..⟩
/-- a map of powers is taken out, and put back -/
def FH.outM (H : FH) (b : Nat) : FH := ⟨H.fr, fun c => if c = b then none else H.memo c, H.base⟩
theorem St.takeM (h : St H w L) {b : Nat} {I : InvM} (hb : MemoAt H b I) : ∃ o, I H.fr o ∧ St (H.outM b) w ([(b, o)] ++ L) := by
 obtain ⟨h1, h2, o, h3, h4⟩ := h.memo b I hb
 refine ⟨o, h4, h.froz, fun c J hc => ?_, h.rest, h.nofz, fun x hx => ?_, ?_, fun x hx => ?_⟩
 replace hc : (if c = b then Option.none else H.memo c) = some J := hc
 split at hc
 cases hc
 exact h.memo c J hc
 rcases List.mem_append.1 hx with hx | hx
 cases List.mem_singleton.1 hx; exact h3
 exact h.own x hx
 show (b :: L.map Prod.fst).Nodup
 refine List.nodup_cons.2 ⟨fun hm => ?_, h.nodup⟩
 obtain ⟨x, hx, rfl⟩ := List.mem_map.1 hm
 have := (h.apart x hx).2
 rw [hb] at this; cases this
 show H x.1 = Option.none ∧ (if x.1 = b then Option.none else H.memo x.1) = Option.none
 rcases List.mem_append.1 hx with hx | hx
 cases List.mem_singleton.1 hx; exact ⟨h1, if_pos rfl⟩
 refine ⟨(h.apart x hx).1, ?_⟩
 split
 rfl
 exact (h.apart x hx).2
theorem St.backM {H2 : FH} {b : Nat} {o : Obj} (h : St H2 w ([(b, o)] ++ L)) {I : InvM} (hs : Sub (H.outM b) H2) (hb : MemoAt H b I) (hm : MonoI I) (hI : I H2.fr o) :
 ∃ H3, Sub H H3 ∧ Sub H2 H3 ∧ St H3 w L := by
 refine ⟨H2.addM b I, ⟨fun c p hc => hs.1 c p hc, fun c J hc => ?_, hs.2.2⟩, Sub.addM (St.noneM h), St.freezeM h hm hI⟩
 show (if c = b then some I else H2.memo c) = some J
 split
 rename_i e; subst e; rw [← hc]; exact hb.symm
 rename_i e
 refine hs.2.1 c J ?_
 show (if c = b then Option.none else H.memo c) = some J
 rw [if_neg e]; exact hc
/-- what is told of the type of the map of powers -/
structure Map2I (P : Program) (T K : TypeId) : Prop where
 under : ∃ E, (∀ w, (underlying T).run P w = .ok (.map K E) w) ∧ ∀ w, (zeroValue E).run P w = .ok (.map none) w
 check : ∀ (b : Bool) (i e : Int) (w : World), (Instr.checkKey b 10000 K (key2 i e)).run P w = .ok () w
 equal : ∀ (i e j f : Int) (w : World), (Op.equal K (key2 i e) (key2 j f)).run P w = .ok (decide (i = j ∧ e = f)) w
 arr : ∀ w, ∃ el, (underlying K).run P w = .ok (.array 2 el) w
theorem run_find2 {T K : TypeId} (t : Map2I P T K) (i e : Int) : ∀ (es : List MapEntry) (n : Nat), (∀ m, m ∈ es → ∃ j f, m.key = key2 j f) →
 ∃ r, (∀ w', (Instr.findAsking K (key2 i e) es n).run P w' = .ok r w') ∧ ∀ j v, r = some (j, v) → ∃ m, n ≤ j ∧ es[j - n]? = some m ∧ m.key = key2 i e ∧ m.val = v
 | [], n, _ => ⟨none, fun w' => by simp [Instr.findAsking], fun _ _ h => by cases h⟩
 | m :: es, n, h => by
  obtain ⟨j, f, hk⟩ := h m (List.mem_cons_self ..)
  obtain ⟨r, hr, hv⟩ := run_find2 t i e es (n + 1) (fun m hm => h m (List.mem_cons_of_mem _ hm))
  by_cases hq : i = j ∧ e = f
  refine ⟨some (n, m.val), fun w' => ?_, fun j' v hjv => ?_⟩
  unfold Instr.findAsking
  simp [Sem.run_bind, hk, t.equal, hq]
  cases hjv
  exact ⟨m, Nat.le_refl _, by simp, by rw [hk, hq.1, hq.2], rfl⟩
  refine ⟨r, fun w' => ?_, fun j' v hjv => ?_⟩
  unfold Instr.findAsking
  simp only [Sem.run_bind, hk, t.equal, Result.andThen_ok, Sem.run_ite]
  rw [if_neg (by simpa using hq)]
  exact hr w'
  obtain ⟨m', h1, h2, h3, h4⟩ := hv j' v hjv
  refine ⟨m', by omega, ?_, h3, h4⟩
  rw [show j' - n = (j' - (n + 1)) + 1 by omega]
  simpa using h2
theorem run_findKey2 {T K : TypeId} (t : Map2I P T K) (i e : Int) (es : List MapEntry) (h : ∀ m, m ∈ es → ∃ j f, m.key = key2 j f) :
 ∃ r, (∀ w', (Instr.findKey K (key2 i e) es).run P w' = .ok r w') ∧ ∀ j v, r = some (j, v) → ∃ m, es[j]? = some m ∧ m.key = key2 i e ∧ m.val = v := by
 obtain ⟨r, hr, hv⟩ := run_find2 t i e es 0 h
 cases es with
 | nil =>
  refine ⟨none, fun w' => ?_, fun _ _ h => by cases h⟩
  obtain ⟨el, hu⟩ := t.arr w'
  unfold Instr.findKey
  simp [Sem.run_bind, hu, Instr.findNow]
 | cons m es =>
  refine ⟨r, fun w' => ?_, fun j v hjv => let ⟨m', _, h2, h3, h4⟩ := hv j v hjv; ⟨m', h2, h3, h4⟩⟩
  obtain ⟨el, hu⟩ := t.arr w'
  obtain ⟨j, f, hk⟩ := h m (List.mem_cons_self ..)
  have : Instr.findNow (.array 2 el) (key2 i e) (m :: es) 0 = none := by
   unfold Instr.findNow
   rw [hk]; rfl
  unfold Instr.findKey
  simp only [Sem.run_bind, hu, Result.andThen_ok, this]
  exact hr w'
theorem run_lookup2 {T K : TypeId} (t : Map2I P T K) (i e : Int) {b : Nat} {es : Array MapEntry} {clock : Nat} (h : ∀ m, m ∈ es.toList → ∃ j f, m.key = key2 j f) :
 ∃ u q, (∀ w', w'.heap[b]? = some (.map es clock) → (Instr.lookup T (.map (some b)) (key2 i e) true).run P w' = .ok (.tuple #[u, .bool q]) w') ∧
  (q = true → ∃ m, m ∈ es.toList ∧ m.key = key2 i e ∧ m.val = u) := by
 obtain ⟨r, hr, hv⟩ := run_findKey2 t i e es.toList h
 obtain ⟨E, hu, hz⟩ := t.under
 cases r with
 | none =>
  refine ⟨.map none, false, fun w' hb => ?_, fun h => by cases h⟩
  unfold Instr.lookup
  simp only [Sem.run_bind, hu, Result.andThen_ok, Sem.run_pure, run_getMap hb, t.check, hr, hz]
  simp
 | some p =>
  obtain ⟨j, v⟩ := p
  obtain ⟨m, h1, h2, h3⟩ := hv j v rfl
  refine ⟨v, true, fun w' hb => ?_, fun _ => ⟨m, List.mem_of_getElem? h1, h2, h3⟩⟩
  unfold Instr.lookup
  simp only [Sem.run_bind, hu, Result.andThen_ok, Sem.run_pure, run_getMap hb, t.check, hr]
  simp
theorem sameBits_key2 (i e : Int) : Instr.sameBits 10000 (key2 i e) (key2 i e) = true := by
 simp [Instr.sameBits, key2]
theorem run_update2 {T K : TypeId} (t : Map2I P T K) (i e : Int) {b : Nat} {Kf : Nat} {x : LdT} {v : Value} {tt : MpT} (hS : St H w L) (hb : MemoAt H b (MemoI Kf x)) (hp : g_impl_leader_power Kf x i e = some tt) (hv : RdMp .i64 H v tt) :
 ∃ w', (Instr.mapUpdate T (.map (some b)) (key2 i e) v).run P w = .ok () w' ∧ St H w' L := by
 obtain ⟨h1, h2, o, h3, es, clock, rfl, hes⟩ := hS.memo b _ hb
 obtain ⟨r, hr, hrv⟩ := run_findKey2 t i e es.toList (fun m hm => let ⟨i, e, t, h, _⟩ := hes m hm; ⟨i, e, h⟩)
 obtain ⟨E, hu, hz⟩ := t.under
 have hvf : RdMp .i64 ⟨H.fr, fun _ => none, none⟩ v tt := hv.fr rfl
 have hset : ∀ o', (setObj b o').run P w = .ok () { w with heap := w.heap.setIfInBounds b o' } := fun o' => by simp [setObj, Sem.run, h3]
 cases r with
 | none =>
  refine ⟨_, ?_, hS.putM hb (o' := .map (es.push ⟨key2 i e, v, clock⟩) (clock + 1)) ⟨_, _, rfl, fun m hm => ?_⟩⟩
  unfold Instr.mapUpdate
  simp only [Sem.run_bind, hu, Result.andThen_ok, Sem.run_pure, run_getMap h3, t.check, hr, hset]
  rw [Array.toList_push] at hm
  rcases List.mem_append.1 hm with hm | hm
  exact hes m hm
  cases List.mem_singleton.1 hm
  exact ⟨i, e, tt, rfl, hp, hvf⟩
 | some p =>
  obtain ⟨j, u⟩ := p
  obtain ⟨m, hm1, hm2, hm3⟩ := hrv j u rfl
  have hold : ((es[j]?).map (·.key)).getD (key2 i e) = key2 i e := by
   rw [Array.getElem?_toList] at hm1
   rw [hm1]; exact hm2
  refine ⟨_, ?_, hS.putM hb (o' := .map (es.modify j fun n => { n with key := key2 i e, val := v }) clock) ⟨_, _, rfl, fun n hn => ?_⟩⟩
  unfold Instr.mapUpdate
  simp only [Sem.run_bind, hu, Result.andThen_ok, Sem.run_pure, run_getMap h3, t.check, hr, hold, Instr.keyThatStays, sameBits_key2, if_true, hset]
  obtain ⟨q, hq, rfl⟩ := List.getElem_of_mem hn
  have hq' : q < es.size := by simpa using hq
  simp only [Array.getElem_toList, Array.getElem_modify]
  split
  exact ⟨i, e, tt, rfl, hp, hvf⟩
  exact hes _ (by simp)
theorem run_eqA2 {T E : TypeId} {i : TypeInfo} (d : Nat) (hu : P.underlying T = some (.array 2 E)) (he : P.underlying E = some (.int .i64)) (hi : P.info? E = some i) (hs : i.size = 1) (a b c f : Int) :
 (Op.equalIn (d + 2) T (key2 a b) (key2 c f)).run P w = .ok (decide (a = c ∧ b = f)) w := by
 unfold key2
 rw [run_equalIn_array w (d + 1) _ _ hu hi]
 have hc : P.cellsOf E = 1 := by simp [Program.cellsOf, hi, hs]
 have h0 : ∀ x y : Int, (part E #[.int .i64 x, .int .i64 y] 0).run P w = .ok (.int .i64 x) w := fun x y => by simp [part, isAgg, run_underlying he]
 have h1 : ∀ x y : Int, (part E #[.int .i64 x, .int .i64 y] 1).run P w = .ok (.int .i64 y) w := fun x y => by simp [part, isAgg, run_underlying he]
 have he' : ∀ (x y : Int), (Op.equalIn (d + 1) E (.int .i64 x) (.int .i64 y)).run P w = .ok (x == y) w := fun x y => run_equalIn_int w d E .i64 .i64 x y he
 rw [hc]
 have : List.range 2 = [0, 1] := rfl
 rw [this]
 simp only [Op.eqItems, Sem.run_bind, Nat.zero_mul, Nat.one_mul, h0, h1, Result.andThen_ok, he', Sem.run_ite]
 by_cases e1 : a = c <;> by_cases e2 : b = f <;> simp [e1, e2]
theorem run_checkKey2 {K E : TypeId} {i : TypeInfo} (d : Nat) (hu : P.underlying K = some (.array 2 E)) (he : P.underlying E = some (.int .i64)) (hi : P.info? E = some i) (hs : i.size = 1) (b : Bool) (x y : Int) :
 (Instr.checkKey b (d + 2) K (key2 x y)).run P w = .ok () w := by
 have h0 : (part E #[.int .i64 x, .int .i64 y] 0).run P w = .ok (.int .i64 x) w := by simp [part, isAgg, run_underlying he]
 have h1 : (part E #[.int .i64 x, .int .i64 y] 1).run P w = .ok (.int .i64 y) w := by simp [part, isAgg, run_underlying he]
 have hz : (sizeOf E).run P w = .ok 1 w := by simp [sizeOf, typeInfo, hi, hs]
 unfold Instr.checkKey key2
 simp only [Sem.run_bind, run_underlying hu, Result.andThen_ok]
 simp [Std.Legacy.Range.forIn_eq_forIn_range', Std.Legacy.Range.size, List.range', Sem.run_bind, hz, h0, h1, run_checkKeyInt he]
theorem map2i {T K E A : TypeId} {i : TypeInfo} (hT : P.underlying T = some (.map K E)) (hu : P.underlying K = some (.array 2 A)) (he : P.underlying A = some (.int .i64)) (hi : P.info? A = some i) (hs : i.size = 1)
 (hz : ∀ w, (zeroValue E).run P w = .ok (.map none) w) : Map2I P T K :=
 ⟨⟨E, run_underlying hT, hz⟩, fun b a c w => run_checkKey2 9998 hu he hi hs b a c, fun a b c f w => run_eqA2 9998 hu he hi hs a b c f, fun w => ⟨A, run_underlying hu w⟩⟩
end
def g_laws_toFormS_l0 (K : Nat) (a0 : (List MpT)) : Nat → Int → (List MpT) → Option (Ex (List MpT) ((List MpT)))
 | 0, _, _ => none
 | k + 1, a1, a3 => (if a1 < (a0.length : Int) then ((g_laws_toForm K (rd a0 a1)).bind fun b7 => (if a1 < (a3.length : Int) then g_laws_toFormS_l0 K a0 k (a1 + 1) (a3.set (a1).toNat b7) else none)) else some (.go a3))
def g_laws_toFormS (K : Nat) (a0 : (List MpT)) : Option (List MpT) := (if (a0.length : Int) ≤ 1099511627776 then ((g_laws_toFormS_l0 K a0 K 0 (List.replicate ((a0.length : Int)).toNat (([] : List (A8 × Int)) : MpT))).bind (Ex.elim (fun r => some r) (fun s => (fun (a8 : (List MpT)) => some a8) s))) else none)
theorem g_laws_toFormS_ok {K : Nat} {a0 : (List MpT)} {r : (List MpT)} (q0 : g_laws_toFormS K a0 = some r) {H : FH} {w : World} {L : OL} {s0 : Value} (b2 : RdSl (tySl yT) H s0 a0) (hS : St H w L) :
 Calls Tryz.prog 35 #[s0] w (Done (fun v G => RdN (tySl yT) H G v r []) H L) := by
 have hsub := Sub.refl H
 refine calls_of_run Tryz.func35 rfl Tryz.ntmps35 rfl ?_
 unfold g_laws_toFormS at q0
 refine run_seq (run_region (r_assign (vN) rfl rfl (reg_nil (run_seq (run_region (r_move (s0) rfl rfl ?_))))))
 have f3 := b2.bound
 refine r_lenRd sl23 rfl b2 rfl ?_
 obtain ⟨f4, q0⟩ := gd q0
 refine r_makeN (τ := (tyFr H (tySl yT))) (([] : List (A8 × Int)) : MpT) ap27 rfl rfl rfl (fun _ => ⟨_, rfl, RdSl.nil⟩) rfl (by omega) (by omega) hS List.nodup_nil (fun _ h => (by cases h)) rfl ?_
 intro u3 w4 C5 d9 hS
 refine r_assign (u3) rfl rfl (reg_nil (run_seq (run_seq (run_region (r_assign (vI 0) rfl rfl (reg_nil (run_block ?_)))))))
 obtain ⟨c2, a6, c3⟩ := bind_some q0
 refine loop_ind (id := 0) (fun k f w => ∃ (a1 : Int) (a3 : (List MpT)) (H1 : FH) (a9 : OL) (a4 : Value), g_laws_toFormS_l0 K a0 k a1 a3 = some c2 ∧ Sub H H1 ∧ St H1 w (a9 ++ L) ∧ 0 ≤ a1 ∧ OwnSlN (tyFr H (tySl yT)) 47 H1 a4 a3 a9 ([] : List Nat) ∧ RdSl (tySl yT) H1 s0 a0 ∧ ev f (.tmp 0) = s0 ∧ ev f (.tmp 3) = a4 ∧ ev f (.tmp 4) = vI a1) (fun f w => ∃ (a8 : (List MpT)) (H1 : FH) (b3 : OL) (a5 : Value), c2 = .go a8 ∧ Sub H H1 ∧ St H1 w (b3 ++ L) ∧ OwnSlN (tyFr H (tySl yT)) 47 H1 a5 a8 b3 ([] : List Nat) ∧ ev f (.tmp 3) = a5) rfl ?_ ?_ K ?_ ?_
 rintro f w ⟨a1, a3, H1, a9, a4, a6, _⟩
 rw [g_laws_toFormS_l0] at a6; cases a6
 rintro k e5 e6 e0 e1 ⟨a1, a3, c9, a9, a4, a6, hsub, hS, e2, a7, b2, b4, b5, b1⟩
 rw [g_laws_toFormS_l0] at a6
 refine run_seq (run_seq (run_region (r_move (vI a1) (by exact b1) rfl (r_move (s0) (by exact b4) rfl ?_))))
 have f5 := b2.bound
 refine r_lenRd sl23 rfl b2 rfl ?_
 refine r_lss (k := .i64) (a := a1) (b := (a0.length : Int)) rfl rfl rfl (reg_nil ?_)
 by_cases c0 : a1 < (a0.length : Int)
 rw [if_pos c0] at a6
 refine run_cond_true (Eq.trans rfl (congrArg Value.bool (decide_eq_true c0))) (run_skip (run_seq (run_block (run_region (r_move (a4) (by exact b5) rfl (r_move (vI a1) (by exact b1) rfl (r_move (s0) (by exact b4) rfl (r_move (vI a1) (by exact b1) rfl ?_))))))))
 obtain ⟨f6, f7, e7, f8, _, d0, d1, ⟨c7, rfl, c4⟩, d2⟩ := b2.elem (i := a1) (by omega) (by omega)
 refine r_indexAt sl23 rfl rfl d0 rfl (by omega) (by omega) rfl ?_
 refine r_loadAgg ([c7]) ty42 rfl (hS.froz _ _ d1) rfl d2 rfl ?_
 obtain ⟨b7, d3, a6⟩ := bind_some a6
 refine r_callFn Tryz.call29 (args1 rfl) rfl (g_laws_toForm_ok d3 c4 hS) ?_
 rintro f9 g0 ⟨g1, c8, rfl, b9, hS, ⟨_, rfl, ⟨b6, rfl, b0⟩⟩⟩
 refine ⟨_, rfl, ?_⟩
 have d4 := b0
 have d5 : RdF yT H c8 b6 b7 := RdSl.mono (new_anti hsub) b0
 have b0 := RdSl.old b0
 have a7 := OwnSlN.keep (rootIn_fr H (rootIn_sl _)) a7 b9 (RdF.rootsOut d4) (RdSl.rootsIn b0) (roots_nodup _)
 have hsub := hsub.trans b9
 have b2 := b2.mono b9
 obtain ⟨e8, a6⟩ := gd a6
 obtain ⟨g2, g3, c5⟩ := a7.own.some (i := a1) (by omega) (by omega)
 refine r_indexSl0 sl27 (Eq.trans rfl c5) rfl (by omega) (by omega) rfl ?_
 refine r_storeOwnN (R := roots [b6]) (τ := (tyFr H (tySl yT))) (v := a4) (u := vA ([b6])) b7 (i := a1) rfl ty47 c5 a7 hS rfl rfl (by omega) (by omega) ⟨_, rfl, d5⟩ rfl ?_
 intro g4 e3 d6 hS
 refine reg_nil (run_inBlock (run_region (r_move (vI a1) (by exact b1) rfl ?_)))
 refine r_add (a1 + 1) rfl rfl (IntWalk.i64_in _ (by omega)) rfl (r_assign (vI (a1 + 1)) rfl rfl (reg_nil ?_))
 exact e0 _ _ ⟨(a1 + 1), (a3.set (a1).toNat b7), c8, e3, a4, a6, hsub, hS, (by omega), d6, b2, b4, b5, rfl⟩
 rw [if_neg c0] at a6
 refine run_cond_false (Eq.trans rfl (congrArg Value.bool (decide_eq_false c0))) ?_
 refine run_exit rfl ?_
 have hz := Option.some.inj a6
 subst hz
 exact e1 _ _ ⟨a3, c9, a9, a4, rfl, hsub, hS, a7, b5⟩
 exact ⟨0, (List.replicate ((a0.length : Int)).toNat (([] : List (A8 × Int)) : MpT)), H, C5, u3, a6, hsub, hS, (by omega), d9, b2, rfl, rfl, rfl⟩
 rintro e9 f0 ⟨a8, f1, b3, a5, rfl, hsub, hS, b8, c1⟩
 dsimp only [Ex.elim] at c3
 refine run_seq (run_region (r_move (a5) (by exact c1) rfl (r_assign (a5) rfl rfl (reg_nil ?_))))
 refine run_ret (vs := [a5]) Tryz.func35 ⟨rfl, trivial⟩ ?_
 obtain ⟨e4, d7, hS, c6⟩ := OwnSlN.freezeN (τ := (tySl yT)) (H0 := H) (rootIn_sl _) b8 hS hsub
 have d8 : RdF (tySl yT) H e4 a5 a8 := RdN.old c6
 have f2 := RdSl.old d8
 have hsub := hsub.trans d7
 have hz := Option.some.inj c3
 subst hz
 exact ⟨_, _, rfl, hsub, hS, c6⟩
theorem addAll_l0_add {K : Nat} {a2 : Int} : ∀ (k : Nat) (zs : MpT), AddE K (fun (_ : Unit) s => s) (fun s => g_impl_sum_addAll_l0 K a2 k zs s)
 | 0, zs => ⟨none, fun s => (show g_impl_sum_addAll_l0 K a2 0 zs s = none by rw [g_impl_sum_addAll_l0])⟩
 | k + 1, [] => by
  have e : (fun s => g_impl_sum_addAll_l0 K a2 (k + 1) [] s) = fun s => some (.go s) := by funext s; rw [g_impl_sum_addAll_l0]
  rw [e]; exact .go (h := fun (_ : Unit) s => s) ()
 | k + 1, z :: zs => by
  have e : (fun s => g_impl_sum_addAll_l0 K a2 (k + 1) (z :: zs) s) = fun s => (g_impl_sum_add K s z.1 (((IntKind.i64.wrap (z.2 * a2))).tmod 10007)).bind fun t => g_impl_sum_addAll_l0 K a2 k zs t := by
   funext s; rw [g_impl_sum_addAll_l0]
  rw [e]; exact .bind (.add _ _) (addAll_l0_add k zs)
theorem addAll_add {K : Nat} (t : MpT) (f : Int) : AddP K (fun s => g_impl_sum_addAll K s t f) := by
 obtain ⟨F, hF, hs⟩ := (addAll_l0_add (K := K) (a2 := f) K t).step (fun s => s) (fun _ _ => rfl)
 have e : (fun s => g_impl_sum_addAll K s t f) = F := by
  funext s
  unfold g_impl_sum_addAll
  exact (hs (fun r => some r) (fun s => some s) s).trans (by cases F s <;> rfl)
 rw [e]; exact hF
end Go.Proofs.YtfodlhkoafhplaaGreat
