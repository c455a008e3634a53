/- Walks of functions: each computes its pure function, if that gives a value. -/
import Derived.Test.YtfodlhkoafhplaaGreatUTy
import Derived.Test.YtfodlhkoafhplaaGreatUF3
import Derived.Test.YtfodlhkoafhplaaGreatUF2
import Derived.Test.YtfodlhkoafhplaaGreatUF1
namespace Go.Proofs.YtfodlhkoafhplaaGreat
open Go
set_option linter.unusedSimpArgs false
set_option linter.unusedVariables false
set_option maxRecDepth 100000
set_option maxHeartbeats 8000000
def K6 (K : Nat) (a0 : (List Int)) (a1 : (A8 × Int)) (a2 : MpT) : Nat → Int → MpT → Option (Ex MpT (MpT))
 | 0, _, _ => none
 | k + 1, a4, a6 => (if a4 < (a2.length : Int) then ((Zh6 K a0 a1.1 ((rd a2 a4).1)).bind fun a3 => (if a3.2 = 0 then K6 K a0 a1 a2 k (a4 + 1) a6 else ((B6 K (IntKind.i64.wrap ((IntKind.i64.wrap (a3.2 * a1.2)) * (rd a2 a4).2))).bind fun b5 => (if a6.length + ([(a3.1, b5)]).length ≤ 1099511627776 then K6 K a0 a1 a2 k (a4 + 1) (a6 ++ [(a3.1, b5)]) else none)))) else some (.go a6))
def Zj4 (K : Nat) (a0 : (List Int)) (a1 : (A8 × Int)) (a2 : MpT) : Option MpT := ((K6 K a0 a1 a2 K 0 ([] : List (A8 × Int))).bind (Ex.elim (fun r => some r) (fun s => (fun (b2 : MpT) => some b2) s)))
theorem Yi0 {K : Nat} {a0 : (List Int)} {a1 : (A8 × Int)} {a2 : MpT} {r : MpT} (q0 : Zj4 K a0 a1 a2 = some r) {H : FH} {w : World} {L : OL} {s0 : Value} {s1 : Value} (b8 : Y2 (Y8 .i64) H s0 a0) (b3 : Y2 yT H s1 a2) (hS : St H w L) :
 Calls Tryz.prog 251 #[s0, vA (Z7 .u8 a1.1 ++ [vI a1.2]), vA ([s1])] w (S3 (fun v G => (R.agg (W0 yT)).p G v r) H L) := by
 have Z2 := Sub.refl H
 refine X2 Tryz.func251 rfl Tryz.ntmps251 rfl ?_
 unfold Zj4 at q0
 refine Z3 (Z1 ?_)
 refine S5 (v := vA (Z7 .u8 a1.1 ++ [vI a1.2])) (Z7 .u8 a1.1 ++ [vI a1.2]).toArray rfl rfl hS rfl ?_
 intro b1 w2 hS
 refine S5 (v := vA ([s1])) ([s1]).toArray rfl rfl hS rfl ?_
 intro b4 w5 hS
 refine V0 (z := vA ([vN])) ([vN]).toArray Ze9.zero rfl hS rfl ?_
 intro b7 w8 hS
 refine Z0 (Z3 (Z1 ?_))
 refine Q6 (vA ([vN])) Yg4 rfl ?_
 refine V0 (z := vA ([vN])) ([vN]).toArray Ze9.zero rfl hS rfl ?_
 intro c7 w11 hS
 refine X8 (v := vA ([vN])) (vs := ([vN]).toArray) (cs := ([vN]).toArray) T3 rfl rfl rfl hS rfl (S2 rfl) rfl ?_
 intro w13 hS
 refine Z0 (Z3 (Z3 (Z1 (Z5 (vI 0) rfl rfl (Z0 (Y7 ?_))))))
 have f5 : V1 yT 76 H (.slice none 0 0) [] [] := V1.nil _ _ _
 obtain ⟨f6, a9, f7⟩ := bind_some q0
 refine W7 (id := 0) (fun k f w => ∃ (a4 : Int) (a6 : MpT) (H1 : FH) (a7 : OL) (a5 : Value), K6 K a0 a1 a2 k a4 a6 = some f6 ∧ Sub H H1 ∧ St H1 w (a7 ++ ([(c7, cA ([a5]) 47)] ++ ([(b7, cA ([vN]) 47)] ++ ([(b4, cA ([s1]) 47)] ++ ([(b1, cA (Z7 .u8 a1.1 ++ [vI a1.2]) 76)] ++ L))))) ∧ 0 ≤ a4 ∧ V1 yT 76 H1 a5 a6 a7 ∧ Y2 (Y8 .i64) H1 s0 a0 ∧ Y2 yT H1 s1 a2 ∧ ev f (.tmp 0) = s0 ∧ ev f (.tmp 4) = vP b1 ∧ ev f (.tmp 5) = vP b4 ∧ ev f (.tmp 6) = vP b7 ∧ ev f (.tmp 7) = vP c7 ∧ ev f (.tmp 8) = vI a4) (fun f w => ∃ (b2 : MpT) (H1 : FH) (b6 : OL) (b0 : Value), f6 = .go b2 ∧ Sub H H1 ∧ St H1 w (b6 ++ ([(c7, cA ([b0]) 47)] ++ ([(b7, cA ([vN]) 47)] ++ ([(b4, cA ([s1]) 47)] ++ ([(b1, cA (Z7 .u8 a1.1 ++ [vI a1.2]) 76)] ++ L))))) ∧ V1 yT 76 H1 b0 b2 b6 ∧ Y2 yT H1 s1 a2 ∧ ev f (.tmp 6) = vP b7 ∧ ev f (.tmp 7) = vP c7) rfl ?_ ?_ K ?_ ?_
 rintro f w ⟨a4, a6, H1, a7, a5, a9, _⟩
 rw [K6] at a9; cases a9
 rintro k s2 s3 k2 m7 ⟨a4, a6, k5, a7, a5, a9, Z2, hS, m8, a8, b8, b3, d2, d3, c3, d4, d5, c4⟩
 rw [K6] at a9
 refine Z3 (Z3 (Z1 (Z4 (vI a4) (by exact c4) rfl (Y3 U4 (by exact c3) rfl ?_))))
 refine Y4 (s1) Q1 rfl (hS.get (mR (mR (mR mL)))) rfl rfl ?_
 have s4 := b3.bound
 refine W6 R2 rfl b3 rfl ?_
 refine U2 (k := .i64) (a := a4) (b := (a2.length : Int)) rfl rfl rfl (Z0 ?_)
 by_cases d7 : a4 < (a2.length : Int)
 rw [if_pos d7] at a9
 refine Y0 (bT d7 rfl) (Y6 (Z3 (Y7 (Z3 ?_))))
 obtain ⟨k3, k4, s5, E80, _, k6, e1, ⟨_, _, rfl, rfl, rfl⟩, k7⟩ := b3.elem (i := a4) (by omega) (by omega)
 obtain ⟨a3, h1, a9⟩ := bind_some a9
 refine U0 16 (Q5 [(20, MP.eq (s0)), (21, MP.eq (vP b1)), (22, MP.eq (vA (Z7 .u8 a1.1))), (23, MP.eq (vP b4)), (24, MP.eq (s1)), (25, MP.eq (vI a4)), (26, MP.eq (Value.pointer (some ⟨k3, k4, none⟩))), (27, MP.eq (Value.pointer (some ⟨k3, k4 + 0, none⟩))), (28, MP.eq (vA (Z7 .u8 ((rd a2 a4).1)))), (29, MP.eq (Value.tuple #[vA (Z7 .u8 a3.1), vI a3.2])), (19, MP.eq (Value.tuple #[vA (Z7 .u8 a3.1), vI a3.2])), (30, MP.eq (vA (Z7 .u8 a3.1))), (31, MP.eq (vI a3.2)), (9, MP.box (cA (Z7 .u8 (fun _ => 0)) 70)), (10, MP.eq (vI a3.2))]) [Co.st 13 9 14 11 30 (Zn4 70)] mixed rfl (Zr5 (ns := [(13, 9, 14, 11, 30)]) rfl rfl) rfl hS (Z6 rfl ?_ (Z6 rfl ?_ (Z6 rfl ?_ (Z6 rfl ?_ (Z6 rfl ?_ (Z6 rfl ?_ (Z6 rfl ?_ (Z6 rfl ?_ (Z6 rfl ?_ (Z6 rfl ?_ (Z6 rfl ?_ (Z6 rfl ?_ (Z6 rfl ?_ (Z6 rfl ?_ (Ye6 rfl ?_ (Z6 rfl ?_ U5)))))))))))))))) ?_
 intro f16 w17 H18 X19 s6 hS k8 s7 hcq
 refine Z4 (s0) (evT (k8 0 rfl) d2) rfl ?_
 exact qn (.refl _) rfl hS rfl
 intro f25 w26 H27 X28 s8 hS k9 s9 hcq
 refine Y3 N2 (evT (k9 4 rfl) d3) rfl ?_
 exact qn (.refl _) rfl hS rfl
 intro f34 w35 H36 X37 t0 hS t1 l0 hcq
 refine V4 (Z7 .u8 a1.1) P9 (eM (l0 1 21 rfl rfl)) (hS.get (o := cA (Z7 .u8 a1.1 ++ [vI a1.2]) 76) (mR (mR (mR (mR (mR mL)))))) rfl (fun j hj => Zg5 ([]) (Z7 .u8 a1.1) (([vI a1.2])) j hj) rfl ?_
 exact qn (.refl _) rfl hS rfl
 intro f43 w44 H45 X46 t4 hS l1 t5 hcq
 refine Y3 U4 (evT (l1 5 rfl) c3) rfl ?_
 exact qn (.refl _) rfl hS rfl
 intro f52 w53 H54 X55 t6 hS t7 l2 hcq
 refine Y4 (s1) Q1 (eM (l2 3 23 rfl rfl)) (hS.get (mR (mR (mR (mR mL))))) rfl rfl ?_
 exact qn (.refl _) rfl hS rfl
 intro f61 w62 H63 X64 t8 hS l3 t9 hcq
 refine Z4 (vI a4) (evT (l3 8 rfl) c4) rfl ?_
 exact qn (.refl _) rfl hS rfl
 intro f70 w71 H72 X73 u0 hS u1 f8 hcq
 refine W3 R2 rfl (eM (f8 4 24 rfl rfl)) k6 (eM (f8 5 25 rfl rfl)) (by omega) (by omega) rfl ?_
 exact qn (.refl _) rfl hS rfl
 intro f81 w82 H83 X84 u2 hS u3 l4 hcq
 refine Y3 N2 (eM (l4 6 26 rfl rfl)) rfl ?_
 exact qn (.refl _) rfl hS rfl
 intro f90 w91 H92 X93 l5 hS u4 l6 hcq
 have e1 := l5.1 _ _ e1
 refine V4 (Z7 .u8 ((rd a2 a4).1)) P9 (eM (l6 7 27 rfl rfl)) (hS.froz _ _ e1) rfl (Zd1 ([]) (Z7 .u8 ((rd a2 a4).1)) (([vI ((rd a2 a4).2)])) k7 (Nat.le_of_ble_eq_true rfl)) rfl ?_
 exact qn (.refl _) rfl hS rfl
 intro f99 u5 u6 u7 h2 hS n1 d8 hcq
 have b8 := b8.mono h2
 refine X0 Tryz.call282 (F9 (eM (d8 0 20 rfl rfl)) (eM (d8 2 22 rfl rfl)) (eM (d8 8 28 rfl rfl))) rfl (Yh0 h1 b8 hS) ?_
 rintro u8 u9 ⟨_, v0, rfl, h3, hS, ⟨m9, n0, rfl, ⟨_, rfl, rfl⟩, rfl⟩⟩
 refine ⟨_, rfl, ?_⟩
 exact qn h3 rfl hS rfl
 intro v1 v2 v3 v4 n2 hS n3 h4 hcq
 refine Z4 (Value.tuple #[vA (Z7 .u8 a3.1), vI a3.2]) (eM (h4 9 29 rfl rfl)) rfl ?_
 exact qn (.refl _) rfl hS rfl
 intro v5 v6 v7 v8 n4 hS n5 h5 hcq
 refine V5 (vA (Z7 .u8 a3.1)) (eM (h5 10 19 rfl rfl)) rfl rfl ?_
 exact qn (.refl _) rfl hS rfl
 intro v9 w0 w1 w3 n6 hS n7 h6 hcq
 refine V5 (vI a3.2) (eM (h6 10 19 rfl rfl)) rfl rfl ?_
 exact qn (.refl _) rfl hS rfl
 intro w4 w6 w7 w9 n8 hS n9 o0 hcq
 refine V0 (z := vA (Z7 .u8 (fun _ => 0))) (Z7 .u8 (fun _ => 0)).toArray Zy4.zero rfl hS rfl ?_
 intro x0 x1 hS
 exact qn (.refl _) rfl hS ⟨_, rfl⟩
 intro c2 l7 f9 l9 o1 hS o2 e7 hcq
 have Z2 := Sub.refl f9
 obtain ⟨g0, d1⟩ := e7 13 9 rfl rfl
 have d1 : c2 9 = vP g0 := d1
 have hS : St f9 l7 (Zb7 (cA (Z7 .u8 (fun _ => 0)) 70) (c2 9) ++ (l9 ++ (a7 ++ ([(c7, cA ([a5]) 47)] ++ ([(b7, cA ([vN]) 47)] ++ ([(b4, cA ([s1]) 47)] ++ ([(b1, cA (Z7 .u8 a1.1 ++ [vI a1.2]) 76)] ++ L))))))) := hS
 rw [d1] at hS
 have m0 : ev c2 (.tmp 9) = vP g0 := d1
 have g1 : ev c2 (.tmp 30) = vA (Z7 .u8 a3.1) := e7 11 30 rfl rfl
 refine X8 (v := vA (Z7 .u8 a3.1)) (vs := (Z7 .u8 a3.1).toArray) (cs := (Z7 .u8 (fun _ => 0)).toArray) P9 m0 g1 rfl hS rfl (S4 .u8 a3.1) rfl ?_
 intro x2 hS
 have m1 : c2 30 = vA (Z7 .u8 a3.1) := g1
 exact Z0 ⟨_, rfl, rfl, Z2, by show St _ _ (Zb7 (Zn4 70 (c2 30)) (c2 9) ++ _); rw [d1, m1]; exact hS, trivial⟩
 intro x3 x4 x5 x6 o3 hS o4 h7 hcq
 refine Z5 (vI a3.2) (eM (h7 12 31 rfl rfl)) rfl ?_
 exact qn (.refl _) rfl hS rfl
 intro c5 m2 g2 c8 hS c0 d9 hcq
 have hS : St g2 m2 ((Zb7 (Zn4 70 (c5 30)) (c5 9) ++ ([])) ++ (a7 ++ ([(c7, cA ([a5]) 47)] ++ ([(b7, cA ([vN]) 47)] ++ ([(b4, cA ([s1]) 47)] ++ ([(b1, cA (Z7 .u8 a1.1 ++ [vI a1.2]) 76)] ++ L)))))) := hS
 have Z2 := Z2.trans c8
 have b8 := b8.mono c8
 have b3 := b3.mono c8
 have a8 := a8.mono c8
 have g3 := evT (c0 0 rfl) d2
 have e2 := evT (c0 4 rfl) d3
 have e3 := evT (c0 5 rfl) c3
 have g4 := evT (c0 6 rfl) d4
 have e4 := evT (c0 7 rfl) d5
 have e5 := evT (c0 8 rfl) c4
 have g5 : ev c5 (.tmp 10) = vI a3.2 := d9 15 10 (by decide) rfl
 obtain ⟨g6, c6⟩ := d9 13 9 (by decide) rfl
 have c6 : c5 9 = vP g6 := c6
 rw [c6] at hS
 have c6 : ev c5 (.tmp 9) = _ := c6
 have m3 : c5 30 = vA (Z7 .u8 a3.1) := (eM (d9 11 30 (by decide) rfl))
 rw [m3] at hS
 refine Z0 (Z3 (Z1 (Z4 (vI a3.2) (by exact g5) rfl ?_)))
 refine K9 (k := .i64) (a := a3.2) (b := 0) rfl rfl rfl (Z0 ?_)
 by_cases c9 : a3.2 = 0
 rw [if_pos c9] at a9
 refine Z9 (bN c9 rfl) (Y6 (X3 (Z1 (Z4 (vI a4) (by exact e5) rfl ?_))))
 refine W8 (a4 + 1) rfl rfl (IntWalk.i64_in _ (by omega)) rfl (Z5 (vI (a4 + 1)) rfl rfl (Z0 ?_))
 have hS := St.dropA hS
 exact k2 _ _ ⟨(a4 + 1), a6, g2, a7, a5, a9, Z2, hS, (by omega), a8, b8, b3, g3, e2, e3, g4, e4, rfl⟩
 rw [if_neg c9] at a9
 refine Y0 (bO c9 rfl) ?_
 obtain ⟨g7, g8, o5, x7, _, h8, e0, ⟨_, _, rfl, rfl, rfl⟩, h9⟩ := b3.elem (i := a4) (by omega) (by omega)
 obtain ⟨b5, i0, a9⟩ := bind_some a9
 refine U0 17 (Q5 [(34, MP.eq (vP c7)), (35, MP.eq (a5)), (36, MP.eq (vA (Z7 .u8 a3.1))), (37, MP.eq (vI a3.2)), (38, MP.eq (vQ b1 8)), (39, MP.eq (vI a1.2)), (40, MP.eq (vI (IntKind.i64.wrap (a3.2 * a1.2)))), (41, MP.eq (vP b4)), (42, MP.eq (s1)), (43, MP.eq (vI a4)), (44, MP.eq (Value.pointer (some ⟨g7, g8, none⟩))), (45, MP.eq (Value.pointer (some ⟨g7, g8 + 8, none⟩))), (46, MP.eq (vI ((rd a2 a4).2))), (47, MP.eq (vI (IntKind.i64.wrap ((IntKind.i64.wrap (a3.2 * a1.2)) * (rd a2 a4).2)))), (48, MP.eq (vI b5)), (49, MP.eq (vA (Z7 .u8 a3.1 ++ [vI b5]))), (50, MP.sl yT ([(a3.1, b5)]))]) [] mixed rfl rfl rfl hS (Z6 rfl ?_ (Z6 rfl ?_ (Z6 rfl ?_ (Z6 rfl ?_ (Z6 rfl ?_ (Z6 rfl ?_ (Z6 rfl ?_ (Z6 rfl ?_ (Z6 rfl ?_ (Z6 rfl ?_ (Z6 rfl ?_ (Z6 rfl ?_ (Z6 rfl ?_ (Z6 rfl ?_ (Z6 rfl ?_ (Z6 rfl ?_ (Z6 rfl ?_ U5))))))))))))))))) ?_
 intro x8 x9 y0 y1 o6 hS i1 o7 hcq
 refine Y3 U4 (evT (i1 7 rfl) e4) rfl ?_
 exact qn (.refl _) rfl hS rfl
 intro y2 y3 y4 y5 o8 hS o9 i2 hcq
 refine Y4 (a5) Q1 (eM (i2 0 34 rfl rfl)) (hS.get (mR (mR (mR mL)))) rfl rfl ?_
 exact qn (.refl _) rfl hS rfl
 intro y6 y7 y8 y9 p0 hS i3 p1 hcq
 refine W1 P9 (evT (i3 9 rfl) c6) (hS.get (mR mL)) rfl rfl ?_
 exact qn (.refl _) rfl hS rfl
 intro z0 z1 z2 z3 p2 hS i4 p3 hcq
 refine Z4 (vI a3.2) (evT (i4 10 rfl) g5) rfl ?_
 exact qn (.refl _) rfl hS rfl
 intro z4 z5 z6 z7 p4 hS i5 p5 hcq
 refine Y3 Zb5 (evT (i5 4 rfl) e2) rfl ?_
 exact qn (.refl _) rfl hS rfl
 intro z8 z9 a00 a01 p6 hS p7 i6 hcq
 refine Y4 (vI a1.2) ty2 (eM (i6 4 38 rfl rfl)) (hS.get (mR (mR (mR (mR (mR (mR mL))))))) rfl rfl ?_
 exact qn (.refl _) rfl hS rfl
 intro a02 a03 a04 a05 p8 hS p9 e8 hcq
 refine Zq0 (IntKind.i64.wrap (a3.2 * a1.2)) (eM (e8 3 37 rfl rfl)) (eM (e8 5 39 rfl rfl)) rfl rfl ?_
 exact qn (.refl _) rfl hS rfl
 intro a06 a07 a08 a09 q1 hS i7 q2 hcq
 refine Y3 U4 (evT (i7 5 rfl) e3) rfl ?_
 exact qn (.refl _) rfl hS rfl
 intro a10 a11 a12 a13 q3 hS q4 i8 hcq
 refine Y4 (s1) Q1 (eM (i8 7 41 rfl rfl)) (hS.get (mR (mR (mR (mR (mR mL)))))) rfl rfl ?_
 exact qn (.refl _) rfl hS rfl
 intro a14 a15 a16 a17 q5 hS i9 q6 hcq
 refine Z4 (vI a4) (evT (i9 8 rfl) e5) rfl ?_
 exact qn (.refl _) rfl hS rfl
 intro a18 a19 a20 a21 q7 hS q8 e9 hcq
 refine W3 R2 rfl (eM (e9 8 42 rfl rfl)) h8 (eM (e9 9 43 rfl rfl)) (by omega) (by omega) rfl ?_
 exact qn (.refl _) rfl hS rfl
 intro a22 a23 a24 a25 q9 hS r0 j0 hcq
 refine Y3 Zb5 (eM (j0 10 44 rfl rfl)) rfl ?_
 exact qn (.refl _) rfl hS rfl
 intro a26 a27 a28 a29 j1 hS r1 j2 hcq
 have e0 := j1.1 _ _ e0
 refine Y4 (vI ((rd a2 a4).2)) ty2 (eM (j2 11 45 rfl rfl)) (hS.froz _ _ e0) (h9 8 (show 8 < 9 by decide)) rfl ?_
 exact qn (.refl _) rfl hS rfl
 intro a30 a31 a32 a33 r2 hS r3 f0 hcq
 refine Zq0 (IntKind.i64.wrap ((IntKind.i64.wrap (a3.2 * a1.2)) * (rd a2 a4).2)) (eM (f0 6 40 rfl rfl)) (eM (f0 12 46 rfl rfl)) rfl rfl ?_
 exact qn (.refl _) rfl hS rfl
 intro a34 a35 a36 a37 r4 hS r5 j3 hcq
 refine X0 Tryz.call217 (M0 (eM (j3 13 47 rfl rfl))) rfl (Za7 i0  hS) ?_
 rintro a38 a39 ⟨_, a40, rfl, j4, hS, rfl⟩
 refine ⟨_, rfl, ?_⟩
 exact qn j4 rfl hS rfl
 intro a41 a42 a43 a44 r6 hS r7 f1 hcq
 refine Zp8 (Z7 .u8 a3.1 ++ [vI b5]) Xa0 (Yk7 (eM (f1 2 36 rfl rfl)) (eM (f1 14 48 rfl rfl))) (G9 rfl rfl rfl (Nat.le_of_ble_eq_true rfl) (G9 rfl rfl rfl (Nat.le_of_ble_eq_true rfl) (Zm1 rfl))) rfl ?_
 exact qn (.refl _) rfl hS rfl
 intro a45 a46 a47 a48 r8 hS r9 j5 hcq
 refine Zk6 (τ := yT) R2 Zw6 rfl [vA (Z7 .u8 a3.1 ++ [vI b5])] [(a3.1, b5)] rfl rfl (Zc3 (eM (j5 15 49 rfl rfl))) (Zq5 ⟨_, _, rfl, rfl, rfl⟩) (by decide) (by decide) hS rfl ?_
 intro a49 a50 a51 j6 hS j7
 exact qn j6 rfl hS j7
 intro a52 m4 g9 d0 hS c1 f2 hcq
 have hS : St g9 m4 ([(g6, cA (Z7 .u8 a3.1) 70)] ++ (a7 ++ ([(c7, cA ([a5]) 47)] ++ ([(b7, cA ([vN]) 47)] ++ ([(b4, cA ([s1]) 47)] ++ ([(b1, cA (Z7 .u8 a1.1 ++ [vI a1.2]) 76)] ++ L)))))) := hS
 have Z2 := Z2.trans d0
 have b8 := b8.mono d0
 have b3 := b3.mono d0
 have a8 := a8.mono d0
 have h0 := evT (c1 7 rfl) e4
 obtain ⟨a53, m5, j8⟩ := gvS (f2 16 50 (by decide) rfl)
 obtain ⟨j9, a9⟩ := gd a9
 have hS := hS.perm U1
 refine Za8 (τ := yT) Yu5 rfl (by exact (eM (f2 1 35 (by decide) rfl))) (by exact m5) a8 hS j8 j9 rfl ?_
 intro e6 a54 m6 f3 hS
 have hS := hS.perm U1.symm
 refine Y3 U4 (by exact h0) rfl ?_
 have hS := hS.perm C2
 refine Ze4 (v := e6) (cs := ([a5]).toArray) (cs' := ([e6]).toArray) Q1 rfl rfl hS f3.isOne rfl (Nat.le_of_ble_eq_true rfl) rfl ?_
 intro a55 hS
 have hS := hS.perm C2.symm
 refine Z0 (X3 (Z1 (Z4 (vI a4) (by exact (evT (c1 8 rfl) e5)) rfl ?_)))
 refine W8 (a4 + 1) rfl rfl (IntWalk.i64_in _ (by omega)) rfl (Z5 (vI (a4 + 1)) rfl rfl (Z0 ?_))
 have hS := St.dropA hS
 exact k2 _ _ ⟨(a4 + 1), (a6 ++ [(a3.1, b5)]), g9, m6, e6, a9, Z2, hS, (by omega), f3, b8, b3, (evT (c1 0 rfl) g3), (evT (c1 4 rfl) e2), (evT (c1 5 rfl) e3), (evT (c1 6 rfl) g4), h0, rfl⟩
 rw [if_neg d7] at a9
 refine Z9 (bF d7 rfl) ?_
 refine W4 rfl ?_
 have hz := Option.some.inj a9
 subst hz
 exact m7 _ _ ⟨a6, k5, a7, a5, rfl, Z2, hS, a8, b3, d4, d5⟩
 exact ⟨0, ([] : List (A8 × Int)), H, ([]), (vN), a9, Z2, hS, (by omega), f5, b8, b3, rfl, rfl, rfl, rfl, rfl, rfl⟩
 rintro a56 a57 ⟨b2, a58, b6, b0, rfl, Z2, hS, b9, b3, d6, f4⟩
 dsimp only [Ex.elim] at f7
 refine Z3 (Z1 ?_)
 refine W1 T3 (by exact f4) (hS.get (mR mL)) rfl rfl ?_
 have hS := hS.perm C2
 refine X8 (v := vA ([b0])) (vs := ([b0]).toArray) (cs := ([vN]).toArray) T3 (by exact d6) rfl rfl hS rfl (S2 b9.isOne) rfl ?_
 intro a59 hS
 have hS := hS.perm C2.symm
 refine Z0 ?_
 refine Y9 (vs := [vA ([b0])]) Tryz.func251 ⟨⟨_, (by exact d6), U6 T3 (hS.get (mR (mR mL))) rfl⟩, trivial⟩ ?_
 obtain ⟨a60, k0, hS, k1⟩ := b9.freeze hS
 have Z2 := Z2.trans k0
 have hz := Option.some.inj f7
 subst hz
 exact ⟨_, _, rfl, Z2, (St.dropA (St.dropA (St.dropA (St.dropA hS)))), ⟨_, rfl, ⟨_, rfl, k1⟩⟩⟩
def L5 (K : Nat) (a0 : (List Int)) (a1 : MpT) (r8 : Int) : Nat → Int → Option (Ex (Int × Bool) (Unit))
 | 0, _ => none
 | k + 1, a3 => (if a3 < (a1.length : Int) then ((B4 K a0 ((rd a1 a3).1)).bind fun b6 => (if b6 = r8 then L5 K a0 a1 r8 k (a3 + 1) else some (.ret (0, false)))) else some (.go ()))
def Zh0 (K : Nat) (a0 : (List Int)) (a1 : MpT) : Option (Int × Bool) := (if (a1.length : Int) = 0 then some ((-1), true) else (if 0 < (a1.length : Int) then ((B4 K a0 ((rd a1 0).1)).bind fun r8 => ((L5 K a0 a1 r8 K 1).bind (Ex.elim (fun r => some r) (fun s => some (r8, true))))) else none))
theorem Yh1 {K : Nat} {a0 : (List Int)} {a1 : MpT} {r : (Int × Bool)} (q0 : Zh0 K a0 a1 = some r) {H : FH} {w : World} {L : OL} {s0 : Value} {s1 : Value} (a6 : Y2 (Y8 .i64) H s0 a0) (a5 : Y2 yT H s1 a1) (hS : St H w L) :
 Calls Tryz.prog 140 #[s0, vA ([s1])] w (S3 (fun v G => (R.t2 (R.int .i64) R.bool).p G v r) H L) := by
 have Z2 := Sub.refl H
 refine X2 Tryz.func140 rfl Tryz.ntmps140 rfl ?_
 unfold Zh0 at q0
 refine Z3 (Z1 ?_)
 refine S5 (v := vA ([s1])) ([s1]).toArray rfl rfl hS rfl ?_
 intro b1 w2 hS
 refine Z5 (vI 0) rfl rfl (Z5 (Value.bool false) rfl rfl (Z0 (Z3 (Z3 (Z1 (Y3 U4 rfl rfl ?_))))))
 refine Y4 (s1) Q1 rfl (hS.get mL) rfl rfl ?_
 have e2 := a5.bound
 refine W6 R2 rfl a5 rfl ?_
 refine Zd3 (k := .i64) (a := (a1.length : Int)) (b := 0) rfl rfl rfl (Z0 ?_)
 by_cases b8 : (a1.length : Int) = 0
 rw [if_pos b8] at q0
 refine Y0 (bT b8 rfl) (Z3 (Z1 (Z5 (vI (-1)) rfl rfl (Z5 (Value.bool true) rfl rfl (Z0 ?_)))))
 refine Y9 (vs := [vI (-1), Value.bool true]) Tryz.func140 ⟨rfl, rfl, trivial⟩ ?_
 have hz := Option.some.inj q0
 subst hz
 exact ⟨_, _, rfl, Z2, (St.dropA hS), ⟨_, _, rfl, rfl, rfl⟩⟩
 rw [if_neg b8] at q0
 refine Z9 (bF b8 rfl) (Y6 (Z3 (Z1 (Z4 (s0) rfl rfl (Y3 U4 rfl rfl ?_)))))
 refine Y4 (s1) Q1 rfl (hS.get mL) rfl rfl ?_
 obtain ⟨e3, q0⟩ := gd q0
 obtain ⟨b7, o7, e4, E7, _, c7, c8, ⟨_, _, rfl, rfl, rfl⟩, c9⟩ := a5.elem (i := 0) (by omega) (by omega)
 refine W3 R2 rfl rfl c7 rfl (by omega) (by omega) rfl (Y3 N2 rfl rfl ?_)
 refine V4 (Z7 .u8 ((rd a1 0).1)) P9 rfl (hS.froz _ _ c8) rfl (Zd1 ([]) (Z7 .u8 ((rd a1 0).1)) (([vI ((rd a1 0).2)])) c9 (Nat.le_of_ble_eq_true rfl)) rfl ?_
 obtain ⟨r8, d0, q0⟩ := bind_some q0
 refine X0 Tryz.call216 (T0 rfl rfl) rfl (Zn5 d0 a6 hS) ?_
 rintro e8 w9 ⟨_, H8, rfl, c0, hS, rfl⟩
 refine ⟨_, rfl, ?_⟩
 have Z2 := Z2.trans c0
 have a6 := a6.mono c0
 have a5 := a5.mono c0
 refine Z5 (vI r8) rfl rfl (Z0 (Z3 (Z3 (Z1 (Z5 (vI 1) rfl rfl (Z0 (Y7 ?_)))))))
 obtain ⟨c1, a4, b2⟩ := bind_some q0
 refine W7 (id := 0) (fun k f w => ∃ (a3 : Int) (H1 : FH), L5 K a0 a1 r8 k a3 = some c1 ∧ Sub H H1 ∧ St H1 w ([(b1, cA ([s1]) 47)] ++ L) ∧ 0 ≤ a3 ∧ Y2 (Y8 .i64) H1 s0 a0 ∧ Y2 yT H1 s1 a1 ∧ ev f (.tmp 0) = s0 ∧ ev f (.tmp 3) = vP b1 ∧ ev f (.tmp 6) = vI r8 ∧ ev f (.tmp 7) = vI a3) (fun f w => ∃ (H1 : FH), c1 = .go () ∧ Sub H H1 ∧ St H1 w ([(b1, cA ([s1]) 47)] ++ L) ∧ Y2 yT H1 s1 a1 ∧ ev f (.tmp 6) = vI r8) rfl ?_ ?_ K ?_ ?_
 rintro f w ⟨a3, H1, a4, _⟩
 rw [L5] at a4; cases a4
 rintro k d5 d6 d1 d2 ⟨a3, c2, a4, Z2, hS, d3, a6, a5, b0, a7, a8, a9⟩
 rw [L5] at a4
 refine Z3 (Z3 (Z1 (Z4 (vI a3) (by exact a9) rfl (Y3 U4 (by exact a7) rfl ?_))))
 refine Y4 (s1) Q1 rfl (hS.get mL) rfl rfl ?_
 have d7 := a5.bound
 refine W6 R2 rfl a5 rfl ?_
 refine U2 (k := .i64) (a := a3) (b := (a1.length : Int)) rfl rfl rfl (Z0 ?_)
 by_cases b3 : a3 < (a1.length : Int)
 rw [if_pos b3] at a4
 refine Y0 (bT b3 rfl) (Y6 (Z3 (Y7 (Z3 (Z1 (Z4 (s0) (by exact b0) rfl (Y3 U4 (by exact a7) rfl ?_)))))))
 refine Y4 (s1) Q1 rfl (hS.get mL) rfl rfl (Z4 (vI a3) (by exact a9) rfl ?_)
 obtain ⟨e5, e6, d8, e7, _, c3, c4, ⟨_, _, rfl, rfl, rfl⟩, c5⟩ := a5.elem (i := a3) (by omega) (by omega)
 refine W3 R2 rfl rfl c3 rfl (by omega) (by omega) rfl (Y3 N2 rfl rfl ?_)
 refine V4 (Z7 .u8 ((rd a1 a3).1)) P9 rfl (hS.froz _ _ c4) rfl (Zd1 ([]) (Z7 .u8 ((rd a1 a3).1)) (([vI ((rd a1 a3).2)])) c5 (Nat.le_of_ble_eq_true rfl)) rfl ?_
 obtain ⟨b6, c6, a4⟩ := bind_some a4
 refine X0 Tryz.call216 (T0 rfl rfl) rfl (Zn5 c6 a6 hS) ?_
 rintro e9 f0 ⟨_, d4, rfl, b5, hS, rfl⟩
 refine ⟨_, rfl, ?_⟩
 have Z2 := Z2.trans b5
 have a6 := a6.mono b5
 have a5 := a5.mono b5
 refine Z4 (vI r8) (by exact a8) rfl ?_
 refine K9 (k := .i64) (a := b6) (b := r8) rfl rfl rfl (Z0 ?_)
 by_cases b4 : b6 = r8
 rw [if_pos b4] at a4
 refine Z9 (bN b4 rfl) (Y6 (X3 (Z1 (Z4 (vI a3) (by exact a9) rfl ?_))))
 refine W8 (a3 + 1) rfl rfl (IntWalk.i64_in _ (by omega)) rfl (Z5 (vI (a3 + 1)) rfl rfl (Z0 ?_))
 exact d1 _ _ ⟨(a3 + 1), d4, a4, Z2, hS, (by omega), a6, a5, b0, a7, a8, rfl⟩
 rw [if_neg b4] at a4
 refine Y0 (bO b4 rfl) (Z3 (Z1 (Z5 (vI 0) rfl rfl (Z5 (Value.bool false) rfl rfl (Z0 ?_)))))
 refine Y9 (vs := [vI 0, Value.bool false]) Tryz.func140 ⟨rfl, rfl, trivial⟩ ?_
 have hz := Option.some.inj a4
 subst hz
 dsimp only [Ex.elim] at b2
 have hz := Option.some.inj b2
 subst hz
 exact ⟨_, _, rfl, Z2, (St.dropA hS), ⟨_, _, rfl, rfl, rfl⟩⟩
 rw [if_neg b3] at a4
 refine Z9 (bF b3 rfl) ?_
 refine W4 rfl ?_
 have hz := Option.some.inj a4
 subst hz
 exact d2 _ _ ⟨c2, rfl, Z2, hS, a5, a8⟩
 exact ⟨1, H8, a4, Z2, hS, (by omega), a6, a5, rfl, rfl, rfl, rfl⟩
 rintro d9 e0 ⟨e1, rfl, Z2, hS, a5, b9⟩
 dsimp only [Ex.elim] at b2
 refine Z3 (Z1 (Z4 (vI r8) (by exact b9) rfl (Z5 (vI r8) rfl rfl (Z5 (Value.bool true) rfl rfl (Z0 ?_)))))
 refine Y9 (vs := [vI r8, Value.bool true]) Tryz.func140 ⟨rfl, rfl, trivial⟩ ?_
 have hz := Option.some.inj b2
 subst hz
 exact ⟨_, _, rfl, Z2, (St.dropA hS), ⟨_, _, rfl, rfl, rfl⟩⟩
def L0 (K : Nat) (a0 : A8) (a1 : Int) : Option MpT := ((B6 K a1).bind fun r7 => (if r7 = 0 then some ([] : List (A8 × Int)) else ((B6 K a1).bind fun a3 => some ([(a0, a3)]))))
theorem Zd4 {K : Nat} {a0 : A8} {a1 : Int} {r : MpT} (q0 : L0 K a0 a1 = some r) {H : FH} {w : World} {L : OL} (hS : St H w L) :
 Calls Tryz.prog 170 #[vA (Z7 .u8 a0), vI a1] w (S3 (fun v G => (R.agg (W0 yT)).p G v r) H L) := by
 have Z2 := Sub.refl H
 refine X2 Tryz.func170 rfl Tryz.ntmps170 rfl ?_
 unfold L0 at q0
 refine Z3 (Z1 ?_)
 refine S5 (v := vA (Z7 .u8 a0)) (Z7 .u8 a0).toArray rfl rfl hS rfl ?_
 intro b1 w2 hS
 refine V0 (z := vA ([vN])) ([vN]).toArray Ze9.zero rfl hS rfl ?_
 intro b4 w5 hS
 refine Z0 (Z3 (Z3 (Z1 (Z4 (vI a1) rfl rfl ?_))))
 obtain ⟨r7, c4, q0⟩ := bind_some q0
 refine X0 Tryz.call217 (M0 rfl) rfl (Za7 c4  hS) ?_
 rintro e7 w8 ⟨_, H7, rfl, c5, hS, rfl⟩
 refine ⟨_, rfl, ?_⟩
 have Z2 := Z2.trans c5
 refine Zd3 (k := .i64) (a := r7) (b := 0) rfl rfl rfl (Z0 ?_)
 by_cases a6 : r7 = 0
 rw [if_pos a6] at q0
 refine Y0 (bT a6 rfl) (Z3 (Z1 ?_))
 refine Q6 (vA ([vN])) Yg4 rfl ?_
 refine X8 (v := vA ([vN])) (vs := ([vN]).toArray) (cs := ([vN]).toArray) T3 rfl rfl rfl hS rfl (S2 rfl) rfl ?_
 intro e9 hS
 refine Z0 ?_
 refine Y9 (vs := [vA ([vN])]) Tryz.func170 ⟨⟨_, rfl, U6 T3 (hS.get mL) rfl⟩, trivial⟩ ?_
 have hz := Option.some.inj q0
 subst hz
 exact ⟨_, _, rfl, Z2, (St.dropA (St.dropA hS)), ⟨_, rfl, ⟨_, rfl, Y2.nil⟩⟩⟩
 rw [if_neg a6] at q0
 refine Z9 (bF a6 rfl) (Y6 (Z3 ?_))
 obtain ⟨a3, b0, q0⟩ := bind_some q0
 refine U0 6 (Q5 [(9, MP.eq (vA (Z7 .u8 a0))), (10, MP.eq (vI a1)), (11, MP.eq (vI a3)), (12, MP.eq (vA (Z7 .u8 a0 ++ [vI a3]))), (13, MP.sl yT ([(a0, a3)])), (14, MP.rep (R.agg (W0 yT)) ([(a0, a3)]))]) [] mixed rfl rfl rfl hS (Z6 rfl ?_ (Z6 rfl ?_ (Z6 rfl ?_ (Z6 rfl ?_ (Z6 rfl ?_ (Z6 rfl ?_ U5)))))) ?_
 intro c6 f0 f1 f2 d6 hS b2 d7 hcq
 have c7 : ev c6 (.tmp 2) = vP b1 := Eq.trans (b2 2 rfl) rfl
 refine W1 P9 c7 (hS.get (mR (mR mL))) rfl rfl ?_
 exact qn (.refl _) rfl hS rfl
 intro c8 f3 f4 f5 d8 hS b3 d9 hcq
 have c9 : ev c8 (.tmp 1) = vI a1 := Eq.trans (b3 1 rfl) rfl
 refine Z4 (vI a1) c9 rfl ?_
 exact qn (.refl _) rfl hS rfl
 intro f6 f7 f8 f9 e0 hS e1 b5 hcq
 refine X0 Tryz.call217 (M0 (eM (b5 1 10 rfl rfl))) rfl (Za7 b0  hS) ?_
 rintro g0 g1 ⟨_, g2, rfl, b6, hS, rfl⟩
 refine ⟨_, rfl, ?_⟩
 exact qn b6 rfl hS rfl
 intro g3 g4 g5 g6 e2 hS e3 a7 hcq
 refine Zp8 (Z7 .u8 a0 ++ [vI a3]) Xa0 (Yk7 (eM (a7 0 9 rfl rfl)) (eM (a7 2 11 rfl rfl))) (G9 rfl rfl rfl (Nat.le_of_ble_eq_true rfl) (G9 rfl rfl rfl (Nat.le_of_ble_eq_true rfl) (Zm1 rfl))) rfl ?_
 exact qn (.refl _) rfl hS rfl
 intro g7 g8 g9 h0 e4 hS e5 b7 hcq
 refine Zk6 (τ := yT) R2 Zw6 rfl [vA (Z7 .u8 a0 ++ [vI a3])] [(a0, a3)] rfl rfl (Zc3 (eM (b7 3 12 rfl rfl))) (Zq5 ⟨_, _, rfl, rfl, rfl⟩) (by decide) (by decide) hS rfl ?_
 intro h1 h2 h3 b8 hS b9
 exact qn b8 rfl hS b9
 intro h4 h5 h6 h7 e6 hS e8 c0 hcq
 obtain ⟨d0, d1, a8⟩ := gvS (c0 4 13 rfl rfl)
 refine Zp8 ([d0]) Wj6 (Zc3 d1) (G9 rfl a8.cellsL rfl (Nat.le_of_ble_eq_true rfl) (Zm1 rfl)) rfl ?_
 exact qn (.refl _) rfl hS ⟨_, rfl, ⟨_, rfl, a8⟩⟩
 intro d2 d3 d4 c1 hS c2 c3 hcq
 have hS : St d4 d3 ([(b4, cA ([vN]) 47)] ++ ([(b1, cA (Z7 .u8 a0) 70)] ++ L)) := hS
 have Z2 := Z2.trans c1
 have a9 : ev d2 (.tmp 4) = vP b4 := Eq.trans (c2 4 rfl) rfl
 obtain ⟨h8, d5, ⟨_, rfl, ⟨a4, rfl, a5⟩⟩⟩ := gvR (c3 5 14 (by decide) rfl)
 refine X8 (v := vA ([a4])) (vs := ([a4]).toArray) (cs := ([vN]).toArray) T3 (by exact a9) (by exact d5) rfl hS rfl (S2 a5.isOne) rfl ?_
 intro h9 hS
 refine Z0 ?_
 refine Y9 (vs := [vA ([a4])]) Tryz.func170 ⟨⟨_, (by exact a9), U6 T3 (hS.get mL) rfl⟩, trivial⟩ ?_
 have hz := Option.some.inj q0
 subst hz
 exact ⟨_, _, rfl, Z2, (St.dropA (St.dropA hS)), ⟨_, rfl, ⟨_, rfl, a5⟩⟩⟩
def J4 (K : Nat) (a0 : (List Int)) : Nat → Int → Option (Ex Bool (Unit))
 | 0, _ => none
 | k + 1, a1 => (if a1 < (a0.length : Int) then ((Zl0 K (rd a0 a1) 1 12).bind fun r4 => (if r4 = true then J4 K a0 k (a1 + 1) else some (.ret false))) else some (.go ()))
def Zf7 (K : Nat) (a0 : (List Int)) : Option Bool := ((J4 K a0 K 0).bind (Ex.elim (fun r => some r) (fun s => some (decide ((a0.length : Int) ≤ 8)))))
theorem Yf3 {K : Nat} {a0 : (List Int)} {r : Bool} (q0 : Zf7 K a0 = some r) {H : FH} {w : World} {L : OL} {s0 : Value} (a4 : Y2 (Y8 .i64) H s0 a0) (hS : St H w L) :
 Calls Tryz.prog 178 #[s0] w (S3 (fun v G => R.bool.p G v r) H L) := by
 have Z2 := Sub.refl H
 refine X2 Tryz.func178 rfl Tryz.ntmps178 rfl ?_
 unfold Zf7 at q0
 refine Z3 (Z1 (Z5 (Value.bool false) rfl rfl (Z0 (Z3 (Z3 (Z1 (Z5 (vI 0) rfl rfl (Z0 (Y7 ?_)))))))))
 obtain ⟨b1, a3, a7⟩ := bind_some q0
 refine W7 (id := 0) (fun k f w => ∃ (a1 : Int) (H1 : FH), J4 K a0 k a1 = some b1 ∧ Sub H H1 ∧ St H1 w (L) ∧ 0 ≤ a1 ∧ Y2 (Y8 .i64) H1 s0 a0 ∧ ev f (.tmp 0) = s0 ∧ ev f (.tmp 3) = vI a1) (fun f w => ∃ (H1 : FH), b1 = .go () ∧ Sub H H1 ∧ St H1 w (L) ∧ Y2 (Y8 .i64) H1 s0 a0 ∧ ev f (.tmp 0) = s0) rfl ?_ ?_ K ?_ ?_
 rintro f w ⟨a1, H1, a3, _⟩
 rw [J4] at a3; cases a3
 rintro k c2 c3 b5 b6 ⟨a1, b4, a3, Z2, hS, b7, a4, a5, a6⟩
 rw [J4] at a3
 refine Z3 (Z3 (Z1 (Z4 (vI a1) (by exact a6) rfl (Z4 (s0) (by exact a5) rfl ?_))))
 have c7 := a4.bound
 refine W6 S9 rfl a4 rfl ?_
 refine U2 (k := .i64) (a := a1) (b := (a0.length : Int)) rfl rfl rfl (Z0 ?_)
 by_cases a8 : a1 < (a0.length : Int)
 rw [if_pos a8] at a3
 refine Y0 (bT a8 rfl) (Y6 (Z3 (Y7 (Z3 (Z1 (Z4 (s0) (by exact a5) rfl (Z4 (vI a1) (by exact a6) rfl ?_)))))))
 obtain ⟨b3, o3, c8, E3, _, b8, b9, rfl, c0⟩ := a4.elem (i := a1) (by omega) (by omega)
 refine W3 S9 rfl rfl b8 rfl (by omega) (by omega) rfl ?_
 refine Y4 (vI (rd a0 a1)) ty2 rfl (hS.froz _ _ b9) (c0 0 (show 0 < 1 by decide)) rfl ?_
 obtain ⟨r4, c1, a3⟩ := bind_some a3
 refine X0 Tryz.call93 (F9 rfl rfl rfl) rfl (Zn7 c1  hS) ?_
 rintro e4 w5 ⟨_, H4, rfl, b2, hS, rfl⟩
 refine ⟨_, rfl, ?_⟩
 have Z2 := Z2.trans b2
 have a4 := a4.mono b2
 refine M1 (b := r4) rfl rfl (Z0 ?_)
 by_cases a9 : r4 = true
 rw [if_pos a9] at a3
 refine Z9 (Eq.trans rfl (congrArg (fun b => Value.bool (!b)) a9)) (Y6 (X3 (Z1 (Z4 (vI a1) (by exact a6) rfl ?_))))
 refine W8 (a1 + 1) rfl rfl (IntWalk.i64_in _ (by omega)) rfl (Z5 (vI (a1 + 1)) rfl rfl (Z0 ?_))
 exact b5 _ _ ⟨(a1 + 1), H4, a3, Z2, hS, (by omega), a4, a5, rfl⟩
 rw [if_neg a9] at a3
 refine Y0 (Eq.trans rfl (congrArg (fun b => Value.bool (!b)) (W2 a9))) (Z3 (Z1 (Z5 (Value.bool false) rfl rfl (Z0 ?_))))
 refine Y9 (vs := [Value.bool false]) Tryz.func178 ⟨rfl, trivial⟩ ?_
 have hz := Option.some.inj a3
 subst hz
 dsimp only [Ex.elim] at a7
 have hz := Option.some.inj a7
 subst hz
 exact ⟨_, _, rfl, Z2, hS, rfl⟩
 rw [if_neg a8] at a3
 refine Z9 (bF a8 rfl) ?_
 refine W4 rfl ?_
 have hz := Option.some.inj a3
 subst hz
 exact b6 _ _ ⟨b4, rfl, Z2, hS, a4, a5⟩
 exact ⟨0, H, a3, Z2, hS, (by omega), a4, rfl, rfl⟩
 rintro c4 c5 ⟨c6, rfl, Z2, hS, a4, b0⟩
 dsimp only [Ex.elim] at a7
 refine Z3 (Z1 (Z4 (s0) (by exact b0) rfl ?_))
 have c9 := a4.bound
 refine W6 S9 rfl a4 rfl ?_
 refine Yb3 (k := .i64) (a := (a0.length : Int)) (b := 8) rfl rfl rfl (Z5 (Value.bool (decide ((a0.length : Int) ≤ 8))) rfl rfl (Z0 ?_))
 refine Y9 (vs := [Value.bool (decide ((a0.length : Int) ≤ 8))]) Tryz.func178 ⟨rfl, trivial⟩ ?_
 have hz := Option.some.inj a7
 subst hz
 exact ⟨_, _, rfl, Z2, hS, rfl⟩
def Zm6 (K : Nat) (a0 : (A8 × Int)) (a1 : (A8 × Int)) : Option Bool := ((Zf6 K a0.1 a1.1).bind fun r7 => (if r7 = true then (if a0.2 = a1.2 then some true else some false) else some false))
theorem Yo9 {K : Nat} {a0 : (A8 × Int)} {a1 : (A8 × Int)} {r : Bool} (q0 : Zm6 K a0 a1 = some r) {H : FH} {w : World} {L : OL} (hS : St H w L) :
 Calls Tryz.prog 201 #[vA (Z7 .u8 a0.1 ++ [vI a0.2]), vA (Z7 .u8 a1.1 ++ [vI a1.2])] w (S3 (fun v G => R.bool.p G v r) H L) := by
 have Z2 := Sub.refl H
 refine X2 Tryz.func201 rfl Tryz.ntmps201 rfl ?_
 unfold Zm6 at q0
 refine Z3 (Z1 ?_)
 refine S5 (v := vA (Z7 .u8 a0.1 ++ [vI a0.2])) (Z7 .u8 a0.1 ++ [vI a0.2]).toArray rfl rfl hS rfl ?_
 intro b1 w2 hS
 refine S5 (v := vA (Z7 .u8 a1.1 ++ [vI a1.2])) (Z7 .u8 a1.1 ++ [vI a1.2]).toArray rfl rfl hS rfl ?_
 intro b4 w5 hS
 refine Z5 (Value.bool false) rfl rfl (Z0 (Z3 (Z3 (Z1 (Y3 N2 rfl rfl ?_)))))
 refine V4 (Z7 .u8 a0.1) P9 rfl (hS.get (o := cA (Z7 .u8 a0.1 ++ [vI a0.2]) 76) (mR mL)) rfl (fun j hj => Zg5 ([]) (Z7 .u8 a0.1) (([vI a0.2])) j hj) rfl (Y3 N2 rfl rfl ?_)
 refine V4 (Z7 .u8 a1.1) P9 rfl (hS.get (o := cA (Z7 .u8 a1.1 ++ [vI a1.2]) 76) mL) rfl (fun j hj => Zg5 ([]) (Z7 .u8 a1.1) (([vI a1.2])) j hj) rfl ?_
 obtain ⟨r7, a5, q0⟩ := bind_some q0
 refine X0 Tryz.call268 (T0 rfl rfl) rfl (Ye4 a5  hS) ?_
 rintro e7 w8 ⟨_, H7, rfl, a6, hS, rfl⟩
 refine ⟨_, rfl, ?_⟩
 have Z2 := Z2.trans a6
 refine M1 (b := r7) rfl rfl (Z0 ?_)
 by_cases a4 : r7 = true
 rw [if_pos a4] at q0
 refine Z9 (Eq.trans rfl (congrArg (fun b => Value.bool (!b)) a4)) (Y6 (Z3 (Z3 (Z1 (Y3 Zb5 rfl rfl ?_)))))
 refine Y4 (vI a0.2) ty2 rfl (hS.get (mR mL)) rfl rfl (Y3 Zb5 rfl rfl ?_)
 refine Y4 (vI a1.2) ty2 rfl (hS.get mL) rfl rfl ?_
 refine K9 (k := .i64) (a := a0.2) (b := a1.2) rfl rfl rfl (Z0 ?_)
 by_cases a3 : a0.2 = a1.2
 rw [if_pos a3] at q0
 refine Z9 (bN a3 rfl) (Y6 (Z3 (Z1 (Z5 (Value.bool true) rfl rfl (Z0 ?_)))))
 refine Y9 (vs := [Value.bool true]) Tryz.func201 ⟨rfl, trivial⟩ ?_
 have hz := Option.some.inj q0
 subst hz
 exact ⟨_, _, rfl, Z2, (St.dropA (St.dropA hS)), rfl⟩
 rw [if_neg a3] at q0
 refine Y0 (bO a3 rfl) (Z3 (Z1 (Z5 (Value.bool false) rfl rfl (Z0 ?_))))
 refine Y9 (vs := [Value.bool false]) Tryz.func201 ⟨rfl, trivial⟩ ?_
 have hz := Option.some.inj q0
 subst hz
 exact ⟨_, _, rfl, Z2, (St.dropA (St.dropA hS)), rfl⟩
 rw [if_neg a4] at q0
 refine Y0 (Eq.trans rfl (congrArg (fun b => Value.bool (!b)) (W2 a4))) (Z3 (Z1 (Z5 (Value.bool false) rfl rfl (Z0 ?_))))
 refine Y9 (vs := [Value.bool false]) Tryz.func201 ⟨rfl, trivial⟩ ?_
 have hz := Option.some.inj q0
 subst hz
 exact ⟨_, _, rfl, Z2, (St.dropA (St.dropA hS)), rfl⟩
def Zn0 (K : Nat) (a0 : MpT) (a1 : Int) : Option Int := ((Zp9 K a0 a1).bind fun r4 => (if r4 < 0 then some (-1) else some r4))
theorem Yo7 {K : Nat} {a0 : MpT} {a1 : Int} {r : Int} (q0 : Zn0 K a0 a1 = some r) {H : FH} {w : World} {L : OL} {s0 : Value} (a4 : Y2 yT H s0 a0) (hS : St H w L) :
 Calls Tryz.prog 27 #[vA ([s0]), vI a1] w (S3 (fun v G => (R.int .i64).p G v r) H L) := by
 have Z2 := Sub.refl H
 refine X2 Tryz.func27 rfl Tryz.ntmps27 rfl ?_
 unfold Zn0 at q0
 refine Z3 (Z1 ?_)
 refine S5 (v := vA ([s0])) ([s0]).toArray rfl rfl hS rfl ?_
 intro b1 w2 hS
 refine Z5 (vI 0) rfl rfl (Z0 (Z3 (Z1 (Y3 Xi5 rfl rfl ?_))))
 refine Y4 (s0) We0 rfl (hS.get mL) rfl rfl (Z4 (vI a1) rfl rfl ?_)
 obtain ⟨r4, a5, q0⟩ := bind_some q0
 refine X0 Tryz.call105 (T0 rfl rfl) rfl (Ym4 a5 a4 hS) ?_
 rintro e4 w5 ⟨_, H4, rfl, a6, hS, rfl⟩
 refine ⟨_, rfl, ?_⟩
 have Z2 := Z2.trans a6
 refine Z5 (vI r4) rfl rfl (Z0 (Z3 (Z3 (Z1 (Z4 (vI r4) rfl rfl ?_)))))
 refine U2 (k := .i64) (a := r4) (b := 0) rfl rfl rfl (Z0 ?_)
 by_cases a3 : r4 < 0
 rw [if_pos a3] at q0
 refine Y0 (bT a3 rfl) (Z3 (Z1 (Z5 (vI (-1)) rfl rfl (Z0 ?_))))
 refine Y9 (vs := [vI (-1)]) Tryz.func27 ⟨rfl, trivial⟩ ?_
 have hz := Option.some.inj q0
 subst hz
 exact ⟨_, _, rfl, Z2, (St.dropA hS), rfl⟩
 rw [if_neg a3] at q0
 refine Z9 (bF a3 rfl) (Y6 (Z3 (Z1 (Z4 (vI r4) rfl rfl (Z5 (vI r4) rfl rfl (Z0 ?_))))))
 refine Y9 (vs := [vI r4]) Tryz.func27 ⟨rfl, trivial⟩ ?_
 have hz := Option.some.inj q0
 subst hz
 exact ⟨_, _, rfl, Z2, (St.dropA hS), rfl⟩
def T6 (K : Nat) (a0 : (List MpT)) (a1 : (MpT → Option Bool)) : Option Bool := ((M9 K a0 a1).bind fun r1 => some (decide (0 ≤ r1)))
theorem A9 {K : Nat} {a0 : (List MpT)} {a1 : (MpT → Option Bool)} {r : Bool} (q0 : T6 K a0 a1 = some r) {H : FH} {w : World} {L : OL} {s0 : Value} {s1 : Value} (a3 : Y2 (W0 yT) H s0 a0) (a4 : FnQ Tryz.prog s1 (R.agg (W0 yT)) a1 H) (hS : St H w L) :
 Calls Tryz.prog 127 #[s0, s1] w (S3 (fun v G => R.bool.p G v r) H L) := by
 have Z2 := Sub.refl H
 refine X2 Tryz.func127 rfl Tryz.ntmps127 rfl ?_
 unfold T6 at q0
 refine Z3 (Z1 (Z5 (Value.bool false) rfl rfl (Z0 (Z3 (Z1 (Z4 (s0) rfl rfl (Z4 (s1) rfl rfl ?_)))))))
 obtain ⟨r1, a5, q0⟩ := bind_some q0
 refine X0 Tryz.call222 (T0 rfl rfl) rfl (Zl7 a5 a3 a4 hS) ?_
 rintro e1 w2 ⟨_, H1, rfl, a6, hS, rfl⟩
 refine ⟨_, rfl, ?_⟩
 have Z2 := Z2.trans a6
 refine Yb1 (k := .i64) (a := r1) (b := 0) rfl rfl rfl (Z5 (Value.bool (decide (0 ≤ r1))) rfl rfl (Z0 ?_))
 refine Y9 (vs := [Value.bool (decide (0 ≤ r1))]) Tryz.func127 ⟨rfl, trivial⟩ ?_
 have hz := Option.some.inj q0
 subst hz
 exact ⟨_, _, rfl, Z2, hS, rfl⟩
def Zo0 (K : Nat) (a0 : Int) : Option Bool := ((Zi5 K a0 1 10006).bind fun r1 => some r1)
theorem Yi3 {K : Nat} {a0 : Int} {r : Bool} (q0 : Zo0 K a0 = some r) {H : FH} {w : World} {L : OL} (hS : St H w L) :
 Calls Tryz.prog 150 #[vI a0] w (S3 (fun v G => R.bool.p G v r) H L) := by
 have Z2 := Sub.refl H
 refine X2 Tryz.func150 rfl Tryz.ntmps150 rfl ?_
 unfold Zo0 at q0
 refine Z3 (Z1 (Z5 (Value.bool false) rfl rfl (Z0 (Z3 (Z1 (Z4 (vI a0) rfl rfl ?_))))))
 obtain ⟨r1, a1, q0⟩ := bind_some q0
 refine X0 Tryz.call97 (F9 rfl rfl rfl) rfl (Zz4 a1  hS) ?_
 rintro e1 w2 ⟨_, H1, rfl, a3, hS, rfl⟩
 refine ⟨_, rfl, ?_⟩
 have Z2 := Z2.trans a3
 refine Z5 (Value.bool r1) rfl rfl (Z0 ?_)
 refine Y9 (vs := [Value.bool r1]) Tryz.func150 ⟨rfl, trivial⟩ ?_
 have hz := Option.some.inj q0
 subst hz
 exact ⟨_, _, rfl, Z2, hS, rfl⟩
end Go.Proofs.YtfodlhkoafhplaaGreat
