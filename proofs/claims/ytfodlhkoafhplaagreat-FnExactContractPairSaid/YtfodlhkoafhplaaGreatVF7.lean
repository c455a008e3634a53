/- Walks of functions: each computes its pure function, if that gives a value. -/
import Derived.Test.YtfodlhkoafhplaaGreatVTy
import Derived.Test.YtfodlhkoafhplaaGreatVF3
import Derived.Test.YtfodlhkoafhplaaGreatVF2
import Derived.Test.YtfodlhkoafhplaaGreatShelfP
import Derived.Test.YtfodlhkoafhplaaGreatVF1
namespace Go.Proofs.YtfodlhkoafhplaaGreat
open Go
set_option linter.unusedSimpArgs false
set_option linter.unusedVariables false
set_option maxRecDepth 100000
set_option maxHeartbeats 8000000
def G6 (K : Nat) (a0 : (List Int)) (a1 : (A8 × Int)) (a2 : MpT) : Nat → Int → MpT → Option (Ex MpT (MpT))
 | 0, _, _ => none
 | k + 1, a4, a6 => (if a4 < (a2.length : Int) then ((Zm2 K a0 a1.1 ((rd a2 a4).1)).bind fun a3 => (if a3.2 = 0 then G6 K a0 a1 a2 k (a4 + 1) a6 else ((Za1 K (IntKind.i64.wrap ((IntKind.i64.wrap (a3.2 * a1.2)) * (rd a2 a4).2))).bind fun b5 => (if a6.length + ([(a3.1, b5)]).length ≤ 1099511627776 then G6 K a0 a1 a2 k (a4 + 1) (a6 ++ [(a3.1, b5)]) else none)))) else some (.go a6))
def Zp3 (K : Nat) (a0 : (List Int)) (a1 : (A8 × Int)) (a2 : MpT) : Option MpT := ((G6 K a0 a1 a2 K 0 ([] : List (A8 × Int))).bind (Ex.elim (fun r => some r) (fun s => (fun (b2 : MpT) => some b2) s)))
theorem Yr7 {K : Nat} {a0 : (List Int)} {a1 : (A8 × Int)} {a2 : MpT} {r : MpT} (q0 : Zp3 K a0 a1 a2 = some r) {H : FH} {w : World} {L : OL} {s0 : Value} {s1 : Value} (b8 : Y1 (Y6 .i64) H s0 a0) (b3 : Y1 yT H s1 a2) (hS : St H w L) :
 Calls Tryz.prog 251 #[s0, vA (Z7 .u8 a1.1 ++ [vI a1.2]), vA ([s1])] w (T2 (fun v G => (R.agg (X6 yT)).p G v r) H L) := by
 have Z2 := Sub.refl H
 refine X3 Tryz.func251 rfl Tryz.ntmps251 rfl ?_
 unfold Zp3 at q0
 refine Z3 (Z0 ?_)
 refine S4 (v := vA (Z7 .u8 a1.1 ++ [vI a1.2])) (Z7 .u8 a1.1 ++ [vI a1.2]).toArray rfl rfl hS rfl ?_
 intro b1 w2 hS
 refine S4 (v := vA ([s1])) ([s1]).toArray rfl rfl hS rfl ?_
 intro b4 w5 hS
 refine V1 (z := vA ([vN])) ([vN]).toArray Zd2.zero rfl hS rfl ?_
 intro b7 w8 hS
 refine Z1 (Z3 (Z0 ?_))
 refine Q1 (vA ([vN])) Yi3 rfl ?_
 refine V1 (z := vA ([vN])) ([vN]).toArray Zd2.zero rfl hS rfl ?_
 intro c7 w11 hS
 refine W0 (v := vA ([vN])) (vs := ([vN]).toArray) (cs := ([vN]).toArray) T1 rfl rfl rfl hS rfl (T8 rfl) rfl ?_
 intro w13 hS
 refine Z1 (Z3 (Z3 (Z0 (Z5 (vI 0) rfl rfl (Z1 (Y8 ?_))))))
 have f5 : V0 yT 76 H (.slice none 0 0) [] [] := V0.nil _ _ _
 obtain ⟨f6, a9, f7⟩ := bind_some q0
 refine W5 (id := 0) (fun k f w => ∃ (a4 : Int) (a6 : MpT) (H1 : FH) (a7 : OL) (a5 : Value), G6 K a0 a1 a2 k a4 a6 = some f6 ∧ Sub H H1 ∧ St H1 w (a7 ++ ([(c7, cA ([a5]) 47)] ++ ([(b7, cA ([vN]) 47)] ++ ([(b4, cA ([s1]) 47)] ++ ([(b1, cA (Z7 .u8 a1.1 ++ [vI a1.2]) 76)] ++ L))))) ∧ 0 ≤ a4 ∧ V0 yT 76 H1 a5 a6 a7 ∧ Y1 (Y6 .i64) H1 s0 a0 ∧ Y1 yT H1 s1 a2 ∧ ev f (.tmp 0) = s0 ∧ ev f (.tmp 4) = vP b1 ∧ ev f (.tmp 5) = vP b4 ∧ ev f (.tmp 6) = vP b7 ∧ ev f (.tmp 7) = vP c7 ∧ ev f (.tmp 8) = vI a4) (fun f w => ∃ (b2 : MpT) (H1 : FH) (b6 : OL) (b0 : Value), f6 = .go b2 ∧ Sub H H1 ∧ St H1 w (b6 ++ ([(c7, cA ([b0]) 47)] ++ ([(b7, cA ([vN]) 47)] ++ ([(b4, cA ([s1]) 47)] ++ ([(b1, cA (Z7 .u8 a1.1 ++ [vI a1.2]) 76)] ++ L))))) ∧ V0 yT 76 H1 b0 b2 b6 ∧ Y1 yT H1 s1 a2 ∧ ev f (.tmp 6) = vP b7 ∧ ev f (.tmp 7) = vP c7) rfl ?_ ?_ K ?_ ?_
 rintro f w ⟨a4, a6, H1, a7, a5, a9, _⟩
 rw [G6] at a9; cases a9
 rintro k s2 s3 k2 m7 ⟨a4, a6, k5, a7, a5, a9, Z2, hS, m8, a8, b8, b3, d2, d3, c3, d4, d5, c4⟩
 rw [G6] at a9
 refine Z3 (Z3 (Z0 (Z4 (vI a4) (by exact c4) rfl (Y3 U4 (by exact c3) rfl ?_))))
 refine Y4 (s1) Q7 rfl (hS.get (mR (mR (mR mL)))) rfl rfl ?_
 have s4 := b3.bound
 refine W7 R5 rfl b3 rfl ?_
 refine V7 (k := .i64) (a := a4) (b := (a2.length : Int)) rfl rfl rfl (Z1 ?_)
 by_cases d7 : a4 < (a2.length : Int)
 rw [if_pos d7] at a9
 refine Y0 (bT d7 rfl) (Y7 (Z3 (Y8 (Z3 ?_))))
 obtain ⟨k3, k4, s5, E80, _, k6, e1, ⟨_, _, rfl, rfl, rfl⟩, k7⟩ := b3.elem (i := a4) (by omega) (by omega)
 obtain ⟨a3, h1, a9⟩ := bind_some a9
 refine U6 16 (P9 [(20, MP.eq (s0)), (21, MP.eq (vP b1)), (22, MP.eq (vA (Z7 .u8 a1.1))), (23, MP.eq (vP b4)), (24, MP.eq (s1)), (25, MP.eq (vI a4)), (26, MP.eq (Value.pointer (some ⟨k3, k4, none⟩))), (27, MP.eq (Value.pointer (some ⟨k3, k4 + 0, none⟩))), (28, MP.eq (vA (Z7 .u8 ((rd a2 a4).1)))), (29, MP.eq (Value.tuple #[vA (Z7 .u8 a3.1), vI a3.2])), (19, MP.eq (Value.tuple #[vA (Z7 .u8 a3.1), vI a3.2])), (30, MP.eq (vA (Z7 .u8 a3.1))), (31, MP.eq (vI a3.2)), (9, MP.box (cA (Z7 .u8 (fun _ => 0)) 70)), (10, MP.eq (vI a3.2))]) [Co.st 13 9 14 11 30 (Ye7 70)] mixed rfl (Yj3 (ns := [(13, 9, 14, 11, 30)]) rfl rfl) rfl hS (Z6 rfl ?_ (Z6 rfl ?_ (Z6 rfl ?_ (Z6 rfl ?_ (Z6 rfl ?_ (Z6 rfl ?_ (Z6 rfl ?_ (Z6 rfl ?_ (Z6 rfl ?_ (Z6 rfl ?_ (Z6 rfl ?_ (Z6 rfl ?_ (Z6 rfl ?_ (Z6 rfl ?_ (Yv4 rfl ?_ (Z6 rfl ?_ U8)))))))))))))))) ?_
 intro f16 w17 H18 X19 s6 hS k8 s7 hcq
 refine Z4 (s0) (evT (k8 0 rfl) d2) rfl ?_
 exact qn (.refl _) rfl hS rfl
 intro f25 w26 H27 X28 s8 hS k9 s9 hcq
 refine Y3 N1 (evT (k9 4 rfl) d3) rfl ?_
 exact qn (.refl _) rfl hS rfl
 intro f34 w35 H36 X37 t0 hS t1 l0 hcq
 refine V6 (Z7 .u8 a1.1) N6 (eM (l0 1 21 rfl rfl)) (hS.get (o := cA (Z7 .u8 a1.1 ++ [vI a1.2]) 76) (mR (mR (mR (mR (mR mL)))))) rfl (fun j hj => Zj8 ([]) (Z7 .u8 a1.1) (([vI a1.2])) j hj) rfl ?_
 exact qn (.refl _) rfl hS rfl
 intro f43 w44 H45 X46 t4 hS l1 t5 hcq
 refine Y3 U4 (evT (l1 5 rfl) c3) rfl ?_
 exact qn (.refl _) rfl hS rfl
 intro f52 w53 H54 X55 t6 hS t7 l2 hcq
 refine Y4 (s1) Q7 (eM (l2 3 23 rfl rfl)) (hS.get (mR (mR (mR (mR mL))))) rfl rfl ?_
 exact qn (.refl _) rfl hS rfl
 intro f61 w62 H63 X64 t8 hS l3 t9 hcq
 refine Z4 (vI a4) (evT (l3 8 rfl) c4) rfl ?_
 exact qn (.refl _) rfl hS rfl
 intro f70 w71 H72 X73 u0 hS u1 f8 hcq
 refine W3 R5 rfl (eM (f8 4 24 rfl rfl)) k6 (eM (f8 5 25 rfl rfl)) (by omega) (by omega) rfl ?_
 exact qn (.refl _) rfl hS rfl
 intro f81 w82 H83 X84 u2 hS u3 l4 hcq
 refine Y3 N1 (eM (l4 6 26 rfl rfl)) rfl ?_
 exact qn (.refl _) rfl hS rfl
 intro f90 w91 H92 X93 l5 hS u4 l6 hcq
 have e1 := l5.1 _ _ e1
 refine V6 (Z7 .u8 ((rd a2 a4).1)) N6 (eM (l6 7 27 rfl rfl)) (hS.froz _ _ e1) rfl (Zh1 ([]) (Z7 .u8 ((rd a2 a4).1)) (([vI ((rd a2 a4).2)])) k7 (Nat.le_of_ble_eq_true rfl)) rfl ?_
 exact qn (.refl _) rfl hS rfl
 intro f99 u5 u6 u7 h2 hS n1 d8 hcq
 have b8 := b8.mono h2
 refine Y9 Tryz.call282 (I6 (eM (d8 0 20 rfl rfl)) (eM (d8 2 22 rfl rfl)) (eM (d8 8 28 rfl rfl))) rfl (Yr1 h1 b8 hS) ?_
 rintro u8 u9 ⟨_, v0, rfl, h3, hS, ⟨m9, n0, rfl, ⟨_, rfl, rfl⟩, rfl⟩⟩
 refine ⟨_, rfl, ?_⟩
 exact qn h3 rfl hS rfl
 intro v1 v2 v3 v4 n2 hS n3 h4 hcq
 refine Z4 (Value.tuple #[vA (Z7 .u8 a3.1), vI a3.2]) (eM (h4 9 29 rfl rfl)) rfl ?_
 exact qn (.refl _) rfl hS rfl
 intro v5 v6 v7 v8 n4 hS n5 h5 hcq
 refine W9 (vA (Z7 .u8 a3.1)) (eM (h5 10 19 rfl rfl)) rfl rfl ?_
 exact qn (.refl _) rfl hS rfl
 intro v9 w0 w1 w3 n6 hS n7 h6 hcq
 refine W9 (vI a3.2) (eM (h6 10 19 rfl rfl)) rfl rfl ?_
 exact qn (.refl _) rfl hS rfl
 intro w4 w6 w7 w9 n8 hS n9 o0 hcq
 refine V1 (z := vA (Z7 .u8 (fun _ => 0))) (Z7 .u8 (fun _ => 0)).toArray Yi6.zero rfl hS rfl ?_
 intro x0 x1 hS
 exact qn (.refl _) rfl hS ⟨_, rfl⟩
 intro c2 l7 f9 l9 o1 hS o2 e7 hcq
 have Z2 := Sub.refl f9
 obtain ⟨g0, d1⟩ := e7 13 9 rfl rfl
 have d1 : c2 9 = vP g0 := d1
 have hS : St f9 l7 (Zo8 (cA (Z7 .u8 (fun _ => 0)) 70) (c2 9) ++ (l9 ++ (a7 ++ ([(c7, cA ([a5]) 47)] ++ ([(b7, cA ([vN]) 47)] ++ ([(b4, cA ([s1]) 47)] ++ ([(b1, cA (Z7 .u8 a1.1 ++ [vI a1.2]) 76)] ++ L))))))) := hS
 rw [d1] at hS
 have m0 : ev c2 (.tmp 9) = vP g0 := d1
 have g1 : ev c2 (.tmp 30) = vA (Z7 .u8 a3.1) := e7 11 30 rfl rfl
 refine W0 (v := vA (Z7 .u8 a3.1)) (vs := (Z7 .u8 a3.1).toArray) (cs := (Z7 .u8 (fun _ => 0)).toArray) N6 m0 g1 rfl hS rfl (S9 .u8 a3.1) rfl ?_
 intro x2 hS
 have m1 : c2 30 = vA (Z7 .u8 a3.1) := g1
 exact Z1 ⟨_, rfl, rfl, Z2, by show St _ _ (Zo8 (Ye7 70 (c2 30)) (c2 9) ++ _); rw [d1, m1]; exact hS, trivial⟩
 intro x3 x4 x5 x6 o3 hS o4 h7 hcq
 refine Z5 (vI a3.2) (eM (h7 12 31 rfl rfl)) rfl ?_
 exact qn (.refl _) rfl hS rfl
 intro c5 m2 g2 c8 hS c0 d9 hcq
 have hS : St g2 m2 ((Zo8 (Ye7 70 (c5 30)) (c5 9) ++ ([])) ++ (a7 ++ ([(c7, cA ([a5]) 47)] ++ ([(b7, cA ([vN]) 47)] ++ ([(b4, cA ([s1]) 47)] ++ ([(b1, cA (Z7 .u8 a1.1 ++ [vI a1.2]) 76)] ++ L)))))) := hS
 have Z2 := Z2.trans c8
 have b8 := b8.mono c8
 have b3 := b3.mono c8
 have a8 := a8.mono c8
 have g3 := evT (c0 0 rfl) d2
 have e2 := evT (c0 4 rfl) d3
 have e3 := evT (c0 5 rfl) c3
 have g4 := evT (c0 6 rfl) d4
 have e4 := evT (c0 7 rfl) d5
 have e5 := evT (c0 8 rfl) c4
 have g5 : ev c5 (.tmp 10) = vI a3.2 := d9 15 10 (by decide) rfl
 obtain ⟨g6, c6⟩ := d9 13 9 (by decide) rfl
 have c6 : c5 9 = vP g6 := c6
 rw [c6] at hS
 have c6 : ev c5 (.tmp 9) = _ := c6
 have m3 : c5 30 = vA (Z7 .u8 a3.1) := (eM (d9 11 30 (by decide) rfl))
 rw [m3] at hS
 refine Z1 (Z3 (Z0 (Z4 (vI a3.2) (by exact g5) rfl ?_)))
 refine J2 (k := .i64) (a := a3.2) (b := 0) rfl rfl rfl (Z1 ?_)
 by_cases c9 : a3.2 = 0
 rw [if_pos c9] at a9
 refine Z8 (bN c9 rfl) (Y7 (X2 (Z0 (Z4 (vI a4) (by exact e5) rfl ?_))))
 refine W8 (a4 + 1) rfl rfl (IntWalk.i64_in _ (by omega)) rfl (Z5 (vI (a4 + 1)) rfl rfl (Z1 ?_))
 have hS := St.dropA hS
 exact k2 _ _ ⟨(a4 + 1), a6, g2, a7, a5, a9, Z2, hS, (by omega), a8, b8, b3, g3, e2, e3, g4, e4, rfl⟩
 rw [if_neg c9] at a9
 refine Y0 (bO c9 rfl) ?_
 obtain ⟨g7, g8, o5, x7, _, h8, e0, ⟨_, _, rfl, rfl, rfl⟩, h9⟩ := b3.elem (i := a4) (by omega) (by omega)
 obtain ⟨b5, i0, a9⟩ := bind_some a9
 refine U6 17 (P9 [(34, MP.eq (vP c7)), (35, MP.eq (a5)), (36, MP.eq (vA (Z7 .u8 a3.1))), (37, MP.eq (vI a3.2)), (38, MP.eq (vQ b1 8)), (39, MP.eq (vI a1.2)), (40, MP.eq (vI (IntKind.i64.wrap (a3.2 * a1.2)))), (41, MP.eq (vP b4)), (42, MP.eq (s1)), (43, MP.eq (vI a4)), (44, MP.eq (Value.pointer (some ⟨g7, g8, none⟩))), (45, MP.eq (Value.pointer (some ⟨g7, g8 + 8, none⟩))), (46, MP.eq (vI ((rd a2 a4).2))), (47, MP.eq (vI (IntKind.i64.wrap ((IntKind.i64.wrap (a3.2 * a1.2)) * (rd a2 a4).2)))), (48, MP.eq (vI b5)), (49, MP.eq (vA (Z7 .u8 a3.1 ++ [vI b5]))), (50, MP.sl yT ([(a3.1, b5)]))]) [] mixed rfl rfl rfl hS (Z6 rfl ?_ (Z6 rfl ?_ (Z6 rfl ?_ (Z6 rfl ?_ (Z6 rfl ?_ (Z6 rfl ?_ (Z6 rfl ?_ (Z6 rfl ?_ (Z6 rfl ?_ (Z6 rfl ?_ (Z6 rfl ?_ (Z6 rfl ?_ (Z6 rfl ?_ (Z6 rfl ?_ (Z6 rfl ?_ (Z6 rfl ?_ (Z6 rfl ?_ U8))))))))))))))))) ?_
 intro x8 x9 y0 y1 o6 hS i1 o7 hcq
 refine Y3 U4 (evT (i1 7 rfl) e4) rfl ?_
 exact qn (.refl _) rfl hS rfl
 intro y2 y3 y4 y5 o8 hS o9 i2 hcq
 refine Y4 (a5) Q7 (eM (i2 0 34 rfl rfl)) (hS.get (mR (mR (mR mL)))) rfl rfl ?_
 exact qn (.refl _) rfl hS rfl
 intro y6 y7 y8 y9 p0 hS i3 p1 hcq
 refine W2 N6 (evT (i3 9 rfl) c6) (hS.get (mR mL)) rfl rfl ?_
 exact qn (.refl _) rfl hS rfl
 intro z0 z1 z2 z3 p2 hS i4 p3 hcq
 refine Z4 (vI a3.2) (evT (i4 10 rfl) g5) rfl ?_
 exact qn (.refl _) rfl hS rfl
 intro z4 z5 z6 z7 p4 hS i5 p5 hcq
 refine Y3 Zd9 (evT (i5 4 rfl) e2) rfl ?_
 exact qn (.refl _) rfl hS rfl
 intro z8 z9 a00 a01 p6 hS p7 i6 hcq
 refine Y4 (vI a1.2) ty2 (eM (i6 4 38 rfl rfl)) (hS.get (mR (mR (mR (mR (mR (mR mL))))))) rfl rfl ?_
 exact qn (.refl _) rfl hS rfl
 intro a02 a03 a04 a05 p8 hS p9 e8 hcq
 refine Zo2 (IntKind.i64.wrap (a3.2 * a1.2)) (eM (e8 3 37 rfl rfl)) (eM (e8 5 39 rfl rfl)) rfl rfl ?_
 exact qn (.refl _) rfl hS rfl
 intro a06 a07 a08 a09 q1 hS i7 q2 hcq
 refine Y3 U4 (evT (i7 5 rfl) e3) rfl ?_
 exact qn (.refl _) rfl hS rfl
 intro a10 a11 a12 a13 q3 hS q4 i8 hcq
 refine Y4 (s1) Q7 (eM (i8 7 41 rfl rfl)) (hS.get (mR (mR (mR (mR (mR mL)))))) rfl rfl ?_
 exact qn (.refl _) rfl hS rfl
 intro a14 a15 a16 a17 q5 hS i9 q6 hcq
 refine Z4 (vI a4) (evT (i9 8 rfl) e5) rfl ?_
 exact qn (.refl _) rfl hS rfl
 intro a18 a19 a20 a21 q7 hS q8 e9 hcq
 refine W3 R5 rfl (eM (e9 8 42 rfl rfl)) h8 (eM (e9 9 43 rfl rfl)) (by omega) (by omega) rfl ?_
 exact qn (.refl _) rfl hS rfl
 intro a22 a23 a24 a25 q9 hS r0 j0 hcq
 refine Y3 Zd9 (eM (j0 10 44 rfl rfl)) rfl ?_
 exact qn (.refl _) rfl hS rfl
 intro a26 a27 a28 a29 j1 hS r1 j2 hcq
 have e0 := j1.1 _ _ e0
 refine Y4 (vI ((rd a2 a4).2)) ty2 (eM (j2 11 45 rfl rfl)) (hS.froz _ _ e0) (h9 8 (show 8 < 9 by decide)) rfl ?_
 exact qn (.refl _) rfl hS rfl
 intro a30 a31 a32 a33 r2 hS r3 f0 hcq
 refine Zo2 (IntKind.i64.wrap ((IntKind.i64.wrap (a3.2 * a1.2)) * (rd a2 a4).2)) (eM (f0 6 40 rfl rfl)) (eM (f0 12 46 rfl rfl)) rfl rfl ?_
 exact qn (.refl _) rfl hS rfl
 intro a34 a35 a36 a37 r4 hS r5 j3 hcq
 refine Y9 Tryz.call217 (R0 (eM (j3 13 47 rfl rfl))) rfl (Zc2 i0  hS) ?_
 rintro a38 a39 ⟨_, a40, rfl, j4, hS, rfl⟩
 refine ⟨_, rfl, ?_⟩
 exact qn j4 rfl hS rfl
 intro a41 a42 a43 a44 r6 hS r7 f1 hcq
 refine Zt9 (Z7 .u8 a3.1 ++ [vI b5]) Xn4 (Ya6 (eM (f1 2 36 rfl rfl)) (eM (f1 14 48 rfl rfl))) (K5 rfl rfl rfl (Nat.le_of_ble_eq_true rfl) (K5 rfl rfl rfl (Nat.le_of_ble_eq_true rfl) (Zp6 rfl))) rfl ?_
 exact qn (.refl _) rfl hS rfl
 intro a45 a46 a47 a48 r8 hS r9 j5 hcq
 refine Zd8 (τ := yT) R5 Yb1 rfl [vA (Z7 .u8 a3.1 ++ [vI b5])] [(a3.1, b5)] rfl rfl (Za3 (eM (j5 15 49 rfl rfl))) (Zn7 ⟨_, _, rfl, rfl, rfl⟩) (by decide) (by decide) hS rfl ?_
 intro a49 a50 a51 j6 hS j7
 exact qn j6 rfl hS j7
 intro a52 m4 g9 d0 hS c1 f2 hcq
 have hS : St g9 m4 ([(g6, cA (Z7 .u8 a3.1) 70)] ++ (a7 ++ ([(c7, cA ([a5]) 47)] ++ ([(b7, cA ([vN]) 47)] ++ ([(b4, cA ([s1]) 47)] ++ ([(b1, cA (Z7 .u8 a1.1 ++ [vI a1.2]) 76)] ++ L)))))) := hS
 have Z2 := Z2.trans d0
 have b8 := b8.mono d0
 have b3 := b3.mono d0
 have a8 := a8.mono d0
 have h0 := evT (c1 7 rfl) e4
 obtain ⟨a53, m5, j8⟩ := gvS (f2 16 50 (by decide) rfl)
 obtain ⟨j9, a9⟩ := gd a9
 have hS := hS.perm U1
 refine F4 (τ := yT) Xg3 rfl (by exact (eM (f2 1 35 (by decide) rfl))) (by exact m5) a8 hS j8 j9 rfl ?_
 intro e6 a54 m6 f3 hS
 have hS := hS.perm U1.symm
 refine Y3 U4 (by exact h0) rfl ?_
 have hS := hS.perm Zb7
 refine Zg5 (v := e6) (cs := ([a5]).toArray) (cs' := ([e6]).toArray) Q7 rfl rfl hS f3.isOne rfl (Nat.le_of_ble_eq_true rfl) rfl ?_
 intro a55 hS
 have hS := hS.perm Zb7.symm
 refine Z1 (X2 (Z0 (Z4 (vI a4) (by exact (evT (c1 8 rfl) e5)) rfl ?_)))
 refine W8 (a4 + 1) rfl rfl (IntWalk.i64_in _ (by omega)) rfl (Z5 (vI (a4 + 1)) rfl rfl (Z1 ?_))
 have hS := St.dropA hS
 exact k2 _ _ ⟨(a4 + 1), (a6 ++ [(a3.1, b5)]), g9, m6, e6, a9, Z2, hS, (by omega), f3, b8, b3, (evT (c1 0 rfl) g3), (evT (c1 4 rfl) e2), (evT (c1 5 rfl) e3), (evT (c1 6 rfl) g4), h0, rfl⟩
 rw [if_neg d7] at a9
 refine Z8 (bF d7 rfl) ?_
 refine W4 rfl ?_
 have hz := Option.some.inj a9
 subst hz
 exact m7 _ _ ⟨a6, k5, a7, a5, rfl, Z2, hS, a8, b3, d4, d5⟩
 exact ⟨0, ([] : List (A8 × Int)), H, ([]), (vN), a9, Z2, hS, (by omega), f5, b8, b3, rfl, rfl, rfl, rfl, rfl, rfl⟩
 rintro a56 a57 ⟨b2, a58, b6, b0, rfl, Z2, hS, b9, b3, d6, f4⟩
 dsimp only [Ex.elim] at f7
 refine Z3 (Z0 ?_)
 refine W2 T1 (by exact f4) (hS.get (mR mL)) rfl rfl ?_
 have hS := hS.perm Zb7
 refine W0 (v := vA ([b0])) (vs := ([b0]).toArray) (cs := ([vN]).toArray) T1 (by exact d6) rfl rfl hS rfl (T8 b9.isOne) rfl ?_
 intro a59 hS
 have hS := hS.perm Zb7.symm
 refine Z1 ?_
 refine X0 (vs := [vA ([b0])]) Tryz.func251 ⟨⟨_, (by exact d6), U5 T1 (hS.get (mR (mR mL))) rfl⟩, trivial⟩ ?_
 obtain ⟨a60, k0, hS, k1⟩ := b9.freeze hS
 have Z2 := Z2.trans k0
 have hz := Option.some.inj f7
 subst hz
 exact ⟨_, _, rfl, Z2, (St.dropA (St.dropA (St.dropA (St.dropA hS)))), ⟨_, rfl, ⟨_, rfl, k1⟩⟩⟩
section
open Go Go.Sort Go.RowKit Go.Shelf Go.Lib
abbrev Zx0 := {a : A8 // ∀ i, 0 ≤ a i ∧ a i ≤ 2305843009213693952}
instance : Inhabited Zx0 := ⟨⟨fun _ => 0, fun _ => by simp⟩⟩
def Yy3 (a b : A8) : Int :=
 if a 0 = b 0 then if a 1 = b 1 then if a 2 = b 2 then if a 3 = b 3 then if a 4 = b 4 then if a 5 = b 5 then if a 6 = b 6 then if a 7 = b 7 then 0
  else IntKind.i64.wrap (b 7 - a 7) else IntKind.i64.wrap (b 6 - a 6) else IntKind.i64.wrap (b 5 - a 5) else IntKind.i64.wrap (b 4 - a 4) else IntKind.i64.wrap (b 3 - a 3)
  else IntKind.i64.wrap (b 2 - a 2) else IntKind.i64.wrap (b 1 - a 1) else IntKind.i64.wrap (b 0 - a 0)
theorem Wt1 (a b : A8) : B8 9 a b = some (Yy3 a b) := by
 have e : ∀ (m : A8) (j : Nat) (h : j < 8), Y5 m (j : Int) = m ⟨j, h⟩ := fun m j h => by unfold Y5; simp [h]
 have e0 := fun m => e m 0 (by decide)
 have e1 := fun m => e m 1 (by decide)
 have e2 := fun m => e m 2 (by decide)
 have e3 := fun m => e m 3 (by decide)
 have e4 := fun m => e m 4 (by decide)
 have e5 := fun m => e m 5 (by decide)
 have e6 := fun m => e m 6 (by decide)
 have e7 := fun m => e m 7 (by decide)
 simp only [Int.ofNat_zero, Int.natCast_one, Int.cast_ofNat_Int] at e0 e1 e2 e3 e4 e5 e6 e7
 unfold B8 Yy3
 have z : ∀ (j k : Int), j + 1 = k → j + 1 = k := fun _ _ h => h
 simp only [P7, show (0 : Int) + 1 = 1 from rfl, show (1 : Int) + 1 = 2 from rfl, show (2 : Int) + 1 = 3 from rfl, show (3 : Int) + 1 = 4 from rfl, show (4 : Int) + 1 = 5 from rfl, show (5 : Int) + 1 = 6 from rfl,
  show (6 : Int) + 1 = 7 from rfl, show (7 : Int) + 1 = 8 from rfl, show (0 : Int) < 8 from by decide, show (1 : Int) < 8 from by decide, show (2 : Int) < 8 from by decide, show (3 : Int) < 8 from by decide, show (4 : Int) < 8 from by decide,
  show (5 : Int) < 8 from by decide, show (6 : Int) < 8 from by decide, show (7 : Int) < 8 from by decide, show ¬ (8 : Int) < 8 from by decide, if_true, if_false, e0, e1, e2, e3, e4, e5, e6, e7]
 simp only [show (⟨0, by decide⟩ : Fin 8) = 0 from rfl, show (⟨1, by decide⟩ : Fin 8) = 1 from rfl, show (⟨2, by decide⟩ : Fin 8) = 2 from rfl, show (⟨3, by decide⟩ : Fin 8) = 3 from rfl, show (⟨4, by decide⟩ : Fin 8) = 4 from rfl,
  show (⟨5, by decide⟩ : Fin 8) = 5 from rfl, show (⟨6, by decide⟩ : Fin 8) = 6 from rfl, show (⟨7, by decide⟩ : Fin 8) = 7 from rfl]
 by_cases h0 : a 0 = b 0
 by_cases h1 : a 1 = b 1
 by_cases h2 : a 2 = b 2
 by_cases h3 : a 3 = b 3
 by_cases h4 : a 4 = b 4
 by_cases h5 : a 5 = b 5
 by_cases h6 : a 6 = b 6
 by_cases h7 : a 7 = b 7
 simp [h0, h1, h2, h3, h4, h5, h6, h7, Ex.elim]
 simp [h0, h1, h2, h3, h4, h5, h6, h7, Ex.elim]
 simp [h0, h1, h2, h3, h4, h5, h6, Ex.elim]
 simp [h0, h1, h2, h3, h4, h5, Ex.elim]
 simp [h0, h1, h2, h3, h4, Ex.elim]
 simp [h0, h1, h2, h3, Ex.elim]
 simp [h0, h1, h2, Ex.elim]
 simp [h0, h1, Ex.elim]
 simp [h0, Ex.elim]
theorem Wl9 {x y : Int} (hx : 0 ≤ x ∧ x ≤ 2305843009213693952) (hy : 0 ≤ y ∧ y ≤ 2305843009213693952) : decide (IntKind.i64.wrap (y - x) < 0) = decide (y < x) := by
 rw [IntWalk.i64_in _ (by omega)]
 simp only [decide_eq_decide]
 omega
theorem Xc0 (x y : Zx0) : ltOf (fun x y : Zx0 => Yy3 x.1 y.1) x y = bef x.1 y.1 := by
 unfold ltOf Yy3 bef l8
 have hw : ∀ i, decide (IntKind.i64.wrap (y.1 i - x.1 i) < 0) = decide (y.1 i < x.1 i) := fun i => Wl9 (x.2 i) (y.2 i)
 simp only [Zk2]
 by_cases h0 : x.1 0 = y.1 0
 by_cases h1 : x.1 1 = y.1 1
 by_cases h2 : x.1 2 = y.1 2
 by_cases h3 : x.1 3 = y.1 3
 by_cases h4 : x.1 4 = y.1 4
 by_cases h5 : x.1 5 = y.1 5
 by_cases h6 : x.1 6 = y.1 6
 by_cases h7 : x.1 7 = y.1 7
 simp [h0, h1, h2, h3, h4, h5, h6, h7]
 simp only [h0, h1, h2, h3, h4, h5, h6, if_true, if_neg h7]; exact hw 7
 simp only [h0, h1, h2, h3, h4, h5, if_true, if_neg h6]; exact hw 6
 simp only [h0, h1, h2, h3, h4, if_true, if_neg h5]; exact hw 5
 simp only [h0, h1, h2, h3, if_true, if_neg h4]; exact hw 4
 simp only [h0, h1, h2, if_true, if_neg h3]; exact hw 3
 simp only [h0, h1, if_true, if_neg h2]; exact hw 2
 simp only [h0, if_true, if_neg h1]; exact hw 1
 simp only [if_neg h0]; exact hw 0
theorem Wv0 : SWO (ltOf fun x y : Zx0 => Yy3 x.1 y.1) where
 irrefl x := by rw [Xc0]; exact Zz1 _
 trans x y z h1 h2 := by rw [Xc0] at *; exact Zs2 h1 h2
 ntrans x y z h1 h2 := by
  rw [Xc0] at *
  cases h : bef x.1 z.1 with
  | false => rfl
  | true =>
   by_cases exy : x.1 = y.1
   rw [exy] at h; rw [h] at h2; cases h2
   have hyx : bef y.1 x.1 = true := (Yd4 exy).resolve_left (by rw [h1]; simp)
   rw [Zs2 hyx h] at h2; cases h2
/-- a world in which all is frozen; what comes behind it -/
def FH.all (W : World) : FH := ⟨fun b => W.heap[b]?, fun _ => none, some (W.tape, W.os, W.output, W.drawn, W.heap.size)⟩
theorem St.all (W : World) : St (FH.all W) W [] := ⟨fun _ _ h => h, fun _ _ h => (by cases h), fun t h => (by cases h; exact ⟨rfl, rfl, rfl, Nat.le_refl _⟩), fun b o h hl => (by
 have h : W.heap[b]? = some o := h
 have hl : W.heap.size ≤ b := hl
 rw [Array.getElem?_eq_none hl] at h; cases h), fun _ h => (by cases h), List.nodup_nil, fun _ h => (by cases h)⟩
theorem Wj6 {W w' : World} {H' : FH} (hs : Sub (FH.all W) H') (hS : St H' w' []) : ∃ q os, w' = grow (W.drewN q) os := by
 obtain ⟨h1, h2, h3, h4⟩ := hS.rest _ (hs.2.2.trans rfl)
 have hsz : W.heap.size ≤ w'.heap.size := by
  by_cases h0 : W.heap.size = 0
  omega
  have hl : W.heap[W.heap.size - 1]? = some W.heap[W.heap.size - 1] := by simp
  have := Zf1 (hS.froz _ _ (hs.1 _ _ hl))
  omega
 refine ⟨w'.drawn - W.drawn, w'.heap.extract W.heap.size w'.heap.size, ?_⟩
 have hh : w'.heap = W.heap ++ w'.heap.extract W.heap.size w'.heap.size := by
  apply Array.ext_getElem?
  intro i
  rw [Array.getElem?_append]
  split
  rename_i hi
  have hl : W.heap[i]? = some W.heap[i] := by simp [hi]
  rw [hl]
  exact hS.froz _ _ (hs.1 _ _ hl)
  rename_i hi
  rw [Array.getElem?_extract]
  by_cases hi2 : i < w'.heap.size
  rw [if_pos (by omega)]
  congr 1; omega
  rw [if_neg (by omega)]
  simp; omega
 obtain ⟨hp, tp, dr, os, out⟩ := w'
 simp only at h1 h2 h3 h4 hh hsz ⊢
 unfold grow World.drewN
 simp only
 congr 1
 omega
theorem Wq7 (blk off size : Nat) (w : World) : CmpLays Tryz.prog 221 #[] (fun x : Zx0 => Z7 .i64 x.1) 8 (fun x y => Yy3 x.1 y.1) blk off size w := by
 intro m os dk hd x y
 have h := Zw9 (Wt1 x.1 y.1) (St.all (sortWorldK (fun x : Zx0 => Z7 .i64 x.1) 8 w blk off m dk os))
 refine h.mono ?_
 rintro e w' ⟨v, H', rfl, hs, hS, hv⟩
 exact ⟨congrArg Ending.returned hv, Wj6 hs hS⟩
theorem St.ahead {H : FH} {w : World} {L : OL} (h : St H w L) (n : Nat) : St H (Sort.ahead w n) L :=
 ⟨h.froz, h.memo, fun t ht => (let ⟨a, b, c, d⟩ := h.rest t ht; ⟨a, b, c, Nat.le_trans d (Nat.le_add_right _ _)⟩), h.nofz, h.own, h.nodup, h.apart⟩
theorem St.grown {H : FH} {w : World} {L : OL} (h : St H w L) (os : Array Obj) : St H (grow w os) L := by
 have hlt : ∀ b o', w.heap[b]? = some o' → (grow w os).heap[b]? = some o' := fun b o' hb => by
  have := Zf1 hb
  show (w.heap ++ os)[b]? = some o'
  rw [Array.getElem?_append_left this]; exact hb
 exact ⟨fun b o hb => hlt b o (h.froz b o hb), fun b I hb => (let ⟨h1, h2, o, h3, h4⟩ := h.memo b I hb; ⟨h1, h2, o, hlt _ _ h3, h4⟩), h.rest, h.nofz, fun x hx => hlt _ _ (h.own x hx), h.nodup, h.apart⟩
theorem St.mapBlock {H : FH} {w : World} {L : OL} {b : Nat} {cs : Array Value} {E : TypeId} (h : St H w ([(b, .cells cs E)] ++ L)) (f : Array Value → Array Value) : St H (Sort.mapBlock w b f) ([(b, .cells (f cs) E)] ++ L) := by
 have hw : w.heap[b]? = some (.cells cs E) := St.hd h
 have e : Sort.mapBlock w b f = { w with heap := w.heap.setIfInBounds b (.cells (f cs) E) } := by
  unfold Sort.mapBlock
  congr 1
  apply Array.ext_getElem?
  intro k
  rw [Array.getElem?_modify, Array.getElem?_setIfInBounds]
  by_cases hk : b = k
  subst hk
  have := Zf1 hw
  rw [hw]
  simp [this, onCells]
  simp [hk]
 rw [e]
 exact St.put h _
theorem Wr1 {xs : List A8} (hb : ∀ a, a ∈ xs → ∀ i, 0 ≤ a i ∧ a i ≤ 2305843009213693952) : ∃ ks : List Zx0, ks.map Subtype.val = xs := by
 induction xs with
 | nil => exact ⟨[], rfl⟩
 | cons a xs ih =>
  obtain ⟨ks, rfl⟩ := ih (fun b h => hb b (List.mem_cons_of_mem _ h))
  exact ⟨⟨a, hb a (List.mem_cons_self ..)⟩ :: ks, rfl⟩
theorem Wi3 (ks : List Zx0) (t : Nat) (h : t < ks.length * 8) : (flatK (fun x : Zx0 => Z7 .i64 x.1) 8 ks.toArray)[t]! = (Z7 .i64 (ks[t / 8]!).1)[t % 8]! := by
 rw [get_flatK _ _ _ _ (by simpa using h)]
 simp
theorem Ws1 {H : FH} {w : World} {L : OL} {b c : Nat} {cs : Array Value} {xs : List A8} (hl : xs.length ≤ c) (hc : c ≤ maxLen) (hcs : cs.size = c * 8)
 (hx : ∀ i x, xs[i]? = some x → ∀ j, j < 8 → cs[i * 8 + j]? = (Z7 .i64 x)[j]?) (hS : St H w ([(b, .cells cs 188)] ++ L))
 (hb : ∀ a, a ∈ xs → ∀ i, 0 ≤ a i ∧ a i ≤ 2305843009213693952) (hlen : xs.length ≤ 1099511627776) (hnd : xs.Nodup) :
 Calls Tryz.prog 253 #[.slice (some ⟨b, 0, none⟩) xs.length c, .func (.func 221) #[] #[]] w (fun e w' => e = .returned (.tuple #[]) ∧ ∃ ys C', ys.Perm xs ∧ ys.Pairwise (fun p q => bef p q = true) ∧ St H w' (C' ++ L) ∧
  V0 (Zr5 .i64) 188 H (.slice (some ⟨b, 0, none⟩) xs.length c) ys C') := by
 obtain ⟨ks, rfl⟩ := Wr1 hb
 have hw : w.heap[b]? = some (.cells cs 188) := St.hd hS
 have hget : ∀ (t : Nat), t < ks.length * 8 → cs[t]? = some ((flatK (fun x : Zx0 => Z7 .i64 x.1) 8 ks.toArray)[t]!) := by
  intro t ht
  have h8 : t / 8 < ks.length := by omega
  have := hx (t / 8) (ks[t / 8]).1 (by simp [h8]) (t % 8) (Nat.mod_lt _ (by decide))
  rw [show t / 8 * 8 + t % 8 = t by omega] at this
  rw [this, Wi3 ks t ht]
  have he : (Z7 .i64 (ks[t / 8]).1).length = 8 := rfl
  have h9 : t % 8 < (Z7 .i64 (ks[t / 8]).1).length := by rw [he]; exact Nat.mod_lt _ (by decide)
  rw [getElem!_pos ks _ h8, List.getElem?_eq_getElem h9, getElem!_pos (Z7 .i64 (ks[t / 8]).1) _ h9]
 have hH : HoldsK (fun x : Zx0 => Z7 .i64 x.1) 8 w b 0 ks.toArray := by
  intro j hj
  rw [size_flatK] at hj
  have hj' : j < ks.length * 8 := by simpa using hj
  refine ⟨?_, ?_⟩
  rw [World.cell?, hw]
  simp only [Nat.zero_add]
  rw [hget j hj']; rfl
  simp [World.frozen?, hw]
 have hcall := AnyQ.slices_SortFunc Tryz.sortP 8 Tryz.isAgg188 Tryz.sizeOf188 (fun x : Zx0 => Z7 .i64 x.1) (fun _ => rfl) (fun x v hv => S9 _ _ v hv) (fun x y => Yy3 x.1 y.1) Wv0 221 #[] b 0 c ks.toArray w Tryz.call221
  (Wq7 b 0 ks.toArray.size w) hH (Zf1 hw) (by simp at hlen ⊢; omega)
 change Calls Tryz.prog 253 _ _ _ at hcall
 simp only [List.size_toArray, List.length_map] at hcall ⊢
 refine hcall.mono ?_
 rintro e w' ⟨rfl, d', n, os, hp, hs, rfl⟩
 have hsz : d'.size = ks.length := by have := hp.1; simpa using this
 have hperm : d'.toList.Perm ks := by
  have := hp.2.2
  rw [Array.extract_eq_self_of_le (by omega), Array.extract_eq_self_of_le (by simp)] at this
  simpa using this
 have hF : (flatK (fun x : Zx0 => Z7 .i64 x.1) 8 d').size = ks.length * 8 := by rw [size_flatK, hsz]
 refine ⟨rfl, d'.toList.map Subtype.val, [(b, .cells (putCells id 0 (flatK (fun x : Zx0 => Z7 .i64 x.1) 8 d') cs) 188)], hperm.map _, ?_, ?_, .inr ⟨b, c, _, ?_, ?_, hc, ?_, rfl, ?_⟩⟩
 rw [List.pairwise_map, List.pairwise_iff_getElem]
 intro i j hi hj hij
 have hi' : i < d'.size := by simpa using hi
 have hj' : j < d'.size := by simpa using hj
 have := hs i j (Nat.zero_le _) hij (by simp at hj ⊢; omega)
 rw [Xc0, getElem!_pos d' j hj', getElem!_pos d' i hi'] at this
 simp only [Array.getElem_toList]
 refine (Yd4 ?_).resolve_right (by rw [this]; simp)
 intro e
 have hnd' : (d'.toList.map Subtype.val).Nodup := (hperm.map _).nodup_iff.2 hnd
 have := (List.nodup_iff_pairwise_ne.1 hnd')
 rw [List.pairwise_map, List.pairwise_iff_getElem] at this
 exact this i j hi hj hij (by simpa using e)
 have h1 := (hS.ahead n).mapBlock (putCells id 0 (flatK (fun x : Zx0 => Z7 .i64 x.1) 8 d'))
 exact h1.grown os
 simp [hsz]
 simp [hsz]; simpa using hl
 simp only [putCells, Array.size_mapIdx]
 exact hcs
 intro i x hix
 refine ⟨_, rfl, fun j hj => ?_⟩
 have hj : j < 8 := hj
 have hi : i < d'.size := by
  rcases Nat.lt_or_ge i d'.size with h | h
  exact h
  rw [List.getElem?_eq_none (by simpa using h)] at hix; cases hix
 have hxv : x = d'[i].1 := by
  rw [List.getElem?_map] at hix
  simp [hi] at hix
  exact hix.symm
 subst hxv
 show (putCells id 0 (flatK (fun x : Zx0 => Z7 .i64 x.1) 8 d') cs)[i * 8 + j]? = _
 have ht : i * 8 + j < ks.length * 8 := by omega
 have hcl : i * 8 + j < cs.size := by rw [hcs]; simp at hl; omega
 simp only [putCells, Array.getElem?_mapIdx]
 rw [Array.getElem?_eq_getElem hcl]
 simp only [Option.map_some]
 rw [if_pos (by rw [hF]; omega), Nat.sub_zero, get_flatK _ _ _ _ (by rw [hsz]; exact ht)]
 rw [show (i * 8 + j) / 8 = i by omega, show (i * 8 + j) % 8 = j by omega, getElem!_pos d' _ hi]
 have h9 : j < (Z7 .i64 d'[i].1).length := hj
 rw [getElem!_pos (Z7 .i64 d'[i].1) j h9, List.getElem?_eq_getElem h9]; rfl
end
def Zd5 (K : Nat) (a0 : MpT) : Nat → Int → MpT → Option (Ex MpT (MpT))
 | 0, _, _ => none
 | k + 1, a1, a3 => (if a1 < (a0.length : Int) then ((Zf5 K ((rd a0 a1).1)).bind fun b7 => Zd5 K a0 k (a1 + 1) (G0 a3 b7 ((rd a0 a1).2))) else some (.go a3))
def Zg3 (K : Nat) (a0 : MpT) : Option MpT := ((Zd5 K a0 K 0 ([] : MpT)).bind (Ex.elim (fun r => some r) (fun s => (fun (a7 : MpT) => some a7) s)))
theorem Zp5 {K : Nat} {a0 : MpT} {r : MpT} (q0 : Zg3 K a0 = some r) {H : FH} {w : World} {L : OL} {s0 : Value} (a8 : Y1 yT H s0 a0) (hS : St H w L) :
 Calls Tryz.prog 90 #[vA ([s0])] w (Yp4 .i64 r H L) := by
 have Z2 := Sub.refl H
 refine X3 Tryz.func90 rfl Tryz.ntmps90 rfl ?_
 unfold Zg3 at q0
 refine Z3 (Z0 ?_)
 refine S4 (v := vA ([s0])) ([s0]).toArray rfl rfl hS rfl ?_
 intro b1 w2 hS
 refine Z5 (Value.map none) rfl rfl (Z1 (Z3 (Z0 ?_)))
 refine Zj4 (k := .i64) hS rfl ?_
 intro m4 w5 C6 e0 hS
 refine Z5 (m4) rfl rfl (Z1 (Z3 (Z3 (Z0 (Y3 U4 rfl rfl ?_)))))
 refine Y4 (s0) Q7 rfl (hS.get (mR mL)) rfl rfl ?_
 have g7 := a8.bound
 refine W7 R5 rfl a8 rfl (Z4 (vI 0) rfl rfl (Z1 (Y8 ?_)))
 obtain ⟨c3, a5, c4⟩ := bind_some q0
 refine W5 (id := 0) (fun k f w => ∃ (a1 : Int) (a3 : MpT) (H1 : FH) (a4 : OL), Zd5 K a0 k a1 a3 = some c3 ∧ Sub H H1 ∧ St H1 w (a4 ++ ([(b1, cA ([s0]) 47)] ++ L)) ∧ 0 ≤ a1 ∧ Q4 .i64 m4 a3 a4 ∧ Y1 yT H1 s0 a0 ∧ ev f (.tmp 3) = m4 ∧ ev f (.tmp 8) = s0 ∧ ev f (.tmp 9) = vI (a0.length : Int) ∧ ev f (.tmp 10) = vI a1) (fun f w => ∃ (a7 : MpT) (H1 : FH) (a9 : OL), c3 = .go a7 ∧ Sub H H1 ∧ St H1 w (a9 ++ ([(b1, cA ([s0]) 47)] ++ L)) ∧ Q4 .i64 m4 a7 a9 ∧ Y1 yT H1 s0 a0 ∧ ev f (.tmp 3) = m4) rfl ?_ ?_ K ?_ ?_
 rintro f w ⟨a1, a3, H1, a4, a5, _⟩
 rw [Zd5] at a5; cases a5
 rintro k e9 f0 e1 e2 ⟨a1, a3, c6, a4, a5, Z2, hS, d9, a6, a8, b2, b3, b4, b0⟩
 rw [Zd5] at a5
 refine Z3 (Z0 ?_)
 refine V7 (k := .i64) (a := a1) (b := (a0.length : Int)) (by exact b0) (by exact b4) rfl (Z1 (Z3 ?_))
 by_cases b5 : a1 < (a0.length : Int)
 rw [if_pos b5] at a5
 refine Y0 (bT b5 rfl) (Y7 (Z3 (Y8 (Z3 (Z0 ?_)))))
 obtain ⟨g8, g9, f1, h0, _, c7, c8, ⟨_, _, rfl, rfl, rfl⟩, c9⟩ := a8.elem (i := a1) (by omega) (by omega)
 refine W3 R5 rfl (by exact b3) c7 (by exact b0) (by omega) (by omega) rfl ?_
 refine V6 (Z7 .u8 ((rd a0 a1).1) ++ [vI ((rd a0 a1).2)]) Zu2 rfl (hS.froz _ _ c8) rfl c9 rfl ?_
 refine V1 (z := vA (Z7 .u8 (fun _ => 0) ++ [vI 0])) (Z7 .u8 (fun _ => 0) ++ [vI 0]).toArray Yb1.zero rfl hS rfl ?_
 intro b8 h1 hS
 refine W0 (v := vA (Z7 .u8 ((rd a0 a1).1) ++ [vI ((rd a0 a1).2)])) (vs := (Z7 .u8 ((rd a0 a1).1) ++ [vI ((rd a0 a1).2)]).toArray) (cs := (Z7 .u8 (fun _ => 0) ++ [vI 0]).toArray) Zu2 rfl rfl rfl hS rfl (L9 (S9 .u8 ((rd a0 a1).1)) (T8 rfl)) rfl ?_
 intro h2 hS
 refine Z1 ?_
 obtain ⟨b7, d0, a5⟩ := bind_some a5
 refine U6 6 (P9 [(14, MP.eq (m4)), (15, MP.eq (vP b8)), (16, MP.eq (vA (Z7 .u8 ((rd a0 a1).1)))), (17, MP.eq (vA (Z7 .i64 b7))), (18, MP.eq (vQ b8 8)), (19, MP.eq (vI ((rd a0 a1).2)))]) [] mixed rfl rfl rfl hS (Z6 rfl ?_ (Z6 rfl ?_ (Z6 rfl ?_ (Z6 rfl ?_ (Z6 rfl ?_ (Z6 rfl ?_ U8)))))) ?_
 intro h3 h4 h5 h6 f2 hS d1 f3 hcq
 refine Z4 (m4) (evT (d1 3 rfl) b2) rfl ?_
 exact qn (.refl _) rfl hS rfl
 intro e3 h7 h8 h9 f4 hS d2 f5 hcq
 have e4 : ev e3 (.tmp 5) = vP b8 := Eq.trans (d2 5 rfl) rfl
 refine Y3 N1 e4 rfl ?_
 exact qn (.refl _) rfl hS rfl
 intro i0 i1 i2 i3 f6 hS f7 d3 hcq
 refine V6 (Z7 .u8 ((rd a0 a1).1)) N6 (eM (d3 1 15 rfl rfl)) (hS.get (o := cA (Z7 .u8 ((rd a0 a1).1) ++ [vI ((rd a0 a1).2)]) 76) (mR mL)) rfl (fun j hj => Zj8 ([]) (Z7 .u8 ((rd a0 a1).1)) (([vI ((rd a0 a1).2)])) j hj) rfl ?_
 exact qn (.refl _) rfl hS rfl
 intro i4 i5 i6 i7 f8 hS f9 d4 hcq
 refine Y9 Tryz.call176 (R0 (eM (d4 2 16 rfl rfl))) rfl (Zq1 d0  hS) ?_
 rintro i8 i9 ⟨j0, j1, rfl, d5, hS, ⟨_, rfl, rfl⟩⟩
 refine ⟨_, rfl, ?_⟩
 exact qn d5 rfl hS rfl
 intro e5 j2 j3 j4 g0 hS d6 g1 hcq
 have e6 : ev e5 (.tmp 5) = vP b8 := Eq.trans (d6 5 rfl) rfl
 refine Y3 Zd9 e6 rfl ?_
 exact qn (.refl _) rfl hS rfl
 intro j5 j6 j7 j8 g2 hS g3 d7 hcq
 refine Y4 (vI ((rd a0 a1).2)) ty2 (eM (d7 4 18 rfl rfl)) (hS.get (mR mL)) rfl rfl ?_
 exact qn (.refl _) rfl hS rfl
 intro j9 e7 c5 c0 hS b6 c1 hcq
 have hS : St c5 e7 ([(b8, cA (Z7 .u8 ((rd a0 a1).1) ++ [vI ((rd a0 a1).2)]) 76)] ++ (a4 ++ ([(b1, cA ([s0]) 47)] ++ L))) := hS
 have Z2 := Z2.trans c0
 have a8 := a8.mono c0
 have a6 := a6.mono c0
 have hS := hS.perm U1
 refine Yy1 (a := b7) (m := (rd a0 a1).2) Zh5 (by exact (eM (c1 0 14 (by decide) rfl))) (by exact (eM (c1 3 17 (by decide) rfl))) (by exact (eM (c1 5 19 (by decide) rfl))) a6 hS ?_
 intro k0 e8 d8 hS
 have hS := hS.perm U1.symm
 refine Z1 (X2 (Z0 ?_))
 refine W8 (a1 + 1) (by exact (evT (b6 10 rfl) b0)) rfl (IntWalk.i64_in _ (by omega)) rfl (Z4 (vI (a1 + 1)) rfl rfl (Z1 ?_))
 have hS := St.dropA hS
 exact e1 _ _ ⟨(a1 + 1), (G0 a3 b7 ((rd a0 a1).2)), c5, e8, a5, Z2, hS, (by omega), d8, a8, (evT (b6 3 rfl) b2), (evT (b6 8 rfl) b3), (evT (b6 9 rfl) b4), rfl⟩
 rw [if_neg b5] at a5
 refine Z8 (bF b5 rfl) ?_
 refine W4 rfl ?_
 have hz := Option.some.inj a5
 subst hz
 exact e2 _ _ ⟨a3, c6, a4, rfl, Z2, hS, a6, a8, b2⟩
 exact ⟨0, ([] : MpT), H, C6, a5, Z2, hS, (by omega), e0, a8, rfl, rfl, rfl, rfl⟩
 rintro g4 g5 ⟨a7, g6, a9, rfl, Z2, hS, b9, a8, c2⟩
 dsimp only [Ex.elim] at c4
 refine Z3 (Z0 (Z4 (m4) (by exact c2) rfl (Z5 (m4) rfl rfl (Z1 ?_))))
 refine X0 (vs := [m4]) Tryz.func90 ⟨rfl, trivial⟩ ?_
 have hS := St.dropMid hS
 have hz := Option.some.inj c4
 subst hz
 exact ⟨_, _, _, rfl, Z2, hS, b9⟩
def Za9 (K : Nat) (a0 : Int) : Nat → Int → (List MpT) → Option (Ex (List MpT) ((List MpT)))
 | 0, _, _ => none
 | k + 1, a4, a3 => (if a4 < a0 then ((F6 K a4).bind fun b2 => (if a3.length + ([(G0 ([] : MpT) b2 1)]).length ≤ 1099511627776 then Za9 K a0 k (IntKind.i64.wrap (a4 + 1)) (a3 ++ [(G0 ([] : MpT) b2 1)]) else none)) else some (.go a3))
def Zq5 (K : Nat) (a0 : Int) : Option (List MpT) := ((Za9 K a0 K 0 ([] : List MpT)).bind (Ex.elim (fun r => some r) (fun s => (fun (a9 : (List MpT)) => some a9) s)))
theorem Yw8 {K : Nat} {a0 : Int} {r : (List MpT)} (q0 : Zq5 K a0 = some r) {H : FH} {w : World} {L : OL} (hS : St H w L) :
 Calls Tryz.prog 147 #[vI a0] w (Wo6 (Zk1 .i64) 109 r H L) := by
 have Z2 := Sub.refl H
 refine X3 Tryz.func147 rfl Tryz.ntmps147 rfl ?_
 unfold Zq5 at q0
 refine Z3 (Z0 (Z5 (vN) rfl rfl (Z1 (Z3 (Z0 ?_)))))
 refine Zx2 (τ := (Zk1 .i64)) Yj1 Xf1 rfl hS rfl ?_
 intro u1 w2 C3 d2 hS
 refine Z5 (u1) rfl rfl (Z1 (Z3 (Z3 (Z0 (Z4 (vI a0) rfl rfl (Z4 (vI 0) rfl rfl (Z1 (Y8 ?_))))))))
 obtain ⟨c0, a5, c1⟩ := bind_some q0
 refine W5 (id := 0) (fun k f w => ∃ (a4 : Int) (a3 : (List MpT)) (H1 : FH) (a8 : OL) (a6 : Value), Za9 K a0 k a4 a3 = some c0 ∧ Sub H H1 ∧ St H1 w (a8 ++ L) ∧ V0 (Zk1 .i64) 109 H1 a6 a3 a8 ∧ ev f (.tmp 3) = a6 ∧ ev f (.tmp 6) = vI a0 ∧ ev f (.tmp 7) = vI a4) (fun f w => ∃ (a9 : (List MpT)) (H1 : FH) (b0 : OL) (a7 : Value), c0 = .go a9 ∧ Sub H H1 ∧ St H1 w (b0 ++ L) ∧ V0 (Zk1 .i64) 109 H1 a7 a9 b0 ∧ ev f (.tmp 3) = a7) rfl ?_ ?_ K ?_ ?_
 rintro f w ⟨a4, a3, H1, a8, a6, a5, _⟩
 rw [Za9] at a5; cases a5
 rintro k d7 d8 d3 d4 ⟨a4, a3, c5, a8, a6, a5, Z2, hS, a1, b3, b4, b1⟩
 rw [Za9] at a5
 refine Z3 (Z0 ?_)
 refine V7 (k := .i64) (a := a4) (b := a0) (by exact b1) (by exact b4) rfl (Z1 (Z3 ?_))
 by_cases b8 : a4 < a0
 rw [if_pos b8] at a5
 refine Y0 (bT b8 rfl) (Y7 (Z3 (Y8 (Z3 (Z0 (Z4 (vI a4) (by exact b1) rfl (Z5 (vI a4) rfl rfl (Z1 (Z0 (Z4 (a6) (by exact b3) rfl ?_))))))))))
 refine Zj4 (k := .i64) hS rfl ?_
 intro m7 w8 C9 b6 hS
 refine Z4 (vI a4) rfl rfl ?_
 obtain ⟨b2, c6, a5⟩ := bind_some a5
 refine Y9 Tryz.call151 (R0 rfl) rfl (Ze0 c6  hS) ?_
 rintro e2 e3 ⟨e4, e5, rfl, b7, hS, ⟨_, rfl, rfl⟩⟩
 refine ⟨_, rfl, ?_⟩
 have Z2 := Z2.trans b7
 have a1 := a1.mono b7
 have b6 := b6.mono b7
 refine Yb2 (a := b2) (m := 1) Zh5 rfl rfl rfl b6 hS ?_
 intro e6 e7 c7 hS
 refine Z4 (m7) rfl rfl ?_
 obtain ⟨e8, c2, hS, c8⟩ := c7.freeze hS
 have Z2 := Z2.trans c2
 have a1 := a1.mono c2
 refine Zd8 (τ := (Zk1 .i64)) Yj1 Xf1 rfl [m7] [(G0 ([] : MpT) b2 1)] rfl rfl (Za3 rfl) (Zn7 c8.relv) (by decide) (by decide) hS rfl ?_
 intro e9 d5 f0 c3 hS c9
 have Z2 := Z2.trans c3
 have a1 := a1.mono c3
 obtain ⟨d0, a5⟩ := gd a5
 refine F4 (τ := (Zk1 .i64)) Xy2 rfl rfl rfl a1 hS c9 d0 rfl ?_
 intro c4 f1 d6 d1 hS
 refine Z5 (c4) rfl rfl (Z1 (X2 (Z0 ?_)))
 refine W8 (IntKind.i64.wrap (a4 + 1)) (by exact b1) rfl rfl rfl (Z4 (vI (IntKind.i64.wrap (a4 + 1))) rfl rfl (Z1 ?_))
 exact d3 _ _ ⟨(IntKind.i64.wrap (a4 + 1)), (a3 ++ [(G0 ([] : MpT) b2 1)]), d5, d6, c4, a5, Z2, hS, d1, rfl, b4, rfl⟩
 rw [if_neg b8] at a5
 refine Z8 (bF b8 rfl) ?_
 refine W4 rfl ?_
 have hz := Option.some.inj a5
 subst hz
 exact d4 _ _ ⟨a3, c5, a8, a6, rfl, Z2, hS, a1, b3⟩
 exact ⟨0, ([] : List MpT), H, C3, u1, a5, Z2, hS, d2, rfl, rfl, rfl⟩
 rintro d9 e0 ⟨a9, e1, b0, a7, rfl, Z2, hS, b5, b9⟩
 dsimp only [Ex.elim] at c1
 refine Z3 (Z0 (Z4 (a7) (by exact b9) rfl (Z5 (a7) rfl rfl (Z1 ?_))))
 refine X0 (vs := [a7]) Tryz.func147 ⟨rfl, trivial⟩ ?_
 have hz := Option.some.inj c1
 subst hz
 exact ⟨_, _, _, rfl, Z2, hS, b5⟩
def Zt5 (K : Nat) (a0 : (A8 × Int)) (a1 : (A8 × Int)) : Option Bool := ((Zl6 K a0.1 a1.1).bind fun r7 => (if r7 = true then (if a0.2 = a1.2 then some true else some false) else some false))
theorem Yz5 {K : Nat} {a0 : (A8 × Int)} {a1 : (A8 × Int)} {r : Bool} (q0 : Zt5 K a0 a1 = some r) {H : FH} {w : World} {L : OL} (hS : St H w L) :
 Calls Tryz.prog 201 #[vA (Z7 .u8 a0.1 ++ [vI a0.2]), vA (Z7 .u8 a1.1 ++ [vI a1.2])] w (T2 (fun v G => R.bool.p G v r) H L) := by
 have Z2 := Sub.refl H
 refine X3 Tryz.func201 rfl Tryz.ntmps201 rfl ?_
 unfold Zt5 at q0
 refine Z3 (Z0 ?_)
 refine S4 (v := vA (Z7 .u8 a0.1 ++ [vI a0.2])) (Z7 .u8 a0.1 ++ [vI a0.2]).toArray rfl rfl hS rfl ?_
 intro b1 w2 hS
 refine S4 (v := vA (Z7 .u8 a1.1 ++ [vI a1.2])) (Z7 .u8 a1.1 ++ [vI a1.2]).toArray rfl rfl hS rfl ?_
 intro b4 w5 hS
 refine Z5 (Value.bool false) rfl rfl (Z1 (Z3 (Z3 (Z0 (Y3 N1 rfl rfl ?_)))))
 refine V6 (Z7 .u8 a0.1) N6 rfl (hS.get (o := cA (Z7 .u8 a0.1 ++ [vI a0.2]) 76) (mR mL)) rfl (fun j hj => Zj8 ([]) (Z7 .u8 a0.1) (([vI a0.2])) j hj) rfl (Y3 N1 rfl rfl ?_)
 refine V6 (Z7 .u8 a1.1) N6 rfl (hS.get (o := cA (Z7 .u8 a1.1 ++ [vI a1.2]) 76) mL) rfl (fun j hj => Zj8 ([]) (Z7 .u8 a1.1) (([vI a1.2])) j hj) rfl ?_
 obtain ⟨r7, a5, q0⟩ := bind_some q0
 refine Y9 Tryz.call268 (U7 rfl rfl) rfl (Yq3 a5  hS) ?_
 rintro e7 w8 ⟨_, H7, rfl, a6, hS, rfl⟩
 refine ⟨_, rfl, ?_⟩
 have Z2 := Z2.trans a6
 refine M4 (b := r7) rfl rfl (Z1 ?_)
 by_cases a4 : r7 = true
 rw [if_pos a4] at q0
 refine Z8 (Eq.trans rfl (congrArg (fun b => Value.bool (!b)) a4)) (Y7 (Z3 (Z3 (Z0 (Y3 Zd9 rfl rfl ?_)))))
 refine Y4 (vI a0.2) ty2 rfl (hS.get (mR mL)) rfl rfl (Y3 Zd9 rfl rfl ?_)
 refine Y4 (vI a1.2) ty2 rfl (hS.get mL) rfl rfl ?_
 refine J2 (k := .i64) (a := a0.2) (b := a1.2) rfl rfl rfl (Z1 ?_)
 by_cases a3 : a0.2 = a1.2
 rw [if_pos a3] at q0
 refine Z8 (bN a3 rfl) (Y7 (Z3 (Z0 (Z5 (Value.bool true) rfl rfl (Z1 ?_)))))
 refine X0 (vs := [Value.bool true]) Tryz.func201 ⟨rfl, trivial⟩ ?_
 have hz := Option.some.inj q0
 subst hz
 exact ⟨_, _, rfl, Z2, (St.dropA (St.dropA hS)), rfl⟩
 rw [if_neg a3] at q0
 refine Y0 (bO a3 rfl) (Z3 (Z0 (Z5 (Value.bool false) rfl rfl (Z1 ?_))))
 refine X0 (vs := [Value.bool false]) Tryz.func201 ⟨rfl, trivial⟩ ?_
 have hz := Option.some.inj q0
 subst hz
 exact ⟨_, _, rfl, Z2, (St.dropA (St.dropA hS)), rfl⟩
 rw [if_neg a4] at q0
 refine Y0 (Eq.trans rfl (congrArg (fun b => Value.bool (!b)) (W1 a4))) (Z3 (Z0 (Z5 (Value.bool false) rfl rfl (Z1 ?_))))
 refine X0 (vs := [Value.bool false]) Tryz.func201 ⟨rfl, trivial⟩ ?_
 have hz := Option.some.inj q0
 subst hz
 exact ⟨_, _, rfl, Z2, (St.dropA (St.dropA hS)), rfl⟩
def Zt4 (K : Nat) (a0 : MpT) (a1 : Int) : Option Int := ((Zw6 K a0 a1).bind fun r4 => (if r4 < 0 then some (-1) else some r4))
theorem Xa4 {K : Nat} {a0 : MpT} {a1 : Int} {r : Int} (q0 : Zt4 K a0 a1 = some r) {H : FH} {w : World} {L : OL} {s0 : Value} (a4 : Y1 yT H s0 a0) (hS : St H w L) :
 Calls Tryz.prog 27 #[vA ([s0]), vI a1] w (T2 (fun v G => (R.int .i64).p G v r) H L) := by
 have Z2 := Sub.refl H
 refine X3 Tryz.func27 rfl Tryz.ntmps27 rfl ?_
 unfold Zt4 at q0
 refine Z3 (Z0 ?_)
 refine S4 (v := vA ([s0])) ([s0]).toArray rfl rfl hS rfl ?_
 intro b1 w2 hS
 refine Z5 (vI 0) rfl rfl (Z1 (Z3 (Z0 (Y3 Xv6 rfl rfl ?_))))
 refine Y4 (s0) Ww6 rfl (hS.get mL) rfl rfl (Z4 (vI a1) rfl rfl ?_)
 obtain ⟨r4, a5, q0⟩ := bind_some q0
 refine Y9 Tryz.call105 (U7 rfl rfl) rfl (Yw5 a5 a4 hS) ?_
 rintro e4 w5 ⟨_, H4, rfl, a6, hS, rfl⟩
 refine ⟨_, rfl, ?_⟩
 have Z2 := Z2.trans a6
 refine Z5 (vI r4) rfl rfl (Z1 (Z3 (Z3 (Z0 (Z4 (vI r4) rfl rfl ?_)))))
 refine V7 (k := .i64) (a := r4) (b := 0) rfl rfl rfl (Z1 ?_)
 by_cases a3 : r4 < 0
 rw [if_pos a3] at q0
 refine Y0 (bT a3 rfl) (Z3 (Z0 (Z5 (vI (-1)) rfl rfl (Z1 ?_))))
 refine X0 (vs := [vI (-1)]) Tryz.func27 ⟨rfl, trivial⟩ ?_
 have hz := Option.some.inj q0
 subst hz
 exact ⟨_, _, rfl, Z2, (St.dropA hS), rfl⟩
 rw [if_neg a3] at q0
 refine Z8 (bF a3 rfl) (Y7 (Z3 (Z0 (Z4 (vI r4) rfl rfl (Z5 (vI r4) rfl rfl (Z1 ?_))))))
 refine X0 (vs := [vI r4]) Tryz.func27 ⟨rfl, trivial⟩ ?_
 have hz := Option.some.inj q0
 subst hz
 exact ⟨_, _, rfl, Z2, (St.dropA hS), rfl⟩
def Ze4 (K : Nat) (a0 : (List Int)) (a1 : Int) : Option Bool := ((Zn9 K a0 a1).bind fun r1 => some (decide (0 ≤ r1)))
theorem Ya9 {K : Nat} {a0 : (List Int)} {a1 : Int} {r : Bool} (q0 : Ze4 K a0 a1 = some r) {H : FH} {w : World} {L : OL} {s0 : Value} (a3 : Y1 (Y6 .i64) H s0 a0) (hS : St H w L) :
 Calls Tryz.prog 175 #[s0, vI a1] w (T2 (fun v G => R.bool.p G v r) H L) := by
 have Z2 := Sub.refl H
 refine X3 Tryz.func175 rfl Tryz.ntmps175 rfl ?_
 unfold Ze4 at q0
 refine Z3 (Z0 (Z5 (Value.bool false) rfl rfl (Z1 (Z3 (Z0 (Z4 (s0) rfl rfl (Z4 (vI a1) rfl rfl ?_)))))))
 obtain ⟨r1, a4, q0⟩ := bind_some q0
 refine Y9 Tryz.call252 (U7 rfl rfl) rfl (Ye4 a4 a3 hS) ?_
 rintro e1 w2 ⟨_, H1, rfl, a5, hS, rfl⟩
 refine ⟨_, rfl, ?_⟩
 have Z2 := Z2.trans a5
 refine Yc2 (k := .i64) (a := r1) (b := 0) rfl rfl rfl (Z5 (Value.bool (decide (0 ≤ r1))) rfl rfl (Z1 ?_))
 refine X0 (vs := [Value.bool (decide (0 ≤ r1))]) Tryz.func175 ⟨rfl, trivial⟩ ?_
 have hz := Option.some.inj q0
 subst hz
 exact ⟨_, _, rfl, Z2, hS, rfl⟩
def Zu7 (K : Nat) (a0 : Int) : Option Bool := ((Zo1 K a0 1 10006).bind fun r1 => some r1)
theorem Yu0 {K : Nat} {a0 : Int} {r : Bool} (q0 : Zu7 K a0 = some r) {H : FH} {w : World} {L : OL} (hS : St H w L) :
 Calls Tryz.prog 150 #[vI a0] w (T2 (fun v G => R.bool.p G v r) H L) := by
 have Z2 := Sub.refl H
 refine X3 Tryz.func150 rfl Tryz.ntmps150 rfl ?_
 unfold Zu7 at q0
 refine Z3 (Z0 (Z5 (Value.bool false) rfl rfl (Z1 (Z3 (Z0 (Z4 (vI a0) rfl rfl ?_))))))
 obtain ⟨r1, a1, q0⟩ := bind_some q0
 refine Y9 Tryz.call97 (I6 rfl rfl rfl) rfl (Yh3 a1  hS) ?_
 rintro e1 w2 ⟨_, H1, rfl, a3, hS, rfl⟩
 refine ⟨_, rfl, ?_⟩
 have Z2 := Z2.trans a3
 refine Z5 (Value.bool r1) rfl rfl (Z1 ?_)
 refine X0 (vs := [Value.bool r1]) Tryz.func150 ⟨rfl, trivial⟩ ?_
 have hz := Option.some.inj q0
 subst hz
 exact ⟨_, _, rfl, Z2, hS, rfl⟩
end Go.Proofs.YtfodlhkoafhplaaGreat
