/- Walks of functions: each computes its pure function, if that gives a value. -/
import Derived.Test.YtfodlhkoafhplaaGreatWTy
import Derived.Test.YtfodlhkoafhplaaGreatWF4
import Derived.Test.YtfodlhkoafhplaaGreatWF2
import Derived.Test.YtfodlhkoafhplaaGreatWF3
import Derived.Test.YtfodlhkoafhplaaGreatWF1
namespace Go.Proofs.YtfodlhkoafhplaaGreat
open Go
set_option linter.unusedSimpArgs false
set_option linter.unusedVariables false
set_option maxRecDepth 100000
set_option maxHeartbeats 8000000
def I1 (K : Nat) (a0 : (List Int)) (a1 : (A8 × Int)) (a2 : MpT) : Nat → Int → MpT → Option (Ex MpT (MpT))
 | 0, _, _ => none
 | k + 1, a4, a6 => (if a4 < (a2.length : Int) then ((Zk0 K a0 a1.1 ((rd a2 a4).1)).bind fun a3 => (if a3.2 = 0 then I1 K a0 a1 a2 k (a4 + 1) a6 else ((Za9 K (IntKind.i64.wrap ((IntKind.i64.wrap (a3.2 * a1.2)) * (rd a2 a4).2))).bind fun b5 => (if a6.length + ([(a3.1, b5)]).length ≤ 1099511627776 then I1 K a0 a1 a2 k (a4 + 1) (a6 ++ [(a3.1, b5)]) else none)))) else some (.go a6))
def Zm2 (K : Nat) (a0 : (List Int)) (a1 : (A8 × Int)) (a2 : MpT) : Option MpT := ((I1 K a0 a1 a2 K 0 ([] : List (A8 × Int))).bind (Ex.elim (fun r => some r) (fun s => (fun (b2 : MpT) => some b2) s)))
theorem Yn6 {K : Nat} {a0 : (List Int)} {a1 : (A8 × Int)} {a2 : MpT} {r : MpT} (q0 : Zm2 K a0 a1 a2 = some r) {H : FH} {w : World} {L : OL} {s0 : Value} {s1 : Value} (b8 : Y3 (X3 .i64) H s0 a0) (b3 : Y3 yT H s1 a2) (hS : St H w L) :
 Calls Tryz.prog 251 #[s0, vA (Z7 .u8 a1.1 ++ [vI a1.2]), vA ([s1])] w (T6 (fun v G => (R.agg (X6 yT)).p G v r) H L) := by
 have Z2 := Sub.refl H
 refine X0 Tryz.func251 rfl Tryz.ntmps251 rfl ?_
 unfold Zm2 at q0
 refine Z3 (Z1 ?_)
 refine T7 (v := vA (Z7 .u8 a1.1 ++ [vI a1.2])) (Z7 .u8 a1.1 ++ [vI a1.2]).toArray rfl rfl hS rfl ?_
 intro b1 w2 hS
 refine T7 (v := vA ([s1])) ([s1]).toArray rfl rfl hS rfl ?_
 intro b4 w5 hS
 refine W9 (z := vA ([vN])) ([vN]).toArray Zb2.zero rfl hS rfl ?_
 intro b7 w8 hS
 refine Z0 (Z3 (Z1 ?_))
 refine Q2 (vA ([vN])) Yc4 rfl ?_
 refine W9 (z := vA ([vN])) ([vN]).toArray Zb2.zero rfl hS rfl ?_
 intro c7 w11 hS
 refine W1 (v := vA ([vN])) (vs := ([vN]).toArray) (cs := ([vN]).toArray) U7 rfl rfl rfl hS rfl (S2 rfl) rfl ?_
 intro w13 hS
 refine Z0 (Z3 (Z3 (Z1 (Z6 (vI 0) rfl rfl (Z0 (Y7 ?_))))))
 have f5 : U1 yT 76 H (.slice none 0 0) [] [] := U1.nil _ _ _
 obtain ⟨f6, a9, f7⟩ := bind_some q0
 refine W7 (id := 0) (fun k f w => ∃ (a4 : Int) (a6 : MpT) (H1 : FH) (a7 : OL) (a5 : Value), I1 K a0 a1 a2 k a4 a6 = some f6 ∧ Sub H H1 ∧ St H1 w (a7 ++ ([(c7, cA ([a5]) 47)] ++ ([(b7, cA ([vN]) 47)] ++ ([(b4, cA ([s1]) 47)] ++ ([(b1, cA (Z7 .u8 a1.1 ++ [vI a1.2]) 76)] ++ L))))) ∧ 0 ≤ a4 ∧ U1 yT 76 H1 a5 a6 a7 ∧ Y3 (X3 .i64) H1 s0 a0 ∧ Y3 yT H1 s1 a2 ∧ ev f (.tmp 0) = s0 ∧ ev f (.tmp 4) = vP b1 ∧ ev f (.tmp 5) = vP b4 ∧ ev f (.tmp 6) = vP b7 ∧ ev f (.tmp 7) = vP c7 ∧ ev f (.tmp 8) = vI a4) (fun f w => ∃ (b2 : MpT) (H1 : FH) (b6 : OL) (b0 : Value), f6 = .go b2 ∧ Sub H H1 ∧ St H1 w (b6 ++ ([(c7, cA ([b0]) 47)] ++ ([(b7, cA ([vN]) 47)] ++ ([(b4, cA ([s1]) 47)] ++ ([(b1, cA (Z7 .u8 a1.1 ++ [vI a1.2]) 76)] ++ L))))) ∧ U1 yT 76 H1 b0 b2 b6 ∧ Y3 yT H1 s1 a2 ∧ ev f (.tmp 6) = vP b7 ∧ ev f (.tmp 7) = vP c7) rfl ?_ ?_ K ?_ ?_
 rintro f w ⟨a4, a6, H1, a7, a5, a9, _⟩
 rw [I1] at a9; cases a9
 rintro k s2 s3 k2 m7 ⟨a4, a6, k5, a7, a5, a9, Z2, hS, m8, a8, b8, b3, d2, d3, c3, d4, d5, c4⟩
 rw [I1] at a9
 refine Z3 (Z3 (Z1 (Z4 (vI a4) (by exact c4) rfl (Y2 V6 (by exact c3) rfl ?_))))
 refine Y4 (s1) R7 rfl (hS.get (mR (mR (mR mL)))) rfl rfl ?_
 have s4 := b3.bound
 refine W6 S9 rfl b3 rfl ?_
 refine U5 (k := .i64) (a := a4) (b := (a2.length : Int)) rfl rfl rfl (Z0 ?_)
 by_cases d7 : a4 < (a2.length : Int)
 rw [if_pos d7] at a9
 refine Y0 (bT d7 rfl) (Y6 (Z3 (Y7 (Z3 ?_))))
 obtain ⟨k3, k4, s5, E80, _, k6, e1, ⟨_, _, rfl, rfl, rfl⟩, k7⟩ := b3.elem (i := a4) (by omega) (by omega)
 obtain ⟨a3, h1, a9⟩ := bind_some a9
 refine V4 16 (R9 [(20, MP.eq (s0)), (21, MP.eq (vP b1)), (22, MP.eq (vA (Z7 .u8 a1.1))), (23, MP.eq (vP b4)), (24, MP.eq (s1)), (25, MP.eq (vI a4)), (26, MP.eq (Value.pointer (some ⟨k3, k4, none⟩))), (27, MP.eq (Value.pointer (some ⟨k3, k4 + 0, none⟩))), (28, MP.eq (vA (Z7 .u8 ((rd a2 a4).1)))), (29, MP.eq (Value.tuple #[vA (Z7 .u8 a3.1), vI a3.2])), (19, MP.eq (Value.tuple #[vA (Z7 .u8 a3.1), vI a3.2])), (30, MP.eq (vA (Z7 .u8 a3.1))), (31, MP.eq (vI a3.2)), (9, MP.box (cA (Z7 .u8 (fun _ => 0)) 70)), (10, MP.eq (vI a3.2))]) [Co.st 13 9 14 11 30 (Zi8 70)] mixed rfl (Zp5 (ns := [(13, 9, 14, 11, 30)]) rfl rfl) rfl hS (Z5 rfl ?_ (Z5 rfl ?_ (Z5 rfl ?_ (Z5 rfl ?_ (Z5 rfl ?_ (Z5 rfl ?_ (Z5 rfl ?_ (Z5 rfl ?_ (Z5 rfl ?_ (Z5 rfl ?_ (Z5 rfl ?_ (Z5 rfl ?_ (Z5 rfl ?_ (Z5 rfl ?_ (Yb1 rfl ?_ (Z5 rfl ?_ V9)))))))))))))))) ?_
 intro f16 w17 H18 X19 s6 hS k8 s7 hcq
 refine Z4 (s0) (evT (k8 0 rfl) d2) rfl ?_
 exact qn (.refl _) rfl hS rfl
 intro f25 w26 H27 X28 s8 hS k9 s9 hcq
 refine Y2 P0 (evT (k9 4 rfl) d3) rfl ?_
 exact qn (.refl _) rfl hS rfl
 intro f34 w35 H36 X37 t0 hS t1 l0 hcq
 refine V5 (Z7 .u8 a1.1) N0 (eM (l0 1 21 rfl rfl)) (hS.get (o := cA (Z7 .u8 a1.1 ++ [vI a1.2]) 76) (mR (mR (mR (mR (mR mL)))))) rfl (fun j hj => Zj5 ([]) (Z7 .u8 a1.1) (([vI a1.2])) j hj) rfl ?_
 exact qn (.refl _) rfl hS rfl
 intro f43 w44 H45 X46 t4 hS l1 t5 hcq
 refine Y2 V6 (evT (l1 5 rfl) c3) rfl ?_
 exact qn (.refl _) rfl hS rfl
 intro f52 w53 H54 X55 t6 hS t7 l2 hcq
 refine Y4 (s1) R7 (eM (l2 3 23 rfl rfl)) (hS.get (mR (mR (mR (mR mL))))) rfl rfl ?_
 exact qn (.refl _) rfl hS rfl
 intro f61 w62 H63 X64 t8 hS l3 t9 hcq
 refine Z4 (vI a4) (evT (l3 8 rfl) c4) rfl ?_
 exact qn (.refl _) rfl hS rfl
 intro f70 w71 H72 X73 u0 hS u1 f8 hcq
 refine W3 S9 rfl (eM (f8 4 24 rfl rfl)) k6 (eM (f8 5 25 rfl rfl)) (by omega) (by omega) rfl ?_
 exact qn (.refl _) rfl hS rfl
 intro f81 w82 H83 X84 u2 hS u3 l4 hcq
 refine Y2 P0 (eM (l4 6 26 rfl rfl)) rfl ?_
 exact qn (.refl _) rfl hS rfl
 intro f90 w91 H92 X93 l5 hS u4 l6 hcq
 have e1 := l5.1 _ _ e1
 refine V5 (Z7 .u8 ((rd a2 a4).1)) N0 (eM (l6 7 27 rfl rfl)) (hS.froz _ _ e1) rfl (Zf0 ([]) (Z7 .u8 ((rd a2 a4).1)) (([vI ((rd a2 a4).2)])) k7 (Nat.le_of_ble_eq_true rfl)) rfl ?_
 exact qn (.refl _) rfl hS rfl
 intro f99 u5 u6 u7 h2 hS n1 d8 hcq
 have b8 := b8.mono h2
 refine Y8 Tryz.call282 (N8 (eM (d8 0 20 rfl rfl)) (eM (d8 2 22 rfl rfl)) (eM (d8 8 28 rfl rfl))) rfl (Yl7 h1 b8 hS) ?_
 rintro u8 u9 ⟨_, v0, rfl, h3, hS, ⟨m9, n0, rfl, ⟨_, rfl, rfl⟩, rfl⟩⟩
 refine ⟨_, rfl, ?_⟩
 exact qn h3 rfl hS rfl
 intro v1 v2 v3 v4 n2 hS n3 h4 hcq
 refine Z4 (Value.tuple #[vA (Z7 .u8 a3.1), vI a3.2]) (eM (h4 9 29 rfl rfl)) rfl ?_
 exact qn (.refl _) rfl hS rfl
 intro v5 v6 v7 v8 n4 hS n5 h5 hcq
 refine U3 (vA (Z7 .u8 a3.1)) (eM (h5 10 19 rfl rfl)) rfl rfl ?_
 exact qn (.refl _) rfl hS rfl
 intro v9 w0 w1 w3 n6 hS n7 h6 hcq
 refine U3 (vI a3.2) (eM (h6 10 19 rfl rfl)) rfl rfl ?_
 exact qn (.refl _) rfl hS rfl
 intro w4 w6 w7 w9 n8 hS n9 o0 hcq
 refine W9 (z := vA (Z7 .u8 (fun _ => 0))) (Z7 .u8 (fun _ => 0)).toArray Ya8.zero rfl hS rfl ?_
 intro x0 x1 hS
 exact qn (.refl _) rfl hS ⟨_, rfl⟩
 intro c2 l7 f9 l9 o1 hS o2 e7 hcq
 have Z2 := Sub.refl f9
 obtain ⟨g0, d1⟩ := e7 13 9 rfl rfl
 have d1 : c2 9 = vP g0 := d1
 have hS : St f9 l7 (F6 (cA (Z7 .u8 (fun _ => 0)) 70) (c2 9) ++ (l9 ++ (a7 ++ ([(c7, cA ([a5]) 47)] ++ ([(b7, cA ([vN]) 47)] ++ ([(b4, cA ([s1]) 47)] ++ ([(b1, cA (Z7 .u8 a1.1 ++ [vI a1.2]) 76)] ++ L))))))) := hS
 rw [d1] at hS
 have m0 : ev c2 (.tmp 9) = vP g0 := d1
 have g1 : ev c2 (.tmp 30) = vA (Z7 .u8 a3.1) := e7 11 30 rfl rfl
 refine W1 (v := vA (Z7 .u8 a3.1)) (vs := (Z7 .u8 a3.1).toArray) (cs := (Z7 .u8 (fun _ => 0)).toArray) N0 m0 g1 rfl hS rfl (S8 .u8 a3.1) rfl ?_
 intro x2 hS
 have m1 : c2 30 = vA (Z7 .u8 a3.1) := g1
 exact Z0 ⟨_, rfl, rfl, Z2, by show St _ _ (F6 (Zi8 70 (c2 30)) (c2 9) ++ _); rw [d1, m1]; exact hS, trivial⟩
 intro x3 x4 x5 x6 o3 hS o4 h7 hcq
 refine Z6 (vI a3.2) (eM (h7 12 31 rfl rfl)) rfl ?_
 exact qn (.refl _) rfl hS rfl
 intro c5 m2 g2 c8 hS c0 d9 hcq
 have hS : St g2 m2 ((F6 (Zi8 70 (c5 30)) (c5 9) ++ ([])) ++ (a7 ++ ([(c7, cA ([a5]) 47)] ++ ([(b7, cA ([vN]) 47)] ++ ([(b4, cA ([s1]) 47)] ++ ([(b1, cA (Z7 .u8 a1.1 ++ [vI a1.2]) 76)] ++ L)))))) := hS
 have Z2 := Z2.trans c8
 have b8 := b8.mono c8
 have b3 := b3.mono c8
 have a8 := a8.mono c8
 have g3 := evT (c0 0 rfl) d2
 have e2 := evT (c0 4 rfl) d3
 have e3 := evT (c0 5 rfl) c3
 have g4 := evT (c0 6 rfl) d4
 have e4 := evT (c0 7 rfl) d5
 have e5 := evT (c0 8 rfl) c4
 have g5 : ev c5 (.tmp 10) = vI a3.2 := d9 15 10 (by decide) rfl
 obtain ⟨g6, c6⟩ := d9 13 9 (by decide) rfl
 have c6 : c5 9 = vP g6 := c6
 rw [c6] at hS
 have c6 : ev c5 (.tmp 9) = _ := c6
 have m3 : c5 30 = vA (Z7 .u8 a3.1) := (eM (d9 11 30 (by decide) rfl))
 rw [m3] at hS
 refine Z0 (Z3 (Z1 (Z4 (vI a3.2) (by exact g5) rfl ?_)))
 refine L9 (k := .i64) (a := a3.2) (b := 0) rfl rfl rfl (Z0 ?_)
 by_cases c9 : a3.2 = 0
 rw [if_pos c9] at a9
 refine Z9 (bN c9 rfl) (Y6 (X2 (Z1 (Z4 (vI a4) (by exact e5) rfl ?_))))
 refine V0 (a4 + 1) rfl rfl (IntWalk.i64_in _ (by omega)) rfl (Z6 (vI (a4 + 1)) rfl rfl (Z0 ?_))
 have hS := St.dropA hS
 exact k2 _ _ ⟨(a4 + 1), a6, g2, a7, a5, a9, Z2, hS, (by omega), a8, b8, b3, g3, e2, e3, g4, e4, rfl⟩
 rw [if_neg c9] at a9
 refine Y0 (bO c9 rfl) ?_
 obtain ⟨g7, g8, o5, x7, _, h8, e0, ⟨_, _, rfl, rfl, rfl⟩, h9⟩ := b3.elem (i := a4) (by omega) (by omega)
 obtain ⟨b5, i0, a9⟩ := bind_some a9
 refine V4 17 (R9 [(34, MP.eq (vP c7)), (35, MP.eq (a5)), (36, MP.eq (vA (Z7 .u8 a3.1))), (37, MP.eq (vI a3.2)), (38, MP.eq (vQ b1 8)), (39, MP.eq (vI a1.2)), (40, MP.eq (vI (IntKind.i64.wrap (a3.2 * a1.2)))), (41, MP.eq (vP b4)), (42, MP.eq (s1)), (43, MP.eq (vI a4)), (44, MP.eq (Value.pointer (some ⟨g7, g8, none⟩))), (45, MP.eq (Value.pointer (some ⟨g7, g8 + 8, none⟩))), (46, MP.eq (vI ((rd a2 a4).2))), (47, MP.eq (vI (IntKind.i64.wrap ((IntKind.i64.wrap (a3.2 * a1.2)) * (rd a2 a4).2)))), (48, MP.eq (vI b5)), (49, MP.eq (vA (Z7 .u8 a3.1 ++ [vI b5]))), (50, MP.sl yT ([(a3.1, b5)]))]) [] mixed rfl rfl rfl hS (Z5 rfl ?_ (Z5 rfl ?_ (Z5 rfl ?_ (Z5 rfl ?_ (Z5 rfl ?_ (Z5 rfl ?_ (Z5 rfl ?_ (Z5 rfl ?_ (Z5 rfl ?_ (Z5 rfl ?_ (Z5 rfl ?_ (Z5 rfl ?_ (Z5 rfl ?_ (Z5 rfl ?_ (Z5 rfl ?_ (Z5 rfl ?_ (Z5 rfl ?_ V9))))))))))))))))) ?_
 intro x8 x9 y0 y1 o6 hS i1 o7 hcq
 refine Y2 V6 (evT (i1 7 rfl) e4) rfl ?_
 exact qn (.refl _) rfl hS rfl
 intro y2 y3 y4 y5 o8 hS o9 i2 hcq
 refine Y4 (a5) R7 (eM (i2 0 34 rfl rfl)) (hS.get (mR (mR (mR mL)))) rfl rfl ?_
 exact qn (.refl _) rfl hS rfl
 intro y6 y7 y8 y9 p0 hS i3 p1 hcq
 refine X8 N0 (evT (i3 9 rfl) c6) (hS.get (mR mL)) rfl rfl ?_
 exact qn (.refl _) rfl hS rfl
 intro z0 z1 z2 z3 p2 hS i4 p3 hcq
 refine Z4 (vI a3.2) (evT (i4 10 rfl) g5) rfl ?_
 exact qn (.refl _) rfl hS rfl
 intro z4 z5 z6 z7 p4 hS i5 p5 hcq
 refine Y2 Zc0 (evT (i5 4 rfl) e2) rfl ?_
 exact qn (.refl _) rfl hS rfl
 intro z8 z9 a00 a01 p6 hS p7 i6 hcq
 refine Y4 (vI a1.2) ty2 (eM (i6 4 38 rfl rfl)) (hS.get (mR (mR (mR (mR (mR (mR mL))))))) rfl rfl ?_
 exact qn (.refl _) rfl hS rfl
 intro a02 a03 a04 a05 p8 hS p9 e8 hcq
 refine Zt0 (IntKind.i64.wrap (a3.2 * a1.2)) (eM (e8 3 37 rfl rfl)) (eM (e8 5 39 rfl rfl)) rfl rfl ?_
 exact qn (.refl _) rfl hS rfl
 intro a06 a07 a08 a09 q1 hS i7 q2 hcq
 refine Y2 V6 (evT (i7 5 rfl) e3) rfl ?_
 exact qn (.refl _) rfl hS rfl
 intro a10 a11 a12 a13 q3 hS q4 i8 hcq
 refine Y4 (s1) R7 (eM (i8 7 41 rfl rfl)) (hS.get (mR (mR (mR (mR (mR mL)))))) rfl rfl ?_
 exact qn (.refl _) rfl hS rfl
 intro a14 a15 a16 a17 q5 hS i9 q6 hcq
 refine Z4 (vI a4) (evT (i9 8 rfl) e5) rfl ?_
 exact qn (.refl _) rfl hS rfl
 intro a18 a19 a20 a21 q7 hS q8 e9 hcq
 refine W3 S9 rfl (eM (e9 8 42 rfl rfl)) h8 (eM (e9 9 43 rfl rfl)) (by omega) (by omega) rfl ?_
 exact qn (.refl _) rfl hS rfl
 intro a22 a23 a24 a25 q9 hS r0 j0 hcq
 refine Y2 Zc0 (eM (j0 10 44 rfl rfl)) rfl ?_
 exact qn (.refl _) rfl hS rfl
 intro a26 a27 a28 a29 j1 hS r1 j2 hcq
 have e0 := j1.1 _ _ e0
 refine Y4 (vI ((rd a2 a4).2)) ty2 (eM (j2 11 45 rfl rfl)) (hS.froz _ _ e0) (h9 8 (show 8 < 9 by decide)) rfl ?_
 exact qn (.refl _) rfl hS rfl
 intro a30 a31 a32 a33 r2 hS r3 f0 hcq
 refine Zt0 (IntKind.i64.wrap ((IntKind.i64.wrap (a3.2 * a1.2)) * (rd a2 a4).2)) (eM (f0 6 40 rfl rfl)) (eM (f0 12 46 rfl rfl)) rfl rfl ?_
 exact qn (.refl _) rfl hS rfl
 intro a34 a35 a36 a37 r4 hS r5 j3 hcq
 refine Y8 Tryz.call217 (Q8 (eM (j3 13 47 rfl rfl))) rfl (Zc8 i0  hS) ?_
 rintro a38 a39 ⟨_, a40, rfl, j4, hS, rfl⟩
 refine ⟨_, rfl, ?_⟩
 exact qn j4 rfl hS rfl
 intro a41 a42 a43 a44 r6 hS r7 f1 hcq
 refine Zo9 (Z7 .u8 a3.1 ++ [vI b5]) Yz4 (Yd5 (eM (f1 2 36 rfl rfl)) (eM (f1 14 48 rfl rfl))) (K5 rfl rfl rfl (Nat.le_of_ble_eq_true rfl) (K5 rfl rfl rfl (Nat.le_of_ble_eq_true rfl) (Zk3 rfl))) rfl ?_
 exact qn (.refl _) rfl hS rfl
 intro a45 a46 a47 a48 r8 hS r9 j5 hcq
 refine Zn7 (τ := yT) S9 Zy1 rfl [vA (Z7 .u8 a3.1 ++ [vI b5])] [(a3.1, b5)] rfl rfl (Ze0 (eM (j5 15 49 rfl rfl))) (Zu5 ⟨_, _, rfl, rfl, rfl⟩) (by decide) (by decide) hS rfl ?_
 intro a49 a50 a51 j6 hS j7
 exact qn j6 rfl hS j7
 intro a52 m4 g9 d0 hS c1 f2 hcq
 have hS : St g9 m4 ([(g6, cA (Z7 .u8 a3.1) 70)] ++ (a7 ++ ([(c7, cA ([a5]) 47)] ++ ([(b7, cA ([vN]) 47)] ++ ([(b4, cA ([s1]) 47)] ++ ([(b1, cA (Z7 .u8 a1.1 ++ [vI a1.2]) 76)] ++ L)))))) := hS
 have Z2 := Z2.trans d0
 have b8 := b8.mono d0
 have b3 := b3.mono d0
 have a8 := a8.mono d0
 have h0 := evT (c1 7 rfl) e4
 obtain ⟨a53, m5, j8⟩ := gvS (f2 16 50 (by decide) rfl)
 obtain ⟨j9, a9⟩ := gd a9
 have hS := hS.perm U4
 refine Zd1 (τ := yT) Yt8 rfl (by exact (eM (f2 1 35 (by decide) rfl))) (by exact m5) a8 hS j8 j9 rfl ?_
 intro e6 a54 m6 f3 hS
 have hS := hS.perm U4.symm
 refine Y2 V6 (by exact h0) rfl ?_
 have hS := hS.perm F3
 refine Ze1 (v := e6) (cs := ([a5]).toArray) (cs' := ([e6]).toArray) R7 rfl rfl hS f3.isOne rfl (Nat.le_of_ble_eq_true rfl) rfl ?_
 intro a55 hS
 have hS := hS.perm F3.symm
 refine Z0 (X2 (Z1 (Z4 (vI a4) (by exact (evT (c1 8 rfl) e5)) rfl ?_)))
 refine V0 (a4 + 1) rfl rfl (IntWalk.i64_in _ (by omega)) rfl (Z6 (vI (a4 + 1)) rfl rfl (Z0 ?_))
 have hS := St.dropA hS
 exact k2 _ _ ⟨(a4 + 1), (a6 ++ [(a3.1, b5)]), g9, m6, e6, a9, Z2, hS, (by omega), f3, b8, b3, (evT (c1 0 rfl) g3), (evT (c1 4 rfl) e2), (evT (c1 5 rfl) e3), (evT (c1 6 rfl) g4), h0, rfl⟩
 rw [if_neg d7] at a9
 refine Z9 (bF d7 rfl) ?_
 refine W4 rfl ?_
 have hz := Option.some.inj a9
 subst hz
 exact m7 _ _ ⟨a6, k5, a7, a5, rfl, Z2, hS, a8, b3, d4, d5⟩
 exact ⟨0, ([] : List (A8 × Int)), H, ([]), (vN), a9, Z2, hS, (by omega), f5, b8, b3, rfl, rfl, rfl, rfl, rfl, rfl⟩
 rintro a56 a57 ⟨b2, a58, b6, b0, rfl, Z2, hS, b9, b3, d6, f4⟩
 dsimp only [Ex.elim] at f7
 refine Z3 (Z1 ?_)
 refine X8 U7 (by exact f4) (hS.get (mR mL)) rfl rfl ?_
 have hS := hS.perm F3
 refine W1 (v := vA ([b0])) (vs := ([b0]).toArray) (cs := ([vN]).toArray) U7 (by exact d6) rfl rfl hS rfl (S2 b9.isOne) rfl ?_
 intro a59 hS
 have hS := hS.perm F3.symm
 refine Z0 ?_
 refine Y9 (vs := [vA ([b0])]) Tryz.func251 ⟨⟨_, (by exact d6), U8 U7 (hS.get (mR (mR mL))) rfl⟩, trivial⟩ ?_
 obtain ⟨a60, k0, hS, k1⟩ := b9.freeze hS
 have Z2 := Z2.trans k0
 have hz := Option.some.inj f7
 subst hz
 exact ⟨_, _, rfl, Z2, (St.dropA (St.dropA (St.dropA (St.dropA hS)))), ⟨_, rfl, ⟨_, rfl, k1⟩⟩⟩
def Zh1 (K : Nat) (e2 : Int → Int → Option (Ex (Int × Bool) (Int))) (a6 : Int) (a3 : Int) (a7 : Bool) : Option (Ex (Int × Bool) (Int)) := (if a7 = true then some (.ret (0, false)) else e2 a6 (a3 + 1))
def S3 (K : Nat) (a0 : (List Int)) (a1 : MpT) : Nat → Int → Int → Option (Ex (Int × Bool) (Int))
 | 0, _, _ => none
 | k + 1, a4, a3 => (if a3 < (a1.length : Int) then ((Zd3 K ((rd a1 a3).1)).bind fun d5 => ((Zf6 K d5 a0).bind fun a6 => (if 0 ≤ a4 then Zh1 K (S3 K a0 a1 k) a6 a3 (!decide (a6 = a4)) else Zh1 K (S3 K a0 a1 k) a6 a3 false))) else some (.go a4))
def Zr5 (K : Nat) (a0 : (List Int)) (a1 : MpT) : Option (Int × Bool) := ((S3 K a0 a1 K (-1) 0).bind (Ex.elim (fun r => some r) (fun s => (fun (b2 : Int) => some (b2, true)) s)))
theorem Yn0 {K : Nat} {a0 : (List Int)} {a1 : MpT} {r : (Int × Bool)} (q0 : Zr5 K a0 a1 = some r) {H : FH} {w : World} {L : OL} {s0 : Value} {s1 : Value} (b3 : Y3 (X3 .i64) H s0 a0) (a8 : Y3 yT H s1 a1) (hS : St H w L) :
 Calls Tryz.prog 130 #[s0, vA ([s1])] w (T6 (fun v G => (R.t2 (R.int .i64) R.bool).p G v r) H L) := by
 have Z2 := Sub.refl H
 refine X0 Tryz.func130 rfl Tryz.ntmps130 rfl ?_
 unfold Zr5 at q0
 refine Z3 (Z1 ?_)
 refine T7 (v := vA ([s1])) ([s1]).toArray rfl rfl hS rfl ?_
 intro b1 w2 hS
 refine Z6 (vI 0) rfl rfl (Z6 (Value.bool false) rfl rfl (Z0 (Z3 (Z1 (Z6 (vI (-1)) rfl rfl (Z0 (Z3 (Z3 (Z1 (Y2 V6 rfl rfl ?_))))))))))
 refine Y4 (s1) R7 rfl (hS.get mL) rfl rfl ?_
 have f4 := a8.bound
 refine W6 S9 rfl a8 rfl (Z4 (vI 0) rfl rfl (Z0 (Y7 ?_)))
 obtain ⟨c4, a5, c2⟩ := bind_some q0
 refine W7 (id := 0) (fun k f w => ∃ (a4 : Int) (a3 : Int) (H1 : FH), S3 K a0 a1 k a4 a3 = some c4 ∧ Sub H H1 ∧ St H1 w ([(b1, cA ([s1]) 47)] ++ L) ∧ 0 ≤ a3 ∧ Y3 (X3 .i64) H1 s0 a0 ∧ Y3 yT H1 s1 a1 ∧ ev f (.tmp 0) = s0 ∧ ev f (.tmp 6) = vI a4 ∧ ev f (.tmp 11) = s1 ∧ ev f (.tmp 12) = vI (a1.length : Int) ∧ ev f (.tmp 13) = vI a3) (fun f w => ∃ (b2 : Int) (H1 : FH), c4 = .go b2 ∧ Sub H H1 ∧ St H1 w ([(b1, cA ([s1]) 47)] ++ L) ∧ Y3 yT H1 s1 a1 ∧ ev f (.tmp 6) = vI b2) rfl ?_ ?_ K ?_ ?_
 rintro f w ⟨a4, a3, H1, a5, _⟩
 rw [S3] at a5; cases a5
 rintro k e9 f0 e3 e4 ⟨a4, a3, d8, a5, Z2, hS, e1, b3, a8, b9, c0, b4, b5, b0⟩
 rw [S3] at a5
 refine Z3 (Z1 ?_)
 refine U5 (k := .i64) (a := a3) (b := (a1.length : Int)) (by exact b0) (by exact b5) rfl (Z0 (Z3 ?_))
 by_cases c7 : a3 < (a1.length : Int)
 rw [if_pos c7] at a5
 refine Y0 (bT c7 rfl) (Y6 (Z3 (Y7 (Z3 (Z1 ?_)))))
 obtain ⟨b6, o6, f5, E6, _, e5, e6, ⟨_, _, rfl, rfl, rfl⟩, e7⟩ := a8.elem (i := a3) (by omega) (by omega)
 refine W3 S9 rfl (by exact b4) e5 (by exact b0) (by omega) (by omega) rfl ?_
 refine V5 (Z7 .u8 ((rd a1 a3).1) ++ [vI ((rd a1 a3).2)]) Zs8 rfl (hS.froz _ _ e6) rfl e7 rfl ?_
 refine W9 (z := vA (Z7 .u8 (fun _ => 0) ++ [vI 0])) (Z7 .u8 (fun _ => 0) ++ [vI 0]).toArray Zy1.zero rfl hS rfl ?_
 intro b7 w8 hS
 refine W1 (v := vA (Z7 .u8 ((rd a1 a3).1) ++ [vI ((rd a1 a3).2)])) (vs := (Z7 .u8 ((rd a1 a3).1) ++ [vI ((rd a1 a3).2)]).toArray) (cs := (Z7 .u8 (fun _ => 0) ++ [vI 0]).toArray) Zs8 rfl rfl rfl hS rfl (J6 (S8 .u8 ((rd a1 a3).1)) (S2 rfl)) rfl ?_
 intro f6 hS
 refine Z0 (Z3 (Z1 (Y2 P0 rfl rfl ?_)))
 refine V5 (Z7 .u8 ((rd a1 a3).1)) N0 rfl (hS.get (o := cA (Z7 .u8 ((rd a1 a3).1) ++ [vI ((rd a1 a3).2)]) 76) mL) rfl (fun j hj => Zj5 ([]) (Z7 .u8 ((rd a1 a3).1)) (([vI ((rd a1 a3).2)])) j hj) rfl ?_
 obtain ⟨d5, d9, a5⟩ := bind_some a5
 refine Y8 Tryz.call176 (Q8 rfl) rfl (Zn9 d9  hS) ?_
 rintro f7 f8 ⟨f9, g0, rfl, c5, hS, ⟨_, rfl, rfl⟩⟩
 refine ⟨_, rfl, ?_⟩
 have Z2 := Z2.trans c5
 have b3 := b3.mono c5
 have a8 := a8.mono c5
 refine Z4 (s0) (by exact b9) rfl ?_
 obtain ⟨a6, e0, a5⟩ := bind_some a5
 refine Y8 Tryz.call223 (T0 rfl rfl) rfl (Yf5 e0 b3 hS) ?_
 rintro g1 g2 ⟨_, d6, rfl, c6, hS, rfl⟩
 refine ⟨_, rfl, ?_⟩
 have Z2 := Z2.trans c6
 have b3 := b3.mono c6
 have a8 := a8.mono c6
 refine Z6 (vI a6) rfl rfl (Z0 (Z3 (Z3 ?_)))
 refine E9 (fun f w => ∃ (a7 : Bool) (H1 : FH), Zh1 K (S3 K a0 a1 k) a6 a3 a7 = some c4 ∧ Sub H H1 ∧ St H1 w ([(b7, cA (Z7 .u8 ((rd a1 a3).1) ++ [vI ((rd a1 a3).2)]) 76)] ++ ([(b1, cA ([s1]) 47)] ++ L)) ∧ Y3 (X3 .i64) H1 s0 a0 ∧ Y3 yT H1 s1 a1 ∧ ev f (.tmp 0) = s0 ∧ ev f (.tmp 9) = vI a6 ∧ ev f (.tmp 11) = s1 ∧ ev f (.tmp 12) = vI (a1.length : Int) ∧ ev f (.tmp 13) = vI a3 ∧ ev f (.tmp 28) = Value.bool a7) ?_ ?_
 rintro g3 e8 ⟨a7, d4, b8, Z2, hS, b3, a8, d2, d3, c8, c9, d0, c1⟩
 unfold Zh1 at b8
 by_cases c3 : a7 = true
 rw [if_pos c3] at b8
 refine Y0 (Eq.trans (by exact c1) (congrArg Value.bool c3)) (Z3 (Z1 (Z6 (vI 0) rfl rfl (Z6 (Value.bool false) rfl rfl (Z0 ?_)))))
 refine Y9 (vs := [vI 0, Value.bool false]) Tryz.func130 ⟨rfl, rfl, trivial⟩ ?_
 have hz := Option.some.inj b8
 subst hz
 dsimp only [Ex.elim] at c2
 have hz := Option.some.inj c2
 subst hz
 exact ⟨_, _, rfl, Z2, (St.dropA (St.dropA hS)), ⟨_, _, rfl, rfl, rfl⟩⟩
 rw [if_neg c3] at b8
 refine Z9 (Eq.trans (by exact c1) (congrArg Value.bool (W2 c3))) (Y6 (Z1 (Z4 (vI a6) (by exact d3) rfl (Z6 (vI a6) rfl rfl (Z0 (X2 (Z1 ?_)))))))
 refine V0 (a3 + 1) (by exact d0) rfl (IntWalk.i64_in _ (by omega)) rfl (Z4 (vI (a3 + 1)) rfl rfl (Z0 ?_))
 have hS := St.dropA hS
 exact e3 _ _ ⟨a6, (a3 + 1), d4, b8, Z2, hS, (by omega), b3, a8, d2, rfl, c8, c9, rfl⟩
 intro d7
 refine Z1 (Z4 (vI a4) (by exact c0) rfl ?_)
 refine Yb5 (k := .i64) (a := a4) (b := 0) rfl rfl rfl (Z4 (Value.bool (decide (0 ≤ a4))) rfl rfl ?_)
 by_cases a9 : 0 ≤ a4
 rw [if_pos a9] at a5
 refine Y1 rfl rfl (bT a9 rfl) (Z4 (vI a6) rfl rfl ?_)
 refine Y1 rfl rfl (bT a9 rfl) (Z4 (vI a4) (by exact c0) rfl ?_)
 refine Y1 rfl rfl (bT a9 rfl) ?_
 refine L9 (k := .i64) (a := a6) (b := a4) rfl rfl rfl ?_
 refine V1 (t := true) (Value.bool (!decide (a6 = a4))) (bT a9 rfl) ((if_pos rfl).trans rfl) rfl (Z0 ?_)
 exact d7 _ _ ⟨(!decide (a6 = a4)), d6, a5, Z2, hS, b3, a8, b9, rfl, b4, b5, b0, rfl⟩
 rw [if_neg a9] at a5
 refine Z8 rfl rfl (bF a9 rfl) rfl rfl rfl (Z8 rfl rfl (bF a9 rfl) rfl rfl rfl (Z8 rfl rfl (bF a9 rfl) rfl rfl rfl ?_))
 refine V1 (t := false) (Value.bool false) (bF a9 rfl) ((if_neg Bool.false_ne_true).trans rfl) rfl (Z0 ?_)
 exact d7 _ _ ⟨false, d6, a5, Z2, hS, b3, a8, b9, rfl, b4, b5, b0, rfl⟩
 rw [if_neg c7] at a5
 refine Z9 (bF c7 rfl) ?_
 refine W4 rfl ?_
 have hz := Option.some.inj a5
 subst hz
 exact e4 _ _ ⟨a4, d8, rfl, Z2, hS, a8, c0⟩
 exact ⟨(-1), 0, H, a5, Z2, hS, (by omega), b3, a8, rfl, rfl, rfl, rfl, rfl⟩
 rintro f1 f2 ⟨b2, f3, rfl, Z2, hS, a8, d1⟩
 dsimp only [Ex.elim] at c2
 refine Z3 (Z1 (Z4 (vI b2) (by exact d1) rfl (Z6 (vI b2) rfl rfl (Z6 (Value.bool true) rfl rfl (Z0 ?_)))))
 refine Y9 (vs := [vI b2, Value.bool true]) Tryz.func130 ⟨rfl, rfl, trivial⟩ ?_
 have hz := Option.some.inj c2
 subst hz
 exact ⟨_, _, rfl, Z2, (St.dropA hS), ⟨_, _, rfl, rfl, rfl⟩⟩
def Zb6 (K : Nat) (a0 : MpT) : Nat → Int → MpT → Option (Ex MpT (MpT))
 | 0, _, _ => none
 | k + 1, a1, a3 => (if a1 < (a0.length : Int) then ((Zd3 K ((rd a0 a1).1)).bind fun b7 => Zb6 K a0 k (a1 + 1) (A9 a3 b7 ((rd a0 a1).2))) else some (.go a3))
def Zg7 (K : Nat) (a0 : MpT) : Option MpT := ((Zb6 K a0 K 0 ([] : MpT)).bind (Ex.elim (fun r => some r) (fun s => (fun (a7 : MpT) => some a7) s)))
theorem Zn1 {K : Nat} {a0 : MpT} {r : MpT} (q0 : Zg7 K a0 = some r) {H : FH} {w : World} {L : OL} {s0 : Value} (a8 : Y3 yT H s0 a0) (hS : St H w L) :
 Calls Tryz.prog 90 #[vA ([s0])] w (Yq8 .i64 r H L) := by
 have Z2 := Sub.refl H
 refine X0 Tryz.func90 rfl Tryz.ntmps90 rfl ?_
 unfold Zg7 at q0
 refine Z3 (Z1 ?_)
 refine T7 (v := vA ([s0])) ([s0]).toArray rfl rfl hS rfl ?_
 intro b1 w2 hS
 refine Z6 (Value.map none) rfl rfl (Z0 (Z3 (Z1 ?_)))
 refine Zv6 (k := .i64) hS rfl ?_
 intro m4 w5 C6 e0 hS
 refine Z6 (m4) rfl rfl (Z0 (Z3 (Z3 (Z1 (Y2 V6 rfl rfl ?_)))))
 refine Y4 (s0) R7 rfl (hS.get (mR mL)) rfl rfl ?_
 have g7 := a8.bound
 refine W6 S9 rfl a8 rfl (Z4 (vI 0) rfl rfl (Z0 (Y7 ?_)))
 obtain ⟨c3, a5, c4⟩ := bind_some q0
 refine W7 (id := 0) (fun k f w => ∃ (a1 : Int) (a3 : MpT) (H1 : FH) (a4 : OL), Zb6 K a0 k a1 a3 = some c3 ∧ Sub H H1 ∧ St H1 w (a4 ++ ([(b1, cA ([s0]) 47)] ++ L)) ∧ 0 ≤ a1 ∧ R1 .i64 m4 a3 a4 ∧ Y3 yT H1 s0 a0 ∧ ev f (.tmp 3) = m4 ∧ ev f (.tmp 8) = s0 ∧ ev f (.tmp 9) = vI (a0.length : Int) ∧ ev f (.tmp 10) = vI a1) (fun f w => ∃ (a7 : MpT) (H1 : FH) (a9 : OL), c3 = .go a7 ∧ Sub H H1 ∧ St H1 w (a9 ++ ([(b1, cA ([s0]) 47)] ++ L)) ∧ R1 .i64 m4 a7 a9 ∧ Y3 yT H1 s0 a0 ∧ ev f (.tmp 3) = m4) rfl ?_ ?_ K ?_ ?_
 rintro f w ⟨a1, a3, H1, a4, a5, _⟩
 rw [Zb6] at a5; cases a5
 rintro k e9 f0 e1 e2 ⟨a1, a3, c6, a4, a5, Z2, hS, d9, a6, a8, b2, b3, b4, b0⟩
 rw [Zb6] at a5
 refine Z3 (Z1 ?_)
 refine U5 (k := .i64) (a := a1) (b := (a0.length : Int)) (by exact b0) (by exact b4) rfl (Z0 (Z3 ?_))
 by_cases b5 : a1 < (a0.length : Int)
 rw [if_pos b5] at a5
 refine Y0 (bT b5 rfl) (Y6 (Z3 (Y7 (Z3 (Z1 ?_)))))
 obtain ⟨g8, g9, f1, h0, _, c7, c8, ⟨_, _, rfl, rfl, rfl⟩, c9⟩ := a8.elem (i := a1) (by omega) (by omega)
 refine W3 S9 rfl (by exact b3) c7 (by exact b0) (by omega) (by omega) rfl ?_
 refine V5 (Z7 .u8 ((rd a0 a1).1) ++ [vI ((rd a0 a1).2)]) Zs8 rfl (hS.froz _ _ c8) rfl c9 rfl ?_
 refine W9 (z := vA (Z7 .u8 (fun _ => 0) ++ [vI 0])) (Z7 .u8 (fun _ => 0) ++ [vI 0]).toArray Zy1.zero rfl hS rfl ?_
 intro b8 h1 hS
 refine W1 (v := vA (Z7 .u8 ((rd a0 a1).1) ++ [vI ((rd a0 a1).2)])) (vs := (Z7 .u8 ((rd a0 a1).1) ++ [vI ((rd a0 a1).2)]).toArray) (cs := (Z7 .u8 (fun _ => 0) ++ [vI 0]).toArray) Zs8 rfl rfl rfl hS rfl (J6 (S8 .u8 ((rd a0 a1).1)) (S2 rfl)) rfl ?_
 intro h2 hS
 refine Z0 ?_
 obtain ⟨b7, d0, a5⟩ := bind_some a5
 refine V4 6 (R9 [(14, MP.eq (m4)), (15, MP.eq (vP b8)), (16, MP.eq (vA (Z7 .u8 ((rd a0 a1).1)))), (17, MP.eq (vA (Z7 .i64 b7))), (18, MP.eq (vQ b8 8)), (19, MP.eq (vI ((rd a0 a1).2)))]) [] mixed rfl rfl rfl hS (Z5 rfl ?_ (Z5 rfl ?_ (Z5 rfl ?_ (Z5 rfl ?_ (Z5 rfl ?_ (Z5 rfl ?_ V9)))))) ?_
 intro h3 h4 h5 h6 f2 hS d1 f3 hcq
 refine Z4 (m4) (evT (d1 3 rfl) b2) rfl ?_
 exact qn (.refl _) rfl hS rfl
 intro e3 h7 h8 h9 f4 hS d2 f5 hcq
 have e4 : ev e3 (.tmp 5) = vP b8 := Eq.trans (d2 5 rfl) rfl
 refine Y2 P0 e4 rfl ?_
 exact qn (.refl _) rfl hS rfl
 intro i0 i1 i2 i3 f6 hS f7 d3 hcq
 refine V5 (Z7 .u8 ((rd a0 a1).1)) N0 (eM (d3 1 15 rfl rfl)) (hS.get (o := cA (Z7 .u8 ((rd a0 a1).1) ++ [vI ((rd a0 a1).2)]) 76) (mR mL)) rfl (fun j hj => Zj5 ([]) (Z7 .u8 ((rd a0 a1).1)) (([vI ((rd a0 a1).2)])) j hj) rfl ?_
 exact qn (.refl _) rfl hS rfl
 intro i4 i5 i6 i7 f8 hS f9 d4 hcq
 refine Y8 Tryz.call176 (Q8 (eM (d4 2 16 rfl rfl))) rfl (Zn9 d0  hS) ?_
 rintro i8 i9 ⟨j0, j1, rfl, d5, hS, ⟨_, rfl, rfl⟩⟩
 refine ⟨_, rfl, ?_⟩
 exact qn d5 rfl hS rfl
 intro e5 j2 j3 j4 g0 hS d6 g1 hcq
 have e6 : ev e5 (.tmp 5) = vP b8 := Eq.trans (d6 5 rfl) rfl
 refine Y2 Zc0 e6 rfl ?_
 exact qn (.refl _) rfl hS rfl
 intro j5 j6 j7 j8 g2 hS g3 d7 hcq
 refine Y4 (vI ((rd a0 a1).2)) ty2 (eM (d7 4 18 rfl rfl)) (hS.get (mR mL)) rfl rfl ?_
 exact qn (.refl _) rfl hS rfl
 intro j9 e7 c5 c0 hS b6 c1 hcq
 have hS : St c5 e7 ([(b8, cA (Z7 .u8 ((rd a0 a1).1) ++ [vI ((rd a0 a1).2)]) 76)] ++ (a4 ++ ([(b1, cA ([s0]) 47)] ++ L))) := hS
 have Z2 := Z2.trans c0
 have a8 := a8.mono c0
 have a6 := a6.mono c0
 have hS := hS.perm U4
 refine Yr7 (a := b7) (m := (rd a0 a1).2) Zm8 (by exact (eM (c1 0 14 (by decide) rfl))) (by exact (eM (c1 3 17 (by decide) rfl))) (by exact (eM (c1 5 19 (by decide) rfl))) a6 hS ?_
 intro k0 e8 d8 hS
 have hS := hS.perm U4.symm
 refine Z0 (X2 (Z1 ?_))
 refine V0 (a1 + 1) (by exact (evT (b6 10 rfl) b0)) rfl (IntWalk.i64_in _ (by omega)) rfl (Z4 (vI (a1 + 1)) rfl rfl (Z0 ?_))
 have hS := St.dropA hS
 exact e1 _ _ ⟨(a1 + 1), (A9 a3 b7 ((rd a0 a1).2)), c5, e8, a5, Z2, hS, (by omega), d8, a8, (evT (b6 3 rfl) b2), (evT (b6 8 rfl) b3), (evT (b6 9 rfl) b4), rfl⟩
 rw [if_neg b5] at a5
 refine Z9 (bF b5 rfl) ?_
 refine W4 rfl ?_
 have hz := Option.some.inj a5
 subst hz
 exact e2 _ _ ⟨a3, c6, a4, rfl, Z2, hS, a6, a8, b2⟩
 exact ⟨0, ([] : MpT), H, C6, a5, Z2, hS, (by omega), e0, a8, rfl, rfl, rfl, rfl⟩
 rintro g4 g5 ⟨a7, g6, a9, rfl, Z2, hS, b9, a8, c2⟩
 dsimp only [Ex.elim] at c4
 refine Z3 (Z1 (Z4 (m4) (by exact c2) rfl (Z6 (m4) rfl rfl (Z0 ?_))))
 refine Y9 (vs := [m4]) Tryz.func90 ⟨rfl, trivial⟩ ?_
 have hS := St.dropMid hS
 have hz := Option.some.inj c4
 subst hz
 exact ⟨_, _, _, rfl, Z2, hS, b9⟩
def J9 (K : Nat) (a0 : (List Int)) : Nat → Int → Option (Ex Bool (Unit))
 | 0, _ => none
 | k + 1, a1 => (if a1 < (a0.length : Int) then ((Zj6 K (rd a0 a1) 1 12).bind fun r4 => (if r4 = true then J9 K a0 k (a1 + 1) else some (.ret false))) else some (.go ()))
def Zh9 (K : Nat) (a0 : (List Int)) : Option Bool := ((J9 K a0 K 0).bind (Ex.elim (fun r => some r) (fun s => some (decide ((a0.length : Int) ≤ 8)))))
theorem Yj1 {K : Nat} {a0 : (List Int)} {r : Bool} (q0 : Zh9 K a0 = some r) {H : FH} {w : World} {L : OL} {s0 : Value} (a4 : Y3 (X3 .i64) H s0 a0) (hS : St H w L) :
 Calls Tryz.prog 178 #[s0] w (T6 (fun v G => R.bool.p G v r) H L) := by
 have Z2 := Sub.refl H
 refine X0 Tryz.func178 rfl Tryz.ntmps178 rfl ?_
 unfold Zh9 at q0
 refine Z3 (Z1 (Z6 (Value.bool false) rfl rfl (Z0 (Z3 (Z3 (Z1 (Z6 (vI 0) rfl rfl (Z0 (Y7 ?_)))))))))
 obtain ⟨b1, a3, a7⟩ := bind_some q0
 refine W7 (id := 0) (fun k f w => ∃ (a1 : Int) (H1 : FH), J9 K a0 k a1 = some b1 ∧ Sub H H1 ∧ St H1 w (L) ∧ 0 ≤ a1 ∧ Y3 (X3 .i64) H1 s0 a0 ∧ ev f (.tmp 0) = s0 ∧ ev f (.tmp 3) = vI a1) (fun f w => ∃ (H1 : FH), b1 = .go () ∧ Sub H H1 ∧ St H1 w (L) ∧ Y3 (X3 .i64) H1 s0 a0 ∧ ev f (.tmp 0) = s0) rfl ?_ ?_ K ?_ ?_
 rintro f w ⟨a1, H1, a3, _⟩
 rw [J9] at a3; cases a3
 rintro k c2 c3 b5 b6 ⟨a1, b4, a3, Z2, hS, b7, a4, a5, a6⟩
 rw [J9] at a3
 refine Z3 (Z3 (Z1 (Z4 (vI a1) (by exact a6) rfl (Z4 (s0) (by exact a5) rfl ?_))))
 have c7 := a4.bound
 refine W6 Q9 rfl a4 rfl ?_
 refine U5 (k := .i64) (a := a1) (b := (a0.length : Int)) rfl rfl rfl (Z0 ?_)
 by_cases a8 : a1 < (a0.length : Int)
 rw [if_pos a8] at a3
 refine Y0 (bT a8 rfl) (Y6 (Z3 (Y7 (Z3 (Z1 (Z4 (s0) (by exact a5) rfl (Z4 (vI a1) (by exact a6) rfl ?_)))))))
 obtain ⟨b3, o3, c8, E3, _, b8, b9, rfl, c0⟩ := a4.elem (i := a1) (by omega) (by omega)
 refine W3 Q9 rfl rfl b8 rfl (by omega) (by omega) rfl ?_
 refine Y4 (vI (rd a0 a1)) ty2 rfl (hS.froz _ _ b9) (c0 0 (show 0 < 1 by decide)) rfl ?_
 obtain ⟨r4, c1, a3⟩ := bind_some a3
 refine Y8 Tryz.call93 (N8 rfl rfl rfl) rfl (Zm7 c1  hS) ?_
 rintro e4 w5 ⟨_, H4, rfl, b2, hS, rfl⟩
 refine ⟨_, rfl, ?_⟩
 have Z2 := Z2.trans b2
 have a4 := a4.mono b2
 refine N7 (b := r4) rfl rfl (Z0 ?_)
 by_cases a9 : r4 = true
 rw [if_pos a9] at a3
 refine Z9 (Eq.trans rfl (congrArg (fun b => Value.bool (!b)) a9)) (Y6 (X2 (Z1 (Z4 (vI a1) (by exact a6) rfl ?_))))
 refine V0 (a1 + 1) rfl rfl (IntWalk.i64_in _ (by omega)) rfl (Z6 (vI (a1 + 1)) rfl rfl (Z0 ?_))
 exact b5 _ _ ⟨(a1 + 1), H4, a3, Z2, hS, (by omega), a4, a5, rfl⟩
 rw [if_neg a9] at a3
 refine Y0 (Eq.trans rfl (congrArg (fun b => Value.bool (!b)) (W2 a9))) (Z3 (Z1 (Z6 (Value.bool false) rfl rfl (Z0 ?_))))
 refine Y9 (vs := [Value.bool false]) Tryz.func178 ⟨rfl, trivial⟩ ?_
 have hz := Option.some.inj a3
 subst hz
 dsimp only [Ex.elim] at a7
 have hz := Option.some.inj a7
 subst hz
 exact ⟨_, _, rfl, Z2, hS, rfl⟩
 rw [if_neg a8] at a3
 refine Z9 (bF a8 rfl) ?_
 refine W4 rfl ?_
 have hz := Option.some.inj a3
 subst hz
 exact b6 _ _ ⟨b4, rfl, Z2, hS, a4, a5⟩
 exact ⟨0, H, a3, Z2, hS, (by omega), a4, rfl, rfl⟩
 rintro c4 c5 ⟨c6, rfl, Z2, hS, a4, b0⟩
 dsimp only [Ex.elim] at a7
 refine Z3 (Z1 (Z4 (s0) (by exact b0) rfl ?_))
 have c9 := a4.bound
 refine W6 Q9 rfl a4 rfl ?_
 refine Yp5 (k := .i64) (a := (a0.length : Int)) (b := 8) rfl rfl rfl (Z6 (Value.bool (decide ((a0.length : Int) ≤ 8))) rfl rfl (Z0 ?_))
 refine Y9 (vs := [Value.bool (decide ((a0.length : Int) ≤ 8))]) Tryz.func178 ⟨rfl, trivial⟩ ?_
 have hz := Option.some.inj a7
 subst hz
 exact ⟨_, _, rfl, Z2, hS, rfl⟩
def Zq4 (K : Nat) (a0 : (A8 × Int)) (a1 : (A8 × Int)) : Option Bool := ((Zi2 K a0.1 a1.1).bind fun r7 => (if r7 = true then (if a0.2 = a1.2 then some true else some false) else some false))
theorem Yu5 {K : Nat} {a0 : (A8 × Int)} {a1 : (A8 × Int)} {r : Bool} (q0 : Zq4 K a0 a1 = some r) {H : FH} {w : World} {L : OL} (hS : St H w L) :
 Calls Tryz.prog 201 #[vA (Z7 .u8 a0.1 ++ [vI a0.2]), vA (Z7 .u8 a1.1 ++ [vI a1.2])] w (T6 (fun v G => R.bool.p G v r) H L) := by
 have Z2 := Sub.refl H
 refine X0 Tryz.func201 rfl Tryz.ntmps201 rfl ?_
 unfold Zq4 at q0
 refine Z3 (Z1 ?_)
 refine T7 (v := vA (Z7 .u8 a0.1 ++ [vI a0.2])) (Z7 .u8 a0.1 ++ [vI a0.2]).toArray rfl rfl hS rfl ?_
 intro b1 w2 hS
 refine T7 (v := vA (Z7 .u8 a1.1 ++ [vI a1.2])) (Z7 .u8 a1.1 ++ [vI a1.2]).toArray rfl rfl hS rfl ?_
 intro b4 w5 hS
 refine Z6 (Value.bool false) rfl rfl (Z0 (Z3 (Z3 (Z1 (Y2 P0 rfl rfl ?_)))))
 refine V5 (Z7 .u8 a0.1) N0 rfl (hS.get (o := cA (Z7 .u8 a0.1 ++ [vI a0.2]) 76) (mR mL)) rfl (fun j hj => Zj5 ([]) (Z7 .u8 a0.1) (([vI a0.2])) j hj) rfl (Y2 P0 rfl rfl ?_)
 refine V5 (Z7 .u8 a1.1) N0 rfl (hS.get (o := cA (Z7 .u8 a1.1 ++ [vI a1.2]) 76) mL) rfl (fun j hj => Zj5 ([]) (Z7 .u8 a1.1) (([vI a1.2])) j hj) rfl ?_
 obtain ⟨r7, a5, q0⟩ := bind_some q0
 refine Y8 Tryz.call268 (T0 rfl rfl) rfl (Yi6 a5  hS) ?_
 rintro e7 w8 ⟨_, H7, rfl, a6, hS, rfl⟩
 refine ⟨_, rfl, ?_⟩
 have Z2 := Z2.trans a6
 refine N7 (b := r7) rfl rfl (Z0 ?_)
 by_cases a4 : r7 = true
 rw [if_pos a4] at q0
 refine Z9 (Eq.trans rfl (congrArg (fun b => Value.bool (!b)) a4)) (Y6 (Z3 (Z3 (Z1 (Y2 Zc0 rfl rfl ?_)))))
 refine Y4 (vI a0.2) ty2 rfl (hS.get (mR mL)) rfl rfl (Y2 Zc0 rfl rfl ?_)
 refine Y4 (vI a1.2) ty2 rfl (hS.get mL) rfl rfl ?_
 refine L9 (k := .i64) (a := a0.2) (b := a1.2) rfl rfl rfl (Z0 ?_)
 by_cases a3 : a0.2 = a1.2
 rw [if_pos a3] at q0
 refine Z9 (bN a3 rfl) (Y6 (Z3 (Z1 (Z6 (Value.bool true) rfl rfl (Z0 ?_)))))
 refine Y9 (vs := [Value.bool true]) Tryz.func201 ⟨rfl, trivial⟩ ?_
 have hz := Option.some.inj q0
 subst hz
 exact ⟨_, _, rfl, Z2, (St.dropA (St.dropA hS)), rfl⟩
 rw [if_neg a3] at q0
 refine Y0 (bO a3 rfl) (Z3 (Z1 (Z6 (Value.bool false) rfl rfl (Z0 ?_))))
 refine Y9 (vs := [Value.bool false]) Tryz.func201 ⟨rfl, trivial⟩ ?_
 have hz := Option.some.inj q0
 subst hz
 exact ⟨_, _, rfl, Z2, (St.dropA (St.dropA hS)), rfl⟩
 rw [if_neg a4] at q0
 refine Y0 (Eq.trans rfl (congrArg (fun b => Value.bool (!b)) (W2 a4))) (Z3 (Z1 (Z6 (Value.bool false) rfl rfl (Z0 ?_))))
 refine Y9 (vs := [Value.bool false]) Tryz.func201 ⟨rfl, trivial⟩ ?_
 have hz := Option.some.inj q0
 subst hz
 exact ⟨_, _, rfl, Z2, (St.dropA (St.dropA hS)), rfl⟩
def Zl5 (K : Nat) (a0 : MpT) (a1 : Int) : Option Int := ((Zt4 K a0 a1).bind fun r4 => (if r4 < 0 then some (-1) else some r4))
theorem Yd2 {K : Nat} {a0 : MpT} {a1 : Int} {r : Int} (q0 : Zl5 K a0 a1 = some r) {H : FH} {w : World} {L : OL} {s0 : Value} (a4 : Y3 yT H s0 a0) (hS : St H w L) :
 Calls Tryz.prog 27 #[vA ([s0]), vI a1] w (T6 (fun v G => (R.int .i64).p G v r) H L) := by
 have Z2 := Sub.refl H
 refine X0 Tryz.func27 rfl Tryz.ntmps27 rfl ?_
 unfold Zl5 at q0
 refine Z3 (Z1 ?_)
 refine T7 (v := vA ([s0])) ([s0]).toArray rfl rfl hS rfl ?_
 intro b1 w2 hS
 refine Z6 (vI 0) rfl rfl (Z0 (Z3 (Z1 (Y2 Xn3 rfl rfl ?_))))
 refine Y4 (s0) Wj5 rfl (hS.get mL) rfl rfl (Z4 (vI a1) rfl rfl ?_)
 obtain ⟨r4, a5, q0⟩ := bind_some q0
 refine Y8 Tryz.call105 (T0 rfl rfl) rfl (Yr5 a5 a4 hS) ?_
 rintro e4 w5 ⟨_, H4, rfl, a6, hS, rfl⟩
 refine ⟨_, rfl, ?_⟩
 have Z2 := Z2.trans a6
 refine Z6 (vI r4) rfl rfl (Z0 (Z3 (Z3 (Z1 (Z4 (vI r4) rfl rfl ?_)))))
 refine U5 (k := .i64) (a := r4) (b := 0) rfl rfl rfl (Z0 ?_)
 by_cases a3 : r4 < 0
 rw [if_pos a3] at q0
 refine Y0 (bT a3 rfl) (Z3 (Z1 (Z6 (vI (-1)) rfl rfl (Z0 ?_))))
 refine Y9 (vs := [vI (-1)]) Tryz.func27 ⟨rfl, trivial⟩ ?_
 have hz := Option.some.inj q0
 subst hz
 exact ⟨_, _, rfl, Z2, (St.dropA hS), rfl⟩
 rw [if_neg a3] at q0
 refine Z9 (bF a3 rfl) (Y6 (Z3 (Z1 (Z4 (vI r4) rfl rfl (Z6 (vI r4) rfl rfl (Z0 ?_))))))
 refine Y9 (vs := [vI r4]) Tryz.func27 ⟨rfl, trivial⟩ ?_
 have hz := Option.some.inj q0
 subst hz
 exact ⟨_, _, rfl, Z2, (St.dropA hS), rfl⟩
def Zc4 (K : Nat) (a0 : ((List Int) × (List MpT))) (a1 : Int) : Option Bool := ((Zh8 K a1 0 (IntKind.i64.wrap ((a0.1.length : Int) - 1))).bind fun r2 => some r2)
theorem Zx4 {K : Nat} {a0 : ((List Int) × (List MpT))} {a1 : Int} {r : Bool} (q0 : Zc4 K a0 a1 = some r) {H : FH} {w : World} {L : OL} {s0 : Value} (a8 : Zq0 (Zh7 (X6 (X3 .i64)) (X6 (X6 yT))) H s0 a0) (hS : St H w L) :
 Calls Tryz.prog 87 #[s0, vI a1] w (T6 (fun v G => R.bool.p G v r) H L) := by
 obtain ⟨a9, b0, b4, b5, _, rfl, a5, ⟨_, _, rfl, ⟨a4, rfl, a3⟩, ⟨b1, rfl, a7⟩⟩, a6⟩ := a8
 have Z2 := Sub.refl H
 refine X0 Tryz.func87 rfl Tryz.ntmps87 rfl ?_
 unfold Zc4 at q0
 refine Z3 (Z1 (Z6 (Value.bool false) rfl rfl (Z0 (Z3 (Z1 (Z4 (vI a1) rfl rfl (Z4 (Value.pointer (some ⟨a9, b0, none⟩)) rfl rfl (K3 rfl rfl (Y2 R4 rfl rfl ?_)))))))))
 refine Y4 (a4) J3 rfl (hS.froz _ _ a5) (a6 0 (show 0 < 2 by decide)) rfl ?_
 have b6 := a3.bound
 refine W6 Q9 rfl a3 rfl ?_
 refine Zu4 (IntKind.i64.wrap ((a0.1.length : Int) - 1)) rfl rfl rfl rfl ?_
 obtain ⟨r2, b2, q0⟩ := bind_some q0
 refine Y8 Tryz.call97 (N8 rfl rfl rfl) rfl (Zu6 b2  hS) ?_
 rintro e2 w3 ⟨_, H2, rfl, b3, hS, rfl⟩
 refine ⟨_, rfl, ?_⟩
 have Z2 := Z2.trans b3
 refine Z6 (Value.bool r2) rfl rfl (Z0 ?_)
 refine Y9 (vs := [Value.bool r2]) Tryz.func87 ⟨rfl, trivial⟩ ?_
 have hz := Option.some.inj q0
 subst hz
 exact ⟨_, _, rfl, Z2, hS, rfl⟩
def Zj0 (K : Nat) (a0 : Int) : Option Bool := ((Zh8 K a0 1 12).bind fun r1 => some (!r1))
theorem Ye5 {K : Nat} {a0 : Int} {r : Bool} (q0 : Zj0 K a0 = some r) {H : FH} {w : World} {L : OL} (hS : St H w L) :
 Calls Tryz.prog 219 #[vI a0] w (T6 (fun v G => R.bool.p G v r) H L) := by
 have Z2 := Sub.refl H
 refine X0 Tryz.func219 rfl Tryz.ntmps219 rfl ?_
 unfold Zj0 at q0
 refine Z3 (Z1 (Z6 (Value.bool false) rfl rfl (Z0 (Z3 (Z1 (Z4 (vI a0) rfl rfl ?_))))))
 obtain ⟨r1, a1, q0⟩ := bind_some q0
 refine Y8 Tryz.call97 (N8 rfl rfl rfl) rfl (Zu6 a1  hS) ?_
 rintro e1 w2 ⟨_, H1, rfl, a3, hS, rfl⟩
 refine ⟨_, rfl, ?_⟩
 have Z2 := Z2.trans a3
 refine N7 (b := r1) rfl rfl (Z6 (Value.bool (!r1)) rfl rfl (Z0 ?_))
 refine Y9 (vs := [Value.bool (!r1)]) Tryz.func219 ⟨rfl, trivial⟩ ?_
 have hz := Option.some.inj q0
 subst hz
 exact ⟨_, _, rfl, Z2, hS, rfl⟩
def B7 (K : Nat) (a0 : Int) : Nat → Int → (List MpT) → Option (Ex (List MpT) ((List MpT)))
 | 0, _, _ => none
 | k + 1, a4, a3 => (if a4 < a0 then ((Zj7 K a4).bind fun b2 => (if a3.length + ([(A9 ([] : MpT) b2 1)]).length ≤ 1099511627776 then B7 K a0 k (IntKind.i64.wrap (a4 + 1)) (a3 ++ [(A9 ([] : MpT) b2 1)]) else none)) else some (.go a3))
def Zo2 (K : Nat) (a0 : Int) : Option (List MpT) := ((B7 K a0 K 0 ([] : List MpT)).bind (Ex.elim (fun r => some r) (fun s => (fun (a9 : (List MpT)) => some a9) s)))
end Go.Proofs.YtfodlhkoafhplaaGreat
