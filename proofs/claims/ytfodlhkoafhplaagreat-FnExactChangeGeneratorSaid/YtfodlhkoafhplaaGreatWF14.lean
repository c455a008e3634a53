/- Walks of functions: each computes its pure function, if that gives a value. -/
import Derived.Test.YtfodlhkoafhplaaGreatWTy
import Derived.Test.YtfodlhkoafhplaaGreatWF5
import Derived.Test.YtfodlhkoafhplaaGreatWF8
import Derived.Test.YtfodlhkoafhplaaGreatWF9
import Derived.Test.YtfodlhkoafhplaaGreatWF12
import Derived.Test.YtfodlhkoafhplaaGreatWF3
import Derived.Test.YtfodlhkoafhplaaGreatWF11
import Derived.Test.YtfodlhkoafhplaaGreatWF10
namespace Go.Proofs.YtfodlhkoafhplaaGreat
open Go
set_option linter.unusedSimpArgs false
set_option linter.unusedVariables false
set_option maxRecDepth 100000
set_option maxHeartbeats 8000000
def J7 (K : Nat) (a0 : (List Int)) (a1 : (List MpT)) (a2 : MpT) (a4 : Int) : Nat → Int → MpT → Option (Ex MpT (MpT))
 | 0, _, _ => none
 | k + 1, a3, a7 => (if a3 < (a1.length : Int) then (if a3 < 8 then (if 0 < (Y5 ((rd a2 a4).1) a3) then ((Zm6 K a0 (rd a1 a3) (Y5 ((rd a2 a4).1) a3)).bind fun f9 => ((F2 K a0 a7 f9).bind fun e8 => J7 K a0 a1 a2 a4 k (a3 + 1) e8)) else J7 K a0 a1 a2 a4 k (a3 + 1) a7) else none) else some (.go a7))
def F5 (K : Nat) (a0 : (List Int)) (a1 : (List MpT)) (a2 : MpT) : Nat → Int → MpT → Option (Ex MpT (MpT))
 | 0, _, _ => none
 | k + 1, a4, a9 => (if a4 < (a2.length : Int) then ((L3 K (fun _ => 0) ((rd a2 a4).2)).bind fun h9 => ((J7 K a0 a1 a2 a4 K 0 h9).bind (Ex.elim (fun r => some (.ret r)) (fun s => (fun (b8 : MpT) => ((Zb0 K a9 b8 1).bind fun g0 => F5 K a0 a1 a2 k (a4 + 1) g0)) s)))) else some (.go a9))
def Zm4 (K : Nat) (a0 : (List Int)) (a1 : (List MpT)) (a2 : MpT) : Option MpT := ((F5 K a0 a1 a2 K 0 ([] : List (A8 × Int))).bind (Ex.elim (fun r => some r) (fun s => (fun (c1 : MpT) => some c1) s)))
theorem Yo2 {K : Nat} {a0 : (List Int)} {a1 : (List MpT)} {a2 : MpT} {r : MpT} (q0 : Zm4 K a0 a1 a2 = some r) {H : FH} {w : World} {L : OL} {s0 : Value} {s1 : Value} {s2 : Value} (b5 : Y3 (X3 .i64) H s0 a0) (b9 : Y3 (X6 yT) H s1 a1) (b3 : Y3 yT H s2 a2) (hS : St H w L) :
 Calls Tryz.prog 81 #[s0, s1, vA ([s2])] w (T6 (fun v G => (R.agg (X6 yT)).p G v r) H L) := by
 have Z2 := Sub.refl H
 refine X0 Tryz.func81 rfl Tryz.ntmps81 rfl ?_
 unfold Zm4 at q0
 refine Z3 (Z1 ?_)
 refine T7 (v := vA ([s2])) ([s2]).toArray rfl rfl hS rfl ?_
 intro b1 w2 hS
 refine W9 (z := vA ([vN])) ([vN]).toArray Zb2.zero rfl hS rfl ?_
 intro b4 w5 hS
 refine Z0 (Z3 (Z1 ?_))
 refine Q2 (vA ([vN])) Yc4 rfl ?_
 refine W9 (z := vA ([vN])) ([vN]).toArray Zb2.zero rfl hS rfl ?_
 intro b7 w8 hS
 refine W1 (v := vA ([vN])) (vs := ([vN]).toArray) (cs := ([vN]).toArray) U7 rfl rfl rfl hS rfl (S2 rfl) rfl ?_
 intro y6 hS
 refine Z0 (Z3 (Z3 (Z1 (Z6 (vI 0) rfl rfl (Z0 (Y7 ?_))))))
 have i0 : Y3 yT H (.slice none 0 0) ([] : List (A8 × Int)) := Y3.nil
 obtain ⟨i1, c2, i2⟩ := bind_some q0
 refine W7 (id := 0) (fun k f w => ∃ (a4 : Int) (a9 : MpT) (H1 : FH) (a6 : Value), F5 K a0 a1 a2 k a4 a9 = some i1 ∧ Sub H H1 ∧ St H1 w ([(b7, cA ([a6]) 47)] ++ ([(b4, cA ([vN]) 47)] ++ ([(b1, cA ([s2]) 47)] ++ L))) ∧ 0 ≤ a4 ∧ Y3 yT H1 a6 a9 ∧ Y3 (X3 .i64) H1 s0 a0 ∧ Y3 (X6 yT) H1 s1 a1 ∧ Y3 yT H1 s2 a2 ∧ ev f (.tmp 0) = s0 ∧ ev f (.tmp 1) = s1 ∧ ev f (.tmp 5) = vP b1 ∧ ev f (.tmp 6) = vP b4 ∧ ev f (.tmp 7) = vP b7 ∧ ev f (.tmp 8) = vI a4) (fun f w => ∃ (c1 : MpT) (H1 : FH) (b2 : Value), i1 = .go c1 ∧ Sub H H1 ∧ St H1 w ([(b7, cA ([b2]) 47)] ++ ([(b4, cA ([vN]) 47)] ++ ([(b1, cA ([s2]) 47)] ++ L))) ∧ Y3 yT H1 b2 c1 ∧ Y3 yT H1 s2 a2 ∧ ev f (.tmp 6) = vP b4 ∧ ev f (.tmp 7) = vP b7) rfl ?_ ?_ K ?_ ?_
 rintro f w ⟨a4, a9, H1, a6, c2, _⟩
 rw [F5] at c2; cases c2
 rintro k p5 p6 n1 n2 ⟨a4, a9, k5, a6, c2, Z2, hS, n3, a5, b5, b9, b3, g9, h0, d3, e4, e5, d4⟩
 rw [F5] at c2
 refine Z3 (Z3 (Z1 (Z4 (vI a4) (by exact d4) rfl (Y2 V6 (by exact d3) rfl ?_))))
 refine Y4 (s2) R7 rfl (hS.get (mR (mR mL))) rfl rfl ?_
 have p7 := b3.bound
 refine W6 S9 rfl b3 rfl ?_
 refine U5 (k := .i64) (a := a4) (b := (a2.length : Int)) rfl rfl rfl (Z0 ?_)
 by_cases e9 : a4 < (a2.length : Int)
 rw [if_pos e9] at c2
 refine Y0 (bT e9 rfl) (Y6 (Z3 (Y7 (Z3 (Z1 ?_)))))
 refine Q2 (vA (Z7 .u8 (fun _ => 0))) Yt1 rfl (Y2 V6 (by exact d3) rfl ?_)
 refine Y4 (s2) R7 rfl (hS.get (mR (mR mL))) rfl rfl (Z4 (vI a4) (by exact d4) rfl ?_)
 obtain ⟨y7, y8, p8, y9, _, k6, k7, ⟨_, _, rfl, rfl, rfl⟩, k8⟩ := b3.elem (i := a4) (by omega) (by omega)
 refine W3 S9 rfl rfl k6 rfl (by omega) (by omega) rfl (Y2 Zc0 rfl rfl ?_)
 refine Y4 (vI ((rd a2 a4).2)) ty2 rfl (hS.froz _ _ k7) (k8 8 (show 8 < 9 by decide)) rfl ?_
 obtain ⟨h9, k9, c2⟩ := bind_some c2
 refine Y8 Tryz.call170 (T0 rfl rfl) rfl (Zf5 k9  hS) ?_
 rintro z0 z1 ⟨z2, n4, rfl, d9, hS, ⟨_, rfl, ⟨f0, rfl, f7⟩⟩⟩
 refine ⟨_, rfl, ?_⟩
 have Z2 := Z2.trans d9
 have b5 := b5.mono d9
 have b9 := b9.mono d9
 have b3 := b3.mono d9
 have a5 := a5.mono d9
 refine W9 (z := vA ([vN])) ([vN]).toArray Zb2.zero rfl hS rfl ?_
 intro f8 z3 hS
 refine W1 (v := vA ([f0])) (vs := ([f0]).toArray) (cs := ([vN]).toArray) U7 rfl rfl rfl hS rfl (S2 f7.isOne) rfl ?_
 intro z4 hS
 refine Z0 (Z3 (Z3 (Z1 (Z6 (vI 0) rfl rfl (Z0 (Y7 ?_))))))
 obtain ⟨i3, b0, f1⟩ := bind_some c2
 refine W7 (id := 2) (fun k f w => ∃ (a3 : Int) (a7 : MpT) (H1 : FH) (a8 : Value), J7 K a0 a1 a2 a4 k a3 a7 = some i3 ∧ Sub H H1 ∧ St H1 w ([(f8, cA ([a8]) 47)] ++ ([(b7, cA ([a6]) 47)] ++ ([(b4, cA ([vN]) 47)] ++ ([(b1, cA ([s2]) 47)] ++ L)))) ∧ 0 ≤ a3 ∧ Y3 yT H1 a8 a7 ∧ Y3 (X3 .i64) H1 s0 a0 ∧ Y3 (X6 yT) H1 s1 a1 ∧ Y3 yT H1 s2 a2 ∧ Y3 yT H1 a6 a9 ∧ ev f (.tmp 0) = s0 ∧ ev f (.tmp 1) = s1 ∧ ev f (.tmp 5) = vP b1 ∧ ev f (.tmp 6) = vP b4 ∧ ev f (.tmp 7) = vP b7 ∧ ev f (.tmp 8) = vI a4 ∧ ev f (.tmp 9) = vP f8 ∧ ev f (.tmp 10) = vI a3) (fun f w => ∃ (b8 : MpT) (H1 : FH) (c4 : Value), i3 = .go b8 ∧ Sub H H1 ∧ St H1 w ([(f8, cA ([c4]) 47)] ++ ([(b7, cA ([a6]) 47)] ++ ([(b4, cA ([vN]) 47)] ++ ([(b1, cA ([s2]) 47)] ++ L)))) ∧ Y3 yT H1 c4 b8 ∧ Y3 (X3 .i64) H1 s0 a0 ∧ Y3 (X6 yT) H1 s1 a1 ∧ Y3 yT H1 s2 a2 ∧ Y3 yT H1 a6 a9 ∧ ev f (.tmp 0) = s0 ∧ ev f (.tmp 1) = s1 ∧ ev f (.tmp 5) = vP b1 ∧ ev f (.tmp 6) = vP b4 ∧ ev f (.tmp 7) = vP b7 ∧ ev f (.tmp 8) = vI a4 ∧ ev f (.tmp 9) = vP f8) rfl ?_ ?_ K ?_ ?_
 rintro f w ⟨a3, a7, H1, a8, b0, _⟩
 rw [J7] at b0; cases b0
 rintro k p9 q1 k4 n5 ⟨a3, a7, i4, a8, b0, Z2, hS, n0, b6, b5, b9, b3, a5, c5, c6, c7, d5, d6, c8, c9, c0⟩
 rw [J7] at b0
 refine Z3 (Z3 (Z1 (Z4 (vI a3) (by exact c0) rfl (Z4 (s1) (by exact c6) rfl ?_))))
 have q2 := b9.bound
 refine W6 J2 rfl b9 rfl ?_
 refine U5 (k := .i64) (a := a3) (b := (a1.length : Int)) rfl rfl rfl (Z0 ?_)
 by_cases f2 : a3 < (a1.length : Int)
 rw [if_pos f2] at b0
 refine Y0 (bT f2 rfl) (Y6 (Z3 (Y7 (Z3 (Z1 (Y2 V6 (by exact c7) rfl ?_))))))
 refine Y4 (s2) R7 rfl (hS.get (mR (mR (mR mL)))) rfl rfl (Z4 (vI a4) (by exact c8) rfl (Z4 (vI a3) (by exact c0) rfl ?_))
 obtain ⟨z5, z6, q3, z7, _, l0, l1, ⟨_, _, rfl, rfl, rfl⟩, l2⟩ := b3.elem (i := a4) (by omega) (by omega)
 refine W3 S9 rfl rfl l0 rfl (by omega) (by omega) rfl (Y2 P0 rfl rfl ?_)
 obtain ⟨q4, b0⟩ := gd b0
 refine W8 Za7 rfl rfl (by omega) (by omega) rfl ?_
 refine Y4 (Value.int .u8 (Y5 ((rd a2 a4).1) a3)) ty5 rfl (hS.froz _ _ l1) (Yn2 ([]) (([vI ((rd a2 a4).2)])) l2 (Nat.le_of_ble_eq_true rfl) (by omega) (by omega)) rfl ?_
 refine Zc5 (k := .u8) (a := (Y5 ((rd a2 a4).1) a3)) (b := 0) rfl rfl rfl (Z0 ?_)
 by_cases f3 : 0 < (Y5 ((rd a2 a4).1) a3)
 rw [if_pos f3] at b0
 refine Y0 (bT f3 rfl) ?_
 obtain ⟨n6, n7, q5, z8, _, l3, g1, ⟨g4, rfl, e0⟩, l4⟩ := b9.elem (i := a3) (by omega) (by omega)
 obtain ⟨g2, g3, n9, q6, _, i8, f4, ⟨_, _, rfl, rfl, rfl⟩, i9⟩ := b3.elem (i := a4) (by omega) (by omega)
 obtain ⟨f9, j0, b0⟩ := bind_some b0
 obtain ⟨e8, j1, b0⟩ := bind_some b0
 refine V4 17 (R9 [(42, MP.eq (s0)), (43, MP.eq (vA ([a8]))), (44, MP.eq (s0)), (45, MP.eq (s1)), (46, MP.eq (vI a3)), (47, MP.eq (Value.pointer (some ⟨n6, n7, none⟩))), (48, MP.eq (vA ([g4]))), (49, MP.eq (vP b1)), (50, MP.eq (s2)), (51, MP.eq (vI a4)), (52, MP.eq (vI a3)), (53, MP.eq (Value.pointer (some ⟨g2, g3, none⟩))), (54, MP.eq (Value.pointer (some ⟨g2, g3 + 0, none⟩))), (55, MP.eq (Value.pointer (some ⟨g2, g3 + 0 + (a3).toNat * 1, none⟩))), (56, MP.eq (Value.int .u8 (Y5 ((rd a2 a4).1) a3))), (57, MP.rep (R.agg (X6 yT)) (f9)), (58, MP.rep (R.agg (X6 yT)) (e8))]) [] mixed rfl rfl rfl hS (Z5 rfl ?_ (Z5 rfl ?_ (Z5 rfl ?_ (Z5 rfl ?_ (Z5 rfl ?_ (Z5 rfl ?_ (Z5 rfl ?_ (Z5 rfl ?_ (Z5 rfl ?_ (Z5 rfl ?_ (Z5 rfl ?_ (Z5 rfl ?_ (Z5 rfl ?_ (Z5 rfl ?_ (Z5 rfl ?_ (Z5 rfl ?_ (Z5 rfl ?_ V9))))))))))))))))) ?_
 intro z9 w26 H27 X28 q7 hS l5 q8 hcq
 refine Z4 (s0) (evT (l5 0 rfl) c5) rfl ?_
 exact qn (.refl _) rfl hS rfl
 intro f34 w35 H36 X37 q9 hS l6 r0 hcq
 refine X8 U7 (evT (l6 9 rfl) c9) (hS.get (mR mL)) rfl rfl ?_
 exact qn (.refl _) rfl hS rfl
 intro f43 w44 H45 X46 r1 hS l7 r2 hcq
 refine Z4 (s0) (evT (l7 0 rfl) c5) rfl ?_
 exact qn (.refl _) rfl hS rfl
 intro f52 w53 H54 X55 r3 hS l9 r4 hcq
 refine Z4 (s1) (evT (l9 1 rfl) c6) rfl ?_
 exact qn (.refl _) rfl hS rfl
 intro f61 w62 H63 X64 r5 hS m0 r6 hcq
 refine Z4 (vI a3) (evT (m0 10 rfl) c0) rfl ?_
 exact qn (.refl _) rfl hS rfl
 intro f70 w71 H72 X73 r7 hS r8 i5 hcq
 refine W3 J2 rfl (eM (i5 3 45 rfl rfl)) l3 (eM (i5 4 46 rfl rfl)) (by omega) (by omega) rfl ?_
 exact qn (.refl _) rfl hS rfl
 intro f81 w82 H83 X84 m1 hS r9 m2 hcq
 have g1 := m1.1 _ _ g1
 refine V5 ([g4]) U7 (eM (m2 5 47 rfl rfl)) (hS.froz _ _ g1) rfl l4 rfl ?_
 exact qn (.refl _) rfl hS rfl
 intro f90 w91 H92 X93 s3 hS m3 s4 hcq
 refine Y2 V6 (evT (m3 5 rfl) c7) rfl ?_
 exact qn (.refl _) rfl hS rfl
 intro f99 s5 s6 s7 o0 hS o1 j2 hcq
 refine Y4 (s2) R7 (eM (j2 7 49 rfl rfl)) (hS.get (mR (mR (mR (mR mL))))) rfl rfl ?_
 exact qn (.refl _) rfl hS rfl
 intro s8 s9 t0 t1 o2 hS j3 o3 hcq
 refine Z4 (vI a4) (evT (j3 8 rfl) c8) rfl ?_
 exact qn (.refl _) rfl hS rfl
 intro t4 t5 t6 t7 o4 hS j4 o5 hcq
 refine Z4 (vI a3) (evT (j4 10 rfl) c0) rfl ?_
 exact qn (.refl _) rfl hS rfl
 intro t8 t9 u0 u1 o6 hS o7 g5 hcq
 refine W3 S9 rfl (eM (g5 8 50 rfl rfl)) i8 (eM (g5 9 51 rfl rfl)) (by omega) (by omega) rfl ?_
 exact qn (.refl _) rfl hS rfl
 intro u2 u3 u4 u5 o8 hS o9 j5 hcq
 refine Y2 P0 (eM (j5 11 53 rfl rfl)) rfl ?_
 exact qn (.refl _) rfl hS rfl
 intro u6 u7 u8 u9 p0 hS p1 g6 hcq
 refine W8 Za7 (eM (g6 12 54 rfl rfl)) (eM (g6 10 52 rfl rfl)) (by omega) (by omega) rfl ?_
 exact qn (.refl _) rfl hS rfl
 intro v0 v1 v2 v3 j6 hS p2 j7 hcq
 have f4 := j6.1 _ _ f4
 refine Y4 (Value.int .u8 (Y5 ((rd a2 a4).1) a3)) ty5 (eM (j7 13 55 rfl rfl)) (hS.froz _ _ f4) (Yn2 ([]) (([vI ((rd a2 a4).2)])) i9 (Nat.le_of_ble_eq_true rfl) (by omega) (by omega)) rfl ?_
 exact qn (.refl _) rfl hS rfl
 intro v4 v5 v6 v7 g7 hS p3 f5 hcq
 have b5 := b5.mono g7
 have e0 := e0.mono g7
 refine Y8 Tryz.call172 (N8 (eM (f5 2 44 rfl rfl)) (eM (f5 6 48 rfl rfl)) (eM (f5 14 56 rfl rfl))) rfl (Yo1 j0 b5 e0 hS) ?_
 rintro v8 v9 ⟨m4, w0, rfl, j8, hS, j9⟩
 refine ⟨m4, rfl, ?_⟩
 exact qn j8 rfl hS j9
 intro w1 w3 w4 w6 g8 hS p4 f6 hcq
 have b5 := b5.mono g8
 have b6 := b6.mono g8
 obtain ⟨w7, m5, ⟨_, rfl, ⟨n8, rfl, h1⟩⟩⟩ := gvR (f6 15 57 rfl rfl)
 refine Y8 Tryz.call171 (N8 (eM (f6 0 42 rfl rfl)) (eM (f6 1 43 rfl rfl)) m5) rfl (Zm3 j1 b5 b6 h1 hS) ?_
 rintro w9 x0 ⟨m6, x1, rfl, k0, hS, k1⟩
 refine ⟨m6, rfl, ?_⟩
 exact qn k0 rfl hS k1
 intro x2 m7 i6 d1 hS c3 k2 hcq
 have hS : St i6 m7 ([(f8, cA ([a8]) 47)] ++ ([(b7, cA ([a6]) 47)] ++ ([(b4, cA ([vN]) 47)] ++ ([(b1, cA ([s2]) 47)] ++ L)))) := hS
 have Z2 := Z2.trans d1
 have b5 := b5.mono d1
 have b9 := b9.mono d1
 have b3 := b3.mono d1
 have a5 := a5.mono d1
 have i7 := evT (c3 9 rfl) c9
 obtain ⟨x3, m8, ⟨_, rfl, ⟨e1, rfl, e6⟩⟩⟩ := gvR (k2 16 58 (by decide) rfl)
 refine W1 (v := vA ([e1])) (vs := ([e1]).toArray) (cs := ([a8]).toArray) U7 (by exact i7) (by exact m8) rfl hS rfl (S2 e6.isOne) rfl ?_
 intro x4 hS
 refine Z0 (X2 (Z1 (Z4 (vI a3) (by exact (evT (c3 10 rfl) c0)) rfl ?_)))
 refine V0 (a3 + 1) rfl rfl (IntWalk.i64_in _ (by omega)) rfl (Z6 (vI (a3 + 1)) rfl rfl (Z0 ?_))
 exact k4 _ _ ⟨(a3 + 1), e8, i6, e1, b0, Z2, hS, (by omega), e6, b5, b9, b3, a5, (evT (c3 0 rfl) c5), (evT (c3 1 rfl) c6), (evT (c3 5 rfl) c7), (evT (c3 6 rfl) d5), (evT (c3 7 rfl) d6), (evT (c3 8 rfl) c8), i7, rfl⟩
 rw [if_neg f3] at b0
 refine Z9 (bF f3 rfl) (Y6 (X2 (Z1 (Z4 (vI a3) (by exact c0) rfl ?_))))
 refine V0 (a3 + 1) rfl rfl (IntWalk.i64_in _ (by omega)) rfl (Z6 (vI (a3 + 1)) rfl rfl (Z0 ?_))
 exact k4 _ _ ⟨(a3 + 1), a7, i4, a8, b0, Z2, hS, (by omega), b6, b5, b9, b3, a5, c5, c6, c7, d5, d6, c8, c9, rfl⟩
 rw [if_neg f2] at b0
 refine Z9 (bF f2 rfl) ?_
 refine W4 rfl ?_
 have hz := Option.some.inj b0
 subst hz
 exact n5 _ _ ⟨a7, i4, a8, rfl, Z2, hS, b6, b5, b9, b3, a5, c5, c6, c7, d5, d6, c8, c9⟩
 exact ⟨0, h9, n4, f0, b0, Z2, hS, (by omega), f7, b5, b9, b3, a5, g9, h0, d3, e4, e5, d4, rfl, rfl⟩
 rintro x5 x6 ⟨b8, x7, c4, rfl, Z2, hS, e3, b5, b9, b3, a5, h2, h3, h4, h5, d7, h6, h7⟩
 dsimp only [Ex.elim] at f1
 refine Z1 ?_
 refine X8 U7 (by exact d7) (hS.get (mR mL)) rfl rfl ?_
 refine X8 U7 (by exact h7) (hS.get mL) rfl rfl ?_
 obtain ⟨g0, k3, f1⟩ := bind_some f1
 refine Y8 Tryz.call143 (N8 rfl rfl rfl) rfl (Zk2 k3 a5 e3 hS) ?_
 rintro x8 x9 ⟨y0, m9, rfl, d8, hS, ⟨_, rfl, ⟨e2, rfl, d0⟩⟩⟩
 refine ⟨_, rfl, ?_⟩
 have d0 := Y3.old d0
 have Z2 := Z2.trans d8
 have b5 := b5.mono d8
 have b9 := b9.mono d8
 have b3 := b3.mono d8
 have hS := hS.perm U4
 refine W1 (v := vA ([e2])) (vs := ([e2]).toArray) (cs := ([a6]).toArray) U7 (by exact d7) rfl rfl hS rfl (S2 d0.isOne) rfl ?_
 intro y1 hS
 have hS := hS.perm U4.symm
 refine Z0 (X2 (Z1 (Z4 (vI a4) (by exact h6) rfl ?_)))
 refine V0 (a4 + 1) rfl rfl (IntWalk.i64_in _ (by omega)) rfl (Z6 (vI (a4 + 1)) rfl rfl (Z0 ?_))
 have hS := St.dropA hS
 exact n1 _ _ ⟨(a4 + 1), g0, m9, e2, f1, Z2, hS, (by omega), d0, b5, b9, b3, h2, h3, h4, h5, d7, rfl⟩
 rw [if_neg e9] at c2
 refine Z9 (bF e9 rfl) ?_
 refine W4 rfl ?_
 have hz := Option.some.inj c2
 subst hz
 exact n2 _ _ ⟨a9, k5, a6, rfl, Z2, hS, a5, b3, e4, e5⟩
 exact ⟨0, ([] : List (A8 × Int)), H, (vN), c2, Z2, hS, (by omega), i0, b5, b9, b3, rfl, rfl, rfl, rfl, rfl, rfl⟩
 rintro y2 y3 ⟨c1, y4, b2, rfl, Z2, hS, d2, b3, e7, h8⟩
 dsimp only [Ex.elim] at i2
 refine Z3 (Z1 ?_)
 refine X8 U7 (by exact h8) (hS.get mL) rfl rfl ?_
 have hS := hS.perm U4
 refine W1 (v := vA ([b2])) (vs := ([b2]).toArray) (cs := ([vN]).toArray) U7 (by exact e7) rfl rfl hS rfl (S2 d2.isOne) rfl ?_
 intro y5 hS
 have hS := hS.perm U4.symm
 refine Z0 ?_
 refine Y9 (vs := [vA ([b2])]) Tryz.func81 ⟨⟨_, (by exact e7), U8 U7 (hS.get (mR mL)) rfl⟩, trivial⟩ ?_
 have hz := Option.some.inj i2
 subst hz
 exact ⟨_, _, rfl, Z2, (St.dropA (St.dropA (St.dropA hS))), ⟨_, rfl, ⟨_, rfl, d2⟩⟩⟩
abbrev LdT := List Int × List Int × List MpT
def pwN (K : Nat) (x : LdT) (i : Int) : Nat → Option MpT
 | 0 => Zh5 K
 | n + 1 => if 0 ≤ i ∧ i < (x.2.2.length : Int) then (pwN K x i n).bind fun r => M2 K r x.2.1 (rd x.2.2 i) else none
def P2 (K : Nat) (x : LdT) (i e : Int) : Option MpT := if 0 ≤ e ∧ e ≤ 4611686018427387904 then pwN K x i e.toNat else none
def I9 (i e : Int) : Value := .agg #[.int .i64 i, .int .i64 e]
theorem Xz9 {i e j f : Int} (h : I9 i e = I9 j f) : i = j ∧ e = f := by simpa [I9] using h
/-- what the map of powers keeps -/
def Ye8 (K : Nat) (x : LdT) : Ya6 := fun F o => ∃ es clock, o = .map es clock ∧
 ∀ n, n ∈ es.toList → ∃ i e t, n.key = I9 i e ∧ P2 K x i e = some t ∧ Q1 .i64 ⟨F, fun _ => none, none⟩ n.val t
theorem Ym2 (K : Nat) (x : LdT) : Xd7 (Ye8 K x) := by
 rintro F F' o hs ⟨es, c, rfl, h⟩
 refine ⟨es, c, rfl, fun n hn => ?_⟩
 obtain ⟨i, e, t, h1, h2, h3⟩ := h n hn
 exact ⟨i, e, t, h1, h2, Q1.mono (H := ⟨F, fun _ => none, none⟩) (H' := ⟨F', fun _ => none, none⟩) ⟨hs, fun _ _ h => h, rfl⟩ h3⟩
def Zs0 (H : FH) (b : Nat) (I : Ya6) : Prop := H.memo b = some I
theorem Zs0.mono {H H' : FH} {b : Nat} {I : Ya6} (h : Zs0 H b I) (hs : Sub H H') : Zs0 H' b I := hs.2.1 _ _ h
theorem Q1.fr {k : IntKind} {H H' : FH} {v : Value} {t : MpT} (h : Q1 k H v t) (e : H.fr = H'.fr) : Q1 k H' v t := by
 rcases h with h | ⟨s, b, es, c, ys, h1, h2, h3, h4⟩
 exact .inl h
 exact .inr ⟨s, b, es, c, ys, h1, by rw [← e]; exact h2, h3, h4⟩
def Xy8 (K : Nat) : Ty LdT :=
 ⟨4, fun H cs x => ∃ v1 v2 v3 b, cs = [v1, v2, v3, .map (some b)] ∧ Y3 (X3 .i64) H v1 x.1 ∧ Y3 (X3 .i64) H v2 x.2.1 ∧ Y3 (Yf6 .i64) H v3 x.2.2 ∧ Zs0 H b (Ye8 K x),
  fun ⟨_, _, _, _, h, _⟩ => by rw [h]; rfl, fun hs ⟨v1, v2, v3, b, h, h1, h2, h3, h4⟩ => ⟨v1, v2, v3, b, h, h1.mono hs, h2.mono hs, h3.mono hs, h4.mono hs⟩,
  fun ⟨v1, v2, v3, b, h, h1, h2, h3, h4⟩ u hu => by
   rw [h] at hu
   simp only [List.mem_cons, List.not_mem_nil, or_false] at hu
   rcases hu with rfl | rfl | rfl | rfl
   exact h1.isOne
   exact h2.isOne
   exact h3.isOne
   rfl⟩
section
variable {P : Program} {w : World} {H : FH} {L : OL}
/-- a map of one's own, still empty, becomes the map of powers -/
theorem St.toMemo {b : Nat} (h : St H w ([(b, .map #[] 0)] ++ L)) (K : Nat) (x : LdT) : ∃ H', Sub H H' ∧ St H' w L ∧ Zs0 H' b (Ye8 K x) :=
 ⟨H.addM b (Ye8 K x), Sub.addM (St.noneM h), St.freezeM h (Ym2 K x) ⟨#[], 0, rfl, by simp⟩, FH.addM_self ..⟩
/-- a map of powers is taken out, and put back -/
def FH.outM (H : FH) (b : Nat) : FH := ⟨H.fr, fun c => if c = b then none else H.memo c, H.base⟩
theorem St.takeM (h : St H w L) {b : Nat} {I : Ya6} (hb : Zs0 H b I) : ∃ o, I H.fr o ∧ St (H.outM b) w ([(b, o)] ++ L) := by
 obtain ⟨h1, h2, o, h3, h4⟩ := h.memo b I hb
 refine ⟨o, h4, h.froz, fun c J hc => ?_, h.rest, h.nofz, fun x hx => ?_, ?_, fun x hx => ?_⟩
 replace hc : (if c = b then Option.none else H.memo c) = some J := hc
 split at hc
 cases hc
 exact h.memo c J hc
 rcases List.mem_append.1 hx with hx | hx
 cases List.mem_singleton.1 hx; exact h3
 exact h.own x hx
 show (b :: L.map Prod.fst).Nodup
 refine List.nodup_cons.2 ⟨fun hm => ?_, h.nodup⟩
 obtain ⟨x, hx, rfl⟩ := List.mem_map.1 hm
 have := (h.apart x hx).2
 rw [hb] at this; cases this
 show H x.1 = Option.none ∧ (if x.1 = b then Option.none else H.memo x.1) = Option.none
 rcases List.mem_append.1 hx with hx | hx
 cases List.mem_singleton.1 hx; exact ⟨h1, if_pos rfl⟩
 refine ⟨(h.apart x hx).1, ?_⟩
 split
 rfl
 exact (h.apart x hx).2
theorem St.backM {H2 : FH} {b : Nat} {o : Obj} (h : St H2 w ([(b, o)] ++ L)) {I : Ya6} (hs : Sub (H.outM b) H2) (hb : Zs0 H b I) (hm : Xd7 I) (hI : I H2.fr o) :
 ∃ H3, Sub H H3 ∧ Sub H2 H3 ∧ St H3 w L := by
 refine ⟨H2.addM b I, ⟨fun c p hc => hs.1 c p hc, fun c J hc => ?_, hs.2.2⟩, Sub.addM (St.noneM h), St.freezeM h hm hI⟩
 show (if c = b then some I else H2.memo c) = some J
 split
 rename_i e; subst e; rw [← hc]; exact hb.symm
 rename_i e
 refine hs.2.1 c J ?_
 show (if c = b then Option.none else H.memo c) = some J
 rw [if_neg e]; exact hc
/-- what is told of the type of the map of powers -/
structure Yq2 (P : Program) (T K : TypeId) : Prop where
 under : ∃ E, (∀ w, (underlying T).run P w = .ok (.map K E) w) ∧ ∀ w, (zeroValue E).run P w = .ok (.map none) w
 check : ∀ (b : Bool) (i e : Int) (w : World), (Instr.checkKey b 10000 K (I9 i e)).run P w = .ok () w
 equal : ∀ (i e j f : Int) (w : World), (Op.equal K (I9 i e) (I9 j f)).run P w = .ok (decide (i = j ∧ e = f)) w
 arr : ∀ w, ∃ el, (underlying K).run P w = .ok (.array 2 el) w
theorem Xa2 {T K : TypeId} (t : Yq2 P T K) (i e : Int) : ∀ (es : List MapEntry) (n : Nat), (∀ m, m ∈ es → ∃ j f, m.key = I9 j f) →
 ∃ r, (∀ w', (Instr.findAsking K (I9 i e) es n).run P w' = .ok r w') ∧ ∀ j v, r = some (j, v) → ∃ m, n ≤ j ∧ es[j - n]? = some m ∧ m.key = I9 i e ∧ m.val = v
 | [], n, _ => ⟨none, fun w' => by simp [Instr.findAsking], fun _ _ h => by cases h⟩
 | m :: es, n, h => by
  obtain ⟨j, f, hk⟩ := h m (List.mem_cons_self ..)
  obtain ⟨r, hr, hv⟩ := Xa2 t i e es (n + 1) (fun m hm => h m (List.mem_cons_of_mem _ hm))
  by_cases hq : i = j ∧ e = f
  refine ⟨some (n, m.val), fun w' => ?_, fun j' v hjv => ?_⟩
  unfold Instr.findAsking
  simp [Sem.run_bind, hk, t.equal, hq]
  cases hjv
  exact ⟨m, Nat.le_refl _, by simp, by rw [hk, hq.1, hq.2], rfl⟩
  refine ⟨r, fun w' => ?_, fun j' v hjv => ?_⟩
  unfold Instr.findAsking
  simp only [Sem.run_bind, hk, t.equal, Result.andThen_ok, Sem.run_ite]
  rw [if_neg (by simpa using hq)]
  exact hr w'
  obtain ⟨m', h1, h2, h3, h4⟩ := hv j' v hjv
  refine ⟨m', by omega, ?_, h3, h4⟩
  rw [show j' - n = (j' - (n + 1)) + 1 by omega]
  simpa using h2
theorem Yo6 {T K : TypeId} (t : Yq2 P T K) (i e : Int) (es : List MapEntry) (h : ∀ m, m ∈ es → ∃ j f, m.key = I9 j f) :
 ∃ r, (∀ w', (Instr.findKey K (I9 i e) es).run P w' = .ok r w') ∧ ∀ j v, r = some (j, v) → ∃ m, es[j]? = some m ∧ m.key = I9 i e ∧ m.val = v := by
 obtain ⟨r, hr, hv⟩ := Xa2 t i e es 0 h
 cases es with
 | nil =>
  refine ⟨none, fun w' => ?_, fun _ _ h => by cases h⟩
  obtain ⟨el, hu⟩ := t.arr w'
  unfold Instr.findKey
  simp [Sem.run_bind, hu, Instr.findNow]
 | cons m es =>
  refine ⟨r, fun w' => ?_, fun j v hjv => let ⟨m', _, h2, h3, h4⟩ := hv j v hjv; ⟨m', h2, h3, h4⟩⟩
  obtain ⟨el, hu⟩ := t.arr w'
  obtain ⟨j, f, hk⟩ := h m (List.mem_cons_self ..)
  have : Instr.findNow (.array 2 el) (I9 i e) (m :: es) 0 = none := by
   unfold Instr.findNow
   rw [hk]; rfl
  unfold Instr.findKey
  simp only [Sem.run_bind, hu, Result.andThen_ok, this]
  exact hr w'
theorem Xl6 {T K : TypeId} (t : Yq2 P T K) (i e : Int) {b : Nat} {es : Array MapEntry} {clock : Nat} (h : ∀ m, m ∈ es.toList → ∃ j f, m.key = I9 j f) :
 ∃ u q, (∀ w', w'.heap[b]? = some (.map es clock) → (Instr.lookup T (.map (some b)) (I9 i e) true).run P w' = .ok (.tuple #[u, .bool q]) w') ∧
  (q = true → ∃ m, m ∈ es.toList ∧ m.key = I9 i e ∧ m.val = u) := by
 obtain ⟨r, hr, hv⟩ := Yo6 t i e es.toList h
 obtain ⟨E, hu, hz⟩ := t.under
 cases r with
 | none =>
  refine ⟨.map none, false, fun w' hb => ?_, fun h => by cases h⟩
  unfold Instr.lookup
  simp only [Sem.run_bind, hu, Result.andThen_ok, Sem.run_pure, Zc6 hb, t.check, hr, hz]
  simp
 | some p =>
  obtain ⟨j, v⟩ := p
  obtain ⟨m, h1, h2, h3⟩ := hv j v rfl
  refine ⟨v, true, fun w' hb => ?_, fun _ => ⟨m, List.mem_of_getElem? h1, h2, h3⟩⟩
  unfold Instr.lookup
  simp only [Sem.run_bind, hu, Result.andThen_ok, Sem.run_pure, Zc6 hb, t.check, hr]
  simp
theorem Xd1 (i e : Int) : Instr.sameBits 10000 (I9 i e) (I9 i e) = true := by
 simp [Instr.sameBits, I9]
theorem Xl3 {T K : TypeId} (t : Yq2 P T K) (i e : Int) {b : Nat} {Kf : Nat} {x : LdT} {v : Value} {tt : MpT} (hS : St H w L) (hb : Zs0 H b (Ye8 Kf x)) (hp : P2 Kf x i e = some tt) (hv : Q1 .i64 H v tt) :
 ∃ w', (Instr.mapUpdate T (.map (some b)) (I9 i e) v).run P w = .ok () w' ∧ St H w' L := by
 obtain ⟨h1, h2, o, h3, es, clock, rfl, hes⟩ := hS.memo b _ hb
 obtain ⟨r, hr, hrv⟩ := Yo6 t i e es.toList (fun m hm => let ⟨i, e, t, h, _⟩ := hes m hm; ⟨i, e, h⟩)
 obtain ⟨E, hu, hz⟩ := t.under
 have hvf : Q1 .i64 ⟨H.fr, fun _ => none, none⟩ v tt := hv.fr rfl
 have hset : ∀ o', (setObj b o').run P w = .ok () { w with heap := w.heap.setIfInBounds b o' } := fun o' => by simp [setObj, Sem.run, h3]
 cases r with
 | none =>
  refine ⟨_, ?_, hS.putM hb (o' := .map (es.push ⟨I9 i e, v, clock⟩) (clock + 1)) ⟨_, _, rfl, fun m hm => ?_⟩⟩
  unfold Instr.mapUpdate
  simp only [Sem.run_bind, hu, Result.andThen_ok, Sem.run_pure, Zc6 h3, t.check, hr, hset]
  rw [Array.toList_push] at hm
  rcases List.mem_append.1 hm with hm | hm
  exact hes m hm
  cases List.mem_singleton.1 hm
  exact ⟨i, e, tt, rfl, hp, hvf⟩
 | some p =>
  obtain ⟨j, u⟩ := p
  obtain ⟨m, hm1, hm2, hm3⟩ := hrv j u rfl
  have hold : ((es[j]?).map (·.key)).getD (I9 i e) = I9 i e := by
   rw [Array.getElem?_toList] at hm1
   rw [hm1]; exact hm2
  refine ⟨_, ?_, hS.putM hb (o' := .map (es.modify j fun n => { n with key := I9 i e, val := v }) clock) ⟨_, _, rfl, fun n hn => ?_⟩⟩
  unfold Instr.mapUpdate
  simp only [Sem.run_bind, hu, Result.andThen_ok, Sem.run_pure, Zc6 h3, t.check, hr, hold, Instr.keyThatStays, Xd1, if_true, hset]
  obtain ⟨q, hq, rfl⟩ := List.getElem_of_mem hn
  have hq' : q < es.size := by simpa using hq
  simp only [Array.getElem_toList, Array.getElem_modify]
  split
  exact ⟨i, e, tt, rfl, hp, hvf⟩
  exact hes _ (by simp)
theorem Xw1 {T E : TypeId} {i : TypeInfo} (d : Nat) (hu : P.underlying T = some (.array 2 E)) (he : P.underlying E = some (.int .i64)) (hi : P.info? E = some i) (hs : i.size = 1) (a b c f : Int) :
 (Op.equalIn (d + 2) T (I9 a b) (I9 c f)).run P w = .ok (decide (a = c ∧ b = f)) w := by
 unfold I9
 rw [run_equalIn_array w (d + 1) _ _ hu hi]
 have hc : P.cellsOf E = 1 := by simp [Program.cellsOf, hi, hs]
 have h0 : ∀ x y : Int, (part E #[.int .i64 x, .int .i64 y] 0).run P w = .ok (.int .i64 x) w := fun x y => by simp [part, isAgg, run_underlying he]
 have h1 : ∀ x y : Int, (part E #[.int .i64 x, .int .i64 y] 1).run P w = .ok (.int .i64 y) w := fun x y => by simp [part, isAgg, run_underlying he]
 have he' : ∀ (x y : Int), (Op.equalIn (d + 1) E (.int .i64 x) (.int .i64 y)).run P w = .ok (x == y) w := fun x y => run_equalIn_int w d E .i64 .i64 x y he
 rw [hc]
 have : List.range 2 = [0, 1] := rfl
 rw [this]
 simp only [Op.eqItems, Sem.run_bind, Nat.zero_mul, Nat.one_mul, h0, h1, Result.andThen_ok, he', Sem.run_ite]
 by_cases e1 : a = c <;> by_cases e2 : b = f <;> simp [e1, e2]
theorem Xd2 {K E : TypeId} {i : TypeInfo} (d : Nat) (hu : P.underlying K = some (.array 2 E)) (he : P.underlying E = some (.int .i64)) (hi : P.info? E = some i) (hs : i.size = 1) (b : Bool) (x y : Int) :
 (Instr.checkKey b (d + 2) K (I9 x y)).run P w = .ok () w := by
 have h0 : (part E #[.int .i64 x, .int .i64 y] 0).run P w = .ok (.int .i64 x) w := by simp [part, isAgg, run_underlying he]
 have h1 : (part E #[.int .i64 x, .int .i64 y] 1).run P w = .ok (.int .i64 y) w := by simp [part, isAgg, run_underlying he]
 have hz : (sizeOf E).run P w = .ok 1 w := by simp [sizeOf, typeInfo, hi, hs]
 unfold Instr.checkKey I9
 simp only [Sem.run_bind, run_underlying hu, Result.andThen_ok]
 simp [Std.Legacy.Range.forIn_eq_forIn_range', Std.Legacy.Range.size, List.range', Sem.run_bind, hz, h0, h1, Yf0 he]
theorem Wl4 {T K E A : TypeId} {i : TypeInfo} (hT : P.underlying T = some (.map K E)) (hu : P.underlying K = some (.array 2 A)) (he : P.underlying A = some (.int .i64)) (hi : P.info? A = some i) (hs : i.size = 1)
 (hz : ∀ w, (zeroValue E).run P w = .ok (.map none) w) : Yq2 P T K :=
 ⟨⟨E, run_underlying hT, hz⟩, fun b a c w => Xd2 9998 hu he hi hs b a c, fun a b c f w => Xw1 9998 hu he hi hs a b c f, fun w => ⟨A, run_underlying hu w⟩⟩
end
def B3 (K : Nat) (a0 : (List MpT)) : Nat → Int → (List MpT) → Option (Ex (List MpT) ((List MpT)))
 | 0, _, _ => none
 | k + 1, a1, a3 => (if a1 < (a0.length : Int) then ((D7 K (rd a0 a1)).bind fun b7 => (if a1 < (a3.length : Int) then B3 K a0 k (a1 + 1) (a3.set (a1).toNat b7) else none)) else some (.go a3))
def Zp3 (K : Nat) (a0 : (List MpT)) : Option (List MpT) := (if (a0.length : Int) ≤ 1099511627776 then ((B3 K a0 K 0 (List.replicate ((a0.length : Int)).toNat (([] : List (A8 × Int)) : MpT))).bind (Ex.elim (fun r => some r) (fun s => (fun (a8 : (List MpT)) => some a8) s))) else none)
theorem Yr2 {K : Nat} {a0 : (List MpT)} {r : (List MpT)} (q0 : Zp3 K a0 = some r) {H : FH} {w : World} {L : OL} {s0 : Value} (b2 : Y3 (X6 yT) H s0 a0) (hS : St H w L) :
 Calls Tryz.prog 35 #[s0] w (T6 (fun v G => RdN (X6 yT) H G v r []) H L) := by
 have Z2 := Sub.refl H
 refine X0 Tryz.func35 rfl Tryz.ntmps35 rfl ?_
 unfold Zp3 at q0
 refine Z3 (Z1 (Z6 (vN) rfl rfl (Z0 (Z3 (Z1 (Z4 (s0) rfl rfl ?_))))))
 have f3 := b2.bound
 refine W6 Yz3 rfl b2 rfl ?_
 obtain ⟨f4, q0⟩ := gd q0
 refine We1 (τ := (Zx9 H (X6 yT))) (([] : List (A8 × Int)) : MpT) Yy4 rfl rfl rfl (fun _ => ⟨_, rfl, Y3.nil⟩) rfl (by omega) (by omega) hS List.nodup_nil (fun _ h => (by cases h)) rfl ?_
 intro u3 w4 C5 d9 hS
 refine Z6 (u3) rfl rfl (Z0 (Z3 (Z3 (Z1 (Z6 (vI 0) rfl rfl (Z0 (Y7 ?_)))))))
 obtain ⟨c2, a6, c3⟩ := bind_some q0
 refine W7 (id := 0) (fun k f w => ∃ (a1 : Int) (a3 : (List MpT)) (H1 : FH) (a9 : OL) (a4 : Value), B3 K a0 k a1 a3 = some c2 ∧ Sub H H1 ∧ St H1 w (a9 ++ L) ∧ 0 ≤ a1 ∧ F1 (Zx9 H (X6 yT)) 47 H1 a4 a3 a9 ([] : List Nat) ∧ Y3 (X6 yT) H1 s0 a0 ∧ ev f (.tmp 0) = s0 ∧ ev f (.tmp 3) = a4 ∧ ev f (.tmp 4) = vI a1) (fun f w => ∃ (a8 : (List MpT)) (H1 : FH) (b3 : OL) (a5 : Value), c2 = .go a8 ∧ Sub H H1 ∧ St H1 w (b3 ++ L) ∧ F1 (Zx9 H (X6 yT)) 47 H1 a5 a8 b3 ([] : List Nat) ∧ ev f (.tmp 3) = a5) rfl ?_ ?_ K ?_ ?_
 rintro f w ⟨a1, a3, H1, a9, a4, a6, _⟩
 rw [B3] at a6; cases a6
 rintro k e5 e6 e0 e1 ⟨a1, a3, c9, a9, a4, a6, Z2, hS, e2, a7, b2, b4, b5, b1⟩
 rw [B3] at a6
 refine Z3 (Z3 (Z1 (Z4 (vI a1) (by exact b1) rfl (Z4 (s0) (by exact b4) rfl ?_))))
 have f5 := b2.bound
 refine W6 Yz3 rfl b2 rfl ?_
 refine U5 (k := .i64) (a := a1) (b := (a0.length : Int)) rfl rfl rfl (Z0 ?_)
 by_cases c0 : a1 < (a0.length : Int)
 rw [if_pos c0] at a6
 refine Y0 (bT c0 rfl) (Y6 (Z3 (Y7 (Z1 (Z4 (a4) (by exact b5) rfl (Z4 (vI a1) (by exact b1) rfl (Z4 (s0) (by exact b4) rfl (Z4 (vI a1) (by exact b1) rfl ?_))))))))
 obtain ⟨f6, f7, e7, f8, _, d0, d1, ⟨c7, rfl, c4⟩, d2⟩ := b2.elem (i := a1) (by omega) (by omega)
 refine W3 Yz3 rfl rfl d0 rfl (by omega) (by omega) rfl ?_
 refine V5 ([c7]) Yu7 rfl (hS.froz _ _ d1) rfl d2 rfl ?_
 obtain ⟨b7, d3, a6⟩ := bind_some a6
 refine Y8 Tryz.call29 (Q8 rfl) rfl (Zk4 d3 c4 hS) ?_
 rintro f9 g0 ⟨g1, c8, rfl, b9, hS, ⟨_, rfl, ⟨b6, rfl, b0⟩⟩⟩
 refine ⟨_, rfl, ?_⟩
 have d4 := b0
 have d5 : RdF yT H c8 b6 b7 := Y3.mono (Zg0 Z2) b0
 have b0 := Y3.old b0
 have a7 := F1.keep (Yn4 H (Zs4 _)) a7 b9 (RdF.rootsOut d4) (Y3.rootsIn b0) (Zj3 _)
 have Z2 := Z2.trans b9
 have b2 := b2.mono b9
 obtain ⟨e8, a6⟩ := gd a6
 obtain ⟨g2, g3, c5⟩ := a7.own.some (i := a1) (by omega) (by omega)
 refine Zt3 J2 (Eq.trans rfl c5) rfl (by omega) (by omega) rfl ?_
 refine Xl5 (R := Ze2 [b6]) (τ := (Zx9 H (X6 yT))) (v := a4) (u := vA ([b6])) b7 (i := a1) rfl U7 c5 a7 hS rfl rfl (by omega) (by omega) ⟨_, rfl, d5⟩ rfl ?_
 intro g4 e3 d6 hS
 refine Z0 (X2 (Z1 (Z4 (vI a1) (by exact b1) rfl ?_)))
 refine V0 (a1 + 1) rfl rfl (IntWalk.i64_in _ (by omega)) rfl (Z6 (vI (a1 + 1)) rfl rfl (Z0 ?_))
 exact e0 _ _ ⟨(a1 + 1), (a3.set (a1).toNat b7), c8, e3, a4, a6, Z2, hS, (by omega), d6, b2, b4, b5, rfl⟩
 rw [if_neg c0] at a6
 refine Z9 (bF c0 rfl) ?_
 refine W4 rfl ?_
 have hz := Option.some.inj a6
 subst hz
 exact e1 _ _ ⟨a3, c9, a9, a4, rfl, Z2, hS, a7, b5⟩
 exact ⟨0, (List.replicate ((a0.length : Int)).toNat (([] : List (A8 × Int)) : MpT)), H, C5, u3, a6, Z2, hS, (by omega), d9, b2, rfl, rfl, rfl⟩
 rintro e9 f0 ⟨a8, f1, b3, a5, rfl, Z2, hS, b8, c1⟩
 dsimp only [Ex.elim] at c3
 refine Z3 (Z1 (Z4 (a5) (by exact c1) rfl (Z6 (a5) rfl rfl (Z0 ?_))))
 refine Y9 (vs := [a5]) Tryz.func35 ⟨rfl, trivial⟩ ?_
 obtain ⟨e4, d7, hS, c6⟩ := F1.freezeN (τ := (X6 yT)) (H0 := H) (Zs4 _) b8 hS Z2
 have d8 : RdF (X6 yT) H e4 a5 a8 := RdN.old c6
 have f2 := Y3.old d8
 have Z2 := Z2.trans d7
 have hz := Option.some.inj c3
 subst hz
 exact ⟨_, _, rfl, Z2, hS, c6⟩
theorem Yl1 {K : Nat} {a2 : Int} : ∀ (k : Nat) (zs : MpT), Zn3 K (fun (_ : Unit) s => s) (fun s => U0 K a2 k zs s)
 | 0, zs => ⟨none, fun s => (show U0 K a2 0 zs s = none by rw [U0])⟩
 | k + 1, [] => by
  have e : (fun s => U0 K a2 (k + 1) [] s) = fun s => some (.go s) := by funext s; rw [U0]
  rw [e]; exact .go (h := fun (_ : Unit) s => s) ()
 | k + 1, z :: zs => by
  have e : (fun s => U0 K a2 (k + 1) (z :: zs) s) = fun s => (T4 K s z.1 (((IntKind.i64.wrap (z.2 * a2))).tmod 10007)).bind fun t => U0 K a2 k zs t := by
   funext s; rw [U0]
  rw [e]; exact .bind (.add _ _) (Yl1 k zs)
theorem Yv6 {K : Nat} (t : MpT) (f : Int) : Zp1 K (fun s => Q3 K s t f) := by
 obtain ⟨F, hF, hs⟩ := (Yl1 (K := K) (a2 := f) K t).step (fun s => s) (fun _ _ => rfl)
 have e : (fun s => Q3 K s t f) = F := by
  funext s
  unfold Q3
  exact (hs (fun r => some r) (fun s => some s) s).trans (by cases F s <;> rfl)
 rw [e]; exact hF
end Go.Proofs.YtfodlhkoafhplaaGreat
