/- Walks of functions: each computes its pure function, if that gives a value. -/
import Derived.Test.YtfodlhkoafhplaaGreatVTy
import Derived.Test.YtfodlhkoafhplaaGreatVF3
import Derived.Test.YtfodlhkoafhplaaGreatVF11
import Derived.Test.YtfodlhkoafhplaaGreatVF13
import Derived.Test.YtfodlhkoafhplaaGreatVF15
import Derived.Test.YtfodlhkoafhplaaGreatVF4
import Derived.Test.YtfodlhkoafhplaaGreatVF1
import Derived.Test.YtfodlhkoafhplaaGreatVF9
import Derived.Test.YtfodlhkoafhplaaGreatVF6
import Derived.Test.YtfodlhkoafhplaaGreatVF7
import Derived.Test.YtfodlhkoafhplaaGreatVF14
namespace Go.Proofs.YtfodlhkoafhplaaGreat
open Go
set_option linter.unusedSimpArgs false
set_option linter.unusedVariables false
set_option maxRecDepth 100000
set_option maxHeartbeats 8000000
def Zj2 (K : Nat) (a0 : ((List Int) × (List MpT))) (a1 : Int) (a2 : Int) : Option (((List Int) × (List MpT)) × (List MpT) × Int) := ((Zl0 K a0.1 ([a1, a2])).bind fun d9 => ((Zo5 K (a0.1.length : Int) ([a1, a2])).bind fun c1 => ((Zi6 K (a0.1, a0.2)).bind fun c8 => (if 0 ≤ a1 then (if a1 < (c8.length : Int) then (if 0 ≤ a2 then (if a2 < ((rd c8 a1).length : Int) then (if a1 < (a0.2.length : Int) then ((Zj9 K d9 c1 (rd a0.2 a1)).bind fun g0 => ((Zl2 K (rd (rd c8 a1) a2)).bind fun e6 => ((Za1 K (IntKind.i64.wrap (0 - e6))).bind fun g1 => ((Zc6 K ([] : List (A8 × Int)) g0 g1).bind fun c9 => (if a2 < (c1.length : Int) then ((Zh0 K d9 (c1.set (a2).toNat c9)).bind fun b2 => (if b2.2 = 0 then ((Zi4 K (a0.1, a0.2) d9 (c1.set (a2).toNat c9) ([a1, a2])).bind fun b0 => (if b0.2 = 0 then some ((b0.1.1, b0.1.2), (c1.set (a2).toNat c9), 0) else some ((([] : List Int), ([] : List MpT)), ([] : List MpT), b0.2))) else some ((([] : List Int), ([] : List MpT)), ([] : List MpT), b2.2))) else none))))) else none) else none) else none) else none) else none))))
theorem Yl6 {K : Nat} {a0 : ((List Int) × (List MpT))} {a1 : Int} {a2 : Int} {r : (((List Int) × (List MpT)) × (List MpT) × Int)} (q0 : Zj2 K a0 a1 a2 = some r) {H : FH} {w : World} {L : OL} {s0 : Value} {s1 : Value} (a5 : Y1 (Y6 .i64) H s0 a0.1) (a6 : Y1 (X6 yT) H s1 a0.2) (hM : ∀ b, H.memo b = none) (hS : St H w L) :
 Calls Tryz.prog 158 #[vA ([s0] ++ [s1]), vI a1, vI a2] w (T2 (fun v G => (R.t3 (R.agg (Zs6 (X6 (Y6 .i64)) (X6 (X6 yT)))) (R.sl (X6 yT)) (R.int .i64)).p G v r) H L) := by
 have Z2 := Sub.refl H
 refine X3 Tryz.func158 rfl Tryz.ntmps158 rfl ?_
 unfold Zj2 at q0
 refine Z3 (Z0 ?_)
 refine S4 (v := vA ([s0] ++ [s1])) ([s0] ++ [s1]).toArray rfl rfl hS rfl ?_
 intro b1 w2 hS
 refine V1 (z := vA ([vN] ++ [vN])) ([vN] ++ [vN]).toArray Zz0.zero rfl hS rfl ?_
 intro b4 w5 hS
 refine Z5 (vN) rfl rfl (Z5 (vI 0) rfl rfl (Z1 (Z3 ?_)))
 obtain ⟨d9, l1, q0⟩ := bind_some q0
 have t7 := a5.bound
 obtain ⟨c1, h0, q0⟩ := bind_some q0
 have X5 := Z2
 refine We6 14 (fun t C => P9 [(16, MP.eq (vP b1)), (17, MP.eq (s0)), (18, MP.eq (vI a1)), (19, MP.eq (vI a2)), (20, MP.sl (Y6 .i64) ([a1, a2])), (21, MP.rep (R.sl (Y6 .i64)) (d9)), (22, MP.eq (vP b1)), (23, MP.eq (s0)), (24, MP.eq (vI (a0.1.length : Int))), (25, MP.eq (vI a1)), (26, MP.eq (vI a2)), (27, MP.sl (Y6 .i64) ([a1, a2])), (28, MP.own (X6 yT) 47 (c1) C), (9, MP.sl (Y6 .i64) (d9))] t) [] mixed rfl rfl rfl hS (Zp2 rfl ?_ (Zp2 rfl ?_ (Zp2 rfl ?_ (Zp2 rfl ?_ (Zp2 rfl ?_ (Zp2 rfl ?_ (Zp2 rfl ?_ (Zp2 rfl ?_ (Zp2 rfl ?_ (Zp2 rfl ?_ (Zp2 rfl ?_ (Zp2 rfl ?_ (Zp2 rfl ?_ (Zp2 rfl ?_ U8)))))))))))))) ?_
 intro G1 f7 w8 H9 X10 l2 hS l3 t8 hcq
 have Z2 := Sub.refl H9
 have X8 := X5.trans l2
 have p6 : ev f7 (.tmp 3) = vP b1 := Eq.trans (l3 3 rfl) rfl
 refine Y3 R8 p6 rfl ?_
 exact Z1 ⟨16, _, _, [], rfl, rfl, Z2, hS, rfl⟩
 intro G1 f16 w17 p7 X19 l4 hS t9 l5 hcq
 have Z2 := Sub.refl p7
 have X8 := X5.trans l4
 refine Y4 (s0) K9 (eM (l5 0 16 rfl rfl)) (hS.get (mR (mR mL))) rfl rfl ?_
 exact Z1 ⟨17, _, _, [], rfl, rfl, Z2, hS, rfl⟩
 intro G1 p8 w26 p9 X28 l6 hS l7 u0 hcq
 have Z2 := Sub.refl p9
 have X8 := X5.trans l6
 have q1 : ev p8 (.tmp 1) = vI a1 := Eq.trans (l7 1 rfl) rfl
 refine Z4 (vI a1) q1 rfl ?_
 exact Z1 ⟨18, _, _, [], rfl, rfl, Z2, hS, rfl⟩
 intro G1 q2 w35 q3 X37 l9 hS m0 u1 hcq
 have Z2 := Sub.refl q3
 have X8 := X5.trans l9
 have q4 : ev q2 (.tmp 2) = vI a2 := Eq.trans (m0 2 rfl) rfl
 refine Z4 (vI a2) q4 rfl ?_
 exact Z1 ⟨19, _, _, [], rfl, rfl, Z2, hS, rfl⟩
 intro G1 f43 w44 q5 X46 m1 hS u2 g2 hcq
 have Z2 := Sub.refl q5
 have X8 := X5.trans m1
 refine Zd8 (τ := (Y6 .i64)) Zo3 ze3 rfl [vI a1, vI a2] [a1, a2] rfl rfl (Ya6 (eM (g2 2 18 rfl rfl)) (eM (g2 3 19 rfl rfl))) (Xx9 rfl rfl) (by decide) (by decide) hS rfl ?_
 intro u53 H54 w55 m2 hS m3
 have Z2 := Z2.trans m2
 exact Z1 ⟨20, _, _, [], rfl, rfl, Z2, hS, m3⟩
 intro G1 f58 w59 q6 X61 g3 hS u3 g4 hcq
 have Z2 := Sub.refl q6
 have X8 := X5.trans g3
 have a5 := a5.mono g3
 obtain ⟨v68, q7, m4⟩ := gvS (g4 4 20 rfl rfl)
 refine Y9 Tryz.call79 (U7 (eM (g4 1 17 rfl rfl)) q7) rfl (Yp5 l1 a5 m4 hS) ?_
 rintro e69 w70 ⟨q8, H69, rfl, m5, hS, m6⟩
 refine ⟨q8, rfl, ?_⟩
 have Z2 := Z2.trans m5
 exact Z1 ⟨21, _, _, [], rfl, rfl, Z2, hS, m6⟩
 intro G1 q9 w72 r0 X74 m7 hS m8 u4 hcq
 have Z2 := Sub.refl r0
 have X8 := X5.trans m7
 have r1 : ev q9 (.tmp 3) = vP b1 := Eq.trans (m8 3 rfl) rfl
 refine Y3 R8 r1 rfl ?_
 exact Z1 ⟨22, _, _, [], rfl, rfl, Z2, hS, rfl⟩
 intro G1 f80 w81 r2 X83 m9 hS u5 n0 hcq
 have Z2 := Sub.refl r2
 have X8 := X5.trans m9
 refine Y4 (s0) K9 (eM (n0 6 22 rfl rfl)) (hS.get (mR (mR mL))) rfl rfl ?_
 exact Z1 ⟨23, _, _, [], rfl, rfl, Z2, hS, rfl⟩
 intro G1 f89 w90 r3 X92 g5 hS u6 n1 hcq
 have Z2 := Sub.refl r3
 have X8 := X5.trans g5
 have a5 := a5.mono g5
 refine W7 Q2 (eM (n1 7 23 rfl rfl)) a5 rfl ?_
 exact Z1 ⟨24, _, _, [], rfl, rfl, Z2, hS, rfl⟩
 intro G1 r4 u7 n2 u8 h1 hS h2 r9 hcq
 have Z2 := Sub.refl n2
 have X8 := X5.trans h1
 have n3 : ev r4 (.tmp 1) = vI a1 := Eq.trans (h2 1 rfl) rfl
 refine Z4 (vI a1) n3 rfl ?_
 exact Z1 ⟨25, _, _, [], rfl, rfl, Z2, hS, rfl⟩
 intro G1 n4 u9 n5 v0 h3 hS h4 s2 hcq
 have Z2 := Sub.refl n5
 have X8 := X5.trans h3
 have n6 : ev n4 (.tmp 2) = vI a2 := Eq.trans (h4 2 rfl) rfl
 refine Z4 (vI a2) n6 rfl ?_
 exact Z1 ⟨26, _, _, [], rfl, rfl, Z2, hS, rfl⟩
 intro G1 v1 v2 n7 v3 h5 hS s3 f3 hcq
 have Z2 := Sub.refl n7
 have X8 := X5.trans h5
 refine Zd8 (τ := (Y6 .i64)) Zo3 ze3 rfl [vI a1, vI a2] [a1, a2] rfl rfl (Ya6 (eM (f3 9 25 rfl rfl)) (eM (f3 10 26 rfl rfl))) (Xx9 rfl rfl) (by decide) (by decide) hS rfl ?_
 intro v4 v5 v6 h6 hS h7
 have Z2 := Z2.trans h6
 exact Z1 ⟨27, _, _, [], rfl, rfl, Z2, hS, h7⟩
 intro G1 v7 v8 n8 v9 h8 hS s4 f4 hcq
 have Z2 := Sub.refl n8
 have X8 := X5.trans h8
 obtain ⟨w0, n9, h9⟩ := gvS (f4 11 27 rfl rfl)
 refine Y9 Tryz.call80 (U7 (eM (f4 8 24 rfl rfl)) n9) rfl (Yu1 h0 h9 hS) ?_
 rintro w1 w3 ⟨w4, w6, o0, rfl, i0, hS, i1⟩
 refine ⟨_, rfl, ?_⟩
 have Z2 := Z2.trans i0
 exact Z1 ⟨28, _, _, o0, rfl, rfl, Z2, hS, i1⟩
 intro G1 w7 w9 o1 x0 i2 hS s5 i3 hcq
 have Z2 := Sub.refl o1
 have X8 := X5.trans i2
 obtain ⟨o2, o3, i4⟩ := gvR (i3 5 21 rfl rfl)
 refine Z5 (o2) o3 rfl ?_
 exact Z1 ⟨9, _, _, [], rfl, rfl, Z2, hS, i4⟩
 intro e7 e0 g6 e8 e3 hS d5 f5 hcq
 have hS : St e8 g6 ((e7 28 ++ ([])) ++ ([(b4, cA ([vN] ++ [vN]) 29)] ++ ([(b1, cA ([s0] ++ [s1]) 29)] ++ L))) := hS
 have Z2 := Z2.trans e3
 have a5 := a5.mono e3
 have a6 := a6.mono e3
 have e9 : ev e0 (.tmp 1) = vI a1 := Eq.trans (d5 1 rfl) rfl
 have f0 : ev e0 (.tmp 2) = vI a2 := Eq.trans (d5 2 rfl) rfl
 have f1 : ev e0 (.tmp 3) = vP b1 := Eq.trans (d5 3 rfl) rfl
 have d3 : ev e0 (.tmp 6) = vP b4 := Eq.trans (d5 6 rfl) rfl
 obtain ⟨e4, f2, a3⟩ := gvS (f5 13 9 (by decide) rfl)
 obtain ⟨b6, g7⟩ : ∃ v, ev e0 (.tmp 28) = v := ⟨_, rfl⟩
 have b7 : V0 (X6 yT) 47 e8 b6 (c1) (e7 28) := g7 ▸ (f5 12 28 (by decide) rfl)
 obtain ⟨g8, i5⟩ : ∃ C, e7 28 = C := ⟨_, rfl⟩
 rw [i5] at hS b7
 have hS : St e8 g6 (g8 ++ ([(b4, cA ([vN] ++ [vN]) 29)] ++ ([(b1, cA ([s0] ++ [s1]) 29)] ++ L))) := by have h := hS; simp only [List.append_assoc, List.nil_append, List.append_nil] at h; exact h
 refine Z5 (b6) (by exact g7) rfl (Z1 (Z3 (Z0 ?_)))
 refine W2 Q9 (by exact f1) (hS.get (mR (mR mL))) rfl rfl ?_
 obtain ⟨c8, i6, q0⟩ := bind_some q0
 refine Y9 Tryz.call240 (R0 rfl) rfl (Yb0 i6 a5 a6 hS) ?_
 rintro x1 x2 ⟨x3, d4, rfl, d0, hS, i7⟩
 refine ⟨_, rfl, ?_⟩
 have Z2 := Z2.trans d0
 have a3 := a3.mono d0
 have a5 := a5.mono d0
 have a6 := a6.mono d0
 have b7 := b7.mono d0
 refine Z4 (vI a1) (by exact e9) rfl ?_
 obtain ⟨s6, q0⟩ := gd q0
 obtain ⟨s7, q0⟩ := gd q0
 obtain ⟨x4, x5, s8, x6, _, i8, i9, ⟨o4, rfl, j0⟩, j1⟩ := i7.elem (i := a1) (by omega) (by omega)
 refine W3 Yc6 rfl rfl i8 rfl (by omega) (by omega) rfl ?_
 refine Y4 (o4) K9 rfl (hS.froz _ _ i9) (j1 0 (show 0 < 1 by decide)) rfl (Z4 (vI a2) (by exact f0) rfl ?_)
 obtain ⟨s9, q0⟩ := gd q0
 obtain ⟨t0, q0⟩ := gd q0
 obtain ⟨x7, x8, t1, x9, _, j2, j3, rfl, j4⟩ := j0.elem (i := a2) (by omega) (by omega)
 refine W3 Q2 rfl rfl j2 rfl (by omega) (by omega) rfl ?_
 refine Y4 (vI (rd (rd c8 a1) a2)) ty2 rfl (hS.froz _ _ j3) (j4 0 (show 0 < 1 by decide)) rfl (Z5 (vI (rd (rd c8 a1) a2)) rfl rfl (Z1 (Z3 (Z0 (Z4 (b6) rfl rfl (Z4 (vI a2) (by exact f0) rfl ?_))))))
 refine Q1 (vA ([vN])) Yi3 rfl (Z4 (e4) (by exact f2) rfl (Z4 (b6) rfl rfl (Y3 N8 (by exact f1) rfl ?_)))
 refine Y4 (s1) Zf9 rfl (hS.get (mR (mR mL))) rfl rfl (Z4 (vI a1) (by exact e9) rfl ?_)
 obtain ⟨t4, q0⟩ := gd q0
 obtain ⟨o5, y0, j5, g9, _, j6, a7, ⟨e5, rfl, a4⟩, j7⟩ := a6.elem (i := a1) (by omega) (by omega)
 refine W3 I1 rfl rfl j6 rfl (by omega) (by omega) rfl ?_
 refine V6 ([e5]) T1 rfl (hS.froz _ _ a7) rfl j7 rfl ?_
 have zsub := Z2
 have o6 : Y1 (Y6 .i64) d4.noM e4 d9 := a3
 have o7 : Y1 (X6 yT) d4.noM s1 a0.2 := a6
 have o8 : Y1 yT d4.noM e5 (rd a0.2 a1) := a4
 have o9 : Y1 (Y6 .i64) d4.noM s0 a0.1 := a5
 have p0 : V0 (X6 yT) 47 d4.noM b6 c1 g8 := b7
 have p1 : d4.noM o5 = some (.cells j5 g9.1 g9.2) := a7
 obtain ⟨p2, c2, hS, j8, j9⟩ := V0.lend b7 hS
 have Z2 := Z2.trans c2
 have a3 := a3.mono c2
 have a6 := a6.mono c2
 have a4 := a4.mono c2
 have a5 := a5.mono c2
 have a7 := c2.1 _ _ a7
 have hlt := Sb.refl p2
 obtain ⟨g0, k0, q0⟩ := bind_some q0
 refine Y9 Tryz.call81 (I6 rfl rfl rfl) rfl (Yd8 k0 a3 j8 a4 hS) ?_
 rintro y1 y2 ⟨y3, y4, rfl, c3, hS, ⟨_, rfl, ⟨r5, rfl, c0⟩⟩⟩
 refine ⟨_, rfl, ?_⟩
 have Z2 := Z2.trans c3
 have hlt := hlt.trans c3.sb
 have a3 := a3.mono c3
 have a6 := a6.mono c3
 have a4 := a4.mono c3
 have a5 := a5.mono c3
 have a7 := c3.1 _ _ a7
 refine Z4 (vI (rd (rd c8 a1) a2)) rfl rfl ?_
 obtain ⟨e6, k1, q0⟩ := bind_some q0
 refine Y9 Tryz.call149 (R0 rfl) rfl (Yp1 k1  hS) ?_
 rintro y5 y6 ⟨_, y7, rfl, b8, hS, rfl⟩
 refine ⟨_, rfl, ?_⟩
 have Z2 := Z2.trans b8
 have hlt := hlt.trans b8.sb
 have a3 := a3.mono b8
 have a6 := a6.mono b8
 have a4 := a4.mono b8
 have c0 := c0.mono b8
 have a5 := a5.mono b8
 have a7 := b8.1 _ _ a7
 refine Xc4 (IntKind.i64.wrap (0 - e6)) rfl rfl rfl ?_
 obtain ⟨g1, k2, q0⟩ := bind_some q0
 refine Y9 Tryz.call217 (R0 rfl) rfl (Zc2 k2  hS) ?_
 rintro y8 y9 ⟨_, z0, rfl, b9, hS, rfl⟩
 refine ⟨_, rfl, ?_⟩
 have Z2 := Z2.trans b9
 have hlt := hlt.trans b9.sb
 have a3 := a3.mono b9
 have a6 := a6.mono b9
 have a4 := a4.mono b9
 have c0 := c0.mono b9
 have a5 := a5.mono b9
 have a7 := b9.1 _ _ a7
 obtain ⟨c9, k3, q0⟩ := bind_some q0
 have k4 := hlt.1
 refine Y9 Tryz.call143 (I6 rfl rfl rfl) rfl (Zt1 k3 Y1.nil c0 hS) ?_
 rintro z1 z2 ⟨z3, p3, rfl, c4, hS, ⟨_, rfl, ⟨e1, rfl, b5⟩⟩⟩
 refine ⟨_, rfl, ?_⟩
 have k5 := b5
 have f6 : RdF yT H p3 e1 c9 := Y1.mono (Zg1 Z2) b5
 have b5 := Y1.old b5
 have Z2 := Z2.trans c4
 have hlt := hlt.trans c4.sb
 have a3 := a3.mono c4
 have a6 := a6.mono c4
 have a4 := a4.mono c4
 have a5 := a5.mono c4
 have a7 := c4.1 _ _ a7
 obtain ⟨p4, c5, k6, t5, hS⟩ := Xp5.out j9 c2 hlt hS
 have Z2 := Sub.viaM hM zsub c5
 have a3 := o6.mono c5
 have a6 := o7.mono c5
 have a4 := o8.mono c5
 have a7 := c5.1 _ _ p1
 have f6 : RdF yT H p4 e1 c9 := Y1.mono (k6 H _ zsub hM k4) k5
 have b5 := Y1.old f6
 have a5 := o9.mono c5
 have b7 := p0.mono c5
 obtain ⟨t6, q0⟩ := gd q0
 obtain ⟨z4, z5, f8⟩ := b7.some (i := a2) (by omega) (by omega)
 refine Zs3 I1 (Eq.trans rfl f8) rfl (by omega) (by omega) rfl ?_
 refine Zs8 (τ := (X6 yT)) (v := b6) (u := vA ([e1])) c9 (i := a2) rfl T1 f8 b7 hS rfl rfl (by omega) (by omega) ⟨_, rfl, b5⟩ ?_
 intro z6 z7 k7 hS
 refine Z1 (Z3 (Z3 (Z0 (Z4 (e4) (by exact f2) rfl (Z4 (b6) rfl rfl ?_)))))
 obtain ⟨z8, d6, hS, b3⟩ := k7.freeze hS
 have Z2 := Z2.trans d6
 have a3 := a3.mono d6
 have a5 := a5.mono d6
 have a6 := a6.mono d6
 obtain ⟨b2, k8, q0⟩ := bind_some q0
 refine Y9 Tryz.call173 (U7 rfl rfl) rfl (Yh5 k8 a3 b3 hS) ?_
 rintro z9 a00 ⟨_, a01, rfl, d1, hS, ⟨e2, r6, rfl, p5, rfl⟩⟩
 refine ⟨_, rfl, ?_⟩
 have Z2 := Z2.trans d1
 have a3 := a3.mono d1
 have b3 := b3.mono d1
 have a5 := a5.mono d1
 have a6 := a6.mono d1
 refine Z4 (Value.tuple #[e2, vI b2.2]) rfl rfl (W9 (e2) rfl rfl rfl (W9 (vI b2.2) rfl rfl rfl (Z5 (e2) rfl rfl (Z5 (vI b2.2) rfl rfl (Z1 (Z3 (Z0 (Z4 (vI b2.2) rfl rfl ?_))))))))
 refine J2 (k := .i64) (a := b2.2) (b := 0) rfl rfl rfl (Z1 ?_)
 by_cases d7 : b2.2 = 0
 rw [if_pos d7] at q0
 refine Z8 (bN d7 rfl) (Y7 (Z3 (Z0 ?_)))
 refine W2 Q9 (by exact f1) (hS.get (mR mL)) rfl rfl (Z4 (e4) (by exact f2) rfl (Z4 (b6) rfl rfl (Z4 (vI a1) (by exact e9) rfl (Z4 (vI a2) (by exact f0) rfl ?_))))
 refine Zd8 (τ := (Y6 .i64)) Zo3 ze3 rfl [vI a1, vI a2] [a1, a2] rfl rfl (Ya6 rfl rfl) (Xx9 rfl rfl) (by decide) (by decide) hS rfl ?_
 intro a02 a03 a04 d2 hS k9
 have Z2 := Z2.trans d2
 have a3 := a3.mono d2
 have b3 := b3.mono d2
 have a5 := a5.mono d2
 have a6 := a6.mono d2
 obtain ⟨b0, l0, q0⟩ := bind_some q0
 refine Y9 Tryz.call82 (Wo1 rfl rfl rfl rfl) rfl (Yq8 l0 a5 a6 a3 b3 k9 hS) ?_
 rintro a05 a06 ⟨_, a07, rfl, f9, hS, ⟨r7, r8, rfl, ⟨_, rfl, ⟨_, _, rfl, ⟨a8, rfl, c6⟩, ⟨a9, rfl, c7⟩⟩⟩, rfl⟩⟩
 refine ⟨_, rfl, ?_⟩
 have Z2 := Z2.trans f9
 have b3 := b3.mono f9
 refine Z4 (Value.tuple #[vA ([a8] ++ [a9]), vI b0.2]) rfl rfl (W9 (vA ([a8] ++ [a9])) rfl rfl rfl (W9 (vI b0.2) rfl rfl rfl ?_))
 refine V1 (z := vA ([vN] ++ [vN])) ([vN] ++ [vN]).toArray Zz0.zero rfl hS rfl ?_
 intro a08 a09 hS
 refine W0 (v := vA ([a8] ++ [a9])) (vs := ([a8] ++ [a9]).toArray) (cs := ([vN] ++ [vN]).toArray) Q9 rfl rfl rfl hS rfl (L9 (T8 c6.isOne) (T8 c7.isOne)) rfl ?_
 intro a10 hS
 refine Z5 (vI b0.2) rfl rfl (Z1 (Z3 (Z3 (Z0 (Z4 (vI b0.2) rfl rfl ?_)))))
 refine J2 (k := .i64) (a := b0.2) (b := 0) rfl rfl rfl (Z1 ?_)
 by_cases d8 : b0.2 = 0
 rw [if_pos d8] at q0
 refine Z8 (bN d8 rfl) (Y7 (Z3 (Z0 ?_)))
 refine W2 Q9 rfl (hS.get mL) rfl rfl (Z4 (b6) rfl rfl ?_)
 have hS := hS.perm U1
 refine W0 (v := vA ([a8] ++ [a9])) (vs := ([a8] ++ [a9]).toArray) (cs := ([vN] ++ [vN]).toArray) Q9 (by exact d3) rfl rfl hS rfl (L9 (T8 c6.isOne) (T8 c7.isOne)) rfl ?_
 intro a11 hS
 have hS := hS.perm U1.symm
 refine Z5 (b6) rfl rfl (Z5 (vI 0) rfl rfl (Z1 ?_))
 refine X0 (vs := [vA ([a8] ++ [a9]), b6, vI 0]) Tryz.func158 ⟨⟨_, (by exact d3), U5 Q9 (hS.get (mR mL)) rfl⟩, rfl, rfl, trivial⟩ ?_
 have hz := Option.some.inj q0
 subst hz
 exact ⟨_, _, rfl, Z2, (St.dropA (St.dropA (St.dropA hS))), ⟨_, _, _, rfl, ⟨_, rfl, ⟨_, _, rfl, ⟨_, rfl, c6⟩, ⟨_, rfl, c7⟩⟩⟩, b3, rfl⟩⟩
 rw [if_neg d8] at q0
 refine Y0 (bO d8 rfl) (Z3 (Z0 ?_))
 refine Q1 (vA ([vN] ++ [vN])) Yo6 rfl (Z4 (vI b0.2) rfl rfl ?_)
 have hS := hS.perm U1
 refine W0 (v := vA ([vN] ++ [vN])) (vs := ([vN] ++ [vN]).toArray) (cs := ([vN] ++ [vN]).toArray) Q9 (by exact d3) rfl rfl hS rfl (L9 (T8 rfl) (T8 rfl)) rfl ?_
 intro a12 hS
 have hS := hS.perm U1.symm
 refine Z5 (vN) rfl rfl (Z5 (vI b0.2) rfl rfl (Z1 ?_))
 refine X0 (vs := [vA ([vN] ++ [vN]), vN, vI b0.2]) Tryz.func158 ⟨⟨_, (by exact d3), U5 Q9 (hS.get (mR mL)) rfl⟩, rfl, rfl, trivial⟩ ?_
 have hz := Option.some.inj q0
 subst hz
 exact ⟨_, _, rfl, Z2, (St.dropA (St.dropA (St.dropA hS))), ⟨_, _, _, rfl, ⟨_, rfl, ⟨_, _, rfl, ⟨_, rfl, Y1.nil⟩, ⟨_, rfl, Y1.nil⟩⟩⟩, Y1.nil, rfl⟩⟩
 rw [if_neg d7] at q0
 refine Y0 (bO d7 rfl) (Z3 (Z0 ?_))
 refine Q1 (vA ([vN] ++ [vN])) Yo6 rfl (Z4 (vI b2.2) rfl rfl ?_)
 refine W0 (v := vA ([vN] ++ [vN])) (vs := ([vN] ++ [vN]).toArray) (cs := ([vN] ++ [vN]).toArray) Q9 (by exact d3) rfl rfl hS rfl (L9 (T8 rfl) (T8 rfl)) rfl ?_
 intro a13 hS
 refine Z5 (vN) rfl rfl (Z5 (vI b2.2) rfl rfl (Z1 ?_))
 refine X0 (vs := [vA ([vN] ++ [vN]), vN, vI b2.2]) Tryz.func158 ⟨⟨_, (by exact d3), U5 Q9 (hS.get mL) rfl⟩, rfl, rfl, trivial⟩ ?_
 have hz := Option.some.inj q0
 subst hz
 exact ⟨_, _, rfl, Z2, (St.dropA (St.dropA hS)), ⟨_, _, _, rfl, ⟨_, rfl, ⟨_, _, rfl, ⟨_, rfl, Y1.nil⟩, ⟨_, rfl, Y1.nil⟩⟩⟩, Y1.nil, rfl⟩⟩
def T6 (K : Nat) (a0 : LdT) (b1 : (A8 × Int)) : Nat → MpT → Int → Option (Ex MpT (MpT))
 | 0, _, _ => none
 | k + 1, c0, a3 => (if a3 < (a0.1.length : Int) then (if a3 < 8 then (if 0 < (Y5 b1.1 a3) then ((P8 K (a0.1, a0.2.1, a0.2.2) a3 (Y5 b1.1 a3)).bind fun g2 => ((L1 K c0 a0.2.1 g2).bind fun f3 => T6 K a0 b1 k f3 (a3 + 1))) else T6 K a0 b1 k c0 (a3 + 1)) else none) else some (.go c0))
def T5 (K : Nat) (a0 : LdT) : Nat → MpT → MpT → Option (Ex MpT (MpT))
 | 0, _, _ => none
 | k + 1, [], a8 => some (.go a8)
 | k + 1, b1 :: e5, a8 => ((Zk0 K).bind fun h2 => ((T6 K a0 b1 K h2 0).bind (Ex.elim (fun r => some (.ret r)) (fun s => (fun (e6 : MpT) => ((Q5 K a8 e6 b1.2).bind fun g3 => T5 K a0 k e5 g3)) s))))
theorem Ye3 {K : Nat} {a0 : LdT} {a8 : MpT} {k : Nat} {zp zq : MpT} {o : Ex MpT (MpT)} (hp : zp.Perm zq) (q : T5 K a0 k zp a8 = some o) : T5 K a0 k zq a8 = some o := by
 exact (Yd3 (K := K) (fun k zs s => T5 K a0 k zs s) (by intros; rw [T5])
  (fun z => by
   refine ⟨fun s => (Zk0 K).bind fun r => (T6 K a0 z K r 0).bind fun e => (match e with | .ret _ => none | .go y => Q5 K s y z.2), .const fun r => ?_, fun k zs s => ?_⟩
   cases T6 K a0 z K r 0 with
   | none => exact .fail
   | some e => cases e with
    | ret _ => exact .fail
    | go y => exact Xc2 _ _
   rw [T5]
   cases Zk0 K with
   | none => rfl
   | some r =>
    simp only [Option.bind_some]
    cases hq : T6 K a0 z K r 0 with
    | none => rfl
    | some e => cases e with
     | go y => rfl
     | ret y =>
      have : ∀ (k : Nat) (t : MpT) (i : Int) e, T6 K a0 z k t i = some e → ∃ y, e = .go y := by
       intro k
       induction k with
       | zero => intro t i e h; rw [T6] at h; cases h
       | succ k ih =>
        intro t i e h
        rw [T6] at h
        split at h
        split at h
        split at h
        obtain ⟨_, _, h⟩ := bind_some h
        obtain ⟨_, _, h⟩ := bind_some h
        exact ih _ _ _ h
        exact ih _ _ _ h
        cases h
        cases h; exact ⟨_, rfl⟩
      obtain ⟨y', h⟩ := this _ _ _ _ hq
      cases h) hp k a8).symm.trans q
def M1 (K : Nat) (a0 : LdT) (a1 : MpT) : Option MpT := ((T5 K a0 K a1 ([] : MpT)).bind (Ex.elim (fun r => some r) (fun s => (fun (c1 : MpT) => some c1) s)))
theorem Zy3 {K : Nat} {a0 : LdT} {a1 : MpT} {r : MpT} (q0 : M1 K a0 a1 = some r) {H : FH} {w : World} {L : OL} {s0 : Value} {s1 : Value} (m7 : Zn8 (Wj7 K) H s0 a0) (m8 : Q0 .i64 H s1 a1) (hS : St H w L) :
 Calls Tryz.prog 117 #[s0, s1] w (Yp4 .i64 r H L) := by
 obtain ⟨c2, d2, g4, h3, _, rfl, b0, ⟨d7, c8, e7, f4, rfl, a5, a4, a6, a9⟩, g5⟩ := m7
 have Z2 := Sub.refl H
 refine X3 Tryz.func117 rfl Tryz.ntmps117 rfl ?_
 unfold M1 at q0
 refine Z3 (Z0 (Z5 (Value.map none) rfl rfl (Z1 (Z3 (Z0 ?_)))))
 refine Zj4 (k := .i64) hS rfl ?_
 intro m1 w2 C3 m9 hS
 refine Z5 (m1) rfl rfl (Z1 (Z3 (Z3 (Z0 (Z4 (s1) rfl rfl ?_)))))
 refine Yg3 Zh5 rfl m8 hS rfl ?_
 intro e8 w7 C8 n0 hS
 refine Z1 (Y8 ?_)
 obtain ⟨h4, b5, h5⟩ := bind_some q0
 refine W5 (id := 0) (fun k f w => ∃ (c4 : MpT) (a8 : MpT) (H1 : FH) (b6 : OL) (b2 : OL), T5 K a0 k c4 a8 = some h4 ∧ Sub H H1 ∧ St H1 w (b6 ++ (b2 ++ L)) ∧ Ze8 .i64 H1 e8 c4 none b6 ∧ Q4 .i64 m1 a8 b2 ∧ Zv9 H1 f4 (Yj4 K a0) ∧ Y1 (Y6 .i64) H1 d7 a0.1 ∧ Y1 (Y6 .i64) H1 c8 a0.2.1 ∧ Y1 (Zk1 .i64) H1 e7 a0.2.2 ∧ H1 c2 = some (.cells g4 h3) ∧ ev f (.tmp 0) = Value.pointer (some ⟨c2, d2, none⟩) ∧ ev f (.tmp 5) = m1 ∧ ev f (.tmp 12) = e8) (fun f w => ∃ (c1 : MpT) (H1 : FH) (c9 : OL) (d3 : OL), h4 = .go c1 ∧ Sub H H1 ∧ St H1 w (c9 ++ (d3 ++ L)) ∧ Ze8 .i64 H1 e8 ([] : MpT) none c9 ∧ Q4 .i64 m1 c1 d3 ∧ ev f (.tmp 5) = m1) rfl ?_ ?_ K ?_ ?_
 rintro f w ⟨c4, a8, H1, b6, b2, b5, _⟩
 rw [T5] at b5; cases b5
 rintro k o2 o3 n1 n2 ⟨c4, a8, k2, b6, b2, b5, Z2, hS, d8, a7, a9, a5, a4, a6, b0, e9, f0, d4⟩
 refine Z3 (Z0 ?_)
 refine Yl3 (by exact d4) d8 hS rfl ?_ ?_
 intro k3; subst k3
 rw [T5] at b5
 refine W9 (Value.bool false) rfl rfl rfl (Z1 (Z3 (Z8 rfl ?_)))
 refine W4 rfl ?_
 have hz := Option.some.inj b5
 subst hz
 exact n2 _ _ ⟨a8, k2, b6, b2, rfl, Z2, hS, d8, a7, f0⟩
 intro b1 e5 u2 f1 k4 b4 hS
 replace b5 := Ye3 k4 b5
 rw [T5] at b5
 refine W9 (Value.bool true) rfl rfl rfl (Z1 (Z3 (Y0 rfl (Y7 (Y8 (Z3 (Z0 ?_)))))))
 refine Yg6 (by exact d4) b4 hS rfl (W9 (vA (Z7 .i64 b1.1)) rfl rfl rfl (W9 (vI b1.2) rfl rfl rfl ?_))
 refine V1 (z := vA (Z7 .i64 (fun _ => 0))) (Z7 .i64 (fun _ => 0)).toArray Zn3.zero rfl hS rfl ?_
 intro g0 u3 hS
 refine W0 (v := vA (Z7 .i64 b1.1)) (vs := (Z7 .i64 b1.1).toArray) (cs := (Z7 .i64 (fun _ => 0)).toArray) N4 rfl rfl rfl hS rfl (S9 .i64 b1.1) rfl ?_
 intro u4 hS
 refine Z5 (vI b1.2) rfl rfl (Z1 (Z3 (Z0 ?_)))
 obtain ⟨h2, k5, b5⟩ := bind_some b5
 refine Y9 Tryz.call207 Wn7 rfl (Yh2 k5  hS) ?_
 rintro u5 u6 ⟨k0, u7, u8, rfl, d0, hS, k6⟩
 refine ⟨_, rfl, ?_⟩
 have Z2 := Z2.trans d0
 have a5 := a5.mono d0
 have a4 := a4.mono d0
 have a6 := a6.mono d0
 have a9 := a9.mono d0
 have a7 := a7.mono d0
 have b4 := b4.mono d0
 have b0 := d0.1 _ _ b0
 refine Z5 (k0) rfl rfl (Z1 (Z3 (Z3 (Z0 (Z4 (Value.pointer (some ⟨c2, d2, none⟩)) (by exact e9) rfl (P4 rfl rfl (Y3 Wl5 rfl rfl ?_)))))))
 refine Y4 (d7) K9 rfl (hS.froz _ _ b0) (g5 0 (show 0 < 4 by decide)) rfl ?_
 have o4 := a5.bound
 refine W7 Q2 rfl a5 rfl (Z4 (vI 0) rfl rfl (Z1 (Y8 ?_)))
 obtain ⟨i1, b7, hS, h6⟩ := k6.freeze hS
 have Z2 := Z2.trans b7
 have a5 := a5.mono b7
 have a4 := a4.mono b7
 have a6 := a6.mono b7
 have a9 := a9.mono b7
 have a7 := a7.mono b7
 have b4 := b4.mono b7
 have b0 := b7.1 _ _ b0
 obtain ⟨h7, b3, f5⟩ := bind_some b5
 refine W5 (id := 2) (fun k f w => ∃ (c0 : MpT) (a3 : Int) (H1 : FH) (b8 : Value), T6 K a0 b1 k c0 a3 = some h7 ∧ Sub H H1 ∧ St H1 w ([(g0, cA (Z7 .i64 b1.1) 188)] ++ (f1 ++ (b2 ++ L))) ∧ 0 ≤ a3 ∧ Q0 .i64 H1 b8 c0 ∧ Zv9 H1 f4 (Yj4 K a0) ∧ Y1 (Y6 .i64) H1 d7 a0.1 ∧ Y1 (Y6 .i64) H1 c8 a0.2.1 ∧ Y1 (Zk1 .i64) H1 e7 a0.2.2 ∧ Q4 .i64 m1 a8 b2 ∧ Ze8 .i64 H1 e8 e5 (some b1) f1 ∧ H1 c2 = some (.cells g4 h3) ∧ ev f (.tmp 0) = Value.pointer (some ⟨c2, d2, none⟩) ∧ ev f (.tmp 5) = m1 ∧ ev f (.tmp 6) = vP g0 ∧ ev f (.tmp 7) = vI b1.2 ∧ ev f (.tmp 8) = b8 ∧ ev f (.tmp 12) = e8 ∧ ev f (.tmp 23) = vI (a0.1.length : Int) ∧ ev f (.tmp 24) = vI a3) (fun f w => ∃ (e6 : MpT) (H1 : FH) (e4 : Value), h7 = .go e6 ∧ Sub H H1 ∧ St H1 w ([(g0, cA (Z7 .i64 b1.1) 188)] ++ (f1 ++ (b2 ++ L))) ∧ Q0 .i64 H1 e4 e6 ∧ Zv9 H1 f4 (Yj4 K a0) ∧ Y1 (Y6 .i64) H1 d7 a0.1 ∧ Y1 (Y6 .i64) H1 c8 a0.2.1 ∧ Y1 (Zk1 .i64) H1 e7 a0.2.2 ∧ Q4 .i64 m1 a8 b2 ∧ Ze8 .i64 H1 e8 e5 (some b1) f1 ∧ H1 c2 = some (.cells g4 h3) ∧ ev f (.tmp 0) = Value.pointer (some ⟨c2, d2, none⟩) ∧ ev f (.tmp 5) = m1 ∧ ev f (.tmp 7) = vI b1.2 ∧ ev f (.tmp 8) = e4 ∧ ev f (.tmp 12) = e8) rfl ?_ ?_ K ?_ ?_
 rintro f w ⟨c0, a3, H1, b8, b3, _⟩
 rw [T6] at b3; cases b3
 rintro k o5 o6 k1 n3 ⟨c0, a3, h8, b8, b3, Z2, hS, m6, d9, a9, a5, a4, a6, a7, b4, b0, c3, e1, d1, e2, e3, d5, d6, c5⟩
 rw [T6] at b3
 refine Z3 (Z0 ?_)
 refine V7 (k := .i64) (a := a3) (b := (a0.1.length : Int)) (by exact c5) (by exact d6) rfl (Z1 (Z3 ?_))
 by_cases f6 : a3 < (a0.1.length : Int)
 rw [if_pos f6] at b3
 refine Y0 (bT f6 rfl) (Y7 (Z3 (Y8 (Z3 (Z0 (Z4 (vI a3) (by exact c5) rfl (Z5 (vI a3) rfl rfl (Z1 (Z3 (Z0 (Z4 (vI a3) rfl rfl ?_)))))))))))
 obtain ⟨o7, b3⟩ := gd b3
 refine V5 Zi8 (by exact d1) rfl (by omega) (by omega) rfl ?_
 refine Y4 (vI (Y5 b1.1 a3)) ty3 rfl (hS.get (o := cA (Z7 .i64 b1.1) 188) mL) (M7 ([]) ([]) (by omega) (by omega)) rfl ?_
 refine Zf8 (k := .i64) (a := (Y5 b1.1 a3)) (b := 0) rfl rfl rfl (Z1 ?_)
 by_cases f7 : 0 < (Y5 b1.1 a3)
 rw [if_pos f7] at b3
 refine Y0 (bT f7 rfl) ?_
 obtain ⟨g2, i2, b3⟩ := bind_some b3
 obtain ⟨f3, i3, b3⟩ := bind_some b3
 refine U6 12 (P9 [(31, MP.eq (b8)), (32, MP.eq (Value.pointer (some ⟨c2, d2, none⟩))), (33, MP.eq (Value.pointer (some ⟨c2, d2, none⟩))), (34, MP.eq (Value.pointer (some ⟨c2, d2 + 1, none⟩))), (35, MP.eq (c8)), (36, MP.eq (Value.pointer (some ⟨c2, d2, none⟩))), (37, MP.eq (vI a3)), (38, MP.eq (vI a3)), (39, MP.eq (Value.pointer (some ⟨g0, 0 + (a3).toNat * 1, none⟩))), (40, MP.eq (vI (Y5 b1.1 a3))), (41, MP.rep (R.mp .i64) (g2)), (42, MP.mp .i64 (f3))]) [] mixed rfl rfl rfl hS (Z6 rfl ?_ (Z6 rfl ?_ (Z6 rfl ?_ (Z6 rfl ?_ (Z6 rfl ?_ (Z6 rfl ?_ (Z6 rfl ?_ (Z6 rfl ?_ (Z6 rfl ?_ (Z6 rfl ?_ (Z6 rfl ?_ (Z6 rfl ?_ U8)))))))))))) ?_
 intro u9 v0 v1 v2 o8 hS k7 o9 hcq
 refine Z4 (b8) (evT (k7 8 rfl) e3) rfl ?_
 exact qn (.refl _) rfl hS rfl
 intro v3 v4 v5 v6 p0 hS k8 p1 hcq
 refine Z4 (Value.pointer (some ⟨c2, d2, none⟩)) (evT (k8 0 rfl) c3) rfl ?_
 exact qn (.refl _) rfl hS rfl
 intro v7 v8 v9 w0 p2 hS p3 k9 hcq
 refine P4 (eM (k9 1 32 rfl rfl)) rfl ?_
 exact qn (.refl _) rfl hS rfl
 intro w1 w3 w4 w5 p4 hS p5 l0 hcq
 refine Y3 Xr3 (eM (l0 2 33 rfl rfl)) rfl ?_
 exact qn (.refl _) rfl hS rfl
 intro w6 w8 w9 x0 l1 hS p6 l2 hcq
 have b0 := l1.1 _ _ b0
 refine Y4 (c8) K9 (eM (l2 3 34 rfl rfl)) (hS.froz _ _ b0) (g5 1 (show 1 < 4 by decide)) rfl ?_
 exact qn (.refl _) rfl hS rfl
 intro x1 x2 x3 x4 p7 hS l3 p8 hcq
 refine Z4 (Value.pointer (some ⟨c2, d2, none⟩)) (evT (l3 0 rfl) c3) rfl ?_
 exact qn (.refl _) rfl hS rfl
 intro n4 x5 x6 x7 p9 hS l4 q1 hcq
 have n5 : ev n4 (.tmp 9) = vI a3 := Eq.trans (l4 9 rfl) rfl
 refine Z4 (vI a3) n5 rfl ?_
 exact qn (.refl _) rfl hS rfl
 intro n6 x8 x9 y0 q2 hS l5 q3 hcq
 have l6 : ev n6 (.tmp 9) = vI a3 := Eq.trans (l5 9 rfl) rfl
 refine Z4 (vI a3) l6 rfl ?_
 exact qn (.refl _) rfl hS rfl
 intro q4 q5 q6 q7 n7 hS i4 i5 hcq
 refine V5 Zi8 (evT (i4 6 rfl) d1) (eM (i5 7 38 rfl rfl)) (by omega) (by omega) rfl ?_
 exact qn (.refl _) rfl hS rfl
 intro q8 q9 r0 r1 n8 hS n9 i6 hcq
 refine Y4 (vI (Y5 b1.1 a3)) ty3 (eM (i6 8 39 rfl rfl)) (hS.get (o := cA (Z7 .i64 b1.1) 188) (mR mL)) (M7 ([]) ([]) (by omega) (by omega)) rfl ?_
 exact qn (.refl _) rfl hS rfl
 intro r2 r3 r4 r5 e0 hS o0 f8 hcq
 have a5 := a5.mono e0
 have a4 := a4.mono e0
 have a6 := a6.mono e0
 have a9 := a9.mono e0
 have b0 := e0.1 _ _ b0
 refine Y9 Tryz.call208 (I6 (eM (f8 5 36 rfl rfl)) (eM (f8 6 37 rfl rfl)) (eM (f8 9 40 rfl rfl))) rfl (Yk8 i2 ⟨_, _, _, _, _, rfl, b0, ⟨_, _, _, _, rfl, a5, a4, a6, a9⟩, g5⟩ hS) ?_
 rintro r6 r7 ⟨l7, r8, rfl, i7, hS, i8⟩
 refine ⟨l7, rfl, ?_⟩
 exact qn i7 rfl hS i8
 intro r9 s2 l9 s3 g7 hS o1 f9 hcq
 have Z2 := Sub.refl l9
 have a4 := a4.mono g7
 have d9 := d9.mono g7
 obtain ⟨s4, m0, i9⟩ := gvR (f9 10 41 rfl rfl)
 refine Y9 Tryz.call131 (I6 (eM (f9 0 31 rfl rfl)) (eM (f9 4 35 rfl rfl)) m0) rfl (Zn1 i3 d9 a4 i9 hS) ?_
 rintro s5 s6 ⟨s7, s8, s9, rfl, j0, hS, j1⟩
 refine ⟨_, rfl, ?_⟩
 have Z2 := Z2.trans j0
 obtain ⟨t0, j2, hS, j3⟩ := j1.freeze hS
 have Z2 := Z2.trans j2
 exact Z1 ⟨42, _, _, rfl, rfl, Z2, hS, j3⟩
 intro t1 m2 h9 b9 hS c6 j4 hcq
 have hS : St h9 m2 ([(g0, cA (Z7 .i64 b1.1) 188)] ++ (f1 ++ (b2 ++ L))) := hS
 have Z2 := Z2.trans b9
 have a5 := a5.mono b9
 have a4 := a4.mono b9
 have a6 := a6.mono b9
 have a9 := a9.mono b9
 have a7 := a7.mono b9
 have b4 := b4.mono b9
 have b0 := b9.1 _ _ b0
 obtain ⟨i0, m3, j5⟩ := gvM (j4 11 42 (by decide) rfl)
 refine Z5 (i0) (by exact m3) rfl (Z1 (X2 (Z0 ?_)))
 refine W8 (a3 + 1) (by exact (evT (c6 24 rfl) c5)) rfl (IntWalk.i64_in _ (by omega)) rfl (Z4 (vI (a3 + 1)) rfl rfl (Z1 ?_))
 exact k1 _ _ ⟨f3, (a3 + 1), h9, i0, b3, Z2, hS, (by omega), j5, a9, a5, a4, a6, a7, b4, b0, (evT (c6 0 rfl) c3), (evT (c6 5 rfl) e1), (evT (c6 6 rfl) d1), (evT (c6 7 rfl) e2), rfl, (evT (c6 12 rfl) d5), (evT (c6 23 rfl) d6), rfl⟩
 rw [if_neg f7] at b3
 refine Z8 (bF f7 rfl) (Y7 (X2 (Z0 ?_)))
 refine W8 (a3 + 1) (by exact c5) rfl (IntWalk.i64_in _ (by omega)) rfl (Z4 (vI (a3 + 1)) rfl rfl (Z1 ?_))
 exact k1 _ _ ⟨c0, (a3 + 1), h8, b8, b3, Z2, hS, (by omega), d9, a9, a5, a4, a6, a7, b4, b0, c3, e1, d1, e2, e3, d5, d6, rfl⟩
 rw [if_neg f6] at b3
 refine Z8 (bF f6 rfl) ?_
 refine W4 rfl ?_
 have hz := Option.some.inj b3
 subst hz
 exact n3 _ _ ⟨c0, h8, b8, rfl, Z2, hS, d9, a9, a5, a4, a6, a7, b4, b0, c3, e1, e2, e3, d5⟩
 exact ⟨h2, 0, i1, k0, b3, Z2, hS, (by omega), h6, a9, a5, a4, a6, a7, b4, b0, e9, f0, rfl, rfl, rfl, d4, rfl, rfl⟩
 rintro t4 t5 ⟨e6, t6, e4, rfl, Z2, hS, j6, a9, a5, a4, a6, a7, b4, b0, g8, f2, g9, h0, g6⟩
 dsimp only [Ex.elim] at f5
 refine Z0 (Z4 (m1) (by exact f2) rfl (Z4 (e4) (by exact h0) rfl (Z4 (vI b1.2) (by exact g9) rfl ?_)))
 obtain ⟨g3, j7, f5⟩ := bind_some f5
 have hS := hS.perm Zb7
 refine Y9 Tryz.call132 (I6 rfl rfl rfl) rfl (Zs7 j7 a7 j6 hS) ?_
 rintro t7 t8 ⟨m4, m5, rfl, c7, hS, j8⟩
 refine ⟨_, rfl, ?_⟩
 have Z2 := Z2.trans c7
 have a5 := a5.mono c7
 have a4 := a4.mono c7
 have a6 := a6.mono c7
 have a9 := a9.mono c7
 have b4 := b4.mono c7
 have b0 := c7.1 _ _ b0
 have hS := hS.perm Zb7.symm
 refine Z1 (X2 ?_)
 have hS := St.dropA hS
 exact n1 _ _ ⟨e5, g3, m4, f1, m5, f5, Z2, hS, b4.drop, j8, a9, a5, a4, a6, b0, g8, f2, g6⟩
 exact ⟨a1, ([] : MpT), H, C8, C3, b5, Z2, hS, n0, m9, a9, a5, a4, a6, b0, rfl, rfl, rfl⟩
 rintro t9 u0 ⟨c1, u1, c9, d3, rfl, Z2, hS, j9, g1, h1⟩
 dsimp only [Ex.elim] at h5
 refine Z3 (Z0 (Z4 (m1) (by exact h1) rfl (Z5 (m1) rfl rfl (Z1 ?_))))
 refine X0 (vs := [m1]) Tryz.func117 ⟨rfl, trivial⟩ ?_
 have hS := hS.perm U1
 have hS := St.dropMid hS
 have hz := Option.some.inj h5
 subst hz
 exact ⟨_, _, _, rfl, Z2, hS, g1⟩
def Zh8 (K : Nat) (a0 : MpT) (a1 : ((List Int) × (List MpT))) : Option Bool := ((Zg3 K a0).bind fun r5 => ((Zi3 K (a1.1, a1.2) r5).bind fun a6 => some (decide (0 < (a6.length : Int)))))
theorem Yj8 {K : Nat} {a0 : MpT} {a1 : ((List Int) × (List MpT))} {r : Bool} (q0 : Zh8 K a0 a1 = some r) {H : FH} {w : World} {L : OL} {s0 : Value} {s1 : Value} (b5 : Y1 yT H s0 a0) (b6 : Zn8 (Zs6 (X6 (Y6 .i64)) (X6 (X6 yT))) H s1 a1) (hS : St H w L) :
 Calls Tryz.prog 128 #[vA ([s0]), s1] w (T2 (fun v G => R.bool.p G v r) H L) := by
 obtain ⟨c2, c3, c1, c4, _, rfl, a5, ⟨_, _, rfl, ⟨b7, rfl, a3⟩, ⟨b8, rfl, a4⟩⟩, a9⟩ := b6
 have Z2 := Sub.refl H
 refine X3 Tryz.func128 rfl Tryz.ntmps128 rfl ?_
 unfold Zh8 at q0
 refine Z3 (Z0 ?_)
 refine S4 (v := vA ([s0])) ([s0]).toArray rfl rfl hS rfl ?_
 intro b1 w2 hS
 refine Z5 (Value.bool false) rfl rfl (Z1 (Z3 (Z0 ?_)))
 refine W2 T1 rfl (hS.get mL) rfl rfl ?_
 obtain ⟨r5, b9, q0⟩ := bind_some q0
 refine Y9 Tryz.call90 (R0 rfl) rfl (Zp5 b9 b5 hS) ?_
 rintro e5 w6 ⟨m5, H5, C5, rfl, a7, hS, c0⟩
 refine ⟨_, rfl, ?_⟩
 have Z2 := Z2.trans a7
 have a3 := a3.mono a7
 have a4 := a4.mono a7
 have a5 := a7.1 _ _ a5
 obtain ⟨H8, a8, hS, b0⟩ := c0.freeze hS
 have Z2 := Z2.trans a8
 have a3 := a3.mono a8
 have a4 := a4.mono a8
 have a5 := a8.1 _ _ a5
 obtain ⟨a6, b2, q0⟩ := bind_some q0
 refine Y9 Tryz.call120 (U7 rfl rfl) rfl (Yr2 b2 ⟨_, _, _, _, _, rfl, a5, ⟨_, _, rfl, ⟨_, rfl, a3⟩, ⟨_, rfl, a4⟩⟩, a9⟩ b0 hS) ?_
 rintro c5 c6 ⟨c7, c8, c9, rfl, b3, hS, b4⟩
 refine ⟨_, rfl, ?_⟩
 have Z2 := Z2.trans b3
 refine Wf4 Zh5 rfl b4 hS rfl ?_
 refine Zf8 (k := .i64) (a := (a6.length : Int)) (b := 0) rfl rfl rfl (Z5 (Value.bool (decide (0 < (a6.length : Int)))) rfl rfl (Z1 ?_))
 refine X0 (vs := [Value.bool (decide (0 < (a6.length : Int)))]) Tryz.func128 ⟨rfl, trivial⟩ ?_
 have hz := Option.some.inj q0
 subst hz
 exact ⟨_, _, rfl, Z2, (St.dropA (St.dropA hS)), rfl⟩
end Go.Proofs.YtfodlhkoafhplaaGreat
