/- Walks of functions: each computes its pure function, if that gives a value. -/
import Derived.Test.YtfodlhkoafhplaaGreatTTy
import Derived.Test.YtfodlhkoafhplaaGreatTF4
import Derived.Test.YtfodlhkoafhplaaGreatTF12
import Derived.Test.YtfodlhkoafhplaaGreatTF14
import Derived.Test.YtfodlhkoafhplaaGreatTF16
import Derived.Test.YtfodlhkoafhplaaGreatTF5
import Derived.Test.YtfodlhkoafhplaaGreatTF1
import Derived.Test.YtfodlhkoafhplaaGreatTF10
import Derived.Test.YtfodlhkoafhplaaGreatTF3
import Derived.Test.YtfodlhkoafhplaaGreatTF7
import Derived.Test.YtfodlhkoafhplaaGreatTF15
namespace Go.Proofs.YtfodlhkoafhplaaGreat
open Go
set_option linter.unusedSimpArgs false
set_option linter.unusedVariables false
set_option maxRecDepth 100000
set_option maxHeartbeats 8000000
def Zk1 (K : Nat) (a0 : ((List Int) × (List MpT))) (a1 : Int) (a2 : Int) : Option (((List Int) × (List MpT)) × (List MpT) × Int) := ((Zl6 K a0.1 ([a1, a2])).bind fun d9 => ((Zk8 K (a0.1.length : Int) ([a1, a2])).bind fun c1 => ((Zj5 K (a0.1, a0.2)).bind fun c8 => (if 0 ≤ a1 then (if a1 < (c8.length : Int) then (if 0 ≤ a2 then (if a2 < ((rd c8 a1).length : Int) then (if a1 < (a0.2.length : Int) then ((Zh5 K d9 c1 (rd a0.2 a1)).bind fun g0 => ((Zm4 K (rd (rd c8 a1) a2)).bind fun e6 => ((Za6 K (IntKind.i64.wrap (0 - e6))).bind fun g1 => ((Zd5 K ([] : List (A8 × Int)) g0 g1).bind fun c9 => (if a2 < (c1.length : Int) then ((Zd7 K d9 (c1.set (a2).toNat c9)).bind fun b2 => (if b2.2 = 0 then ((Zj3 K (a0.1, a0.2) d9 (c1.set (a2).toNat c9) ([a1, a2])).bind fun b0 => (if b0.2 = 0 then some ((b0.1.1, b0.1.2), (c1.set (a2).toNat c9), 0) else some ((([] : List Int), ([] : List MpT)), ([] : List MpT), b0.2))) else some ((([] : List Int), ([] : List MpT)), ([] : List MpT), b2.2))) else none))))) else none) else none) else none) else none) else none))))
theorem Ym6 {K : Nat} {a0 : ((List Int) × (List MpT))} {a1 : Int} {a2 : Int} {r : (((List Int) × (List MpT)) × (List MpT) × Int)} (q0 : Zk1 K a0 a1 a2 = some r) {H : FH} {w : World} {L : OL} {s0 : Value} {s1 : Value} (a5 : Z9 (Y6 .i64) H s0 a0.1) (a6 : Z9 (Y9 yT) H s1 a0.2) (hM : ∀ b, H.memo b = none) (hS : St H w L) :
 Calls Tryz.prog 158 #[vA ([s0] ++ [s1]), vI a1, vI a2] w (T3 (fun v G => (R.t3 (R.agg (Zl2 (Y9 (Y6 .i64)) (Y9 (Y9 yT)))) (R.sl (Y9 yT)) (R.int .i64)).p G v r) H L) := by
 have Z2 := Sub.refl H
 refine X6 Tryz.func158 rfl Tryz.ntmps158 rfl ?_
 unfold Zk1 at q0
 refine Z3 (Z1 ?_)
 refine S4 (v := vA ([s0] ++ [s1])) ([s0] ++ [s1]).toArray rfl rfl hS rfl ?_
 intro b1 w2 hS
 refine V0 (z := vA ([vN] ++ [vN])) ([vN] ++ [vN]).toArray Zu2.zero rfl hS rfl ?_
 intro b4 w5 hS
 refine Z5 (vN) rfl rfl (Z5 (vI 0) rfl rfl (Z0 (Z3 ?_)))
 obtain ⟨d9, l1, q0⟩ := bind_some q0
 have t7 := a5.bound
 obtain ⟨c1, h0, q0⟩ := bind_some q0
 have X2 := Z2
 refine Xi2 14 (fun t C => Q6 [(16, MP.eq (vP b1)), (17, MP.eq (s0)), (18, MP.eq (vI a1)), (19, MP.eq (vI a2)), (20, MP.sl (Y6 .i64) ([a1, a2])), (21, MP.rep (R.sl (Y6 .i64)) (d9)), (22, MP.eq (vP b1)), (23, MP.eq (s0)), (24, MP.eq (vI (a0.1.length : Int))), (25, MP.eq (vI a1)), (26, MP.eq (vI a2)), (27, MP.sl (Y6 .i64) ([a1, a2])), (28, MP.own (Y9 yT) 47 (c1) C), (9, MP.sl (Y6 .i64) (d9))] t) [] mixed rfl rfl rfl hS (Zf0 rfl ?_ (Zf0 rfl ?_ (Zf0 rfl ?_ (Zf0 rfl ?_ (Zf0 rfl ?_ (Zf0 rfl ?_ (Zf0 rfl ?_ (Zf0 rfl ?_ (Zf0 rfl ?_ (Zf0 rfl ?_ (Zf0 rfl ?_ (Zf0 rfl ?_ (Zf0 rfl ?_ (Zf0 rfl ?_ U8)))))))))))))) ?_
 intro G1 f7 w8 H9 X10 l2 hS l3 t8 hcq
 have Z2 := Sub.refl H9
 have X8 := X2.trans l2
 have p6 : ev f7 (.tmp 3) = vP b1 := Eq.trans (l3 3 rfl) rfl
 refine Y2 R2 p6 rfl ?_
 exact Z0 ⟨16, _, _, [], rfl, rfl, Z2, hS, rfl⟩
 intro G1 f16 w17 p7 X19 l4 hS t9 l5 hcq
 have Z2 := Sub.refl p7
 have X8 := X2.trans l4
 refine Y3 (s0) M0 (eM (l5 0 16 rfl rfl)) (hS.get (mR (mR mL))) rfl rfl ?_
 exact Z0 ⟨17, _, _, [], rfl, rfl, Z2, hS, rfl⟩
 intro G1 p8 w26 p9 X28 l6 hS l7 u0 hcq
 have Z2 := Sub.refl p9
 have X8 := X2.trans l6
 have q1 : ev p8 (.tmp 1) = vI a1 := Eq.trans (l7 1 rfl) rfl
 refine Z4 (vI a1) q1 rfl ?_
 exact Z0 ⟨18, _, _, [], rfl, rfl, Z2, hS, rfl⟩
 intro G1 q2 w35 q3 X37 l9 hS m0 u1 hcq
 have Z2 := Sub.refl q3
 have X8 := X2.trans l9
 have q4 : ev q2 (.tmp 2) = vI a2 := Eq.trans (m0 2 rfl) rfl
 refine Z4 (vI a2) q4 rfl ?_
 exact Z0 ⟨19, _, _, [], rfl, rfl, Z2, hS, rfl⟩
 intro G1 f43 w44 q5 X46 m1 hS u2 g2 hcq
 have Z2 := Sub.refl q5
 have X8 := X2.trans m1
 refine D1 (τ := (Y6 .i64)) Zq1 ze3 rfl [vI a1, vI a2] [a1, a2] rfl rfl (Zw3 (eM (g2 2 18 rfl rfl)) (eM (g2 3 19 rfl rfl))) (Xx6 rfl rfl) (by decide) (by decide) hS rfl ?_
 intro u53 H54 w55 m2 hS m3
 have Z2 := Z2.trans m2
 exact Z0 ⟨20, _, _, [], rfl, rfl, Z2, hS, m3⟩
 intro G1 f58 w59 q6 X61 g3 hS u3 g4 hcq
 have Z2 := Sub.refl q6
 have X8 := X2.trans g3
 have a5 := a5.mono g3
 obtain ⟨v68, q7, m4⟩ := gvS (g4 4 20 rfl rfl)
 refine X0 Tryz.call79 (S5 (eM (g4 1 17 rfl rfl)) q7) rfl (Yo5 l1 a5 m4 hS) ?_
 rintro e69 w70 ⟨q8, H69, rfl, m5, hS, m6⟩
 refine ⟨q8, rfl, ?_⟩
 have Z2 := Z2.trans m5
 exact Z0 ⟨21, _, _, [], rfl, rfl, Z2, hS, m6⟩
 intro G1 q9 w72 r0 X74 m7 hS m8 u4 hcq
 have Z2 := Sub.refl r0
 have X8 := X2.trans m7
 have r1 : ev q9 (.tmp 3) = vP b1 := Eq.trans (m8 3 rfl) rfl
 refine Y2 R2 r1 rfl ?_
 exact Z0 ⟨22, _, _, [], rfl, rfl, Z2, hS, rfl⟩
 intro G1 f80 w81 r2 X83 m9 hS u5 n0 hcq
 have Z2 := Sub.refl r2
 have X8 := X2.trans m9
 refine Y3 (s0) M0 (eM (n0 6 22 rfl rfl)) (hS.get (mR (mR mL))) rfl rfl ?_
 exact Z0 ⟨23, _, _, [], rfl, rfl, Z2, hS, rfl⟩
 intro G1 f89 w90 r3 X92 g5 hS u6 n1 hcq
 have Z2 := Sub.refl r3
 have X8 := X2.trans g5
 have a5 := a5.mono g5
 refine W6 Q1 (eM (n1 7 23 rfl rfl)) a5 rfl ?_
 exact Z0 ⟨24, _, _, [], rfl, rfl, Z2, hS, rfl⟩
 intro G1 r4 u7 n2 u8 h1 hS h2 r9 hcq
 have Z2 := Sub.refl n2
 have X8 := X2.trans h1
 have n3 : ev r4 (.tmp 1) = vI a1 := Eq.trans (h2 1 rfl) rfl
 refine Z4 (vI a1) n3 rfl ?_
 exact Z0 ⟨25, _, _, [], rfl, rfl, Z2, hS, rfl⟩
 intro G1 n4 u9 n5 v0 h3 hS h4 s2 hcq
 have Z2 := Sub.refl n5
 have X8 := X2.trans h3
 have n6 : ev n4 (.tmp 2) = vI a2 := Eq.trans (h4 2 rfl) rfl
 refine Z4 (vI a2) n6 rfl ?_
 exact Z0 ⟨26, _, _, [], rfl, rfl, Z2, hS, rfl⟩
 intro G1 v1 v2 n7 v3 h5 hS s3 f3 hcq
 have Z2 := Sub.refl n7
 have X8 := X2.trans h5
 refine D1 (τ := (Y6 .i64)) Zq1 ze3 rfl [vI a1, vI a2] [a1, a2] rfl rfl (Zw3 (eM (f3 9 25 rfl rfl)) (eM (f3 10 26 rfl rfl))) (Xx6 rfl rfl) (by decide) (by decide) hS rfl ?_
 intro v4 v5 v6 h6 hS h7
 have Z2 := Z2.trans h6
 exact Z0 ⟨27, _, _, [], rfl, rfl, Z2, hS, h7⟩
 intro G1 v7 v8 n8 v9 h8 hS s4 f4 hcq
 have Z2 := Sub.refl n8
 have X8 := X2.trans h8
 obtain ⟨w0, n9, h9⟩ := gvS (f4 11 27 rfl rfl)
 refine X0 Tryz.call80 (S5 (eM (f4 8 24 rfl rfl)) n9) rfl (Yd6 h0 h9 hS) ?_
 rintro w1 w3 ⟨w4, w6, o0, rfl, i0, hS, i1⟩
 refine ⟨_, rfl, ?_⟩
 have Z2 := Z2.trans i0
 exact Z0 ⟨28, _, _, o0, rfl, rfl, Z2, hS, i1⟩
 intro G1 w7 w9 o1 x0 i2 hS s5 i3 hcq
 have Z2 := Sub.refl o1
 have X8 := X2.trans i2
 obtain ⟨o2, o3, i4⟩ := gvR (i3 5 21 rfl rfl)
 refine Z5 (o2) o3 rfl ?_
 exact Z0 ⟨9, _, _, [], rfl, rfl, Z2, hS, i4⟩
 intro e7 e0 g6 e8 e3 hS d5 f5 hcq
 have hS : St e8 g6 ((e7 28 ++ ([])) ++ ([(b4, cA ([vN] ++ [vN]) 29)] ++ ([(b1, cA ([s0] ++ [s1]) 29)] ++ L))) := hS
 have Z2 := Z2.trans e3
 have a5 := a5.mono e3
 have a6 := a6.mono e3
 have e9 : ev e0 (.tmp 1) = vI a1 := Eq.trans (d5 1 rfl) rfl
 have f0 : ev e0 (.tmp 2) = vI a2 := Eq.trans (d5 2 rfl) rfl
 have f1 : ev e0 (.tmp 3) = vP b1 := Eq.trans (d5 3 rfl) rfl
 have d3 : ev e0 (.tmp 6) = vP b4 := Eq.trans (d5 6 rfl) rfl
 obtain ⟨e4, f2, a3⟩ := gvS (f5 13 9 (by decide) rfl)
 obtain ⟨b6, g7⟩ : ∃ v, ev e0 (.tmp 28) = v := ⟨_, rfl⟩
 have b7 : W3 (Y9 yT) 47 e8 b6 (c1) (e7 28) := g7 ▸ (f5 12 28 (by decide) rfl)
 obtain ⟨g8, i5⟩ : ∃ C, e7 28 = C := ⟨_, rfl⟩
 rw [i5] at hS b7
 have hS : St e8 g6 (g8 ++ ([(b4, cA ([vN] ++ [vN]) 29)] ++ ([(b1, cA ([s0] ++ [s1]) 29)] ++ L))) := by have h := hS; simp only [List.append_assoc, List.nil_append, List.append_nil] at h; exact h
 refine Z5 (b6) (by exact g7) rfl (Z0 (Z3 (Z1 ?_)))
 refine W1 Q8 (by exact f1) (hS.get (mR (mR mL))) rfl rfl ?_
 obtain ⟨c8, i6, q0⟩ := bind_some q0
 refine X0 Tryz.call240 (S1 rfl) rfl (Yb5 i6 a5 a6 hS) ?_
 rintro x1 x2 ⟨x3, d4, rfl, d0, hS, i7⟩
 refine ⟨_, rfl, ?_⟩
 have Z2 := Z2.trans d0
 have a3 := a3.mono d0
 have a5 := a5.mono d0
 have a6 := a6.mono d0
 have b7 := b7.mono d0
 refine Z4 (vI a1) (by exact e9) rfl ?_
 obtain ⟨s6, q0⟩ := gd q0
 obtain ⟨s7, q0⟩ := gd q0
 obtain ⟨x4, x5, s8, x6, _, i8, i9, ⟨o4, rfl, j0⟩, j1⟩ := i7.elem (i := a1) (by omega) (by omega)
 refine W2 Yd5 rfl rfl i8 rfl (by omega) (by omega) rfl ?_
 refine Y3 (o4) M0 rfl (hS.froz _ _ i9) (j1 0 (show 0 < 1 by decide)) rfl (Z4 (vI a2) (by exact f0) rfl ?_)
 obtain ⟨s9, q0⟩ := gd q0
 obtain ⟨t0, q0⟩ := gd q0
 obtain ⟨x7, x8, t1, x9, _, j2, j3, rfl, j4⟩ := j0.elem (i := a2) (by omega) (by omega)
 refine W2 Q1 rfl rfl j2 rfl (by omega) (by omega) rfl ?_
 refine Y3 (vI (rd (rd c8 a1) a2)) ty2 rfl (hS.froz _ _ j3) (j4 0 (show 0 < 1 by decide)) rfl (Z5 (vI (rd (rd c8 a1) a2)) rfl rfl (Z0 (Z3 (Z1 (Z4 (b6) rfl rfl (Z4 (vI a2) (by exact f0) rfl ?_))))))
 refine R4 (vA ([vN])) Yc4 rfl (Z4 (e4) (by exact f2) rfl (Z4 (b6) rfl rfl (Y2 P8 (by exact f1) rfl ?_)))
 refine Y3 (s1) Zd0 rfl (hS.get (mR (mR mL))) rfl rfl (Z4 (vI a1) (by exact e9) rfl ?_)
 obtain ⟨t4, q0⟩ := gd q0
 obtain ⟨o5, y0, j5, g9, _, j6, a7, ⟨e5, rfl, a4⟩, j7⟩ := a6.elem (i := a1) (by omega) (by omega)
 refine W2 N1 rfl rfl j6 rfl (by omega) (by omega) rfl ?_
 refine V2 ([e5]) U3 rfl (hS.froz _ _ a7) rfl j7 rfl ?_
 have zsub := Z2
 have o6 : Z9 (Y6 .i64) d4.noM e4 d9 := a3
 have o7 : Z9 (Y9 yT) d4.noM s1 a0.2 := a6
 have o8 : Z9 yT d4.noM e5 (rd a0.2 a1) := a4
 have o9 : Z9 (Y6 .i64) d4.noM s0 a0.1 := a5
 have p0 : W3 (Y9 yT) 47 d4.noM b6 c1 g8 := b7
 have p1 : d4.noM o5 = some (.cells j5 g9.1 g9.2) := a7
 obtain ⟨p2, c2, hS, j8, j9⟩ := W3.lend b7 hS
 have Z2 := Z2.trans c2
 have a3 := a3.mono c2
 have a6 := a6.mono c2
 have a4 := a4.mono c2
 have a5 := a5.mono c2
 have a7 := c2.1 _ _ a7
 have hlt := Sb.refl p2
 obtain ⟨g0, k0, q0⟩ := bind_some q0
 refine X0 Tryz.call81 (I1 rfl rfl rfl) rfl (Zw6 k0 a3 j8 a4 hS) ?_
 rintro y1 y2 ⟨y3, y4, rfl, c3, hS, ⟨_, rfl, ⟨r5, rfl, c0⟩⟩⟩
 refine ⟨_, rfl, ?_⟩
 have Z2 := Z2.trans c3
 have hlt := hlt.trans c3.sb
 have a3 := a3.mono c3
 have a6 := a6.mono c3
 have a4 := a4.mono c3
 have a5 := a5.mono c3
 have a7 := c3.1 _ _ a7
 refine Z4 (vI (rd (rd c8 a1) a2)) rfl rfl ?_
 obtain ⟨e6, k1, q0⟩ := bind_some q0
 refine X0 Tryz.call149 (S1 rfl) rfl (Yo8 k1  hS) ?_
 rintro y5 y6 ⟨_, y7, rfl, b8, hS, rfl⟩
 refine ⟨_, rfl, ?_⟩
 have Z2 := Z2.trans b8
 have hlt := hlt.trans b8.sb
 have a3 := a3.mono b8
 have a6 := a6.mono b8
 have a4 := a4.mono b8
 have c0 := c0.mono b8
 have a5 := a5.mono b8
 have a7 := b8.1 _ _ a7
 refine Xe0 (IntKind.i64.wrap (0 - e6)) rfl rfl rfl ?_
 obtain ⟨g1, k2, q0⟩ := bind_some q0
 refine X0 Tryz.call217 (S1 rfl) rfl (Zd2 k2  hS) ?_
 rintro y8 y9 ⟨_, z0, rfl, b9, hS, rfl⟩
 refine ⟨_, rfl, ?_⟩
 have Z2 := Z2.trans b9
 have hlt := hlt.trans b9.sb
 have a3 := a3.mono b9
 have a6 := a6.mono b9
 have a4 := a4.mono b9
 have c0 := c0.mono b9
 have a5 := a5.mono b9
 have a7 := b9.1 _ _ a7
 obtain ⟨c9, k3, q0⟩ := bind_some q0
 have k4 := hlt.1
 refine X0 Tryz.call143 (I1 rfl rfl rfl) rfl (Zt4 k3 Z9.nil c0 hS) ?_
 rintro z1 z2 ⟨z3, p3, rfl, c4, hS, ⟨_, rfl, ⟨e1, rfl, b5⟩⟩⟩
 refine ⟨_, rfl, ?_⟩
 have k5 := b5
 have f6 : RdF yT H p3 e1 c9 := Z9.mono (N2 Z2) b5
 have b5 := Z9.old b5
 have Z2 := Z2.trans c4
 have hlt := hlt.trans c4.sb
 have a3 := a3.mono c4
 have a6 := a6.mono c4
 have a4 := a4.mono c4
 have a5 := a5.mono c4
 have a7 := c4.1 _ _ a7
 obtain ⟨p4, c5, k6, t5, hS⟩ := Yu7.out j9 c2 hlt hS
 have Z2 := Sub.viaM hM zsub c5
 have a3 := o6.mono c5
 have a6 := o7.mono c5
 have a4 := o8.mono c5
 have a7 := c5.1 _ _ p1
 have f6 : RdF yT H p4 e1 c9 := Z9.mono (k6 H _ zsub hM k4) k5
 have b5 := Z9.old f6
 have a5 := o9.mono c5
 have b7 := p0.mono c5
 obtain ⟨t6, q0⟩ := gd q0
 obtain ⟨z4, z5, f8⟩ := b7.some (i := a2) (by omega) (by omega)
 refine Zt8 N1 (Eq.trans rfl f8) rfl (by omega) (by omega) rfl ?_
 refine Zu1 (τ := (Y9 yT)) (v := b6) (u := vA ([e1])) c9 (i := a2) rfl U3 f8 b7 hS rfl rfl (by omega) (by omega) ⟨_, rfl, b5⟩ ?_
 intro z6 z7 k7 hS
 refine Z0 (Z3 (Z3 (Z1 (Z4 (e4) (by exact f2) rfl (Z4 (b6) rfl rfl ?_)))))
 obtain ⟨z8, d6, hS, b3⟩ := k7.freeze hS
 have Z2 := Z2.trans d6
 have a3 := a3.mono d6
 have a5 := a5.mono d6
 have a6 := a6.mono d6
 obtain ⟨b2, k8, q0⟩ := bind_some q0
 refine X0 Tryz.call173 (S5 rfl rfl) rfl (Zy5 k8 a3 b3 hS) ?_
 rintro z9 a00 ⟨_, a01, rfl, d1, hS, ⟨e2, r6, rfl, p5, rfl⟩⟩
 refine ⟨_, rfl, ?_⟩
 have Z2 := Z2.trans d1
 have a3 := a3.mono d1
 have b3 := b3.mono d1
 have a5 := a5.mono d1
 have a6 := a6.mono d1
 refine Z4 (Value.tuple #[e2, vI b2.2]) rfl rfl (W9 (e2) rfl rfl rfl (W9 (vI b2.2) rfl rfl rfl (Z5 (e2) rfl rfl (Z5 (vI b2.2) rfl rfl (Z0 (Z3 (Z1 (Z4 (vI b2.2) rfl rfl ?_))))))))
 refine G4 (k := .i64) (a := b2.2) (b := 0) rfl rfl rfl (Z0 ?_)
 by_cases d7 : b2.2 = 0
 rw [if_pos d7] at q0
 refine Z8 (bN d7 rfl) (Y8 (Z3 (Z1 ?_)))
 refine W1 Q8 (by exact f1) (hS.get (mR mL)) rfl rfl (Z4 (e4) (by exact f2) rfl (Z4 (b6) rfl rfl (Z4 (vI a1) (by exact e9) rfl (Z4 (vI a2) (by exact f0) rfl ?_))))
 refine D1 (τ := (Y6 .i64)) Zq1 ze3 rfl [vI a1, vI a2] [a1, a2] rfl rfl (Zw3 rfl rfl) (Xx6 rfl rfl) (by decide) (by decide) hS rfl ?_
 intro a02 a03 a04 d2 hS k9
 have Z2 := Z2.trans d2
 have a3 := a3.mono d2
 have b3 := b3.mono d2
 have a5 := a5.mono d2
 have a6 := a6.mono d2
 obtain ⟨b0, l0, q0⟩ := bind_some q0
 refine X0 Tryz.call82 (Wm9 rfl rfl rfl rfl) rfl (Yr8 l0 a5 a6 a3 b3 k9 hS) ?_
 rintro a05 a06 ⟨_, a07, rfl, f9, hS, ⟨r7, r8, rfl, ⟨_, rfl, ⟨_, _, rfl, ⟨a8, rfl, c6⟩, ⟨a9, rfl, c7⟩⟩⟩, rfl⟩⟩
 refine ⟨_, rfl, ?_⟩
 have Z2 := Z2.trans f9
 have b3 := b3.mono f9
 refine Z4 (Value.tuple #[vA ([a8] ++ [a9]), vI b0.2]) rfl rfl (W9 (vA ([a8] ++ [a9])) rfl rfl rfl (W9 (vI b0.2) rfl rfl rfl ?_))
 refine V0 (z := vA ([vN] ++ [vN])) ([vN] ++ [vN]).toArray Zu2.zero rfl hS rfl ?_
 intro a08 a09 hS
 refine W0 (v := vA ([a8] ++ [a9])) (vs := ([a8] ++ [a9]).toArray) (cs := ([vN] ++ [vN]).toArray) Q8 rfl rfl rfl hS rfl (P4 (U9 c6.isOne) (U9 c7.isOne)) rfl ?_
 intro a10 hS
 refine Z5 (vI b0.2) rfl rfl (Z0 (Z3 (Z3 (Z1 (Z4 (vI b0.2) rfl rfl ?_)))))
 refine G4 (k := .i64) (a := b0.2) (b := 0) rfl rfl rfl (Z0 ?_)
 by_cases d8 : b0.2 = 0
 rw [if_pos d8] at q0
 refine Z8 (bN d8 rfl) (Y8 (Z3 (Z1 ?_)))
 refine W1 Q8 rfl (hS.get mL) rfl rfl (Z4 (b6) rfl rfl ?_)
 have hS := hS.perm V3
 refine W0 (v := vA ([a8] ++ [a9])) (vs := ([a8] ++ [a9]).toArray) (cs := ([vN] ++ [vN]).toArray) Q8 (by exact d3) rfl rfl hS rfl (P4 (U9 c6.isOne) (U9 c7.isOne)) rfl ?_
 intro a11 hS
 have hS := hS.perm V3.symm
 refine Z5 (b6) rfl rfl (Z5 (vI 0) rfl rfl (Z0 ?_))
 refine X3 (vs := [vA ([a8] ++ [a9]), b6, vI 0]) Tryz.func158 ⟨⟨_, (by exact d3), U1 Q8 (hS.get (mR mL)) rfl⟩, rfl, rfl, trivial⟩ ?_
 have hz := Option.some.inj q0
 subst hz
 exact ⟨_, _, rfl, Z2, (St.dropA (St.dropA (St.dropA hS))), ⟨_, _, _, rfl, ⟨_, rfl, ⟨_, _, rfl, ⟨_, rfl, c6⟩, ⟨_, rfl, c7⟩⟩⟩, b3, rfl⟩⟩
 rw [if_neg d8] at q0
 refine Y0 (bO d8 rfl) (Z3 (Z1 ?_))
 refine R4 (vA ([vN] ++ [vN])) Yp0 rfl (Z4 (vI b0.2) rfl rfl ?_)
 have hS := hS.perm V3
 refine W0 (v := vA ([vN] ++ [vN])) (vs := ([vN] ++ [vN]).toArray) (cs := ([vN] ++ [vN]).toArray) Q8 (by exact d3) rfl rfl hS rfl (P4 (U9 rfl) (U9 rfl)) rfl ?_
 intro a12 hS
 have hS := hS.perm V3.symm
 refine Z5 (vN) rfl rfl (Z5 (vI b0.2) rfl rfl (Z0 ?_))
 refine X3 (vs := [vA ([vN] ++ [vN]), vN, vI b0.2]) Tryz.func158 ⟨⟨_, (by exact d3), U1 Q8 (hS.get (mR mL)) rfl⟩, rfl, rfl, trivial⟩ ?_
 have hz := Option.some.inj q0
 subst hz
 exact ⟨_, _, rfl, Z2, (St.dropA (St.dropA (St.dropA hS))), ⟨_, _, _, rfl, ⟨_, rfl, ⟨_, _, rfl, ⟨_, rfl, Z9.nil⟩, ⟨_, rfl, Z9.nil⟩⟩⟩, Z9.nil, rfl⟩⟩
 rw [if_neg d7] at q0
 refine Y0 (bO d7 rfl) (Z3 (Z1 ?_))
 refine R4 (vA ([vN] ++ [vN])) Yp0 rfl (Z4 (vI b2.2) rfl rfl ?_)
 refine W0 (v := vA ([vN] ++ [vN])) (vs := ([vN] ++ [vN]).toArray) (cs := ([vN] ++ [vN]).toArray) Q8 (by exact d3) rfl rfl hS rfl (P4 (U9 rfl) (U9 rfl)) rfl ?_
 intro a13 hS
 refine Z5 (vN) rfl rfl (Z5 (vI b2.2) rfl rfl (Z0 ?_))
 refine X3 (vs := [vA ([vN] ++ [vN]), vN, vI b2.2]) Tryz.func158 ⟨⟨_, (by exact d3), U1 Q8 (hS.get mL) rfl⟩, rfl, rfl, trivial⟩ ?_
 have hz := Option.some.inj q0
 subst hz
 exact ⟨_, _, rfl, Z2, (St.dropA (St.dropA hS)), ⟨_, _, _, rfl, ⟨_, rfl, ⟨_, _, rfl, ⟨_, rfl, Z9.nil⟩, ⟨_, rfl, Z9.nil⟩⟩⟩, Z9.nil, rfl⟩⟩
def T9 (K : Nat) (a0 : LdT) (b1 : (A8 × Int)) : Nat → MpT → Int → Option (Ex MpT (MpT))
 | 0, _, _ => none
 | k + 1, c0, a3 => (if a3 < (a0.1.length : Int) then (if a3 < 8 then (if 0 < (Y5 b1.1 a3) then ((M1 K (a0.1, a0.2.1, a0.2.2) a3 (Y5 b1.1 a3)).bind fun g2 => ((K6 K c0 a0.2.1 g2).bind fun f3 => T9 K a0 b1 k f3 (a3 + 1))) else T9 K a0 b1 k c0 (a3 + 1)) else none) else some (.go c0))
def T8 (K : Nat) (a0 : LdT) : Nat → MpT → MpT → Option (Ex MpT (MpT))
 | 0, _, _ => none
 | k + 1, [], a8 => some (.go a8)
 | k + 1, b1 :: e5, a8 => ((Zl0 K).bind fun h2 => ((T9 K a0 b1 K h2 0).bind (Ex.elim (fun r => some (.ret r)) (fun s => (fun (e6 : MpT) => ((P7 K a8 e6 b1.2).bind fun g3 => T8 K a0 k e5 g3)) s))))
theorem Yf2 {K : Nat} {a0 : LdT} {a8 : MpT} {k : Nat} {zp zq : MpT} {o : Ex MpT (MpT)} (hp : zp.Perm zq) (q : T8 K a0 k zp a8 = some o) : T8 K a0 k zq a8 = some o := by
 exact (Yd9 (K := K) (fun k zs s => T8 K a0 k zs s) (by intros; rw [T8])
  (fun z => by
   refine ⟨fun s => (Zl0 K).bind fun r => (T9 K a0 z K r 0).bind fun e => (match e with | .ret _ => none | .go y => P7 K s y z.2), .const fun r => ?_, fun k zs s => ?_⟩
   cases T9 K a0 z K r 0 with
   | none => exact .fail
   | some e => cases e with
    | ret _ => exact .fail
    | go y => exact Xc3 _ _
   rw [T8]
   cases Zl0 K with
   | none => rfl
   | some r =>
    simp only [Option.bind_some]
    cases hq : T9 K a0 z K r 0 with
    | none => rfl
    | some e => cases e with
     | go y => rfl
     | ret y =>
      have : ∀ (k : Nat) (t : MpT) (i : Int) e, T9 K a0 z k t i = some e → ∃ y, e = .go y := by
       intro k
       induction k with
       | zero => intro t i e h; rw [T9] at h; cases h
       | succ k ih =>
        intro t i e h
        rw [T9] at h
        split at h
        split at h
        split at h
        obtain ⟨_, _, h⟩ := bind_some h
        obtain ⟨_, _, h⟩ := bind_some h
        exact ih _ _ _ h
        exact ih _ _ _ h
        cases h
        cases h; exact ⟨_, rfl⟩
      obtain ⟨y', h⟩ := this _ _ _ _ hq
      cases h) hp k a8).symm.trans q
def N7 (K : Nat) (a0 : LdT) (a1 : MpT) : Option MpT := ((T8 K a0 K a1 ([] : MpT)).bind (Ex.elim (fun r => some r) (fun s => (fun (c1 : MpT) => some c1) s)))
theorem Zs3 {K : Nat} {a0 : LdT} {a1 : MpT} {r : MpT} (q0 : N7 K a0 a1 = some r) {H : FH} {w : World} {L : OL} {s0 : Value} {s1 : Value} (m7 : Zl1 (Xm8 K) H s0 a0) (m8 : Q7 .i64 H s1 a1) (hS : St H w L) :
 Calls Tryz.prog 117 #[s0, s1] w (Yr2 .i64 r H L) := by
 obtain ⟨c2, d2, g4, h3, _, rfl, b0, ⟨d7, c8, e7, f4, rfl, a5, a4, a6, a9⟩, g5⟩ := m7
 have Z2 := Sub.refl H
 refine X6 Tryz.func117 rfl Tryz.ntmps117 rfl ?_
 unfold N7 at q0
 refine Z3 (Z1 (Z5 (Value.map none) rfl rfl (Z0 (Z3 (Z1 ?_)))))
 refine Zi0 (k := .i64) hS rfl ?_
 intro m1 w2 C3 m9 hS
 refine Z5 (m1) rfl rfl (Z0 (Z3 (Z3 (Z1 (Z4 (s1) rfl rfl ?_)))))
 refine Yh0 Zg8 rfl m8 hS rfl ?_
 intro e8 w7 C8 n0 hS
 refine Z0 (Y7 ?_)
 obtain ⟨h4, b5, h5⟩ := bind_some q0
 refine W7 (id := 0) (fun k f w => ∃ (c4 : MpT) (a8 : MpT) (H1 : FH) (b6 : OL) (b2 : OL), T8 K a0 k c4 a8 = some h4 ∧ Sub H H1 ∧ St H1 w (b6 ++ (b2 ++ L)) ∧ Zf7 .i64 H1 e8 c4 none b6 ∧ P2 .i64 m1 a8 b2 ∧ Zu8 H1 f4 (Yg6 K a0) ∧ Z9 (Y6 .i64) H1 d7 a0.1 ∧ Z9 (Y6 .i64) H1 c8 a0.2.1 ∧ Z9 (Zd4 .i64) H1 e7 a0.2.2 ∧ H1 c2 = some (.cells g4 h3) ∧ ev f (.tmp 0) = Value.pointer (some ⟨c2, d2, none⟩) ∧ ev f (.tmp 5) = m1 ∧ ev f (.tmp 12) = e8) (fun f w => ∃ (c1 : MpT) (H1 : FH) (c9 : OL) (d3 : OL), h4 = .go c1 ∧ Sub H H1 ∧ St H1 w (c9 ++ (d3 ++ L)) ∧ Zf7 .i64 H1 e8 ([] : MpT) none c9 ∧ P2 .i64 m1 c1 d3 ∧ ev f (.tmp 5) = m1) rfl ?_ ?_ K ?_ ?_
 rintro f w ⟨c4, a8, H1, b6, b2, b5, _⟩
 rw [T8] at b5; cases b5
 rintro k o2 o3 n1 n2 ⟨c4, a8, k2, b6, b2, b5, Z2, hS, d8, a7, a9, a5, a4, a6, b0, e9, f0, d4⟩
 refine Z3 (Z1 ?_)
 refine Yl9 (by exact d4) d8 hS rfl ?_ ?_
 intro k3; subst k3
 rw [T8] at b5
 refine W9 (Value.bool false) rfl rfl rfl (Z0 (Z3 (Z8 rfl ?_)))
 refine W4 rfl ?_
 have hz := Option.some.inj b5
 subst hz
 exact n2 _ _ ⟨a8, k2, b6, b2, rfl, Z2, hS, d8, a7, f0⟩
 intro b1 e5 u2 f1 k4 b4 hS
 replace b5 := Yf2 k4 b5
 rw [T8] at b5
 refine W9 (Value.bool true) rfl rfl rfl (Z0 (Z3 (Y0 rfl (Y8 (Y7 (Z3 (Z1 ?_)))))))
 refine Yg9 (by exact d4) b4 hS rfl (W9 (vA (Z7 .i64 b1.1)) rfl rfl rfl (W9 (vI b1.2) rfl rfl rfl ?_))
 refine V0 (z := vA (Z7 .i64 (fun _ => 0))) (Z7 .i64 (fun _ => 0)).toArray Zo4.zero rfl hS rfl ?_
 intro g0 u3 hS
 refine W0 (v := vA (Z7 .i64 b1.1)) (vs := (Z7 .i64 b1.1).toArray) (cs := (Z7 .i64 (fun _ => 0)).toArray) L0 rfl rfl rfl hS rfl (S3 .i64 b1.1) rfl ?_
 intro u4 hS
 refine Z5 (vI b1.2) rfl rfl (Z0 (Z3 (Z1 ?_)))
 obtain ⟨h2, k5, b5⟩ := bind_some b5
 refine X0 Tryz.call207 Wn0 rfl (Yj3 k5  hS) ?_
 rintro u5 u6 ⟨k0, u7, u8, rfl, d0, hS, k6⟩
 refine ⟨_, rfl, ?_⟩
 have Z2 := Z2.trans d0
 have a5 := a5.mono d0
 have a4 := a4.mono d0
 have a6 := a6.mono d0
 have a9 := a9.mono d0
 have a7 := a7.mono d0
 have b4 := b4.mono d0
 have b0 := d0.1 _ _ b0
 refine Z5 (k0) rfl rfl (Z0 (Z3 (Z3 (Z1 (Z4 (Value.pointer (some ⟨c2, d2, none⟩)) (by exact e9) rfl (R7 rfl rfl (Y2 Wi3 rfl rfl ?_)))))))
 refine Y3 (d7) M0 rfl (hS.froz _ _ b0) (g5 0 (show 0 < 4 by decide)) rfl ?_
 have o4 := a5.bound
 refine W6 Q1 rfl a5 rfl (Z4 (vI 0) rfl rfl (Z0 (Y7 ?_)))
 obtain ⟨i1, b7, hS, h6⟩ := k6.freeze hS
 have Z2 := Z2.trans b7
 have a5 := a5.mono b7
 have a4 := a4.mono b7
 have a6 := a6.mono b7
 have a9 := a9.mono b7
 have a7 := a7.mono b7
 have b4 := b4.mono b7
 have b0 := b7.1 _ _ b0
 obtain ⟨h7, b3, f5⟩ := bind_some b5
 refine W7 (id := 2) (fun k f w => ∃ (c0 : MpT) (a3 : Int) (H1 : FH) (b8 : Value), T9 K a0 b1 k c0 a3 = some h7 ∧ Sub H H1 ∧ St H1 w ([(g0, cA (Z7 .i64 b1.1) 188)] ++ (f1 ++ (b2 ++ L))) ∧ 0 ≤ a3 ∧ Q7 .i64 H1 b8 c0 ∧ Zu8 H1 f4 (Yg6 K a0) ∧ Z9 (Y6 .i64) H1 d7 a0.1 ∧ Z9 (Y6 .i64) H1 c8 a0.2.1 ∧ Z9 (Zd4 .i64) H1 e7 a0.2.2 ∧ P2 .i64 m1 a8 b2 ∧ Zf7 .i64 H1 e8 e5 (some b1) f1 ∧ H1 c2 = some (.cells g4 h3) ∧ ev f (.tmp 0) = Value.pointer (some ⟨c2, d2, none⟩) ∧ ev f (.tmp 5) = m1 ∧ ev f (.tmp 6) = vP g0 ∧ ev f (.tmp 7) = vI b1.2 ∧ ev f (.tmp 8) = b8 ∧ ev f (.tmp 12) = e8 ∧ ev f (.tmp 23) = vI (a0.1.length : Int) ∧ ev f (.tmp 24) = vI a3) (fun f w => ∃ (e6 : MpT) (H1 : FH) (e4 : Value), h7 = .go e6 ∧ Sub H H1 ∧ St H1 w ([(g0, cA (Z7 .i64 b1.1) 188)] ++ (f1 ++ (b2 ++ L))) ∧ Q7 .i64 H1 e4 e6 ∧ Zu8 H1 f4 (Yg6 K a0) ∧ Z9 (Y6 .i64) H1 d7 a0.1 ∧ Z9 (Y6 .i64) H1 c8 a0.2.1 ∧ Z9 (Zd4 .i64) H1 e7 a0.2.2 ∧ P2 .i64 m1 a8 b2 ∧ Zf7 .i64 H1 e8 e5 (some b1) f1 ∧ H1 c2 = some (.cells g4 h3) ∧ ev f (.tmp 0) = Value.pointer (some ⟨c2, d2, none⟩) ∧ ev f (.tmp 5) = m1 ∧ ev f (.tmp 7) = vI b1.2 ∧ ev f (.tmp 8) = e4 ∧ ev f (.tmp 12) = e8) rfl ?_ ?_ K ?_ ?_
 rintro f w ⟨c0, a3, H1, b8, b3, _⟩
 rw [T9] at b3; cases b3
 rintro k o5 o6 k1 n3 ⟨c0, a3, h8, b8, b3, Z2, hS, m6, d9, a9, a5, a4, a6, a7, b4, b0, c3, e1, d1, e2, e3, d5, d6, c5⟩
 rw [T9] at b3
 refine Z3 (Z1 ?_)
 refine U7 (k := .i64) (a := a3) (b := (a0.1.length : Int)) (by exact c5) (by exact d6) rfl (Z0 (Z3 ?_))
 by_cases f6 : a3 < (a0.1.length : Int)
 rw [if_pos f6] at b3
 refine Y0 (bT f6 rfl) (Y8 (Z3 (Y7 (Z3 (Z1 (Z4 (vI a3) (by exact c5) rfl (Z5 (vI a3) rfl rfl (Z0 (Z3 (Z1 (Z4 (vI a3) rfl rfl ?_)))))))))))
 obtain ⟨o7, b3⟩ := gd b3
 refine V6 Zj9 (by exact d1) rfl (by omega) (by omega) rfl ?_
 refine Y3 (vI (Y5 b1.1 a3)) ty3 rfl (hS.get (o := cA (Z7 .i64 b1.1) 188) mL) (L9 ([]) ([]) (by omega) (by omega)) rfl ?_
 refine Zg6 (k := .i64) (a := (Y5 b1.1 a3)) (b := 0) rfl rfl rfl (Z0 ?_)
 by_cases f7 : 0 < (Y5 b1.1 a3)
 rw [if_pos f7] at b3
 refine Y0 (bT f7 rfl) ?_
 obtain ⟨g2, i2, b3⟩ := bind_some b3
 obtain ⟨f3, i3, b3⟩ := bind_some b3
 refine U0 12 (Q6 [(31, MP.eq (b8)), (32, MP.eq (Value.pointer (some ⟨c2, d2, none⟩))), (33, MP.eq (Value.pointer (some ⟨c2, d2, none⟩))), (34, MP.eq (Value.pointer (some ⟨c2, d2 + 1, none⟩))), (35, MP.eq (c8)), (36, MP.eq (Value.pointer (some ⟨c2, d2, none⟩))), (37, MP.eq (vI a3)), (38, MP.eq (vI a3)), (39, MP.eq (Value.pointer (some ⟨g0, 0 + (a3).toNat * 1, none⟩))), (40, MP.eq (vI (Y5 b1.1 a3))), (41, MP.rep (R.mp .i64) (g2)), (42, MP.mp .i64 (f3))]) [] mixed rfl rfl rfl hS (Z6 rfl ?_ (Z6 rfl ?_ (Z6 rfl ?_ (Z6 rfl ?_ (Z6 rfl ?_ (Z6 rfl ?_ (Z6 rfl ?_ (Z6 rfl ?_ (Z6 rfl ?_ (Z6 rfl ?_ (Z6 rfl ?_ (Z6 rfl ?_ U8)))))))))))) ?_
 intro u9 v0 v1 v2 o8 hS k7 o9 hcq
 refine Z4 (b8) (evT (k7 8 rfl) e3) rfl ?_
 exact qn (.refl _) rfl hS rfl
 intro v3 v4 v5 v6 p0 hS k8 p1 hcq
 refine Z4 (Value.pointer (some ⟨c2, d2, none⟩)) (evT (k8 0 rfl) c3) rfl ?_
 exact qn (.refl _) rfl hS rfl
 intro v7 v8 v9 w0 p2 hS p3 k9 hcq
 refine R7 (eM (k9 1 32 rfl rfl)) rfl ?_
 exact qn (.refl _) rfl hS rfl
 intro w1 w3 w4 w5 p4 hS p5 l0 hcq
 refine Y2 Xr0 (eM (l0 2 33 rfl rfl)) rfl ?_
 exact qn (.refl _) rfl hS rfl
 intro w6 w8 w9 x0 l1 hS p6 l2 hcq
 have b0 := l1.1 _ _ b0
 refine Y3 (c8) M0 (eM (l2 3 34 rfl rfl)) (hS.froz _ _ b0) (g5 1 (show 1 < 4 by decide)) rfl ?_
 exact qn (.refl _) rfl hS rfl
 intro x1 x2 x3 x4 p7 hS l3 p8 hcq
 refine Z4 (Value.pointer (some ⟨c2, d2, none⟩)) (evT (l3 0 rfl) c3) rfl ?_
 exact qn (.refl _) rfl hS rfl
 intro n4 x5 x6 x7 p9 hS l4 q1 hcq
 have n5 : ev n4 (.tmp 9) = vI a3 := Eq.trans (l4 9 rfl) rfl
 refine Z4 (vI a3) n5 rfl ?_
 exact qn (.refl _) rfl hS rfl
 intro n6 x8 x9 y0 q2 hS l5 q3 hcq
 have l6 : ev n6 (.tmp 9) = vI a3 := Eq.trans (l5 9 rfl) rfl
 refine Z4 (vI a3) l6 rfl ?_
 exact qn (.refl _) rfl hS rfl
 intro q4 q5 q6 q7 n7 hS i4 i5 hcq
 refine V6 Zj9 (evT (i4 6 rfl) d1) (eM (i5 7 38 rfl rfl)) (by omega) (by omega) rfl ?_
 exact qn (.refl _) rfl hS rfl
 intro q8 q9 r0 r1 n8 hS n9 i6 hcq
 refine Y3 (vI (Y5 b1.1 a3)) ty3 (eM (i6 8 39 rfl rfl)) (hS.get (o := cA (Z7 .i64 b1.1) 188) (mR mL)) (L9 ([]) ([]) (by omega) (by omega)) rfl ?_
 exact qn (.refl _) rfl hS rfl
 intro r2 r3 r4 r5 e0 hS o0 f8 hcq
 have a5 := a5.mono e0
 have a4 := a4.mono e0
 have a6 := a6.mono e0
 have a9 := a9.mono e0
 have b0 := e0.1 _ _ b0
 refine X0 Tryz.call208 (I1 (eM (f8 5 36 rfl rfl)) (eM (f8 6 37 rfl rfl)) (eM (f8 9 40 rfl rfl))) rfl (Yl6 i2 ⟨_, _, _, _, _, rfl, b0, ⟨_, _, _, _, rfl, a5, a4, a6, a9⟩, g5⟩ hS) ?_
 rintro r6 r7 ⟨l7, r8, rfl, i7, hS, i8⟩
 refine ⟨l7, rfl, ?_⟩
 exact qn i7 rfl hS i8
 intro r9 s2 l9 s3 g7 hS o1 f9 hcq
 have Z2 := Sub.refl l9
 have a4 := a4.mono g7
 have d9 := d9.mono g7
 obtain ⟨s4, m0, i9⟩ := gvR (f9 10 41 rfl rfl)
 refine X0 Tryz.call131 (I1 (eM (f9 0 31 rfl rfl)) (eM (f9 4 35 rfl rfl)) m0) rfl (Zo5 i3 d9 a4 i9 hS) ?_
 rintro s5 s6 ⟨s7, s8, s9, rfl, j0, hS, j1⟩
 refine ⟨_, rfl, ?_⟩
 have Z2 := Z2.trans j0
 obtain ⟨t0, j2, hS, j3⟩ := j1.freeze hS
 have Z2 := Z2.trans j2
 exact Z0 ⟨42, _, _, rfl, rfl, Z2, hS, j3⟩
 intro t1 m2 h9 b9 hS c6 j4 hcq
 have hS : St h9 m2 ([(g0, cA (Z7 .i64 b1.1) 188)] ++ (f1 ++ (b2 ++ L))) := hS
 have Z2 := Z2.trans b9
 have a5 := a5.mono b9
 have a4 := a4.mono b9
 have a6 := a6.mono b9
 have a9 := a9.mono b9
 have a7 := a7.mono b9
 have b4 := b4.mono b9
 have b0 := b9.1 _ _ b0
 obtain ⟨i0, m3, j5⟩ := gvM (j4 11 42 (by decide) rfl)
 refine Z5 (i0) (by exact m3) rfl (Z0 (X5 (Z1 ?_)))
 refine V1 (a3 + 1) (by exact (evT (c6 24 rfl) c5)) rfl (IntWalk.i64_in _ (by omega)) rfl (Z4 (vI (a3 + 1)) rfl rfl (Z0 ?_))
 exact k1 _ _ ⟨f3, (a3 + 1), h9, i0, b3, Z2, hS, (by omega), j5, a9, a5, a4, a6, a7, b4, b0, (evT (c6 0 rfl) c3), (evT (c6 5 rfl) e1), (evT (c6 6 rfl) d1), (evT (c6 7 rfl) e2), rfl, (evT (c6 12 rfl) d5), (evT (c6 23 rfl) d6), rfl⟩
 rw [if_neg f7] at b3
 refine Z8 (bF f7 rfl) (Y8 (X5 (Z1 ?_)))
 refine V1 (a3 + 1) (by exact c5) rfl (IntWalk.i64_in _ (by omega)) rfl (Z4 (vI (a3 + 1)) rfl rfl (Z0 ?_))
 exact k1 _ _ ⟨c0, (a3 + 1), h8, b8, b3, Z2, hS, (by omega), d9, a9, a5, a4, a6, a7, b4, b0, c3, e1, d1, e2, e3, d5, d6, rfl⟩
 rw [if_neg f6] at b3
 refine Z8 (bF f6 rfl) ?_
 refine W4 rfl ?_
 have hz := Option.some.inj b3
 subst hz
 exact n3 _ _ ⟨c0, h8, b8, rfl, Z2, hS, d9, a9, a5, a4, a6, a7, b4, b0, c3, e1, e2, e3, d5⟩
 exact ⟨h2, 0, i1, k0, b3, Z2, hS, (by omega), h6, a9, a5, a4, a6, a7, b4, b0, e9, f0, rfl, rfl, rfl, d4, rfl, rfl⟩
 rintro t4 t5 ⟨e6, t6, e4, rfl, Z2, hS, j6, a9, a5, a4, a6, a7, b4, b0, g8, f2, g9, h0, g6⟩
 dsimp only [Ex.elim] at f5
 refine Z1 (Z4 (m1) (by exact f2) rfl (Z4 (e4) (by exact h0) rfl (Z4 (vI b1.2) (by exact g9) rfl ?_)))
 obtain ⟨g3, j7, f5⟩ := bind_some f5
 have hS := hS.perm Q5
 refine X0 Tryz.call132 (I1 rfl rfl rfl) rfl (Zu0 j7 a7 j6 hS) ?_
 rintro t7 t8 ⟨m4, m5, rfl, c7, hS, j8⟩
 refine ⟨_, rfl, ?_⟩
 have Z2 := Z2.trans c7
 have a5 := a5.mono c7
 have a4 := a4.mono c7
 have a6 := a6.mono c7
 have a9 := a9.mono c7
 have b4 := b4.mono c7
 have b0 := c7.1 _ _ b0
 have hS := hS.perm Q5.symm
 refine Z0 (X5 ?_)
 have hS := St.dropA hS
 exact n1 _ _ ⟨e5, g3, m4, f1, m5, f5, Z2, hS, b4.drop, j8, a9, a5, a4, a6, b0, g8, f2, g6⟩
 exact ⟨a1, ([] : MpT), H, C8, C3, b5, Z2, hS, n0, m9, a9, a5, a4, a6, b0, rfl, rfl, rfl⟩
 rintro t9 u0 ⟨c1, u1, c9, d3, rfl, Z2, hS, j9, g1, h1⟩
 dsimp only [Ex.elim] at h5
 refine Z3 (Z1 (Z4 (m1) (by exact h1) rfl (Z5 (m1) rfl rfl (Z0 ?_))))
 refine X3 (vs := [m1]) Tryz.func117 ⟨rfl, trivial⟩ ?_
 have hS := hS.perm V3
 have hS := St.dropMid hS
 have hz := Option.some.inj h5
 subst hz
 exact ⟨_, _, _, rfl, Z2, hS, g1⟩
def Zi8 (K : Nat) (a0 : MpT) (a1 : ((List Int) × (List MpT))) : Option Bool := ((Zd3 K a0).bind fun r5 => ((Zj2 K (a1.1, a1.2) r5).bind fun a6 => some (decide (0 < (a6.length : Int)))))
theorem Yl3 {K : Nat} {a0 : MpT} {a1 : ((List Int) × (List MpT))} {r : Bool} (q0 : Zi8 K a0 a1 = some r) {H : FH} {w : World} {L : OL} {s0 : Value} {s1 : Value} (b5 : Z9 yT H s0 a0) (b6 : Zl1 (Zl2 (Y9 (Y6 .i64)) (Y9 (Y9 yT))) H s1 a1) (hS : St H w L) :
 Calls Tryz.prog 128 #[vA ([s0]), s1] w (T3 (fun v G => R.bool.p G v r) H L) := by
 obtain ⟨c2, c3, c1, c4, _, rfl, a5, ⟨_, _, rfl, ⟨b7, rfl, a3⟩, ⟨b8, rfl, a4⟩⟩, a9⟩ := b6
 have Z2 := Sub.refl H
 refine X6 Tryz.func128 rfl Tryz.ntmps128 rfl ?_
 unfold Zi8 at q0
 refine Z3 (Z1 ?_)
 refine S4 (v := vA ([s0])) ([s0]).toArray rfl rfl hS rfl ?_
 intro b1 w2 hS
 refine Z5 (Value.bool false) rfl rfl (Z0 (Z3 (Z1 ?_)))
 refine W1 U3 rfl (hS.get mL) rfl rfl ?_
 obtain ⟨r5, b9, q0⟩ := bind_some q0
 refine X0 Tryz.call90 (S1 rfl) rfl (Zh0 b9 b5 hS) ?_
 rintro e5 w6 ⟨m5, H5, C5, rfl, a7, hS, c0⟩
 refine ⟨_, rfl, ?_⟩
 have Z2 := Z2.trans a7
 have a3 := a3.mono a7
 have a4 := a4.mono a7
 have a5 := a7.1 _ _ a5
 obtain ⟨H8, a8, hS, b0⟩ := c0.freeze hS
 have Z2 := Z2.trans a8
 have a3 := a3.mono a8
 have a4 := a4.mono a8
 have a5 := a8.1 _ _ a5
 obtain ⟨a6, b2, q0⟩ := bind_some q0
 refine X0 Tryz.call120 (S5 rfl rfl) rfl (Yr7 b2 ⟨_, _, _, _, _, rfl, a5, ⟨_, _, rfl, ⟨_, rfl, a3⟩, ⟨_, rfl, a4⟩⟩, a9⟩ b0 hS) ?_
 rintro c5 c6 ⟨c7, c8, c9, rfl, b3, hS, b4⟩
 refine ⟨_, rfl, ?_⟩
 have Z2 := Z2.trans b3
 refine Wf6 Zg8 rfl b4 hS rfl ?_
 refine Zg6 (k := .i64) (a := (a6.length : Int)) (b := 0) rfl rfl rfl (Z5 (Value.bool (decide (0 < (a6.length : Int)))) rfl rfl (Z0 ?_))
 refine X3 (vs := [Value.bool (decide (0 < (a6.length : Int)))]) Tryz.func128 ⟨rfl, trivial⟩ ?_
 have hz := Option.some.inj q0
 subst hz
 exact ⟨_, _, rfl, Z2, (St.dropA (St.dropA hS)), rfl⟩
end Go.Proofs.YtfodlhkoafhplaaGreat
