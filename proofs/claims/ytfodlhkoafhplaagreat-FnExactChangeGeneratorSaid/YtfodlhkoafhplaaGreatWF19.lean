/- Walks of functions: each computes its pure function, if that gives a value. -/
import Derived.Test.YtfodlhkoafhplaaGreatWTy
import Derived.Test.YtfodlhkoafhplaaGreatWF12
import Derived.Test.YtfodlhkoafhplaaGreatWF4
import Derived.Test.YtfodlhkoafhplaaGreatWF18
import Derived.Test.YtfodlhkoafhplaaGreatWF1
import Derived.Test.YtfodlhkoafhplaaGreatWF8
namespace Go.Proofs.YtfodlhkoafhplaaGreat
open Go
set_option linter.unusedSimpArgs false
set_option linter.unusedVariables false
set_option maxRecDepth 100000
set_option maxHeartbeats 8000000
def Q6 (K : Nat) (a0 : ((List Int) × (List MpT))) (a1 : M8) (a2 : (List MpT)) : Nat → Int → (List MpT) → Option (Ex (((List Int) × (List MpT)) × Int) ((List MpT)))
 | 0, _, _ => none
 | k + 1, a7, b0 => (if a7 < (a0.1.length : Int) then (if a7 < 8 then ((Zi4 K a0.1 (Zk6 a1 a7) a2).bind fun g0 => ((Zd9 K g0).bind fun a3 => (if (a3.1, a3.2).2 = 0 then (if b0.length + ([(a3.1, a3.2).1]).length ≤ 1099511627776 then Q6 K a0 a1 a2 k (a7 + 1) (b0 ++ [(a3.1, a3.2).1]) else none) else some (.ret ((([] : List Int), ([] : List MpT)), (a3.1, a3.2).2))))) else none) else some (.go b0))
def I8 (K : Nat) (a0 : ((List Int) × (List MpT))) (a1 : M8) (a2 : (List MpT)) : Option (((List Int) × (List MpT)) × Int) := ((Zb7 K a0.1).bind fun r7 => ((Q6 K a0 a1 a2 K 0 ([] : List MpT)).bind (Ex.elim (fun r => some r) (fun s => (fun (b8 : (List MpT)) => some ((r7, b8), 0)) s))))
theorem Zy3 {K : Nat} {a0 : ((List Int) × (List MpT))} {a1 : M8} {a2 : (List MpT)} {r : (((List Int) × (List MpT)) × Int)} (q0 : I8 K a0 a1 a2 = some r) {H : FH} {w : World} {L : OL} {s0 : Value} {b2 : V8} {s2 : Value} (s6 : Zq0 (Zh7 (X6 (X3 .i64)) (X6 (X6 yT))) H s0 a0) (b7 : RdV .i64 H b2 a1) (d4 : Y3 (Yf6 .i64) H s2 a2) (hS : St H w L) :
 Calls Tryz.prog 148 #[s0, vA (U2 b2), s2] w (T6 (fun v G => ∃ v0 v1, v = .tuple #[v0, v1] ∧ Zg5 H G v0 r.1 ∧ v1 = .int .i64 r.2) H L) := by
 obtain ⟨d6, d8, n5, s7, _, rfl, c2, ⟨_, _, rfl, ⟨c9, rfl, a9⟩, ⟨i4, rfl, b9⟩⟩, g9⟩ := s6
 have Z2 := Sub.refl H
 refine X0 Tryz.func148 rfl Tryz.ntmps148 rfl ?_
 unfold I8 at q0
 refine Z3 (Z1 ?_)
 refine T7 (v := vA (U2 b2)) (U2 b2).toArray rfl rfl hS rfl ?_
 intro b1 w2 hS
 refine W9 (z := vA ([vN] ++ [vN])) ([vN] ++ [vN]).toArray Zu9.zero rfl hS rfl ?_
 intro b4 w5 hS
 refine Z6 (vI 0) rfl rfl (Z0 (Z3 (Z1 (Z4 (Value.pointer (some ⟨d6, d8, none⟩)) rfl rfl (K3 rfl rfl (Y2 R4 rfl rfl ?_))))))
 refine Y4 (c9) J3 rfl (hS.froz _ _ c2) (g9 0 (show 0 < 2 by decide)) rfl ?_
 obtain ⟨r7, s8, q0⟩ := bind_some q0
 refine Y8 Tryz.call237 (Q8 rfl) rfl (Zw7 s8 a9 hS) ?_
 rintro e7 w8 ⟨v7, H7, rfl, f3, hS, c3⟩
 refine ⟨_, rfl, ?_⟩
 have y1 := c3
 have d5 : RdF (X3 .i64) H H7 v7 r7 := Y3.mono (Zg0 Z2) c3
 have c3 := Y3.old c3
 have Z2 := Z2.trans f3
 have a9 := a9.mono f3
 have b9 := b9.mono f3
 have d4 := d4.mono f3
 have b7 := b7.mono f3
 have c2 := f3.1 _ _ c2
 refine Zo9 ([v7] ++ [vN]) Xv9 (Ze0 rfl) (K5 rfl c3.cellsL rfl (Nat.le_of_ble_eq_true rfl) (Zk3 rfl)) rfl ?_
 refine W9 (z := vA ([vN] ++ [vN])) ([vN] ++ [vN]).toArray Zu9.zero rfl hS rfl ?_
 intro c1 w12 hS
 refine W1 (v := vA ([v7] ++ [vN])) (vs := ([v7] ++ [vN]).toArray) (cs := ([vN] ++ [vN]).toArray) P9 rfl rfl rfl hS rfl (J6 (S2 c3.isOne) (S2 rfl)) rfl ?_
 intro w14 hS
 refine Z0 (Z3 (Z3 (Z1 (Z4 (Value.pointer (some ⟨d6, d8, none⟩)) rfl rfl (K3 rfl rfl (Y2 R4 rfl rfl ?_))))))
 refine Y4 (c9) J3 rfl (hS.froz _ _ c2) (g9 0 (show 0 < 2 by decide)) rfl ?_
 have y2 := a9.bound
 refine W6 Q9 rfl a9 rfl (Z4 (vI 0) rfl rfl (Z0 (Y7 ?_)))
 have i5 : F1 (Zx9 H (X6 yT)) 47 H7 (vN) ([] : List MpT) ([]) (Ze2 [v7] ++ ([] : List Nat)) := F1.nil _ _ _ (by rw [List.append_nil]; exact Zj3 _) (by rw [List.append_nil]; exact Y3.rootsIn c3)
 obtain ⟨i6, b3, g1⟩ := bind_some q0
 refine W7 (id := 0) (fun k f w => ∃ (a7 : Int) (b0 : (List MpT)) (H1 : FH) (a6 : OL) (a4 : Value), Q6 K a0 a1 a2 k a7 b0 = some i6 ∧ Sub H H1 ∧ St H1 w (a6 ++ ([(c1, cA ([v7] ++ [a4]) 29)] ++ ([(b4, cA ([vN] ++ [vN]) 29)] ++ ([(b1, cA (U2 b2) 182)] ++ L)))) ∧ 0 ≤ a7 ∧ F1 (Zx9 H (X6 yT)) 47 H1 a4 b0 a6 (Ze2 [v7] ++ ([] : List Nat)) ∧ RdF (X3 .i64) H H1 v7 r7 ∧ Y3 (Yf6 .i64) H1 s2 a2 ∧ Y3 (X3 .i64) H1 v7 r7 ∧ Y3 (X3 .i64) H1 c9 a0.1 ∧ Y3 (X6 yT) H1 i4 a0.2 ∧ RdV .i64 H1 b2 a1 ∧ H1 d6 = some (.cells n5 s7) ∧ ev f (.tmp 0) = Value.pointer (some ⟨d6, d8, none⟩) ∧ ev f (.tmp 2) = s2 ∧ ev f (.tmp 4) = vP b1 ∧ ev f (.tmp 6) = vP b4 ∧ ev f (.tmp 8) = vP c1 ∧ ev f (.tmp 22) = vI (a0.1.length : Int) ∧ ev f (.tmp 23) = vI a7) (fun f w => ∃ (b8 : (List MpT)) (H1 : FH) (b5 : OL) (a5 : Value), i6 = .go b8 ∧ Sub H H1 ∧ St H1 w (b5 ++ ([(c1, cA ([v7] ++ [a5]) 29)] ++ ([(b4, cA ([vN] ++ [vN]) 29)] ++ ([(b1, cA (U2 b2) 182)] ++ L)))) ∧ F1 (Zx9 H (X6 yT)) 47 H1 a5 b8 b5 (Ze2 [v7] ++ ([] : List Nat)) ∧ RdF (X3 .i64) H H1 v7 r7 ∧ Y3 (X3 .i64) H1 v7 r7 ∧ RdV .i64 H1 b2 a1 ∧ ev f (.tmp 6) = vP b4 ∧ ev f (.tmp 8) = vP c1) rfl ?_ ?_ K ?_ ?_
 rintro f w ⟨a7, b0, H1, a6, a4, b3, _⟩
 rw [Q6] at b3; cases b3
 rintro k y3 y4 s9 t0 ⟨a7, b0, d2, a6, a4, b3, Z2, hS, s5, b6, d5, d4, c3, a9, b9, b7, c2, f4, f5, f6, f7, f8, e6, d9⟩
 rw [Q6] at b3
 refine Z3 (Z1 ?_)
 refine U5 (k := .i64) (a := a7) (b := (a0.1.length : Int)) (by exact d9) (by exact e6) rfl (Z0 (Z3 ?_))
 by_cases g2 : a7 < (a0.1.length : Int)
 rw [if_pos g2] at b3
 refine Y0 (Eq.trans rfl (congrArg Value.bool (decide_eq_true g2))) (Y6 (Z3 (Y7 (Z3 (Z1 (Z4 (vI a7) (by exact d9) rfl (Z6 (vI a7) rfl rfl (Z0 (Z3 ?_)))))))))
 obtain ⟨y5, b3⟩ := gd b3
 obtain ⟨g0, k2, b3⟩ := bind_some b3
 obtain ⟨a3, k3, b3⟩ := bind_some b3
 have X5 := Z2
 refine V4 16 (R9 [(27, MP.eq (Value.pointer (some ⟨d6, d8, none⟩))), (28, MP.eq (Value.pointer (some ⟨d6, d8, none⟩))), (29, MP.eq (Value.pointer (some ⟨d6, d8 + 0, none⟩))), (30, MP.eq (c9)), (31, MP.eq (vI a7)), (32, MP.eq (Value.pointer (some ⟨b1, 0 + (a7).toNat * 1, none⟩))), (33, MP.mp .i64 ((Zk6 a1 a7))), (34, MP.eq (s2)), (35, MP.mp .i64 (g0)), (36, MP.rep (Zf1.fr d2 (R.t2 (R.agg (X6 yT)) (R.int .i64))) (a3)), (26, MP.rep (Zf1.fr d2 (R.t2 (R.agg (X6 yT)) (R.int .i64))) ((a3.1, a3.2))), (37, MP.rep (Zf1.fr d2 (R.agg (X6 yT))) ((a3.1, a3.2).1)), (38, MP.eq (vI ((a3.1, a3.2).2))), (10, MP.box (cA ([vN]) 47)), (11, MP.eq (vI ((a3.1, a3.2).2)))]) [Co.st 13 10 14 11 37 (Zi8 47)] mixed rfl (Zp5 (ns := [(13, 10, 14, 11, 37)]) rfl rfl) rfl hS (Z5 rfl ?_ (Z5 rfl ?_ (Z5 rfl ?_ (Z5 rfl ?_ (Z5 rfl ?_ (Z5 rfl ?_ (Z5 rfl ?_ (Z5 rfl ?_ (Z5 rfl ?_ (Z5 rfl ?_ (Z5 rfl ?_ (Z5 rfl ?_ (Z5 rfl ?_ (Z5 rfl ?_ (Yb1 rfl ?_ (Z5 rfl ?_ V9)))))))))))))))) ?_
 intro f17 w18 t1 X20 n6 hS n7 y6 hcq
 have Z2 := Sub.refl t1
 have W0 := X5.trans n6
 refine Z4 (Value.pointer (some ⟨d6, d8, none⟩)) (evT (n7 0 rfl) f4) rfl ?_
 exact Z0 ⟨27, _, _, rfl, rfl, Z2, hS, rfl⟩
 intro t4 w27 t5 X29 n8 hS y7 n9 hcq
 have Z2 := Sub.refl t5
 have W0 := X5.trans n8
 have t6 : ev t4 (.tmp 27) = Value.pointer (some ⟨d6, d8, none⟩) := n9 0 27 rfl rfl
 refine K3 t6 rfl ?_
 exact Z0 ⟨28, _, _, rfl, rfl, Z2, hS, rfl⟩
 intro t7 w36 t8 X38 o0 hS y8 o1 hcq
 have Z2 := Sub.refl t8
 have W0 := X5.trans o0
 have t9 : ev t7 (.tmp 28) = Value.pointer (some ⟨d6, d8, none⟩) := o1 1 28 rfl rfl
 refine Y2 R4 t9 rfl ?_
 exact Z0 ⟨29, _, _, rfl, rfl, Z2, hS, rfl⟩
 intro u0 w45 u1 X47 i7 hS y9 o2 hcq
 have Z2 := Sub.refl u1
 have W0 := X5.trans i7
 have c2 := i7.1 _ _ c2
 have u2 : ev u0 (.tmp 29) = Value.pointer (some ⟨d6, d8 + 0, none⟩) := o2 2 29 rfl rfl
 refine Y4 (c9) J3 u2 (hS.froz _ _ c2) (g9 0 (show 0 < 2 by decide)) rfl ?_
 exact Z0 ⟨30, _, _, rfl, rfl, Z2, hS, rfl⟩
 intro u3 w54 u4 X56 o3 hS o4 z0 hcq
 have Z2 := Sub.refl u4
 have W0 := X5.trans o3
 have u5 : ev u3 (.tmp 9) = vI a7 := Eq.trans (o4 9 rfl) rfl
 refine Z4 (vI a7) u5 rfl ?_
 exact Z0 ⟨31, _, _, rfl, rfl, Z2, hS, rfl⟩
 intro u6 w74 u7 X76 o5 hS o6 o7 hcq
 have Z2 := Sub.refl u7
 have W0 := X5.trans o5
 have u8 : ev u6 (.tmp 31) = vI a7 := o7 4 31 rfl rfl
 refine W8 Yy0 (evT (o6 4 rfl) f6) u8 (by omega) (by omega) rfl ?_
 exact Z0 ⟨32, _, _, rfl, rfl, Z2, hS, rfl⟩
 intro u9 w84 v2 X86 i8 hS z1 o8 hcq
 have Z2 := Sub.refl v2
 have W0 := X5.trans i8
 have b7 := b7.mono i8
 have v3 : ev u9 (.tmp 32) = Value.pointer (some ⟨b1, 0 + (a7).toNat * 1, none⟩) := o8 5 32 rfl rfl
 have o9 := RdV.at b7 (a7)
 refine Y4 (Ya5 b2 a7) Yk4 v3 (hS.get (o := cA (U2 b2) 182) (mR (mR (mR (mR mL))))) (Yt7 (by omega) (by omega)) rfl ?_
 exact Z0 ⟨33, _, _, rfl, rfl, Z2, hS, o9⟩
 intro f93 w94 v4 X96 p0 hS p1 z2 hcq
 have Z2 := Sub.refl v4
 have W0 := X5.trans p0
 refine Z4 (s2) (evT (p1 2 rfl) f5) rfl ?_
 exact Z0 ⟨34, _, _, rfl, rfl, Z2, hS, rfl⟩
 intro h0 z3 i9 z4 g3 hS w3 g4 hcq
 have Z2 := Sub.refl i9
 have W0 := X5.trans g3
 have a9 := a9.mono g3
 have d4 := d4.mono g3
 have p2 : ev h0 (.tmp 30) = c9 := g4 3 30 rfl rfl
 obtain ⟨p3, j0⟩ : ∃ v, ev h0 (.tmp 33) = v := ⟨_, rfl⟩
 have k4 : Q1 .i64 i9 p3 ((Zk6 a1 a7)) := j0 ▸ (g4 6 33 rfl rfl)
 have p4 : ev h0 (.tmp 34) = s2 := g4 7 34 rfl rfl
 refine Y8 Tryz.call238 (N8 p2 j0 p4) rfl (Yl0 k2 a9 k4 d4 hS) ?_
 rintro z5 z6 ⟨z7, z8, z9, rfl, k5, hS, k6⟩
 refine ⟨_, rfl, ?_⟩
 have Z2 := Z2.trans k5
 obtain ⟨a00, k7, hS, k8⟩ := k6.freeze hS
 have Z2 := Z2.trans k7
 exact Z0 ⟨35, _, _, rfl, rfl, Z2, hS, k8⟩
 intro p5 a01 j1 a02 h8 hS w4 k9 hcq
 have Z2 := Sub.refl j1
 have W0 := X5.trans h8
 obtain ⟨p6, j2⟩ : ∃ v, ev p5 (.tmp 35) = v := ⟨_, rfl⟩
 have l0 : Q1 .i64 j1 p6 (g0) := j2 ▸ (k9 8 35 rfl rfl)
 refine Y8 Tryz.call91 (Q8 j2) rfl (Yl9 k3 l0 hS) ?_
 rintro a03 a04 ⟨p7, a05, rfl, l1, hS, g5⟩
 refine ⟨p7, rfl, ?_⟩
 have g5 := ((R.t2 (R.agg (X6 yT)) (R.int .i64))).mono (Zg0 (Sub.trans h8 Z2)) g5
 have Z2 := Z2.trans l1
 exact Z0 ⟨36, _, _, rfl, rfl, Z2, hS, g5⟩
 intro p8 a06 h1 a07 l2 hS w6 l3 hcq
 have Z2 := Sub.refl h1
 have W0 := X5.trans l2
 obtain ⟨p9, j3⟩ : ∃ v, ev p8 (.tmp 36) = v := ⟨_, rfl⟩
 have l4 : (Zf1.fr d2 (R.t2 (R.agg (X6 yT)) (R.int .i64))).p h1 p9 (a3) := j3 ▸ (l3 9 36 rfl rfl)
 obtain ⟨v5, v6, rfl, ⟨_, rfl, ⟨e8, rfl, c6⟩⟩, rfl⟩ := l4
 have l5 := c6
 have w7 : RdF yT H h1 e8 a3.1 := Y3.mono (Zg0 X5) c6
 have c6 := Y3.old c6
 refine Z4 (Value.tuple #[vA ([e8]), vI a3.2]) j3 rfl ?_
 exact Z0 ⟨26, _, _, rfl, rfl, Z2, hS, ⟨_, _, rfl, ⟨_, rfl, ⟨_, rfl, l5⟩⟩, rfl⟩⟩
 intro q1 a08 h2 a09 l6 hS w9 l7 hcq
 have Z2 := Sub.refl h2
 have W0 := X5.trans l6
 obtain ⟨q2, j4⟩ : ∃ v, ev q1 (.tmp 26) = v := ⟨_, rfl⟩
 have l9 : (Zf1.fr d2 (R.t2 (R.agg (X6 yT)) (R.int .i64))).p h2 q2 ((a3.1, a3.2)) := j4 ▸ (l7 10 26 rfl rfl)
 obtain ⟨v8, v9, rfl, ⟨_, rfl, ⟨e9, rfl, c7⟩⟩, rfl⟩ := l9
 have m0 := c7
 have x0 : RdF yT H h2 e9 ((a3.1, a3.2).1) := Y3.mono (Zg0 X5) c7
 have c7 := Y3.old c7
 refine U3 (vA ([e9])) j4 rfl rfl ?_
 exact Z0 ⟨37, _, _, rfl, rfl, Z2, hS, ⟨_, rfl, ⟨_, rfl, m0⟩⟩⟩
 intro q3 a10 h3 a11 m1 hS x1 m2 hcq
 have Z2 := Sub.refl h3
 have W0 := X5.trans m1
 obtain ⟨q4, j5⟩ : ∃ v, ev q3 (.tmp 26) = v := ⟨_, rfl⟩
 have m3 : (Zf1.fr d2 (R.t2 (R.agg (X6 yT)) (R.int .i64))).p h3 q4 ((a3.1, a3.2)) := j5 ▸ (m2 10 26 rfl rfl)
 obtain ⟨w0, w1, rfl, ⟨_, rfl, ⟨h4, rfl, c8⟩⟩, rfl⟩ := m3
 have x2 := c8
 have x3 : RdF yT H h3 h4 ((a3.1, a3.2).1) := Y3.mono (Zg0 X5) c8
 have c8 := Y3.old c8
 refine U3 (vI ((a3.1, a3.2).2)) j5 rfl rfl ?_
 exact Z0 ⟨38, _, _, rfl, rfl, Z2, hS, rfl⟩
 intro a12 a13 q5 a14 m4 hS x4 x5 hcq
 have Z2 := Sub.refl q5
 have W0 := X5.trans m4
 refine W9 (z := vA ([vN])) ([vN]).toArray Zb2.zero rfl hS rfl ?_
 intro a15 a16 hS
 exact Z0 ⟨10, _, _, rfl, rfl, Z2, hS, ⟨_, rfl⟩⟩
 intro e0 q6 g6 q7 m5 hS x6 h9 hcq
 have Z2 := Sub.refl g6
 have W0 := X5.trans m5
 obtain ⟨j6, f0⟩ := h9 13 10 rfl rfl
 have f0 : e0 10 = vP j6 := f0
 have hS : St g6 q6 (F6 (cA ([vN]) 47) (e0 10) ++ (q7 ++ (a6 ++ ([(c1, cA ([v7] ++ [a4]) 29)] ++ ([(b4, cA ([vN] ++ [vN]) 29)] ++ ([(b1, cA (U2 b2) 182)] ++ L)))))) := hS
 rw [f0] at hS
 have q8 : ev e0 (.tmp 10) = vP j6 := f0
 obtain ⟨q9, h5⟩ : ∃ v, ev e0 (.tmp 37) = v := ⟨_, rfl⟩
 have m6 : (Zf1.fr d2 (R.agg (X6 yT))).p g6 q9 ((a3.1, a3.2).1) := h5 ▸ (h9 11 37 rfl rfl)
 obtain ⟨_, rfl, ⟨e2, rfl, d0⟩⟩ := m6
 have x7 := d0
 have x8 : RdF yT H g6 e2 ((a3.1, a3.2).1) := Y3.mono (Zg0 X5) d0
 have d0 := Y3.old d0
 refine W1 (v := vA ([e2])) (vs := ([e2]).toArray) (cs := ([vN]).toArray) U7 q8 h5 rfl hS rfl (S2 d0.isOne) rfl ?_
 intro a17 hS
 have r0 : e0 37 = vA ([e2]) := h5
 exact Z0 ⟨_, rfl, rfl, Z2, by show St _ _ (F6 (Zi8 47 (e0 37)) (e0 10) ++ _); rw [f0, r0]; exact hS, trivial⟩
 intro r1 a18 r2 a19 m7 hS x9 m8 hcq
 have Z2 := Sub.refl r2
 have W0 := X5.trans m7
 have r3 : ev r1 (.tmp 38) = vI ((a3.1, a3.2).2) := m8 12 38 rfl rfl
 refine Z6 (vI ((a3.1, a3.2).2)) r3 rfl ?_
 exact Z0 ⟨11, _, _, rfl, rfl, Z2, hS, rfl⟩
 intro e1 j7 f1 c4 hS d3 g7 hcq
 have hS : St f1 j7 ((F6 (Zi8 47 (e1 37)) (e1 10) ++ ([])) ++ (a6 ++ ([(c1, cA ([v7] ++ [a4]) 29)] ++ ([(b4, cA ([vN] ++ [vN]) 29)] ++ ([(b1, cA (U2 b2) 182)] ++ L))))) := hS
 have Z2 := Z2.trans c4
 have a9 := a9.mono c4
 have b9 := b9.mono c4
 have d4 := d4.mono c4
 have b7 := b7.mono c4
 have c3 := c3.mono c4
 have d5 := d5.mono c4
 have c2 := c4.1 _ _ c2
 have h6 := evT (d3 6 rfl) f7
 have h7 := evT (d3 8 rfl) f8
 obtain ⟨r4, j8⟩ : ∃ v, ev e1 (.tmp 37) = v := ⟨_, rfl⟩
 have m9 : (Zf1.fr d2 (R.agg (X6 yT))).p f1 r4 ((a3.1, a3.2).1) := j8 ▸ (g7 11 37 (by decide) rfl)
 obtain ⟨_, rfl, ⟨a8, rfl, d1⟩⟩ := m9
 have n0 := d1
 have n1 : RdF yT H f1 a8 ((a3.1, a3.2).1) := Y3.mono (Zg0 X5) d1
 have d1 := Y3.old d1
 have j9 : ev e1 (.tmp 11) = vI ((a3.1, a3.2).2) := g7 15 11 (by decide) rfl
 have b6 := F1.keep (Yn4 H (Zs4 _)) b6 c4 (RdF.rootsOut n0) (Y3.rootsIn d1) (Zj3 _)
 obtain ⟨c0, e3⟩ := g7 13 10 (by decide) rfl
 have e3 : e1 10 = vP c0 := e3
 rw [e3] at hS
 have e3 : ev e1 (.tmp 10) = _ := e3
 have r5 : e1 37 = vA ([a8]) := j8
 rw [r5] at hS
 refine Z0 (Z3 (Z3 (Z1 (Z4 (vI ((a3.1, a3.2).2)) (by exact j9) rfl ?_))))
 refine L9 (k := .i64) (a := (a3.1, a3.2).2) (b := 0) rfl rfl rfl (Z0 ?_)
 by_cases e5 : (a3.1, a3.2).2 = 0
 rw [if_pos e5] at b3
 refine Z9 (Eq.trans rfl (congrArg (fun b => Value.bool (!b)) (decide_eq_true e5))) (Y6 (Z1 (Y2 N5 (by exact h7) rfl ?_)))
 refine Y4 (a4) Zd8 rfl (hS.get (mR (mR mL))) rfl rfl ?_
 refine X8 U7 (by exact e3) (hS.get mL) rfl rfl ?_
 refine Zn7 (τ := Zp2 (Zx9 H (X6 yT))) J2 Zb2 rfl [vA ([a8])] [((a3.1, a3.2).1, Ze2 [a8])] rfl rfl (Ze0 rfl) (Zu5 ⟨⟨_, rfl, n1⟩, rfl⟩) (by decide) (by decide) hS rfl ?_
 intro a20 f2 r6 c5 hS n2
 have Z2 := Z2.trans c5
 have a9 := a9.mono c5
 have b9 := b9.mono c5
 have d4 := d4.mono c5
 have b7 := b7.mono c5
 have c3 := c3.mono c5
 have d5 := d5.mono c5
 have b6 := b6.mono c5
 have c2 := c5.1 _ _ c2
 obtain ⟨n3, b3⟩ := gd b3
 have hS : St f2 r6 (a6 ++ ([(c0, cA ([a8]) 47)] ++ ([(c1, cA ([v7] ++ [a4]) 29)] ++ ([(b4, cA ([vN] ++ [vN]) 29)] ++ ([(b1, cA (U2 b2) 182)] ++ L))))) := hS.perm (U4 (A1 := [(c0, cA ([a8]) 47)]))
 refine Xr3 (τ := (Zx9 H (X6 yT))) (R := Ze2 [a8]) Yy4 rfl rfl rfl b6 hS n2 (by have h := n3; simpa using h) rfl ?_
 intro g8 k0 e4 i0 hS
 have hS : St f2 k0 ([(c0, cA ([a8]) 47)] ++ (e4 ++ ([(c1, cA ([v7] ++ [a4]) 29)] ++ ([(b4, cA ([vN] ++ [vN]) 29)] ++ ([(b1, cA (U2 b2) 182)] ++ L))))) := hS.perm (U4 (A1 := [(c0, cA ([a8]) 47)])).symm
 refine Y2 N5 (by exact h7) rfl ?_
 have hS : St f2 k0 ([(c1, cA ([v7] ++ [a4]) 29)] ++ ([(c0, cA ([a8]) 47)] ++ (e4 ++ ([(b4, cA ([vN] ++ [vN]) 29)] ++ ([(b1, cA (U2 b2) 182)] ++ L))))) := hS.perm (F3 (A1 := [(c0, cA ([a8]) 47)]) (A2 := e4))
 refine Ze1 (v := g8) (cs := ([v7] ++ [a4]).toArray) (cs' := ([v7] ++ [g8]).toArray) Zd8 rfl rfl hS i0.own.isOne rfl (Nat.le_of_ble_eq_true rfl) rfl ?_
 intro r8 hS
 have hS : St f2 r8 ([(c0, cA ([a8]) 47)] ++ (e4 ++ ([(c1, cA ([v7] ++ [g8]) 29)] ++ ([(b4, cA ([vN] ++ [vN]) 29)] ++ ([(b1, cA (U2 b2) 182)] ++ L))))) := hS.perm (F3 (A1 := [(c0, cA ([a8]) 47)]) (A2 := e4)).symm
 refine Z0 (X2 (Z1 ?_))
 refine V0 (a7 + 1) (by exact (evT (d3 23 rfl) d9)) rfl (IntWalk.i64_in _ (by omega)) rfl (Z4 (vI (a7 + 1)) rfl rfl (Z0 ?_))
 have hS := St.dropA (A := [(c0, cA ([a8]) 47)]) hS
 exact s9 _ _ ⟨(a7 + 1), (b0 ++ [(a3.1, a3.2).1]), f2, e4, g8, b3, Z2, hS, (by omega), i0, d5, d4, c3, a9, b9, b7, c2, (evT (d3 0 rfl) f4), (evT (d3 2 rfl) f5), (evT (d3 4 rfl) f6), h6, h7, (evT (d3 22 rfl) e6), rfl⟩
 rw [if_neg e5] at b3
 refine Y0 (Eq.trans rfl (congrArg (fun b => Value.bool (!b)) (decide_eq_false e5))) (Z3 (Z1 ?_))
 refine Q2 (vA ([vN] ++ [vN])) Yy7 rfl (Z4 (vI ((a3.1, a3.2).2)) (by exact j9) rfl ?_)
 have hS : St f1 j7 ([(b4, cA ([vN] ++ [vN]) 29)] ++ ([(c0, cA ([a8]) 47)] ++ (a6 ++ ([(c1, cA ([v7] ++ [a4]) 29)] ++ ([(b1, cA (U2 b2) 182)] ++ L))))) := hS.perm (Yp8 (A1 := [(c0, cA ([a8]) 47)]) (A2 := a6) (A3 := [(c1, cA ([v7] ++ [a4]) 29)]))
 refine W1 (v := vA ([vN] ++ [vN])) (vs := ([vN] ++ [vN]).toArray) (cs := ([vN] ++ [vN]).toArray) P9 (by exact h6) rfl rfl hS rfl (J6 (S2 rfl) (S2 rfl)) rfl ?_
 intro r9 hS
 have hS : St f1 r9 ([(c0, cA ([a8]) 47)] ++ (a6 ++ ([(c1, cA ([v7] ++ [a4]) 29)] ++ ([(b4, cA ([vN] ++ [vN]) 29)] ++ ([(b1, cA (U2 b2) 182)] ++ L))))) := hS.perm (Yp8 (A1 := [(c0, cA ([a8]) 47)]) (A2 := a6) (A3 := [(c1, cA ([v7] ++ [a4]) 29)])).symm
 refine Z6 (vI ((a3.1, a3.2).2)) rfl rfl (Z0 ?_)
 refine Y9 (vs := [vA ([vN] ++ [vN]), vI ((a3.1, a3.2).2)]) Tryz.func148 ⟨⟨_, (by exact h6), U8 P9 (hS.get (mR (mR (mR mL)))) rfl⟩, rfl, trivial⟩ ?_
 have hz := Option.some.inj b3
 subst hz
 dsimp only [Ex.elim] at g1
 have hz := Option.some.inj g1
 subst hz
 exact ⟨_, _, rfl, Z2, (St.dropA (A := [(b1, cA (U2 b2) 182)]) (St.dropA (A := [(b4, cA ([vN] ++ [vN]) 29)]) (St.dropA (A := [(c1, cA ([v7] ++ [a4]) 29)]) (St.dropA (A := a6) (St.dropA (A := [(c0, cA ([a8]) 47)]) hS))))), ⟨_, _, rfl, ⟨_, _, rfl, Y3.nil, RdN.nil (by first | exact List.nodup_nil | (rw [List.append_nil]; exact Zj3 _))⟩, rfl⟩⟩
 rw [if_neg g2] at b3
 refine Z9 (Eq.trans rfl (congrArg Value.bool (decide_eq_false g2))) ?_
 refine W4 rfl ?_
 have hz := Option.some.inj b3
 subst hz
 exact t0 _ _ ⟨b0, d2, a6, a4, rfl, Z2, hS, b6, d5, c3, b7, f7, f8⟩
 exact ⟨0, ([] : List MpT), H7, ([]), (vN), b3, Z2, hS, (by omega), i5, d5, d4, c3, a9, b9, b7, c2, rfl, rfl, rfl, rfl, rfl, rfl, rfl⟩
 rintro a21 s1 ⟨b8, k1, b5, a5, rfl, Z2, hS, d7, d5, c3, b7, f9, i3⟩
 dsimp only [Ex.elim] at g1
 refine Z3 (Z1 ?_)
 refine X8 P9 (by exact i3) (hS.get (mR mL)) rfl rfl ?_
 have hS : St k1 s1 ([(b4, cA ([vN] ++ [vN]) 29)] ++ (b5 ++ ([(c1, cA ([v7] ++ [a5]) 29)] ++ ([(b1, cA (U2 b2) 182)] ++ L)))) := hS.perm (F3 (A1 := b5) (A2 := [(c1, cA ([v7] ++ [a5]) 29)]))
 refine W1 (v := vA ([v7] ++ [a5])) (vs := ([v7] ++ [a5]).toArray) (cs := ([vN] ++ [vN]).toArray) P9 (by exact f9) rfl rfl hS rfl (J6 (S2 c3.isOne) (S2 d7.own.isOne)) rfl ?_
 intro s3 hS
 have hS : St k1 s3 (b5 ++ ([(c1, cA ([v7] ++ [a5]) 29)] ++ ([(b4, cA ([v7] ++ [a5]) 29)] ++ ([(b1, cA (U2 b2) 182)] ++ L)))) := hS.perm (F3 (A1 := b5) (A2 := [(c1, cA ([v7] ++ [a5]) 29)])).symm
 refine Z6 (vI 0) rfl rfl (Z0 ?_)
 refine Y9 (vs := [vA ([v7] ++ [a5]), vI 0]) Tryz.func148 ⟨⟨_, (by exact f9), U8 P9 (hS.get (mR (mR mL))) rfl⟩, rfl, trivial⟩ ?_
 obtain ⟨s4, i1, hS, i2⟩ := F1.freezeN (τ := (X6 yT)) (H0 := H) (Zs4 _) d7 hS Z2
 have n4 : RdF (X6 yT) H s4 a5 b8 := RdN.old i2
 have y0 := Y3.old n4
 have Z2 := Z2.trans i1
 have d5 := d5.mono i1
 have hz := Option.some.inj g1
 subst hz
 exact ⟨_, _, rfl, Z2, (St.dropA (A := [(b1, cA (U2 b2) 182)]) (St.dropA (A := [(b4, cA ([v7] ++ [a5]) 29)]) (St.dropA (A := [(c1, cA ([v7] ++ [a5]) 29)]) hS))), ⟨_, _, rfl, ⟨_, _, rfl, d5, i2⟩, rfl⟩⟩
def Zg9 (K : Nat) (a0 : ((List Int) × (List MpT))) (a1 : (List MpT)) : Option Int := ((Zk8 K (a0.1, a0.2)).bind fun r8 => (if r8 = true then ((S1 K a1 (fun x => Zh2 K x (a0.1, a0.2))).bind fun a8 => ((Zn4 K a8 1).bind fun b4 => some b4)) else ((Zn4 K true 1).bind fun b5 => some b5)))
theorem Yg6 {K : Nat} {a0 : ((List Int) × (List MpT))} {a1 : (List MpT)} {r : Int} (q0 : Zg9 K a0 a1 = some r) {H : FH} {w : World} {L : OL} {s0 : Value} {s1 : Value} (c7 : Zq0 (Zh7 (X6 (X3 .i64)) (X6 (X6 yT))) H s0 a0) (a9 : Y3 (X6 yT) H s1 a1) (hS : St H w L) :
 Calls Tryz.prog 85 #[s0, s1] w (T6 (fun v G => (R.int .i64).p G v r) H L) := by
 obtain ⟨b0, b2, d3, d4, _, rfl, a6, ⟨_, _, rfl, ⟨b7, rfl, a3⟩, ⟨b8, rfl, a4⟩⟩, b9⟩ := c7
 have Z2 := Sub.refl H
 refine X0 Tryz.func85 rfl Tryz.ntmps85 rfl ?_
 unfold Zg9 at q0
 refine Z3 (Z1 ?_)
 refine T7 (v := Value.pointer (some ⟨b0, b2, none⟩)) ([Value.pointer (some ⟨b0, b2, none⟩)]).toArray rfl rfl hS rfl ?_
 intro b1 w2 hS
 refine Z6 (vI 0) rfl rfl (Z0 (Z3 ?_))
 obtain ⟨H4, b3, hS, b6⟩ := St.freezeBox hS
 have Z2 := Z2.trans b3
 have a9 := a9.mono b3
 have a3 := a3.mono b3
 have a4 := a4.mono b3
 have a6 := b3.1 _ _ a6
 refine Z1 ?_
 refine Y4 (Value.pointer (some ⟨b0, b2, none⟩)) Wb9 rfl (hS.froz _ _ b6) ((Zd2 ([Value.pointer (some ⟨b0, b2, none⟩)]) 1) 0 (show 0 < 1 by decide)) rfl (K3 rfl rfl ?_)
 refine V5 ([b7] ++ [b8]) P9 rfl (hS.froz _ _ a6) rfl b9 rfl ?_
 obtain ⟨r8, c8, q0⟩ := bind_some q0
 refine Y8 Tryz.call45 (Q8 rfl) rfl (Yl2 c8 a3 a4 hS) ?_
 rintro e8 w9 ⟨_, H8, rfl, a7, hS, rfl⟩
 refine ⟨_, rfl, ?_⟩
 have Z2 := Z2.trans a7
 have a9 := a9.mono a7
 have a3 := a3.mono a7
 have a4 := a4.mono a7
 have b6 := a7.1 _ _ b6
 have a6 := a7.1 _ _ a6
 refine N7 (b := r8) rfl rfl (Z4 (Value.bool (!r8)) rfl rfl ?_)
 by_cases a5 : r8 = true
 rw [if_pos a5] at q0
 refine Y1 rfl rfl (Eq.trans rfl (congrArg (fun b => Value.bool (!b)) a5)) (Z4 (s1) rfl rfl ?_)
 refine Y1 rfl rfl (Eq.trans rfl (congrArg (fun b => Value.bool (!b)) a5)) ?_
 refine Yg2 rfl rfl ?_
 obtain ⟨a8, c1, q0⟩ := bind_some q0
 refine Y1 rfl rfl (Eq.trans rfl (congrArg (fun b => Value.bool (!b)) a5)) ?_
 refine Y8 Tryz.call127 (T0 rfl rfl) rfl (Zb8 c1 a9 ⟨174, #[vP b1], rfl, Tryz.call174, fun H2 w2 L2 v x b c9 d0 hv d1 => by obtain ⟨_, rfl, ⟨d2, rfl, c0⟩⟩ := hv; exact Yd8 d1 c0 (Zq0.mono c9 ⟨_, _, _, _, _, rfl, b6, ⟨_, rfl, ⟨_, _, _, _, _, rfl, a6, ⟨_, _, rfl, ⟨_, rfl, a3⟩, ⟨_, rfl, a4⟩⟩, b9⟩⟩, (Zd2 ([Value.pointer (some ⟨b0, b2, none⟩)]) 1)⟩) d0⟩ hS) ?_
 rintro d5 d6 ⟨_, d7, rfl, c2, hS, rfl⟩
 refine ⟨_, rfl, ?_⟩
 have Z2 := Z2.trans c2
 refine V1 (t := false) (Value.bool a8) (Eq.trans rfl (congrArg (fun b => Value.bool (!b)) a5)) ((if_neg Bool.false_ne_true).trans rfl) rfl (Z6 (Value.bool a8) rfl rfl (Z0 (Z3 (Z1 (Z4 (Value.bool a8) rfl rfl ?_)))))
 obtain ⟨b4, c3, q0⟩ := bind_some q0
 refine Y8 Tryz.call86 (T0 rfl rfl) rfl (Zx8 c3  hS) ?_
 rintro d8 d9 ⟨_, e0, rfl, c4, hS, rfl⟩
 refine ⟨_, rfl, ?_⟩
 have Z2 := Z2.trans c4
 refine Z6 (vI b4) rfl rfl (Z0 ?_)
 refine Y9 (vs := [vI b4]) Tryz.func85 ⟨rfl, trivial⟩ ?_
 have hz := Option.some.inj q0
 subst hz
 exact ⟨_, _, rfl, Z2, hS, rfl⟩
 rw [if_neg a5] at q0
 refine Z8 rfl rfl (Eq.trans rfl (congrArg (fun b => Value.bool (!b)) (W2 a5))) rfl rfl rfl (Z8 rfl rfl (Eq.trans rfl (congrArg (fun b => Value.bool (!b)) (W2 a5))) rfl rfl rfl (Z8 rfl rfl (Eq.trans rfl (congrArg (fun b => Value.bool (!b)) (W2 a5))) rfl rfl rfl ?_))
 refine V1 (t := true) (Value.bool true) (Eq.trans rfl (congrArg (fun b => Value.bool (!b)) (W2 a5))) ((if_pos rfl).trans rfl) rfl (Z6 (Value.bool true) rfl rfl (Z0 (Z3 (Z1 (Z4 (Value.bool true) rfl rfl ?_)))))
 obtain ⟨b5, c5, q0⟩ := bind_some q0
 refine Y8 Tryz.call86 (T0 rfl rfl) rfl (Zx8 c5  hS) ?_
 rintro e1 e2 ⟨_, e3, rfl, c6, hS, rfl⟩
 refine ⟨_, rfl, ?_⟩
 have Z2 := Z2.trans c6
 refine Z6 (vI b5) rfl rfl (Z0 ?_)
 refine Y9 (vs := [vI b5]) Tryz.func85 ⟨rfl, trivial⟩ ?_
 have hz := Option.some.inj q0
 subst hz
 exact ⟨_, _, rfl, Z2, hS, rfl⟩
end Go.Proofs.YtfodlhkoafhplaaGreat
