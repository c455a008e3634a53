/- Walks of functions: each computes its pure function, if that gives a value. -/
import Derived.Test.YtfodlhkoafhplaaGreatUTy
import Derived.Test.YtfodlhkoafhplaaGreatUF6
import Derived.Test.YtfodlhkoafhplaaGreatUF3
import Derived.Test.YtfodlhkoafhplaaGreatUF2
import Derived.Test.YtfodlhkoafhplaaGreatUF7
import Derived.Test.YtfodlhkoafhplaaGreatUF4
namespace Go.Proofs.YtfodlhkoafhplaaGreat
open Go
set_option linter.unusedSimpArgs false
set_option linter.unusedVariables false
set_option maxRecDepth 100000
set_option maxHeartbeats 8000000
def Zh4 (K : Nat) (j8 : Int → Option (Ex Bool (Unit))) (a1 : MpT) (a3 : Int) (b0 : Bool) : Option (Ex Bool (Unit)) := (if b0 = true then some (.ret false) else (if 0 < a3 then (if 0 ≤ (IntKind.i64.wrap (a3 - 1)) then (if (IntKind.i64.wrap (a3 - 1)) < (a1.length : Int) then ((Zb4 K ((rd a1 (IntKind.i64.wrap (a3 - 1))).1)).bind fun e1 => ((Zb4 K ((rd a1 a3).1)).bind fun e2 => ((F2 K e1 e2).bind fun b3 => (if 0 ≤ b3 then some (.ret false) else j8 (a3 + 1))))) else none) else none) else j8 (a3 + 1)))
def N6 (K : Nat) (a0 : (List Int)) (a1 : MpT) : Nat → Int → Option (Ex Bool (Unit))
 | 0, _ => none
 | k + 1, a3 => (if a3 < (a1.length : Int) then ((Zf9 K a0 ((rd a1 a3).1)).bind fun c3 => (if c3 = true then ((Zo0 K ((rd a1 a3).2)).bind fun c4 => Zh4 K (N6 K a0 a1 k) a1 a3 (!c4)) else Zh4 K (N6 K a0 a1 k) a1 a3 true)) else some (.go ()))
def Zi7 (K : Nat) (a0 : (List Int)) (a1 : MpT) : Option Bool := (if 400 < (a1.length : Int) then some false else ((N6 K a0 a1 K 0).bind (Ex.elim (fun r => some r) (fun s => some true))))
theorem Zr2 {K : Nat} {a0 : (List Int)} {a1 : MpT} {r : Bool} (q0 : Zi7 K a0 a1 = some r) {H : FH} {w : World} {L : OL} {s0 : Value} {s1 : Value} (a9 : Y2 (Y8 .i64) H s0 a0) (a6 : Y2 yT H s1 a1) (hS : St H w L) :
 Calls Tryz.prog 125 #[s0, vA ([s1])] w (S3 (fun v G => R.bool.p G v r) H L) := by
 have Z2 := Sub.refl H
 refine X2 Tryz.func125 rfl Tryz.ntmps125 rfl ?_
 unfold Zi7 at q0
 refine Z3 (Z1 ?_)
 refine S5 (v := vA ([s1])) ([s1]).toArray rfl rfl hS rfl ?_
 intro b1 w2 hS
 refine Z5 (Value.bool false) rfl rfl (Z0 (Z3 (Z3 (Z1 (Y3 U4 rfl rfl ?_)))))
 refine Y4 (s1) Q1 rfl (hS.get mL) rfl rfl ?_
 have bl4 := a6.bound
 refine W6 R2 rfl a6 rfl ?_
 refine Zd2 (k := .i64) (a := (a1.length : Int)) (b := 400) rfl rfl rfl (Z0 ?_)
 by_cases e7 : 400 < (a1.length : Int)
 rw [if_pos e7] at q0
 refine Y0 (bT e7 rfl) (Z3 (Z1 (Z5 (Value.bool false) rfl rfl (Z0 ?_))))
 refine Y9 (vs := [Value.bool false]) Tryz.func125 ⟨rfl, trivial⟩ ?_
 have hz := Option.some.inj q0
 subst hz
 exact ⟨_, _, rfl, Z2, (St.dropA hS), rfl⟩
 rw [if_neg e7] at q0
 refine Z9 (bF e7 rfl) (Y6 (Z3 (Z3 (Z1 (Y3 U4 rfl rfl ?_)))))
 refine Y4 (s1) Q1 rfl (hS.get mL) rfl rfl ?_
 have bl6 := a6.bound
 refine W6 R2 rfl a6 rfl (Z4 (vI 0) rfl rfl (Z0 (Y7 ?_)))
 obtain ⟨e3, a7, c0⟩ := bind_some q0
 refine W7 (id := 0) (fun k f w => ∃ (a3 : Int) (H1 : FH), N6 K a0 a1 k a3 = some e3 ∧ Sub H H1 ∧ St H1 w ([(b1, cA ([s1]) 47)] ++ L) ∧ 0 ≤ a3 ∧ Y2 (Y8 .i64) H1 s0 a0 ∧ Y2 yT H1 s1 a1 ∧ ev f (.tmp 0) = s0 ∧ ev f (.tmp 3) = vP b1 ∧ ev f (.tmp 12) = s1 ∧ ev f (.tmp 13) = vI (a1.length : Int) ∧ ev f (.tmp 14) = vI a3) (fun f w => ∃ (H1 : FH), e3 = .go () ∧ Sub H H1 ∧ St H1 w ([(b1, cA ([s1]) 47)] ++ L) ∧ Y2 yT H1 s1 a1) rfl ?_ ?_ K ?_ ?_
 rintro f w ⟨a3, H1, a7, _⟩
 rw [N6] at a7; cases a7
 rintro k s8 s9 j9 l9 ⟨a3, k1, a7, Z2, hS, l7, a9, a6, c1, c7, b4, b5, b2⟩
 rw [N6] at a7
 refine Z3 (Z1 ?_)
 refine U2 (k := .i64) (a := a3) (b := (a1.length : Int)) (by exact b2) (by exact b5) rfl (Z0 (Z3 ?_))
 by_cases e8 : a3 < (a1.length : Int)
 rw [if_pos e8] at a7
 refine Y0 (bT e8 rfl) (Y6 (Z3 (Y7 (Z3 (Z1 (Z4 (vI a3) (by exact b2) rfl ?_))))))
 obtain ⟨b8, o8, cs8, E8, _, m0, m1, ⟨_, _, rfl, rfl, rfl⟩, m2⟩ := a6.elem (i := a3) (by omega) (by omega)
 refine W3 R2 rfl (by exact b4) m0 (by exact b2) (by omega) (by omega) rfl ?_
 refine V4 (Z7 .u8 ((rd a1 a3).1) ++ [vI ((rd a1 a3).2)]) Zq4 rfl (hS.froz _ _ m1) rfl m2 rfl ?_
 refine V0 (z := vA (Z7 .u8 (fun _ => 0) ++ [vI 0])) (Z7 .u8 (fun _ => 0) ++ [vI 0]).toArray Zw6.zero rfl hS rfl ?_
 intro b9 w10 hS
 refine Z5 (vI a3) rfl rfl ?_
 refine X8 (v := vA (Z7 .u8 ((rd a1 a3).1) ++ [vI ((rd a1 a3).2)])) (vs := (Z7 .u8 ((rd a1 a3).1) ++ [vI ((rd a1 a3).2)]).toArray) (cs := (Z7 .u8 (fun _ => 0) ++ [vI 0]).toArray) Zq4 rfl rfl rfl hS rfl (L8 (S4 .u8 ((rd a1 a3).1)) (S2 rfl)) rfl ?_
 intro w12 hS
 refine Z0 (Z3 (Z3 ?_))
 refine Za3 (fun f w => ∃ (b0 : Bool) (H1 : FH), Zh4 K (N6 K a0 a1 k) a1 a3 b0 = some e3 ∧ Sub H H1 ∧ St H1 w ([(b9, cA (Z7 .u8 ((rd a1 a3).1) ++ [vI ((rd a1 a3).2)]) 76)] ++ ([(b1, cA ([s1]) 47)] ++ L)) ∧ Y2 (Y8 .i64) H1 s0 a0 ∧ Y2 yT H1 s1 a1 ∧ ev f (.tmp 0) = s0 ∧ ev f (.tmp 3) = vP b1 ∧ ev f (.tmp 5) = vI a3 ∧ ev f (.tmp 6) = vP b9 ∧ ev f (.tmp 12) = s1 ∧ ev f (.tmp 13) = vI (a1.length : Int) ∧ ev f (.tmp 14) = vI a3 ∧ ev f (.tmp 29) = Value.bool b0) ?_ ?_
 rintro fj4 n3 ⟨b0, n4, a5, Z2, hS, a9, a6, e0, c5, c6, f6, c8, c9, d0, d1⟩
 unfold Zh4 at a5
 by_cases d2 : b0 = true
 rw [if_pos d2] at a5
 refine Y0 (Eq.trans (by exact d1) (congrArg Value.bool d2)) (Z3 (Z1 (Z5 (Value.bool false) rfl rfl (Z0 ?_))))
 refine Y9 (vs := [Value.bool false]) Tryz.func125 ⟨rfl, trivial⟩ ?_
 have hz := Option.some.inj a5
 subst hz
 dsimp only [Ex.elim] at c0
 have hz := Option.some.inj c0
 subst hz
 exact ⟨_, _, rfl, Z2, (St.dropA (St.dropA hS)), rfl⟩
 rw [if_neg d2] at a5
 refine Z9 (Eq.trans (by exact d1) (congrArg Value.bool (W2 d2))) (Y6 (Z3 ?_))
 by_cases a4 : 0 < a3
 rw [if_pos a4] at a5
 obtain ⟨n5, a5⟩ := gd a5
 obtain ⟨n6, a5⟩ := gd a5
 obtain ⟨f7, f8, n7, t0, _, g9, d3, ⟨_, _, rfl, rfl, rfl⟩, h0⟩ := a6.elem (i := (IntKind.i64.wrap (a3 - 1))) (by omega) (by omega)
 obtain ⟨e1, h1, a5⟩ := bind_some a5
 obtain ⟨e2, h2, a5⟩ := bind_some a5
 obtain ⟨b3, h3, a5⟩ := bind_some a5
 refine U0 17 (Q5 [(30, MP.eq (vI a3)), (31, MP.eq (Value.bool (decide (0 < a3)))), (32, MP.eq (Value.bool (decide (0 < a3)))), (33, MP.eq (vP b1)), (34, MP.eq (s1)), (35, MP.eq (vI a3)), (36, MP.eq (vI (IntKind.i64.wrap (a3 - 1)))), (37, MP.eq (Value.pointer (some ⟨f7, f8, none⟩))), (38, MP.eq (Value.pointer (some ⟨f7, f8 + 0, none⟩))), (39, MP.eq (vA (Z7 .u8 ((rd a1 (IntKind.i64.wrap (a3 - 1))).1)))), (40, MP.eq (vA (Z7 .i64 e1))), (41, MP.eq (vP b9)), (42, MP.eq (vA (Z7 .u8 ((rd a1 a3).1)))), (43, MP.eq (vA (Z7 .i64 e2))), (44, MP.eq (vI b3)), (45, MP.eq (Value.bool (decide (0 ≤ b3)))), (46, MP.eq (Value.bool (decide (0 ≤ b3))))]) [] mixed rfl rfl rfl hS (Z6 rfl ?_ (Z6 rfl ?_ (Z6 rfl ?_ (Z6 rfl ?_ (Z6 rfl ?_ (Z6 rfl ?_ (Z6 rfl ?_ (Z6 rfl ?_ (Z6 rfl ?_ (Z6 rfl ?_ (Z6 rfl ?_ (Z6 rfl ?_ (Z6 rfl ?_ (Z6 rfl ?_ (Z6 rfl ?_ (Z6 rfl ?_ (Z6 rfl ?_ U5))))))))))))))))) ?_
 intro m3 m4 m5 m6 k2 hS e4 k3 hcq
 have f9 := evT (e4 5 rfl) c6
 refine Z4 (vI a3) f9 rfl ?_
 exact qn (.refl _) rfl hS rfl
 intro g0 m7 m8 m9 k4 hS k5 e5 hcq
 have g1 : ev g0 (.tmp 30) = vI a3 := e5 0 30 rfl rfl
 refine Zd2 (k := .i64) (a := a3) (b := 0) g1 rfl rfl ?_
 exact qn (.refl _) rfl hS rfl
 intro g2 n0 n1 n2 k6 hS k7 e6 hcq
 have g3 : ev g2 (.tmp 31) = Value.bool (decide (0 < a3)) := e6 1 31 rfl rfl
 refine Z4 (Value.bool (decide (0 < a3))) g3 rfl ?_
 exact qn (.refl _) rfl hS rfl
 intro f51 w52 H53 X54 t1 hS k8 k9 hcq
 refine Y1 rfl rfl (bT a4 (eM (k9 2 32 rfl rfl))) (Y3 U4 (evT (k8 3 rfl) c5) rfl ?_)
 exact qn (.refl _) rfl hS rfl
 intro f61 w62 H63 X64 t4 hS t5 g4 hcq
 refine Y1 rfl rfl (bT a4 (eM (g4 2 32 rfl rfl))) ?_
 refine Y4 (s1) Q1 (eM (g4 3 33 rfl rfl)) (hS.get (mR (mR mL))) rfl rfl ?_
 exact qn (.refl _) rfl hS rfl
 intro f71 w72 H73 X74 t6 hS l0 l1 hcq
 refine Y1 rfl rfl (bT a4 (eM (l1 2 32 rfl rfl))) (Z4 (vI a3) (evT (l0 5 rfl) c6) rfl ?_)
 exact qn (.refl _) rfl hS rfl
 intro f81 w82 H83 X84 t7 hS t8 g5 hcq
 refine Y1 rfl rfl (bT a4 (eM (g5 2 32 rfl rfl))) ?_
 refine Zs6 (IntKind.i64.wrap (a3 - 1)) (eM (g5 5 35 rfl rfl)) rfl rfl rfl ?_
 exact qn (.refl _) rfl hS rfl
 intro t9 u0 u1 u2 n8 hS n9 d4 hcq
 refine Y1 rfl rfl (bT a4 (eM (d4 2 32 rfl rfl))) ?_
 refine W3 R2 rfl (eM (d4 4 34 rfl rfl)) g9 (eM (d4 6 36 rfl rfl)) (by omega) (by omega) rfl ?_
 exact qn (.refl _) rfl hS rfl
 intro u3 u4 u5 u6 o0 hS o1 e9 hcq
 refine Y1 rfl rfl (bT a4 (eM (e9 2 32 rfl rfl))) (Y3 N2 (eM (e9 7 37 rfl rfl)) rfl ?_)
 exact qn (.refl _) rfl hS rfl
 intro u7 u8 u9 v0 h4 hS o2 f0 hcq
 have d3 := h4.1 _ _ d3
 refine Y1 rfl rfl (bT a4 (eM (f0 2 32 rfl rfl))) ?_
 refine V4 (Z7 .u8 ((rd a1 (IntKind.i64.wrap (a3 - 1))).1)) P9 (eM (f0 8 38 rfl rfl)) (hS.froz _ _ d3) rfl (Zd1 ([]) (Z7 .u8 ((rd a1 (IntKind.i64.wrap (a3 - 1))).1)) (([vI ((rd a1 (IntKind.i64.wrap (a3 - 1))).2)])) h0 (Nat.le_of_ble_eq_true rfl)) rfl ?_
 exact qn (.refl _) rfl hS rfl
 intro v1 v2 v3 v4 o3 hS o4 f1 hcq
 refine Y1 rfl rfl (bT a4 (eM (f1 2 32 rfl rfl))) ?_
 refine X0 Tryz.call176 (M0 (eM (f1 9 39 rfl rfl))) rfl (Zk5 h1  hS) ?_
 rintro v5 v6 ⟨v7, v8, rfl, h5, hS, ⟨_, rfl, rfl⟩⟩
 refine ⟨_, rfl, ?_⟩
 exact qn h5 rfl hS rfl
 intro v9 w0 w1 w3 o5 hS h6 h7 hcq
 refine Y1 rfl rfl (bT a4 (eM (h7 2 32 rfl rfl))) (Y3 N2 (evT (h6 6 rfl) f6) rfl ?_)
 exact qn (.refl _) rfl hS rfl
 intro w4 w5 w6 w7 o6 hS o7 f2 hcq
 refine Y1 rfl rfl (bT a4 (eM (f2 2 32 rfl rfl))) ?_
 refine V4 (Z7 .u8 ((rd a1 a3).1)) P9 (eM (f2 11 41 rfl rfl)) (hS.get (o := cA (Z7 .u8 ((rd a1 a3).1) ++ [vI ((rd a1 a3).2)]) 76) (mR mL)) rfl (fun j hj => Zg5 ([]) (Z7 .u8 ((rd a1 a3).1)) (([vI ((rd a1 a3).2)])) j hj) rfl ?_
 exact qn (.refl _) rfl hS rfl
 intro w8 w9 x0 x1 o9 hS p0 f3 hcq
 refine Y1 rfl rfl (bT a4 (eM (f3 2 32 rfl rfl))) ?_
 refine X0 Tryz.call176 (M0 (eM (f3 12 42 rfl rfl))) rfl (Zk5 h2  hS) ?_
 rintro x2 x3 ⟨x4, x5, rfl, h8, hS, ⟨_, rfl, rfl⟩⟩
 refine ⟨_, rfl, ?_⟩
 exact qn h8 rfl hS rfl
 intro x6 x7 x8 x9 p1 hS p2 d5 hcq
 refine Y1 rfl rfl (bT a4 (eM (d5 2 32 rfl rfl))) ?_
 refine X0 Tryz.call221 (T0 (eM (d5 10 40 rfl rfl)) (eM (d5 13 43 rfl rfl))) rfl (Zq2 h3  hS) ?_
 rintro y0 y1 ⟨_, y2, rfl, h9, hS, rfl⟩
 refine ⟨_, rfl, ?_⟩
 exact qn h9 rfl hS rfl
 intro y3 y4 y5 y6 p3 hS p4 f4 hcq
 refine Y1 rfl rfl (bT a4 (eM (f4 2 32 rfl rfl))) ?_
 refine Yb1 (k := .i64) (a := b3) (b := 0) (eM (f4 14 44 rfl rfl)) rfl rfl ?_
 exact qn (.refl _) rfl hS rfl
 intro y7 y8 y9 z0 p5 hS p6 f5 hcq
 refine V2 (t := true) (Value.bool (decide (0 ≤ b3))) (bT a4 (eM (f5 2 32 rfl rfl))) ((if_pos rfl).trans (eM (f5 15 45 rfl rfl))) rfl ?_
 exact qn (.refl _) rfl hS rfl
 intro l2 l3 g6 d6 hS b6 i0 hcq
 have hS : St g6 l3 ([(b9, cA (Z7 .u8 ((rd a1 a3).1) ++ [vI ((rd a1 a3).2)]) 76)] ++ ([(b1, cA ([s1]) 47)] ++ L)) := hS
 have Z2 := Z2.trans d6
 have a9 := a9.mono d6
 have a6 := a6.mono d6
 have g7 : ev l2 (.tmp 46) = Value.bool (decide (0 ≤ b3)) := i0 16 46 (by decide) rfl
 refine Z0 ?_
 by_cases c2 : 0 ≤ b3
 rw [if_pos c2] at a5
 refine Y0 (bT c2 (by exact g7)) (Z3 (Z1 (Z5 (Value.bool false) rfl rfl (Z0 ?_))))
 refine Y9 (vs := [Value.bool false]) Tryz.func125 ⟨rfl, trivial⟩ ?_
 have hz := Option.some.inj a5
 subst hz
 dsimp only [Ex.elim] at c0
 have hz := Option.some.inj c0
 subst hz
 exact ⟨_, _, rfl, Z2, (St.dropA (St.dropA hS)), rfl⟩
 rw [if_neg c2] at a5
 refine Z9 (bF c2 (by exact g7)) (Y6 (X3 (Z1 ?_)))
 refine W8 (a3 + 1) (by exact (evT (b6 14 rfl) d0)) rfl (IntWalk.i64_in _ (by omega)) rfl (Z4 (vI (a3 + 1)) rfl rfl (Z0 ?_))
 have hS := St.dropA hS
 exact j9 _ _ ⟨(a3 + 1), g6, a5, Z2, hS, (by omega), a9, a6, (evT (b6 0 rfl) e0), (evT (b6 3 rfl) c5), (evT (b6 12 rfl) c8), (evT (b6 13 rfl) c9), rfl⟩
 rw [if_neg a4] at a5
 refine U0 17 (Q5 [(30, MP.eq (vI a3)), (31, MP.eq (Value.bool (decide (0 < a3)))), (32, MP.eq (Value.bool (decide (0 < a3)))), (33, MP.eq (undef)), (34, MP.eq (undef)), (35, MP.eq (undef)), (36, MP.eq (undef)), (37, MP.eq (undef)), (38, MP.eq (undef)), (39, MP.eq (undef)), (40, MP.eq (undef)), (41, MP.eq (undef)), (42, MP.eq (undef)), (43, MP.eq (undef)), (44, MP.eq (undef)), (45, MP.eq (undef)), (46, MP.eq (Value.bool false))]) [] mixed rfl rfl rfl hS (Z6 rfl ?_ (Z6 rfl ?_ (Z6 rfl ?_ (Z6 rfl ?_ (Z6 rfl ?_ (Z6 rfl ?_ (Z6 rfl ?_ (Z6 rfl ?_ (Z6 rfl ?_ (Z6 rfl ?_ (Z6 rfl ?_ (Z6 rfl ?_ (Z6 rfl ?_ (Z6 rfl ?_ (Z6 rfl ?_ (Z6 rfl ?_ (Z6 rfl ?_ U5))))))))))))))))) ?_
 intro m3 m4 m5 m6 k2 hS e4 k3 hcq
 have f9 := evT (e4 5 rfl) c6
 refine Z4 (vI a3) f9 rfl ?_
 exact qn (.refl _) rfl hS rfl
 intro g0 m7 m8 m9 k4 hS k5 e5 hcq
 have g1 : ev g0 (.tmp 30) = vI a3 := e5 0 30 rfl rfl
 refine Zd2 (k := .i64) (a := a3) (b := 0) g1 rfl rfl ?_
 exact qn (.refl _) rfl hS rfl
 intro g2 n0 n1 n2 k6 hS k7 e6 hcq
 have g3 : ev g2 (.tmp 31) = Value.bool (decide (0 < a3)) := e6 1 31 rfl rfl
 refine Z4 (Value.bool (decide (0 < a3))) g3 rfl ?_
 exact qn (.refl _) rfl hS rfl
 intro z1 z2 z3 z4 p7 hS p8 i1 hcq
 refine Z8 rfl rfl (bF a4 (eM (i1 2 32 rfl rfl))) rfl rfl rfl ?_
 exact qn (.refl _) rfl hS rfl
 intro z5 z6 z7 z8 p9 hS q1 i2 hcq
 refine Z8 rfl rfl (bF a4 (eM (i2 2 32 rfl rfl))) rfl rfl rfl ?_
 exact qn (.refl _) rfl hS rfl
 intro z9 a00 a01 a02 q2 hS q3 i3 hcq
 refine Z8 rfl rfl (bF a4 (eM (i3 2 32 rfl rfl))) rfl rfl rfl ?_
 exact qn (.refl _) rfl hS rfl
 intro a03 a04 a05 a06 q4 hS q5 i4 hcq
 refine Z8 rfl rfl (bF a4 (eM (i4 2 32 rfl rfl))) rfl rfl rfl ?_
 exact qn (.refl _) rfl hS rfl
 intro a07 a08 a09 a10 q6 hS q7 i5 hcq
 refine Z8 rfl rfl (bF a4 (eM (i5 2 32 rfl rfl))) rfl rfl rfl ?_
 exact qn (.refl _) rfl hS rfl
 intro a11 a12 a13 a14 q8 hS q9 i6 hcq
 refine Z8 rfl rfl (bF a4 (eM (i6 2 32 rfl rfl))) rfl rfl rfl ?_
 exact qn (.refl _) rfl hS rfl
 intro a15 a16 a17 a18 r0 hS r1 i7 hcq
 refine Z8 rfl rfl (bF a4 (eM (i7 2 32 rfl rfl))) rfl rfl rfl ?_
 exact qn (.refl _) rfl hS rfl
 intro a19 a20 a21 a22 r2 hS r3 i8 hcq
 refine Z8 rfl rfl (bF a4 (eM (i8 2 32 rfl rfl))) rfl rfl rfl ?_
 exact qn (.refl _) rfl hS rfl
 intro a23 a24 a25 a26 r4 hS r5 i9 hcq
 refine Z8 rfl rfl (bF a4 (eM (i9 2 32 rfl rfl))) rfl rfl rfl ?_
 exact qn (.refl _) rfl hS rfl
 intro a27 a28 a29 a30 r6 hS r7 j0 hcq
 refine Z8 rfl rfl (bF a4 (eM (j0 2 32 rfl rfl))) rfl rfl rfl ?_
 exact qn (.refl _) rfl hS rfl
 intro a31 a32 a33 a34 r8 hS r9 j1 hcq
 refine Z8 rfl rfl (bF a4 (eM (j1 2 32 rfl rfl))) rfl rfl rfl ?_
 exact qn (.refl _) rfl hS rfl
 intro a35 a36 a37 a38 s2 hS s3 j2 hcq
 refine Z8 rfl rfl (bF a4 (eM (j2 2 32 rfl rfl))) rfl rfl rfl ?_
 exact qn (.refl _) rfl hS rfl
 intro a39 a40 a41 a42 s4 hS s5 j3 hcq
 refine Z8 rfl rfl (bF a4 (eM (j3 2 32 rfl rfl))) rfl rfl rfl ?_
 exact qn (.refl _) rfl hS rfl
 intro a43 a44 a45 a46 s6 hS s7 j4 hcq
 refine V2 (t := false) (Value.bool false) (bF a4 (eM (j4 2 32 rfl rfl))) ((if_neg Bool.false_ne_true).trans rfl) rfl ?_
 exact qn (.refl _) rfl hS rfl
 intro a47 l4 g8 d7 hS b7 j5 hcq
 have hS : St g8 l4 ([(b9, cA (Z7 .u8 ((rd a1 a3).1) ++ [vI ((rd a1 a3).2)]) 76)] ++ ([(b1, cA ([s1]) 47)] ++ L)) := hS
 have Z2 := Z2.trans d7
 have a9 := a9.mono d7
 have a6 := a6.mono d7
 refine Z0 (Z9 (by exact (eM (j5 16 46 (by decide) rfl))) (Y6 (X3 (Z1 ?_))))
 refine W8 (a3 + 1) (by exact (evT (b7 14 rfl) d0)) rfl (IntWalk.i64_in _ (by omega)) rfl (Z4 (vI (a3 + 1)) rfl rfl (Z0 ?_))
 have hS := St.dropA hS
 exact j9 _ _ ⟨(a3 + 1), g8, a5, Z2, hS, (by omega), a9, a6, (evT (b7 0 rfl) e0), (evT (b7 3 rfl) c5), (evT (b7 12 rfl) c8), (evT (b7 13 rfl) c9), rfl⟩
 intro k0
 refine Z1 (Z4 (s0) (by exact c1) rfl (Y3 N2 rfl rfl ?_))
 refine V4 (Z7 .u8 ((rd a1 a3).1)) P9 rfl (hS.get (o := cA (Z7 .u8 ((rd a1 a3).1) ++ [vI ((rd a1 a3).2)]) 76) mL) rfl (fun j hj => Zg5 ([]) (Z7 .u8 ((rd a1 a3).1)) (([vI ((rd a1 a3).2)])) j hj) rfl ?_
 obtain ⟨c3, j6, a7⟩ := bind_some a7
 refine X0 Tryz.call220 (T0 rfl rfl) rfl (Ye7 j6 a9 hS) ?_
 rintro a48 a49 ⟨_, l5, rfl, d8, hS, rfl⟩
 refine ⟨_, rfl, ?_⟩
 have Z2 := Z2.trans d8
 have a9 := a9.mono d8
 have a6 := a6.mono d8
 refine M1 (b := c3) rfl rfl (Z4 (Value.bool (!c3)) rfl rfl ?_)
 by_cases a8 : c3 = true
 rw [if_pos a8] at a7
 refine Y1 rfl rfl (Eq.trans rfl (congrArg (fun b => Value.bool (!b)) a8)) (Y3 Zb5 rfl rfl ?_)
 refine Y1 rfl rfl (Eq.trans rfl (congrArg (fun b => Value.bool (!b)) a8)) ?_
 refine Y4 (vI ((rd a1 a3).2)) ty2 rfl (hS.get mL) rfl rfl ?_
 obtain ⟨c4, j7, a7⟩ := bind_some a7
 refine Y1 rfl rfl (Eq.trans rfl (congrArg (fun b => Value.bool (!b)) a8)) ?_
 refine X0 Tryz.call150 (M0 rfl) rfl (Yi3 j7  hS) ?_
 rintro a50 a51 ⟨_, l6, rfl, d9, hS, rfl⟩
 refine ⟨_, rfl, ?_⟩
 have Z2 := Z2.trans d9
 have a9 := a9.mono d9
 have a6 := a6.mono d9
 refine Y1 rfl rfl (Eq.trans rfl (congrArg (fun b => Value.bool (!b)) a8)) (M1 (b := c4) rfl rfl ?_)
 refine V2 (t := false) (Value.bool (!c4)) (Eq.trans rfl (congrArg (fun b => Value.bool (!b)) a8)) ((if_neg Bool.false_ne_true).trans rfl) rfl (Z0 ?_)
 exact k0 _ _ ⟨(!c4), l6, a7, Z2, hS, a9, a6, c1, c7, rfl, rfl, b4, b5, b2, rfl⟩
 rw [if_neg a8] at a7
 refine Z8 rfl rfl (Eq.trans rfl (congrArg (fun b => Value.bool (!b)) (W2 a8))) rfl rfl rfl (Z8 rfl rfl (Eq.trans rfl (congrArg (fun b => Value.bool (!b)) (W2 a8))) rfl rfl rfl (Z8 rfl rfl (Eq.trans rfl (congrArg (fun b => Value.bool (!b)) (W2 a8))) rfl rfl rfl (Z8 rfl rfl (Eq.trans rfl (congrArg (fun b => Value.bool (!b)) (W2 a8))) rfl rfl rfl ?_)))
 refine V2 (t := true) (Value.bool true) (Eq.trans rfl (congrArg (fun b => Value.bool (!b)) (W2 a8))) ((if_pos rfl).trans rfl) rfl (Z0 ?_)
 exact k0 _ _ ⟨true, l5, a7, Z2, hS, a9, a6, c1, c7, rfl, rfl, b4, b5, b2, rfl⟩
 rw [if_neg e8] at a7
 refine Z9 (bF e8 rfl) ?_
 refine W4 rfl ?_
 have hz := Option.some.inj a7
 subst hz
 exact l9 _ _ ⟨k1, rfl, Z2, hS, a6⟩
 exact ⟨0, H, a7, Z2, hS, (by omega), a9, a6, rfl, rfl, rfl, rfl, rfl⟩
 rintro a52 a53 ⟨a54, rfl, Z2, hS, a6⟩
 dsimp only [Ex.elim] at c0
 refine Z3 (Z1 (Z5 (Value.bool true) rfl rfl (Z0 ?_)))
 refine Y9 (vs := [Value.bool true]) Tryz.func125 ⟨rfl, trivial⟩ ?_
 have hz := Option.some.inj c0
 subst hz
 exact ⟨_, _, rfl, Z2, (St.dropA hS), rfl⟩
-- impl_power_compare
def Yh9 (xs : MpT) : Bool := xs.all fun p => (l8 p.1).all fun x => decide (0 ≤ x ∧ x ≤ 2305843009213693952)
def Zk4 (K : Nat) (a0 : MpT) : Option (List A8) := if Yh9 a0 = true ∧ a0.length < K ∧ a0.length ≤ 1000000000 then some (a0.map Prod.fst) else none
theorem Xn6 {xs : MpT} (h : Yh9 xs = true) : ∀ a, a ∈ xs.map Prod.fst → ∀ i, 0 ≤ a i ∧ a i ≤ 2305843009213693952 := by
  intro a ha i
  obtain ⟨p, hp, rfl⟩ := List.mem_map.1 ha
  have h1 := List.all_eq_true.1 (List.all_eq_true.1 h p hp)
  have : ∀ x, x ∈ l8 p.1 → 0 ≤ x ∧ x ≤ 2305843009213693952 := fun x hx => by simpa using h1 x hx
  apply this
  unfold l8
  match i with
  | 0 | 1 | 2 | 3 | 4 | 5 | 6 | 7 => simp
theorem Wa5 {xs : MpT} (hs : Srt xs) {ys : List A8} (hp : ys.Perm (xs.map Prod.fst)) (hy : ys.Pairwise fun p q => bef p q = true) : ys = xs.map Prod.fst := by
  have h1 : Srt (ys.map fun a => (a, (0 : Int))) := by
    unfold Srt
    rw [List.pairwise_map]; exact hy
  have h2 : Srt ((xs.map Prod.fst).map fun a => (a, (0 : Int))) := by
    unfold Srt
    rw [List.map_map, List.pairwise_map]; exact hs
  have h3 := congrArg (List.map Prod.fst) (Ys4 h1 h2 (hp.map _))
  simpa [List.map_map, Function.comp_def] using h3
def Yg3 (H : FH) (v : Value) (xs : List A8) (C : OL) : Prop := ∃ b c cs, v = .slice (some ⟨b, 0, none⟩) xs.length c ∧ xs.length ≤ c ∧ c ≤ maxLen ∧ cs.size = c * 8 ∧ C = [(b, .cells cs 188)] ∧
    ∀ i x, xs[i]? = some x → ∀ j, j < 8 → cs[i * 8 + j]? = (Z7 .i64 x)[j]?
theorem Yg3.of {H : FH} {v : Value} {xs : List A8} {C : OL} (h : V1 (Zl2 .i64) 188 H v xs C) (hn : xs ≠ []) : Yg3 H v xs C := by
  rcases h with ⟨_, h, _⟩ | ⟨b, c, cs, h1, h2, h3, h4, h5, h6⟩
  · exact absurd h hn
  · refine ⟨b, c, cs, h1, h2, h3, h4, h5, fun i x hx j hj => ?_⟩
    obtain ⟨ecs, hr, hj'⟩ := h6 i x hx
    have hr : ecs = Z7 .i64 x := hr
    subst hr
    exact hj' j hj
theorem Wa4 {n : Nat} {f : Fr} {w : World} {H : FH} {L : OL} {ops : Array Oper} {J : Fr → World → Prop} {r : List Oper} {T : TypeId} {d : Nat} {pos : String} {af : Array Edge} (hS : St H w L) (hn : Nat.blt d n = true)
    (K : ∀ u w' C', V1 (Zl2 .i64) 188 H u [] C' → Yg3 H u [] C' → St H w' (C' ++ L) → W5 Tryz.prog n ops J r (upd f d u) w') : W5 Tryz.prog n ops J (⟨some d, .buildSlice 120 0 #[], T, pos, af, none⟩ :: r) f w := by
  have hrun := Zu8 (P := Tryz.prog) (w := w) Yy4 Zi1 [] rfl (by simp) (by simp)
  refine U9 (v := .slice (some ⟨w.heap.size, 0, none⟩) 0 0) (w' := w.alloc (.cells #[] 188)) rfl rfl hn (by have h := hrun; simp only [execOp]; exact E1 (by simpa using h))
    (K _ _ [(w.heap.size, .cells #[] 188)] (.inr ⟨w.heap.size, 0, #[], rfl, by simp, by simp [maxLen], by simp, rfl, by simp⟩) ⟨w.heap.size, 0, #[], rfl, by simp, by simp [maxLen], by simp, rfl, by simp⟩ (hS.alloc _))
theorem Yg6 {K : Nat} {a0 : MpT} {r : List A8} (q0 : Zk4 K a0 = some r) {H : FH} {w : World} {L : OL} {s0 : Value} (hs0 : R8 .i64 H s0 a0) (hS : St H w L) :
    Calls Tryz.prog 177 #[s0] w (S3 (fun v G => (R.sl (Zl2 .i64)).p G v r) H L) := by
  have Z2 := Sub.refl H
  refine X2 Tryz.func177 rfl Tryz.ntmps177 rfl ?_
  unfold Zk4 at q0
  by_cases hg : Yh9 a0 = true ∧ a0.length < K ∧ a0.length ≤ 1000000000
  case neg => rw [if_neg hg] at q0; cases q0
  rw [if_pos hg] at q0
  obtain ⟨hok, hK, hlen⟩ := hg
  cases q0
  refine Z3 ?_
  refine Z1 ?_
  refine Z5 (Value.slice none 0 0) rfl rfl ?_
  refine Z0 ?_
  refine Z3 ?_
  refine Z1 ?_
  refine Wa4 hS rfl ?_
  intro u1 w2 C3 ho4 hnb0 hS
  have hS : St H w2 (C3 ++ L) := hS
  refine Z5 (u1) rfl rfl ?_
  refine Z0 ?_
  refine Z3 ?_
  refine Z3 ?_
  refine Z1 ?_
  refine Z4 (s0) rfl rfl ?_
  refine Zx9 Zj6 rfl hs0 hS rfl ?_
  intro it6 w7 C8 ho9 hS
  have hS : St H w7 (C8 ++ (C3 ++ L)) := hS
  refine Z0 ?_
  refine Y7 ?_
  refine W7 (id := 0) (fun k f w => ∃ (x0_own10 : MpT) (x0_own5 : (List A8)) (H1 : FH) (Cx0_own10 : OL) (Cx0_own5 : OL) (ux0_own5 : Value), ((x0_own5 ++ x0_own10.map Prod.fst).Perm (a0.map Prod.fst) ∧ x0_own10.length < k ∧ (x0_own5 = [] → Yg3 H1 ux0_own5 x0_own5 Cx0_own5)) ∧ Sub H H1 ∧ St H1 w (Cx0_own10 ++ (Cx0_own5 ++ L)) ∧ Za5 .i64 H1 it6 x0_own10 none Cx0_own10 ∧ V1 (Zl2 .i64) 188 H1 ux0_own5 x0_own5 Cx0_own5 ∧ ev f (.tmp 3) = ux0_own5 ∧ ev f (.tmp 7) = it6) (fun f w => ∃ (y0_own5 : (List A8)) (H1 : FH) (Cy0_own10 : OL) (Cy0_own5 : OL) (uy0_own5 : Value), (y0_own5.Perm (a0.map Prod.fst) ∧ Yg3 H1 uy0_own5 y0_own5 Cy0_own5) ∧ Sub H H1 ∧ St H1 w (Cy0_own10 ++ (Cy0_own5 ++ L)) ∧ Za5 .i64 H1 it6 ([] : MpT) none Cy0_own10 ∧ V1 (Zl2 .i64) 188 H1 uy0_own5 y0_own5 Cy0_own5 ∧ ev f (.tmp 3) = uy0_own5) rfl ?_ ?_ K ?_ ?_
  · rintro f w ⟨x0_own10, x0_own5, H1, Cx0_own10, Cx0_own5, ux0_own5, ⟨_, hk, _⟩, _⟩
    omega
  · rintro k f1_0 w1_0 ih0 hx0 ⟨x0_own10, x0_own5, H1_0, Cx0_own10, Cx0_own5, ux0_own5, ⟨hpm, hk, hnb⟩, Z2, hS, hox0_own10, hox0_own5, ff1_0_3, ff1_0_7⟩
    refine Z3 ?_
    refine Z1 ?_
    refine Yd0 (by exact ff1_0_7) hox0_own10 hS rfl ?_ ?_
    · intro hr11; subst hr11
      refine V5 (Value.bool false) rfl rfl rfl ?_
      refine Z0 ?_
      refine Z3 ?_
      refine Z9 rfl ?_
      refine W4 rfl ?_
      have hnb' : Yg3 H1_0 ux0_own5 x0_own5 Cx0_own5 := by
        by_cases h : x0_own5 = []
        · exact hnb h
        · exact Yg3.of hox0_own5 h
      exact hx0 _ _ ⟨x0_own5, H1_0, Cx0_own10, Cx0_own5, ux0_own5, ⟨by simpa using hpm, hnb'⟩, Z2, hS, hox0_own10, hox0_own5, ff1_0_3⟩
    · intro z12 zr13 w14 C15 hp16 hi17 hS
      have hS : St H1_0 w14 (C15 ++ (Cx0_own5 ++ L)) := hS
      have hlz := hp16.length_eq
      rw [List.length_cons] at hlz
      have hpm2 : ((x0_own5 ++ [z12.1]) ++ zr13.map Prod.fst).Perm (a0.map Prod.fst) := by
        refine List.Perm.trans ?_ hpm
        rw [List.append_assoc]
        refine List.Perm.append_left _ ?_
        exact (hp16.map Prod.fst).symm
      have hll := hpm.length_eq
      rw [List.length_append, List.length_map, List.length_map] at hll
      refine V5 (Value.bool true) rfl rfl rfl ?_
      refine Z0 ?_
      refine Z3 ?_
      refine Y0 rfl ?_
      refine Y6 ?_
      refine Y7 ?_
      refine Z3 ?_
      refine Z1 ?_
      refine Zy0 (by exact ff1_0_7) hi17 hS rfl ?_
      refine V5 (Value.agg (Z7 .i64 z12.1).toArray) rfl rfl rfl ?_
      refine V0 (z := Value.agg (Z7 .i64 (fun _ => 0)).toArray) (Z7 .i64 (fun _ => 0)).toArray Zi1.zero rfl hS rfl ?_
      intro b18 w19 hS
      have hS : St H1_0 w19 ([(b18, .cells (Z7 .i64 (fun _ => 0)).toArray 188)] ++ (C15 ++ (Cx0_own5 ++ L))) := hS
      refine X8 (v := Value.agg (Z7 .i64 z12.1).toArray) (vs := (Z7 .i64 z12.1).toArray) (cs := (Z7 .i64 (fun _ => 0)).toArray) P4 rfl rfl rfl hS rfl (S4 .i64 z12.1) rfl ?_
      intro w21 hS
      have hS : St H1_0 w21 ([(b18, .cells (Z7 .i64 z12.1).toArray 188)] ++ (C15 ++ (Cx0_own5 ++ L))) := hS
      refine Z0 ?_
      refine Z1 ?_
      refine Z4 (ux0_own5) (by exact ff1_0_3) rfl ?_
      refine W1 P4 rfl (hS.own (b18, .cells (Z7 .i64 z12.1).toArray 188) (List.mem_append_left _ (List.mem_singleton.2 rfl))) rfl rfl ?_
      refine Zk6 (τ := (Zl2 .i64)) Yy4 Zi1 rfl [Value.agg (Z7 .i64 z12.1).toArray] [z12.1] rfl rfl (Zc3 rfl) (Zq5 rfl) (by decide) (by decide) hS rfl ?_
      intro u22 H23 w24 sb25 hS hl26
      have Z2 := Z2.trans sb25
      have hox0_own5 := hox0_own5.mono sb25
      have hi17 := hi17.mono sb25
      have hS : St H23 w24 ([(b18, .cells (Z7 .i64 z12.1).toArray 188)] ++ (C15 ++ (Cx0_own5 ++ L))) := hS
      have hg27 : x0_own5.length + ([z12.1]).length ≤ 1099511627776 := by simp; omega
      have hS : St H23 w24 (Cx0_own5 ++ ([(b18, .cells (Z7 .i64 z12.1).toArray 188)] ++ (C15 ++ L))) := hS.perm (C2 (A1 := [(b18, .cells (Z7 .i64 z12.1).toArray 188)]) (A2 := C15))
      refine Za8 (τ := (Zl2 .i64)) Wh5 rfl rfl rfl hox0_own5 hS hl26 hg27 rfl ?_
      intro u28 w29 C30 ho31 hS
      have hS : St H23 w29 (C30 ++ ([(b18, .cells (Z7 .i64 z12.1).toArray 188)] ++ (C15 ++ L))) := hS
      have hS : St H23 w29 ([(b18, .cells (Z7 .i64 z12.1).toArray 188)] ++ (C15 ++ (C30 ++ L))) := hS.perm (C2 (A1 := [(b18, .cells (Z7 .i64 z12.1).toArray 188)]) (A2 := C15)).symm
      refine Z5 (u28) rfl rfl ?_
      refine Z0 ?_
      refine X3 ?_
      have hS := St.dropA (A := [(b18, .cells (Z7 .i64 z12.1).toArray 188)]) hS
      exact ih0 _ _ ⟨zr13, (x0_own5 ++ [z12.1]), H23, C15, C30, u28, ⟨hpm2, by omega, fun h => absurd h (by simp)⟩, Z2, hS, hi17.drop, ho31, rfl, ff1_0_7⟩
  · exact ⟨a0, ([] : List A8), H, C8, C3, u1, ⟨by simp, hK, fun _ => hnb0⟩, Z2, hS, ho9, ho4, rfl, rfl⟩
  · rintro f2_0 w2_0 ⟨y0_own5, H2_0, Cy0_own10, Cy0_own5, uy0_own5, ⟨hpm, hnb⟩, Z2, hS, hoy0_own10, hoy0_own5, ff2_0_3⟩
    obtain ⟨b, c, cs, rfl, h2, h3, h4, rfl, h6⟩ := hnb
    refine Z3 ?_
    refine Z1 ?_
    refine Z4 _ (by exact ff2_0_3) rfl ?_
    have hS := hS.dropA
    have hll := hpm.length_eq
    rw [List.length_map] at hll
    have hnd : y0_own5.Nodup := hpm.nodup_iff.2 (Zw1 hs0.srt)
    refine X0 (vs := #[.slice (some ⟨b, 0, none⟩) y0_own5.length c, .func (.func 221) #[] #[]]) Tryz.call253 (T0 rfl rfl) rfl (Wa2 h2 h3 h4 h6 hS (fun a ha => Xn6 hok a (hpm.mem_iff.1 ha)) (by omega) hnd) ?_
    rintro e3 w3 ⟨rfl, ys, C4, hp5, hsr, hS, ho5⟩
    refine ⟨_, rfl, ?_⟩
    refine Z0 ?_
    refine Z3 ?_
    refine Z1 ?_
    refine Z4 _ (by exact ff2_0_3) rfl ?_
    refine Z5 _ rfl rfl ?_
    refine Z0 ?_
    refine Y9 (vs := [.slice (some ⟨b, 0, none⟩) y0_own5.length c]) Tryz.func177 ⟨rfl, trivial⟩ ?_
    obtain ⟨H32, sb33, hS, hf34⟩ := ho5.freeze hS
    have Z2 := Z2.trans sb33
    have he := Wa5 hs0.srt (hp5.trans hpm) hsr
    rw [he] at hf34
    exact ⟨_, _, rfl, Z2, hS, hf34⟩
def N1 (K : Nat) (a0 : (List Int)) (a1 : MpT) (a2 : MpT) : Nat → Int → MpT → Option (Ex MpT (MpT))
 | 0, _, _ => none
 | k + 1, a3, a5 => (if a3 < (a1.length : Int) then ((Zj4 K a0 ((rd a1 a3).1, (rd a1 a3).2) a2).bind fun d2 => ((Zd0 K a5 d2 1).bind fun c8 => N1 K a0 a1 a2 k (a3 + 1) c8)) else some (.go a5))
def G0 (K : Nat) (a0 : (List Int)) (a1 : MpT) (a2 : MpT) : Option MpT := ((N1 K a0 a1 a2 K 0 ([] : List (A8 × Int))).bind (Ex.elim (fun r => some r) (fun s => (fun (a7 : MpT) => some a7) s)))
theorem Zj5 {K : Nat} {a0 : (List Int)} {a1 : MpT} {a2 : MpT} {r : MpT} (q0 : G0 K a0 a1 a2 = some r) {H : FH} {w : World} {L : OL} {s0 : Value} {s1 : Value} {s2 : Value} (c0 : Y2 (Y8 .i64) H s0 a0) (b2 : Y2 yT H s1 a1) (b3 : Y2 yT H s2 a2) (hS : St H w L) :
 Calls Tryz.prog 171 #[s0, vA ([s1]), vA ([s2])] w (S3 (fun v G => (R.agg (W0 yT)).p G v r) H L) := by
 have Z2 := Sub.refl H
 refine X2 Tryz.func171 rfl Tryz.ntmps171 rfl ?_
 unfold G0 at q0
 refine Z3 (Z1 ?_)
 refine S5 (v := vA ([s1])) ([s1]).toArray rfl rfl hS rfl ?_
 intro b1 w2 hS
 refine S5 (v := vA ([s2])) ([s2]).toArray rfl rfl hS rfl ?_
 intro b4 w5 hS
 refine V0 (z := vA ([vN])) ([vN]).toArray Ze9.zero rfl hS rfl ?_
 intro b7 w8 hS
 refine Z0 (Z3 (Z1 ?_))
 refine Q6 (vA ([vN])) Yg4 rfl ?_
 refine V0 (z := vA ([vN])) ([vN]).toArray Ze9.zero rfl hS rfl ?_
 intro d1 l3 hS
 refine X8 (v := vA ([vN])) (vs := ([vN]).toArray) (cs := ([vN]).toArray) T3 rfl rfl rfl hS rfl (S2 rfl) rfl ?_
 intro l4 hS
 refine Z0 (Z3 (Z3 (Z1 (Z5 (vI 0) rfl rfl (Z0 (Y7 ?_))))))
 have d8 : Y2 yT H (.slice none 0 0) ([] : List (A8 × Int)) := Y2.nil
 obtain ⟨d9, a8, e0⟩ := bind_some q0
 refine W7 (id := 0) (fun k f w => ∃ (a3 : Int) (a5 : MpT) (H1 : FH) (a4 : Value), N1 K a0 a1 a2 k a3 a5 = some d9 ∧ Sub H H1 ∧ St H1 w ([(d1, cA ([a4]) 47)] ++ ([(b7, cA ([vN]) 47)] ++ ([(b4, cA ([s2]) 47)] ++ ([(b1, cA ([s1]) 47)] ++ L)))) ∧ 0 ≤ a3 ∧ Y2 yT H1 a4 a5 ∧ Y2 (Y8 .i64) H1 s0 a0 ∧ Y2 yT H1 s1 a1 ∧ Y2 yT H1 s2 a2 ∧ ev f (.tmp 0) = s0 ∧ ev f (.tmp 4) = vP b1 ∧ ev f (.tmp 5) = vP b4 ∧ ev f (.tmp 6) = vP b7 ∧ ev f (.tmp 7) = vP d1 ∧ ev f (.tmp 8) = vI a3) (fun f w => ∃ (a7 : MpT) (H1 : FH) (a6 : Value), d9 = .go a7 ∧ Sub H H1 ∧ St H1 w ([(d1, cA ([a6]) 47)] ++ ([(b7, cA ([vN]) 47)] ++ ([(b4, cA ([s2]) 47)] ++ ([(b1, cA ([s1]) 47)] ++ L)))) ∧ Y2 yT H1 a6 a7 ∧ Y2 yT H1 s1 a1 ∧ Y2 yT H1 s2 a2 ∧ ev f (.tmp 6) = vP b7 ∧ ev f (.tmp 7) = vP d1) rfl ?_ ?_ K ?_ ?_
 rintro f w ⟨a3, a5, H1, a4, a8, _⟩
 rw [N1] at a8; cases a8
 rintro k h5 h6 g8 g9 ⟨a3, a5, f2, a4, a8, Z2, hS, h0, a9, c0, b2, b3, c3, b6, c4, c5, b8, b9⟩
 rw [N1] at a8
 refine Z3 (Z3 (Z1 (Z4 (vI a3) (by exact b9) rfl (Y3 U4 (by exact b6) rfl ?_))))
 refine Y4 (s1) Q1 rfl (hS.get (mR (mR (mR mL)))) rfl rfl ?_
 have h7 := b2.bound
 refine W6 R2 rfl b2 rfl ?_
 refine U2 (k := .i64) (a := a3) (b := (a1.length : Int)) rfl rfl rfl (Z0 ?_)
 by_cases c9 : a3 < (a1.length : Int)
 rw [if_pos c9] at a8
 refine Y0 (bT c9 rfl) (Y6 (Z3 (Y7 ?_)))
 obtain ⟨h1, h2, h8, l5, _, f3, d3, ⟨_, _, rfl, rfl, rfl⟩, f4⟩ := b2.elem (i := a3) (by omega) (by omega)
 obtain ⟨d2, e5, a8⟩ := bind_some a8
 obtain ⟨c8, e6, a8⟩ := bind_some a8
 refine U0 10 (Q5 [(17, MP.eq (vA ([a4]))), (18, MP.eq (s0)), (19, MP.eq (vP b1)), (20, MP.eq (s1)), (21, MP.eq (vI a3)), (22, MP.eq (Value.pointer (some ⟨h1, h2, none⟩))), (23, MP.eq (vA (Z7 .u8 ((rd a1 a3).1) ++ [vI ((rd a1 a3).2)]))), (24, MP.eq (vA ([s2]))), (25, MP.rep (R.agg (W0 yT)) (d2)), (26, MP.rep (R.agg (W0 yT)) (c8))]) [] mixed rfl rfl rfl hS (Z6 rfl ?_ (Z6 rfl ?_ (Z6 rfl ?_ (Z6 rfl ?_ (Z6 rfl ?_ (Z6 rfl ?_ (Z6 rfl ?_ (Z6 rfl ?_ (Z6 rfl ?_ (Z6 rfl ?_ U5)))))))))) ?_
 intro l6 l7 l9 m0 h9 hS f5 i0 hcq
 refine W1 T3 (evT (f5 7 rfl) b8) (hS.get (mR mL)) rfl rfl ?_
 exact qn (.refl _) rfl hS rfl
 intro m1 m2 m3 m4 i1 hS f6 i2 hcq
 refine Z4 (s0) (evT (f6 0 rfl) c3) rfl ?_
 exact qn (.refl _) rfl hS rfl
 intro m5 m6 m7 m8 i3 hS f7 i4 hcq
 refine Y3 U4 (evT (f7 4 rfl) b6) rfl ?_
 exact qn (.refl _) rfl hS rfl
 intro m9 n0 n1 n2 i5 hS i6 f8 hcq
 refine Y4 (s1) Q1 (eM (f8 2 19 rfl rfl)) (hS.get (mR (mR (mR (mR mL))))) rfl rfl ?_
 exact qn (.refl _) rfl hS rfl
 intro n3 n4 n5 n6 i7 hS f9 i8 hcq
 refine Z4 (vI a3) (evT (f9 8 rfl) b9) rfl ?_
 exact qn (.refl _) rfl hS rfl
 intro n7 n8 n9 o0 i9 hS j0 e1 hcq
 refine W3 R2 rfl (eM (e1 3 20 rfl rfl)) f3 (eM (e1 4 21 rfl rfl)) (by omega) (by omega) rfl ?_
 exact qn (.refl _) rfl hS rfl
 intro o1 o2 o3 o4 g0 hS j1 g1 hcq
 have d3 := g0.1 _ _ d3
 refine V4 (Z7 .u8 ((rd a1 a3).1) ++ [vI ((rd a1 a3).2)]) Zq4 (eM (g1 5 22 rfl rfl)) (hS.froz _ _ d3) rfl f4 rfl ?_
 exact qn (.refl _) rfl hS rfl
 intro o5 o6 o7 o8 j2 hS g2 j3 hcq
 refine W1 T3 (evT (g2 5 rfl) c4) (hS.get (mR (mR (mR mL)))) rfl rfl ?_
 exact qn (.refl _) rfl hS rfl
 intro o9 p0 p1 p2 e2 hS j4 d4 hcq
 have c0 := c0.mono e2
 have b3 := b3.mono e2
 refine X0 Tryz.call251 (F9 (eM (d4 1 18 rfl rfl)) (eM (d4 6 23 rfl rfl)) (eM (d4 7 24 rfl rfl))) rfl (Yi0 e5 c0 b3 hS) ?_
 rintro j5 j6 ⟨g3, j7, rfl, e7, hS, e8⟩
 refine ⟨g3, rfl, ?_⟩
 exact qn e7 rfl hS e8
 intro j8 j9 k0 k1 e9 hS h4 d5 hcq
 have a9 := a9.mono e9
 obtain ⟨k2, g4, ⟨_, rfl, ⟨h3, rfl, d6⟩⟩⟩ := gvR (d5 8 25 rfl rfl)
 refine X0 Tryz.call143 (F9 (eM (d5 0 17 rfl rfl)) g4 rfl) rfl (Zr0 e6 a9 d6 hS) ?_
 rintro k3 k4 ⟨g5, k5, rfl, f0, hS, d0⟩
 refine ⟨g5, rfl, ?_⟩
 have d0 := ((R.agg (W0 yT))).mono (Zr3 _ _) d0
 exact qn f0 rfl hS d0
 intro k6 g6 e3 c1 hS b0 f1 hcq
 have hS : St e3 g6 ([(d1, cA ([a4]) 47)] ++ ([(b7, cA ([vN]) 47)] ++ ([(b4, cA ([s2]) 47)] ++ ([(b1, cA ([s1]) 47)] ++ L)))) := hS
 have Z2 := Z2.trans c1
 have c0 := c0.mono c1
 have b2 := b2.mono c1
 have b3 := b3.mono c1
 have e4 := evT (b0 7 rfl) b8
 obtain ⟨k7, g7, ⟨_, rfl, ⟨c2, rfl, c6⟩⟩⟩ := gvR (f1 9 26 (by decide) rfl)
 refine X8 (v := vA ([c2])) (vs := ([c2]).toArray) (cs := ([a4]).toArray) T3 (by exact e4) (by exact g7) rfl hS rfl (S2 c6.isOne) rfl ?_
 intro k8 hS
 refine Z0 (X3 (Z1 (Z4 (vI a3) (by exact (evT (b0 8 rfl) b9)) rfl ?_)))
 refine W8 (a3 + 1) rfl rfl (IntWalk.i64_in _ (by omega)) rfl (Z5 (vI (a3 + 1)) rfl rfl (Z0 ?_))
 exact g8 _ _ ⟨(a3 + 1), c8, e3, c2, a8, Z2, hS, (by omega), c6, c0, b2, b3, (evT (b0 0 rfl) c3), (evT (b0 4 rfl) b6), (evT (b0 5 rfl) c4), (evT (b0 6 rfl) c5), e4, rfl⟩
 rw [if_neg c9] at a8
 refine Z9 (bF c9 rfl) ?_
 refine W4 rfl ?_
 have hz := Option.some.inj a8
 subst hz
 exact g9 _ _ ⟨a5, f2, a4, rfl, Z2, hS, a9, b2, b3, c5, b8⟩
 exact ⟨0, ([] : List (A8 × Int)), H, (vN), a8, Z2, hS, (by omega), d8, c0, b2, b3, rfl, rfl, rfl, rfl, rfl, rfl⟩
 rintro k9 l0 ⟨a7, l1, a6, rfl, Z2, hS, b5, b2, b3, c7, d7⟩
 dsimp only [Ex.elim] at e0
 refine Z3 (Z1 ?_)
 refine W1 T3 (by exact d7) (hS.get mL) rfl rfl ?_
 have hS := hS.perm U1
 refine X8 (v := vA ([a6])) (vs := ([a6]).toArray) (cs := ([vN]).toArray) T3 (by exact c7) rfl rfl hS rfl (S2 b5.isOne) rfl ?_
 intro l2 hS
 have hS := hS.perm U1.symm
 refine Z0 ?_
 refine Y9 (vs := [vA ([a6])]) Tryz.func171 ⟨⟨_, (by exact c7), U6 T3 (hS.get (mR mL)) rfl⟩, trivial⟩ ?_
 have hz := Option.some.inj e0
 subst hz
 exact ⟨_, _, rfl, Z2, (St.dropA (St.dropA (St.dropA (St.dropA hS)))), ⟨_, rfl, ⟨_, rfl, b5⟩⟩⟩
def D0 (K : Nat) (a0 : (List MpT)) : Nat → Int → Int → Option (Ex Int (Int))
 | 0, _, _ => none
 | k + 1, a5, a3 => (if a3 < (a0.length : Int) then ((Zn0 K (rd a0 a3) a5).bind fun r6 => (if r6 < 0 then some (.ret (-1)) else D0 K a0 k r6 (a3 + 1))) else some (.go a5))
def Zp4 (K : Nat) (a0 : (List MpT)) (a1 : Int) : Option Int := (if (IntKind.i64.wrap (a1 - (a0.length : Int))) < 0 then some (-1) else ((D0 K a0 K (IntKind.i64.wrap (a1 - (a0.length : Int))) 0).bind (Ex.elim (fun r => some r) (fun s => (fun (a6 : Int) => some a6) s))))
theorem Ym2 {K : Nat} {a0 : (List MpT)} {a1 : Int} {r : Int} (q0 : Zp4 K a0 a1 = some r) {H : FH} {w : World} {L : OL} {s0 : Value} (a7 : Y2 (W0 yT) H s0 a0) (hS : St H w L) :
 Calls Tryz.prog 33 #[s0, vI a1] w (S3 (fun v G => (R.int .i64).p G v r) H L) := by
 have Z2 := Sub.refl H
 refine X2 Tryz.func33 rfl Tryz.ntmps33 rfl ?_
 unfold Zp4 at q0
 refine Z3 (Z1 (Z5 (vI 0) rfl rfl (Z0 (Z3 (Z1 (Z4 (vI a1) rfl rfl (Z4 (s0) rfl rfl ?_)))))))
 have d4 := a7.bound
 refine W6 Yt3 rfl a7 rfl ?_
 refine Zs6 (IntKind.i64.wrap (a1 - (a0.length : Int))) rfl rfl rfl rfl (Z5 (vI (IntKind.i64.wrap (a1 - (a0.length : Int)))) rfl rfl (Z0 (Z3 (Z3 (Z1 (Z4 (vI (IntKind.i64.wrap (a1 - (a0.length : Int)))) rfl rfl ?_))))))
 refine U2 (k := .i64) (a := (IntKind.i64.wrap (a1 - (a0.length : Int)))) (b := 0) rfl rfl rfl (Z0 ?_)
 by_cases b2 : (IntKind.i64.wrap (a1 - (a0.length : Int))) < 0
 rw [if_pos b2] at q0
 refine Y0 (bT b2 rfl) (Z3 (Z1 (Z5 (vI (-1)) rfl rfl (Z0 ?_))))
 refine Y9 (vs := [vI (-1)]) Tryz.func33 ⟨rfl, trivial⟩ ?_
 have hz := Option.some.inj q0
 subst hz
 exact ⟨_, _, rfl, Z2, hS, rfl⟩
 rw [if_neg b2] at q0
 refine Z9 (bF b2 rfl) (Y6 (Z3 (Z3 (Z1 (Z5 (vI 0) rfl rfl (Z0 (Y7 ?_)))))))
 obtain ⟨b7, a4, b1⟩ := bind_some q0
 refine W7 (id := 0) (fun k f w => ∃ (a5 : Int) (a3 : Int) (H1 : FH), D0 K a0 k a5 a3 = some b7 ∧ Sub H H1 ∧ St H1 w (L) ∧ 0 ≤ a3 ∧ Y2 (W0 yT) H1 s0 a0 ∧ ev f (.tmp 0) = s0 ∧ ev f (.tmp 1) = vI a5 ∧ ev f (.tmp 5) = vI a3) (fun f w => ∃ (a6 : Int) (H1 : FH), b7 = .go a6 ∧ Sub H H1 ∧ St H1 w (L) ∧ ev f (.tmp 1) = vI a6) rfl ?_ ?_ K ?_ ?_
 rintro f w ⟨a5, a3, H1, a4, _⟩
 rw [D0] at a4; cases a4
 rintro k c9 d0 c2 c3 ⟨a5, a3, c0, a4, Z2, hS, c4, a7, a8, b0, a9⟩
 rw [D0] at a4
 refine Z3 (Z3 (Z1 (Z4 (vI a3) (by exact a9) rfl (Z4 (s0) (by exact a8) rfl ?_))))
 have d5 := a7.bound
 refine W6 Yt3 rfl a7 rfl ?_
 refine U2 (k := .i64) (a := a3) (b := (a0.length : Int)) rfl rfl rfl (Z0 ?_)
 by_cases b3 : a3 < (a0.length : Int)
 rw [if_pos b3] at a4
 refine Y0 (bT b3 rfl) (Y6 (Z3 (Y7 (Z3 (Z1 (Z4 (s0) (by exact a8) rfl (Z4 (vI a3) (by exact a9) rfl ?_)))))))
 obtain ⟨b5, o5, d6, E5, _, c5, c6, ⟨c1, rfl, b8⟩, c7⟩ := a7.elem (i := a3) (by omega) (by omega)
 refine W3 Yt3 rfl rfl c5 rfl (by omega) (by omega) rfl ?_
 refine V4 ([c1]) Wd2 rfl (hS.froz _ _ c6) rfl c7 rfl (Z4 (vI a5) (by exact b0) rfl ?_)
 obtain ⟨r6, c8, a4⟩ := bind_some a4
 refine X0 Tryz.call27 (T0 rfl rfl) rfl (Yo7 c8 b8 hS) ?_
 rintro e6 w7 ⟨_, H6, rfl, b9, hS, rfl⟩
 refine ⟨_, rfl, ?_⟩
 have Z2 := Z2.trans b9
 have a7 := a7.mono b9
 refine Z5 (vI r6) rfl rfl (Z0 (Z3 (Z1 (Z4 (vI r6) rfl rfl ?_))))
 refine U2 (k := .i64) (a := r6) (b := 0) rfl rfl rfl (Z0 ?_)
 by_cases b4 : r6 < 0
 rw [if_pos b4] at a4
 refine Y0 (bT b4 rfl) (Z3 (Z1 (Z5 (vI (-1)) rfl rfl (Z0 ?_))))
 refine Y9 (vs := [vI (-1)]) Tryz.func33 ⟨rfl, trivial⟩ ?_
 have hz := Option.some.inj a4
 subst hz
 dsimp only [Ex.elim] at b1
 have hz := Option.some.inj b1
 subst hz
 exact ⟨_, _, rfl, Z2, hS, rfl⟩
 rw [if_neg b4] at a4
 refine Z9 (bF b4 rfl) (Y6 (X3 (Z1 (Z4 (vI a3) (by exact a9) rfl ?_))))
 refine W8 (a3 + 1) rfl rfl (IntWalk.i64_in _ (by omega)) rfl (Z5 (vI (a3 + 1)) rfl rfl (Z0 ?_))
 exact c2 _ _ ⟨r6, (a3 + 1), H6, a4, Z2, hS, (by omega), a7, a8, rfl, rfl⟩
 rw [if_neg b3] at a4
 refine Z9 (bF b3 rfl) ?_
 refine W4 rfl ?_
 have hz := Option.some.inj a4
 subst hz
 exact c3 _ _ ⟨a5, c0, rfl, Z2, hS, b0⟩
 exact ⟨(IntKind.i64.wrap (a1 - (a0.length : Int))), 0, H, a4, Z2, hS, (by omega), a7, rfl, rfl, rfl⟩
 rintro d1 d2 ⟨a6, d3, rfl, Z2, hS, b6⟩
 dsimp only [Ex.elim] at b1
 refine Z3 (Z1 (Z4 (vI a6) (by exact b6) rfl (Z5 (vI a6) rfl rfl (Z0 ?_))))
 refine Y9 (vs := [vI a6]) Tryz.func33 ⟨rfl, trivial⟩ ?_
 have hz := Option.some.inj b1
 subst hz
 exact ⟨_, _, rfl, Z2, hS, rfl⟩
def D2 (K : Nat) (a0 : MpT) : Nat → Int → MpT → Option (Ex MpT (MpT))
 | 0, _, _ => none
 | k + 1, a1, a3 => (if a1 < (a0.length : Int) then ((Zm9 K ((rd a0 a1).1, (rd a0 a1).2)).bind fun b3 => (if a1 < (a3.length : Int) then D2 K a0 k (a1 + 1) (a3.set (a1).toNat (b3.1, b3.2)) else none)) else some (.go a3))
def Zk7 (K : Nat) (a0 : MpT) : Option MpT := (if (a0.length : Int) ≤ 1099511627776 then ((D2 K a0 K 0 (List.replicate ((a0.length : Int)).toNat (((fun _ => 0), 0) : (A8 × Int)))).bind (Ex.elim (fun r => some r) (fun s => (fun (a8 : MpT) => some a8) s))) else none)
theorem Ym5 {K : Nat} {a0 : MpT} {r : MpT} (q0 : Zk7 K a0 = some r) {H : FH} {w : World} {L : OL} {s0 : Value} (b1 : Y2 yT H s0 a0) (hS : St H w L) :
 Calls Tryz.prog 108 #[s0] w (S3 (fun v G => (R.sl yT).p (G.new H) v r) H L) := by
 have Z2 := Sub.refl H
 refine X2 Tryz.func108 rfl Tryz.ntmps108 rfl ?_
 unfold Zk7 at q0
 refine Z3 (Z1 (Z5 (vN) rfl rfl (Z0 (Z3 (Z1 (Z4 (s0) rfl rfl ?_))))))
 have e6 := b1.bound
 refine W6 Xk8 rfl b1 rfl ?_
 obtain ⟨e7, q0⟩ := gd q0
 refine Yk1 (τ := yT) (((fun _ => 0), 0) : (A8 × Int)) Yu5 rfl rfl rfl (fun _ => ⟨_, _, rfl, rfl, rfl⟩) (by omega) (by omega) hS rfl ?_
 intro u3 w4 C5 d1 hS
 refine Z5 (u3) rfl rfl (Z0 (Z3 (Z3 (Z1 (Z5 (vI 0) rfl rfl (Z0 (Y7 ?_)))))))
 obtain ⟨c1, a6, c2⟩ := bind_some q0
 refine W7 (id := 0) (fun k f w => ∃ (a1 : Int) (a3 : MpT) (H1 : FH) (a9 : OL) (a4 : Value), D2 K a0 k a1 a3 = some c1 ∧ Sub H H1 ∧ St H1 w (a9 ++ L) ∧ 0 ≤ a1 ∧ V1 yT 76 H1 a4 a3 a9 ∧ Y2 yT H1 s0 a0 ∧ ev f (.tmp 0) = s0 ∧ ev f (.tmp 3) = a4 ∧ ev f (.tmp 4) = vI a1) (fun f w => ∃ (a8 : MpT) (H1 : FH) (b2 : OL) (a5 : Value), c1 = .go a8 ∧ Sub H H1 ∧ St H1 w (b2 ++ L) ∧ V1 yT 76 H1 a5 a8 b2 ∧ ev f (.tmp 3) = a5) rfl ?_ ?_ K ?_ ?_
 rintro f w ⟨a1, a3, H1, a9, a4, a6, _⟩
 rw [D2] at a6; cases a6
 rintro k d8 d9 d2 d3 ⟨a1, a3, c4, a9, a4, a6, Z2, hS, d4, a7, b1, b4, b5, b0⟩
 rw [D2] at a6
 refine Z3 (Z3 (Z1 (Z4 (vI a1) (by exact b0) rfl (Z4 (s0) (by exact b4) rfl ?_))))
 have e8 := b1.bound
 refine W6 Xk8 rfl b1 rfl ?_
 refine U2 (k := .i64) (a := a1) (b := (a0.length : Int)) rfl rfl rfl (Z0 ?_)
 by_cases b9 : a1 < (a0.length : Int)
 rw [if_pos b9] at a6
 refine Y0 (bT b9 rfl) (Y6 (Z3 (Y7 (Z1 (Z4 (a4) (by exact b5) rfl (Z4 (vI a1) (by exact b0) rfl (Z4 (s0) (by exact b4) rfl (Z4 (vI a1) (by exact b0) rfl ?_))))))))
 obtain ⟨e9, f0, e0, f1, _, c5, c6, ⟨_, _, rfl, rfl, rfl⟩, c7⟩ := b1.elem (i := a1) (by omega) (by omega)
 refine W3 Xk8 rfl rfl c5 rfl (by omega) (by omega) rfl ?_
 refine V4 (Z7 .u8 ((rd a0 a1).1) ++ [vI ((rd a0 a1).2)]) Wi5 rfl (hS.froz _ _ c6) rfl c7 rfl ?_
 obtain ⟨b3, c8, a6⟩ := bind_some a6
 refine X0 Tryz.call200 (M0 rfl) rfl (Yn7 c8  hS) ?_
 rintro f2 f3 ⟨f4, d5, rfl, b8, hS, ⟨_, rfl, ⟨_, _, rfl, rfl, rfl⟩⟩⟩
 refine ⟨_, rfl, ?_⟩
 have Z2 := Z2.trans b8
 have b1 := b1.mono b8
 have a7 := a7.mono b8
 obtain ⟨e1, a6⟩ := gd a6
 obtain ⟨f5, f6, c3⟩ := a7.some (i := a1) (by omega) (by omega)
 refine Zt4 R2 (Eq.trans rfl c3) rfl (by omega) (by omega) rfl ?_
 refine Zs7 (τ := yT) (v := a4) (u := vA (Z7 .u8 b3.1 ++ [vI b3.2])) (b3.1, b3.2) (i := a1) rfl Zq4 c3 a7 hS rfl rfl (by omega) (by omega) ⟨_, _, rfl, rfl, rfl⟩ ?_
 intro f7 d6 c9 hS
 refine Z0 (X3 (Z1 (Z4 (vI a1) (by exact b0) rfl ?_)))
 refine W8 (a1 + 1) rfl rfl (IntWalk.i64_in _ (by omega)) rfl (Z5 (vI (a1 + 1)) rfl rfl (Z0 ?_))
 exact d2 _ _ ⟨(a1 + 1), (a3.set (a1).toNat (b3.1, b3.2)), d5, d6, a4, a6, Z2, hS, (by omega), c9, b1, b4, b5, rfl⟩
 rw [if_neg b9] at a6
 refine Z9 (bF b9 rfl) ?_
 refine W4 rfl ?_
 have hz := Option.some.inj a6
 subst hz
 exact d3 _ _ ⟨a3, c4, a9, a4, rfl, Z2, hS, a7, b5⟩
 exact ⟨0, (List.replicate ((a0.length : Int)).toNat (((fun _ => 0), 0) : (A8 × Int))), H, C5, u3, a6, Z2, hS, (by omega), d1, b1, rfl, rfl, rfl⟩
 rintro e2 e3 ⟨a8, e4, b2, a5, rfl, Z2, hS, b7, c0⟩
 dsimp only [Ex.elim] at c2
 refine Z3 (Z1 (Z4 (a5) (by exact c0) rfl (Z5 (a5) rfl rfl (Z0 ?_))))
 refine Y9 (vs := [a5]) Tryz.func108 ⟨rfl, trivial⟩ ?_
 obtain ⟨d7, d0, hS, b6⟩ := V1.freezeF (τ := yT) (H0 := H) b7 hS Z2
 have e5 := Y2.old b6
 have b6 : RdF yT H d7 a5 a8 := b6
 have Z2 := Z2.trans d0
 have hz := Option.some.inj c2
 subst hz
 exact ⟨_, _, rfl, Z2, hS, b6⟩
def Zb0 (K : Nat) (a0 : ((List Int) × (List MpT))) (a1 : Int) : Option Int := ((A0 K a0.1 a1).bind fun r4 => (if r4 < 0 then some (-1) else ((Zg8 K a0.2 r4).bind fun r7 => (if r7 < 0 then some (-1) else some r7))))
theorem Zr7 {K : Nat} {a0 : ((List Int) × (List MpT))} {a1 : Int} {r : Int} (q0 : Zb0 K a0 a1 = some r) {H : FH} {w : World} {L : OL} {s0 : Value} {s1 : Value} (a7 : Y2 (Y8 .i64) H s0 a0.1) (a5 : Y2 (W0 yT) H s1 a0.2) (hS : St H w L) :
 Calls Tryz.prog 21 #[vA ([s0] ++ [s1]), vI a1] w (S3 (fun v G => (R.int .i64).p G v r) H L) := by
 have Z2 := Sub.refl H
 refine X2 Tryz.func21 rfl Tryz.ntmps21 rfl ?_
 unfold Zb0 at q0
 refine Z3 (Z1 ?_)
 refine S5 (v := vA ([s0] ++ [s1])) ([s0] ++ [s1]).toArray rfl rfl hS rfl ?_
 intro b1 w2 hS
 refine Z5 (vI 0) rfl rfl (Z0 (Z3 (Z1 (Y3 R5 rfl rfl ?_))))
 refine Y4 (s0) J7 rfl (hS.get mL) rfl rfl (Z4 (vI a1) rfl rfl ?_)
 obtain ⟨r4, a8, q0⟩ := bind_some q0
 refine X0 Tryz.call26 (T0 rfl rfl) rfl (Zm4 a8 a7 hS) ?_
 rintro e4 w5 ⟨_, H4, rfl, a6, hS, rfl⟩
 refine ⟨_, rfl, ?_⟩
 have Z2 := Z2.trans a6
 have a5 := a5.mono a6
 refine Z5 (vI r4) rfl rfl (Z0 (Z3 (Z3 (Z1 (Z4 (vI r4) rfl rfl ?_)))))
 refine U2 (k := .i64) (a := r4) (b := 0) rfl rfl rfl (Z0 ?_)
 by_cases a3 : r4 < 0
 rw [if_pos a3] at q0
 refine Y0 (bT a3 rfl) (Z3 (Z1 (Z5 (vI (-1)) rfl rfl (Z0 ?_))))
 refine Y9 (vs := [vI (-1)]) Tryz.func21 ⟨rfl, trivial⟩ ?_
 have hz := Option.some.inj q0
 subst hz
 exact ⟨_, _, rfl, Z2, (St.dropA hS), rfl⟩
 rw [if_neg a3] at q0
 refine Z9 (bF a3 rfl) (Y6 (Z3 (Z1 (Y3 M7 rfl rfl ?_))))
 refine Y4 (s1) Ze3 rfl (hS.get mL) rfl rfl (Z4 (vI r4) rfl rfl ?_)
 obtain ⟨r7, a9, q0⟩ := bind_some q0
 refine X0 Tryz.call72 (T0 rfl rfl) rfl (Yh2 a9 a5 hS) ?_
 rintro e7 w8 ⟨_, H7, rfl, b0, hS, rfl⟩
 refine ⟨_, rfl, ?_⟩
 have Z2 := Z2.trans b0
 refine Z5 (vI r7) rfl rfl (Z0 (Z3 (Z3 (Z1 (Z4 (vI r7) rfl rfl ?_)))))
 refine U2 (k := .i64) (a := r7) (b := 0) rfl rfl rfl (Z0 ?_)
 by_cases a4 : r7 < 0
 rw [if_pos a4] at q0
 refine Y0 (bT a4 rfl) (Z3 (Z1 (Z5 (vI (-1)) rfl rfl (Z0 ?_))))
 refine Y9 (vs := [vI (-1)]) Tryz.func21 ⟨rfl, trivial⟩ ?_
 have hz := Option.some.inj q0
 subst hz
 exact ⟨_, _, rfl, Z2, (St.dropA hS), rfl⟩
 rw [if_neg a4] at q0
 refine Z9 (bF a4 rfl) (Y6 (Z3 (Z1 (Z4 (vI r7) rfl rfl (Z5 (vI r7) rfl rfl (Z0 ?_))))))
 refine Y9 (vs := [vI r7]) Tryz.func21 ⟨rfl, trivial⟩ ?_
 have hz := Option.some.inj q0
 subst hz
 exact ⟨_, _, rfl, Z2, (St.dropA hS), rfl⟩
def Zd5 (K : Nat) (a0 : Int) : Option MpT := (if 0 ≤ a0 then (if a0 < 8 then ((L0 K (T7 (fun _ => 0) a0 1) 1).bind fun a4 => some a4) else none) else none)
theorem Yb7 {K : Nat} {a0 : Int} {r : MpT} (q0 : Zd5 K a0 = some r) {H : FH} {w : World} {L : OL} (hS : St H w L) :
 Calls Tryz.prog 169 #[vI a0] w (S3 (fun v G => (R.agg (W0 yT)).p G v r) H L) := by
 have Z2 := Sub.refl H
 refine X2 Tryz.func169 rfl Tryz.ntmps169 rfl ?_
 unfold Zd5 at q0
 refine Z3 (Z1 ?_)
 refine V0 (z := vA ([vN])) ([vN]).toArray Ze9.zero rfl hS rfl ?_
 intro b1 w2 hS
 refine Z0 (Z3 (Z1 ?_))
 refine Q6 (vA (Z7 .u8 (fun _ => 0))) Yu8 rfl ?_
 refine V0 (z := vA (Z7 .u8 (fun _ => 0))) (Z7 .u8 (fun _ => 0)).toArray Zy4.zero rfl hS rfl ?_
 intro b4 w5 hS
 refine X8 (v := vA (Z7 .u8 (fun _ => 0))) (vs := (Z7 .u8 (fun _ => 0)).toArray) (cs := (Z7 .u8 (fun _ => 0)).toArray) P9 rfl rfl rfl hS rfl (S4 .u8 (fun _ => 0)) rfl ?_
 intro w7 hS
 refine Z0 (Z3 (Z1 (Z4 (vI a0) rfl rfl ?_)))
 obtain ⟨a7, q0⟩ := gd q0
 obtain ⟨a8, q0⟩ := gd q0
 refine V3 Za9 rfl rfl (by omega) (by omega) rfl ?_
 refine E0 (v := Value.int .u8 1) (cs := (Z7 .u8 (fun _ => 0)).toArray) (cs' := (Z7 .u8 (T7 (fun _ => 0) a0 1)).toArray) ty5 rfl rfl hS rfl (Zs8 rfl) (by simp [Z7, P2]; omega) (Ze1 (by omega) (by omega)) ?_
 intro a9 hS
 refine Z0 (Z3 (Z1 ?_))
 refine W1 P9 rfl (hS.get mL) rfl rfl ?_
 obtain ⟨a4, a5, q0⟩ := bind_some q0
 refine X0 Tryz.call170 (T0 rfl rfl) rfl (Zd4 a5  hS) ?_
 rintro b0 b2 ⟨b3, b5, rfl, a6, hS, ⟨_, rfl, ⟨a1, rfl, a3⟩⟩⟩
 refine ⟨_, rfl, ?_⟩
 have Z2 := Z2.trans a6
 have hS := hS.perm U1
 refine X8 (v := vA ([a1])) (vs := ([a1]).toArray) (cs := ([vN]).toArray) T3 rfl rfl rfl hS rfl (S2 a3.isOne) rfl ?_
 intro b6 hS
 have hS := hS.perm U1.symm
 refine Z0 ?_
 refine Y9 (vs := [vA ([a1])]) Tryz.func169 ⟨⟨_, rfl, U6 T3 (hS.get (mR mL)) rfl⟩, trivial⟩ ?_
 have hz := Option.some.inj q0
 subst hz
 exact ⟨_, _, rfl, Z2, (St.dropA (St.dropA hS)), ⟨_, rfl, ⟨_, rfl, a3⟩⟩⟩
end Go.Proofs.YtfodlhkoafhplaaGreat
