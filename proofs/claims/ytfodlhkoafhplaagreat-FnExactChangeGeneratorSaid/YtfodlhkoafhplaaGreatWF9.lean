/- Walks of functions: each computes its pure function, if that gives a value. -/
import Derived.Test.YtfodlhkoafhplaaGreatWTy
import Derived.Test.YtfodlhkoafhplaaGreatWF6
import Derived.Test.YtfodlhkoafhplaaGreatWF2
import Derived.Test.YtfodlhkoafhplaaGreatWF4
import Derived.Test.YtfodlhkoafhplaaGreatWF3
import Derived.Test.YtfodlhkoafhplaaGreatWF5
import Derived.Test.YtfodlhkoafhplaaGreatWF7
import Derived.Test.YtfodlhkoafhplaaGreatWF8
namespace Go.Proofs.YtfodlhkoafhplaaGreat
open Go
set_option linter.unusedSimpArgs false
set_option linter.unusedVariables false
set_option maxRecDepth 100000
set_option maxHeartbeats 8000000
def Zj8 (K : Nat) (j8 : Int → Option (Ex Bool (Unit))) (a1 : MpT) (a3 : Int) (b0 : Bool) : Option (Ex Bool (Unit)) := (if b0 = true then some (.ret false) else (if 0 < a3 then (if 0 ≤ (IntKind.i64.wrap (a3 - 1)) then (if (IntKind.i64.wrap (a3 - 1)) < (a1.length : Int) then ((Zd3 K ((rd a1 (IntKind.i64.wrap (a3 - 1))).1)).bind fun e1 => ((Zd3 K ((rd a1 a3).1)).bind fun e2 => ((D4 K e1 e2).bind fun b3 => (if 0 ≤ b3 then some (.ret false) else j8 (a3 + 1))))) else none) else none) else j8 (a3 + 1)))
def M1 (K : Nat) (a0 : (List Int)) (a1 : MpT) : Nat → Int → Option (Ex Bool (Unit))
 | 0, _ => none
 | k + 1, a3 => (if a3 < (a1.length : Int) then ((Zi0 K a0 ((rd a1 a3).1)).bind fun c3 => (if c3 = true then ((Zr4 K ((rd a1 a3).2)).bind fun c4 => Zj8 K (M1 K a0 a1 k) a1 a3 (!c4)) else Zj8 K (M1 K a0 a1 k) a1 a3 true)) else some (.go ()))
def Zl6 (K : Nat) (a0 : (List Int)) (a1 : MpT) : Option Bool := (if 400 < (a1.length : Int) then some false else ((M1 K a0 a1 K 0).bind (Ex.elim (fun r => some r) (fun s => some true))))
theorem Zv1 {K : Nat} {a0 : (List Int)} {a1 : MpT} {r : Bool} (q0 : Zl6 K a0 a1 = some r) {H : FH} {w : World} {L : OL} {s0 : Value} {s1 : Value} (a9 : Y3 (X3 .i64) H s0 a0) (a6 : Y3 yT H s1 a1) (hS : St H w L) :
 Calls Tryz.prog 125 #[s0, vA ([s1])] w (T6 (fun v G => R.bool.p G v r) H L) := by
 have Z2 := Sub.refl H
 refine X0 Tryz.func125 rfl Tryz.ntmps125 rfl ?_
 unfold Zl6 at q0
 refine Z3 (Z1 ?_)
 refine T7 (v := vA ([s1])) ([s1]).toArray rfl rfl hS rfl ?_
 intro b1 w2 hS
 refine Z6 (Value.bool false) rfl rfl (Z0 (Z3 (Z3 (Z1 (Y2 V6 rfl rfl ?_)))))
 refine Y4 (s1) R7 rfl (hS.get mL) rfl rfl ?_
 have bl4 := a6.bound
 refine W6 S9 rfl a6 rfl ?_
 refine Zc5 (k := .i64) (a := (a1.length : Int)) (b := 400) rfl rfl rfl (Z0 ?_)
 by_cases e7 : 400 < (a1.length : Int)
 rw [if_pos e7] at q0
 refine Y0 (bT e7 rfl) (Z3 (Z1 (Z6 (Value.bool false) rfl rfl (Z0 ?_))))
 refine Y9 (vs := [Value.bool false]) Tryz.func125 ⟨rfl, trivial⟩ ?_
 have hz := Option.some.inj q0
 subst hz
 exact ⟨_, _, rfl, Z2, (St.dropA hS), rfl⟩
 rw [if_neg e7] at q0
 refine Z9 (bF e7 rfl) (Y6 (Z3 (Z3 (Z1 (Y2 V6 rfl rfl ?_)))))
 refine Y4 (s1) R7 rfl (hS.get mL) rfl rfl ?_
 have bl6 := a6.bound
 refine W6 S9 rfl a6 rfl (Z4 (vI 0) rfl rfl (Z0 (Y7 ?_)))
 obtain ⟨e3, a7, c0⟩ := bind_some q0
 refine W7 (id := 0) (fun k f w => ∃ (a3 : Int) (H1 : FH), M1 K a0 a1 k a3 = some e3 ∧ Sub H H1 ∧ St H1 w ([(b1, cA ([s1]) 47)] ++ L) ∧ 0 ≤ a3 ∧ Y3 (X3 .i64) H1 s0 a0 ∧ Y3 yT H1 s1 a1 ∧ ev f (.tmp 0) = s0 ∧ ev f (.tmp 3) = vP b1 ∧ ev f (.tmp 12) = s1 ∧ ev f (.tmp 13) = vI (a1.length : Int) ∧ ev f (.tmp 14) = vI a3) (fun f w => ∃ (H1 : FH), e3 = .go () ∧ Sub H H1 ∧ St H1 w ([(b1, cA ([s1]) 47)] ++ L) ∧ Y3 yT H1 s1 a1) rfl ?_ ?_ K ?_ ?_
 rintro f w ⟨a3, H1, a7, _⟩
 rw [M1] at a7; cases a7
 rintro k s8 s9 j9 l9 ⟨a3, k1, a7, Z2, hS, l7, a9, a6, c1, c7, b4, b5, b2⟩
 rw [M1] at a7
 refine Z3 (Z1 ?_)
 refine U5 (k := .i64) (a := a3) (b := (a1.length : Int)) (by exact b2) (by exact b5) rfl (Z0 (Z3 ?_))
 by_cases e8 : a3 < (a1.length : Int)
 rw [if_pos e8] at a7
 refine Y0 (bT e8 rfl) (Y6 (Z3 (Y7 (Z3 (Z1 (Z4 (vI a3) (by exact b2) rfl ?_))))))
 obtain ⟨b8, o8, cs8, E8, _, m0, m1, ⟨_, _, rfl, rfl, rfl⟩, m2⟩ := a6.elem (i := a3) (by omega) (by omega)
 refine W3 S9 rfl (by exact b4) m0 (by exact b2) (by omega) (by omega) rfl ?_
 refine V5 (Z7 .u8 ((rd a1 a3).1) ++ [vI ((rd a1 a3).2)]) Zs8 rfl (hS.froz _ _ m1) rfl m2 rfl ?_
 refine W9 (z := vA (Z7 .u8 (fun _ => 0) ++ [vI 0])) (Z7 .u8 (fun _ => 0) ++ [vI 0]).toArray Zy1.zero rfl hS rfl ?_
 intro b9 w10 hS
 refine Z6 (vI a3) rfl rfl ?_
 refine W1 (v := vA (Z7 .u8 ((rd a1 a3).1) ++ [vI ((rd a1 a3).2)])) (vs := (Z7 .u8 ((rd a1 a3).1) ++ [vI ((rd a1 a3).2)]).toArray) (cs := (Z7 .u8 (fun _ => 0) ++ [vI 0]).toArray) Zs8 rfl rfl rfl hS rfl (J6 (S8 .u8 ((rd a1 a3).1)) (S2 rfl)) rfl ?_
 intro w12 hS
 refine Z0 (Z3 (Z3 ?_))
 refine E9 (fun f w => ∃ (b0 : Bool) (H1 : FH), Zj8 K (M1 K a0 a1 k) a1 a3 b0 = some e3 ∧ Sub H H1 ∧ St H1 w ([(b9, cA (Z7 .u8 ((rd a1 a3).1) ++ [vI ((rd a1 a3).2)]) 76)] ++ ([(b1, cA ([s1]) 47)] ++ L)) ∧ Y3 (X3 .i64) H1 s0 a0 ∧ Y3 yT H1 s1 a1 ∧ ev f (.tmp 0) = s0 ∧ ev f (.tmp 3) = vP b1 ∧ ev f (.tmp 5) = vI a3 ∧ ev f (.tmp 6) = vP b9 ∧ ev f (.tmp 12) = s1 ∧ ev f (.tmp 13) = vI (a1.length : Int) ∧ ev f (.tmp 14) = vI a3 ∧ ev f (.tmp 29) = Value.bool b0) ?_ ?_
 rintro fj4 n3 ⟨b0, n4, a5, Z2, hS, a9, a6, e0, c5, c6, f6, c8, c9, d0, d1⟩
 unfold Zj8 at a5
 by_cases d2 : b0 = true
 rw [if_pos d2] at a5
 refine Y0 (Eq.trans (by exact d1) (congrArg Value.bool d2)) (Z3 (Z1 (Z6 (Value.bool false) rfl rfl (Z0 ?_))))
 refine Y9 (vs := [Value.bool false]) Tryz.func125 ⟨rfl, trivial⟩ ?_
 have hz := Option.some.inj a5
 subst hz
 dsimp only [Ex.elim] at c0
 have hz := Option.some.inj c0
 subst hz
 exact ⟨_, _, rfl, Z2, (St.dropA (St.dropA hS)), rfl⟩
 rw [if_neg d2] at a5
 refine Z9 (Eq.trans (by exact d1) (congrArg Value.bool (W2 d2))) (Y6 (Z3 ?_))
 by_cases a4 : 0 < a3
 rw [if_pos a4] at a5
 obtain ⟨n5, a5⟩ := gd a5
 obtain ⟨n6, a5⟩ := gd a5
 obtain ⟨f7, f8, n7, t0, _, g9, d3, ⟨_, _, rfl, rfl, rfl⟩, h0⟩ := a6.elem (i := (IntKind.i64.wrap (a3 - 1))) (by omega) (by omega)
 obtain ⟨e1, h1, a5⟩ := bind_some a5
 obtain ⟨e2, h2, a5⟩ := bind_some a5
 obtain ⟨b3, h3, a5⟩ := bind_some a5
 refine V4 17 (R9 [(30, MP.eq (vI a3)), (31, MP.eq (Value.bool (decide (0 < a3)))), (32, MP.eq (Value.bool (decide (0 < a3)))), (33, MP.eq (vP b1)), (34, MP.eq (s1)), (35, MP.eq (vI a3)), (36, MP.eq (vI (IntKind.i64.wrap (a3 - 1)))), (37, MP.eq (Value.pointer (some ⟨f7, f8, none⟩))), (38, MP.eq (Value.pointer (some ⟨f7, f8 + 0, none⟩))), (39, MP.eq (vA (Z7 .u8 ((rd a1 (IntKind.i64.wrap (a3 - 1))).1)))), (40, MP.eq (vA (Z7 .i64 e1))), (41, MP.eq (vP b9)), (42, MP.eq (vA (Z7 .u8 ((rd a1 a3).1)))), (43, MP.eq (vA (Z7 .i64 e2))), (44, MP.eq (vI b3)), (45, MP.eq (Value.bool (decide (0 ≤ b3)))), (46, MP.eq (Value.bool (decide (0 ≤ b3))))]) [] mixed rfl rfl rfl hS (Z5 rfl ?_ (Z5 rfl ?_ (Z5 rfl ?_ (Z5 rfl ?_ (Z5 rfl ?_ (Z5 rfl ?_ (Z5 rfl ?_ (Z5 rfl ?_ (Z5 rfl ?_ (Z5 rfl ?_ (Z5 rfl ?_ (Z5 rfl ?_ (Z5 rfl ?_ (Z5 rfl ?_ (Z5 rfl ?_ (Z5 rfl ?_ (Z5 rfl ?_ V9))))))))))))))))) ?_
 intro m3 m4 m5 m6 k2 hS e4 k3 hcq
 have f9 := evT (e4 5 rfl) c6
 refine Z4 (vI a3) f9 rfl ?_
 exact qn (.refl _) rfl hS rfl
 intro g0 m7 m8 m9 k4 hS k5 e5 hcq
 have g1 : ev g0 (.tmp 30) = vI a3 := e5 0 30 rfl rfl
 refine Zc5 (k := .i64) (a := a3) (b := 0) g1 rfl rfl ?_
 exact qn (.refl _) rfl hS rfl
 intro g2 n0 n1 n2 k6 hS k7 e6 hcq
 have g3 : ev g2 (.tmp 31) = Value.bool (decide (0 < a3)) := e6 1 31 rfl rfl
 refine Z4 (Value.bool (decide (0 < a3))) g3 rfl ?_
 exact qn (.refl _) rfl hS rfl
 intro f51 w52 H53 X54 t1 hS k8 k9 hcq
 refine Y1 rfl rfl (bT a4 (eM (k9 2 32 rfl rfl))) (Y2 V6 (evT (k8 3 rfl) c5) rfl ?_)
 exact qn (.refl _) rfl hS rfl
 intro f61 w62 H63 X64 t4 hS t5 g4 hcq
 refine Y1 rfl rfl (bT a4 (eM (g4 2 32 rfl rfl))) ?_
 refine Y4 (s1) R7 (eM (g4 3 33 rfl rfl)) (hS.get (mR (mR mL))) rfl rfl ?_
 exact qn (.refl _) rfl hS rfl
 intro f71 w72 H73 X74 t6 hS l0 l1 hcq
 refine Y1 rfl rfl (bT a4 (eM (l1 2 32 rfl rfl))) (Z4 (vI a3) (evT (l0 5 rfl) c6) rfl ?_)
 exact qn (.refl _) rfl hS rfl
 intro f81 w82 H83 X84 t7 hS t8 g5 hcq
 refine Y1 rfl rfl (bT a4 (eM (g5 2 32 rfl rfl))) ?_
 refine Zu4 (IntKind.i64.wrap (a3 - 1)) (eM (g5 5 35 rfl rfl)) rfl rfl rfl ?_
 exact qn (.refl _) rfl hS rfl
 intro t9 u0 u1 u2 n8 hS n9 d4 hcq
 refine Y1 rfl rfl (bT a4 (eM (d4 2 32 rfl rfl))) ?_
 refine W3 S9 rfl (eM (d4 4 34 rfl rfl)) g9 (eM (d4 6 36 rfl rfl)) (by omega) (by omega) rfl ?_
 exact qn (.refl _) rfl hS rfl
 intro u3 u4 u5 u6 o0 hS o1 e9 hcq
 refine Y1 rfl rfl (bT a4 (eM (e9 2 32 rfl rfl))) (Y2 P0 (eM (e9 7 37 rfl rfl)) rfl ?_)
 exact qn (.refl _) rfl hS rfl
 intro u7 u8 u9 v0 h4 hS o2 f0 hcq
 have d3 := h4.1 _ _ d3
 refine Y1 rfl rfl (bT a4 (eM (f0 2 32 rfl rfl))) ?_
 refine V5 (Z7 .u8 ((rd a1 (IntKind.i64.wrap (a3 - 1))).1)) N0 (eM (f0 8 38 rfl rfl)) (hS.froz _ _ d3) rfl (Zf0 ([]) (Z7 .u8 ((rd a1 (IntKind.i64.wrap (a3 - 1))).1)) (([vI ((rd a1 (IntKind.i64.wrap (a3 - 1))).2)])) h0 (Nat.le_of_ble_eq_true rfl)) rfl ?_
 exact qn (.refl _) rfl hS rfl
 intro v1 v2 v3 v4 o3 hS o4 f1 hcq
 refine Y1 rfl rfl (bT a4 (eM (f1 2 32 rfl rfl))) ?_
 refine Y8 Tryz.call176 (Q8 (eM (f1 9 39 rfl rfl))) rfl (Zn9 h1  hS) ?_
 rintro v5 v6 ⟨v7, v8, rfl, h5, hS, ⟨_, rfl, rfl⟩⟩
 refine ⟨_, rfl, ?_⟩
 exact qn h5 rfl hS rfl
 intro v9 w0 w1 w3 o5 hS h6 h7 hcq
 refine Y1 rfl rfl (bT a4 (eM (h7 2 32 rfl rfl))) (Y2 P0 (evT (h6 6 rfl) f6) rfl ?_)
 exact qn (.refl _) rfl hS rfl
 intro w4 w5 w6 w7 o6 hS o7 f2 hcq
 refine Y1 rfl rfl (bT a4 (eM (f2 2 32 rfl rfl))) ?_
 refine V5 (Z7 .u8 ((rd a1 a3).1)) N0 (eM (f2 11 41 rfl rfl)) (hS.get (o := cA (Z7 .u8 ((rd a1 a3).1) ++ [vI ((rd a1 a3).2)]) 76) (mR mL)) rfl (fun j hj => Zj5 ([]) (Z7 .u8 ((rd a1 a3).1)) (([vI ((rd a1 a3).2)])) j hj) rfl ?_
 exact qn (.refl _) rfl hS rfl
 intro w8 w9 x0 x1 o9 hS p0 f3 hcq
 refine Y1 rfl rfl (bT a4 (eM (f3 2 32 rfl rfl))) ?_
 refine Y8 Tryz.call176 (Q8 (eM (f3 12 42 rfl rfl))) rfl (Zn9 h2  hS) ?_
 rintro x2 x3 ⟨x4, x5, rfl, h8, hS, ⟨_, rfl, rfl⟩⟩
 refine ⟨_, rfl, ?_⟩
 exact qn h8 rfl hS rfl
 intro x6 x7 x8 x9 p1 hS p2 d5 hcq
 refine Y1 rfl rfl (bT a4 (eM (d5 2 32 rfl rfl))) ?_
 refine Y8 Tryz.call221 (T0 (eM (d5 10 40 rfl rfl)) (eM (d5 13 43 rfl rfl))) rfl (Zt9 h3  hS) ?_
 rintro y0 y1 ⟨_, y2, rfl, h9, hS, rfl⟩
 refine ⟨_, rfl, ?_⟩
 exact qn h9 rfl hS rfl
 intro y3 y4 y5 y6 p3 hS p4 f4 hcq
 refine Y1 rfl rfl (bT a4 (eM (f4 2 32 rfl rfl))) ?_
 refine Yb5 (k := .i64) (a := b3) (b := 0) (eM (f4 14 44 rfl rfl)) rfl rfl ?_
 exact qn (.refl _) rfl hS rfl
 intro y7 y8 y9 z0 p5 hS p6 f5 hcq
 refine V1 (t := true) (Value.bool (decide (0 ≤ b3))) (bT a4 (eM (f5 2 32 rfl rfl))) ((if_pos rfl).trans (eM (f5 15 45 rfl rfl))) rfl ?_
 exact qn (.refl _) rfl hS rfl
 intro l2 l3 g6 d6 hS b6 i0 hcq
 have hS : St g6 l3 ([(b9, cA (Z7 .u8 ((rd a1 a3).1) ++ [vI ((rd a1 a3).2)]) 76)] ++ ([(b1, cA ([s1]) 47)] ++ L)) := hS
 have Z2 := Z2.trans d6
 have a9 := a9.mono d6
 have a6 := a6.mono d6
 have g7 : ev l2 (.tmp 46) = Value.bool (decide (0 ≤ b3)) := i0 16 46 (by decide) rfl
 refine Z0 ?_
 by_cases c2 : 0 ≤ b3
 rw [if_pos c2] at a5
 refine Y0 (bT c2 (by exact g7)) (Z3 (Z1 (Z6 (Value.bool false) rfl rfl (Z0 ?_))))
 refine Y9 (vs := [Value.bool false]) Tryz.func125 ⟨rfl, trivial⟩ ?_
 have hz := Option.some.inj a5
 subst hz
 dsimp only [Ex.elim] at c0
 have hz := Option.some.inj c0
 subst hz
 exact ⟨_, _, rfl, Z2, (St.dropA (St.dropA hS)), rfl⟩
 rw [if_neg c2] at a5
 refine Z9 (bF c2 (by exact g7)) (Y6 (X2 (Z1 ?_)))
 refine V0 (a3 + 1) (by exact (evT (b6 14 rfl) d0)) rfl (IntWalk.i64_in _ (by omega)) rfl (Z4 (vI (a3 + 1)) rfl rfl (Z0 ?_))
 have hS := St.dropA hS
 exact j9 _ _ ⟨(a3 + 1), g6, a5, Z2, hS, (by omega), a9, a6, (evT (b6 0 rfl) e0), (evT (b6 3 rfl) c5), (evT (b6 12 rfl) c8), (evT (b6 13 rfl) c9), rfl⟩
 rw [if_neg a4] at a5
 refine V4 17 (R9 [(30, MP.eq (vI a3)), (31, MP.eq (Value.bool (decide (0 < a3)))), (32, MP.eq (Value.bool (decide (0 < a3)))), (33, MP.eq (undef)), (34, MP.eq (undef)), (35, MP.eq (undef)), (36, MP.eq (undef)), (37, MP.eq (undef)), (38, MP.eq (undef)), (39, MP.eq (undef)), (40, MP.eq (undef)), (41, MP.eq (undef)), (42, MP.eq (undef)), (43, MP.eq (undef)), (44, MP.eq (undef)), (45, MP.eq (undef)), (46, MP.eq (Value.bool false))]) [] mixed rfl rfl rfl hS (Z5 rfl ?_ (Z5 rfl ?_ (Z5 rfl ?_ (Z5 rfl ?_ (Z5 rfl ?_ (Z5 rfl ?_ (Z5 rfl ?_ (Z5 rfl ?_ (Z5 rfl ?_ (Z5 rfl ?_ (Z5 rfl ?_ (Z5 rfl ?_ (Z5 rfl ?_ (Z5 rfl ?_ (Z5 rfl ?_ (Z5 rfl ?_ (Z5 rfl ?_ V9))))))))))))))))) ?_
 intro m3 m4 m5 m6 k2 hS e4 k3 hcq
 have f9 := evT (e4 5 rfl) c6
 refine Z4 (vI a3) f9 rfl ?_
 exact qn (.refl _) rfl hS rfl
 intro g0 m7 m8 m9 k4 hS k5 e5 hcq
 have g1 : ev g0 (.tmp 30) = vI a3 := e5 0 30 rfl rfl
 refine Zc5 (k := .i64) (a := a3) (b := 0) g1 rfl rfl ?_
 exact qn (.refl _) rfl hS rfl
 intro g2 n0 n1 n2 k6 hS k7 e6 hcq
 have g3 : ev g2 (.tmp 31) = Value.bool (decide (0 < a3)) := e6 1 31 rfl rfl
 refine Z4 (Value.bool (decide (0 < a3))) g3 rfl ?_
 exact qn (.refl _) rfl hS rfl
 intro z1 z2 z3 z4 p7 hS p8 i1 hcq
 refine Z8 rfl rfl (bF a4 (eM (i1 2 32 rfl rfl))) rfl rfl rfl ?_
 exact qn (.refl _) rfl hS rfl
 intro z5 z6 z7 z8 p9 hS q1 i2 hcq
 refine Z8 rfl rfl (bF a4 (eM (i2 2 32 rfl rfl))) rfl rfl rfl ?_
 exact qn (.refl _) rfl hS rfl
 intro z9 a00 a01 a02 q2 hS q3 i3 hcq
 refine Z8 rfl rfl (bF a4 (eM (i3 2 32 rfl rfl))) rfl rfl rfl ?_
 exact qn (.refl _) rfl hS rfl
 intro a03 a04 a05 a06 q4 hS q5 i4 hcq
 refine Z8 rfl rfl (bF a4 (eM (i4 2 32 rfl rfl))) rfl rfl rfl ?_
 exact qn (.refl _) rfl hS rfl
 intro a07 a08 a09 a10 q6 hS q7 i5 hcq
 refine Z8 rfl rfl (bF a4 (eM (i5 2 32 rfl rfl))) rfl rfl rfl ?_
 exact qn (.refl _) rfl hS rfl
 intro a11 a12 a13 a14 q8 hS q9 i6 hcq
 refine Z8 rfl rfl (bF a4 (eM (i6 2 32 rfl rfl))) rfl rfl rfl ?_
 exact qn (.refl _) rfl hS rfl
 intro a15 a16 a17 a18 r0 hS r1 i7 hcq
 refine Z8 rfl rfl (bF a4 (eM (i7 2 32 rfl rfl))) rfl rfl rfl ?_
 exact qn (.refl _) rfl hS rfl
 intro a19 a20 a21 a22 r2 hS r3 i8 hcq
 refine Z8 rfl rfl (bF a4 (eM (i8 2 32 rfl rfl))) rfl rfl rfl ?_
 exact qn (.refl _) rfl hS rfl
 intro a23 a24 a25 a26 r4 hS r5 i9 hcq
 refine Z8 rfl rfl (bF a4 (eM (i9 2 32 rfl rfl))) rfl rfl rfl ?_
 exact qn (.refl _) rfl hS rfl
 intro a27 a28 a29 a30 r6 hS r7 j0 hcq
 refine Z8 rfl rfl (bF a4 (eM (j0 2 32 rfl rfl))) rfl rfl rfl ?_
 exact qn (.refl _) rfl hS rfl
 intro a31 a32 a33 a34 r8 hS r9 j1 hcq
 refine Z8 rfl rfl (bF a4 (eM (j1 2 32 rfl rfl))) rfl rfl rfl ?_
 exact qn (.refl _) rfl hS rfl
 intro a35 a36 a37 a38 s2 hS s3 j2 hcq
 refine Z8 rfl rfl (bF a4 (eM (j2 2 32 rfl rfl))) rfl rfl rfl ?_
 exact qn (.refl _) rfl hS rfl
 intro a39 a40 a41 a42 s4 hS s5 j3 hcq
 refine Z8 rfl rfl (bF a4 (eM (j3 2 32 rfl rfl))) rfl rfl rfl ?_
 exact qn (.refl _) rfl hS rfl
 intro a43 a44 a45 a46 s6 hS s7 j4 hcq
 refine V1 (t := false) (Value.bool false) (bF a4 (eM (j4 2 32 rfl rfl))) ((if_neg Bool.false_ne_true).trans rfl) rfl ?_
 exact qn (.refl _) rfl hS rfl
 intro a47 l4 g8 d7 hS b7 j5 hcq
 have hS : St g8 l4 ([(b9, cA (Z7 .u8 ((rd a1 a3).1) ++ [vI ((rd a1 a3).2)]) 76)] ++ ([(b1, cA ([s1]) 47)] ++ L)) := hS
 have Z2 := Z2.trans d7
 have a9 := a9.mono d7
 have a6 := a6.mono d7
 refine Z0 (Z9 (by exact (eM (j5 16 46 (by decide) rfl))) (Y6 (X2 (Z1 ?_))))
 refine V0 (a3 + 1) (by exact (evT (b7 14 rfl) d0)) rfl (IntWalk.i64_in _ (by omega)) rfl (Z4 (vI (a3 + 1)) rfl rfl (Z0 ?_))
 have hS := St.dropA hS
 exact j9 _ _ ⟨(a3 + 1), g8, a5, Z2, hS, (by omega), a9, a6, (evT (b7 0 rfl) e0), (evT (b7 3 rfl) c5), (evT (b7 12 rfl) c8), (evT (b7 13 rfl) c9), rfl⟩
 intro k0
 refine Z1 (Z4 (s0) (by exact c1) rfl (Y2 P0 rfl rfl ?_))
 refine V5 (Z7 .u8 ((rd a1 a3).1)) N0 rfl (hS.get (o := cA (Z7 .u8 ((rd a1 a3).1) ++ [vI ((rd a1 a3).2)]) 76) mL) rfl (fun j hj => Zj5 ([]) (Z7 .u8 ((rd a1 a3).1)) (([vI ((rd a1 a3).2)])) j hj) rfl ?_
 obtain ⟨c3, j6, a7⟩ := bind_some a7
 refine Y8 Tryz.call220 (T0 rfl rfl) rfl (Yk8 j6 a9 hS) ?_
 rintro a48 a49 ⟨_, l5, rfl, d8, hS, rfl⟩
 refine ⟨_, rfl, ?_⟩
 have Z2 := Z2.trans d8
 have a9 := a9.mono d8
 have a6 := a6.mono d8
 refine N7 (b := c3) rfl rfl (Z4 (Value.bool (!c3)) rfl rfl ?_)
 by_cases a8 : c3 = true
 rw [if_pos a8] at a7
 refine Y1 rfl rfl (Eq.trans rfl (congrArg (fun b => Value.bool (!b)) a8)) (Y2 Zc0 rfl rfl ?_)
 refine Y1 rfl rfl (Eq.trans rfl (congrArg (fun b => Value.bool (!b)) a8)) ?_
 refine Y4 (vI ((rd a1 a3).2)) ty2 rfl (hS.get mL) rfl rfl ?_
 obtain ⟨c4, j7, a7⟩ := bind_some a7
 refine Y1 rfl rfl (Eq.trans rfl (congrArg (fun b => Value.bool (!b)) a8)) ?_
 refine Y8 Tryz.call150 (Q8 rfl) rfl (Ym6 j7  hS) ?_
 rintro a50 a51 ⟨_, l6, rfl, d9, hS, rfl⟩
 refine ⟨_, rfl, ?_⟩
 have Z2 := Z2.trans d9
 have a9 := a9.mono d9
 have a6 := a6.mono d9
 refine Y1 rfl rfl (Eq.trans rfl (congrArg (fun b => Value.bool (!b)) a8)) (N7 (b := c4) rfl rfl ?_)
 refine V1 (t := false) (Value.bool (!c4)) (Eq.trans rfl (congrArg (fun b => Value.bool (!b)) a8)) ((if_neg Bool.false_ne_true).trans rfl) rfl (Z0 ?_)
 exact k0 _ _ ⟨(!c4), l6, a7, Z2, hS, a9, a6, c1, c7, rfl, rfl, b4, b5, b2, rfl⟩
 rw [if_neg a8] at a7
 refine Z8 rfl rfl (Eq.trans rfl (congrArg (fun b => Value.bool (!b)) (W2 a8))) rfl rfl rfl (Z8 rfl rfl (Eq.trans rfl (congrArg (fun b => Value.bool (!b)) (W2 a8))) rfl rfl rfl (Z8 rfl rfl (Eq.trans rfl (congrArg (fun b => Value.bool (!b)) (W2 a8))) rfl rfl rfl (Z8 rfl rfl (Eq.trans rfl (congrArg (fun b => Value.bool (!b)) (W2 a8))) rfl rfl rfl ?_)))
 refine V1 (t := true) (Value.bool true) (Eq.trans rfl (congrArg (fun b => Value.bool (!b)) (W2 a8))) ((if_pos rfl).trans rfl) rfl (Z0 ?_)
 exact k0 _ _ ⟨true, l5, a7, Z2, hS, a9, a6, c1, c7, rfl, rfl, b4, b5, b2, rfl⟩
 rw [if_neg e8] at a7
 refine Z9 (bF e8 rfl) ?_
 refine W4 rfl ?_
 have hz := Option.some.inj a7
 subst hz
 exact l9 _ _ ⟨k1, rfl, Z2, hS, a6⟩
 exact ⟨0, H, a7, Z2, hS, (by omega), a9, a6, rfl, rfl, rfl, rfl, rfl⟩
 rintro a52 a53 ⟨a54, rfl, Z2, hS, a6⟩
 dsimp only [Ex.elim] at c0
 refine Z3 (Z1 (Z6 (Value.bool true) rfl rfl (Z0 ?_)))
 refine Y9 (vs := [Value.bool true]) Tryz.func125 ⟨rfl, trivial⟩ ?_
 have hz := Option.some.inj c0
 subst hz
 exact ⟨_, _, rfl, Z2, (St.dropA hS), rfl⟩
def N6 (K : Nat) (a0 : (List Int)) (a1 : MpT) (a2 : MpT) : Nat → Int → MpT → Option (Ex MpT (MpT))
 | 0, _, _ => none
 | k + 1, a3, a5 => (if a3 < (a1.length : Int) then ((Zm2 K a0 ((rd a1 a3).1, (rd a1 a3).2) a2).bind fun d2 => ((Zb0 K a5 d2 1).bind fun c8 => N6 K a0 a1 a2 k (a3 + 1) c8)) else some (.go a5))
def F2 (K : Nat) (a0 : (List Int)) (a1 : MpT) (a2 : MpT) : Option MpT := ((N6 K a0 a1 a2 K 0 ([] : List (A8 × Int))).bind (Ex.elim (fun r => some r) (fun s => (fun (a7 : MpT) => some a7) s)))
theorem Zm3 {K : Nat} {a0 : (List Int)} {a1 : MpT} {a2 : MpT} {r : MpT} (q0 : F2 K a0 a1 a2 = some r) {H : FH} {w : World} {L : OL} {s0 : Value} {s1 : Value} {s2 : Value} (c0 : Y3 (X3 .i64) H s0 a0) (b2 : Y3 yT H s1 a1) (b3 : Y3 yT H s2 a2) (hS : St H w L) :
 Calls Tryz.prog 171 #[s0, vA ([s1]), vA ([s2])] w (T6 (fun v G => (R.agg (X6 yT)).p G v r) H L) := by
 have Z2 := Sub.refl H
 refine X0 Tryz.func171 rfl Tryz.ntmps171 rfl ?_
 unfold F2 at q0
 refine Z3 (Z1 ?_)
 refine T7 (v := vA ([s1])) ([s1]).toArray rfl rfl hS rfl ?_
 intro b1 w2 hS
 refine T7 (v := vA ([s2])) ([s2]).toArray rfl rfl hS rfl ?_
 intro b4 w5 hS
 refine W9 (z := vA ([vN])) ([vN]).toArray Zb2.zero rfl hS rfl ?_
 intro b7 w8 hS
 refine Z0 (Z3 (Z1 ?_))
 refine Q2 (vA ([vN])) Yc4 rfl ?_
 refine W9 (z := vA ([vN])) ([vN]).toArray Zb2.zero rfl hS rfl ?_
 intro d1 l3 hS
 refine W1 (v := vA ([vN])) (vs := ([vN]).toArray) (cs := ([vN]).toArray) U7 rfl rfl rfl hS rfl (S2 rfl) rfl ?_
 intro l4 hS
 refine Z0 (Z3 (Z3 (Z1 (Z6 (vI 0) rfl rfl (Z0 (Y7 ?_))))))
 have d8 : Y3 yT H (.slice none 0 0) ([] : List (A8 × Int)) := Y3.nil
 obtain ⟨d9, a8, e0⟩ := bind_some q0
 refine W7 (id := 0) (fun k f w => ∃ (a3 : Int) (a5 : MpT) (H1 : FH) (a4 : Value), N6 K a0 a1 a2 k a3 a5 = some d9 ∧ Sub H H1 ∧ St H1 w ([(d1, cA ([a4]) 47)] ++ ([(b7, cA ([vN]) 47)] ++ ([(b4, cA ([s2]) 47)] ++ ([(b1, cA ([s1]) 47)] ++ L)))) ∧ 0 ≤ a3 ∧ Y3 yT H1 a4 a5 ∧ Y3 (X3 .i64) H1 s0 a0 ∧ Y3 yT H1 s1 a1 ∧ Y3 yT H1 s2 a2 ∧ ev f (.tmp 0) = s0 ∧ ev f (.tmp 4) = vP b1 ∧ ev f (.tmp 5) = vP b4 ∧ ev f (.tmp 6) = vP b7 ∧ ev f (.tmp 7) = vP d1 ∧ ev f (.tmp 8) = vI a3) (fun f w => ∃ (a7 : MpT) (H1 : FH) (a6 : Value), d9 = .go a7 ∧ Sub H H1 ∧ St H1 w ([(d1, cA ([a6]) 47)] ++ ([(b7, cA ([vN]) 47)] ++ ([(b4, cA ([s2]) 47)] ++ ([(b1, cA ([s1]) 47)] ++ L)))) ∧ Y3 yT H1 a6 a7 ∧ Y3 yT H1 s1 a1 ∧ Y3 yT H1 s2 a2 ∧ ev f (.tmp 6) = vP b7 ∧ ev f (.tmp 7) = vP d1) rfl ?_ ?_ K ?_ ?_
 rintro f w ⟨a3, a5, H1, a4, a8, _⟩
 rw [N6] at a8; cases a8
 rintro k h5 h6 g8 g9 ⟨a3, a5, f2, a4, a8, Z2, hS, h0, a9, c0, b2, b3, c3, b6, c4, c5, b8, b9⟩
 rw [N6] at a8
 refine Z3 (Z3 (Z1 (Z4 (vI a3) (by exact b9) rfl (Y2 V6 (by exact b6) rfl ?_))))
 refine Y4 (s1) R7 rfl (hS.get (mR (mR (mR mL)))) rfl rfl ?_
 have h7 := b2.bound
 refine W6 S9 rfl b2 rfl ?_
 refine U5 (k := .i64) (a := a3) (b := (a1.length : Int)) rfl rfl rfl (Z0 ?_)
 by_cases c9 : a3 < (a1.length : Int)
 rw [if_pos c9] at a8
 refine Y0 (bT c9 rfl) (Y6 (Z3 (Y7 ?_)))
 obtain ⟨h1, h2, h8, l5, _, f3, d3, ⟨_, _, rfl, rfl, rfl⟩, f4⟩ := b2.elem (i := a3) (by omega) (by omega)
 obtain ⟨d2, e5, a8⟩ := bind_some a8
 obtain ⟨c8, e6, a8⟩ := bind_some a8
 refine V4 10 (R9 [(17, MP.eq (vA ([a4]))), (18, MP.eq (s0)), (19, MP.eq (vP b1)), (20, MP.eq (s1)), (21, MP.eq (vI a3)), (22, MP.eq (Value.pointer (some ⟨h1, h2, none⟩))), (23, MP.eq (vA (Z7 .u8 ((rd a1 a3).1) ++ [vI ((rd a1 a3).2)]))), (24, MP.eq (vA ([s2]))), (25, MP.rep (R.agg (X6 yT)) (d2)), (26, MP.rep (R.agg (X6 yT)) (c8))]) [] mixed rfl rfl rfl hS (Z5 rfl ?_ (Z5 rfl ?_ (Z5 rfl ?_ (Z5 rfl ?_ (Z5 rfl ?_ (Z5 rfl ?_ (Z5 rfl ?_ (Z5 rfl ?_ (Z5 rfl ?_ (Z5 rfl ?_ V9)))))))))) ?_
 intro l6 l7 l9 m0 h9 hS f5 i0 hcq
 refine X8 U7 (evT (f5 7 rfl) b8) (hS.get (mR mL)) rfl rfl ?_
 exact qn (.refl _) rfl hS rfl
 intro m1 m2 m3 m4 i1 hS f6 i2 hcq
 refine Z4 (s0) (evT (f6 0 rfl) c3) rfl ?_
 exact qn (.refl _) rfl hS rfl
 intro m5 m6 m7 m8 i3 hS f7 i4 hcq
 refine Y2 V6 (evT (f7 4 rfl) b6) rfl ?_
 exact qn (.refl _) rfl hS rfl
 intro m9 n0 n1 n2 i5 hS i6 f8 hcq
 refine Y4 (s1) R7 (eM (f8 2 19 rfl rfl)) (hS.get (mR (mR (mR (mR mL))))) rfl rfl ?_
 exact qn (.refl _) rfl hS rfl
 intro n3 n4 n5 n6 i7 hS f9 i8 hcq
 refine Z4 (vI a3) (evT (f9 8 rfl) b9) rfl ?_
 exact qn (.refl _) rfl hS rfl
 intro n7 n8 n9 o0 i9 hS j0 e1 hcq
 refine W3 S9 rfl (eM (e1 3 20 rfl rfl)) f3 (eM (e1 4 21 rfl rfl)) (by omega) (by omega) rfl ?_
 exact qn (.refl _) rfl hS rfl
 intro o1 o2 o3 o4 g0 hS j1 g1 hcq
 have d3 := g0.1 _ _ d3
 refine V5 (Z7 .u8 ((rd a1 a3).1) ++ [vI ((rd a1 a3).2)]) Zs8 (eM (g1 5 22 rfl rfl)) (hS.froz _ _ d3) rfl f4 rfl ?_
 exact qn (.refl _) rfl hS rfl
 intro o5 o6 o7 o8 j2 hS g2 j3 hcq
 refine X8 U7 (evT (g2 5 rfl) c4) (hS.get (mR (mR (mR mL)))) rfl rfl ?_
 exact qn (.refl _) rfl hS rfl
 intro o9 p0 p1 p2 e2 hS j4 d4 hcq
 have c0 := c0.mono e2
 have b3 := b3.mono e2
 refine Y8 Tryz.call251 (N8 (eM (d4 1 18 rfl rfl)) (eM (d4 6 23 rfl rfl)) (eM (d4 7 24 rfl rfl))) rfl (Yn6 e5 c0 b3 hS) ?_
 rintro j5 j6 ⟨g3, j7, rfl, e7, hS, e8⟩
 refine ⟨g3, rfl, ?_⟩
 exact qn e7 rfl hS e8
 intro j8 j9 k0 k1 e9 hS h4 d5 hcq
 have a9 := a9.mono e9
 obtain ⟨k2, g4, ⟨_, rfl, ⟨h3, rfl, d6⟩⟩⟩ := gvR (d5 8 25 rfl rfl)
 refine Y8 Tryz.call143 (N8 (eM (d5 0 17 rfl rfl)) g4 rfl) rfl (Zk2 e6 a9 d6 hS) ?_
 rintro k3 k4 ⟨g5, k5, rfl, f0, hS, d0⟩
 refine ⟨g5, rfl, ?_⟩
 have d0 := ((R.agg (X6 yT))).mono (Zl4 _ _) d0
 exact qn f0 rfl hS d0
 intro k6 g6 e3 c1 hS b0 f1 hcq
 have hS : St e3 g6 ([(d1, cA ([a4]) 47)] ++ ([(b7, cA ([vN]) 47)] ++ ([(b4, cA ([s2]) 47)] ++ ([(b1, cA ([s1]) 47)] ++ L)))) := hS
 have Z2 := Z2.trans c1
 have c0 := c0.mono c1
 have b2 := b2.mono c1
 have b3 := b3.mono c1
 have e4 := evT (b0 7 rfl) b8
 obtain ⟨k7, g7, ⟨_, rfl, ⟨c2, rfl, c6⟩⟩⟩ := gvR (f1 9 26 (by decide) rfl)
 refine W1 (v := vA ([c2])) (vs := ([c2]).toArray) (cs := ([a4]).toArray) U7 (by exact e4) (by exact g7) rfl hS rfl (S2 c6.isOne) rfl ?_
 intro k8 hS
 refine Z0 (X2 (Z1 (Z4 (vI a3) (by exact (evT (b0 8 rfl) b9)) rfl ?_)))
 refine V0 (a3 + 1) rfl rfl (IntWalk.i64_in _ (by omega)) rfl (Z6 (vI (a3 + 1)) rfl rfl (Z0 ?_))
 exact g8 _ _ ⟨(a3 + 1), c8, e3, c2, a8, Z2, hS, (by omega), c6, c0, b2, b3, (evT (b0 0 rfl) c3), (evT (b0 4 rfl) b6), (evT (b0 5 rfl) c4), (evT (b0 6 rfl) c5), e4, rfl⟩
 rw [if_neg c9] at a8
 refine Z9 (bF c9 rfl) ?_
 refine W4 rfl ?_
 have hz := Option.some.inj a8
 subst hz
 exact g9 _ _ ⟨a5, f2, a4, rfl, Z2, hS, a9, b2, b3, c5, b8⟩
 exact ⟨0, ([] : List (A8 × Int)), H, (vN), a8, Z2, hS, (by omega), d8, c0, b2, b3, rfl, rfl, rfl, rfl, rfl, rfl⟩
 rintro k9 l0 ⟨a7, l1, a6, rfl, Z2, hS, b5, b2, b3, c7, d7⟩
 dsimp only [Ex.elim] at e0
 refine Z3 (Z1 ?_)
 refine X8 U7 (by exact d7) (hS.get mL) rfl rfl ?_
 have hS := hS.perm U4
 refine W1 (v := vA ([a6])) (vs := ([a6]).toArray) (cs := ([vN]).toArray) U7 (by exact c7) rfl rfl hS rfl (S2 b5.isOne) rfl ?_
 intro l2 hS
 have hS := hS.perm U4.symm
 refine Z0 ?_
 refine Y9 (vs := [vA ([a6])]) Tryz.func171 ⟨⟨_, (by exact c7), U8 U7 (hS.get (mR mL)) rfl⟩, trivial⟩ ?_
 have hz := Option.some.inj e0
 subst hz
 exact ⟨_, _, rfl, Z2, (St.dropA (St.dropA (St.dropA (St.dropA hS)))), ⟨_, rfl, ⟨_, rfl, b5⟩⟩⟩
def R3 (K : Nat) (a0 : ((List Int) × (List MpT))) : Nat → Int → M8 → Option (Ex M8 (M8))
 | 0, _, _ => none
 | k + 1, a1, a5 => (if a1 < (a0.2.length : Int) then ((Zg7 K (rd a0.2 a1)).bind fun c7 => (if a1 < 8 then R3 K a0 k (a1 + 1) (Zw9 a5 a1 c7) else none)) else some (.go a5))
def K6 (K : Nat) (a0 : ((List Int) × (List MpT))) : Option M8 := ((R3 K a0 K 0 (fun _ => ([] : MpT))).bind (Ex.elim (fun r => some r) (fun s => (fun (a9 : M8) => some a9) s)))
theorem Yc9 {K : Nat} {a0 : ((List Int) × (List MpT))} {r : M8} (q0 : K6 K a0 = some r) {H : FH} {w : World} {L : OL} {s0 : Value} (e4 : Zq0 (Zh7 (X6 (X3 .i64)) (X6 (X6 yT))) H s0 a0) (hS : St H w L) :
 Calls Tryz.prog 146 #[s0] w (T6 (fun v G => (R.agg (tyV .i64)).p G v r) H L) := by
 obtain ⟨e5, e6, f1, g0, _, rfl, d3, ⟨_, _, rfl, ⟨e7, rfl, e2⟩, ⟨b4, rfl, a3⟩⟩, d4⟩ := e4
 have Z2 := Sub.refl H
 refine X0 Tryz.func146 rfl Tryz.ntmps146 rfl ?_
 unfold K6 at q0
 refine Z3 (Z1 ?_)
 have b1 : RdV .i64 H J4 (fun _ => ([] : MpT)) := RdV.nil
 refine W9 (z := vA (U2 J4)) (U2 J4).toArray Yq5.zero rfl hS rfl ?_
 intro b2 w3 hS
 refine Z0 (Z3 (Z1 ?_))
 have d2 : RdV .i64 H J4 (fun _ => ([] : MpT)) := RdV.nil
 refine Q2 (vA (U2 J4)) Wb3 rfl ?_
 have g1 : RdV .i64 H J4 (fun _ => ([] : MpT)) := RdV.nil
 refine W9 (z := vA (U2 J4)) (U2 J4).toArray Yq5.zero rfl hS rfl ?_
 intro b7 w8 hS
 refine W1 (v := vA (U2 J4)) (vs := (U2 J4).toArray) (cs := (U2 J4).toArray) Zv8 rfl rfl rfl hS rfl (Ye4 d2) rfl ?_
 intro g2 hS
 refine Z0 (Z3 (Z3 (Z1 (Z4 (Value.pointer (some ⟨e5, e6, none⟩)) rfl rfl (K3 rfl rfl (Y2 N5 rfl rfl ?_))))))
 refine Y4 (b4) Zd8 rfl (hS.froz _ _ d3) (d4 1 (show 1 < 2 by decide)) rfl ?_
 have f2 := a3.bound
 refine W6 J2 rfl a3 rfl (Z4 (vI 0) rfl rfl (Z0 (Y7 ?_)))
 obtain ⟨c8, a6, c9⟩ := bind_some q0
 refine W7 (id := 0) (fun k f w => ∃ (a1 : Int) (a5 : M8) (H1 : FH) (a4 : V8), R3 K a0 k a1 a5 = some c8 ∧ Sub H H1 ∧ St H1 w ([(b7, cA (U2 a4) 182)] ++ ([(b2, cA (U2 J4) 182)] ++ L)) ∧ 0 ≤ a1 ∧ RdV .i64 H1 a4 a5 ∧ RdV .i64 H1 J4 (fun _ => ([] : MpT)) ∧ Y3 (X6 yT) H1 b4 a0.2 ∧ ev f (.tmp 2) = vP b2 ∧ ev f (.tmp 3) = vP b7 ∧ ev f (.tmp 10) = b4 ∧ ev f (.tmp 11) = vI (a0.2.length : Int) ∧ ev f (.tmp 12) = vI a1) (fun f w => ∃ (a9 : M8) (H1 : FH) (a7 : V8), c8 = .go a9 ∧ Sub H H1 ∧ St H1 w ([(b7, cA (U2 a7) 182)] ++ ([(b2, cA (U2 J4) 182)] ++ L)) ∧ RdV .i64 H1 a7 a9 ∧ RdV .i64 H1 J4 (fun _ => ([] : MpT)) ∧ ev f (.tmp 2) = vP b2 ∧ ev f (.tmp 3) = vP b7) rfl ?_ ?_ K ?_ ?_
 rintro f w ⟨a1, a5, H1, a4, a6, _⟩
 rw [R3] at a6; cases a6
 rintro k f3 f4 e8 e9 ⟨a1, a5, d5, a4, a6, Z2, hS, e3, a8, b1, a3, b9, b3, b5, b6, b0⟩
 rw [R3] at a6
 refine Z3 (Z1 ?_)
 refine U5 (k := .i64) (a := a1) (b := (a0.2.length : Int)) (by exact b0) (by exact b6) rfl (Z0 (Z3 ?_))
 by_cases c1 : a1 < (a0.2.length : Int)
 rw [if_pos c1] at a6
 refine Y0 (bT c1 rfl) (Y6 (Z3 (Y7 (Z3 (Z1 (Z4 (vI a1) (by exact b0) rfl ?_))))))
 obtain ⟨g3, g4, f5, g5, _, d6, d7, ⟨c2, rfl, c5⟩, d8⟩ := a3.elem (i := a1) (by omega) (by omega)
 refine W3 J2 rfl (by exact b5) d6 (by exact b0) (by omega) (by omega) rfl ?_
 refine V5 ([c2]) U7 rfl (hS.froz _ _ d7) rfl d8 rfl ?_
 refine W9 (z := vA ([vN])) ([vN]).toArray Zb2.zero rfl hS rfl ?_
 intro g6 g7 hS
 refine Z6 (vI a1) rfl rfl ?_
 refine W1 (v := vA ([c2])) (vs := ([c2]).toArray) (cs := ([vN]).toArray) U7 rfl rfl rfl hS rfl (S2 c5.isOne) rfl ?_
 intro g8 hS
 refine Z0 (Z1 (Z4 (vI a1) rfl rfl ?_))
 refine X8 U7 rfl (hS.get mL) rfl rfl ?_
 obtain ⟨c7, d9, a6⟩ := bind_some a6
 refine Y8 Tryz.call90 (Q8 rfl) rfl (Zn1 d9 c5 hS) ?_
 rintro g9 h0 ⟨d0, h1, h2, rfl, c3, hS, e0⟩
 refine ⟨_, rfl, ?_⟩
 have Z2 := Z2.trans c3
 have a3 := a3.mono c3
 have b1 := b1.mono c3
 have a8 := a8.mono c3
 obtain ⟨f6, a6⟩ := gd a6
 refine W8 Yy0 (by exact b3) rfl (by omega) (by omega) rfl ?_
 obtain ⟨f0, c4, hS, d1⟩ := e0.freeze hS
 have Z2 := Z2.trans c4
 have a3 := a3.mono c4
 have b1 := b1.mono c4
 have a8 := a8.mono c4
 have hS := hS.perm U4
 have e1 := RdV.upd a8 (a1) d1
 refine Ze1 (v := d0) (cs := (U2 a4).toArray) (cs' := (U2 (Yi7 a4 a1 d0)).toArray) Yk4 rfl rfl hS d1.isOne rfl (by simp [Z7, U2]; omega) (Xg1 (by omega) (by omega)) ?_
 intro h3 hS
 have hS := hS.perm U4.symm
 refine Z0 (X2 (Z1 ?_))
 refine V0 (a1 + 1) (by exact b0) rfl (IntWalk.i64_in _ (by omega)) rfl (Z4 (vI (a1 + 1)) rfl rfl (Z0 ?_))
 have hS := St.dropA hS
 exact e8 _ _ ⟨(a1 + 1), (Zw9 a5 a1 c7), f0, (Yi7 a4 a1 d0), a6, Z2, hS, (by omega), e1, b1, a3, b9, b3, b5, b6, rfl⟩
 rw [if_neg c1] at a6
 refine Z9 (bF c1 rfl) ?_
 refine W4 rfl ?_
 have hz := Option.some.inj a6
 subst hz
 exact e9 _ _ ⟨a5, d5, a4, rfl, Z2, hS, a8, b1, b9, b3⟩
 exact ⟨0, (fun _ => ([] : MpT)), H, J4, a6, Z2, hS, (by omega), d2, b1, a3, rfl, rfl, rfl, rfl, rfl⟩
 rintro f7 f8 ⟨a9, f9, a7, rfl, Z2, hS, b8, b1, c0, c6⟩
 dsimp only [Ex.elim] at c9
 refine Z3 (Z1 ?_)
 refine X8 Zv8 (by exact c6) (hS.get mL) rfl rfl ?_
 have hS := hS.perm U4
 refine W1 (v := vA (U2 a7)) (vs := (U2 a7).toArray) (cs := (U2 J4).toArray) Zv8 (by exact c0) rfl rfl hS rfl (Ye4 b8) rfl ?_
 intro h4 hS
 have hS := hS.perm U4.symm
 refine Z0 ?_
 refine Y9 (vs := [vA (U2 a7)]) Tryz.func146 ⟨⟨_, (by exact c0), U8 Zv8 (hS.get (mR mL)) rfl⟩, trivial⟩ ?_
 have hz := Option.some.inj c9
 subst hz
 exact ⟨_, _, rfl, Z2, (St.dropA (St.dropA hS)), ⟨_, rfl, ⟨_, rfl, b8⟩⟩⟩
def B9 (K : Nat) (a0 : MpT) : Nat → Int → MpT → Option (Ex MpT (MpT))
 | 0, _, _ => none
 | k + 1, a1, a3 => (if a1 < (a0.length : Int) then ((Zq3 K ((rd a0 a1).1, (rd a0 a1).2)).bind fun b3 => (if a1 < (a3.length : Int) then B9 K a0 k (a1 + 1) (a3.set (a1).toNat (b3.1, b3.2)) else none)) else some (.go a3))
def Zo4 (K : Nat) (a0 : MpT) : Option MpT := (if (a0.length : Int) ≤ 1099511627776 then ((B9 K a0 K 0 (List.replicate ((a0.length : Int)).toNat (((fun _ => 0), 0) : (A8 × Int)))).bind (Ex.elim (fun r => some r) (fun s => (fun (a8 : MpT) => some a8) s))) else none)
theorem Yr0 {K : Nat} {a0 : MpT} {r : MpT} (q0 : Zo4 K a0 = some r) {H : FH} {w : World} {L : OL} {s0 : Value} (b1 : Y3 yT H s0 a0) (hS : St H w L) :
 Calls Tryz.prog 108 #[s0] w (T6 (fun v G => (R.sl yT).p (G.new H) v r) H L) := by
 have Z2 := Sub.refl H
 refine X0 Tryz.func108 rfl Tryz.ntmps108 rfl ?_
 unfold Zo4 at q0
 refine Z3 (Z1 (Z6 (vN) rfl rfl (Z0 (Z3 (Z1 (Z4 (s0) rfl rfl ?_))))))
 have e6 := b1.bound
 refine W6 Xq7 rfl b1 rfl ?_
 obtain ⟨e7, q0⟩ := gd q0
 refine Xh3 (τ := yT) (((fun _ => 0), 0) : (A8 × Int)) Yt8 rfl rfl rfl (fun _ => ⟨_, _, rfl, rfl, rfl⟩) (by omega) (by omega) hS rfl ?_
 intro u3 w4 C5 d1 hS
 refine Z6 (u3) rfl rfl (Z0 (Z3 (Z3 (Z1 (Z6 (vI 0) rfl rfl (Z0 (Y7 ?_)))))))
 obtain ⟨c1, a6, c2⟩ := bind_some q0
 refine W7 (id := 0) (fun k f w => ∃ (a1 : Int) (a3 : MpT) (H1 : FH) (a9 : OL) (a4 : Value), B9 K a0 k a1 a3 = some c1 ∧ Sub H H1 ∧ St H1 w (a9 ++ L) ∧ 0 ≤ a1 ∧ U1 yT 76 H1 a4 a3 a9 ∧ Y3 yT H1 s0 a0 ∧ ev f (.tmp 0) = s0 ∧ ev f (.tmp 3) = a4 ∧ ev f (.tmp 4) = vI a1) (fun f w => ∃ (a8 : MpT) (H1 : FH) (b2 : OL) (a5 : Value), c1 = .go a8 ∧ Sub H H1 ∧ St H1 w (b2 ++ L) ∧ U1 yT 76 H1 a5 a8 b2 ∧ ev f (.tmp 3) = a5) rfl ?_ ?_ K ?_ ?_
 rintro f w ⟨a1, a3, H1, a9, a4, a6, _⟩
 rw [B9] at a6; cases a6
 rintro k d8 d9 d2 d3 ⟨a1, a3, c4, a9, a4, a6, Z2, hS, d4, a7, b1, b4, b5, b0⟩
 rw [B9] at a6
 refine Z3 (Z3 (Z1 (Z4 (vI a1) (by exact b0) rfl (Z4 (s0) (by exact b4) rfl ?_))))
 have e8 := b1.bound
 refine W6 Xq7 rfl b1 rfl ?_
 refine U5 (k := .i64) (a := a1) (b := (a0.length : Int)) rfl rfl rfl (Z0 ?_)
 by_cases b9 : a1 < (a0.length : Int)
 rw [if_pos b9] at a6
 refine Y0 (bT b9 rfl) (Y6 (Z3 (Y7 (Z1 (Z4 (a4) (by exact b5) rfl (Z4 (vI a1) (by exact b0) rfl (Z4 (s0) (by exact b4) rfl (Z4 (vI a1) (by exact b0) rfl ?_))))))))
 obtain ⟨e9, f0, e0, f1, _, c5, c6, ⟨_, _, rfl, rfl, rfl⟩, c7⟩ := b1.elem (i := a1) (by omega) (by omega)
 refine W3 Xq7 rfl rfl c5 rfl (by omega) (by omega) rfl ?_
 refine V5 (Z7 .u8 ((rd a0 a1).1) ++ [vI ((rd a0 a1).2)]) Wk8 rfl (hS.froz _ _ c6) rfl c7 rfl ?_
 obtain ⟨b3, c8, a6⟩ := bind_some a6
 refine Y8 Tryz.call200 (Q8 rfl) rfl (Yt9 c8  hS) ?_
 rintro f2 f3 ⟨f4, d5, rfl, b8, hS, ⟨_, rfl, ⟨_, _, rfl, rfl, rfl⟩⟩⟩
 refine ⟨_, rfl, ?_⟩
 have Z2 := Z2.trans b8
 have b1 := b1.mono b8
 have a7 := a7.mono b8
 obtain ⟨e1, a6⟩ := gd a6
 obtain ⟨f5, f6, c3⟩ := a7.some (i := a1) (by omega) (by omega)
 refine Zt3 S9 (Eq.trans rfl c3) rfl (by omega) (by omega) rfl ?_
 refine Zw4 (τ := yT) (v := a4) (u := vA (Z7 .u8 b3.1 ++ [vI b3.2])) (b3.1, b3.2) (i := a1) rfl Zs8 c3 a7 hS rfl rfl (by omega) (by omega) ⟨_, _, rfl, rfl, rfl⟩ ?_
 intro f7 d6 c9 hS
 refine Z0 (X2 (Z1 (Z4 (vI a1) (by exact b0) rfl ?_)))
 refine V0 (a1 + 1) rfl rfl (IntWalk.i64_in _ (by omega)) rfl (Z6 (vI (a1 + 1)) rfl rfl (Z0 ?_))
 exact d2 _ _ ⟨(a1 + 1), (a3.set (a1).toNat (b3.1, b3.2)), d5, d6, a4, a6, Z2, hS, (by omega), c9, b1, b4, b5, rfl⟩
 rw [if_neg b9] at a6
 refine Z9 (bF b9 rfl) ?_
 refine W4 rfl ?_
 have hz := Option.some.inj a6
 subst hz
 exact d3 _ _ ⟨a3, c4, a9, a4, rfl, Z2, hS, a7, b5⟩
 exact ⟨0, (List.replicate ((a0.length : Int)).toNat (((fun _ => 0), 0) : (A8 × Int))), H, C5, u3, a6, Z2, hS, (by omega), d1, b1, rfl, rfl, rfl⟩
 rintro e2 e3 ⟨a8, e4, b2, a5, rfl, Z2, hS, b7, c0⟩
 dsimp only [Ex.elim] at c2
 refine Z3 (Z1 (Z4 (a5) (by exact c0) rfl (Z6 (a5) rfl rfl (Z0 ?_))))
 refine Y9 (vs := [a5]) Tryz.func108 ⟨rfl, trivial⟩ ?_
 obtain ⟨d7, d0, hS, b6⟩ := U1.freezeF (τ := yT) (H0 := H) b7 hS Z2
 have e5 := Y3.old b6
 have b6 : RdF yT H d7 a5 a8 := b6
 have Z2 := Z2.trans d0
 have hz := Option.some.inj c2
 subst hz
 exact ⟨_, _, rfl, Z2, hS, b6⟩
def I7 (K : Nat) (a0 : (List Int)) (a1 : (List MpT)) : Nat → Int → Option (Ex ((List MpT) × Int) (Unit))
 | 0, _ => none
 | k + 1, a3 => (if a3 < (a1.length : Int) then ((Zg8 K a0 (rd a1 a3)).bind fun r4 => (if r4 = true then I7 K a0 a1 k (a3 + 1) else some (.ret (([] : List MpT), 3)))) else some (.go ()))
def Zl7 (K : Nat) (a0 : (List Int)) (a1 : (List MpT)) : Option ((List MpT) × Int) := ((I7 K a0 a1 K 0).bind (Ex.elim (fun r => some r) (fun s => some (a1, 0))))
theorem Yu3 {K : Nat} {a0 : (List Int)} {a1 : (List MpT)} {r : ((List MpT) × Int)} (q0 : Zl7 K a0 a1 = some r) {H : FH} {w : World} {L : OL} {s0 : Value} {s1 : Value} (a8 : Y3 (X3 .i64) H s0 a0) (a5 : Y3 (X6 yT) H s1 a1) (hS : St H w L) :
 Calls Tryz.prog 173 #[s0, s1] w (T6 (fun v G => (R.t2 (R.sl (X6 yT)) (R.int .i64)).p G v r) H L) := by
 have Z2 := Sub.refl H
 refine X0 Tryz.func173 rfl Tryz.ntmps173 rfl ?_
 unfold Zl7 at q0
 refine Z3 (Z1 (Z6 (vN) rfl rfl (Z6 (vI 0) rfl rfl (Z0 (Z3 (Z3 (Z1 (Z6 (vI 0) rfl rfl (Z0 (Y7 ?_))))))))))
 obtain ⟨b5, a4, b0⟩ := bind_some q0
 refine W7 (id := 0) (fun k f w => ∃ (a3 : Int) (H1 : FH), I7 K a0 a1 k a3 = some b5 ∧ Sub H H1 ∧ St H1 w (L) ∧ 0 ≤ a3 ∧ Y3 (X3 .i64) H1 s0 a0 ∧ Y3 (X6 yT) H1 s1 a1 ∧ ev f (.tmp 0) = s0 ∧ ev f (.tmp 1) = s1 ∧ ev f (.tmp 6) = vI a3) (fun f w => ∃ (H1 : FH), b5 = .go () ∧ Sub H H1 ∧ St H1 w (L) ∧ Y3 (X6 yT) H1 s1 a1 ∧ ev f (.tmp 1) = s1) rfl ?_ ?_ K ?_ ?_
 rintro f w ⟨a3, H1, a4, _⟩
 rw [I7] at a4; cases a4
 rintro k c7 c8 c0 c1 ⟨a3, b8, a4, Z2, hS, c2, a8, a5, a9, a6, a7⟩
 rw [I7] at a4
 refine Z3 (Z3 (Z1 (Z4 (vI a3) (by exact a7) rfl (Z4 (s1) (by exact a6) rfl ?_))))
 have d2 := a5.bound
 refine W6 J2 rfl a5 rfl ?_
 refine U5 (k := .i64) (a := a3) (b := (a1.length : Int)) rfl rfl rfl (Z0 ?_)
 by_cases b1 : a3 < (a1.length : Int)
 rw [if_pos b1] at a4
 refine Y0 (bT b1 rfl) (Y6 (Z3 (Y7 (Z3 (Z1 (Z4 (s0) (by exact a9) rfl (Z4 (s1) (by exact a6) rfl (Z4 (vI a3) (by exact a7) rfl ?_))))))))
 obtain ⟨b3, o3, d3, E3, _, c3, c4, ⟨b9, rfl, b7⟩, c5⟩ := a5.elem (i := a3) (by omega) (by omega)
 refine W3 J2 rfl rfl c3 rfl (by omega) (by omega) rfl ?_
 refine V5 ([b9]) U7 rfl (hS.froz _ _ c4) rfl c5 rfl ?_
 obtain ⟨r4, c6, a4⟩ := bind_some a4
 refine Y8 Tryz.call113 (T0 rfl rfl) rfl (Zw3 c6 a8 b7 hS) ?_
 rintro e4 w5 ⟨_, H4, rfl, b6, hS, rfl⟩
 refine ⟨_, rfl, ?_⟩
 have Z2 := Z2.trans b6
 have a8 := a8.mono b6
 have a5 := a5.mono b6
 refine N7 (b := r4) rfl rfl (Z0 ?_)
 by_cases b2 : r4 = true
 rw [if_pos b2] at a4
 refine Z9 (Eq.trans rfl (congrArg (fun b => Value.bool (!b)) b2)) (Y6 (X2 (Z1 (Z4 (vI a3) (by exact a7) rfl ?_))))
 refine V0 (a3 + 1) rfl rfl (IntWalk.i64_in _ (by omega)) rfl (Z6 (vI (a3 + 1)) rfl rfl (Z0 ?_))
 exact c0 _ _ ⟨(a3 + 1), H4, a4, Z2, hS, (by omega), a8, a5, a9, a6, rfl⟩
 rw [if_neg b2] at a4
 refine Y0 (Eq.trans rfl (congrArg (fun b => Value.bool (!b)) (W2 b2))) (Z3 (Z1 (Z6 (vN) rfl rfl (Z6 (vI 3) rfl rfl (Z0 ?_)))))
 refine Y9 (vs := [vN, vI 3]) Tryz.func173 ⟨rfl, rfl, trivial⟩ ?_
 have hz := Option.some.inj a4
 subst hz
 dsimp only [Ex.elim] at b0
 have hz := Option.some.inj b0
 subst hz
 exact ⟨_, _, rfl, Z2, hS, ⟨_, _, rfl, Y3.nil, rfl⟩⟩
 rw [if_neg b1] at a4
 refine Z9 (bF b1 rfl) ?_
 refine W4 rfl ?_
 have hz := Option.some.inj a4
 subst hz
 exact c1 _ _ ⟨b8, rfl, Z2, hS, a5, a6⟩
 exact ⟨0, H, a4, Z2, hS, (by omega), a8, a5, rfl, rfl, rfl⟩
 rintro c9 d0 ⟨d1, rfl, Z2, hS, a5, b4⟩
 dsimp only [Ex.elim] at b0
 refine Z3 (Z1 (Z4 (s1) (by exact b4) rfl (Z6 (s1) rfl rfl (Z6 (vI 0) rfl rfl (Z0 ?_)))))
 refine Y9 (vs := [s1, vI 0]) Tryz.func173 ⟨rfl, rfl, trivial⟩ ?_
 have hz := Option.some.inj b0
 subst hz
 exact ⟨_, _, rfl, Z2, hS, ⟨_, _, rfl, a5, rfl⟩⟩
def Zi1 (K : Nat) (a0 : (List Int)) : Option Bool := (if (a0.length : Int) ≤ 8 then ((M4 K a0 (fun x => Zj0 K x)).bind fun r3 => some (!r3)) else some false)
theorem Yk5 {K : Nat} {a0 : (List Int)} {r : Bool} (q0 : Zi1 K a0 = some r) {H : FH} {w : World} {L : OL} {s0 : Value} (a3 : Y3 (X3 .i64) H s0 a0) (hS : St H w L) :
 Calls Tryz.prog 124 #[s0] w (T6 (fun v G => R.bool.p G v r) H L) := by
 have Z2 := Sub.refl H
 refine X0 Tryz.func124 rfl Tryz.ntmps124 rfl ?_
 unfold Zi1 at q0
 refine Z3 (Z1 (Z6 (Value.bool false) rfl rfl (Z0 (Z3 (Z1 (Z4 (s0) rfl rfl ?_))))))
 have a8 := a3.bound
 refine W6 Q9 rfl a3 rfl ?_
 refine Yp5 (k := .i64) (a := (a0.length : Int)) (b := 8) rfl rfl rfl (Z4 (Value.bool (decide ((a0.length : Int) ≤ 8))) rfl rfl ?_)
 by_cases a1 : (a0.length : Int) ≤ 8
 rw [if_pos a1] at q0
 refine Y1 rfl rfl (bT a1 rfl) (Z4 (s0) rfl rfl ?_)
 obtain ⟨r3, a4, q0⟩ := bind_some q0
 refine Y1 rfl rfl (bT a1 rfl) ?_
 refine Y8 Tryz.call218 (T0 rfl rfl) rfl (Zr8 a4 a3 ⟨219, #[], rfl, Tryz.call219, fun H2 w2 L2 v x b a9 a5 hv a6 => by obtain rfl := hv; exact Ye5 a6   a5⟩ hS) ?_
 rintro e3 w5 ⟨_, H3, rfl, a7, hS, rfl⟩
 refine ⟨_, rfl, ?_⟩
 have Z2 := Z2.trans a7
 refine Y1 rfl rfl (bT a1 rfl) (N7 (b := r3) rfl rfl ?_)
 refine V1 (t := true) (Value.bool (!r3)) (bT a1 rfl) ((if_pos rfl).trans rfl) rfl (Z6 (Value.bool (!r3)) rfl rfl (Z0 ?_))
 refine Y9 (vs := [Value.bool (!r3)]) Tryz.func124 ⟨rfl, trivial⟩ ?_
 have hz := Option.some.inj q0
 subst hz
 exact ⟨_, _, rfl, Z2, hS, rfl⟩
 rw [if_neg a1] at q0
 refine Z8 rfl rfl (bF a1 rfl) rfl rfl rfl (Z8 rfl rfl (bF a1 rfl) rfl rfl rfl (Z8 rfl rfl (bF a1 rfl) rfl rfl rfl ?_))
 refine V1 (t := false) (Value.bool false) (bF a1 rfl) ((if_neg Bool.false_ne_true).trans rfl) rfl (Z6 (Value.bool false) rfl rfl (Z0 ?_))
 refine Y9 (vs := [Value.bool false]) Tryz.func124 ⟨rfl, trivial⟩ ?_
 have hz := Option.some.inj q0
 subst hz
 exact ⟨_, _, rfl, Z2, hS, rfl⟩
end Go.Proofs.YtfodlhkoafhplaaGreat
