/- Walks of functions: each computes its pure function, if that gives a value. -/
import Derived.Test.YtfodlhkoafhplaaGreatVTy
import Derived.Test.YtfodlhkoafhplaaGreatVF7
import Derived.Test.YtfodlhkoafhplaaGreatVF2
import Derived.Test.YtfodlhkoafhplaaGreatVF1
import Derived.Test.YtfodlhkoafhplaaGreatVF3
import Derived.Test.YtfodlhkoafhplaaGreatVF6
import Derived.Test.YtfodlhkoafhplaaGreatVF5
namespace Go.Proofs.YtfodlhkoafhplaaGreat
open Go
set_option linter.unusedSimpArgs false
set_option linter.unusedVariables false
set_option maxRecDepth 100000
set_option maxHeartbeats 8000000
def Zm3 (K : Nat) (j8 : Int → Option (Ex Bool (Unit))) (a1 : MpT) (a3 : Int) (b0 : Bool) : Option (Ex Bool (Unit)) := (if b0 = true then some (.ret false) else (if 0 < a3 then (if 0 ≤ (IntKind.i64.wrap (a3 - 1)) then (if (IntKind.i64.wrap (a3 - 1)) < (a1.length : Int) then ((Zf5 K ((rd a1 (IntKind.i64.wrap (a3 - 1))).1)).bind fun e1 => ((Zf5 K ((rd a1 a3).1)).bind fun e2 => ((B8 K e1 e2).bind fun b3 => (if 0 ≤ b3 then some (.ret false) else j8 (a3 + 1))))) else none) else none) else j8 (a3 + 1)))
def L0 (K : Nat) (a0 : (List Int)) (a1 : MpT) : Nat → Int → Option (Ex Bool (Unit))
 | 0, _ => none
 | k + 1, a3 => (if a3 < (a1.length : Int) then ((Zk7 K a0 ((rd a1 a3).1)).bind fun c3 => (if c3 = true then ((Zu7 K ((rd a1 a3).2)).bind fun c4 => Zm3 K (L0 K a0 a1 k) a1 a3 (!c4)) else Zm3 K (L0 K a0 a1 k) a1 a3 true)) else some (.go ()))
def Zo0 (K : Nat) (a0 : (List Int)) (a1 : MpT) : Option Bool := (if 400 < (a1.length : Int) then some false else ((L0 K a0 a1 K 0).bind (Ex.elim (fun r => some r) (fun s => some true))))
theorem Zx9 {K : Nat} {a0 : (List Int)} {a1 : MpT} {r : Bool} (q0 : Zo0 K a0 a1 = some r) {H : FH} {w : World} {L : OL} {s0 : Value} {s1 : Value} (a9 : Y1 (Y6 .i64) H s0 a0) (a6 : Y1 yT H s1 a1) (hS : St H w L) :
 Calls Tryz.prog 125 #[s0, vA ([s1])] w (T2 (fun v G => R.bool.p G v r) H L) := by
 have Z2 := Sub.refl H
 refine X3 Tryz.func125 rfl Tryz.ntmps125 rfl ?_
 unfold Zo0 at q0
 refine Z3 (Z0 ?_)
 refine S4 (v := vA ([s1])) ([s1]).toArray rfl rfl hS rfl ?_
 intro b1 w2 hS
 refine Z5 (Value.bool false) rfl rfl (Z1 (Z3 (Z3 (Z0 (Y3 U4 rfl rfl ?_)))))
 refine Y4 (s1) Q7 rfl (hS.get mL) rfl rfl ?_
 have bl4 := a6.bound
 refine W7 R5 rfl a6 rfl ?_
 refine Zf8 (k := .i64) (a := (a1.length : Int)) (b := 400) rfl rfl rfl (Z1 ?_)
 by_cases e7 : 400 < (a1.length : Int)
 rw [if_pos e7] at q0
 refine Y0 (bT e7 rfl) (Z3 (Z0 (Z5 (Value.bool false) rfl rfl (Z1 ?_))))
 refine X0 (vs := [Value.bool false]) Tryz.func125 ⟨rfl, trivial⟩ ?_
 have hz := Option.some.inj q0
 subst hz
 exact ⟨_, _, rfl, Z2, (St.dropA hS), rfl⟩
 rw [if_neg e7] at q0
 refine Z8 (bF e7 rfl) (Y7 (Z3 (Z3 (Z0 (Y3 U4 rfl rfl ?_)))))
 refine Y4 (s1) Q7 rfl (hS.get mL) rfl rfl ?_
 have bl6 := a6.bound
 refine W7 R5 rfl a6 rfl (Z4 (vI 0) rfl rfl (Z1 (Y8 ?_)))
 obtain ⟨e3, a7, c0⟩ := bind_some q0
 refine W5 (id := 0) (fun k f w => ∃ (a3 : Int) (H1 : FH), L0 K a0 a1 k a3 = some e3 ∧ Sub H H1 ∧ St H1 w ([(b1, cA ([s1]) 47)] ++ L) ∧ 0 ≤ a3 ∧ Y1 (Y6 .i64) H1 s0 a0 ∧ Y1 yT H1 s1 a1 ∧ ev f (.tmp 0) = s0 ∧ ev f (.tmp 3) = vP b1 ∧ ev f (.tmp 12) = s1 ∧ ev f (.tmp 13) = vI (a1.length : Int) ∧ ev f (.tmp 14) = vI a3) (fun f w => ∃ (H1 : FH), e3 = .go () ∧ Sub H H1 ∧ St H1 w ([(b1, cA ([s1]) 47)] ++ L) ∧ Y1 yT H1 s1 a1) rfl ?_ ?_ K ?_ ?_
 rintro f w ⟨a3, H1, a7, _⟩
 rw [L0] at a7; cases a7
 rintro k s8 s9 j9 l9 ⟨a3, k1, a7, Z2, hS, l7, a9, a6, c1, c7, b4, b5, b2⟩
 rw [L0] at a7
 refine Z3 (Z0 ?_)
 refine V7 (k := .i64) (a := a3) (b := (a1.length : Int)) (by exact b2) (by exact b5) rfl (Z1 (Z3 ?_))
 by_cases e8 : a3 < (a1.length : Int)
 rw [if_pos e8] at a7
 refine Y0 (bT e8 rfl) (Y7 (Z3 (Y8 (Z3 (Z0 (Z4 (vI a3) (by exact b2) rfl ?_))))))
 obtain ⟨b8, o8, cs8, E8, _, m0, m1, ⟨_, _, rfl, rfl, rfl⟩, m2⟩ := a6.elem (i := a3) (by omega) (by omega)
 refine W3 R5 rfl (by exact b4) m0 (by exact b2) (by omega) (by omega) rfl ?_
 refine V6 (Z7 .u8 ((rd a1 a3).1) ++ [vI ((rd a1 a3).2)]) Zu2 rfl (hS.froz _ _ m1) rfl m2 rfl ?_
 refine V1 (z := vA (Z7 .u8 (fun _ => 0) ++ [vI 0])) (Z7 .u8 (fun _ => 0) ++ [vI 0]).toArray Yb1.zero rfl hS rfl ?_
 intro b9 w10 hS
 refine Z5 (vI a3) rfl rfl ?_
 refine W0 (v := vA (Z7 .u8 ((rd a1 a3).1) ++ [vI ((rd a1 a3).2)])) (vs := (Z7 .u8 ((rd a1 a3).1) ++ [vI ((rd a1 a3).2)]).toArray) (cs := (Z7 .u8 (fun _ => 0) ++ [vI 0]).toArray) Zu2 rfl rfl rfl hS rfl (L9 (S9 .u8 ((rd a1 a3).1)) (T8 rfl)) rfl ?_
 intro w12 hS
 refine Z1 (Z3 (Z3 ?_))
 refine B6 (fun f w => ∃ (b0 : Bool) (H1 : FH), Zm3 K (L0 K a0 a1 k) a1 a3 b0 = some e3 ∧ Sub H H1 ∧ St H1 w ([(b9, cA (Z7 .u8 ((rd a1 a3).1) ++ [vI ((rd a1 a3).2)]) 76)] ++ ([(b1, cA ([s1]) 47)] ++ L)) ∧ Y1 (Y6 .i64) H1 s0 a0 ∧ Y1 yT H1 s1 a1 ∧ ev f (.tmp 0) = s0 ∧ ev f (.tmp 3) = vP b1 ∧ ev f (.tmp 5) = vI a3 ∧ ev f (.tmp 6) = vP b9 ∧ ev f (.tmp 12) = s1 ∧ ev f (.tmp 13) = vI (a1.length : Int) ∧ ev f (.tmp 14) = vI a3 ∧ ev f (.tmp 29) = Value.bool b0) ?_ ?_
 rintro fj4 n3 ⟨b0, n4, a5, Z2, hS, a9, a6, e0, c5, c6, f6, c8, c9, d0, d1⟩
 unfold Zm3 at a5
 by_cases d2 : b0 = true
 rw [if_pos d2] at a5
 refine Y0 (Eq.trans (by exact d1) (congrArg Value.bool d2)) (Z3 (Z0 (Z5 (Value.bool false) rfl rfl (Z1 ?_))))
 refine X0 (vs := [Value.bool false]) Tryz.func125 ⟨rfl, trivial⟩ ?_
 have hz := Option.some.inj a5
 subst hz
 dsimp only [Ex.elim] at c0
 have hz := Option.some.inj c0
 subst hz
 exact ⟨_, _, rfl, Z2, (St.dropA (St.dropA hS)), rfl⟩
 rw [if_neg d2] at a5
 refine Z8 (Eq.trans (by exact d1) (congrArg Value.bool (W1 d2))) (Y7 (Z3 ?_))
 by_cases a4 : 0 < a3
 rw [if_pos a4] at a5
 obtain ⟨n5, a5⟩ := gd a5
 obtain ⟨n6, a5⟩ := gd a5
 obtain ⟨f7, f8, n7, t0, _, g9, d3, ⟨_, _, rfl, rfl, rfl⟩, h0⟩ := a6.elem (i := (IntKind.i64.wrap (a3 - 1))) (by omega) (by omega)
 obtain ⟨e1, h1, a5⟩ := bind_some a5
 obtain ⟨e2, h2, a5⟩ := bind_some a5
 obtain ⟨b3, h3, a5⟩ := bind_some a5
 refine U6 17 (P9 [(30, MP.eq (vI a3)), (31, MP.eq (Value.bool (decide (0 < a3)))), (32, MP.eq (Value.bool (decide (0 < a3)))), (33, MP.eq (vP b1)), (34, MP.eq (s1)), (35, MP.eq (vI a3)), (36, MP.eq (vI (IntKind.i64.wrap (a3 - 1)))), (37, MP.eq (Value.pointer (some ⟨f7, f8, none⟩))), (38, MP.eq (Value.pointer (some ⟨f7, f8 + 0, none⟩))), (39, MP.eq (vA (Z7 .u8 ((rd a1 (IntKind.i64.wrap (a3 - 1))).1)))), (40, MP.eq (vA (Z7 .i64 e1))), (41, MP.eq (vP b9)), (42, MP.eq (vA (Z7 .u8 ((rd a1 a3).1)))), (43, MP.eq (vA (Z7 .i64 e2))), (44, MP.eq (vI b3)), (45, MP.eq (Value.bool (decide (0 ≤ b3)))), (46, MP.eq (Value.bool (decide (0 ≤ b3))))]) [] mixed rfl rfl rfl hS (Z6 rfl ?_ (Z6 rfl ?_ (Z6 rfl ?_ (Z6 rfl ?_ (Z6 rfl ?_ (Z6 rfl ?_ (Z6 rfl ?_ (Z6 rfl ?_ (Z6 rfl ?_ (Z6 rfl ?_ (Z6 rfl ?_ (Z6 rfl ?_ (Z6 rfl ?_ (Z6 rfl ?_ (Z6 rfl ?_ (Z6 rfl ?_ (Z6 rfl ?_ U8))))))))))))))))) ?_
 intro m3 m4 m5 m6 k2 hS e4 k3 hcq
 have f9 := evT (e4 5 rfl) c6
 refine Z4 (vI a3) f9 rfl ?_
 exact qn (.refl _) rfl hS rfl
 intro g0 m7 m8 m9 k4 hS k5 e5 hcq
 have g1 : ev g0 (.tmp 30) = vI a3 := e5 0 30 rfl rfl
 refine Zf8 (k := .i64) (a := a3) (b := 0) g1 rfl rfl ?_
 exact qn (.refl _) rfl hS rfl
 intro g2 n0 n1 n2 k6 hS k7 e6 hcq
 have g3 : ev g2 (.tmp 31) = Value.bool (decide (0 < a3)) := e6 1 31 rfl rfl
 refine Z4 (Value.bool (decide (0 < a3))) g3 rfl ?_
 exact qn (.refl _) rfl hS rfl
 intro f51 w52 H53 X54 t1 hS k8 k9 hcq
 refine Y2 rfl rfl (bT a4 (eM (k9 2 32 rfl rfl))) (Y3 U4 (evT (k8 3 rfl) c5) rfl ?_)
 exact qn (.refl _) rfl hS rfl
 intro f61 w62 H63 X64 t4 hS t5 g4 hcq
 refine Y2 rfl rfl (bT a4 (eM (g4 2 32 rfl rfl))) ?_
 refine Y4 (s1) Q7 (eM (g4 3 33 rfl rfl)) (hS.get (mR (mR mL))) rfl rfl ?_
 exact qn (.refl _) rfl hS rfl
 intro f71 w72 H73 X74 t6 hS l0 l1 hcq
 refine Y2 rfl rfl (bT a4 (eM (l1 2 32 rfl rfl))) (Z4 (vI a3) (evT (l0 5 rfl) c6) rfl ?_)
 exact qn (.refl _) rfl hS rfl
 intro f81 w82 H83 X84 t7 hS t8 g5 hcq
 refine Y2 rfl rfl (bT a4 (eM (g5 2 32 rfl rfl))) ?_
 refine Yc4 (IntKind.i64.wrap (a3 - 1)) (eM (g5 5 35 rfl rfl)) rfl rfl rfl ?_
 exact qn (.refl _) rfl hS rfl
 intro t9 u0 u1 u2 n8 hS n9 d4 hcq
 refine Y2 rfl rfl (bT a4 (eM (d4 2 32 rfl rfl))) ?_
 refine W3 R5 rfl (eM (d4 4 34 rfl rfl)) g9 (eM (d4 6 36 rfl rfl)) (by omega) (by omega) rfl ?_
 exact qn (.refl _) rfl hS rfl
 intro u3 u4 u5 u6 o0 hS o1 e9 hcq
 refine Y2 rfl rfl (bT a4 (eM (e9 2 32 rfl rfl))) (Y3 N1 (eM (e9 7 37 rfl rfl)) rfl ?_)
 exact qn (.refl _) rfl hS rfl
 intro u7 u8 u9 v0 h4 hS o2 f0 hcq
 have d3 := h4.1 _ _ d3
 refine Y2 rfl rfl (bT a4 (eM (f0 2 32 rfl rfl))) ?_
 refine V6 (Z7 .u8 ((rd a1 (IntKind.i64.wrap (a3 - 1))).1)) N6 (eM (f0 8 38 rfl rfl)) (hS.froz _ _ d3) rfl (Zh1 ([]) (Z7 .u8 ((rd a1 (IntKind.i64.wrap (a3 - 1))).1)) (([vI ((rd a1 (IntKind.i64.wrap (a3 - 1))).2)])) h0 (Nat.le_of_ble_eq_true rfl)) rfl ?_
 exact qn (.refl _) rfl hS rfl
 intro v1 v2 v3 v4 o3 hS o4 f1 hcq
 refine Y2 rfl rfl (bT a4 (eM (f1 2 32 rfl rfl))) ?_
 refine Y9 Tryz.call176 (R0 (eM (f1 9 39 rfl rfl))) rfl (Zq1 h1  hS) ?_
 rintro v5 v6 ⟨v7, v8, rfl, h5, hS, ⟨_, rfl, rfl⟩⟩
 refine ⟨_, rfl, ?_⟩
 exact qn h5 rfl hS rfl
 intro v9 w0 w1 w3 o5 hS h6 h7 hcq
 refine Y2 rfl rfl (bT a4 (eM (h7 2 32 rfl rfl))) (Y3 N1 (evT (h6 6 rfl) f6) rfl ?_)
 exact qn (.refl _) rfl hS rfl
 intro w4 w5 w6 w7 o6 hS o7 f2 hcq
 refine Y2 rfl rfl (bT a4 (eM (f2 2 32 rfl rfl))) ?_
 refine V6 (Z7 .u8 ((rd a1 a3).1)) N6 (eM (f2 11 41 rfl rfl)) (hS.get (o := cA (Z7 .u8 ((rd a1 a3).1) ++ [vI ((rd a1 a3).2)]) 76) (mR mL)) rfl (fun j hj => Zj8 ([]) (Z7 .u8 ((rd a1 a3).1)) (([vI ((rd a1 a3).2)])) j hj) rfl ?_
 exact qn (.refl _) rfl hS rfl
 intro w8 w9 x0 x1 o9 hS p0 f3 hcq
 refine Y2 rfl rfl (bT a4 (eM (f3 2 32 rfl rfl))) ?_
 refine Y9 Tryz.call176 (R0 (eM (f3 12 42 rfl rfl))) rfl (Zq1 h2  hS) ?_
 rintro x2 x3 ⟨x4, x5, rfl, h8, hS, ⟨_, rfl, rfl⟩⟩
 refine ⟨_, rfl, ?_⟩
 exact qn h8 rfl hS rfl
 intro x6 x7 x8 x9 p1 hS p2 d5 hcq
 refine Y2 rfl rfl (bT a4 (eM (d5 2 32 rfl rfl))) ?_
 refine Y9 Tryz.call221 (U7 (eM (d5 10 40 rfl rfl)) (eM (d5 13 43 rfl rfl))) rfl (Zw9 h3  hS) ?_
 rintro y0 y1 ⟨_, y2, rfl, h9, hS, rfl⟩
 refine ⟨_, rfl, ?_⟩
 exact qn h9 rfl hS rfl
 intro y3 y4 y5 y6 p3 hS p4 f4 hcq
 refine Y2 rfl rfl (bT a4 (eM (f4 2 32 rfl rfl))) ?_
 refine Yc2 (k := .i64) (a := b3) (b := 0) (eM (f4 14 44 rfl rfl)) rfl rfl ?_
 exact qn (.refl _) rfl hS rfl
 intro y7 y8 y9 z0 p5 hS p6 f5 hcq
 refine V2 (t := true) (Value.bool (decide (0 ≤ b3))) (bT a4 (eM (f5 2 32 rfl rfl))) ((if_pos rfl).trans (eM (f5 15 45 rfl rfl))) rfl ?_
 exact qn (.refl _) rfl hS rfl
 intro l2 l3 g6 d6 hS b6 i0 hcq
 have hS : St g6 l3 ([(b9, cA (Z7 .u8 ((rd a1 a3).1) ++ [vI ((rd a1 a3).2)]) 76)] ++ ([(b1, cA ([s1]) 47)] ++ L)) := hS
 have Z2 := Z2.trans d6
 have a9 := a9.mono d6
 have a6 := a6.mono d6
 have g7 : ev l2 (.tmp 46) = Value.bool (decide (0 ≤ b3)) := i0 16 46 (by decide) rfl
 refine Z1 ?_
 by_cases c2 : 0 ≤ b3
 rw [if_pos c2] at a5
 refine Y0 (bT c2 (by exact g7)) (Z3 (Z0 (Z5 (Value.bool false) rfl rfl (Z1 ?_))))
 refine X0 (vs := [Value.bool false]) Tryz.func125 ⟨rfl, trivial⟩ ?_
 have hz := Option.some.inj a5
 subst hz
 dsimp only [Ex.elim] at c0
 have hz := Option.some.inj c0
 subst hz
 exact ⟨_, _, rfl, Z2, (St.dropA (St.dropA hS)), rfl⟩
 rw [if_neg c2] at a5
 refine Z8 (bF c2 (by exact g7)) (Y7 (X2 (Z0 ?_)))
 refine W8 (a3 + 1) (by exact (evT (b6 14 rfl) d0)) rfl (IntWalk.i64_in _ (by omega)) rfl (Z4 (vI (a3 + 1)) rfl rfl (Z1 ?_))
 have hS := St.dropA hS
 exact j9 _ _ ⟨(a3 + 1), g6, a5, Z2, hS, (by omega), a9, a6, (evT (b6 0 rfl) e0), (evT (b6 3 rfl) c5), (evT (b6 12 rfl) c8), (evT (b6 13 rfl) c9), rfl⟩
 rw [if_neg a4] at a5
 refine U6 17 (P9 [(30, MP.eq (vI a3)), (31, MP.eq (Value.bool (decide (0 < a3)))), (32, MP.eq (Value.bool (decide (0 < a3)))), (33, MP.eq (undef)), (34, MP.eq (undef)), (35, MP.eq (undef)), (36, MP.eq (undef)), (37, MP.eq (undef)), (38, MP.eq (undef)), (39, MP.eq (undef)), (40, MP.eq (undef)), (41, MP.eq (undef)), (42, MP.eq (undef)), (43, MP.eq (undef)), (44, MP.eq (undef)), (45, MP.eq (undef)), (46, MP.eq (Value.bool false))]) [] mixed rfl rfl rfl hS (Z6 rfl ?_ (Z6 rfl ?_ (Z6 rfl ?_ (Z6 rfl ?_ (Z6 rfl ?_ (Z6 rfl ?_ (Z6 rfl ?_ (Z6 rfl ?_ (Z6 rfl ?_ (Z6 rfl ?_ (Z6 rfl ?_ (Z6 rfl ?_ (Z6 rfl ?_ (Z6 rfl ?_ (Z6 rfl ?_ (Z6 rfl ?_ (Z6 rfl ?_ U8))))))))))))))))) ?_
 intro m3 m4 m5 m6 k2 hS e4 k3 hcq
 have f9 := evT (e4 5 rfl) c6
 refine Z4 (vI a3) f9 rfl ?_
 exact qn (.refl _) rfl hS rfl
 intro g0 m7 m8 m9 k4 hS k5 e5 hcq
 have g1 : ev g0 (.tmp 30) = vI a3 := e5 0 30 rfl rfl
 refine Zf8 (k := .i64) (a := a3) (b := 0) g1 rfl rfl ?_
 exact qn (.refl _) rfl hS rfl
 intro g2 n0 n1 n2 k6 hS k7 e6 hcq
 have g3 : ev g2 (.tmp 31) = Value.bool (decide (0 < a3)) := e6 1 31 rfl rfl
 refine Z4 (Value.bool (decide (0 < a3))) g3 rfl ?_
 exact qn (.refl _) rfl hS rfl
 intro z1 z2 z3 z4 p7 hS p8 i1 hcq
 refine Z9 rfl rfl (bF a4 (eM (i1 2 32 rfl rfl))) rfl rfl rfl ?_
 exact qn (.refl _) rfl hS rfl
 intro z5 z6 z7 z8 p9 hS q1 i2 hcq
 refine Z9 rfl rfl (bF a4 (eM (i2 2 32 rfl rfl))) rfl rfl rfl ?_
 exact qn (.refl _) rfl hS rfl
 intro z9 a00 a01 a02 q2 hS q3 i3 hcq
 refine Z9 rfl rfl (bF a4 (eM (i3 2 32 rfl rfl))) rfl rfl rfl ?_
 exact qn (.refl _) rfl hS rfl
 intro a03 a04 a05 a06 q4 hS q5 i4 hcq
 refine Z9 rfl rfl (bF a4 (eM (i4 2 32 rfl rfl))) rfl rfl rfl ?_
 exact qn (.refl _) rfl hS rfl
 intro a07 a08 a09 a10 q6 hS q7 i5 hcq
 refine Z9 rfl rfl (bF a4 (eM (i5 2 32 rfl rfl))) rfl rfl rfl ?_
 exact qn (.refl _) rfl hS rfl
 intro a11 a12 a13 a14 q8 hS q9 i6 hcq
 refine Z9 rfl rfl (bF a4 (eM (i6 2 32 rfl rfl))) rfl rfl rfl ?_
 exact qn (.refl _) rfl hS rfl
 intro a15 a16 a17 a18 r0 hS r1 i7 hcq
 refine Z9 rfl rfl (bF a4 (eM (i7 2 32 rfl rfl))) rfl rfl rfl ?_
 exact qn (.refl _) rfl hS rfl
 intro a19 a20 a21 a22 r2 hS r3 i8 hcq
 refine Z9 rfl rfl (bF a4 (eM (i8 2 32 rfl rfl))) rfl rfl rfl ?_
 exact qn (.refl _) rfl hS rfl
 intro a23 a24 a25 a26 r4 hS r5 i9 hcq
 refine Z9 rfl rfl (bF a4 (eM (i9 2 32 rfl rfl))) rfl rfl rfl ?_
 exact qn (.refl _) rfl hS rfl
 intro a27 a28 a29 a30 r6 hS r7 j0 hcq
 refine Z9 rfl rfl (bF a4 (eM (j0 2 32 rfl rfl))) rfl rfl rfl ?_
 exact qn (.refl _) rfl hS rfl
 intro a31 a32 a33 a34 r8 hS r9 j1 hcq
 refine Z9 rfl rfl (bF a4 (eM (j1 2 32 rfl rfl))) rfl rfl rfl ?_
 exact qn (.refl _) rfl hS rfl
 intro a35 a36 a37 a38 s2 hS s3 j2 hcq
 refine Z9 rfl rfl (bF a4 (eM (j2 2 32 rfl rfl))) rfl rfl rfl ?_
 exact qn (.refl _) rfl hS rfl
 intro a39 a40 a41 a42 s4 hS s5 j3 hcq
 refine Z9 rfl rfl (bF a4 (eM (j3 2 32 rfl rfl))) rfl rfl rfl ?_
 exact qn (.refl _) rfl hS rfl
 intro a43 a44 a45 a46 s6 hS s7 j4 hcq
 refine V2 (t := false) (Value.bool false) (bF a4 (eM (j4 2 32 rfl rfl))) ((if_neg Bool.false_ne_true).trans rfl) rfl ?_
 exact qn (.refl _) rfl hS rfl
 intro a47 l4 g8 d7 hS b7 j5 hcq
 have hS : St g8 l4 ([(b9, cA (Z7 .u8 ((rd a1 a3).1) ++ [vI ((rd a1 a3).2)]) 76)] ++ ([(b1, cA ([s1]) 47)] ++ L)) := hS
 have Z2 := Z2.trans d7
 have a9 := a9.mono d7
 have a6 := a6.mono d7
 refine Z1 (Z8 (by exact (eM (j5 16 46 (by decide) rfl))) (Y7 (X2 (Z0 ?_))))
 refine W8 (a3 + 1) (by exact (evT (b7 14 rfl) d0)) rfl (IntWalk.i64_in _ (by omega)) rfl (Z4 (vI (a3 + 1)) rfl rfl (Z1 ?_))
 have hS := St.dropA hS
 exact j9 _ _ ⟨(a3 + 1), g8, a5, Z2, hS, (by omega), a9, a6, (evT (b7 0 rfl) e0), (evT (b7 3 rfl) c5), (evT (b7 12 rfl) c8), (evT (b7 13 rfl) c9), rfl⟩
 intro k0
 refine Z0 (Z4 (s0) (by exact c1) rfl (Y3 N1 rfl rfl ?_))
 refine V6 (Z7 .u8 ((rd a1 a3).1)) N6 rfl (hS.get (o := cA (Z7 .u8 ((rd a1 a3).1) ++ [vI ((rd a1 a3).2)]) 76) mL) rfl (fun j hj => Zj8 ([]) (Z7 .u8 ((rd a1 a3).1)) (([vI ((rd a1 a3).2)])) j hj) rfl ?_
 obtain ⟨c3, j6, a7⟩ := bind_some a7
 refine Y9 Tryz.call220 (U7 rfl rfl) rfl (Yn6 j6 a9 hS) ?_
 rintro a48 a49 ⟨_, l5, rfl, d8, hS, rfl⟩
 refine ⟨_, rfl, ?_⟩
 have Z2 := Z2.trans d8
 have a9 := a9.mono d8
 have a6 := a6.mono d8
 refine M4 (b := c3) rfl rfl (Z4 (Value.bool (!c3)) rfl rfl ?_)
 by_cases a8 : c3 = true
 rw [if_pos a8] at a7
 refine Y2 rfl rfl (Eq.trans rfl (congrArg (fun b => Value.bool (!b)) a8)) (Y3 Zd9 rfl rfl ?_)
 refine Y2 rfl rfl (Eq.trans rfl (congrArg (fun b => Value.bool (!b)) a8)) ?_
 refine Y4 (vI ((rd a1 a3).2)) ty2 rfl (hS.get mL) rfl rfl ?_
 obtain ⟨c4, j7, a7⟩ := bind_some a7
 refine Y2 rfl rfl (Eq.trans rfl (congrArg (fun b => Value.bool (!b)) a8)) ?_
 refine Y9 Tryz.call150 (R0 rfl) rfl (Yu0 j7  hS) ?_
 rintro a50 a51 ⟨_, l6, rfl, d9, hS, rfl⟩
 refine ⟨_, rfl, ?_⟩
 have Z2 := Z2.trans d9
 have a9 := a9.mono d9
 have a6 := a6.mono d9
 refine Y2 rfl rfl (Eq.trans rfl (congrArg (fun b => Value.bool (!b)) a8)) (M4 (b := c4) rfl rfl ?_)
 refine V2 (t := false) (Value.bool (!c4)) (Eq.trans rfl (congrArg (fun b => Value.bool (!b)) a8)) ((if_neg Bool.false_ne_true).trans rfl) rfl (Z1 ?_)
 exact k0 _ _ ⟨(!c4), l6, a7, Z2, hS, a9, a6, c1, c7, rfl, rfl, b4, b5, b2, rfl⟩
 rw [if_neg a8] at a7
 refine Z9 rfl rfl (Eq.trans rfl (congrArg (fun b => Value.bool (!b)) (W1 a8))) rfl rfl rfl (Z9 rfl rfl (Eq.trans rfl (congrArg (fun b => Value.bool (!b)) (W1 a8))) rfl rfl rfl (Z9 rfl rfl (Eq.trans rfl (congrArg (fun b => Value.bool (!b)) (W1 a8))) rfl rfl rfl (Z9 rfl rfl (Eq.trans rfl (congrArg (fun b => Value.bool (!b)) (W1 a8))) rfl rfl rfl ?_)))
 refine V2 (t := true) (Value.bool true) (Eq.trans rfl (congrArg (fun b => Value.bool (!b)) (W1 a8))) ((if_pos rfl).trans rfl) rfl (Z1 ?_)
 exact k0 _ _ ⟨true, l5, a7, Z2, hS, a9, a6, c1, c7, rfl, rfl, b4, b5, b2, rfl⟩
 rw [if_neg e8] at a7
 refine Z8 (bF e8 rfl) ?_
 refine W4 rfl ?_
 have hz := Option.some.inj a7
 subst hz
 exact l9 _ _ ⟨k1, rfl, Z2, hS, a6⟩
 exact ⟨0, H, a7, Z2, hS, (by omega), a9, a6, rfl, rfl, rfl, rfl, rfl⟩
 rintro a52 a53 ⟨a54, rfl, Z2, hS, a6⟩
 dsimp only [Ex.elim] at c0
 refine Z3 (Z0 (Z5 (Value.bool true) rfl rfl (Z1 ?_)))
 refine X0 (vs := [Value.bool true]) Tryz.func125 ⟨rfl, trivial⟩ ?_
 have hz := Option.some.inj c0
 subst hz
 exact ⟨_, _, rfl, Z2, (St.dropA hS), rfl⟩
def Q8 (K : Nat) (a0 : ((List Int) × (List MpT))) (a1 : (List Int)) : Nat → Int → (List Int) → (List Int) → Option (Ex ((List Int) × (List Int)) ((List Int) × (List Int)))
 | 0, _, _, _ => none
 | k + 1, a3, a6, a4 => (if a3 < (a0.1.length : Int) then ((Ze4 K a1 a3).bind fun e1 => (if e1 = true then (if a6.length + ([(-1)]).length ≤ 1099511627776 then Q8 K a0 a1 k (a3 + 1) (a6 ++ [(-1)]) a4 else none) else (if a6.length + ([(a4.length : Int)]).length ≤ 1099511627776 then (if a4.length + ([(rd a0.1 a3)]).length ≤ 1099511627776 then Q8 K a0 a1 k (a3 + 1) (a6 ++ [(a4.length : Int)]) (a4 ++ [(rd a0.1 a3)]) else none) else none))) else some (.go (a6, a4)))
def Ze3 (K : Nat) (a0 : ((List Int) × (List MpT))) (a1 : (List Int)) : Option ((List Int) × (List Int)) := ((Q8 K a0 a1 K 0 ([] : List Int) ([] : List Int)).bind (Ex.elim (fun r => some r) (fun s => (fun (b4 : (List Int)) (b7 : (List Int)) => some (b7, b4)) s.1 s.2)))
theorem Yg1 {K : Nat} {a0 : ((List Int) × (List MpT))} {a1 : (List Int)} {r : ((List Int) × (List Int))} (q0 : Ze3 K a0 a1 = some r) {H : FH} {w : World} {L : OL} {s0 : Value} {s1 : Value} (g7 : Zn8 (Zs6 (X6 (Y6 .i64)) (X6 (X6 yT))) H s0 a0) (b9 : Y1 (Y6 .i64) H s1 a1) (hS : St H w L) :
 Calls Tryz.prog 88 #[s0, s1] w (T2 (fun v G => (R.t2 (R.sl (Y6 .i64)) (R.sl (Y6 .i64))).p (G.new H) v r) H L) := by
 obtain ⟨g8, g9, i1, j2, _, rfl, f0, ⟨_, _, rfl, ⟨c9, rfl, a7⟩, ⟨h0, rfl, g5⟩⟩, f1⟩ := g7
 have Z2 := Sub.refl H
 refine X3 Tryz.func88 rfl Tryz.ntmps88 rfl ?_
 unfold Ze3 at q0
 refine Z3 (Z0 (Z5 (vN) rfl rfl (Z5 (vN) rfl rfl (Z1 (Z3 (Z0 ?_))))))
 refine Zx2 (τ := (Y6 .i64)) Q2 ze2 rfl hS rfl ?_
 intro u1 w2 C3 h1 hS
 refine Zx2 (τ := (Y6 .i64)) Zo3 ze3 rfl hS rfl ?_
 intro u6 w7 C8 h2 hS
 refine Z5 (u1) rfl rfl (Z5 (u6) rfl rfl (Z1 (Z3 (Z3 (Z0 (Z4 (Value.pointer (some ⟨g8, g9, none⟩)) rfl rfl (P4 rfl rfl (Y3 R8 rfl rfl ?_))))))))
 refine Y4 (c9) K9 rfl (hS.froz _ _ f0) (f1 0 (show 0 < 2 by decide)) rfl ?_
 have i2 := a7.bound
 refine W7 Q2 rfl a7 rfl (Z4 (vI 0) rfl rfl (Z1 (Y8 ?_)))
 obtain ⟨e2, a9, e3⟩ := bind_some q0
 refine W5 (id := 0) (fun k f w => ∃ (a3 : Int) (a6 : (List Int)) (a4 : (List Int)) (H1 : FH) (b6 : OL) (b0 : Value) (b5 : OL) (b1 : Value), Q8 K a0 a1 k a3 a6 a4 = some e2 ∧ Sub H H1 ∧ St H1 w (b6 ++ (b5 ++ L)) ∧ 0 ≤ a3 ∧ V0 (Y6 .i64) 3 H1 b0 a6 b6 ∧ V0 (Y6 .i64) 2 H1 b1 a4 b5 ∧ Y1 (Y6 .i64) H1 s1 a1 ∧ Y1 (Y6 .i64) H1 c9 a0.1 ∧ ev f (.tmp 1) = s1 ∧ ev f (.tmp 6) = b1 ∧ ev f (.tmp 7) = b0 ∧ ev f (.tmp 15) = c9 ∧ ev f (.tmp 16) = vI (a0.1.length : Int) ∧ ev f (.tmp 17) = vI a3) (fun f w => ∃ (b4 : (List Int)) (b7 : (List Int)) (H1 : FH) (c1 : OL) (b2 : Value) (c3 : OL) (b3 : Value), e2 = .go (b4, b7) ∧ Sub H H1 ∧ St H1 w (c1 ++ (c3 ++ L)) ∧ V0 (Y6 .i64) 3 H1 b2 b4 c1 ∧ V0 (Y6 .i64) 2 H1 b3 b7 c3 ∧ ev f (.tmp 6) = b3 ∧ ev f (.tmp 7) = b2) rfl ?_ ?_ K ?_ ?_
 rintro f w ⟨a3, a6, a4, H1, b6, b0, b5, b1, a9, _⟩
 rw [Q8] at a9; cases a9
 rintro k i3 i4 e6 h3 ⟨a3, a6, a4, f2, b6, b0, b5, b1, a9, Z2, hS, g6, a8, a5, b9, a7, c6, c2, c7, c4, c5, b8⟩
 rw [Q8] at a9
 refine Z3 (Z0 ?_)
 refine V7 (k := .i64) (a := a3) (b := (a0.1.length : Int)) (by exact b8) (by exact c5) rfl (Z1 (Z3 ?_))
 by_cases d4 : a3 < (a0.1.length : Int)
 rw [if_pos d4] at a9
 refine Y0 (bT d4 rfl) (Y7 (Z3 (Y8 (Z3 (Z0 (Z4 (vI a3) (by exact b8) rfl ?_))))))
 obtain ⟨j3, j4, i5, j5, _, f3, f4, rfl, f5⟩ := a7.elem (i := a3) (by omega) (by omega)
 refine W3 Q2 rfl (by exact c4) f3 (by exact b8) (by omega) (by omega) rfl ?_
 refine Y4 (vI (rd a0.1 a3)) ty2 rfl (hS.froz _ _ f4) (f5 0 (show 0 < 1 by decide)) rfl (Z5 (vI a3) rfl rfl (Z5 (vI (rd a0.1 a3)) rfl rfl (Z1 (Z3 (Z3 (Z0 (Z4 (s1) (by exact c6) rfl (Z4 (vI a3) rfl rfl ?_))))))))
 obtain ⟨e1, f6, a9⟩ := bind_some a9
 refine Y9 Tryz.call175 (U7 rfl rfl) rfl (Ya9 f6 b9 hS) ?_
 rintro j6 j7 ⟨_, j8, rfl, d0, hS, rfl⟩
 refine ⟨_, rfl, ?_⟩
 have Z2 := Z2.trans d0
 have b9 := b9.mono d0
 have a7 := a7.mono d0
 have a5 := a5.mono d0
 have a8 := a8.mono d0
 refine Z1 ?_
 by_cases d5 : e1 = true
 rw [if_pos d5] at a9
 refine Y0 (Eq.trans rfl (congrArg Value.bool d5)) (Z3 (Z0 (Z4 (b0) (by exact c7) rfl ?_)))
 refine Zd8 (τ := (Y6 .i64)) Zo3 ze3 rfl [vI (-1)] [(-1)] rfl rfl (Za3 rfl) (Zn7 rfl) (by decide) (by decide) hS rfl ?_
 intro j9 h4 k0 d1 hS f7
 have Z2 := Z2.trans d1
 have b9 := b9.mono d1
 have a7 := a7.mono d1
 have a5 := a5.mono d1
 have a8 := a8.mono d1
 obtain ⟨f8, a9⟩ := gd a9
 refine F4 (τ := (Y6 .i64)) Wn4 rfl rfl rfl a8 hS f7 f8 rfl ?_
 intro e7 k1 h5 f9 hS
 refine Z5 (e7) rfl rfl (Z1 ?_)
 refine W4 rfl (Z0 ?_)
 refine W8 (a3 + 1) (by exact b8) rfl (IntWalk.i64_in _ (by omega)) rfl (Z4 (vI (a3 + 1)) rfl rfl (Z1 ?_))
 exact e6 _ _ ⟨(a3 + 1), (a6 ++ [(-1)]), a4, h4, h5, e7, b5, b1, a9, Z2, hS, (by omega), f9, a5, b9, a7, c6, c2, rfl, c4, c5, rfl⟩
 rw [if_neg d5] at a9
 refine Z8 (Eq.trans rfl (congrArg Value.bool (W1 d5))) (Y7 (Z3 (Z0 (Z4 (b0) (by exact c7) rfl (Z4 (b1) (by exact c2) rfl ?_)))))
 have i6 := a5.bound
 refine Wj4 Q2 rfl a5 rfl ?_
 refine Zd8 (τ := (Y6 .i64)) Zo3 ze3 rfl [vI (a4.length : Int)] [(a4.length : Int)] rfl rfl (Za3 rfl) (Zn7 rfl) (by decide) (by decide) hS rfl ?_
 intro k2 k3 k4 d2 hS g0
 have Z2 := Z2.trans d2
 have b9 := b9.mono d2
 have a7 := a7.mono d2
 have a5 := a5.mono d2
 have a8 := a8.mono d2
 obtain ⟨g1, a9⟩ := gd a9
 refine F4 (τ := (Y6 .i64)) Wn4 rfl rfl rfl a8 hS g0 g1 rfl ?_
 intro e8 k5 h6 d8 hS
 refine Z5 (e8) rfl rfl (Z1 (Z0 (Z4 (b1) (by exact c2) rfl (Z4 (vI (rd a0.1 a3)) rfl rfl ?_))))
 refine Zd8 (τ := (Y6 .i64)) Q2 ze2 rfl [vI (rd a0.1 a3)] [(rd a0.1 a3)] rfl rfl (Za3 rfl) (Zn7 rfl) (by decide) (by decide) hS rfl ?_
 intro k6 h7 k7 d3 hS g2
 have Z2 := Z2.trans d3
 have b9 := b9.mono d3
 have a7 := a7.mono d3
 have a5 := a5.mono d3
 have d8 := d8.mono d3
 obtain ⟨g3, a9⟩ := gd a9
 have hS := hS.perm U1
 refine F4 (τ := (Y6 .i64)) Xp4 rfl rfl rfl a5 hS g2 g3 rfl ?_
 intro e9 k8 h8 g4 hS
 have hS := hS.perm U1.symm
 refine Z5 (e9) rfl rfl (Z1 (X2 (Z0 ?_)))
 refine W8 (a3 + 1) (by exact b8) rfl (IntWalk.i64_in _ (by omega)) rfl (Z4 (vI (a3 + 1)) rfl rfl (Z1 ?_))
 exact e6 _ _ ⟨(a3 + 1), (a6 ++ [(a4.length : Int)]), (a4 ++ [(rd a0.1 a3)]), h7, h6, e8, h8, e9, a9, Z2, hS, (by omega), d8, g4, b9, a7, c6, rfl, rfl, c4, c5, rfl⟩
 rw [if_neg d4] at a9
 refine Z8 (bF d4 rfl) ?_
 refine W4 rfl ?_
 have hz := Option.some.inj a9
 subst hz
 exact h3 _ _ ⟨a6, a4, f2, b6, b0, b5, b1, rfl, Z2, hS, a8, a5, c2, c7⟩
 exact ⟨0, ([] : List Int), ([] : List Int), H, C8, u6, C3, u1, a9, Z2, hS, (by omega), h2, h1, b9, a7, rfl, rfl, rfl, rfl, rfl, rfl⟩
 rintro i7 i8 ⟨b4, b7, i9, c1, b2, c3, b3, rfl, Z2, hS, c0, d7, d9, e0⟩
 dsimp only [Ex.elim] at e3
 refine Z3 (Z0 (Z4 (b3) (by exact d9) rfl (Z4 (b2) (by exact e0) rfl (Z5 (b3) rfl rfl (Z5 (b2) rfl rfl (Z1 ?_))))))
 refine X0 (vs := [b3, b2]) Tryz.func88 ⟨rfl, rfl, trivial⟩ ?_
 have hS := hS.perm U1
 obtain ⟨h9, e4, hS, c8⟩ := V0.freezeF (τ := (Y6 .i64)) (H0 := H) d7 hS Z2
 have j0 := Y1.old c8
 have c8 : RdF (Y6 .i64) H h9 b3 b7 := c8
 have Z2 := Z2.trans e4
 have c0 := c0.mono e4
 obtain ⟨i0, e5, hS, d6⟩ := V0.freezeF (τ := (Y6 .i64)) (H0 := H) c0 hS Z2
 have j1 := Y1.old d6
 have d6 : RdF (Y6 .i64) H i0 b2 b4 := d6
 have Z2 := Z2.trans e5
 have c8 := c8.mono e5
 have hz := Option.some.inj e3
 subst hz
 exact ⟨_, _, rfl, Z2, hS, ⟨_, _, rfl, c8, d6⟩⟩
def Zb0 (K : Nat) (r4 : (List (List Int))) (a1 : Int) : Nat → Int → Option (Ex (Int × Int × Bool) (Unit))
 | 0, _ => none
 | k + 1, a3 => (if a3 < (r4.length : Int) then (if a3 < ((rd r4 a1).length : Int) then (if (rd (rd r4 a1) a3) = 0 then Zb0 K r4 a1 k (a3 + 1) else some (.ret (a1, a3, true))) else none) else some (.go ()))
def Zd4 (K : Nat) (r4 : (List (List Int))) : Nat → Int → Option (Ex (Int × Int × Bool) (Unit))
 | 0, _ => none
 | k + 1, a1 => (if a1 < (r4.length : Int) then ((Zb0 K r4 a1 K 0).bind (Ex.elim (fun r => some (.ret r)) (fun s => Zd4 K r4 k (a1 + 1)))) else some (.go ()))
def Zq7 (K : Nat) (a0 : ((List Int) × (List MpT))) : Option (Int × Int × Bool) := ((Zi6 K (a0.1, a0.2)).bind fun r4 => ((Zd4 K r4 K 0).bind (Ex.elim (fun r => some r) (fun s => some (0, 0, false)))))
theorem Yx1 {K : Nat} {a0 : ((List Int) × (List MpT))} {r : (Int × Int × Bool)} (q0 : Zq7 K a0 = some r) {H : FH} {w : World} {L : OL} {s0 : Value} {s1 : Value} (a6 : Y1 (Y6 .i64) H s0 a0.1) (a7 : Y1 (X6 yT) H s1 a0.2) (hS : St H w L) :
 Calls Tryz.prog 157 #[vA ([s0] ++ [s1])] w (T2 (fun v G => (R.t3 (R.int .i64) (R.int .i64) R.bool).p G v r) H L) := by
 have Z2 := Sub.refl H
 refine X3 Tryz.func157 rfl Tryz.ntmps157 rfl ?_
 unfold Zq7 at q0
 refine Z3 (Z0 ?_)
 refine S4 (v := vA ([s0] ++ [s1])) ([s0] ++ [s1]).toArray rfl rfl hS rfl ?_
 intro b1 w2 hS
 refine Z5 (vI 0) rfl rfl (Z5 (vI 0) rfl rfl (Z5 (Value.bool false) rfl rfl (Z1 (Z3 (Z0 ?_)))))
 refine W2 Q9 rfl (hS.get mL) rfl rfl ?_
 obtain ⟨r4, d5, q0⟩ := bind_some q0
 refine Y9 Tryz.call240 (R0 rfl) rfl (Yb0 d5 a6 a7 hS) ?_
 rintro e4 w5 ⟨v4, H4, rfl, c2, hS, a8⟩
 refine ⟨_, rfl, ?_⟩
 have Z2 := Z2.trans c2
 have a6 := a6.mono c2
 have a7 := a7.mono c2
 refine Z5 (v4) rfl rfl (Z1 (Z3 (Z3 (Z0 (Z5 (vI 0) rfl rfl (Z1 (Y8 ?_)))))))
 obtain ⟨c3, a5, b5⟩ := bind_some q0
 refine W5 (id := 0) (fun k f w => ∃ (a1 : Int) (H1 : FH), Zd4 K r4 k a1 = some c3 ∧ Sub H H1 ∧ St H1 w ([(b1, cA ([s0] ++ [s1]) 29)] ++ L) ∧ 0 ≤ a1 ∧ Y1 (Y6 .i64) H1 s0 a0.1 ∧ Y1 (X6 yT) H1 s1 a0.2 ∧ Y1 (X6 (Y6 .i64)) H1 v4 r4 ∧ ev f (.tmp 5) = v4 ∧ ev f (.tmp 6) = vI a1) (fun f w => ∃ (H1 : FH), c3 = .go () ∧ Sub H H1 ∧ St H1 w ([(b1, cA ([s0] ++ [s1]) 29)] ++ L) ∧ Y1 (Y6 .i64) H1 s0 a0.1 ∧ Y1 (X6 yT) H1 s1 a0.2) rfl ?_ ?_ K ?_ ?_
 rintro f w ⟨a1, H1, a5, _⟩
 rw [Zd4] at a5; cases a5
 rintro k e3 e5 d6 d7 ⟨a1, c4, a5, Z2, hS, d8, a6, a7, a8, b3, b4⟩
 rw [Zd4] at a5
 refine Z3 (Z3 (Z0 (Z4 (vI a1) (by exact b4) rfl (Z4 (v4) (by exact b3) rfl ?_))))
 have f6 := a8.bound
 refine W7 Yc6 rfl a8 rfl ?_
 refine V7 (k := .i64) (a := a1) (b := (r4.length : Int)) rfl rfl rfl (Z1 ?_)
 by_cases b8 : a1 < (r4.length : Int)
 rw [if_pos b8] at a5
 refine Y0 (bT b8 rfl) (Y7 (Z3 (Y8 (Z3 (Z0 (Z5 (vI 0) rfl rfl (Z1 (Y8 ?_))))))))
 obtain ⟨c5, a4, b6⟩ := bind_some a5
 refine W5 (id := 2) (fun k f w => ∃ (a3 : Int) (H1 : FH), Zb0 K r4 a1 k a3 = some c5 ∧ Sub H H1 ∧ St H1 w ([(b1, cA ([s0] ++ [s1]) 29)] ++ L) ∧ 0 ≤ a3 ∧ Y1 (Y6 .i64) H1 s0 a0.1 ∧ Y1 (X6 yT) H1 s1 a0.2 ∧ Y1 (X6 (Y6 .i64)) H1 v4 r4 ∧ ev f (.tmp 5) = v4 ∧ ev f (.tmp 6) = vI a1 ∧ ev f (.tmp 7) = vI a3) (fun f w => ∃ (H1 : FH), c5 = .go () ∧ Sub H H1 ∧ St H1 w ([(b1, cA ([s0] ++ [s1]) 29)] ++ L) ∧ Y1 (Y6 .i64) H1 s0 a0.1 ∧ Y1 (X6 yT) H1 s1 a0.2 ∧ Y1 (X6 (Y6 .i64)) H1 v4 r4 ∧ ev f (.tmp 5) = v4 ∧ ev f (.tmp 6) = vI a1) rfl ?_ ?_ K ?_ ?_
 rintro f w ⟨a3, H1, a4, _⟩
 rw [Zb0] at a4; cases a4
 rintro k e6 e7 d9 e0 ⟨a3, c6, a4, Z2, hS, e1, a6, a7, a8, a9, b0, b2⟩
 rw [Zb0] at a4
 refine Z3 (Z3 (Z0 (Z4 (vI a3) (by exact b2) rfl (Z4 (v4) (by exact a9) rfl ?_))))
 have f7 := a8.bound
 refine W7 Yc6 rfl a8 rfl ?_
 refine V7 (k := .i64) (a := a3) (b := (r4.length : Int)) rfl rfl rfl (Z1 ?_)
 by_cases b9 : a3 < (r4.length : Int)
 rw [if_pos b9] at a4
 refine Y0 (bT b9 rfl) (Y7 (Z3 (Y8 (Z3 (Z0 (Z4 (v4) (by exact a9) rfl (Z4 (vI a1) (by exact b0) rfl ?_)))))))
 obtain ⟨f8, f9, e8, g0, _, c7, c8, ⟨e2, rfl, c9⟩, d0⟩ := a8.elem (i := a1) (by omega) (by omega)
 refine W3 Yc6 rfl rfl c7 rfl (by omega) (by omega) rfl ?_
 refine Y4 (e2) K9 rfl (hS.froz _ _ c8) (d0 0 (show 0 < 1 by decide)) rfl (Z4 (vI a3) (by exact b2) rfl ?_)
 obtain ⟨e9, a4⟩ := gd a4
 obtain ⟨g1, g2, f0, g3, _, d1, d2, rfl, d3⟩ := c9.elem (i := a3) (by omega) (by omega)
 refine W3 Q2 rfl rfl d1 rfl (by omega) (by omega) rfl ?_
 refine Y4 (vI (rd (rd r4 a1) a3)) ty2 rfl (hS.froz _ _ d2) (d3 0 (show 0 < 1 by decide)) rfl ?_
 refine J2 (k := .i64) (a := (rd (rd r4 a1) a3)) (b := 0) rfl rfl rfl (Z1 ?_)
 by_cases b7 : (rd (rd r4 a1) a3) = 0
 rw [if_pos b7] at a4
 refine Z8 (bN b7 rfl) (Y7 (X2 (Z0 (Z4 (vI a3) (by exact b2) rfl ?_))))
 refine W8 (a3 + 1) rfl rfl (IntWalk.i64_in _ (by omega)) rfl (Z5 (vI (a3 + 1)) rfl rfl (Z1 ?_))
 exact d9 _ _ ⟨(a3 + 1), c6, a4, Z2, hS, (by omega), a6, a7, a8, a9, b0, rfl⟩
 rw [if_neg b7] at a4
 refine Y0 (bO b7 rfl) (Z3 (Z0 (Z4 (vI a1) (by exact b0) rfl (Z4 (vI a3) (by exact b2) rfl (Z5 (vI a1) rfl rfl (Z5 (vI a3) rfl rfl (Z5 (Value.bool true) rfl rfl (Z1 ?_))))))))
 refine X0 (vs := [vI a1, vI a3, Value.bool true]) Tryz.func157 ⟨rfl, rfl, rfl, trivial⟩ ?_
 have hz := Option.some.inj a4
 subst hz
 dsimp only [Ex.elim] at b6
 have hz := Option.some.inj b6
 subst hz
 dsimp only [Ex.elim] at b5
 have hz := Option.some.inj b5
 subst hz
 exact ⟨_, _, rfl, Z2, (St.dropA hS), ⟨_, _, _, rfl, rfl, rfl, rfl⟩⟩
 rw [if_neg b9] at a4
 refine Z8 (bF b9 rfl) ?_
 refine W4 rfl ?_
 have hz := Option.some.inj a4
 subst hz
 exact e0 _ _ ⟨c6, rfl, Z2, hS, a6, a7, a8, a9, b0⟩
 exact ⟨0, c4, a4, Z2, hS, (by omega), a6, a7, a8, b3, b4, rfl⟩
 rintro f1 f2 ⟨d4, rfl, Z2, hS, a6, a7, a8, c0, c1⟩
 dsimp only [Ex.elim] at b6
 refine X2 (Z0 (Z4 (vI a1) (by exact c1) rfl ?_))
 refine W8 (a1 + 1) rfl rfl (IntWalk.i64_in _ (by omega)) rfl (Z5 (vI (a1 + 1)) rfl rfl (Z1 ?_))
 exact d6 _ _ ⟨(a1 + 1), d4, b6, Z2, hS, (by omega), a6, a7, a8, c0, rfl⟩
 rw [if_neg b8] at a5
 refine Z8 (bF b8 rfl) ?_
 refine W4 rfl ?_
 have hz := Option.some.inj a5
 subst hz
 exact d7 _ _ ⟨c4, rfl, Z2, hS, a6, a7⟩
 exact ⟨0, H4, a5, Z2, hS, (by omega), a6, a7, a8, rfl, rfl⟩
 rintro f3 f4 ⟨f5, rfl, Z2, hS, a6, a7⟩
 dsimp only [Ex.elim] at b5
 refine Z3 (Z0 (Z5 (vI 0) rfl rfl (Z5 (vI 0) rfl rfl (Z5 (Value.bool false) rfl rfl (Z1 ?_)))))
 refine X0 (vs := [vI 0, vI 0, Value.bool false]) Tryz.func157 ⟨rfl, rfl, rfl, trivial⟩ ?_
 have hz := Option.some.inj b5
 subst hz
 exact ⟨_, _, rfl, Z2, (St.dropA hS), ⟨_, _, _, rfl, rfl, rfl, rfl⟩⟩
def M3 (K : Nat) (a0 : ((List Int) × (List MpT))) : Nat → Int → M8 → Option (Ex M8 (M8))
 | 0, _, _ => none
 | k + 1, a1, a5 => (if a1 < (a0.2.length : Int) then ((Zg3 K (rd a0.2 a1)).bind fun c7 => (if a1 < 8 then M3 K a0 k (a1 + 1) (Xf8 a5 a1 c7) else none)) else some (.go a5))
def Zf4 (K : Nat) (a0 : ((List Int) × (List MpT))) : Option M8 := ((M3 K a0 K 0 (fun _ => ([] : MpT))).bind (Ex.elim (fun r => some r) (fun s => (fun (a9 : M8) => some a9) s)))
theorem Yi1 {K : Nat} {a0 : ((List Int) × (List MpT))} {r : M8} (q0 : Zf4 K a0 = some r) {H : FH} {w : World} {L : OL} {s0 : Value} (e4 : Zn8 (Zs6 (X6 (Y6 .i64)) (X6 (X6 yT))) H s0 a0) (hS : St H w L) :
 Calls Tryz.prog 146 #[s0] w (T2 (fun v G => (R.agg (tyV .i64)).p G v r) H L) := by
 obtain ⟨e5, e6, f1, g0, _, rfl, d3, ⟨_, _, rfl, ⟨e7, rfl, e2⟩, ⟨b4, rfl, a3⟩⟩, d4⟩ := e4
 have Z2 := Sub.refl H
 refine X3 Tryz.func146 rfl Tryz.ntmps146 rfl ?_
 unfold Zf4 at q0
 refine Z3 (Z0 ?_)
 have b1 : RdV .i64 H Zn6 (fun _ => ([] : MpT)) := RdV.nil
 refine V1 (z := vA (N7 Zn6)) (N7 Zn6).toArray Xz1.zero rfl hS rfl ?_
 intro b2 w3 hS
 refine Z1 (Z3 (Z0 ?_))
 have d2 : RdV .i64 H Zn6 (fun _ => ([] : MpT)) := RdV.nil
 refine Q1 (vA (N7 Zn6)) Wy6 rfl ?_
 have g1 : RdV .i64 H Zn6 (fun _ => ([] : MpT)) := RdV.nil
 refine V1 (z := vA (N7 Zn6)) (N7 Zn6).toArray Xz1.zero rfl hS rfl ?_
 intro b7 w8 hS
 refine W0 (v := vA (N7 Zn6)) (vs := (N7 Zn6).toArray) (cs := (N7 Zn6).toArray) Xd8 rfl rfl rfl hS rfl (Yp8 d2) rfl ?_
 intro g2 hS
 refine Z1 (Z3 (Z3 (Z0 (Z4 (Value.pointer (some ⟨e5, e6, none⟩)) rfl rfl (P4 rfl rfl (Y3 N8 rfl rfl ?_))))))
 refine Y4 (b4) Zf9 rfl (hS.froz _ _ d3) (d4 1 (show 1 < 2 by decide)) rfl ?_
 have f2 := a3.bound
 refine W7 I1 rfl a3 rfl (Z4 (vI 0) rfl rfl (Z1 (Y8 ?_)))
 obtain ⟨c8, a6, c9⟩ := bind_some q0
 refine W5 (id := 0) (fun k f w => ∃ (a1 : Int) (a5 : M8) (H1 : FH) (a4 : V8), M3 K a0 k a1 a5 = some c8 ∧ Sub H H1 ∧ St H1 w ([(b7, cA (N7 a4) 182)] ++ ([(b2, cA (N7 Zn6) 182)] ++ L)) ∧ 0 ≤ a1 ∧ RdV .i64 H1 a4 a5 ∧ RdV .i64 H1 Zn6 (fun _ => ([] : MpT)) ∧ Y1 (X6 yT) H1 b4 a0.2 ∧ ev f (.tmp 2) = vP b2 ∧ ev f (.tmp 3) = vP b7 ∧ ev f (.tmp 10) = b4 ∧ ev f (.tmp 11) = vI (a0.2.length : Int) ∧ ev f (.tmp 12) = vI a1) (fun f w => ∃ (a9 : M8) (H1 : FH) (a7 : V8), c8 = .go a9 ∧ Sub H H1 ∧ St H1 w ([(b7, cA (N7 a7) 182)] ++ ([(b2, cA (N7 Zn6) 182)] ++ L)) ∧ RdV .i64 H1 a7 a9 ∧ RdV .i64 H1 Zn6 (fun _ => ([] : MpT)) ∧ ev f (.tmp 2) = vP b2 ∧ ev f (.tmp 3) = vP b7) rfl ?_ ?_ K ?_ ?_
 rintro f w ⟨a1, a5, H1, a4, a6, _⟩
 rw [M3] at a6; cases a6
 rintro k f3 f4 e8 e9 ⟨a1, a5, d5, a4, a6, Z2, hS, e3, a8, b1, a3, b9, b3, b5, b6, b0⟩
 rw [M3] at a6
 refine Z3 (Z0 ?_)
 refine V7 (k := .i64) (a := a1) (b := (a0.2.length : Int)) (by exact b0) (by exact b6) rfl (Z1 (Z3 ?_))
 by_cases c1 : a1 < (a0.2.length : Int)
 rw [if_pos c1] at a6
 refine Y0 (bT c1 rfl) (Y7 (Z3 (Y8 (Z3 (Z0 (Z4 (vI a1) (by exact b0) rfl ?_))))))
 obtain ⟨g3, g4, f5, g5, _, d6, d7, ⟨c2, rfl, c5⟩, d8⟩ := a3.elem (i := a1) (by omega) (by omega)
 refine W3 I1 rfl (by exact b5) d6 (by exact b0) (by omega) (by omega) rfl ?_
 refine V6 ([c2]) T1 rfl (hS.froz _ _ d7) rfl d8 rfl ?_
 refine V1 (z := vA ([vN])) ([vN]).toArray Zd2.zero rfl hS rfl ?_
 intro g6 g7 hS
 refine Z5 (vI a1) rfl rfl ?_
 refine W0 (v := vA ([c2])) (vs := ([c2]).toArray) (cs := ([vN]).toArray) T1 rfl rfl rfl hS rfl (T8 c5.isOne) rfl ?_
 intro g8 hS
 refine Z1 (Z0 (Z4 (vI a1) rfl rfl ?_))
 refine W2 T1 rfl (hS.get mL) rfl rfl ?_
 obtain ⟨c7, d9, a6⟩ := bind_some a6
 refine Y9 Tryz.call90 (R0 rfl) rfl (Zp5 d9 c5 hS) ?_
 rintro g9 h0 ⟨d0, h1, h2, rfl, c3, hS, e0⟩
 refine ⟨_, rfl, ?_⟩
 have Z2 := Z2.trans c3
 have a3 := a3.mono c3
 have b1 := b1.mono c3
 have a8 := a8.mono c3
 obtain ⟨f6, a6⟩ := gd a6
 refine V5 Wm6 (by exact b3) rfl (by omega) (by omega) rfl ?_
 obtain ⟨f0, c4, hS, d1⟩ := e0.freeze hS
 have Z2 := Z2.trans c4
 have a3 := a3.mono c4
 have b1 := b1.mono c4
 have a8 := a8.mono c4
 have hS := hS.perm U1
 have e1 := RdV.upd a8 (a1) d1
 refine Zg5 (v := d0) (cs := (N7 a4).toArray) (cs' := (N7 (Xs9 a4 a1 d0)).toArray) Xd9 rfl rfl hS d1.isOne rfl (by simp [Z7, N7]; omega) (Wj1 (by omega) (by omega)) ?_
 intro h3 hS
 have hS := hS.perm U1.symm
 refine Z1 (X2 (Z0 ?_))
 refine W8 (a1 + 1) (by exact b0) rfl (IntWalk.i64_in _ (by omega)) rfl (Z4 (vI (a1 + 1)) rfl rfl (Z1 ?_))
 have hS := St.dropA hS
 exact e8 _ _ ⟨(a1 + 1), (Xf8 a5 a1 c7), f0, (Xs9 a4 a1 d0), a6, Z2, hS, (by omega), e1, b1, a3, b9, b3, b5, b6, rfl⟩
 rw [if_neg c1] at a6
 refine Z8 (bF c1 rfl) ?_
 refine W4 rfl ?_
 have hz := Option.some.inj a6
 subst hz
 exact e9 _ _ ⟨a5, d5, a4, rfl, Z2, hS, a8, b1, b9, b3⟩
 exact ⟨0, (fun _ => ([] : MpT)), H, Zn6, a6, Z2, hS, (by omega), d2, b1, a3, rfl, rfl, rfl, rfl, rfl⟩
 rintro f7 f8 ⟨a9, f9, a7, rfl, Z2, hS, b8, b1, c0, c6⟩
 dsimp only [Ex.elim] at c9
 refine Z3 (Z0 ?_)
 refine W2 Xd8 (by exact c6) (hS.get mL) rfl rfl ?_
 have hS := hS.perm U1
 refine W0 (v := vA (N7 a7)) (vs := (N7 a7).toArray) (cs := (N7 Zn6).toArray) Xd8 (by exact c0) rfl rfl hS rfl (Yp8 b8) rfl ?_
 intro h4 hS
 have hS := hS.perm U1.symm
 refine Z1 ?_
 refine X0 (vs := [vA (N7 a7)]) Tryz.func146 ⟨⟨_, (by exact c0), U5 Xd8 (hS.get (mR mL)) rfl⟩, trivial⟩ ?_
 have hz := Option.some.inj c9
 subst hz
 exact ⟨_, _, rfl, Z2, (St.dropA (St.dropA hS)), ⟨_, rfl, ⟨_, rfl, b8⟩⟩⟩
def Zb4 (K : Nat) (a0 : (List MpT)) : Nat → Int → Int → Option (Ex Int (Int))
 | 0, _, _ => none
 | k + 1, a5, a3 => (if a3 < (a0.length : Int) then ((Zt4 K (rd a0 a3) a5).bind fun r6 => (if r6 < 0 then some (.ret (-1)) else Zb4 K a0 k r6 (a3 + 1))) else some (.go a5))
def Zw7 (K : Nat) (a0 : (List MpT)) (a1 : Int) : Option Int := (if (IntKind.i64.wrap (a1 - (a0.length : Int))) < 0 then some (-1) else ((Zb4 K a0 K (IntKind.i64.wrap (a1 - (a0.length : Int))) 0).bind (Ex.elim (fun r => some r) (fun s => (fun (a6 : Int) => some a6) s))))
theorem Yw9 {K : Nat} {a0 : (List MpT)} {a1 : Int} {r : Int} (q0 : Zw7 K a0 a1 = some r) {H : FH} {w : World} {L : OL} {s0 : Value} (a7 : Y1 (X6 yT) H s0 a0) (hS : St H w L) :
 Calls Tryz.prog 33 #[s0, vI a1] w (T2 (fun v G => (R.int .i64).p G v r) H L) := by
 have Z2 := Sub.refl H
 refine X3 Tryz.func33 rfl Tryz.ntmps33 rfl ?_
 unfold Zw7 at q0
 refine Z3 (Z0 (Z5 (vI 0) rfl rfl (Z1 (Z3 (Z0 (Z4 (vI a1) rfl rfl (Z4 (s0) rfl rfl ?_)))))))
 have d4 := a7.bound
 refine W7 Xf9 rfl a7 rfl ?_
 refine Yc4 (IntKind.i64.wrap (a1 - (a0.length : Int))) rfl rfl rfl rfl (Z5 (vI (IntKind.i64.wrap (a1 - (a0.length : Int)))) rfl rfl (Z1 (Z3 (Z3 (Z0 (Z4 (vI (IntKind.i64.wrap (a1 - (a0.length : Int)))) rfl rfl ?_))))))
 refine V7 (k := .i64) (a := (IntKind.i64.wrap (a1 - (a0.length : Int)))) (b := 0) rfl rfl rfl (Z1 ?_)
 by_cases b2 : (IntKind.i64.wrap (a1 - (a0.length : Int))) < 0
 rw [if_pos b2] at q0
 refine Y0 (bT b2 rfl) (Z3 (Z0 (Z5 (vI (-1)) rfl rfl (Z1 ?_))))
 refine X0 (vs := [vI (-1)]) Tryz.func33 ⟨rfl, trivial⟩ ?_
 have hz := Option.some.inj q0
 subst hz
 exact ⟨_, _, rfl, Z2, hS, rfl⟩
 rw [if_neg b2] at q0
 refine Z8 (bF b2 rfl) (Y7 (Z3 (Z3 (Z0 (Z5 (vI 0) rfl rfl (Z1 (Y8 ?_)))))))
 obtain ⟨b7, a4, b1⟩ := bind_some q0
 refine W5 (id := 0) (fun k f w => ∃ (a5 : Int) (a3 : Int) (H1 : FH), Zb4 K a0 k a5 a3 = some b7 ∧ Sub H H1 ∧ St H1 w (L) ∧ 0 ≤ a3 ∧ Y1 (X6 yT) H1 s0 a0 ∧ ev f (.tmp 0) = s0 ∧ ev f (.tmp 1) = vI a5 ∧ ev f (.tmp 5) = vI a3) (fun f w => ∃ (a6 : Int) (H1 : FH), b7 = .go a6 ∧ Sub H H1 ∧ St H1 w (L) ∧ ev f (.tmp 1) = vI a6) rfl ?_ ?_ K ?_ ?_
 rintro f w ⟨a5, a3, H1, a4, _⟩
 rw [Zb4] at a4; cases a4
 rintro k c9 d0 c2 c3 ⟨a5, a3, c0, a4, Z2, hS, c4, a7, a8, b0, a9⟩
 rw [Zb4] at a4
 refine Z3 (Z3 (Z0 (Z4 (vI a3) (by exact a9) rfl (Z4 (s0) (by exact a8) rfl ?_))))
 have d5 := a7.bound
 refine W7 Xf9 rfl a7 rfl ?_
 refine V7 (k := .i64) (a := a3) (b := (a0.length : Int)) rfl rfl rfl (Z1 ?_)
 by_cases b3 : a3 < (a0.length : Int)
 rw [if_pos b3] at a4
 refine Y0 (bT b3 rfl) (Y7 (Z3 (Y8 (Z3 (Z0 (Z4 (s0) (by exact a8) rfl (Z4 (vI a3) (by exact a9) rfl ?_)))))))
 obtain ⟨b5, o5, d6, E5, _, c5, c6, ⟨c1, rfl, b8⟩, c7⟩ := a7.elem (i := a3) (by omega) (by omega)
 refine W3 Xf9 rfl rfl c5 rfl (by omega) (by omega) rfl ?_
 refine V6 ([c1]) Wy5 rfl (hS.froz _ _ c6) rfl c7 rfl (Z4 (vI a5) (by exact b0) rfl ?_)
 obtain ⟨r6, c8, a4⟩ := bind_some a4
 refine Y9 Tryz.call27 (U7 rfl rfl) rfl (Xa4 c8 b8 hS) ?_
 rintro e6 w7 ⟨_, H6, rfl, b9, hS, rfl⟩
 refine ⟨_, rfl, ?_⟩
 have Z2 := Z2.trans b9
 have a7 := a7.mono b9
 refine Z5 (vI r6) rfl rfl (Z1 (Z3 (Z0 (Z4 (vI r6) rfl rfl ?_))))
 refine V7 (k := .i64) (a := r6) (b := 0) rfl rfl rfl (Z1 ?_)
 by_cases b4 : r6 < 0
 rw [if_pos b4] at a4
 refine Y0 (bT b4 rfl) (Z3 (Z0 (Z5 (vI (-1)) rfl rfl (Z1 ?_))))
 refine X0 (vs := [vI (-1)]) Tryz.func33 ⟨rfl, trivial⟩ ?_
 have hz := Option.some.inj a4
 subst hz
 dsimp only [Ex.elim] at b1
 have hz := Option.some.inj b1
 subst hz
 exact ⟨_, _, rfl, Z2, hS, rfl⟩
 rw [if_neg b4] at a4
 refine Z8 (bF b4 rfl) (Y7 (X2 (Z0 (Z4 (vI a3) (by exact a9) rfl ?_))))
 refine W8 (a3 + 1) rfl rfl (IntWalk.i64_in _ (by omega)) rfl (Z5 (vI (a3 + 1)) rfl rfl (Z1 ?_))
 exact c2 _ _ ⟨r6, (a3 + 1), H6, a4, Z2, hS, (by omega), a7, a8, rfl, rfl⟩
 rw [if_neg b3] at a4
 refine Z8 (bF b3 rfl) ?_
 refine W4 rfl ?_
 have hz := Option.some.inj a4
 subst hz
 exact c3 _ _ ⟨a5, c0, rfl, Z2, hS, b0⟩
 exact ⟨(IntKind.i64.wrap (a1 - (a0.length : Int))), 0, H, a4, Z2, hS, (by omega), a7, rfl, rfl, rfl⟩
 rintro d1 d2 ⟨a6, d3, rfl, Z2, hS, b6⟩
 dsimp only [Ex.elim] at b1
 refine Z3 (Z0 (Z4 (vI a6) (by exact b6) rfl (Z5 (vI a6) rfl rfl (Z1 ?_))))
 refine X0 (vs := [vI a6]) Tryz.func33 ⟨rfl, trivial⟩ ?_
 have hz := Option.some.inj b1
 subst hz
 exact ⟨_, _, rfl, Z2, hS, rfl⟩
def Zk9 (K : Nat) (a0 : (List Int)) (a1 : MpT) (a2 : Int) : Option Bool := ((Zu6 K a0 a1).bind fun r4 => (if r4.2 = true then (if r4.1 = (-1) then some true else some (decide (r4.1 = a2))) else some false))
theorem Yo7 {K : Nat} {a0 : (List Int)} {a1 : MpT} {a2 : Int} {r : Bool} (q0 : Zk9 K a0 a1 a2 = some r) {H : FH} {w : World} {L : OL} {s0 : Value} {s1 : Value} (a5 : Y1 (Y6 .i64) H s0 a0) (a6 : Y1 yT H s1 a1) (hS : St H w L) :
 Calls Tryz.prog 126 #[s0, vA ([s1]), vI a2] w (T2 (fun v G => R.bool.p G v r) H L) := by
 have Z2 := Sub.refl H
 refine X3 Tryz.func126 rfl Tryz.ntmps126 rfl ?_
 unfold Zk9 at q0
 refine Z3 (Z0 ?_)
 refine S4 (v := vA ([s1])) ([s1]).toArray rfl rfl hS rfl ?_
 intro b1 w2 hS
 refine Z5 (Value.bool false) rfl rfl (Z1 (Z3 (Z0 (Z4 (s0) rfl rfl ?_))))
 refine W2 T1 rfl (hS.get mL) rfl rfl ?_
 obtain ⟨r4, a7, q0⟩ := bind_some q0
 refine Y9 Tryz.call130 (U7 rfl rfl) rfl (Yu6 a7 a5 a6 hS) ?_
 rintro e4 w5 ⟨_, H4, rfl, a8, hS, ⟨a9, b0, rfl, rfl, rfl⟩⟩
 refine ⟨_, rfl, ?_⟩
 have Z2 := Z2.trans a8
 refine Z4 (Value.tuple #[vI r4.1, Value.bool r4.2]) rfl rfl (W9 (vI r4.1) rfl rfl rfl (W9 (Value.bool r4.2) rfl rfl rfl (Z5 (vI r4.1) rfl rfl (Z5 (Value.bool r4.2) rfl rfl (Z1 (Z3 (Z0 (Z4 (Value.bool r4.2) rfl rfl (Z4 (Value.bool r4.2) rfl rfl ?_)))))))))
 by_cases a3 : r4.2 = true
 rw [if_pos a3] at q0
 refine Y2 rfl rfl (Eq.trans rfl (congrArg Value.bool a3)) (Z4 (vI r4.1) rfl rfl ?_)
 refine Y2 rfl rfl (Eq.trans rfl (congrArg Value.bool a3)) ?_
 refine Za4 (k := .i64) (a := r4.1) (b := (-1)) rfl rfl rfl ?_
 refine Y2 rfl rfl (Eq.trans rfl (congrArg Value.bool a3)) (Z4 (Value.bool (decide (r4.1 = (-1)))) rfl rfl ?_)
 by_cases a4 : r4.1 = (-1)
 rw [if_pos a4] at q0
 refine Z9 rfl rfl (bT a4 rfl) rfl rfl rfl (Z9 rfl rfl (bT a4 rfl) rfl rfl rfl (Z9 rfl rfl (bT a4 rfl) rfl rfl rfl ?_))
 refine Y2 rfl rfl (Eq.trans rfl (congrArg Value.bool a3)) ?_
 refine V2 (t := true) (Value.bool true) (bT a4 rfl) ((if_pos rfl).trans rfl) rfl ?_
 refine V2 (t := true) (Value.bool true) (Eq.trans rfl (congrArg Value.bool a3)) ((if_pos rfl).trans rfl) rfl (Z5 (Value.bool true) rfl rfl (Z1 ?_))
 refine X0 (vs := [Value.bool true]) Tryz.func126 ⟨rfl, trivial⟩ ?_
 have hz := Option.some.inj q0
 subst hz
 exact ⟨_, _, rfl, Z2, (St.dropA hS), rfl⟩
 rw [if_neg a4] at q0
 refine Y2 rfl rfl (bF a4 rfl) (Z4 (vI r4.1) rfl rfl ?_)
 refine Y2 rfl rfl (bF a4 rfl) (Z4 (vI a2) rfl rfl ?_)
 refine Y2 rfl rfl (bF a4 rfl) ?_
 refine Za4 (k := .i64) (a := r4.1) (b := a2) rfl rfl rfl ?_
 refine Y2 rfl rfl (Eq.trans rfl (congrArg Value.bool a3)) ?_
 refine V2 (t := false) (Value.bool (decide (r4.1 = a2))) (bF a4 rfl) ((if_neg Bool.false_ne_true).trans rfl) rfl ?_
 refine V2 (t := true) (Value.bool (decide (r4.1 = a2))) (Eq.trans rfl (congrArg Value.bool a3)) ((if_pos rfl).trans rfl) rfl (Z5 (Value.bool (decide (r4.1 = a2))) rfl rfl (Z1 ?_))
 refine X0 (vs := [Value.bool (decide (r4.1 = a2))]) Tryz.func126 ⟨rfl, trivial⟩ ?_
 have hz := Option.some.inj q0
 subst hz
 exact ⟨_, _, rfl, Z2, (St.dropA hS), rfl⟩
 rw [if_neg a3] at q0
 refine Z9 rfl rfl (Eq.trans rfl (congrArg Value.bool (W1 a3))) rfl rfl rfl (Z9 rfl rfl (Eq.trans rfl (congrArg Value.bool (W1 a3))) rfl rfl rfl (Z9 rfl rfl (Eq.trans rfl (congrArg Value.bool (W1 a3))) rfl rfl rfl ?_))
 refine U3 rfl rfl rfl rfl rfl ?_
 refine U3 rfl rfl rfl rfl rfl ?_
 refine U3 rfl rfl rfl rfl rfl (Z9 rfl rfl (Eq.trans rfl (congrArg Value.bool (W1 a3))) rfl rfl rfl ?_)
 refine V2 (t := false) (Value.bool false) (Eq.trans rfl (congrArg Value.bool (W1 a3))) ((if_neg Bool.false_ne_true).trans rfl) rfl (Z5 (Value.bool false) rfl rfl (Z1 ?_))
 refine X0 (vs := [Value.bool false]) Tryz.func126 ⟨rfl, trivial⟩ ?_
 have hz := Option.some.inj q0
 subst hz
 exact ⟨_, _, rfl, Z2, (St.dropA hS), rfl⟩
def Zf2 (K : Nat) (a0 : ((List Int) × (List MpT))) (a1 : Int) : Option Int := ((Zk6 K a0.1 a1).bind fun r4 => (if r4 < 0 then some (-1) else ((Ze7 K a0.2 r4).bind fun r7 => (if r7 < 0 then some (-1) else some r7))))
theorem Zy5 {K : Nat} {a0 : ((List Int) × (List MpT))} {a1 : Int} {r : Int} (q0 : Zf2 K a0 a1 = some r) {H : FH} {w : World} {L : OL} {s0 : Value} {s1 : Value} (a7 : Y1 (Y6 .i64) H s0 a0.1) (a5 : Y1 (X6 yT) H s1 a0.2) (hS : St H w L) :
 Calls Tryz.prog 21 #[vA ([s0] ++ [s1]), vI a1] w (T2 (fun v G => (R.int .i64).p G v r) H L) := by
 have Z2 := Sub.refl H
 refine X3 Tryz.func21 rfl Tryz.ntmps21 rfl ?_
 unfold Zf2 at q0
 refine Z3 (Z0 ?_)
 refine S4 (v := vA ([s0] ++ [s1])) ([s0] ++ [s1]).toArray rfl rfl hS rfl ?_
 intro b1 w2 hS
 refine Z5 (vI 0) rfl rfl (Z1 (Z3 (Z0 (Y3 R8 rfl rfl ?_))))
 refine Y4 (s0) K9 rfl (hS.get mL) rfl rfl (Z4 (vI a1) rfl rfl ?_)
 obtain ⟨r4, a8, q0⟩ := bind_some q0
 refine Y9 Tryz.call26 (U7 rfl rfl) rfl (Yp0 a8 a7 hS) ?_
 rintro e4 w5 ⟨_, H4, rfl, a6, hS, rfl⟩
 refine ⟨_, rfl, ?_⟩
 have Z2 := Z2.trans a6
 have a5 := a5.mono a6
 refine Z5 (vI r4) rfl rfl (Z1 (Z3 (Z3 (Z0 (Z4 (vI r4) rfl rfl ?_)))))
 refine V7 (k := .i64) (a := r4) (b := 0) rfl rfl rfl (Z1 ?_)
 by_cases a3 : r4 < 0
 rw [if_pos a3] at q0
 refine Y0 (bT a3 rfl) (Z3 (Z0 (Z5 (vI (-1)) rfl rfl (Z1 ?_))))
 refine X0 (vs := [vI (-1)]) Tryz.func21 ⟨rfl, trivial⟩ ?_
 have hz := Option.some.inj q0
 subst hz
 exact ⟨_, _, rfl, Z2, (St.dropA hS), rfl⟩
 rw [if_neg a3] at q0
 refine Z8 (bF a3 rfl) (Y7 (Z3 (Z0 (Y3 N8 rfl rfl ?_))))
 refine Y4 (s1) Zf9 rfl (hS.get mL) rfl rfl (Z4 (vI r4) rfl rfl ?_)
 obtain ⟨r7, a9, q0⟩ := bind_some q0
 refine Y9 Tryz.call72 (U7 rfl rfl) rfl (Zu0 a9 a5 hS) ?_
 rintro e7 w8 ⟨_, H7, rfl, b0, hS, rfl⟩
 refine ⟨_, rfl, ?_⟩
 have Z2 := Z2.trans b0
 refine Z5 (vI r7) rfl rfl (Z1 (Z3 (Z3 (Z0 (Z4 (vI r7) rfl rfl ?_)))))
 refine V7 (k := .i64) (a := r7) (b := 0) rfl rfl rfl (Z1 ?_)
 by_cases a4 : r7 < 0
 rw [if_pos a4] at q0
 refine Y0 (bT a4 rfl) (Z3 (Z0 (Z5 (vI (-1)) rfl rfl (Z1 ?_))))
 refine X0 (vs := [vI (-1)]) Tryz.func21 ⟨rfl, trivial⟩ ?_
 have hz := Option.some.inj q0
 subst hz
 exact ⟨_, _, rfl, Z2, (St.dropA hS), rfl⟩
 rw [if_neg a4] at q0
 refine Z8 (bF a4 rfl) (Y7 (Z3 (Z0 (Z4 (vI r7) rfl rfl (Z5 (vI r7) rfl rfl (Z1 ?_))))))
 refine X0 (vs := [vI r7]) Tryz.func21 ⟨rfl, trivial⟩ ?_
 have hz := Option.some.inj q0
 subst hz
 exact ⟨_, _, rfl, Z2, (St.dropA hS), rfl⟩
def Zl3 (K : Nat) (a0 : (List Int)) : Option Bool := (if (a0.length : Int) ≤ 8 then ((L6 K a0 (fun x => Zl8 K x)).bind fun r3 => some (!r3)) else some false)
theorem Yp6 {K : Nat} {a0 : (List Int)} {r : Bool} (q0 : Zl3 K a0 = some r) {H : FH} {w : World} {L : OL} {s0 : Value} (a3 : Y1 (Y6 .i64) H s0 a0) (hS : St H w L) :
 Calls Tryz.prog 124 #[s0] w (T2 (fun v G => R.bool.p G v r) H L) := by
 have Z2 := Sub.refl H
 refine X3 Tryz.func124 rfl Tryz.ntmps124 rfl ?_
 unfold Zl3 at q0
 refine Z3 (Z0 (Z5 (Value.bool false) rfl rfl (Z1 (Z3 (Z0 (Z4 (s0) rfl rfl ?_))))))
 have a8 := a3.bound
 refine W7 Q2 rfl a3 rfl ?_
 refine Yv7 (k := .i64) (a := (a0.length : Int)) (b := 8) rfl rfl rfl (Z4 (Value.bool (decide ((a0.length : Int) ≤ 8))) rfl rfl ?_)
 by_cases a1 : (a0.length : Int) ≤ 8
 rw [if_pos a1] at q0
 refine Y2 rfl rfl (bT a1 rfl) (Z4 (s0) rfl rfl ?_)
 obtain ⟨r3, a4, q0⟩ := bind_some q0
 refine Y2 rfl rfl (bT a1 rfl) ?_
 refine Y9 Tryz.call218 (U7 rfl rfl) rfl (Zv0 a4 a3 ⟨219, #[], rfl, Tryz.call219, fun H2 w2 L2 v x b a9 a5 hv a6 => by obtain rfl := hv; exact Yi7 a6   a5⟩ hS) ?_
 rintro e3 w5 ⟨_, H3, rfl, a7, hS, rfl⟩
 refine ⟨_, rfl, ?_⟩
 have Z2 := Z2.trans a7
 refine Y2 rfl rfl (bT a1 rfl) (M4 (b := r3) rfl rfl ?_)
 refine V2 (t := true) (Value.bool (!r3)) (bT a1 rfl) ((if_pos rfl).trans rfl) rfl (Z5 (Value.bool (!r3)) rfl rfl (Z1 ?_))
 refine X0 (vs := [Value.bool (!r3)]) Tryz.func124 ⟨rfl, trivial⟩ ?_
 have hz := Option.some.inj q0
 subst hz
 exact ⟨_, _, rfl, Z2, hS, rfl⟩
 rw [if_neg a1] at q0
 refine Z9 rfl rfl (bF a1 rfl) rfl rfl rfl (Z9 rfl rfl (bF a1 rfl) rfl rfl rfl (Z9 rfl rfl (bF a1 rfl) rfl rfl rfl ?_))
 refine V2 (t := false) (Value.bool false) (bF a1 rfl) ((if_neg Bool.false_ne_true).trans rfl) rfl (Z5 (Value.bool false) rfl rfl (Z1 ?_))
 refine X0 (vs := [Value.bool false]) Tryz.func124 ⟨rfl, trivial⟩ ?_
 have hz := Option.some.inj q0
 subst hz
 exact ⟨_, _, rfl, Z2, hS, rfl⟩
end Go.Proofs.YtfodlhkoafhplaaGreat
