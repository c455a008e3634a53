/- Walks of functions: each computes its pure function, if that gives a value. -/
import Derived.Test.YtfodlhkoafhplaaGreatVTy
import Derived.Test.YtfodlhkoafhplaaGreatVF1
import Derived.Test.YtfodlhkoafhplaaGreatVF2
import Derived.Test.YtfodlhkoafhplaaGreatVF3
namespace Go.Proofs.YtfodlhkoafhplaaGreat
open Go
set_option linter.unusedSimpArgs false
set_option linter.unusedVariables false
set_option maxRecDepth 100000
set_option maxHeartbeats 8000000
def Zc7 (K : Nat) (j5 : Int → (List Int) → Option (Ex (List (List Int)) ((List Int)))) (a0 : ((List Int) × (List MpT))) (a1 : Int) (a3 : Int) (a5 : Int) (a6 : (List Int)) (c1 : Bool) : Option (Ex (List (List Int)) ((List Int))) := (if c1 = true then (if a5 < 8 then (if (Y5 ((rd (rd a0.2 a1) a3).1) a5) = 1 then (if a5 < (a6.length : Int) then j5 (a5 + 1) (a6.set (a5).toNat ((rd (rd a0.2 a1) a3).2)) else none) else j5 (a5 + 1) a6) else none) else some (.go a6))
def P0 (K : Nat) (a0 : ((List Int) × (List MpT))) (a1 : Int) (a3 : Int) : Nat → Int → (List Int) → Option (Ex (List (List Int)) ((List Int)))
 | 0, _, _ => none
 | k + 1, a5, a6 => (if a5 < (a0.1.length : Int) then ((Zr1 K ((rd (rd a0.2 a1) a3).1)).bind fun g9 => Zc7 K (P0 K a0 a1 a3 k) a0 a1 a3 a5 a6 (decide (g9 = 1))) else Zc7 K (P0 K a0 a1 a3 k) a0 a1 a3 a5 a6 false)
def E1 (K : Nat) (a0 : ((List Int) × (List MpT))) (a1 : Int) : Nat → Int → (List Int) → Option (Ex (List (List Int)) ((List Int)))
 | 0, _, _ => none
 | k + 1, a3, b6 => (if a3 < ((rd a0.2 a1).length : Int) then ((P0 K a0 a1 a3 K 0 b6).bind (Ex.elim (fun r => some (.ret r)) (fun s => (fun (c2 : (List Int)) => E1 K a0 a1 k (a3 + 1) c2) s))) else some (.go b6))
def D1 (K : Nat) (a0 : ((List Int) × (List MpT))) : Nat → Int → (List (List Int)) → Option (Ex (List (List Int)) ((List (List Int))))
 | 0, _, _ => none
 | k + 1, a1, a9 => (if a1 < (a0.2.length : Int) then (if (a0.1.length : Int) ≤ 1099511627776 then ((E1 K a0 a1 K 0 (List.replicate ((a0.1.length : Int)).toNat (0 : Int))).bind (Ex.elim (fun r => some (.ret r)) (fun s => (fun (b7 : (List Int)) => (if a9.length + ([b7]).length ≤ 1099511627776 then D1 K a0 k (a1 + 1) (a9 ++ [b7]) else none)) s))) else none) else some (.go a9))
def Zi6 (K : Nat) (a0 : ((List Int) × (List MpT))) : Option (List (List Int)) := ((D1 K a0 K 0 ([] : List (List Int))).bind (Ex.elim (fun r => some r) (fun s => (fun (d1 : (List (List Int))) => some d1) s)))
theorem Yb0 {K : Nat} {a0 : ((List Int) × (List MpT))} {r : (List (List Int))} (q0 : Zi6 K a0 = some r) {H : FH} {w : World} {L : OL} {s0 : Value} {s1 : Value} (b3 : Y1 (Y6 .i64) H s0 a0.1) (b4 : Y1 (X6 yT) H s1 a0.2) (hS : St H w L) :
 Calls Tryz.prog 240 #[vA ([s0] ++ [s1])] w (T2 (fun v G => (R.sl (X6 (Y6 .i64))).p G v r) H L) := by
 have Z2 := Sub.refl H
 refine X3 Tryz.func240 rfl Tryz.ntmps240 rfl ?_
 unfold Zi6 at q0
 refine Z3 (Z0 ?_)
 refine S4 (v := vA ([s0] ++ [s1])) ([s0] ++ [s1]).toArray rfl rfl hS rfl ?_
 intro b1 w2 hS
 refine Z5 (vN) rfl rfl (Z1 (Z3 (Z0 ?_)))
 refine Zx2 (τ := (X6 (Y6 .i64))) Yc6 Xm2 rfl hS rfl ?_
 intro u4 w5 C6 m0 hS
 refine Z5 (u4) rfl rfl (Z1 (Z3 (Z3 (Z0 (Z5 (vI 0) rfl rfl (Z1 (Y8 ?_)))))))
 obtain ⟨i4, c5, i5⟩ := bind_some q0
 refine W5 (id := 0) (fun k f w => ∃ (a1 : Int) (a9 : (List (List Int))) (H1 : FH) (a8 : OL) (a7 : Value), D1 K a0 k a1 a9 = some i4 ∧ Sub H H1 ∧ St H1 w (a8 ++ ([(b1, cA ([s0] ++ [s1]) 29)] ++ L)) ∧ 0 ≤ a1 ∧ V0 (X6 (Y6 .i64)) 22 H1 a7 a9 a8 ∧ Y1 (Y6 .i64) H1 s0 a0.1 ∧ Y1 (X6 yT) H1 s1 a0.2 ∧ ev f (.tmp 1) = vP b1 ∧ ev f (.tmp 3) = a7 ∧ ev f (.tmp 4) = vI a1) (fun f w => ∃ (d1 : (List (List Int))) (H1 : FH) (d8 : OL) (c3 : Value), i4 = .go d1 ∧ Sub H H1 ∧ St H1 w (d8 ++ ([(b1, cA ([s0] ++ [s1]) 29)] ++ L)) ∧ V0 (X6 (Y6 .i64)) 22 H1 c3 d1 d8 ∧ Y1 (Y6 .i64) H1 s0 a0.1 ∧ Y1 (X6 yT) H1 s1 a0.2 ∧ ev f (.tmp 3) = c3) rfl ?_ ?_ K ?_ ?_
 rintro f w ⟨a1, a9, H1, a8, a7, c5, _⟩
 rw [D1] at c5; cases c5
 rintro k n5 n6 m1 m2 ⟨a1, a9, i6, a8, a7, c5, Z2, hS, m3, a4, b3, b4, e0, f2, f3⟩
 rw [D1] at c5
 refine Z3 (Z3 (Z0 (Z4 (vI a1) (by exact f3) rfl (Y3 N8 (by exact e0) rfl ?_))))
 refine Y4 (s1) Zf9 rfl (hS.get (mR mL)) rfl rfl ?_
 have p9 := b4.bound
 refine W7 I1 rfl b4 rfl ?_
 refine V7 (k := .i64) (a := a1) (b := (a0.2.length : Int)) rfl rfl rfl (Z1 ?_)
 by_cases g0 : a1 < (a0.2.length : Int)
 rw [if_pos g0] at c5
 refine Y0 (bT g0 rfl) (Y7 (Z3 (Y8 (Z3 (Z0 (Y3 R8 (by exact e0) rfl ?_))))))
 refine Y4 (s0) K9 rfl (hS.get (mR mL)) rfl rfl ?_
 have n7 := b3.bound
 refine W7 Q2 rfl b3 rfl ?_
 obtain ⟨n8, c5⟩ := gd c5
 refine Xd4 (τ := (Y6 .i64)) (0 : Int) Xp4 rfl rfl rfl (fun _ => rfl) (by omega) (by omega) hS rfl ?_
 intro j6 q1 m4 j9 hS
 refine Z5 (j6) rfl rfl (Z1 (Z3 (Z3 (Z0 (Z5 (vI 0) rfl rfl (Z1 (Y8 ?_)))))))
 obtain ⟨i7, d0, g1⟩ := bind_some c5
 refine W5 (id := 2) (fun k f w => ∃ (a3 : Int) (b6 : (List Int)) (H1 : FH) (b9 : OL) (c0 : Value), E1 K a0 a1 k a3 b6 = some i7 ∧ Sub H H1 ∧ St H1 w (b9 ++ (a8 ++ ([(b1, cA ([s0] ++ [s1]) 29)] ++ L))) ∧ 0 ≤ a3 ∧ V0 (Y6 .i64) 2 H1 c0 b6 b9 ∧ Y1 (Y6 .i64) H1 s0 a0.1 ∧ Y1 (X6 yT) H1 s1 a0.2 ∧ V0 (X6 (Y6 .i64)) 22 H1 a7 a9 a8 ∧ ev f (.tmp 1) = vP b1 ∧ ev f (.tmp 3) = a7 ∧ ev f (.tmp 4) = vI a1 ∧ ev f (.tmp 5) = c0 ∧ ev f (.tmp 6) = vI a3) (fun f w => ∃ (b7 : (List Int)) (H1 : FH) (d2 : OL) (c4 : Value), i7 = .go b7 ∧ Sub H H1 ∧ St H1 w (d2 ++ (a8 ++ ([(b1, cA ([s0] ++ [s1]) 29)] ++ L))) ∧ V0 (Y6 .i64) 2 H1 c4 b7 d2 ∧ Y1 (Y6 .i64) H1 s0 a0.1 ∧ Y1 (X6 yT) H1 s1 a0.2 ∧ V0 (X6 (Y6 .i64)) 22 H1 a7 a9 a8 ∧ ev f (.tmp 1) = vP b1 ∧ ev f (.tmp 3) = a7 ∧ ev f (.tmp 4) = vI a1 ∧ ev f (.tmp 5) = c4) rfl ?_ ?_ K ?_ ?_
 rintro f w ⟨a3, b6, H1, b9, c0, d0, _⟩
 rw [E1] at d0; cases d0
 rintro k n9 o0 m5 m6 ⟨a3, b6, i8, b9, c0, d0, Z2, hS, m7, d9, b3, b4, a4, d3, f4, d4, f5, e1⟩
 rw [E1] at d0
 refine Z3 (Z3 (Z0 (Z4 (vI a3) (by exact e1) rfl (Y3 N8 (by exact d3) rfl ?_))))
 refine Y4 (s1) Zf9 rfl (hS.get (mR (mR mL))) rfl rfl (Z4 (vI a1) (by exact d4) rfl ?_)
 obtain ⟨q2, q3, o1, q4, _, k0, k1, ⟨j3, rfl, h0⟩, k2⟩ := b4.elem (i := a1) (by omega) (by omega)
 refine W3 I1 rfl rfl k0 rfl (by omega) (by omega) rfl (Y3 U4 rfl rfl ?_)
 refine Y4 (j3) Q7 rfl (hS.froz _ _ k1) (k2 0 (show 0 < 1 by decide)) rfl ?_
 have o2 := h0.bound
 refine W7 R5 rfl h0 rfl ?_
 refine V7 (k := .i64) (a := a3) (b := ((rd a0.2 a1).length : Int)) rfl rfl rfl (Z1 ?_)
 by_cases g2 : a3 < ((rd a0.2 a1).length : Int)
 rw [if_pos g2] at d0
 refine Y0 (bT g2 rfl) (Y7 (Z3 (Y8 (Z3 (Z0 (Y3 N8 (by exact d3) rfl ?_))))))
 refine Y4 (s1) Zf9 rfl (hS.get (mR (mR mL))) rfl rfl (Z4 (vI a1) (by exact d4) rfl ?_)
 obtain ⟨q5, q6, o3, q7, _, k3, k4, ⟨j4, rfl, i9⟩, k5⟩ := b4.elem (i := a1) (by omega) (by omega)
 refine W3 I1 rfl rfl k3 rfl (by omega) (by omega) rfl (Y3 U4 rfl rfl ?_)
 refine Y4 (j4) Q7 rfl (hS.froz _ _ k4) (k5 0 (show 0 < 1 by decide)) rfl (Z4 (vI a3) (by exact e1) rfl ?_)
 obtain ⟨q8, q9, o4, r0, _, k6, k7, ⟨_, _, rfl, rfl, rfl⟩, k8⟩ := i9.elem (i := a3) (by omega) (by omega)
 refine W3 R5 rfl rfl k6 rfl (by omega) (by omega) rfl ?_
 refine V6 (Z7 .u8 ((rd (rd a0.2 a1) a3).1) ++ [vI ((rd (rd a0.2 a1) a3).2)]) Zu2 rfl (hS.froz _ _ k7) rfl k8 rfl ?_
 refine V1 (z := vA (Z7 .u8 (fun _ => 0) ++ [vI 0])) (Z7 .u8 (fun _ => 0) ++ [vI 0]).toArray Yb1.zero rfl hS rfl ?_
 intro h1 r1 hS
 refine W0 (v := vA (Z7 .u8 ((rd (rd a0.2 a1) a3).1) ++ [vI ((rd (rd a0.2 a1) a3).2)])) (vs := (Z7 .u8 ((rd (rd a0.2 a1) a3).1) ++ [vI ((rd (rd a0.2 a1) a3).2)]).toArray) (cs := (Z7 .u8 (fun _ => 0) ++ [vI 0]).toArray) Zu2 rfl rfl rfl hS rfl (L9 (S9 .u8 ((rd (rd a0.2 a1) a3).1)) (T8 rfl)) rfl ?_
 intro r2 hS
 refine Z1 (Z3 (Z0 (Z5 (vI 0) rfl rfl (Z1 (Y8 ?_)))))
 obtain ⟨h3, c6, j0⟩ := bind_some d0
 refine W5 (id := 4) (fun k f w => ∃ (a5 : Int) (a6 : (List Int)) (H1 : FH) (b5 : OL) (b0 : Value), P0 K a0 a1 a3 k a5 a6 = some h3 ∧ Sub H H1 ∧ St H1 w ([(h1, cA (Z7 .u8 ((rd (rd a0.2 a1) a3).1) ++ [vI ((rd (rd a0.2 a1) a3).2)]) 76)] ++ (b5 ++ (a8 ++ ([(b1, cA ([s0] ++ [s1]) 29)] ++ L)))) ∧ 0 ≤ a5 ∧ V0 (Y6 .i64) 2 H1 b0 a6 b5 ∧ Y1 (Y6 .i64) H1 s0 a0.1 ∧ Y1 (X6 yT) H1 s1 a0.2 ∧ V0 (X6 (Y6 .i64)) 22 H1 a7 a9 a8 ∧ ev f (.tmp 1) = vP b1 ∧ ev f (.tmp 3) = a7 ∧ ev f (.tmp 4) = vI a1 ∧ ev f (.tmp 5) = b0 ∧ ev f (.tmp 6) = vI a3 ∧ ev f (.tmp 7) = vP h1 ∧ ev f (.tmp 8) = vI a5) (fun f w => ∃ (c2 : (List Int)) (H1 : FH) (c8 : OL) (c9 : Value), h3 = .go c2 ∧ Sub H H1 ∧ St H1 w ([(h1, cA (Z7 .u8 ((rd (rd a0.2 a1) a3).1) ++ [vI ((rd (rd a0.2 a1) a3).2)]) 76)] ++ (c8 ++ (a8 ++ ([(b1, cA ([s0] ++ [s1]) 29)] ++ L)))) ∧ V0 (Y6 .i64) 2 H1 c9 c2 c8 ∧ Y1 (Y6 .i64) H1 s0 a0.1 ∧ Y1 (X6 yT) H1 s1 a0.2 ∧ V0 (X6 (Y6 .i64)) 22 H1 a7 a9 a8 ∧ ev f (.tmp 1) = vP b1 ∧ ev f (.tmp 3) = a7 ∧ ev f (.tmp 4) = vI a1 ∧ ev f (.tmp 5) = c9 ∧ ev f (.tmp 6) = vI a3) rfl ?_ ?_ K ?_ ?_
 rintro f w ⟨a5, a6, H1, b5, b0, c6, _⟩
 rw [P0] at c6; cases c6
 rintro k o5 o6 j7 m8 ⟨a5, a6, k9, b5, b0, c6, Z2, hS, m9, b2, b3, b4, a4, e2, f6, f7, f8, f9, e3, e4⟩
 rw [P0] at c6
 refine Z3 (Z3 ?_)
 refine B6 (fun f w => ∃ (c1 : Bool) (H1 : FH), Zc7 K (P0 K a0 a1 a3 k) a0 a1 a3 a5 a6 c1 = some h3 ∧ Sub H H1 ∧ St H1 w ([(h1, cA (Z7 .u8 ((rd (rd a0.2 a1) a3).1) ++ [vI ((rd (rd a0.2 a1) a3).2)]) 76)] ++ (b5 ++ (a8 ++ ([(b1, cA ([s0] ++ [s1]) 29)] ++ L)))) ∧ Y1 (Y6 .i64) H1 s0 a0.1 ∧ Y1 (X6 yT) H1 s1 a0.2 ∧ V0 (Y6 .i64) 2 H1 b0 a6 b5 ∧ V0 (X6 (Y6 .i64)) 22 H1 a7 a9 a8 ∧ ev f (.tmp 1) = vP b1 ∧ ev f (.tmp 3) = a7 ∧ ev f (.tmp 4) = vI a1 ∧ ev f (.tmp 5) = b0 ∧ ev f (.tmp 6) = vI a3 ∧ ev f (.tmp 7) = vP h1 ∧ ev f (.tmp 8) = vI a5 ∧ ev f (.tmp 51) = Value.bool c1) ?_ ?_
 rintro o7 n0 ⟨c1, e9, b8, Z2, hS, b3, b4, b2, a4, e5, e6, e7, d5, e8, d6, d7, f0⟩
 unfold Zc7 at b8
 by_cases g3 : c1 = true
 rw [if_pos g3] at b8
 refine Y0 (Eq.trans (by exact f0) (congrArg Value.bool g3)) (Y7 (Z3 (Y8 (Z3 (Z0 (Z4 (vI a5) (by exact d7) rfl (Y3 N1 (by exact d6) rfl ?_)))))))
 obtain ⟨o8, b8⟩ := gd b8
 refine V5 Zd3 rfl rfl (by omega) (by omega) rfl ?_
 refine Y4 (Value.int .u8 (Y5 ((rd (rd a0.2 a1) a3).1) a5)) ty5 rfl (hS.get (o := cA (Z7 .u8 ((rd (rd a0.2 a1) a3).1) ++ [vI ((rd (rd a0.2 a1) a3).2)]) 76) mL) (M7 ([]) (([vI ((rd (rd a0.2 a1) a3).2)])) (by omega) (by omega)) rfl ?_
 refine Za4 (k := .u8) (a := (Y5 ((rd (rd a0.2 a1) a3).1) a5)) (b := 1) rfl rfl rfl (Z1 ?_)
 by_cases g4 : (Y5 ((rd (rd a0.2 a1) a3).1) a5) = 1
 rw [if_pos g4] at b8
 refine Y0 (bT g4 rfl) (Z0 (Z4 (b0) (by exact d5) rfl (Z4 (vI a5) (by exact d7) rfl (Y3 Zd9 (by exact d6) rfl ?_))))
 refine Y4 (vI ((rd (rd a0.2 a1) a3).2)) ty2 rfl (hS.get mL) rfl rfl ?_
 obtain ⟨o9, b8⟩ := gd b8
 obtain ⟨r3, r4, j1⟩ := b2.some (i := a5) (by omega) (by omega)
 refine Zs3 Q2 (Eq.trans rfl j1) rfl (by omega) (by omega) rfl ?_
 have hS := hS.perm U1
 refine Zs8 (τ := (Y6 .i64)) (v := b0) (u := vI ((rd (rd a0.2 a1) a3).2)) ((rd (rd a0.2 a1) a3).2) (i := a5) rfl ty2 j1 b2 hS rfl rfl (by omega) (by omega) rfl ?_
 intro r5 n1 l0 hS
 have hS := hS.perm U1.symm
 refine Z1 (X2 (Z0 (Z4 (vI a5) (by exact d7) rfl ?_)))
 refine W8 (a5 + 1) rfl rfl (IntWalk.i64_in _ (by omega)) rfl (Z5 (vI (a5 + 1)) rfl rfl (Z1 ?_))
 exact j7 _ _ ⟨(a5 + 1), (a6.set (a5).toNat ((rd (rd a0.2 a1) a3).2)), e9, n1, b0, b8, Z2, hS, (by omega), l0, b3, b4, a4, e5, e6, e7, d5, e8, d6, rfl⟩
 rw [if_neg g4] at b8
 refine Z8 (bF g4 rfl) (Y7 (X2 (Z0 (Z4 (vI a5) (by exact d7) rfl ?_))))
 refine W8 (a5 + 1) rfl rfl (IntWalk.i64_in _ (by omega)) rfl (Z5 (vI (a5 + 1)) rfl rfl (Z1 ?_))
 exact j7 _ _ ⟨(a5 + 1), a6, e9, b5, b0, b8, Z2, hS, (by omega), b2, b3, b4, a4, e5, e6, e7, d5, e8, d6, rfl⟩
 rw [if_neg g3] at b8
 refine Z8 (Eq.trans (by exact f0) (congrArg Value.bool (W1 g3))) ?_
 refine W4 rfl ?_
 have hz := Option.some.inj b8
 subst hz
 exact m8 _ _ ⟨a6, e9, b5, b0, rfl, Z2, hS, b2, b3, b4, a4, e5, e6, e7, d5, e8⟩
 intro j2
 refine Z0 (Z4 (vI a5) (by exact e4) rfl (Y3 R8 (by exact e2) rfl ?_))
 refine Y4 (s0) K9 rfl (hS.get (mR (mR (mR mL)))) rfl rfl ?_
 have p0 := b3.bound
 refine W7 Q2 rfl b3 rfl ?_
 refine V7 (k := .i64) (a := a5) (b := (a0.1.length : Int)) rfl rfl rfl (Z4 (Value.bool (decide (a5 < (a0.1.length : Int)))) rfl rfl ?_)
 by_cases c7 : a5 < (a0.1.length : Int)
 rw [if_pos c7] at c6
 refine Y2 rfl rfl (bT c7 rfl) (Y3 N1 (by exact e3) rfl ?_)
 refine Y2 rfl rfl (bT c7 rfl) ?_
 refine V6 (Z7 .u8 ((rd (rd a0.2 a1) a3).1)) N6 rfl (hS.get (o := cA (Z7 .u8 ((rd (rd a0.2 a1) a3).1) ++ [vI ((rd (rd a0.2 a1) a3).2)]) 76) mL) rfl (fun j hj => Zj8 ([]) (Z7 .u8 ((rd (rd a0.2 a1) a3).1)) (([vI ((rd (rd a0.2 a1) a3).2)])) j hj) rfl ?_
 obtain ⟨g9, l1, c6⟩ := bind_some c6
 refine Y2 rfl rfl (bT c7 rfl) ?_
 refine Y9 Tryz.call279 (R0 rfl) rfl (Yw7 l1  hS) ?_
 rintro r6 r7 ⟨_, n2, rfl, f1, hS, rfl⟩
 refine ⟨_, rfl, ?_⟩
 have Z2 := Z2.trans f1
 have b3 := b3.mono f1
 have b4 := b4.mono f1
 have a4 := a4.mono f1
 have b2 := b2.mono f1
 refine Y2 rfl rfl (bT c7 rfl) ?_
 refine Za4 (k := .i64) (a := g9) (b := 1) rfl rfl rfl ?_
 refine V2 (t := true) (Value.bool (decide (g9 = 1))) (bT c7 rfl) ((if_pos rfl).trans rfl) rfl (Z1 ?_)
 exact j2 _ _ ⟨(decide (g9 = 1)), n2, c6, Z2, hS, b3, b4, b2, a4, e2, f6, f7, f8, f9, e3, e4, rfl⟩
 rw [if_neg c7] at c6
 refine Z9 rfl rfl (bF c7 rfl) rfl rfl rfl (Z9 rfl rfl (bF c7 rfl) rfl rfl rfl (Z9 rfl rfl (bF c7 rfl) rfl rfl rfl (Z9 rfl rfl (bF c7 rfl) rfl rfl rfl ?_)))
 refine V2 (t := false) (Value.bool false) (bF c7 rfl) ((if_neg Bool.false_ne_true).trans rfl) rfl (Z1 ?_)
 exact j2 _ _ ⟨false, k9, c6, Z2, hS, b3, b4, b2, a4, e2, f6, f7, f8, f9, e3, e4, rfl⟩
 exact ⟨0, b6, i8, b9, c0, c6, Z2, hS, (by omega), d9, b3, b4, a4, d3, f4, d4, f5, e1, rfl, rfl⟩
 rintro p1 p2 ⟨c2, l2, c8, c9, rfl, Z2, hS, g5, b3, b4, a4, h4, h5, h6, h7, h8⟩
 dsimp only [Ex.elim] at j0
 refine X2 (Z0 (Z4 (vI a3) (by exact h8) rfl ?_))
 refine W8 (a3 + 1) rfl rfl (IntWalk.i64_in _ (by omega)) rfl (Z5 (vI (a3 + 1)) rfl rfl (Z1 ?_))
 have hS := St.dropA hS
 exact m5 _ _ ⟨(a3 + 1), c2, l2, c8, c9, j0, Z2, hS, (by omega), g5, b3, b4, a4, h4, h5, h6, h7, rfl⟩
 rw [if_neg g2] at d0
 refine Z8 (bF g2 rfl) ?_
 refine W4 rfl ?_
 have hz := Option.some.inj d0
 subst hz
 exact m6 _ _ ⟨b6, i8, b9, c0, rfl, Z2, hS, d9, b3, b4, a4, d3, f4, d4, f5⟩
 exact ⟨0, (List.replicate ((a0.1.length : Int)).toNat (0 : Int)), i6, m4, j6, d0, Z2, hS, (by omega), j9, b3, b4, a4, e0, f2, f3, rfl, rfl⟩
 rintro p3 p4 ⟨b7, p5, d2, c4, rfl, Z2, hS, g6, b3, b4, a4, h9, i0, i1, i2⟩
 dsimp only [Ex.elim] at g1
 refine Z0 (Z4 (a7) (by exact i0) rfl (Z4 (c4) (by exact i2) rfl ?_))
 obtain ⟨r8, g7, hS, l3⟩ := g6.freeze hS
 have Z2 := Z2.trans g7
 have b3 := b3.mono g7
 have b4 := b4.mono g7
 have a4 := a4.mono g7
 refine Zd8 (τ := (X6 (Y6 .i64))) Yc6 Xm2 rfl [c4] [b7] rfl rfl (Za3 rfl) (Zn7 l3.relv) (by decide) (by decide) hS rfl ?_
 intro r9 n3 s2 g8 hS l4
 have Z2 := Z2.trans g8
 have b3 := b3.mono g8
 have b4 := b4.mono g8
 have a4 := a4.mono g8
 obtain ⟨l5, g1⟩ := gd g1
 refine F4 (τ := (X6 (Y6 .i64))) Wo3 rfl rfl rfl a4 hS l4 l5 rfl ?_
 intro j8 s3 n4 l6 hS
 refine Z5 (j8) rfl rfl (Z1 (X2 (Z0 (Z4 (vI a1) (by exact i1) rfl ?_))))
 refine W8 (a1 + 1) rfl rfl (IntWalk.i64_in _ (by omega)) rfl (Z5 (vI (a1 + 1)) rfl rfl (Z1 ?_))
 exact m1 _ _ ⟨(a1 + 1), (a9 ++ [b7]), n3, n4, j8, g1, Z2, hS, (by omega), l6, b3, b4, h9, rfl, rfl⟩
 rw [if_neg g0] at c5
 refine Z8 (bF g0 rfl) ?_
 refine W4 rfl ?_
 have hz := Option.some.inj c5
 subst hz
 exact m2 _ _ ⟨a9, i6, a8, a7, rfl, Z2, hS, a4, b3, b4, f2⟩
 exact ⟨0, ([] : List (List Int)), H, C6, u4, c5, Z2, hS, (by omega), m0, b3, b4, rfl, rfl, rfl⟩
 rintro p6 p7 ⟨d1, p8, d8, c3, rfl, Z2, hS, h2, b3, b4, i3⟩
 dsimp only [Ex.elim] at i5
 refine Z3 (Z0 (Z4 (c3) (by exact i3) rfl (Z5 (c3) rfl rfl (Z1 ?_))))
 refine X0 (vs := [c3]) Tryz.func240 ⟨rfl, trivial⟩ ?_
 obtain ⟨s4, l7, hS, l9⟩ := h2.freeze hS
 have Z2 := Z2.trans l7
 have hz := Option.some.inj i5
 subst hz
 exact ⟨_, _, rfl, Z2, (St.dropA hS), l9⟩
def Zj0 (K : Nat) (e2 : Int → Int → Option (Ex (Int × Bool) (Int))) (a6 : Int) (a3 : Int) (a7 : Bool) : Option (Ex (Int × Bool) (Int)) := (if a7 = true then some (.ret (0, false)) else e2 a6 (a3 + 1))
def S5 (K : Nat) (a0 : (List Int)) (a1 : MpT) : Nat → Int → Int → Option (Ex (Int × Bool) (Int))
 | 0, _, _ => none
 | k + 1, a4, a3 => (if a3 < (a1.length : Int) then ((Zf5 K ((rd a1 a3).1)).bind fun d5 => ((Zh7 K d5 a0).bind fun a6 => (if 0 ≤ a4 then Zj0 K (S5 K a0 a1 k) a6 a3 (!decide (a6 = a4)) else Zj0 K (S5 K a0 a1 k) a6 a3 false))) else some (.go a4))
def Zu6 (K : Nat) (a0 : (List Int)) (a1 : MpT) : Option (Int × Bool) := ((S5 K a0 a1 K (-1) 0).bind (Ex.elim (fun r => some r) (fun s => (fun (b2 : Int) => some (b2, true)) s)))
theorem Yu6 {K : Nat} {a0 : (List Int)} {a1 : MpT} {r : (Int × Bool)} (q0 : Zu6 K a0 a1 = some r) {H : FH} {w : World} {L : OL} {s0 : Value} {s1 : Value} (b3 : Y1 (Y6 .i64) H s0 a0) (a8 : Y1 yT H s1 a1) (hS : St H w L) :
 Calls Tryz.prog 130 #[s0, vA ([s1])] w (T2 (fun v G => (R.t2 (R.int .i64) R.bool).p G v r) H L) := by
 have Z2 := Sub.refl H
 refine X3 Tryz.func130 rfl Tryz.ntmps130 rfl ?_
 unfold Zu6 at q0
 refine Z3 (Z0 ?_)
 refine S4 (v := vA ([s1])) ([s1]).toArray rfl rfl hS rfl ?_
 intro b1 w2 hS
 refine Z5 (vI 0) rfl rfl (Z5 (Value.bool false) rfl rfl (Z1 (Z3 (Z0 (Z5 (vI (-1)) rfl rfl (Z1 (Z3 (Z3 (Z0 (Y3 U4 rfl rfl ?_))))))))))
 refine Y4 (s1) Q7 rfl (hS.get mL) rfl rfl ?_
 have f4 := a8.bound
 refine W7 R5 rfl a8 rfl (Z4 (vI 0) rfl rfl (Z1 (Y8 ?_)))
 obtain ⟨c4, a5, c2⟩ := bind_some q0
 refine W5 (id := 0) (fun k f w => ∃ (a4 : Int) (a3 : Int) (H1 : FH), S5 K a0 a1 k a4 a3 = some c4 ∧ Sub H H1 ∧ St H1 w ([(b1, cA ([s1]) 47)] ++ L) ∧ 0 ≤ a3 ∧ Y1 (Y6 .i64) H1 s0 a0 ∧ Y1 yT H1 s1 a1 ∧ ev f (.tmp 0) = s0 ∧ ev f (.tmp 6) = vI a4 ∧ ev f (.tmp 11) = s1 ∧ ev f (.tmp 12) = vI (a1.length : Int) ∧ ev f (.tmp 13) = vI a3) (fun f w => ∃ (b2 : Int) (H1 : FH), c4 = .go b2 ∧ Sub H H1 ∧ St H1 w ([(b1, cA ([s1]) 47)] ++ L) ∧ Y1 yT H1 s1 a1 ∧ ev f (.tmp 6) = vI b2) rfl ?_ ?_ K ?_ ?_
 rintro f w ⟨a4, a3, H1, a5, _⟩
 rw [S5] at a5; cases a5
 rintro k e9 f0 e3 e4 ⟨a4, a3, d8, a5, Z2, hS, e1, b3, a8, b9, c0, b4, b5, b0⟩
 rw [S5] at a5
 refine Z3 (Z0 ?_)
 refine V7 (k := .i64) (a := a3) (b := (a1.length : Int)) (by exact b0) (by exact b5) rfl (Z1 (Z3 ?_))
 by_cases c7 : a3 < (a1.length : Int)
 rw [if_pos c7] at a5
 refine Y0 (bT c7 rfl) (Y7 (Z3 (Y8 (Z3 (Z0 ?_)))))
 obtain ⟨b6, o6, f5, E6, _, e5, e6, ⟨_, _, rfl, rfl, rfl⟩, e7⟩ := a8.elem (i := a3) (by omega) (by omega)
 refine W3 R5 rfl (by exact b4) e5 (by exact b0) (by omega) (by omega) rfl ?_
 refine V6 (Z7 .u8 ((rd a1 a3).1) ++ [vI ((rd a1 a3).2)]) Zu2 rfl (hS.froz _ _ e6) rfl e7 rfl ?_
 refine V1 (z := vA (Z7 .u8 (fun _ => 0) ++ [vI 0])) (Z7 .u8 (fun _ => 0) ++ [vI 0]).toArray Yb1.zero rfl hS rfl ?_
 intro b7 w8 hS
 refine W0 (v := vA (Z7 .u8 ((rd a1 a3).1) ++ [vI ((rd a1 a3).2)])) (vs := (Z7 .u8 ((rd a1 a3).1) ++ [vI ((rd a1 a3).2)]).toArray) (cs := (Z7 .u8 (fun _ => 0) ++ [vI 0]).toArray) Zu2 rfl rfl rfl hS rfl (L9 (S9 .u8 ((rd a1 a3).1)) (T8 rfl)) rfl ?_
 intro f6 hS
 refine Z1 (Z3 (Z0 (Y3 N1 rfl rfl ?_)))
 refine V6 (Z7 .u8 ((rd a1 a3).1)) N6 rfl (hS.get (o := cA (Z7 .u8 ((rd a1 a3).1) ++ [vI ((rd a1 a3).2)]) 76) mL) rfl (fun j hj => Zj8 ([]) (Z7 .u8 ((rd a1 a3).1)) (([vI ((rd a1 a3).2)])) j hj) rfl ?_
 obtain ⟨d5, d9, a5⟩ := bind_some a5
 refine Y9 Tryz.call176 (R0 rfl) rfl (Zq1 d9  hS) ?_
 rintro f7 f8 ⟨f9, g0, rfl, c5, hS, ⟨_, rfl, rfl⟩⟩
 refine ⟨_, rfl, ?_⟩
 have Z2 := Z2.trans c5
 have b3 := b3.mono c5
 have a8 := a8.mono c5
 refine Z4 (s0) (by exact b9) rfl ?_
 obtain ⟨a6, e0, a5⟩ := bind_some a5
 refine Y9 Tryz.call223 (U7 rfl rfl) rfl (Yk9 e0 b3 hS) ?_
 rintro g1 g2 ⟨_, d6, rfl, c6, hS, rfl⟩
 refine ⟨_, rfl, ?_⟩
 have Z2 := Z2.trans c6
 have b3 := b3.mono c6
 have a8 := a8.mono c6
 refine Z5 (vI a6) rfl rfl (Z1 (Z3 (Z3 ?_)))
 refine B6 (fun f w => ∃ (a7 : Bool) (H1 : FH), Zj0 K (S5 K a0 a1 k) a6 a3 a7 = some c4 ∧ Sub H H1 ∧ St H1 w ([(b7, cA (Z7 .u8 ((rd a1 a3).1) ++ [vI ((rd a1 a3).2)]) 76)] ++ ([(b1, cA ([s1]) 47)] ++ L)) ∧ Y1 (Y6 .i64) H1 s0 a0 ∧ Y1 yT H1 s1 a1 ∧ ev f (.tmp 0) = s0 ∧ ev f (.tmp 9) = vI a6 ∧ ev f (.tmp 11) = s1 ∧ ev f (.tmp 12) = vI (a1.length : Int) ∧ ev f (.tmp 13) = vI a3 ∧ ev f (.tmp 28) = Value.bool a7) ?_ ?_
 rintro g3 e8 ⟨a7, d4, b8, Z2, hS, b3, a8, d2, d3, c8, c9, d0, c1⟩
 unfold Zj0 at b8
 by_cases c3 : a7 = true
 rw [if_pos c3] at b8
 refine Y0 (Eq.trans (by exact c1) (congrArg Value.bool c3)) (Z3 (Z0 (Z5 (vI 0) rfl rfl (Z5 (Value.bool false) rfl rfl (Z1 ?_)))))
 refine X0 (vs := [vI 0, Value.bool false]) Tryz.func130 ⟨rfl, rfl, trivial⟩ ?_
 have hz := Option.some.inj b8
 subst hz
 dsimp only [Ex.elim] at c2
 have hz := Option.some.inj c2
 subst hz
 exact ⟨_, _, rfl, Z2, (St.dropA (St.dropA hS)), ⟨_, _, rfl, rfl, rfl⟩⟩
 rw [if_neg c3] at b8
 refine Z8 (Eq.trans (by exact c1) (congrArg Value.bool (W1 c3))) (Y7 (Z0 (Z4 (vI a6) (by exact d3) rfl (Z5 (vI a6) rfl rfl (Z1 (X2 (Z0 ?_)))))))
 refine W8 (a3 + 1) (by exact d0) rfl (IntWalk.i64_in _ (by omega)) rfl (Z4 (vI (a3 + 1)) rfl rfl (Z1 ?_))
 have hS := St.dropA hS
 exact e3 _ _ ⟨a6, (a3 + 1), d4, b8, Z2, hS, (by omega), b3, a8, d2, rfl, c8, c9, rfl⟩
 intro d7
 refine Z0 (Z4 (vI a4) (by exact c0) rfl ?_)
 refine Yc2 (k := .i64) (a := a4) (b := 0) rfl rfl rfl (Z4 (Value.bool (decide (0 ≤ a4))) rfl rfl ?_)
 by_cases a9 : 0 ≤ a4
 rw [if_pos a9] at a5
 refine Y2 rfl rfl (bT a9 rfl) (Z4 (vI a6) rfl rfl ?_)
 refine Y2 rfl rfl (bT a9 rfl) (Z4 (vI a4) (by exact c0) rfl ?_)
 refine Y2 rfl rfl (bT a9 rfl) ?_
 refine J2 (k := .i64) (a := a6) (b := a4) rfl rfl rfl ?_
 refine V2 (t := true) (Value.bool (!decide (a6 = a4))) (bT a9 rfl) ((if_pos rfl).trans rfl) rfl (Z1 ?_)
 exact d7 _ _ ⟨(!decide (a6 = a4)), d6, a5, Z2, hS, b3, a8, b9, rfl, b4, b5, b0, rfl⟩
 rw [if_neg a9] at a5
 refine Z9 rfl rfl (bF a9 rfl) rfl rfl rfl (Z9 rfl rfl (bF a9 rfl) rfl rfl rfl (Z9 rfl rfl (bF a9 rfl) rfl rfl rfl ?_))
 refine V2 (t := false) (Value.bool false) (bF a9 rfl) ((if_neg Bool.false_ne_true).trans rfl) rfl (Z1 ?_)
 exact d7 _ _ ⟨false, d6, a5, Z2, hS, b3, a8, b9, rfl, b4, b5, b0, rfl⟩
 rw [if_neg c7] at a5
 refine Z8 (bF c7 rfl) ?_
 refine W4 rfl ?_
 have hz := Option.some.inj a5
 subst hz
 exact e4 _ _ ⟨a4, d8, rfl, Z2, hS, a8, c0⟩
 exact ⟨(-1), 0, H, a5, Z2, hS, (by omega), b3, a8, rfl, rfl, rfl, rfl, rfl⟩
 rintro f1 f2 ⟨b2, f3, rfl, Z2, hS, a8, d1⟩
 dsimp only [Ex.elim] at c2
 refine Z3 (Z0 (Z4 (vI b2) (by exact d1) rfl (Z5 (vI b2) rfl rfl (Z5 (Value.bool true) rfl rfl (Z1 ?_)))))
 refine X0 (vs := [vI b2, Value.bool true]) Tryz.func130 ⟨rfl, rfl, trivial⟩ ?_
 have hz := Option.some.inj c2
 subst hz
 exact ⟨_, _, rfl, Z2, (St.dropA hS), ⟨_, _, rfl, rfl, rfl⟩⟩
def J7 (K : Nat) (a0 : (List Int)) (a1 : MpT) (r8 : Int) : Nat → Int → Option (Ex (Int × Bool) (Unit))
 | 0, _ => none
 | k + 1, a3 => (if a3 < (a1.length : Int) then ((Zc3 K a0 ((rd a1 a3).1)).bind fun b6 => (if b6 = r8 then J7 K a0 a1 r8 k (a3 + 1) else some (.ret (0, false)))) else some (.go ()))
def Zm8 (K : Nat) (a0 : (List Int)) (a1 : MpT) : Option (Int × Bool) := (if (a1.length : Int) = 0 then some ((-1), true) else (if 0 < (a1.length : Int) then ((Zc3 K a0 ((rd a1 0).1)).bind fun r8 => ((J7 K a0 a1 r8 K 1).bind (Ex.elim (fun r => some r) (fun s => some (r8, true))))) else none))
theorem Yq9 {K : Nat} {a0 : (List Int)} {a1 : MpT} {r : (Int × Bool)} (q0 : Zm8 K a0 a1 = some r) {H : FH} {w : World} {L : OL} {s0 : Value} {s1 : Value} (a6 : Y1 (Y6 .i64) H s0 a0) (a5 : Y1 yT H s1 a1) (hS : St H w L) :
 Calls Tryz.prog 140 #[s0, vA ([s1])] w (T2 (fun v G => (R.t2 (R.int .i64) R.bool).p G v r) H L) := by
 have Z2 := Sub.refl H
 refine X3 Tryz.func140 rfl Tryz.ntmps140 rfl ?_
 unfold Zm8 at q0
 refine Z3 (Z0 ?_)
 refine S4 (v := vA ([s1])) ([s1]).toArray rfl rfl hS rfl ?_
 intro b1 w2 hS
 refine Z5 (vI 0) rfl rfl (Z5 (Value.bool false) rfl rfl (Z1 (Z3 (Z3 (Z0 (Y3 U4 rfl rfl ?_))))))
 refine Y4 (s1) Q7 rfl (hS.get mL) rfl rfl ?_
 have e2 := a5.bound
 refine W7 R5 rfl a5 rfl ?_
 refine Za4 (k := .i64) (a := (a1.length : Int)) (b := 0) rfl rfl rfl (Z1 ?_)
 by_cases b8 : (a1.length : Int) = 0
 rw [if_pos b8] at q0
 refine Y0 (bT b8 rfl) (Z3 (Z0 (Z5 (vI (-1)) rfl rfl (Z5 (Value.bool true) rfl rfl (Z1 ?_)))))
 refine X0 (vs := [vI (-1), Value.bool true]) Tryz.func140 ⟨rfl, rfl, trivial⟩ ?_
 have hz := Option.some.inj q0
 subst hz
 exact ⟨_, _, rfl, Z2, (St.dropA hS), ⟨_, _, rfl, rfl, rfl⟩⟩
 rw [if_neg b8] at q0
 refine Z8 (bF b8 rfl) (Y7 (Z3 (Z0 (Z4 (s0) rfl rfl (Y3 U4 rfl rfl ?_)))))
 refine Y4 (s1) Q7 rfl (hS.get mL) rfl rfl ?_
 obtain ⟨e3, q0⟩ := gd q0
 obtain ⟨b7, o7, e4, E7, _, c7, c8, ⟨_, _, rfl, rfl, rfl⟩, c9⟩ := a5.elem (i := 0) (by omega) (by omega)
 refine W3 R5 rfl rfl c7 rfl (by omega) (by omega) rfl (Y3 N1 rfl rfl ?_)
 refine V6 (Z7 .u8 ((rd a1 0).1)) N6 rfl (hS.froz _ _ c8) rfl (Zh1 ([]) (Z7 .u8 ((rd a1 0).1)) (([vI ((rd a1 0).2)])) c9 (Nat.le_of_ble_eq_true rfl)) rfl ?_
 obtain ⟨r8, d0, q0⟩ := bind_some q0
 refine Y9 Tryz.call216 (U7 rfl rfl) rfl (Zu4 d0 a6 hS) ?_
 rintro e8 w9 ⟨_, H8, rfl, c0, hS, rfl⟩
 refine ⟨_, rfl, ?_⟩
 have Z2 := Z2.trans c0
 have a6 := a6.mono c0
 have a5 := a5.mono c0
 refine Z5 (vI r8) rfl rfl (Z1 (Z3 (Z3 (Z0 (Z5 (vI 1) rfl rfl (Z1 (Y8 ?_)))))))
 obtain ⟨c1, a4, b2⟩ := bind_some q0
 refine W5 (id := 0) (fun k f w => ∃ (a3 : Int) (H1 : FH), J7 K a0 a1 r8 k a3 = some c1 ∧ Sub H H1 ∧ St H1 w ([(b1, cA ([s1]) 47)] ++ L) ∧ 0 ≤ a3 ∧ Y1 (Y6 .i64) H1 s0 a0 ∧ Y1 yT H1 s1 a1 ∧ ev f (.tmp 0) = s0 ∧ ev f (.tmp 3) = vP b1 ∧ ev f (.tmp 6) = vI r8 ∧ ev f (.tmp 7) = vI a3) (fun f w => ∃ (H1 : FH), c1 = .go () ∧ Sub H H1 ∧ St H1 w ([(b1, cA ([s1]) 47)] ++ L) ∧ Y1 yT H1 s1 a1 ∧ ev f (.tmp 6) = vI r8) rfl ?_ ?_ K ?_ ?_
 rintro f w ⟨a3, H1, a4, _⟩
 rw [J7] at a4; cases a4
 rintro k d5 d6 d1 d2 ⟨a3, c2, a4, Z2, hS, d3, a6, a5, b0, a7, a8, a9⟩
 rw [J7] at a4
 refine Z3 (Z3 (Z0 (Z4 (vI a3) (by exact a9) rfl (Y3 U4 (by exact a7) rfl ?_))))
 refine Y4 (s1) Q7 rfl (hS.get mL) rfl rfl ?_
 have d7 := a5.bound
 refine W7 R5 rfl a5 rfl ?_
 refine V7 (k := .i64) (a := a3) (b := (a1.length : Int)) rfl rfl rfl (Z1 ?_)
 by_cases b3 : a3 < (a1.length : Int)
 rw [if_pos b3] at a4
 refine Y0 (bT b3 rfl) (Y7 (Z3 (Y8 (Z3 (Z0 (Z4 (s0) (by exact b0) rfl (Y3 U4 (by exact a7) rfl ?_)))))))
 refine Y4 (s1) Q7 rfl (hS.get mL) rfl rfl (Z4 (vI a3) (by exact a9) rfl ?_)
 obtain ⟨e5, e6, d8, e7, _, c3, c4, ⟨_, _, rfl, rfl, rfl⟩, c5⟩ := a5.elem (i := a3) (by omega) (by omega)
 refine W3 R5 rfl rfl c3 rfl (by omega) (by omega) rfl (Y3 N1 rfl rfl ?_)
 refine V6 (Z7 .u8 ((rd a1 a3).1)) N6 rfl (hS.froz _ _ c4) rfl (Zh1 ([]) (Z7 .u8 ((rd a1 a3).1)) (([vI ((rd a1 a3).2)])) c5 (Nat.le_of_ble_eq_true rfl)) rfl ?_
 obtain ⟨b6, c6, a4⟩ := bind_some a4
 refine Y9 Tryz.call216 (U7 rfl rfl) rfl (Zu4 c6 a6 hS) ?_
 rintro e9 f0 ⟨_, d4, rfl, b5, hS, rfl⟩
 refine ⟨_, rfl, ?_⟩
 have Z2 := Z2.trans b5
 have a6 := a6.mono b5
 have a5 := a5.mono b5
 refine Z4 (vI r8) (by exact a8) rfl ?_
 refine J2 (k := .i64) (a := b6) (b := r8) rfl rfl rfl (Z1 ?_)
 by_cases b4 : b6 = r8
 rw [if_pos b4] at a4
 refine Z8 (bN b4 rfl) (Y7 (X2 (Z0 (Z4 (vI a3) (by exact a9) rfl ?_))))
 refine W8 (a3 + 1) rfl rfl (IntWalk.i64_in _ (by omega)) rfl (Z5 (vI (a3 + 1)) rfl rfl (Z1 ?_))
 exact d1 _ _ ⟨(a3 + 1), d4, a4, Z2, hS, (by omega), a6, a5, b0, a7, a8, rfl⟩
 rw [if_neg b4] at a4
 refine Y0 (bO b4 rfl) (Z3 (Z0 (Z5 (vI 0) rfl rfl (Z5 (Value.bool false) rfl rfl (Z1 ?_)))))
 refine X0 (vs := [vI 0, Value.bool false]) Tryz.func140 ⟨rfl, rfl, trivial⟩ ?_
 have hz := Option.some.inj a4
 subst hz
 dsimp only [Ex.elim] at b2
 have hz := Option.some.inj b2
 subst hz
 exact ⟨_, _, rfl, Z2, (St.dropA hS), ⟨_, _, rfl, rfl, rfl⟩⟩
 rw [if_neg b3] at a4
 refine Z8 (bF b3 rfl) ?_
 refine W4 rfl ?_
 have hz := Option.some.inj a4
 subst hz
 exact d2 _ _ ⟨c2, rfl, Z2, hS, a5, a8⟩
 exact ⟨1, H8, a4, Z2, hS, (by omega), a6, a5, rfl, rfl, rfl, rfl⟩
 rintro d9 e0 ⟨e1, rfl, Z2, hS, a5, b9⟩
 dsimp only [Ex.elim] at b2
 refine Z3 (Z0 (Z4 (vI r8) (by exact b9) rfl (Z5 (vI r8) rfl rfl (Z5 (Value.bool true) rfl rfl (Z1 ?_)))))
 refine X0 (vs := [vI r8, Value.bool true]) Tryz.func140 ⟨rfl, rfl, trivial⟩ ?_
 have hz := Option.some.inj b2
 subst hz
 exact ⟨_, _, rfl, Z2, (St.dropA hS), ⟨_, _, rfl, rfl, rfl⟩⟩
def J5 (K : Nat) (a0 : A8) (a1 : Int) : Option MpT := ((Za1 K a1).bind fun r7 => (if r7 = 0 then some ([] : List (A8 × Int)) else ((Za1 K a1).bind fun a3 => some ([(a0, a3)]))))
theorem Zi2 {K : Nat} {a0 : A8} {a1 : Int} {r : MpT} (q0 : J5 K a0 a1 = some r) {H : FH} {w : World} {L : OL} (hS : St H w L) :
 Calls Tryz.prog 170 #[vA (Z7 .u8 a0), vI a1] w (T2 (fun v G => (R.agg (X6 yT)).p G v r) H L) := by
 have Z2 := Sub.refl H
 refine X3 Tryz.func170 rfl Tryz.ntmps170 rfl ?_
 unfold J5 at q0
 refine Z3 (Z0 ?_)
 refine S4 (v := vA (Z7 .u8 a0)) (Z7 .u8 a0).toArray rfl rfl hS rfl ?_
 intro b1 w2 hS
 refine V1 (z := vA ([vN])) ([vN]).toArray Zd2.zero rfl hS rfl ?_
 intro b4 w5 hS
 refine Z1 (Z3 (Z3 (Z0 (Z4 (vI a1) rfl rfl ?_))))
 obtain ⟨r7, c4, q0⟩ := bind_some q0
 refine Y9 Tryz.call217 (R0 rfl) rfl (Zc2 c4  hS) ?_
 rintro e7 w8 ⟨_, H7, rfl, c5, hS, rfl⟩
 refine ⟨_, rfl, ?_⟩
 have Z2 := Z2.trans c5
 refine Za4 (k := .i64) (a := r7) (b := 0) rfl rfl rfl (Z1 ?_)
 by_cases a6 : r7 = 0
 rw [if_pos a6] at q0
 refine Y0 (bT a6 rfl) (Z3 (Z0 ?_))
 refine Q1 (vA ([vN])) Yi3 rfl ?_
 refine W0 (v := vA ([vN])) (vs := ([vN]).toArray) (cs := ([vN]).toArray) T1 rfl rfl rfl hS rfl (T8 rfl) rfl ?_
 intro e9 hS
 refine Z1 ?_
 refine X0 (vs := [vA ([vN])]) Tryz.func170 ⟨⟨_, rfl, U5 T1 (hS.get mL) rfl⟩, trivial⟩ ?_
 have hz := Option.some.inj q0
 subst hz
 exact ⟨_, _, rfl, Z2, (St.dropA (St.dropA hS)), ⟨_, rfl, ⟨_, rfl, Y1.nil⟩⟩⟩
 rw [if_neg a6] at q0
 refine Z8 (bF a6 rfl) (Y7 (Z3 ?_))
 obtain ⟨a3, b0, q0⟩ := bind_some q0
 refine U6 6 (P9 [(9, MP.eq (vA (Z7 .u8 a0))), (10, MP.eq (vI a1)), (11, MP.eq (vI a3)), (12, MP.eq (vA (Z7 .u8 a0 ++ [vI a3]))), (13, MP.sl yT ([(a0, a3)])), (14, MP.rep (R.agg (X6 yT)) ([(a0, a3)]))]) [] mixed rfl rfl rfl hS (Z6 rfl ?_ (Z6 rfl ?_ (Z6 rfl ?_ (Z6 rfl ?_ (Z6 rfl ?_ (Z6 rfl ?_ U8)))))) ?_
 intro c6 f0 f1 f2 d6 hS b2 d7 hcq
 have c7 : ev c6 (.tmp 2) = vP b1 := Eq.trans (b2 2 rfl) rfl
 refine W2 N6 c7 (hS.get (mR (mR mL))) rfl rfl ?_
 exact qn (.refl _) rfl hS rfl
 intro c8 f3 f4 f5 d8 hS b3 d9 hcq
 have c9 : ev c8 (.tmp 1) = vI a1 := Eq.trans (b3 1 rfl) rfl
 refine Z4 (vI a1) c9 rfl ?_
 exact qn (.refl _) rfl hS rfl
 intro f6 f7 f8 f9 e0 hS e1 b5 hcq
 refine Y9 Tryz.call217 (R0 (eM (b5 1 10 rfl rfl))) rfl (Zc2 b0  hS) ?_
 rintro g0 g1 ⟨_, g2, rfl, b6, hS, rfl⟩
 refine ⟨_, rfl, ?_⟩
 exact qn b6 rfl hS rfl
 intro g3 g4 g5 g6 e2 hS e3 a7 hcq
 refine Zt9 (Z7 .u8 a0 ++ [vI a3]) Xn4 (Ya6 (eM (a7 0 9 rfl rfl)) (eM (a7 2 11 rfl rfl))) (K5 rfl rfl rfl (Nat.le_of_ble_eq_true rfl) (K5 rfl rfl rfl (Nat.le_of_ble_eq_true rfl) (Zp6 rfl))) rfl ?_
 exact qn (.refl _) rfl hS rfl
 intro g7 g8 g9 h0 e4 hS e5 b7 hcq
 refine Zd8 (τ := yT) R5 Yb1 rfl [vA (Z7 .u8 a0 ++ [vI a3])] [(a0, a3)] rfl rfl (Za3 (eM (b7 3 12 rfl rfl))) (Zn7 ⟨_, _, rfl, rfl, rfl⟩) (by decide) (by decide) hS rfl ?_
 intro h1 h2 h3 b8 hS b9
 exact qn b8 rfl hS b9
 intro h4 h5 h6 h7 e6 hS e8 c0 hcq
 obtain ⟨d0, d1, a8⟩ := gvS (c0 4 13 rfl rfl)
 refine Zt9 ([d0]) Vb4 (Za3 d1) (K5 rfl a8.cellsL rfl (Nat.le_of_ble_eq_true rfl) (Zp6 rfl)) rfl ?_
 exact qn (.refl _) rfl hS ⟨_, rfl, ⟨_, rfl, a8⟩⟩
 intro d2 d3 d4 c1 hS c2 c3 hcq
 have hS : St d4 d3 ([(b4, cA ([vN]) 47)] ++ ([(b1, cA (Z7 .u8 a0) 70)] ++ L)) := hS
 have Z2 := Z2.trans c1
 have a9 : ev d2 (.tmp 4) = vP b4 := Eq.trans (c2 4 rfl) rfl
 obtain ⟨h8, d5, ⟨_, rfl, ⟨a4, rfl, a5⟩⟩⟩ := gvR (c3 5 14 (by decide) rfl)
 refine W0 (v := vA ([a4])) (vs := ([a4]).toArray) (cs := ([vN]).toArray) T1 (by exact a9) (by exact d5) rfl hS rfl (T8 a5.isOne) rfl ?_
 intro h9 hS
 refine Z1 ?_
 refine X0 (vs := [vA ([a4])]) Tryz.func170 ⟨⟨_, (by exact a9), U5 T1 (hS.get mL) rfl⟩, trivial⟩ ?_
 have hz := Option.some.inj q0
 subst hz
 exact ⟨_, _, rfl, Z2, (St.dropA (St.dropA hS)), ⟨_, rfl, ⟨_, rfl, a5⟩⟩⟩
def G4 (K : Nat) (a0 : (List Int)) : Nat → Int → Option (Ex Bool (Unit))
 | 0, _ => none
 | k + 1, a1 => (if a1 < (a0.length : Int) then ((Zr4 K (rd a0 a1) 1 12).bind fun r4 => (if r4 = true then G4 K a0 k (a1 + 1) else some (.ret false))) else some (.go ()))
def Zl1 (K : Nat) (a0 : (List Int)) : Option Bool := ((G4 K a0 K 0).bind (Ex.elim (fun r => some r) (fun s => some (decide ((a0.length : Int) ≤ 8)))))
theorem Yp2 {K : Nat} {a0 : (List Int)} {r : Bool} (q0 : Zl1 K a0 = some r) {H : FH} {w : World} {L : OL} {s0 : Value} (a4 : Y1 (Y6 .i64) H s0 a0) (hS : St H w L) :
 Calls Tryz.prog 178 #[s0] w (T2 (fun v G => R.bool.p G v r) H L) := by
 have Z2 := Sub.refl H
 refine X3 Tryz.func178 rfl Tryz.ntmps178 rfl ?_
 unfold Zl1 at q0
 refine Z3 (Z0 (Z5 (Value.bool false) rfl rfl (Z1 (Z3 (Z3 (Z0 (Z5 (vI 0) rfl rfl (Z1 (Y8 ?_)))))))))
 obtain ⟨b1, a3, a7⟩ := bind_some q0
 refine W5 (id := 0) (fun k f w => ∃ (a1 : Int) (H1 : FH), G4 K a0 k a1 = some b1 ∧ Sub H H1 ∧ St H1 w (L) ∧ 0 ≤ a1 ∧ Y1 (Y6 .i64) H1 s0 a0 ∧ ev f (.tmp 0) = s0 ∧ ev f (.tmp 3) = vI a1) (fun f w => ∃ (H1 : FH), b1 = .go () ∧ Sub H H1 ∧ St H1 w (L) ∧ Y1 (Y6 .i64) H1 s0 a0 ∧ ev f (.tmp 0) = s0) rfl ?_ ?_ K ?_ ?_
 rintro f w ⟨a1, H1, a3, _⟩
 rw [G4] at a3; cases a3
 rintro k c2 c3 b5 b6 ⟨a1, b4, a3, Z2, hS, b7, a4, a5, a6⟩
 rw [G4] at a3
 refine Z3 (Z3 (Z0 (Z4 (vI a1) (by exact a6) rfl (Z4 (s0) (by exact a5) rfl ?_))))
 have c7 := a4.bound
 refine W7 Q2 rfl a4 rfl ?_
 refine V7 (k := .i64) (a := a1) (b := (a0.length : Int)) rfl rfl rfl (Z1 ?_)
 by_cases a8 : a1 < (a0.length : Int)
 rw [if_pos a8] at a3
 refine Y0 (bT a8 rfl) (Y7 (Z3 (Y8 (Z3 (Z0 (Z4 (s0) (by exact a5) rfl (Z4 (vI a1) (by exact a6) rfl ?_)))))))
 obtain ⟨b3, o3, c8, E3, _, b8, b9, rfl, c0⟩ := a4.elem (i := a1) (by omega) (by omega)
 refine W3 Q2 rfl rfl b8 rfl (by omega) (by omega) rfl ?_
 refine Y4 (vI (rd a0 a1)) ty2 rfl (hS.froz _ _ b9) (c0 0 (show 0 < 1 by decide)) rfl ?_
 obtain ⟨r4, c1, a3⟩ := bind_some a3
 refine Y9 Tryz.call93 (I6 rfl rfl rfl) rfl (Zu9 c1  hS) ?_
 rintro e4 w5 ⟨_, H4, rfl, b2, hS, rfl⟩
 refine ⟨_, rfl, ?_⟩
 have Z2 := Z2.trans b2
 have a4 := a4.mono b2
 refine M4 (b := r4) rfl rfl (Z1 ?_)
 by_cases a9 : r4 = true
 rw [if_pos a9] at a3
 refine Z8 (Eq.trans rfl (congrArg (fun b => Value.bool (!b)) a9)) (Y7 (X2 (Z0 (Z4 (vI a1) (by exact a6) rfl ?_))))
 refine W8 (a1 + 1) rfl rfl (IntWalk.i64_in _ (by omega)) rfl (Z5 (vI (a1 + 1)) rfl rfl (Z1 ?_))
 exact b5 _ _ ⟨(a1 + 1), H4, a3, Z2, hS, (by omega), a4, a5, rfl⟩
 rw [if_neg a9] at a3
 refine Y0 (Eq.trans rfl (congrArg (fun b => Value.bool (!b)) (W1 a9))) (Z3 (Z0 (Z5 (Value.bool false) rfl rfl (Z1 ?_))))
 refine X0 (vs := [Value.bool false]) Tryz.func178 ⟨rfl, trivial⟩ ?_
 have hz := Option.some.inj a3
 subst hz
 dsimp only [Ex.elim] at a7
 have hz := Option.some.inj a7
 subst hz
 exact ⟨_, _, rfl, Z2, hS, rfl⟩
 rw [if_neg a8] at a3
 refine Z8 (bF a8 rfl) ?_
 refine W4 rfl ?_
 have hz := Option.some.inj a3
 subst hz
 exact b6 _ _ ⟨b4, rfl, Z2, hS, a4, a5⟩
 exact ⟨0, H, a3, Z2, hS, (by omega), a4, rfl, rfl⟩
 rintro c4 c5 ⟨c6, rfl, Z2, hS, a4, b0⟩
 dsimp only [Ex.elim] at a7
 refine Z3 (Z0 (Z4 (s0) (by exact b0) rfl ?_))
 have c9 := a4.bound
 refine W7 Q2 rfl a4 rfl ?_
 refine Yv7 (k := .i64) (a := (a0.length : Int)) (b := 8) rfl rfl rfl (Z5 (Value.bool (decide ((a0.length : Int) ≤ 8))) rfl rfl (Z1 ?_))
 refine X0 (vs := [Value.bool (decide ((a0.length : Int) ≤ 8))]) Tryz.func178 ⟨rfl, trivial⟩ ?_
 have hz := Option.some.inj a7
 subst hz
 exact ⟨_, _, rfl, Z2, hS, rfl⟩
def Zt6 (K : Nat) (a0 : (A8 × Int)) : Option (A8 × Int) := ((Zl5 K a0.1).bind fun a1 => some (a1, a0.2))
theorem Yy8 {K : Nat} {a0 : (A8 × Int)} {r : (A8 × Int)} (q0 : Zt6 K a0 = some r) {H : FH} {w : World} {L : OL} (hS : St H w L) :
 Calls Tryz.prog 200 #[vA (Z7 .u8 a0.1 ++ [vI a0.2])] w (T2 (fun v G => (R.agg yT).p (G.new H) v r) H L) := by
 have Z2 := Sub.refl H
 refine X3 Tryz.func200 rfl Tryz.ntmps200 rfl ?_
 unfold Zt6 at q0
 refine Z3 (Z0 ?_)
 refine S4 (v := vA (Z7 .u8 a0.1 ++ [vI a0.2])) (Z7 .u8 a0.1 ++ [vI a0.2]).toArray rfl rfl hS rfl ?_
 intro b1 w2 hS
 refine V1 (z := vA (Z7 .u8 (fun _ => 0) ++ [vI 0])) (Z7 .u8 (fun _ => 0) ++ [vI 0]).toArray Yb1.zero rfl hS rfl ?_
 intro b4 w5 hS
 refine Z1 (Z3 (Z0 ?_))
 refine V1 (z := vA (Z7 .u8 (fun _ => 0) ++ [vI 0])) (Z7 .u8 (fun _ => 0) ++ [vI 0]).toArray Yb1.zero rfl hS rfl ?_
 intro b7 w8 hS
 refine Z1 (Z3 (Z0 (Y3 Wk5 rfl rfl ?_)))
 refine V6 (Z7 .u8 a0.1) Vb0 rfl (hS.get (o := cA (Z7 .u8 a0.1 ++ [vI a0.2]) 236) (mR (mR mL))) rfl (fun j hj => Zj8 ([]) (Z7 .u8 a0.1) (([vI a0.2])) j hj) rfl ?_
 obtain ⟨a1, a3, q0⟩ := bind_some q0
 refine Y9 Tryz.call267 (R0 rfl) rfl (Yn9 a3  hS) ?_
 rintro a5 a6 ⟨a7, a8, rfl, a4, hS, ⟨_, rfl, rfl⟩⟩
 refine ⟨_, rfl, ?_⟩
 have Z2 := Z2.trans a4
 refine Y3 N1 rfl rfl ?_
 refine Za5 (v := vA (Z7 .u8 a1)) (cs := (Z7 .u8 (fun _ => 0) ++ [vI 0]).toArray) (cs' := (Z7 .u8 a1 ++ [vI 0]).toArray) N6 rfl rfl hS rfl (S9 .u8 a1) (Nat.le_of_ble_eq_true rfl) (by have h := Yx5 (Z7 .u8 a1) ([]) (Z7 .u8 (fun _ => 0)) (([vI 0])) rfl; simp only [List.append_assoc, List.nil_append, List.append_nil] at h ⊢; exact h) ?_
 intro a9 hS
 refine Z1 (Z3 (Z0 (Y3 Wj0 rfl rfl ?_)))
 refine Y4 (vI a0.2) ty2 rfl (hS.get (mR (mR mL))) rfl rfl (Y3 Zd9 rfl rfl ?_)
 refine Za5 (v := vI a0.2) (cs := (Z7 .u8 a1 ++ [vI 0]).toArray) (cs' := (Z7 .u8 a1 ++ [vI a0.2]).toArray) ty2 rfl rfl hS rfl (Zz4 rfl) (Nat.le_of_ble_eq_true rfl) rfl ?_
 intro b0 hS
 refine Z1 (Z3 (Z0 ?_))
 refine W2 Zu2 rfl (hS.get mL) rfl rfl ?_
 have hS := hS.perm U1
 refine W0 (v := vA (Z7 .u8 a1 ++ [vI a0.2])) (vs := (Z7 .u8 a1 ++ [vI a0.2]).toArray) (cs := (Z7 .u8 (fun _ => 0) ++ [vI 0]).toArray) Zu2 rfl rfl rfl hS rfl (L9 (S9 .u8 a1) (T8 rfl)) rfl ?_
 intro b2 hS
 have hS := hS.perm U1.symm
 refine Z1 ?_
 refine X0 (vs := [vA (Z7 .u8 a1 ++ [vI a0.2])]) Tryz.func200 ⟨⟨_, rfl, U5 Zu2 (hS.get (mR mL)) rfl⟩, trivial⟩ ?_
 have hz := Option.some.inj q0
 subst hz
 exact ⟨_, _, rfl, Z2, (St.dropA (St.dropA (St.dropA hS))), ⟨_, rfl, ⟨_, _, rfl, rfl, rfl⟩⟩⟩
def S0 (K : Nat) (a0 : (List MpT)) (a1 : (MpT → Option Bool)) : Option Bool := ((J3 K a0 a1).bind fun r1 => some (decide (0 ≤ r1)))
theorem Zd6 {K : Nat} {a0 : (List MpT)} {a1 : (MpT → Option Bool)} {r : Bool} (q0 : S0 K a0 a1 = some r) {H : FH} {w : World} {L : OL} {s0 : Value} {s1 : Value} (a3 : Y1 (X6 yT) H s0 a0) (a4 : FnQ Tryz.prog s1 (R.agg (X6 yT)) a1 H) (hS : St H w L) :
 Calls Tryz.prog 127 #[s0, s1] w (T2 (fun v G => R.bool.p G v r) H L) := by
 have Z2 := Sub.refl H
 refine X3 Tryz.func127 rfl Tryz.ntmps127 rfl ?_
 unfold S0 at q0
 refine Z3 (Z0 (Z5 (Value.bool false) rfl rfl (Z1 (Z3 (Z0 (Z4 (s0) rfl rfl (Z4 (s1) rfl rfl ?_)))))))
 obtain ⟨r1, a5, q0⟩ := bind_some q0
 refine Y9 Tryz.call222 (U7 rfl rfl) rfl (Zr0 a5 a3 a4 hS) ?_
 rintro e1 w2 ⟨_, H1, rfl, a6, hS, rfl⟩
 refine ⟨_, rfl, ?_⟩
 have Z2 := Z2.trans a6
 refine Yc2 (k := .i64) (a := r1) (b := 0) rfl rfl rfl (Z5 (Value.bool (decide (0 ≤ r1))) rfl rfl (Z1 ?_))
 refine X0 (vs := [Value.bool (decide (0 ≤ r1))]) Tryz.func127 ⟨rfl, trivial⟩ ?_
 have hz := Option.some.inj q0
 subst hz
 exact ⟨_, _, rfl, Z2, hS, rfl⟩
def Zx3 (K : Nat) (a0 : (List Int)) : Option Int := ((M0 K a0 (fun x => Zl9 K x)).bind fun r1 => some r1)
theorem Xf5 {K : Nat} {a0 : (List Int)} {r : Int} (q0 : Zx3 K a0 = some r) {H : FH} {w : World} {L : OL} {s0 : Value} (a1 : Y1 (Y6 .i64) H s0 a0) (hS : St H w L) :
 Calls Tryz.prog 192 #[s0] w (T2 (fun v G => (R.int .i64).p G v r) H L) := by
 have Z2 := Sub.refl H
 refine X3 Tryz.func192 rfl Tryz.ntmps192 rfl ?_
 unfold Zx3 at q0
 refine Z3 (Z0 (Z5 (vI 0) rfl rfl (Z1 (Z3 (Z0 (Z4 (s0) rfl rfl ?_))))))
 obtain ⟨r1, a3, q0⟩ := bind_some q0
 refine Y9 Tryz.call263 (U7 rfl rfl) rfl (Zl4 a3 a1 ⟨264, #[], rfl, Tryz.call264, fun H2 w2 L2 v x b a7 a4 hv a5 => by obtain rfl := hv; exact Yx3 a5   a4⟩ hS) ?_
 rintro e1 w3 ⟨_, H1, rfl, a6, hS, rfl⟩
 refine ⟨_, rfl, ?_⟩
 have Z2 := Z2.trans a6
 refine Z5 (vI r1) rfl rfl (Z1 ?_)
 refine X0 (vs := [vI r1]) Tryz.func192 ⟨rfl, trivial⟩ ?_
 have hz := Option.some.inj q0
 subst hz
 exact ⟨_, _, rfl, Z2, hS, rfl⟩
end Go.Proofs.YtfodlhkoafhplaaGreat
