/- Walks of functions: each computes its pure function, if that gives a value. -/
import Derived.Test.YtfodlhkoafhplaaGreatTTy
import Derived.Test.YtfodlhkoafhplaaGreatTF1
import Derived.Test.YtfodlhkoafhplaaGreatTF3
import Derived.Test.YtfodlhkoafhplaaGreatTF2
import Derived.Test.YtfodlhkoafhplaaGreatTF4
namespace Go.Proofs.YtfodlhkoafhplaaGreat
open Go
set_option linter.unusedSimpArgs false
set_option linter.unusedVariables false
set_option maxRecDepth 100000
set_option maxHeartbeats 8000000
def Ze0 (K : Nat) (j5 : Int → (List Int) → Option (Ex (List (List Int)) ((List Int)))) (a0 : ((List Int) × (List MpT))) (a1 : Int) (a3 : Int) (a5 : Int) (a6 : (List Int)) (c1 : Bool) : Option (Ex (List (List Int)) ((List Int))) := (if c1 = true then (if a5 < 8 then (if (Y5 ((rd (rd a0.2 a1) a3).1) a5) = 1 then (if a5 < (a6.length : Int) then j5 (a5 + 1) (a6.set (a5).toNat ((rd (rd a0.2 a1) a3).2)) else none) else j5 (a5 + 1) a6) else none) else some (.go a6))
def N0 (K : Nat) (a0 : ((List Int) × (List MpT))) (a1 : Int) (a3 : Int) : Nat → Int → (List Int) → Option (Ex (List (List Int)) ((List Int)))
 | 0, _, _ => none
 | k + 1, a5, a6 => (if a5 < (a0.1.length : Int) then ((Zs8 K ((rd (rd a0.2 a1) a3).1)).bind fun g9 => Ze0 K (N0 K a0 a1 a3 k) a0 a1 a3 a5 a6 (decide (g9 = 1))) else Ze0 K (N0 K a0 a1 a3 k) a0 a1 a3 a5 a6 false)
def D3 (K : Nat) (a0 : ((List Int) × (List MpT))) (a1 : Int) : Nat → Int → (List Int) → Option (Ex (List (List Int)) ((List Int)))
 | 0, _, _ => none
 | k + 1, a3, b6 => (if a3 < ((rd a0.2 a1).length : Int) then ((N0 K a0 a1 a3 K 0 b6).bind (Ex.elim (fun r => some (.ret r)) (fun s => (fun (c2 : (List Int)) => D3 K a0 a1 k (a3 + 1) c2) s))) else some (.go b6))
def D7 (K : Nat) (a0 : ((List Int) × (List MpT))) : Nat → Int → (List (List Int)) → Option (Ex (List (List Int)) ((List (List Int))))
 | 0, _, _ => none
 | k + 1, a1, a9 => (if a1 < (a0.2.length : Int) then (if (a0.1.length : Int) ≤ 1099511627776 then ((D3 K a0 a1 K 0 (List.replicate ((a0.1.length : Int)).toNat (0 : Int))).bind (Ex.elim (fun r => some (.ret r)) (fun s => (fun (b7 : (List Int)) => (if a9.length + ([b7]).length ≤ 1099511627776 then D7 K a0 k (a1 + 1) (a9 ++ [b7]) else none)) s))) else none) else some (.go a9))
def Zj5 (K : Nat) (a0 : ((List Int) × (List MpT))) : Option (List (List Int)) := ((D7 K a0 K 0 ([] : List (List Int))).bind (Ex.elim (fun r => some r) (fun s => (fun (d1 : (List (List Int))) => some d1) s)))
theorem Yb5 {K : Nat} {a0 : ((List Int) × (List MpT))} {r : (List (List Int))} (q0 : Zj5 K a0 = some r) {H : FH} {w : World} {L : OL} {s0 : Value} {s1 : Value} (b3 : Z9 (Y6 .i64) H s0 a0.1) (b4 : Z9 (Y9 yT) H s1 a0.2) (hS : St H w L) :
 Calls Tryz.prog 240 #[vA ([s0] ++ [s1])] w (T3 (fun v G => (R.sl (Y9 (Y6 .i64))).p G v r) H L) := by
 have Z2 := Sub.refl H
 refine X6 Tryz.func240 rfl Tryz.ntmps240 rfl ?_
 unfold Zj5 at q0
 refine Z3 (Z1 ?_)
 refine S4 (v := vA ([s0] ++ [s1])) ([s0] ++ [s1]).toArray rfl rfl hS rfl ?_
 intro b1 w2 hS
 refine Z5 (vN) rfl rfl (Z0 (Z3 (Z1 ?_)))
 refine Zn2 (τ := (Y9 (Y6 .i64))) Yd5 Xo9 rfl hS rfl ?_
 intro u4 w5 C6 m0 hS
 refine Z5 (u4) rfl rfl (Z0 (Z3 (Z3 (Z1 (Z5 (vI 0) rfl rfl (Z0 (Y7 ?_)))))))
 obtain ⟨i4, c5, i5⟩ := bind_some q0
 refine W7 (id := 0) (fun k f w => ∃ (a1 : Int) (a9 : (List (List Int))) (H1 : FH) (a8 : OL) (a7 : Value), D7 K a0 k a1 a9 = some i4 ∧ Sub H H1 ∧ St H1 w (a8 ++ ([(b1, cA ([s0] ++ [s1]) 29)] ++ L)) ∧ 0 ≤ a1 ∧ W3 (Y9 (Y6 .i64)) 22 H1 a7 a9 a8 ∧ Z9 (Y6 .i64) H1 s0 a0.1 ∧ Z9 (Y9 yT) H1 s1 a0.2 ∧ ev f (.tmp 1) = vP b1 ∧ ev f (.tmp 3) = a7 ∧ ev f (.tmp 4) = vI a1) (fun f w => ∃ (d1 : (List (List Int))) (H1 : FH) (d8 : OL) (c3 : Value), i4 = .go d1 ∧ Sub H H1 ∧ St H1 w (d8 ++ ([(b1, cA ([s0] ++ [s1]) 29)] ++ L)) ∧ W3 (Y9 (Y6 .i64)) 22 H1 c3 d1 d8 ∧ Z9 (Y6 .i64) H1 s0 a0.1 ∧ Z9 (Y9 yT) H1 s1 a0.2 ∧ ev f (.tmp 3) = c3) rfl ?_ ?_ K ?_ ?_
 rintro f w ⟨a1, a9, H1, a8, a7, c5, _⟩
 rw [D7] at c5; cases c5
 rintro k n5 n6 m1 m2 ⟨a1, a9, i6, a8, a7, c5, Z2, hS, m3, a4, b3, b4, e0, f2, f3⟩
 rw [D7] at c5
 refine Z3 (Z3 (Z1 (Z4 (vI a1) (by exact f3) rfl (Y2 P8 (by exact e0) rfl ?_))))
 refine Y3 (s1) Zd0 rfl (hS.get (mR mL)) rfl rfl ?_
 have p9 := b4.bound
 refine W6 N1 rfl b4 rfl ?_
 refine U7 (k := .i64) (a := a1) (b := (a0.2.length : Int)) rfl rfl rfl (Z0 ?_)
 by_cases g0 : a1 < (a0.2.length : Int)
 rw [if_pos g0] at c5
 refine Y0 (bT g0 rfl) (Y8 (Z3 (Y7 (Z3 (Z1 (Y2 R2 (by exact e0) rfl ?_))))))
 refine Y3 (s0) M0 rfl (hS.get (mR mL)) rfl rfl ?_
 have n7 := b3.bound
 refine W6 Q1 rfl b3 rfl ?_
 obtain ⟨n8, c5⟩ := gd c5
 refine Xe2 (τ := (Y6 .i64)) (0 : Int) Xb7 rfl rfl rfl (fun _ => rfl) (by omega) (by omega) hS rfl ?_
 intro j6 q1 m4 j9 hS
 refine Z5 (j6) rfl rfl (Z0 (Z3 (Z3 (Z1 (Z5 (vI 0) rfl rfl (Z0 (Y7 ?_)))))))
 obtain ⟨i7, d0, g1⟩ := bind_some c5
 refine W7 (id := 2) (fun k f w => ∃ (a3 : Int) (b6 : (List Int)) (H1 : FH) (b9 : OL) (c0 : Value), D3 K a0 a1 k a3 b6 = some i7 ∧ Sub H H1 ∧ St H1 w (b9 ++ (a8 ++ ([(b1, cA ([s0] ++ [s1]) 29)] ++ L))) ∧ 0 ≤ a3 ∧ W3 (Y6 .i64) 2 H1 c0 b6 b9 ∧ Z9 (Y6 .i64) H1 s0 a0.1 ∧ Z9 (Y9 yT) H1 s1 a0.2 ∧ W3 (Y9 (Y6 .i64)) 22 H1 a7 a9 a8 ∧ ev f (.tmp 1) = vP b1 ∧ ev f (.tmp 3) = a7 ∧ ev f (.tmp 4) = vI a1 ∧ ev f (.tmp 5) = c0 ∧ ev f (.tmp 6) = vI a3) (fun f w => ∃ (b7 : (List Int)) (H1 : FH) (d2 : OL) (c4 : Value), i7 = .go b7 ∧ Sub H H1 ∧ St H1 w (d2 ++ (a8 ++ ([(b1, cA ([s0] ++ [s1]) 29)] ++ L))) ∧ W3 (Y6 .i64) 2 H1 c4 b7 d2 ∧ Z9 (Y6 .i64) H1 s0 a0.1 ∧ Z9 (Y9 yT) H1 s1 a0.2 ∧ W3 (Y9 (Y6 .i64)) 22 H1 a7 a9 a8 ∧ ev f (.tmp 1) = vP b1 ∧ ev f (.tmp 3) = a7 ∧ ev f (.tmp 4) = vI a1 ∧ ev f (.tmp 5) = c4) rfl ?_ ?_ K ?_ ?_
 rintro f w ⟨a3, b6, H1, b9, c0, d0, _⟩
 rw [D3] at d0; cases d0
 rintro k n9 o0 m5 m6 ⟨a3, b6, i8, b9, c0, d0, Z2, hS, m7, d9, b3, b4, a4, d3, f4, d4, f5, e1⟩
 rw [D3] at d0
 refine Z3 (Z3 (Z1 (Z4 (vI a3) (by exact e1) rfl (Y2 P8 (by exact d3) rfl ?_))))
 refine Y3 (s1) Zd0 rfl (hS.get (mR (mR mL))) rfl rfl (Z4 (vI a1) (by exact d4) rfl ?_)
 obtain ⟨q2, q3, o1, q4, _, k0, k1, ⟨j3, rfl, h0⟩, k2⟩ := b4.elem (i := a1) (by omega) (by omega)
 refine W2 N1 rfl rfl k0 rfl (by omega) (by omega) rfl (Y2 U2 rfl rfl ?_)
 refine Y3 (j3) Q3 rfl (hS.froz _ _ k1) (k2 0 (show 0 < 1 by decide)) rfl ?_
 have o2 := h0.bound
 refine W6 Q0 rfl h0 rfl ?_
 refine U7 (k := .i64) (a := a3) (b := ((rd a0.2 a1).length : Int)) rfl rfl rfl (Z0 ?_)
 by_cases g2 : a3 < ((rd a0.2 a1).length : Int)
 rw [if_pos g2] at d0
 refine Y0 (bT g2 rfl) (Y8 (Z3 (Y7 (Z3 (Z1 (Y2 P8 (by exact d3) rfl ?_))))))
 refine Y3 (s1) Zd0 rfl (hS.get (mR (mR mL))) rfl rfl (Z4 (vI a1) (by exact d4) rfl ?_)
 obtain ⟨q5, q6, o3, q7, _, k3, k4, ⟨j4, rfl, i9⟩, k5⟩ := b4.elem (i := a1) (by omega) (by omega)
 refine W2 N1 rfl rfl k3 rfl (by omega) (by omega) rfl (Y2 U2 rfl rfl ?_)
 refine Y3 (j4) Q3 rfl (hS.froz _ _ k4) (k5 0 (show 0 < 1 by decide)) rfl (Z4 (vI a3) (by exact e1) rfl ?_)
 obtain ⟨q8, q9, o4, r0, _, k6, k7, ⟨_, _, rfl, rfl, rfl⟩, k8⟩ := i9.elem (i := a3) (by omega) (by omega)
 refine W2 Q0 rfl rfl k6 rfl (by omega) (by omega) rfl ?_
 refine V2 (Z7 .u8 ((rd (rd a0.2 a1) a3).1) ++ [vI ((rd (rd a0.2 a1) a3).2)]) Zs1 rfl (hS.froz _ _ k7) rfl k8 rfl ?_
 refine V0 (z := vA (Z7 .u8 (fun _ => 0) ++ [vI 0])) (Z7 .u8 (fun _ => 0) ++ [vI 0]).toArray Zx8.zero rfl hS rfl ?_
 intro h1 r1 hS
 refine W0 (v := vA (Z7 .u8 ((rd (rd a0.2 a1) a3).1) ++ [vI ((rd (rd a0.2 a1) a3).2)])) (vs := (Z7 .u8 ((rd (rd a0.2 a1) a3).1) ++ [vI ((rd (rd a0.2 a1) a3).2)]).toArray) (cs := (Z7 .u8 (fun _ => 0) ++ [vI 0]).toArray) Zs1 rfl rfl rfl hS rfl (P4 (S3 .u8 ((rd (rd a0.2 a1) a3).1)) (U9 rfl)) rfl ?_
 intro r2 hS
 refine Z0 (Z3 (Z1 (Z5 (vI 0) rfl rfl (Z0 (Y7 ?_)))))
 obtain ⟨h3, c6, j0⟩ := bind_some d0
 refine W7 (id := 4) (fun k f w => ∃ (a5 : Int) (a6 : (List Int)) (H1 : FH) (b5 : OL) (b0 : Value), N0 K a0 a1 a3 k a5 a6 = some h3 ∧ Sub H H1 ∧ St H1 w ([(h1, cA (Z7 .u8 ((rd (rd a0.2 a1) a3).1) ++ [vI ((rd (rd a0.2 a1) a3).2)]) 76)] ++ (b5 ++ (a8 ++ ([(b1, cA ([s0] ++ [s1]) 29)] ++ L)))) ∧ 0 ≤ a5 ∧ W3 (Y6 .i64) 2 H1 b0 a6 b5 ∧ Z9 (Y6 .i64) H1 s0 a0.1 ∧ Z9 (Y9 yT) H1 s1 a0.2 ∧ W3 (Y9 (Y6 .i64)) 22 H1 a7 a9 a8 ∧ ev f (.tmp 1) = vP b1 ∧ ev f (.tmp 3) = a7 ∧ ev f (.tmp 4) = vI a1 ∧ ev f (.tmp 5) = b0 ∧ ev f (.tmp 6) = vI a3 ∧ ev f (.tmp 7) = vP h1 ∧ ev f (.tmp 8) = vI a5) (fun f w => ∃ (c2 : (List Int)) (H1 : FH) (c8 : OL) (c9 : Value), h3 = .go c2 ∧ Sub H H1 ∧ St H1 w ([(h1, cA (Z7 .u8 ((rd (rd a0.2 a1) a3).1) ++ [vI ((rd (rd a0.2 a1) a3).2)]) 76)] ++ (c8 ++ (a8 ++ ([(b1, cA ([s0] ++ [s1]) 29)] ++ L)))) ∧ W3 (Y6 .i64) 2 H1 c9 c2 c8 ∧ Z9 (Y6 .i64) H1 s0 a0.1 ∧ Z9 (Y9 yT) H1 s1 a0.2 ∧ W3 (Y9 (Y6 .i64)) 22 H1 a7 a9 a8 ∧ ev f (.tmp 1) = vP b1 ∧ ev f (.tmp 3) = a7 ∧ ev f (.tmp 4) = vI a1 ∧ ev f (.tmp 5) = c9 ∧ ev f (.tmp 6) = vI a3) rfl ?_ ?_ K ?_ ?_
 rintro f w ⟨a5, a6, H1, b5, b0, c6, _⟩
 rw [N0] at c6; cases c6
 rintro k o5 o6 j7 m8 ⟨a5, a6, k9, b5, b0, c6, Z2, hS, m9, b2, b3, b4, a4, e2, f6, f7, f8, f9, e3, e4⟩
 rw [N0] at c6
 refine Z3 (Z3 ?_)
 refine Zc7 (fun f w => ∃ (c1 : Bool) (H1 : FH), Ze0 K (N0 K a0 a1 a3 k) a0 a1 a3 a5 a6 c1 = some h3 ∧ Sub H H1 ∧ St H1 w ([(h1, cA (Z7 .u8 ((rd (rd a0.2 a1) a3).1) ++ [vI ((rd (rd a0.2 a1) a3).2)]) 76)] ++ (b5 ++ (a8 ++ ([(b1, cA ([s0] ++ [s1]) 29)] ++ L)))) ∧ Z9 (Y6 .i64) H1 s0 a0.1 ∧ Z9 (Y9 yT) H1 s1 a0.2 ∧ W3 (Y6 .i64) 2 H1 b0 a6 b5 ∧ W3 (Y9 (Y6 .i64)) 22 H1 a7 a9 a8 ∧ ev f (.tmp 1) = vP b1 ∧ ev f (.tmp 3) = a7 ∧ ev f (.tmp 4) = vI a1 ∧ ev f (.tmp 5) = b0 ∧ ev f (.tmp 6) = vI a3 ∧ ev f (.tmp 7) = vP h1 ∧ ev f (.tmp 8) = vI a5 ∧ ev f (.tmp 51) = Value.bool c1) ?_ ?_
 rintro o7 n0 ⟨c1, e9, b8, Z2, hS, b3, b4, b2, a4, e5, e6, e7, d5, e8, d6, d7, f0⟩
 unfold Ze0 at b8
 by_cases g3 : c1 = true
 rw [if_pos g3] at b8
 refine Y0 (Eq.trans (by exact f0) (congrArg Value.bool g3)) (Y8 (Z3 (Y7 (Z3 (Z1 (Z4 (vI a5) (by exact d7) rfl (Y2 M5 (by exact d6) rfl ?_)))))))
 obtain ⟨o8, b8⟩ := gd b8
 refine V6 Zc8 rfl rfl (by omega) (by omega) rfl ?_
 refine Y3 (Value.int .u8 (Y5 ((rd (rd a0.2 a1) a3).1) a5)) ty5 rfl (hS.get (o := cA (Z7 .u8 ((rd (rd a0.2 a1) a3).1) ++ [vI ((rd (rd a0.2 a1) a3).2)]) 76) mL) (L9 ([]) (([vI ((rd (rd a0.2 a1) a3).2)])) (by omega) (by omega)) rfl ?_
 refine E4 (k := .u8) (a := (Y5 ((rd (rd a0.2 a1) a3).1) a5)) (b := 1) rfl rfl rfl (Z0 ?_)
 by_cases g4 : (Y5 ((rd (rd a0.2 a1) a3).1) a5) = 1
 rw [if_pos g4] at b8
 refine Y0 (bT g4 rfl) (Z1 (Z4 (b0) (by exact d5) rfl (Z4 (vI a5) (by exact d7) rfl (Y2 Ze8 (by exact d6) rfl ?_))))
 refine Y3 (vI ((rd (rd a0.2 a1) a3).2)) ty2 rfl (hS.get mL) rfl rfl ?_
 obtain ⟨o9, b8⟩ := gd b8
 obtain ⟨r3, r4, j1⟩ := b2.some (i := a5) (by omega) (by omega)
 refine Zt8 Q1 (Eq.trans rfl j1) rfl (by omega) (by omega) rfl ?_
 have hS := hS.perm V3
 refine Zu1 (τ := (Y6 .i64)) (v := b0) (u := vI ((rd (rd a0.2 a1) a3).2)) ((rd (rd a0.2 a1) a3).2) (i := a5) rfl ty2 j1 b2 hS rfl rfl (by omega) (by omega) rfl ?_
 intro r5 n1 l0 hS
 have hS := hS.perm V3.symm
 refine Z0 (X5 (Z1 (Z4 (vI a5) (by exact d7) rfl ?_)))
 refine V1 (a5 + 1) rfl rfl (IntWalk.i64_in _ (by omega)) rfl (Z5 (vI (a5 + 1)) rfl rfl (Z0 ?_))
 exact j7 _ _ ⟨(a5 + 1), (a6.set (a5).toNat ((rd (rd a0.2 a1) a3).2)), e9, n1, b0, b8, Z2, hS, (by omega), l0, b3, b4, a4, e5, e6, e7, d5, e8, d6, rfl⟩
 rw [if_neg g4] at b8
 refine Z8 (bF g4 rfl) (Y8 (X5 (Z1 (Z4 (vI a5) (by exact d7) rfl ?_))))
 refine V1 (a5 + 1) rfl rfl (IntWalk.i64_in _ (by omega)) rfl (Z5 (vI (a5 + 1)) rfl rfl (Z0 ?_))
 exact j7 _ _ ⟨(a5 + 1), a6, e9, b5, b0, b8, Z2, hS, (by omega), b2, b3, b4, a4, e5, e6, e7, d5, e8, d6, rfl⟩
 rw [if_neg g3] at b8
 refine Z8 (Eq.trans (by exact f0) (congrArg Value.bool (W5 g3))) ?_
 refine W4 rfl ?_
 have hz := Option.some.inj b8
 subst hz
 exact m8 _ _ ⟨a6, e9, b5, b0, rfl, Z2, hS, b2, b3, b4, a4, e5, e6, e7, d5, e8⟩
 intro j2
 refine Z1 (Z4 (vI a5) (by exact e4) rfl (Y2 R2 (by exact e2) rfl ?_))
 refine Y3 (s0) M0 rfl (hS.get (mR (mR (mR mL)))) rfl rfl ?_
 have p0 := b3.bound
 refine W6 Q1 rfl b3 rfl ?_
 refine U7 (k := .i64) (a := a5) (b := (a0.1.length : Int)) rfl rfl rfl (Z4 (Value.bool (decide (a5 < (a0.1.length : Int)))) rfl rfl ?_)
 by_cases c7 : a5 < (a0.1.length : Int)
 rw [if_pos c7] at c6
 refine Y4 rfl rfl (bT c7 rfl) (Y2 M5 (by exact e3) rfl ?_)
 refine Y4 rfl rfl (bT c7 rfl) ?_
 refine V2 (Z7 .u8 ((rd (rd a0.2 a1) a3).1)) N5 rfl (hS.get (o := cA (Z7 .u8 ((rd (rd a0.2 a1) a3).1) ++ [vI ((rd (rd a0.2 a1) a3).2)]) 76) mL) rfl (fun j hj => Zj6 ([]) (Z7 .u8 ((rd (rd a0.2 a1) a3).1)) (([vI ((rd (rd a0.2 a1) a3).2)])) j hj) rfl ?_
 obtain ⟨g9, l1, c6⟩ := bind_some c6
 refine Y4 rfl rfl (bT c7 rfl) ?_
 refine X0 Tryz.call279 (S1 rfl) rfl (Yx2 l1  hS) ?_
 rintro r6 r7 ⟨_, n2, rfl, f1, hS, rfl⟩
 refine ⟨_, rfl, ?_⟩
 have Z2 := Z2.trans f1
 have b3 := b3.mono f1
 have b4 := b4.mono f1
 have a4 := a4.mono f1
 have b2 := b2.mono f1
 refine Y4 rfl rfl (bT c7 rfl) ?_
 refine E4 (k := .i64) (a := g9) (b := 1) rfl rfl rfl ?_
 refine V9 (t := true) (Value.bool (decide (g9 = 1))) (bT c7 rfl) ((if_pos rfl).trans rfl) rfl (Z0 ?_)
 exact j2 _ _ ⟨(decide (g9 = 1)), n2, c6, Z2, hS, b3, b4, b2, a4, e2, f6, f7, f8, f9, e3, e4, rfl⟩
 rw [if_neg c7] at c6
 refine Y1 rfl rfl (bF c7 rfl) rfl rfl rfl (Y1 rfl rfl (bF c7 rfl) rfl rfl rfl (Y1 rfl rfl (bF c7 rfl) rfl rfl rfl (Y1 rfl rfl (bF c7 rfl) rfl rfl rfl ?_)))
 refine V9 (t := false) (Value.bool false) (bF c7 rfl) ((if_neg Bool.false_ne_true).trans rfl) rfl (Z0 ?_)
 exact j2 _ _ ⟨false, k9, c6, Z2, hS, b3, b4, b2, a4, e2, f6, f7, f8, f9, e3, e4, rfl⟩
 exact ⟨0, b6, i8, b9, c0, c6, Z2, hS, (by omega), d9, b3, b4, a4, d3, f4, d4, f5, e1, rfl, rfl⟩
 rintro p1 p2 ⟨c2, l2, c8, c9, rfl, Z2, hS, g5, b3, b4, a4, h4, h5, h6, h7, h8⟩
 dsimp only [Ex.elim] at j0
 refine X5 (Z1 (Z4 (vI a3) (by exact h8) rfl ?_))
 refine V1 (a3 + 1) rfl rfl (IntWalk.i64_in _ (by omega)) rfl (Z5 (vI (a3 + 1)) rfl rfl (Z0 ?_))
 have hS := St.dropA hS
 exact m5 _ _ ⟨(a3 + 1), c2, l2, c8, c9, j0, Z2, hS, (by omega), g5, b3, b4, a4, h4, h5, h6, h7, rfl⟩
 rw [if_neg g2] at d0
 refine Z8 (bF g2 rfl) ?_
 refine W4 rfl ?_
 have hz := Option.some.inj d0
 subst hz
 exact m6 _ _ ⟨b6, i8, b9, c0, rfl, Z2, hS, d9, b3, b4, a4, d3, f4, d4, f5⟩
 exact ⟨0, (List.replicate ((a0.1.length : Int)).toNat (0 : Int)), i6, m4, j6, d0, Z2, hS, (by omega), j9, b3, b4, a4, e0, f2, f3, rfl, rfl⟩
 rintro p3 p4 ⟨b7, p5, d2, c4, rfl, Z2, hS, g6, b3, b4, a4, h9, i0, i1, i2⟩
 dsimp only [Ex.elim] at g1
 refine Z1 (Z4 (a7) (by exact i0) rfl (Z4 (c4) (by exact i2) rfl ?_))
 obtain ⟨r8, g7, hS, l3⟩ := g6.freeze hS
 have Z2 := Z2.trans g7
 have b3 := b3.mono g7
 have b4 := b4.mono g7
 have a4 := a4.mono g7
 refine D1 (τ := (Y9 (Y6 .i64))) Yd5 Xo9 rfl [c4] [b7] rfl rfl (L4 rfl) (Zg7 l3.relv) (by decide) (by decide) hS rfl ?_
 intro r9 n3 s2 g8 hS l4
 have Z2 := Z2.trans g8
 have b3 := b3.mono g8
 have b4 := b4.mono g8
 have a4 := a4.mono g8
 obtain ⟨l5, g1⟩ := gd g1
 refine P5 (τ := (Y9 (Y6 .i64))) Wn4 rfl rfl rfl a4 hS l4 l5 rfl ?_
 intro j8 s3 n4 l6 hS
 refine Z5 (j8) rfl rfl (Z0 (X5 (Z1 (Z4 (vI a1) (by exact i1) rfl ?_))))
 refine V1 (a1 + 1) rfl rfl (IntWalk.i64_in _ (by omega)) rfl (Z5 (vI (a1 + 1)) rfl rfl (Z0 ?_))
 exact m1 _ _ ⟨(a1 + 1), (a9 ++ [b7]), n3, n4, j8, g1, Z2, hS, (by omega), l6, b3, b4, h9, rfl, rfl⟩
 rw [if_neg g0] at c5
 refine Z8 (bF g0 rfl) ?_
 refine W4 rfl ?_
 have hz := Option.some.inj c5
 subst hz
 exact m2 _ _ ⟨a9, i6, a8, a7, rfl, Z2, hS, a4, b3, b4, f2⟩
 exact ⟨0, ([] : List (List Int)), H, C6, u4, c5, Z2, hS, (by omega), m0, b3, b4, rfl, rfl, rfl⟩
 rintro p6 p7 ⟨d1, p8, d8, c3, rfl, Z2, hS, h2, b3, b4, i3⟩
 dsimp only [Ex.elim] at i5
 refine Z3 (Z1 (Z4 (c3) (by exact i3) rfl (Z5 (c3) rfl rfl (Z0 ?_))))
 refine X3 (vs := [c3]) Tryz.func240 ⟨rfl, trivial⟩ ?_
 obtain ⟨s4, l7, hS, l9⟩ := h2.freeze hS
 have Z2 := Z2.trans l7
 have hz := Option.some.inj i5
 subst hz
 exact ⟨_, _, rfl, Z2, (St.dropA hS), l9⟩
def Zd1 (K : Nat) (a0 : ((List Int) × (List MpT))) : Nat → Int → (List MpT) → Option (Ex ((List Int) × (List MpT)) ((List MpT)))
 | 0, _, _ => none
 | k + 1, a4, a1 => (if a4 < (a0.2.length : Int) then ((Zr3 K (rd a0.2 a4) 0).bind fun c3 => (if a1.length + ([c3]).length ≤ 1099511627776 then Zd1 K a0 k (a4 + 1) (a1 ++ [c3]) else none)) else some (.go a1))
def Zu6 (K : Nat) (a0 : ((List Int) × (List MpT))) : Option ((List Int) × (List MpT)) := ((Zy3 K a0.1).bind fun r7 => ((Zd1 K a0 K 0 ([] : List MpT)).bind (Ex.elim (fun r => some r) (fun s => (fun (a7 : (List MpT)) => some (r7, a7)) s))))
theorem Xb6 {K : Nat} {a0 : ((List Int) × (List MpT))} {r : ((List Int) × (List MpT))} (q0 : Zu6 K a0 = some r) {H : FH} {w : World} {L : OL} {s0 : Value} {s1 : Value} (b6 : Z9 (Y6 .i64) H s0 a0.1) (b2 : Z9 (Y9 yT) H s1 a0.2) (hS : St H w L) :
 Calls Tryz.prog 142 #[vA ([s0] ++ [s1])] w (Wy6 (Y6 .i64) (Y9 yT) 47 r H L) := by
 have Z2 := Sub.refl H
 refine X6 Tryz.func142 rfl Tryz.ntmps142 rfl ?_
 unfold Zu6 at q0
 refine Z3 (Z1 ?_)
 refine S4 (v := vA ([s0] ++ [s1])) ([s0] ++ [s1]).toArray rfl rfl hS rfl ?_
 intro b1 w2 hS
 refine V0 (z := vA ([vN] ++ [vN])) ([vN] ++ [vN]).toArray Zu2.zero rfl hS rfl ?_
 intro b4 w5 hS
 refine Z0 (Z3 (Z1 (Y2 R2 rfl rfl ?_)))
 refine Y3 (s0) M0 rfl (hS.get (mR mL)) rfl rfl ?_
 obtain ⟨r7, g7, q0⟩ := bind_some q0
 refine X0 Tryz.call234 (S1 rfl) rfl (Xb0 g7 b6 hS) ?_
 rintro e7 w8 ⟨v7, H7, rfl, d5, hS, b3⟩
 refine ⟨_, rfl, ?_⟩
 have Z2 := Z2.trans d5
 have b6 := b6.mono d5
 have b2 := b2.mono d5
 refine Zj7 ([v7] ++ [vN]) Xz1 (L4 rfl) (Q2 rfl b3.cellsL rfl (Nat.le_of_ble_eq_true rfl) (Zf6 rfl)) rfl ?_
 refine V0 (z := vA ([vN] ++ [vN])) ([vN] ++ [vN]).toArray Zu2.zero rfl hS rfl ?_
 intro b9 k7 hS
 refine W0 (v := vA ([v7] ++ [vN])) (vs := ([v7] ++ [vN]).toArray) (cs := ([vN] ++ [vN]).toArray) Q8 rfl rfl rfl hS rfl (P4 (U9 b3.isOne) (U9 rfl)) rfl ?_
 intro k8 hS
 refine Z0 (Z3 (Z3 (Z1 (Z5 (vI 0) rfl rfl (Z0 (Y7 ?_))))))
 have d6 : W3 (Y9 yT) 47 H7 (.slice none 0 0) [] [] := W3.nil _ _ _
 obtain ⟨d7, a8, d8⟩ := bind_some q0
 refine W7 (id := 0) (fun k f w => ∃ (a4 : Int) (a1 : (List MpT)) (H1 : FH) (a5 : OL) (a3 : Value), Zd1 K a0 k a4 a1 = some d7 ∧ Sub H H1 ∧ St H1 w (a5 ++ ([(b9, cA ([v7] ++ [a3]) 29)] ++ ([(b4, cA ([vN] ++ [vN]) 29)] ++ ([(b1, cA ([s0] ++ [s1]) 29)] ++ L)))) ∧ 0 ≤ a4 ∧ W3 (Y9 yT) 47 H1 a3 a1 a5 ∧ Z9 (Y6 .i64) H1 s0 a0.1 ∧ Z9 (Y9 yT) H1 s1 a0.2 ∧ Z9 (Y6 .i64) H1 v7 r7 ∧ ev f (.tmp 1) = vP b1 ∧ ev f (.tmp 2) = vP b4 ∧ ev f (.tmp 3) = vP b9 ∧ ev f (.tmp 4) = vI a4) (fun f w => ∃ (a7 : (List MpT)) (H1 : FH) (b0 : OL) (a6 : Value), d7 = .go a7 ∧ Sub H H1 ∧ St H1 w (b0 ++ ([(b9, cA ([v7] ++ [a6]) 29)] ++ ([(b4, cA ([vN] ++ [vN]) 29)] ++ ([(b1, cA ([s0] ++ [s1]) 29)] ++ L)))) ∧ W3 (Y9 yT) 47 H1 a6 a7 b0 ∧ Z9 (Y6 .i64) H1 s0 a0.1 ∧ Z9 (Y9 yT) H1 s1 a0.2 ∧ Z9 (Y6 .i64) H1 v7 r7 ∧ ev f (.tmp 2) = vP b4 ∧ ev f (.tmp 3) = vP b9) rfl ?_ ?_ K ?_ ?_
 rintro f w ⟨a4, a1, H1, a5, a3, a8, _⟩
 rw [Zd1] at a8; cases a8
 rintro k h5 h6 g8 g9 ⟨a4, a1, e8, a5, a3, a8, Z2, hS, h0, a9, b6, b2, b3, b8, c5, c0, c1⟩
 rw [Zd1] at a8
 refine Z3 (Z3 (Z1 (Z4 (vI a4) (by exact c1) rfl (Y2 P8 (by exact b8) rfl ?_))))
 refine Y3 (s1) Zd0 rfl (hS.get (mR (mR (mR mL)))) rfl rfl ?_
 have h7 := b2.bound
 refine W6 N1 rfl b2 rfl ?_
 refine U7 (k := .i64) (a := a4) (b := (a0.2.length : Int)) rfl rfl rfl (Z0 ?_)
 by_cases c7 : a4 < (a0.2.length : Int)
 rw [if_pos c7] at a8
 refine Y0 (bT c7 rfl) (Y8 (Z3 (Y7 ?_)))
 obtain ⟨h1, h2, h8, k9, _, e9, c8, ⟨d0, rfl, c4⟩, f0⟩ := b2.elem (i := a4) (by omega) (by omega)
 obtain ⟨c3, f1, a8⟩ := bind_some a8
 refine U0 9 (Q6 [(16, MP.eq (vQ b9 1)), (17, MP.eq (a3)), (18, MP.eq (vQ b1 1)), (19, MP.eq (s1)), (20, MP.eq (vI a4)), (21, MP.eq (Value.pointer (some ⟨h1, h2, none⟩))), (22, MP.eq (vA ([d0]))), (23, MP.rep (R.agg (Y9 yT)) (c3)), (24, MP.sl (Y9 yT) ([c3]))]) [] mixed rfl rfl rfl hS (Z6 rfl ?_ (Z6 rfl ?_ (Z6 rfl ?_ (Z6 rfl ?_ (Z6 rfl ?_ (Z6 rfl ?_ (Z6 rfl ?_ (Z6 rfl ?_ (Z6 rfl ?_ U8))))))))) ?_
 intro l0 l1 l2 l3 h9 hS f2 i0 hcq
 refine Y2 P8 (evT (f2 3 rfl) c0) rfl ?_
 exact qn (.refl _) rfl hS rfl
 intro l4 l5 l6 l7 i1 hS i2 f3 hcq
 refine Y3 (a3) Zd0 (eM (f3 0 16 rfl rfl)) (hS.get (mR (mR mL))) rfl rfl ?_
 exact qn (.refl _) rfl hS rfl
 intro l9 m0 m1 m2 i3 hS f4 i4 hcq
 refine Y2 P8 (evT (f4 1 rfl) b8) rfl ?_
 exact qn (.refl _) rfl hS rfl
 intro m3 m4 m5 m6 i5 hS i6 f5 hcq
 refine Y3 (s1) Zd0 (eM (f5 2 18 rfl rfl)) (hS.get (mR (mR (mR (mR mL))))) rfl rfl ?_
 exact qn (.refl _) rfl hS rfl
 intro m7 m8 m9 n0 i7 hS f6 i8 hcq
 refine Z4 (vI a4) (evT (f6 4 rfl) c1) rfl ?_
 exact qn (.refl _) rfl hS rfl
 intro n1 n2 n3 n4 i9 hS j0 d9 hcq
 refine W2 N1 rfl (eM (d9 3 19 rfl rfl)) e9 (eM (d9 4 20 rfl rfl)) (by omega) (by omega) rfl ?_
 exact qn (.refl _) rfl hS rfl
 intro n5 n6 n7 n8 f7 hS j1 f8 hcq
 have c8 := f7.1 _ _ c8
 refine V2 ([d0]) U3 (eM (f8 5 21 rfl rfl)) (hS.froz _ _ c8) rfl f0 rfl ?_
 exact qn (.refl _) rfl hS rfl
 intro n9 o0 o1 o2 f9 hS j2 g0 hcq
 have c4 := c4.mono f9
 refine X0 Tryz.call235 (S5 (eM (g0 6 22 rfl rfl)) rfl) rfl (Yx1 f1 c4 hS) ?_
 rintro o3 o4 ⟨h3, o5, rfl, g1, hS, g2⟩
 refine ⟨h3, rfl, ?_⟩
 exact qn g1 rfl hS g2
 intro o6 o7 o8 o9 j3 hS j4 g3 hcq
 obtain ⟨j5, h4, ⟨_, rfl, ⟨e0, rfl, d3⟩⟩⟩ := gvR (g3 7 23 rfl rfl)
 refine D1 (τ := (Y9 yT)) N1 K7 rfl [vA ([e0])] [c3] rfl rfl (L4 h4) (Zg7 ⟨_, rfl, d3⟩) (by decide) (by decide) hS rfl ?_
 intro j6 j7 j8 e3 hS e4
 exact qn e3 rfl hS e4
 intro j9 g4 e1 b7 hS c2 d1 hcq
 have hS : St e1 g4 (a5 ++ ([(b9, cA ([v7] ++ [a3]) 29)] ++ ([(b4, cA ([vN] ++ [vN]) 29)] ++ ([(b1, cA ([s0] ++ [s1]) 29)] ++ L)))) := hS
 have Z2 := Z2.trans b7
 have b6 := b6.mono b7
 have b2 := b2.mono b7
 have b3 := b3.mono b7
 have a9 := a9.mono b7
 have e2 := evT (c2 3 rfl) c0
 obtain ⟨k0, g5, e5⟩ := gvS (d1 8 24 (by decide) rfl)
 obtain ⟨e6, a8⟩ := gd a8
 refine P5 (τ := (Y9 yT)) Yi7 rfl (by exact (eM (d1 1 17 (by decide) rfl))) (by exact g5) a9 hS e5 e6 rfl ?_
 intro c9 k1 g6 d2 hS
 refine Y2 P8 (by exact e2) rfl ?_
 have hS := hS.perm V3
 refine Za3 (v := c9) (cs := ([v7] ++ [a3]).toArray) (cs' := ([v7] ++ [c9]).toArray) Zd0 rfl rfl hS d2.isOne rfl (Nat.le_of_ble_eq_true rfl) rfl ?_
 intro k2 hS
 have hS := hS.perm V3.symm
 refine Z0 (X5 (Z1 (Z4 (vI a4) (by exact (evT (c2 4 rfl) c1)) rfl ?_)))
 refine V1 (a4 + 1) rfl rfl (IntWalk.i64_in _ (by omega)) rfl (Z5 (vI (a4 + 1)) rfl rfl (Z0 ?_))
 exact g8 _ _ ⟨(a4 + 1), (a1 ++ [c3]), e1, g6, c9, a8, Z2, hS, (by omega), d2, b6, b2, b3, (evT (c2 1 rfl) b8), (evT (c2 2 rfl) c5), e2, rfl⟩
 rw [if_neg c7] at a8
 refine Z8 (bF c7 rfl) ?_
 refine W4 rfl ?_
 have hz := Option.some.inj a8
 subst hz
 exact g9 _ _ ⟨a1, e8, a5, a3, rfl, Z2, hS, a9, b6, b2, b3, c5, c0⟩
 exact ⟨0, ([] : List MpT), H7, ([]), (vN), a8, Z2, hS, (by omega), d6, b6, b2, b3, rfl, rfl, rfl, rfl⟩
 rintro k3 k4 ⟨a7, k5, b0, a6, rfl, Z2, hS, b5, b6, b2, b3, c6, d4⟩
 dsimp only [Ex.elim] at d8
 refine Z3 (Z1 ?_)
 refine W1 Q8 (by exact d4) (hS.get (mR mL)) rfl rfl ?_
 have hS := hS.perm Q5
 refine W0 (v := vA ([v7] ++ [a6])) (vs := ([v7] ++ [a6]).toArray) (cs := ([vN] ++ [vN]).toArray) Q8 (by exact c6) rfl rfl hS rfl (P4 (U9 b3.isOne) (U9 b5.isOne)) rfl ?_
 intro k6 hS
 have hS := hS.perm Q5.symm
 refine Z0 ?_
 refine X3 (vs := [vA ([v7] ++ [a6])]) Tryz.func142 ⟨⟨_, (by exact c6), U1 Q8 (hS.get (mR (mR mL))) rfl⟩, trivial⟩ ?_
 have hS := St.dropMid hS
 have hS := St.dropMid hS
 have hS := St.dropMid hS
 have hz := Option.some.inj d8
 subst hz
 exact ⟨_, _, _, _, rfl, Z2, hS, b3, b5⟩
def Zk4 (K : Nat) (e2 : Int → Int → Option (Ex (Int × Bool) (Int))) (a6 : Int) (a3 : Int) (a7 : Bool) : Option (Ex (Int × Bool) (Int)) := (if a7 = true then some (.ret (0, false)) else e2 a6 (a3 + 1))
def S9 (K : Nat) (a0 : (List Int)) (a1 : MpT) : Nat → Int → Int → Option (Ex (Int × Bool) (Int))
 | 0, _, _ => none
 | k + 1, a4, a3 => (if a3 < (a1.length : Int) then ((Zg3 K ((rd a1 a3).1)).bind fun d5 => ((Zj1 K d5 a0).bind fun a6 => (if 0 ≤ a4 then Zk4 K (S9 K a0 a1 k) a6 a3 (!decide (a6 = a4)) else Zk4 K (S9 K a0 a1 k) a6 a3 false))) else some (.go a4))
def Zv7 (K : Nat) (a0 : (List Int)) (a1 : MpT) : Option (Int × Bool) := ((S9 K a0 a1 K (-1) 0).bind (Ex.elim (fun r => some r) (fun s => (fun (b2 : Int) => some (b2, true)) s)))
theorem Ys6 {K : Nat} {a0 : (List Int)} {a1 : MpT} {r : (Int × Bool)} (q0 : Zv7 K a0 a1 = some r) {H : FH} {w : World} {L : OL} {s0 : Value} {s1 : Value} (b3 : Z9 (Y6 .i64) H s0 a0) (a8 : Z9 yT H s1 a1) (hS : St H w L) :
 Calls Tryz.prog 130 #[s0, vA ([s1])] w (T3 (fun v G => (R.t2 (R.int .i64) R.bool).p G v r) H L) := by
 have Z2 := Sub.refl H
 refine X6 Tryz.func130 rfl Tryz.ntmps130 rfl ?_
 unfold Zv7 at q0
 refine Z3 (Z1 ?_)
 refine S4 (v := vA ([s1])) ([s1]).toArray rfl rfl hS rfl ?_
 intro b1 w2 hS
 refine Z5 (vI 0) rfl rfl (Z5 (Value.bool false) rfl rfl (Z0 (Z3 (Z1 (Z5 (vI (-1)) rfl rfl (Z0 (Z3 (Z3 (Z1 (Y2 U2 rfl rfl ?_))))))))))
 refine Y3 (s1) Q3 rfl (hS.get mL) rfl rfl ?_
 have f4 := a8.bound
 refine W6 Q0 rfl a8 rfl (Z4 (vI 0) rfl rfl (Z0 (Y7 ?_)))
 obtain ⟨c4, a5, c2⟩ := bind_some q0
 refine W7 (id := 0) (fun k f w => ∃ (a4 : Int) (a3 : Int) (H1 : FH), S9 K a0 a1 k a4 a3 = some c4 ∧ Sub H H1 ∧ St H1 w ([(b1, cA ([s1]) 47)] ++ L) ∧ 0 ≤ a3 ∧ Z9 (Y6 .i64) H1 s0 a0 ∧ Z9 yT H1 s1 a1 ∧ ev f (.tmp 0) = s0 ∧ ev f (.tmp 6) = vI a4 ∧ ev f (.tmp 11) = s1 ∧ ev f (.tmp 12) = vI (a1.length : Int) ∧ ev f (.tmp 13) = vI a3) (fun f w => ∃ (b2 : Int) (H1 : FH), c4 = .go b2 ∧ Sub H H1 ∧ St H1 w ([(b1, cA ([s1]) 47)] ++ L) ∧ Z9 yT H1 s1 a1 ∧ ev f (.tmp 6) = vI b2) rfl ?_ ?_ K ?_ ?_
 rintro f w ⟨a4, a3, H1, a5, _⟩
 rw [S9] at a5; cases a5
 rintro k e9 f0 e3 e4 ⟨a4, a3, d8, a5, Z2, hS, e1, b3, a8, b9, c0, b4, b5, b0⟩
 rw [S9] at a5
 refine Z3 (Z1 ?_)
 refine U7 (k := .i64) (a := a3) (b := (a1.length : Int)) (by exact b0) (by exact b5) rfl (Z0 (Z3 ?_))
 by_cases c7 : a3 < (a1.length : Int)
 rw [if_pos c7] at a5
 refine Y0 (bT c7 rfl) (Y8 (Z3 (Y7 (Z3 (Z1 ?_)))))
 obtain ⟨b6, o6, f5, E6, _, e5, e6, ⟨_, _, rfl, rfl, rfl⟩, e7⟩ := a8.elem (i := a3) (by omega) (by omega)
 refine W2 Q0 rfl (by exact b4) e5 (by exact b0) (by omega) (by omega) rfl ?_
 refine V2 (Z7 .u8 ((rd a1 a3).1) ++ [vI ((rd a1 a3).2)]) Zs1 rfl (hS.froz _ _ e6) rfl e7 rfl ?_
 refine V0 (z := vA (Z7 .u8 (fun _ => 0) ++ [vI 0])) (Z7 .u8 (fun _ => 0) ++ [vI 0]).toArray Zx8.zero rfl hS rfl ?_
 intro b7 w8 hS
 refine W0 (v := vA (Z7 .u8 ((rd a1 a3).1) ++ [vI ((rd a1 a3).2)])) (vs := (Z7 .u8 ((rd a1 a3).1) ++ [vI ((rd a1 a3).2)]).toArray) (cs := (Z7 .u8 (fun _ => 0) ++ [vI 0]).toArray) Zs1 rfl rfl rfl hS rfl (P4 (S3 .u8 ((rd a1 a3).1)) (U9 rfl)) rfl ?_
 intro f6 hS
 refine Z0 (Z3 (Z1 (Y2 M5 rfl rfl ?_)))
 refine V2 (Z7 .u8 ((rd a1 a3).1)) N5 rfl (hS.get (o := cA (Z7 .u8 ((rd a1 a3).1) ++ [vI ((rd a1 a3).2)]) 76) mL) rfl (fun j hj => Zj6 ([]) (Z7 .u8 ((rd a1 a3).1)) (([vI ((rd a1 a3).2)])) j hj) rfl ?_
 obtain ⟨d5, d9, a5⟩ := bind_some a5
 refine X0 Tryz.call176 (S1 rfl) rfl (Zq9 d9  hS) ?_
 rintro f7 f8 ⟨f9, g0, rfl, c5, hS, ⟨_, rfl, rfl⟩⟩
 refine ⟨_, rfl, ?_⟩
 have Z2 := Z2.trans c5
 have b3 := b3.mono c5
 have a8 := a8.mono c5
 refine Z4 (s0) (by exact b9) rfl ?_
 obtain ⟨a6, e0, a5⟩ := bind_some a5
 refine X0 Tryz.call223 (S5 rfl rfl) rfl (Yl7 e0 b3 hS) ?_
 rintro g1 g2 ⟨_, d6, rfl, c6, hS, rfl⟩
 refine ⟨_, rfl, ?_⟩
 have Z2 := Z2.trans c6
 have b3 := b3.mono c6
 have a8 := a8.mono c6
 refine Z5 (vI a6) rfl rfl (Z0 (Z3 (Z3 ?_)))
 refine Zc7 (fun f w => ∃ (a7 : Bool) (H1 : FH), Zk4 K (S9 K a0 a1 k) a6 a3 a7 = some c4 ∧ Sub H H1 ∧ St H1 w ([(b7, cA (Z7 .u8 ((rd a1 a3).1) ++ [vI ((rd a1 a3).2)]) 76)] ++ ([(b1, cA ([s1]) 47)] ++ L)) ∧ Z9 (Y6 .i64) H1 s0 a0 ∧ Z9 yT H1 s1 a1 ∧ ev f (.tmp 0) = s0 ∧ ev f (.tmp 9) = vI a6 ∧ ev f (.tmp 11) = s1 ∧ ev f (.tmp 12) = vI (a1.length : Int) ∧ ev f (.tmp 13) = vI a3 ∧ ev f (.tmp 28) = Value.bool a7) ?_ ?_
 rintro g3 e8 ⟨a7, d4, b8, Z2, hS, b3, a8, d2, d3, c8, c9, d0, c1⟩
 unfold Zk4 at b8
 by_cases c3 : a7 = true
 rw [if_pos c3] at b8
 refine Y0 (Eq.trans (by exact c1) (congrArg Value.bool c3)) (Z3 (Z1 (Z5 (vI 0) rfl rfl (Z5 (Value.bool false) rfl rfl (Z0 ?_)))))
 refine X3 (vs := [vI 0, Value.bool false]) Tryz.func130 ⟨rfl, rfl, trivial⟩ ?_
 have hz := Option.some.inj b8
 subst hz
 dsimp only [Ex.elim] at c2
 have hz := Option.some.inj c2
 subst hz
 exact ⟨_, _, rfl, Z2, (St.dropA (St.dropA hS)), ⟨_, _, rfl, rfl, rfl⟩⟩
 rw [if_neg c3] at b8
 refine Z8 (Eq.trans (by exact c1) (congrArg Value.bool (W5 c3))) (Y8 (Z1 (Z4 (vI a6) (by exact d3) rfl (Z5 (vI a6) rfl rfl (Z0 (X5 (Z1 ?_)))))))
 refine V1 (a3 + 1) (by exact d0) rfl (IntWalk.i64_in _ (by omega)) rfl (Z4 (vI (a3 + 1)) rfl rfl (Z0 ?_))
 have hS := St.dropA hS
 exact e3 _ _ ⟨a6, (a3 + 1), d4, b8, Z2, hS, (by omega), b3, a8, d2, rfl, c8, c9, rfl⟩
 intro d7
 refine Z1 (Z4 (vI a4) (by exact c0) rfl ?_)
 refine Yc7 (k := .i64) (a := a4) (b := 0) rfl rfl rfl (Z4 (Value.bool (decide (0 ≤ a4))) rfl rfl ?_)
 by_cases a9 : 0 ≤ a4
 rw [if_pos a9] at a5
 refine Y4 rfl rfl (bT a9 rfl) (Z4 (vI a6) rfl rfl ?_)
 refine Y4 rfl rfl (bT a9 rfl) (Z4 (vI a4) (by exact c0) rfl ?_)
 refine Y4 rfl rfl (bT a9 rfl) ?_
 refine G4 (k := .i64) (a := a6) (b := a4) rfl rfl rfl ?_
 refine V9 (t := true) (Value.bool (!decide (a6 = a4))) (bT a9 rfl) ((if_pos rfl).trans rfl) rfl (Z0 ?_)
 exact d7 _ _ ⟨(!decide (a6 = a4)), d6, a5, Z2, hS, b3, a8, b9, rfl, b4, b5, b0, rfl⟩
 rw [if_neg a9] at a5
 refine Y1 rfl rfl (bF a9 rfl) rfl rfl rfl (Y1 rfl rfl (bF a9 rfl) rfl rfl rfl (Y1 rfl rfl (bF a9 rfl) rfl rfl rfl ?_))
 refine V9 (t := false) (Value.bool false) (bF a9 rfl) ((if_neg Bool.false_ne_true).trans rfl) rfl (Z0 ?_)
 exact d7 _ _ ⟨false, d6, a5, Z2, hS, b3, a8, b9, rfl, b4, b5, b0, rfl⟩
 rw [if_neg c7] at a5
 refine Z8 (bF c7 rfl) ?_
 refine W4 rfl ?_
 have hz := Option.some.inj a5
 subst hz
 exact e4 _ _ ⟨a4, d8, rfl, Z2, hS, a8, c0⟩
 exact ⟨(-1), 0, H, a5, Z2, hS, (by omega), b3, a8, rfl, rfl, rfl, rfl, rfl⟩
 rintro f1 f2 ⟨b2, f3, rfl, Z2, hS, a8, d1⟩
 dsimp only [Ex.elim] at c2
 refine Z3 (Z1 (Z4 (vI b2) (by exact d1) rfl (Z5 (vI b2) rfl rfl (Z5 (Value.bool true) rfl rfl (Z0 ?_)))))
 refine X3 (vs := [vI b2, Value.bool true]) Tryz.func130 ⟨rfl, rfl, trivial⟩ ?_
 have hz := Option.some.inj c2
 subst hz
 exact ⟨_, _, rfl, Z2, (St.dropA hS), ⟨_, _, rfl, rfl, rfl⟩⟩
def Ze5 (K : Nat) (a0 : MpT) : Nat → Int → MpT → Option (Ex MpT (MpT))
 | 0, _, _ => none
 | k + 1, a1, a3 => (if a1 < (a0.length : Int) then ((Zg3 K ((rd a0 a1).1)).bind fun b7 => Ze5 K a0 k (a1 + 1) (I9 a3 b7 ((rd a0 a1).2))) else some (.go a3))
def Zd3 (K : Nat) (a0 : MpT) : Option MpT := ((Ze5 K a0 K 0 ([] : MpT)).bind (Ex.elim (fun r => some r) (fun s => (fun (a7 : MpT) => some a7) s)))
theorem Zh0 {K : Nat} {a0 : MpT} {r : MpT} (q0 : Zd3 K a0 = some r) {H : FH} {w : World} {L : OL} {s0 : Value} (a8 : Z9 yT H s0 a0) (hS : St H w L) :
 Calls Tryz.prog 90 #[vA ([s0])] w (Yr2 .i64 r H L) := by
 have Z2 := Sub.refl H
 refine X6 Tryz.func90 rfl Tryz.ntmps90 rfl ?_
 unfold Zd3 at q0
 refine Z3 (Z1 ?_)
 refine S4 (v := vA ([s0])) ([s0]).toArray rfl rfl hS rfl ?_
 intro b1 w2 hS
 refine Z5 (Value.map none) rfl rfl (Z0 (Z3 (Z1 ?_)))
 refine Zi0 (k := .i64) hS rfl ?_
 intro m4 w5 C6 e0 hS
 refine Z5 (m4) rfl rfl (Z0 (Z3 (Z3 (Z1 (Y2 U2 rfl rfl ?_)))))
 refine Y3 (s0) Q3 rfl (hS.get (mR mL)) rfl rfl ?_
 have g7 := a8.bound
 refine W6 Q0 rfl a8 rfl (Z4 (vI 0) rfl rfl (Z0 (Y7 ?_)))
 obtain ⟨c3, a5, c4⟩ := bind_some q0
 refine W7 (id := 0) (fun k f w => ∃ (a1 : Int) (a3 : MpT) (H1 : FH) (a4 : OL), Ze5 K a0 k a1 a3 = some c3 ∧ Sub H H1 ∧ St H1 w (a4 ++ ([(b1, cA ([s0]) 47)] ++ L)) ∧ 0 ≤ a1 ∧ P2 .i64 m4 a3 a4 ∧ Z9 yT H1 s0 a0 ∧ ev f (.tmp 3) = m4 ∧ ev f (.tmp 8) = s0 ∧ ev f (.tmp 9) = vI (a0.length : Int) ∧ ev f (.tmp 10) = vI a1) (fun f w => ∃ (a7 : MpT) (H1 : FH) (a9 : OL), c3 = .go a7 ∧ Sub H H1 ∧ St H1 w (a9 ++ ([(b1, cA ([s0]) 47)] ++ L)) ∧ P2 .i64 m4 a7 a9 ∧ Z9 yT H1 s0 a0 ∧ ev f (.tmp 3) = m4) rfl ?_ ?_ K ?_ ?_
 rintro f w ⟨a1, a3, H1, a4, a5, _⟩
 rw [Ze5] at a5; cases a5
 rintro k e9 f0 e1 e2 ⟨a1, a3, c6, a4, a5, Z2, hS, d9, a6, a8, b2, b3, b4, b0⟩
 rw [Ze5] at a5
 refine Z3 (Z1 ?_)
 refine U7 (k := .i64) (a := a1) (b := (a0.length : Int)) (by exact b0) (by exact b4) rfl (Z0 (Z3 ?_))
 by_cases b5 : a1 < (a0.length : Int)
 rw [if_pos b5] at a5
 refine Y0 (bT b5 rfl) (Y8 (Z3 (Y7 (Z3 (Z1 ?_)))))
 obtain ⟨g8, g9, f1, h0, _, c7, c8, ⟨_, _, rfl, rfl, rfl⟩, c9⟩ := a8.elem (i := a1) (by omega) (by omega)
 refine W2 Q0 rfl (by exact b3) c7 (by exact b0) (by omega) (by omega) rfl ?_
 refine V2 (Z7 .u8 ((rd a0 a1).1) ++ [vI ((rd a0 a1).2)]) Zs1 rfl (hS.froz _ _ c8) rfl c9 rfl ?_
 refine V0 (z := vA (Z7 .u8 (fun _ => 0) ++ [vI 0])) (Z7 .u8 (fun _ => 0) ++ [vI 0]).toArray Zx8.zero rfl hS rfl ?_
 intro b8 h1 hS
 refine W0 (v := vA (Z7 .u8 ((rd a0 a1).1) ++ [vI ((rd a0 a1).2)])) (vs := (Z7 .u8 ((rd a0 a1).1) ++ [vI ((rd a0 a1).2)]).toArray) (cs := (Z7 .u8 (fun _ => 0) ++ [vI 0]).toArray) Zs1 rfl rfl rfl hS rfl (P4 (S3 .u8 ((rd a0 a1).1)) (U9 rfl)) rfl ?_
 intro h2 hS
 refine Z0 ?_
 obtain ⟨b7, d0, a5⟩ := bind_some a5
 refine U0 6 (Q6 [(14, MP.eq (m4)), (15, MP.eq (vP b8)), (16, MP.eq (vA (Z7 .u8 ((rd a0 a1).1)))), (17, MP.eq (vA (Z7 .i64 b7))), (18, MP.eq (vQ b8 8)), (19, MP.eq (vI ((rd a0 a1).2)))]) [] mixed rfl rfl rfl hS (Z6 rfl ?_ (Z6 rfl ?_ (Z6 rfl ?_ (Z6 rfl ?_ (Z6 rfl ?_ (Z6 rfl ?_ U8)))))) ?_
 intro h3 h4 h5 h6 f2 hS d1 f3 hcq
 refine Z4 (m4) (evT (d1 3 rfl) b2) rfl ?_
 exact qn (.refl _) rfl hS rfl
 intro e3 h7 h8 h9 f4 hS d2 f5 hcq
 have e4 : ev e3 (.tmp 5) = vP b8 := Eq.trans (d2 5 rfl) rfl
 refine Y2 M5 e4 rfl ?_
 exact qn (.refl _) rfl hS rfl
 intro i0 i1 i2 i3 f6 hS f7 d3 hcq
 refine V2 (Z7 .u8 ((rd a0 a1).1)) N5 (eM (d3 1 15 rfl rfl)) (hS.get (o := cA (Z7 .u8 ((rd a0 a1).1) ++ [vI ((rd a0 a1).2)]) 76) (mR mL)) rfl (fun j hj => Zj6 ([]) (Z7 .u8 ((rd a0 a1).1)) (([vI ((rd a0 a1).2)])) j hj) rfl ?_
 exact qn (.refl _) rfl hS rfl
 intro i4 i5 i6 i7 f8 hS f9 d4 hcq
 refine X0 Tryz.call176 (S1 (eM (d4 2 16 rfl rfl))) rfl (Zq9 d0  hS) ?_
 rintro i8 i9 ⟨j0, j1, rfl, d5, hS, ⟨_, rfl, rfl⟩⟩
 refine ⟨_, rfl, ?_⟩
 exact qn d5 rfl hS rfl
 intro e5 j2 j3 j4 g0 hS d6 g1 hcq
 have e6 : ev e5 (.tmp 5) = vP b8 := Eq.trans (d6 5 rfl) rfl
 refine Y2 Ze8 e6 rfl ?_
 exact qn (.refl _) rfl hS rfl
 intro j5 j6 j7 j8 g2 hS g3 d7 hcq
 refine Y3 (vI ((rd a0 a1).2)) ty2 (eM (d7 4 18 rfl rfl)) (hS.get (mR mL)) rfl rfl ?_
 exact qn (.refl _) rfl hS rfl
 intro j9 e7 c5 c0 hS b6 c1 hcq
 have hS : St c5 e7 ([(b8, cA (Z7 .u8 ((rd a0 a1).1) ++ [vI ((rd a0 a1).2)]) 76)] ++ (a4 ++ ([(b1, cA ([s0]) 47)] ++ L))) := hS
 have Z2 := Z2.trans c0
 have a8 := a8.mono c0
 have a6 := a6.mono c0
 have hS := hS.perm V3
 refine Yy5 (a := b7) (m := (rd a0 a1).2) Zg8 (by exact (eM (c1 0 14 (by decide) rfl))) (by exact (eM (c1 3 17 (by decide) rfl))) (by exact (eM (c1 5 19 (by decide) rfl))) a6 hS ?_
 intro k0 e8 d8 hS
 have hS := hS.perm V3.symm
 refine Z0 (X5 (Z1 ?_))
 refine V1 (a1 + 1) (by exact (evT (b6 10 rfl) b0)) rfl (IntWalk.i64_in _ (by omega)) rfl (Z4 (vI (a1 + 1)) rfl rfl (Z0 ?_))
 have hS := St.dropA hS
 exact e1 _ _ ⟨(a1 + 1), (I9 a3 b7 ((rd a0 a1).2)), c5, e8, a5, Z2, hS, (by omega), d8, a8, (evT (b6 3 rfl) b2), (evT (b6 8 rfl) b3), (evT (b6 9 rfl) b4), rfl⟩
 rw [if_neg b5] at a5
 refine Z8 (bF b5 rfl) ?_
 refine W4 rfl ?_
 have hz := Option.some.inj a5
 subst hz
 exact e2 _ _ ⟨a3, c6, a4, rfl, Z2, hS, a6, a8, b2⟩
 exact ⟨0, ([] : MpT), H, C6, a5, Z2, hS, (by omega), e0, a8, rfl, rfl, rfl, rfl⟩
 rintro g4 g5 ⟨a7, g6, a9, rfl, Z2, hS, b9, a8, c2⟩
 dsimp only [Ex.elim] at c4
 refine Z3 (Z1 (Z4 (m4) (by exact c2) rfl (Z5 (m4) rfl rfl (Z0 ?_))))
 refine X3 (vs := [m4]) Tryz.func90 ⟨rfl, trivial⟩ ?_
 have hS := St.dropMid hS
 have hz := Option.some.inj c4
 subst hz
 exact ⟨_, _, _, rfl, Z2, hS, b9⟩
def Zu9 (K : Nat) (a0 : (A8 × Int)) (a1 : (A8 × Int)) : Option Bool := ((Zm5 K a0.1 a1.1).bind fun r7 => (if r7 = true then (if a0.2 = a1.2 then some true else some false) else some false))
theorem Yy8 {K : Nat} {a0 : (A8 × Int)} {a1 : (A8 × Int)} {r : Bool} (q0 : Zu9 K a0 a1 = some r) {H : FH} {w : World} {L : OL} (hS : St H w L) :
 Calls Tryz.prog 201 #[vA (Z7 .u8 a0.1 ++ [vI a0.2]), vA (Z7 .u8 a1.1 ++ [vI a1.2])] w (T3 (fun v G => R.bool.p G v r) H L) := by
 have Z2 := Sub.refl H
 refine X6 Tryz.func201 rfl Tryz.ntmps201 rfl ?_
 unfold Zu9 at q0
 refine Z3 (Z1 ?_)
 refine S4 (v := vA (Z7 .u8 a0.1 ++ [vI a0.2])) (Z7 .u8 a0.1 ++ [vI a0.2]).toArray rfl rfl hS rfl ?_
 intro b1 w2 hS
 refine S4 (v := vA (Z7 .u8 a1.1 ++ [vI a1.2])) (Z7 .u8 a1.1 ++ [vI a1.2]).toArray rfl rfl hS rfl ?_
 intro b4 w5 hS
 refine Z5 (Value.bool false) rfl rfl (Z0 (Z3 (Z3 (Z1 (Y2 M5 rfl rfl ?_)))))
 refine V2 (Z7 .u8 a0.1) N5 rfl (hS.get (o := cA (Z7 .u8 a0.1 ++ [vI a0.2]) 76) (mR mL)) rfl (fun j hj => Zj6 ([]) (Z7 .u8 a0.1) (([vI a0.2])) j hj) rfl (Y2 M5 rfl rfl ?_)
 refine V2 (Z7 .u8 a1.1) N5 rfl (hS.get (o := cA (Z7 .u8 a1.1 ++ [vI a1.2]) 76) mL) rfl (fun j hj => Zj6 ([]) (Z7 .u8 a1.1) (([vI a1.2])) j hj) rfl ?_
 obtain ⟨r7, a5, q0⟩ := bind_some q0
 refine X0 Tryz.call268 (S5 rfl rfl) rfl (Yo1 a5  hS) ?_
 rintro e7 w8 ⟨_, H7, rfl, a6, hS, rfl⟩
 refine ⟨_, rfl, ?_⟩
 have Z2 := Z2.trans a6
 refine G5 (b := r7) rfl rfl (Z0 ?_)
 by_cases a4 : r7 = true
 rw [if_pos a4] at q0
 refine Z8 (Eq.trans rfl (congrArg (fun b => Value.bool (!b)) a4)) (Y8 (Z3 (Z3 (Z1 (Y2 Ze8 rfl rfl ?_)))))
 refine Y3 (vI a0.2) ty2 rfl (hS.get (mR mL)) rfl rfl (Y2 Ze8 rfl rfl ?_)
 refine Y3 (vI a1.2) ty2 rfl (hS.get mL) rfl rfl ?_
 refine G4 (k := .i64) (a := a0.2) (b := a1.2) rfl rfl rfl (Z0 ?_)
 by_cases a3 : a0.2 = a1.2
 rw [if_pos a3] at q0
 refine Z8 (bN a3 rfl) (Y8 (Z3 (Z1 (Z5 (Value.bool true) rfl rfl (Z0 ?_)))))
 refine X3 (vs := [Value.bool true]) Tryz.func201 ⟨rfl, trivial⟩ ?_
 have hz := Option.some.inj q0
 subst hz
 exact ⟨_, _, rfl, Z2, (St.dropA (St.dropA hS)), rfl⟩
 rw [if_neg a3] at q0
 refine Y0 (bO a3 rfl) (Z3 (Z1 (Z5 (Value.bool false) rfl rfl (Z0 ?_))))
 refine X3 (vs := [Value.bool false]) Tryz.func201 ⟨rfl, trivial⟩ ?_
 have hz := Option.some.inj q0
 subst hz
 exact ⟨_, _, rfl, Z2, (St.dropA (St.dropA hS)), rfl⟩
 rw [if_neg a4] at q0
 refine Y0 (Eq.trans rfl (congrArg (fun b => Value.bool (!b)) (W5 a4))) (Z3 (Z1 (Z5 (Value.bool false) rfl rfl (Z0 ?_))))
 refine X3 (vs := [Value.bool false]) Tryz.func201 ⟨rfl, trivial⟩ ?_
 have hz := Option.some.inj q0
 subst hz
 exact ⟨_, _, rfl, Z2, (St.dropA (St.dropA hS)), rfl⟩
def T7 (K : Nat) (a0 : MpT) (a1 : A8) (a2 : Int) : Option MpT := (if nfm a0 = true ∧ -4611686018427387904 ≤ a2 ∧ a2 ≤ 4611686018427387904 then ((Zk0 K (IntKind.i64.wrap ((R6 a0 a1) + a2))).bind fun r4 => (if r4 = 0 then some (Zi3 a0 a1) else some (I9 a0 a1 r4))) else none)
theorem Yf7 {K : Nat} {a0 : MpT} {a1 : A8} {a2 : Int} {r : MpT} (q0 : T7 K a0 a1 a2 = some r) {H : FH} {w : World} {L C0 : OL} {s0 : Value} (a3 : P2 .i64 s0 a0 C0) (hS : St H w (C0 ++ L)) :
 Calls Tryz.prog 225 #[s0, vA (Z7 .i64 a1), vI a2] w (Wn3 .i64 s0 r H L) := by
 have Z2 := Sub.refl H
 refine X6 Tryz.func225 rfl Tryz.ntmps225 rfl ?_
 unfold T7 at q0
 obtain ⟨hG, q0⟩ := gd q0
 refine Z3 (Z1 ?_)
 refine S4 (v := vA (Z7 .i64 a1)) (Z7 .i64 a1).toArray rfl rfl hS rfl ?_
 intro b1 w2 hS
 refine Z0 (Z3 (Z1 (Z4 (s0) rfl rfl ?_)))
 refine W1 L0 rfl (hS.get mL) rfl rfl ?_
 have hS := hS.perm V3
 refine Yu5 (a := a1) Zg8 rfl rfl a3 hS rfl ?_
 have hS := hS.perm V3.symm
 refine Z4 (vI a2) rfl rfl ?_
 refine V1 (IntKind.i64.wrap ((R6 a0 a1) + a2)) rfl rfl rfl rfl ?_
 obtain ⟨r4, a7, q0⟩ := bind_some q0
 refine X0 Tryz.call215 (S1 rfl) rfl (Zz9 a7  hS) ?_
 rintro e4 w5 ⟨_, H4, rfl, a5, hS, rfl⟩
 refine ⟨_, rfl, ?_⟩
 have Z2 := Z2.trans a5
 have a3 := a3.mono a5
 refine Z5 (vI r4) rfl rfl (Z0 (Z3 (Z1 (Z4 (vI r4) rfl rfl ?_))))
 refine G4 (k := .i64) (a := r4) (b := 0) rfl rfl rfl (Z0 ?_)
 by_cases a4 : r4 = 0
 rw [if_pos a4] at q0
 refine Z8 (bN a4 rfl) (Z1 (Z4 (s0) rfl rfl ?_))
 refine W1 L0 rfl (hS.get mL) rfl rfl ?_
 have hS := hS.perm V3
 refine Xq9 (a := a1) Zg8 rfl rfl a3 hS ?_
 intro w7 C8 a8 hS
 have hS := hS.perm V3.symm
 refine Z0 ?_
 refine Xh2 (vs := []) Tryz.func225 trivial ?_
 have hS := hS.perm V3
 have hS := St.dropMid hS
 have hz := Option.some.inj q0
 subst hz
 exact ⟨_, _, rfl, Z2, hS, a8⟩
 rw [if_neg a4] at q0
 refine Y0 (bO a4 rfl) (Z1 (Z4 (s0) rfl rfl ?_))
 refine W1 L0 rfl (hS.get mL) rfl rfl (Z4 (vI r4) rfl rfl ?_)
 have hS := hS.perm V3
 refine Yy5 (a := a1) (m := r4) Zg8 rfl rfl rfl a3 hS ?_
 intro a9 b0 a6 hS
 have hS := hS.perm V3.symm
 refine Z0 ?_
 refine Xh2 (vs := []) Tryz.func225 trivial ?_
 have hS := hS.perm V3
 have hS := St.dropMid hS
 have hz := Option.some.inj q0
 subst hz
 exact ⟨_, _, rfl, Z2, hS, a6⟩
def Zf3 (K : Nat) (a0 : (List Int)) (a1 : Int) : Option Bool := ((Zo8 K a0 a1).bind fun r1 => some (decide (0 ≤ r1)))
theorem Yb4 {K : Nat} {a0 : (List Int)} {a1 : Int} {r : Bool} (q0 : Zf3 K a0 a1 = some r) {H : FH} {w : World} {L : OL} {s0 : Value} (a3 : Z9 (Y6 .i64) H s0 a0) (hS : St H w L) :
 Calls Tryz.prog 175 #[s0, vI a1] w (T3 (fun v G => R.bool.p G v r) H L) := by
 have Z2 := Sub.refl H
 refine X6 Tryz.func175 rfl Tryz.ntmps175 rfl ?_
 unfold Zf3 at q0
 refine Z3 (Z1 (Z5 (Value.bool false) rfl rfl (Z0 (Z3 (Z1 (Z4 (s0) rfl rfl (Z4 (vI a1) rfl rfl ?_)))))))
 obtain ⟨r1, a4, q0⟩ := bind_some q0
 refine X0 Tryz.call252 (S5 rfl rfl) rfl (Yf3 a4 a3 hS) ?_
 rintro e1 w2 ⟨_, H1, rfl, a5, hS, rfl⟩
 refine ⟨_, rfl, ?_⟩
 have Z2 := Z2.trans a5
 refine Yc7 (k := .i64) (a := r1) (b := 0) rfl rfl rfl (Z5 (Value.bool (decide (0 ≤ r1))) rfl rfl (Z0 ?_))
 refine X3 (vs := [Value.bool (decide (0 ≤ r1))]) Tryz.func175 ⟨rfl, trivial⟩ ?_
 have hz := Option.some.inj q0
 subst hz
 exact ⟨_, _, rfl, Z2, hS, rfl⟩
def Zm6 (K : Nat) (a0 : Int) : Option Bool := ((Zp2 K a0 1 12).bind fun r1 => some (!r1))
theorem Yj6 {K : Nat} {a0 : Int} {r : Bool} (q0 : Zm6 K a0 = some r) {H : FH} {w : World} {L : OL} (hS : St H w L) :
 Calls Tryz.prog 219 #[vI a0] w (T3 (fun v G => R.bool.p G v r) H L) := by
 have Z2 := Sub.refl H
 refine X6 Tryz.func219 rfl Tryz.ntmps219 rfl ?_
 unfold Zm6 at q0
 refine Z3 (Z1 (Z5 (Value.bool false) rfl rfl (Z0 (Z3 (Z1 (Z4 (vI a0) rfl rfl ?_))))))
 obtain ⟨r1, a1, q0⟩ := bind_some q0
 refine X0 Tryz.call97 (I1 rfl rfl rfl) rfl (Yi9 a1  hS) ?_
 rintro e1 w2 ⟨_, H1, rfl, a3, hS, rfl⟩
 refine ⟨_, rfl, ?_⟩
 have Z2 := Z2.trans a3
 refine G5 (b := r1) rfl rfl (Z5 (Value.bool (!r1)) rfl rfl (Z0 ?_))
 refine X3 (vs := [Value.bool (!r1)]) Tryz.func219 ⟨rfl, trivial⟩ ?_
 have hz := Option.some.inj q0
 subst hz
 exact ⟨_, _, rfl, Z2, hS, rfl⟩
end Go.Proofs.YtfodlhkoafhplaaGreat
