/- Walks of functions: each computes its pure function, if that gives a value. -/
import Derived.Test.YtfodlhkoafhplaaGreatTTy
namespace Go.Proofs.YtfodlhkoafhplaaGreat
open Go
set_option linter.unusedSimpArgs false
set_option linter.unusedVariables false
set_option maxRecDepth 100000
set_option maxHeartbeats 8000000
def Zb8 (K : Nat) (a0 : MpT) (a1 : Int) (a3 : Int) : Nat → Int → A8 → Option (Ex MpT (A8))
 | 0, _, _ => none
 | k + 1, a7, b0 => (if (IntKind.i64.wrap (a7 + a1)) < 8 then (if a7 < 8 then (if 0 ≤ (IntKind.i64.wrap (a7 + a1)) then Zb8 K a0 a1 a3 k (a7 + 1) (S2 b0 (IntKind.i64.wrap (a7 + a1)) (Y5 ((rd a0 a3).1) a7)) else none) else none) else some (.go b0))
def Zb4 (K : Nat) (a0 : MpT) (a1 : Int) : Nat → Int → MpT → Option (Ex MpT (MpT))
 | 0, _, _ => none
 | k + 1, a3, a5 => (if a3 < (a0.length : Int) then ((Zb8 K a0 a1 a3 K 0 (fun _ => 0)).bind (Ex.elim (fun r => some (.ret r)) (fun s => (fun (a8 : A8) => (if a5.length + ([(a8, (rd a0 a3).2)]).length ≤ 1099511627776 then Zb4 K a0 a1 k (a3 + 1) (a5 ++ [(a8, (rd a0 a3).2)]) else none)) s))) else some (.go a5))
def Zr3 (K : Nat) (a0 : MpT) (a1 : Int) : Option MpT := ((Zb4 K a0 a1 K 0 ([] : List (A8 × Int))).bind (Ex.elim (fun r => some r) (fun s => (fun (b3 : MpT) => some b3) s)))
theorem Yx1 {K : Nat} {a0 : MpT} {a1 : Int} {r : MpT} (q0 : Zr3 K a0 a1 = some r) {H : FH} {w : World} {L : OL} {s0 : Value} (b6 : Z9 yT H s0 a0) (hS : St H w L) :
 Calls Tryz.prog 235 #[vA ([s0]), vI a1] w (T3 (fun v G => (R.agg (Y9 yT)).p G v r) H L) := by
 have Z2 := Sub.refl H
 refine X6 Tryz.func235 rfl Tryz.ntmps235 rfl ?_
 unfold Zr3 at q0
 refine Z3 (Z1 ?_)
 refine S4 (v := vA ([s0])) ([s0]).toArray rfl rfl hS rfl ?_
 intro b1 w2 hS
 refine V0 (z := vA ([vN])) ([vN]).toArray K7.zero rfl hS rfl ?_
 intro b4 w5 hS
 refine Z0 (Z3 (Z1 ?_))
 refine R4 (vA ([vN])) Yc4 rfl ?_
 refine V0 (z := vA ([vN])) ([vN]).toArray K7.zero rfl hS rfl ?_
 intro b7 w8 hS
 refine W0 (v := vA ([vN])) (vs := ([vN]).toArray) (cs := ([vN]).toArray) U3 rfl rfl rfl hS rfl (U9 rfl) rfl ?_
 intro o7 hS
 refine Z0 (Z3 (Z3 (Z1 (Z5 (vI 0) rfl rfl (Z0 (Y7 ?_))))))
 have f2 : W3 yT 76 H (.slice none 0 0) [] [] := W3.nil _ _ _
 obtain ⟨f3, b8, f4⟩ := bind_some q0
 refine W7 (id := 0) (fun k f w => ∃ (a3 : Int) (a5 : MpT) (H1 : FH) (a6 : OL) (a4 : Value), Zb4 K a0 a1 k a3 a5 = some f3 ∧ Sub H H1 ∧ St H1 w (a6 ++ ([(b7, cA ([a4]) 47)] ++ ([(b4, cA ([vN]) 47)] ++ ([(b1, cA ([s0]) 47)] ++ L)))) ∧ 0 ≤ a3 ∧ W3 yT 76 H1 a4 a5 a6 ∧ Z9 yT H1 s0 a0 ∧ ev f (.tmp 1) = vI a1 ∧ ev f (.tmp 2) = vP b1 ∧ ev f (.tmp 4) = vP b4 ∧ ev f (.tmp 5) = vP b7 ∧ ev f (.tmp 6) = vI a3) (fun f w => ∃ (b3 : MpT) (H1 : FH) (b9 : OL) (b2 : Value), f3 = .go b3 ∧ Sub H H1 ∧ St H1 w (b9 ++ ([(b7, cA ([b2]) 47)] ++ ([(b4, cA ([vN]) 47)] ++ ([(b1, cA ([s0]) 47)] ++ L)))) ∧ W3 yT 76 H1 b2 b3 b9 ∧ Z9 yT H1 s0 a0 ∧ ev f (.tmp 4) = vP b4 ∧ ev f (.tmp 5) = vP b7) rfl ?_ ?_ K ?_ ?_
 rintro f w ⟨a3, a5, H1, a6, a4, b8, _⟩
 rw [Zb4] at b8; cases b8
 rintro k j8 j9 i7 i8 ⟨a3, a5, f5, a6, a4, b8, Z2, hS, i9, a9, b6, e7, c7, c8, c9, d0⟩
 rw [Zb4] at b8
 refine Z3 (Z3 (Z1 (Z4 (vI a3) (by exact d0) rfl (Y2 U2 (by exact c7) rfl ?_))))
 refine Y3 (s0) Q3 rfl (hS.get (mR (mR (mR mL)))) rfl rfl ?_
 have k0 := b6.bound
 refine W6 Q0 rfl b6 rfl ?_
 refine U7 (k := .i64) (a := a3) (b := (a0.length : Int)) rfl rfl rfl (Z0 ?_)
 by_cases d7 : a3 < (a0.length : Int)
 rw [if_pos d7] at b8
 refine Y0 (bT d7 rfl) (Y8 (Z3 (Y7 (Z3 (Z1 ?_)))))
 refine R4 (vA (Z7 .u8 (fun _ => 0))) Yt4 rfl ?_
 refine V0 (z := vA (Z7 .u8 (fun _ => 0))) (Z7 .u8 (fun _ => 0)).toArray Yb7.zero rfl hS rfl ?_
 intro e1 o8 hS
 refine W0 (v := vA (Z7 .u8 (fun _ => 0))) (vs := (Z7 .u8 (fun _ => 0)).toArray) (cs := (Z7 .u8 (fun _ => 0)).toArray) N5 rfl rfl rfl hS rfl (S3 .u8 (fun _ => 0)) rfl ?_
 intro o9 hS
 refine Z0 (Z3 (Z3 (Z1 (Z5 (vI 0) rfl rfl (Z0 (Y7 ?_))))))
 obtain ⟨f6, b5, d8⟩ := bind_some b8
 refine W7 (id := 2) (fun k f w => ∃ (a7 : Int) (b0 : A8) (H1 : FH), Zb8 K a0 a1 a3 k a7 b0 = some f6 ∧ Sub H H1 ∧ St H1 w ([(e1, cA (Z7 .u8 b0) 70)] ++ (a6 ++ ([(b7, cA ([a4]) 47)] ++ ([(b4, cA ([vN]) 47)] ++ ([(b1, cA ([s0]) 47)] ++ L))))) ∧ 0 ≤ a7 ∧ Z9 yT H1 s0 a0 ∧ W3 yT 76 H1 a4 a5 a6 ∧ ev f (.tmp 1) = vI a1 ∧ ev f (.tmp 2) = vP b1 ∧ ev f (.tmp 4) = vP b4 ∧ ev f (.tmp 5) = vP b7 ∧ ev f (.tmp 6) = vI a3 ∧ ev f (.tmp 7) = vP e1 ∧ ev f (.tmp 8) = vI a7) (fun f w => ∃ (a8 : A8) (H1 : FH), f6 = .go a8 ∧ Sub H H1 ∧ St H1 w ([(e1, cA (Z7 .u8 a8) 70)] ++ (a6 ++ ([(b7, cA ([a4]) 47)] ++ ([(b4, cA ([vN]) 47)] ++ ([(b1, cA ([s0]) 47)] ++ L))))) ∧ Z9 yT H1 s0 a0 ∧ W3 yT 76 H1 a4 a5 a6 ∧ ev f (.tmp 1) = vI a1 ∧ ev f (.tmp 2) = vP b1 ∧ ev f (.tmp 4) = vP b4 ∧ ev f (.tmp 5) = vP b7 ∧ ev f (.tmp 6) = vI a3 ∧ ev f (.tmp 7) = vP e1) rfl ?_ ?_ K ?_ ?_
 rintro f w ⟨a7, b0, H1, b5, _⟩
 rw [Zb8] at b5; cases b5
 rintro k k1 k2 j0 j1 ⟨a7, b0, f7, b5, Z2, hS, j2, b6, a9, c1, c4, d1, d2, c5, c6, c2⟩
 rw [Zb8] at b5
 refine Z3 (Z3 (Z1 (Z4 (vI a7) (by exact c2) rfl (Z4 (vI a1) (by exact c1) rfl ?_))))
 refine V1 (IntKind.i64.wrap (a7 + a1)) rfl rfl rfl rfl ?_
 refine U7 (k := .i64) (a := (IntKind.i64.wrap (a7 + a1))) (b := 8) rfl rfl rfl (Z0 ?_)
 by_cases d9 : (IntKind.i64.wrap (a7 + a1)) < 8
 rw [if_pos d9] at b5
 refine Y0 (bT d9 rfl) (Y8 (Z3 (Y7 (Z1 (Z4 (vI a7) (by exact c2) rfl (Z4 (vI a1) (by exact c1) rfl ?_))))))
 refine V1 (IntKind.i64.wrap (a7 + a1)) rfl rfl rfl rfl (Y2 U2 (by exact c4) rfl ?_)
 refine Y3 (s0) Q3 rfl (hS.get (mR (mR (mR (mR mL))))) rfl rfl (Z4 (vI a3) (by exact c5) rfl (Z4 (vI a7) (by exact c2) rfl ?_))
 obtain ⟨p0, p1, k3, p2, _, h2, h3, ⟨_, _, rfl, rfl, rfl⟩, h4⟩ := b6.elem (i := a3) (by omega) (by omega)
 refine W2 Q0 rfl rfl h2 rfl (by omega) (by omega) rfl (Y2 M5 rfl rfl ?_)
 obtain ⟨k4, b5⟩ := gd b5
 refine V6 Zc8 rfl rfl (by omega) (by omega) rfl ?_
 refine Y3 (Value.int .u8 (Y5 ((rd a0 a3).1) a7)) ty5 rfl (hS.froz _ _ h3) (Xm4 ([]) (([vI ((rd a0 a3).2)])) h4 (Nat.le_of_ble_eq_true rfl) (by omega) (by omega)) rfl ?_
 obtain ⟨k5, b5⟩ := gd b5
 refine V6 Zc8 (by exact c6) rfl (by omega) (by omega) rfl ?_
 refine Zd8 (v := Value.int .u8 (Y5 ((rd a0 a3).1) a7)) (cs := (Z7 .u8 b0).toArray) (cs' := (Z7 .u8 (S2 b0 (IntKind.i64.wrap (a7 + a1)) (Y5 ((rd a0 a3).1) a7))).toArray) ty5 rfl rfl hS rfl (Zy9 rfl) (by simp [Z7, M6]; omega) (Zg9 (by omega) (by omega)) ?_
 intro p3 hS
 refine Z0 (X5 (Z1 (Z4 (vI a7) (by exact c2) rfl ?_)))
 refine V1 (a7 + 1) rfl rfl (IntWalk.i64_in _ (by omega)) rfl (Z5 (vI (a7 + 1)) rfl rfl (Z0 ?_))
 exact j0 _ _ ⟨(a7 + 1), (S2 b0 (IntKind.i64.wrap (a7 + a1)) (Y5 ((rd a0 a3).1) a7)), f7, b5, Z2, hS, (by omega), b6, a9, c1, c4, d1, d2, c5, c6, rfl⟩
 rw [if_neg d9] at b5
 refine Z8 (bF d9 rfl) ?_
 refine W4 rfl ?_
 have hz := Option.some.inj b5
 subst hz
 exact j1 _ _ ⟨b0, f7, rfl, Z2, hS, b6, a9, c1, c4, d1, d2, c5, c6⟩
 exact ⟨0, (fun _ => 0), f5, b5, Z2, hS, (by omega), b6, a9, e7, c7, c8, c9, d0, rfl, rfl⟩
 rintro k6 k7 ⟨a8, k8, rfl, Z2, hS, b6, a9, e8, d3, e9, d4, d5, f0⟩
 dsimp only [Ex.elim] at d8
 obtain ⟨h0, h1, k9, p4, _, h5, e2, ⟨_, _, rfl, rfl, rfl⟩, h6⟩ := b6.elem (i := a3) (by omega) (by omega)
 refine U0 11 (Q6 [(36, MP.eq (vP b7)), (37, MP.eq (a4)), (38, MP.eq (vA (Z7 .u8 a8))), (39, MP.eq (vP b1)), (40, MP.eq (s0)), (41, MP.eq (vI a3)), (42, MP.eq (Value.pointer (some ⟨h0, h1, none⟩))), (43, MP.eq (Value.pointer (some ⟨h0, h1 + 8, none⟩))), (44, MP.eq (vI ((rd a0 a3).2))), (45, MP.eq (vA (Z7 .u8 a8 ++ [vI ((rd a0 a3).2)]))), (46, MP.sl yT ([(a8, (rd a0 a3).2)]))]) [] mixed rfl rfl rfl hS (Z6 rfl ?_ (Z6 rfl ?_ (Z6 rfl ?_ (Z6 rfl ?_ (Z6 rfl ?_ (Z6 rfl ?_ (Z6 rfl ?_ (Z6 rfl ?_ (Z6 rfl ?_ (Z6 rfl ?_ (Z6 rfl ?_ U8))))))))))) ?_
 intro p5 p6 p7 p8 l0 hS h7 l1 hcq
 refine Y2 U2 (evT (h7 5 rfl) d4) rfl ?_
 exact qn (.refl _) rfl hS rfl
 intro p9 q1 q2 q3 l2 hS l3 h8 hcq
 refine Y3 (a4) Q3 (eM (h8 0 36 rfl rfl)) (hS.get (mR (mR (mR mL)))) rfl rfl ?_
 exact qn (.refl _) rfl hS rfl
 intro q4 q5 q6 q7 l4 hS h9 l5 hcq
 refine W1 N5 (evT (h9 7 rfl) f0) (hS.get (mR mL)) rfl rfl ?_
 exact qn (.refl _) rfl hS rfl
 intro q8 q9 r0 r1 l6 hS i0 l7 hcq
 refine Y2 U2 (evT (i0 2 rfl) d3) rfl ?_
 exact qn (.refl _) rfl hS rfl
 intro r2 r3 r4 r5 l9 hS m0 i1 hcq
 refine Y3 (s0) Q3 (eM (i1 3 39 rfl rfl)) (hS.get (mR (mR (mR (mR (mR mL)))))) rfl rfl ?_
 exact qn (.refl _) rfl hS rfl
 intro r6 r7 r8 r9 m1 hS i2 m2 hcq
 refine Z4 (vI a3) (evT (i2 6 rfl) d5) rfl ?_
 exact qn (.refl _) rfl hS rfl
 intro s1 s2 s3 s4 m3 hS m4 f8 hcq
 refine W2 Q0 rfl (eM (f8 4 40 rfl rfl)) h5 (eM (f8 5 41 rfl rfl)) (by omega) (by omega) rfl ?_
 exact qn (.refl _) rfl hS rfl
 intro s5 s6 s7 s8 m5 hS m6 i3 hcq
 refine Y2 Ze8 (eM (i3 6 42 rfl rfl)) rfl ?_
 exact qn (.refl _) rfl hS rfl
 intro s9 t0 t1 t4 g1 hS j3 g2 hcq
 have e2 := g1.1 _ _ e2
 refine Y3 (vI ((rd a0 a3).2)) ty2 (eM (g2 7 43 rfl rfl)) (hS.froz _ _ e2) (h6 8 (show 8 < 9 by decide)) rfl ?_
 exact qn (.refl _) rfl hS rfl
 intro m7 m8 m9 n0 j4 hS j5 e4 hcq
 refine Zj7 (Z7 .u8 a8 ++ [vI ((rd a0 a3).2)]) Xa1 (Zw3 (eM (e4 2 38 rfl rfl)) (eM (e4 8 44 rfl rfl))) (Q2 rfl rfl rfl (Nat.le_of_ble_eq_true rfl) (Q2 rfl rfl rfl (Nat.le_of_ble_eq_true rfl) (Zf6 rfl))) rfl ?_
 exact qn (.refl _) rfl hS rfl
 intro n1 n2 n3 n4 j6 hS j7 g3 hcq
 refine D1 (τ := yT) Q0 Zx8 rfl [vA (Z7 .u8 a8 ++ [vI ((rd a0 a3).2)])] [(a8, (rd a0 a3).2)] rfl rfl (L4 (eM (g3 9 45 rfl rfl))) (Zg7 ⟨_, _, rfl, rfl, rfl⟩) (by decide) (by decide) hS rfl ?_
 intro n5 n6 n7 g4 hS g5
 exact qn g4 rfl hS g5
 intro n8 i4 f9 e0 hS c3 e5 hcq
 have hS : St f9 i4 ([(e1, cA (Z7 .u8 a8) 70)] ++ (a6 ++ ([(b7, cA ([a4]) 47)] ++ ([(b4, cA ([vN]) 47)] ++ ([(b1, cA ([s0]) 47)] ++ L))))) := hS
 have Z2 := Z2.trans e0
 have b6 := b6.mono e0
 have a9 := a9.mono e0
 have g0 := evT (c3 5 rfl) d4
 obtain ⟨n9, i5, g6⟩ := gvS (e5 10 46 (by decide) rfl)
 obtain ⟨g7, d8⟩ := gd d8
 have hS := hS.perm V3
 refine P5 (τ := yT) Ys7 rfl (by exact (eM (e5 1 37 (by decide) rfl))) (by exact i5) a9 hS g6 g7 rfl ?_
 intro e3 o0 i6 e6 hS
 have hS := hS.perm V3.symm
 refine Y2 U2 (by exact g0) rfl ?_
 have hS := hS.perm Q5
 refine Za3 (v := e3) (cs := ([a4]).toArray) (cs' := ([e3]).toArray) Q3 rfl rfl hS e6.isOne rfl (Nat.le_of_ble_eq_true rfl) rfl ?_
 intro o1 hS
 have hS := hS.perm Q5.symm
 refine Z0 (X5 (Z1 (Z4 (vI a3) (by exact (evT (c3 6 rfl) d5)) rfl ?_)))
 refine V1 (a3 + 1) rfl rfl (IntWalk.i64_in _ (by omega)) rfl (Z5 (vI (a3 + 1)) rfl rfl (Z0 ?_))
 have hS := St.dropA hS
 exact i7 _ _ ⟨(a3 + 1), (a5 ++ [(a8, (rd a0 a3).2)]), f9, i6, e3, d8, Z2, hS, (by omega), e6, b6, (evT (c3 1 rfl) e8), (evT (c3 2 rfl) d3), (evT (c3 4 rfl) e9), g0, rfl⟩
 rw [if_neg d7] at b8
 refine Z8 (bF d7 rfl) ?_
 refine W4 rfl ?_
 have hz := Option.some.inj b8
 subst hz
 exact i8 _ _ ⟨a5, f5, a6, a4, rfl, Z2, hS, a9, b6, c8, c9⟩
 exact ⟨0, ([] : List (A8 × Int)), H, ([]), (vN), b8, Z2, hS, (by omega), f2, b6, rfl, rfl, rfl, rfl, rfl⟩
 rintro o2 o3 ⟨b3, o4, b9, b2, rfl, Z2, hS, c0, b6, d6, f1⟩
 dsimp only [Ex.elim] at f4
 refine Z3 (Z1 ?_)
 refine W1 U3 (by exact f1) (hS.get (mR mL)) rfl rfl ?_
 have hS := hS.perm Q5
 refine W0 (v := vA ([b2])) (vs := ([b2]).toArray) (cs := ([vN]).toArray) U3 (by exact d6) rfl rfl hS rfl (U9 c0.isOne) rfl ?_
 intro o5 hS
 have hS := hS.perm Q5.symm
 refine Z0 ?_
 refine X3 (vs := [vA ([b2])]) Tryz.func235 ⟨⟨_, (by exact d6), U1 U3 (hS.get (mR (mR mL))) rfl⟩, trivial⟩ ?_
 obtain ⟨o6, g8, hS, g9⟩ := c0.freeze hS
 have Z2 := Z2.trans g8
 have hz := Option.some.inj f4
 subst hz
 exact ⟨_, _, rfl, Z2, (St.dropA (St.dropA (St.dropA hS))), ⟨_, rfl, ⟨_, rfl, g9⟩⟩⟩
def M7 (K : Nat) (a0 : (List Int)) (a1 : A8) : Nat → Int → Option (Ex Bool (Unit))
 | 0, _ => none
 | k + 1, a3 => (if a3 < 8 then (if (a0.length : Int) ≤ a3 then (if (Y5 a1 a3) = 0 then M7 K a0 a1 k (a3 + 1) else some (.ret false)) else (if 20 < (Y5 a1 a3) then some (.ret false) else (if a3 < (a0.length : Int) then (if (((rd a0 a3)).tmod 2) = 0 then M7 K a0 a1 k (a3 + 1) else (if 1 < (Y5 a1 a3) then some (.ret false) else M7 K a0 a1 k (a3 + 1))) else none))) else some (.go ()))
def Zs9 (K : Nat) (a0 : (List Int)) (a1 : A8) : Option Bool := ((M7 K a0 a1 K 0).bind (Ex.elim (fun r => some r) (fun s => some true)))
theorem Zq8 {K : Nat} {a0 : (List Int)} {a1 : A8} {r : Bool} (q0 : Zs9 K a0 a1 = some r) {H : FH} {w : World} {L : OL} {s0 : Value} (b2 : Z9 (Y6 .i64) H s0 a0) (hS : St H w L) :
 Calls Tryz.prog 202 #[s0, vA (Z7 .u8 a1)] w (T3 (fun v G => R.bool.p G v r) H L) := by
 have Z2 := Sub.refl H
 refine X6 Tryz.func202 rfl Tryz.ntmps202 rfl ?_
 unfold Zs9 at q0
 refine Z3 (Z1 ?_)
 refine S4 (v := vA (Z7 .u8 a1)) (Z7 .u8 a1).toArray rfl rfl hS rfl ?_
 intro b1 w2 hS
 refine Z5 (Value.bool false) rfl rfl (Z0 (Z3 (Z3 (Z1 (Z5 (vI 0) rfl rfl (Z0 (Y7 ?_)))))))
 obtain ⟨b8, a4, b0⟩ := bind_some q0
 refine W7 (id := 0) (fun k f w => ∃ (a3 : Int) (H1 : FH), M7 K a0 a1 k a3 = some b8 ∧ Sub H H1 ∧ St H1 w ([(b1, cA (Z7 .u8 a1) 70)] ++ L) ∧ 0 ≤ a3 ∧ Z9 (Y6 .i64) H1 s0 a0 ∧ ev f (.tmp 0) = s0 ∧ ev f (.tmp 3) = vP b1 ∧ ev f (.tmp 5) = vI a3) (fun f w => ∃ (H1 : FH), b8 = .go () ∧ Sub H H1 ∧ St H1 w ([(b1, cA (Z7 .u8 a1) 70)] ++ L)) rfl ?_ ?_ K ?_ ?_
 rintro f w ⟨a3, H1, a4, _⟩
 rw [M7] at a4; cases a4
 rintro k c5 c6 b9 c3 ⟨a3, b3, a4, Z2, hS, c4, b2, a9, a8, a5⟩
 rw [M7] at a4
 refine Z3 (Z3 (Z1 (Z4 (vI a3) (by exact a5) rfl ?_)))
 refine U7 (k := .i64) (a := a3) (b := 8) rfl rfl rfl (Z0 ?_)
 by_cases b5 : a3 < 8
 rw [if_pos b5] at a4
 refine Y0 (bT b5 rfl) (Y8 (Z3 (Y7 (Y7 (Z3 (Z1 (Z4 (vI a3) (by exact a5) rfl (Z4 (s0) (by exact a9) rfl ?_))))))))
 have d1 := b2.bound
 refine W6 Q1 rfl b2 rfl ?_
 refine Yc7 (k := .i64) (a := a3) (b := (a0.length : Int)) rfl rfl rfl (Z5 (Value.bool (decide ((a0.length : Int) ≤ a3))) rfl rfl (Z0 ?_))
 by_cases b6 : (a0.length : Int) ≤ a3
 rw [if_pos b6] at a4
 refine Y0 (bT b6 rfl) (Z3 (Z1 (Z4 (vI a3) (by exact a5) rfl ?_)))
 refine V6 Zc8 (by exact a8) rfl (by omega) (by omega) rfl ?_
 refine Y3 (Value.int .u8 (Y5 a1 a3)) ty5 rfl (hS.get (o := cA (Z7 .u8 a1) 70) mL) (L9 ([]) ([]) (by omega) (by omega)) rfl ?_
 refine G4 (k := .u8) (a := (Y5 a1 a3)) (b := 0) rfl rfl rfl (Z0 ?_)
 by_cases b7 : (Y5 a1 a3) = 0
 rw [if_pos b7] at a4
 refine Z8 (bN b7 rfl) (Y8 (X5 (X5 (Z1 (Z4 (vI a3) (by exact a5) rfl ?_)))))
 refine V1 (a3 + 1) rfl rfl (IntWalk.i64_in _ (by omega)) rfl (Z5 (vI (a3 + 1)) rfl rfl (Z0 ?_))
 exact b9 _ _ ⟨(a3 + 1), b3, a4, Z2, hS, (by omega), b2, a9, a8, rfl⟩
 rw [if_neg b7] at a4
 refine Y0 (bO b7 rfl) (Z3 (Z1 (Z5 (Value.bool false) rfl rfl (Z0 ?_))))
 refine X3 (vs := [Value.bool false]) Tryz.func202 ⟨rfl, trivial⟩ ?_
 have hz := Option.some.inj a4
 subst hz
 dsimp only [Ex.elim] at b0
 have hz := Option.some.inj b0
 subst hz
 exact ⟨_, _, rfl, Z2, (St.dropA hS), rfl⟩
 rw [if_neg b6] at a4
 refine Z8 (bF b6 rfl) (Z3 (Z1 (Z4 (vI a3) (by exact a5) rfl ?_)))
 refine V6 Zc8 (by exact a8) rfl (by omega) (by omega) rfl ?_
 refine Y3 (Value.int .u8 (Y5 a1 a3)) ty5 rfl (hS.get (o := cA (Z7 .u8 a1) 70) mL) (L9 ([]) ([]) (by omega) (by omega)) rfl ?_
 refine Zg6 (k := .u8) (a := (Y5 a1 a3)) (b := 20) rfl rfl rfl (Z4 (Value.bool (decide (20 < (Y5 a1 a3)))) rfl rfl ?_)
 by_cases a6 : 20 < (Y5 a1 a3)
 rw [if_pos a6] at a4
 refine Y1 rfl rfl (bT a6 rfl) rfl rfl rfl (Y1 rfl rfl (bT a6 rfl) rfl rfl rfl (Y1 rfl rfl (bT a6 rfl) rfl rfl rfl (Y1 rfl rfl (bT a6 rfl) rfl rfl rfl (Y1 rfl rfl (bT a6 rfl) rfl rfl rfl (Y1 rfl rfl (bT a6 rfl) rfl rfl rfl (Y1 rfl rfl (bT a6 rfl) rfl rfl rfl ?_))))))
 refine U6 rfl rfl rfl rfl rfl ?_
 refine U6 rfl rfl rfl rfl rfl ?_
 refine U6 rfl rfl rfl rfl rfl ?_
 refine U6 rfl rfl rfl rfl rfl (Y1 rfl rfl (bT a6 rfl) rfl rfl rfl ?_)
 refine V9 (t := true) (Value.bool true) (bT a6 rfl) ((if_pos rfl).trans rfl) rfl (Z5 (Value.bool true) rfl rfl (Z0 (Y0 rfl (Z3 (Z1 (Z5 (Value.bool false) rfl rfl (Z0 ?_)))))))
 refine X3 (vs := [Value.bool false]) Tryz.func202 ⟨rfl, trivial⟩ ?_
 have hz := Option.some.inj a4
 subst hz
 dsimp only [Ex.elim] at b0
 have hz := Option.some.inj b0
 subst hz
 exact ⟨_, _, rfl, Z2, (St.dropA hS), rfl⟩
 rw [if_neg a6] at a4
 refine Y4 rfl rfl (bF a6 rfl) (Z4 (s0) (by exact a9) rfl ?_)
 refine Y4 rfl rfl (bF a6 rfl) (Z4 (vI a3) (by exact a5) rfl ?_)
 refine Y4 rfl rfl (bF a6 rfl) ?_
 obtain ⟨d2, a4⟩ := gd a4
 obtain ⟨d3, d4, c7, d5, _, c0, c1, rfl, c2⟩ := b2.elem (i := a3) (by omega) (by omega)
 refine W2 Q1 rfl rfl c0 rfl (by omega) (by omega) rfl ?_
 refine Y4 rfl rfl (bF a6 rfl) ?_
 refine Y3 (vI (rd a0 a3)) ty2 rfl (hS.froz _ _ c1) (c2 0 (show 0 < 1 by decide)) rfl ?_
 refine Y4 rfl rfl (bF a6 rfl) ?_
 refine Zi4 (((rd a0 a3)).tmod 2) rfl rfl (by decide) rfl rfl ?_
 refine Y4 rfl rfl (bF a6 rfl) ?_
 refine G4 (k := .i64) (a := (((rd a0 a3)).tmod 2)) (b := 0) rfl rfl rfl ?_
 refine Y4 rfl rfl (bF a6 rfl) (Z4 (Value.bool (!decide ((((rd a0 a3)).tmod 2) = 0))) rfl rfl ?_)
 by_cases a7 : (((rd a0 a3)).tmod 2) = 0
 rw [if_pos a7] at a4
 refine Y1 rfl rfl (bN a7 rfl) rfl rfl rfl (Y1 rfl rfl (bN a7 rfl) rfl rfl rfl (Y1 rfl rfl (bN a7 rfl) rfl rfl rfl (Y1 rfl rfl (bN a7 rfl) rfl rfl rfl ?_)))
 refine Y4 rfl rfl (bF a6 rfl) ?_
 refine V9 (t := false) (Value.bool false) (bN a7 rfl) ((if_neg Bool.false_ne_true).trans rfl) rfl ?_
 refine V9 (t := false) (Value.bool false) (bF a6 rfl) ((if_neg Bool.false_ne_true).trans rfl) rfl (Z5 (Value.bool false) rfl rfl (Z0 (Z8 rfl (Y8 (X5 (X5 (Z1 (Z4 (vI a3) (by exact a5) rfl ?_))))))))
 refine V1 (a3 + 1) rfl rfl (IntWalk.i64_in _ (by omega)) rfl (Z5 (vI (a3 + 1)) rfl rfl (Z0 ?_))
 exact b9 _ _ ⟨(a3 + 1), b3, a4, Z2, hS, (by omega), b2, a9, a8, rfl⟩
 rw [if_neg a7] at a4
 refine Y4 rfl rfl (bO a7 rfl) (Z4 (vI a3) (by exact a5) rfl ?_)
 refine Y4 rfl rfl (bO a7 rfl) ?_
 refine V6 Zc8 (by exact a8) rfl (by omega) (by omega) rfl ?_
 refine Y4 rfl rfl (bO a7 rfl) ?_
 refine Y3 (Value.int .u8 (Y5 a1 a3)) ty5 rfl (hS.get (o := cA (Z7 .u8 a1) 70) mL) (L9 ([]) ([]) (by omega) (by omega)) rfl ?_
 refine Y4 rfl rfl (bO a7 rfl) ?_
 refine Zg6 (k := .u8) (a := (Y5 a1 a3)) (b := 1) rfl rfl rfl ?_
 refine Y4 rfl rfl (bF a6 rfl) ?_
 refine V9 (t := true) (Value.bool (decide (1 < (Y5 a1 a3)))) (bO a7 rfl) ((if_pos rfl).trans rfl) rfl ?_
 refine V9 (t := false) (Value.bool (decide (1 < (Y5 a1 a3)))) (bF a6 rfl) ((if_neg Bool.false_ne_true).trans rfl) rfl (Z5 (Value.bool (decide (1 < (Y5 a1 a3)))) rfl rfl (Z0 ?_))
 by_cases b4 : 1 < (Y5 a1 a3)
 rw [if_pos b4] at a4
 refine Y0 (bT b4 rfl) (Z3 (Z1 (Z5 (Value.bool false) rfl rfl (Z0 ?_))))
 refine X3 (vs := [Value.bool false]) Tryz.func202 ⟨rfl, trivial⟩ ?_
 have hz := Option.some.inj a4
 subst hz
 dsimp only [Ex.elim] at b0
 have hz := Option.some.inj b0
 subst hz
 exact ⟨_, _, rfl, Z2, (St.dropA hS), rfl⟩
 rw [if_neg b4] at a4
 refine Z8 (bF b4 rfl) (Y8 (X5 (X5 (Z1 (Z4 (vI a3) (by exact a5) rfl ?_)))))
 refine V1 (a3 + 1) rfl rfl (IntWalk.i64_in _ (by omega)) rfl (Z5 (vI (a3 + 1)) rfl rfl (Z0 ?_))
 exact b9 _ _ ⟨(a3 + 1), b3, a4, Z2, hS, (by omega), b2, a9, a8, rfl⟩
 rw [if_neg b5] at a4
 refine Z8 (bF b5 rfl) ?_
 refine W4 rfl ?_
 have hz := Option.some.inj a4
 subst hz
 exact c3 _ _ ⟨b3, rfl, Z2, hS⟩
 exact ⟨0, H, a4, Z2, hS, (by omega), b2, rfl, rfl, rfl⟩
 rintro c8 c9 ⟨d0, rfl, Z2, hS⟩
 dsimp only [Ex.elim] at b0
 refine Z3 (Z1 (Z5 (Value.bool true) rfl rfl (Z0 ?_)))
 refine X3 (vs := [Value.bool true]) Tryz.func202 ⟨rfl, trivial⟩ ?_
 have hz := Option.some.inj b0
 subst hz
 exact ⟨_, _, rfl, Z2, (St.dropA hS), rfl⟩
def J6 (K : Nat) (a0 : (List Int)) (a1 : (List Int)) : Nat → Int → Option (Ex Bool (Unit))
 | 0, _ => none
 | k + 1, a3 => (if a3 < (a0.length : Int) then (if a3 < (a1.length : Int) then (if (rd a0 a3) = (rd a1 a3) then J6 K a0 a1 k (a3 + 1) else some (.ret false)) else none) else some (.go ()))
def Zp9 (K : Nat) (a0 : (List Int)) (a1 : (List Int)) : Option Bool := (if (a0.length : Int) = (a1.length : Int) then ((J6 K a0 a1 K 0).bind (Ex.elim (fun r => some r) (fun s => some true))) else some false)
theorem Ys8 {K : Nat} {a0 : (List Int)} {a1 : (List Int)} {r : Bool} (q0 : Zp9 K a0 a1 = some r) {H : FH} {w : World} {L : OL} {s0 : Value} {s1 : Value} (a6 : Z9 (Y6 .i64) H s0 a0) (a8 : Z9 (Y6 .i64) H s1 a1) (hS : St H w L) :
 Calls Tryz.prog 24 #[s0, s1] w (T3 (fun v G => R.bool.p G v r) H L) := by
 have Z2 := Sub.refl H
 refine X6 Tryz.func24 rfl Tryz.ntmps24 rfl ?_
 unfold Zp9 at q0
 refine Z3 (Z1 (Z5 (Value.bool false) rfl rfl (Z0 (Z3 (Z3 (Z1 (Z4 (s0) rfl rfl ?_)))))))
 have h2 := a6.bound
 refine W6 Q1 rfl a6 rfl (Z4 (s1) rfl rfl ?_)
 have h3 := a8.bound
 refine W6 Q1 rfl a8 rfl ?_
 refine G4 (k := .i64) (a := (a0.length : Int)) (b := (a1.length : Int)) rfl rfl rfl (Z0 ?_)
 by_cases b6 : (a0.length : Int) = (a1.length : Int)
 rw [if_pos b6] at q0
 refine Z8 (bN b6 rfl) (Y8 (Z3 (Z3 (Z1 (Z5 (vI 0) rfl rfl (Z0 (Y7 ?_)))))))
 obtain ⟨b8, a4, b1⟩ := bind_some q0
 refine W7 (id := 0) (fun k f w => ∃ (a3 : Int) (H1 : FH), J6 K a0 a1 k a3 = some b8 ∧ Sub H H1 ∧ St H1 w (L) ∧ 0 ≤ a3 ∧ Z9 (Y6 .i64) H1 s0 a0 ∧ Z9 (Y6 .i64) H1 s1 a1 ∧ ev f (.tmp 0) = s0 ∧ ev f (.tmp 1) = s1 ∧ ev f (.tmp 5) = vI a3) (fun f w => ∃ (H1 : FH), b8 = .go () ∧ Sub H H1 ∧ St H1 w (L)) rfl ?_ ?_ K ?_ ?_
 rintro f w ⟨a3, H1, a4, _⟩
 rw [J6] at a4; cases a4
 rintro k e7 e8 e0 e1 ⟨a3, c5, a4, Z2, hS, e2, a6, a8, a7, b0, a5⟩
 rw [J6] at a4
 refine Z3 (Z3 (Z1 (Z4 (vI a3) (by exact a5) rfl (Z4 (s0) (by exact a7) rfl ?_))))
 have h4 := a6.bound
 refine W6 Q1 rfl a6 rfl ?_
 refine U7 (k := .i64) (a := a3) (b := (a0.length : Int)) rfl rfl rfl (Z0 ?_)
 by_cases b7 : a3 < (a0.length : Int)
 rw [if_pos b7] at a4
 refine Y0 (bT b7 rfl) (Y8 (Z3 (Y7 (Z3 ?_))))
 obtain ⟨e3, e4, e9, h5, _, c6, b4, rfl, c7⟩ := a6.elem (i := a3) (by omega) (by omega)
 obtain ⟨f0, a4⟩ := gd a4
 obtain ⟨e5, e6, f1, h6, _, c8, b5, rfl, c9⟩ := a8.elem (i := a3) (by omega) (by omega)
 refine U0 9 (Q6 [(17, MP.eq (s0)), (18, MP.eq (vI a3)), (19, MP.eq (Value.pointer (some ⟨e3, e4, none⟩))), (20, MP.eq (vI (rd a0 a3))), (21, MP.eq (s1)), (22, MP.eq (vI a3)), (23, MP.eq (Value.pointer (some ⟨e5, e6, none⟩))), (24, MP.eq (vI (rd a1 a3))), (25, MP.eq (Value.bool (!decide ((rd a0 a3) = (rd a1 a3)))))]) [] mixed rfl rfl rfl hS (Z6 rfl ?_ (Z6 rfl ?_ (Z6 rfl ?_ (Z6 rfl ?_ (Z6 rfl ?_ (Z6 rfl ?_ (Z6 rfl ?_ (Z6 rfl ?_ (Z6 rfl ?_ U8))))))))) ?_
 intro f6 w7 H8 X9 f2 hS d0 f3 hcq
 refine Z4 (s0) (evT (d0 0 rfl) a7) rfl ?_
 exact qn (.refl _) rfl hS rfl
 intro h7 h8 h9 i0 f4 hS d1 f5 hcq
 refine Z4 (vI a3) (evT (d1 5 rfl) a5) rfl ?_
 exact qn (.refl _) rfl hS rfl
 intro i1 i2 i3 i4 f7 hS f8 b9 hcq
 refine W2 Q1 rfl (eM (b9 0 17 rfl rfl)) c6 (eM (b9 1 18 rfl rfl)) (by omega) (by omega) rfl ?_
 exact qn (.refl _) rfl hS rfl
 intro i5 i6 i7 i8 d2 hS f9 d3 hcq
 have b4 := d2.1 _ _ b4
 refine Y3 (vI (rd a0 a3)) ty2 (eM (d3 2 19 rfl rfl)) (hS.froz _ _ b4) (c7 0 (show 0 < 1 by decide)) rfl ?_
 exact qn (.refl _) rfl hS rfl
 intro i9 j0 j1 j2 g0 hS d4 g1 hcq
 refine Z4 (s1) (evT (d4 1 rfl) b0) rfl ?_
 exact qn (.refl _) rfl hS rfl
 intro j3 j4 j5 j6 g2 hS d5 g3 hcq
 refine Z4 (vI a3) (evT (d5 5 rfl) a5) rfl ?_
 exact qn (.refl _) rfl hS rfl
 intro j7 j8 j9 k0 g4 hS g5 c0 hcq
 refine W2 Q1 rfl (eM (c0 4 21 rfl rfl)) c8 (eM (c0 5 22 rfl rfl)) (by omega) (by omega) rfl ?_
 exact qn (.refl _) rfl hS rfl
 intro k1 k2 k3 k4 d6 hS g6 d7 hcq
 have b5 := d6.1 _ _ b5
 refine Y3 (vI (rd a1 a3)) ty2 (eM (d7 6 23 rfl rfl)) (hS.froz _ _ b5) (c9 0 (show 0 < 1 by decide)) rfl ?_
 exact qn (.refl _) rfl hS rfl
 intro k5 k6 k7 k8 g7 hS g8 c1 hcq
 refine G4 (k := .i64) (a := (rd a0 a3)) (b := (rd a1 a3)) (eM (c1 3 20 rfl rfl)) (eM (c1 7 24 rfl rfl)) rfl ?_
 exact qn (.refl _) rfl hS rfl
 intro d8 d9 c2 b2 hS b3 c4 hcq
 have hS : St c2 d9 (L) := hS
 have Z2 := Z2.trans b2
 have a6 := a6.mono b2
 have a8 := a8.mono b2
 have c3 : ev d8 (.tmp 25) = Value.bool (!decide ((rd a0 a3) = (rd a1 a3))) := c4 8 25 (by decide) rfl
 refine Z0 ?_
 by_cases a9 : (rd a0 a3) = (rd a1 a3)
 rw [if_pos a9] at a4
 refine Z8 (bN a9 (by exact c3)) (Y8 (X5 (Z1 (Z4 (vI a3) (by exact (evT (b3 5 rfl) a5)) rfl ?_))))
 refine V1 (a3 + 1) rfl rfl (IntWalk.i64_in _ (by omega)) rfl (Z5 (vI (a3 + 1)) rfl rfl (Z0 ?_))
 exact e0 _ _ ⟨(a3 + 1), c2, a4, Z2, hS, (by omega), a6, a8, (evT (b3 0 rfl) a7), (evT (b3 1 rfl) b0), rfl⟩
 rw [if_neg a9] at a4
 refine Y0 (bO a9 (by exact c3)) (Z3 (Z1 (Z5 (Value.bool false) rfl rfl (Z0 ?_))))
 refine X3 (vs := [Value.bool false]) Tryz.func24 ⟨rfl, trivial⟩ ?_
 have hz := Option.some.inj a4
 subst hz
 dsimp only [Ex.elim] at b1
 have hz := Option.some.inj b1
 subst hz
 exact ⟨_, _, rfl, Z2, hS, rfl⟩
 rw [if_neg b7] at a4
 refine Z8 (bF b7 rfl) ?_
 refine W4 rfl ?_
 have hz := Option.some.inj a4
 subst hz
 exact e1 _ _ ⟨c5, rfl, Z2, hS⟩
 exact ⟨0, H, a4, Z2, hS, (by omega), a6, a8, rfl, rfl, rfl⟩
 rintro g9 h0 ⟨h1, rfl, Z2, hS⟩
 dsimp only [Ex.elim] at b1
 refine Z3 (Z1 (Z5 (Value.bool true) rfl rfl (Z0 ?_)))
 refine X3 (vs := [Value.bool true]) Tryz.func24 ⟨rfl, trivial⟩ ?_
 have hz := Option.some.inj b1
 subst hz
 exact ⟨_, _, rfl, Z2, hS, rfl⟩
 rw [if_neg b6] at q0
 refine Y0 (bO b6 rfl) (Z3 (Z1 (Z5 (Value.bool false) rfl rfl (Z0 ?_))))
 refine X3 (vs := [Value.bool false]) Tryz.func24 ⟨rfl, trivial⟩ ?_
 have hz := Option.some.inj q0
 subst hz
 exact ⟨_, _, rfl, Z2, hS, rfl⟩
def Zb0 (K : Nat) (a0 : A8) : Nat → Int → A8 → Option (Ex A8 (A8))
 | 0, _, _ => none
 | k + 1, a1, a3 => (if a1 < 8 then Zb0 K a0 k (a1 + 1) (S2 a3 a1 (IntKind.i64.wrap (Y5 a0 a1))) else some (.go a3))
def Zg3 (K : Nat) (a0 : A8) : Option A8 := ((Zb0 K a0 K 0 (fun _ => 0)).bind (Ex.elim (fun r => some r) (fun s => (fun (a4 : A8) => some a4) s)))
theorem Zq9 {K : Nat} {a0 : A8} {r : A8} (q0 : Zg3 K a0 = some r) {H : FH} {w : World} {L : OL} (hS : St H w L) :
 Calls Tryz.prog 176 #[vA (Z7 .u8 a0)] w (T3 (fun v G => (R.agg (Zo7 .i64)).p G v r) H L) := by
 have Z2 := Sub.refl H
 refine X6 Tryz.func176 rfl Tryz.ntmps176 rfl ?_
 unfold Zg3 at q0
 refine Z3 (Z1 ?_)
 refine S4 (v := vA (Z7 .u8 a0)) (Z7 .u8 a0).toArray rfl rfl hS rfl ?_
 intro b1 w2 hS
 refine V0 (z := vA (Z7 .i64 (fun _ => 0))) (Z7 .i64 (fun _ => 0)).toArray Zo4.zero rfl hS rfl ?_
 intro b4 w5 hS
 refine Z0 (Z3 (Z1 ?_))
 refine R4 (vA (Z7 .i64 (fun _ => 0))) Xc2 rfl ?_
 refine V0 (z := vA (Z7 .i64 (fun _ => 0))) (Z7 .i64 (fun _ => 0)).toArray Zo4.zero rfl hS rfl ?_
 intro b7 w8 hS
 refine W0 (v := vA (Z7 .i64 (fun _ => 0))) (vs := (Z7 .i64 (fun _ => 0)).toArray) (cs := (Z7 .i64 (fun _ => 0)).toArray) L0 rfl rfl rfl hS rfl (S3 .i64 (fun _ => 0)) rfl ?_
 intro c7 hS
 refine Z0 (Z3 (Z3 (Z1 ?_)))
 refine W1 N5 rfl (hS.get (mR (mR mL))) rfl rfl (Z4 (vI 0) rfl rfl (Z0 (Y7 ?_)))
 obtain ⟨b5, a5, b6⟩ := bind_some q0
 refine W7 (id := 0) (fun k f w => ∃ (a1 : Int) (a3 : A8) (H1 : FH), Zb0 K a0 k a1 a3 = some b5 ∧ Sub H H1 ∧ St H1 w ([(b7, cA (Z7 .i64 a3) 188)] ++ ([(b4, cA (Z7 .i64 (fun _ => 0)) 188)] ++ ([(b1, cA (Z7 .u8 a0) 70)] ++ L))) ∧ 0 ≤ a1 ∧ ev f (.tmp 2) = vP b4 ∧ ev f (.tmp 3) = vP b7 ∧ ev f (.tmp 7) = vA (Z7 .u8 a0) ∧ ev f (.tmp 8) = vI a1) (fun f w => ∃ (a4 : A8) (H1 : FH), b5 = .go a4 ∧ Sub H H1 ∧ St H1 w ([(b7, cA (Z7 .i64 a4) 188)] ++ ([(b4, cA (Z7 .i64 (fun _ => 0)) 188)] ++ ([(b1, cA (Z7 .u8 a0) 70)] ++ L))) ∧ ev f (.tmp 2) = vP b4 ∧ ev f (.tmp 3) = vP b7) rfl ?_ ?_ K ?_ ?_
 rintro f w ⟨a1, a3, H1, a5, _⟩
 rw [Zb0] at a5; cases a5
 rintro k c2 c3 b9 c0 ⟨a1, a3, b8, a5, Z2, hS, c1, a8, a7, a9, a6⟩
 rw [Zb0] at a5
 refine Z3 (Z1 ?_)
 refine U7 (k := .i64) (a := a1) (b := 8) (by exact a6) rfl rfl (Z0 (Z3 ?_))
 by_cases b2 : a1 < 8
 rw [if_pos b2] at a5
 refine Y0 (bT b2 rfl) (Y8 (Z3 (Y7 (Z3 (Z1 (Z4 (vI a1) (by exact a6) rfl ?_))))))
 refine Yk1 (Value.int .u8 (Y5 a0 a1)) Zc8 (by exact a9) (by exact a6) (by omega) (by omega) (Yi5 (by omega) (by omega)) rfl (Z5 (vI a1) rfl rfl (Z5 (Value.int .u8 (Y5 a0 a1)) rfl rfl (Z0 (Z1 (Z4 (vI a1) rfl rfl (Z4 (Value.int .u8 (Y5 a0 a1)) rfl rfl ?_))))))
 refine Ys5 (s := .u8) ((IntKind.i64.wrap (Y5 a0 a1))) Wz4 rfl rfl rfl ?_
 refine V6 Zj9 (by exact a7) rfl (by omega) (by omega) rfl ?_
 refine Zd8 (v := vI (IntKind.i64.wrap (Y5 a0 a1))) (cs := (Z7 .i64 a3).toArray) (cs' := (Z7 .i64 (S2 a3 a1 (IntKind.i64.wrap (Y5 a0 a1)))).toArray) ty3 rfl rfl hS rfl (Zy9 rfl) (by simp [Z7, M6]; omega) (Zg9 (by omega) (by omega)) ?_
 intro c8 hS
 refine Z0 (X5 (Z1 ?_))
 refine V1 (a1 + 1) (by exact a6) rfl (IntWalk.i64_in _ (by omega)) rfl (Z4 (vI (a1 + 1)) rfl rfl (Z0 ?_))
 exact b9 _ _ ⟨(a1 + 1), (S2 a3 a1 (IntKind.i64.wrap (Y5 a0 a1))), b8, a5, Z2, hS, (by omega), a8, a7, a9, rfl⟩
 rw [if_neg b2] at a5
 refine Z8 (bF b2 rfl) ?_
 refine W4 rfl ?_
 have hz := Option.some.inj a5
 subst hz
 exact c0 _ _ ⟨a3, b8, rfl, Z2, hS, a8, a7⟩
 exact ⟨0, (fun _ => 0), H, a5, Z2, hS, (by omega), rfl, rfl, rfl, rfl⟩
 rintro c4 c5 ⟨a4, c6, rfl, Z2, hS, b0, b3⟩
 dsimp only [Ex.elim] at b6
 refine Z3 (Z1 ?_)
 refine W1 L0 (by exact b3) (hS.get mL) rfl rfl ?_
 have hS := hS.perm V3
 refine W0 (v := vA (Z7 .i64 a4)) (vs := (Z7 .i64 a4).toArray) (cs := (Z7 .i64 (fun _ => 0)).toArray) L0 (by exact b0) rfl rfl hS rfl (S3 .i64 a4) rfl ?_
 intro c9 hS
 have hS := hS.perm V3.symm
 refine Z0 ?_
 refine X3 (vs := [vA (Z7 .i64 a4)]) Tryz.func176 ⟨⟨_, (by exact b0), U1 L0 (hS.get (mR mL)) rfl⟩, trivial⟩ ?_
 have hz := Option.some.inj b6
 subst hz
 exact ⟨_, _, rfl, Z2, (St.dropA (St.dropA (St.dropA hS))), ⟨_, rfl, rfl⟩⟩
def Zl7 (K : Nat) (c3 : Int → Int → Int → Option (Ex Int (Int))) (a1 : Int) (a3 : Int) (a6 : Int) : Option (Ex Int (Int)) := c3 (((IntKind.i64.wrap (a1 * a1))).tmod 10007) a6 (IntKind.i64.wrap ((a3).tdiv 2))
def K9 (K : Nat) : Nat → Int → Int → Int → Option (Ex Int (Int))
 | 0, _, _, _ => none
 | k + 1, a1, a4, a3 => (if 0 < a3 then (if ((a3).tmod 2) = 1 then Zl7 K (K9 K k) a1 a3 (((IntKind.i64.wrap (a4 * a1))).tmod 10007) else Zl7 K (K9 K k) a1 a3 a4) else some (.go a4))
def Zr6 (K : Nat) (a0 : Int) : Option Int := ((K9 K K a0 1 10005).bind (Ex.elim (fun r => some r) (fun s => (fun (a7 : Int) => some a7) s)))
theorem Yx3 {K : Nat} {a0 : Int} {r : Int} (q0 : Zr6 K a0 = some r) {H : FH} {w : World} {L : OL} (hS : St H w L) :
 Calls Tryz.prog 152 #[vI a0] w (T3 (fun v G => (R.int .i64).p G v r) H L) := by
 have Z2 := Sub.refl H
 refine X6 Tryz.func152 rfl Tryz.ntmps152 rfl ?_
 unfold Zr6 at q0
 refine Z3 (Z1 (Z5 (vI 0) rfl rfl (Z0 (Z3 (Z1 (Z5 (vI 1) rfl rfl (Z0 (Z3 (Z3 (Z1 (Z5 (vI 10005) rfl rfl (Z0 (Y7 ?_)))))))))))))
 obtain ⟨b2, a5, b8⟩ := bind_some q0
 refine W7 (id := 0) (fun k f w => ∃ (a1 : Int) (a4 : Int) (a3 : Int) (H1 : FH), K9 K k a1 a4 a3 = some b2 ∧ Sub H H1 ∧ St H1 w (L) ∧ ev f (.tmp 0) = vI a1 ∧ ev f (.tmp 3) = vI a4 ∧ ev f (.tmp 4) = vI a3) (fun f w => ∃ (a7 : Int) (H1 : FH), b2 = .go a7 ∧ Sub H H1 ∧ St H1 w (L) ∧ ev f (.tmp 3) = vI a7) rfl ?_ ?_ K ?_ ?_
 rintro f w ⟨a1, a4, a3, H1, a5, _⟩
 rw [K9] at a5; cases a5
 rintro k c7 c8 c4 c5 ⟨a1, a4, a3, b3, a5, Z2, hS, a9, b0, a8⟩
 rw [K9] at a5
 refine Z3 (Z3 (Z1 (Z4 (vI a3) (by exact a8) rfl ?_)))
 refine Zg6 (k := .i64) (a := a3) (b := 0) rfl rfl rfl (Z0 ?_)
 by_cases b4 : 0 < a3
 rw [if_pos b4] at a5
 refine Y0 (bT b4 rfl) (Y8 (Z3 (Y7 (Z3 (Z3 (Z1 (Z4 (vI a3) (by exact a8) rfl ?_)))))))
 refine Zi4 ((a3).tmod 2) rfl rfl (by decide) rfl rfl ?_
 refine E4 (k := .i64) (a := ((a3).tmod 2)) (b := 1) rfl rfl rfl (Z0 ?_)
 refine Zc7 (fun f w => ∃ (a6 : Int) (H1 : FH), Zl7 K (K9 K k) a1 a3 a6 = some b2 ∧ Sub H H1 ∧ St H1 w (L) ∧ ev f (.tmp 0) = vI a1 ∧ ev f (.tmp 3) = vI a6 ∧ ev f (.tmp 4) = vI a3) ?_ ?_
 rintro d2 c6 ⟨a6, c1, b5, Z2, hS, b1, b9, c0⟩
 unfold Zl7 at b5
 refine Z1 (Z4 (vI a1) (by exact b1) rfl (Z4 (vI a1) (by exact b1) rfl ?_))
 refine Zp6 (IntKind.i64.wrap (a1 * a1)) rfl rfl rfl rfl ?_
 refine Zi4 (((IntKind.i64.wrap (a1 * a1))).tmod 10007) rfl rfl (by decide) rfl rfl (Z5 (vI (((IntKind.i64.wrap (a1 * a1))).tmod 10007)) rfl rfl (Z0 (X5 (Z1 (Z4 (vI a3) (by exact c0) rfl ?_)))))
 refine Wn8 (IntKind.i64.wrap ((a3).tdiv 2)) rfl rfl (by decide) rfl rfl (Z5 (vI (IntKind.i64.wrap ((a3).tdiv 2))) rfl rfl (Z0 ?_))
 exact c4 _ _ ⟨(((IntKind.i64.wrap (a1 * a1))).tmod 10007), a6, (IntKind.i64.wrap ((a3).tdiv 2)), c1, b5, Z2, hS, rfl, b9, rfl⟩
 intro c2
 by_cases b6 : ((a3).tmod 2) = 1
 rw [if_pos b6] at a5
 refine Y0 (bT b6 rfl) (Z1 (Z4 (vI a4) (by exact b0) rfl (Z4 (vI a1) (by exact a9) rfl ?_)))
 refine Zp6 (IntKind.i64.wrap (a4 * a1)) rfl rfl rfl rfl ?_
 refine Zi4 (((IntKind.i64.wrap (a4 * a1))).tmod 10007) rfl rfl (by decide) rfl rfl (Z5 (vI (((IntKind.i64.wrap (a4 * a1))).tmod 10007)) rfl rfl (Z0 ?_))
 exact c2 _ _ ⟨(((IntKind.i64.wrap (a4 * a1))).tmod 10007), b3, a5, Z2, hS, a9, rfl, a8⟩
 rw [if_neg b6] at a5
 refine Z8 (bF b6 rfl) (Y8 ?_)
 exact c2 _ _ ⟨a4, b3, a5, Z2, hS, a9, b0, a8⟩
 rw [if_neg b4] at a5
 refine Z8 (bF b4 rfl) ?_
 refine W4 rfl ?_
 have hz := Option.some.inj a5
 subst hz
 exact c5 _ _ ⟨a4, b3, rfl, Z2, hS, b0⟩
 exact ⟨a0, 1, 10005, H, a5, Z2, hS, rfl, rfl, rfl⟩
 rintro c9 d0 ⟨a7, d1, rfl, Z2, hS, b7⟩
 dsimp only [Ex.elim] at b8
 refine Z3 (Z1 (Z4 (vI a7) (by exact b7) rfl (Z5 (vI a7) rfl rfl (Z0 ?_))))
 refine X3 (vs := [vI a7]) Tryz.func152 ⟨rfl, trivial⟩ ?_
 have hz := Option.some.inj b8
 subst hz
 exact ⟨_, _, rfl, Z2, hS, rfl⟩
def V5 (K : Nat) (a0 : (List Int)) (a1 : (Int → Option Bool)) : Nat → Int → Option (Ex Int (Unit))
 | 0, _ => none
 | k + 1, a3 => (if a3 < (a0.length : Int) then ((a1 (rd a0 a3)).bind fun r4 => (if r4 = true then some (.ret a3) else V5 K a0 a1 k (a3 + 1))) else some (.go ()))
def L3 (K : Nat) (a0 : (List Int)) (a1 : (Int → Option Bool)) : Option Int := ((V5 K a0 a1 K 0).bind (Ex.elim (fun r => some r) (fun s => some (-1))))
theorem Zm2 {K : Nat} {a0 : (List Int)} {a1 : (Int → Option Bool)} {r : Int} (q0 : L3 K a0 a1 = some r) {H : FH} {w : World} {L : OL} {s0 : Value} {s1 : Value} (a6 : Z9 (Y6 .i64) H s0 a0) (a7 : FnQ Tryz.prog s1 (R.int .i64) a1 H) (hS : St H w L) :
 Calls Tryz.prog 263 #[s0, s1] w (T3 (fun v G => (R.int .i64).p G v r) H L) := by
 have Z2 := Sub.refl H
 refine X6 Tryz.func263 rfl Tryz.ntmps263 rfl ?_
 unfold L3 at q0
 refine Z3 (Z1 (Z5 (vI 0) rfl rfl (Z0 (Z3 (Z3 (Z1 (Z4 (s0) rfl rfl ?_)))))))
 have d0 := a6.bound
 refine W6 Q1 rfl a6 rfl (Z4 (vI 0) rfl rfl (Z0 (Y7 ?_)))
 obtain ⟨b5, a4, b1⟩ := bind_some q0
 refine W7 (id := 0) (fun k f w => ∃ (a3 : Int) (H1 : FH), V5 K a0 a1 k a3 = some b5 ∧ Sub H H1 ∧ St H1 w (L) ∧ 0 ≤ a3 ∧ Z9 (Y6 .i64) H1 s0 a0 ∧ FnQ Tryz.prog s1 (R.int .i64) a1 H1 ∧ ev f (.tmp 0) = s0 ∧ ev f (.tmp 1) = s1 ∧ ev f (.tmp 7) = vI (a0.length : Int) ∧ ev f (.tmp 8) = vI a3) (fun f w => ∃ (H1 : FH), b5 = .go () ∧ Sub H H1 ∧ St H1 w (L)) rfl ?_ ?_ K ?_ ?_
 rintro f w ⟨a3, H1, a4, _⟩
 rw [V5] at a4; cases a4
 rintro k c5 c6 b8 b9 ⟨a3, b7, a4, Z2, hS, c0, a6, a7, a8, a9, b0, a5⟩
 rw [V5] at a4
 refine Z3 (Z1 ?_)
 refine U7 (k := .i64) (a := a3) (b := (a0.length : Int)) (by exact a5) (by exact b0) rfl (Z0 (Z3 ?_))
 by_cases b2 : a3 < (a0.length : Int)
 rw [if_pos b2] at a4
 refine Y0 (bT b2 rfl) (Y8 (Z3 (Y7 (Z3 (Z1 (Z4 (vI a3) (by exact a5) rfl (Z5 (vI a3) rfl rfl (Z0 (Z3 (Z1 (Z4 (s1) (by exact a9) rfl (Z4 (s0) (by exact a8) rfl (Z4 (vI a3) rfl rfl ?_)))))))))))))
 obtain ⟨b3, o3, d1, E3, _, c1, c2, rfl, c3⟩ := a6.elem (i := a3) (by omega) (by omega)
 refine W2 Q1 rfl rfl c1 rfl (by omega) (by omega) rfl ?_
 refine Y3 (vI (rd a0 a3)) ty2 rfl (hS.froz _ _ c2) (c3 0 (show 0 < 1 by decide)) rfl ?_
 obtain ⟨r4, c4, a4⟩ := bind_some a4
 refine Xw0 a7 rfl rfl hS rfl c4 rfl ?_
 intro H4 w5 b6 hS
 have Z2 := Z2.trans b6
 have a6 := a6.mono b6
 have a7 := a7.mono b6
 refine Z0 ?_
 by_cases b4 : r4 = true
 rw [if_pos b4] at a4
 refine Y0 (Eq.trans rfl (congrArg Value.bool b4)) (Z3 (Z1 (Z4 (vI a3) rfl rfl (Z5 (vI a3) rfl rfl (Z0 ?_)))))
 refine X3 (vs := [vI a3]) Tryz.func263 ⟨rfl, trivial⟩ ?_
 have hz := Option.some.inj a4
 subst hz
 dsimp only [Ex.elim] at b1
 have hz := Option.some.inj b1
 subst hz
 exact ⟨_, _, rfl, Z2, hS, rfl⟩
 rw [if_neg b4] at a4
 refine Z8 (Eq.trans rfl (congrArg Value.bool (W5 b4))) (Y8 (X5 (Z1 ?_)))
 refine V1 (a3 + 1) (by exact a5) rfl (IntWalk.i64_in _ (by omega)) rfl (Z4 (vI (a3 + 1)) rfl rfl (Z0 ?_))
 exact b8 _ _ ⟨(a3 + 1), H4, a4, Z2, hS, (by omega), a6, a7, a8, a9, b0, rfl⟩
 rw [if_neg b2] at a4
 refine Z8 (bF b2 rfl) ?_
 refine W4 rfl ?_
 have hz := Option.some.inj a4
 subst hz
 exact b9 _ _ ⟨b7, rfl, Z2, hS⟩
 exact ⟨0, H, a4, Z2, hS, (by omega), a6, a7, rfl, rfl, rfl, rfl⟩
 rintro c7 c8 ⟨c9, rfl, Z2, hS⟩
 dsimp only [Ex.elim] at b1
 refine Z3 (Z1 (Z5 (vI (-1)) rfl rfl (Z0 ?_)))
 refine X3 (vs := [vI (-1)]) Tryz.func263 ⟨rfl, trivial⟩ ?_
 have hz := Option.some.inj b1
 subst hz
 exact ⟨_, _, rfl, Z2, hS, rfl⟩
def Zw0 (K : Nat) (a0 : (List Int)) (a1 : Int) : Option Int := (if (IntKind.i64.wrap (a1 - (a0.length : Int))) < 0 then some (-1) else some (IntKind.i64.wrap (a1 - (a0.length : Int))))
theorem Yu4 {K : Nat} {a0 : (List Int)} {a1 : Int} {r : Int} (q0 : Zw0 K a0 a1 = some r) {H : FH} {w : World} {L : OL} {s0 : Value} (a4 : Z9 (Y6 .i64) H s0 a0) (hS : St H w L) :
 Calls Tryz.prog 77 #[s0, vI a1] w (T3 (fun v G => (R.int .i64).p G v r) H L) := by
 have Z2 := Sub.refl H
 refine X6 Tryz.func77 rfl Tryz.ntmps77 rfl ?_
 unfold Zw0 at q0
 refine Z3 (Z1 (Z5 (vI 0) rfl rfl (Z0 (Z3 (Z1 (Z4 (vI a1) rfl rfl (Z4 (s0) rfl rfl ?_)))))))
 have a5 := a4.bound
 refine W6 Q1 rfl a4 rfl ?_
 refine Yd1 (IntKind.i64.wrap (a1 - (a0.length : Int))) rfl rfl rfl rfl (Z5 (vI (IntKind.i64.wrap (a1 - (a0.length : Int)))) rfl rfl (Z0 (Z3 (Z3 (Z1 (Z4 (vI (IntKind.i64.wrap (a1 - (a0.length : Int)))) rfl rfl ?_))))))
 refine U7 (k := .i64) (a := (IntKind.i64.wrap (a1 - (a0.length : Int)))) (b := 0) rfl rfl rfl (Z0 ?_)
 by_cases a3 : (IntKind.i64.wrap (a1 - (a0.length : Int))) < 0
 rw [if_pos a3] at q0
 refine Y0 (bT a3 rfl) (Z3 (Z1 (Z5 (vI (-1)) rfl rfl (Z0 ?_))))
 refine X3 (vs := [vI (-1)]) Tryz.func77 ⟨rfl, trivial⟩ ?_
 have hz := Option.some.inj q0
 subst hz
 exact ⟨_, _, rfl, Z2, hS, rfl⟩
 rw [if_neg a3] at q0
 refine Z8 (bF a3 rfl) (Y8 (Z3 (Z1 (Z4 (vI (IntKind.i64.wrap (a1 - (a0.length : Int)))) rfl rfl (Z5 (vI (IntKind.i64.wrap (a1 - (a0.length : Int)))) rfl rfl (Z0 ?_))))))
 refine X3 (vs := [vI (IntKind.i64.wrap (a1 - (a0.length : Int)))]) Tryz.func77 ⟨rfl, trivial⟩ ?_
 have hz := Option.some.inj q0
 subst hz
 exact ⟨_, _, rfl, Z2, hS, rfl⟩
def Zy3 (K : Nat) (a0 : (List Int)) : Option (List Int) := (if ([] : List Int).length + a0.length ≤ 1099511627776 then some (([] : List Int) ++ a0) else none)
theorem Xb0 {K : Nat} {a0 : (List Int)} {r : (List Int)} (q0 : Zy3 K a0 = some r) {H : FH} {w : World} {L : OL} {s0 : Value} (a5 : Z9 (Y6 .i64) H s0 a0) (hS : St H w L) :
 Calls Tryz.prog 234 #[s0] w (T3 (fun v G => (R.sl (Y6 .i64)).p G v r) H L) := by
 have Z2 := Sub.refl H
 refine X6 Tryz.func234 rfl Tryz.ntmps234 rfl ?_
 unfold Zy3 at q0
 refine Z3 (Z1 (Z5 (vN) rfl rfl (Z0 (Z3 (Z1 ?_)))))
 refine Zn2 (τ := (Y6 .i64)) Q1 ze2 rfl hS rfl ?_
 intro u1 w2 C3 a6 hS
 refine Z4 (s0) rfl rfl ?_
 obtain ⟨a7, q0⟩ := gd q0
 refine P5 (τ := (Y6 .i64)) Xb7 rfl rfl rfl a6 hS a5 a7 rfl ?_
 intro u7 w8 C9 a1 hS
 refine Z5 (u7) rfl rfl (Z0 ?_)
 refine X3 (vs := [u7]) Tryz.func234 ⟨rfl, trivial⟩ ?_
 obtain ⟨a8, a3, hS, a4⟩ := a1.freeze hS
 have Z2 := Z2.trans a3
 have hz := Option.some.inj q0
 subst hz
 exact ⟨_, _, rfl, Z2, hS, a4⟩
def Za6 (K : Nat) (a0 : Int) : Option Int := some (((IntKind.i64.wrap (((a0).tmod 10007) + 10007))).tmod 10007)
theorem Zd2 {K : Nat} {a0 : Int} {r : Int} (q0 : Za6 K a0 = some r) {H : FH} {w : World} {L : OL} (hS : St H w L) :
 Calls Tryz.prog 217 #[vI a0] w (T3 (fun v G => (R.int .i64).p G v r) H L) := by
 have Z2 := Sub.refl H
 refine X6 Tryz.func217 rfl Tryz.ntmps217 rfl ?_
 unfold Za6 at q0
 refine Z3 (Z1 (Z5 (vI 0) rfl rfl (Z0 (Z3 (Z1 (Z4 (vI a0) rfl rfl ?_))))))
 refine Zi4 ((a0).tmod 10007) rfl rfl (by decide) rfl rfl ?_
 refine V1 (IntKind.i64.wrap (((a0).tmod 10007) + 10007)) rfl rfl rfl rfl ?_
 refine Zi4 (((IntKind.i64.wrap (((a0).tmod 10007) + 10007))).tmod 10007) rfl rfl (by decide) rfl rfl (Z5 (vI (((IntKind.i64.wrap (((a0).tmod 10007) + 10007))).tmod 10007)) rfl rfl (Z0 ?_))
 refine X3 (vs := [vI (((IntKind.i64.wrap (((a0).tmod 10007) + 10007))).tmod 10007)]) Tryz.func217 ⟨rfl, trivial⟩ ?_
 have hz := Option.some.inj q0
 subst hz
 exact ⟨_, _, rfl, Z2, hS, rfl⟩
end Go.Proofs.YtfodlhkoafhplaaGreat
