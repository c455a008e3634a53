/- Walks of functions: each computes its pure function, if that gives a value. -/
import Derived.Test.YtfodlhkoafhplaaGreatWTy
namespace Go.Proofs.YtfodlhkoafhplaaGreat
open Go
set_option linter.unusedSimpArgs false
set_option linter.unusedVariables false
set_option maxRecDepth 100000
set_option maxHeartbeats 8000000
def B2 (K : Nat) (a0 : MpT) (a1 : Int) (a3 : Int) : Nat → Int → A8 → Option (Ex MpT (A8))
 | 0, _, _ => none
 | k + 1, a7, b0 => (if (IntKind.i64.wrap (a7 + a1)) < 8 then (if a7 < 8 then (if 0 ≤ (IntKind.i64.wrap (a7 + a1)) then B2 K a0 a1 a3 k (a7 + 1) (T8 b0 (IntKind.i64.wrap (a7 + a1)) (Y5 ((rd a0 a3).1) a7)) else none) else none) else some (.go b0))
def B5 (K : Nat) (a0 : MpT) (a1 : Int) : Nat → Int → MpT → Option (Ex MpT (MpT))
 | 0, _, _ => none
 | k + 1, a3, a5 => (if a3 < (a0.length : Int) then ((B2 K a0 a1 a3 K 0 (fun _ => 0)).bind (Ex.elim (fun r => some (.ret r)) (fun s => (fun (a8 : A8) => (if a5.length + ([(a8, (rd a0 a3).2)]).length ≤ 1099511627776 then B5 K a0 a1 k (a3 + 1) (a5 ++ [(a8, (rd a0 a3).2)]) else none)) s))) else some (.go a5))
def Zo1 (K : Nat) (a0 : MpT) (a1 : Int) : Option MpT := ((B5 K a0 a1 K 0 ([] : List (A8 × Int))).bind (Ex.elim (fun r => some r) (fun s => (fun (b3 : MpT) => some b3) s)))
theorem Yq9 {K : Nat} {a0 : MpT} {a1 : Int} {r : MpT} (q0 : Zo1 K a0 a1 = some r) {H : FH} {w : World} {L : OL} {s0 : Value} (b6 : Y3 yT H s0 a0) (hS : St H w L) :
 Calls Tryz.prog 235 #[vA ([s0]), vI a1] w (T6 (fun v G => (R.agg (X6 yT)).p G v r) H L) := by
 have Z2 := Sub.refl H
 refine X0 Tryz.func235 rfl Tryz.ntmps235 rfl ?_
 unfold Zo1 at q0
 refine Z3 (Z1 ?_)
 refine T7 (v := vA ([s0])) ([s0]).toArray rfl rfl hS rfl ?_
 intro b1 w2 hS
 refine W9 (z := vA ([vN])) ([vN]).toArray Zb2.zero rfl hS rfl ?_
 intro b4 w5 hS
 refine Z0 (Z3 (Z1 ?_))
 refine Q2 (vA ([vN])) Yc4 rfl ?_
 refine W9 (z := vA ([vN])) ([vN]).toArray Zb2.zero rfl hS rfl ?_
 intro b7 w8 hS
 refine W1 (v := vA ([vN])) (vs := ([vN]).toArray) (cs := ([vN]).toArray) U7 rfl rfl rfl hS rfl (S2 rfl) rfl ?_
 intro o7 hS
 refine Z0 (Z3 (Z3 (Z1 (Z6 (vI 0) rfl rfl (Z0 (Y7 ?_))))))
 have f2 : U1 yT 76 H (.slice none 0 0) [] [] := U1.nil _ _ _
 obtain ⟨f3, b8, f4⟩ := bind_some q0
 refine W7 (id := 0) (fun k f w => ∃ (a3 : Int) (a5 : MpT) (H1 : FH) (a6 : OL) (a4 : Value), B5 K a0 a1 k a3 a5 = some f3 ∧ Sub H H1 ∧ St H1 w (a6 ++ ([(b7, cA ([a4]) 47)] ++ ([(b4, cA ([vN]) 47)] ++ ([(b1, cA ([s0]) 47)] ++ L)))) ∧ 0 ≤ a3 ∧ U1 yT 76 H1 a4 a5 a6 ∧ Y3 yT H1 s0 a0 ∧ ev f (.tmp 1) = vI a1 ∧ ev f (.tmp 2) = vP b1 ∧ ev f (.tmp 4) = vP b4 ∧ ev f (.tmp 5) = vP b7 ∧ ev f (.tmp 6) = vI a3) (fun f w => ∃ (b3 : MpT) (H1 : FH) (b9 : OL) (b2 : Value), f3 = .go b3 ∧ Sub H H1 ∧ St H1 w (b9 ++ ([(b7, cA ([b2]) 47)] ++ ([(b4, cA ([vN]) 47)] ++ ([(b1, cA ([s0]) 47)] ++ L)))) ∧ U1 yT 76 H1 b2 b3 b9 ∧ Y3 yT H1 s0 a0 ∧ ev f (.tmp 4) = vP b4 ∧ ev f (.tmp 5) = vP b7) rfl ?_ ?_ K ?_ ?_
 rintro f w ⟨a3, a5, H1, a6, a4, b8, _⟩
 rw [B5] at b8; cases b8
 rintro k j8 j9 i7 i8 ⟨a3, a5, f5, a6, a4, b8, Z2, hS, i9, a9, b6, e7, c7, c8, c9, d0⟩
 rw [B5] at b8
 refine Z3 (Z3 (Z1 (Z4 (vI a3) (by exact d0) rfl (Y2 V6 (by exact c7) rfl ?_))))
 refine Y4 (s0) R7 rfl (hS.get (mR (mR (mR mL)))) rfl rfl ?_
 have k0 := b6.bound
 refine W6 S9 rfl b6 rfl ?_
 refine U5 (k := .i64) (a := a3) (b := (a0.length : Int)) rfl rfl rfl (Z0 ?_)
 by_cases d7 : a3 < (a0.length : Int)
 rw [if_pos d7] at b8
 refine Y0 (bT d7 rfl) (Y6 (Z3 (Y7 (Z3 (Z1 ?_)))))
 refine Q2 (vA (Z7 .u8 (fun _ => 0))) Yt1 rfl ?_
 refine W9 (z := vA (Z7 .u8 (fun _ => 0))) (Z7 .u8 (fun _ => 0)).toArray Ya8.zero rfl hS rfl ?_
 intro e1 o8 hS
 refine W1 (v := vA (Z7 .u8 (fun _ => 0))) (vs := (Z7 .u8 (fun _ => 0)).toArray) (cs := (Z7 .u8 (fun _ => 0)).toArray) N0 rfl rfl rfl hS rfl (S8 .u8 (fun _ => 0)) rfl ?_
 intro o9 hS
 refine Z0 (Z3 (Z3 (Z1 (Z6 (vI 0) rfl rfl (Z0 (Y7 ?_))))))
 obtain ⟨f6, b5, d8⟩ := bind_some b8
 refine W7 (id := 2) (fun k f w => ∃ (a7 : Int) (b0 : A8) (H1 : FH), B2 K a0 a1 a3 k a7 b0 = some f6 ∧ Sub H H1 ∧ St H1 w ([(e1, cA (Z7 .u8 b0) 70)] ++ (a6 ++ ([(b7, cA ([a4]) 47)] ++ ([(b4, cA ([vN]) 47)] ++ ([(b1, cA ([s0]) 47)] ++ L))))) ∧ 0 ≤ a7 ∧ Y3 yT H1 s0 a0 ∧ U1 yT 76 H1 a4 a5 a6 ∧ ev f (.tmp 1) = vI a1 ∧ ev f (.tmp 2) = vP b1 ∧ ev f (.tmp 4) = vP b4 ∧ ev f (.tmp 5) = vP b7 ∧ ev f (.tmp 6) = vI a3 ∧ ev f (.tmp 7) = vP e1 ∧ ev f (.tmp 8) = vI a7) (fun f w => ∃ (a8 : A8) (H1 : FH), f6 = .go a8 ∧ Sub H H1 ∧ St H1 w ([(e1, cA (Z7 .u8 a8) 70)] ++ (a6 ++ ([(b7, cA ([a4]) 47)] ++ ([(b4, cA ([vN]) 47)] ++ ([(b1, cA ([s0]) 47)] ++ L))))) ∧ Y3 yT H1 s0 a0 ∧ U1 yT 76 H1 a4 a5 a6 ∧ ev f (.tmp 1) = vI a1 ∧ ev f (.tmp 2) = vP b1 ∧ ev f (.tmp 4) = vP b4 ∧ ev f (.tmp 5) = vP b7 ∧ ev f (.tmp 6) = vI a3 ∧ ev f (.tmp 7) = vP e1) rfl ?_ ?_ K ?_ ?_
 rintro f w ⟨a7, b0, H1, b5, _⟩
 rw [B2] at b5; cases b5
 rintro k k1 k2 j0 j1 ⟨a7, b0, f7, b5, Z2, hS, j2, b6, a9, c1, c4, d1, d2, c5, c6, c2⟩
 rw [B2] at b5
 refine Z3 (Z3 (Z1 (Z4 (vI a7) (by exact c2) rfl (Z4 (vI a1) (by exact c1) rfl ?_))))
 refine V0 (IntKind.i64.wrap (a7 + a1)) rfl rfl rfl rfl ?_
 refine U5 (k := .i64) (a := (IntKind.i64.wrap (a7 + a1))) (b := 8) rfl rfl rfl (Z0 ?_)
 by_cases d9 : (IntKind.i64.wrap (a7 + a1)) < 8
 rw [if_pos d9] at b5
 refine Y0 (bT d9 rfl) (Y6 (Z3 (Y7 (Z1 (Z4 (vI a7) (by exact c2) rfl (Z4 (vI a1) (by exact c1) rfl ?_))))))
 refine V0 (IntKind.i64.wrap (a7 + a1)) rfl rfl rfl rfl (Y2 V6 (by exact c4) rfl ?_)
 refine Y4 (s0) R7 rfl (hS.get (mR (mR (mR (mR mL))))) rfl rfl (Z4 (vI a3) (by exact c5) rfl (Z4 (vI a7) (by exact c2) rfl ?_))
 obtain ⟨p0, p1, k3, p2, _, h2, h3, ⟨_, _, rfl, rfl, rfl⟩, h4⟩ := b6.elem (i := a3) (by omega) (by omega)
 refine W3 S9 rfl rfl h2 rfl (by omega) (by omega) rfl (Y2 P0 rfl rfl ?_)
 obtain ⟨k4, b5⟩ := gd b5
 refine W8 Za7 rfl rfl (by omega) (by omega) rfl ?_
 refine Y4 (Value.int .u8 (Y5 ((rd a0 a3).1) a7)) ty5 rfl (hS.froz _ _ h3) (Yn2 ([]) (([vI ((rd a0 a3).2)])) h4 (Nat.le_of_ble_eq_true rfl) (by omega) (by omega)) rfl ?_
 obtain ⟨k5, b5⟩ := gd b5
 refine W8 Za7 (by exact c6) rfl (by omega) (by omega) rfl ?_
 refine D0 (v := Value.int .u8 (Y5 ((rd a0 a3).1) a7)) (cs := (Z7 .u8 b0).toArray) (cs' := (Z7 .u8 (T8 b0 (IntKind.i64.wrap (a7 + a1)) (Y5 ((rd a0 a3).1) a7))).toArray) ty5 rfl rfl hS rfl (Zu7 rfl) (by simp [Z7, U2]; omega) (Ze5 (by omega) (by omega)) ?_
 intro p3 hS
 refine Z0 (X2 (Z1 (Z4 (vI a7) (by exact c2) rfl ?_)))
 refine V0 (a7 + 1) rfl rfl (IntWalk.i64_in _ (by omega)) rfl (Z6 (vI (a7 + 1)) rfl rfl (Z0 ?_))
 exact j0 _ _ ⟨(a7 + 1), (T8 b0 (IntKind.i64.wrap (a7 + a1)) (Y5 ((rd a0 a3).1) a7)), f7, b5, Z2, hS, (by omega), b6, a9, c1, c4, d1, d2, c5, c6, rfl⟩
 rw [if_neg d9] at b5
 refine Z9 (bF d9 rfl) ?_
 refine W4 rfl ?_
 have hz := Option.some.inj b5
 subst hz
 exact j1 _ _ ⟨b0, f7, rfl, Z2, hS, b6, a9, c1, c4, d1, d2, c5, c6⟩
 exact ⟨0, (fun _ => 0), f5, b5, Z2, hS, (by omega), b6, a9, e7, c7, c8, c9, d0, rfl, rfl⟩
 rintro k6 k7 ⟨a8, k8, rfl, Z2, hS, b6, a9, e8, d3, e9, d4, d5, f0⟩
 dsimp only [Ex.elim] at d8
 obtain ⟨h0, h1, k9, p4, _, h5, e2, ⟨_, _, rfl, rfl, rfl⟩, h6⟩ := b6.elem (i := a3) (by omega) (by omega)
 refine V4 11 (R9 [(36, MP.eq (vP b7)), (37, MP.eq (a4)), (38, MP.eq (vA (Z7 .u8 a8))), (39, MP.eq (vP b1)), (40, MP.eq (s0)), (41, MP.eq (vI a3)), (42, MP.eq (Value.pointer (some ⟨h0, h1, none⟩))), (43, MP.eq (Value.pointer (some ⟨h0, h1 + 8, none⟩))), (44, MP.eq (vI ((rd a0 a3).2))), (45, MP.eq (vA (Z7 .u8 a8 ++ [vI ((rd a0 a3).2)]))), (46, MP.sl yT ([(a8, (rd a0 a3).2)]))]) [] mixed rfl rfl rfl hS (Z5 rfl ?_ (Z5 rfl ?_ (Z5 rfl ?_ (Z5 rfl ?_ (Z5 rfl ?_ (Z5 rfl ?_ (Z5 rfl ?_ (Z5 rfl ?_ (Z5 rfl ?_ (Z5 rfl ?_ (Z5 rfl ?_ V9))))))))))) ?_
 intro p5 p6 p7 p8 l0 hS h7 l1 hcq
 refine Y2 V6 (evT (h7 5 rfl) d4) rfl ?_
 exact qn (.refl _) rfl hS rfl
 intro p9 q1 q2 q3 l2 hS l3 h8 hcq
 refine Y4 (a4) R7 (eM (h8 0 36 rfl rfl)) (hS.get (mR (mR (mR mL)))) rfl rfl ?_
 exact qn (.refl _) rfl hS rfl
 intro q4 q5 q6 q7 l4 hS h9 l5 hcq
 refine X8 N0 (evT (h9 7 rfl) f0) (hS.get (mR mL)) rfl rfl ?_
 exact qn (.refl _) rfl hS rfl
 intro q8 q9 r0 r1 l6 hS i0 l7 hcq
 refine Y2 V6 (evT (i0 2 rfl) d3) rfl ?_
 exact qn (.refl _) rfl hS rfl
 intro r2 r3 r4 r5 l9 hS m0 i1 hcq
 refine Y4 (s0) R7 (eM (i1 3 39 rfl rfl)) (hS.get (mR (mR (mR (mR (mR mL)))))) rfl rfl ?_
 exact qn (.refl _) rfl hS rfl
 intro r6 r7 r8 r9 m1 hS i2 m2 hcq
 refine Z4 (vI a3) (evT (i2 6 rfl) d5) rfl ?_
 exact qn (.refl _) rfl hS rfl
 intro s1 s2 s3 s4 m3 hS m4 f8 hcq
 refine W3 S9 rfl (eM (f8 4 40 rfl rfl)) h5 (eM (f8 5 41 rfl rfl)) (by omega) (by omega) rfl ?_
 exact qn (.refl _) rfl hS rfl
 intro s5 s6 s7 s8 m5 hS m6 i3 hcq
 refine Y2 Zc0 (eM (i3 6 42 rfl rfl)) rfl ?_
 exact qn (.refl _) rfl hS rfl
 intro s9 t0 t1 t4 g1 hS j3 g2 hcq
 have e2 := g1.1 _ _ e2
 refine Y4 (vI ((rd a0 a3).2)) ty2 (eM (g2 7 43 rfl rfl)) (hS.froz _ _ e2) (h6 8 (show 8 < 9 by decide)) rfl ?_
 exact qn (.refl _) rfl hS rfl
 intro m7 m8 m9 n0 j4 hS j5 e4 hcq
 refine Zo9 (Z7 .u8 a8 ++ [vI ((rd a0 a3).2)]) Yz4 (Yd5 (eM (e4 2 38 rfl rfl)) (eM (e4 8 44 rfl rfl))) (K5 rfl rfl rfl (Nat.le_of_ble_eq_true rfl) (K5 rfl rfl rfl (Nat.le_of_ble_eq_true rfl) (Zk3 rfl))) rfl ?_
 exact qn (.refl _) rfl hS rfl
 intro n1 n2 n3 n4 j6 hS j7 g3 hcq
 refine Zn7 (τ := yT) S9 Zy1 rfl [vA (Z7 .u8 a8 ++ [vI ((rd a0 a3).2)])] [(a8, (rd a0 a3).2)] rfl rfl (Ze0 (eM (g3 9 45 rfl rfl))) (Zu5 ⟨_, _, rfl, rfl, rfl⟩) (by decide) (by decide) hS rfl ?_
 intro n5 n6 n7 g4 hS g5
 exact qn g4 rfl hS g5
 intro n8 i4 f9 e0 hS c3 e5 hcq
 have hS : St f9 i4 ([(e1, cA (Z7 .u8 a8) 70)] ++ (a6 ++ ([(b7, cA ([a4]) 47)] ++ ([(b4, cA ([vN]) 47)] ++ ([(b1, cA ([s0]) 47)] ++ L))))) := hS
 have Z2 := Z2.trans e0
 have b6 := b6.mono e0
 have a9 := a9.mono e0
 have g0 := evT (c3 5 rfl) d4
 obtain ⟨n9, i5, g6⟩ := gvS (e5 10 46 (by decide) rfl)
 obtain ⟨g7, d8⟩ := gd d8
 have hS := hS.perm U4
 refine Zd1 (τ := yT) Yt8 rfl (by exact (eM (e5 1 37 (by decide) rfl))) (by exact i5) a9 hS g6 g7 rfl ?_
 intro e3 o0 i6 e6 hS
 have hS := hS.perm U4.symm
 refine Y2 V6 (by exact g0) rfl ?_
 have hS := hS.perm F3
 refine Ze1 (v := e3) (cs := ([a4]).toArray) (cs' := ([e3]).toArray) R7 rfl rfl hS e6.isOne rfl (Nat.le_of_ble_eq_true rfl) rfl ?_
 intro o1 hS
 have hS := hS.perm F3.symm
 refine Z0 (X2 (Z1 (Z4 (vI a3) (by exact (evT (c3 6 rfl) d5)) rfl ?_)))
 refine V0 (a3 + 1) rfl rfl (IntWalk.i64_in _ (by omega)) rfl (Z6 (vI (a3 + 1)) rfl rfl (Z0 ?_))
 have hS := St.dropA hS
 exact i7 _ _ ⟨(a3 + 1), (a5 ++ [(a8, (rd a0 a3).2)]), f9, i6, e3, d8, Z2, hS, (by omega), e6, b6, (evT (c3 1 rfl) e8), (evT (c3 2 rfl) d3), (evT (c3 4 rfl) e9), g0, rfl⟩
 rw [if_neg d7] at b8
 refine Z9 (bF d7 rfl) ?_
 refine W4 rfl ?_
 have hz := Option.some.inj b8
 subst hz
 exact i8 _ _ ⟨a5, f5, a6, a4, rfl, Z2, hS, a9, b6, c8, c9⟩
 exact ⟨0, ([] : List (A8 × Int)), H, ([]), (vN), b8, Z2, hS, (by omega), f2, b6, rfl, rfl, rfl, rfl, rfl⟩
 rintro o2 o3 ⟨b3, o4, b9, b2, rfl, Z2, hS, c0, b6, d6, f1⟩
 dsimp only [Ex.elim] at f4
 refine Z3 (Z1 ?_)
 refine X8 U7 (by exact f1) (hS.get (mR mL)) rfl rfl ?_
 have hS := hS.perm F3
 refine W1 (v := vA ([b2])) (vs := ([b2]).toArray) (cs := ([vN]).toArray) U7 (by exact d6) rfl rfl hS rfl (S2 c0.isOne) rfl ?_
 intro o5 hS
 have hS := hS.perm F3.symm
 refine Z0 ?_
 refine Y9 (vs := [vA ([b2])]) Tryz.func235 ⟨⟨_, (by exact d6), U8 U7 (hS.get (mR (mR mL))) rfl⟩, trivial⟩ ?_
 obtain ⟨o6, g8, hS, g9⟩ := c0.freeze hS
 have Z2 := Z2.trans g8
 have hz := Option.some.inj f4
 subst hz
 exact ⟨_, _, rfl, Z2, (St.dropA (St.dropA (St.dropA hS))), ⟨_, rfl, ⟨_, rfl, g9⟩⟩⟩
def P1 (K : Nat) (a0 : A8) (a1 : A8) : Nat → Int → Option (Ex Int (Unit))
 | 0, _ => none
 | k + 1, a3 => (if a3 < 8 then (if (Y5 a0 a3) = (Y5 a1 a3) then P1 K a0 a1 k (a3 + 1) else some (.ret (IntKind.i64.wrap ((Y5 a1 a3) - (Y5 a0 a3))))) else some (.go ()))
def D4 (K : Nat) (a0 : A8) (a1 : A8) : Option Int := ((P1 K a0 a1 K 0).bind (Ex.elim (fun r => some r) (fun s => some 0)))
theorem Zt9 {K : Nat} {a0 : A8} {a1 : A8} {r : Int} (q0 : D4 K a0 a1 = some r) {H : FH} {w : World} {L : OL} (hS : St H w L) :
 Calls Tryz.prog 221 #[vA (Z7 .i64 a0), vA (Z7 .i64 a1)] w (T6 (fun v G => (R.int .i64).p G v r) H L) := by
 have Z2 := Sub.refl H
 refine X0 Tryz.func221 rfl Tryz.ntmps221 rfl ?_
 unfold D4 at q0
 refine Z3 (Z1 ?_)
 refine T7 (v := vA (Z7 .i64 a0)) (Z7 .i64 a0).toArray rfl rfl hS rfl ?_
 intro b1 w2 hS
 refine T7 (v := vA (Z7 .i64 a1)) (Z7 .i64 a1).toArray rfl rfl hS rfl ?_
 intro b4 w5 hS
 refine Z6 (vI 0) rfl rfl (Z0 (Z3 (Z3 (Z1 (Z4 (vI 0) rfl rfl (Z0 (Y7 ?_)))))))
 obtain ⟨b5, a4, a8⟩ := bind_some q0
 refine W7 (id := 0) (fun k f w => ∃ (a3 : Int) (H1 : FH), P1 K a0 a1 k a3 = some b5 ∧ Sub H H1 ∧ St H1 w ([(b4, cA (Z7 .i64 a1) 188)] ++ ([(b1, cA (Z7 .i64 a0) 188)] ++ L)) ∧ 0 ≤ a3 ∧ ev f (.tmp 2) = vP b1 ∧ ev f (.tmp 3) = vP b4 ∧ ev f (.tmp 6) = vI a3) (fun f w => ∃ (H1 : FH), b5 = .go () ∧ Sub H H1 ∧ St H1 w ([(b4, cA (Z7 .i64 a1) 188)] ++ ([(b1, cA (Z7 .i64 a0) 188)] ++ L))) rfl ?_ ?_ K ?_ ?_
 rintro f w ⟨a3, H1, a4, _⟩
 rw [P1] at a4; cases a4
 rintro k g7 g8 e7 e8 ⟨a3, d3, a4, Z2, hS, e9, a6, a7, a5⟩
 rw [P1] at a4
 refine Z3 (Z1 ?_)
 refine U5 (k := .i64) (a := a3) (b := 8) (by exact a5) rfl rfl (Z0 (Z3 ?_))
 by_cases b2 : a3 < 8
 rw [if_pos b2] at a4
 refine Y0 (bT b2 rfl) (Y6 (Z3 (Y7 (Z3 (Z1 (Z4 (vI a3) (by exact a5) rfl (Z6 (vI a3) rfl rfl (Z0 (Z3 ?_)))))))))
 refine V4 7 (R9 [(9, MP.eq (vI a3)), (10, MP.eq (Value.pointer (some ⟨b1, 0 + (a3).toNat * 1, none⟩))), (11, MP.eq (vI (Y5 a0 a3))), (12, MP.eq (vI a3)), (13, MP.eq (Value.pointer (some ⟨b4, 0 + (a3).toNat * 1, none⟩))), (14, MP.eq (vI (Y5 a1 a3))), (15, MP.eq (Value.bool (!decide ((Y5 a0 a3) = (Y5 a1 a3)))))]) [] mixed rfl rfl rfl hS (Z5 rfl ?_ (Z5 rfl ?_ (Z5 rfl ?_ (Z5 rfl ?_ (Z5 rfl ?_ (Z5 rfl ?_ (Z5 rfl ?_ V9))))))) ?_
 intro f8 w9 l2 l3 g9 hS d4 h0 hcq
 have f0 : ev f8 (.tmp 5) = vI a3 := Eq.trans (d4 5 rfl) rfl
 refine Z4 (vI a3) f0 rfl ?_
 exact qn (.refl _) rfl hS rfl
 intro l4 l5 l6 l7 h1 hS d5 d6 hcq
 refine W8 Zg4 (evT (d5 2 rfl) a6) (eM (d6 0 9 rfl rfl)) (by omega) (by omega) rfl ?_
 exact qn (.refl _) rfl hS rfl
 intro l9 m0 m1 m2 h2 hS h3 d7 hcq
 refine Y4 (vI (Y5 a0 a3)) ty3 (eM (d7 1 10 rfl rfl)) (hS.get (o := cA (Z7 .i64 a0) 188) (mR (mR mL))) (M3 ([]) ([]) (by omega) (by omega)) rfl ?_
 exact qn (.refl _) rfl hS rfl
 intro f1 m3 m4 m5 h4 hS d8 h5 hcq
 have f2 : ev f1 (.tmp 5) = vI a3 := Eq.trans (d8 5 rfl) rfl
 refine Z4 (vI a3) f2 rfl ?_
 exact qn (.refl _) rfl hS rfl
 intro m6 m7 m8 m9 h6 hS d9 e0 hcq
 refine W8 Zg4 (evT (d9 3 rfl) a7) (eM (e0 3 12 rfl rfl)) (by omega) (by omega) rfl ?_
 exact qn (.refl _) rfl hS rfl
 intro n0 n1 n2 n3 h7 hS h8 e1 hcq
 refine Y4 (vI (Y5 a1 a3)) ty3 (eM (e1 4 13 rfl rfl)) (hS.get (o := cA (Z7 .i64 a1) 188) (mR mL)) (M3 ([]) ([]) (by omega) (by omega)) rfl ?_
 exact qn (.refl _) rfl hS rfl
 intro n4 n5 n6 n7 h9 hS i0 b6 hcq
 refine L9 (k := .i64) (a := (Y5 a0 a3)) (b := (Y5 a1 a3)) (eM (b6 2 11 rfl rfl)) (eM (b6 5 14 rfl rfl)) rfl ?_
 exact qn (.refl _) rfl hS rfl
 intro c7 f3 c8 e2 hS a9 e3 hcq
 have hS : St c8 f3 ([(b4, cA (Z7 .i64 a1) 188)] ++ ([(b1, cA (Z7 .i64 a0) 188)] ++ L)) := hS
 have Z2 := Z2.trans e2
 have c9 := evT (a9 2 rfl) a6
 have d0 := evT (a9 3 rfl) a7
 have d1 : ev c7 (.tmp 5) = vI a3 := Eq.trans (a9 5 rfl) rfl
 have d2 : ev c7 (.tmp 15) = Value.bool (!decide ((Y5 a0 a3) = (Y5 a1 a3))) := e3 6 15 (by decide) rfl
 refine Z0 ?_
 by_cases b0 : (Y5 a0 a3) = (Y5 a1 a3)
 rw [if_pos b0] at a4
 refine Z9 (bN b0 (by exact d2)) (Y6 (X2 (Z1 ?_)))
 refine V0 (a3 + 1) (by exact (evT (a9 6 rfl) a5)) rfl (IntWalk.i64_in _ (by omega)) rfl (Z4 (vI (a3 + 1)) rfl rfl (Z0 ?_))
 exact e7 _ _ ⟨(a3 + 1), c8, a4, Z2, hS, (by omega), c9, d0, rfl⟩
 rw [if_neg b0] at a4
 refine Y0 (bO b0 (by exact d2)) (Z3 ?_)
 refine V4 8 (R9 [(16, MP.eq (vI a3)), (17, MP.eq (Value.pointer (some ⟨b4, 0 + (a3).toNat * 1, none⟩))), (18, MP.eq (vI (Y5 a1 a3))), (19, MP.eq (vI a3)), (20, MP.eq (Value.pointer (some ⟨b1, 0 + (a3).toNat * 1, none⟩))), (21, MP.eq (vI (Y5 a0 a3))), (22, MP.eq (vI (IntKind.i64.wrap ((Y5 a1 a3) - (Y5 a0 a3))))), (4, MP.eq (vI (IntKind.i64.wrap ((Y5 a1 a3) - (Y5 a0 a3)))))]) [] mixed rfl rfl rfl hS (Z5 rfl ?_ (Z5 rfl ?_ (Z5 rfl ?_ (Z5 rfl ?_ (Z5 rfl ?_ (Z5 rfl ?_ (Z5 rfl ?_ (Z5 rfl ?_ V9)))))))) ?_
 intro n8 n9 o0 o1 i1 hS e4 i2 hcq
 refine Z4 (vI a3) (evT (e4 5 rfl) d1) rfl ?_
 exact qn (.refl _) rfl hS rfl
 intro o2 o3 o4 o5 i3 hS b7 b8 hcq
 refine W8 Zg4 (evT (b7 3 rfl) d0) (eM (b8 0 16 rfl rfl)) (by omega) (by omega) rfl ?_
 exact qn (.refl _) rfl hS rfl
 intro i4 i5 i6 i7 f4 hS f5 b9 hcq
 refine Y4 (vI (Y5 a1 a3)) ty3 (eM (b9 1 17 rfl rfl)) (hS.get (o := cA (Z7 .i64 a1) 188) (mR mL)) (M3 ([]) ([]) (by omega) (by omega)) rfl ?_
 exact qn (.refl _) rfl hS rfl
 intro i8 i9 j0 j1 f6 hS c0 f7 hcq
 refine Z4 (vI a3) (evT (c0 5 rfl) d1) rfl ?_
 exact qn (.refl _) rfl hS rfl
 intro j2 j3 j4 j5 f9 hS c1 c2 hcq
 refine W8 Zg4 (evT (c1 2 rfl) c9) (eM (c2 3 19 rfl rfl)) (by omega) (by omega) rfl ?_
 exact qn (.refl _) rfl hS rfl
 intro j6 j7 j8 j9 g0 hS g1 c3 hcq
 refine Y4 (vI (Y5 a0 a3)) ty3 (eM (c3 4 20 rfl rfl)) (hS.get (o := cA (Z7 .i64 a0) 188) (mR (mR mL))) (M3 ([]) ([]) (by omega) (by omega)) rfl ?_
 exact qn (.refl _) rfl hS rfl
 intro k0 k1 k2 k3 g2 hS g3 b3 hcq
 refine Zu4 (IntKind.i64.wrap ((Y5 a1 a3) - (Y5 a0 a3))) (eM (b3 2 18 rfl rfl)) (eM (b3 5 21 rfl rfl)) rfl rfl ?_
 exact qn (.refl _) rfl hS rfl
 intro k4 k5 k6 k7 g4 hS g5 c4 hcq
 refine Z6 (vI (IntKind.i64.wrap ((Y5 a1 a3) - (Y5 a0 a3)))) (eM (c4 6 22 rfl rfl)) rfl ?_
 exact qn (.refl _) rfl hS rfl
 intro k8 e5 e6 c5 hS g6 c6 hcq
 have hS : St e6 e5 ([(b4, cA (Z7 .i64 a1) 188)] ++ ([(b1, cA (Z7 .i64 a0) 188)] ++ L)) := hS
 have Z2 := Z2.trans c5
 refine Z0 ?_
 refine Y9 (vs := [vI (IntKind.i64.wrap ((Y5 a1 a3) - (Y5 a0 a3)))]) Tryz.func221 ⟨(by exact (eM (c6 7 4 (by decide) rfl))), trivial⟩ ?_
 have hz := Option.some.inj a4
 subst hz
 dsimp only [Ex.elim] at a8
 have hz := Option.some.inj a8
 subst hz
 exact ⟨_, _, rfl, Z2, (St.dropA (St.dropA hS)), rfl⟩
 rw [if_neg b2] at a4
 refine Z9 (bF b2 rfl) ?_
 refine W4 rfl ?_
 have hz := Option.some.inj a4
 subst hz
 exact e8 _ _ ⟨d3, rfl, Z2, hS⟩
 exact ⟨0, H, a4, Z2, hS, (by omega), rfl, rfl, rfl⟩
 rintro k9 l0 ⟨l1, rfl, Z2, hS⟩
 dsimp only [Ex.elim] at a8
 refine Z3 (Z1 (Z6 (vI 0) rfl rfl (Z0 ?_)))
 refine Y9 (vs := [vI 0]) Tryz.func221 ⟨rfl, trivial⟩ ?_
 have hz := Option.some.inj a8
 subst hz
 exact ⟨_, _, rfl, Z2, (St.dropA (St.dropA hS)), rfl⟩
def M6 (K : Nat) (a0 : (List Int)) (a1 : (List Int)) : Nat → Int → Option (Ex Bool (Unit))
 | 0, _ => none
 | k + 1, a3 => (if a3 < (a0.length : Int) then (if a3 < (a1.length : Int) then (if (rd a0 a3) = (rd a1 a3) then M6 K a0 a1 k (a3 + 1) else some (.ret false)) else none) else some (.go ()))
def Zn2 (K : Nat) (a0 : (List Int)) (a1 : (List Int)) : Option Bool := (if (a0.length : Int) = (a1.length : Int) then ((M6 K a0 a1 K 0).bind (Ex.elim (fun r => some r) (fun s => some true))) else some false)
theorem Ym9 {K : Nat} {a0 : (List Int)} {a1 : (List Int)} {r : Bool} (q0 : Zn2 K a0 a1 = some r) {H : FH} {w : World} {L : OL} {s0 : Value} {s1 : Value} (a6 : Y3 (X3 .i64) H s0 a0) (a8 : Y3 (X3 .i64) H s1 a1) (hS : St H w L) :
 Calls Tryz.prog 24 #[s0, s1] w (T6 (fun v G => R.bool.p G v r) H L) := by
 have Z2 := Sub.refl H
 refine X0 Tryz.func24 rfl Tryz.ntmps24 rfl ?_
 unfold Zn2 at q0
 refine Z3 (Z1 (Z6 (Value.bool false) rfl rfl (Z0 (Z3 (Z3 (Z1 (Z4 (s0) rfl rfl ?_)))))))
 have h2 := a6.bound
 refine W6 Q9 rfl a6 rfl (Z4 (s1) rfl rfl ?_)
 have h3 := a8.bound
 refine W6 Q9 rfl a8 rfl ?_
 refine L9 (k := .i64) (a := (a0.length : Int)) (b := (a1.length : Int)) rfl rfl rfl (Z0 ?_)
 by_cases b6 : (a0.length : Int) = (a1.length : Int)
 rw [if_pos b6] at q0
 refine Z9 (bN b6 rfl) (Y6 (Z3 (Z3 (Z1 (Z6 (vI 0) rfl rfl (Z0 (Y7 ?_)))))))
 obtain ⟨b8, a4, b1⟩ := bind_some q0
 refine W7 (id := 0) (fun k f w => ∃ (a3 : Int) (H1 : FH), M6 K a0 a1 k a3 = some b8 ∧ Sub H H1 ∧ St H1 w (L) ∧ 0 ≤ a3 ∧ Y3 (X3 .i64) H1 s0 a0 ∧ Y3 (X3 .i64) H1 s1 a1 ∧ ev f (.tmp 0) = s0 ∧ ev f (.tmp 1) = s1 ∧ ev f (.tmp 5) = vI a3) (fun f w => ∃ (H1 : FH), b8 = .go () ∧ Sub H H1 ∧ St H1 w (L)) rfl ?_ ?_ K ?_ ?_
 rintro f w ⟨a3, H1, a4, _⟩
 rw [M6] at a4; cases a4
 rintro k e7 e8 e0 e1 ⟨a3, c5, a4, Z2, hS, e2, a6, a8, a7, b0, a5⟩
 rw [M6] at a4
 refine Z3 (Z3 (Z1 (Z4 (vI a3) (by exact a5) rfl (Z4 (s0) (by exact a7) rfl ?_))))
 have h4 := a6.bound
 refine W6 Q9 rfl a6 rfl ?_
 refine U5 (k := .i64) (a := a3) (b := (a0.length : Int)) rfl rfl rfl (Z0 ?_)
 by_cases b7 : a3 < (a0.length : Int)
 rw [if_pos b7] at a4
 refine Y0 (bT b7 rfl) (Y6 (Z3 (Y7 (Z3 ?_))))
 obtain ⟨e3, e4, e9, h5, _, c6, b4, rfl, c7⟩ := a6.elem (i := a3) (by omega) (by omega)
 obtain ⟨f0, a4⟩ := gd a4
 obtain ⟨e5, e6, f1, h6, _, c8, b5, rfl, c9⟩ := a8.elem (i := a3) (by omega) (by omega)
 refine V4 9 (R9 [(17, MP.eq (s0)), (18, MP.eq (vI a3)), (19, MP.eq (Value.pointer (some ⟨e3, e4, none⟩))), (20, MP.eq (vI (rd a0 a3))), (21, MP.eq (s1)), (22, MP.eq (vI a3)), (23, MP.eq (Value.pointer (some ⟨e5, e6, none⟩))), (24, MP.eq (vI (rd a1 a3))), (25, MP.eq (Value.bool (!decide ((rd a0 a3) = (rd a1 a3)))))]) [] mixed rfl rfl rfl hS (Z5 rfl ?_ (Z5 rfl ?_ (Z5 rfl ?_ (Z5 rfl ?_ (Z5 rfl ?_ (Z5 rfl ?_ (Z5 rfl ?_ (Z5 rfl ?_ (Z5 rfl ?_ V9))))))))) ?_
 intro f6 w7 H8 X9 f2 hS d0 f3 hcq
 refine Z4 (s0) (evT (d0 0 rfl) a7) rfl ?_
 exact qn (.refl _) rfl hS rfl
 intro h7 h8 h9 i0 f4 hS d1 f5 hcq
 refine Z4 (vI a3) (evT (d1 5 rfl) a5) rfl ?_
 exact qn (.refl _) rfl hS rfl
 intro i1 i2 i3 i4 f7 hS f8 b9 hcq
 refine W3 Q9 rfl (eM (b9 0 17 rfl rfl)) c6 (eM (b9 1 18 rfl rfl)) (by omega) (by omega) rfl ?_
 exact qn (.refl _) rfl hS rfl
 intro i5 i6 i7 i8 d2 hS f9 d3 hcq
 have b4 := d2.1 _ _ b4
 refine Y4 (vI (rd a0 a3)) ty2 (eM (d3 2 19 rfl rfl)) (hS.froz _ _ b4) (c7 0 (show 0 < 1 by decide)) rfl ?_
 exact qn (.refl _) rfl hS rfl
 intro i9 j0 j1 j2 g0 hS d4 g1 hcq
 refine Z4 (s1) (evT (d4 1 rfl) b0) rfl ?_
 exact qn (.refl _) rfl hS rfl
 intro j3 j4 j5 j6 g2 hS d5 g3 hcq
 refine Z4 (vI a3) (evT (d5 5 rfl) a5) rfl ?_
 exact qn (.refl _) rfl hS rfl
 intro j7 j8 j9 k0 g4 hS g5 c0 hcq
 refine W3 Q9 rfl (eM (c0 4 21 rfl rfl)) c8 (eM (c0 5 22 rfl rfl)) (by omega) (by omega) rfl ?_
 exact qn (.refl _) rfl hS rfl
 intro k1 k2 k3 k4 d6 hS g6 d7 hcq
 have b5 := d6.1 _ _ b5
 refine Y4 (vI (rd a1 a3)) ty2 (eM (d7 6 23 rfl rfl)) (hS.froz _ _ b5) (c9 0 (show 0 < 1 by decide)) rfl ?_
 exact qn (.refl _) rfl hS rfl
 intro k5 k6 k7 k8 g7 hS g8 c1 hcq
 refine L9 (k := .i64) (a := (rd a0 a3)) (b := (rd a1 a3)) (eM (c1 3 20 rfl rfl)) (eM (c1 7 24 rfl rfl)) rfl ?_
 exact qn (.refl _) rfl hS rfl
 intro d8 d9 c2 b2 hS b3 c4 hcq
 have hS : St c2 d9 (L) := hS
 have Z2 := Z2.trans b2
 have a6 := a6.mono b2
 have a8 := a8.mono b2
 have c3 : ev d8 (.tmp 25) = Value.bool (!decide ((rd a0 a3) = (rd a1 a3))) := c4 8 25 (by decide) rfl
 refine Z0 ?_
 by_cases a9 : (rd a0 a3) = (rd a1 a3)
 rw [if_pos a9] at a4
 refine Z9 (bN a9 (by exact c3)) (Y6 (X2 (Z1 (Z4 (vI a3) (by exact (evT (b3 5 rfl) a5)) rfl ?_))))
 refine V0 (a3 + 1) rfl rfl (IntWalk.i64_in _ (by omega)) rfl (Z6 (vI (a3 + 1)) rfl rfl (Z0 ?_))
 exact e0 _ _ ⟨(a3 + 1), c2, a4, Z2, hS, (by omega), a6, a8, (evT (b3 0 rfl) a7), (evT (b3 1 rfl) b0), rfl⟩
 rw [if_neg a9] at a4
 refine Y0 (bO a9 (by exact c3)) (Z3 (Z1 (Z6 (Value.bool false) rfl rfl (Z0 ?_))))
 refine Y9 (vs := [Value.bool false]) Tryz.func24 ⟨rfl, trivial⟩ ?_
 have hz := Option.some.inj a4
 subst hz
 dsimp only [Ex.elim] at b1
 have hz := Option.some.inj b1
 subst hz
 exact ⟨_, _, rfl, Z2, hS, rfl⟩
 rw [if_neg b7] at a4
 refine Z9 (bF b7 rfl) ?_
 refine W4 rfl ?_
 have hz := Option.some.inj a4
 subst hz
 exact e1 _ _ ⟨c5, rfl, Z2, hS⟩
 exact ⟨0, H, a4, Z2, hS, (by omega), a6, a8, rfl, rfl, rfl⟩
 rintro g9 h0 ⟨h1, rfl, Z2, hS⟩
 dsimp only [Ex.elim] at b1
 refine Z3 (Z1 (Z6 (Value.bool true) rfl rfl (Z0 ?_)))
 refine Y9 (vs := [Value.bool true]) Tryz.func24 ⟨rfl, trivial⟩ ?_
 have hz := Option.some.inj b1
 subst hz
 exact ⟨_, _, rfl, Z2, hS, rfl⟩
 rw [if_neg b6] at q0
 refine Y0 (bO b6 rfl) (Z3 (Z1 (Z6 (Value.bool false) rfl rfl (Z0 ?_))))
 refine Y9 (vs := [Value.bool false]) Tryz.func24 ⟨rfl, trivial⟩ ?_
 have hz := Option.some.inj q0
 subst hz
 exact ⟨_, _, rfl, Z2, hS, rfl⟩
def N4 (K : Nat) (a0 : A8) (a1 : A8) : Nat → Int → Option (Ex Bool (Unit))
 | 0, _ => none
 | k + 1, a3 => (if a3 < 8 then (if (Y5 a0 a3) = (Y5 a1 a3) then N4 K a0 a1 k (a3 + 1) else some (.ret false)) else some (.go ()))
def Zi2 (K : Nat) (a0 : A8) (a1 : A8) : Option Bool := ((N4 K a0 a1 K 0).bind (Ex.elim (fun r => some r) (fun s => some true)))
theorem Yi6 {K : Nat} {a0 : A8} {a1 : A8} {r : Bool} (q0 : Zi2 K a0 a1 = some r) {H : FH} {w : World} {L : OL} (hS : St H w L) :
 Calls Tryz.prog 268 #[vA (Z7 .u8 a0), vA (Z7 .u8 a1)] w (T6 (fun v G => R.bool.p G v r) H L) := by
 have Z2 := Sub.refl H
 refine X0 Tryz.func268 rfl Tryz.ntmps268 rfl ?_
 unfold Zi2 at q0
 refine Z3 (Z1 ?_)
 refine T7 (v := vA (Z7 .u8 a0)) (Z7 .u8 a0).toArray rfl rfl hS rfl ?_
 intro b1 w2 hS
 refine T7 (v := vA (Z7 .u8 a1)) (Z7 .u8 a1).toArray rfl rfl hS rfl ?_
 intro b4 w5 hS
 refine Z6 (Value.bool false) rfl rfl (Z0 (Z3 (Z3 (Z1 (Z6 (vI 0) rfl rfl (Z0 (Y7 ?_)))))))
 obtain ⟨b3, a4, a8⟩ := bind_some q0
 refine W7 (id := 0) (fun k f w => ∃ (a3 : Int) (H1 : FH), N4 K a0 a1 k a3 = some b3 ∧ Sub H H1 ∧ St H1 w ([(b4, cA (Z7 .u8 a1) 70)] ++ ([(b1, cA (Z7 .u8 a0) 70)] ++ L)) ∧ 0 ≤ a3 ∧ ev f (.tmp 2) = vP b1 ∧ ev f (.tmp 3) = vP b4 ∧ ev f (.tmp 5) = vI a3) (fun f w => ∃ (H1 : FH), b3 = .go () ∧ Sub H H1 ∧ St H1 w ([(b4, cA (Z7 .u8 a1) 70)] ++ ([(b1, cA (Z7 .u8 a0) 70)] ++ L))) rfl ?_ ?_ K ?_ ?_
 rintro f w ⟨a3, H1, a4, _⟩
 rw [N4] at a4; cases a4
 rintro k d4 d5 c9 d0 ⟨a3, b8, a4, Z2, hS, d1, a6, a7, a5⟩
 rw [N4] at a4
 refine Z3 (Z3 (Z1 (Z4 (vI a3) (by exact a5) rfl ?_)))
 refine U5 (k := .i64) (a := a3) (b := 8) rfl rfl rfl (Z0 ?_)
 by_cases b2 : a3 < 8
 rw [if_pos b2] at a4
 refine Y0 (bT b2 rfl) (Y6 (Z3 (Y7 (Z3 ?_))))
 refine V4 7 (R9 [(10, MP.eq (vI a3)), (11, MP.eq (Value.pointer (some ⟨b1, 0 + (a3).toNat * 1, none⟩))), (12, MP.eq (Value.int .u8 (Y5 a0 a3))), (13, MP.eq (vI a3)), (14, MP.eq (Value.pointer (some ⟨b4, 0 + (a3).toNat * 1, none⟩))), (15, MP.eq (Value.int .u8 (Y5 a1 a3))), (16, MP.eq (Value.bool (!decide ((Y5 a0 a3) = (Y5 a1 a3)))))]) [] mixed rfl rfl rfl hS (Z5 rfl ?_ (Z5 rfl ?_ (Z5 rfl ?_ (Z5 rfl ?_ (Z5 rfl ?_ (Z5 rfl ?_ (Z5 rfl ?_ V9))))))) ?_
 intro f8 w9 f1 f2 d6 hS b9 d7 hcq
 refine Z4 (vI a3) (evT (b9 5 rfl) a5) rfl ?_
 exact qn (.refl _) rfl hS rfl
 intro f3 f4 f5 f6 d8 hS c0 c1 hcq
 refine W8 Za7 (evT (c0 2 rfl) a6) (eM (c1 0 10 rfl rfl)) (by omega) (by omega) rfl ?_
 exact qn (.refl _) rfl hS rfl
 intro f7 f9 g0 g1 d9 hS e0 c2 hcq
 refine Y4 (Value.int .u8 (Y5 a0 a3)) ty5 (eM (c2 1 11 rfl rfl)) (hS.get (o := cA (Z7 .u8 a0) 70) (mR (mR mL))) (M3 ([]) ([]) (by omega) (by omega)) rfl ?_
 exact qn (.refl _) rfl hS rfl
 intro g2 g3 g4 g5 e1 hS c3 e2 hcq
 refine Z4 (vI a3) (evT (c3 5 rfl) a5) rfl ?_
 exact qn (.refl _) rfl hS rfl
 intro g6 g7 g8 g9 e3 hS c4 c5 hcq
 refine W8 Za7 (evT (c4 3 rfl) a7) (eM (c5 3 13 rfl rfl)) (by omega) (by omega) rfl ?_
 exact qn (.refl _) rfl hS rfl
 intro h0 h1 h2 h3 e4 hS e5 c6 hcq
 refine Y4 (Value.int .u8 (Y5 a1 a3)) ty5 (eM (c6 4 14 rfl rfl)) (hS.get (o := cA (Z7 .u8 a1) 70) (mR mL)) (M3 ([]) ([]) (by omega) (by omega)) rfl ?_
 exact qn (.refl _) rfl hS rfl
 intro h4 h5 h6 h7 e6 hS e7 b5 hcq
 refine L9 (k := .u8) (a := (Y5 a0 a3)) (b := (Y5 a1 a3)) (eM (b5 2 12 rfl rfl)) (eM (b5 5 15 rfl rfl)) rfl ?_
 exact qn (.refl _) rfl hS rfl
 intro d2 d3 b6 c7 hS b0 c8 hcq
 have hS : St b6 d3 ([(b4, cA (Z7 .u8 a1) 70)] ++ ([(b1, cA (Z7 .u8 a0) 70)] ++ L)) := hS
 have Z2 := Z2.trans c7
 have b7 : ev d2 (.tmp 16) = Value.bool (!decide ((Y5 a0 a3) = (Y5 a1 a3))) := c8 6 16 (by decide) rfl
 refine Z0 ?_
 by_cases a9 : (Y5 a0 a3) = (Y5 a1 a3)
 rw [if_pos a9] at a4
 refine Z9 (bN a9 (by exact b7)) (Y6 (X2 (Z1 (Z4 (vI a3) (by exact (evT (b0 5 rfl) a5)) rfl ?_))))
 refine V0 (a3 + 1) rfl rfl (IntWalk.i64_in _ (by omega)) rfl (Z6 (vI (a3 + 1)) rfl rfl (Z0 ?_))
 exact c9 _ _ ⟨(a3 + 1), b6, a4, Z2, hS, (by omega), (evT (b0 2 rfl) a6), (evT (b0 3 rfl) a7), rfl⟩
 rw [if_neg a9] at a4
 refine Y0 (bO a9 (by exact b7)) (Z3 (Z1 (Z6 (Value.bool false) rfl rfl (Z0 ?_))))
 refine Y9 (vs := [Value.bool false]) Tryz.func268 ⟨rfl, trivial⟩ ?_
 have hz := Option.some.inj a4
 subst hz
 dsimp only [Ex.elim] at a8
 have hz := Option.some.inj a8
 subst hz
 exact ⟨_, _, rfl, Z2, (St.dropA (St.dropA hS)), rfl⟩
 rw [if_neg b2] at a4
 refine Z9 (bF b2 rfl) ?_
 refine W4 rfl ?_
 have hz := Option.some.inj a4
 subst hz
 exact d0 _ _ ⟨b8, rfl, Z2, hS⟩
 exact ⟨0, H, a4, Z2, hS, (by omega), rfl, rfl, rfl⟩
 rintro e8 e9 ⟨f0, rfl, Z2, hS⟩
 dsimp only [Ex.elim] at a8
 refine Z3 (Z1 (Z6 (Value.bool true) rfl rfl (Z0 ?_)))
 refine Y9 (vs := [Value.bool true]) Tryz.func268 ⟨rfl, trivial⟩ ?_
 have hz := Option.some.inj a8
 subst hz
 exact ⟨_, _, rfl, Z2, (St.dropA (St.dropA hS)), rfl⟩
def M7 (K : Nat) (a0 : A8) (a1 : (List Int)) : Nat → Int → Int → Option (Ex Int (Int))
 | 0, _, _ => none
 | k + 1, a4, a3 => (if a3 < (a1.length : Int) then (if a3 < 8 then M7 K a0 a1 k (IntKind.i64.wrap (a4 + (IntKind.i64.wrap ((rd a1 a3) * (Y5 a0 a3))))) (a3 + 1) else none) else some (.go a4))
def Zf6 (K : Nat) (a0 : A8) (a1 : (List Int)) : Option Int := ((M7 K a0 a1 K 0 0).bind (Ex.elim (fun r => some r) (fun s => (fun (a7 : Int) => some a7) s)))
theorem Yf5 {K : Nat} {a0 : A8} {a1 : (List Int)} {r : Int} (q0 : Zf6 K a0 a1 = some r) {H : FH} {w : World} {L : OL} {s0 : Value} (a8 : Y3 (X3 .i64) H s0 a1) (hS : St H w L) :
 Calls Tryz.prog 223 #[vA (Z7 .i64 a0), s0] w (T6 (fun v G => (R.int .i64).p G v r) H L) := by
 have Z2 := Sub.refl H
 refine X0 Tryz.func223 rfl Tryz.ntmps223 rfl ?_
 unfold Zf6 at q0
 refine Z3 (Z1 ?_)
 refine T7 (v := vA (Z7 .i64 a0)) (Z7 .i64 a0).toArray rfl rfl hS rfl ?_
 intro b1 w2 hS
 refine Z6 (vI 0) rfl rfl (Z0 (Z3 (Z1 (Z6 (vI 0) rfl rfl (Z0 (Z3 (Z3 (Z1 (Z4 (s0) rfl rfl ?_)))))))))
 have d1 := a8.bound
 refine W6 Q9 rfl a8 rfl (Z4 (vI 0) rfl rfl (Z0 (Y7 ?_)))
 obtain ⟨b7, a5, b8⟩ := bind_some q0
 refine W7 (id := 0) (fun k f w => ∃ (a4 : Int) (a3 : Int) (H1 : FH), M7 K a0 a1 k a4 a3 = some b7 ∧ Sub H H1 ∧ St H1 w ([(b1, cA (Z7 .i64 a0) 188)] ++ L) ∧ 0 ≤ a3 ∧ Y3 (X3 .i64) H1 s0 a1 ∧ ev f (.tmp 2) = vP b1 ∧ ev f (.tmp 5) = vI a4 ∧ ev f (.tmp 8) = s0 ∧ ev f (.tmp 9) = vI (a1.length : Int) ∧ ev f (.tmp 10) = vI a3) (fun f w => ∃ (a7 : Int) (H1 : FH), b7 = .go a7 ∧ Sub H H1 ∧ St H1 w ([(b1, cA (Z7 .i64 a0) 188)] ++ L) ∧ ev f (.tmp 5) = vI a7) rfl ?_ ?_ K ?_ ?_
 rintro f w ⟨a4, a3, H1, a5, _⟩
 rw [M7] at a5; cases a5
 rintro k c6 c7 c1 c2 ⟨a4, a3, b9, a5, Z2, hS, c0, a8, a9, b0, b2, b3, a6⟩
 rw [M7] at a5
 refine Z3 (Z1 ?_)
 refine U5 (k := .i64) (a := a3) (b := (a1.length : Int)) (by exact a6) (by exact b3) rfl (Z0 (Z3 ?_))
 by_cases b4 : a3 < (a1.length : Int)
 rw [if_pos b4] at a5
 refine Y0 (bT b4 rfl) (Y6 (Z3 (Y7 (Z3 (Z1 (Z4 (vI a3) (by exact a6) rfl ?_))))))
 obtain ⟨b6, o6, d2, E6, _, c3, c4, rfl, c5⟩ := a8.elem (i := a3) (by omega) (by omega)
 refine W3 Q9 rfl (by exact b2) c3 (by exact a6) (by omega) (by omega) rfl ?_
 refine Y4 (vI (rd a1 a3)) ty2 rfl (hS.froz _ _ c4) (c5 0 (show 0 < 1 by decide)) rfl (Z6 (vI a3) rfl rfl (Z6 (vI (rd a1 a3)) rfl rfl (Z0 (Z1 (Z4 (vI a4) (by exact b0) rfl (Z4 (vI (rd a1 a3)) rfl rfl (Z4 (vI a3) rfl rfl ?_)))))))
 obtain ⟨d3, a5⟩ := gd a5
 refine W8 Zg4 (by exact a9) rfl (by omega) (by omega) rfl ?_
 refine Y4 (vI (Y5 a0 a3)) ty3 rfl (hS.get (o := cA (Z7 .i64 a0) 188) mL) (M3 ([]) ([]) (by omega) (by omega)) rfl ?_
 refine Zt0 (IntKind.i64.wrap ((rd a1 a3) * (Y5 a0 a3))) rfl rfl rfl rfl ?_
 refine V0 (IntKind.i64.wrap (a4 + (IntKind.i64.wrap ((rd a1 a3) * (Y5 a0 a3))))) rfl rfl rfl rfl (Z6 (vI (IntKind.i64.wrap (a4 + (IntKind.i64.wrap ((rd a1 a3) * (Y5 a0 a3)))))) rfl rfl (Z0 (X2 (Z1 ?_))))
 refine V0 (a3 + 1) (by exact a6) rfl (IntWalk.i64_in _ (by omega)) rfl (Z4 (vI (a3 + 1)) rfl rfl (Z0 ?_))
 exact c1 _ _ ⟨(IntKind.i64.wrap (a4 + (IntKind.i64.wrap ((rd a1 a3) * (Y5 a0 a3))))), (a3 + 1), b9, a5, Z2, hS, (by omega), a8, a9, rfl, b2, b3, rfl⟩
 rw [if_neg b4] at a5
 refine Z9 (bF b4 rfl) ?_
 refine W4 rfl ?_
 have hz := Option.some.inj a5
 subst hz
 exact c2 _ _ ⟨a4, b9, rfl, Z2, hS, b0⟩
 exact ⟨0, 0, H, a5, Z2, hS, (by omega), a8, rfl, rfl, rfl, rfl, rfl⟩
 rintro c8 c9 ⟨a7, d0, rfl, Z2, hS, b5⟩
 dsimp only [Ex.elim] at b8
 refine Z3 (Z1 (Z4 (vI a7) (by exact b5) rfl (Z6 (vI a7) rfl rfl (Z0 ?_))))
 refine Y9 (vs := [vI a7]) Tryz.func223 ⟨rfl, trivial⟩ ?_
 have hz := Option.some.inj b8
 subst hz
 exact ⟨_, _, rfl, Z2, (St.dropA hS), rfl⟩
def U6 (K : Nat) (a0 : (List Int)) (a1 : (Int → Option Bool)) : Nat → Int → Option (Ex Int (Unit))
 | 0, _ => none
 | k + 1, a3 => (if a3 < (a0.length : Int) then ((a1 (rd a0 a3)).bind fun r4 => (if r4 = true then some (.ret a3) else U6 K a0 a1 k (a3 + 1))) else some (.go ()))
def D8 (K : Nat) (a0 : (List Int)) (a1 : (Int → Option Bool)) : Option Int := ((U6 K a0 a1 K 0).bind (Ex.elim (fun r => some r) (fun s => some (-1))))
theorem Zu1 {K : Nat} {a0 : (List Int)} {a1 : (Int → Option Bool)} {r : Int} (q0 : D8 K a0 a1 = some r) {H : FH} {w : World} {L : OL} {s0 : Value} {s1 : Value} (a6 : Y3 (X3 .i64) H s0 a0) (a7 : FnQ Tryz.prog s1 (R.int .i64) a1 H) (hS : St H w L) :
 Calls Tryz.prog 263 #[s0, s1] w (T6 (fun v G => (R.int .i64).p G v r) H L) := by
 have Z2 := Sub.refl H
 refine X0 Tryz.func263 rfl Tryz.ntmps263 rfl ?_
 unfold D8 at q0
 refine Z3 (Z1 (Z6 (vI 0) rfl rfl (Z0 (Z3 (Z3 (Z1 (Z4 (s0) rfl rfl ?_)))))))
 have d0 := a6.bound
 refine W6 Q9 rfl a6 rfl (Z4 (vI 0) rfl rfl (Z0 (Y7 ?_)))
 obtain ⟨b5, a4, b1⟩ := bind_some q0
 refine W7 (id := 0) (fun k f w => ∃ (a3 : Int) (H1 : FH), U6 K a0 a1 k a3 = some b5 ∧ Sub H H1 ∧ St H1 w (L) ∧ 0 ≤ a3 ∧ Y3 (X3 .i64) H1 s0 a0 ∧ FnQ Tryz.prog s1 (R.int .i64) a1 H1 ∧ ev f (.tmp 0) = s0 ∧ ev f (.tmp 1) = s1 ∧ ev f (.tmp 7) = vI (a0.length : Int) ∧ ev f (.tmp 8) = vI a3) (fun f w => ∃ (H1 : FH), b5 = .go () ∧ Sub H H1 ∧ St H1 w (L)) rfl ?_ ?_ K ?_ ?_
 rintro f w ⟨a3, H1, a4, _⟩
 rw [U6] at a4; cases a4
 rintro k c5 c6 b8 b9 ⟨a3, b7, a4, Z2, hS, c0, a6, a7, a8, a9, b0, a5⟩
 rw [U6] at a4
 refine Z3 (Z1 ?_)
 refine U5 (k := .i64) (a := a3) (b := (a0.length : Int)) (by exact a5) (by exact b0) rfl (Z0 (Z3 ?_))
 by_cases b2 : a3 < (a0.length : Int)
 rw [if_pos b2] at a4
 refine Y0 (bT b2 rfl) (Y6 (Z3 (Y7 (Z3 (Z1 (Z4 (vI a3) (by exact a5) rfl (Z6 (vI a3) rfl rfl (Z0 (Z3 (Z1 (Z4 (s1) (by exact a9) rfl (Z4 (s0) (by exact a8) rfl (Z4 (vI a3) rfl rfl ?_)))))))))))))
 obtain ⟨b3, o3, d1, E3, _, c1, c2, rfl, c3⟩ := a6.elem (i := a3) (by omega) (by omega)
 refine W3 Q9 rfl rfl c1 rfl (by omega) (by omega) rfl ?_
 refine Y4 (vI (rd a0 a3)) ty2 rfl (hS.froz _ _ c2) (c3 0 (show 0 < 1 by decide)) rfl ?_
 obtain ⟨r4, c4, a4⟩ := bind_some a4
 refine Yy8 a7 rfl rfl hS rfl c4 rfl ?_
 intro H4 w5 b6 hS
 have Z2 := Z2.trans b6
 have a6 := a6.mono b6
 have a7 := a7.mono b6
 refine Z0 ?_
 by_cases b4 : r4 = true
 rw [if_pos b4] at a4
 refine Y0 (Eq.trans rfl (congrArg Value.bool b4)) (Z3 (Z1 (Z4 (vI a3) rfl rfl (Z6 (vI a3) rfl rfl (Z0 ?_)))))
 refine Y9 (vs := [vI a3]) Tryz.func263 ⟨rfl, trivial⟩ ?_
 have hz := Option.some.inj a4
 subst hz
 dsimp only [Ex.elim] at b1
 have hz := Option.some.inj b1
 subst hz
 exact ⟨_, _, rfl, Z2, hS, rfl⟩
 rw [if_neg b4] at a4
 refine Z9 (Eq.trans rfl (congrArg Value.bool (W2 b4))) (Y6 (X2 (Z1 ?_)))
 refine V0 (a3 + 1) (by exact a5) rfl (IntWalk.i64_in _ (by omega)) rfl (Z4 (vI (a3 + 1)) rfl rfl (Z0 ?_))
 exact b8 _ _ ⟨(a3 + 1), H4, a4, Z2, hS, (by omega), a6, a7, a8, a9, b0, rfl⟩
 rw [if_neg b2] at a4
 refine Z9 (bF b2 rfl) ?_
 refine W4 rfl ?_
 have hz := Option.some.inj a4
 subst hz
 exact b9 _ _ ⟨b7, rfl, Z2, hS⟩
 exact ⟨0, H, a4, Z2, hS, (by omega), a6, a7, rfl, rfl, rfl, rfl⟩
 rintro c7 c8 ⟨c9, rfl, Z2, hS⟩
 dsimp only [Ex.elim] at b1
 refine Z3 (Z1 (Z6 (vI (-1)) rfl rfl (Z0 ?_)))
 refine Y9 (vs := [vI (-1)]) Tryz.func263 ⟨rfl, trivial⟩ ?_
 have hz := Option.some.inj b1
 subst hz
 exact ⟨_, _, rfl, Z2, hS, rfl⟩
def Zr7 (K : Nat) (a0 : (List Int)) (a1 : Int) : Option Int := (if (IntKind.i64.wrap (a1 - (a0.length : Int))) < 0 then some (-1) else some (IntKind.i64.wrap (a1 - (a0.length : Int))))
theorem Yp1 {K : Nat} {a0 : (List Int)} {a1 : Int} {r : Int} (q0 : Zr7 K a0 a1 = some r) {H : FH} {w : World} {L : OL} {s0 : Value} (a4 : Y3 (X3 .i64) H s0 a0) (hS : St H w L) :
 Calls Tryz.prog 77 #[s0, vI a1] w (T6 (fun v G => (R.int .i64).p G v r) H L) := by
 have Z2 := Sub.refl H
 refine X0 Tryz.func77 rfl Tryz.ntmps77 rfl ?_
 unfold Zr7 at q0
 refine Z3 (Z1 (Z6 (vI 0) rfl rfl (Z0 (Z3 (Z1 (Z4 (vI a1) rfl rfl (Z4 (s0) rfl rfl ?_)))))))
 have a5 := a4.bound
 refine W6 Q9 rfl a4 rfl ?_
 refine Zu4 (IntKind.i64.wrap (a1 - (a0.length : Int))) rfl rfl rfl rfl (Z6 (vI (IntKind.i64.wrap (a1 - (a0.length : Int)))) rfl rfl (Z0 (Z3 (Z3 (Z1 (Z4 (vI (IntKind.i64.wrap (a1 - (a0.length : Int)))) rfl rfl ?_))))))
 refine U5 (k := .i64) (a := (IntKind.i64.wrap (a1 - (a0.length : Int)))) (b := 0) rfl rfl rfl (Z0 ?_)
 by_cases a3 : (IntKind.i64.wrap (a1 - (a0.length : Int))) < 0
 rw [if_pos a3] at q0
 refine Y0 (bT a3 rfl) (Z3 (Z1 (Z6 (vI (-1)) rfl rfl (Z0 ?_))))
 refine Y9 (vs := [vI (-1)]) Tryz.func77 ⟨rfl, trivial⟩ ?_
 have hz := Option.some.inj q0
 subst hz
 exact ⟨_, _, rfl, Z2, hS, rfl⟩
 rw [if_neg a3] at q0
 refine Z9 (bF a3 rfl) (Y6 (Z3 (Z1 (Z4 (vI (IntKind.i64.wrap (a1 - (a0.length : Int)))) rfl rfl (Z6 (vI (IntKind.i64.wrap (a1 - (a0.length : Int)))) rfl rfl (Z0 ?_))))))
 refine Y9 (vs := [vI (IntKind.i64.wrap (a1 - (a0.length : Int)))]) Tryz.func77 ⟨rfl, trivial⟩ ?_
 have hz := Option.some.inj q0
 subst hz
 exact ⟨_, _, rfl, Z2, hS, rfl⟩
def Zj6 (K : Nat) (a0 : Int) (a1 : Int) (a2 : Int) : Option Bool := (if a1 ≤ a0 then some (decide (a0 ≤ a2)) else some false)
theorem Zm7 {K : Nat} {a0 : Int} {a1 : Int} {a2 : Int} {r : Bool} (q0 : Zj6 K a0 a1 a2 = some r) {H : FH} {w : World} {L : OL} (hS : St H w L) :
 Calls Tryz.prog 93 #[vI a0, vI a1, vI a2] w (T6 (fun v G => R.bool.p G v r) H L) := by
 have Z2 := Sub.refl H
 refine X0 Tryz.func93 rfl Tryz.ntmps93 rfl ?_
 unfold Zj6 at q0
 refine Z3 (Z1 (Z6 (Value.bool false) rfl rfl (Z0 (Z3 (Z1 (Z4 (vI a0) rfl rfl (Z4 (vI a1) rfl rfl ?_)))))))
 refine Yb5 (k := .i64) (a := a0) (b := a1) rfl rfl rfl (Z4 (Value.bool (decide (a1 ≤ a0))) rfl rfl ?_)
 by_cases a3 : a1 ≤ a0
 rw [if_pos a3] at q0
 refine Y1 rfl rfl (bT a3 rfl) (Z4 (vI a0) rfl rfl ?_)
 refine Y1 rfl rfl (bT a3 rfl) (Z4 (vI a2) rfl rfl ?_)
 refine Y1 rfl rfl (bT a3 rfl) ?_
 refine Yp5 (k := .i64) (a := a0) (b := a2) rfl rfl rfl ?_
 refine V1 (t := true) (Value.bool (decide (a0 ≤ a2))) (bT a3 rfl) ((if_pos rfl).trans rfl) rfl (Z6 (Value.bool (decide (a0 ≤ a2))) rfl rfl (Z0 ?_))
 refine Y9 (vs := [Value.bool (decide (a0 ≤ a2))]) Tryz.func93 ⟨rfl, trivial⟩ ?_
 have hz := Option.some.inj q0
 subst hz
 exact ⟨_, _, rfl, Z2, hS, rfl⟩
 rw [if_neg a3] at q0
 refine Z8 rfl rfl (bF a3 rfl) rfl rfl rfl (Z8 rfl rfl (bF a3 rfl) rfl rfl rfl (Z8 rfl rfl (bF a3 rfl) rfl rfl rfl ?_))
 refine V1 (t := false) (Value.bool false) (bF a3 rfl) ((if_neg Bool.false_ne_true).trans rfl) rfl (Z6 (Value.bool false) rfl rfl (Z0 ?_))
 refine Y9 (vs := [Value.bool false]) Tryz.func93 ⟨rfl, trivial⟩ ?_
 have hz := Option.some.inj q0
 subst hz
 exact ⟨_, _, rfl, Z2, hS, rfl⟩
def Zh5 (K : Nat) : Option MpT := some (A9 ([] : MpT) (fun _ => 0) 1)
theorem Yd0 {K : Nat} {r : MpT} (q0 : Zh5 K = some r) {H : FH} {w : World} {L : OL} (hS : St H w L) :
 Calls Tryz.prog 207 #[] w (Yq8 .i64 r H L) := by
 have Z2 := Sub.refl H
 refine X0 Tryz.func207 rfl Tryz.ntmps207 rfl ?_
 unfold Zh5 at q0
 refine Z3 (Z1 (Z6 (Value.map none) rfl rfl (Z0 (Z3 (Z1 ?_)))))
 refine Zv6 (k := .i64) hS rfl ?_
 intro m1 w2 C3 a0 hS
 refine Q2 (vA (Z7 .i64 (fun _ => 0))) Yx1 rfl ?_
 refine Yi1 (a := (fun _ => 0)) (m := 1) Zm8 rfl rfl rfl a0 hS ?_
 intro w6 C7 a1 hS
 refine Z4 (m1) rfl rfl (Z6 (m1) rfl rfl (Z0 ?_))
 refine Y9 (vs := [m1]) Tryz.func207 ⟨rfl, trivial⟩ ?_
 have hz := Option.some.inj q0
 subst hz
 exact ⟨_, _, _, rfl, Z2, hS, a1⟩
end Go.Proofs.YtfodlhkoafhplaaGreat
