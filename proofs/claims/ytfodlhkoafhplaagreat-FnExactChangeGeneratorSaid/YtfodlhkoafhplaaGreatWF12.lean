/- Walks of functions: each computes its pure function, if that gives a value. -/
import Derived.Test.YtfodlhkoafhplaaGreatWTy
import Derived.Test.YtfodlhkoafhplaaGreatWF10
import Derived.Test.YtfodlhkoafhplaaGreatWF1
import Derived.Test.YtfodlhkoafhplaaGreatWF6
import Derived.Test.YtfodlhkoafhplaaGreatWF4
import Derived.Test.YtfodlhkoafhplaaGreatWX
import Derived.Test.YtfodlhkoafhplaaGreatWF9
import Derived.Test.YtfodlhkoafhplaaGreatWF7
import Derived.Test.YtfodlhkoafhplaaGreatWF8
namespace Go.Proofs.YtfodlhkoafhplaaGreat
open Go
set_option linter.unusedSimpArgs false
set_option linter.unusedVariables false
set_option maxRecDepth 100000
set_option maxHeartbeats 8000000
def F9 (K : Nat) (a5 : (List A8)) (a1 : Int) : Nat → Int → A8 → Option (Ex (MpT × Int) (A8))
 | 0, _, _ => none
 | k + 1, a3, b0 => (if a3 < 8 then (if 20 < (Y5 (rd a5 a1) a3) then some (.ret (([] : List (A8 × Int)), 3)) else F9 K a5 a1 k (a3 + 1) (T8 b0 a3 (IntKind.u8.wrap (Y5 (rd a5 a1) a3)))) else some (.go b0))
def F8 (K : Nat) (a0 : MpT) (a5 : (List A8)) : Nat → Int → MpT → Option (Ex (MpT × Int) (MpT))
 | 0, _, _ => none
 | k + 1, a1, a6 => (if a1 < (a5.length : Int) then ((F9 K a5 a1 K 0 (fun _ => 0)).bind (Ex.elim (fun r => some (.ret r)) (fun s => (fun (a8 : A8) => (if a6.length + ([(a8, (M5 a0 (rd a5 a1)))]).length ≤ 1099511627776 then F8 K a0 a5 k (a1 + 1) (a6 ++ [(a8, (M5 a0 (rd a5 a1)))]) else none)) s))) else some (.go a6))
def Zd9 (K : Nat) (a0 : MpT) : Option (MpT × Int) := (if 400 < (a0.length : Int) then some (([] : List (A8 × Int)), 3) else ((Zn8 K a0).bind fun a5 => ((F8 K a0 a5 K 0 ([] : List (A8 × Int))).bind (Ex.elim (fun r => some r) (fun s => (fun (b3 : MpT) => some (b3, 0)) s)))))
theorem Yl9 {K : Nat} {a0 : MpT} {r : (MpT × Int)} (q0 : Zd9 K a0 = some r) {H : FH} {w : World} {L : OL} {s0 : Value} (b7 : Q1 .i64 H s0 a0) (hS : St H w L) :
 Calls Tryz.prog 91 #[s0] w (T6 (fun v G => (R.t2 (R.agg (X6 yT)) (R.int .i64)).p (G.new H) v r) H L) := by
 have Z2 := Sub.refl H
 refine X0 Tryz.func91 rfl Tryz.ntmps91 rfl ?_
 unfold Zd9 at q0
 refine Z3 (Z1 ?_)
 refine W9 (z := vA ([vN])) ([vN]).toArray Zb2.zero rfl hS rfl ?_
 intro b1 w2 hS
 refine Z6 (vI 0) rfl rfl (Z0 (Z3 (Z3 (Z1 (Z4 (s0) rfl rfl ?_)))))
 refine Xt5 Zm8 rfl b7 hS rfl ?_
 refine Zc5 (k := .i64) (a := (a0.length : Int)) (b := 400) rfl rfl rfl (Z0 ?_)
 by_cases f4 : 400 < (a0.length : Int)
 rw [if_pos f4] at q0
 refine Y0 (bT f4 rfl) (Z3 (Z1 ?_))
 refine Q2 (vA ([vN])) Yc4 rfl ?_
 refine W1 (v := vA ([vN])) (vs := ([vN]).toArray) (cs := ([vN]).toArray) U7 rfl rfl rfl hS rfl (S2 rfl) rfl ?_
 intro w5 hS
 refine Z6 (vI 3) rfl rfl (Z0 ?_)
 refine Y9 (vs := [vA ([vN]), vI 3]) Tryz.func91 ⟨⟨_, rfl, U8 U7 (hS.get mL) rfl⟩, rfl, trivial⟩ ?_
 have hz := Option.some.inj q0
 subst hz
 exact ⟨_, _, rfl, Z2, (St.dropA hS), ⟨_, _, rfl, ⟨_, rfl, ⟨_, rfl, Y3.nil⟩⟩, rfl⟩⟩
 rw [if_neg f4] at q0
 refine Z9 (bF f4 rfl) (Y6 (Z3 (Z1 ?_)))
 refine Q2 (vA ([vN])) Yc4 rfl ?_
 refine W9 (z := vA ([vN])) ([vN]).toArray Zb2.zero rfl hS rfl ?_
 intro b6 w7 hS
 refine W1 (v := vA ([vN])) (vs := ([vN]).toArray) (cs := ([vN]).toArray) U7 rfl rfl rfl hS rfl (S2 rfl) rfl ?_
 intro w9 hS
 refine Z0 (Z3 (Z3 (Z1 (Z4 (s0) rfl rfl ?_))))
 obtain ⟨a5, h9, q0⟩ := bind_some q0
 refine Y8 Tryz.call177 (Q8 rfl) rfl (Yi3 h9 b7 hS) ?_
 rintro o4 o5 ⟨d5, h8, rfl, g2, hS, b4⟩
 refine ⟨_, rfl, ?_⟩
 have Z2 := Z2.trans g2
 have b7 := b7.mono g2
 have l5 := b4.bound
 refine W6 Xd9 rfl b4 rfl (Z4 (vI 0) rfl rfl (Z0 (Y7 ?_)))
 have g3 : U1 yT 76 h8 (.slice none 0 0) [] [] := U1.nil _ _ _
 obtain ⟨g4, b8, e4⟩ := bind_some q0
 refine W7 (id := 0) (fun k f w => ∃ (a1 : Int) (a6 : MpT) (H1 : FH) (a7 : OL) (a4 : Value), F8 K a0 a5 k a1 a6 = some g4 ∧ Sub H H1 ∧ St H1 w (a7 ++ ([(b6, cA ([a4]) 47)] ++ ([(b1, cA ([vN]) 47)] ++ L))) ∧ 0 ≤ a1 ∧ U1 yT 76 H1 a4 a6 a7 ∧ Q1 .i64 H1 s0 a0 ∧ Y3 (Zo6 .i64) H1 d5 a5 ∧ ev f (.tmp 0) = s0 ∧ ev f (.tmp 2) = vP b1 ∧ ev f (.tmp 4) = vP b6 ∧ ev f (.tmp 16) = d5 ∧ ev f (.tmp 17) = vI (a5.length : Int) ∧ ev f (.tmp 18) = vI a1) (fun f w => ∃ (b3 : MpT) (H1 : FH) (b9 : OL) (b2 : Value), g4 = .go b3 ∧ Sub H H1 ∧ St H1 w (b9 ++ ([(b6, cA ([b2]) 47)] ++ ([(b1, cA ([vN]) 47)] ++ L))) ∧ U1 yT 76 H1 b2 b3 b9 ∧ ev f (.tmp 2) = vP b1 ∧ ev f (.tmp 4) = vP b6) rfl ?_ ?_ K ?_ ?_
 rintro f w ⟨a1, a6, H1, a7, a4, b8, _⟩
 rw [F8] at b8; cases b8
 rintro k l6 l7 k2 k3 ⟨a1, a6, g5, a7, a4, b8, Z2, hS, k0, a9, b7, b4, f7, d6, d7, c9, d0, c4⟩
 rw [F8] at b8
 refine Z3 (Z1 ?_)
 refine U5 (k := .i64) (a := a1) (b := (a5.length : Int)) (by exact c4) (by exact d0) rfl (Z0 (Z3 ?_))
 by_cases e5 : a1 < (a5.length : Int)
 rw [if_pos e5] at b8
 refine Y0 (bT e5 rfl) (Y6 (Z3 (Y7 (Z3 (Z1 ?_)))))
 obtain ⟨o6, o7, l9, o8, _, i0, i1, rfl, i2⟩ := b4.elem (i := a1) (by omega) (by omega)
 refine W3 Xd9 rfl (by exact c9) i0 (by exact c4) (by omega) (by omega) rfl ?_
 refine V5 (Z7 .i64 (rd a5 a1)) N2 rfl (hS.froz _ _ i1) rfl i2 rfl ?_
 refine W9 (z := vA (Z7 .i64 (fun _ => 0))) (Z7 .i64 (fun _ => 0)).toArray Zl0.zero rfl hS rfl ?_
 intro e8 o9 hS
 refine W1 (v := vA (Z7 .i64 (rd a5 a1))) (vs := (Z7 .i64 (rd a5 a1)).toArray) (cs := (Z7 .i64 (fun _ => 0)).toArray) N2 rfl rfl rfl hS rfl (S8 .i64 (rd a5 a1)) rfl ?_
 intro p0 hS
 refine Z0 (Z3 (Z1 ?_))
 refine Q2 (vA (Z7 .u8 (fun _ => 0))) Yt1 rfl ?_
 refine W9 (z := vA (Z7 .u8 (fun _ => 0))) (Z7 .u8 (fun _ => 0)).toArray Ya8.zero rfl hS rfl ?_
 intro e9 p1 hS
 refine W1 (v := vA (Z7 .u8 (fun _ => 0))) (vs := (Z7 .u8 (fun _ => 0)).toArray) (cs := (Z7 .u8 (fun _ => 0)).toArray) N0 rfl rfl rfl hS rfl (S8 .u8 (fun _ => 0)) rfl ?_
 intro p2 hS
 refine Z0 (Z3 (Z3 (Z1 ?_)))
 refine X8 N2 rfl (hS.get (mR mL)) rfl rfl (Z4 (vI 0) rfl rfl (Z0 (Y7 ?_)))
 obtain ⟨g6, b5, c5⟩ := bind_some b8
 refine W7 (id := 2) (fun k f w => ∃ (a3 : Int) (b0 : A8) (H1 : FH), F9 K a5 a1 k a3 b0 = some g6 ∧ Sub H H1 ∧ St H1 w ([(e9, cA (Z7 .u8 b0) 70)] ++ ([(e8, cA (Z7 .i64 (rd a5 a1)) 188)] ++ (a7 ++ ([(b6, cA ([a4]) 47)] ++ ([(b1, cA ([vN]) 47)] ++ L))))) ∧ 0 ≤ a3 ∧ Q1 .i64 H1 s0 a0 ∧ Y3 (Zo6 .i64) H1 d5 a5 ∧ U1 yT 76 H1 a4 a6 a7 ∧ ev f (.tmp 0) = s0 ∧ ev f (.tmp 2) = vP b1 ∧ ev f (.tmp 4) = vP b6 ∧ ev f (.tmp 6) = vP e8 ∧ ev f (.tmp 7) = vP e9 ∧ ev f (.tmp 16) = d5 ∧ ev f (.tmp 17) = vI (a5.length : Int) ∧ ev f (.tmp 18) = vI a1 ∧ ev f (.tmp 23) = vA (Z7 .i64 (rd a5 a1)) ∧ ev f (.tmp 24) = vI a3) (fun f w => ∃ (a8 : A8) (H1 : FH), g6 = .go a8 ∧ Sub H H1 ∧ St H1 w ([(e9, cA (Z7 .u8 a8) 70)] ++ ([(e8, cA (Z7 .i64 (rd a5 a1)) 188)] ++ (a7 ++ ([(b6, cA ([a4]) 47)] ++ ([(b1, cA ([vN]) 47)] ++ L))))) ∧ Q1 .i64 H1 s0 a0 ∧ Y3 (Zo6 .i64) H1 d5 a5 ∧ U1 yT 76 H1 a4 a6 a7 ∧ ev f (.tmp 0) = s0 ∧ ev f (.tmp 2) = vP b1 ∧ ev f (.tmp 4) = vP b6 ∧ ev f (.tmp 6) = vP e8 ∧ ev f (.tmp 7) = vP e9 ∧ ev f (.tmp 16) = d5 ∧ ev f (.tmp 17) = vI (a5.length : Int) ∧ ev f (.tmp 18) = vI a1) rfl ?_ ?_ K ?_ ?_
 rintro f w ⟨a3, b0, H1, b5, _⟩
 rw [F9] at b5; cases b5
 rintro k m0 m1 k4 k5 ⟨a3, b0, g7, b5, Z2, hS, k1, b7, b4, a9, d8, c2, d9, e0, c6, d1, d2, d3, d4, c0⟩
 rw [F9] at b5
 refine Z3 (Z1 ?_)
 refine U5 (k := .i64) (a := a3) (b := 8) (by exact c0) rfl rfl (Z0 (Z3 ?_))
 by_cases e6 : a3 < 8
 rw [if_pos e6] at b5
 refine Y0 (bT e6 rfl) (Y6 (Z3 (Y7 (Z3 (Z1 (Z4 (vI a3) (by exact c0) rfl ?_))))))
 refine Ye6 (vI (Y5 (rd a5 a1) a3)) Zg4 (by exact d4) (by exact c0) (by omega) (by omega) (Yc7 (by omega) (by omega)) rfl (Z6 (vI a3) rfl rfl (Z6 (vI (Y5 (rd a5 a1) a3)) rfl rfl (Z0 (Z3 (Z3 (Z1 (Z4 (vI (Y5 (rd a5 a1) a3)) rfl rfl ?_)))))))
 refine Zc5 (k := .i64) (a := (Y5 (rd a5 a1) a3)) (b := 20) rfl rfl rfl (Z0 ?_)
 by_cases e7 : 20 < (Y5 (rd a5 a1) a3)
 rw [if_pos e7] at b5
 refine Y0 (bT e7 rfl) (Z3 (Z1 ?_))
 refine Q2 (vA ([vN])) Yc4 rfl ?_
 have hS := hS.perm Xo7
 refine W1 (v := vA ([vN])) (vs := ([vN]).toArray) (cs := ([vN]).toArray) U7 (by exact c2) rfl rfl hS rfl (S2 rfl) rfl ?_
 intro p3 hS
 have hS := hS.perm Xo7.symm
 refine Z6 (vI 3) rfl rfl (Z0 ?_)
 refine Y9 (vs := [vA ([vN]), vI 3]) Tryz.func91 ⟨⟨_, (by exact c2), U8 U7 (hS.get (mR (mR (mR (mR mL))))) rfl⟩, rfl, trivial⟩ ?_
 have hz := Option.some.inj b5
 subst hz
 dsimp only [Ex.elim] at c5
 have hz := Option.some.inj c5
 subst hz
 dsimp only [Ex.elim] at e4
 have hz := Option.some.inj e4
 subst hz
 exact ⟨_, _, rfl, Z2, (St.dropA (St.dropA (St.dropA (St.dropA (St.dropA hS))))), ⟨_, _, rfl, ⟨_, rfl, ⟨_, rfl, Y3.nil⟩⟩, rfl⟩⟩
 rw [if_neg e7] at b5
 refine Z9 (bF e7 rfl) (Y6 (Z1 (Z4 (vI a3) rfl rfl (Z4 (vI (Y5 (rd a5 a1) a3)) rfl rfl ?_))))
 refine Yg7 (s := .i64) ((IntKind.u8.wrap (Y5 (rd a5 a1) a3))) Xq5 rfl rfl rfl ?_
 refine W8 Za7 (by exact c6) rfl (by omega) (by omega) rfl ?_
 refine D0 (v := Value.int .u8 (IntKind.u8.wrap (Y5 (rd a5 a1) a3))) (cs := (Z7 .u8 b0).toArray) (cs' := (Z7 .u8 (T8 b0 a3 (IntKind.u8.wrap (Y5 (rd a5 a1) a3)))).toArray) ty5 rfl rfl hS rfl (Zu7 rfl) (by simp [Z7, U2]; omega) (Ze5 (by omega) (by omega)) ?_
 intro p4 hS
 refine Z0 (X2 (Z1 ?_))
 refine V0 (a3 + 1) (by exact c0) rfl (IntWalk.i64_in _ (by omega)) rfl (Z4 (vI (a3 + 1)) rfl rfl (Z0 ?_))
 exact k4 _ _ ⟨(a3 + 1), (T8 b0 a3 (IntKind.u8.wrap (Y5 (rd a5 a1) a3))), g7, b5, Z2, hS, (by omega), b7, b4, a9, d8, c2, d9, e0, c6, d1, d2, d3, d4, rfl⟩
 rw [if_neg e6] at b5
 refine Z9 (bF e6 rfl) ?_
 refine W4 rfl ?_
 have hz := Option.some.inj b5
 subst hz
 exact k5 _ _ ⟨b0, g7, rfl, Z2, hS, b7, b4, a9, d8, c2, d9, e0, c6, d1, d2, d3⟩
 exact ⟨0, (fun _ => 0), g5, b5, Z2, hS, (by omega), b7, b4, a9, f7, d6, d7, rfl, rfl, c9, d0, c4, rfl, rfl⟩
 rintro m2 m3 ⟨a8, m4, rfl, Z2, hS, b7, b4, a9, e1, f8, e2, f9, g0, f0, f1, f2⟩
 dsimp only [Ex.elim] at c5
 have X5 := Z2
 refine V4 8 (R9 [(36, MP.eq (vP b6)), (37, MP.eq (a4)), (38, MP.eq (vA (Z7 .u8 a8))), (39, MP.eq (s0)), (40, MP.eq (vA (Z7 .i64 (rd a5 a1)))), (41, MP.eq (vI (M5 a0 (rd a5 a1)))), (42, MP.eq (vA (Z7 .u8 a8 ++ [vI (M5 a0 (rd a5 a1))]))), (43, MP.sl yT ([(a8, (M5 a0 (rd a5 a1)))]))]) [] mixed rfl rfl rfl hS (Z5 rfl ?_ (Z5 rfl ?_ (Z5 rfl ?_ (Z5 rfl ?_ (Z5 rfl ?_ (Z5 rfl ?_ (Z5 rfl ?_ (Z5 rfl ?_ V9)))))))) ?_
 intro p5 p6 k6 p7 i3 hS i4 m5 hcq
 have Z2 := Sub.refl k6
 have W0 := X5.trans i3
 refine Y2 V6 (evT (i4 4 rfl) e2) rfl ?_
 exact Z0 ⟨36, _, _, rfl, rfl, Z2, hS, rfl⟩
 intro p8 p9 k7 q1 i5 hS m6 i6 hcq
 have Z2 := Sub.refl k7
 have W0 := X5.trans i5
 refine Y4 (a4) R7 (eM (i6 0 36 rfl rfl)) (hS.get (mR (mR (mR (mR mL))))) rfl rfl ?_
 exact Z0 ⟨37, _, _, rfl, rfl, Z2, hS, rfl⟩
 intro q2 q3 k8 q4 i7 hS i8 m7 hcq
 have Z2 := Sub.refl k8
 have W0 := X5.trans i7
 refine X8 N0 (evT (i8 7 rfl) g0) (hS.get (mR mL)) rfl rfl ?_
 exact Z0 ⟨38, _, _, rfl, rfl, Z2, hS, rfl⟩
 intro q5 q6 k9 q7 i9 hS j0 m8 hcq
 have Z2 := Sub.refl k9
 have W0 := X5.trans i9
 refine Z4 (s0) (evT (j0 0 rfl) e1) rfl ?_
 exact Z0 ⟨39, _, _, rfl, rfl, Z2, hS, rfl⟩
 intro q8 q9 l0 r0 j1 hS j2 m9 hcq
 have Z2 := Sub.refl l0
 have W0 := X5.trans j1
 refine X8 N2 (evT (j2 6 rfl) f9) (hS.get (mR (mR mL))) rfl rfl ?_
 exact Z0 ⟨40, _, _, rfl, rfl, Z2, hS, rfl⟩
 intro r1 r2 l1 r3 g8 hS n0 g9 hcq
 have Z2 := Sub.refl l1
 have W0 := X5.trans g8
 have b7 := b7.mono g8
 refine Xu7 (a := (rd a5 a1)) Zm8 (eM (g9 3 39 rfl rfl)) (eM (g9 4 40 rfl rfl)) b7 hS rfl ?_
 exact Z0 ⟨41, _, _, rfl, rfl, Z2, hS, rfl⟩
 intro r4 r5 l2 r6 j3 hS n1 h0 hcq
 have Z2 := Sub.refl l2
 have W0 := X5.trans j3
 refine Zo9 (Z7 .u8 a8 ++ [vI (M5 a0 (rd a5 a1))]) Yz4 (Yd5 (eM (h0 2 38 rfl rfl)) (eM (h0 5 41 rfl rfl))) (K5 rfl rfl rfl (Nat.le_of_ble_eq_true rfl) (K5 rfl rfl rfl (Nat.le_of_ble_eq_true rfl) (Zk3 rfl))) rfl ?_
 exact Z0 ⟨42, _, _, rfl, rfl, Z2, hS, rfl⟩
 intro r7 r8 l3 r9 j4 hS n2 j5 hcq
 have Z2 := Sub.refl l3
 have W0 := X5.trans j4
 refine Zn7 (τ := yT) S9 Zy1 rfl [vA (Z7 .u8 a8 ++ [vI (M5 a0 (rd a5 a1))])] [(a8, (M5 a0 (rd a5 a1)))] rfl rfl (Ze0 (eM (j5 6 42 rfl rfl))) (Zu5 ⟨_, _, rfl, rfl, rfl⟩) (by decide) (by decide) hS rfl ?_
 intro n3 n4 n5 h3 hS h4
 have Z2 := Z2.trans h3
 exact Z0 ⟨43, _, _, rfl, rfl, Z2, hS, h4⟩
 intro n6 j6 h1 c7 hS c3 f5 hcq
 have hS : St h1 j6 ([(e9, cA (Z7 .u8 a8) 70)] ++ ([(e8, cA (Z7 .i64 (rd a5 a1)) 188)] ++ (a7 ++ ([(b6, cA ([a4]) 47)] ++ ([(b1, cA ([vN]) 47)] ++ L))))) := hS
 have Z2 := Z2.trans c7
 have b7 := b7.mono c7
 have b4 := b4.mono c7
 have a9 := a9.mono c7
 have h2 := evT (c3 4 rfl) e2
 obtain ⟨n7, j7, h5⟩ := gvS (f5 7 43 (by decide) rfl)
 obtain ⟨h6, c5⟩ := gd c5
 have hS := hS.perm F3
 refine Zd1 (τ := yT) Yt8 rfl (by exact (eM (f5 1 37 (by decide) rfl))) (by exact j7) a9 hS h5 h6 rfl ?_
 intro f3 n8 j8 f6 hS
 have hS := hS.perm F3.symm
 refine Y2 V6 (by exact h2) rfl ?_
 have hS := hS.perm Yp8
 refine Ze1 (v := f3) (cs := ([a4]).toArray) (cs' := ([f3]).toArray) R7 rfl rfl hS f6.isOne rfl (Nat.le_of_ble_eq_true rfl) rfl ?_
 intro n9 hS
 have hS := hS.perm Yp8.symm
 refine Z0 (X2 (Z1 ?_))
 refine V0 (a1 + 1) (by exact (evT (c3 18 rfl) f2)) rfl (IntWalk.i64_in _ (by omega)) rfl (Z4 (vI (a1 + 1)) rfl rfl (Z0 ?_))
 have hS := St.dropA hS
 have hS := St.dropA hS
 exact k2 _ _ ⟨(a1 + 1), (a6 ++ [(a8, (M5 a0 (rd a5 a1)))]), h1, j8, f3, c5, Z2, hS, (by omega), f6, b7, b4, (evT (c3 0 rfl) e1), (evT (c3 2 rfl) f8), h2, (evT (c3 16 rfl) f0), (evT (c3 17 rfl) f1), rfl⟩
 rw [if_neg e5] at b8
 refine Z9 (bF e5 rfl) ?_
 refine W4 rfl ?_
 have hz := Option.some.inj b8
 subst hz
 exact k3 _ _ ⟨a6, g5, a7, a4, rfl, Z2, hS, a9, d6, d7⟩
 exact ⟨0, ([] : List (A8 × Int)), h8, ([]), (vN), b8, Z2, hS, (by omega), g3, b7, b4, rfl, rfl, rfl, rfl, rfl, rfl⟩
 rintro o0 o1 ⟨b3, o2, b9, b2, rfl, Z2, hS, c1, e3, g1⟩
 dsimp only [Ex.elim] at e4
 refine Z3 (Z1 ?_)
 refine X8 U7 (by exact g1) (hS.get (mR mL)) rfl rfl ?_
 have hS := hS.perm F3
 refine W1 (v := vA ([b2])) (vs := ([b2]).toArray) (cs := ([vN]).toArray) U7 (by exact e3) rfl rfl hS rfl (S2 c1.isOne) rfl ?_
 intro o3 hS
 have hS := hS.perm F3.symm
 refine Z6 (vI 0) rfl rfl (Z0 ?_)
 refine Y9 (vs := [vA ([b2]), vI 0]) Tryz.func91 ⟨⟨_, (by exact e3), U8 U7 (hS.get (mR (mR mL))) rfl⟩, rfl, trivial⟩ ?_
 obtain ⟨j9, h7, hS, c8⟩ := U1.freezeF (τ := yT) (H0 := H) c1 hS Z2
 have l4 := Y3.old c8
 have c8 : RdF yT H j9 b2 b3 := c8
 have Z2 := Z2.trans h7
 have hz := Option.some.inj e4
 subst hz
 exact ⟨_, _, rfl, Z2, (St.dropA (St.dropA hS)), ⟨_, _, rfl, ⟨_, rfl, ⟨_, rfl, c8⟩⟩, rfl⟩⟩
def V7 (K : Nat) (a1 : (List Int)) (a5 : (A8 × Int)) : Nat → MpT → MpT → Option (Ex MpT (MpT))
 | 0, _, _ => none
 | k + 1, [], a3 => some (.go a3)
 | k + 1, c3 :: d9, a3 => ((F4 K a5.1 a1 c3.1).bind fun a7 => (if a7.2 = 0 then V7 K a1 a5 k d9 a3 else ((T4 K a3 a7.1 (((IntKind.i64.wrap ((IntKind.i64.wrap (a7.2 * a5.2)) * c3.2))).tmod 10007)).bind fun f6 => V7 K a1 a5 k d9 f6)))
theorem Yc8 {K : Nat} {a1 : (List Int)} {a5 : (A8 × Int)} {a3 : MpT} {k : Nat} {zp zq : MpT} {o : Ex MpT (MpT)} (hp : zp.Perm zq) (q : V7 K a1 a5 k zp a3 = some o) : V7 K a1 a5 k zq a3 = some o := by
 exact (Zz4 (K := K) (fun k zs s => V7 K a1 a5 k zs s) (by intros; rw [V7])
  (fun z => ⟨fun s => (F4 K a5.1 a1 z.1).bind fun r => if r.2 = 0 then some s else T4 K s r.1 (((IntKind.i64.wrap ((IntKind.i64.wrap (r.2 * a5.2)) * z.2))).tmod 10007), .const fun r => .ite .skip (.add _ _), by
   intro k zs s
   rw [V7]
   cases F4 K a5.1 a1 z.1 with
   | none => rfl
   | some r => simp only [Option.bind_some]; split <;> rfl⟩) hp k a3).symm.trans q
def S5 (K : Nat) (a1 : (List Int)) (a2 : MpT) : Nat → MpT → MpT → Option (Ex MpT (MpT))
 | 0, _, _ => none
 | k + 1, [], a4 => some (.go a4)
 | k + 1, a5 :: e0, a4 => ((V7 K a1 a5 K a2 a4).bind (Ex.elim (fun r => some (.ret r)) (fun s => (fun (b4 : MpT) => S5 K a1 a2 k e0 b4) s)))
theorem Ye3 {K : Nat} {a1 : (List Int)} {a2 : MpT} {a4 : MpT} {k : Nat} {zp zq : MpT} {o : Ex MpT (MpT)} (hp : zp.Perm zq) (q : S5 K a1 a2 k zp a4 = some o) : S5 K a1 a2 k zq a4 = some o := by
 have hl : ∀ (z : A8 × Int) (k : Nat) (zs : MpT), Zn3 K (fun (_ : Unit) s => s) (fun s => V7 K a1 z k zs s) := by
  intro z k
  induction k with
  | zero => intro zs; exact ⟨none, fun s => (show V7 K a1 z 0 zs s = none by rw [V7])⟩
  | succ k ih =>
   intro zs
   cases zs with
   | nil =>
    have e : (fun s => V7 K a1 z (k + 1) [] s) = fun s => some (.go s) := by funext s; rw [V7]
    rw [e]; exact .go (h := fun (_ : Unit) s => s) ()
   | cons y zs =>
    have e : (fun s => V7 K a1 z (k + 1) (y :: zs) s) = fun s => (F4 K z.1 a1 y.1).bind fun r => if r.2 = 0 then V7 K a1 z k zs s else (T4 K s r.1 (((IntKind.i64.wrap ((IntKind.i64.wrap (r.2 * z.2)) * y.2))).tmod 10007)).bind fun t => V7 K a1 z k zs t := by
     funext s; rw [V7]
    rw [e]
    exact .const fun r => .ite (ih zs) (.bind (.add _ _) (ih zs))
 exact (Zz4 (K := K) (fun k zs s => S5 K a1 a2 k zs s) (by intros; rw [S5])
  (fun z => by
   obtain ⟨F, hF, hs⟩ := (hl z K a2).step (fun s => s) (fun _ _ => rfl)
   refine ⟨F, hF, fun k zs s => ?_⟩
   rw [S5]
   exact hs _ (S5 K a1 a2 k zs) s) hp k a4).symm.trans q
def M2 (K : Nat) (a0 : MpT) (a1 : (List Int)) (a2 : MpT) : Option MpT := ((S5 K a1 a2 K a0 ([] : MpT)).bind (Ex.elim (fun r => some r) (fun s => (fun (b8 : MpT) => some b8) s)))
theorem Zl1 {K : Nat} {a0 : MpT} {a1 : (List Int)} {a2 : MpT} {r : MpT} (q0 : M2 K a0 a1 a2 = some r) {H : FH} {w : World} {L : OL} {s0 : Value} {s1 : Value} {s2 : Value} (h7 : Q1 .i64 H s0 a0) (b6 : Y3 (X3 .i64) H s1 a1) (b7 : Q1 .i64 H s2 a2) (hS : St H w L) :
 Calls Tryz.prog 131 #[s0, s1, s2] w (Yq8 .i64 r H L) := by
 have Z2 := Sub.refl H
 refine X0 Tryz.func131 rfl Tryz.ntmps131 rfl ?_
 unfold M2 at q0
 refine Z3 (Z1 (Z6 (Value.map none) rfl rfl (Z0 (Z3 (Z1 ?_)))))
 refine Zv6 (k := .i64) hS rfl ?_
 intro m1 w2 C3 h8 hS
 refine Z6 (m1) rfl rfl (Z0 (Z3 (Z3 (Z1 (Z4 (s0) rfl rfl ?_)))))
 refine Yc1 Zm8 rfl h7 hS rfl ?_
 intro e1 w7 C8 h9 hS
 refine Z0 (Y7 ?_)
 obtain ⟨f7, b5, f8⟩ := bind_some q0
 refine W7 (id := 0) (fun k f w => ∃ (b9 : MpT) (a4 : MpT) (H1 : FH) (b0 : OL) (a8 : OL), S5 K a1 a2 k b9 a4 = some f7 ∧ Sub H H1 ∧ St H1 w (b0 ++ (a8 ++ L)) ∧ Zc7 .i64 H1 e1 b9 none b0 ∧ R1 .i64 m1 a4 a8 ∧ Y3 (X3 .i64) H1 s1 a1 ∧ Q1 .i64 H1 s2 a2 ∧ ev f (.tmp 1) = s1 ∧ ev f (.tmp 2) = s2 ∧ ev f (.tmp 7) = m1 ∧ ev f (.tmp 16) = e1) (fun f w => ∃ (b8 : MpT) (H1 : FH) (c4 : OL) (c8 : OL), f7 = .go b8 ∧ Sub H H1 ∧ St H1 w (c4 ++ (c8 ++ L)) ∧ Zc7 .i64 H1 e1 ([] : MpT) none c4 ∧ R1 .i64 m1 b8 c8 ∧ ev f (.tmp 7) = m1) rfl ?_ ?_ K ?_ ?_
 rintro f w ⟨b9, a4, H1, b0, a8, b5, _⟩
 rw [S5] at b5; cases b5
 rintro k i9 j0 i0 i1 ⟨b9, a4, f9, b0, a8, b5, Z2, hS, d2, d8, b6, b7, f1, e3, e4, c9⟩
 refine Z3 (Z1 ?_)
 refine Yh0 (by exact c9) d2 hS rfl ?_ ?_
 intro g7; subst g7
 rw [S5] at b5
 refine U3 (Value.bool false) rfl rfl rfl (Z0 (Z3 (Z9 rfl ?_)))
 refine W4 rfl ?_
 have hz := Option.some.inj b5
 subst hz
 exact i1 _ _ ⟨a4, f9, b0, a8, rfl, Z2, hS, d2, d8, e4⟩
 intro a5 e0 j8 e6 g8 b3 hS
 replace b5 := Ye3 g8 b5
 rw [S5] at b5
 refine U3 (Value.bool true) rfl rfl rfl (Z0 (Z3 (Y0 rfl (Y6 (Y7 (Z3 (Z1 ?_)))))))
 refine Yc3 (by exact c9) b3 hS rfl (U3 (vA (Z7 .i64 a5.1)) rfl rfl rfl (U3 (vI a5.2) rfl rfl rfl ?_))
 refine W9 (z := vA (Z7 .i64 (fun _ => 0))) (Z7 .i64 (fun _ => 0)).toArray Zl0.zero rfl hS rfl ?_
 intro g0 j9 hS
 refine W1 (v := vA (Z7 .i64 a5.1)) (vs := (Z7 .i64 a5.1).toArray) (cs := (Z7 .i64 (fun _ => 0)).toArray) N2 rfl rfl rfl hS rfl (S8 .i64 a5.1) rfl ?_
 intro k0 hS
 refine Z6 (vI a5.2) rfl rfl (Z0 (Z3 (Z1 (Z4 (s2) (by exact e3) rfl ?_))))
 refine Yc1 Zm8 rfl b7 hS rfl ?_
 intro e9 k1 i2 g9 hS
 refine Z0 (Y7 ?_)
 obtain ⟨g1, a6, g2⟩ := bind_some b5
 refine W7 (id := 2) (fun k f w => ∃ (c0 : MpT) (a3 : MpT) (H1 : FH) (b1 : OL) (a9 : OL), V7 K a1 a5 k c0 a3 = some g1 ∧ Sub H H1 ∧ St H1 w (b1 ++ ([(g0, cA (Z7 .i64 a5.1) 188)] ++ (e6 ++ (a9 ++ L)))) ∧ Zc7 .i64 H1 e9 c0 none b1 ∧ R1 .i64 m1 a3 a9 ∧ Y3 (X3 .i64) H1 s1 a1 ∧ Q1 .i64 H1 s2 a2 ∧ Zc7 .i64 H1 e1 e0 (some a5) e6 ∧ ev f (.tmp 1) = s1 ∧ ev f (.tmp 2) = s2 ∧ ev f (.tmp 7) = m1 ∧ ev f (.tmp 8) = vP g0 ∧ ev f (.tmp 9) = vI a5.2 ∧ ev f (.tmp 16) = e1 ∧ ev f (.tmp 23) = e9) (fun f w => ∃ (b4 : MpT) (H1 : FH) (c5 : OL) (c1 : OL), g1 = .go b4 ∧ Sub H H1 ∧ St H1 w (c5 ++ ([(g0, cA (Z7 .i64 a5.1) 188)] ++ (e6 ++ (c1 ++ L)))) ∧ Zc7 .i64 H1 e9 ([] : MpT) none c5 ∧ R1 .i64 m1 b4 c1 ∧ Y3 (X3 .i64) H1 s1 a1 ∧ Q1 .i64 H1 s2 a2 ∧ Zc7 .i64 H1 e1 e0 (some a5) e6 ∧ ev f (.tmp 1) = s1 ∧ ev f (.tmp 2) = s2 ∧ ev f (.tmp 7) = m1 ∧ ev f (.tmp 16) = e1) rfl ?_ ?_ K ?_ ?_
 rintro f w ⟨c0, a3, H1, b1, a9, a6, _⟩
 rw [V7] at a6; cases a6
 rintro k j1 j2 g5 i3 ⟨c0, a3, h0, b1, a9, a6, Z2, hS, d3, b2, b6, b7, b3, c6, d4, c7, d5, d6, d0, c2⟩
 refine Z3 (Z1 ?_)
 refine Yh0 (by exact c2) d3 hS rfl ?_ ?_
 intro h1; subst h1
 rw [V7] at a6
 refine U3 (Value.bool false) rfl rfl rfl (Z0 (Z3 (Z9 rfl ?_)))
 refine W4 rfl ?_
 have hz := Option.some.inj a6
 subst hz
 exact i3 _ _ ⟨a3, h0, b1, a9, rfl, Z2, hS, d3, b2, b6, b7, b3, c6, d4, c7, d0⟩
 intro c3 d9 k2 g6 h2 d1 hS
 replace a6 := Yc8 h2 a6
 rw [V7] at a6
 refine U3 (Value.bool true) rfl rfl rfl (Z0 (Z3 (Y0 rfl (Y6 (Y7 (Z3 (Z1 ?_)))))))
 refine Yc3 (by exact c2) d1 hS rfl (U3 (vA (Z7 .i64 c3.1)) rfl rfl rfl (U3 (vI c3.2) rfl rfl rfl ?_))
 refine W9 (z := vA (Z7 .i64 (fun _ => 0))) (Z7 .i64 (fun _ => 0)).toArray Zl0.zero rfl hS rfl ?_
 intro k3 k4 hS
 refine W1 (v := vA (Z7 .i64 c3.1)) (vs := (Z7 .i64 c3.1).toArray) (cs := (Z7 .i64 (fun _ => 0)).toArray) N2 rfl rfl rfl hS rfl (S8 .i64 c3.1) rfl ?_
 intro k5 hS
 refine Z6 (vI c3.2) rfl rfl (Z0 (Z3 (Z1 ?_)))
 refine X8 N2 (by exact d5) (hS.get (mR (mR mL))) rfl rfl (Z4 (s1) (by exact c6) rfl ?_)
 refine X8 N2 rfl (hS.get mL) rfl rfl ?_
 obtain ⟨a7, h3, a6⟩ := bind_some a6
 refine Y8 Tryz.call224 (N8 rfl rfl rfl) rfl (Yh6 h3 b6 hS) ?_
 rintro k6 k7 ⟨_, i4, rfl, d7, hS, ⟨i7, i8, rfl, ⟨_, rfl, rfl⟩, rfl⟩⟩
 refine ⟨_, rfl, ?_⟩
 have Z2 := Z2.trans d7
 have b6 := b6.mono d7
 have b7 := b7.mono d7
 have b2 := b2.mono d7
 have b3 := b3.mono d7
 have d1 := d1.mono d7
 refine Z4 (Value.tuple #[vA (Z7 .i64 a7.1), vI a7.2]) rfl rfl (U3 (vA (Z7 .i64 a7.1)) rfl rfl rfl (U3 (vI a7.2) rfl rfl rfl ?_))
 refine W9 (z := vA (Z7 .i64 (fun _ => 0))) (Z7 .i64 (fun _ => 0)).toArray Zl0.zero rfl hS rfl ?_
 intro k8 k9 hS
 refine W1 (v := vA (Z7 .i64 a7.1)) (vs := (Z7 .i64 a7.1).toArray) (cs := (Z7 .i64 (fun _ => 0)).toArray) N2 rfl rfl rfl hS rfl (S8 .i64 a7.1) rfl ?_
 intro l0 hS
 refine Z6 (vI a7.2) rfl rfl (Z0 (Z3 (Z1 (Z4 (vI a7.2) rfl rfl ?_))))
 refine L9 (k := .i64) (a := a7.2) (b := 0) rfl rfl rfl (Z0 ?_)
 by_cases e5 : a7.2 = 0
 rw [if_pos e5] at a6
 refine Z9 (bN e5 rfl) (Y6 (X2 ?_))
 have hS := St.dropA hS
 have hS := St.dropA hS
 exact g5 _ _ ⟨d9, a3, i4, g6, a9, a6, Z2, hS, d1.drop, b2, b6, b7, b3, c6, d4, c7, d5, d6, d0, c2⟩
 rw [if_neg e5] at a6
 refine Y0 (bO e5 rfl) (Z1 (Z4 (m1) (by exact c7) rfl ?_))
 refine X8 N2 rfl (hS.get mL) rfl rfl (Z4 (vI a7.2) rfl rfl (Z4 (vI a5.2) (by exact d6) rfl ?_))
 refine Zt0 (IntKind.i64.wrap (a7.2 * a5.2)) rfl rfl rfl rfl (Z4 (vI c3.2) rfl rfl ?_)
 refine Zt0 (IntKind.i64.wrap ((IntKind.i64.wrap (a7.2 * a5.2)) * c3.2)) rfl rfl rfl rfl ?_
 refine Zo0 (((IntKind.i64.wrap ((IntKind.i64.wrap (a7.2 * a5.2)) * c3.2))).tmod 10007) rfl rfl (by decide) rfl rfl ?_
 obtain ⟨f6, h4, a6⟩ := bind_some a6
 have hS := hS.perm Yx7
 refine Y8 Tryz.call225 (N8 rfl rfl rfl) rfl (Ya9 h4 b2 hS) ?_
 rintro l1 l2 ⟨i5, i6, rfl, e2, hS, h5⟩
 refine ⟨_, rfl, ?_⟩
 have Z2 := Z2.trans e2
 have b6 := b6.mono e2
 have b7 := b7.mono e2
 have b3 := b3.mono e2
 have d1 := d1.mono e2
 have hS := hS.perm Yx7.symm
 refine Z0 (X2 ?_)
 have hS := St.dropA hS
 have hS := St.dropA hS
 exact g5 _ _ ⟨d9, f6, i5, g6, i6, a6, Z2, hS, d1.drop, h5, b6, b7, b3, c6, d4, c7, d5, d6, d0, c2⟩
 exact ⟨a2, a4, f9, i2, a8, a6, Z2, hS, g9, d8, b6, b7, b3, f1, e3, e4, rfl, rfl, c9, rfl⟩
 rintro j3 j4 ⟨b4, h6, c5, c1, rfl, Z2, hS, g3, e7, b6, b7, b3, f2, f3, f4, f0⟩
 dsimp only [Ex.elim] at g2
 refine X2 ?_
 have hS := St.dropA hS
 have hS := St.dropA hS
 exact i0 _ _ ⟨e0, b4, h6, e6, c1, g2, Z2, hS, b3.drop, e7, b6, b7, f2, f3, f4, f0⟩
 exact ⟨a0, ([] : MpT), H, C8, C3, b5, Z2, hS, h9, h8, b6, b7, rfl, rfl, rfl, rfl⟩
 rintro j5 j6 ⟨b8, j7, c4, c8, rfl, Z2, hS, g4, e8, f5⟩
 dsimp only [Ex.elim] at f8
 refine Z3 (Z1 (Z4 (m1) (by exact f5) rfl (Z6 (m1) rfl rfl (Z0 ?_))))
 refine Y9 (vs := [m1]) Tryz.func131 ⟨rfl, trivial⟩ ?_
 have hS := hS.perm U4
 have hS := St.dropMid hS
 have hz := Option.some.inj f8
 subst hz
 exact ⟨_, _, _, rfl, Z2, hS, e8⟩
def Wj7 (n : Nat) (r : M8) (H : FH) (L : OL) (e : Ending) (w' : World) : Prop := ∃ x H' C, e = .returned (vA (U2 x)) ∧ Sub H H' ∧ St H' w' (C ++ L) ∧ Zf3 n x r C
def Wl8 (r : List MpT) (H : FH) (L : OL) (e : Ending) (w' : World) : Prop := ∃ v H' vs C, e = .returned v ∧ Sub H H' ∧ St H' w' (C ++ L) ∧ Y3 Zr3 H' v vs ∧ Zb5 vs r C
theorem Zb5.len {vs : List Value} {xs : List MpT} {C : OL} (h : Zb5 vs xs C) : vs.length = xs.length := by obtain ⟨_, _, h, _⟩ := h; exact h
theorem psw (A B C : OL) : (A ++ (B ++ C)).Perm (B ++ (A ++ C)) := by
  rw [← List.append_assoc, ← List.append_assoc]; exact List.Perm.append_right _ List.perm_append_comm
theorem Wh0 (A h C L : OL) : (A ++ ((h ++ C) ++ L)).Perm (h ++ (A ++ (C ++ L))) := by
  rw [List.append_assoc]; exact psw _ _ _
theorem Wa1 (A B D h C L : OL) : (A ++ (B ++ (D ++ ((h ++ C) ++ L)))).Perm (h ++ (A ++ (B ++ (D ++ (C ++ L))))) :=
  (List.Perm.append_left _ ((List.Perm.append_left _ (Wh0 _ _ _ _)).trans (psw _ _ _))).trans (psw _ _ _)
theorem Yb9 {K : Nat} {a0 : ((List Int) × (List MpT))} {r : M8} (q0 : K6 K a0 = some r) {H : FH} {w : World} {L : OL} {s0 : Value} (e4 : Zq0 (Zh7 (X6 (X3 .i64)) (X6 (X6 yT))) H s0 a0) (hS : St H w L) :
 Calls Tryz.prog 146 #[s0] w (Wj7 a0.2.length r H L) := by
 obtain ⟨e5, e6, f1, g0, _, rfl, d3, ⟨_, _, rfl, ⟨e7, rfl, e2⟩, ⟨b4, rfl, a3⟩⟩, d4⟩ := e4
 have Z2 := Sub.refl H
 refine X0 Tryz.func146 rfl Tryz.ntmps146 rfl ?_
 unfold K6 at q0
 refine Z3 (Z1 ?_)
 have b1 : RdV .i64 H J4 (fun _ => ([] : MpT)) := RdV.nil
 refine W9 (z := vA (U2 J4)) (U2 J4).toArray Yq5.zero rfl hS rfl ?_
 intro b2 w3 hS
 refine Z0 (Z3 (Z1 ?_))
 have d2 : RdV .i64 H J4 (fun _ => ([] : MpT)) := RdV.nil
 refine Q2 (vA (U2 J4)) Wb3 rfl ?_
 have g1 : RdV .i64 H J4 (fun _ => ([] : MpT)) := RdV.nil
 refine W9 (z := vA (U2 J4)) (U2 J4).toArray Yq5.zero rfl hS rfl ?_
 intro b7 w8 hS
 refine W1 (v := vA (U2 J4)) (vs := (U2 J4).toArray) (cs := (U2 J4).toArray) Zv8 rfl rfl rfl hS rfl (Ye4 d2) rfl ?_
 intro g2 hS
 refine Z0 (Z3 (Z3 (Z1 (Z4 (Value.pointer (some ⟨e5, e6, none⟩)) rfl rfl (K3 rfl rfl (Y2 N5 rfl rfl ?_))))))
 refine Y4 (b4) Zd8 rfl (hS.froz _ _ d3) (d4 1 (show 1 < 2 by decide)) rfl ?_
 have f2 := a3.bound
 refine W6 J2 rfl a3 rfl (Z4 (vI 0) rfl rfl (Z0 (Y7 ?_)))
 obtain ⟨c8, a6, c9⟩ := bind_some q0
 refine W7 (id := 0) (fun k f w => ∃ (a1 : Int) (a5 : M8) (H1 : FH) (a4 : V8) (n1 : Nat) (CC : OL), R3 K a0 k a1 a5 = some c8 ∧ Sub H H1 ∧ St H1 w ([(b7, cA (U2 a4) 182)] ++ ([(b2, cA (U2 J4) 182)] ++ (CC ++ L))) ∧ 0 ≤ a1 ∧ (a1 = (n1 : Int) ∧ n1 ≤ a0.2.length) ∧ Zf3 n1 a4 a5 CC ∧ RdV .i64 H1 J4 (fun _ => ([] : MpT)) ∧ Y3 (X6 yT) H1 b4 a0.2 ∧ ev f (.tmp 2) = vP b2 ∧ ev f (.tmp 3) = vP b7 ∧ ev f (.tmp 10) = b4 ∧ ev f (.tmp 11) = vI (a0.2.length : Int) ∧ ev f (.tmp 12) = vI a1) (fun f w => ∃ (a9 : M8) (H1 : FH) (a7 : V8) (CC : OL), c8 = .go a9 ∧ Sub H H1 ∧ St H1 w ([(b7, cA (U2 a7) 182)] ++ ([(b2, cA (U2 J4) 182)] ++ (CC ++ L))) ∧ Zf3 a0.2.length a7 a9 CC ∧ RdV .i64 H1 J4 (fun _ => ([] : MpT)) ∧ ev f (.tmp 2) = vP b2 ∧ ev f (.tmp 3) = vP b7) rfl ?_ ?_ K ?_ ?_
 rintro f w ⟨a1, a5, H1, a4, n1, CC, a6, _⟩
 rw [R3] at a6; cases a6
 rintro k f3 f4 e8 e9 ⟨a1, a5, d5, a4, n1, CC, a6, Z2, hS, e3, ⟨hn1, hn2⟩, a8, b1, a3, b9, b3, b5, b6, b0⟩
 rw [R3] at a6
 refine Z3 (Z1 ?_)
 refine U5 (k := .i64) (a := a1) (b := (a0.2.length : Int)) (by exact b0) (by exact b6) rfl (Z0 (Z3 ?_))
 by_cases c1 : a1 < (a0.2.length : Int)
 rw [if_pos c1] at a6
 refine Y0 (bT c1 rfl) (Y6 (Z3 (Y7 (Z3 (Z1 (Z4 (vI a1) (by exact b0) rfl ?_))))))
 obtain ⟨g3, g4, f5, g5, _, d6, d7, ⟨c2, rfl, c5⟩, d8⟩ := a3.elem (i := a1) (by omega) (by omega)
 refine W3 J2 rfl (by exact b5) d6 (by exact b0) (by omega) (by omega) rfl ?_
 refine V5 ([c2]) U7 rfl (hS.froz _ _ d7) rfl d8 rfl ?_
 refine W9 (z := vA ([vN])) ([vN]).toArray Zb2.zero rfl hS rfl ?_
 intro g6 g7 hS
 refine Z6 (vI a1) rfl rfl ?_
 refine W1 (v := vA ([c2])) (vs := ([c2]).toArray) (cs := ([vN]).toArray) U7 rfl rfl rfl hS rfl (S2 c5.isOne) rfl ?_
 intro g8 hS
 refine Z0 (Z1 (Z4 (vI a1) rfl rfl ?_))
 refine X8 U7 rfl (hS.get mL) rfl rfl ?_
 obtain ⟨c7, d9, a6⟩ := bind_some a6
 refine Y8 Tryz.call90 (Q8 rfl) rfl (Zn1 d9 c5 hS) ?_
 rintro g9 h0 ⟨d0, h1, h2, rfl, c3, hS, e0⟩
 refine ⟨_, rfl, ?_⟩
 have Z2 := Z2.trans c3
 have a3 := a3.mono c3
 have b1 := b1.mono c3
 have a8 := a8.mono c3
 obtain ⟨f6, a6⟩ := gd a6
 refine W8 Yy0 (by exact b3) rfl (by omega) (by omega) rfl ?_
 have hS := hS.perm (Wa1 _ _ _ _ _ _)
 have hS := hS.perm U4
 have e1 := a8.push (show n1 < 8 by omega) e0
 rw [← hn1] at e1
 refine Ze1 (v := d0) (cs := (U2 a4).toArray) (cs' := (U2 (Yi7 a4 a1 d0)).toArray) Yk4 rfl rfl hS e0.isOne rfl (by simp [Z7, U2]; omega) (Xg1 (by omega) (by omega)) ?_
 intro h3 hS
 have hS := hS.perm U4.symm
 refine Z0 (X2 (Z1 ?_))
 refine V0 (a1 + 1) (by exact b0) rfl (IntWalk.i64_in _ (by omega)) rfl (Z4 (vI (a1 + 1)) rfl rfl (Z0 ?_))
 have hS := St.dropA hS
 exact e8 _ _ ⟨(a1 + 1), (Zw9 a5 a1 c7), h1, (Yi7 a4 a1 d0), n1 + 1, h2 ++ CC, a6, Z2, hS, (by omega), ⟨by omega, by omega⟩, e1, b1, a3, b9, b3, b5, b6, rfl⟩
 rw [if_neg c1] at a6
 refine Z9 (bF c1 rfl) ?_
 refine W4 rfl ?_
 have hz := Option.some.inj a6
 subst hz
 have hn3 : n1 = a0.2.length := by omega
 subst hn3
 exact e9 _ _ ⟨a5, d5, a4, CC, rfl, Z2, hS, a8, b1, b9, b3⟩
 exact ⟨0, (fun _ => ([] : MpT)), H, J4, 0, [], a6, Z2, hS, (by omega), ⟨rfl, Nat.zero_le _⟩, Zf3.nil, b1, a3, rfl, rfl, rfl, rfl, rfl⟩
 rintro f7 f8 ⟨a9, f9, a7, CC, rfl, Z2, hS, b8, b1, c0, c6⟩
 dsimp only [Ex.elim] at c9
 refine Z3 (Z1 ?_)
 refine X8 Zv8 (by exact c6) (hS.get mL) rfl rfl ?_
 have hS := hS.perm U4
 refine W1 (v := vA (U2 a7)) (vs := (U2 a7).toArray) (cs := (U2 J4).toArray) Zv8 (by exact c0) rfl rfl hS rfl b8.one rfl ?_
 intro h4 hS
 have hS := hS.perm U4.symm
 refine Z0 ?_
 refine Y9 (vs := [vA (U2 a7)]) Tryz.func146 ⟨⟨_, (by exact c0), U8 Zv8 (hS.get (mR mL)) rfl⟩, trivial⟩ ?_
 have hz := Option.some.inj c9
 subst hz
 exact ⟨_, _, _, rfl, Z2, (St.dropA (St.dropA hS)), b8⟩
theorem Yn7 {K : Nat} {a0 : Int} {r : (List MpT)} (q0 : Zo2 K a0 = some r) {H : FH} {w : World} {L : OL} (hS : St H w L) :
 Calls Tryz.prog 147 #[vI a0] w (Wl8 r H L) := by
 have Z2 := Sub.refl H
 refine X0 Tryz.func147 rfl Tryz.ntmps147 rfl ?_
 unfold Zo2 at q0
 refine Z3 (Z1 (Z6 (vN) rfl rfl (Z0 (Z3 (Z1 ?_)))))
 refine Yw3 (τ := Zr3) Xe0 Wa7 rfl hS rfl ?_
 intro u1 w2 C3 d2 hS
 refine Z6 (u1) rfl rfl (Z0 (Z3 (Z3 (Z1 (Z4 (vI a0) rfl rfl (Z4 (vI 0) rfl rfl (Z0 (Y7 ?_))))))))
 obtain ⟨c0, a5, c1⟩ := bind_some q0
 refine W7 (id := 0) (fun k f w => ∃ (a4 : Int) (a3 : (List MpT)) (H1 : FH) (a8 : OL) (a6 : Value) (vs : List Value) (CC : OL), B7 K a0 k a4 a3 = some c0 ∧ Sub H H1 ∧ St H1 w (a8 ++ (CC ++ L)) ∧ Zb5 vs a3 CC ∧ U1 Zr3 109 H1 a6 vs a8 ∧ ev f (.tmp 3) = a6 ∧ ev f (.tmp 6) = vI a0 ∧ ev f (.tmp 7) = vI a4) (fun f w => ∃ (a9 : (List MpT)) (H1 : FH) (b0 : OL) (a7 : Value) (vs : List Value) (CC : OL), c0 = .go a9 ∧ Sub H H1 ∧ St H1 w (b0 ++ (CC ++ L)) ∧ Zb5 vs a9 CC ∧ U1 Zr3 109 H1 a7 vs b0 ∧ ev f (.tmp 3) = a7) rfl ?_ ?_ K ?_ ?_
 rintro f w ⟨a4, a3, H1, a8, a6, vs, CC, a5, _⟩
 rw [B7] at a5; cases a5
 rintro k d7 d8 d3 d4 ⟨a4, a3, c5, a8, a6, vs, CC, a5, Z2, hS, hO, a1, b3, b4, b1⟩
 rw [B7] at a5
 refine Z3 (Z1 ?_)
 refine U5 (k := .i64) (a := a4) (b := a0) (by exact b1) (by exact b4) rfl (Z0 (Z3 ?_))
 by_cases b8 : a4 < a0
 rw [if_pos b8] at a5
 refine Y0 (bT b8 rfl) (Y6 (Z3 (Y7 (Z3 (Z1 (Z4 (vI a4) (by exact b1) rfl (Z6 (vI a4) rfl rfl (Z0 (Z1 (Z4 (a6) (by exact b3) rfl ?_))))))))))
 refine Zv6 (k := .i64) hS rfl ?_
 intro m7 w8 C9 b6 hS
 refine Z4 (vI a4) rfl rfl ?_
 obtain ⟨b2, c6, a5⟩ := bind_some a5
 refine Y8 Tryz.call151 (Q8 rfl) rfl (Yl4 c6  hS) ?_
 rintro e2 e3 ⟨e4, e5, rfl, b7, hS, ⟨_, rfl, rfl⟩⟩
 refine ⟨_, rfl, ?_⟩
 have Z2 := Z2.trans b7
 have a1 := a1.mono b7
 have b6 := b6.mono b7
 refine Yi1 (a := b2) (m := 1) Zm8 rfl rfl rfl b6 hS ?_
 intro e6 e7 c7 hS
 refine Z4 (m7) rfl rfl ?_
 have hS := hS.perm (Wh0 _ _ _ _)
 have hO := hO.push c7
 refine Zn7 (τ := Zr3) Xe0 Wa7 rfl [m7] [m7] rfl rfl (Ze0 rfl) (Zu5 ⟨c7.cellsL, c7.isOne⟩) (by decide) (by decide) hS rfl ?_
 intro e9 d5 f0 c3 hS c9
 have Z2 := Z2.trans c3
 have a1 := a1.mono c3
 obtain ⟨d0, a5⟩ := gd a5
 have hvl := hO.len
 refine Zd1 (τ := Zr3) Wj9 rfl rfl rfl a1 hS c9 (by simp at hvl d0 ⊢; omega) rfl ?_
 intro c4 f1 d6 d1 hS
 refine Z6 (c4) rfl rfl (Z0 (X2 (Z1 ?_)))
 refine V0 (IntKind.i64.wrap (a4 + 1)) (by exact b1) rfl rfl rfl (Z4 (vI (IntKind.i64.wrap (a4 + 1))) rfl rfl (Z0 ?_))
 exact d3 _ _ ⟨(IntKind.i64.wrap (a4 + 1)), (a3 ++ [(A9 ([] : MpT) b2 1)]), d5, d6, c4, _, _, a5, Z2, hS, hO, d1, rfl, b4, rfl⟩
 rw [if_neg b8] at a5
 refine Z9 (bF b8 rfl) ?_
 refine W4 rfl ?_
 have hz := Option.some.inj a5
 subst hz
 exact d4 _ _ ⟨a3, c5, a8, a6, vs, CC, rfl, Z2, hS, hO, a1, b3⟩
 exact ⟨0, ([] : List MpT), H, C3, u1, [], [], a5, Z2, hS, Zb5.nil, d2, rfl, rfl, rfl⟩
 rintro d9 e0 ⟨a9, e1, b0, a7, vs, CC, rfl, Z2, hS, hO, b5, b9⟩
 dsimp only [Ex.elim] at c1
 refine Z3 (Z1 (Z4 (a7) (by exact b9) rfl (Z6 (a7) rfl rfl (Z0 ?_))))
 obtain ⟨HZ, sZ, hS, b5⟩ := b5.freeze hS
 have Z2 := Z2.trans sZ
 refine Y9 (vs := [a7]) Tryz.func147 ⟨rfl, trivial⟩ ?_
 have hz := Option.some.inj c1
 subst hz
 exact ⟨_, _, _, _, rfl, Z2, hS, b5, hO⟩
def F7 (K : Nat) (a0 : (List Int)) (a1 : MpT) : Nat → Int → MpT → Option (Ex MpT (MpT))
 | 0, _, _ => none
 | k + 1, a6, a3 => (if 0 < a6 then ((F2 K a0 a3 a1).bind fun c9 => F7 K a0 a1 k (IntKind.u8.wrap (a6 - 1)) c9) else some (.go a3))
def Zm6 (K : Nat) (a0 : (List Int)) (a1 : MpT) (a2 : Int) : Option MpT := ((L3 K (fun _ => 0) 1).bind fun r7 => ((F7 K a0 a1 K a2 r7).bind (Ex.elim (fun r => some r) (fun s => (fun (a7 : MpT) => some a7) s))))
theorem Yo1 {K : Nat} {a0 : (List Int)} {a1 : MpT} {a2 : Int} {r : MpT} (q0 : Zm6 K a0 a1 a2 = some r) {H : FH} {w : World} {L : OL} {s0 : Value} {s1 : Value} (b5 : Y3 (X3 .i64) H s0 a0) (b0 : Y3 yT H s1 a1) (hS : St H w L) :
 Calls Tryz.prog 172 #[s0, vA ([s1]), Value.int .u8 a2] w (T6 (fun v G => (R.agg (X6 yT)).p G v r) H L) := by
 have Z2 := Sub.refl H
 refine X0 Tryz.func172 rfl Tryz.ntmps172 rfl ?_
 unfold Zm6 at q0
 refine Z3 (Z1 ?_)
 refine T7 (v := vA ([s1])) ([s1]).toArray rfl rfl hS rfl ?_
 intro b1 w2 hS
 refine W9 (z := vA ([vN])) ([vN]).toArray Zb2.zero rfl hS rfl ?_
 intro b4 w5 hS
 refine Z0 (Z3 (Z1 ?_))
 refine Q2 (vA (Z7 .u8 (fun _ => 0))) Yt1 rfl ?_
 obtain ⟨r7, d5, q0⟩ := bind_some q0
 refine Y8 Tryz.call170 (T0 rfl rfl) rfl (Zf5 d5  hS) ?_
 rintro e7 w8 ⟨v7, H7, rfl, d0, hS, ⟨_, rfl, ⟨c5, rfl, c7⟩⟩⟩
 refine ⟨_, rfl, ?_⟩
 have Z2 := Z2.trans d0
 have b5 := b5.mono d0
 have b0 := b0.mono d0
 refine W9 (z := vA ([vN])) ([vN]).toArray Zb2.zero rfl hS rfl ?_
 intro b9 e4 hS
 refine W1 (v := vA ([c5])) (vs := ([c5]).toArray) (cs := ([vN]).toArray) U7 rfl rfl rfl hS rfl (S2 c7.isOne) rfl ?_
 intro e5 hS
 refine Z0 (Z3 (Y7 ?_))
 obtain ⟨d1, a8, d2⟩ := bind_some q0
 refine W7 (id := 0) (fun k f w => ∃ (a6 : Int) (a3 : MpT) (H1 : FH) (a4 : Value), F7 K a0 a1 k a6 a3 = some d1 ∧ Sub H H1 ∧ St H1 w ([(b9, cA ([a4]) 47)] ++ ([(b4, cA ([vN]) 47)] ++ ([(b1, cA ([s1]) 47)] ++ L))) ∧ Y3 yT H1 a4 a3 ∧ Y3 (X3 .i64) H1 s0 a0 ∧ Y3 yT H1 s1 a1 ∧ ev f (.tmp 0) = s0 ∧ ev f (.tmp 2) = Value.int .u8 a6 ∧ ev f (.tmp 4) = vP b1 ∧ ev f (.tmp 6) = vP b4 ∧ ev f (.tmp 7) = vP b9) (fun f w => ∃ (a7 : MpT) (H1 : FH) (a5 : Value), d1 = .go a7 ∧ Sub H H1 ∧ St H1 w ([(b9, cA ([a5]) 47)] ++ ([(b4, cA ([vN]) 47)] ++ ([(b1, cA ([s1]) 47)] ++ L))) ∧ Y3 yT H1 a5 a7 ∧ Y3 yT H1 s1 a1 ∧ ev f (.tmp 6) = vP b4 ∧ ev f (.tmp 7) = vP b9) rfl ?_ ?_ K ?_ ?_
 rintro f w ⟨a6, a3, H1, a4, a8, _⟩
 rw [F7] at a8; cases a8
 rintro k d9 e0 d6 d7 ⟨a6, a3, d3, a4, a8, Z2, hS, b2, b5, b0, b6, b7, b8, c0, a9⟩
 rw [F7] at a8
 refine Z3 (Z3 (Z1 (Z4 (Value.int .u8 a6) (by exact b7) rfl ?_)))
 refine Zc5 (k := .u8) (a := a6) (b := 0) rfl rfl rfl (Z0 ?_)
 by_cases c2 : 0 < a6
 rw [if_pos c2] at a8
 refine Y0 (bT c2 rfl) (Y6 (Z3 (Y7 (Z1 (Z4 (s0) (by exact b6) rfl ?_)))))
 refine X8 U7 (by exact a9) (hS.get mL) rfl rfl ?_
 refine X8 U7 (by exact b8) (hS.get (mR (mR mL))) rfl rfl ?_
 obtain ⟨c9, d4, a8⟩ := bind_some a8
 refine Y8 Tryz.call171 (N8 rfl rfl rfl) rfl (Zm3 d4 b5 b2 b0 hS) ?_
 rintro e6 e8 ⟨e9, d8, rfl, c6, hS, ⟨_, rfl, ⟨c3, rfl, c4⟩⟩⟩
 refine ⟨_, rfl, ?_⟩
 have Z2 := Z2.trans c6
 have b5 := b5.mono c6
 have b0 := b0.mono c6
 refine W1 (v := vA ([c3])) (vs := ([c3]).toArray) (cs := ([a4]).toArray) U7 (by exact a9) rfl rfl hS rfl (S2 c4.isOne) rfl ?_
 intro f0 hS
 refine Z0 (X2 (Z1 (Z4 (Value.int .u8 a6) (by exact b7) rfl ?_)))
 refine Zu4 (IntKind.u8.wrap (a6 - 1)) rfl rfl rfl rfl (Z6 (Value.int .u8 (IntKind.u8.wrap (a6 - 1))) rfl rfl (Z0 ?_))
 exact d6 _ _ ⟨(IntKind.u8.wrap (a6 - 1)), c9, d8, c3, a8, Z2, hS, c4, b5, b0, b6, rfl, b8, c0, a9⟩
 rw [if_neg c2] at a8
 refine Z9 (bF c2 rfl) ?_
 refine W4 rfl ?_
 have hz := Option.some.inj a8
 subst hz
 exact d7 _ _ ⟨a3, d3, a4, rfl, Z2, hS, b2, b0, c0, a9⟩
 exact ⟨a2, r7, H7, c5, a8, Z2, hS, c7, b5, b0, rfl, rfl, rfl, rfl, rfl⟩
 rintro e1 e2 ⟨a7, e3, a5, rfl, Z2, hS, b3, b0, c1, c8⟩
 dsimp only [Ex.elim] at d2
 refine Z3 (Z1 ?_)
 refine X8 U7 (by exact c8) (hS.get mL) rfl rfl ?_
 have hS := hS.perm U4
 refine W1 (v := vA ([a5])) (vs := ([a5]).toArray) (cs := ([vN]).toArray) U7 (by exact c1) rfl rfl hS rfl (S2 b3.isOne) rfl ?_
 intro f1 hS
 have hS := hS.perm U4.symm
 refine Z0 ?_
 refine Y9 (vs := [vA ([a5])]) Tryz.func172 ⟨⟨_, (by exact c1), U8 U7 (hS.get (mR mL)) rfl⟩, trivial⟩ ?_
 have hz := Option.some.inj d2
 subst hz
 exact ⟨_, _, rfl, Z2, (St.dropA (St.dropA (St.dropA hS))), ⟨_, rfl, ⟨_, rfl, b3⟩⟩⟩
def U0 (K : Nat) (a2 : Int) : Nat → MpT → MpT → Option (Ex MpT (MpT))
 | 0, _, _ => none
 | k + 1, [], a3 => some (.go a3)
 | k + 1, z7 :: b8, a3 => ((T4 K a3 z7.1 (((IntKind.i64.wrap (z7.2 * a2))).tmod 10007)).bind fun b9 => U0 K a2 k b8 b9)
theorem Yb0 {K : Nat} {a2 : Int} {a3 : MpT} {k : Nat} {zp zq : MpT} {o : Ex MpT (MpT)} (hp : zp.Perm zq) (q : U0 K a2 k zp a3 = some o) : U0 K a2 k zq a3 = some o := by
 exact (Zz4 (K := K) (fun k zs s => U0 K a2 k zs s) (by intros; rw [U0])
  (fun z => ⟨fun s => T4 K s z.1 (((IntKind.i64.wrap (z.2 * a2))).tmod 10007), .add _ _, by intros; rw [U0]⟩) hp k a3).symm.trans q
def Q3 (K : Nat) (a0 : MpT) (a1 : MpT) (a2 : Int) : Option MpT := ((U0 K a2 K a1 a0).bind (Ex.elim (fun r => some r) (fun s => (fun (a7 : MpT) => some a7) s)))
theorem Zj1 {K : Nat} {a0 : MpT} {a1 : MpT} {a2 : Int} {r : MpT} (q0 : Q3 K a0 a1 a2 = some r) {H : FH} {w : World} {L C0 : OL} {s0 : Value} {s1 : Value} (c9 : R1 .i64 s0 a0 C0) (d0 : Q1 .i64 H s1 a1) (hS : St H w (C0 ++ L)) :
 Calls Tryz.prog 132 #[s0, s1, vI a2] w (Wb2 .i64 s0 r H L) := by
 have Z2 := Sub.refl H
 refine X0 Tryz.func132 rfl Tryz.ntmps132 rfl ?_
 unfold Q3 at q0
 refine Z3 (Z1 (Z4 (s1) rfl rfl ?_))
 refine Yc1 Zm8 rfl d0 hS rfl ?_
 intro c0 w2 C3 d1 hS
 refine Z0 (Y7 ?_)
 obtain ⟨c1, a4, c2⟩ := bind_some q0
 refine W7 (id := 0) (fun k f w => ∃ (a8 : MpT) (a3 : MpT) (H1 : FH) (a5 : OL) (a6 : OL), U0 K a2 k a8 a3 = some c1 ∧ Sub H H1 ∧ St H1 w (a5 ++ (a6 ++ L)) ∧ Zc7 .i64 H1 c0 a8 none a5 ∧ R1 .i64 s0 a3 a6 ∧ ev f (.tmp 0) = s0 ∧ ev f (.tmp 2) = vI a2 ∧ ev f (.tmp 9) = c0) (fun f w => ∃ (a7 : MpT) (H1 : FH) (a9 : OL) (b0 : OL), c1 = .go a7 ∧ Sub H H1 ∧ St H1 w (a9 ++ (b0 ++ L)) ∧ Zc7 .i64 H1 c0 ([] : MpT) none a9 ∧ R1 .i64 s0 a7 b0) rfl ?_ ?_ K ?_ ?_
 rintro f w ⟨a8, a3, H1, a5, a6, a4, _⟩
 rw [U0] at a4; cases a4
 rintro k d8 d9 d2 d3 ⟨a8, a3, c5, a5, a6, a4, Z2, hS, b2, b3, b4, b5, b1⟩
 refine Z3 (Z1 ?_)
 refine Yh0 (by exact b1) b2 hS rfl ?_ ?_
 intro d4; subst d4
 rw [U0] at a4
 refine U3 (Value.bool false) rfl rfl rfl (Z0 (Z3 (Z9 rfl ?_)))
 refine W4 rfl ?_
 have hz := Option.some.inj a4
 subst hz
 exact d3 _ _ ⟨a3, c5, a5, a6, rfl, Z2, hS, b2, b3⟩
 intro z7 b8 w9 d5 c6 b6 hS
 replace a4 := Yb0 c6 a4
 rw [U0] at a4
 refine U3 (Value.bool true) rfl rfl rfl (Z0 (Z3 (Y0 rfl (Y6 (Y7 (Z3 (Z1 ?_)))))))
 refine Yc3 (by exact b1) b6 hS rfl (U3 (vA (Z7 .i64 z7.1)) rfl rfl rfl (U3 (vI z7.2) rfl rfl rfl ?_))
 refine W9 (z := vA (Z7 .i64 (fun _ => 0))) (Z7 .i64 (fun _ => 0)).toArray Zl0.zero rfl hS rfl ?_
 intro e3 e4 hS
 refine W1 (v := vA (Z7 .i64 z7.1)) (vs := (Z7 .i64 z7.1).toArray) (cs := (Z7 .i64 (fun _ => 0)).toArray) N2 rfl rfl rfl hS rfl (S8 .i64 z7.1) rfl ?_
 intro e5 hS
 refine Z6 (vI z7.2) rfl rfl (Z0 (Z1 (Z4 (s0) (by exact b4) rfl ?_)))
 refine X8 N2 rfl (hS.get mL) rfl rfl (Z4 (vI z7.2) rfl rfl (Z4 (vI a2) (by exact b5) rfl ?_))
 refine Zt0 (IntKind.i64.wrap (z7.2 * a2)) rfl rfl rfl rfl ?_
 refine Zo0 (((IntKind.i64.wrap (z7.2 * a2))).tmod 10007) rfl rfl (by decide) rfl rfl ?_
 obtain ⟨b9, c7, a4⟩ := bind_some a4
 have hS := hS.perm F3
 refine Y8 Tryz.call225 (N8 rfl rfl rfl) rfl (Ya9 c7 b3 hS) ?_
 rintro e6 e7 ⟨d6, d7, rfl, c3, hS, c8⟩
 refine ⟨_, rfl, ?_⟩
 have Z2 := Z2.trans c3
 have b6 := b6.mono c3
 have hS := hS.perm F3.symm
 refine Z0 (X2 ?_)
 have hS := St.dropA hS
 exact d2 _ _ ⟨b8, b9, d6, d5, d7, a4, Z2, hS, b6.drop, c8, b4, b5, b1⟩
 exact ⟨a1, a0, H, C3, C0, a4, Z2, hS, d1, c9, rfl, rfl, rfl⟩
 rintro e0 e1 ⟨a7, e2, a9, b0, rfl, Z2, hS, c4, b7⟩
 dsimp only [Ex.elim] at c2
 refine Yz7 (vs := []) Tryz.func132 trivial ?_
 have hS := hS.perm U4
 have hS := St.dropMid hS
 have hz := Option.some.inj c2
 subst hz
 exact ⟨_, _, rfl, Z2, hS, b7⟩
def Zh2 (K : Nat) (a0 : MpT) (a1 : ((List Int) × (List MpT))) : Option Bool := ((Zl6 K a1.1 a0).bind fun a4 => some (!a4))
theorem Yd8 {K : Nat} {a0 : MpT} {a1 : ((List Int) × (List MpT))} {r : Bool} (q0 : Zh2 K a0 a1 = some r) {H : FH} {w : World} {L : OL} {s0 : Value} {s1 : Value} (b0 : Y3 yT H s0 a0) (c9 : Zq0 (Wm0 (Zh7 (X6 (X3 .i64)) (X6 (X6 yT)))) H s1 a1) (hS : St H w L) :
 Calls Tryz.prog 174 #[vA ([s0]), s1] w (T6 (fun v G => R.bool.p G v r) H L) := by
 obtain ⟨d0, d1, e0, f7, _, rfl, a9, ⟨_, rfl, ⟨a6, a7, d9, e1, _, rfl, a8, ⟨_, _, rfl, ⟨a5, rfl, a3⟩, ⟨c8, rfl, b5⟩⟩, b4⟩⟩, b6⟩ := c9
 have Z2 := Sub.refl H
 refine X0 Tryz.func174 rfl Tryz.ntmps174 rfl ?_
 unfold Zh2 at q0
 refine Z3 (Z1 ?_)
 refine T7 (v := vA ([s0])) ([s0]).toArray rfl rfl hS rfl ?_
 intro b1 w2 hS
 refine Z6 (Value.bool false) rfl rfl (Z0 (Z3 ?_))
 obtain ⟨a4, b7, q0⟩ := bind_some q0
 refine V4 8 (R9 [(4, MP.eq (Value.pointer (some ⟨a6, a7, none⟩))), (5, MP.eq (Value.pointer (some ⟨a6, a7, none⟩))), (6, MP.eq (Value.pointer (some ⟨a6, a7 + 0, none⟩))), (7, MP.eq (a5)), (8, MP.eq (vA ([s0]))), (9, MP.eq (Value.bool a4)), (10, MP.eq (Value.bool (!a4))), (3, MP.eq (Value.bool (!a4)))]) [] mixed rfl rfl rfl hS (Z5 rfl ?_ (Z5 rfl ?_ (Z5 rfl ?_ (Z5 rfl ?_ (Z5 rfl ?_ (Z5 rfl ?_ (Z5 rfl ?_ (Z5 rfl ?_ V9)))))))) ?_
 intro f4 w5 H6 X7 d2 hS d3 e2 hcq
 have a9 := d2.1 _ _ a9
 have d4 : ev f4 (.tmp 1) = Value.pointer (some ⟨d0, d1, none⟩) := Eq.trans (d3 1 rfl) rfl
 refine Y4 (Value.pointer (some ⟨a6, a7, none⟩)) Wb9 d4 (hS.froz _ _ a9) (b6 0 (show 0 < 1 by decide)) rfl ?_
 exact qn (.refl _) rfl hS rfl
 intro f8 f9 g0 g1 e3 hS e4 b8 hcq
 refine K3 (eM (b8 0 4 rfl rfl)) rfl ?_
 exact qn (.refl _) rfl hS rfl
 intro g2 g3 g4 g5 e5 hS e6 b9 hcq
 refine Y2 R4 (eM (b9 1 5 rfl rfl)) rfl ?_
 exact qn (.refl _) rfl hS rfl
 intro g6 g7 g8 g9 c0 hS e7 c1 hcq
 have a8 := c0.1 _ _ a8
 refine Y4 (a5) J3 (eM (c1 2 6 rfl rfl)) (hS.froz _ _ a8) (b4 0 (show 0 < 2 by decide)) rfl ?_
 exact qn (.refl _) rfl hS rfl
 intro d5 h0 h1 h2 e8 hS c2 e9 hcq
 have d6 : ev d5 (.tmp 2) = vP b1 := Eq.trans (c2 2 rfl) rfl
 refine X8 U7 d6 (hS.get (mR mL)) rfl rfl ?_
 exact qn (.refl _) rfl hS rfl
 intro h3 h4 h5 h6 b2 hS f0 b3 hcq
 have a3 := a3.mono b2
 have b0 := b0.mono b2
 refine Y8 Tryz.call125 (T0 (eM (b3 3 7 rfl rfl)) (eM (b3 4 8 rfl rfl))) rfl (Zv1 b7 a3 b0 hS) ?_
 rintro h7 h8 ⟨_, h9, rfl, c3, hS, rfl⟩
 refine ⟨_, rfl, ?_⟩
 exact qn c3 rfl hS rfl
 intro i0 i1 i2 i3 f1 hS f2 c4 hcq
 refine N7 (b := a4) (eM (c4 5 9 rfl rfl)) rfl ?_
 exact qn (.refl _) rfl hS rfl
 intro i4 i5 i6 i7 f3 hS f5 c5 hcq
 refine Z6 (Value.bool (!a4)) (eM (c5 6 10 rfl rfl)) rfl ?_
 exact qn (.refl _) rfl hS rfl
 intro i8 d7 d8 c6 hS f6 c7 hcq
 have hS : St d8 d7 ([(b1, cA ([s0]) 47)] ++ L) := hS
 have Z2 := Z2.trans c6
 refine Z0 ?_
 refine Y9 (vs := [Value.bool (!a4)]) Tryz.func174 ⟨(by exact (eM (c7 7 3 (by decide) rfl))), trivial⟩ ?_
 have hz := Option.some.inj q0
 subst hz
 exact ⟨_, _, rfl, Z2, (St.dropA hS), rfl⟩
def Ze9 (K : Nat) (a0 : MpT) (a1 : MpT) : Option Bool := ((Zo8 K a0 a1).bind fun r7 => (if r7 = true then some true else some false))
theorem Ye1 {K : Nat} {a0 : MpT} {a1 : MpT} {r : Bool} (q0 : Ze9 K a0 a1 = some r) {H : FH} {w : World} {L : OL} {s0 : Value} {s1 : Value} (a4 : Y3 yT H s0 a0) (a5 : Y3 yT H s1 a1) (hS : St H w L) :
 Calls Tryz.prog 31 #[vA ([s0]), vA ([s1])] w (T6 (fun v G => R.bool.p G v r) H L) := by
 have Z2 := Sub.refl H
 refine X0 Tryz.func31 rfl Tryz.ntmps31 rfl ?_
 unfold Ze9 at q0
 refine Z3 (Z1 ?_)
 refine T7 (v := vA ([s0])) ([s0]).toArray rfl rfl hS rfl ?_
 intro b1 w2 hS
 refine T7 (v := vA ([s1])) ([s1]).toArray rfl rfl hS rfl ?_
 intro b4 w5 hS
 refine Z6 (Value.bool false) rfl rfl (Z0 (Z3 (Z3 (Z1 (Y2 V6 rfl rfl ?_)))))
 refine Y4 (s0) R7 rfl (hS.get (mR mL)) rfl rfl (Y2 V6 rfl rfl ?_)
 refine Y4 (s1) R7 rfl (hS.get mL) rfl rfl ?_
 obtain ⟨r7, a6, q0⟩ := bind_some q0
 refine Y8 Tryz.call110 (T0 rfl rfl) rfl (Yr1 a6 a4 a5 hS) ?_
 rintro e7 w8 ⟨_, H7, rfl, a7, hS, rfl⟩
 refine ⟨_, rfl, ?_⟩
 have Z2 := Z2.trans a7
 refine N7 (b := r7) rfl rfl (Z0 ?_)
 by_cases a3 : r7 = true
 rw [if_pos a3] at q0
 refine Z9 (Eq.trans rfl (congrArg (fun b => Value.bool (!b)) a3)) (Y6 (Z3 (Z1 (Z6 (Value.bool true) rfl rfl (Z0 ?_)))))
 refine Y9 (vs := [Value.bool true]) Tryz.func31 ⟨rfl, trivial⟩ ?_
 have hz := Option.some.inj q0
 subst hz
 exact ⟨_, _, rfl, Z2, (St.dropA (St.dropA hS)), rfl⟩
 rw [if_neg a3] at q0
 refine Y0 (Eq.trans rfl (congrArg (fun b => Value.bool (!b)) (W2 a3))) (Z3 (Z1 (Z6 (Value.bool false) rfl rfl (Z0 ?_))))
 refine Y9 (vs := [Value.bool false]) Tryz.func31 ⟨rfl, trivial⟩ ?_
 have hz := Option.some.inj q0
 subst hz
 exact ⟨_, _, rfl, Z2, (St.dropA (St.dropA hS)), rfl⟩
end Go.Proofs.YtfodlhkoafhplaaGreat
