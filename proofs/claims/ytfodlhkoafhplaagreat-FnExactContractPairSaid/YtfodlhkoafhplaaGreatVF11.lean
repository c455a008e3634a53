/- Walks of functions: each computes its pure function, if that gives a value. -/
import Derived.Test.YtfodlhkoafhplaaGreatVTy
import Derived.Test.YtfodlhkoafhplaaGreatVF9
import Derived.Test.YtfodlhkoafhplaaGreatVF1
import Derived.Test.YtfodlhkoafhplaaGreatVF5
import Derived.Test.YtfodlhkoafhplaaGreatVF6
import Derived.Test.YtfodlhkoafhplaaGreatVF8
import Derived.Test.YtfodlhkoafhplaaGreatVF3
namespace Go.Proofs.YtfodlhkoafhplaaGreat
open Go
set_option linter.unusedSimpArgs false
set_option linter.unusedVariables false
set_option maxRecDepth 100000
set_option maxHeartbeats 8000000
def B1 (K : Nat) (a5 : (List A8)) (a1 : Int) : Nat → Int → A8 → Option (Ex (MpT × Int) (A8))
 | 0, _, _ => none
 | k + 1, a3, b0 => (if a3 < 8 then (if 20 < (Y5 (rd a5 a1) a3) then some (.ret (([] : List (A8 × Int)), 3)) else B1 K a5 a1 k (a3 + 1) (S3 b0 a3 (IntKind.u8.wrap (Y5 (rd a5 a1) a3)))) else some (.go b0))
def B3 (K : Nat) (a0 : MpT) (a5 : (List A8)) : Nat → Int → MpT → Option (Ex (MpT × Int) (MpT))
 | 0, _, _ => none
 | k + 1, a1, a6 => (if a1 < (a5.length : Int) then ((B1 K a5 a1 K 0 (fun _ => 0)).bind (Ex.elim (fun r => some (.ret r)) (fun s => (fun (a8 : A8) => (if a6.length + ([(a8, (R2 a0 (rd a5 a1)))]).length ≤ 1099511627776 then B3 K a0 a5 k (a1 + 1) (a6 ++ [(a8, (R2 a0 (rd a5 a1)))]) else none)) s))) else some (.go a6))
def Zd7 (K : Nat) (a0 : MpT) : Option (MpT × Int) := (if 400 < (a0.length : Int) then some (([] : List (A8 × Int)), 3) else ((Zq3 K a0).bind fun a5 => ((B3 K a0 a5 K 0 ([] : List (A8 × Int))).bind (Ex.elim (fun r => some r) (fun s => (fun (b3 : MpT) => some (b3, 0)) s)))))
theorem Yt2 {K : Nat} {a0 : MpT} {r : (MpT × Int)} (q0 : Zd7 K a0 = some r) {H : FH} {w : World} {L : OL} {s0 : Value} (b7 : Q0 .i64 H s0 a0) (hS : St H w L) :
 Calls Tryz.prog 91 #[s0] w (T2 (fun v G => (R.t2 (R.agg (X6 yT)) (R.int .i64)).p (G.new H) v r) H L) := by
 have Z2 := Sub.refl H
 refine X3 Tryz.func91 rfl Tryz.ntmps91 rfl ?_
 unfold Zd7 at q0
 refine Z3 (Z0 ?_)
 refine V1 (z := vA ([vN])) ([vN]).toArray Zd2.zero rfl hS rfl ?_
 intro b1 w2 hS
 refine Z5 (vI 0) rfl rfl (Z1 (Z3 (Z3 (Z0 (Z4 (s0) rfl rfl ?_)))))
 refine Wg3 Zh5 rfl b7 hS rfl ?_
 refine Zf8 (k := .i64) (a := (a0.length : Int)) (b := 400) rfl rfl rfl (Z1 ?_)
 by_cases f4 : 400 < (a0.length : Int)
 rw [if_pos f4] at q0
 refine Y0 (bT f4 rfl) (Z3 (Z0 ?_))
 refine Q1 (vA ([vN])) Yi3 rfl ?_
 refine W0 (v := vA ([vN])) (vs := ([vN]).toArray) (cs := ([vN]).toArray) T1 rfl rfl rfl hS rfl (T8 rfl) rfl ?_
 intro w5 hS
 refine Z5 (vI 3) rfl rfl (Z1 ?_)
 refine X0 (vs := [vA ([vN]), vI 3]) Tryz.func91 ⟨⟨_, rfl, U5 T1 (hS.get mL) rfl⟩, rfl, trivial⟩ ?_
 have hz := Option.some.inj q0
 subst hz
 exact ⟨_, _, rfl, Z2, (St.dropA hS), ⟨_, _, rfl, ⟨_, rfl, ⟨_, rfl, Y1.nil⟩⟩, rfl⟩⟩
 rw [if_neg f4] at q0
 refine Z8 (bF f4 rfl) (Y7 (Z3 (Z0 ?_)))
 refine Q1 (vA ([vN])) Yi3 rfl ?_
 refine V1 (z := vA ([vN])) ([vN]).toArray Zd2.zero rfl hS rfl ?_
 intro b6 w7 hS
 refine W0 (v := vA ([vN])) (vs := ([vN]).toArray) (cs := ([vN]).toArray) T1 rfl rfl rfl hS rfl (T8 rfl) rfl ?_
 intro w9 hS
 refine Z1 (Z3 (Z3 (Z0 (Z4 (s0) rfl rfl ?_))))
 obtain ⟨a5, h9, q0⟩ := bind_some q0
 refine Y9 Tryz.call177 (R0 rfl) rfl (Yp7 h9 b7 hS) ?_
 rintro o4 o5 ⟨d5, h8, rfl, g2, hS, b4⟩
 refine ⟨_, rfl, ?_⟩
 have Z2 := Z2.trans g2
 have b7 := b7.mono g2
 have l5 := b4.bound
 refine W7 Xl8 rfl b4 rfl (Z4 (vI 0) rfl rfl (Z1 (Y8 ?_)))
 have g3 : V0 yT 76 h8 (.slice none 0 0) [] [] := V0.nil _ _ _
 obtain ⟨g4, b8, e4⟩ := bind_some q0
 refine W5 (id := 0) (fun k f w => ∃ (a1 : Int) (a6 : MpT) (H1 : FH) (a7 : OL) (a4 : Value), B3 K a0 a5 k a1 a6 = some g4 ∧ Sub H H1 ∧ St H1 w (a7 ++ ([(b6, cA ([a4]) 47)] ++ ([(b1, cA ([vN]) 47)] ++ L))) ∧ 0 ≤ a1 ∧ V0 yT 76 H1 a4 a6 a7 ∧ Q0 .i64 H1 s0 a0 ∧ Y1 (Zr5 .i64) H1 d5 a5 ∧ ev f (.tmp 0) = s0 ∧ ev f (.tmp 2) = vP b1 ∧ ev f (.tmp 4) = vP b6 ∧ ev f (.tmp 16) = d5 ∧ ev f (.tmp 17) = vI (a5.length : Int) ∧ ev f (.tmp 18) = vI a1) (fun f w => ∃ (b3 : MpT) (H1 : FH) (b9 : OL) (b2 : Value), g4 = .go b3 ∧ Sub H H1 ∧ St H1 w (b9 ++ ([(b6, cA ([b2]) 47)] ++ ([(b1, cA ([vN]) 47)] ++ L))) ∧ V0 yT 76 H1 b2 b3 b9 ∧ ev f (.tmp 2) = vP b1 ∧ ev f (.tmp 4) = vP b6) rfl ?_ ?_ K ?_ ?_
 rintro f w ⟨a1, a6, H1, a7, a4, b8, _⟩
 rw [B3] at b8; cases b8
 rintro k l6 l7 k2 k3 ⟨a1, a6, g5, a7, a4, b8, Z2, hS, k0, a9, b7, b4, f7, d6, d7, c9, d0, c4⟩
 rw [B3] at b8
 refine Z3 (Z0 ?_)
 refine V7 (k := .i64) (a := a1) (b := (a5.length : Int)) (by exact c4) (by exact d0) rfl (Z1 (Z3 ?_))
 by_cases e5 : a1 < (a5.length : Int)
 rw [if_pos e5] at b8
 refine Y0 (bT e5 rfl) (Y7 (Z3 (Y8 (Z3 (Z0 ?_)))))
 obtain ⟨o6, o7, l9, o8, _, i0, i1, rfl, i2⟩ := b4.elem (i := a1) (by omega) (by omega)
 refine W3 Xl8 rfl (by exact c9) i0 (by exact c4) (by omega) (by omega) rfl ?_
 refine V6 (Z7 .i64 (rd a5 a1)) N4 rfl (hS.froz _ _ i1) rfl i2 rfl ?_
 refine V1 (z := vA (Z7 .i64 (fun _ => 0))) (Z7 .i64 (fun _ => 0)).toArray Zn3.zero rfl hS rfl ?_
 intro e8 o9 hS
 refine W0 (v := vA (Z7 .i64 (rd a5 a1))) (vs := (Z7 .i64 (rd a5 a1)).toArray) (cs := (Z7 .i64 (fun _ => 0)).toArray) N4 rfl rfl rfl hS rfl (S9 .i64 (rd a5 a1)) rfl ?_
 intro p0 hS
 refine Z1 (Z3 (Z0 ?_))
 refine Q1 (vA (Z7 .u8 (fun _ => 0))) Xf7 rfl ?_
 refine V1 (z := vA (Z7 .u8 (fun _ => 0))) (Z7 .u8 (fun _ => 0)).toArray Yi6.zero rfl hS rfl ?_
 intro e9 p1 hS
 refine W0 (v := vA (Z7 .u8 (fun _ => 0))) (vs := (Z7 .u8 (fun _ => 0)).toArray) (cs := (Z7 .u8 (fun _ => 0)).toArray) N6 rfl rfl rfl hS rfl (S9 .u8 (fun _ => 0)) rfl ?_
 intro p2 hS
 refine Z1 (Z3 (Z3 (Z0 ?_)))
 refine W2 N4 rfl (hS.get (mR mL)) rfl rfl (Z4 (vI 0) rfl rfl (Z1 (Y8 ?_)))
 obtain ⟨g6, b5, c5⟩ := bind_some b8
 refine W5 (id := 2) (fun k f w => ∃ (a3 : Int) (b0 : A8) (H1 : FH), B1 K a5 a1 k a3 b0 = some g6 ∧ Sub H H1 ∧ St H1 w ([(e9, cA (Z7 .u8 b0) 70)] ++ ([(e8, cA (Z7 .i64 (rd a5 a1)) 188)] ++ (a7 ++ ([(b6, cA ([a4]) 47)] ++ ([(b1, cA ([vN]) 47)] ++ L))))) ∧ 0 ≤ a3 ∧ Q0 .i64 H1 s0 a0 ∧ Y1 (Zr5 .i64) H1 d5 a5 ∧ V0 yT 76 H1 a4 a6 a7 ∧ ev f (.tmp 0) = s0 ∧ ev f (.tmp 2) = vP b1 ∧ ev f (.tmp 4) = vP b6 ∧ ev f (.tmp 6) = vP e8 ∧ ev f (.tmp 7) = vP e9 ∧ ev f (.tmp 16) = d5 ∧ ev f (.tmp 17) = vI (a5.length : Int) ∧ ev f (.tmp 18) = vI a1 ∧ ev f (.tmp 23) = vA (Z7 .i64 (rd a5 a1)) ∧ ev f (.tmp 24) = vI a3) (fun f w => ∃ (a8 : A8) (H1 : FH), g6 = .go a8 ∧ Sub H H1 ∧ St H1 w ([(e9, cA (Z7 .u8 a8) 70)] ++ ([(e8, cA (Z7 .i64 (rd a5 a1)) 188)] ++ (a7 ++ ([(b6, cA ([a4]) 47)] ++ ([(b1, cA ([vN]) 47)] ++ L))))) ∧ Q0 .i64 H1 s0 a0 ∧ Y1 (Zr5 .i64) H1 d5 a5 ∧ V0 yT 76 H1 a4 a6 a7 ∧ ev f (.tmp 0) = s0 ∧ ev f (.tmp 2) = vP b1 ∧ ev f (.tmp 4) = vP b6 ∧ ev f (.tmp 6) = vP e8 ∧ ev f (.tmp 7) = vP e9 ∧ ev f (.tmp 16) = d5 ∧ ev f (.tmp 17) = vI (a5.length : Int) ∧ ev f (.tmp 18) = vI a1) rfl ?_ ?_ K ?_ ?_
 rintro f w ⟨a3, b0, H1, b5, _⟩
 rw [B1] at b5; cases b5
 rintro k m0 m1 k4 k5 ⟨a3, b0, g7, b5, Z2, hS, k1, b7, b4, a9, d8, c2, d9, e0, c6, d1, d2, d3, d4, c0⟩
 rw [B1] at b5
 refine Z3 (Z0 ?_)
 refine V7 (k := .i64) (a := a3) (b := 8) (by exact c0) rfl rfl (Z1 (Z3 ?_))
 by_cases e6 : a3 < 8
 rw [if_pos e6] at b5
 refine Y0 (bT e6 rfl) (Y7 (Z3 (Y8 (Z3 (Z0 (Z4 (vI a3) (by exact c0) rfl ?_))))))
 refine Yj5 (vI (Y5 (rd a5 a1) a3)) Zi8 (by exact d4) (by exact c0) (by omega) (by omega) (Yh8 (by omega) (by omega)) rfl (Z5 (vI a3) rfl rfl (Z5 (vI (Y5 (rd a5 a1) a3)) rfl rfl (Z1 (Z3 (Z3 (Z0 (Z4 (vI (Y5 (rd a5 a1) a3)) rfl rfl ?_)))))))
 refine Zf8 (k := .i64) (a := (Y5 (rd a5 a1) a3)) (b := 20) rfl rfl rfl (Z1 ?_)
 by_cases e7 : 20 < (Y5 (rd a5 a1) a3)
 rw [if_pos e7] at b5
 refine Y0 (bT e7 rfl) (Z3 (Z0 ?_))
 refine Q1 (vA ([vN])) Yi3 rfl ?_
 have hS := hS.perm Yv8
 refine W0 (v := vA ([vN])) (vs := ([vN]).toArray) (cs := ([vN]).toArray) T1 (by exact c2) rfl rfl hS rfl (T8 rfl) rfl ?_
 intro p3 hS
 have hS := hS.perm Yv8.symm
 refine Z5 (vI 3) rfl rfl (Z1 ?_)
 refine X0 (vs := [vA ([vN]), vI 3]) Tryz.func91 ⟨⟨_, (by exact c2), U5 T1 (hS.get (mR (mR (mR (mR mL))))) rfl⟩, rfl, trivial⟩ ?_
 have hz := Option.some.inj b5
 subst hz
 dsimp only [Ex.elim] at c5
 have hz := Option.some.inj c5
 subst hz
 dsimp only [Ex.elim] at e4
 have hz := Option.some.inj e4
 subst hz
 exact ⟨_, _, rfl, Z2, (St.dropA (St.dropA (St.dropA (St.dropA (St.dropA hS))))), ⟨_, _, rfl, ⟨_, rfl, ⟨_, rfl, Y1.nil⟩⟩, rfl⟩⟩
 rw [if_neg e7] at b5
 refine Z8 (bF e7 rfl) (Y7 (Z0 (Z4 (vI a3) rfl rfl (Z4 (vI (Y5 (rd a5 a1) a3)) rfl rfl ?_))))
 refine Yh0 (s := .i64) ((IntKind.u8.wrap (Y5 (rd a5 a1) a3))) Wa6 rfl rfl rfl ?_
 refine V5 Zd3 (by exact c6) rfl (by omega) (by omega) rfl ?_
 refine Za5 (v := Value.int .u8 (IntKind.u8.wrap (Y5 (rd a5 a1) a3))) (cs := (Z7 .u8 b0).toArray) (cs' := (Z7 .u8 (S3 b0 a3 (IntKind.u8.wrap (Y5 (rd a5 a1) a3)))).toArray) ty5 rfl rfl hS rfl (Zz4 rfl) (by simp [Z7, N7]; omega) (Zi5 (by omega) (by omega)) ?_
 intro p4 hS
 refine Z1 (X2 (Z0 ?_))
 refine W8 (a3 + 1) (by exact c0) rfl (IntWalk.i64_in _ (by omega)) rfl (Z4 (vI (a3 + 1)) rfl rfl (Z1 ?_))
 exact k4 _ _ ⟨(a3 + 1), (S3 b0 a3 (IntKind.u8.wrap (Y5 (rd a5 a1) a3))), g7, b5, Z2, hS, (by omega), b7, b4, a9, d8, c2, d9, e0, c6, d1, d2, d3, d4, rfl⟩
 rw [if_neg e6] at b5
 refine Z8 (bF e6 rfl) ?_
 refine W4 rfl ?_
 have hz := Option.some.inj b5
 subst hz
 exact k5 _ _ ⟨b0, g7, rfl, Z2, hS, b7, b4, a9, d8, c2, d9, e0, c6, d1, d2, d3⟩
 exact ⟨0, (fun _ => 0), g5, b5, Z2, hS, (by omega), b7, b4, a9, f7, d6, d7, rfl, rfl, c9, d0, c4, rfl, rfl⟩
 rintro m2 m3 ⟨a8, m4, rfl, Z2, hS, b7, b4, a9, e1, f8, e2, f9, g0, f0, f1, f2⟩
 dsimp only [Ex.elim] at c5
 have X5 := Z2
 refine U6 8 (P9 [(36, MP.eq (vP b6)), (37, MP.eq (a4)), (38, MP.eq (vA (Z7 .u8 a8))), (39, MP.eq (s0)), (40, MP.eq (vA (Z7 .i64 (rd a5 a1)))), (41, MP.eq (vI (R2 a0 (rd a5 a1)))), (42, MP.eq (vA (Z7 .u8 a8 ++ [vI (R2 a0 (rd a5 a1))]))), (43, MP.sl yT ([(a8, (R2 a0 (rd a5 a1)))]))]) [] mixed rfl rfl rfl hS (Z6 rfl ?_ (Z6 rfl ?_ (Z6 rfl ?_ (Z6 rfl ?_ (Z6 rfl ?_ (Z6 rfl ?_ (Z6 rfl ?_ (Z6 rfl ?_ U8)))))))) ?_
 intro p5 p6 k6 p7 i3 hS i4 m5 hcq
 have Z2 := Sub.refl k6
 have X8 := X5.trans i3
 refine Y3 U4 (evT (i4 4 rfl) e2) rfl ?_
 exact Z1 ⟨36, _, _, rfl, rfl, Z2, hS, rfl⟩
 intro p8 p9 k7 q1 i5 hS m6 i6 hcq
 have Z2 := Sub.refl k7
 have X8 := X5.trans i5
 refine Y4 (a4) Q7 (eM (i6 0 36 rfl rfl)) (hS.get (mR (mR (mR (mR mL))))) rfl rfl ?_
 exact Z1 ⟨37, _, _, rfl, rfl, Z2, hS, rfl⟩
 intro q2 q3 k8 q4 i7 hS i8 m7 hcq
 have Z2 := Sub.refl k8
 have X8 := X5.trans i7
 refine W2 N6 (evT (i8 7 rfl) g0) (hS.get (mR mL)) rfl rfl ?_
 exact Z1 ⟨38, _, _, rfl, rfl, Z2, hS, rfl⟩
 intro q5 q6 k9 q7 i9 hS j0 m8 hcq
 have Z2 := Sub.refl k9
 have X8 := X5.trans i9
 refine Z4 (s0) (evT (j0 0 rfl) e1) rfl ?_
 exact Z1 ⟨39, _, _, rfl, rfl, Z2, hS, rfl⟩
 intro q8 q9 l0 r0 j1 hS j2 m9 hcq
 have Z2 := Sub.refl l0
 have X8 := X5.trans j1
 refine W2 N4 (evT (j2 6 rfl) f9) (hS.get (mR (mR mL))) rfl rfl ?_
 exact Z1 ⟨40, _, _, rfl, rfl, Z2, hS, rfl⟩
 intro r1 r2 l1 r3 g8 hS n0 g9 hcq
 have Z2 := Sub.refl l1
 have X8 := X5.trans g8
 have b7 := b7.mono g8
 refine Wd0 (a := (rd a5 a1)) Zh5 (eM (g9 3 39 rfl rfl)) (eM (g9 4 40 rfl rfl)) b7 hS rfl ?_
 exact Z1 ⟨41, _, _, rfl, rfl, Z2, hS, rfl⟩
 intro r4 r5 l2 r6 j3 hS n1 h0 hcq
 have Z2 := Sub.refl l2
 have X8 := X5.trans j3
 refine Zt9 (Z7 .u8 a8 ++ [vI (R2 a0 (rd a5 a1))]) Xn4 (Ya6 (eM (h0 2 38 rfl rfl)) (eM (h0 5 41 rfl rfl))) (K5 rfl rfl rfl (Nat.le_of_ble_eq_true rfl) (K5 rfl rfl rfl (Nat.le_of_ble_eq_true rfl) (Zp6 rfl))) rfl ?_
 exact Z1 ⟨42, _, _, rfl, rfl, Z2, hS, rfl⟩
 intro r7 r8 l3 r9 j4 hS n2 j5 hcq
 have Z2 := Sub.refl l3
 have X8 := X5.trans j4
 refine Zd8 (τ := yT) R5 Yb1 rfl [vA (Z7 .u8 a8 ++ [vI (R2 a0 (rd a5 a1))])] [(a8, (R2 a0 (rd a5 a1)))] rfl rfl (Za3 (eM (j5 6 42 rfl rfl))) (Zn7 ⟨_, _, rfl, rfl, rfl⟩) (by decide) (by decide) hS rfl ?_
 intro n3 n4 n5 h3 hS h4
 have Z2 := Z2.trans h3
 exact Z1 ⟨43, _, _, rfl, rfl, Z2, hS, h4⟩
 intro n6 j6 h1 c7 hS c3 f5 hcq
 have hS : St h1 j6 ([(e9, cA (Z7 .u8 a8) 70)] ++ ([(e8, cA (Z7 .i64 (rd a5 a1)) 188)] ++ (a7 ++ ([(b6, cA ([a4]) 47)] ++ ([(b1, cA ([vN]) 47)] ++ L))))) := hS
 have Z2 := Z2.trans c7
 have b7 := b7.mono c7
 have b4 := b4.mono c7
 have a9 := a9.mono c7
 have h2 := evT (c3 4 rfl) e2
 obtain ⟨n7, j7, h5⟩ := gvS (f5 7 43 (by decide) rfl)
 obtain ⟨h6, c5⟩ := gd c5
 have hS := hS.perm Zb7
 refine F4 (τ := yT) Xg3 rfl (by exact (eM (f5 1 37 (by decide) rfl))) (by exact j7) a9 hS h5 h6 rfl ?_
 intro f3 n8 j8 f6 hS
 have hS := hS.perm Zb7.symm
 refine Y3 U4 (by exact h2) rfl ?_
 have hS := hS.perm Yf9
 refine Zg5 (v := f3) (cs := ([a4]).toArray) (cs' := ([f3]).toArray) Q7 rfl rfl hS f6.isOne rfl (Nat.le_of_ble_eq_true rfl) rfl ?_
 intro n9 hS
 have hS := hS.perm Yf9.symm
 refine Z1 (X2 (Z0 ?_))
 refine W8 (a1 + 1) (by exact (evT (c3 18 rfl) f2)) rfl (IntWalk.i64_in _ (by omega)) rfl (Z4 (vI (a1 + 1)) rfl rfl (Z1 ?_))
 have hS := St.dropA hS
 have hS := St.dropA hS
 exact k2 _ _ ⟨(a1 + 1), (a6 ++ [(a8, (R2 a0 (rd a5 a1)))]), h1, j8, f3, c5, Z2, hS, (by omega), f6, b7, b4, (evT (c3 0 rfl) e1), (evT (c3 2 rfl) f8), h2, (evT (c3 16 rfl) f0), (evT (c3 17 rfl) f1), rfl⟩
 rw [if_neg e5] at b8
 refine Z8 (bF e5 rfl) ?_
 refine W4 rfl ?_
 have hz := Option.some.inj b8
 subst hz
 exact k3 _ _ ⟨a6, g5, a7, a4, rfl, Z2, hS, a9, d6, d7⟩
 exact ⟨0, ([] : List (A8 × Int)), h8, ([]), (vN), b8, Z2, hS, (by omega), g3, b7, b4, rfl, rfl, rfl, rfl, rfl, rfl⟩
 rintro o0 o1 ⟨b3, o2, b9, b2, rfl, Z2, hS, c1, e3, g1⟩
 dsimp only [Ex.elim] at e4
 refine Z3 (Z0 ?_)
 refine W2 T1 (by exact g1) (hS.get (mR mL)) rfl rfl ?_
 have hS := hS.perm Zb7
 refine W0 (v := vA ([b2])) (vs := ([b2]).toArray) (cs := ([vN]).toArray) T1 (by exact e3) rfl rfl hS rfl (T8 c1.isOne) rfl ?_
 intro o3 hS
 have hS := hS.perm Zb7.symm
 refine Z5 (vI 0) rfl rfl (Z1 ?_)
 refine X0 (vs := [vA ([b2]), vI 0]) Tryz.func91 ⟨⟨_, (by exact e3), U5 T1 (hS.get (mR (mR mL))) rfl⟩, rfl, trivial⟩ ?_
 obtain ⟨j9, h7, hS, c8⟩ := V0.freezeF (τ := yT) (H0 := H) c1 hS Z2
 have l4 := Y1.old c8
 have c8 : RdF yT H j9 b2 b3 := c8
 have Z2 := Z2.trans h7
 have hz := Option.some.inj e4
 subst hz
 exact ⟨_, _, rfl, Z2, (St.dropA (St.dropA hS)), ⟨_, _, rfl, ⟨_, rfl, ⟨_, rfl, c8⟩⟩, rfl⟩⟩
def V9 (K : Nat) (a1 : (List Int)) (a5 : (A8 × Int)) : Nat → MpT → MpT → Option (Ex MpT (MpT))
 | 0, _, _ => none
 | k + 1, [], a3 => some (.go a3)
 | k + 1, c3 :: d9, a3 => ((B4 K a5.1 a1 c3.1).bind fun a7 => (if a7.2 = 0 then V9 K a1 a5 k d9 a3 else ((T4 K a3 a7.1 (((IntKind.i64.wrap ((IntKind.i64.wrap (a7.2 * a5.2)) * c3.2))).tmod 10007)).bind fun f6 => V9 K a1 a5 k d9 f6)))
theorem Yg7 {K : Nat} {a1 : (List Int)} {a5 : (A8 × Int)} {a3 : MpT} {k : Nat} {zp zq : MpT} {o : Ex MpT (MpT)} (hp : zp.Perm zq) (q : V9 K a1 a5 k zp a3 = some o) : V9 K a1 a5 k zq a3 = some o := by
 exact (Yd3 (K := K) (fun k zs s => V9 K a1 a5 k zs s) (by intros; rw [V9])
  (fun z => ⟨fun s => (B4 K a5.1 a1 z.1).bind fun r => if r.2 = 0 then some s else T4 K s r.1 (((IntKind.i64.wrap ((IntKind.i64.wrap (r.2 * a5.2)) * z.2))).tmod 10007), .const fun r => .ite .skip (.add _ _), by
   intro k zs s
   rw [V9]
   cases B4 K a5.1 a1 z.1 with
   | none => rfl
   | some r => simp only [Option.bind_some]; split <;> rfl⟩) hp k a3).symm.trans q
def S6 (K : Nat) (a1 : (List Int)) (a2 : MpT) : Nat → MpT → MpT → Option (Ex MpT (MpT))
 | 0, _, _ => none
 | k + 1, [], a4 => some (.go a4)
 | k + 1, a5 :: e0, a4 => ((V9 K a1 a5 K a2 a4).bind (Ex.elim (fun r => some (.ret r)) (fun s => (fun (b4 : MpT) => S6 K a1 a2 k e0 b4) s)))
theorem Yh1 {K : Nat} {a1 : (List Int)} {a2 : MpT} {a4 : MpT} {k : Nat} {zp zq : MpT} {o : Ex MpT (MpT)} (hp : zp.Perm zq) (q : S6 K a1 a2 k zp a4 = some o) : S6 K a1 a2 k zq a4 = some o := by
 have hl : ∀ (z : A8 × Int) (k : Nat) (zs : MpT), Zp8 K (fun (_ : Unit) s => s) (fun s => V9 K a1 z k zs s) := by
  intro z k
  induction k with
  | zero => intro zs; exact ⟨none, fun s => (show V9 K a1 z 0 zs s = none by rw [V9])⟩
  | succ k ih =>
   intro zs
   cases zs with
   | nil =>
    have e : (fun s => V9 K a1 z (k + 1) [] s) = fun s => some (.go s) := by funext s; rw [V9]
    rw [e]; exact .go (h := fun (_ : Unit) s => s) ()
   | cons y zs =>
    have e : (fun s => V9 K a1 z (k + 1) (y :: zs) s) = fun s => (B4 K z.1 a1 y.1).bind fun r => if r.2 = 0 then V9 K a1 z k zs s else (T4 K s r.1 (((IntKind.i64.wrap ((IntKind.i64.wrap (r.2 * z.2)) * y.2))).tmod 10007)).bind fun t => V9 K a1 z k zs t := by
     funext s; rw [V9]
    rw [e]
    exact .const fun r => .ite (ih zs) (.bind (.add _ _) (ih zs))
 exact (Yd3 (K := K) (fun k zs s => S6 K a1 a2 k zs s) (by intros; rw [S6])
  (fun z => by
   obtain ⟨F, hF, hs⟩ := (hl z K a2).step (fun s => s) (fun _ _ => rfl)
   refine ⟨F, hF, fun k zs s => ?_⟩
   rw [S6]
   exact hs _ (S6 K a1 a2 k zs) s) hp k a4).symm.trans q
def L1 (K : Nat) (a0 : MpT) (a1 : (List Int)) (a2 : MpT) : Option MpT := ((S6 K a1 a2 K a0 ([] : MpT)).bind (Ex.elim (fun r => some r) (fun s => (fun (b8 : MpT) => some b8) s)))
theorem Zn1 {K : Nat} {a0 : MpT} {a1 : (List Int)} {a2 : MpT} {r : MpT} (q0 : L1 K a0 a1 a2 = some r) {H : FH} {w : World} {L : OL} {s0 : Value} {s1 : Value} {s2 : Value} (h7 : Q0 .i64 H s0 a0) (b6 : Y1 (Y6 .i64) H s1 a1) (b7 : Q0 .i64 H s2 a2) (hS : St H w L) :
 Calls Tryz.prog 131 #[s0, s1, s2] w (Yp4 .i64 r H L) := by
 have Z2 := Sub.refl H
 refine X3 Tryz.func131 rfl Tryz.ntmps131 rfl ?_
 unfold L1 at q0
 refine Z3 (Z0 (Z5 (Value.map none) rfl rfl (Z1 (Z3 (Z0 ?_)))))
 refine Zj4 (k := .i64) hS rfl ?_
 intro m1 w2 C3 h8 hS
 refine Z5 (m1) rfl rfl (Z1 (Z3 (Z3 (Z0 (Z4 (s0) rfl rfl ?_)))))
 refine Yg3 Zh5 rfl h7 hS rfl ?_
 intro e1 w7 C8 h9 hS
 refine Z1 (Y8 ?_)
 obtain ⟨f7, b5, f8⟩ := bind_some q0
 refine W5 (id := 0) (fun k f w => ∃ (b9 : MpT) (a4 : MpT) (H1 : FH) (b0 : OL) (a8 : OL), S6 K a1 a2 k b9 a4 = some f7 ∧ Sub H H1 ∧ St H1 w (b0 ++ (a8 ++ L)) ∧ Ze8 .i64 H1 e1 b9 none b0 ∧ Q4 .i64 m1 a4 a8 ∧ Y1 (Y6 .i64) H1 s1 a1 ∧ Q0 .i64 H1 s2 a2 ∧ ev f (.tmp 1) = s1 ∧ ev f (.tmp 2) = s2 ∧ ev f (.tmp 7) = m1 ∧ ev f (.tmp 16) = e1) (fun f w => ∃ (b8 : MpT) (H1 : FH) (c4 : OL) (c8 : OL), f7 = .go b8 ∧ Sub H H1 ∧ St H1 w (c4 ++ (c8 ++ L)) ∧ Ze8 .i64 H1 e1 ([] : MpT) none c4 ∧ Q4 .i64 m1 b8 c8 ∧ ev f (.tmp 7) = m1) rfl ?_ ?_ K ?_ ?_
 rintro f w ⟨b9, a4, H1, b0, a8, b5, _⟩
 rw [S6] at b5; cases b5
 rintro k i9 j0 i0 i1 ⟨b9, a4, f9, b0, a8, b5, Z2, hS, d2, d8, b6, b7, f1, e3, e4, c9⟩
 refine Z3 (Z0 ?_)
 refine Yl3 (by exact c9) d2 hS rfl ?_ ?_
 intro g7; subst g7
 rw [S6] at b5
 refine W9 (Value.bool false) rfl rfl rfl (Z1 (Z3 (Z8 rfl ?_)))
 refine W4 rfl ?_
 have hz := Option.some.inj b5
 subst hz
 exact i1 _ _ ⟨a4, f9, b0, a8, rfl, Z2, hS, d2, d8, e4⟩
 intro a5 e0 j8 e6 g8 b3 hS
 replace b5 := Yh1 g8 b5
 rw [S6] at b5
 refine W9 (Value.bool true) rfl rfl rfl (Z1 (Z3 (Y0 rfl (Y7 (Y8 (Z3 (Z0 ?_)))))))
 refine Yg6 (by exact c9) b3 hS rfl (W9 (vA (Z7 .i64 a5.1)) rfl rfl rfl (W9 (vI a5.2) rfl rfl rfl ?_))
 refine V1 (z := vA (Z7 .i64 (fun _ => 0))) (Z7 .i64 (fun _ => 0)).toArray Zn3.zero rfl hS rfl ?_
 intro g0 j9 hS
 refine W0 (v := vA (Z7 .i64 a5.1)) (vs := (Z7 .i64 a5.1).toArray) (cs := (Z7 .i64 (fun _ => 0)).toArray) N4 rfl rfl rfl hS rfl (S9 .i64 a5.1) rfl ?_
 intro k0 hS
 refine Z5 (vI a5.2) rfl rfl (Z1 (Z3 (Z0 (Z4 (s2) (by exact e3) rfl ?_))))
 refine Yg3 Zh5 rfl b7 hS rfl ?_
 intro e9 k1 i2 g9 hS
 refine Z1 (Y8 ?_)
 obtain ⟨g1, a6, g2⟩ := bind_some b5
 refine W5 (id := 2) (fun k f w => ∃ (c0 : MpT) (a3 : MpT) (H1 : FH) (b1 : OL) (a9 : OL), V9 K a1 a5 k c0 a3 = some g1 ∧ Sub H H1 ∧ St H1 w (b1 ++ ([(g0, cA (Z7 .i64 a5.1) 188)] ++ (e6 ++ (a9 ++ L)))) ∧ Ze8 .i64 H1 e9 c0 none b1 ∧ Q4 .i64 m1 a3 a9 ∧ Y1 (Y6 .i64) H1 s1 a1 ∧ Q0 .i64 H1 s2 a2 ∧ Ze8 .i64 H1 e1 e0 (some a5) e6 ∧ ev f (.tmp 1) = s1 ∧ ev f (.tmp 2) = s2 ∧ ev f (.tmp 7) = m1 ∧ ev f (.tmp 8) = vP g0 ∧ ev f (.tmp 9) = vI a5.2 ∧ ev f (.tmp 16) = e1 ∧ ev f (.tmp 23) = e9) (fun f w => ∃ (b4 : MpT) (H1 : FH) (c5 : OL) (c1 : OL), g1 = .go b4 ∧ Sub H H1 ∧ St H1 w (c5 ++ ([(g0, cA (Z7 .i64 a5.1) 188)] ++ (e6 ++ (c1 ++ L)))) ∧ Ze8 .i64 H1 e9 ([] : MpT) none c5 ∧ Q4 .i64 m1 b4 c1 ∧ Y1 (Y6 .i64) H1 s1 a1 ∧ Q0 .i64 H1 s2 a2 ∧ Ze8 .i64 H1 e1 e0 (some a5) e6 ∧ ev f (.tmp 1) = s1 ∧ ev f (.tmp 2) = s2 ∧ ev f (.tmp 7) = m1 ∧ ev f (.tmp 16) = e1) rfl ?_ ?_ K ?_ ?_
 rintro f w ⟨c0, a3, H1, b1, a9, a6, _⟩
 rw [V9] at a6; cases a6
 rintro k j1 j2 g5 i3 ⟨c0, a3, h0, b1, a9, a6, Z2, hS, d3, b2, b6, b7, b3, c6, d4, c7, d5, d6, d0, c2⟩
 refine Z3 (Z0 ?_)
 refine Yl3 (by exact c2) d3 hS rfl ?_ ?_
 intro h1; subst h1
 rw [V9] at a6
 refine W9 (Value.bool false) rfl rfl rfl (Z1 (Z3 (Z8 rfl ?_)))
 refine W4 rfl ?_
 have hz := Option.some.inj a6
 subst hz
 exact i3 _ _ ⟨a3, h0, b1, a9, rfl, Z2, hS, d3, b2, b6, b7, b3, c6, d4, c7, d0⟩
 intro c3 d9 k2 g6 h2 d1 hS
 replace a6 := Yg7 h2 a6
 rw [V9] at a6
 refine W9 (Value.bool true) rfl rfl rfl (Z1 (Z3 (Y0 rfl (Y7 (Y8 (Z3 (Z0 ?_)))))))
 refine Yg6 (by exact c2) d1 hS rfl (W9 (vA (Z7 .i64 c3.1)) rfl rfl rfl (W9 (vI c3.2) rfl rfl rfl ?_))
 refine V1 (z := vA (Z7 .i64 (fun _ => 0))) (Z7 .i64 (fun _ => 0)).toArray Zn3.zero rfl hS rfl ?_
 intro k3 k4 hS
 refine W0 (v := vA (Z7 .i64 c3.1)) (vs := (Z7 .i64 c3.1).toArray) (cs := (Z7 .i64 (fun _ => 0)).toArray) N4 rfl rfl rfl hS rfl (S9 .i64 c3.1) rfl ?_
 intro k5 hS
 refine Z5 (vI c3.2) rfl rfl (Z1 (Z3 (Z0 ?_)))
 refine W2 N4 (by exact d5) (hS.get (mR (mR mL))) rfl rfl (Z4 (s1) (by exact c6) rfl ?_)
 refine W2 N4 rfl (hS.get mL) rfl rfl ?_
 obtain ⟨a7, h3, a6⟩ := bind_some a6
 refine Y9 Tryz.call224 (I6 rfl rfl rfl) rfl (Ym3 h3 b6 hS) ?_
 rintro k6 k7 ⟨_, i4, rfl, d7, hS, ⟨i7, i8, rfl, ⟨_, rfl, rfl⟩, rfl⟩⟩
 refine ⟨_, rfl, ?_⟩
 have Z2 := Z2.trans d7
 have b6 := b6.mono d7
 have b7 := b7.mono d7
 have b2 := b2.mono d7
 have b3 := b3.mono d7
 have d1 := d1.mono d7
 refine Z4 (Value.tuple #[vA (Z7 .i64 a7.1), vI a7.2]) rfl rfl (W9 (vA (Z7 .i64 a7.1)) rfl rfl rfl (W9 (vI a7.2) rfl rfl rfl ?_))
 refine V1 (z := vA (Z7 .i64 (fun _ => 0))) (Z7 .i64 (fun _ => 0)).toArray Zn3.zero rfl hS rfl ?_
 intro k8 k9 hS
 refine W0 (v := vA (Z7 .i64 a7.1)) (vs := (Z7 .i64 a7.1).toArray) (cs := (Z7 .i64 (fun _ => 0)).toArray) N4 rfl rfl rfl hS rfl (S9 .i64 a7.1) rfl ?_
 intro l0 hS
 refine Z5 (vI a7.2) rfl rfl (Z1 (Z3 (Z0 (Z4 (vI a7.2) rfl rfl ?_))))
 refine J2 (k := .i64) (a := a7.2) (b := 0) rfl rfl rfl (Z1 ?_)
 by_cases e5 : a7.2 = 0
 rw [if_pos e5] at a6
 refine Z8 (bN e5 rfl) (Y7 (X2 ?_))
 have hS := St.dropA hS
 have hS := St.dropA hS
 exact g5 _ _ ⟨d9, a3, i4, g6, a9, a6, Z2, hS, d1.drop, b2, b6, b7, b3, c6, d4, c7, d5, d6, d0, c2⟩
 rw [if_neg e5] at a6
 refine Y0 (bO e5 rfl) (Z0 (Z4 (m1) (by exact c7) rfl ?_))
 refine W2 N4 rfl (hS.get mL) rfl rfl (Z4 (vI a7.2) rfl rfl (Z4 (vI a5.2) (by exact d6) rfl ?_))
 refine Zo2 (IntKind.i64.wrap (a7.2 * a5.2)) rfl rfl rfl rfl (Z4 (vI c3.2) rfl rfl ?_)
 refine Zo2 (IntKind.i64.wrap ((IntKind.i64.wrap (a7.2 * a5.2)) * c3.2)) rfl rfl rfl rfl ?_
 refine Zh4 (((IntKind.i64.wrap ((IntKind.i64.wrap (a7.2 * a5.2)) * c3.2))).tmod 10007) rfl rfl (by decide) rfl rfl ?_
 obtain ⟨f6, h4, a6⟩ := bind_some a6
 have hS := hS.perm Yj0
 refine Y9 Tryz.call225 (I6 rfl rfl rfl) rfl (Ye9 h4 b2 hS) ?_
 rintro l1 l2 ⟨i5, i6, rfl, e2, hS, h5⟩
 refine ⟨_, rfl, ?_⟩
 have Z2 := Z2.trans e2
 have b6 := b6.mono e2
 have b7 := b7.mono e2
 have b3 := b3.mono e2
 have d1 := d1.mono e2
 have hS := hS.perm Yj0.symm
 refine Z1 (X2 ?_)
 have hS := St.dropA hS
 have hS := St.dropA hS
 exact g5 _ _ ⟨d9, f6, i5, g6, i6, a6, Z2, hS, d1.drop, h5, b6, b7, b3, c6, d4, c7, d5, d6, d0, c2⟩
 exact ⟨a2, a4, f9, i2, a8, a6, Z2, hS, g9, d8, b6, b7, b3, f1, e3, e4, rfl, rfl, c9, rfl⟩
 rintro j3 j4 ⟨b4, h6, c5, c1, rfl, Z2, hS, g3, e7, b6, b7, b3, f2, f3, f4, f0⟩
 dsimp only [Ex.elim] at g2
 refine X2 ?_
 have hS := St.dropA hS
 have hS := St.dropA hS
 exact i0 _ _ ⟨e0, b4, h6, e6, c1, g2, Z2, hS, b3.drop, e7, b6, b7, f2, f3, f4, f0⟩
 exact ⟨a0, ([] : MpT), H, C8, C3, b5, Z2, hS, h9, h8, b6, b7, rfl, rfl, rfl, rfl⟩
 rintro j5 j6 ⟨b8, j7, c4, c8, rfl, Z2, hS, g4, e8, f5⟩
 dsimp only [Ex.elim] at f8
 refine Z3 (Z0 (Z4 (m1) (by exact f5) rfl (Z5 (m1) rfl rfl (Z1 ?_))))
 refine X0 (vs := [m1]) Tryz.func131 ⟨rfl, trivial⟩ ?_
 have hS := hS.perm U1
 have hS := St.dropMid hS
 have hz := Option.some.inj f8
 subst hz
 exact ⟨_, _, _, rfl, Z2, hS, e8⟩
def G3 (K : Nat) (a1 : (List Int)) (a4 : Int) : Nat → Bool → Int → Option (Ex (List MpT) (Bool))
 | 0, _, _ => none
 | k + 1, b4, a5 => (if a5 < (a1.length : Int) then (if b4 = true then G3 K a1 a4 k true (a5 + 1) else G3 K a1 a4 k (decide ((rd a1 a5) = a4)) (a5 + 1)) else some (.go b4))
def F0 (K : Nat) (a0 : Int) (a1 : (List Int)) : Nat → Int → (List MpT) → Int → Option (Ex (List MpT) ((List MpT)))
 | 0, _, _, _ => none
 | k + 1, a4, a6, a9 => (if a4 < a0 then ((G3 K a1 a4 K false 0).bind (Ex.elim (fun r => some (.ret r)) (fun s => (fun (c1 : Bool) => (if c1 = true then (if a6.length + ([([] : List (A8 × Int))]).length ≤ 1099511627776 then F0 K a0 a1 k (IntKind.i64.wrap (a4 + 1)) (a6 ++ [([] : List (A8 × Int))]) a9 else none) else ((Zh6 K a9).bind fun d6 => (if a6.length + ([d6]).length ≤ 1099511627776 then F0 K a0 a1 k (IntKind.i64.wrap (a4 + 1)) (a6 ++ [d6]) (IntKind.i64.wrap (a9 + 1)) else none)))) s))) else some (.go a6))
def Zo5 (K : Nat) (a0 : Int) (a1 : (List Int)) : Option (List MpT) := ((F0 K a0 a1 K 0 ([] : List MpT) 0).bind (Ex.elim (fun r => some r) (fun s => (fun (b7 : (List MpT)) => some b7) s)))
theorem Yu1 {K : Nat} {a0 : Int} {a1 : (List Int)} {r : (List MpT)} (q0 : Zo5 K a0 a1 = some r) {H : FH} {w : World} {L : OL} {s0 : Value} (b0 : Y1 (Y6 .i64) H s0 a1) (hS : St H w L) :
 Calls Tryz.prog 80 #[vI a0, s0] w (Wo6 (X6 yT) 47 r H L) := by
 have Z2 := Sub.refl H
 refine X3 Tryz.func80 rfl Tryz.ntmps80 rfl ?_
 unfold Zo5 at q0
 refine Z3 (Z0 (Z5 (vN) rfl rfl (Z1 (Z3 (Z0 ?_)))))
 refine Zx2 (τ := (X6 yT)) I1 Zd2 rfl hS rfl ?_
 intro u1 w2 C3 g8 hS
 refine Z5 (u1) rfl rfl (Z5 (vI 0) rfl rfl (Z1 (Z3 (Z3 (Z0 (Z5 (vI 0) rfl rfl (Z1 (Y8 ?_))))))))
 obtain ⟨e8, b6, e9⟩ := bind_some q0
 refine W5 (id := 0) (fun k f w => ∃ (a4 : Int) (a6 : (List MpT)) (a9 : Int) (H1 : FH) (a8 : OL) (a7 : Value), F0 K a0 a1 k a4 a6 a9 = some e8 ∧ Sub H H1 ∧ St H1 w (a8 ++ L) ∧ V0 (X6 yT) 47 H1 a7 a6 a8 ∧ Y1 (Y6 .i64) H1 s0 a1 ∧ ev f (.tmp 0) = vI a0 ∧ ev f (.tmp 1) = s0 ∧ ev f (.tmp 5) = a7 ∧ ev f (.tmp 6) = vI a9 ∧ ev f (.tmp 7) = vI a4) (fun f w => ∃ (b7 : (List MpT)) (H1 : FH) (c2 : OL) (b1 : Value), e8 = .go b7 ∧ Sub H H1 ∧ St H1 w (c2 ++ L) ∧ V0 (X6 yT) 47 H1 b1 b7 c2 ∧ ev f (.tmp 5) = b1) rfl ?_ ?_ K ?_ ?_
 rintro f w ⟨a4, a6, a9, H1, a8, a7, b6, _⟩
 rw [F0] at b6; cases b6
 rintro k h6 h7 f4 g9 ⟨a4, a6, a9, f0, a8, a7, b6, Z2, hS, a3, b0, c7, e4, c8, e5, c9⟩
 rw [F0] at b6
 refine Z3 (Z3 (Z0 (Z4 (vI a4) (by exact c9) rfl (Z4 (vI a0) (by exact c7) rfl ?_))))
 refine V7 (k := .i64) (a := a4) (b := a0) rfl rfl rfl (Z1 ?_)
 by_cases e2 : a4 < a0
 rw [if_pos e2] at b6
 refine Y0 (bT e2 rfl) (Y7 (Z3 (Y8 (Z3 (Z0 (Z5 (Value.bool false) rfl rfl (Z1 (Z3 (Z3 (Z0 (Z5 (vI 0) rfl rfl (Z1 (Y8 ?_)))))))))))))
 obtain ⟨f1, b2, b5⟩ := bind_some b6
 refine W5 (id := 2) (fun k f w => ∃ (b4 : Bool) (a5 : Int) (H1 : FH), G3 K a1 a4 k b4 a5 = some f1 ∧ Sub H H1 ∧ St H1 w (a8 ++ L) ∧ 0 ≤ a5 ∧ Y1 (Y6 .i64) H1 s0 a1 ∧ V0 (X6 yT) 47 H1 a7 a6 a8 ∧ ev f (.tmp 0) = vI a0 ∧ ev f (.tmp 1) = s0 ∧ ev f (.tmp 5) = a7 ∧ ev f (.tmp 6) = vI a9 ∧ ev f (.tmp 7) = vI a4 ∧ ev f (.tmp 8) = Value.bool b4 ∧ ev f (.tmp 9) = vI a5) (fun f w => ∃ (c1 : Bool) (H1 : FH), f1 = .go c1 ∧ Sub H H1 ∧ St H1 w (a8 ++ L) ∧ Y1 (Y6 .i64) H1 s0 a1 ∧ V0 (X6 yT) 47 H1 a7 a6 a8 ∧ ev f (.tmp 0) = vI a0 ∧ ev f (.tmp 1) = s0 ∧ ev f (.tmp 5) = a7 ∧ ev f (.tmp 6) = vI a9 ∧ ev f (.tmp 7) = vI a4 ∧ ev f (.tmp 8) = Value.bool c1) rfl ?_ ?_ K ?_ ?_
 rintro f w ⟨b4, a5, H1, b2, _⟩
 rw [G3] at b2; cases b2
 rintro k h8 h9 f5 h0 ⟨b4, a5, d8, b2, Z2, hS, h1, b0, a3, c3, b8, c4, c5, b9, d0, c0⟩
 rw [G3] at b2
 refine Z3 (Z3 (Z0 (Z4 (vI a5) (by exact c0) rfl (Z4 (s0) (by exact b8) rfl ?_))))
 have i7 := b0.bound
 refine W7 Zo3 rfl b0 rfl ?_
 refine V7 (k := .i64) (a := a5) (b := (a1.length : Int)) rfl rfl rfl (Z1 ?_)
 by_cases e3 : a5 < (a1.length : Int)
 rw [if_pos e3] at b2
 refine Y0 (bT e3 rfl) (Y7 (Z3 (Y8 (Z0 (Z4 (Value.bool b4) (by exact d0) rfl (Z4 (Value.bool b4) rfl rfl ?_))))))
 by_cases b3 : b4 = true
 rw [if_pos b3] at b2
 refine Z9 rfl rfl (Eq.trans rfl (congrArg Value.bool b3)) rfl rfl rfl (Z9 rfl rfl (Eq.trans rfl (congrArg Value.bool b3)) rfl rfl rfl (Z9 rfl rfl (Eq.trans rfl (congrArg Value.bool b3)) rfl rfl rfl (Z9 rfl rfl (Eq.trans rfl (congrArg Value.bool b3)) rfl rfl rfl (Z9 rfl rfl (Eq.trans rfl (congrArg Value.bool b3)) rfl rfl rfl (Z9 rfl rfl (Eq.trans rfl (congrArg Value.bool b3)) rfl rfl rfl ?_)))))
 refine V2 (t := true) (Value.bool true) (Eq.trans rfl (congrArg Value.bool b3)) ((if_pos rfl).trans rfl) rfl (Z5 (Value.bool true) rfl rfl (Z1 (X2 (Z0 (Z4 (vI a5) (by exact c0) rfl ?_)))))
 refine W8 (a5 + 1) rfl rfl (IntWalk.i64_in _ (by omega)) rfl (Z5 (vI (a5 + 1)) rfl rfl (Z1 ?_))
 exact f5 _ _ ⟨true, (a5 + 1), d8, b2, Z2, hS, (by omega), b0, a3, c3, b8, c4, c5, b9, rfl, rfl⟩
 rw [if_neg b3] at b2
 refine Y2 rfl rfl (Eq.trans rfl (congrArg Value.bool (W1 b3))) (Z4 (s0) (by exact b8) rfl ?_)
 refine Y2 rfl rfl (Eq.trans rfl (congrArg Value.bool (W1 b3))) (Z4 (vI a5) (by exact c0) rfl ?_)
 obtain ⟨i8, i9, i0, j0, _, f8, f9, rfl, g0⟩ := b0.elem (i := a5) (by omega) (by omega)
 refine Y2 rfl rfl (Eq.trans rfl (congrArg Value.bool (W1 b3))) ?_
 refine W3 Zo3 rfl rfl f8 rfl (by omega) (by omega) rfl ?_
 refine Y2 rfl rfl (Eq.trans rfl (congrArg Value.bool (W1 b3))) ?_
 refine Y4 (vI (rd a1 a5)) ty3 rfl (hS.froz _ _ f9) (g0 0 (show 0 < 1 by decide)) rfl ?_
 refine Y2 rfl rfl (Eq.trans rfl (congrArg Value.bool (W1 b3))) (Z4 (vI a4) (by exact b9) rfl ?_)
 refine Y2 rfl rfl (Eq.trans rfl (congrArg Value.bool (W1 b3))) ?_
 refine Za4 (k := .i64) (a := (rd a1 a5)) (b := a4) rfl rfl rfl ?_
 refine V2 (t := false) (Value.bool (decide ((rd a1 a5) = a4))) (Eq.trans rfl (congrArg Value.bool (W1 b3))) ((if_neg Bool.false_ne_true).trans rfl) rfl (Z5 (Value.bool (decide ((rd a1 a5) = a4))) rfl rfl (Z1 (X2 (Z0 (Z4 (vI a5) (by exact c0) rfl ?_)))))
 refine W8 (a5 + 1) rfl rfl (IntWalk.i64_in _ (by omega)) rfl (Z5 (vI (a5 + 1)) rfl rfl (Z1 ?_))
 exact f5 _ _ ⟨(decide ((rd a1 a5) = a4)), (a5 + 1), d8, b2, Z2, hS, (by omega), b0, a3, c3, b8, c4, c5, b9, rfl, rfl⟩
 rw [if_neg e3] at b2
 refine Z8 (bF e3 rfl) ?_
 refine W4 rfl ?_
 have hz := Option.some.inj b2
 subst hz
 exact h0 _ _ ⟨b4, d8, rfl, Z2, hS, b0, a3, c3, b8, c4, c5, b9, d0⟩
 exact ⟨false, 0, f0, b2, Z2, hS, (by omega), b0, a3, c7, e4, c8, e5, c9, rfl, rfl⟩
 rintro i1 i2 ⟨c1, i3, rfl, Z2, hS, b0, a3, d1, d2, d3, c6, d4, e6⟩
 dsimp only [Ex.elim] at b5
 refine Z3 (Z3 (Z0 (Z4 (Value.bool c1) (by exact e6) rfl (Z1 ?_))))
 by_cases d5 : c1 = true
 rw [if_pos d5] at b5
 refine Y0 (Eq.trans rfl (congrArg Value.bool d5)) (Z3 (Z0 (Z4 (a7) (by exact d3) rfl ?_)))
 refine Q1 (vA ([vN])) Yi3 rfl ?_
 refine Zd8 (τ := (X6 yT)) I1 Zd2 rfl [vA ([vN])] [([] : List (A8 × Int))] rfl rfl (Za3 rfl) (Zn7 ⟨_, rfl, Y1.nil⟩) (by decide) (by decide) hS rfl ?_
 intro j1 h2 j2 d9 hS g1
 have Z2 := Z2.trans d9
 have b0 := b0.mono d9
 have a3 := a3.mono d9
 obtain ⟨g2, b5⟩ := gd b5
 refine F4 (τ := (X6 yT)) Xg9 rfl rfl rfl a3 hS g1 g2 rfl ?_
 intro f6 j3 h3 g3 hS
 refine Z5 (f6) rfl rfl (Z1 ?_)
 refine W4 rfl (Z0 (Z4 (vI a4) (by exact d4) rfl ?_))
 refine W8 (IntKind.i64.wrap (a4 + 1)) rfl rfl rfl rfl (Z5 (vI (IntKind.i64.wrap (a4 + 1))) rfl rfl (Z1 ?_))
 exact f4 _ _ ⟨(IntKind.i64.wrap (a4 + 1)), (a6 ++ [([] : List (A8 × Int))]), a9, h2, h3, f6, b5, Z2, hS, g3, b0, d1, d2, rfl, c6, rfl⟩
 rw [if_neg d5] at b5
 refine Z8 (Eq.trans rfl (congrArg Value.bool (W1 d5))) (Y7 (Z3 (Z0 (Z4 (a7) (by exact d3) rfl (Z4 (vI a9) (by exact c6) rfl ?_)))))
 obtain ⟨d6, g4, b5⟩ := bind_some b5
 refine Y9 Tryz.call169 (R0 rfl) rfl (Yk1 g4  hS) ?_
 rintro j4 j5 ⟨j6, j7, rfl, e0, hS, ⟨_, rfl, ⟨f3, rfl, f2⟩⟩⟩
 refine ⟨_, rfl, ?_⟩
 have Z2 := Z2.trans e0
 have b0 := b0.mono e0
 have a3 := a3.mono e0
 refine Zd8 (τ := (X6 yT)) I1 Zd2 rfl [vA ([f3])] [d6] rfl rfl (Za3 rfl) (Zn7 ⟨_, rfl, f2⟩) (by decide) (by decide) hS rfl ?_
 intro j8 h4 j9 e1 hS g5
 have Z2 := Z2.trans e1
 have b0 := b0.mono e1
 have a3 := a3.mono e1
 obtain ⟨g6, b5⟩ := gd b5
 refine F4 (τ := (X6 yT)) Xg9 rfl rfl rfl a3 hS g5 g6 rfl ?_
 intro f7 k0 h5 g7 hS
 refine Z5 (f7) rfl rfl (Z1 (Z0 (Z4 (vI a9) (by exact c6) rfl ?_)))
 refine W8 (IntKind.i64.wrap (a9 + 1)) rfl rfl rfl rfl (Z5 (vI (IntKind.i64.wrap (a9 + 1))) rfl rfl (Z1 (X2 (Z0 (Z4 (vI a4) (by exact d4) rfl ?_)))))
 refine W8 (IntKind.i64.wrap (a4 + 1)) rfl rfl rfl rfl (Z5 (vI (IntKind.i64.wrap (a4 + 1))) rfl rfl (Z1 ?_))
 exact f4 _ _ ⟨(IntKind.i64.wrap (a4 + 1)), (a6 ++ [d6]), (IntKind.i64.wrap (a9 + 1)), h4, h5, f7, b5, Z2, hS, g7, b0, d1, d2, rfl, rfl, rfl⟩
 rw [if_neg e2] at b6
 refine Z8 (bF e2 rfl) ?_
 refine W4 rfl ?_
 have hz := Option.some.inj b6
 subst hz
 exact g9 _ _ ⟨a6, f0, a8, a7, rfl, Z2, hS, a3, c8⟩
 exact ⟨0, ([] : List MpT), 0, H, C3, u1, b6, Z2, hS, g8, b0, rfl, rfl, rfl, rfl, rfl⟩
 rintro i4 i5 ⟨b7, i6, c2, b1, rfl, Z2, hS, d7, e7⟩
 dsimp only [Ex.elim] at e9
 refine Z3 (Z0 (Z4 (b1) (by exact e7) rfl (Z5 (b1) rfl rfl (Z1 ?_))))
 refine X0 (vs := [b1]) Tryz.func80 ⟨rfl, trivial⟩ ?_
 have hz := Option.some.inj e9
 subst hz
 exact ⟨_, _, _, rfl, Z2, hS, d7⟩
def B2 (K : Nat) (a0 : (List Int)) (a1 : MpT) : Nat → Int → MpT → Option (Ex MpT (MpT))
 | 0, _, _ => none
 | k + 1, a6, a3 => (if 0 < a6 then ((D9 K a0 a3 a1).bind fun c9 => B2 K a0 a1 k (IntKind.u8.wrap (a6 - 1)) c9) else some (.go a3))
def Zo7 (K : Nat) (a0 : (List Int)) (a1 : MpT) (a2 : Int) : Option MpT := ((J5 K (fun _ => 0) 1).bind fun r7 => ((B2 K a0 a1 K a2 r7).bind (Ex.elim (fun r => some r) (fun s => (fun (a7 : MpT) => some a7) s))))
theorem Ys3 {K : Nat} {a0 : (List Int)} {a1 : MpT} {a2 : Int} {r : MpT} (q0 : Zo7 K a0 a1 a2 = some r) {H : FH} {w : World} {L : OL} {s0 : Value} {s1 : Value} (b5 : Y1 (Y6 .i64) H s0 a0) (b0 : Y1 yT H s1 a1) (hS : St H w L) :
 Calls Tryz.prog 172 #[s0, vA ([s1]), Value.int .u8 a2] w (T2 (fun v G => (R.agg (X6 yT)).p G v r) H L) := by
 have Z2 := Sub.refl H
 refine X3 Tryz.func172 rfl Tryz.ntmps172 rfl ?_
 unfold Zo7 at q0
 refine Z3 (Z0 ?_)
 refine S4 (v := vA ([s1])) ([s1]).toArray rfl rfl hS rfl ?_
 intro b1 w2 hS
 refine V1 (z := vA ([vN])) ([vN]).toArray Zd2.zero rfl hS rfl ?_
 intro b4 w5 hS
 refine Z1 (Z3 (Z0 ?_))
 refine Q1 (vA (Z7 .u8 (fun _ => 0))) Xf7 rfl ?_
 obtain ⟨r7, d5, q0⟩ := bind_some q0
 refine Y9 Tryz.call170 (U7 rfl rfl) rfl (Zi2 d5  hS) ?_
 rintro e7 w8 ⟨v7, H7, rfl, d0, hS, ⟨_, rfl, ⟨c5, rfl, c7⟩⟩⟩
 refine ⟨_, rfl, ?_⟩
 have Z2 := Z2.trans d0
 have b5 := b5.mono d0
 have b0 := b0.mono d0
 refine V1 (z := vA ([vN])) ([vN]).toArray Zd2.zero rfl hS rfl ?_
 intro b9 e4 hS
 refine W0 (v := vA ([c5])) (vs := ([c5]).toArray) (cs := ([vN]).toArray) T1 rfl rfl rfl hS rfl (T8 c7.isOne) rfl ?_
 intro e5 hS
 refine Z1 (Z3 (Y8 ?_))
 obtain ⟨d1, a8, d2⟩ := bind_some q0
 refine W5 (id := 0) (fun k f w => ∃ (a6 : Int) (a3 : MpT) (H1 : FH) (a4 : Value), B2 K a0 a1 k a6 a3 = some d1 ∧ Sub H H1 ∧ St H1 w ([(b9, cA ([a4]) 47)] ++ ([(b4, cA ([vN]) 47)] ++ ([(b1, cA ([s1]) 47)] ++ L))) ∧ Y1 yT H1 a4 a3 ∧ Y1 (Y6 .i64) H1 s0 a0 ∧ Y1 yT H1 s1 a1 ∧ ev f (.tmp 0) = s0 ∧ ev f (.tmp 2) = Value.int .u8 a6 ∧ ev f (.tmp 4) = vP b1 ∧ ev f (.tmp 6) = vP b4 ∧ ev f (.tmp 7) = vP b9) (fun f w => ∃ (a7 : MpT) (H1 : FH) (a5 : Value), d1 = .go a7 ∧ Sub H H1 ∧ St H1 w ([(b9, cA ([a5]) 47)] ++ ([(b4, cA ([vN]) 47)] ++ ([(b1, cA ([s1]) 47)] ++ L))) ∧ Y1 yT H1 a5 a7 ∧ Y1 yT H1 s1 a1 ∧ ev f (.tmp 6) = vP b4 ∧ ev f (.tmp 7) = vP b9) rfl ?_ ?_ K ?_ ?_
 rintro f w ⟨a6, a3, H1, a4, a8, _⟩
 rw [B2] at a8; cases a8
 rintro k d9 e0 d6 d7 ⟨a6, a3, d3, a4, a8, Z2, hS, b2, b5, b0, b6, b7, b8, c0, a9⟩
 rw [B2] at a8
 refine Z3 (Z3 (Z0 (Z4 (Value.int .u8 a6) (by exact b7) rfl ?_)))
 refine Zf8 (k := .u8) (a := a6) (b := 0) rfl rfl rfl (Z1 ?_)
 by_cases c2 : 0 < a6
 rw [if_pos c2] at a8
 refine Y0 (bT c2 rfl) (Y7 (Z3 (Y8 (Z0 (Z4 (s0) (by exact b6) rfl ?_)))))
 refine W2 T1 (by exact a9) (hS.get mL) rfl rfl ?_
 refine W2 T1 (by exact b8) (hS.get (mR (mR mL))) rfl rfl ?_
 obtain ⟨c9, d4, a8⟩ := bind_some a8
 refine Y9 Tryz.call171 (I6 rfl rfl rfl) rfl (Zo4 d4 b5 b2 b0 hS) ?_
 rintro e6 e8 ⟨e9, d8, rfl, c6, hS, ⟨_, rfl, ⟨c3, rfl, c4⟩⟩⟩
 refine ⟨_, rfl, ?_⟩
 have Z2 := Z2.trans c6
 have b5 := b5.mono c6
 have b0 := b0.mono c6
 refine W0 (v := vA ([c3])) (vs := ([c3]).toArray) (cs := ([a4]).toArray) T1 (by exact a9) rfl rfl hS rfl (T8 c4.isOne) rfl ?_
 intro f0 hS
 refine Z1 (X2 (Z0 (Z4 (Value.int .u8 a6) (by exact b7) rfl ?_)))
 refine Yc4 (IntKind.u8.wrap (a6 - 1)) rfl rfl rfl rfl (Z5 (Value.int .u8 (IntKind.u8.wrap (a6 - 1))) rfl rfl (Z1 ?_))
 exact d6 _ _ ⟨(IntKind.u8.wrap (a6 - 1)), c9, d8, c3, a8, Z2, hS, c4, b5, b0, b6, rfl, b8, c0, a9⟩
 rw [if_neg c2] at a8
 refine Z8 (bF c2 rfl) ?_
 refine W4 rfl ?_
 have hz := Option.some.inj a8
 subst hz
 exact d7 _ _ ⟨a3, d3, a4, rfl, Z2, hS, b2, b0, c0, a9⟩
 exact ⟨a2, r7, H7, c5, a8, Z2, hS, c7, b5, b0, rfl, rfl, rfl, rfl, rfl⟩
 rintro e1 e2 ⟨a7, e3, a5, rfl, Z2, hS, b3, b0, c1, c8⟩
 dsimp only [Ex.elim] at d2
 refine Z3 (Z0 ?_)
 refine W2 T1 (by exact c8) (hS.get mL) rfl rfl ?_
 have hS := hS.perm U1
 refine W0 (v := vA ([a5])) (vs := ([a5]).toArray) (cs := ([vN]).toArray) T1 (by exact c1) rfl rfl hS rfl (T8 b3.isOne) rfl ?_
 intro f1 hS
 have hS := hS.perm U1.symm
 refine Z1 ?_
 refine X0 (vs := [vA ([a5])]) Tryz.func172 ⟨⟨_, (by exact c1), U5 T1 (hS.get (mR mL)) rfl⟩, trivial⟩ ?_
 have hz := Option.some.inj d2
 subst hz
 exact ⟨_, _, rfl, Z2, (St.dropA (St.dropA (St.dropA hS))), ⟨_, rfl, ⟨_, rfl, b3⟩⟩⟩
def U2 (K : Nat) (a2 : Int) : Nat → MpT → MpT → Option (Ex MpT (MpT))
 | 0, _, _ => none
 | k + 1, [], a3 => some (.go a3)
 | k + 1, z7 :: b8, a3 => ((T4 K a3 z7.1 (((IntKind.i64.wrap (z7.2 * a2))).tmod 10007)).bind fun b9 => U2 K a2 k b8 b9)
theorem Yf4 {K : Nat} {a2 : Int} {a3 : MpT} {k : Nat} {zp zq : MpT} {o : Ex MpT (MpT)} (hp : zp.Perm zq) (q : U2 K a2 k zp a3 = some o) : U2 K a2 k zq a3 = some o := by
 exact (Yd3 (K := K) (fun k zs s => U2 K a2 k zs s) (by intros; rw [U2])
  (fun z => ⟨fun s => T4 K s z.1 (((IntKind.i64.wrap (z.2 * a2))).tmod 10007), .add _ _, by intros; rw [U2]⟩) hp k a3).symm.trans q
def Q5 (K : Nat) (a0 : MpT) (a1 : MpT) (a2 : Int) : Option MpT := ((U2 K a2 K a1 a0).bind (Ex.elim (fun r => some r) (fun s => (fun (a7 : MpT) => some a7) s)))
theorem Zs7 {K : Nat} {a0 : MpT} {a1 : MpT} {a2 : Int} {r : MpT} (q0 : Q5 K a0 a1 a2 = some r) {H : FH} {w : World} {L C0 : OL} {s0 : Value} {s1 : Value} (c9 : Q4 .i64 s0 a0 C0) (d0 : Q0 .i64 H s1 a1) (hS : St H w (C0 ++ L)) :
 Calls Tryz.prog 132 #[s0, s1, vI a2] w (Wn6 .i64 s0 r H L) := by
 have Z2 := Sub.refl H
 refine X3 Tryz.func132 rfl Tryz.ntmps132 rfl ?_
 unfold Q5 at q0
 refine Z3 (Z0 (Z4 (s1) rfl rfl ?_))
 refine Yg3 Zh5 rfl d0 hS rfl ?_
 intro c0 w2 C3 d1 hS
 refine Z1 (Y8 ?_)
 obtain ⟨c1, a4, c2⟩ := bind_some q0
 refine W5 (id := 0) (fun k f w => ∃ (a8 : MpT) (a3 : MpT) (H1 : FH) (a5 : OL) (a6 : OL), U2 K a2 k a8 a3 = some c1 ∧ Sub H H1 ∧ St H1 w (a5 ++ (a6 ++ L)) ∧ Ze8 .i64 H1 c0 a8 none a5 ∧ Q4 .i64 s0 a3 a6 ∧ ev f (.tmp 0) = s0 ∧ ev f (.tmp 2) = vI a2 ∧ ev f (.tmp 9) = c0) (fun f w => ∃ (a7 : MpT) (H1 : FH) (a9 : OL) (b0 : OL), c1 = .go a7 ∧ Sub H H1 ∧ St H1 w (a9 ++ (b0 ++ L)) ∧ Ze8 .i64 H1 c0 ([] : MpT) none a9 ∧ Q4 .i64 s0 a7 b0) rfl ?_ ?_ K ?_ ?_
 rintro f w ⟨a8, a3, H1, a5, a6, a4, _⟩
 rw [U2] at a4; cases a4
 rintro k d8 d9 d2 d3 ⟨a8, a3, c5, a5, a6, a4, Z2, hS, b2, b3, b4, b5, b1⟩
 refine Z3 (Z0 ?_)
 refine Yl3 (by exact b1) b2 hS rfl ?_ ?_
 intro d4; subst d4
 rw [U2] at a4
 refine W9 (Value.bool false) rfl rfl rfl (Z1 (Z3 (Z8 rfl ?_)))
 refine W4 rfl ?_
 have hz := Option.some.inj a4
 subst hz
 exact d3 _ _ ⟨a3, c5, a5, a6, rfl, Z2, hS, b2, b3⟩
 intro z7 b8 w9 d5 c6 b6 hS
 replace a4 := Yf4 c6 a4
 rw [U2] at a4
 refine W9 (Value.bool true) rfl rfl rfl (Z1 (Z3 (Y0 rfl (Y7 (Y8 (Z3 (Z0 ?_)))))))
 refine Yg6 (by exact b1) b6 hS rfl (W9 (vA (Z7 .i64 z7.1)) rfl rfl rfl (W9 (vI z7.2) rfl rfl rfl ?_))
 refine V1 (z := vA (Z7 .i64 (fun _ => 0))) (Z7 .i64 (fun _ => 0)).toArray Zn3.zero rfl hS rfl ?_
 intro e3 e4 hS
 refine W0 (v := vA (Z7 .i64 z7.1)) (vs := (Z7 .i64 z7.1).toArray) (cs := (Z7 .i64 (fun _ => 0)).toArray) N4 rfl rfl rfl hS rfl (S9 .i64 z7.1) rfl ?_
 intro e5 hS
 refine Z5 (vI z7.2) rfl rfl (Z1 (Z0 (Z4 (s0) (by exact b4) rfl ?_)))
 refine W2 N4 rfl (hS.get mL) rfl rfl (Z4 (vI z7.2) rfl rfl (Z4 (vI a2) (by exact b5) rfl ?_))
 refine Zo2 (IntKind.i64.wrap (z7.2 * a2)) rfl rfl rfl rfl ?_
 refine Zh4 (((IntKind.i64.wrap (z7.2 * a2))).tmod 10007) rfl rfl (by decide) rfl rfl ?_
 obtain ⟨b9, c7, a4⟩ := bind_some a4
 have hS := hS.perm Zb7
 refine Y9 Tryz.call225 (I6 rfl rfl rfl) rfl (Ye9 c7 b3 hS) ?_
 rintro e6 e7 ⟨d6, d7, rfl, c3, hS, c8⟩
 refine ⟨_, rfl, ?_⟩
 have Z2 := Z2.trans c3
 have b6 := b6.mono c3
 have hS := hS.perm Zb7.symm
 refine Z1 (X2 ?_)
 have hS := St.dropA hS
 exact d2 _ _ ⟨b8, b9, d6, d5, d7, a4, Z2, hS, b6.drop, c8, b4, b5, b1⟩
 exact ⟨a1, a0, H, C3, C0, a4, Z2, hS, d1, c9, rfl, rfl, rfl⟩
 rintro e0 e1 ⟨a7, e2, a9, b0, rfl, Z2, hS, c4, b7⟩
 dsimp only [Ex.elim] at c2
 refine Xg0 (vs := []) Tryz.func132 trivial ?_
 have hS := hS.perm U1
 have hS := St.dropMid hS
 have hz := Option.some.inj c2
 subst hz
 exact ⟨_, _, rfl, Z2, hS, b7⟩
def Zm5 (K : Nat) (a0 : ((List Int) × (List MpT))) (a1 : Int) : Option Int := ((Zu5 K a0.1 a1).bind fun r4 => (if r4 < 0 then some (-1) else ((Zw7 K a0.2 r4).bind fun r7 => (if r7 < 0 then some (-1) else some r7))))
theorem Yr0 {K : Nat} {a0 : ((List Int) × (List MpT))} {a1 : Int} {r : Int} (q0 : Zm5 K a0 a1 = some r) {H : FH} {w : World} {L : OL} {s0 : Value} {s1 : Value} (a7 : Y1 (Y6 .i64) H s0 a0.1) (a5 : Y1 (X6 yT) H s1 a0.2) (hS : St H w L) :
 Calls Tryz.prog 15 #[vA ([s0] ++ [s1]), vI a1] w (T2 (fun v G => (R.int .i64).p G v r) H L) := by
 have Z2 := Sub.refl H
 refine X3 Tryz.func15 rfl Tryz.ntmps15 rfl ?_
 unfold Zm5 at q0
 refine Z3 (Z0 ?_)
 refine S4 (v := vA ([s0] ++ [s1])) ([s0] ++ [s1]).toArray rfl rfl hS rfl ?_
 intro b1 w2 hS
 refine Z5 (vI 0) rfl rfl (Z1 (Z3 (Z0 (Y3 Xw7 rfl rfl ?_))))
 refine Y4 (s0) K9 rfl (hS.get mL) rfl rfl (Z4 (vI a1) rfl rfl ?_)
 obtain ⟨r4, a8, q0⟩ := bind_some q0
 refine Y9 Tryz.call77 (U7 rfl rfl) rfl (Yt6 a8 a7 hS) ?_
 rintro e4 w5 ⟨_, H4, rfl, a6, hS, rfl⟩
 refine ⟨_, rfl, ?_⟩
 have Z2 := Z2.trans a6
 have a5 := a5.mono a6
 refine Z5 (vI r4) rfl rfl (Z1 (Z3 (Z3 (Z0 (Z4 (vI r4) rfl rfl ?_)))))
 refine V7 (k := .i64) (a := r4) (b := 0) rfl rfl rfl (Z1 ?_)
 by_cases a3 : r4 < 0
 rw [if_pos a3] at q0
 refine Y0 (bT a3 rfl) (Z3 (Z0 (Z5 (vI (-1)) rfl rfl (Z1 ?_))))
 refine X0 (vs := [vI (-1)]) Tryz.func15 ⟨rfl, trivial⟩ ?_
 have hz := Option.some.inj q0
 subst hz
 exact ⟨_, _, rfl, Z2, (St.dropA hS), rfl⟩
 rw [if_neg a3] at q0
 refine Z8 (bF a3 rfl) (Y7 (Z3 (Z0 (Y3 Xv4 rfl rfl ?_))))
 refine Y4 (s1) Ww5 rfl (hS.get mL) rfl rfl (Z4 (vI r4) rfl rfl ?_)
 obtain ⟨r7, a9, q0⟩ := bind_some q0
 refine Y9 Tryz.call33 (U7 rfl rfl) rfl (Yw9 a9 a5 hS) ?_
 rintro e7 w8 ⟨_, H7, rfl, b0, hS, rfl⟩
 refine ⟨_, rfl, ?_⟩
 have Z2 := Z2.trans b0
 refine Z5 (vI r7) rfl rfl (Z1 (Z3 (Z3 (Z0 (Z4 (vI r7) rfl rfl ?_)))))
 refine V7 (k := .i64) (a := r7) (b := 0) rfl rfl rfl (Z1 ?_)
 by_cases a4 : r7 < 0
 rw [if_pos a4] at q0
 refine Y0 (bT a4 rfl) (Z3 (Z0 (Z5 (vI (-1)) rfl rfl (Z1 ?_))))
 refine X0 (vs := [vI (-1)]) Tryz.func15 ⟨rfl, trivial⟩ ?_
 have hz := Option.some.inj q0
 subst hz
 exact ⟨_, _, rfl, Z2, (St.dropA hS), rfl⟩
 rw [if_neg a4] at q0
 refine Z8 (bF a4 rfl) (Y7 (Z3 (Z0 (Z4 (vI r7) rfl rfl (Z5 (vI r7) rfl rfl (Z1 ?_))))))
 refine X0 (vs := [vI r7]) Tryz.func15 ⟨rfl, trivial⟩ ?_
 have hz := Option.some.inj q0
 subst hz
 exact ⟨_, _, rfl, Z2, (St.dropA hS), rfl⟩
end Go.Proofs.YtfodlhkoafhplaaGreat
