/- Walks of functions: each computes its pure function, if that gives a value. -/
import Derived.Test.YtfodlhkoafhplaaGreatUTy
import Derived.Test.YtfodlhkoafhplaaGreatUF8
import Derived.Test.YtfodlhkoafhplaaGreatUF1
import Derived.Test.YtfodlhkoafhplaaGreatUF7
import Derived.Test.YtfodlhkoafhplaaGreatUF9
import Derived.Test.YtfodlhkoafhplaaGreatUF6
import Derived.Test.YtfodlhkoafhplaaGreatUS3
import Derived.Test.YtfodlhkoafhplaaGreatUF3
namespace Go.Proofs.YtfodlhkoafhplaaGreat
open Go
set_option linter.unusedSimpArgs false
set_option linter.unusedVariables false
set_option maxRecDepth 100000
set_option maxHeartbeats 8000000
def G8 (K : Nat) (a5 : (List A8)) (a1 : Int) : Nat → Int → A8 → Option (Ex (MpT × Int) (A8))
 | 0, _, _ => none
 | k + 1, a3, b0 => (if a3 < 8 then (if 20 < (Y5 (rd a5 a1) a3) then some (.ret (([] : List (A8 × Int)), 3)) else G8 K a5 a1 k (a3 + 1) (T7 b0 a3 (IntKind.u8.wrap (Y5 (rd a5 a1) a3)))) else some (.go b0))
def F1 (K : Nat) (a0 : MpT) (a5 : (List A8)) : Nat → Int → MpT → Option (Ex (MpT × Int) (MpT))
 | 0, _, _ => none
 | k + 1, a1, a6 => (if a1 < (a5.length : Int) then ((G8 K a5 a1 K 0 (fun _ => 0)).bind (Ex.elim (fun r => some (.ret r)) (fun s => (fun (a8 : A8) => (if a6.length + ([(a8, (N9 a0 (rd a5 a1)))]).length ≤ 1099511627776 then F1 K a0 a5 k (a1 + 1) (a6 ++ [(a8, (N9 a0 (rd a5 a1)))]) else none)) s))) else some (.go a6))
def Zc7 (K : Nat) (a0 : MpT) : Option (MpT × Int) := (if 400 < (a0.length : Int) then some (([] : List (A8 × Int)), 3) else ((Zk4 K a0).bind fun a5 => ((F1 K a0 a5 K 0 ([] : List (A8 × Int))).bind (Ex.elim (fun r => some r) (fun s => (fun (b3 : MpT) => some (b3, 0)) s)))))
theorem Yi1 {K : Nat} {a0 : MpT} {r : (MpT × Int)} (q0 : Zc7 K a0 = some r) {H : FH} {w : World} {L : OL} {s0 : Value} (b7 : R8 .i64 H s0 a0) (hS : St H w L) :
 Calls Tryz.prog 91 #[s0] w (S3 (fun v G => (R.t2 (R.agg (W0 yT)) (R.int .i64)).p (G.new H) v r) H L) := by
 have Z2 := Sub.refl H
 refine X2 Tryz.func91 rfl Tryz.ntmps91 rfl ?_
 unfold Zc7 at q0
 refine Z3 (Z1 ?_)
 refine V0 (z := vA ([vN])) ([vN]).toArray Ze9.zero rfl hS rfl ?_
 intro b1 w2 hS
 refine Z5 (vI 0) rfl rfl (Z0 (Z3 (Z3 (Z1 (Z4 (s0) rfl rfl ?_)))))
 refine Xq0 Zj6 rfl b7 hS rfl ?_
 refine Zd2 (k := .i64) (a := (a0.length : Int)) (b := 400) rfl rfl rfl (Z0 ?_)
 by_cases f4 : 400 < (a0.length : Int)
 rw [if_pos f4] at q0
 refine Y0 (bT f4 rfl) (Z3 (Z1 ?_))
 refine Q6 (vA ([vN])) Yg4 rfl ?_
 refine X8 (v := vA ([vN])) (vs := ([vN]).toArray) (cs := ([vN]).toArray) T3 rfl rfl rfl hS rfl (S2 rfl) rfl ?_
 intro w5 hS
 refine Z5 (vI 3) rfl rfl (Z0 ?_)
 refine Y9 (vs := [vA ([vN]), vI 3]) Tryz.func91 ⟨⟨_, rfl, U6 T3 (hS.get mL) rfl⟩, rfl, trivial⟩ ?_
 have hz := Option.some.inj q0
 subst hz
 exact ⟨_, _, rfl, Z2, (St.dropA hS), ⟨_, _, rfl, ⟨_, rfl, ⟨_, rfl, Y2.nil⟩⟩, rfl⟩⟩
 rw [if_neg f4] at q0
 refine Z9 (bF f4 rfl) (Y6 (Z3 (Z1 ?_)))
 refine Q6 (vA ([vN])) Yg4 rfl ?_
 refine V0 (z := vA ([vN])) ([vN]).toArray Ze9.zero rfl hS rfl ?_
 intro b6 w7 hS
 refine X8 (v := vA ([vN])) (vs := ([vN]).toArray) (cs := ([vN]).toArray) T3 rfl rfl rfl hS rfl (S2 rfl) rfl ?_
 intro w9 hS
 refine Z0 (Z3 (Z3 (Z1 (Z4 (s0) rfl rfl ?_))))
 obtain ⟨a5, h9, q0⟩ := bind_some q0
 refine X0 Tryz.call177 (M0 rfl) rfl (Yg6 h9 b7 hS) ?_
 rintro o4 o5 ⟨d5, h8, rfl, g2, hS, b4⟩
 refine ⟨_, rfl, ?_⟩
 have Z2 := Z2.trans g2
 have b7 := b7.mono g2
 have l5 := b4.bound
 refine W6 Yy4 rfl b4 rfl (Z4 (vI 0) rfl rfl (Z0 (Y7 ?_)))
 have g3 : V1 yT 76 h8 (.slice none 0 0) [] [] := V1.nil _ _ _
 obtain ⟨g4, b8, e4⟩ := bind_some q0
 refine W7 (id := 0) (fun k f w => ∃ (a1 : Int) (a6 : MpT) (H1 : FH) (a7 : OL) (a4 : Value), F1 K a0 a5 k a1 a6 = some g4 ∧ Sub H H1 ∧ St H1 w (a7 ++ ([(b6, cA ([a4]) 47)] ++ ([(b1, cA ([vN]) 47)] ++ L))) ∧ 0 ≤ a1 ∧ V1 yT 76 H1 a4 a6 a7 ∧ R8 .i64 H1 s0 a0 ∧ Y2 (Zl2 .i64) H1 d5 a5 ∧ ev f (.tmp 0) = s0 ∧ ev f (.tmp 2) = vP b1 ∧ ev f (.tmp 4) = vP b6 ∧ ev f (.tmp 16) = d5 ∧ ev f (.tmp 17) = vI (a5.length : Int) ∧ ev f (.tmp 18) = vI a1) (fun f w => ∃ (b3 : MpT) (H1 : FH) (b9 : OL) (b2 : Value), g4 = .go b3 ∧ Sub H H1 ∧ St H1 w (b9 ++ ([(b6, cA ([b2]) 47)] ++ ([(b1, cA ([vN]) 47)] ++ L))) ∧ V1 yT 76 H1 b2 b3 b9 ∧ ev f (.tmp 2) = vP b1 ∧ ev f (.tmp 4) = vP b6) rfl ?_ ?_ K ?_ ?_
 rintro f w ⟨a1, a6, H1, a7, a4, b8, _⟩
 rw [F1] at b8; cases b8
 rintro k l6 l7 k2 k3 ⟨a1, a6, g5, a7, a4, b8, Z2, hS, k0, a9, b7, b4, f7, d6, d7, c9, d0, c4⟩
 rw [F1] at b8
 refine Z3 (Z1 ?_)
 refine U2 (k := .i64) (a := a1) (b := (a5.length : Int)) (by exact c4) (by exact d0) rfl (Z0 (Z3 ?_))
 by_cases e5 : a1 < (a5.length : Int)
 rw [if_pos e5] at b8
 refine Y0 (bT e5 rfl) (Y6 (Z3 (Y7 (Z3 (Z1 ?_)))))
 obtain ⟨o6, o7, l9, o8, _, i0, i1, rfl, i2⟩ := b4.elem (i := a1) (by omega) (by omega)
 refine W3 Yy4 rfl (by exact c9) i0 (by exact c4) (by omega) (by omega) rfl ?_
 refine V4 (Z7 .i64 (rd a5 a1)) P4 rfl (hS.froz _ _ i1) rfl i2 rfl ?_
 refine V0 (z := vA (Z7 .i64 (fun _ => 0))) (Z7 .i64 (fun _ => 0)).toArray Zi1.zero rfl hS rfl ?_
 intro e8 o9 hS
 refine X8 (v := vA (Z7 .i64 (rd a5 a1))) (vs := (Z7 .i64 (rd a5 a1)).toArray) (cs := (Z7 .i64 (fun _ => 0)).toArray) P4 rfl rfl rfl hS rfl (S4 .i64 (rd a5 a1)) rfl ?_
 intro p0 hS
 refine Z0 (Z3 (Z1 ?_))
 refine Q6 (vA (Z7 .u8 (fun _ => 0))) Yu8 rfl ?_
 refine V0 (z := vA (Z7 .u8 (fun _ => 0))) (Z7 .u8 (fun _ => 0)).toArray Zy4.zero rfl hS rfl ?_
 intro e9 p1 hS
 refine X8 (v := vA (Z7 .u8 (fun _ => 0))) (vs := (Z7 .u8 (fun _ => 0)).toArray) (cs := (Z7 .u8 (fun _ => 0)).toArray) P9 rfl rfl rfl hS rfl (S4 .u8 (fun _ => 0)) rfl ?_
 intro p2 hS
 refine Z0 (Z3 (Z3 (Z1 ?_)))
 refine W1 P4 rfl (hS.get (mR mL)) rfl rfl (Z4 (vI 0) rfl rfl (Z0 (Y7 ?_)))
 obtain ⟨g6, b5, c5⟩ := bind_some b8
 refine W7 (id := 2) (fun k f w => ∃ (a3 : Int) (b0 : A8) (H1 : FH), G8 K a5 a1 k a3 b0 = some g6 ∧ Sub H H1 ∧ St H1 w ([(e9, cA (Z7 .u8 b0) 70)] ++ ([(e8, cA (Z7 .i64 (rd a5 a1)) 188)] ++ (a7 ++ ([(b6, cA ([a4]) 47)] ++ ([(b1, cA ([vN]) 47)] ++ L))))) ∧ 0 ≤ a3 ∧ R8 .i64 H1 s0 a0 ∧ Y2 (Zl2 .i64) H1 d5 a5 ∧ V1 yT 76 H1 a4 a6 a7 ∧ ev f (.tmp 0) = s0 ∧ ev f (.tmp 2) = vP b1 ∧ ev f (.tmp 4) = vP b6 ∧ ev f (.tmp 6) = vP e8 ∧ ev f (.tmp 7) = vP e9 ∧ ev f (.tmp 16) = d5 ∧ ev f (.tmp 17) = vI (a5.length : Int) ∧ ev f (.tmp 18) = vI a1 ∧ ev f (.tmp 23) = vA (Z7 .i64 (rd a5 a1)) ∧ ev f (.tmp 24) = vI a3) (fun f w => ∃ (a8 : A8) (H1 : FH), g6 = .go a8 ∧ Sub H H1 ∧ St H1 w ([(e9, cA (Z7 .u8 a8) 70)] ++ ([(e8, cA (Z7 .i64 (rd a5 a1)) 188)] ++ (a7 ++ ([(b6, cA ([a4]) 47)] ++ ([(b1, cA ([vN]) 47)] ++ L))))) ∧ R8 .i64 H1 s0 a0 ∧ Y2 (Zl2 .i64) H1 d5 a5 ∧ V1 yT 76 H1 a4 a6 a7 ∧ ev f (.tmp 0) = s0 ∧ ev f (.tmp 2) = vP b1 ∧ ev f (.tmp 4) = vP b6 ∧ ev f (.tmp 6) = vP e8 ∧ ev f (.tmp 7) = vP e9 ∧ ev f (.tmp 16) = d5 ∧ ev f (.tmp 17) = vI (a5.length : Int) ∧ ev f (.tmp 18) = vI a1) rfl ?_ ?_ K ?_ ?_
 rintro f w ⟨a3, b0, H1, b5, _⟩
 rw [G8] at b5; cases b5
 rintro k m0 m1 k4 k5 ⟨a3, b0, g7, b5, Z2, hS, k1, b7, b4, a9, d8, c2, d9, e0, c6, d1, d2, d3, d4, c0⟩
 rw [G8] at b5
 refine Z3 (Z1 ?_)
 refine U2 (k := .i64) (a := a3) (b := 8) (by exact c0) rfl rfl (Z0 (Z3 ?_))
 by_cases e6 : a3 < 8
 rw [if_pos e6] at b5
 refine Y0 (bT e6 rfl) (Y6 (Z3 (Y7 (Z3 (Z1 (Z4 (vI a3) (by exact c0) rfl ?_))))))
 refine Ya5 (vI (Y5 (rd a5 a1) a3)) Ze5 (by exact d4) (by exact c0) (by omega) (by omega) (Zz1 (by omega) (by omega)) rfl (Z5 (vI a3) rfl rfl (Z5 (vI (Y5 (rd a5 a1) a3)) rfl rfl (Z0 (Z3 (Z3 (Z1 (Z4 (vI (Y5 (rd a5 a1) a3)) rfl rfl ?_)))))))
 refine Zd2 (k := .i64) (a := (Y5 (rd a5 a1) a3)) (b := 20) rfl rfl rfl (Z0 ?_)
 by_cases e7 : 20 < (Y5 (rd a5 a1) a3)
 rw [if_pos e7] at b5
 refine Y0 (bT e7 rfl) (Z3 (Z1 ?_))
 refine Q6 (vA ([vN])) Yg4 rfl ?_
 have hS := hS.perm Xl6
 refine X8 (v := vA ([vN])) (vs := ([vN]).toArray) (cs := ([vN]).toArray) T3 (by exact c2) rfl rfl hS rfl (S2 rfl) rfl ?_
 intro p3 hS
 have hS := hS.perm Xl6.symm
 refine Z5 (vI 3) rfl rfl (Z0 ?_)
 refine Y9 (vs := [vA ([vN]), vI 3]) Tryz.func91 ⟨⟨_, (by exact c2), U6 T3 (hS.get (mR (mR (mR (mR mL))))) rfl⟩, rfl, trivial⟩ ?_
 have hz := Option.some.inj b5
 subst hz
 dsimp only [Ex.elim] at c5
 have hz := Option.some.inj c5
 subst hz
 dsimp only [Ex.elim] at e4
 have hz := Option.some.inj e4
 subst hz
 exact ⟨_, _, rfl, Z2, (St.dropA (St.dropA (St.dropA (St.dropA (St.dropA hS))))), ⟨_, _, rfl, ⟨_, rfl, ⟨_, rfl, Y2.nil⟩⟩, rfl⟩⟩
 rw [if_neg e7] at b5
 refine Z9 (bF e7 rfl) (Y6 (Z1 (Z4 (vI a3) rfl rfl (Z4 (vI (Y5 (rd a5 a1) a3)) rfl rfl ?_))))
 refine Yc7 (s := .i64) ((IntKind.u8.wrap (Y5 (rd a5 a1) a3))) Xm7 rfl rfl rfl ?_
 refine V3 Za9 (by exact c6) rfl (by omega) (by omega) rfl ?_
 refine E0 (v := Value.int .u8 (IntKind.u8.wrap (Y5 (rd a5 a1) a3))) (cs := (Z7 .u8 b0).toArray) (cs' := (Z7 .u8 (T7 b0 a3 (IntKind.u8.wrap (Y5 (rd a5 a1) a3)))).toArray) ty5 rfl rfl hS rfl (Zs8 rfl) (by simp [Z7, P2]; omega) (Ze1 (by omega) (by omega)) ?_
 intro p4 hS
 refine Z0 (X3 (Z1 ?_))
 refine W8 (a3 + 1) (by exact c0) rfl (IntWalk.i64_in _ (by omega)) rfl (Z4 (vI (a3 + 1)) rfl rfl (Z0 ?_))
 exact k4 _ _ ⟨(a3 + 1), (T7 b0 a3 (IntKind.u8.wrap (Y5 (rd a5 a1) a3))), g7, b5, Z2, hS, (by omega), b7, b4, a9, d8, c2, d9, e0, c6, d1, d2, d3, d4, rfl⟩
 rw [if_neg e6] at b5
 refine Z9 (bF e6 rfl) ?_
 refine W4 rfl ?_
 have hz := Option.some.inj b5
 subst hz
 exact k5 _ _ ⟨b0, g7, rfl, Z2, hS, b7, b4, a9, d8, c2, d9, e0, c6, d1, d2, d3⟩
 exact ⟨0, (fun _ => 0), g5, b5, Z2, hS, (by omega), b7, b4, a9, f7, d6, d7, rfl, rfl, c9, d0, c4, rfl, rfl⟩
 rintro m2 m3 ⟨a8, m4, rfl, Z2, hS, b7, b4, a9, e1, f8, e2, f9, g0, f0, f1, f2⟩
 dsimp only [Ex.elim] at c5
 have X5 := Z2
 refine U0 8 (Q5 [(36, MP.eq (vP b6)), (37, MP.eq (a4)), (38, MP.eq (vA (Z7 .u8 a8))), (39, MP.eq (s0)), (40, MP.eq (vA (Z7 .i64 (rd a5 a1)))), (41, MP.eq (vI (N9 a0 (rd a5 a1)))), (42, MP.eq (vA (Z7 .u8 a8 ++ [vI (N9 a0 (rd a5 a1))]))), (43, MP.sl yT ([(a8, (N9 a0 (rd a5 a1)))]))]) [] mixed rfl rfl rfl hS (Z6 rfl ?_ (Z6 rfl ?_ (Z6 rfl ?_ (Z6 rfl ?_ (Z6 rfl ?_ (Z6 rfl ?_ (Z6 rfl ?_ (Z6 rfl ?_ U5)))))))) ?_
 intro p5 p6 k6 p7 i3 hS i4 m5 hcq
 have Z2 := Sub.refl k6
 have X6 := X5.trans i3
 refine Y3 U4 (evT (i4 4 rfl) e2) rfl ?_
 exact Z0 ⟨36, _, _, rfl, rfl, Z2, hS, rfl⟩
 intro p8 p9 k7 q1 i5 hS m6 i6 hcq
 have Z2 := Sub.refl k7
 have X6 := X5.trans i5
 refine Y4 (a4) Q1 (eM (i6 0 36 rfl rfl)) (hS.get (mR (mR (mR (mR mL))))) rfl rfl ?_
 exact Z0 ⟨37, _, _, rfl, rfl, Z2, hS, rfl⟩
 intro q2 q3 k8 q4 i7 hS i8 m7 hcq
 have Z2 := Sub.refl k8
 have X6 := X5.trans i7
 refine W1 P9 (evT (i8 7 rfl) g0) (hS.get (mR mL)) rfl rfl ?_
 exact Z0 ⟨38, _, _, rfl, rfl, Z2, hS, rfl⟩
 intro q5 q6 k9 q7 i9 hS j0 m8 hcq
 have Z2 := Sub.refl k9
 have X6 := X5.trans i9
 refine Z4 (s0) (evT (j0 0 rfl) e1) rfl ?_
 exact Z0 ⟨39, _, _, rfl, rfl, Z2, hS, rfl⟩
 intro q8 q9 l0 r0 j1 hS j2 m9 hcq
 have Z2 := Sub.refl l0
 have X6 := X5.trans j1
 refine W1 P4 (evT (j2 6 rfl) f9) (hS.get (mR (mR mL))) rfl rfl ?_
 exact Z0 ⟨40, _, _, rfl, rfl, Z2, hS, rfl⟩
 intro r1 r2 l1 r3 g8 hS n0 g9 hcq
 have Z2 := Sub.refl l1
 have X6 := X5.trans g8
 have b7 := b7.mono g8
 refine Xp7 (a := (rd a5 a1)) Zj6 (eM (g9 3 39 rfl rfl)) (eM (g9 4 40 rfl rfl)) b7 hS rfl ?_
 exact Z0 ⟨41, _, _, rfl, rfl, Z2, hS, rfl⟩
 intro r4 r5 l2 r6 j3 hS n1 h0 hcq
 have Z2 := Sub.refl l2
 have X6 := X5.trans j3
 refine Zp8 (Z7 .u8 a8 ++ [vI (N9 a0 (rd a5 a1))]) Xa0 (Yk7 (eM (h0 2 38 rfl rfl)) (eM (h0 5 41 rfl rfl))) (G9 rfl rfl rfl (Nat.le_of_ble_eq_true rfl) (G9 rfl rfl rfl (Nat.le_of_ble_eq_true rfl) (Zm1 rfl))) rfl ?_
 exact Z0 ⟨42, _, _, rfl, rfl, Z2, hS, rfl⟩
 intro r7 r8 l3 r9 j4 hS n2 j5 hcq
 have Z2 := Sub.refl l3
 have X6 := X5.trans j4
 refine Zk6 (τ := yT) R2 Zw6 rfl [vA (Z7 .u8 a8 ++ [vI (N9 a0 (rd a5 a1))])] [(a8, (N9 a0 (rd a5 a1)))] rfl rfl (Zc3 (eM (j5 6 42 rfl rfl))) (Zq5 ⟨_, _, rfl, rfl, rfl⟩) (by decide) (by decide) hS rfl ?_
 intro n3 n4 n5 h3 hS h4
 have Z2 := Z2.trans h3
 exact Z0 ⟨43, _, _, rfl, rfl, Z2, hS, h4⟩
 intro n6 j6 h1 c7 hS c3 f5 hcq
 have hS : St h1 j6 ([(e9, cA (Z7 .u8 a8) 70)] ++ ([(e8, cA (Z7 .i64 (rd a5 a1)) 188)] ++ (a7 ++ ([(b6, cA ([a4]) 47)] ++ ([(b1, cA ([vN]) 47)] ++ L))))) := hS
 have Z2 := Z2.trans c7
 have b7 := b7.mono c7
 have b4 := b4.mono c7
 have a9 := a9.mono c7
 have h2 := evT (c3 4 rfl) e2
 obtain ⟨n7, j7, h5⟩ := gvS (f5 7 43 (by decide) rfl)
 obtain ⟨h6, c5⟩ := gd c5
 have hS := hS.perm C2
 refine Za8 (τ := yT) Yu5 rfl (by exact (eM (f5 1 37 (by decide) rfl))) (by exact j7) a9 hS h5 h6 rfl ?_
 intro f3 n8 j8 f6 hS
 have hS := hS.perm C2.symm
 refine Y3 U4 (by exact h2) rfl ?_
 have hS := hS.perm Zx4
 refine Ze4 (v := f3) (cs := ([a4]).toArray) (cs' := ([f3]).toArray) Q1 rfl rfl hS f6.isOne rfl (Nat.le_of_ble_eq_true rfl) rfl ?_
 intro n9 hS
 have hS := hS.perm Zx4.symm
 refine Z0 (X3 (Z1 ?_))
 refine W8 (a1 + 1) (by exact (evT (c3 18 rfl) f2)) rfl (IntWalk.i64_in _ (by omega)) rfl (Z4 (vI (a1 + 1)) rfl rfl (Z0 ?_))
 have hS := St.dropA hS
 have hS := St.dropA hS
 exact k2 _ _ ⟨(a1 + 1), (a6 ++ [(a8, (N9 a0 (rd a5 a1)))]), h1, j8, f3, c5, Z2, hS, (by omega), f6, b7, b4, (evT (c3 0 rfl) e1), (evT (c3 2 rfl) f8), h2, (evT (c3 16 rfl) f0), (evT (c3 17 rfl) f1), rfl⟩
 rw [if_neg e5] at b8
 refine Z9 (bF e5 rfl) ?_
 refine W4 rfl ?_
 have hz := Option.some.inj b8
 subst hz
 exact k3 _ _ ⟨a6, g5, a7, a4, rfl, Z2, hS, a9, d6, d7⟩
 exact ⟨0, ([] : List (A8 × Int)), h8, ([]), (vN), b8, Z2, hS, (by omega), g3, b7, b4, rfl, rfl, rfl, rfl, rfl, rfl⟩
 rintro o0 o1 ⟨b3, o2, b9, b2, rfl, Z2, hS, c1, e3, g1⟩
 dsimp only [Ex.elim] at e4
 refine Z3 (Z1 ?_)
 refine W1 T3 (by exact g1) (hS.get (mR mL)) rfl rfl ?_
 have hS := hS.perm C2
 refine X8 (v := vA ([b2])) (vs := ([b2]).toArray) (cs := ([vN]).toArray) T3 (by exact e3) rfl rfl hS rfl (S2 c1.isOne) rfl ?_
 intro o3 hS
 have hS := hS.perm C2.symm
 refine Z5 (vI 0) rfl rfl (Z0 ?_)
 refine Y9 (vs := [vA ([b2]), vI 0]) Tryz.func91 ⟨⟨_, (by exact e3), U6 T3 (hS.get (mR (mR mL))) rfl⟩, rfl, trivial⟩ ?_
 obtain ⟨j9, h7, hS, c8⟩ := V1.freezeF (τ := yT) (H0 := H) c1 hS Z2
 have l4 := Y2.old c8
 have c8 : RdF yT H j9 b2 b3 := c8
 have Z2 := Z2.trans h7
 have hz := Option.some.inj e4
 subst hz
 exact ⟨_, _, rfl, Z2, (St.dropA (St.dropA hS)), ⟨_, _, rfl, ⟨_, rfl, ⟨_, rfl, c8⟩⟩, rfl⟩⟩
def V6 (K : Nat) (a1 : (List Int)) (a5 : (A8 × Int)) : Nat → MpT → MpT → Option (Ex MpT (MpT))
 | 0, _, _ => none
 | k + 1, [], a3 => some (.go a3)
 | k + 1, c3 :: d9, a3 => ((G4 K a5.1 a1 c3.1).bind fun a7 => (if a7.2 = 0 then V6 K a1 a5 k d9 a3 else ((T1 K a3 a7.1 (((IntKind.i64.wrap ((IntKind.i64.wrap (a7.2 * a5.2)) * c3.2))).tmod 10007)).bind fun f6 => V6 K a1 a5 k d9 f6)))
theorem Zz9 {K : Nat} {a1 : (List Int)} {a5 : (A8 × Int)} {a3 : MpT} {k : Nat} {zp zq : MpT} {o : Ex MpT (MpT)} (hp : zp.Perm zq) (q : V6 K a1 a5 k zp a3 = some o) : V6 K a1 a5 k zq a3 = some o := by
 exact (Zv5 (K := K) (fun k zs s => V6 K a1 a5 k zs s) (by intros; rw [V6])
  (fun z => ⟨fun s => (G4 K a5.1 a1 z.1).bind fun r => if r.2 = 0 then some s else T1 K s r.1 (((IntKind.i64.wrap ((IntKind.i64.wrap (r.2 * a5.2)) * z.2))).tmod 10007), .const fun r => .ite .skip (.add _ _), by
   intro k zs s
   rw [V6]
   cases G4 K a5.1 a1 z.1 with
   | none => rfl
   | some r => simp only [Option.bind_some]; split <;> rfl⟩) hp k a3).symm.trans q
def T9 (K : Nat) (a1 : (List Int)) (a2 : MpT) : Nat → MpT → MpT → Option (Ex MpT (MpT))
 | 0, _, _ => none
 | k + 1, [], a4 => some (.go a4)
 | k + 1, a5 :: e0, a4 => ((V6 K a1 a5 K a2 a4).bind (Ex.elim (fun r => some (.ret r)) (fun s => (fun (b4 : MpT) => T9 K a1 a2 k e0 b4) s)))
theorem Zy3 {K : Nat} {a1 : (List Int)} {a2 : MpT} {a4 : MpT} {k : Nat} {zp zq : MpT} {o : Ex MpT (MpT)} (hp : zp.Perm zq) (q : T9 K a1 a2 k zp a4 = some o) : T9 K a1 a2 k zq a4 = some o := by
 have hl : ∀ (z : A8 × Int) (k : Nat) (zs : MpT), Zk1 K (fun (_ : Unit) s => s) (fun s => V6 K a1 z k zs s) := by
  intro z k
  induction k with
  | zero => intro zs; exact ⟨none, fun s => (show V6 K a1 z 0 zs s = none by rw [V6])⟩
  | succ k ih =>
   intro zs
   cases zs with
   | nil =>
    have e : (fun s => V6 K a1 z (k + 1) [] s) = fun s => some (.go s) := by funext s; rw [V6]
    rw [e]; exact .go (h := fun (_ : Unit) s => s) ()
   | cons y zs =>
    have e : (fun s => V6 K a1 z (k + 1) (y :: zs) s) = fun s => (G4 K z.1 a1 y.1).bind fun r => if r.2 = 0 then V6 K a1 z k zs s else (T1 K s r.1 (((IntKind.i64.wrap ((IntKind.i64.wrap (r.2 * z.2)) * y.2))).tmod 10007)).bind fun t => V6 K a1 z k zs t := by
     funext s; rw [V6]
    rw [e]
    exact .const fun r => .ite (ih zs) (.bind (.add _ _) (ih zs))
 exact (Zv5 (K := K) (fun k zs s => T9 K a1 a2 k zs s) (by intros; rw [T9])
  (fun z => by
   obtain ⟨F, hF, hs⟩ := (hl z K a2).step (fun s => s) (fun _ _ => rfl)
   refine ⟨F, hF, fun k zs s => ?_⟩
   rw [T9]
   exact hs _ (T9 K a1 a2 k zs) s) hp k a4).symm.trans q
def N7 (K : Nat) (a0 : MpT) (a1 : (List Int)) (a2 : MpT) : Option MpT := ((T9 K a1 a2 K a0 ([] : MpT)).bind (Ex.elim (fun r => some r) (fun s => (fun (b8 : MpT) => some b8) s)))
theorem Zh9 {K : Nat} {a0 : MpT} {a1 : (List Int)} {a2 : MpT} {r : MpT} (q0 : N7 K a0 a1 a2 = some r) {H : FH} {w : World} {L : OL} {s0 : Value} {s1 : Value} {s2 : Value} (h7 : R8 .i64 H s0 a0) (b6 : Y2 (Y8 .i64) H s1 a1) (b7 : R8 .i64 H s2 a2) (hS : St H w L) :
 Calls Tryz.prog 131 #[s0, s1, s2] w (Yl2 .i64 r H L) := by
 have Z2 := Sub.refl H
 refine X2 Tryz.func131 rfl Tryz.ntmps131 rfl ?_
 unfold N7 at q0
 refine Z3 (Z1 (Z5 (Value.map none) rfl rfl (Z0 (Z3 (Z1 ?_)))))
 refine Zo6 (k := .i64) hS rfl ?_
 intro m1 w2 C3 h8 hS
 refine Z5 (m1) rfl rfl (Z0 (Z3 (Z3 (Z1 (Z4 (s0) rfl rfl ?_)))))
 refine Zx9 Zj6 rfl h7 hS rfl ?_
 intro e1 w7 C8 h9 hS
 refine Z0 (Y7 ?_)
 obtain ⟨f7, b5, f8⟩ := bind_some q0
 refine W7 (id := 0) (fun k f w => ∃ (b9 : MpT) (a4 : MpT) (H1 : FH) (b0 : OL) (a8 : OL), T9 K a1 a2 k b9 a4 = some f7 ∧ Sub H H1 ∧ St H1 w (b0 ++ (a8 ++ L)) ∧ Za5 .i64 H1 e1 b9 none b0 ∧ R9 .i64 m1 a4 a8 ∧ Y2 (Y8 .i64) H1 s1 a1 ∧ R8 .i64 H1 s2 a2 ∧ ev f (.tmp 1) = s1 ∧ ev f (.tmp 2) = s2 ∧ ev f (.tmp 7) = m1 ∧ ev f (.tmp 16) = e1) (fun f w => ∃ (b8 : MpT) (H1 : FH) (c4 : OL) (c8 : OL), f7 = .go b8 ∧ Sub H H1 ∧ St H1 w (c4 ++ (c8 ++ L)) ∧ Za5 .i64 H1 e1 ([] : MpT) none c4 ∧ R9 .i64 m1 b8 c8 ∧ ev f (.tmp 7) = m1) rfl ?_ ?_ K ?_ ?_
 rintro f w ⟨b9, a4, H1, b0, a8, b5, _⟩
 rw [T9] at b5; cases b5
 rintro k i9 j0 i0 i1 ⟨b9, a4, f9, b0, a8, b5, Z2, hS, d2, d8, b6, b7, f1, e3, e4, c9⟩
 refine Z3 (Z1 ?_)
 refine Yd0 (by exact c9) d2 hS rfl ?_ ?_
 intro g7; subst g7
 rw [T9] at b5
 refine V5 (Value.bool false) rfl rfl rfl (Z0 (Z3 (Z9 rfl ?_)))
 refine W4 rfl ?_
 have hz := Option.some.inj b5
 subst hz
 exact i1 _ _ ⟨a4, f9, b0, a8, rfl, Z2, hS, d2, d8, e4⟩
 intro a5 e0 j8 e6 g8 b3 hS
 replace b5 := Zy3 g8 b5
 rw [T9] at b5
 refine V5 (Value.bool true) rfl rfl rfl (Z0 (Z3 (Y0 rfl (Y6 (Y7 (Z3 (Z1 ?_)))))))
 refine Zy0 (by exact c9) b3 hS rfl (V5 (vA (Z7 .i64 a5.1)) rfl rfl rfl (V5 (vI a5.2) rfl rfl rfl ?_))
 refine V0 (z := vA (Z7 .i64 (fun _ => 0))) (Z7 .i64 (fun _ => 0)).toArray Zi1.zero rfl hS rfl ?_
 intro g0 j9 hS
 refine X8 (v := vA (Z7 .i64 a5.1)) (vs := (Z7 .i64 a5.1).toArray) (cs := (Z7 .i64 (fun _ => 0)).toArray) P4 rfl rfl rfl hS rfl (S4 .i64 a5.1) rfl ?_
 intro k0 hS
 refine Z5 (vI a5.2) rfl rfl (Z0 (Z3 (Z1 (Z4 (s2) (by exact e3) rfl ?_))))
 refine Zx9 Zj6 rfl b7 hS rfl ?_
 intro e9 k1 i2 g9 hS
 refine Z0 (Y7 ?_)
 obtain ⟨g1, a6, g2⟩ := bind_some b5
 refine W7 (id := 2) (fun k f w => ∃ (c0 : MpT) (a3 : MpT) (H1 : FH) (b1 : OL) (a9 : OL), V6 K a1 a5 k c0 a3 = some g1 ∧ Sub H H1 ∧ St H1 w (b1 ++ ([(g0, cA (Z7 .i64 a5.1) 188)] ++ (e6 ++ (a9 ++ L)))) ∧ Za5 .i64 H1 e9 c0 none b1 ∧ R9 .i64 m1 a3 a9 ∧ Y2 (Y8 .i64) H1 s1 a1 ∧ R8 .i64 H1 s2 a2 ∧ Za5 .i64 H1 e1 e0 (some a5) e6 ∧ ev f (.tmp 1) = s1 ∧ ev f (.tmp 2) = s2 ∧ ev f (.tmp 7) = m1 ∧ ev f (.tmp 8) = vP g0 ∧ ev f (.tmp 9) = vI a5.2 ∧ ev f (.tmp 16) = e1 ∧ ev f (.tmp 23) = e9) (fun f w => ∃ (b4 : MpT) (H1 : FH) (c5 : OL) (c1 : OL), g1 = .go b4 ∧ Sub H H1 ∧ St H1 w (c5 ++ ([(g0, cA (Z7 .i64 a5.1) 188)] ++ (e6 ++ (c1 ++ L)))) ∧ Za5 .i64 H1 e9 ([] : MpT) none c5 ∧ R9 .i64 m1 b4 c1 ∧ Y2 (Y8 .i64) H1 s1 a1 ∧ R8 .i64 H1 s2 a2 ∧ Za5 .i64 H1 e1 e0 (some a5) e6 ∧ ev f (.tmp 1) = s1 ∧ ev f (.tmp 2) = s2 ∧ ev f (.tmp 7) = m1 ∧ ev f (.tmp 16) = e1) rfl ?_ ?_ K ?_ ?_
 rintro f w ⟨c0, a3, H1, b1, a9, a6, _⟩
 rw [V6] at a6; cases a6
 rintro k j1 j2 g5 i3 ⟨c0, a3, h0, b1, a9, a6, Z2, hS, d3, b2, b6, b7, b3, c6, d4, c7, d5, d6, d0, c2⟩
 refine Z3 (Z1 ?_)
 refine Yd0 (by exact c2) d3 hS rfl ?_ ?_
 intro h1; subst h1
 rw [V6] at a6
 refine V5 (Value.bool false) rfl rfl rfl (Z0 (Z3 (Z9 rfl ?_)))
 refine W4 rfl ?_
 have hz := Option.some.inj a6
 subst hz
 exact i3 _ _ ⟨a3, h0, b1, a9, rfl, Z2, hS, d3, b2, b6, b7, b3, c6, d4, c7, d0⟩
 intro c3 d9 k2 g6 h2 d1 hS
 replace a6 := Zz9 h2 a6
 rw [V6] at a6
 refine V5 (Value.bool true) rfl rfl rfl (Z0 (Z3 (Y0 rfl (Y6 (Y7 (Z3 (Z1 ?_)))))))
 refine Zy0 (by exact c2) d1 hS rfl (V5 (vA (Z7 .i64 c3.1)) rfl rfl rfl (V5 (vI c3.2) rfl rfl rfl ?_))
 refine V0 (z := vA (Z7 .i64 (fun _ => 0))) (Z7 .i64 (fun _ => 0)).toArray Zi1.zero rfl hS rfl ?_
 intro k3 k4 hS
 refine X8 (v := vA (Z7 .i64 c3.1)) (vs := (Z7 .i64 c3.1).toArray) (cs := (Z7 .i64 (fun _ => 0)).toArray) P4 rfl rfl rfl hS rfl (S4 .i64 c3.1) rfl ?_
 intro k5 hS
 refine Z5 (vI c3.2) rfl rfl (Z0 (Z3 (Z1 ?_)))
 refine W1 P4 (by exact d5) (hS.get (mR (mR mL))) rfl rfl (Z4 (s1) (by exact c6) rfl ?_)
 refine W1 P4 rfl (hS.get mL) rfl rfl ?_
 obtain ⟨a7, h3, a6⟩ := bind_some a6
 refine X0 Tryz.call224 (F9 rfl rfl rfl) rfl (Yd2 h3 b6 hS) ?_
 rintro k6 k7 ⟨_, i4, rfl, d7, hS, ⟨i7, i8, rfl, ⟨_, rfl, rfl⟩, rfl⟩⟩
 refine ⟨_, rfl, ?_⟩
 have Z2 := Z2.trans d7
 have b6 := b6.mono d7
 have b7 := b7.mono d7
 have b2 := b2.mono d7
 have b3 := b3.mono d7
 have d1 := d1.mono d7
 refine Z4 (Value.tuple #[vA (Z7 .i64 a7.1), vI a7.2]) rfl rfl (V5 (vA (Z7 .i64 a7.1)) rfl rfl rfl (V5 (vI a7.2) rfl rfl rfl ?_))
 refine V0 (z := vA (Z7 .i64 (fun _ => 0))) (Z7 .i64 (fun _ => 0)).toArray Zi1.zero rfl hS rfl ?_
 intro k8 k9 hS
 refine X8 (v := vA (Z7 .i64 a7.1)) (vs := (Z7 .i64 a7.1).toArray) (cs := (Z7 .i64 (fun _ => 0)).toArray) P4 rfl rfl rfl hS rfl (S4 .i64 a7.1) rfl ?_
 intro l0 hS
 refine Z5 (vI a7.2) rfl rfl (Z0 (Z3 (Z1 (Z4 (vI a7.2) rfl rfl ?_))))
 refine K9 (k := .i64) (a := a7.2) (b := 0) rfl rfl rfl (Z0 ?_)
 by_cases e5 : a7.2 = 0
 rw [if_pos e5] at a6
 refine Z9 (bN e5 rfl) (Y6 (X3 ?_))
 have hS := St.dropA hS
 have hS := St.dropA hS
 exact g5 _ _ ⟨d9, a3, i4, g6, a9, a6, Z2, hS, d1.drop, b2, b6, b7, b3, c6, d4, c7, d5, d6, d0, c2⟩
 rw [if_neg e5] at a6
 refine Y0 (bO e5 rfl) (Z1 (Z4 (m1) (by exact c7) rfl ?_))
 refine W1 P4 rfl (hS.get mL) rfl rfl (Z4 (vI a7.2) rfl rfl (Z4 (vI a5.2) (by exact d6) rfl ?_))
 refine Zq0 (IntKind.i64.wrap (a7.2 * a5.2)) rfl rfl rfl rfl (Z4 (vI c3.2) rfl rfl ?_)
 refine Zq0 (IntKind.i64.wrap ((IntKind.i64.wrap (a7.2 * a5.2)) * c3.2)) rfl rfl rfl rfl ?_
 refine Zk3 (((IntKind.i64.wrap ((IntKind.i64.wrap (a7.2 * a5.2)) * c3.2))).tmod 10007) rfl rfl (by decide) rfl rfl ?_
 obtain ⟨f6, h4, a6⟩ := bind_some a6
 have hS := hS.perm Yq2
 refine X0 Tryz.call225 (F9 rfl rfl rfl) rfl (Zx0 h4 b2 hS) ?_
 rintro l1 l2 ⟨i5, i6, rfl, e2, hS, h5⟩
 refine ⟨_, rfl, ?_⟩
 have Z2 := Z2.trans e2
 have b6 := b6.mono e2
 have b7 := b7.mono e2
 have b3 := b3.mono e2
 have d1 := d1.mono e2
 have hS := hS.perm Yq2.symm
 refine Z0 (X3 ?_)
 have hS := St.dropA hS
 have hS := St.dropA hS
 exact g5 _ _ ⟨d9, f6, i5, g6, i6, a6, Z2, hS, d1.drop, h5, b6, b7, b3, c6, d4, c7, d5, d6, d0, c2⟩
 exact ⟨a2, a4, f9, i2, a8, a6, Z2, hS, g9, d8, b6, b7, b3, f1, e3, e4, rfl, rfl, c9, rfl⟩
 rintro j3 j4 ⟨b4, h6, c5, c1, rfl, Z2, hS, g3, e7, b6, b7, b3, f2, f3, f4, f0⟩
 dsimp only [Ex.elim] at g2
 refine X3 ?_
 have hS := St.dropA hS
 have hS := St.dropA hS
 exact i0 _ _ ⟨e0, b4, h6, e6, c1, g2, Z2, hS, b3.drop, e7, b6, b7, f2, f3, f4, f0⟩
 exact ⟨a0, ([] : MpT), H, C8, C3, b5, Z2, hS, h9, h8, b6, b7, rfl, rfl, rfl, rfl⟩
 rintro j5 j6 ⟨b8, j7, c4, c8, rfl, Z2, hS, g4, e8, f5⟩
 dsimp only [Ex.elim] at f8
 refine Z3 (Z1 (Z4 (m1) (by exact f5) rfl (Z5 (m1) rfl rfl (Z0 ?_))))
 refine Y9 (vs := [m1]) Tryz.func131 ⟨rfl, trivial⟩ ?_
 have hS := hS.perm U1
 have hS := St.dropMid hS
 have hz := Option.some.inj f8
 subst hz
 exact ⟨_, _, _, rfl, Z2, hS, e8⟩
def F0 (K : Nat) (a0 : (List Int)) (a1 : MpT) : Nat → Int → MpT → Option (Ex MpT (MpT))
 | 0, _, _ => none
 | k + 1, a6, a3 => (if 0 < a6 then ((G0 K a0 a3 a1).bind fun c9 => F0 K a0 a1 k (IntKind.u8.wrap (a6 - 1)) c9) else some (.go a3))
def Zj7 (K : Nat) (a0 : (List Int)) (a1 : MpT) (a2 : Int) : Option MpT := ((L0 K (fun _ => 0) 1).bind fun r7 => ((F0 K a0 a1 K a2 r7).bind (Ex.elim (fun r => some r) (fun s => (fun (a7 : MpT) => some a7) s))))
theorem Yj0 {K : Nat} {a0 : (List Int)} {a1 : MpT} {a2 : Int} {r : MpT} (q0 : Zj7 K a0 a1 a2 = some r) {H : FH} {w : World} {L : OL} {s0 : Value} {s1 : Value} (b5 : Y2 (Y8 .i64) H s0 a0) (b0 : Y2 yT H s1 a1) (hS : St H w L) :
 Calls Tryz.prog 172 #[s0, vA ([s1]), Value.int .u8 a2] w (S3 (fun v G => (R.agg (W0 yT)).p G v r) H L) := by
 have Z2 := Sub.refl H
 refine X2 Tryz.func172 rfl Tryz.ntmps172 rfl ?_
 unfold Zj7 at q0
 refine Z3 (Z1 ?_)
 refine S5 (v := vA ([s1])) ([s1]).toArray rfl rfl hS rfl ?_
 intro b1 w2 hS
 refine V0 (z := vA ([vN])) ([vN]).toArray Ze9.zero rfl hS rfl ?_
 intro b4 w5 hS
 refine Z0 (Z3 (Z1 ?_))
 refine Q6 (vA (Z7 .u8 (fun _ => 0))) Yu8 rfl ?_
 obtain ⟨r7, d5, q0⟩ := bind_some q0
 refine X0 Tryz.call170 (T0 rfl rfl) rfl (Zd4 d5  hS) ?_
 rintro e7 w8 ⟨v7, H7, rfl, d0, hS, ⟨_, rfl, ⟨c5, rfl, c7⟩⟩⟩
 refine ⟨_, rfl, ?_⟩
 have Z2 := Z2.trans d0
 have b5 := b5.mono d0
 have b0 := b0.mono d0
 refine V0 (z := vA ([vN])) ([vN]).toArray Ze9.zero rfl hS rfl ?_
 intro b9 e4 hS
 refine X8 (v := vA ([c5])) (vs := ([c5]).toArray) (cs := ([vN]).toArray) T3 rfl rfl rfl hS rfl (S2 c7.isOne) rfl ?_
 intro e5 hS
 refine Z0 (Z3 (Y7 ?_))
 obtain ⟨d1, a8, d2⟩ := bind_some q0
 refine W7 (id := 0) (fun k f w => ∃ (a6 : Int) (a3 : MpT) (H1 : FH) (a4 : Value), F0 K a0 a1 k a6 a3 = some d1 ∧ Sub H H1 ∧ St H1 w ([(b9, cA ([a4]) 47)] ++ ([(b4, cA ([vN]) 47)] ++ ([(b1, cA ([s1]) 47)] ++ L))) ∧ Y2 yT H1 a4 a3 ∧ Y2 (Y8 .i64) H1 s0 a0 ∧ Y2 yT H1 s1 a1 ∧ ev f (.tmp 0) = s0 ∧ ev f (.tmp 2) = Value.int .u8 a6 ∧ ev f (.tmp 4) = vP b1 ∧ ev f (.tmp 6) = vP b4 ∧ ev f (.tmp 7) = vP b9) (fun f w => ∃ (a7 : MpT) (H1 : FH) (a5 : Value), d1 = .go a7 ∧ Sub H H1 ∧ St H1 w ([(b9, cA ([a5]) 47)] ++ ([(b4, cA ([vN]) 47)] ++ ([(b1, cA ([s1]) 47)] ++ L))) ∧ Y2 yT H1 a5 a7 ∧ Y2 yT H1 s1 a1 ∧ ev f (.tmp 6) = vP b4 ∧ ev f (.tmp 7) = vP b9) rfl ?_ ?_ K ?_ ?_
 rintro f w ⟨a6, a3, H1, a4, a8, _⟩
 rw [F0] at a8; cases a8
 rintro k d9 e0 d6 d7 ⟨a6, a3, d3, a4, a8, Z2, hS, b2, b5, b0, b6, b7, b8, c0, a9⟩
 rw [F0] at a8
 refine Z3 (Z3 (Z1 (Z4 (Value.int .u8 a6) (by exact b7) rfl ?_)))
 refine Zd2 (k := .u8) (a := a6) (b := 0) rfl rfl rfl (Z0 ?_)
 by_cases c2 : 0 < a6
 rw [if_pos c2] at a8
 refine Y0 (bT c2 rfl) (Y6 (Z3 (Y7 (Z1 (Z4 (s0) (by exact b6) rfl ?_)))))
 refine W1 T3 (by exact a9) (hS.get mL) rfl rfl ?_
 refine W1 T3 (by exact b8) (hS.get (mR (mR mL))) rfl rfl ?_
 obtain ⟨c9, d4, a8⟩ := bind_some a8
 refine X0 Tryz.call171 (F9 rfl rfl rfl) rfl (Zj5 d4 b5 b2 b0 hS) ?_
 rintro e6 e8 ⟨e9, d8, rfl, c6, hS, ⟨_, rfl, ⟨c3, rfl, c4⟩⟩⟩
 refine ⟨_, rfl, ?_⟩
 have Z2 := Z2.trans c6
 have b5 := b5.mono c6
 have b0 := b0.mono c6
 refine X8 (v := vA ([c3])) (vs := ([c3]).toArray) (cs := ([a4]).toArray) T3 (by exact a9) rfl rfl hS rfl (S2 c4.isOne) rfl ?_
 intro f0 hS
 refine Z0 (X3 (Z1 (Z4 (Value.int .u8 a6) (by exact b7) rfl ?_)))
 refine Zs6 (IntKind.u8.wrap (a6 - 1)) rfl rfl rfl rfl (Z5 (Value.int .u8 (IntKind.u8.wrap (a6 - 1))) rfl rfl (Z0 ?_))
 exact d6 _ _ ⟨(IntKind.u8.wrap (a6 - 1)), c9, d8, c3, a8, Z2, hS, c4, b5, b0, b6, rfl, b8, c0, a9⟩
 rw [if_neg c2] at a8
 refine Z9 (bF c2 rfl) ?_
 refine W4 rfl ?_
 have hz := Option.some.inj a8
 subst hz
 exact d7 _ _ ⟨a3, d3, a4, rfl, Z2, hS, b2, b0, c0, a9⟩
 exact ⟨a2, r7, H7, c5, a8, Z2, hS, c7, b5, b0, rfl, rfl, rfl, rfl, rfl⟩
 rintro e1 e2 ⟨a7, e3, a5, rfl, Z2, hS, b3, b0, c1, c8⟩
 dsimp only [Ex.elim] at d2
 refine Z3 (Z1 ?_)
 refine W1 T3 (by exact c8) (hS.get mL) rfl rfl ?_
 have hS := hS.perm U1
 refine X8 (v := vA ([a5])) (vs := ([a5]).toArray) (cs := ([vN]).toArray) T3 (by exact c1) rfl rfl hS rfl (S2 b3.isOne) rfl ?_
 intro f1 hS
 have hS := hS.perm U1.symm
 refine Z0 ?_
 refine Y9 (vs := [vA ([a5])]) Tryz.func172 ⟨⟨_, (by exact c1), U6 T3 (hS.get (mR mL)) rfl⟩, trivial⟩ ?_
 have hz := Option.some.inj d2
 subst hz
 exact ⟨_, _, rfl, Z2, (St.dropA (St.dropA (St.dropA hS))), ⟨_, rfl, ⟨_, rfl, b3⟩⟩⟩
def V7 (K : Nat) (a2 : Int) : Nat → MpT → MpT → Option (Ex MpT (MpT))
 | 0, _, _ => none
 | k + 1, [], a3 => some (.go a3)
 | k + 1, z7 :: b8, a3 => ((T1 K a3 z7.1 (((IntKind.i64.wrap (z7.2 * a2))).tmod 10007)).bind fun b9 => V7 K a2 k b8 b9)
theorem Zx2 {K : Nat} {a2 : Int} {a3 : MpT} {k : Nat} {zp zq : MpT} {o : Ex MpT (MpT)} (hp : zp.Perm zq) (q : V7 K a2 k zp a3 = some o) : V7 K a2 k zq a3 = some o := by
 exact (Zv5 (K := K) (fun k zs s => V7 K a2 k zs s) (by intros; rw [V7])
  (fun z => ⟨fun s => T1 K s z.1 (((IntKind.i64.wrap (z.2 * a2))).tmod 10007), .add _ _, by intros; rw [V7]⟩) hp k a3).symm.trans q
def P1 (K : Nat) (a0 : MpT) (a1 : MpT) (a2 : Int) : Option MpT := ((V7 K a2 K a1 a0).bind (Ex.elim (fun r => some r) (fun s => (fun (a7 : MpT) => some a7) s)))
theorem Zs9 {K : Nat} {a0 : MpT} {a1 : MpT} {a2 : Int} {r : MpT} (q0 : P1 K a0 a1 a2 = some r) {H : FH} {w : World} {L C0 : OL} {s0 : Value} {s1 : Value} (c9 : R9 .i64 s0 a0 C0) (d0 : R8 .i64 H s1 a1) (hS : St H w (C0 ++ L)) :
 Calls Tryz.prog 132 #[s0, s1, vI a2] w (Xw7 .i64 s0 r H L) := by
 have Z2 := Sub.refl H
 refine X2 Tryz.func132 rfl Tryz.ntmps132 rfl ?_
 unfold P1 at q0
 refine Z3 (Z1 (Z4 (s1) rfl rfl ?_))
 refine Zx9 Zj6 rfl d0 hS rfl ?_
 intro c0 w2 C3 d1 hS
 refine Z0 (Y7 ?_)
 obtain ⟨c1, a4, c2⟩ := bind_some q0
 refine W7 (id := 0) (fun k f w => ∃ (a8 : MpT) (a3 : MpT) (H1 : FH) (a5 : OL) (a6 : OL), V7 K a2 k a8 a3 = some c1 ∧ Sub H H1 ∧ St H1 w (a5 ++ (a6 ++ L)) ∧ Za5 .i64 H1 c0 a8 none a5 ∧ R9 .i64 s0 a3 a6 ∧ ev f (.tmp 0) = s0 ∧ ev f (.tmp 2) = vI a2 ∧ ev f (.tmp 9) = c0) (fun f w => ∃ (a7 : MpT) (H1 : FH) (a9 : OL) (b0 : OL), c1 = .go a7 ∧ Sub H H1 ∧ St H1 w (a9 ++ (b0 ++ L)) ∧ Za5 .i64 H1 c0 ([] : MpT) none a9 ∧ R9 .i64 s0 a7 b0) rfl ?_ ?_ K ?_ ?_
 rintro f w ⟨a8, a3, H1, a5, a6, a4, _⟩
 rw [V7] at a4; cases a4
 rintro k d8 d9 d2 d3 ⟨a8, a3, c5, a5, a6, a4, Z2, hS, b2, b3, b4, b5, b1⟩
 refine Z3 (Z1 ?_)
 refine Yd0 (by exact b1) b2 hS rfl ?_ ?_
 intro d4; subst d4
 rw [V7] at a4
 refine V5 (Value.bool false) rfl rfl rfl (Z0 (Z3 (Z9 rfl ?_)))
 refine W4 rfl ?_
 have hz := Option.some.inj a4
 subst hz
 exact d3 _ _ ⟨a3, c5, a5, a6, rfl, Z2, hS, b2, b3⟩
 intro z7 b8 w9 d5 c6 b6 hS
 replace a4 := Zx2 c6 a4
 rw [V7] at a4
 refine V5 (Value.bool true) rfl rfl rfl (Z0 (Z3 (Y0 rfl (Y6 (Y7 (Z3 (Z1 ?_)))))))
 refine Zy0 (by exact b1) b6 hS rfl (V5 (vA (Z7 .i64 z7.1)) rfl rfl rfl (V5 (vI z7.2) rfl rfl rfl ?_))
 refine V0 (z := vA (Z7 .i64 (fun _ => 0))) (Z7 .i64 (fun _ => 0)).toArray Zi1.zero rfl hS rfl ?_
 intro e3 e4 hS
 refine X8 (v := vA (Z7 .i64 z7.1)) (vs := (Z7 .i64 z7.1).toArray) (cs := (Z7 .i64 (fun _ => 0)).toArray) P4 rfl rfl rfl hS rfl (S4 .i64 z7.1) rfl ?_
 intro e5 hS
 refine Z5 (vI z7.2) rfl rfl (Z0 (Z1 (Z4 (s0) (by exact b4) rfl ?_)))
 refine W1 P4 rfl (hS.get mL) rfl rfl (Z4 (vI z7.2) rfl rfl (Z4 (vI a2) (by exact b5) rfl ?_))
 refine Zq0 (IntKind.i64.wrap (z7.2 * a2)) rfl rfl rfl rfl ?_
 refine Zk3 (((IntKind.i64.wrap (z7.2 * a2))).tmod 10007) rfl rfl (by decide) rfl rfl ?_
 obtain ⟨b9, c7, a4⟩ := bind_some a4
 have hS := hS.perm C2
 refine X0 Tryz.call225 (F9 rfl rfl rfl) rfl (Zx0 c7 b3 hS) ?_
 rintro e6 e7 ⟨d6, d7, rfl, c3, hS, c8⟩
 refine ⟨_, rfl, ?_⟩
 have Z2 := Z2.trans c3
 have b6 := b6.mono c3
 have hS := hS.perm C2.symm
 refine Z0 (X3 ?_)
 have hS := St.dropA hS
 exact d2 _ _ ⟨b8, b9, d6, d5, d7, a4, Z2, hS, b6.drop, c8, b4, b5, b1⟩
 exact ⟨a1, a0, H, C3, C0, a4, Z2, hS, d1, c9, rfl, rfl, rfl⟩
 rintro e0 e1 ⟨a7, e2, a9, b0, rfl, Z2, hS, c4, b7⟩
 dsimp only [Ex.elim] at c2
 refine Zu6 (vs := []) Tryz.func132 trivial ?_
 have hS := hS.perm U1
 have hS := St.dropMid hS
 have hz := Option.some.inj c2
 subst hz
 exact ⟨_, _, rfl, Z2, hS, b7⟩
section
open Go Go.Sort Go.RowKit Go.Shelf Go.Lib
set_option maxRecDepth 100000
theorem Xo2 {H : FH} {w : World} {L C : OL} {v p : Value} {a : F4} (hd : ∀ d, d ∈ a.1 → 1 ≤ d ∧ d ≤ 12) (hl : a.1.length ≤ 8) (ho : V1 (Y8 .i64) 2 H v (idL a.1.length) C) (hp : Zh2 Yu0 H p a) (hS : St H w (C ++ L)) :
 Calls Tryz.prog 239 #[v, vI (a.1.length : Int), .func (.func 155) #[] #[p]] w (fun e w' => e = .returned (.tuple #[]) ∧ ∃ C', St H w' (C' ++ L) ∧ V1 (Y8 .i64) 2 H v (stb a.1) C') := by
 refine X2 Tryz.func239 rfl Tryz.ntmps239 rfl ?_
 refine Z3 (Z1 ?_)
 refine Z5 (vI 20) rfl rfl (Z0 ?_)
 refine Z3 (Z1 ?_)
 refine Z4 (vI 20) rfl rfl ?_
 refine Z5 (vI 0) rfl rfl (Z5 (vI 20) rfl rfl (Z0 ?_))
 refine Z3 (Y7 (Ya1 ?_))
 refine Z3 (Z3 (Z1 ?_))
 refine Z4 (vI 20) rfl rfl (Z4 (vI (a.1.length : Int)) rfl rfl ?_)
 refine Yb3 (k := .i64) (a := 20) (b := (a.1.length : Int)) rfl rfl rfl (Z0 ?_)
 refine Z9 (bF (show ¬ ((20 : Int) ≤ (a.1.length : Int)) by omega) rfl) ?_
 refine W4 rfl ?_
 refine Z3 (Z1 ?_)
 refine Z4 v rfl rfl (Z4 (vI 0) rfl rfl (Z4 (vI (a.1.length : Int)) rfl rfl (Z4 (.func (.func 155) #[] #[p]) rfl rfl ?_)))
 refine X0 (vs := #[v, vI 0, vI (a.1.length : Int), .func (.func 155) #[] #[p]]) Tryz.call277 (Xk5 rfl rfl rfl rfl) rfl (Wg7 hd hl ho hp hS) ?_
 rintro e w' ⟨rfl, C', hS', ho'⟩
 refine ⟨_, rfl, Z0 ?_⟩
 refine Y7 (Ya1 ?_)
 refine Z3 (Z3 (Z1 ?_))
 refine Z4 (vI 20) rfl rfl (Z4 (vI (a.1.length : Int)) rfl rfl ?_)
 refine U2 (k := .i64) (a := 20) (b := (a.1.length : Int)) rfl rfl rfl (Z0 ?_)
 refine Z9 (bF (show ¬ ((20 : Int) < (a.1.length : Int)) by omega) rfl) ?_
 refine W4 rfl ?_
 exact Zu6 (vs := []) Tryz.func239 trivial ⟨rfl, C', hS', ho'⟩
/-- what the sort asks for: degrees 1 to 12, at most 8, the list of all places in order -/
def okJ (a : F4) (xs : List Int) : Bool := decide ((∀ d, d ∈ a.1 → 1 ≤ d ∧ d ≤ 12) ∧ a.1.length ≤ 8 ∧ xs = idL a.1.length)
theorem Xv9 {H : FH} {w : World} {L C : OL} {v p : Value} {a : F4} {xs : List Int} (hG : okJ a xs = true) (ho : V1 (Y8 .i64) 2 H v xs C) (hp : Zh2 Yu0 H p a) (hS : St H w (C ++ L)) :
 Calls Tryz.prog 154 #[v, .func (.func 155) #[] #[p]] w (fun e w' => e = .returned (.tuple #[]) ∧ ∃ C', St H w' (C' ++ L) ∧ V1 (Y8 .i64) 2 H v (stb a.1) C') := by
 obtain ⟨hd, hl, rfl⟩ := of_decide_eq_true hG
 have hil : (idL a.1.length).length = a.1.length := by simp [idL]
 have hv : ∃ ad c, v = .slice ad a.1.length c := by
  rcases ho with ⟨rfl, hx, rfl⟩ | ⟨b, c, cs, rfl, _⟩
  have h0 : a.1.length = 0 := by rw [← hil, hx]; rfl
  exact ⟨none, 0, by rw [h0]⟩
  exact ⟨some ⟨b, 0, none⟩, c, by rw [hil]⟩
 obtain ⟨ad, c, hv⟩ := hv
 refine X2 Tryz.func154 rfl Tryz.ntmps154 rfl ?_
 refine Z1 ?_
 refine Z4 v rfl rfl (Z4 v rfl rfl ?_)
 refine Yl1 (a := ad) (m := a.1.length) (c := c) S9 hv rfl ?_
 refine Z4 (.func (.func 155) #[] #[p]) rfl rfl ?_
 refine X0 (vs := #[v, vI (a.1.length : Int), .func (.func 155) #[] #[p]]) Tryz.call239 (F9 rfl rfl rfl) rfl (Xo2 hd hl ho hp hS) ?_
 rintro e w' ⟨rfl, C', hS', ho'⟩
 refine ⟨_, rfl, Z0 ?_⟩
 exact Zu6 (vs := []) Tryz.func154 trivial ⟨rfl, C', hS', ho'⟩
/-- an algebra and a list of numbers: the list is new to H, the algebra is new to the heap that has the list -/
def Xa6 (H G : FH) (v0 v1 : Value) (x : F4) (xs : List Int) : Prop := ∃ Hm, Sub H Hm ∧ Sub Hm G ∧ RdF (Y8 .i64) H Hm v1 xs ∧ Zi4 Hm G v0 x
theorem Xa6.zero {H G : FH} (hs : Sub H G) : Xa6 H G (.agg #[.slice none 0 0, .slice none 0 0]) (.slice none 0 0) (([], []) : F4) [] :=
 ⟨H, .refl _, hs, Y2.nil, _, _, rfl, Y2.nil, RdN.nil (by rw [List.append_nil]; exact Zk0 _)⟩
end
def Zh7 (K : Nat) (a0 : ((List Int) × (List MpT))) (a1 : Int) : Option Int := ((Zn8 K a0.1 a1).bind fun r4 => (if r4 < 0 then some (-1) else ((Zp4 K a0.2 r4).bind fun r7 => (if r7 < 0 then some (-1) else some r7))))
theorem Yh7 {K : Nat} {a0 : ((List Int) × (List MpT))} {a1 : Int} {r : Int} (q0 : Zh7 K a0 a1 = some r) {H : FH} {w : World} {L : OL} {s0 : Value} {s1 : Value} (a7 : Y2 (Y8 .i64) H s0 a0.1) (a5 : Y2 (W0 yT) H s1 a0.2) (hS : St H w L) :
 Calls Tryz.prog 15 #[vA ([s0] ++ [s1]), vI a1] w (S3 (fun v G => (R.int .i64).p G v r) H L) := by
 have Z2 := Sub.refl H
 refine X2 Tryz.func15 rfl Tryz.ntmps15 rfl ?_
 unfold Zh7 at q0
 refine Z3 (Z1 ?_)
 refine S5 (v := vA ([s0] ++ [s1])) ([s0] ++ [s1]).toArray rfl rfl hS rfl ?_
 intro b1 w2 hS
 refine Z5 (vI 0) rfl rfl (Z0 (Z3 (Z1 (Y3 Xj6 rfl rfl ?_))))
 refine Y4 (s0) J7 rfl (hS.get mL) rfl rfl (Z4 (vI a1) rfl rfl ?_)
 obtain ⟨r4, a8, q0⟩ := bind_some q0
 refine X0 Tryz.call77 (T0 rfl rfl) rfl (Yj5 a8 a7 hS) ?_
 rintro e4 w5 ⟨_, H4, rfl, a6, hS, rfl⟩
 refine ⟨_, rfl, ?_⟩
 have Z2 := Z2.trans a6
 have a5 := a5.mono a6
 refine Z5 (vI r4) rfl rfl (Z0 (Z3 (Z3 (Z1 (Z4 (vI r4) rfl rfl ?_)))))
 refine U2 (k := .i64) (a := r4) (b := 0) rfl rfl rfl (Z0 ?_)
 by_cases a3 : r4 < 0
 rw [if_pos a3] at q0
 refine Y0 (bT a3 rfl) (Z3 (Z1 (Z5 (vI (-1)) rfl rfl (Z0 ?_))))
 refine Y9 (vs := [vI (-1)]) Tryz.func15 ⟨rfl, trivial⟩ ?_
 have hz := Option.some.inj q0
 subst hz
 exact ⟨_, _, rfl, Z2, (St.dropA hS), rfl⟩
 rw [if_neg a3] at q0
 refine Z9 (bF a3 rfl) (Y6 (Z3 (Z1 (Y3 Xi3 rfl rfl ?_))))
 refine Y4 (s1) We2 rfl (hS.get mL) rfl rfl (Z4 (vI r4) rfl rfl ?_)
 obtain ⟨r7, a9, q0⟩ := bind_some q0
 refine X0 Tryz.call33 (T0 rfl rfl) rfl (Ym2 a9 a5 hS) ?_
 rintro e7 w8 ⟨_, H7, rfl, b0, hS, rfl⟩
 refine ⟨_, rfl, ?_⟩
 have Z2 := Z2.trans b0
 refine Z5 (vI r7) rfl rfl (Z0 (Z3 (Z3 (Z1 (Z4 (vI r7) rfl rfl ?_)))))
 refine U2 (k := .i64) (a := r7) (b := 0) rfl rfl rfl (Z0 ?_)
 by_cases a4 : r7 < 0
 rw [if_pos a4] at q0
 refine Y0 (bT a4 rfl) (Z3 (Z1 (Z5 (vI (-1)) rfl rfl (Z0 ?_))))
 refine Y9 (vs := [vI (-1)]) Tryz.func15 ⟨rfl, trivial⟩ ?_
 have hz := Option.some.inj q0
 subst hz
 exact ⟨_, _, rfl, Z2, (St.dropA hS), rfl⟩
 rw [if_neg a4] at q0
 refine Z9 (bF a4 rfl) (Y6 (Z3 (Z1 (Z4 (vI r7) rfl rfl (Z5 (vI r7) rfl rfl (Z0 ?_))))))
 refine Y9 (vs := [vI r7]) Tryz.func15 ⟨rfl, trivial⟩ ?_
 have hz := Option.some.inj q0
 subst hz
 exact ⟨_, _, rfl, Z2, (St.dropA hS), rfl⟩
end Go.Proofs.YtfodlhkoafhplaaGreat
