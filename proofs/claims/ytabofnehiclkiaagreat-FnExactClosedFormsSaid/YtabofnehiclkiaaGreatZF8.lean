/- Walks of functions: each computes its pure function, if that gives a value. -/
import Derived.Test.YtabofnehiclkiaaGreatZF1
import Derived.Test.YtabofnehiclkiaaGreatZF4
import Derived.Test.YtabofnehiclkiaaGreatShelfP
import Derived.Test.YtabofnehiclkiaaGreatZF2
import Derived.Test.YtabofnehiclkiaaGreatZF3
namespace Go.Proofs.YtabofnehiclkiaaGreat
open Go Go.Proofs.Tryz
set_option linter.unusedSimpArgs false
set_option linter.unusedVariables false
set_option maxRecDepth 100000
set_option maxHeartbeats 8000000
variable {K : Nat} {H : FH} {w : World} {L : OL} {s0 s1 s2 s3 s4 s5 s6 : Value}
def I2 (K : Nat) (a0 : (List Int)) (a1 : (A8 × Int)) (a2 : MpT) : Nat → Int → MpT → Option (Ex MpT (MpT))
 | 0, _, _ => none
 | k + 1, a4, a6 => (if a4 < (a2.length : Int) then ((Zm8 K a0 a1.1 ((rd a2 a4).1)).bind fun a3 => (if a3.2 = 0 then I2 K a0 a1 a2 k (a4 + 1) a6 else ((F5 K (IntKind.i64.wrap ((IntKind.i64.wrap (a3.2 * a1.2)) * (rd a2 a4).2))).bind fun b5 => (if a6.length + ([(a3.1, b5)]).length ≤ 1099511627776 then I2 K a0 a1 a2 k (a4 + 1) (a6 ++ [(a3.1, b5)]) else none)))) else some (.go a6))
def Zo3 (K : Nat) (a0 : (List Int)) (a1 : (A8 × Int)) (a2 : MpT) : Option MpT := ((I2 K a0 a1 a2 K 0 ([] : List (A8 × Int))).bind (Ex.elim (fun r => some r) (fun s => (fun (b2 : MpT) => some b2) s)))
theorem Yw0 {a0 : (List Int)} {a1 : (A8 × Int)} {a2 : MpT} {r : MpT} (q0 : Zo3 K a0 a1 a2 = some r) (b8 : Y3 (Y5 .i64) H s0 a0) (b3 : Y3 yT H s1 a2) (hS : St H w L) :
 Calls prog 258 #[s0, vA (Z6 .u8 a1.1 ++ [vI a1.2]), vA ([s1])] w (U7 (fun v G => (R.agg (X2 yT)).p G v r) H L) := by
 have Z4 := Sub.refl H
 refine X0 func258 rfl ntmps258 rfl ?_
 unfold Zo3 at q0
 refine Z1 (Z0 ?_)
 refine T7 (v := vA (Z6 .u8 a1.1 ++ [vI a1.2])) (Z6 .u8 a1.1 ++ [vI a1.2]).toArray rfl rfl hS rfl ?_
 intro b1 _ hS
 refine T7 (v := vA ([s1])) ([s1]).toArray rfl rfl hS rfl ?_
 intro b4 _ hS
 refine U4 (z := vA ([vN])) ([vN]).toArray Zl9.zero rfl hS rfl ?_
 intro b7 _ hS
 refine Z2 (Z1 (Z0 ?_))
 refine B5 (vA ([vN])) Yr1 rfl ?_
 refine U4 (z := vA ([vN])) ([vN]).toArray Zl9.zero rfl hS rfl ?_
 intro c7 _ hS
 refine W4 (v := vA ([vN])) (vs := ([vN]).toArray) (cs := ([vN]).toArray) Q4 rfl rfl rfl hS rfl (Zb5 rfl) rfl ?_
 intro _ hS
 refine Z2 (Z1 (Z1 (Z0 (Z5 (vI 0) rfl rfl (Z2 (Y8 ?_))))))
 have e9 : X8 yT 78 H (.slice none 0 0) [] [] := X8.nil _ _ _
 obtain ⟨f0, a9, f1⟩ := bind_some q0
 refine W0 (id := 0) (fun k f w => ∃ (a4 : Int) (a6 : MpT) (H1 : FH) (a7 : OL) (a5 : Value), I2 K a0 a1 a2 k a4 a6 = some f0 ∧ Sub H H1 ∧ St H1 w (a7 ++ ([(c7, cA ([a5]) 45)] ++ ([(b7, cA ([vN]) 45)] ++ ([(b4, cA ([s1]) 45)] ++ ([(b1, cA (Z6 .u8 a1.1 ++ [vI a1.2]) 78)] ++ L))))) ∧ 0 ≤ a4 ∧ X8 yT 78 H1 a5 a6 a7 ∧ Y3 (Y5 .i64) H1 s0 a0 ∧ Y3 yT H1 s1 a2 ∧ tv f 0 = s0 ∧ tv f 4 = vP b1 ∧ tv f 5 = vP b4 ∧ tv f 6 = vP b7 ∧ tv f 7 = vP c7 ∧ tv f 8 = vI a4) (fun f w => ∃ (b2 : MpT) (H1 : FH) (b6 : OL) (b0 : Value), f0 = .go b2 ∧ Sub H H1 ∧ St H1 w (b6 ++ ([(c7, cA ([b0]) 45)] ++ ([(b7, cA ([vN]) 45)] ++ ([(b4, cA ([s1]) 45)] ++ ([(b1, cA (Z6 .u8 a1.1 ++ [vI a1.2]) 78)] ++ L))))) ∧ X8 yT 78 H1 b0 b2 b6 ∧ Y3 yT H1 s1 a2 ∧ tv f 6 = vP b7 ∧ tv f 7 = vP c7) rfl ?_ ?_ K ?_ ?_
 rintro f w ⟨a4, a6, H1, a7, a5, a9, _⟩
 rw [I2] at a9; cases a9
 rintro k _ _ i0 j6 ⟨a4, a6, i3, a7, a5, a9, Z4, hS, _, a8, b8, b3, d1, d2, c3, d3, d4, c4⟩
 rw [I2] at a9
 refine Z1 (Z1 (Z0 (Z3 (vI a4) (by exact c4) rfl (Y2 U3 (by exact c3) rfl ?_))))
 refine Y0 (s1) Q7 rfl (hS.get (mR (mR (mR mL)))) rfl rfl ?_
 have j7 := b3.bound
 refine X9 R9 rfl b3 rfl ?_
 refine W8 (k := .i64) (a := a4) (b := (a2.length : Int)) rfl rfl rfl (Z2 ?_)
 obtain ⟨d9, a9⟩ | ⟨d9, a9⟩ := ic a9
 refine Z8 (bT d9 rfl) (Y6 (Z1 (Y8 (Z1 ?_))))
 obtain ⟨i1, i2, _, _, _, i4, i5, ⟨_, _, rfl, rfl, rfl⟩, i6⟩ := b3.elem (i := a4) (by omega) (by omega)
 obtain ⟨a3, g4, a9⟩ := bind_some a9
 refine W7 16 (S9 [mE 20 (s0), mE 21 (vP b1), mE 22 (vA (Z6 .u8 a1.1)), mE 23 (vP b4), mE 24 (s1), mE 25 (vI a4), mE 26 (vQ i1 i2), mE 27 (vQ i1 (i2 + 0)), mE 28 (vA (Z6 .u8 ((rd a2 a4).1))), mE 29 (Value.tuple #[vA (Z6 .u8 a3.1), vI a3.2]), mE 19 (Value.tuple #[vA (Z6 .u8 a3.1), vI a3.2]), mE 30 (vA (Z6 .u8 a3.1)), mE 31 (vI a3.2), (9, MP.box (cA (Z6 .u8 (fun _ => 0)) 72)), mE 10 (vI a3.2)]) [Co.st 13 9 14 11 30 (Yh2 72)] mixed rfl (Yg5 (ns := [(13, 9, 14, 11, 30)]) rfl rfl) rfl hS (U1 rfl ?_ (U1 rfl ?_ (U1 rfl ?_ (U1 rfl ?_ (U1 rfl ?_ (U1 rfl ?_ (U1 rfl ?_ (U1 rfl ?_ (U1 rfl ?_ (U1 rfl ?_ (U1 rfl ?_ (U1 rfl ?_ (U1 rfl ?_ (U1 rfl ?_ (Yp0 rfl ?_ (U1 rfl ?_ V1)))))))))))))))) ?_
 exact X4 fun S B => Z3 (s0) (evT (B 0 rfl) d1) rfl (qz S)
 exact X4 fun S B => Y2 M9 (evT (B 4 rfl) d2) rfl (qz S)
 exact Y7 fun S V => V0 (Z6 .u8 a1.1) P5 (eM (V 1 21 rfl rfl)) (S.get (o := cA (Z6 .u8 a1.1 ++ [vI a1.2]) 78) (mR (mR (mR (mR (mR mL)))))) rfl (fun j hj => Zl3 ([]) (Z6 .u8 a1.1) (([vI a1.2])) j hj) rfl (qz S)
 exact X4 fun S B => Y2 U3 (evT (B 5 rfl) c3) rfl (qz S)
 exact Y7 fun S V => Y0 (s1) Q7 (eM (V 3 23 rfl rfl)) (S.get (mR (mR (mR (mR mL))))) rfl rfl (qz S)
 exact X4 fun S B => Z3 (vI a4) (evT (B 8 rfl) c4) rfl (qz S)
 exact Y7 fun S V => X5 R9 rfl (eM (V 4 24 rfl rfl)) i4 (eM (V 5 25 rfl rfl)) (by omega) (by omega) rfl (qz S)
 exact Y7 fun S V => Y2 M9 (eM (V 6 26 rfl rfl)) rfl (qz S)
 exact P0 fun s S V => V0 (Z6 .u8 ((rd a2 a4).1)) P5 (eM (V 7 27 rfl rfl)) (S.froz _ _ (s.1 _ _ i5)) rfl (Zd6 ([]) (Z6 .u8 ((rd a2 a4).1)) (([vI ((rd a2 a4).2)])) i6 (nl rfl)) rfl (qz S)
 intro _ _ _ _ g5 hS _ d6 hcq
 have b8 := b8.mono g5
 refine X3 call278 (D8 (eM (d6 0 20 rfl rfl)) (eM (d6 2 22 rfl rfl)) (eM (d6 8 28 rfl rfl))) rfl (Yt3 g4 b8 hS) ?_
 rintro _ _ _ g6 hS ⟨_, _, rfl, ⟨_, rfl, rfl⟩, rfl⟩
 exact qn g6 rfl hS rfl
 exact Y7 fun S V => Z3 (Value.tuple #[vA (Z6 .u8 a3.1), vI a3.2]) (eM (V 9 29 rfl rfl)) rfl (qz S)
 exact Y7 fun S V => V3 (vA (Z6 .u8 a3.1)) (eM (V 10 19 rfl rfl)) rfl rfl (qz S)
 exact Y7 fun S V => V3 (vI a3.2) (eM (V 10 19 rfl rfl)) rfl rfl (qz S)
 intro _ _ _ _ _ hS _ _ hcq
 refine U4 (z := vA (Z6 .u8 (fun _ => 0))) (Z6 .u8 (fun _ => 0)).toArray Yl0.zero rfl hS rfl ?_
 intro _ _ hS
 exact qn (.refl _) rfl hS ⟨_, rfl⟩
 intro c2 i7 f2 i8 _ hS _ e5 hcq
 have Z4 := Sub.refl f2
 obtain ⟨f3, d0⟩ := e5 13 9 rfl rfl
 have d0 : c2 9 = vP f3 := d0
 have hS : St f2 i7 (Zo7 (cA (Z6 .u8 (fun _ => 0)) 72) (c2 9) ++ (i8 ++ (a7 ++ ([(c7, cA ([a5]) 45)] ++ ([(b7, cA ([vN]) 45)] ++ ([(b4, cA ([s1]) 45)] ++ ([(b1, cA (Z6 .u8 a1.1 ++ [vI a1.2]) 78)] ++ L))))))) := hS
 rw [d0] at hS
 have i9 : tv c2 9 = vP f3 := d0
 have f4 : tv c2 30 = vA (Z6 .u8 a3.1) := e5 11 30 rfl rfl
 refine W4 (v := vA (Z6 .u8 a3.1)) (vs := (Z6 .u8 a3.1).toArray) (cs := (Z6 .u8 (fun _ => 0)).toArray) P5 i9 f4 rfl hS rfl (S8 .u8 a3.1) rfl ?_
 intro _ hS
 have j0 : c2 30 = vA (Z6 .u8 a3.1) := f4
 exact Z2 ⟨_, rfl, rfl, Z4, by show St _ _ (Zo7 (Yh2 72 (c2 30)) (c2 9) ++ _); rw [d0, j0]; exact hS, trivial⟩
 exact Y7 fun S V => Z5 (vI a3.2) (eM (V 12 31 rfl rfl)) rfl (qz S)
 intro c5 j1 f5 c8 hS c0 d7 hcq
 have hS : St f5 j1 ((Zo7 (Yh2 72 (c5 30)) (c5 9) ++ ([])) ++ (a7 ++ ([(c7, cA ([a5]) 45)] ++ ([(b7, cA ([vN]) 45)] ++ ([(b4, cA ([s1]) 45)] ++ ([(b1, cA (Z6 .u8 a1.1 ++ [vI a1.2]) 78)] ++ L)))))) := hS
 have Z4 := Z4.trans c8
 have b8 := b8.mono c8
 have b3 := b3.mono c8
 have a8 := a8.mono c8
 have f6 := evT (c0 0 rfl) d1
 have e0 := evT (c0 4 rfl) d2
 have e1 := evT (c0 5 rfl) c3
 have f7 := evT (c0 6 rfl) d3
 have e2 := evT (c0 7 rfl) d4
 have e3 := evT (c0 8 rfl) c4
 have f8 : tv c5 10 = vI a3.2 := d7 15 10 (by decide) rfl
 obtain ⟨f9, c6⟩ := d7 13 9 (by decide) rfl
 have c6 : c5 9 = vP f9 := c6
 rw [c6] at hS
 have c6 : tv c5 9 = _ := c6
 have j2 : c5 30 = vA (Z6 .u8 a3.1) := (eM (d7 11 30 (by decide) rfl))
 rw [j2] at hS
 refine Z2 (Z1 (Z0 (Z3 (vI a3.2) (by exact f8) rfl ?_)))
 refine M0 (k := .i64) (a := a3.2) (b := 0) rfl rfl rfl (Z2 ?_)
 obtain ⟨d8, a9⟩ | ⟨d8, a9⟩ := ic a9
 refine Z7 (bN d8 rfl) (Y6 (X1 (Z0 (Z3 (vI a4) (by exact e3) rfl ?_))))
 refine W2 (a4 + 1) rfl rfl (IntWalk.i64_in _ (by omega)) rfl (Z5 (vI (a4 + 1)) rfl rfl (Z2 ?_))
 have hS := St.dropA hS
 exact i0 _ _ ⟨(a4 + 1), a6, f5, a7, a5, a9, Z4, hS, (by omega), a8, b8, b3, f6, e0, e1, f7, e2, rfl⟩
 refine Z8 (bO d8 rfl) ?_
 obtain ⟨g0, g1, _, _, _, g7, g8, ⟨_, _, rfl, rfl, rfl⟩, g9⟩ := b3.elem (i := a4) (by omega) (by omega)
 obtain ⟨b5, h0, a9⟩ := bind_some a9
 refine W7 17 (S9 [mE 34 (vP c7), mE 35 (a5), mE 36 (vA (Z6 .u8 a3.1)), mE 37 (vI a3.2), mE 38 (vQ b1 8), mE 39 (vI a1.2), mE 40 (vI (IntKind.i64.wrap (a3.2 * a1.2))), mE 41 (vP b4), mE 42 (s1), mE 43 (vI a4), mE 44 (vQ g0 g1), mE 45 (vQ g0 (g1 + 8)), mE 46 (vI ((rd a2 a4).2)), mE 47 (vI (IntKind.i64.wrap ((IntKind.i64.wrap (a3.2 * a1.2)) * (rd a2 a4).2))), mE 48 (vI b5), mE 49 (vA (Z6 .u8 a3.1 ++ [vI b5])), (50, MP.sl yT ([(a3.1, b5)]))]) [] mixed rfl rfl rfl hS (V9 ?_ ?_ ?_ ?_ ?_ ?_ ?_ ?_ (V9 ?_ ?_ ?_ ?_ ?_ ?_ ?_ ?_ (E8 ?_ V1))) ?_
 exact X4 fun S B => Y2 U3 (evT (B 7 rfl) e2) rfl (qz S)
 exact Y7 fun S V => Y0 (a5) Q7 (eM (V 0 34 rfl rfl)) (S.get (mR (mR (mR mL)))) rfl rfl (qz S)
 exact X4 fun S B => W3 P5 (evT (B 9 rfl) c6) (S.get (mR mL)) rfl rfl (qz S)
 exact X4 fun S B => Z3 (vI a3.2) (evT (B 10 rfl) f8) rfl (qz S)
 exact X4 fun S B => Y2 Ze3 (evT (B 4 rfl) e0) rfl (qz S)
 exact Y7 fun S V => Y0 (vI a1.2) ty2 (eM (V 4 38 rfl rfl)) (S.get (mR (mR (mR (mR (mR (mR mL))))))) rfl rfl (qz S)
 exact Y7 fun S V => Zg4 (IntKind.i64.wrap (a3.2 * a1.2)) (eM (V 3 37 rfl rfl)) (eM (V 5 39 rfl rfl)) rfl rfl (qz S)
 exact X4 fun S B => Y2 U3 (evT (B 5 rfl) e1) rfl (qz S)
 exact Y7 fun S V => Y0 (s1) Q7 (eM (V 7 41 rfl rfl)) (S.get (mR (mR (mR (mR (mR mL)))))) rfl rfl (qz S)
 exact X4 fun S B => Z3 (vI a4) (evT (B 8 rfl) e3) rfl (qz S)
 exact Y7 fun S V => X5 R9 rfl (eM (V 8 42 rfl rfl)) g7 (eM (V 9 43 rfl rfl)) (by omega) (by omega) rfl (qz S)
 exact Y7 fun S V => Y2 Ze3 (eM (V 10 44 rfl rfl)) rfl (qz S)
 exact P0 fun s S V => Y0 (vI ((rd a2 a4).2)) ty2 (eM (V 11 45 rfl rfl)) (S.froz _ _ (s.1 _ _ g8)) (g9 8 (show 8 < 9 by decide)) rfl (qz S)
 exact Y7 fun S V => Zg4 (IntKind.i64.wrap ((IntKind.i64.wrap (a3.2 * a1.2)) * (rd a2 a4).2)) (eM (V 6 40 rfl rfl)) (eM (V 12 46 rfl rfl)) rfl rfl (qz S)
 intro _ _ _ _ _ hS _ h1 hcq
 refine X3 call209 (R3 (eM (h1 13 47 rfl rfl))) rfl (D2 h0  hS) ?_
 rintro _ _ _ h2 hS rfl
 exact qn h2 rfl hS rfl
 exact Y7 fun S V => Zu1 (Z6 .u8 a3.1 ++ [vI b5]) Xl8 (Zz7 (eM (V 2 36 rfl rfl)) (eM (V 14 48 rfl rfl))) (F2 rfl rfl rfl (nl rfl) (F2 rfl rfl rfl (nl rfl) (Zp8 rfl))) rfl (qz S)
 intro _ _ _ _ _ hS _ h3 hcq
 refine Zc2 (τ := yT) R9 Ye6 rfl [vA (Z6 .u8 a3.1 ++ [vI b5])] [(a3.1, b5)] rfl rfl (E7 (eM (h3 15 49 rfl rfl))) (Zk6 ⟨_, _, rfl, rfl, rfl⟩) (by decide) (by decide) hS rfl ?_
 intro _ _ _ h4 hS h5
 exact qn h4 rfl hS h5
 intro _ j3 g2 c9 hS c1 e6 hcq
 have hS : St g2 j3 ([(f9, cA (Z6 .u8 a3.1) 72)] ++ (a7 ++ ([(c7, cA ([a5]) 45)] ++ ([(b7, cA ([vN]) 45)] ++ ([(b4, cA ([s1]) 45)] ++ ([(b1, cA (Z6 .u8 a1.1 ++ [vI a1.2]) 78)] ++ L)))))) := hS
 have Z4 := Z4.trans c9
 have b8 := b8.mono c9
 have b3 := b3.mono c9
 have a8 := a8.mono c9
 have g3 := evT (c1 7 rfl) e2
 obtain ⟨_, j4, h6⟩ := gvS (e6 16 50 (by decide) rfl)
 obtain ⟨h7, a9⟩ := gd a9
 have hS := hS.perm R6
 refine N6 (τ := yT) Xa7 rfl (by exact (eM (e6 1 35 (by decide) rfl))) (by exact j4) a8 hS h6 h7 rfl ?_
 intro e4 _ j5 e7 hS
 have hS := hS.perm R6.symm
 refine Y2 U3 (by exact g3) rfl ?_
 have hS := hS.perm Zb1
 refine Zd3 (v := e4) (cs := ([a5]).toArray) (cs' := ([e4]).toArray) Q7 rfl rfl hS e7.isOne rfl (nl rfl) rfl ?_
 intro _ hS
 have hS := hS.perm Zb1.symm
 refine Z2 (X1 (Z0 (Z3 (vI a4) (by exact (evT (c1 8 rfl) e3)) rfl ?_)))
 refine W2 (a4 + 1) rfl rfl (IntWalk.i64_in _ (by omega)) rfl (Z5 (vI (a4 + 1)) rfl rfl (Z2 ?_))
 have hS := St.dropA hS
 exact i0 _ _ ⟨(a4 + 1), (a6 ++ [(a3.1, b5)]), g2, j5, e4, a9, Z4, hS, (by omega), e7, b8, b3, (evT (c1 0 rfl) f6), (evT (c1 4 rfl) e0), (evT (c1 5 rfl) e1), (evT (c1 6 rfl) f7), g3, rfl⟩
 refine Z7 (bF d9 rfl) ?_
 refine X7 rfl ?_
 obtain rfl := oi a9
 exact j6 _ _ ⟨a6, i3, a7, a5, rfl, Z4, hS, a8, b3, d3, d4⟩
 exact ⟨0, ([] : List (A8 × Int)), H, ([]), (vN), a9, Z4, hS, (by omega), e9, b8, b3, rfl, rfl, rfl, rfl, rfl, rfl⟩
 rintro _ _ ⟨b2, _, b6, b0, rfl, Z4, hS, b9, b3, d5, e8⟩
 dsimp only [Ex.elim] at f1
 refine Z1 (Z0 ?_)
 refine W3 Q4 (by exact e8) (hS.get (mR mL)) rfl rfl ?_
 have hS := hS.perm Zb1
 refine W4 (v := vA ([b0])) (vs := ([b0]).toArray) (cs := ([vN]).toArray) Q4 (by exact d5) rfl rfl hS rfl (Zb5 b9.isOne) rfl ?_
 intro _ hS
 have hS := hS.perm Zb1.symm
 refine Z2 ?_
 refine Y9 (vs := [vA ([b0])]) func258 ⟨⟨_, (by exact d5), P1 Q4 (hS.get (mR (mR mL))) rfl⟩, trivial⟩ ?_
 obtain ⟨_, h8, hS, h9⟩ := b9.freeze hS
 have Z4 := Z4.trans h8
 obtain rfl := oi f1
 exact ⟨_, _, rfl, Z4, (St.dropA (St.dropA (St.dropA (St.dropA hS)))), ⟨_, rfl, ⟨_, rfl, h9⟩⟩⟩
section
open Go Go.Sort Go.RowKit Go.Shelf Go.Lib
abbrev Zz3 := {a : A8 // ∀ i, 0 ≤ a i ∧ a i ≤ 2305843009213693952}
instance : Inhabited Zz3 := ⟨⟨fun _ => 0, fun _ => by simp⟩⟩
def Xa5 (a b : A8) : Int :=
 if a 0 = b 0 then if a 1 = b 1 then if a 2 = b 2 then if a 3 = b 3 then if a 4 = b 4 then if a 5 = b 5 then if a 6 = b 6 then if a 7 = b 7 then 0
  else IntKind.i64.wrap (b 7 - a 7) else IntKind.i64.wrap (b 6 - a 6) else IntKind.i64.wrap (b 5 - a 5) else IntKind.i64.wrap (b 4 - a 4) else IntKind.i64.wrap (b 3 - a 3)
  else IntKind.i64.wrap (b 2 - a 2) else IntKind.i64.wrap (b 1 - a 1) else IntKind.i64.wrap (b 0 - a 0)
theorem Vb2 (a b : A8) : D0 9 a b = some (Xa5 a b) := by
 have e : ∀ (m : A8) (j : Nat) (h : j < 8), Y4 m (j : Int) = m ⟨j, h⟩ := fun m j h => by unfold Y4; simp [h]
 have e0 := fun m => e m 0 (by decide)
 have e1 := fun m => e m 1 (by decide)
 have e2 := fun m => e m 2 (by decide)
 have e3 := fun m => e m 3 (by decide)
 have e4 := fun m => e m 4 (by decide)
 have e5 := fun m => e m 5 (by decide)
 have e6 := fun m => e m 6 (by decide)
 have e7 := fun m => e m 7 (by decide)
 simp only [Int.ofNat_zero, Int.natCast_one, Int.cast_ofNat_Int] at e0 e1 e2 e3 e4 e5 e6 e7
 unfold D0 Xa5
 have z : ∀ (j k : Int), j + 1 = k → j + 1 = k := fun _ _ h => h
 simp only [P6, show (0 : Int) + 1 = 1 from rfl, show (1 : Int) + 1 = 2 from rfl, show (2 : Int) + 1 = 3 from rfl, show (3 : Int) + 1 = 4 from rfl, show (4 : Int) + 1 = 5 from rfl, show (5 : Int) + 1 = 6 from rfl,
  show (6 : Int) + 1 = 7 from rfl, show (7 : Int) + 1 = 8 from rfl, show (0 : Int) < 8 from by decide, show (1 : Int) < 8 from by decide, show (2 : Int) < 8 from by decide, show (3 : Int) < 8 from by decide, show (4 : Int) < 8 from by decide,
  show (5 : Int) < 8 from by decide, show (6 : Int) < 8 from by decide, show (7 : Int) < 8 from by decide, show ¬ (8 : Int) < 8 from by decide, if_true, if_false, e0, e1, e2, e3, e4, e5, e6, e7]
 simp only [show (⟨0, by decide⟩ : Fin 8) = 0 from rfl, show (⟨1, by decide⟩ : Fin 8) = 1 from rfl, show (⟨2, by decide⟩ : Fin 8) = 2 from rfl, show (⟨3, by decide⟩ : Fin 8) = 3 from rfl, show (⟨4, by decide⟩ : Fin 8) = 4 from rfl,
  show (⟨5, by decide⟩ : Fin 8) = 5 from rfl, show (⟨6, by decide⟩ : Fin 8) = 6 from rfl, show (⟨7, by decide⟩ : Fin 8) = 7 from rfl]
 by_cases h0 : a 0 = b 0
 by_cases h1 : a 1 = b 1
 by_cases h2 : a 2 = b 2
 by_cases h3 : a 3 = b 3
 by_cases h4 : a 4 = b 4
 by_cases h5 : a 5 = b 5
 by_cases h6 : a 6 = b 6
 by_cases h7 : a 7 = b 7
 simp [h0, h1, h2, h3, h4, h5, h6, h7, Ex.elim]
 simp [h0, h1, h2, h3, h4, h5, h6, h7, Ex.elim]
 simp [h0, h1, h2, h3, h4, h5, h6, Ex.elim]
 simp [h0, h1, h2, h3, h4, h5, Ex.elim]
 simp [h0, h1, h2, h3, h4, Ex.elim]
 simp [h0, h1, h2, h3, Ex.elim]
 simp [h0, h1, h2, Ex.elim]
 simp [h0, h1, Ex.elim]
 simp [h0, Ex.elim]
theorem Wt9 {x y : Int} (hx : 0 ≤ x ∧ x ≤ 2305843009213693952) (hy : 0 ≤ y ∧ y ≤ 2305843009213693952) : decide (IntKind.i64.wrap (y - x) < 0) = decide (y < x) := by
 rw [IntWalk.i64_in _ (by omega)]
 simp only [decide_eq_decide]
 omega
theorem Xh2 (x y : Zz3) : ltOf (fun x y : Zz3 => Xa5 x.1 y.1) x y = bef x.1 y.1 := by
 unfold ltOf Xa5 bef l8
 have hw : ∀ i, decide (IntKind.i64.wrap (y.1 i - x.1 i) < 0) = decide (y.1 i < x.1 i) := fun i => Wt9 (x.2 i) (y.2 i)
 simp only [Zg3]
 by_cases h0 : x.1 0 = y.1 0
 by_cases h1 : x.1 1 = y.1 1
 by_cases h2 : x.1 2 = y.1 2
 by_cases h3 : x.1 3 = y.1 3
 by_cases h4 : x.1 4 = y.1 4
 by_cases h5 : x.1 5 = y.1 5
 by_cases h6 : x.1 6 = y.1 6
 by_cases h7 : x.1 7 = y.1 7
 simp [h0, h1, h2, h3, h4, h5, h6, h7]
 simp only [h0, h1, h2, h3, h4, h5, h6, if_true, if_neg h7]; exact hw 7
 simp only [h0, h1, h2, h3, h4, h5, if_true, if_neg h6]; exact hw 6
 simp only [h0, h1, h2, h3, h4, if_true, if_neg h5]; exact hw 5
 simp only [h0, h1, h2, h3, if_true, if_neg h4]; exact hw 4
 simp only [h0, h1, h2, if_true, if_neg h3]; exact hw 3
 simp only [h0, h1, if_true, if_neg h2]; exact hw 2
 simp only [h0, if_true, if_neg h1]; exact hw 1
 simp only [if_neg h0]; exact hw 0
theorem Vg3 : SWO (ltOf fun x y : Zz3 => Xa5 x.1 y.1) where
 irrefl x := by rw [Xh2]; exact Zf3 _
 trans x y z h1 h2 := by rw [Xh2] at *; exact Zp5 h1 h2
 ntrans x y z h1 h2 := by
  rw [Xh2] at *
  cases h : bef x.1 z.1 with
  | false => rfl
  | true =>
   by_cases exy : x.1 = y.1
   rw [exy] at h; rw [h] at h2; cases h2
   have hyx : bef y.1 x.1 = true := (Yg4 exy).resolve_left (by rw [h1]; simp)
   rw [Zp5 hyx h] at h2; cases h2
def FH.all (W : World) : FH := ⟨fun b => W.heap[b]?, fun _ => none, some (W.tape, W.os, W.output, W.drawn, W.heap.size)⟩
theorem St.all (W : World) : St (FH.all W) W [] := ⟨fun _ _ h => h, fun _ _ h => (by cases h), fun t h => (by cases h; exact ⟨rfl, rfl, rfl, Nat.le_refl _⟩), fun b o h hl => (by
 have h : W.heap[b]? = some o := h
 have hl : W.heap.size ≤ b := hl
 rw [Array.getElem?_eq_none hl] at h; cases h), fun _ h => (by cases h), List.nodup_nil, fun _ h => (by cases h)⟩
theorem Wp9 {W w' : World} {H' : FH} (hs : Sub (FH.all W) H') (hS : St H' w' []) : ∃ q os, w' = grow (W.drewN q) os := by
 obtain ⟨h1, h2, h3, h4⟩ := hS.rest _ (hs.2.2.trans rfl)
 have hsz : W.heap.size ≤ w'.heap.size := by
  by_cases h0 : W.heap.size = 0
  omega
  have hl : W.heap[W.heap.size - 1]? = some W.heap[W.heap.size - 1] := by simp
  have := Zg0 (hS.froz _ _ (hs.1 _ _ hl))
  omega
 refine ⟨w'.drawn - W.drawn, w'.heap.extract W.heap.size w'.heap.size, ?_⟩
 have hh : w'.heap = W.heap ++ w'.heap.extract W.heap.size w'.heap.size := by
  apply Array.ext_getElem?
  intro i
  rw [Array.getElem?_append]
  split
  rename_i hi
  have hl : W.heap[i]? = some W.heap[i] := by simp [hi]
  rw [hl]
  exact hS.froz _ _ (hs.1 _ _ hl)
  rename_i hi
  rw [Array.getElem?_extract]
  by_cases hi2 : i < w'.heap.size
  rw [if_pos (by omega)]
  congr 1; omega
  rw [if_neg (by omega)]
  simp; omega
 obtain ⟨hp, tp, dr, os, out⟩ := w'
 simp only at h1 h2 h3 h4 hh hsz ⊢
 unfold grow World.drewN
 simp only
 congr 1
 omega
theorem Wz5 (blk off size : Nat) (w : World) : CmpLays prog 213 #[] (fun x : Zz3 => Z6 .i64 x.1) 8 (fun x y => Xa5 x.1 y.1) blk off size w := by
 intro m os dk hd x y
 have h := Zy5 (Vb2 x.1 y.1) (St.all (sortWorldK (fun x : Zz3 => Z6 .i64 x.1) 8 w blk off m dk os))
 refine h.mono ?_
 rintro e w' ⟨v, H', rfl, hs, hS, hv⟩
 exact ⟨congrArg Ending.returned hv, Wp9 hs hS⟩
theorem St.ahead {H : FH} {w : World} {L : OL} (h : St H w L) (n : Nat) : St H (Sort.ahead w n) L :=
 ⟨h.froz, h.memo, fun t ht => (let ⟨a, b, c, d⟩ := h.rest t ht; ⟨a, b, c, Nat.le_trans d (Nat.le_add_right _ _)⟩), h.nofz, h.own, h.nodup, h.apart⟩
theorem St.grown {H : FH} {w : World} {L : OL} (h : St H w L) (os : Array Obj) : St H (grow w os) L := by
 have hlt : ∀ b o', w.heap[b]? = some o' → (grow w os).heap[b]? = some o' := fun b o' hb => by
  have := Zg0 hb
  show (w.heap ++ os)[b]? = some o'
  rw [Array.getElem?_append_left this]; exact hb
 exact ⟨fun b o hb => hlt b o (h.froz b o hb), fun b I hb => (let ⟨h1, h2, o, h3, h4⟩ := h.memo b I hb; ⟨h1, h2, o, hlt _ _ h3, h4⟩), h.rest, h.nofz, fun x hx => hlt _ _ (h.own x hx), h.nodup, h.apart⟩
theorem St.mapBlock {H : FH} {w : World} {L : OL} {b : Nat} {cs : Array Value} {E : TypeId} (h : St H w ([(b, .cells cs E)] ++ L)) (f : Array Value → Array Value) : St H (Sort.mapBlock w b f) ([(b, .cells (f cs) E)] ++ L) := by
 have hw : w.heap[b]? = some (.cells cs E) := St.hd h
 have e : Sort.mapBlock w b f = { w with heap := w.heap.setIfInBounds b (.cells (f cs) E) } := by
  unfold Sort.mapBlock
  congr 1
  apply Array.ext_getElem?
  intro k
  rw [Array.getElem?_modify, Array.getElem?_setIfInBounds]
  by_cases hk : b = k
  subst hk
  have := Zg0 hw
  rw [hw]
  simp [this, onCells]
  simp [hk]
 rw [e]
 exact St.put h _
theorem Va4 {xs : List A8} (hb : ∀ a, a ∈ xs → ∀ i, 0 ≤ a i ∧ a i ≤ 2305843009213693952) : ∃ ks : List Zz3, ks.map Subtype.val = xs := by
 induction xs with
 | nil => exact ⟨[], rfl⟩
 | cons a xs ih =>
  obtain ⟨ks, rfl⟩ := ih (fun b h => hb b (List.mem_cons_of_mem _ h))
  exact ⟨⟨a, hb a (List.mem_cons_self ..)⟩ :: ks, rfl⟩
theorem Wt1 (ks : List Zz3) (t : Nat) (h : t < ks.length * 8) : (flatK (fun x : Zz3 => Z6 .i64 x.1) 8 ks.toArray)[t]! = (Z6 .i64 (ks[t / 8]!).1)[t % 8]! := by
 rw [get_flatK _ _ _ _ (by simpa using h)]
 simp
theorem Vb1 {H : FH} {w : World} {L : OL} {b c : Nat} {cs : Array Value} {xs : List A8} (hl : xs.length ≤ c) (hc : c ≤ maxLen) (hcs : cs.size = c * 8)
 (hx : ∀ i x, xs[i]? = some x → ∀ j, j < 8 → cs[i * 8 + j]? = (Z6 .i64 x)[j]?) (hS : St H w ([(b, .cells cs 222)] ++ L))
 (hb : ∀ a, a ∈ xs → ∀ i, 0 ≤ a i ∧ a i ≤ 2305843009213693952) (hlen : xs.length ≤ 1099511627776) (hnd : xs.Nodup) :
 Calls prog 257 #[.slice (some ⟨b, 0, none⟩) xs.length c, .func (.func 213) #[] #[]] w (fun e w' => e = .returned (.tuple #[]) ∧ ∃ ys C', ys.Perm xs ∧ ys.Pairwise (fun p q => bef p q = true) ∧ St H w' (C' ++ L) ∧
  X8 (Q9 .i64) 222 H (.slice (some ⟨b, 0, none⟩) xs.length c) ys C') := by
 obtain ⟨ks, rfl⟩ := Va4 hb
 have hw : w.heap[b]? = some (.cells cs 222) := St.hd hS
 have hget : ∀ (t : Nat), t < ks.length * 8 → cs[t]? = some ((flatK (fun x : Zz3 => Z6 .i64 x.1) 8 ks.toArray)[t]!) := by
  intro t ht
  have h8 : t / 8 < ks.length := by omega
  have := hx (t / 8) (ks[t / 8]).1 (by simp [h8]) (t % 8) (Nat.mod_lt _ (by decide))
  rw [show t / 8 * 8 + t % 8 = t by omega] at this
  rw [this, Wt1 ks t ht]
  have he : (Z6 .i64 (ks[t / 8]).1).length = 8 := rfl
  have h9 : t % 8 < (Z6 .i64 (ks[t / 8]).1).length := by rw [he]; exact Nat.mod_lt _ (by decide)
  rw [getElem!_pos ks _ h8, List.getElem?_eq_getElem h9, getElem!_pos (Z6 .i64 (ks[t / 8]).1) _ h9]
 have hH : HoldsK (fun x : Zz3 => Z6 .i64 x.1) 8 w b 0 ks.toArray := by
  intro j hj
  rw [size_flatK] at hj
  have hj' : j < ks.length * 8 := by simpa using hj
  refine ⟨?_, ?_⟩
  rw [World.cell?, hw]
  simp only [Nat.zero_add]
  rw [hget j hj']; rfl
  simp [World.frozen?, hw]
 have hcall := AnyQ.slices_SortFunc Tryz.sortP 8 isAgg222 sizeOf222 (fun x : Zz3 => Z6 .i64 x.1) (fun _ => rfl) (fun x v hv => S8 _ _ v hv) (fun x y => Xa5 x.1 y.1) Vg3 213 #[] b 0 c ks.toArray w call213
  (Wz5 b 0 ks.toArray.size w) hH (Zg0 hw) (by simp at hlen ⊢; omega)
 change Calls prog 257 _ _ _ at hcall
 simp only [List.size_toArray, List.length_map] at hcall ⊢
 refine hcall.mono ?_
 rintro e w' ⟨rfl, d', n, os, hp, hs, rfl⟩
 have hsz : d'.size = ks.length := by have := hp.1; simpa using this
 have hperm : d'.toList.Perm ks := by
  have := hp.2.2
  rw [Array.extract_eq_self_of_le (by omega), Array.extract_eq_self_of_le (by simp)] at this
  simpa using this
 have hF : (flatK (fun x : Zz3 => Z6 .i64 x.1) 8 d').size = ks.length * 8 := by rw [size_flatK, hsz]
 refine ⟨rfl, d'.toList.map Subtype.val, [(b, .cells (putCells id 0 (flatK (fun x : Zz3 => Z6 .i64 x.1) 8 d') cs) 222)], hperm.map _, ?_, ?_, .inr ⟨b, c, _, ?_, ?_, hc, ?_, rfl, ?_⟩⟩
 rw [List.pairwise_map, List.pairwise_iff_getElem]
 intro i j hi hj hij
 have hi' : i < d'.size := by simpa using hi
 have hj' : j < d'.size := by simpa using hj
 have := hs i j (Nat.zero_le _) hij (by simp at hj ⊢; omega)
 rw [Xh2, getElem!_pos d' j hj', getElem!_pos d' i hi'] at this
 simp only [Array.getElem_toList]
 refine (Yg4 ?_).resolve_right (by rw [this]; simp)
 intro e
 have hnd' : (d'.toList.map Subtype.val).Nodup := (hperm.map _).nodup_iff.2 hnd
 have := (List.nodup_iff_pairwise_ne.1 hnd')
 rw [List.pairwise_map, List.pairwise_iff_getElem] at this
 exact this i j hi hj hij (by simpa using e)
 have h1 := (hS.ahead n).mapBlock (putCells id 0 (flatK (fun x : Zz3 => Z6 .i64 x.1) 8 d'))
 exact h1.grown os
 simp [hsz]
 simp [hsz]; simpa using hl
 simp only [putCells, Array.size_mapIdx]
 exact hcs
 intro i x hix
 refine ⟨_, rfl, fun j hj => ?_⟩
 have hj : j < 8 := hj
 have hi : i < d'.size := by
  rcases Nat.lt_or_ge i d'.size with h | h
  exact h
  rw [List.getElem?_eq_none (by simpa using h)] at hix; cases hix
 have hxv : x = d'[i].1 := by
  rw [List.getElem?_map] at hix
  simp [hi] at hix
  exact hix.symm
 subst hxv
 show (putCells id 0 (flatK (fun x : Zz3 => Z6 .i64 x.1) 8 d') cs)[i * 8 + j]? = _
 have ht : i * 8 + j < ks.length * 8 := by omega
 have hcl : i * 8 + j < cs.size := by rw [hcs]; simp at hl; omega
 simp only [putCells, Array.getElem?_mapIdx]
 rw [Array.getElem?_eq_getElem hcl]
 simp only [Option.map_some]
 rw [if_pos (by rw [hF]; omega), Nat.sub_zero, get_flatK _ _ _ _ (by rw [hsz]; exact ht)]
 rw [show (i * 8 + j) / 8 = i by omega, show (i * 8 + j) % 8 = j by omega, getElem!_pos d' _ hi]
 have h9 : j < (Z6 .i64 d'[i].1).length := hj
 rw [getElem!_pos (Z6 .i64 d'[i].1) j h9, List.getElem?_eq_getElem h9]; rfl
end
def Zb7 (K : Nat) (a0 : (List Int)) (a1 : (List Int)) (a2 : Int) : Nat → Int → (List Int) → Option (Ex (List Int) ((List Int)))
 | 0, _, _ => none
 | k + 1, a3, a5 => (if a3 < (a0.length : Int) then (if a3 < (a1.length : Int) then ((F5 K (IntKind.i64.wrap ((rd a0 a3) - (IntKind.i64.wrap (a2 * (rd a1 a3)))))).bind fun b5 => (if a3 < (a5.length : Int) then Zb7 K a0 a1 a2 k (a3 + 1) (a5.set (a3).toNat b5) else none)) else none) else some (.go a5))
def Zh0 (K : Nat) (a0 : (List Int)) (a1 : (List Int)) (a2 : Int) : Option (List Int) := (if (a0.length : Int) ≤ 1099511627776 then ((Zb7 K a0 a1 a2 K 0 (List.replicate ((a0.length : Int)).toNat (0 : Int))).bind (Ex.elim (fun r => some r) (fun s => (fun (b0 : (List Int)) => some b0) s))) else none)
theorem Zz0 {a0 : (List Int)} {a1 : (List Int)} {a2 : Int} {r : (List Int)} (q0 : Zh0 K a0 a1 a2 = some r) (b2 : Y3 (Y5 .i64) H s0 a0) (b9 : Y3 (Y5 .i64) H s1 a1) (hS : St H w L) :
 Calls prog 190 #[s0, s1, vI a2] w (U7 (fun v G => (R.sl (Y5 .i64)).p G v r) H L) := by
 have Z4 := Sub.refl H
 refine X0 func190 rfl ntmps190 rfl ?_
 unfold Zh0 at q0
 refine Z1 (Z0 (Z5 (vN) rfl rfl (Z2 (Z1 (Z0 (Z3 (s0) rfl rfl ?_))))))
 have f3 := b2.bound
 refine X9 U5 rfl b2 rfl ?_
 obtain ⟨_, q0⟩ := gd q0
 refine Yg0 (τ := (Y5 .i64)) (0 : Int) Yb7 rfl rfl rfl (fun _ => rfl) (by omega) (by omega) hS rfl ?_
 intro u3 _ C5 e8 hS
 refine Z5 (u3) rfl rfl (Z2 (Z1 (Z1 (Z0 (Z5 (vI 0) rfl rfl (Z2 (Y8 ?_)))))))
 obtain ⟨c6, a6, c7⟩ := bind_some q0
 refine W0 (id := 0) (fun k f w => ∃ (a3 : Int) (a5 : (List Int)) (H1 : FH) (a7 : OL) (a4 : Value), Zb7 K a0 a1 a2 k a3 a5 = some c6 ∧ Sub H H1 ∧ St H1 w (a7 ++ L) ∧ 0 ≤ a3 ∧ X8 (Y5 .i64) 2 H1 a4 a5 a7 ∧ Y3 (Y5 .i64) H1 s0 a0 ∧ Y3 (Y5 .i64) H1 s1 a1 ∧ tv f 0 = s0 ∧ tv f 1 = s1 ∧ tv f 2 = vI a2 ∧ tv f 7 = a4 ∧ tv f 8 = vI a3) (fun f w => ∃ (b0 : (List Int)) (H1 : FH) (b3 : OL) (a8 : Value), c6 = .go b0 ∧ Sub H H1 ∧ St H1 w (b3 ++ L) ∧ X8 (Y5 .i64) 2 H1 a8 b0 b3 ∧ tv f 7 = a8) rfl ?_ ?_ K ?_ ?_
 rintro f w ⟨a3, a5, H1, a7, a4, a6, _⟩
 rw [Zb7] at a6; cases a6
 rintro k _ _ e9 f0 ⟨a3, a5, d9, a7, a4, a6, Z4, hS, _, a9, b2, b9, b6, c0, c1, b7, b1⟩
 rw [Zb7] at a6
 refine Z1 (Z1 (Z0 (Z3 (vI a3) (by exact b1) rfl (Z3 (s0) (by exact b6) rfl ?_))))
 have f4 := b2.bound
 refine X9 U5 rfl b2 rfl ?_
 refine W8 (k := .i64) (a := a3) (b := (a0.length : Int)) rfl rfl rfl (Z2 ?_)
 obtain ⟨c8, a6⟩ | ⟨c8, a6⟩ := ic a6
 refine Z8 (bT c8 rfl) (Y6 (Z1 (Y8 ?_)))
 obtain ⟨f1, f2, _, _, _, e0, e1, rfl, e2⟩ := b2.elem (i := a3) (by omega) (by omega)
 obtain ⟨_, a6⟩ := gd a6
 obtain ⟨e3, e4, _, _, _, d0, d1, rfl, d2⟩ := b9.elem (i := a3) (by omega) (by omega)
 obtain ⟨b5, d3, a6⟩ := bind_some a6
 obtain ⟨_, a6⟩ := gd a6
 obtain ⟨e5, _, c3⟩ := a9.some (i := a3) (by omega) (by omega)
 refine W7 15 (S9 [mE 18 (a4), mE 19 (vI a3), mE 20 (s0), mE 21 (vI a3), mE 22 (vQ f1 f2), mE 23 (vI (rd a0 a3)), mE 24 (vI a2), mE 25 (s1), mE 26 (vI a3), mE 27 (vQ e3 e4), mE 28 (vI (rd a1 a3)), mE 29 (vI (IntKind.i64.wrap (a2 * (rd a1 a3)))), mE 30 (vI (IntKind.i64.wrap ((rd a0 a3) - (IntKind.i64.wrap (a2 * (rd a1 a3)))))), mE 31 (vI b5), mE 32 (vQ e5 ((a3).toNat * 1))]) [] mixed rfl rfl rfl hS (V9 ?_ ?_ ?_ ?_ ?_ ?_ ?_ ?_ (J9 ?_ ?_ ?_ ?_ (J2 ?_ ?_ (E8 ?_ V1)))) ?_
 exact X4 fun S B => Z3 (a4) (evT (B 7 rfl) b7) rfl (qz S)
 exact X4 fun S B => Z3 (vI a3) (evT (B 8 rfl) b1) rfl (qz S)
 exact X4 fun S B => Z3 (s0) (evT (B 0 rfl) b6) rfl (qz S)
 exact X4 fun S B => Z3 (vI a3) (evT (B 8 rfl) b1) rfl (qz S)
 exact Y7 fun S V => X5 U5 rfl (eM (V 2 20 rfl rfl)) e0 (eM (V 3 21 rfl rfl)) (by omega) (by omega) rfl (qz S)
 exact P0 fun s S V => Y0 (vI (rd a0 a3)) ty2 (eM (V 4 22 rfl rfl)) (S.froz _ _ (s.1 _ _ e1)) (e2 0 (show 0 < 1 by decide)) rfl (qz S)
 exact X4 fun S B => Z3 (vI a2) (evT (B 2 rfl) c1) rfl (qz S)
 exact X4 fun S B => Z3 (s1) (evT (B 1 rfl) c0) rfl (qz S)
 exact X4 fun S B => Z3 (vI a3) (evT (B 8 rfl) b1) rfl (qz S)
 exact Y7 fun S V => X5 U5 rfl (eM (V 7 25 rfl rfl)) d0 (eM (V 8 26 rfl rfl)) (by omega) (by omega) rfl (qz S)
 exact P0 fun s S V => Y0 (vI (rd a1 a3)) ty2 (eM (V 9 27 rfl rfl)) (S.froz _ _ (s.1 _ _ d1)) (d2 0 (show 0 < 1 by decide)) rfl (qz S)
 exact Y7 fun S V => Zg4 (IntKind.i64.wrap (a2 * (rd a1 a3))) (eM (V 6 24 rfl rfl)) (eM (V 10 28 rfl rfl)) rfl rfl (qz S)
 exact Y7 fun S V => Zk8 (IntKind.i64.wrap ((rd a0 a3) - (IntKind.i64.wrap (a2 * (rd a1 a3))))) (eM (V 5 23 rfl rfl)) (eM (V 11 29 rfl rfl)) rfl rfl (qz S)
 intro _ _ _ _ _ hS _ d4 hcq
 refine X3 call209 (R3 (eM (d4 12 30 rfl rfl))) rfl (D2 d3  hS) ?_
 rintro _ _ _ d5 hS rfl
 exact qn d5 rfl hS rfl
 exact Y7 fun S V => P3 U5 (Eq.trans (eM (V 0 18 rfl rfl)) c3) (eM (V 1 19 rfl rfl)) (by omega) (by omega) rfl (qz S)
 intro _ e6 c9 b8 hS b4 c4 hcq
 have hS : St c9 e6 (a7 ++ L) := hS
 have Z4 := Z4.trans b8
 have b2 := b2.mono b8
 have b9 := b9.mono b8
 have a9 := a9.mono b8
 refine Zd0 (τ := (Y5 .i64)) (v := a4) (u := vI b5) b5 (i := a3) rfl ty2 c3 a9 hS (by exact (eM (c4 14 32 (by decide) rfl))) (by exact (eM (c4 13 31 (by decide) rfl))) (by omega) (by omega) rfl ?_
 intro _ e7 d6 hS
 refine Z2 (X1 (Z0 (Z3 (vI a3) (by exact (evT (b4 8 rfl) b1)) rfl ?_)))
 refine W2 (a3 + 1) rfl rfl (IntWalk.i64_in _ (by omega)) rfl (Z5 (vI (a3 + 1)) rfl rfl (Z2 ?_))
 exact e9 _ _ ⟨(a3 + 1), (a5.set (a3).toNat b5), c9, e7, a4, a6, Z4, hS, (by omega), d6, b2, b9, (evT (b4 0 rfl) b6), (evT (b4 1 rfl) c0), (evT (b4 2 rfl) c1), (evT (b4 7 rfl) b7), rfl⟩
 refine Z7 (bF c8 rfl) ?_
 refine X7 rfl ?_
 obtain rfl := oi a6
 exact f0 _ _ ⟨a5, d9, a7, a4, rfl, Z4, hS, a9, b7⟩
 exact ⟨0, (List.replicate ((a0.length : Int)).toNat (0 : Int)), H, C5, u3, a6, Z4, hS, (by omega), e8, b2, b9, rfl, rfl, rfl, rfl, rfl⟩
 rintro _ _ ⟨b0, _, b3, a8, rfl, Z4, hS, c2, c5⟩
 dsimp only [Ex.elim] at c7
 refine Z1 (Z0 (Z3 (a8) (by exact c5) rfl (Z5 (a8) rfl rfl (Z2 ?_))))
 refine Y9 (vs := [a8]) func190 ⟨rfl, trivial⟩ ?_
 obtain ⟨_, d7, hS, d8⟩ := c2.freeze hS
 have Z4 := Z4.trans d7
 obtain rfl := oi c7
 exact ⟨_, _, rfl, Z4, hS, d8⟩
def Za3 (K : Nat) (a0 : (List (List Int))) (a1 : (List A8)) : Nat → Int → (List MpT) → Option (Ex (List MpT) ((List MpT)))
 | 0, _, _ => none
 | k + 1, a4, a3 => (if a4 < (a0.length : Int) then ((Zr7 K (rd a0 a4) a1).bind fun r9 => (if a3.length + ([r9]).length ≤ 1099511627776 then Za3 K a0 a1 k (a4 + 1) (a3 ++ [r9]) else none)) else some (.go a3))
def Zj0 (K : Nat) (a0 : (List (List Int))) (a1 : (List A8)) : Option (List MpT) := ((Za3 K a0 a1 K 0 ([] : List MpT)).bind (Ex.elim (fun r => some r) (fun s => (fun (b0 : (List MpT)) => some b0) s)))
theorem Yw3 {a0 : (List (List Int))} {a1 : (List A8)} {r : (List MpT)} (q0 : Zj0 K a0 a1 = some r) (b1 : Y3 (X2 (Y5 .i64)) H s0 a0) (b5 : Y3 (Q9 .u8) H s1 a1) (hS : St H w L) :
 Calls prog 97 #[s0, s1] w (U7 (fun v G => (R.sl (X2 yT)).p G v r) H L) := by
 have Z4 := Sub.refl H
 refine X0 func97 rfl ntmps97 rfl ?_
 unfold Zj0 at q0
 refine Z1 (Z0 (Z5 (vN) rfl rfl (Z2 (Z1 (Z0 ?_)))))
 refine Yb8 (τ := (X2 yT)) Zf1 Zl9 rfl hS rfl ?_
 intro u1 _ C3 d4 hS
 refine Z5 (u1) rfl rfl (Z2 (Z1 (Z1 (Z0 (Z5 (vI 0) rfl rfl (Z2 (Y8 ?_)))))))
 obtain ⟨c2, a5, c3⟩ := bind_some q0
 refine W0 (id := 0) (fun k f w => ∃ (a4 : Int) (a3 : (List MpT)) (H1 : FH) (a9 : OL) (a7 : Value), Za3 K a0 a1 k a4 a3 = some c2 ∧ Sub H H1 ∧ St H1 w (a9 ++ L) ∧ 0 ≤ a4 ∧ X8 (X2 yT) 45 H1 a7 a3 a9 ∧ Y3 (X2 (Y5 .i64)) H1 s0 a0 ∧ Y3 (Q9 .u8) H1 s1 a1 ∧ tv f 0 = s0 ∧ tv f 1 = s1 ∧ tv f 5 = a7 ∧ tv f 6 = vI a4) (fun f w => ∃ (b0 : (List MpT)) (H1 : FH) (b2 : OL) (a8 : Value), c2 = .go b0 ∧ Sub H H1 ∧ St H1 w (b2 ++ L) ∧ X8 (X2 yT) 45 H1 a8 b0 b2 ∧ tv f 5 = a8) rfl ?_ ?_ K ?_ ?_
 rintro f w ⟨a4, a3, H1, a9, a7, a5, _⟩
 rw [Za3] at a5; cases a5
 rintro k _ _ d5 d6 ⟨a4, a3, c7, a9, a7, a5, Z4, hS, _, a6, b1, b5, b3, b6, b7, b4⟩
 rw [Za3] at a5
 refine Z1 (Z1 (Z0 (Z3 (vI a4) (by exact b4) rfl (Z3 (s0) (by exact b3) rfl ?_))))
 have e4 := b1.bound
 refine X9 T2 rfl b1 rfl ?_
 refine W8 (k := .i64) (a := a4) (b := (a0.length : Int)) rfl rfl rfl (Z2 ?_)
 obtain ⟨c4, a5⟩ | ⟨c4, a5⟩ := ic a5
 refine Z8 (bT c4 rfl) (Y6 (Z1 (Y8 (Z0 (Z3 (a7) (by exact b7) rfl (Z3 (s0) (by exact b3) rfl (Z3 (vI a4) (by exact b4) rfl ?_)))))))
 obtain ⟨_, _, _, _, _, d7, d8, ⟨u8, rfl, d9⟩, e0⟩ := b1.elem (i := a4) (by omega) (by omega)
 refine X5 T2 rfl rfl d7 rfl (by omega) (by omega) rfl ?_
 refine Y0 (u8) P4 rfl (hS.froz _ _ d8) (e0 0 (show 0 < 1 by decide)) rfl (Z3 (s1) (by exact b6) rfl ?_)
 obtain ⟨r9, e1, a5⟩ := bind_some a5
 refine X3 call169 (V2 rfl rfl) rfl (Yz0 e1 d9 b5 hS) ?_
 rintro _ _ _ c0 hS ⟨_, rfl, ⟨c8, rfl, c5⟩⟩
 have Z4 := Z4.trans c0
 have b1 := b1.mono c0
 have b5 := b5.mono c0
 have a6 := a6.mono c0
 refine Zc2 (τ := (X2 yT)) Zf1 Zl9 rfl [vA ([c8])] [r9] rfl rfl (E7 rfl) (Zk6 ⟨_, rfl, c5⟩) (by decide) (by decide) hS rfl ?_
 intro _ e2 _ b8 hS c9
 have Z4 := Z4.trans b8
 have b1 := b1.mono b8
 have b5 := b5.mono b8
 have a6 := a6.mono b8
 obtain ⟨d0, a5⟩ := gd a5
 refine N6 (τ := (X2 yT)) Wt4 rfl rfl rfl a6 hS c9 d0 rfl ?_
 intro c6 _ e3 d1 hS
 refine Z5 (c6) rfl rfl (Z2 (X1 (Z0 (Z3 (vI a4) (by exact b4) rfl ?_))))
 refine W2 (a4 + 1) rfl rfl (IntWalk.i64_in _ (by omega)) rfl (Z5 (vI (a4 + 1)) rfl rfl (Z2 ?_))
 exact d5 _ _ ⟨(a4 + 1), (a3 ++ [r9]), e2, e3, c6, a5, Z4, hS, (by omega), d1, b1, b5, b3, b6, rfl, rfl⟩
 refine Z7 (bF c4 rfl) ?_
 refine X7 rfl ?_
 obtain rfl := oi a5
 exact d6 _ _ ⟨a3, c7, a9, a7, rfl, Z4, hS, a6, b7⟩
 exact ⟨0, ([] : List MpT), H, C3, u1, a5, Z4, hS, (by omega), d4, b1, b5, rfl, rfl, rfl, rfl⟩
 rintro _ _ ⟨b0, _, b2, a8, rfl, Z4, hS, b9, c1⟩
 dsimp only [Ex.elim] at c3
 refine Z1 (Z0 (Z3 (a8) (by exact c1) rfl (Z5 (a8) rfl rfl (Z2 ?_))))
 refine Y9 (vs := [a8]) func97 ⟨rfl, trivial⟩ ?_
 obtain ⟨_, d2, hS, d3⟩ := b9.freeze hS
 have Z4 := Z4.trans d2
 obtain rfl := oi c3
 exact ⟨_, _, rfl, Z4, hS, d3⟩
def J8 (K : Nat) (a0 : (List Int)) : Nat → Int → Option (Ex Bool (Unit))
 | 0, _ => none
 | k + 1, a1 => (if a1 < (a0.length : Int) then ((Zm7 K (rd a0 a1) 1 12).bind fun r4 => (if r4 = true then J8 K a0 k (a1 + 1) else some (.ret false))) else some (.go ()))
def Zj7 (K : Nat) (a0 : (List Int)) : Option Bool := ((J8 K a0 K 0).bind (Ex.elim (fun r => some r) (fun s => some (decide ((a0.length : Int) ≤ 8)))))
theorem Yr4 {a0 : (List Int)} {r : Bool} (q0 : Zj7 K a0 = some r) (a4 : Y3 (Y5 .i64) H s0 a0) (hS : St H w L) :
 Calls prog 144 #[s0] w (U7 (fun v G => R.bool.p G v r) H L) := by
 have Z4 := Sub.refl H
 refine X0 func144 rfl ntmps144 rfl ?_
 unfold Zj7 at q0
 refine Z1 (Z0 (Z5 (vB false) rfl rfl (Z2 (Z1 (Z1 (Z0 (Z5 (vI 0) rfl rfl (Z2 (Y8 ?_)))))))))
 obtain ⟨a9, a3, a7⟩ := bind_some q0
 refine W0 (id := 0) (fun k f w => ∃ (a1 : Int) (H1 : FH), J8 K a0 k a1 = some a9 ∧ Sub H H1 ∧ St H1 w (L) ∧ 0 ≤ a1 ∧ Y3 (Y5 .i64) H1 s0 a0 ∧ tv f 0 = s0 ∧ tv f 3 = vI a1) (fun f w => ∃ (H1 : FH), a9 = .go () ∧ Sub H H1 ∧ St H1 w (L) ∧ Y3 (Y5 .i64) H1 s0 a0 ∧ tv f 0 = s0) rfl ?_ ?_ K ?_ ?_
 rintro f w ⟨a1, H1, a3, _⟩
 rw [J8] at a3; cases a3
 rintro k _ _ b4 b5 ⟨a1, b3, a3, Z4, hS, _, a4, a5, a6⟩
 rw [J8] at a3
 refine Z1 (Z1 (Z0 (Z3 (vI a1) (by exact a6) rfl (Z3 (s0) (by exact a5) rfl ?_))))
 have c0 := a4.bound
 refine X9 U5 rfl a4 rfl ?_
 refine W8 (k := .i64) (a := a1) (b := (a0.length : Int)) rfl rfl rfl (Z2 ?_)
 obtain ⟨b0, a3⟩ | ⟨b0, a3⟩ := ic a3
 refine Z8 (bT b0 rfl) (Y6 (Z1 (Y8 (Z1 (Z0 (Z3 (s0) (by exact a5) rfl (Z3 (vI a1) (by exact a6) rfl ?_)))))))
 obtain ⟨_, _, _, _, _, b6, b7, rfl, b8⟩ := a4.elem (i := a1) (by omega) (by omega)
 refine X5 U5 rfl rfl b6 rfl (by omega) (by omega) rfl ?_
 refine Y0 (vI (rd a0 a1)) ty2 rfl (hS.froz _ _ b7) (b8 0 (show 0 < 1 by decide)) rfl ?_
 obtain ⟨r4, b9, a3⟩ := bind_some a3
 refine X3 call73 (D8 rfl rfl rfl) rfl (Zo6 b9  hS) ?_
 rintro _ H4 _ b2 hS rfl
 have Z4 := Z4.trans b2
 have a4 := a4.mono b2
 refine N8 (b := r4) rfl rfl (Z2 ?_)
 obtain ⟨b1, a3⟩ | ⟨b1, a3⟩ := ic a3
 refine Z7 (nT b1) (Y6 (X1 (Z0 (Z3 (vI a1) (by exact a6) rfl ?_))))
 refine W2 (a1 + 1) rfl rfl (IntWalk.i64_in _ (by omega)) rfl (Z5 (vI (a1 + 1)) rfl rfl (Z2 ?_))
 exact b4 _ _ ⟨(a1 + 1), H4, a3, Z4, hS, (by omega), a4, a5, rfl⟩
 refine Z8 (nT (W1 b1)) (Z1 (Z0 (Z5 (vB false) rfl rfl (Z2 ?_))))
 refine Y9 (vs := [vB false]) func144 ⟨rfl, trivial⟩ ?_
 obtain rfl := oi a3
 dsimp only [Ex.elim] at a7
 obtain rfl := oi a7
 exact ⟨_, _, rfl, Z4, hS, rfl⟩
 refine Z7 (bF b0 rfl) ?_
 refine X7 rfl ?_
 obtain rfl := oi a3
 exact b5 _ _ ⟨b3, rfl, Z4, hS, a4, a5⟩
 exact ⟨0, H, a3, Z4, hS, (by omega), a4, rfl, rfl⟩
 rintro _ _ ⟨_, rfl, Z4, hS, a4, a8⟩
 dsimp only [Ex.elim] at a7
 refine Z1 (Z0 (Z3 (s0) (by exact a8) rfl ?_))
 have c1 := a4.bound
 refine X9 U5 rfl a4 rfl ?_
 refine Yh6 (k := .i64) (a := (a0.length : Int)) (b := 8) rfl rfl rfl (Z5 (vB (decide ((a0.length : Int) ≤ 8))) rfl rfl (Z2 ?_))
 refine Y9 (vs := [vB (decide ((a0.length : Int) ≤ 8))]) func144 ⟨rfl, trivial⟩ ?_
 obtain rfl := oi a7
 exact ⟨_, _, rfl, Z4, hS, rfl⟩
def Zt2 (K : Nat) (a0 : (A8 × Int)) (a1 : (A8 × Int)) : Option Bool := ((Zk2 K a0.1 a1.1).bind fun r7 => (if r7 = true then (if a0.2 = a1.2 then some true else some false) else some false))
theorem Xd9 {a0 : (A8 × Int)} {a1 : (A8 × Int)} {r : Bool} (q0 : Zt2 K a0 a1 = some r) (hS : St H w L) :
 Calls prog 168 #[vA (Z6 .u8 a0.1 ++ [vI a0.2]), vA (Z6 .u8 a1.1 ++ [vI a1.2])] w (U7 (fun v G => R.bool.p G v r) H L) := by
 have Z4 := Sub.refl H
 refine X0 func168 rfl ntmps168 rfl ?_
 unfold Zt2 at q0
 refine Z1 (Z0 ?_)
 refine T7 (v := vA (Z6 .u8 a0.1 ++ [vI a0.2])) (Z6 .u8 a0.1 ++ [vI a0.2]).toArray rfl rfl hS rfl ?_
 intro _ _ hS
 refine T7 (v := vA (Z6 .u8 a1.1 ++ [vI a1.2])) (Z6 .u8 a1.1 ++ [vI a1.2]).toArray rfl rfl hS rfl ?_
 intro _ _ hS
 refine Z5 (vB false) rfl rfl (Z2 (Z1 (Z1 (Z0 (Y2 M9 rfl rfl ?_)))))
 refine V0 (Z6 .u8 a0.1) P5 rfl (hS.get (o := cA (Z6 .u8 a0.1 ++ [vI a0.2]) 78) (mR mL)) rfl (fun j hj => Zl3 ([]) (Z6 .u8 a0.1) (([vI a0.2])) j hj) rfl (Y2 M9 rfl rfl ?_)
 refine V0 (Z6 .u8 a1.1) P5 rfl (hS.get (o := cA (Z6 .u8 a1.1 ++ [vI a1.2]) 78) mL) rfl (fun j hj => Zl3 ([]) (Z6 .u8 a1.1) (([vI a1.2])) j hj) rfl ?_
 obtain ⟨r7, a5, q0⟩ := bind_some q0
 refine X3 call239 (V2 rfl rfl) rfl (Yq7 a5  hS) ?_
 rintro _ _ _ a6 hS rfl
 have Z4 := Z4.trans a6
 refine N8 (b := r7) rfl rfl (Z2 ?_)
 obtain ⟨a4, q0⟩ | ⟨a4, q0⟩ := ic q0
 refine Z7 (nT a4) (Y6 (Z1 (Z1 (Z0 (Y2 Ze3 rfl rfl ?_)))))
 refine Y0 (vI a0.2) ty2 rfl (hS.get (mR mL)) rfl rfl (Y2 Ze3 rfl rfl ?_)
 refine Y0 (vI a1.2) ty2 rfl (hS.get mL) rfl rfl ?_
 refine M0 (k := .i64) (a := a0.2) (b := a1.2) rfl rfl rfl (Z2 ?_)
 obtain ⟨a3, q0⟩ | ⟨a3, q0⟩ := ic q0
 refine Z7 (bN a3 rfl) (Y6 (Z1 (Z0 (Z5 (vB true) rfl rfl (Z2 ?_)))))
 refine Y9 (vs := [vB true]) func168 ⟨rfl, trivial⟩ ?_
 obtain rfl := oi q0
 exact ⟨_, _, rfl, Z4, (St.dropA (St.dropA hS)), rfl⟩
 refine Z8 (bO a3 rfl) (Z1 (Z0 (Z5 (vB false) rfl rfl (Z2 ?_))))
 refine Y9 (vs := [vB false]) func168 ⟨rfl, trivial⟩ ?_
 obtain rfl := oi q0
 exact ⟨_, _, rfl, Z4, (St.dropA (St.dropA hS)), rfl⟩
 refine Z8 (nT (W1 a4)) (Z1 (Z0 (Z5 (vB false) rfl rfl (Z2 ?_))))
 refine Y9 (vs := [vB false]) func168 ⟨rfl, trivial⟩ ?_
 obtain rfl := oi q0
 exact ⟨_, _, rfl, Z4, (St.dropA (St.dropA hS)), rfl⟩
def Zt4 (K : Nat) (a0 : MpT) (a1 : Int) : Option Int := ((Zy3 K a0 a1).bind fun r4 => (if r4 < 0 then some (-1) else some r4))
theorem Xa9 {a0 : MpT} {a1 : Int} {r : Int} (q0 : Zt4 K a0 a1 = some r) (a4 : Y3 yT H s0 a0) (hS : St H w L) :
 Calls prog 24 #[vA ([s0]), vI a1] w (U7 (fun v G => (R.int .i64).p G v r) H L) := by
 have Z4 := Sub.refl H
 refine X0 func24 rfl ntmps24 rfl ?_
 unfold Zt4 at q0
 refine Z1 (Z0 ?_)
 refine T7 (v := vA ([s0])) ([s0]).toArray rfl rfl hS rfl ?_
 intro _ _ hS
 refine Z5 (vI 0) rfl rfl (Z2 (Z1 (Z0 (Y2 We0 rfl rfl ?_))))
 refine Y0 (s0) Vd9 rfl (hS.get mL) rfl rfl (Z3 (vI a1) rfl rfl ?_)
 obtain ⟨r4, a5, q0⟩ := bind_some q0
 refine X3 call89 (V2 rfl rfl) rfl (Yy6 a5 a4 hS) ?_
 rintro _ _ _ a6 hS rfl
 have Z4 := Z4.trans a6
 refine Z5 (vI r4) rfl rfl (Z2 (Z1 (Z1 (Z0 (Z3 (vI r4) rfl rfl ?_)))))
 refine W8 (k := .i64) (a := r4) (b := 0) rfl rfl rfl (Z2 ?_)
 obtain ⟨a3, q0⟩ | ⟨a3, q0⟩ := ic q0
 refine Z8 (bT a3 rfl) (Z1 (Z0 (Z5 (vI (-1)) rfl rfl (Z2 ?_))))
 refine Y9 (vs := [vI (-1)]) func24 ⟨rfl, trivial⟩ ?_
 obtain rfl := oi q0
 exact ⟨_, _, rfl, Z4, (St.dropA hS), rfl⟩
 refine Z7 (bF a3 rfl) (Y6 (Z1 (Z0 (Z3 (vI r4) rfl rfl (Z5 (vI r4) rfl rfl (Z2 ?_))))))
 refine Y9 (vs := [vI r4]) func24 ⟨rfl, trivial⟩ ?_
 obtain rfl := oi q0
 exact ⟨_, _, rfl, Z4, (St.dropA hS), rfl⟩
def Zl1 (K : Nat) (a0 : Int) : Option Bool := ((Zj2 K a0 1 12).bind fun r1 => some (!r1))
theorem Yl3 {a0 : Int} {r : Bool} (q0 : Zl1 K a0 = some r) (hS : St H w L) :
 Calls prog 210 #[vI a0] w (U7 (fun v G => R.bool.p G v r) H L) := by
 have Z4 := Sub.refl H
 refine X0 func210 rfl ntmps210 rfl ?_
 unfold Zl1 at q0
 refine Z1 (Z0 (Z5 (vB false) rfl rfl (Z2 (Z1 (Z0 (Z3 (vI a0) rfl rfl ?_))))))
 obtain ⟨r1, a1, q0⟩ := bind_some q0
 refine X3 call81 (D8 rfl rfl rfl) rfl (Ya3 a1  hS) ?_
 rintro _ _ _ a3 hS rfl
 have Z4 := Z4.trans a3
 refine N8 (b := r1) rfl rfl (Z5 (vB (!r1)) rfl rfl (Z2 ?_))
 refine Y9 (vs := [vB (!r1)]) func210 ⟨rfl, trivial⟩ ?_
 obtain rfl := oi q0
 exact ⟨_, _, rfl, Z4, hS, rfl⟩
def Zy1 (K : Nat) (a0 : Int) : Option Bool := ((Zj2 K a0 0 20).bind fun r1 => some r1)
theorem Yy5 {a0 : Int} {r : Bool} (q0 : Zy1 K a0 = some r) (hS : St H w L) :
 Calls prog 174 #[vI a0] w (U7 (fun v G => R.bool.p G v r) H L) := by
 have Z4 := Sub.refl H
 refine X0 func174 rfl ntmps174 rfl ?_
 unfold Zy1 at q0
 refine Z1 (Z0 (Z5 (vB false) rfl rfl (Z2 (Z1 (Z0 (Z3 (vI a0) rfl rfl ?_))))))
 obtain ⟨r1, a1, q0⟩ := bind_some q0
 refine X3 call81 (D8 rfl rfl rfl) rfl (Ya3 a1  hS) ?_
 rintro _ _ _ a3 hS rfl
 have Z4 := Z4.trans a3
 refine Z5 (vB r1) rfl rfl (Z2 ?_)
 refine Y9 (vs := [vB r1]) func174 ⟨rfl, trivial⟩ ?_
 obtain rfl := oi q0
 exact ⟨_, _, rfl, Z4, hS, rfl⟩
end Go.Proofs.YtabofnehiclkiaaGreat
