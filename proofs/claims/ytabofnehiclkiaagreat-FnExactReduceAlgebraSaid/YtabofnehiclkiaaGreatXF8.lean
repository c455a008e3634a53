/- Walks of functions: each computes its pure function, if that gives a value. -/
import Derived.Test.YtabofnehiclkiaaGreatXTy
import Derived.Test.YtabofnehiclkiaaGreatXF3
import Derived.Test.YtabofnehiclkiaaGreatXF4
import Derived.Test.YtabofnehiclkiaaGreatShelfP
import Derived.Test.YtabofnehiclkiaaGreatXF2
namespace Go.Proofs.YtabofnehiclkiaaGreat
open Go
set_option linter.unusedSimpArgs false
set_option linter.unusedVariables false
set_option maxRecDepth 100000
set_option maxHeartbeats 8000000
variable {K : Nat} {H : FH} {w : World} {L : OL} {s0 s1 s2 s3 s4 s5 s6 : Value}
def D0 (K : Nat) (a0 : (List Int)) (a1 : (A8 × Int)) (a2 : MpT) : Nat → Int → MpT → Option (Ex MpT (MpT))
 | 0, _, _ => none
 | k + 1, a4, a6 => (if a4 < (a2.length : Int) then ((Zp9 K a0 a1.1 ((rd a2 a4).1)).bind fun a3 => (if a3.2 = 0 then D0 K a0 a1 a2 k (a4 + 1) a6 else ((Zc0 K (IntKind.i64.wrap ((IntKind.i64.wrap (a3.2 * a1.2)) * (rd a2 a4).2))).bind fun b5 => (if a6.length + ([(a3.1, b5)]).length ≤ 1099511627776 then D0 K a0 a1 a2 k (a4 + 1) (a6 ++ [(a3.1, b5)]) else none)))) else some (.go a6))
def Zs1 (K : Nat) (a0 : (List Int)) (a1 : (A8 × Int)) (a2 : MpT) : Option MpT := ((D0 K a0 a1 a2 K 0 ([] : List (A8 × Int))).bind (Ex.elim (fun r => some r) (fun s => (fun (b2 : MpT) => some b2) s)))
theorem Yw5 {a0 : (List Int)} {a1 : (A8 × Int)} {a2 : MpT} {r : MpT} (q0 : Zs1 K a0 a1 a2 = some r) (b8 : Z9 (Y6 .i64) H s0 a0) (b3 : Z9 yT H s1 a2) (hS : St H w L) :
 Calls Tryz.prog 258 #[s0, vA (Z7 .u8 a1.1 ++ [vI a1.2]), vA ([s1])] w (T2 (fun v G => (R.agg (Y9 yT)).p G v r) H L) := by
 have Z3 := Sub.refl H
 refine X3 Tryz.func258 rfl Tryz.ntmps258 rfl ?_
 unfold Zs1 at q0
 refine Z2 (Z0 ?_)
 refine S3 (v := vA (Z7 .u8 a1.1 ++ [vI a1.2])) (Z7 .u8 a1.1 ++ [vI a1.2]).toArray rfl rfl hS rfl ?_
 intro b1 _ hS
 refine S3 (v := vA ([s1])) ([s1]).toArray rfl rfl hS rfl ?_
 intro b4 _ hS
 refine W6 (z := vA ([vN])) ([vN]).toArray I0.zero rfl hS rfl ?_
 intro b7 _ hS
 refine Z1 (Z2 (Z0 ?_))
 refine R6 (vA ([vN])) Yf8 rfl ?_
 refine W6 (z := vA ([vN])) ([vN]).toArray I0.zero rfl hS rfl ?_
 intro c7 _ hS
 refine X5 (v := vA ([vN])) (vs := ([vN]).toArray) (cs := ([vN]).toArray) U2 rfl rfl rfl hS rfl (U0 rfl) rfl ?_
 intro _ hS
 refine Z1 (Z2 (Z2 (Z0 (Z5 (vI 0) rfl rfl (Z1 (Y7 ?_))))))
 have e9 : W3 yT 78 H (.slice none 0 0) [] [] := W3.nil _ _ _
 obtain ⟨f0, a9, f1⟩ := bind_some q0
 refine W1 (id := 0) (fun k f w => ∃ (a4 : Int) (a6 : MpT) (H1 : FH) (a7 : OL) (a5 : Value), D0 K a0 a1 a2 k a4 a6 = some f0 ∧ Sub H H1 ∧ St H1 w (a7 ++ ([(c7, cA ([a5]) 45)] ++ ([(b7, cA ([vN]) 45)] ++ ([(b4, cA ([s1]) 45)] ++ ([(b1, cA (Z7 .u8 a1.1 ++ [vI a1.2]) 78)] ++ L))))) ∧ 0 ≤ a4 ∧ W3 yT 78 H1 a5 a6 a7 ∧ Z9 (Y6 .i64) H1 s0 a0 ∧ Z9 yT H1 s1 a2 ∧ tv f 0 = s0 ∧ tv f 4 = vP b1 ∧ tv f 5 = vP b4 ∧ tv f 6 = vP b7 ∧ tv f 7 = vP c7 ∧ tv f 8 = vI a4) (fun f w => ∃ (b2 : MpT) (H1 : FH) (b6 : OL) (b0 : Value), f0 = .go b2 ∧ Sub H H1 ∧ St H1 w (b6 ++ ([(c7, cA ([b0]) 45)] ++ ([(b7, cA ([vN]) 45)] ++ ([(b4, cA ([s1]) 45)] ++ ([(b1, cA (Z7 .u8 a1.1 ++ [vI a1.2]) 78)] ++ L))))) ∧ W3 yT 78 H1 b0 b2 b6 ∧ Z9 yT H1 s1 a2 ∧ tv f 6 = vP b7 ∧ tv f 7 = vP c7) rfl ?_ ?_ K ?_ ?_
 rintro f w ⟨a4, a6, H1, a7, a5, a9, _⟩
 rw [D0] at a9; cases a9
 rintro k _ _ i0 j6 ⟨a4, a6, i3, a7, a5, a9, Z3, hS, _, a8, b8, b3, d1, d2, c3, d3, d4, c4⟩
 rw [D0] at a9
 refine Z2 (Z2 (Z0 (Z4 (vI a4) (by exact c4) rfl (Y2 V9 (by exact c3) rfl ?_))))
 refine Y3 (s1) Q4 rfl (hS.get (mR (mR (mR mL)))) rfl rfl ?_
 have j7 := b3.bound
 refine W7 R7 rfl b3 rfl ?_
 refine V5 (k := .i64) (a := a4) (b := (a2.length : Int)) rfl rfl rfl (Z1 ?_)
 obtain ⟨d9, a9⟩ | ⟨d9, a9⟩ := ic a9
 refine Y0 (bT d9 rfl) (Y8 (Z2 (Y7 (Z2 ?_))))
 obtain ⟨i1, i2, _, _, _, i4, i5, ⟨_, _, rfl, rfl, rfl⟩, i6⟩ := b3.elem (i := a4) (by omega) (by omega)
 obtain ⟨a3, g4, a9⟩ := bind_some a9
 refine U1 16 (P0 [mE 20 (s0), mE 21 (vP b1), mE 22 (vA (Z7 .u8 a1.1)), mE 23 (vP b4), mE 24 (s1), mE 25 (vI a4), mE 26 (vQ i1 i2), mE 27 (vQ i1 (i2 + 0)), mE 28 (vA (Z7 .u8 ((rd a2 a4).1))), mE 29 (Value.tuple #[vA (Z7 .u8 a3.1), vI a3.2]), mE 19 (Value.tuple #[vA (Z7 .u8 a3.1), vI a3.2]), mE 30 (vA (Z7 .u8 a3.1)), mE 31 (vI a3.2), (9, MP.box (cA (Z7 .u8 (fun _ => 0)) 72)), mE 10 (vI a3.2)]) [Co.st 13 9 14 11 30 (Yb5 72)] mixed rfl (Yh3 (ns := [(13, 9, 14, 11, 30)]) rfl rfl) rfl hS (Z6 rfl ?_ (Z6 rfl ?_ (Z6 rfl ?_ (Z6 rfl ?_ (Z6 rfl ?_ (Z6 rfl ?_ (Z6 rfl ?_ (Z6 rfl ?_ (Z6 rfl ?_ (Z6 rfl ?_ (Z6 rfl ?_ (Z6 rfl ?_ (Z6 rfl ?_ (Z6 rfl ?_ (Xa6 rfl ?_ (Z6 rfl ?_ U7)))))))))))))))) ?_
 exact W5 fun S B => Z4 (s0) (evT (B 0 rfl) d1) rfl (qz S)
 exact W5 fun S B => Y2 M1 (evT (B 4 rfl) d2) rfl (qz S)
 exact X2 fun S V => W9 (Z7 .u8 a1.1) M2 (eM (V 1 21 rfl rfl)) (S.get (o := cA (Z7 .u8 a1.1 ++ [vI a1.2]) 78) (mR (mR (mR (mR (mR mL)))))) rfl (fun j hj => Zm0 ([]) (Z7 .u8 a1.1) (([vI a1.2])) j hj) rfl (qz S)
 exact W5 fun S B => Y2 V9 (evT (B 5 rfl) c3) rfl (qz S)
 exact X2 fun S V => Y3 (s1) Q4 (eM (V 3 23 rfl rfl)) (S.get (mR (mR (mR (mR mL))))) rfl rfl (qz S)
 exact W5 fun S B => Z4 (vI a4) (evT (B 8 rfl) c4) rfl (qz S)
 exact X2 fun S V => X9 R7 rfl (eM (V 4 24 rfl rfl)) i4 (eM (V 5 25 rfl rfl)) (by omega) (by omega) rfl (qz S)
 exact X2 fun S V => Y2 M1 (eM (V 6 26 rfl rfl)) rfl (qz S)
 exact E6 fun s S V => W9 (Z7 .u8 ((rd a2 a4).1)) M2 (eM (V 7 27 rfl rfl)) (S.froz _ _ (s.1 _ _ i5)) rfl (Zk1 ([]) (Z7 .u8 ((rd a2 a4).1)) (([vI ((rd a2 a4).2)])) i6 (nl rfl)) rfl (qz S)
 intro _ _ _ _ g5 hS _ d6 hcq
 have b8 := b8.mono g5
 refine X6 Tryz.call278 (G7 (eM (d6 0 20 rfl rfl)) (eM (d6 2 22 rfl rfl)) (eM (d6 8 28 rfl rfl))) rfl (Yv2 g4 b8 hS) ?_
 rintro _ _ _ g6 hS ⟨_, _, rfl, ⟨_, rfl, rfl⟩, rfl⟩
 exact qn g6 rfl hS rfl
 exact X2 fun S V => Z4 (Value.tuple #[vA (Z7 .u8 a3.1), vI a3.2]) (eM (V 9 29 rfl rfl)) rfl (qz S)
 exact X2 fun S V => W4 (vA (Z7 .u8 a3.1)) (eM (V 10 19 rfl rfl)) rfl rfl (qz S)
 exact X2 fun S V => W4 (vI a3.2) (eM (V 10 19 rfl rfl)) rfl rfl (qz S)
 intro _ _ _ _ _ hS _ _ hcq
 refine W6 (z := vA (Z7 .u8 (fun _ => 0))) (Z7 .u8 (fun _ => 0)).toArray Yf9.zero rfl hS rfl ?_
 intro _ _ hS
 exact qn (.refl _) rfl hS ⟨_, rfl⟩
 intro c2 i7 f2 i8 _ hS _ e5 hcq
 have Z3 := Sub.refl f2
 obtain ⟨f3, d0⟩ := e5 13 9 rfl rfl
 have d0 : c2 9 = vP f3 := d0
 have hS : St f2 i7 (Zk9 (cA (Z7 .u8 (fun _ => 0)) 72) (c2 9) ++ (i8 ++ (a7 ++ ([(c7, cA ([a5]) 45)] ++ ([(b7, cA ([vN]) 45)] ++ ([(b4, cA ([s1]) 45)] ++ ([(b1, cA (Z7 .u8 a1.1 ++ [vI a1.2]) 78)] ++ L))))))) := hS
 rw [d0] at hS
 have i9 : tv c2 9 = vP f3 := d0
 have f4 : tv c2 30 = vA (Z7 .u8 a3.1) := e5 11 30 rfl rfl
 refine X5 (v := vA (Z7 .u8 a3.1)) (vs := (Z7 .u8 a3.1).toArray) (cs := (Z7 .u8 (fun _ => 0)).toArray) M2 i9 f4 rfl hS rfl (S4 .u8 a3.1) rfl ?_
 intro _ hS
 have j0 : c2 30 = vA (Z7 .u8 a3.1) := f4
 exact Z1 ⟨_, rfl, rfl, Z3, by show St _ _ (Zk9 (Yb5 72 (c2 30)) (c2 9) ++ _); rw [d0, j0]; exact hS, trivial⟩
 exact X2 fun S V => Z5 (vI a3.2) (eM (V 12 31 rfl rfl)) rfl (qz S)
 intro c5 j1 f5 c8 hS c0 d7 hcq
 have hS : St f5 j1 ((Zk9 (Yb5 72 (c5 30)) (c5 9) ++ ([])) ++ (a7 ++ ([(c7, cA ([a5]) 45)] ++ ([(b7, cA ([vN]) 45)] ++ ([(b4, cA ([s1]) 45)] ++ ([(b1, cA (Z7 .u8 a1.1 ++ [vI a1.2]) 78)] ++ L)))))) := hS
 have Z3 := Z3.trans c8
 have b8 := b8.mono c8
 have b3 := b3.mono c8
 have a8 := a8.mono c8
 have f6 := evT (c0 0 rfl) d1
 have e0 := evT (c0 4 rfl) d2
 have e1 := evT (c0 5 rfl) c3
 have f7 := evT (c0 6 rfl) d3
 have e2 := evT (c0 7 rfl) d4
 have e3 := evT (c0 8 rfl) c4
 have f8 : tv c5 10 = vI a3.2 := d7 15 10 (by decide) rfl
 obtain ⟨f9, c6⟩ := d7 13 9 (by decide) rfl
 have c6 : c5 9 = vP f9 := c6
 rw [c6] at hS
 have c6 : tv c5 9 = _ := c6
 have j2 : c5 30 = vA (Z7 .u8 a3.1) := (eM (d7 11 30 (by decide) rfl))
 rw [j2] at hS
 refine Z1 (Z2 (Z0 (Z4 (vI a3.2) (by exact f8) rfl ?_)))
 refine L7 (k := .i64) (a := a3.2) (b := 0) rfl rfl rfl (Z1 ?_)
 obtain ⟨d8, a9⟩ | ⟨d8, a9⟩ := ic a9
 refine Z8 (bN d8 rfl) (Y8 (X4 (Z0 (Z4 (vI a4) (by exact e3) rfl ?_))))
 refine W8 (a4 + 1) rfl rfl (IntWalk.i64_in _ (by omega)) rfl (Z5 (vI (a4 + 1)) rfl rfl (Z1 ?_))
 have hS := St.dropA hS
 exact i0 _ _ ⟨(a4 + 1), a6, f5, a7, a5, a9, Z3, hS, (by omega), a8, b8, b3, f6, e0, e1, f7, e2, rfl⟩
 refine Y0 (bO d8 rfl) ?_
 obtain ⟨g0, g1, _, _, _, g7, g8, ⟨_, _, rfl, rfl, rfl⟩, g9⟩ := b3.elem (i := a4) (by omega) (by omega)
 obtain ⟨b5, h0, a9⟩ := bind_some a9
 refine U1 17 (P0 [mE 34 (vP c7), mE 35 (a5), mE 36 (vA (Z7 .u8 a3.1)), mE 37 (vI a3.2), mE 38 (vQ b1 8), mE 39 (vI a1.2), mE 40 (vI (IntKind.i64.wrap (a3.2 * a1.2))), mE 41 (vP b4), mE 42 (s1), mE 43 (vI a4), mE 44 (vQ g0 g1), mE 45 (vQ g0 (g1 + 8)), mE 46 (vI ((rd a2 a4).2)), mE 47 (vI (IntKind.i64.wrap ((IntKind.i64.wrap (a3.2 * a1.2)) * (rd a2 a4).2))), mE 48 (vI b5), mE 49 (vA (Z7 .u8 a3.1 ++ [vI b5])), (50, MP.sl yT ([(a3.1, b5)]))]) [] mixed rfl rfl rfl hS (Z6 rfl ?_ (Z6 rfl ?_ (Z6 rfl ?_ (Z6 rfl ?_ (Z6 rfl ?_ (Z6 rfl ?_ (Z6 rfl ?_ (Z6 rfl ?_ (Z6 rfl ?_ (Z6 rfl ?_ (Z6 rfl ?_ (Z6 rfl ?_ (Z6 rfl ?_ (Z6 rfl ?_ (Z6 rfl ?_ (Z6 rfl ?_ (Z6 rfl ?_ U7))))))))))))))))) ?_
 exact W5 fun S B => Y2 V9 (evT (B 7 rfl) e2) rfl (qz S)
 exact X2 fun S V => Y3 (a5) Q4 (eM (V 0 34 rfl rfl)) (S.get (mR (mR (mR mL)))) rfl rfl (qz S)
 exact W5 fun S B => X7 M2 (evT (B 9 rfl) c6) (S.get (mR mL)) rfl rfl (qz S)
 exact W5 fun S B => Z4 (vI a3.2) (evT (B 10 rfl) f8) rfl (qz S)
 exact W5 fun S B => Y2 Ze2 (evT (B 4 rfl) e0) rfl (qz S)
 exact X2 fun S V => Y3 (vI a1.2) ty2 (eM (V 4 38 rfl rfl)) (S.get (mR (mR (mR (mR (mR (mR mL))))))) rfl rfl (qz S)
 exact X2 fun S V => Zt1 (IntKind.i64.wrap (a3.2 * a1.2)) (eM (V 3 37 rfl rfl)) (eM (V 5 39 rfl rfl)) rfl rfl (qz S)
 exact W5 fun S B => Y2 V9 (evT (B 5 rfl) e1) rfl (qz S)
 exact X2 fun S V => Y3 (s1) Q4 (eM (V 7 41 rfl rfl)) (S.get (mR (mR (mR (mR (mR mL)))))) rfl rfl (qz S)
 exact W5 fun S B => Z4 (vI a4) (evT (B 8 rfl) e3) rfl (qz S)
 exact X2 fun S V => X9 R7 rfl (eM (V 8 42 rfl rfl)) g7 (eM (V 9 43 rfl rfl)) (by omega) (by omega) rfl (qz S)
 exact X2 fun S V => Y2 Ze2 (eM (V 10 44 rfl rfl)) rfl (qz S)
 exact E6 fun s S V => Y3 (vI ((rd a2 a4).2)) ty2 (eM (V 11 45 rfl rfl)) (S.froz _ _ (s.1 _ _ g8)) (g9 8 (show 8 < 9 by decide)) rfl (qz S)
 exact X2 fun S V => Zt1 (IntKind.i64.wrap ((IntKind.i64.wrap (a3.2 * a1.2)) * (rd a2 a4).2)) (eM (V 6 40 rfl rfl)) (eM (V 12 46 rfl rfl)) rfl rfl (qz S)
 intro _ _ _ _ _ hS _ h1 hcq
 refine X6 Tryz.call209 (S2 (eM (h1 13 47 rfl rfl))) rfl (Zf2 h0  hS) ?_
 rintro _ _ _ h2 hS rfl
 exact qn h2 rfl hS rfl
 exact X2 fun S V => Zl9 (Z7 .u8 a3.1 ++ [vI b5]) Xf8 (Zz1 (eM (V 2 36 rfl rfl)) (eM (V 14 48 rfl rfl))) (Q5 rfl rfl rfl (nl rfl) (Q5 rfl rfl rfl (nl rfl) (Zh6 rfl))) rfl (qz S)
 intro _ _ _ _ _ hS _ h3 hcq
 refine D9 (τ := yT) R7 Ya6 rfl [vA (Z7 .u8 a3.1 ++ [vI b5])] [(a3.1, b5)] rfl rfl (K6 (eM (h3 15 49 rfl rfl))) (Zi6 ⟨_, _, rfl, rfl, rfl⟩) (by decide) (by decide) hS rfl ?_
 intro _ _ _ h4 hS h5
 exact qn h4 rfl hS h5
 intro _ j3 g2 c9 hS c1 e6 hcq
 have hS : St g2 j3 ([(f9, cA (Z7 .u8 a3.1) 72)] ++ (a7 ++ ([(c7, cA ([a5]) 45)] ++ ([(b7, cA ([vN]) 45)] ++ ([(b4, cA ([s1]) 45)] ++ ([(b1, cA (Z7 .u8 a1.1 ++ [vI a1.2]) 78)] ++ L)))))) := hS
 have Z3 := Z3.trans c9
 have b8 := b8.mono c9
 have b3 := b3.mono c9
 have a8 := a8.mono c9
 have g3 := evT (c1 7 rfl) e2
 obtain ⟨_, j4, h6⟩ := gvS (e6 16 50 (by decide) rfl)
 obtain ⟨h7, a9⟩ := gd a9
 have hS := hS.perm V1
 refine N5 (τ := yT) Yw2 rfl (by exact (eM (e6 1 35 (by decide) rfl))) (by exact j4) a8 hS h6 h7 rfl ?_
 intro e4 _ j5 e7 hS
 have hS := hS.perm V1.symm
 refine Y2 V9 (by exact g3) rfl ?_
 have hS := hS.perm Q8
 refine Zb3 (v := e4) (cs := ([a5]).toArray) (cs' := ([e4]).toArray) Q4 rfl rfl hS e7.isOne rfl (nl rfl) rfl ?_
 intro _ hS
 have hS := hS.perm Q8.symm
 refine Z1 (X4 (Z0 (Z4 (vI a4) (by exact (evT (c1 8 rfl) e3)) rfl ?_)))
 refine W8 (a4 + 1) rfl rfl (IntWalk.i64_in _ (by omega)) rfl (Z5 (vI (a4 + 1)) rfl rfl (Z1 ?_))
 have hS := St.dropA hS
 exact i0 _ _ ⟨(a4 + 1), (a6 ++ [(a3.1, b5)]), g2, j5, e4, a9, Z3, hS, (by omega), e7, b8, b3, (evT (c1 0 rfl) f6), (evT (c1 4 rfl) e0), (evT (c1 5 rfl) e1), (evT (c1 6 rfl) f7), g3, rfl⟩
 refine Z8 (bF d9 rfl) ?_
 refine W0 rfl ?_
 obtain rfl := oi a9
 exact j6 _ _ ⟨a6, i3, a7, a5, rfl, Z3, hS, a8, b3, d3, d4⟩
 exact ⟨0, ([] : List (A8 × Int)), H, ([]), (vN), a9, Z3, hS, (by omega), e9, b8, b3, rfl, rfl, rfl, rfl, rfl, rfl⟩
 rintro _ _ ⟨b2, _, b6, b0, rfl, Z3, hS, b9, b3, d5, e8⟩
 dsimp only [Ex.elim] at f1
 refine Z2 (Z0 ?_)
 refine X7 U2 (by exact e8) (hS.get (mR mL)) rfl rfl ?_
 have hS := hS.perm Q8
 refine X5 (v := vA ([b0])) (vs := ([b0]).toArray) (cs := ([vN]).toArray) U2 (by exact d5) rfl rfl hS rfl (U0 b9.isOne) rfl ?_
 intro _ hS
 have hS := hS.perm Q8.symm
 refine Z1 ?_
 refine X0 (vs := [vA ([b0])]) Tryz.func258 ⟨⟨_, (by exact d5), V6 U2 (hS.get (mR (mR mL))) rfl⟩, trivial⟩ ?_
 obtain ⟨_, h8, hS, h9⟩ := b9.freeze hS
 have Z3 := Z3.trans h8
 obtain rfl := oi f1
 exact ⟨_, _, rfl, Z3, (St.dropA (St.dropA (St.dropA (St.dropA hS)))), ⟨_, rfl, ⟨_, rfl, h9⟩⟩⟩
section
open Go Go.Sort Go.RowKit Go.Shelf Go.Lib
abbrev Ya5 := {a : A8 // ∀ i, 0 ≤ a i ∧ a i ≤ 2305843009213693952}
instance : Inhabited Ya5 := ⟨⟨fun _ => 0, fun _ => by simp⟩⟩
def Xe0 (a b : A8) : Int :=
 if a 0 = b 0 then if a 1 = b 1 then if a 2 = b 2 then if a 3 = b 3 then if a 4 = b 4 then if a 5 = b 5 then if a 6 = b 6 then if a 7 = b 7 then 0
  else IntKind.i64.wrap (b 7 - a 7) else IntKind.i64.wrap (b 6 - a 6) else IntKind.i64.wrap (b 5 - a 5) else IntKind.i64.wrap (b 4 - a 4) else IntKind.i64.wrap (b 3 - a 3)
  else IntKind.i64.wrap (b 2 - a 2) else IntKind.i64.wrap (b 1 - a 1) else IntKind.i64.wrap (b 0 - a 0)
theorem Ww9 (a b : A8) : Zb2 9 a b = some (Xe0 a b) := by
 have e : ∀ (m : A8) (j : Nat) (h : j < 8), Y5 m (j : Int) = m ⟨j, h⟩ := fun m j h => by unfold Y5; simp [h]
 have e0 := fun m => e m 0 (by decide)
 have e1 := fun m => e m 1 (by decide)
 have e2 := fun m => e m 2 (by decide)
 have e3 := fun m => e m 3 (by decide)
 have e4 := fun m => e m 4 (by decide)
 have e5 := fun m => e m 5 (by decide)
 have e6 := fun m => e m 6 (by decide)
 have e7 := fun m => e m 7 (by decide)
 simp only [Int.ofNat_zero, Int.natCast_one, Int.cast_ofNat_Int] at e0 e1 e2 e3 e4 e5 e6 e7
 unfold Zb2 Xe0
 have z : ∀ (j k : Int), j + 1 = k → j + 1 = k := fun _ _ h => h
 simp only [M6, show (0 : Int) + 1 = 1 from rfl, show (1 : Int) + 1 = 2 from rfl, show (2 : Int) + 1 = 3 from rfl, show (3 : Int) + 1 = 4 from rfl, show (4 : Int) + 1 = 5 from rfl, show (5 : Int) + 1 = 6 from rfl,
  show (6 : Int) + 1 = 7 from rfl, show (7 : Int) + 1 = 8 from rfl, show (0 : Int) < 8 from by decide, show (1 : Int) < 8 from by decide, show (2 : Int) < 8 from by decide, show (3 : Int) < 8 from by decide, show (4 : Int) < 8 from by decide,
  show (5 : Int) < 8 from by decide, show (6 : Int) < 8 from by decide, show (7 : Int) < 8 from by decide, show ¬ (8 : Int) < 8 from by decide, if_true, if_false, e0, e1, e2, e3, e4, e5, e6, e7]
 simp only [show (⟨0, by decide⟩ : Fin 8) = 0 from rfl, show (⟨1, by decide⟩ : Fin 8) = 1 from rfl, show (⟨2, by decide⟩ : Fin 8) = 2 from rfl, show (⟨3, by decide⟩ : Fin 8) = 3 from rfl, show (⟨4, by decide⟩ : Fin 8) = 4 from rfl,
  show (⟨5, by decide⟩ : Fin 8) = 5 from rfl, show (⟨6, by decide⟩ : Fin 8) = 6 from rfl, show (⟨7, by decide⟩ : Fin 8) = 7 from rfl]
 by_cases h0 : a 0 = b 0
 by_cases h1 : a 1 = b 1
 by_cases h2 : a 2 = b 2
 by_cases h3 : a 3 = b 3
 by_cases h4 : a 4 = b 4
 by_cases h5 : a 5 = b 5
 by_cases h6 : a 6 = b 6
 by_cases h7 : a 7 = b 7
 simp [h0, h1, h2, h3, h4, h5, h6, h7, Ex.elim]
 simp [h0, h1, h2, h3, h4, h5, h6, h7, Ex.elim]
 simp [h0, h1, h2, h3, h4, h5, h6, Ex.elim]
 simp [h0, h1, h2, h3, h4, h5, Ex.elim]
 simp [h0, h1, h2, h3, h4, Ex.elim]
 simp [h0, h1, h2, h3, Ex.elim]
 simp [h0, h1, h2, Ex.elim]
 simp [h0, h1, Ex.elim]
 simp [h0, Ex.elim]
theorem Wo7 {x y : Int} (hx : 0 ≤ x ∧ x ≤ 2305843009213693952) (hy : 0 ≤ y ∧ y ≤ 2305843009213693952) : decide (IntKind.i64.wrap (y - x) < 0) = decide (y < x) := by
 rw [IntWalk.i64_in _ (by omega)]
 simp only [decide_eq_decide]
 omega
theorem Xj8 (x y : Ya5) : ltOf (fun x y : Ya5 => Xe0 x.1 y.1) x y = bef x.1 y.1 := by
 unfold ltOf Xe0 bef l8
 have hw : ∀ i, decide (IntKind.i64.wrap (y.1 i - x.1 i) < 0) = decide (y.1 i < x.1 i) := fun i => Wo7 (x.2 i) (y.2 i)
 simp only [Zn5]
 by_cases h0 : x.1 0 = y.1 0
 by_cases h1 : x.1 1 = y.1 1
 by_cases h2 : x.1 2 = y.1 2
 by_cases h3 : x.1 3 = y.1 3
 by_cases h4 : x.1 4 = y.1 4
 by_cases h5 : x.1 5 = y.1 5
 by_cases h6 : x.1 6 = y.1 6
 by_cases h7 : x.1 7 = y.1 7
 simp [h0, h1, h2, h3, h4, h5, h6, h7]
 simp only [h0, h1, h2, h3, h4, h5, h6, if_true, if_neg h7]; exact hw 7
 simp only [h0, h1, h2, h3, h4, h5, if_true, if_neg h6]; exact hw 6
 simp only [h0, h1, h2, h3, h4, if_true, if_neg h5]; exact hw 5
 simp only [h0, h1, h2, h3, if_true, if_neg h4]; exact hw 4
 simp only [h0, h1, h2, if_true, if_neg h3]; exact hw 3
 simp only [h0, h1, if_true, if_neg h2]; exact hw 2
 simp only [h0, if_true, if_neg h1]; exact hw 1
 simp only [if_neg h0]; exact hw 0
theorem Vb1 : SWO (ltOf fun x y : Ya5 => Xe0 x.1 y.1) where
 irrefl x := by rw [Xj8]; exact Ye6 _
 trans x y z h1 h2 := by rw [Xj8] at *; exact Zw0 h1 h2
 ntrans x y z h1 h2 := by
  rw [Xj8] at *
  cases h : bef x.1 z.1 with
  | false => rfl
  | true =>
   by_cases exy : x.1 = y.1
   rw [exy] at h; rw [h] at h2; cases h2
   have hyx : bef y.1 x.1 = true := (Yi0 exy).resolve_left (by rw [h1]; simp)
   rw [Zw0 hyx h] at h2; cases h2
/-- a world in which all is frozen; what comes behind it -/
def FH.all (W : World) : FH := ⟨fun b => W.heap[b]?, fun _ => none, some (W.tape, W.os, W.output, W.drawn, W.heap.size)⟩
theorem St.all (W : World) : St (FH.all W) W [] := ⟨fun _ _ h => h, fun _ _ h => (by cases h), fun t h => (by cases h; exact ⟨rfl, rfl, rfl, Nat.le_refl _⟩), fun b o h hl => (by
 have h : W.heap[b]? = some o := h
 have hl : W.heap.size ≤ b := hl
 rw [Array.getElem?_eq_none hl] at h; cases h), fun _ h => (by cases h), List.nodup_nil, fun _ h => (by cases h)⟩
theorem Wo9 {W w' : World} {H' : FH} (hs : Sub (FH.all W) H') (hS : St H' w' []) : ∃ q os, w' = grow (W.drewN q) os := by
 obtain ⟨h1, h2, h3, h4⟩ := hS.rest _ (hs.2.2.trans rfl)
 have hsz : W.heap.size ≤ w'.heap.size := by
  by_cases h0 : W.heap.size = 0
  omega
  have hl : W.heap[W.heap.size - 1]? = some W.heap[W.heap.size - 1] := by simp
  have := Zg7 (hS.froz _ _ (hs.1 _ _ hl))
  omega
 refine ⟨w'.drawn - W.drawn, w'.heap.extract W.heap.size w'.heap.size, ?_⟩
 have hh : w'.heap = W.heap ++ w'.heap.extract W.heap.size w'.heap.size := by
  apply Array.ext_getElem?
  intro i
  rw [Array.getElem?_append]
  split
  rename_i hi
  have hl : W.heap[i]? = some W.heap[i] := by simp [hi]
  rw [hl]
  exact hS.froz _ _ (hs.1 _ _ hl)
  rename_i hi
  rw [Array.getElem?_extract]
  by_cases hi2 : i < w'.heap.size
  rw [if_pos (by omega)]
  congr 1; omega
  rw [if_neg (by omega)]
  simp; omega
 obtain ⟨hp, tp, dr, os, out⟩ := w'
 simp only at h1 h2 h3 h4 hh hsz ⊢
 unfold grow World.drewN
 simp only
 congr 1
 omega
theorem Wz8 (blk off size : Nat) (w : World) : CmpLays Tryz.prog 213 #[] (fun x : Ya5 => Z7 .i64 x.1) 8 (fun x y => Xe0 x.1 y.1) blk off size w := by
 intro m os dk hd x y
 have h := Ya4 (Ww9 x.1 y.1) (St.all (sortWorldK (fun x : Ya5 => Z7 .i64 x.1) 8 w blk off m dk os))
 refine h.mono ?_
 rintro e w' ⟨v, H', rfl, hs, hS, hv⟩
 exact ⟨congrArg Ending.returned hv, Wo9 hs hS⟩
theorem St.ahead {H : FH} {w : World} {L : OL} (h : St H w L) (n : Nat) : St H (Sort.ahead w n) L :=
 ⟨h.froz, h.memo, fun t ht => (let ⟨a, b, c, d⟩ := h.rest t ht; ⟨a, b, c, Nat.le_trans d (Nat.le_add_right _ _)⟩), h.nofz, h.own, h.nodup, h.apart⟩
theorem St.grown {H : FH} {w : World} {L : OL} (h : St H w L) (os : Array Obj) : St H (grow w os) L := by
 have hlt : ∀ b o', w.heap[b]? = some o' → (grow w os).heap[b]? = some o' := fun b o' hb => by
  have := Zg7 hb
  show (w.heap ++ os)[b]? = some o'
  rw [Array.getElem?_append_left this]; exact hb
 exact ⟨fun b o hb => hlt b o (h.froz b o hb), fun b I hb => (let ⟨h1, h2, o, h3, h4⟩ := h.memo b I hb; ⟨h1, h2, o, hlt _ _ h3, h4⟩), h.rest, h.nofz, fun x hx => hlt _ _ (h.own x hx), h.nodup, h.apart⟩
theorem St.mapBlock {H : FH} {w : World} {L : OL} {b : Nat} {cs : Array Value} {E : TypeId} (h : St H w ([(b, .cells cs E)] ++ L)) (f : Array Value → Array Value) : St H (Sort.mapBlock w b f) ([(b, .cells (f cs) E)] ++ L) := by
 have hw : w.heap[b]? = some (.cells cs E) := St.hd h
 have e : Sort.mapBlock w b f = { w with heap := w.heap.setIfInBounds b (.cells (f cs) E) } := by
  unfold Sort.mapBlock
  congr 1
  apply Array.ext_getElem?
  intro k
  rw [Array.getElem?_modify, Array.getElem?_setIfInBounds]
  by_cases hk : b = k
  subst hk
  have := Zg7 hw
  rw [hw]
  simp [this, onCells]
  simp [hk]
 rw [e]
 exact St.put h _
theorem Wy8 {xs : List A8} (hb : ∀ a, a ∈ xs → ∀ i, 0 ≤ a i ∧ a i ≤ 2305843009213693952) : ∃ ks : List Ya5, ks.map Subtype.val = xs := by
 induction xs with
 | nil => exact ⟨[], rfl⟩
 | cons a xs ih =>
  obtain ⟨ks, rfl⟩ := ih (fun b h => hb b (List.mem_cons_of_mem _ h))
  exact ⟨⟨a, hb a (List.mem_cons_self ..)⟩ :: ks, rfl⟩
theorem Ws0 (ks : List Ya5) (t : Nat) (h : t < ks.length * 8) : (flatK (fun x : Ya5 => Z7 .i64 x.1) 8 ks.toArray)[t]! = (Z7 .i64 (ks[t / 8]!).1)[t % 8]! := by
 rw [get_flatK _ _ _ _ (by simpa using h)]
 simp
theorem Wz5 {H : FH} {w : World} {L : OL} {b c : Nat} {cs : Array Value} {xs : List A8} (hl : xs.length ≤ c) (hc : c ≤ maxLen) (hcs : cs.size = c * 8)
 (hx : ∀ i x, xs[i]? = some x → ∀ j, j < 8 → cs[i * 8 + j]? = (Z7 .i64 x)[j]?) (hS : St H w ([(b, .cells cs 222)] ++ L))
 (hb : ∀ a, a ∈ xs → ∀ i, 0 ≤ a i ∧ a i ≤ 2305843009213693952) (hlen : xs.length ≤ 1099511627776) (hnd : xs.Nodup) :
 Calls Tryz.prog 257 #[.slice (some ⟨b, 0, none⟩) xs.length c, .func (.func 213) #[] #[]] w (fun e w' => e = .returned (.tuple #[]) ∧ ∃ ys C', ys.Perm xs ∧ ys.Pairwise (fun p q => bef p q = true) ∧ St H w' (C' ++ L) ∧
  W3 (Zr3 .i64) 222 H (.slice (some ⟨b, 0, none⟩) xs.length c) ys C') := by
 obtain ⟨ks, rfl⟩ := Wy8 hb
 have hw : w.heap[b]? = some (.cells cs 222) := St.hd hS
 have hget : ∀ (t : Nat), t < ks.length * 8 → cs[t]? = some ((flatK (fun x : Ya5 => Z7 .i64 x.1) 8 ks.toArray)[t]!) := by
  intro t ht
  have h8 : t / 8 < ks.length := by omega
  have := hx (t / 8) (ks[t / 8]).1 (by simp [h8]) (t % 8) (Nat.mod_lt _ (by decide))
  rw [show t / 8 * 8 + t % 8 = t by omega] at this
  rw [this, Ws0 ks t ht]
  have he : (Z7 .i64 (ks[t / 8]).1).length = 8 := rfl
  have h9 : t % 8 < (Z7 .i64 (ks[t / 8]).1).length := by rw [he]; exact Nat.mod_lt _ (by decide)
  rw [getElem!_pos ks _ h8, List.getElem?_eq_getElem h9, getElem!_pos (Z7 .i64 (ks[t / 8]).1) _ h9]
 have hH : HoldsK (fun x : Ya5 => Z7 .i64 x.1) 8 w b 0 ks.toArray := by
  intro j hj
  rw [size_flatK] at hj
  have hj' : j < ks.length * 8 := by simpa using hj
  refine ⟨?_, ?_⟩
  rw [World.cell?, hw]
  simp only [Nat.zero_add]
  rw [hget j hj']; rfl
  simp [World.frozen?, hw]
 have hcall := AnyQ.slices_SortFunc Tryz.sortP 8 Tryz.isAgg222 Tryz.sizeOf222 (fun x : Ya5 => Z7 .i64 x.1) (fun _ => rfl) (fun x v hv => S4 _ _ v hv) (fun x y => Xe0 x.1 y.1) Vb1 213 #[] b 0 c ks.toArray w Tryz.call213
  (Wz8 b 0 ks.toArray.size w) hH (Zg7 hw) (by simp at hlen ⊢; omega)
 change Calls Tryz.prog 257 _ _ _ at hcall
 simp only [List.size_toArray, List.length_map] at hcall ⊢
 refine hcall.mono ?_
 rintro e w' ⟨rfl, d', n, os, hp, hs, rfl⟩
 have hsz : d'.size = ks.length := by have := hp.1; simpa using this
 have hperm : d'.toList.Perm ks := by
  have := hp.2.2
  rw [Array.extract_eq_self_of_le (by omega), Array.extract_eq_self_of_le (by simp)] at this
  simpa using this
 have hF : (flatK (fun x : Ya5 => Z7 .i64 x.1) 8 d').size = ks.length * 8 := by rw [size_flatK, hsz]
 refine ⟨rfl, d'.toList.map Subtype.val, [(b, .cells (putCells id 0 (flatK (fun x : Ya5 => Z7 .i64 x.1) 8 d') cs) 222)], hperm.map _, ?_, ?_, .inr ⟨b, c, _, ?_, ?_, hc, ?_, rfl, ?_⟩⟩
 rw [List.pairwise_map, List.pairwise_iff_getElem]
 intro i j hi hj hij
 have hi' : i < d'.size := by simpa using hi
 have hj' : j < d'.size := by simpa using hj
 have := hs i j (Nat.zero_le _) hij (by simp at hj ⊢; omega)
 rw [Xj8, getElem!_pos d' j hj', getElem!_pos d' i hi'] at this
 simp only [Array.getElem_toList]
 refine (Yi0 ?_).resolve_right (by rw [this]; simp)
 intro e
 have hnd' : (d'.toList.map Subtype.val).Nodup := (hperm.map _).nodup_iff.2 hnd
 have := (List.nodup_iff_pairwise_ne.1 hnd')
 rw [List.pairwise_map, List.pairwise_iff_getElem] at this
 exact this i j hi hj hij (by simpa using e)
 have h1 := (hS.ahead n).mapBlock (putCells id 0 (flatK (fun x : Ya5 => Z7 .i64 x.1) 8 d'))
 exact h1.grown os
 simp [hsz]
 simp [hsz]; simpa using hl
 simp only [putCells, Array.size_mapIdx]
 exact hcs
 intro i x hix
 refine ⟨_, rfl, fun j hj => ?_⟩
 have hj : j < 8 := hj
 have hi : i < d'.size := by
  rcases Nat.lt_or_ge i d'.size with h | h
  exact h
  rw [List.getElem?_eq_none (by simpa using h)] at hix; cases hix
 have hxv : x = d'[i].1 := by
  rw [List.getElem?_map] at hix
  simp [hi] at hix
  exact hix.symm
 subst hxv
 show (putCells id 0 (flatK (fun x : Ya5 => Z7 .i64 x.1) 8 d') cs)[i * 8 + j]? = _
 have ht : i * 8 + j < ks.length * 8 := by omega
 have hcl : i * 8 + j < cs.size := by rw [hcs]; simp at hl; omega
 simp only [putCells, Array.getElem?_mapIdx]
 rw [Array.getElem?_eq_getElem hcl]
 simp only [Option.map_some]
 rw [if_pos (by rw [hF]; omega), Nat.sub_zero, get_flatK _ _ _ _ (by rw [hsz]; exact ht)]
 rw [show (i * 8 + j) / 8 = i by omega, show (i * 8 + j) % 8 = j by omega, getElem!_pos d' _ hi]
 have h9 : j < (Z7 .i64 d'[i].1).length := hj
 rw [getElem!_pos (Z7 .i64 d'[i].1) j h9, List.getElem?_eq_getElem h9]; rfl
end
def F3 (K : Nat) (a0 : (List Int)) (a1 : MpT) (r8 : Int) : Nat → Int → Option (Ex (Int × Bool) (Unit))
 | 0, _ => none
 | k + 1, a3 => (if a3 < (a1.length : Int) then ((Zf1 K a0 ((rd a1 a3).1)).bind fun b7 => (if b7 = r8 then F3 K a0 a1 r8 k (a3 + 1) else some (.ret (0, false)))) else some (.go ()))
def Zq1 (K : Nat) (a0 : (List Int)) (a1 : MpT) : Option (Int × Bool) := (if (a1.length : Int) = 0 then some ((-1), true) else (if 0 < (a1.length : Int) then ((Zf1 K a0 ((rd a1 0).1)).bind fun r8 => ((F3 K a0 a1 r8 K 1).bind (Ex.elim (fun r => some r) (fun s => some (r8, true))))) else none))
theorem Yv6 {a0 : (List Int)} {a1 : MpT} {r : (Int × Bool)} (q0 : Zq1 K a0 a1 = some r) (a6 : Z9 (Y6 .i64) H s0 a0) (a5 : Z9 yT H s1 a1) (hS : St H w L) :
 Calls Tryz.prog 146 #[s0, vA ([s1])] w (T2 (fun v G => (R.t2 (R.int .i64) R.bool).p G v r) H L) := by
 have Z3 := Sub.refl H
 refine X3 Tryz.func146 rfl Tryz.ntmps146 rfl ?_
 unfold Zq1 at q0
 refine Z2 (Z0 ?_)
 refine S3 (v := vA ([s1])) ([s1]).toArray rfl rfl hS rfl ?_
 intro b1 _ hS
 refine Z5 (vI 0) rfl rfl (Z5 (vB false) rfl rfl (Z1 (Z2 (Z2 (Z0 (Y2 V9 rfl rfl ?_))))))
 refine Y3 (s1) Q4 rfl (hS.get mL) rfl rfl ?_
 have d4 := a5.bound
 refine W7 R7 rfl a5 rfl ?_
 refine Zc2 (k := .i64) (a := (a1.length : Int)) (b := 0) rfl rfl rfl (Z1 ?_)
 obtain ⟨b8, q0⟩ | ⟨b8, q0⟩ := ic q0
 refine Y0 (bT b8 rfl) (Z2 (Z0 (Z5 (vI (-1)) rfl rfl (Z5 (vB true) rfl rfl (Z1 ?_)))))
 refine X0 (vs := [vI (-1), vB true]) Tryz.func146 ⟨rfl, rfl, trivial⟩ ?_
 obtain rfl := oi q0
 exact ⟨_, _, rfl, Z3, (St.dropA hS), ⟨_, _, rfl, rfl, rfl⟩⟩
 refine Z8 (bF b8 rfl) (Y8 (Z2 (Z0 (Z4 (s0) rfl rfl (Y2 V9 rfl rfl ?_)))))
 refine Y3 (s1) Q4 rfl (hS.get mL) rfl rfl ?_
 obtain ⟨_, q0⟩ := gd q0
 obtain ⟨_, _, _, _, _, c6, c7, ⟨_, _, rfl, rfl, rfl⟩, c8⟩ := a5.elem (i := 0) (by omega) (by omega)
 refine X9 R7 rfl rfl c6 rfl (by omega) (by omega) rfl (Y2 M1 rfl rfl ?_)
 refine W9 (Z7 .u8 ((rd a1 0).1)) M2 rfl (hS.froz _ _ c7) rfl (Zk1 ([]) (Z7 .u8 ((rd a1 0).1)) (([vI ((rd a1 0).2)])) c8 (nl rfl)) rfl ?_
 obtain ⟨r8, c9, q0⟩ := bind_some q0
 refine X6 Tryz.call207 (U9 rfl rfl) rfl (Zx8 c9 a6 hS) ?_
 rintro _ H8 _ b9 hS rfl
 have Z3 := Z3.trans b9
 have a6 := a6.mono b9
 have a5 := a5.mono b9
 refine Z5 (vI r8) rfl rfl (Z1 (Z2 (Z2 (Z0 (Z5 (vI 1) rfl rfl (Z1 (Y7 ?_)))))))
 obtain ⟨c0, a4, b2⟩ := bind_some q0
 refine W1 (id := 0) (fun k f w => ∃ (a3 : Int) (H1 : FH), F3 K a0 a1 r8 k a3 = some c0 ∧ Sub H H1 ∧ St H1 w ([(b1, cA ([s1]) 45)] ++ L) ∧ 0 ≤ a3 ∧ Z9 (Y6 .i64) H1 s0 a0 ∧ Z9 yT H1 s1 a1 ∧ tv f 0 = s0 ∧ tv f 3 = vP b1 ∧ tv f 6 = vI r8 ∧ tv f 7 = vI a3) (fun f w => ∃ (H1 : FH), c0 = .go () ∧ Sub H H1 ∧ St H1 w ([(b1, cA ([s1]) 45)] ++ L) ∧ Z9 yT H1 s1 a1 ∧ tv f 6 = vI r8) rfl ?_ ?_ K ?_ ?_
 rintro f w ⟨a3, H1, a4, _⟩
 rw [F3] at a4; cases a4
 rintro k _ _ d0 d1 ⟨a3, c1, a4, Z3, hS, _, a6, a5, b0, a7, a8, a9⟩
 rw [F3] at a4
 refine Z2 (Z2 (Z0 (Z4 (vI a3) (by exact a9) rfl (Y2 V9 (by exact a7) rfl ?_))))
 refine Y3 (s1) Q4 rfl (hS.get mL) rfl rfl ?_
 have d3 := a5.bound
 refine W7 R7 rfl a5 rfl ?_
 refine V5 (k := .i64) (a := a3) (b := (a1.length : Int)) rfl rfl rfl (Z1 ?_)
 obtain ⟨b3, a4⟩ | ⟨b3, a4⟩ := ic a4
 refine Y0 (bT b3 rfl) (Y8 (Z2 (Y7 (Z2 (Z0 (Z4 (s0) (by exact b0) rfl (Y2 V9 (by exact a7) rfl ?_)))))))
 refine Y3 (s1) Q4 rfl (hS.get mL) rfl rfl (Z4 (vI a3) (by exact a9) rfl ?_)
 obtain ⟨_, _, _, _, _, c2, c3, ⟨_, _, rfl, rfl, rfl⟩, c4⟩ := a5.elem (i := a3) (by omega) (by omega)
 refine X9 R7 rfl rfl c2 rfl (by omega) (by omega) rfl (Y2 M1 rfl rfl ?_)
 refine W9 (Z7 .u8 ((rd a1 a3).1)) M2 rfl (hS.froz _ _ c3) rfl (Zk1 ([]) (Z7 .u8 ((rd a1 a3).1)) (([vI ((rd a1 a3).2)])) c4 (nl rfl)) rfl ?_
 obtain ⟨b7, c5, a4⟩ := bind_some a4
 refine X6 Tryz.call207 (U9 rfl rfl) rfl (Zx8 c5 a6 hS) ?_
 rintro _ d2 _ b4 hS rfl
 have Z3 := Z3.trans b4
 have a6 := a6.mono b4
 have a5 := a5.mono b4
 refine Z4 (vI r8) (by exact a8) rfl ?_
 refine L7 (k := .i64) (a := b7) (b := r8) rfl rfl rfl (Z1 ?_)
 obtain ⟨b5, a4⟩ | ⟨b5, a4⟩ := ic a4
 refine Z8 (bN b5 rfl) (Y8 (X4 (Z0 (Z4 (vI a3) (by exact a9) rfl ?_))))
 refine W8 (a3 + 1) rfl rfl (IntWalk.i64_in _ (by omega)) rfl (Z5 (vI (a3 + 1)) rfl rfl (Z1 ?_))
 exact d0 _ _ ⟨(a3 + 1), d2, a4, Z3, hS, (by omega), a6, a5, b0, a7, a8, rfl⟩
 refine Y0 (bO b5 rfl) (Z2 (Z0 (Z5 (vI 0) rfl rfl (Z5 (vB false) rfl rfl (Z1 ?_)))))
 refine X0 (vs := [vI 0, vB false]) Tryz.func146 ⟨rfl, rfl, trivial⟩ ?_
 obtain rfl := oi a4
 dsimp only [Ex.elim] at b2
 obtain rfl := oi b2
 exact ⟨_, _, rfl, Z3, (St.dropA hS), ⟨_, _, rfl, rfl, rfl⟩⟩
 refine Z8 (bF b3 rfl) ?_
 refine W0 rfl ?_
 obtain rfl := oi a4
 exact d1 _ _ ⟨c1, rfl, Z3, hS, a5, a8⟩
 exact ⟨1, H8, a4, Z3, hS, (by omega), a6, a5, rfl, rfl, rfl, rfl⟩
 rintro _ _ ⟨_, rfl, Z3, hS, a5, b6⟩
 dsimp only [Ex.elim] at b2
 refine Z2 (Z0 (Z4 (vI r8) (by exact b6) rfl (Z5 (vI r8) rfl rfl (Z5 (vB true) rfl rfl (Z1 ?_)))))
 refine X0 (vs := [vI r8, vB true]) Tryz.func146 ⟨rfl, rfl, trivial⟩ ?_
 obtain rfl := oi b2
 exact ⟨_, _, rfl, Z3, (St.dropA hS), ⟨_, _, rfl, rfl, rfl⟩⟩
def E1 (K : Nat) (a0 : (List Int)) : Nat → Int → Option (Ex Bool (Unit))
 | 0, _ => none
 | k + 1, a1 => (if a1 < (a0.length : Int) then ((Zu7 K (rd a0 a1) 1 12).bind fun r4 => (if r4 = true then E1 K a0 k (a1 + 1) else some (.ret false))) else some (.go ()))
def Zo8 (K : Nat) (a0 : (List Int)) : Option Bool := ((E1 K a0 K 0).bind (Ex.elim (fun r => some r) (fun s => some (decide ((a0.length : Int) ≤ 8)))))
theorem Yv0 {a0 : (List Int)} {r : Bool} (q0 : Zo8 K a0 = some r) (a4 : Z9 (Y6 .i64) H s0 a0) (hS : St H w L) :
 Calls Tryz.prog 144 #[s0] w (T2 (fun v G => R.bool.p G v r) H L) := by
 have Z3 := Sub.refl H
 refine X3 Tryz.func144 rfl Tryz.ntmps144 rfl ?_
 unfold Zo8 at q0
 refine Z2 (Z0 (Z5 (vB false) rfl rfl (Z1 (Z2 (Z2 (Z0 (Z5 (vI 0) rfl rfl (Z1 (Y7 ?_)))))))))
 obtain ⟨a9, a3, a7⟩ := bind_some q0
 refine W1 (id := 0) (fun k f w => ∃ (a1 : Int) (H1 : FH), E1 K a0 k a1 = some a9 ∧ Sub H H1 ∧ St H1 w (L) ∧ 0 ≤ a1 ∧ Z9 (Y6 .i64) H1 s0 a0 ∧ tv f 0 = s0 ∧ tv f 3 = vI a1) (fun f w => ∃ (H1 : FH), a9 = .go () ∧ Sub H H1 ∧ St H1 w (L) ∧ Z9 (Y6 .i64) H1 s0 a0 ∧ tv f 0 = s0) rfl ?_ ?_ K ?_ ?_
 rintro f w ⟨a1, H1, a3, _⟩
 rw [E1] at a3; cases a3
 rintro k _ _ b4 b5 ⟨a1, b3, a3, Z3, hS, _, a4, a5, a6⟩
 rw [E1] at a3
 refine Z2 (Z2 (Z0 (Z4 (vI a1) (by exact a6) rfl (Z4 (s0) (by exact a5) rfl ?_))))
 have c0 := a4.bound
 refine W7 Q0 rfl a4 rfl ?_
 refine V5 (k := .i64) (a := a1) (b := (a0.length : Int)) rfl rfl rfl (Z1 ?_)
 obtain ⟨b0, a3⟩ | ⟨b0, a3⟩ := ic a3
 refine Y0 (bT b0 rfl) (Y8 (Z2 (Y7 (Z2 (Z0 (Z4 (s0) (by exact a5) rfl (Z4 (vI a1) (by exact a6) rfl ?_)))))))
 obtain ⟨_, _, _, _, _, b6, b7, rfl, b8⟩ := a4.elem (i := a1) (by omega) (by omega)
 refine X9 Q0 rfl rfl b6 rfl (by omega) (by omega) rfl ?_
 refine Y3 (vI (rd a0 a1)) ty2 rfl (hS.froz _ _ b7) (b8 0 (show 0 < 1 by decide)) rfl ?_
 obtain ⟨r4, b9, a3⟩ := bind_some a3
 refine X6 Tryz.call73 (G7 rfl rfl rfl) rfl (Zy4 b9  hS) ?_
 rintro _ H4 _ b2 hS rfl
 have Z3 := Z3.trans b2
 have a4 := a4.mono b2
 refine K9 (b := r4) rfl rfl (Z1 ?_)
 obtain ⟨b1, a3⟩ | ⟨b1, a3⟩ := ic a3
 refine Z8 (Eq.trans rfl (congrArg (fun b => vB (!b)) b1)) (Y8 (X4 (Z0 (Z4 (vI a1) (by exact a6) rfl ?_))))
 refine W8 (a1 + 1) rfl rfl (IntWalk.i64_in _ (by omega)) rfl (Z5 (vI (a1 + 1)) rfl rfl (Z1 ?_))
 exact b4 _ _ ⟨(a1 + 1), H4, a3, Z3, hS, (by omega), a4, a5, rfl⟩
 refine Y0 (Eq.trans rfl (congrArg (fun b => vB (!b)) (X8 b1))) (Z2 (Z0 (Z5 (vB false) rfl rfl (Z1 ?_))))
 refine X0 (vs := [vB false]) Tryz.func144 ⟨rfl, trivial⟩ ?_
 obtain rfl := oi a3
 dsimp only [Ex.elim] at a7
 obtain rfl := oi a7
 exact ⟨_, _, rfl, Z3, hS, rfl⟩
 refine Z8 (bF b0 rfl) ?_
 refine W0 rfl ?_
 obtain rfl := oi a3
 exact b5 _ _ ⟨b3, rfl, Z3, hS, a4, a5⟩
 exact ⟨0, H, a3, Z3, hS, (by omega), a4, rfl, rfl⟩
 rintro _ _ ⟨_, rfl, Z3, hS, a4, a8⟩
 dsimp only [Ex.elim] at a7
 refine Z2 (Z0 (Z4 (s0) (by exact a8) rfl ?_))
 have c1 := a4.bound
 refine W7 Q0 rfl a4 rfl ?_
 refine Xb0 (k := .i64) (a := (a0.length : Int)) (b := 8) rfl rfl rfl (Z5 (vB (decide ((a0.length : Int) ≤ 8))) rfl rfl (Z1 ?_))
 refine X0 (vs := [vB (decide ((a0.length : Int) ≤ 8))]) Tryz.func144 ⟨rfl, trivial⟩ ?_
 obtain rfl := oi a7
 exact ⟨_, _, rfl, Z3, hS, rfl⟩
def Zx0 (K : Nat) (a0 : (A8 × Int)) (a1 : (A8 × Int)) : Option Bool := ((Zo1 K a0.1 a1.1).bind fun r7 => (if r7 = true then (if a0.2 = a1.2 then some true else some false) else some false))
theorem Xg5 {a0 : (A8 × Int)} {a1 : (A8 × Int)} {r : Bool} (q0 : Zx0 K a0 a1 = some r) (hS : St H w L) :
 Calls Tryz.prog 168 #[vA (Z7 .u8 a0.1 ++ [vI a0.2]), vA (Z7 .u8 a1.1 ++ [vI a1.2])] w (T2 (fun v G => R.bool.p G v r) H L) := by
 have Z3 := Sub.refl H
 refine X3 Tryz.func168 rfl Tryz.ntmps168 rfl ?_
 unfold Zx0 at q0
 refine Z2 (Z0 ?_)
 refine S3 (v := vA (Z7 .u8 a0.1 ++ [vI a0.2])) (Z7 .u8 a0.1 ++ [vI a0.2]).toArray rfl rfl hS rfl ?_
 intro _ _ hS
 refine S3 (v := vA (Z7 .u8 a1.1 ++ [vI a1.2])) (Z7 .u8 a1.1 ++ [vI a1.2]).toArray rfl rfl hS rfl ?_
 intro _ _ hS
 refine Z5 (vB false) rfl rfl (Z1 (Z2 (Z2 (Z0 (Y2 M1 rfl rfl ?_)))))
 refine W9 (Z7 .u8 a0.1) M2 rfl (hS.get (o := cA (Z7 .u8 a0.1 ++ [vI a0.2]) 78) (mR mL)) rfl (fun j hj => Zm0 ([]) (Z7 .u8 a0.1) (([vI a0.2])) j hj) rfl (Y2 M1 rfl rfl ?_)
 refine W9 (Z7 .u8 a1.1) M2 rfl (hS.get (o := cA (Z7 .u8 a1.1 ++ [vI a1.2]) 78) mL) rfl (fun j hj => Zm0 ([]) (Z7 .u8 a1.1) (([vI a1.2])) j hj) rfl ?_
 obtain ⟨r7, a5, q0⟩ := bind_some q0
 refine X6 Tryz.call239 (U9 rfl rfl) rfl (Yu7 a5  hS) ?_
 rintro _ _ _ a6 hS rfl
 have Z3 := Z3.trans a6
 refine K9 (b := r7) rfl rfl (Z1 ?_)
 obtain ⟨a4, q0⟩ | ⟨a4, q0⟩ := ic q0
 refine Z8 (Eq.trans rfl (congrArg (fun b => vB (!b)) a4)) (Y8 (Z2 (Z2 (Z0 (Y2 Ze2 rfl rfl ?_)))))
 refine Y3 (vI a0.2) ty2 rfl (hS.get (mR mL)) rfl rfl (Y2 Ze2 rfl rfl ?_)
 refine Y3 (vI a1.2) ty2 rfl (hS.get mL) rfl rfl ?_
 refine L7 (k := .i64) (a := a0.2) (b := a1.2) rfl rfl rfl (Z1 ?_)
 obtain ⟨a3, q0⟩ | ⟨a3, q0⟩ := ic q0
 refine Z8 (bN a3 rfl) (Y8 (Z2 (Z0 (Z5 (vB true) rfl rfl (Z1 ?_)))))
 refine X0 (vs := [vB true]) Tryz.func168 ⟨rfl, trivial⟩ ?_
 obtain rfl := oi q0
 exact ⟨_, _, rfl, Z3, (St.dropA (St.dropA hS)), rfl⟩
 refine Y0 (bO a3 rfl) (Z2 (Z0 (Z5 (vB false) rfl rfl (Z1 ?_))))
 refine X0 (vs := [vB false]) Tryz.func168 ⟨rfl, trivial⟩ ?_
 obtain rfl := oi q0
 exact ⟨_, _, rfl, Z3, (St.dropA (St.dropA hS)), rfl⟩
 refine Y0 (Eq.trans rfl (congrArg (fun b => vB (!b)) (X8 a4))) (Z2 (Z0 (Z5 (vB false) rfl rfl (Z1 ?_))))
 refine X0 (vs := [vB false]) Tryz.func168 ⟨rfl, trivial⟩ ?_
 obtain rfl := oi q0
 exact ⟨_, _, rfl, Z3, (St.dropA (St.dropA hS)), rfl⟩
def T8 (K : Nat) (a0 : MpT) (a1 : A8) (a2 : Int) : Option MpT := (if nfm a0 = true ∧ -4611686018427387904 ≤ a2 ∧ a2 ≤ 4611686018427387904 then ((Zm8 K (IntKind.i64.wrap ((Q1 a0 a1) + a2))).bind fun r4 => (if r4 = 0 then some (Zk5 a0 a1) else some (F6 a0 a1 r4))) else none)
theorem Yj4 {a0 : MpT} {a1 : A8} {a2 : Int} {r : MpT} (q0 : T8 K a0 a1 a2 = some r) {L C0 : OL} (a3 : P7 .i64 s0 a0 C0) (hS : St H w (C0 ++ L)) :
 Calls Tryz.prog 217 #[s0, vA (Z7 .i64 a1), vI a2] w (Wt1 .i64 s0 r H L) := by
 have Z3 := Sub.refl H
 refine X3 Tryz.func217 rfl Tryz.ntmps217 rfl ?_
 unfold T8 at q0
 obtain ⟨hG, q0⟩ := gd q0
 refine Z2 (Z0 ?_)
 refine S3 (v := vA (Z7 .i64 a1)) (Z7 .i64 a1).toArray rfl rfl hS rfl ?_
 intro _ _ hS
 refine Z1 (Z2 (Z0 (Z4 (s0) rfl rfl ?_)))
 refine X7 K2 rfl (hS.get mL) rfl rfl ?_
 have hS := hS.perm V1
 refine Yx6 (a := a1) Zi9 rfl rfl a3 hS rfl ?_
 have hS := hS.perm V1.symm
 refine Z4 (vI a2) rfl rfl ?_
 refine W8 (IntKind.i64.wrap ((Q1 a0 a1) + a2)) rfl rfl rfl rfl ?_
 obtain ⟨r4, a7, q0⟩ := bind_some q0
 refine X6 Tryz.call206 (S2 rfl) rfl (Yc8 a7  hS) ?_
 rintro _ _ _ a5 hS rfl
 have Z3 := Z3.trans a5
 have a3 := a3.mono a5
 refine Z5 (vI r4) rfl rfl (Z1 (Z2 (Z0 (Z4 (vI r4) rfl rfl ?_))))
 refine L7 (k := .i64) (a := r4) (b := 0) rfl rfl rfl (Z1 ?_)
 obtain ⟨a4, q0⟩ | ⟨a4, q0⟩ := ic q0
 refine Z8 (bN a4 rfl) (Z0 (Z4 (s0) rfl rfl ?_))
 refine X7 K2 rfl (hS.get mL) rfl rfl ?_
 have hS := hS.perm V1
 refine Xx6 (a := a1) Zi9 rfl rfl a3 hS ?_
 intro _ _ a8 hS
 have hS := hS.perm V1.symm
 refine Z1 ?_
 refine Xl7 (vs := []) Tryz.func217 trivial ?_
 have hS := hS.perm V1
 have hS := St.dropMid hS
 obtain rfl := oi q0
 exact ⟨_, _, rfl, Z3, hS, a8⟩
 refine Y0 (bO a4 rfl) (Z0 (Z4 (s0) rfl rfl ?_))
 refine X7 K2 rfl (hS.get mL) rfl rfl (Z4 (vI r4) rfl rfl ?_)
 have hS := hS.perm V1
 refine Xd2 (a := a1) (m := r4) Zi9 rfl rfl rfl a3 hS ?_
 intro _ _ a6 hS
 have hS := hS.perm V1.symm
 refine Z1 ?_
 refine Xl7 (vs := []) Tryz.func217 trivial ?_
 have hS := hS.perm V1
 have hS := St.dropMid hS
 obtain rfl := oi q0
 exact ⟨_, _, rfl, Z3, hS, a6⟩
def Yb0 (K : Nat) (a0 : (List Int)) : Option Int := ((K4 K a0 (fun x => Zp5 K x)).bind fun r1 => some r1)
theorem Xk9 {a0 : (List Int)} {r : Int} (q0 : Yb0 K a0 = some r) (a1 : Z9 (Y6 .i64) H s0 a0) (hS : St H w L) :
 Calls Tryz.prog 159 #[s0] w (T2 (fun v G => (R.int .i64).p G v r) H L) := by
 have Z3 := Sub.refl H
 refine X3 Tryz.func159 rfl Tryz.ntmps159 rfl ?_
 unfold Yb0 at q0
 refine Z2 (Z0 (Z5 (vI 0) rfl rfl (Z1 (Z2 (Z0 (Z4 (s0) rfl rfl ?_))))))
 obtain ⟨r1, a3, q0⟩ := bind_some q0
 refine X6 Tryz.call235 (U9 rfl rfl) rfl (Zn7 a3 a1 ⟨236, #[], rfl, Tryz.call236, fun H2 w2 L2 v x b a7 a4 hv a5 => by obtain rfl := hv; exact Xb5 a5   a4⟩ hS) ?_
 rintro _ _ _ a6 hS rfl
 have Z3 := Z3.trans a6
 refine Z5 (vI r1) rfl rfl (Z1 ?_)
 refine X0 (vs := [vI r1]) Tryz.func159 ⟨rfl, trivial⟩ ?_
 obtain rfl := oi q0
 exact ⟨_, _, rfl, Z3, hS, rfl⟩
end Go.Proofs.YtabofnehiclkiaaGreat
