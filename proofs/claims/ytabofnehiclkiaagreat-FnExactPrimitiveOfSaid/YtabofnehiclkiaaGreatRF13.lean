/- Walk, rules and plain laws. -/
import Derived.Test.YtabofnehiclkiaaGreatRF11
import Derived.Test.YtabofnehiclkiaaGreatRF12
namespace Go.Proofs.YtabofnehiclkiaaGreat
open Go Go.Proofs.Tryz IntKind IntWalk List
set_option linter.all false
set_option maxRecDepth 100000
set_option maxHeartbeats 8000000
variable {K : Nat} {H : FH} {w : World} {L : OL} {s0 s1 s2 s3 s4 s5 s6 : Value}
def F0 (K : Nat) (a0 : ((List Int) × (List MpT))) : Nat → Int → Option (Ex Bool Unit)
 | 0, _ => none
 | k + 1, b0 => (if b0 < (a0.2.length : Int) then ((Zn6 K (a0.1, a0.2) (rd a0.2 b0)).bind fun b5 => (if 0 < (b5.length : Int) then some (.ret false) else F0 K a0 k (b0 + 1))) else some (.go ()))
def G9 (K : Nat) (a0 : ((List Int) × (List MpT))) : Nat → Int → Option (Ex Bool Unit)
 | 0, _ => none
 | k + 1, a1 => (if a1 < (a0.2.length : Int) then ((Zt2 K a0.1 (rd a0.2 a1)).bind fun c3 => (if c3 = true then ((Zb8 K a0.1 (rd a0.2 a1)).bind fun a7 => (if a7.2 = true then (if 0 < ((rd a0.2 a1).length : Int) then (if a1 < (a0.1.length : Int) then (if a7.1 = (i64.wrap ((rd a0.1 a1) + 1)) then G9 K a0 k (a1 + 1) else some (.ret false)) else none) else G9 K a0 k (a1 + 1)) else some (.ret false))) else some (.ret false))) else some (.go ()))
def Zr4 (K : Nat) (a0 : ((List Int) × (List MpT))) (b3 : Bool) : Option Bool := (if b3 = true then some false else ((G9 K a0 K 0).bind (Ex.elim (fun r => some r) (fun s => ((F0 K a0 K 0).bind (Ex.elim (fun r => some r) (fun s => some true)))))))
def Zz5 (K : Nat) (a0 : ((List Int) × (List MpT))) : Option Bool := ((Zm1 K a0.1).bind fun c7 => (if c7 = true then Zr4 K a0 (!decide ((a0.2.length : Int) = (a0.1.length : Int))) else Zr4 K a0 true))
theorem Xj3 {a0 : ((List Int) × (List MpT))} {r : Bool} (q0 : Zz5 K a0 = some r) (a5 : Y3 (Y4 .i64) H s0 a0.1) (a6 : Y3 (X3 yT) H s1 a0.2) (hS : St H w L) :
 Calls prog 72 #[vA ([s0] ++ [s1])] w (T4 (fun v G => R.bool.p G v r) H L) := by
 have Z4 := Sub.refl H
 refine X0 func72 U ntmps72 U ?_
 unfold Zz5 at q0
 refine Z1 (Z0 (T8 (v := vA ([s0] ++ [s1])) ([s0] ++ [s1]).toArray U U hS U (fun b1 _ hS => Z5 (vB false) U U (Z2 (Z1 (Z1 (N1 (fun f w => ∃ b3 H1, Zr4 K a0 b3 = some r ∧ Sub H H1 ∧ St H1 w ([(b1, cA ([s0] ++ [s1]) 31)] ++ L) ∧ Y3 (Y4 .i64) H1 s0 a0.1 ∧ Y3 (X3 yT) H1 s1 a0.2 ∧ tv f 1 = vP b1 ∧ tv f 19 = vB b3) ?_ ?_)))))))
 rintro _ _ ⟨b3, g8, c4, Z4, hS, a5, a6, f2, c5⟩
 unfold Zr4 at c4
 obtain ⟨f3, c4⟩ | ⟨f3, c4⟩ := ic c4
 refine Z8 (Eq.trans (by exact c5) (congrArg vB f3)) (Z1 (Z0 (Z5 (vB false) U U (Z2 (Y9 (vs := [vB false]) func72 Ut ?_)))))
 cases c4
 exact ⟨_, _, U, Z4, (St.dA hS), U⟩
 refine Z6 (Eq.trans (by exact c5) (congrArg vB (X8 f3))) (Y6 (Z1 (Z1 (Z0 (Z5 (vI 0) U U (Z2 (Y8 ?_)))))))
 obtain ⟨f4, a3, b6⟩ := bSm c4
 refine W3 (id := 0) (fun k f w => ∃ a1 H1, G9 K a0 k a1 = some f4 ∧ Sub H H1 ∧ St H1 w ([(b1, cA ([s0] ++ [s1]) 31)] ++ L) ∧ 0 ≤ a1 ∧ Y3 (Y4 .i64) H1 s0 a0.1 ∧ Y3 (X3 yT) H1 s1 a0.2 ∧ tv f 1 = vP b1 ∧ tv f 3 = vI a1) (fun f w => ∃ H1, f4 = .go () ∧ Sub H H1 ∧ St H1 w ([(b1, cA ([s0] ++ [s1]) 31)] ++ L) ∧ Y3 (Y4 .i64) H1 s0 a0.1 ∧ Y3 (X3 yT) H1 s1 a0.2 ∧ tv f 1 = vP b1) U ?_ ?_ K ?_ ?_
 rintro f w ⟨a1, H1, a3, _⟩
 rw [G9] at a3; cases a3
 rintro k _ _ j1 l1 ⟨a1, j3, a3, Z4, hS, _, a5, a6, b4, b8⟩
 rw [G9] at a3
 refine Z1 (Z1 (Z0 (Z3 (vI a1) (by exact b8) U (Y2 Zh6 (by exact b4) U (Y1 s1 Yb2 U (hS.get mL) U U ?_)))))
 have m5 := a6.bound
 refine X9 Zm7 U a6 U (V4 (k := .i64) (a := a1) (b := (a0.2.length : Int)) U U U (Z2 ?_))
 obtain ⟨f5, a3⟩ | ⟨f5, a3⟩ := ic a3
 refine Z8 (bT f5 U) (Y6 (Z1 (Y8 (Z1 (Z1 ?_)))))
 obtain ⟨l2, l3, _, _, _, j4, j5, ⟨e3, rfl, c2⟩, j6⟩ := a6.elem (i := a1) (by omega) (by omega)
 obtain ⟨c3, j7, a3⟩ := bSm a3
 refine W6 9 (S8 [mE 27 (vP b1), mE 28 s0, mE 29 (vQ b1 1), mE 30 s1, mE 31 (vI a1), mE 32 (vQ l2 l3), mE 33 (vA [e3]), mE 34 (vB c3), mE 35 (vB (!c3))]) [] mixed U U U hS (U1 (X4 fun S B => Y2 N8 (evT (B 1 U) b4) U (qz S)) (Y7 fun S V => Y1 s0 Q9 (eM (V 0 27 U U)) (S.get (mR mL)) U U (qz S)) (X4 fun S B => Y2 Zh6 (evT (B 1 U) b4) U (qz S)) (Y7 fun S V => Y1 s1 Yb2 (eM (V 2 29 U U)) (S.get (mR mL)) U U (qz S)) (X4 fun S B => Z3 (vI a1) (evT (B 3 U) b8) U (qz S)) (Y7 fun S V => X6 Zm7 U (eM (V 3 30 U U)) j4 (eM (V 4 31 U U)) (by omega) (by omega) U (qz S)) (P0 fun s S V => U0 [e3] U7 (eM (V 5 32 U U)) (S.froz _ _ (s.1 _ _ j5)) U j6 U (qz S)) ?_ (I2 ?_ W9)) ?_
 intro _ _ _ _ f6 hS _ f7 hcq
 have a5 := a5.mono f6
 have c2 := c2.mono f6
 refine X2 call145 (W8 (eM (f7 1 28 U U)) (eM (f7 6 33 U U))) U (Yp4 j7 a5 c2 hS) ?_
 rintro _ _ _ j8 hS rfl
 exact qn j8 U hS U
 exact Y7 fun S V => P5 (b := c3) (eM (V 7 34 U U)) U (qz S)
 intro l4 l5 l6 e1 hS f8 j9 hcq
 have hS : St l6 l5 ([(b1, cA ([s0] ++ [s1]) 31)] ++ L) := hS
 have Z4 := Z4.trans e1
 have a5 := a5.mono e1
 have a6 := a6.mono e1
 have f9 := evT (f8 1 U) b4
 have g0 := evT (f8 3 U) b8
 have g1 : tv l4 35 = vB (!c3) := j9 8 35 (by decide) U
 refine Z2 ?_
 obtain ⟨c8, a3⟩ | ⟨c8, a3⟩ := ic a3
 refine Z6 (Eq.trans (by exact g1) (congrArg (fun b => vB (!b)) c8)) (Y6 (Z1 ?_))
 obtain ⟨k0, k1, _, _, _, g9, h0, ⟨d9, rfl, b9⟩, h1⟩ := a6.elem (i := a1) (by omega) (by omega)
 obtain ⟨a7, h2, a3⟩ := bSm a3
 refine W6 13 (S8 [mE 37 (vP b1), mE 38 s0, mE 39 (vQ b1 1), mE 40 s1, mE 41 (vI a1), mE 42 (vQ k0 k1), mE 43 (vA [d9]), mE 44 (Value.tuple #[vI a7.1, vB a7.2]), mE 36 (Value.tuple #[vI a7.1, vB a7.2]), mE 45 (vI a7.1), mE 46 (vB a7.2), mE 4 (vI a7.1), mE 5 (vB a7.2)]) [] mixed U U U hS (U1 (X4 fun S B => Y2 N8 (evT (B 1 U) f9) U (qz S)) (Y7 fun S V => Y1 s0 Q9 (eM (V 0 37 U U)) (S.get (mR mL)) U U (qz S)) (X4 fun S B => Y2 Zh6 (evT (B 1 U) f9) U (qz S)) (Y7 fun S V => Y1 s1 Yb2 (eM (V 2 39 U U)) (S.get (mR mL)) U U (qz S)) (X4 fun S B => Z3 (vI a1) (evT (B 3 U) g0) U (qz S)) (Y7 fun S V => X6 Zm7 U (eM (V 3 40 U U)) g9 (eM (V 4 41 U U)) (by omega) (by omega) U (qz S)) (P0 fun s S V => U0 [d9] U7 (eM (V 5 42 U U)) (S.froz _ _ (s.1 _ _ h0)) U h1 U (qz S)) ?_ (K3 ?_ ?_ ?_ ?_ (I2 ?_ W9))) ?_
 intro _ _ _ _ e4 hS _ e5 hcq
 have a5 := a5.mono e4
 have b9 := b9.mono e4
 refine X2 call146 (W8 (eM (e5 1 38 U U)) (eM (e5 6 43 U U))) U (Yf3 h2 a5 b9 hS) ?_
 rintro _ _ _ h3 hS ⟨_, _, rfl, rfl, rfl⟩
 exact qn h3 U hS U
 exact Y7 fun S V => Z3 (Value.tuple #[vI a7.1, vB a7.2]) (eM (V 7 44 U U)) U (qz S)
 exact Y7 fun S V => V1 (vI a7.1) (eM (V 8 36 U U)) U U (qz S)
 exact Y7 fun S V => V1 (vB a7.2) (eM (V 8 36 U U)) U U (qz S)
 exact Y7 fun S V => Z5 (vI a7.1) (eM (V 9 45 U U)) U (qz S)
 exact Y7 fun S V => Z5 (vB a7.2) (eM (V 10 46 U U)) U (qz S)
 intro _ k2 e2 c9 hS e6 e7 hcq
 have hS : St e2 k2 ([(b1, cA ([s0] ++ [s1]) 31)] ++ L) := hS
 have Z4 := Z4.trans c9
 have a5 := a5.mono c9
 have a6 := a6.mono c9
 have d0 := evT (e6 1 U) f9
 have d1 := evT (e6 3 U) g0
 refine Z2 (Z1 (Z0 (Z3 (vB a7.2) (by exact (eM (e7 12 5 (by decide) U))) U (P5 (b := a7.2) U U (Z3 (vB (!a7.2)) U U ?_)))))
 obtain ⟨a4, a3⟩ | ⟨a4, a3⟩ := ic a3
 refine Y0 U U (nT a4) (Y2 Zh6 (by exact d0) U (Y0 U U (nT a4) (Y1 s1 Yb2 U (hS.get mL) U U (Y0 U U (nT a4) (Z3 (vI a1) (by exact d1) U ?_)))))
 obtain ⟨_, _, _, _, _, h4, h5, ⟨g2, rfl, c6⟩, h6⟩ := a6.elem (i := a1) (by omega) (by omega)
 refine Y0 U U (nT a4) (X6 Zm7 U U h4 U (by omega) (by omega) U (Y0 U U (nT a4) (Y2 U8 U U (Y0 U U (nT a4) (Y1 g2 P1 U (hS.froz _ _ h5) (h6 0 (show 0 < 1 by decide)) U ?_)))))
 have m0 := c6.bound
 refine Y0 U U (nT a4) (X9 Q0 U c6 U (Y0 U U (nT a4) (A0 (k := .i64) (a := ((rd a0.2 a1).length : Int)) (b := 0) U U U (Y0 U U (nT a4) (Z3 (vB (decide (0 < ((rd a0.2 a1).length : Int)))) U U ?_)))))
 obtain ⟨a8, a3⟩ | ⟨a8, a3⟩ := ic a3
 refine Y0 U U (bT a8 U) (Z3 (vI a7.1) (by exact (eM (e7 11 4 (by decide) U))) U (Y0 U U (bT a8 U) (Y2 N8 (by exact d0) U (Y0 U U (bT a8 U) (Y1 s0 Q9 U (hS.get mL) U U (Y0 U U (bT a8 U) (Z3 (vI a1) (by exact d1) U (Y0 U U (bT a8 U) ?_))))))))
 obtain ⟨_, a3⟩ := gd a3
 obtain ⟨_, _, _, _, _, h7, h8, rfl, h9⟩ := a5.elem (i := a1) (by omega) (by omega)
 refine X6 T1 U U h7 U (by omega) (by omega) U (Y0 U U (bT a8 U) (Y1 (vI (rd a0.1 a1)) ty2 U (hS.froz _ _ h8) (h9 0 (show 0 < 1 by decide)) U (Y0 U U (bT a8 U) (W4 (i64.wrap ((rd a0.1 a1) + 1)) U U U U (Y0 U U (bT a8 U) (L1 (k := .i64) (a := a7.1) (b := (i64.wrap ((rd a0.1 a1) + 1))) U U U (Y0 U U (nT a4) (W5 (t := true) (vB (!decide (a7.1 = (i64.wrap ((rd a0.1 a1) + 1))))) (bT a8 U) ((if_pos U).trans U) U (W5 (t := false) (vB (!decide (a7.1 = (i64.wrap ((rd a0.1 a1) + 1))))) (nT a4) ((if_neg Bool.false_ne_true).trans U) U (Z2 ?_))))))))))
 obtain ⟨d2, a3⟩ | ⟨d2, a3⟩ := ic a3
 refine Z6 (bN d2 U) (Y6 (X1 (Z0 (Z3 (vI a1) (by exact d1) U (W4 (a1 + 1) U U (i64_in _ (by omega)) U (Z5 (vI (a1 + 1)) U U (Z2 (j1 _ _ ⟨(a1 + 1), e2, a3, Z4, hS, (by omega), a5, a6, d0, U⟩))))))))
 refine Z8 (bO d2 U) (Z1 (Z0 (Z5 (vB false) U U (Z2 (Y9 (vs := [vB false]) func72 Ut ?_)))))
 cases a3
 dsimp only [Ex.elim] at b6
 cases b6
 exact ⟨_, _, U, Z4, (St.dA hS), U⟩
 refine Z9 U U (bF a8 U) U U U (Z9 U U (bF a8 U) U U U (Z9 U U (bF a8 U) U U U (Z9 U U (bF a8 U) U U U (Z9 U U (bF a8 U) U U U (Z9 U U (bF a8 U) U U U (Z9 U U (bF a8 U) U U U (Z9 U U (bF a8 U) U U U (Y0 U U (nT a4) (W5 (t := false) (vB false) (bF a8 U) ((if_neg Bool.false_ne_true).trans U) U (W5 (t := false) (vB false) (nT a4) ((if_neg Bool.false_ne_true).trans U) U (Z2 (Z6 U (Y6 (X1 (Z0 (Z3 (vI a1) (by exact d1) U (W4 (a1 + 1) U U (i64_in _ (by omega)) U (Z5 (vI (a1 + 1)) U U (Z2 (j1 _ _ ⟨(a1 + 1), e2, a3, Z4, hS, (by omega), a5, a6, d0, U⟩))))))))))))))))))))
 refine Z9 U U (nT (X8 a4)) U U U (Z9 U U (nT (X8 a4)) U U U (Z9 U U (nT (X8 a4)) U U U (Z9 U U (nT (X8 a4)) U U U (Z9 U U (nT (X8 a4)) U U U (Z9 U U (nT (X8 a4)) U U U (Z9 U U (nT (X8 a4)) U U U (Z9 U U (nT (X8 a4)) U U U (Z9 U U (nT (X8 a4)) U U U (V2 U U U U U (V2 U U U U U (V2 U U U U U (V2 U U U U U (V2 U U U U U (V2 U U U U U (V2 U U U U U (V2 U U U U U (Z9 U U (nT (X8 a4)) U U U (W5 (t := true) (vB true) (nT (X8 a4)) ((if_pos U).trans U) U (Z2 (Z8 U (Z1 (Z0 (Z5 (vB false) U U (Z2 (Y9 (vs := [vB false]) func72 Ut ?_)))))))))))))))))))))))))
 cases a3
 dsimp only [Ex.elim] at b6
 cases b6
 exact ⟨_, _, U, Z4, (St.dA hS), U⟩
 refine Z8 (Eq.trans (by exact g1) (congrArg (fun b => vB (!b)) (X8 c8))) (Z1 (Z0 (Z5 (vB false) U U (Z2 (Y9 (vs := [vB false]) func72 Ut ?_)))))
 cases a3
 dsimp only [Ex.elim] at b6
 cases b6
 exact ⟨_, _, U, Z4, (St.dA hS), U⟩
 refine Z6 (bF f5 U) (W2 U ?_)
 cases a3
 exact l1 _ _ ⟨j3, U, Z4, hS, a5, a6, b4⟩
 exact ⟨0, g8, a3, Z4, hS, (by omega), a5, a6, f2, U⟩
 rintro _ _ ⟨k3, rfl, Z4, hS, a5, a6, f0⟩
 dsimp only [Ex.elim] at b6
 refine Z1 (Z1 (Z0 (Z5 (vI 0) U U (Z2 (Y8 ?_)))))
 obtain ⟨g3, b2, d3⟩ := bSm b6
 refine W3 (id := 2) (fun k f w => ∃ b0 H1, F0 K a0 k b0 = some g3 ∧ Sub H H1 ∧ St H1 w ([(b1, cA ([s0] ++ [s1]) 31)] ++ L) ∧ 0 ≤ b0 ∧ Y3 (Y4 .i64) H1 s0 a0.1 ∧ Y3 (X3 yT) H1 s1 a0.2 ∧ tv f 1 = vP b1 ∧ tv f 6 = vI b0) (fun f w => ∃ H1, g3 = .go () ∧ Sub H H1 ∧ St H1 w ([(b1, cA ([s0] ++ [s1]) 31)] ++ L) ∧ Y3 (Y4 .i64) H1 s0 a0.1 ∧ Y3 (X3 yT) H1 s1 a0.2) U ?_ ?_ K ?_ ?_
 rintro f w ⟨b0, H1, b2, _⟩
 rw [F0] at b2; cases b2
 rintro k _ _ l7 l9 ⟨b0, k4, b2, Z4, hS, _, a5, a6, b7, c0⟩
 rw [F0] at b2
 refine Z1 (Z1 (Z0 (Z3 (vI b0) (by exact c0) U (Y2 Zh6 (by exact b7) U (Y1 s1 Yb2 U (hS.get mL) U U ?_)))))
 have m2 := a6.bound
 refine X9 Zm7 U a6 U (V4 (k := .i64) (a := b0) (b := (a0.2.length : Int)) U U U (Z2 ?_))
 obtain ⟨d4, b2⟩ | ⟨d4, b2⟩ := ic b2
 refine Z8 (bT d4 U) (Y6 (Z1 (Y8 (Z1 ?_))))
 obtain ⟨k5, k6, _, _, _, i0, i1, ⟨e0, rfl, c1⟩, i2⟩ := a6.elem (i := b0) (by omega) (by omega)
 obtain ⟨b5, i3, b2⟩ := bSm b2
 refine W6 10 (S8 [mE 76 (vA ([s0] ++ [s1])), mE 77 (vQ b1 1), mE 78 s1, mE 79 (vI b0), mE 80 (vQ k5 k6), mE 81 (vA [e0]), (82, MP.rep (R.agg (X3 yT)) b5), (83, MP.sl yT b5), mE 84 (vI (b5.length : Int)), mE 85 (vB (decide (0 < (b5.length : Int))))]) [] mixed U U U hS (U1 (X4 fun S B => X5 Zx2 (evT (B 1 U) b7) (S.get (mR mL)) U U (qz S)) (X4 fun S B => Y2 Zh6 (evT (B 1 U) b7) U (qz S)) (Y7 fun S V => Y1 s1 Yb2 (eM (V 1 77 U U)) (S.get (mR mL)) U U (qz S)) (X4 fun S B => Z3 (vI b0) (evT (B 6 U) c0) U (qz S)) (Y7 fun S V => X6 Zm7 U (eM (V 2 78 U U)) i0 (eM (V 3 79 U U)) (by omega) (by omega) U (qz S)) (P0 fun s S V => U0 [e0] U7 (eM (V 4 80 U U)) (S.froz _ _ (s.1 _ _ i1)) U i2 U (qz S)) ?_ ?_ (L7 ?_ ?_ W9)) ?_
 intro _ _ _ _ d5 hS _ e8 hcq
 have a5 := a5.mono d5
 have a6 := a6.mono d5
 have c1 := c1.mono d5
 refine X2 call119 (W8 (eM (e8 0 76 U U)) (eM (e8 5 81 U U))) U (Yg0 i3 a5 a6 c1 hS) ?_
 rintro _ _ _ i4 hS i5
 exact qn i4 U hS i5
 intro _ _ _ _ _ hS _ i6 hcq
 obtain ⟨_, k7, ⟨_, rfl, ⟨g4, rfl, f1⟩⟩⟩ := gvR (i6 6 82 U U)
 refine Xh7 g4 Wf5 k7 U U (qn (.refl _) U hS f1)
 intro _ _ _ _ _ hS _ i7 hcq
 obtain ⟨_, k8, i8⟩ := gvS (i7 7 83 U U)
 refine X9 Q0 k8 i8 U (qn (.refl _) U hS U)
 exact Y7 fun S V => A0 (k := .i64) (a := (b5.length : Int)) (b := 0) (eM (V 8 84 U U)) U U (qz S)
 intro k9 l0 g5 d6 hS e9 i9 hcq
 have hS : St g5 l0 ([(b1, cA ([s0] ++ [s1]) 31)] ++ L) := hS
 have Z4 := Z4.trans d6
 have a5 := a5.mono d6
 have a6 := a6.mono d6
 have g6 : tv k9 85 = vB (decide (0 < (b5.length : Int))) := i9 9 85 (by decide) U
 refine Z2 ?_
 obtain ⟨d7, b2⟩ | ⟨d7, b2⟩ := ic b2
 refine Z8 (bT d7 (by exact g6)) (Z1 (Z0 (Z5 (vB false) U U (Z2 (Y9 (vs := [vB false]) func72 Ut ?_)))))
 cases b2
 dsimp only [Ex.elim] at d3
 cases d3
 exact ⟨_, _, U, Z4, (St.dA hS), U⟩
 refine Z6 (bF d7 (by exact g6)) (Y6 (X1 (Z0 (Z3 (vI b0) (by exact (evT (e9 6 U) c0)) U (W4 (b0 + 1) U U (i64_in _ (by omega)) U (Z5 (vI (b0 + 1)) U U (Z2 (l7 _ _ ⟨(b0 + 1), g5, b2, Z4, hS, (by omega), a5, a6, (evT (e9 1 U) b7), U⟩))))))))
 refine Z6 (bF d4 U) (W2 U ?_)
 cases b2
 exact l9 _ _ ⟨k4, U, Z4, hS, a5, a6⟩
 exact ⟨0, k3, b2, Z4, hS, (by omega), a5, a6, f0, U⟩
 rintro _ _ ⟨_, rfl, Z4, hS, a5, a6⟩
 dsimp only [Ex.elim] at d3
 refine Z1 (Z0 (Z5 (vB true) U U (Z2 (Y9 (vs := [vB true]) func72 Ut ?_))))
 cases d3
 exact ⟨_, _, U, Z4, (St.dA hS), U⟩
 intro j2
 refine Z0 (Y2 N8 U U (Y1 s0 Q9 U (hS.get mL) U U ?_))
 obtain ⟨c7, j0, q0⟩ := bSm q0
 refine X2 call144 (S4 U) U (Yt9 j0 a5 hS) ?_
 rintro _ g7 _ d8 hS rfl
 have Z4 := Z4.trans d8
 have a5 := a5.mono d8
 have a6 := a6.mono d8
 refine P5 (b := c7) U U (Z3 (vB (!c7)) U U ?_)
 obtain ⟨a9, q0⟩ | ⟨a9, q0⟩ := ic q0
 refine Y0 U U (nT a9) (Y2 Zh6 U U (Y0 U U (nT a9) (Y1 s1 Yb2 U (hS.get mL) U U ?_)))
 have m3 := a6.bound
 refine Y0 U U (nT a9) (X9 Zm7 U a6 U (Y0 U U (nT a9) (Y2 N8 U U (Y0 U U (nT a9) (Y1 s0 Q9 U (hS.get mL) U U ?_)))))
 have m4 := a5.bound
 refine Y0 U U (nT a9) (X9 T1 U a5 U (Y0 U U (nT a9) (L1 (k := .i64) (a := (a0.2.length : Int)) (b := (a0.1.length : Int)) U U U (W5 (t := false) (vB (!decide ((a0.2.length : Int) = (a0.1.length : Int)))) (nT a9) ((if_neg Bool.false_ne_true).trans U) U (Z2 (j2 _ _ ⟨(!decide ((a0.2.length : Int) = (a0.1.length : Int))), g7, q0, Z4, hS, a5, a6, U, U⟩))))))
 refine Z9 U U (nT (X8 a9)) U U U (Z9 U U (nT (X8 a9)) U U U (Z9 U U (nT (X8 a9)) U U U (Z9 U U (nT (X8 a9)) U U U (Z9 U U (nT (X8 a9)) U U U (Z9 U U (nT (X8 a9)) U U U (Z9 U U (nT (X8 a9)) U U U (W5 (t := true) (vB true) (nT (X8 a9)) ((if_pos U).trans U) U (Z2 (j2 _ _ ⟨true, g7, q0, Z4, hS, a5, a6, U, U⟩)))))))))
theorem Wg4 : Zn0 prog 31 0 0 := ⟨fun b o w => by simp [Instr.fieldAt, Instr.sureAddr, fieldPlace, runUnderlying31, sizeOf22, Q2]⟩
theorem Vm3 {M : List A8} {i : Nat} (h : i < M.length) : rd M (i : Int) = M[i] := by unfold rd; rw [Int.toNat_natCast, getD_eq_getElem?_getD, getElem?_eq_getElem h]; rfl
def Ym5 (K : Nat) (x : List Int × List MpT) (M' : List A8) : List A8 → Option (List (List Int))
  | [] => some []
  | p :: ps => (Ze3 K p 1).bind fun f => (Zn6 K x f).bind fun d => (Zb5 K d M').bind fun r => (Ym5 K x M' ps).bind fun rs => some (r :: rs)
def Zj2 (K : Nat) (x : List Int × List MpT) (n : Int) : Option (List (List Int)) :=
  if -1099511627776 ≤ n ∧ n ≤ 1099511627776 then (P4 K x.1 n).bind fun M => (P4 K x.1 (n + 1)).bind fun M' => if M.length ≤ 1099511627776 then Ym5 K x M' M else none else none
theorem Yf0 {a0 : List Int × List MpT} {a1 : Int} {r : List (List Int)} (q0 : Zj2 K a0 a1 = some r) {s0 s1 : Value} (hs0 : Y3 (Y4 .i64) H s0 a0.1) (hs1 : Y3 (X3 yT) H s1 a0.2) (hS : St H w L) :
    Calls prog 170 #[vA ([s0] ++ [s1]), vI a1] w (T4 (fun v G => (R.sl (X3 (Y4 .i64))).p G v r) H L) := by
  unfold Zj2 at q0
  by_cases hg : -1099511627776 ≤ a1 ∧ a1 ≤ 1099511627776
  case neg => rw [if_neg hg] at q0; cases q0
  rw [if_pos hg] at q0
  obtain ⟨M, hM, q0⟩ := bSm q0
  obtain ⟨M', hM', q0⟩ := bSm q0
  by_cases hl : M.length ≤ 1099511627776
  case neg => rw [if_neg hl] at q0; cases q0
  rw [if_pos hl] at q0
  obtain ⟨g1, g2⟩ := hg
  refine X0 func170 U ntmps170 U ?_
  repeat refine Z1 ?_
  refine Z0 (T8 (v := vA ([s0] ++ [s1])) ([s0] ++ [s1]).toArray U U hS U ?_)
  intro ab w1 hS
  obtain ⟨G0, b9, hS, a6⟩ := St.freezeBox hS
  have hs0 := hs0.mono b9
  have hs1 := hs1.mono b9
  refine Z5 vN U U (Z2 ?_)
  repeat refine Z1 ?_
  have hn1 : i64.wrap (a1 + 1) = a1 + 1 := i64_in _ (by omega)
  refine W6 12 (S8 [mE 9 (vQ ab 0), mE 10 s0, mE 11 (vI a1), (12, MP.sl (Q5 .u8) M), mE 13 (vQ ab 0), mE 14 s0, mE 15 (vI a1), mE 16 (vI (a1 + 1)), (17, MP.sl (Q5 .u8) M'), (18, MP.lit0), (5, MP.sl (Q5 .u8) M), (6, MP.sl (Q5 .u8) M')]) [] mixed U U U hS (U1 (X4 fun S B => Y2 Wg4 (evT (B 2 U) U) U (qz S)) (P0 fun s S V => Y1 s0 Q9 (eM (V 0 9 U U)) (S.froz _ _ (s.1 _ _ a6)) U U (qz S)) (X4 fun S B => Z3 _ (evT (B 1 U) U) U (qz S)) ?_ ?_ ?_ ?_ ?_ (K3 ?_ ?_ ?_ ?_ W9)) ?_
  · intro f w G X s S B V hcq
    refine X2 call99 (W8 (eM (V 1 10 U U)) (eM (V 2 11 U U))) U (Za0 hM (hs0.mono s) S) ?_
    rintro v G2 w2 s2 S2 hv
    exact qn s2 U S2 hv
  · exact X4 fun S B => Y2 Wg4 (evT (B 2 U) U) U (qz S)
  · exact P0 fun s S V => Y1 s0 Q9 (eM (V 4 13 U U)) (S.froz _ _ (s.1 _ _ a6)) U U (qz S)
  · exact X4 fun S B => Z3 _ (evT (B 1 U) U) U (qz S)
  · exact Y7 fun S V => W4 (a1 + 1) (eM (V 6 15 U U)) U hn1 U (qz S)
  · intro f w G X s S B V hcq
    refine X2 call99 (W8 (eM (V 5 14 U U)) (eM (V 7 16 U U))) U (Za0 hM' (hs0.mono s) S) ?_
    rintro v G2 w2 s2 S2 hv
    exact qn s2 U S2 hv
  · intro f w G X s S B V hcq
    refine Wd8 (τ := X3 (Y4 .i64)) T2 Zj1 U S U fun b w' _ S' => qn (.refl _) U S' ⟨b, U⟩
  · intro f w G X s S B V hcq
    have hg : (MP.sl (Q5 .u8) M).p G (f 12) := V 3 12 U U
    exact Z5 (f 12) U U (qn (.refl _) U S hg)
  · intro f w G X s S B V hcq
    have hg : (MP.sl (Q5 .u8) M').p G (f 17) := V 8 17 U U
    exact Z5 (f 17) U U (qn (.refl _) U S hg)
  intro f5 w5 H5 s5 hS hB hV _
  obtain ⟨bl, hbl⟩ := hV 9 18 (by decide) U
  have hv5 : Y3 (Q5 .u8) H5 (f5 5) M := hV 10 5 (by decide) U
  have hv6 : Y3 (Q5 .u8) H5 (f5 6) M' := hV 11 6 (by decide) U
  have t2 : tv f5 2 = vQ ab 0 := evT (hB 2 U) U
  obtain ⟨v5, t5⟩ : ∃ v, f5 5 = v := ⟨_, U⟩
  obtain ⟨v6, t6⟩ : ∃ v, f5 6 = v := ⟨_, U⟩
  rw [t5] at hv5
  rw [t6] at hv6
  have hS : St H5 w5 ((Wm5 (.cells #[] 22) (f5 18) ++ []) ++ L) := hS
  rw [show f5 18 = _ from hbl] at hS
  have hS : St H5 w5 ([(bl, .cells #[] 22)] ++ L) := hS
  have ho : W0 (X3 (Y4 .i64)) 22 H5 (.slice (some ⟨bl, 0, none⟩) 0 0) [] [(bl, .cells #[] 22)] := .inr ⟨bl, 0, #[], U, by simp, by simp [maxLen], by simp, U, by simp⟩
  have hs0 := hs0.mono s5
  have hs1 := hs1.mono s5
  have a6 := s5.1 _ _ a6
  have Z4 := b9.trans s5
  refine Z5 (.slice (some ⟨bl, 0, none⟩) 0 0) (by exact hbl) U (Z2 ?_)
  repeat refine Z1 ?_
  refine Z0 (Z5 (vI 0) U U (Z2 ?_))
  repeat refine Z1 ?_
  refine Y8 ?_
  refine W3 (id := 0) (fun k f w => ∃ (m : Nat) (acc tl : List (List Int)) (H6 : FH) (v : Value) (Cm : OL), m ≤ M.length ∧ M.length < m + k ∧ acc.length = m ∧ Ym5 K a0 M' (M.drop m) = some tl ∧ acc ++ tl = r ∧ Sub H5 H6 ∧ St H6 w (Cm ++ L) ∧ W0 (X3 (Y4 .i64)) 22 H6 v acc Cm ∧ tv f 2 = vQ ab 0 ∧ tv f 5 = v5 ∧ tv f 6 = v6 ∧ tv f 7 = v ∧ tv f 8 = vI (m : Int))
    (fun f w => ∃ H6 v Cm, Sub H5 H6 ∧ St H6 w (Cm ++ L) ∧ W0 (X3 (Y4 .i64)) 22 H6 v r Cm ∧ tv f 7 = v) U ?_ ?_ (M.length + 1) ?_ ?_
  · rintro f w ⟨m, acc, tl, H6, v, Cm, h1, h2, _⟩; omega
  · rintro k f w ih hx ⟨m, acc, tl, H6, v, Cm, h1, h2, hal, htl, hr, s6, hS, ho, t2, t5, t6, t7, t8⟩
    have hv5 := hv5.mono s6
    have hv6 := hv6.mono s6
    have hs0 := hs0.mono s6
    have hs1 := hs1.mono s6
    have a6 := s6.1 _ _ a6
    repeat refine Z1 ?_
    refine Z0 (Z3 (vI (m : Int)) (by exact t8) U (Z3 v5 (by exact t5) U (X9 Zv3 U hv5 U (V4 (k := .i64) (a := m) (b := M.length) U U U (Z2 ?_)))))
    repeat refine Z1 ?_
    by_cases hm : (m : Int) < (M.length : Int)
    · have hm' : m < M.length := by omega
      refine Z8 (bT hm U) (Y6 ?_)
      repeat refine Z1 ?_
      refine Y8 ?_
      repeat refine Z1 ?_
      rw [show M.drop m = M[m] :: M.drop (m + 1) from (getElem_cons_drop ..).symm, Ym5, ← Vm3 hm'] at htl
      obtain ⟨fm, hfm, htl⟩ := bSm htl
      obtain ⟨dm, hdm, htl⟩ := bSm htl
      obtain ⟨row, hrow, htl⟩ := bSm htl
      obtain ⟨tl', htl', htl⟩ := bSm htl
      obtain rfl := oi htl
      obtain ⟨pb, po, _, _, _, hp1, hp2, rfl, hp3⟩ := hv5.elem (i := (m : Int)) (by omega) hm
      generalize rd M (m : Int) = pm at hfm hp3
      refine Xm0 fun f2 hf2 => ?_
      have t2 : tv f2 2 = vQ ab 0 := by rw [hf2]; exact t2
      have t5 : tv f2 5 = v5 := by rw [hf2]; exact t5
      have t6 : tv f2 6 = v6 := by rw [hf2]; exact t6
      have t7 : tv f2 7 = v := by rw [hf2]; exact t7
      have t8 : tv f2 8 = vI (m : Int) := by rw [hf2]; exact t8
      clear hf2
      refine W6 11 (S8 [mE 25 v, mE 26 (vA ([s0] ++ [s1])), mE 27 v5, mE 28 (vI (m : Int)), mE 29 (vQ pb po), mE 30 (vA (Z7 .u8 pm)), (31, MP.rep (R.agg (X3 yT)) fm), (32, MP.rep (R.agg (X3 yT)) dm), mE 33 v6, (34, MP.sl (Y4 .i64) row), (35, MP.sl (X3 (Y4 .i64)) [row])]) [] mixed U U U hS (U1 (X4 fun S B => Z3 _ (evT (B 7 U) t7) U (qz S)) (Vj3 fun s S B => X5 Zx2 (evT (B 2 U) t2) (S.froz _ _ (s.1 _ _ a6)) U U (qz S)) (X4 fun S B => Z3 _ (evT (B 5 U) t5) U (qz S)) (X4 fun S B => Z3 _ (evT (B 8 U) t8) U (qz S)) (Y7 fun S V => X6 Zv3 U (eM (V 2 27 U U)) hp1 (eM (V 3 28 U U)) (by omega) hm U (qz S)) (P0 fun s S V => U0 (Z7 .u8 pm) P7 (eM (V 4 29 U U)) (S.froz _ _ (s.1 _ _ hp2)) U hp3 U (qz S)) ?_ ?_ (L7 ?_ ?_ (I2 ?_ W9))) ?_
      · intro f w G X s S B V hcq
        refine X2 call208 (W8 (eM (V 5 30 U U)) U) U (Zw9 hfm S) ?_
        rintro v G2 w2 s2 S2 hv
        exact qn s2 U S2 hv
      · intro f w G X s S B V hcq
        obtain ⟨u, hu, ⟨_, rfl, ⟨b3, rfl, b6⟩⟩⟩ := gvR (V 6 31 U U)
        refine X2 call119 (W8 (eM (V 1 26 U U)) hu) U (Yg0 hdm (hs0.mono s) (hs1.mono s) b6 S) ?_
        rintro v G2 w2 s2 S2 hv
        exact qn s2 U S2 hv
      · exact X4 fun S B => Z3 _ (evT (B 6 U) t6) U (qz S)
      · intro f w G X s S B V hcq
        obtain ⟨u, hu, ⟨_, rfl, ⟨b3, rfl, b6⟩⟩⟩ := gvR (V 7 32 U U)
        refine X2 call189 (W8 hu (eM (V 8 33 U U))) U ((Yf1 hrow b6 (hv6.mono s) S).mono fun _ _ => Ye1.done) ?_
        rintro v G2 w2 s2 S2 hv
        exact qn s2 U S2 hv
      · intro f w G X s S B V _
        have hg : (MP.sl (Y4 .i64) row).p G (f 34) := V 9 34 U U
        have hg : Y3 (Y4 .i64) G (f 34) row := hg
        refine Zc4 (τ := X3 (Y4 .i64)) T2 Zj1 U [f 34] [row] U U (D3 U) (Zl6 ⟨_, hg.cellsL, hg⟩) (by decide) (by decide) S U fun u G2 w2 s2 S hl => qn s2 U S hl
      intro f4 w4 H7 s7 hS hB hV _
      have hg : (MP.sl (X3 (Y4 .i64)) [row]).p H7 (f4 35) := hV 10 35 (by decide) U
      refine N2 (τ := X3 (Y4 .i64)) Ya0 U (eM (hV 0 25 (by decide) U)) (show ev f4 (.tmp 35) = f4 35 from U) (ho.mono s7) hS.dA hg (by rw [hal]; simp; omega) U fun v9 w9 C9 ho9 hS => Z5 v9 U U (Z2 (X1 (Z0 (Z3 (vI (m : Int)) (by exact (evT (hB 8 U) t8)) U (W4 ((m : Int) + 1) U U (i64_in _ (by omega)) U (Z5 (vI ((m : Int) + 1)) U U (Z2 (ih _ _ ⟨m + 1, acc ++ [row], tl', H7, v9, C9, by omega, by omega, by simp [hal], htl', by rw [append_assoc]; exact hr, s6.trans s7, hS, ho9, (evT (hB 2 U) t2), (evT (hB 5 U) t5), (evT (hB 6 U) t6), U, by show vI ((m : Int) + 1) = vI ((m + 1 : Nat) : Int); rw [Int.natCast_add]; rfl⟩))))))))
    · refine Z6 (bF hm U) (W2 U ?_)
      have e : m = M.length := by omega
      subst e
      rw [drop_length, Ym5] at htl
      obtain rfl := oi htl
      rw [append_nil] at hr
      subst hr
      exact hx _ _ ⟨H6, v, Cm, s6, hS, ho, t7⟩
  · exact ⟨0, [], r, H5, _, _, by omega, by omega, U, q0, U, .refl _, hS, ho, t2, by exact t5, by exact t6, U, U⟩
  · rintro f w ⟨H6, v, Cm, s6, hS, ho, t7⟩
    repeat refine Z1 ?_
    obtain ⟨H7, s7, hS, hrd⟩ := ho.freeze hS
    refine Z0 (Z3 v (by exact t7) U (Z5 v U U (Z2 (Y9 (vs := [v]) func170 Ut ⟨_, _, U, (Z4.trans s6).trans s7, hS, hrd⟩))))
def RbV (H : FH) (L : OL) (v : Value) (xs : List Value) : Prop :=
 ∃ a c, v = .slice a xs.length c ∧ xs.length ≤ 9223372036854775807 ∧ (xs = [] ∨ ∃ b o cs E z, a = some ⟨b, o, none⟩ ∧ (∀ H' w, Sub H H' → St H' w L → w.heap[b]? = some (.cells cs E z)) ∧ ∀ i x, xs[i]? = some x → cs[o + i]? = some x)
theorem RbV.mono {H H' : FH} {L : OL} {v : Value} {xs : List Value} (h : RbV H L v xs) (hs : Sub H H') : RbV H' L v xs := by
 obtain ⟨a, c, h1, h2, h3⟩ := h
 refine ⟨a, c, h1, h2, ?_⟩
 rcases h3 with h3 | ⟨b, o, cs, E, z, h4, h5, h6⟩
 exact .inl h3
 exact .inr ⟨b, o, cs, E, z, h4, fun K w hk => h5 K w (hs.trans hk), h6⟩
theorem RbV.at {H : FH} {L : OL} {v : Value} {xs : List Value} {i : Nat} (h : RbV H L v xs) (hm : i < xs.length) :
 ∃ b o c, v = .slice (some ⟨b, o, none⟩) xs.length c ∧ ∀ H' w, Sub H H' → St H' w L → ∃ cs E z, w.heap[b]? = some (.cells cs E z) ∧ cs[o + i * 1]? = some xs[i] := by
 obtain ⟨a, c, h1, h2, h3⟩ := h
 rcases h3 with rfl | ⟨b, o, cs, E, z, rfl, h5, h6⟩
 simp at hm
 exact ⟨b, o, c, h1, fun H' w hs hS => ⟨cs, E, z, h5 _ _ hs hS, by rw [Nat.mul_one]; exact h6 _ _ (getElem?_eq_getElem hm)⟩⟩
theorem RbV.rest {H : FH} {L C : OL} {b c : Nat} {xs : List Value} {E : TypeId} (h : W0 Zn4 E H (.slice (some ⟨b, 0, none⟩) xs.length c) xs C) (hin : ∀ x, x ∈ C → x ∈ L) {d : Nat} (hd : d ≤ xs.length) :
 RbV H L (.slice (if c = d then some ⟨b, 0, none⟩ else some ⟨b, 0 + d * 1, none⟩) (xs.length - d) (c - d)) (xs.drop d) := by
 rcases h with ⟨h, _, _⟩ | ⟨b', c', cs, hv, h1, h2, h3, rfl, h5⟩
 cases h
 cases hv
 refine ⟨_, c - d, by rw [length_drop], by rw [length_drop]; simp only [maxLen] at h2; omega, ?_⟩
 by_cases e : d = xs.length
 exact .inl (by rw [e, drop_length])
 refine .inr ⟨b, d, cs, E, (0, 0), ?_, fun H' w hs hS => hS.own _ (hin _ (mem_singleton.2 U)), fun i x hx => ?_⟩
 rw [if_neg (by omega), Nat.zero_add, Nat.mul_one]
 rw [getElem?_drop] at hx
 obtain ⟨ecs, ⟨rfl, _⟩, hj⟩ := h5 _ x hx
 have := hj 0 (show 0 < 1 by decide)
 simpa [show Zn4.size = 1 from U] using this
def fi (c : Int) : List (List Int) → Nat → Int
 | [], _ => -1
 | r :: rs, k => if rd r c = 0 then fi c rs (k + 1) else k
theorem Wj3 (c : Int) : ∀ (rs : List (List Int)) (k : Nat), fi c rs k = -1 ∨ ∃ j : Nat, fi c rs k = (k + j : Nat) ∧ j < rs.length ∧ rd (rs.getD j []) c ≠ 0 ∧ ∀ i, i < j → rd (rs.getD i []) c = 0
 | [], _ => .inl U
 | r :: rs, k => by
  unfold fi
  by_cases h : rd r c = 0
  rw [if_pos h]
  rcases Wj3 c rs (k + 1) with h1 | ⟨j, h1, h2, h3, h4⟩
  exact .inl h1
  refine .inr ⟨j + 1, by rw [h1]; congr 1; omega, by simp; omega, by simpa using h3, fun i hi => ?_⟩
  cases i with
  | zero => simpa using h
  | succ i => have := h4 i (by omega); simpa using this
  rw [if_neg h]
  exact .inr ⟨0, by simp, by simp, by simpa using h, fun i hi => by omega⟩
section
theorem Wr6 {H : FH} {w : World} {L : OL} {v p : Value} {vals : List Value} {rows : List (List Int)} {c : Int} {bc : Nat} (hv : RbV H L v vals) (hl : vals.length = rows.length) (hr : ∀ i (hi : i < rows.length) (hi' : i < vals.length), Rb H L vals[i] rows[i]) (hp : p = vP bc)
 (hc : (bc, .cells #[vI c] 3) ∈ L) (h0 : 0 ≤ c) (hm : ∀ r, r ∈ rows → c < r.length) (hS : St H w L) :
 Calls prog 232 #[v, .func (.func 233) #[] #[p]] w (T4 (fun v _ => v = vI (fi c rows 0)) H L) := by
 refine X0 func232 U ntmps232 U ?_
 obtain ⟨va, vc, hvv⟩ : ∃ a c, v = .slice a rows.length c := let ⟨a, c, h1, _⟩ := hv; ⟨a, c, by rw [← hl]; exact h1⟩
 have hb : rows.length ≤ 9223372036854775807 := let ⟨_, _, _, h, _⟩ := hv; by omega
 refine Z1 (Z0 (Z5 (vI 0) U U (Z2 (Z1 (Z1 (Z0 (Z3 v U U (Zq3 T2 (show v = _ from hvv) U (Z3 (vI 0) U U (Z2 (Y8 ?_)))))))))))
 refine W3 (id := 0) (fun k f w => ∃ (n : Nat) (H1 : FH), n ≤ rows.length ∧ rows.length < n + k ∧ Sub H H1 ∧ St H1 w L ∧ fi c (rows.drop n) n = fi c rows 0 ∧ tv f 0 = v ∧ tv f 1 = .func (.func 233) #[] #[p] ∧ tv f 7 = vI (rows.length : Int) ∧ tv f 8 = vI (n : Int))
  (fun f w => ∃ H1, Sub H H1 ∧ St H1 w L ∧ fi c rows 0 = -1) U ?_ ?_ (rows.length + 1) ?_ ?_
 rintro f w ⟨n, H1, h1, h2, _⟩; omega
 rintro k f w ih hx ⟨n, H1, h1, h2, Z4, hS, hfi, t0, t1, t7, t8⟩
 refine Z1 (Z0 (V4 (k := .i64) (a := n) (b := rows.length) (by exact t8) (by exact t7) U (Z2 (Z1 ?_))))
 by_cases hn : (n : Int) < (rows.length : Int)
 have hn' : n < rows.length := by omega
 have hnv : n < vals.length := by omega
 refine Z8 (bT hn U) (Y6 (Z1 (Y8 (Z1 (Z0 (Z3 (vI n) (by exact t8) U (Z5 (vI n) U U (Z2 (Z1 (Z0 (Z3 (.func (.func 233) #[] #[p]) (by exact t1) U (Z3 v (by exact t0) U (Z3 (vI n) U U ?_)))))))))))))
 obtain ⟨b, o, cp, hv1, hcell⟩ := (hv.mono Z4).at hnv
 refine Zh9 T2 (Eq.trans U hv1) U (by omega) (by omega) U ?_
 obtain ⟨cs, E, z, hw, hcs⟩ := hcell H1 _ (Sub.refl _) hS
 refine Y1 vals[n] Q9 U hw (by simpa using hcs) U ?_
 have hrow := hm _ (getElem_mem hn')
 refine Wr5 (caps := #[p]) call233 U (S4 U) U U (Ww4 ((hr n hn' hnv).mono Z4) hp hc h0 hrow hS) ?_
 rintro e w1 ⟨_, G, rfl, hs1, hS, rfl⟩
 refine ⟨_, U, Z2 ?_⟩
 have hd : rows.drop n = rows[n] :: rows.drop (n + 1) := (getElem_cons_drop ..).symm
 rw [hd, fi] at hfi
 by_cases hz : rd rows[n] c = 0
 rw [if_pos hz] at hfi
 refine Z6 (nT (decide_eq_true hz)) (Y6 (X1 (Z0 (W4 ((n : Int) + 1) (by exact t8) U (i64_in _ (by omega)) U (Z3 (vI ((n : Int) + 1)) U U (Z2 (ih _ _ ⟨n + 1, G, by omega, by omega, Z4.trans hs1, hS, hfi, t0, t1, t7, by show vI ((n : Int) + 1) = vI ((n + 1 : Nat) : Int); rw [Int.natCast_add]; rfl⟩)))))))
 rw [if_neg hz] at hfi
 refine Z8 (nT (decide_eq_false hz)) (Z1 (Z0 (Z3 (vI n) U U (Z5 (vI n) U U (Z2 (Y9 (vs := [vI n]) func232 Ut ⟨_, _, U, Z4.trans hs1, hS, by rw [← hfi]; rfl⟩))))))
 refine Z6 (bF hn U) (W2 U ?_)
 have e : n = rows.length := by omega
 subst e
 rw [drop_length, fi] at hfi
 exact hx _ _ ⟨H1, Z4, hS, hfi.symm⟩
 exact ⟨0, H, by omega, by omega, .refl _, hS, U, U, U, U, U⟩
 rintro f w ⟨H1, Z4, hS, hfi⟩
 refine Z1 (Z0 (Z5 (vI (-1)) U U (Z2 (Y9 (vs := [vI (-1)]) func232 Ut ⟨_, _, U, Z4, hS, by show vI (-1) = vI (fi c rows 0); rw [hfi]⟩))))
end
def J9 (K : Nat) (a0 a1 : List MpT) : Nat → Int → Option (Ex Bool Unit)
 | 0, _ => none
 | k + 1, a3 => (if a3 < (a0.length : Int) then (if a3 < (a1.length : Int) then ((I6 K (rd a0 a3) (rd a1 a3)).bind fun a7 => (if a7 = true then J9 K a0 a1 k (a3 + 1) else some (.ret false))) else none) else some (.go ()))
def Zt8 (K : Nat) (a0 a1 : List MpT) : Option Bool := (if (a0.length : Int) = (a1.length : Int) then ((J9 K a0 a1 K 0).bind (Ex.elim (fun r => some r) (fun s => some true))) else some false)
theorem Xc0 {a0 a1 : List MpT} {r : Bool} (q0 : Zt8 K a0 a1 = some r) (a6 : Y3 (X3 yT) H s0 a0) (a9 : Y3 (X3 yT) H s1 a1) (hS : St H w L) :
 Calls prog 32 #[s0, s1] w (T4 (fun v G => R.bool.p G v r) H L) := by
 have Z4 := Sub.refl H
 refine X0 func32 U ntmps32 U ?_
 unfold Zt8 at q0
 refine Z1 (Z0 (Z5 (vB false) U U (Z2 (Z1 (Z1 (Z0 (Z3 s0 U U ?_)))))))
 have e4 := a6.bound
 refine X9 Zm7 U a6 U (Z3 s1 U U ?_)
 have e5 := a9.bound
 refine X9 Zm7 U a9 U (L1 (k := .i64) (a := (a0.length : Int)) (b := (a1.length : Int)) U U U (Z2 ?_))
 obtain ⟨b9, q0⟩ | ⟨b9, q0⟩ := ic q0
 refine Z6 (bN b9 U) (Y6 (Z1 (Z1 (Z0 (Z5 (vI 0) U U (Z2 (Y8 ?_)))))))
 obtain ⟨c0, a4, b3⟩ := bSm q0
 refine W3 (id := 0) (fun k f w => ∃ a3 H1, J9 K a0 a1 k a3 = some c0 ∧ Sub H H1 ∧ St H1 w L ∧ 0 ≤ a3 ∧ Y3 (X3 yT) H1 s0 a0 ∧ Y3 (X3 yT) H1 s1 a1 ∧ tv f 0 = s0 ∧ tv f 1 = s1 ∧ tv f 5 = vI a3) (fun f w => ∃ H1, c0 = .go () ∧ Sub H H1 ∧ St H1 w L) U ?_ ?_ K ?_ ?_
 rintro f w ⟨a3, H1, a4, _⟩
 rw [J9] at a4; cases a4
 rintro k _ _ d8 d9 ⟨a3, c9, a4, Z4, hS, _, a6, a9, a8, b2, a5⟩
 rw [J9] at a4
 refine Z1 (Z1 (Z0 (Z3 (vI a3) (by exact a5) U (Z3 s0 (by exact a8) U ?_))))
 have e6 := a6.bound
 refine X9 Zm7 U a6 U (V4 (k := .i64) (a := a3) (b := (a0.length : Int)) U U U (Z2 ?_))
 obtain ⟨c1, a4⟩ | ⟨c1, a4⟩ := ic a4
 refine Z8 (bT c1 U) (Y6 (Z1 (Y8 (Z1 ?_))))
 obtain ⟨e0, e1, _, _, _, d0, d1, ⟨b7, rfl, b0⟩, d2⟩ := a6.elem (i := a3) (by omega) (by omega)
 obtain ⟨_, a4⟩ := gd a4
 obtain ⟨e2, e3, _, _, _, d3, d4, ⟨b8, rfl, b1⟩, d5⟩ := a9.elem (i := a3) (by omega) (by omega)
 obtain ⟨a7, c6, a4⟩ := bSm a4
 refine W6 10 (S8 [mE 17 s0, mE 18 (vI a3), mE 19 (vQ e0 e1), mE 20 (vA [b7]), mE 21 s1, mE 22 (vI a3), mE 23 (vQ e2 e3), mE 24 (vA [b8]), mE 25 (vB a7), mE 26 (vB (!a7))]) [] mixed U U U hS (U1 (X4 fun S B => Z3 s0 (evT (B 0 U) a8) U (qz S)) (X4 fun S B => Z3 (vI a3) (evT (B 5 U) a5) U (qz S)) (Y7 fun S V => X6 Zm7 U (eM (V 0 17 U U)) d0 (eM (V 1 18 U U)) (by omega) (by omega) U (qz S)) (P0 fun s S V => U0 [b7] U7 (eM (V 2 19 U U)) (S.froz _ _ (s.1 _ _ d1)) U d2 U (qz S)) (X4 fun S B => Z3 s1 (evT (B 1 U) b2) U (qz S)) (X4 fun S B => Z3 (vI a3) (evT (B 5 U) a5) U (qz S)) (Y7 fun S V => X6 Zm7 U (eM (V 4 21 U U)) d3 (eM (V 5 22 U U)) (by omega) (by omega) U (qz S)) (P0 fun s S V => U0 [b8] U7 (eM (V 6 23 U U)) (S.froz _ _ (s.1 _ _ d4)) U d5 U (qz S)) (L7 ?_ ?_ W9)) ?_
 intro _ _ _ _ c2 hS _ c3 hcq
 have b0 := b0.mono c2
 have b1 := b1.mono c2
 refine X2 call28 (W8 (eM (c3 3 20 U U)) (eM (c3 7 24 U U))) U (Zo6 c6 b0 b1 hS) ?_
 rintro _ _ _ c7 hS rfl
 exact qn c7 U hS U
 exact Y7 fun S V => P5 (b := a7) (eM (V 8 25 U U)) U (qz S)
 intro d6 d7 c4 b4 hS b5 c8 hcq
 have hS : St c4 d7 L := hS
 have Z4 := Z4.trans b4
 have a6 := a6.mono b4
 have a9 := a9.mono b4
 have c5 : tv d6 26 = vB (!a7) := c8 9 26 (by decide) U
 refine Z2 ?_
 obtain ⟨b6, a4⟩ | ⟨b6, a4⟩ := ic a4
 refine Z6 (Eq.trans (by exact c5) (congrArg (fun b => vB (!b)) b6)) (Y6 (X1 (Z0 (Z3 (vI a3) (by exact (evT (b5 5 U) a5)) U (W4 (a3 + 1) U U (i64_in _ (by omega)) U (Z5 (vI (a3 + 1)) U U (Z2 (d8 _ _ ⟨(a3 + 1), c4, a4, Z4, hS, (by omega), a6, a9, (evT (b5 0 U) a8), (evT (b5 1 U) b2), U⟩))))))))
 refine Z8 (Eq.trans (by exact c5) (congrArg (fun b => vB (!b)) (X8 b6))) (Z1 (Z0 (Z5 (vB false) U U (Z2 (Y9 (vs := [vB false]) func32 Ut ?_)))))
 cases a4
 dsimp only [Ex.elim] at b3
 cases b3
 exact ⟨_, _, U, Z4, hS, U⟩
 refine Z6 (bF c1 U) (W2 U ?_)
 cases a4
 exact d9 _ _ ⟨c9, U, Z4, hS⟩
 exact ⟨0, H, a4, Z4, hS, (by omega), a6, a9, U, U, U⟩
 rintro _ _ ⟨_, rfl, Z4, hS⟩
 dsimp only [Ex.elim] at b3
 refine Z1 (Z0 (Z5 (vB true) U U (Z2 (Y9 (vs := [vB true]) func32 Ut ?_))))
 cases b3
 exact ⟨_, _, U, Z4, hS, U⟩
 refine Z8 (bO b9 U) (Z1 (Z0 (Z5 (vB false) U U (Z2 (Y9 (vs := [vB false]) func32 Ut ?_)))))
 cases q0
 exact ⟨_, _, U, Z4, hS, U⟩
def Za5 (K : Nat) (a0 : List MpT) : Nat → Int → (List MpT) → Option (Ex (List MpT) ((List MpT)))
 | 0, _, _ => none
 | k + 1, a1, a3 => (if a1 < (a0.length : Int) then ((B7 K (rd a0 a1)).bind fun b7 => (if a1 < (a3.length : Int) then Za5 K a0 k (a1 + 1) (a3.set (a1).toNat b7) else none)) else some (.go a3))
def Zt6 (K : Nat) (a0 : List MpT) : Option (List MpT) := (if (a0.length : Int) ≤ 1099511627776 then ((Za5 K a0 K 0 (replicate ((a0.length : Int)).toNat (([] : List (A8 × Int)) : MpT))).bind (Ex.elim (fun r => some r) (fun s => (fun (a8 : List MpT) => some a8) s))) else none)
theorem Xc1 {a0 r : List MpT} (q0 : Zt6 K a0 = some r) (b2 : Y3 (X3 yT) H s0 a0) (hS : St H w L) :
 Calls prog 69 #[s0] w (T4 (fun v G => RdN (X3 yT) H G v r []) H L) := by
 have Z4 := Sub.refl H
 refine X0 func69 U ntmps69 U ?_
 unfold Zt6 at q0
 refine Z1 (Z0 (Z5 vN U U (Z2 (Z1 (Z0 (Z3 s0 U U ?_))))))
 have e5 := b2.bound
 refine X9 Xm4 U b2 U ?_
 obtain ⟨_, q0⟩ := gd q0
 refine Vb5 (τ := (Yx7 H (X3 yT))) (([] : List (A8 × Int)) : MpT) Vm1 rfl rfl rfl (fun _ => ⟨_, rfl, Y3.nil⟩) rfl (by omega) (by omega) hS nodup_nil (fun _ h => (by cases h)) rfl fun u3 _ C5 d9 hS => Z5 u3 rfl rfl (Z2 (Z1 (Z1 (Z0 (Z5 (vI 0) rfl rfl (Z2 (Y8 ?_)))))))
 obtain ⟨c1, a5, c2⟩ := bSm q0
 refine W3 (id := 0) (fun k f w => ∃ a1 a3 H1 a9 a4, Za5 K a0 k a1 a3 = some c1 ∧ Sub H H1 ∧ St H1 w (a9 ++ L) ∧ 0 ≤ a1 ∧ Ze1 (Yx7 H (X3 yT)) 45 H1 a4 a3 a9 ([] : List Nat) ∧ Y3 (X3 yT) H1 s0 a0 ∧ tv f 0 = s0 ∧ tv f 3 = a4 ∧ tv f 4 = vI a1) (fun f w => ∃ a8 H1 b3 a6, c1 = .go a8 ∧ Sub H H1 ∧ St H1 w (b3 ++ L) ∧ Ze1 (Yx7 H (X3 yT)) 45 H1 a6 a8 b3 ([] : List Nat) ∧ tv f 3 = a6) U ?_ ?_ K ?_ ?_
 rintro f w ⟨a1, a3, H1, a9, a4, a5, _⟩
 rw [Za5] at a5; cases a5
 rintro k _ _ e0 e1 ⟨a1, a3, c9, a9, a4, a5, Z4, hS, _, a7, b2, b4, b5, b1⟩
 rw [Za5] at a5
 refine Z1 (Z1 (Z0 (Z3 (vI a1) (by exact b1) U (Z3 s0 (by exact b4) U ?_))))
 have e6 := b2.bound
 refine X9 Xm4 U b2 U (V4 (k := .i64) (a := a1) (b := (a0.length : Int)) U U U (Z2 ?_))
 obtain ⟨c3, a5⟩ | ⟨c3, a5⟩ := ic a5
 refine Z8 (bT c3 U) (Y6 (Z1 (Y8 (Z0 (Z3 a4 (by exact b5) U (Z3 (vI a1) (by exact b1) U (Z3 s0 (by exact b4) U (Z3 (vI a1) (by exact b1) U ?_))))))))
 obtain ⟨_, _, _, _, _, d0, d1, ⟨c7, rfl, c4⟩, d2⟩ := b2.elem (i := a1) (by omega) (by omega)
 refine X6 Xm4 U U d0 U (by omega) (by omega) U (U0 [c7] Xe5 U (hS.froz _ _ d1) U d2 U ?_)
 obtain ⟨b7, d3, a5⟩ := bSm a5
 refine X2 call26 (S4 U) U (Zp0 d3 c4 hS) ?_
 rintro _ c8 _ b9 hS ⟨_, rfl, ⟨b6, rfl, b0⟩⟩
 have d4 := b0
 have d5 : RdF yT H c8 b6 b7 := Y3.mono (Yo2 Z4) b0
 have b0 := Y3.old b0
 have a7 := Ze1.keep (Xr7 H (Yi1 _)) a7 b9 (RdF.rootsOut d4) (Y3.rootsIn b0) (Yh1 _)
 have Z4 := Z4.trans b9
 have b2 := b2.mono b9
 obtain ⟨_, a5⟩ := gd a5
 obtain ⟨_, _, c5⟩ := a7.own.some (i := a1) (by omega) (by omega)
 refine Q3 Zm7 (Eq.trans U c5) U (by omega) (by omega) U (Wc3 (R := Zr1 [b6]) (τ := (Yx7 H (X3 yT))) (v := a4) (u := vA [b6]) b7 (i := a1) U U7 c5 a7 hS U U (by omega) (by omega) ⟨_, U, d5⟩ U (fun _ e2 d6 hS => Z2 (X1 (Z0 (Z3 (vI a1) (by exact b1) U (W4 (a1 + 1) U U (i64_in _ (by omega)) U (Z5 (vI (a1 + 1)) U U (Z2 (e0 _ _ ⟨(a1 + 1), (a3.set (a1).toNat b7), c8, e2, a4, a5, Z4, hS, (by omega), d6, b2, b4, b5, U⟩)))))))))
 refine Z6 (bF c3 U) (W2 U ?_)
 cases a5
 exact e1 _ _ ⟨a3, c9, a9, a4, U, Z4, hS, a7, b5⟩
 exact ⟨0, (replicate ((a0.length : Int)).toNat (([] : List (A8 × Int)) : MpT)), H, C5, u3, a5, Z4, hS, (by omega), d9, b2, U, U, U⟩
 rintro _ _ ⟨a8, _, b3, a6, rfl, Z4, hS, b8, c0⟩
 dsimp only [Ex.elim] at c2
 refine Z1 (Z0 (Z3 a6 (by exact c0) U (Z5 a6 U U (Z2 (Y9 (vs := [a6]) func69 Ut ?_)))))
 obtain ⟨e3, d7, hS, c6⟩ := Ze1.freezeN (τ := (X3 yT)) (H0 := H) (Yi1 _) b8 hS Z4
 have d8 : RdF (X3 yT) H e3 a6 a8 := RdN.old c6
 have e4 := Y3.old d8
 have Z4 := Z4.trans d7
 cases c2
 exact ⟨_, _, U, Z4, hS, c6⟩
def Za8 (K : Nat) (a0 : (List (List Int))) : Nat → (List (List Int)) → Int → Option (Ex (List (List Int)) ((List (List Int))))
 | 0, _, _ => none
 | k + 1, a4, a1 => (if a1 < (a0.length : Int) then ((Zv7 K a4 (rd a0 a1)).bind fun r9 => Za8 K a0 k r9 (a1 + 1)) else some (.go a4))
def B5 (K : Nat) (a0 : (List (List Int))) : Option (List (List Int)) := ((Za8 K a0 K ([] : List (List Int)) 0).bind (Ex.elim (fun r => some r) (fun s => (fun (b0 : (List (List Int))) => some b0) s)))
theorem Zx0 {a0 r : (List (List Int))} (q0 : B5 K a0 = some r) (a7 : Y3 (X3 (Y4 .i64)) H s0 a0) (hS : St H w L) :
 Calls prog 136 #[s0] w (T4 (fun v G => (R.sl (X3 (Y4 .i64))).p G v r) H L) := by
 have Z4 := Sub.refl H
 refine X0 func136 U ntmps136 U ?_
 unfold B5 at q0
 refine Z1 (Z0 (Z5 vN U U (Z2 (Z1 (Z0 (Ye7 (τ := (X3 (Y4 .i64))) T2 Zj1 U hS U (fun u1 _ _ c3 hS => Z5 u1 U U (Z2 (Z1 (Z1 (Z0 (Z5 (vI 0) U U (Z2 (Y8 ?_))))))))))))))
 obtain ⟨b9, b2, hS, b5⟩ := c3.freeze hS
 have Z4 := Z4.trans b2
 have a7 := a7.mono b2
 obtain ⟨b6, a3, b7⟩ := bSm q0
 refine W3 (id := 0) (fun k f w => ∃ a4 a1 H1 a5, Za8 K a0 k a4 a1 = some b6 ∧ Sub H H1 ∧ St H1 w L ∧ 0 ≤ a1 ∧ Y3 (X3 (Y4 .i64)) H1 a5 a4 ∧ Y3 (X3 (Y4 .i64)) H1 s0 a0 ∧ tv f 0 = s0 ∧ tv f 3 = a5 ∧ tv f 4 = vI a1) (fun f w => ∃ b0 H1 a6, b6 = .go b0 ∧ Sub H H1 ∧ St H1 w L ∧ Y3 (X3 (Y4 .i64)) H1 a6 b0 ∧ tv f 3 = a6) U ?_ ?_ K ?_ ?_
 rintro f w ⟨a4, a1, H1, a5, a3, _⟩
 rw [Za8] at a3; cases a3
 rintro k _ _ c4 c5 ⟨a4, a1, c2, a5, a3, Z4, hS, _, b3, a7, a8, b1, a9⟩
 rw [Za8] at a3
 refine Z1 (Z1 (Z0 (Z3 (vI a1) (by exact a9) U (Z3 s0 (by exact a8) U ?_))))
 have d2 := a7.bound
 refine X9 T2 U a7 U (V4 (k := .i64) (a := a1) (b := (a0.length : Int)) U U U (Z2 ?_))
 obtain ⟨b8, a3⟩ | ⟨b8, a3⟩ := ic a3
 refine Z8 (bT b8 U) (Y6 (Z1 (Y8 (Z0 (Z3 a5 (by exact b1) U (Z3 s0 (by exact a8) U (Z3 (vI a1) (by exact a9) U ?_)))))))
 obtain ⟨_, _, _, _, _, c6, c7, ⟨u8, rfl, c8⟩, c9⟩ := a7.elem (i := a1) (by omega) (by omega)
 refine X6 T2 U U c6 U (by omega) (by omega) U (Y1 u8 Q9 U (hS.froz _ _ c7) (c9 0 (show 0 < 1 by decide)) U ?_)
 obtain ⟨r9, d0, a3⟩ := bSm a3
 refine X2 call224 (W8 U U) U (Xg5 d0 b3 c8 hS) ?_
 rintro v9 H9 _ c1 hS d1
 have Z4 := Z4.trans c1
 have a7 := a7.mono c1
 refine Z5 v9 U U (Z2 (X1 (Z0 (Z3 (vI a1) (by exact a9) U (W4 (a1 + 1) U U (i64_in _ (by omega)) U (Z5 (vI (a1 + 1)) U U (Z2 (c4 _ _ ⟨r9, (a1 + 1), H9, v9, a3, Z4, hS, (by omega), d1, a7, a8, U, U⟩))))))))
 refine Z6 (bF b8 U) (W2 U ?_)
 cases a3
 exact c5 _ _ ⟨a4, c2, a5, U, Z4, hS, b3, b1⟩
 exact ⟨([] : List (List Int)), 0, b9, u1, a3, Z4, hS, (by omega), b5, a7, U, U, U⟩
 rintro _ _ ⟨b0, _, a6, rfl, Z4, hS, c0, b4⟩
 dsimp only [Ex.elim] at b7
 refine Z1 (Z0 (Z3 a6 (by exact b4) U (Z5 a6 U U (Z2 (Y9 (vs := [a6]) func136 Ut ?_)))))
 cases b7
 exact ⟨_, _, U, Z4, hS, c0⟩
theorem Yw4 {K : Nat} {a2 : Int} : ∀ (k : Nat) (zs : MpT), Zr5 K (fun (_ : Unit) s => s) (fun s => U6 K a2 k zs s)
 | 0, zs => ⟨none, fun s => (show U6 K a2 0 zs s = none by rw [U6])⟩
 | k + 1, [] => by
  have e : (fun s => U6 K a2 (k + 1) [] s) = fun s => some (.go s) := by funext s; rw [U6]
  rw [e]; exact .go (h := fun (_ : Unit) s => s) ()
 | k + 1, z :: zs => by
  have e : (fun s => U6 K a2 (k + 1) (z :: zs) s) = fun s => (T7 K s z.1 (((i64.wrap (z.2 * a2))).tmod 10007)).bind fun t => U6 K a2 k zs t := by
   funext s; rw [U6]
  rw [e]; exact .bind (.add _ _) (Yw4 k zs)
theorem Wj6 {K : Nat} (t : MpT) (f : Int) : Zu5 K (fun s => E5 K s t f) := by
 obtain ⟨F, hF, hs⟩ := (Yw4 (K := K) (a2 := f) K t).step (fun s => s) (fun _ _ => rfl)
 have e : (fun s => E5 K s t f) = F := by
  funext s
  unfold E5
  exact (hs (fun r => some r) (fun s => some s) s).trans (by cases F s <;> rfl)
 rw [e]; exact hF
def Xu6 (H : FH) (b : Nat) (I : Yk9) : Prop := H.memo b = some (.pl I)
theorem Xu6.mono {H H' : FH} {b : Nat} {I : Yk9} (h : Xu6 H b I) (hs : Sub H H') : Xu6 H' b I := hs.memoPl h
theorem N0.fr {k : IntKind} {H H' : FH} {v : Value} {t : MpT} (h : N0 k H v t) (e : H.fr = H'.fr) : N0 k H' v t := by
 rcases h with h | ⟨s, b, es, c, ys, h1, h2, h3, h4⟩
 exact .inl h
 exact .inr ⟨s, b, es, c, ys, h1, by rw [← e]; exact h2, h3, h4⟩
end Go.Proofs.YtabofnehiclkiaaGreat
