/- Walk, rules and plain laws. -/
import Derived.Test.YtabofnehiclkiaaGreatRF16
namespace Go.Proofs.YtabofnehiclkiaaGreat
open Go Go.Proofs.Tryz IntKind IntWalk List
set_option linter.all false
set_option maxRecDepth 100000
set_option maxHeartbeats 8000000
variable {K : Nat} {H : FH} {w : World} {L : OL} {s0 s1 s2 s3 s4 s5 s6 : Value}
def M9 (K : Nat) (a0 : ((List Int) × (List MpT))) : Nat → Int → Option (Ex Bool Unit)
 | 0, _ => none
 | k + 1, a1 => (if a1 < (a0.2.length : Int) then ((Zp9 K a0.1 (rd a0.2 a1)).bind fun b4 => (if b4 = true then (if a1 < (a0.1.length : Int) then ((Zm2 K a0.1 (rd a0.2 a1) (i64.wrap ((rd a0.1 a1) + 1))).bind fun b5 => (if b5 = true then M9 K a0 k (a1 + 1) else some (.ret false))) else none) else some (.ret false))) else some (.go ()))
def Zi8 (K : Nat) (a0 : ((List Int) × (List MpT))) (b2 : Bool) : Option Bool := (if b2 = true then some false else ((M9 K a0 K 0).bind (Ex.elim (fun r => some r) (fun s => ((T6 K a0.2 (fun x => Zi6 K x (a0.1, a0.2))).bind fun c0 => some (!c0))))))
def Zo5 (K : Nat) (a0 : ((List Int) × (List MpT))) : Option Bool := ((Zl9 K a0.1).bind fun c8 => (if c8 = true then Zi8 K a0 (!decide ((a0.2.length : Int) = (a0.1.length : Int))) else Zi8 K a0 true))
theorem Yw9 {a0 : ((List Int) × (List MpT))} {r : Bool} (q0 : Zo5 K a0 = some r) (a6 : Y3 (Y4 .i64) H s0 a0.1) (a7 : Y3 (X3 yT) H s1 a0.2) (hS : St H w L) :
 Calls prog 54 #[vA ([s0] ++ [s1])] w (T4 (fun v G => R.bool.p G v r) H L) := by
 have Z4 := Sub.refl H
 refine X0 func54 U ntmps54 U ?_
 unfold Zo5 at q0
 refine Z1 (Z0 (T8 (v := vA ([s0] ++ [s1])) ([s0] ++ [s1]).toArray U U hS U (fun b1 w2 hS => Z5 (vB false) U U (Z2 (Z1 (Z1 (N1 (fun f w => ∃ b2 H1, Zi8 K a0 b2 = some r ∧ Sub H H1 ∧ St H1 w ([(b1, cA ([s0] ++ [s1]) 31)] ++ L) ∧ Y3 (Y4 .i64) H1 s0 a0.1 ∧ Y3 (X3 yT) H1 s1 a0.2 ∧ tv f 1 = vP b1 ∧ tv f 17 = vB b2) ?_ ?_)))))))
 rintro _ _ ⟨b2, f4, c5, Z4, hS, a6, a7, d5, c6⟩
 unfold Zi8 at c5
 obtain ⟨e4, c5⟩ | ⟨e4, c5⟩ := ic c5
 refine Z8 (Eq.trans (by exact c6) (congrArg vB e4)) (Z1 (Z0 (Z5 (vB false) U U (Z2 (Y9 (vs := [vB false]) func54 Ut ?_)))))
 cases c5
 exact ⟨_, _, U, Z4, (St.dA hS), U⟩
 refine Z6 (Eq.trans (by exact c6) (congrArg vB (X8 e4))) (Y6 (Z1 (Z1 (Z0 (Y2 Zh6 (by exact d5) U (Y1 s1 Yb2 U (hS.get mL) U U ?_))))))
 have j5 := a7.bound
 refine X9 Zm7 U a7 U (Z3 (vI 0) U U (Z2 (Y8 ?_)))
 obtain ⟨e5, a3, b6⟩ := bSm c5
 refine W3 (id := 0) (fun k f w => ∃ a1 H1, M9 K a0 k a1 = some e5 ∧ Sub H H1 ∧ St H1 w ([(b1, cA ([s0] ++ [s1]) 31)] ++ L) ∧ 0 ≤ a1 ∧ Y3 (Y4 .i64) H1 s0 a0.1 ∧ Y3 (X3 yT) H1 s1 a0.2 ∧ tv f 1 = vP b1 ∧ tv f 19 = s1 ∧ tv f 20 = vI (a0.2.length : Int) ∧ tv f 21 = vI a1) (fun f w => ∃ H1, e5 = .go () ∧ Sub H H1 ∧ St H1 w ([(b1, cA ([s0] ++ [s1]) 31)] ++ L) ∧ Y3 (Y4 .i64) H1 s0 a0.1 ∧ Y3 (X3 yT) H1 s1 a0.2 ∧ tv f 1 = vP b1) U ?_ ?_ K ?_ ?_
 rintro f w ⟨a1, H1, a3, _⟩
 rw [M9] at a3; cases a3
 rintro k _ _ h8 h9 ⟨a1, g9, a3, Z4, hS, _, a6, a7, a9, c1, c2, b3⟩
 rw [M9] at a3
 refine Z1 (Z0 (V4 (k := .i64) (a := a1) (b := (a0.2.length : Int)) (by exact b3) (by exact c2) U (Z2 (Z1 ?_))))
 obtain ⟨e6, a3⟩ | ⟨e6, a3⟩ := ic a3
 refine Z8 (bT e6 U) (Y6 (Z1 (Y8 (Z1 (Z0 (Z3 (vI a1) (by exact b3) U ?_))))))
 obtain ⟨_, _, _, _, _, i0, i1, ⟨b0, rfl, a8⟩, i2⟩ := a7.elem (i := a1) (by omega) (by omega)
 refine X6 Zm7 U (by exact c1) i0 (by exact b3) (by omega) (by omega) U (U0 [b0] U7 U (hS.froz _ _ i1) U i2 U (U5 (z := vA [vN]) [vN].toArray Zj8.zero U hS U (fun b8 _ hS => Z5 (vI a1) U U (W1 (v := vA [b0]) (vs := ([b0]).toArray) (cs := ([vN]).toArray) U7 U U U hS U (K9 a8.isOne) U (fun _ hS => Z2 (Z1 ?_))))))
 obtain ⟨b4, e7, a3⟩ := bSm a3
 obtain ⟨a4, a3⟩ | ⟨a4, a3⟩ := ic a3
 obtain ⟨_, a3⟩ := gd a3
 obtain ⟨h0, h1, _, _, _, f5, c9, rfl, f6⟩ := a6.elem (i := a1) (by omega) (by omega)
 obtain ⟨b5, f7, a3⟩ := bSm a3
 refine W6 18 (S8 [mE 26 (vP b1), mE 27 s0, mE 28 (vA [b0]), mE 29 (vB b4), mE 30 (vB (!b4)), mE 31 (vB (!b4)), mE 32 (vP b1), mE 33 s0, mE 34 (vA [b0]), mE 35 (vP b1), mE 36 s0, mE 37 (vI a1), mE 38 (vQ h0 h1), mE 39 (vI (rd a0.1 a1)), mE 40 (vI (i64.wrap ((rd a0.1 a1) + 1))), mE 41 (vB b5), mE 42 (vB (!b5)), mE 43 (vB (!b5))]) [] mixed U U U hS (U1 (X4 fun S B => Y2 N8 (evT (B 1 U) a9) U (qz S)) (Y7 fun S V => Y1 s0 Q9 (eM (V 0 26 U U)) (S.get (mR (mR mL))) U U (qz S)) (X4 fun S B => X5 U7 (evT (B 4 U) U) (S.get (mR mL)) U U (qz S)) ?_ ?_ ?_ ?_ ?_ (U1 ?_ ?_ ?_ ?_ ?_ ?_ ?_ ?_ (L7 ?_ ?_ W9))) ?_
 intro d6 i3 i4 i5 c3 hS h2 c4 hcq
 have a6 := a6.mono c3
 have a8 := a8.mono c3
 have e8 : tv d6 27 = s0 := c4 1 27 U U
 have e9 : tv d6 28 = vA [b0] := c4 2 28 U U
 refine X2 call121 (W8 e8 e9) U (Yd0 e7 a6 a8 hS) ?_
 rintro _ i6 i7 d7 hS rfl
 exact qn d7 U hS U
 exact Y7 fun S V => P5 (b := b4) (eM (V 3 29 U U)) U (qz S)
 exact Y7 fun S V => Z3 (vB (!b4)) (eM (V 4 30 U U)) U (qz S)
 exact K6 fun S B V => Y0 U U (Eq.trans (eM (V 5 31 U U)) (congrArg (fun b => vB (!b)) a4)) (Y2 N8 (evT (B 1 U) a9) U (qz S))
 intro _ _ _ _ _ hS _ f0 hcq
 refine Y0 U U (Eq.trans (eM (f0 5 31 U U)) (congrArg (fun b => vB (!b)) a4)) (Y1 s0 Q9 (eM (f0 6 32 U U)) (hS.get (mR (mR mL))) U U (qn (.refl _) U hS U))
 intro i8 _ _ _ _ hS f8 f9 hcq
 have h3 : tv i8 4 = vP b8 := Eq.trans (f8 4 U) U
 refine Y0 U U (Eq.trans (eM (f9 5 31 U U)) (congrArg (fun b => vB (!b)) a4)) (X5 U7 h3 (hS.get (mR mL)) U U (qn (.refl _) U hS U))
 exact K6 fun S B V => Y0 U U (Eq.trans (eM (V 5 31 U U)) (congrArg (fun b => vB (!b)) a4)) (Y2 N8 (evT (B 1 U) a9) U (qz S))
 intro _ _ _ _ _ hS _ d8 hcq
 refine Y0 U U (Eq.trans (eM (d8 5 31 U U)) (congrArg (fun b => vB (!b)) a4)) (Y1 s0 Q9 (eM (d8 9 35 U U)) (hS.get (mR (mR mL))) U U (qn (.refl _) U hS U))
 exact K6 fun S B V => Y0 U U (Eq.trans (eM (V 5 31 U U)) (congrArg (fun b => vB (!b)) a4)) (Z3 (vI a1) (evT (B 3 U) U) U (qz S))
 intro _ _ _ _ _ hS _ d0 hcq
 refine Y0 U U (Eq.trans (eM (d0 5 31 U U)) (congrArg (fun b => vB (!b)) a4)) (X6 T1 U (eM (d0 10 36 U U)) f5 (eM (d0 11 37 U U)) (by omega) (by omega) U (qn (.refl _) U hS U))
 intro _ _ _ _ g0 hS _ d9 hcq
 have c9 := g0.1 _ _ c9
 refine Y0 U U (Eq.trans (eM (d9 5 31 U U)) (congrArg (fun b => vB (!b)) a4)) (Y1 (vI (rd a0.1 a1)) ty2 (eM (d9 12 38 U U)) (hS.froz _ _ c9) (f6 0 (show 0 < 1 by decide)) U (qn (.refl _) U hS U))
 intro _ _ _ _ _ hS _ e0 hcq
 refine Y0 U U (Eq.trans (eM (e0 5 31 U U)) (congrArg (fun b => vB (!b)) a4)) (W4 (i64.wrap ((rd a0.1 a1) + 1)) (eM (e0 13 39 U U)) U U U (qn (.refl _) U hS U))
 intro _ _ _ _ e1 hS _ b7 hcq
 have a6 := a6.mono e1
 have a8 := a8.mono e1
 refine Y0 U U (Eq.trans (eM (b7 5 31 U U)) (congrArg (fun b => vB (!b)) a4)) (X2 call122 (I3 (eM (b7 7 33 U U)) (eM (b7 8 34 U U)) (eM (b7 14 40 U U))) U (Yu1 f7 a6 a8 hS) ?_)
 rintro _ _ _ g1 hS rfl
 exact qn g1 U hS U
 exact Y7 fun S V => Y0 U U (Eq.trans (eM (V 5 31 U U)) (congrArg (fun b => vB (!b)) a4)) (P5 (b := b5) (eM (V 15 41 U U)) U (qz S))
 exact Y7 fun S V => W5 (t := false) (vB (!b5)) (Eq.trans (eM (V 5 31 U U)) (congrArg (fun b => vB (!b)) a4)) ((if_neg Bool.false_ne_true).trans (eM (V 16 42 U U))) U (qz S)
 intro h4 h5 f1 d1 hS b9 g2 hcq
 have hS : St f1 h5 ([(b8, cA [b0] 45)] ++ _) := hS
 have Z4 := Z4.trans d1
 have a7 := a7.mono d1
 have a6 := a6.mono d1
 have f2 : tv h4 43 = vB (!b5) := g2 17 43 (by decide) U
 refine Z2 ?_
 obtain ⟨d2, a3⟩ | ⟨d2, a3⟩ := ic a3
 refine Z6 (Eq.trans (by exact f2) (congrArg (fun b => vB (!b)) d2)) (Y6 (X1 (Z0 (W4 (a1 + 1) (by exact (evT (b9 21 U) b3)) U (i64_in _ (by omega)) U (Z3 (vI (a1 + 1)) U U (Z2 ?_))))))
 have hS := St.dA hS
 exact h8 _ _ ⟨(a1 + 1), f1, a3, Z4, hS, (by omega), a6, a7, (evT (b9 1 U) a9), (evT (b9 19 U) c1), (evT (b9 20 U) c2), U⟩
 refine Z8 (Eq.trans (by exact f2) (congrArg (fun b => vB (!b)) (X8 d2))) (Z1 (Z0 (Z5 (vB false) U U (Z2 (Y9 (vs := [vB false]) func54 Ut ?_)))))
 cases a3
 dsimp only [Ex.elim] at b6
 cases b6
 exact ⟨_, _, U, Z4, (St.dA (St.dA hS)), U⟩
 refine W6 18 (S8 [mE 26 (vP b1), mE 27 s0, mE 28 (vA [b0]), mE 29 (vB b4), mE 30 (vB (!b4)), mE 31 (vB (!b4)), mE 32 undef, mE 33 undef, mE 34 undef, mE 35 undef, mE 36 undef, mE 37 undef, mE 38 undef, mE 39 undef, mE 40 undef, mE 41 undef, mE 42 undef, mE 43 (vB true)]) [] mixed U U U hS (U1 (X4 fun S B => Y2 N8 (evT (B 1 U) a9) U (qz S)) (Y7 fun S V => Y1 s0 Q9 (eM (V 0 26 U U)) (S.get (mR (mR mL))) U U (qz S)) (X4 fun S B => X5 U7 (evT (B 4 U) U) (S.get (mR mL)) U U (qz S)) ?_ ?_ ?_ ?_ ?_ (U1 ?_ ?_ ?_ ?_ ?_ ?_ ?_ ?_ (L7 ?_ ?_ W9))) ?_
 intro d6 i3 i4 i5 c3 hS h2 c4 hcq
 have a6 := a6.mono c3
 have a8 := a8.mono c3
 have e8 : tv d6 27 = s0 := c4 1 27 U U
 have e9 : tv d6 28 = vA [b0] := c4 2 28 U U
 refine X2 call121 (W8 e8 e9) U (Yd0 e7 a6 a8 hS) ?_
 rintro _ i6 i7 d7 hS rfl
 exact qn d7 U hS U
 exact Y7 fun S V => P5 (b := b4) (eM (V 3 29 U U)) U (qz S)
 exact Y7 fun S V => Z3 (vB (!b4)) (eM (V 4 30 U U)) U (qz S)
 exact Y7 fun S V => Z9 U U (Eq.trans (eM (V 5 31 U U)) (congrArg (fun b => vB (!b)) (X8 a4))) U U U (qz S)
 exact Y7 fun S V => Z9 U U (Eq.trans (eM (V 5 31 U U)) (congrArg (fun b => vB (!b)) (X8 a4))) U U U (qz S)
 exact Y7 fun S V => Z9 U U (Eq.trans (eM (V 5 31 U U)) (congrArg (fun b => vB (!b)) (X8 a4))) U U U (qz S)
 exact Y7 fun S V => Z9 U U (Eq.trans (eM (V 5 31 U U)) (congrArg (fun b => vB (!b)) (X8 a4))) U U U (qz S)
 exact Y7 fun S V => Z9 U U (Eq.trans (eM (V 5 31 U U)) (congrArg (fun b => vB (!b)) (X8 a4))) U U U (qz S)
 exact Y7 fun S V => Z9 U U (Eq.trans (eM (V 5 31 U U)) (congrArg (fun b => vB (!b)) (X8 a4))) U U U (qz S)
 exact Y7 fun S V => Z9 U U (Eq.trans (eM (V 5 31 U U)) (congrArg (fun b => vB (!b)) (X8 a4))) U U U (qz S)
 exact Y7 fun S V => Z9 U U (Eq.trans (eM (V 5 31 U U)) (congrArg (fun b => vB (!b)) (X8 a4))) U U U (qz S)
 exact Y7 fun S V => Z9 U U (Eq.trans (eM (V 5 31 U U)) (congrArg (fun b => vB (!b)) (X8 a4))) U U U (qz S)
 exact Y7 fun S V => Z9 U U (Eq.trans (eM (V 5 31 U U)) (congrArg (fun b => vB (!b)) (X8 a4))) U U U (qz S)
 exact Y7 fun S V => Z9 U U (Eq.trans (eM (V 5 31 U U)) (congrArg (fun b => vB (!b)) (X8 a4))) U U U (qz S)
 exact Y7 fun S V => W5 (t := true) (vB true) (Eq.trans (eM (V 5 31 U U)) (congrArg (fun b => vB (!b)) (X8 a4))) ((if_pos U).trans U) U (qz S)
 intro _ h6 h7 g3 hS _ g4 hcq
 have hS : St h7 h6 ([(b8, cA [b0] 45)] ++ _) := hS
 have Z4 := Z4.trans g3
 refine Z2 (Z8 (by exact (eM (g4 17 43 (by decide) U))) (Z1 (Z0 (Z5 (vB false) U U (Z2 (Y9 (vs := [vB false]) func54 Ut ?_))))))
 cases a3
 dsimp only [Ex.elim] at b6
 cases b6
 exact ⟨_, _, U, Z4, (St.dA (St.dA hS)), U⟩
 refine Z6 (bF e6 U) (W2 U ?_)
 cases a3
 exact h9 _ _ ⟨g9, U, Z4, hS, a6, a7, a9⟩
 exact ⟨0, f4, a3, Z4, hS, (by omega), a6, a7, d5, U, U, U⟩
 rintro _ _ ⟨_, rfl, Z4, hS, a6, a7, c7⟩
 dsimp only [Ex.elim] at b6
 refine Z1 ?_
 obtain ⟨_, d3, hS, e2⟩ := St.freezeBox hS
 have Z4 := Z4.trans d3
 have a6 := a6.mono d3
 have a7 := a7.mono d3
 refine Z0 (Y2 Zh6 (by exact c7) U (Y1 s1 Yb2 U (hS.froz _ _ e2) ((Ys5 ([s0] ++ [s1]) 2) 1 (show 1 < 2 by decide)) U (Yq8 (by exact c7) U ?_)))
 obtain ⟨c0, g5, b6⟩ := bSm b6
 refine X2 call123 (W8 rfl rfl) rfl (Zd6 g5 a7 ⟨124, #[vP b1], rfl, call124, fun H2 w2 L2 v x b i9 j0 hv j1 => by obtain ⟨_, rfl, ⟨j2, rfl, e3⟩⟩ := hv; exact Yr0 j1 e3 (Zt4.mono i9 ⟨_, _, _, _, _, rfl, e2, ⟨_, _, rfl, ⟨_, rfl, a6⟩, ⟨_, rfl, a7⟩⟩, (Ys5 ([s0] ++ [s1]) 2)⟩) j0⟩ hS) ?_
 rintro _ _ _ g6 hS rfl
 have Z4 := Z4.trans g6
 refine P5 (b := c0) U U (Z5 (vB (!c0)) U U (Z2 (Y9 (vs := [vB (!c0)]) func54 Ut ?_)))
 cases b6
 exact ⟨_, _, U, Z4, hS, U⟩
 intro g8
 refine Z0 (Y2 N8 U U (Y1 s0 Q9 U (hS.get mL) U U ?_))
 obtain ⟨c8, g7, q0⟩ := bSm q0
 refine X2 call120 (S4 U) U (Yw2 g7 a6 hS) ?_
 rintro _ f3 _ d4 hS rfl
 have Z4 := Z4.trans d4
 have a6 := a6.mono d4
 have a7 := a7.mono d4
 refine P5 (b := c8) U U (Z3 (vB (!c8)) U U ?_)
 obtain ⟨a5, q0⟩ | ⟨a5, q0⟩ := ic q0
 refine Y0 U U (nT a5) (Y2 Zh6 U U (Y0 U U (nT a5) (Y1 s1 Yb2 U (hS.get mL) U U ?_)))
 have j3 := a7.bound
 refine Y0 U U (nT a5) (X9 Zm7 U a7 U (Y0 U U (nT a5) (Y2 N8 U U (Y0 U U (nT a5) (Y1 s0 Q9 U (hS.get mL) U U ?_)))))
 have j4 := a6.bound
 refine Y0 U U (nT a5) (X9 T1 U a6 U (Y0 U U (nT a5) (L1 (k := .i64) (a := (a0.2.length : Int)) (b := (a0.1.length : Int)) U U U (W5 (t := false) (vB (!decide ((a0.2.length : Int) = (a0.1.length : Int)))) (nT a5) ((if_neg Bool.false_ne_true).trans U) U (Z2 (g8 _ _ ⟨(!decide ((a0.2.length : Int) = (a0.1.length : Int))), f3, q0, Z4, hS, a6, a7, U, U⟩))))))
 refine Z9 U U (nT (X8 a5)) U U U (Z9 U U (nT (X8 a5)) U U U (Z9 U U (nT (X8 a5)) U U U (Z9 U U (nT (X8 a5)) U U U (Z9 U U (nT (X8 a5)) U U U (Z9 U U (nT (X8 a5)) U U U (Z9 U U (nT (X8 a5)) U U U (W5 (t := true) (vB true) (nT (X8 a5)) ((if_pos U).trans U) U (Z2 (g8 _ _ ⟨true, f3, q0, Z4, hS, a6, a7, U, U⟩)))))))))
end Go.Proofs.YtabofnehiclkiaaGreat
