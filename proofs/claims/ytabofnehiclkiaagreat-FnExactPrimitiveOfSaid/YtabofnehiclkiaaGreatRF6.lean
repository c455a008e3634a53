/- Walk, rules and plain laws. -/
import Derived.Test.YtabofnehiclkiaaGreatRF2
import Derived.Test.YtabofnehiclkiaaGreatRF1
import Derived.Test.YtabofnehiclkiaaGreatRF3
import Derived.Test.YtabofnehiclkiaaGreatRF4
namespace Go.Proofs.YtabofnehiclkiaaGreat
open Go Go.Proofs.Tryz IntKind IntWalk List
set_option linter.all false
set_option maxRecDepth 100000
set_option maxHeartbeats 8000000
variable {K : Nat} {H : FH} {w : World} {L : OL} {s0 s1 s2 s3 s4 s5 s6 : Value}
def G7 (K : Nat) (a0 : List Int) (a1 : MpT) : Nat → Int → Option (Ex Bool Unit)
 | 0, _ => none
 | k + 1, a3 => (if a3 < (a1.length : Int) then ((Zt5 K a0 (rd a1 a3).1).bind fun a8 => (if a8 = true then ((Zu2 K (rd a1 a3).2 1 10006).bind fun a6 => (if a6 = true then (if 0 < a3 then (if 0 ≤ (i64.wrap (a3 - 1)) then (if (i64.wrap (a3 - 1)) < (a1.length : Int) then ((Ze5 K (rd a1 (i64.wrap (a3 - 1))).1 (rd a1 a3).1).bind fun b9 => (if b9 = true then G7 K a0 a1 k (a3 + 1) else some (.ret false))) else none) else none) else G7 K a0 a1 k (a3 + 1)) else some (.ret false))) else some (.ret false))) else some (.go ()))
def Zt2 (K : Nat) (a0 : List Int) (a1 : MpT) : Option Bool := ((G7 K a0 a1 K 0).bind (Ex.elim (fun r => some r) (fun s => some (decide ((a1.length : Int) ≤ 400)))))
theorem Yp4 {a0 : List Int} {a1 : MpT} {r : Bool} (q0 : Zt2 K a0 a1 = some r) (b0 : Y3 (Y4 .i64) H s0 a0) (b3 : Y3 yT H s1 a1) (hS : St H w L) :
 Calls prog 145 #[s0, vA [s1]] w (T4 (fun v G => R.bool.p G v r) H L) := by
 have Z4 := Sub.refl H
 refine X0 func145 U ntmps145 U ?_
 unfold Zt2 at q0
 refine Z1 (Z0 (T8 (v := vA [s1]) [s1].toArray U U hS U (fun b1 _ hS => Z5 (vB false) U U (Z2 (Z1 (Z1 (Z0 (Z5 (vI 0) U U (Z2 (Y8 ?_))))))))))
 obtain ⟨f8, a4, c0⟩ := bSm q0
 refine W3 (id := 0) (fun k f w => ∃ a3 H1, G7 K a0 a1 k a3 = some f8 ∧ Sub H H1 ∧ St H1 w ([(b1, cA [s1] 45)] ++ L) ∧ 0 ≤ a3 ∧ Y3 (Y4 .i64) H1 s0 a0 ∧ Y3 yT H1 s1 a1 ∧ tv f 0 = s0 ∧ tv f 3 = vP b1 ∧ tv f 5 = vI a3) (fun f w => ∃ H1, f8 = .go () ∧ Sub H H1 ∧ St H1 w ([(b1, cA [s1] 45)] ++ L) ∧ Y3 yT H1 s1 a1 ∧ tv f 3 = vP b1) U ?_ ?_ K ?_ ?_
 rintro f w ⟨a3, H1, a4, _⟩
 rw [G7] at a4; cases a4
 rintro k _ _ i9 k5 ⟨a3, j4, a4, Z4, hS, _, b0, b3, b4, b5, b2⟩
 rw [G7] at a4
 refine Z1 (Z1 (Z0 (Z3 (vI a3) (by exact b2) U (Y2 U8 (by exact b5) U (Y1 s1 P1 U (hS.get mL) U U ?_)))))
 have l0 := b3.bound
 refine X9 Q0 U b3 U (V4 (k := .i64) (a := a3) (b := (a1.length : Int)) U U U (Z2 ?_))
 obtain ⟨f9, a4⟩ | ⟨f9, a4⟩ := ic a4
 refine Z8 (bT f9 U) (Y6 (Z1 (Y8 (Z1 (Z0 (Y2 U8 (by exact b5) U (Y1 s1 P1 U (hS.get mL) U U (Z3 (vI a3) (by exact b2) U ?_))))))))
 obtain ⟨_, _, _, _, _, k6, k7, ⟨_, _, rfl, rfl, rfl⟩, k8⟩ := b3.elem (i := a3) (by omega) (by omega)
 refine X6 Q0 U U k6 U (by omega) (by omega) U (U0 (Z7 .u8 (rd a1 a3).1 ++ [vI (rd a1 a3).2]) Yb3 U (hS.froz _ _ k7) U k8 U (U5 (z := vA (Z7 .u8 (fun _ => 0) ++ [vI 0])) (Z7 .u8 (fun _ => 0) ++ [vI 0]).toArray Yg3.zero U hS U (fun b7 _ hS => W1 (v := vA (Z7 .u8 (rd a1 a3).1 ++ [vI (rd a1 a3).2])) (vs := (Z7 .u8 (rd a1 a3).1 ++ [vI (rd a1 a3).2]).toArray) (cs := (Z7 .u8 (fun _ => 0) ++ [vI 0]).toArray) Yb3 U U U hS U (Yg4 (R7 .u8 (rd a1 a3).1) (K9 U)) U (fun _ hS => Z2 (Z1 ?_)))))
 obtain ⟨a8, d4, a4⟩ := bSm a4
 obtain ⟨a7, a4⟩ | ⟨a7, a4⟩ := ic a4
 obtain ⟨a6, d5, a4⟩ := bSm a4
 obtain ⟨a9, a4⟩ | ⟨a9, a4⟩ := ic a4
 obtain ⟨a5, a4⟩ | ⟨a5, a4⟩ := ic a4
 obtain ⟨_, a4⟩ := gd a4
 obtain ⟨_, a4⟩ := gd a4
 obtain ⟨g0, g1, _, _, _, h6, d6, ⟨_, _, rfl, rfl, rfl⟩, h7⟩ := b3.elem (i := (i64.wrap (a3 - 1))) (by omega) (by omega)
 obtain ⟨b9, h8, a4⟩ := bSm a4
 refine W6 28 (S8 [mE 19 s0, mE 20 (vP b7), mE 21 (vA (Z7 .u8 (rd a1 a3).1)), mE 22 (vB a8), mE 23 (vB (!a8)), mE 24 (vB (!a8)), mE 25 (vQ b7 8), mE 26 (vI (rd a1 a3).2), mE 27 (vB a6), mE 28 (vB (!a6)), mE 29 (vB (!a6)), mE 30 (vB (!a6)), mE 31 (vI a3), mE 32 (vB (decide (0 < a3))), mE 33 (vB (decide (0 < a3))), mE 34 (vP b1), mE 35 s1, mE 36 (vI a3), mE 37 (vI (i64.wrap (a3 - 1))), mE 38 (vQ g0 g1), mE 39 (vQ g0 (g1 + 0)), mE 40 (vA (Z7 .u8 (rd a1 (i64.wrap (a3 - 1))).1)), mE 41 (vP b7), mE 42 (vA (Z7 .u8 (rd a1 a3).1)), mE 43 (vB b9), mE 44 (vB (!b9)), mE 45 (vB (!b9)), mE 46 (vB (!b9))]) [] mixed U U U hS (U1 (X4 fun S B => Z3 s0 (evT (B 0 U) b4) U (qz S)) (X4 fun S B => Y2 L6 (evT (B 6 U) U) U (qz S)) (Y7 fun S V => U0 (Z7 .u8 (rd a1 a3).1) P7 (eM (V 1 20 U U)) (S.get (o := cA (Z7 .u8 (rd a1 a3).1 ++ [vI (rd a1 a3).2]) 78) (mR mL)) U (fun j hj => Zn7 [] (Z7 .u8 (rd a1 a3).1) ([vI (rd a1 a3).2]) j hj) U (qz S)) ?_ ?_ ?_ ?_ ?_ (U1 ?_ ?_ ?_ ?_ ?_ ?_ ?_ ?_ (U1 ?_ ?_ ?_ ?_ ?_ ?_ ?_ ?_ (K3 ?_ ?_ ?_ ?_ W9)))) ?_
 intro c1 g2 g3 g4 c3 hS e7 b6 hcq
 have b0 := b0.mono c3
 have c9 : tv c1 19 = s0 := b6 0 19 U U
 have d0 : tv c1 21 = vA (Z7 .u8 (rd a1 a3).1) := b6 2 21 U U
 refine X2 call228 (W8 c9 d0) U (Zs7 d4 b0 hS) ?_
 rintro _ g5 g6 c4 hS rfl
 exact qn c4 U hS U
 exact Y7 fun S V => P5 (b := a8) (eM (V 3 22 U U)) U (qz S)
 exact Y7 fun S V => Z3 (vB (!a8)) (eM (V 4 23 U U)) U (qz S)
 exact K6 fun S B V => Y0 U U (Eq.trans (eM (V 5 24 U U)) (congrArg (fun b => vB (!b)) a7)) (Y2 Zf7 (evT (B 6 U) U) U (qz S))
 intro c7 j0 j1 j2 g7 hS g8 c2 hcq
 have e5 : tv c7 24 = vB (!a8) := c2 5 24 U U
 have e6 : tv c7 25 = vQ b7 8 := c2 6 25 U U
 refine Y0 U U (Eq.trans e5 (congrArg (fun b => vB (!b)) a7)) (Y1 (vI (rd a1 a3).2) ty2 e6 (hS.get (mR mL)) U U (qn (.refl _) U hS U))
 intro c8 j3 g9 h0 f0 hS f1 b8 hcq
 have d1 : tv c8 24 = vB (!a8) := b8 5 24 U U
 have d2 : tv c8 26 = vI (rd a1 a3).2 := b8 7 26 U U
 refine Y0 U U (Eq.trans d1 (congrArg (fun b => vB (!b)) a7)) (X2 call73 (I3 d2 U U) U (Zx7 d5  hS) ?_)
 rintro _ h1 h2 c5 hS rfl
 exact qn c5 U hS U
 exact Y7 fun S V => Y0 U U (Eq.trans (eM (V 5 24 U U)) (congrArg (fun b => vB (!b)) a7)) (P5 (b := a6) (eM (V 8 27 U U)) U (qz S))
 exact Y7 fun S V => W5 (t := false) (vB (!a6)) (Eq.trans (eM (V 5 24 U U)) (congrArg (fun b => vB (!b)) a7)) ((if_neg Bool.false_ne_true).trans (eM (V 9 28 U U))) U (qz S)
 exact Y7 fun S V => Z3 (vB (!a6)) (eM (V 10 29 U U)) U (qz S)
 exact K6 fun S B V => Y0 U U (Eq.trans (eM (V 11 30 U U)) (congrArg (fun b => vB (!b)) a9)) (Z3 (vI a3) (evT (B 5 U) b2) U (qz S))
 intro d3 j5 j6 j7 h9 hS i0 c6 hcq
 have e8 : tv d3 30 = vB (!a6) := c6 11 30 U U
 have e9 : tv d3 31 = vI a3 := c6 12 31 U U
 refine Y0 U U (Eq.trans e8 (congrArg (fun b => vB (!b)) a9)) (A0 (k := .i64) (a := a3) (b := 0) e9 U U (qn (.refl _) U hS U))
 exact Y7 fun S V => Y0 U U (Eq.trans (eM (V 11 30 U U)) (congrArg (fun b => vB (!b)) a9)) (Z3 (vB (decide (0 < a3))) (eM (V 13 32 U U)) U (qz S))
 exact K6 fun S B V => Y0 U U (bT a5 (eM (V 14 33 U U))) (Y2 U8 (evT (B 3 U) b5) U (qz S))
 intro _ _ _ _ _ hS _ f2 hcq
 refine Y0 U U (bT a5 (eM (f2 14 33 U U))) (Y1 s1 P1 (eM (f2 15 34 U U)) (hS.get (mR (mR mL))) U U (qn (.refl _) U hS U))
 exact K6 fun S B V => Y0 U U (bT a5 (eM (V 14 33 U U))) (Z3 (vI a3) (evT (B 5 U) b2) U (qz S))
 intro _ _ _ _ _ hS _ f3 hcq
 refine Y0 U U (bT a5 (eM (f3 14 33 U U))) (Zg8 (i64.wrap (a3 - 1)) (eM (f3 17 36 U U)) U U U (qn (.refl _) U hS U))
 intro _ _ _ _ _ hS _ d7 hcq
 refine Y0 U U (bT a5 (eM (d7 14 33 U U))) (X6 Q0 U (eM (d7 16 35 U U)) h6 (eM (d7 18 37 U U)) (by omega) (by omega) U (qn (.refl _) U hS U))
 exact Y7 fun S V => Y0 U U (bT a5 (eM (V 14 33 U U))) (Y2 L6 (eM (V 19 38 U U)) U (qz S))
 intro _ _ _ _ i1 hS _ f4 hcq
 have d6 := i1.1 _ _ d6
 refine Y0 U U (bT a5 (eM (f4 14 33 U U))) (U0 (Z7 .u8 (rd a1 (i64.wrap (a3 - 1))).1) P7 (eM (f4 20 39 U U)) (hS.froz _ _ d6) U (Zf9 [] (Z7 .u8 (rd a1 (i64.wrap (a3 - 1))).1) ([vI (rd a1 (i64.wrap (a3 - 1))).2]) h7 (nl U)) U (qn (.refl _) U hS U))
 exact K6 fun S B V => Y0 U U (bT a5 (eM (V 14 33 U U))) (Y2 L6 (evT (B 6 U) U) U (qz S))
 intro _ _ _ _ _ hS _ f5 hcq
 refine Y0 U U (bT a5 (eM (f5 14 33 U U))) (U0 (Z7 .u8 (rd a1 a3).1) P7 (eM (f5 22 41 U U)) (hS.get (o := cA (Z7 .u8 (rd a1 a3).1 ++ [vI (rd a1 a3).2]) 78) (mR mL)) U (fun j hj => Zn7 [] (Z7 .u8 (rd a1 a3).1) ([vI (rd a1 a3).2]) j hj) U (qn (.refl _) U hS U))
 intro _ _ _ _ _ hS _ d8 hcq
 refine Y0 U U (bT a5 (eM (d8 14 33 U U))) (X2 call229 (W8 (eM (d8 21 40 U U)) (eM (d8 23 42 U U))) U (Zx3 h8  hS) ?_)
 rintro _ _ _ i2 hS rfl
 exact qn i2 U hS U
 exact Y7 fun S V => Y0 U U (bT a5 (eM (V 14 33 U U))) (P5 (b := b9) (eM (V 24 43 U U)) U (qz S))
 intro _ _ _ _ _ hS _ d9 hcq
 refine Y0 U U (Eq.trans (eM (d9 11 30 U U)) (congrArg (fun b => vB (!b)) a9)) (W5 (t := true) (vB (!b9)) (bT a5 (eM (d9 14 33 U U))) ((if_pos U).trans (eM (d9 25 44 U U))) U (qn (.refl _) U hS U))
 exact Y7 fun S V => W5 (t := false) (vB (!b9)) (Eq.trans (eM (V 11 30 U U)) (congrArg (fun b => vB (!b)) a9)) ((if_neg Bool.false_ne_true).trans (eM (V 26 45 U U))) U (qz S)
 intro j8 j9 h3 e0 hS e1 i3 hcq
 have hS : St h3 j9 ([(b7, cA (Z7 .u8 (rd a1 a3).1 ++ [vI (rd a1 a3).2]) 78)] ++ _) := hS
 have Z4 := Z4.trans e0
 have b0 := b0.mono e0
 have b3 := b3.mono e0
 have h4 : tv j8 46 = vB (!b9) := i3 27 46 (by decide) U
 refine Z2 ?_
 obtain ⟨e2, a4⟩ | ⟨e2, a4⟩ := ic a4
 refine Z6 (Eq.trans (by exact h4) (congrArg (fun b => vB (!b)) e2)) (Y6 (X1 (Z0 (Z3 (vI a3) (by exact (evT (e1 5 U) b2)) U (W4 (a3 + 1) U U (i64_in _ (by omega)) U (Z5 (vI (a3 + 1)) U U (Z2 ?_)))))))
 have hS := St.dA hS
 exact i9 _ _ ⟨(a3 + 1), h3, a4, Z4, hS, (by omega), b0, b3, (evT (e1 0 U) b4), (evT (e1 3 U) b5), U⟩
 refine Z8 (Eq.trans (by exact h4) (congrArg (fun b => vB (!b)) (X8 e2))) (Z1 (Z0 (Z5 (vB false) U U (Z2 (Y9 (vs := [vB false]) func145 Ut ?_)))))
 cases a4
 dsimp only [Ex.elim] at c0
 cases c0
 exact ⟨_, _, U, Z4, (St.dA (St.dA hS)), U⟩
 refine W6 28 (S8 [mE 19 s0, mE 20 (vP b7), mE 21 (vA (Z7 .u8 (rd a1 a3).1)), mE 22 (vB a8), mE 23 (vB (!a8)), mE 24 (vB (!a8)), mE 25 (vQ b7 8), mE 26 (vI (rd a1 a3).2), mE 27 (vB a6), mE 28 (vB (!a6)), mE 29 (vB (!a6)), mE 30 (vB (!a6)), mE 31 (vI a3), mE 32 (vB (decide (0 < a3))), mE 33 (vB (decide (0 < a3))), mE 34 undef, mE 35 undef, mE 36 undef, mE 37 undef, mE 38 undef, mE 39 undef, mE 40 undef, mE 41 undef, mE 42 undef, mE 43 undef, mE 44 undef, mE 45 (vB false), mE 46 (vB false)]) [] mixed U U U hS (U1 (X4 fun S B => Z3 s0 (evT (B 0 U) b4) U (qz S)) (X4 fun S B => Y2 L6 (evT (B 6 U) U) U (qz S)) (Y7 fun S V => U0 (Z7 .u8 (rd a1 a3).1) P7 (eM (V 1 20 U U)) (S.get (o := cA (Z7 .u8 (rd a1 a3).1 ++ [vI (rd a1 a3).2]) 78) (mR mL)) U (fun j hj => Zn7 [] (Z7 .u8 (rd a1 a3).1) ([vI (rd a1 a3).2]) j hj) U (qz S)) ?_ ?_ ?_ ?_ ?_ (U1 ?_ ?_ ?_ ?_ ?_ ?_ ?_ ?_ (U1 ?_ ?_ ?_ ?_ ?_ ?_ ?_ ?_ (K3 ?_ ?_ ?_ ?_ W9)))) ?_
 intro c1 g2 g3 g4 c3 hS e7 b6 hcq
 have b0 := b0.mono c3
 have c9 : tv c1 19 = s0 := b6 0 19 U U
 have d0 : tv c1 21 = vA (Z7 .u8 (rd a1 a3).1) := b6 2 21 U U
 refine X2 call228 (W8 c9 d0) U (Zs7 d4 b0 hS) ?_
 rintro _ g5 g6 c4 hS rfl
 exact qn c4 U hS U
 exact Y7 fun S V => P5 (b := a8) (eM (V 3 22 U U)) U (qz S)
 exact Y7 fun S V => Z3 (vB (!a8)) (eM (V 4 23 U U)) U (qz S)
 exact K6 fun S B V => Y0 U U (Eq.trans (eM (V 5 24 U U)) (congrArg (fun b => vB (!b)) a7)) (Y2 Zf7 (evT (B 6 U) U) U (qz S))
 intro c7 j0 j1 j2 g7 hS g8 c2 hcq
 have e5 : tv c7 24 = vB (!a8) := c2 5 24 U U
 have e6 : tv c7 25 = vQ b7 8 := c2 6 25 U U
 refine Y0 U U (Eq.trans e5 (congrArg (fun b => vB (!b)) a7)) (Y1 (vI (rd a1 a3).2) ty2 e6 (hS.get (mR mL)) U U (qn (.refl _) U hS U))
 intro c8 j3 g9 h0 f0 hS f1 b8 hcq
 have d1 : tv c8 24 = vB (!a8) := b8 5 24 U U
 have d2 : tv c8 26 = vI (rd a1 a3).2 := b8 7 26 U U
 refine Y0 U U (Eq.trans d1 (congrArg (fun b => vB (!b)) a7)) (X2 call73 (I3 d2 U U) U (Zx7 d5  hS) ?_)
 rintro _ h1 h2 c5 hS rfl
 exact qn c5 U hS U
 exact Y7 fun S V => Y0 U U (Eq.trans (eM (V 5 24 U U)) (congrArg (fun b => vB (!b)) a7)) (P5 (b := a6) (eM (V 8 27 U U)) U (qz S))
 exact Y7 fun S V => W5 (t := false) (vB (!a6)) (Eq.trans (eM (V 5 24 U U)) (congrArg (fun b => vB (!b)) a7)) ((if_neg Bool.false_ne_true).trans (eM (V 9 28 U U))) U (qz S)
 exact Y7 fun S V => Z3 (vB (!a6)) (eM (V 10 29 U U)) U (qz S)
 exact K6 fun S B V => Y0 U U (Eq.trans (eM (V 11 30 U U)) (congrArg (fun b => vB (!b)) a9)) (Z3 (vI a3) (evT (B 5 U) b2) U (qz S))
 intro d3 j5 j6 j7 h9 hS i0 c6 hcq
 have e8 : tv d3 30 = vB (!a6) := c6 11 30 U U
 have e9 : tv d3 31 = vI a3 := c6 12 31 U U
 refine Y0 U U (Eq.trans e8 (congrArg (fun b => vB (!b)) a9)) (A0 (k := .i64) (a := a3) (b := 0) e9 U U (qn (.refl _) U hS U))
 exact Y7 fun S V => Y0 U U (Eq.trans (eM (V 11 30 U U)) (congrArg (fun b => vB (!b)) a9)) (Z3 (vB (decide (0 < a3))) (eM (V 13 32 U U)) U (qz S))
 exact Y7 fun S V => Z9 U U (bF a5 (eM (V 14 33 U U))) U U U (qz S)
 exact Y7 fun S V => Z9 U U (bF a5 (eM (V 14 33 U U))) U U U (qz S)
 exact Y7 fun S V => Z9 U U (bF a5 (eM (V 14 33 U U))) U U U (qz S)
 exact Y7 fun S V => Z9 U U (bF a5 (eM (V 14 33 U U))) U U U (qz S)
 exact Y7 fun S V => Z9 U U (bF a5 (eM (V 14 33 U U))) U U U (qz S)
 exact Y7 fun S V => Z9 U U (bF a5 (eM (V 14 33 U U))) U U U (qz S)
 exact Y7 fun S V => Z9 U U (bF a5 (eM (V 14 33 U U))) U U U (qz S)
 exact Y7 fun S V => Z9 U U (bF a5 (eM (V 14 33 U U))) U U U (qz S)
 exact Y7 fun S V => Z9 U U (bF a5 (eM (V 14 33 U U))) U U U (qz S)
 exact Y7 fun S V => Z9 U U (bF a5 (eM (V 14 33 U U))) U U U (qz S)
 exact Y7 fun S V => Z9 U U (bF a5 (eM (V 14 33 U U))) U U U (qz S)
 intro _ _ _ _ _ hS _ f6 hcq
 refine Y0 U U (Eq.trans (eM (f6 11 30 U U)) (congrArg (fun b => vB (!b)) a9)) (W5 (t := false) (vB false) (bF a5 (eM (f6 14 33 U U))) ((if_neg Bool.false_ne_true).trans U) U (qn (.refl _) U hS U))
 exact Y7 fun S V => W5 (t := false) (vB false) (Eq.trans (eM (V 11 30 U U)) (congrArg (fun b => vB (!b)) a9)) ((if_neg Bool.false_ne_true).trans (eM (V 26 45 U U))) U (qz S)
 intro _ k0 h5 e3 hS e4 i4 hcq
 have hS : St h5 k0 ([(b7, cA (Z7 .u8 (rd a1 a3).1 ++ [vI (rd a1 a3).2]) 78)] ++ _) := hS
 have Z4 := Z4.trans e3
 have b0 := b0.mono e3
 have b3 := b3.mono e3
 refine Z2 (Z6 (by exact (eM (i4 27 46 (by decide) U))) (Y6 (X1 (Z0 (Z3 (vI a3) (by exact (evT (e4 5 U) b2)) U (W4 (a3 + 1) U U (i64_in _ (by omega)) U (Z5 (vI (a3 + 1)) U U (Z2 ?_))))))))
 have hS := St.dA hS
 exact i9 _ _ ⟨(a3 + 1), h5, a4, Z4, hS, (by omega), b0, b3, (evT (e4 0 U) b4), (evT (e4 3 U) b5), U⟩
 refine W6 28 (S8 [mE 19 s0, mE 20 (vP b7), mE 21 (vA (Z7 .u8 (rd a1 a3).1)), mE 22 (vB a8), mE 23 (vB (!a8)), mE 24 (vB (!a8)), mE 25 (vQ b7 8), mE 26 (vI (rd a1 a3).2), mE 27 (vB a6), mE 28 (vB (!a6)), mE 29 (vB (!a6)), mE 30 (vB (!a6)), mE 31 undef, mE 32 undef, mE 33 undef, mE 34 undef, mE 35 undef, mE 36 undef, mE 37 undef, mE 38 undef, mE 39 undef, mE 40 undef, mE 41 undef, mE 42 undef, mE 43 undef, mE 44 undef, mE 45 undef, mE 46 (vB true)]) [] mixed U U U hS (U1 (X4 fun S B => Z3 s0 (evT (B 0 U) b4) U (qz S)) (X4 fun S B => Y2 L6 (evT (B 6 U) U) U (qz S)) (Y7 fun S V => U0 (Z7 .u8 (rd a1 a3).1) P7 (eM (V 1 20 U U)) (S.get (o := cA (Z7 .u8 (rd a1 a3).1 ++ [vI (rd a1 a3).2]) 78) (mR mL)) U (fun j hj => Zn7 [] (Z7 .u8 (rd a1 a3).1) ([vI (rd a1 a3).2]) j hj) U (qz S)) ?_ ?_ ?_ ?_ ?_ (U1 ?_ ?_ ?_ ?_ ?_ ?_ ?_ ?_ (U1 ?_ ?_ ?_ ?_ ?_ ?_ ?_ ?_ (K3 ?_ ?_ ?_ ?_ W9)))) ?_
 intro c1 g2 g3 g4 c3 hS e7 b6 hcq
 have b0 := b0.mono c3
 have c9 : tv c1 19 = s0 := b6 0 19 U U
 have d0 : tv c1 21 = vA (Z7 .u8 (rd a1 a3).1) := b6 2 21 U U
 refine X2 call228 (W8 c9 d0) U (Zs7 d4 b0 hS) ?_
 rintro _ g5 g6 c4 hS rfl
 exact qn c4 U hS U
 exact Y7 fun S V => P5 (b := a8) (eM (V 3 22 U U)) U (qz S)
 exact Y7 fun S V => Z3 (vB (!a8)) (eM (V 4 23 U U)) U (qz S)
 exact K6 fun S B V => Y0 U U (Eq.trans (eM (V 5 24 U U)) (congrArg (fun b => vB (!b)) a7)) (Y2 Zf7 (evT (B 6 U) U) U (qz S))
 intro c7 j0 j1 j2 g7 hS g8 c2 hcq
 have e5 : tv c7 24 = vB (!a8) := c2 5 24 U U
 have e6 : tv c7 25 = vQ b7 8 := c2 6 25 U U
 refine Y0 U U (Eq.trans e5 (congrArg (fun b => vB (!b)) a7)) (Y1 (vI (rd a1 a3).2) ty2 e6 (hS.get (mR mL)) U U (qn (.refl _) U hS U))
 intro c8 j3 g9 h0 f0 hS f1 b8 hcq
 have d1 : tv c8 24 = vB (!a8) := b8 5 24 U U
 have d2 : tv c8 26 = vI (rd a1 a3).2 := b8 7 26 U U
 refine Y0 U U (Eq.trans d1 (congrArg (fun b => vB (!b)) a7)) (X2 call73 (I3 d2 U U) U (Zx7 d5  hS) ?_)
 rintro _ h1 h2 c5 hS rfl
 exact qn c5 U hS U
 exact Y7 fun S V => Y0 U U (Eq.trans (eM (V 5 24 U U)) (congrArg (fun b => vB (!b)) a7)) (P5 (b := a6) (eM (V 8 27 U U)) U (qz S))
 exact Y7 fun S V => W5 (t := false) (vB (!a6)) (Eq.trans (eM (V 5 24 U U)) (congrArg (fun b => vB (!b)) a7)) ((if_neg Bool.false_ne_true).trans (eM (V 9 28 U U))) U (qz S)
 exact Y7 fun S V => Z3 (vB (!a6)) (eM (V 10 29 U U)) U (qz S)
 exact Y7 fun S V => Z9 U U (Eq.trans (eM (V 11 30 U U)) (congrArg (fun b => vB (!b)) (X8 a9))) U U U (qz S)
 exact Y7 fun S V => Z9 U U (Eq.trans (eM (V 11 30 U U)) (congrArg (fun b => vB (!b)) (X8 a9))) U U U (qz S)
 exact Y7 fun S V => Z9 U U (Eq.trans (eM (V 11 30 U U)) (congrArg (fun b => vB (!b)) (X8 a9))) U U U (qz S)
 exact Y7 fun S V => V2 U U (eM (V 14 33 U U)) U U (qz S)
 exact Y7 fun S V => V2 U U (eM (V 14 33 U U)) U U (qz S)
 exact Y7 fun S V => V2 U U (eM (V 14 33 U U)) U U (qz S)
 exact Y7 fun S V => V2 U U (eM (V 14 33 U U)) U U (qz S)
 exact Y7 fun S V => V2 U U (eM (V 14 33 U U)) U U (qz S)
 exact Y7 fun S V => V2 U U (eM (V 14 33 U U)) U U (qz S)
 exact Y7 fun S V => V2 U U (eM (V 14 33 U U)) U U (qz S)
 exact Y7 fun S V => V2 U U (eM (V 14 33 U U)) U U (qz S)
 exact Y7 fun S V => V2 U U (eM (V 14 33 U U)) U U (qz S)
 exact Y7 fun S V => V2 U U (eM (V 14 33 U U)) U U (qz S)
 exact Y7 fun S V => V2 U U (eM (V 14 33 U U)) U U (qz S)
 exact Y7 fun S V => Z9 U U (Eq.trans (eM (V 11 30 U U)) (congrArg (fun b => vB (!b)) (X8 a9))) U U U (qz S)
 exact Y7 fun S V => W5 (t := true) (vB true) (Eq.trans (eM (V 11 30 U U)) (congrArg (fun b => vB (!b)) (X8 a9))) ((if_pos U).trans U) U (qz S)
 intro _ k1 k2 i5 hS _ i6 hcq
 have hS : St k2 k1 ([(b7, cA (Z7 .u8 (rd a1 a3).1 ++ [vI (rd a1 a3).2]) 78)] ++ _) := hS
 have Z4 := Z4.trans i5
 refine Z2 (Z8 (by exact (eM (i6 27 46 (by decide) U))) (Z1 (Z0 (Z5 (vB false) U U (Z2 (Y9 (vs := [vB false]) func145 Ut ?_))))))
 cases a4
 dsimp only [Ex.elim] at c0
 cases c0
 exact ⟨_, _, U, Z4, (St.dA (St.dA hS)), U⟩
 refine W6 28 (S8 [mE 19 s0, mE 20 (vP b7), mE 21 (vA (Z7 .u8 (rd a1 a3).1)), mE 22 (vB a8), mE 23 (vB (!a8)), mE 24 (vB (!a8)), mE 25 undef, mE 26 undef, mE 27 undef, mE 28 undef, mE 29 (vB true), mE 30 (vB true), mE 31 undef, mE 32 undef, mE 33 undef, mE 34 undef, mE 35 undef, mE 36 undef, mE 37 undef, mE 38 undef, mE 39 undef, mE 40 undef, mE 41 undef, mE 42 undef, mE 43 undef, mE 44 undef, mE 45 undef, mE 46 (vB true)]) [] mixed U U U hS (U1 (X4 fun S B => Z3 s0 (evT (B 0 U) b4) U (qz S)) (X4 fun S B => Y2 L6 (evT (B 6 U) U) U (qz S)) (Y7 fun S V => U0 (Z7 .u8 (rd a1 a3).1) P7 (eM (V 1 20 U U)) (S.get (o := cA (Z7 .u8 (rd a1 a3).1 ++ [vI (rd a1 a3).2]) 78) (mR mL)) U (fun j hj => Zn7 [] (Z7 .u8 (rd a1 a3).1) ([vI (rd a1 a3).2]) j hj) U (qz S)) ?_ ?_ ?_ ?_ ?_ (U1 ?_ ?_ ?_ ?_ ?_ ?_ ?_ ?_ (U1 ?_ ?_ ?_ ?_ ?_ ?_ ?_ ?_ (K3 ?_ ?_ ?_ ?_ W9)))) ?_
 intro c1 g2 g3 g4 c3 hS e7 b6 hcq
 have b0 := b0.mono c3
 have c9 : tv c1 19 = s0 := b6 0 19 U U
 have d0 : tv c1 21 = vA (Z7 .u8 (rd a1 a3).1) := b6 2 21 U U
 refine X2 call228 (W8 c9 d0) U (Zs7 d4 b0 hS) ?_
 rintro _ g5 g6 c4 hS rfl
 exact qn c4 U hS U
 exact Y7 fun S V => P5 (b := a8) (eM (V 3 22 U U)) U (qz S)
 exact Y7 fun S V => Z3 (vB (!a8)) (eM (V 4 23 U U)) U (qz S)
 exact Y7 fun S V => Z9 U U (Eq.trans (eM (V 5 24 U U)) (congrArg (fun b => vB (!b)) (X8 a7))) U U U (qz S)
 exact Y7 fun S V => Z9 U U (Eq.trans (eM (V 5 24 U U)) (congrArg (fun b => vB (!b)) (X8 a7))) U U U (qz S)
 exact Y7 fun S V => Z9 U U (Eq.trans (eM (V 5 24 U U)) (congrArg (fun b => vB (!b)) (X8 a7))) U U U (qz S)
 exact Y7 fun S V => Z9 U U (Eq.trans (eM (V 5 24 U U)) (congrArg (fun b => vB (!b)) (X8 a7))) U U U (qz S)
 exact Y7 fun S V => W5 (t := true) (vB true) (Eq.trans (eM (V 5 24 U U)) (congrArg (fun b => vB (!b)) (X8 a7))) ((if_pos U).trans U) U (qz S)
 exact Y7 fun S V => Z3 (vB true) (eM (V 10 29 U U)) U (qz S)
 exact Y7 fun S V => Z9 U U (eM (V 11 30 U U)) U U U (qz S)
 exact Y7 fun S V => Z9 U U (eM (V 11 30 U U)) U U U (qz S)
 exact Y7 fun S V => Z9 U U (eM (V 11 30 U U)) U U U (qz S)
 exact Y7 fun S V => V2 U U (eM (V 14 33 U U)) U U (qz S)
 exact Y7 fun S V => V2 U U (eM (V 14 33 U U)) U U (qz S)
 exact Y7 fun S V => V2 U U (eM (V 14 33 U U)) U U (qz S)
 exact Y7 fun S V => V2 U U (eM (V 14 33 U U)) U U (qz S)
 exact Y7 fun S V => V2 U U (eM (V 14 33 U U)) U U (qz S)
 exact Y7 fun S V => V2 U U (eM (V 14 33 U U)) U U (qz S)
 exact Y7 fun S V => V2 U U (eM (V 14 33 U U)) U U (qz S)
 exact Y7 fun S V => V2 U U (eM (V 14 33 U U)) U U (qz S)
 exact Y7 fun S V => V2 U U (eM (V 14 33 U U)) U U (qz S)
 exact Y7 fun S V => V2 U U (eM (V 14 33 U U)) U U (qz S)
 exact Y7 fun S V => V2 U U (eM (V 14 33 U U)) U U (qz S)
 exact Y7 fun S V => Z9 U U (eM (V 11 30 U U)) U U U (qz S)
 exact Y7 fun S V => W5 (t := true) (vB true) (eM (V 11 30 U U)) ((if_pos U).trans U) U (qz S)
 intro _ k3 k4 i7 hS _ i8 hcq
 have hS : St k4 k3 ([(b7, cA (Z7 .u8 (rd a1 a3).1 ++ [vI (rd a1 a3).2]) 78)] ++ _) := hS
 have Z4 := Z4.trans i7
 refine Z2 (Z8 (by exact (eM (i8 27 46 (by decide) U))) (Z1 (Z0 (Z5 (vB false) U U (Z2 (Y9 (vs := [vB false]) func145 Ut ?_))))))
 cases a4
 dsimp only [Ex.elim] at c0
 cases c0
 exact ⟨_, _, U, Z4, (St.dA (St.dA hS)), U⟩
 refine Z6 (bF f9 U) (W2 U ?_)
 cases a4
 exact k5 _ _ ⟨j4, U, Z4, hS, b3, b5⟩
 exact ⟨0, H, a4, Z4, hS, (by omega), b0, b3, U, U, U⟩
 rintro _ _ ⟨_, rfl, Z4, hS, b3, f7⟩
 dsimp only [Ex.elim] at c0
 refine Z1 (Z0 (Y2 U8 (by exact f7) U (Y1 s1 P1 U (hS.get mL) U U ?_)))
 have k9 := b3.bound
 refine X9 Q0 U b3 U (Yj8 (k := .i64) (a := (a1.length : Int)) (b := 400) U U U (Z5 (vB (decide ((a1.length : Int) ≤ 400))) U U (Z2 (Y9 (vs := [vB (decide ((a1.length : Int) ≤ 400))]) func145 Ut ?_))))
 cases c0
 exact ⟨_, _, U, Z4, (St.dA hS), U⟩
def Q7 (K : Nat) (a0 : List Int) (a1 : MpT) (r8 : Int) : Nat → Int → Option (Ex (Int × Bool) Unit)
 | 0, _ => none
 | k + 1, a3 => (if a3 < (a1.length : Int) then ((Zb9 K a0 (rd a1 a3).1).bind fun b7 => (if b7 = r8 then Q7 K a0 a1 r8 k (a3 + 1) else some (.ret (0, false)))) else some (.go ()))
def Zb8 (K : Nat) (a0 : List Int) (a1 : MpT) : Option (Int × Bool) := (if (a1.length : Int) = 0 then some ((-1), true) else (if 0 < (a1.length : Int) then ((Zb9 K a0 (rd a1 0).1).bind fun r8 => ((Q7 K a0 a1 r8 K 1).bind (Ex.elim (fun r => some r) (fun s => some (r8, true))))) else none))
theorem Yf3 {a0 : List Int} {a1 : MpT} {r : (Int × Bool)} (q0 : Zb8 K a0 a1 = some r) (a6 : Y3 (Y4 .i64) H s0 a0) (a5 : Y3 yT H s1 a1) (hS : St H w L) :
 Calls prog 146 #[s0, vA [s1]] w (T4 (fun v G => (R.t2 (R.int .i64) R.bool).p G v r) H L) := by
 have Z4 := Sub.refl H
 refine X0 func146 U ntmps146 U ?_
 unfold Zb8 at q0
 refine Z1 (Z0 (T8 (v := vA [s1]) [s1].toArray U U hS U (fun b1 _ hS => Z5 (vI 0) U U (Z5 (vB false) U U (Z2 (Z1 (Z1 (Z0 (Y2 U8 U U (Y1 s1 P1 U (hS.get mL) U U ?_))))))))))
 have d4 := a5.bound
 refine X9 Q0 U a5 U (Zb2 (k := .i64) (a := (a1.length : Int)) (b := 0) U U U (Z2 ?_))
 obtain ⟨b8, q0⟩ | ⟨b8, q0⟩ := ic q0
 refine Z8 (bT b8 U) (Z1 (Z0 (Z5 (vI (-1)) U U (Z5 (vB true) U U (Z2 (Y9 (vs := [vI (-1), vB true]) func146 ⟨U, U, trivial⟩ ?_))))))
 cases q0
 exact ⟨_, _, U, Z4, (St.dA hS), ⟨_, _, U, U, U⟩⟩
 refine Z6 (bF b8 U) (Y6 (Z1 (Z0 (Z3 s0 U U (Y2 U8 U U (Y1 s1 P1 U (hS.get mL) U U ?_))))))
 obtain ⟨_, q0⟩ := gd q0
 obtain ⟨_, _, _, _, _, c6, c7, ⟨_, _, rfl, rfl, rfl⟩, c8⟩ := a5.elem (i := 0) (by omega) (by omega)
 refine X6 Q0 U U c6 U (by omega) (by omega) U (Y2 L6 U U (U0 (Z7 .u8 (rd a1 0).1) P7 U (hS.froz _ _ c7) U (Zf9 [] (Z7 .u8 (rd a1 0).1) ([vI (rd a1 0).2]) c8 (nl U)) U ?_))
 obtain ⟨r8, c9, q0⟩ := bSm q0
 refine X2 call207 (W8 U U) U (Zw8 c9 a6 hS) ?_
 rintro _ H8 _ b9 hS rfl
 have Z4 := Z4.trans b9
 have a6 := a6.mono b9
 have a5 := a5.mono b9
 refine Z5 (vI r8) U U (Z2 (Z1 (Z1 (Z0 (Z5 (vI 1) U U (Z2 (Y8 ?_)))))))
 obtain ⟨c0, a4, b2⟩ := bSm q0
 refine W3 (id := 0) (fun k f w => ∃ a3 H1, Q7 K a0 a1 r8 k a3 = some c0 ∧ Sub H H1 ∧ St H1 w ([(b1, cA [s1] 45)] ++ L) ∧ 0 ≤ a3 ∧ Y3 (Y4 .i64) H1 s0 a0 ∧ Y3 yT H1 s1 a1 ∧ tv f 0 = s0 ∧ tv f 3 = vP b1 ∧ tv f 6 = vI r8 ∧ tv f 7 = vI a3) (fun f w => ∃ H1, c0 = .go () ∧ Sub H H1 ∧ St H1 w ([(b1, cA [s1] 45)] ++ L) ∧ Y3 yT H1 s1 a1 ∧ tv f 6 = vI r8) U ?_ ?_ K ?_ ?_
 rintro f w ⟨a3, H1, a4, _⟩
 rw [Q7] at a4; cases a4
 rintro k _ _ d0 d1 ⟨a3, c1, a4, Z4, hS, _, a6, a5, b0, a7, a8, a9⟩
 rw [Q7] at a4
 refine Z1 (Z1 (Z0 (Z3 (vI a3) (by exact a9) U (Y2 U8 (by exact a7) U (Y1 s1 P1 U (hS.get mL) U U ?_)))))
 have d3 := a5.bound
 refine X9 Q0 U a5 U (V4 (k := .i64) (a := a3) (b := (a1.length : Int)) U U U (Z2 ?_))
 obtain ⟨b3, a4⟩ | ⟨b3, a4⟩ := ic a4
 refine Z8 (bT b3 U) (Y6 (Z1 (Y8 (Z1 (Z0 (Z3 s0 (by exact b0) U (Y2 U8 (by exact a7) U (Y1 s1 P1 U (hS.get mL) U U (Z3 (vI a3) (by exact a9) U ?_)))))))))
 obtain ⟨_, _, _, _, _, c2, c3, ⟨_, _, rfl, rfl, rfl⟩, c4⟩ := a5.elem (i := a3) (by omega) (by omega)
 refine X6 Q0 U U c2 U (by omega) (by omega) U (Y2 L6 U U (U0 (Z7 .u8 (rd a1 a3).1) P7 U (hS.froz _ _ c3) U (Zf9 [] (Z7 .u8 (rd a1 a3).1) ([vI (rd a1 a3).2]) c4 (nl U)) U ?_))
 obtain ⟨b7, c5, a4⟩ := bSm a4
 refine X2 call207 (W8 U U) U (Zw8 c5 a6 hS) ?_
 rintro _ d2 _ b4 hS rfl
 have Z4 := Z4.trans b4
 have a6 := a6.mono b4
 have a5 := a5.mono b4
 refine Z3 (vI r8) (by exact a8) U (L1 (k := .i64) (a := b7) (b := r8) U U U (Z2 ?_))
 obtain ⟨b5, a4⟩ | ⟨b5, a4⟩ := ic a4
 refine Z6 (bN b5 U) (Y6 (X1 (Z0 (Z3 (vI a3) (by exact a9) U (W4 (a3 + 1) U U (i64_in _ (by omega)) U (Z5 (vI (a3 + 1)) U U (Z2 (d0 _ _ ⟨(a3 + 1), d2, a4, Z4, hS, (by omega), a6, a5, b0, a7, a8, U⟩))))))))
 refine Z8 (bO b5 U) (Z1 (Z0 (Z5 (vI 0) U U (Z5 (vB false) U U (Z2 (Y9 (vs := [vI 0, vB false]) func146 ⟨U, U, trivial⟩ ?_))))))
 cases a4
 dsimp only [Ex.elim] at b2
 cases b2
 exact ⟨_, _, U, Z4, (St.dA hS), ⟨_, _, U, U, U⟩⟩
 refine Z6 (bF b3 U) (W2 U ?_)
 cases a4
 exact d1 _ _ ⟨c1, U, Z4, hS, a5, a8⟩
 exact ⟨1, H8, a4, Z4, hS, (by omega), a6, a5, U, U, U, U⟩
 rintro _ _ ⟨_, rfl, Z4, hS, a5, b6⟩
 dsimp only [Ex.elim] at b2
 refine Z1 (Z0 (Z3 (vI r8) (by exact b6) U (Z5 (vI r8) U U (Z5 (vB true) U U (Z2 (Y9 (vs := [vI r8, vB true]) func146 ⟨U, U, trivial⟩ ?_))))))
 cases b2
 exact ⟨_, _, U, Z4, (St.dA hS), ⟨_, _, U, U, U⟩⟩
def Zd2 (K : Nat) (a0 : MpT) : Nat → Int → MpT → Option (Ex MpT MpT)
 | 0, _, _ => none
 | k + 1, a1, a3 => (if a1 < (a0.length : Int) then ((Zf5 K (rd a0 a1).1).bind fun b6 => Zd2 K a0 k (a1 + 1) (Zc9 a3 b6 (rd a0 a1).2)) else some (.go a3))
def Zo8 (K : Nat) (a0 : MpT) : Option MpT := ((Zd2 K a0 K 0 ([] : MpT)).bind (Ex.elim (fun r => some r) (fun s => (fun (a7 : MpT) => some a7) s)))
theorem Zx6 {a0 r : MpT} (q0 : Zo8 K a0 = some r) (a8 : Y3 yT H s0 a0) (hS : St H w L) :
 Calls prog 110 #[vA [s0]] w (Xt4 .i64 r H L) := by
 have Z4 := Sub.refl H
 refine X0 func110 U ntmps110 U ?_
 unfold Zo8 at q0
 refine Z1 (Z0 (T8 (v := vA [s0]) [s0].toArray U U hS U (fun b1 _ hS => Z5 (Value.map none) U U (Z2 (Z1 (Z0 (Yi9 (k := .i64) hS U (fun m4 _ C6 d4 hS => Z5 m4 U U (Z2 (Z1 (Z1 (Z0 (Y2 U8 U U (Y1 s0 P1 U (hS.get (mR mL)) U U ?_))))))))))))))
 have d9 := a8.bound
 refine X9 Q0 U a8 U (Z3 (vI 0) U U (Z2 (Y8 ?_)))
 obtain ⟨c2, a4, c3⟩ := bSm q0
 refine W3 (id := 0) (fun k f w => ∃ a1 a3 H1 a5, Zd2 K a0 k a1 a3 = some c2 ∧ Sub H H1 ∧ St H1 w (a5 ++ ([(b1, cA [s0] 45)] ++ L)) ∧ 0 ≤ a1 ∧ Q8 .i64 m4 a3 a5 ∧ Y3 yT H1 s0 a0 ∧ tv f 3 = m4 ∧ tv f 8 = s0 ∧ tv f 9 = vI (a0.length : Int) ∧ tv f 10 = vI a1) (fun f w => ∃ a7 H1 a9, c2 = .go a7 ∧ Sub H H1 ∧ St H1 w (a9 ++ ([(b1, cA [s0] 45)] ++ L)) ∧ Q8 .i64 m4 a7 a9 ∧ Y3 yT H1 s0 a0 ∧ tv f 3 = m4) U ?_ ?_ K ?_ ?_
 rintro f w ⟨a1, a3, H1, a5, a4, _⟩
 rw [Zd2] at a4; cases a4
 rintro k _ _ d5 d6 ⟨a1, a3, c6, a5, a4, Z4, hS, _, a6, a8, b2, b3, b4, b0⟩
 rw [Zd2] at a4
 refine Z1 (Z0 (V4 (k := .i64) (a := a1) (b := (a0.length : Int)) (by exact b0) (by exact b4) U (Z2 (Z1 ?_))))
 obtain ⟨b8, a4⟩ | ⟨b8, a4⟩ := ic a4
 refine Z8 (bT b8 U) (Y6 (Z1 (Y8 (Z1 (Z0 ?_)))))
 obtain ⟨_, _, _, _, _, c7, c8, ⟨_, _, rfl, rfl, rfl⟩, c9⟩ := a8.elem (i := a1) (by omega) (by omega)
 refine X6 Q0 U (by exact b3) c7 (by exact b0) (by omega) (by omega) U (U0 (Z7 .u8 (rd a0 a1).1 ++ [vI (rd a0 a1).2]) Yb3 U (hS.froz _ _ c8) U c9 U (U5 (z := vA (Z7 .u8 (fun _ => 0) ++ [vI 0])) (Z7 .u8 (fun _ => 0) ++ [vI 0]).toArray Yg3.zero U hS U (fun c4 _ hS => W1 (v := vA (Z7 .u8 (rd a0 a1).1 ++ [vI (rd a0 a1).2])) (vs := (Z7 .u8 (rd a0 a1).1 ++ [vI (rd a0 a1).2]).toArray) (cs := (Z7 .u8 (fun _ => 0) ++ [vI 0]).toArray) Yb3 U U U hS U (Yg4 (R7 .u8 (rd a0 a1).1) (K9 U)) U (fun _ hS => Z2 ?_))))
 obtain ⟨b6, d0, a4⟩ := bSm a4
 refine W6 6 (S8 [mE 14 m4, mE 15 (vP c4), mE 16 (vA (Z7 .u8 (rd a0 a1).1)), mE 17 (vA (Z7 .i64 b6)), mE 18 (vQ c4 8), mE 19 (vI (rd a0 a1).2)]) [] mixed U U U hS (K3 (X4 fun S B => Z3 m4 (evT (B 3 U) b2) U (qz S)) (X4 fun S B => Y2 L6 (evT (B 5 U) U) U (qz S)) (Y7 fun S V => U0 (Z7 .u8 (rd a0 a1).1) P7 (eM (V 1 15 U U)) (S.get (o := cA (Z7 .u8 (rd a0 a1).1 ++ [vI (rd a0 a1).2]) 78) (mR mL)) U (fun j hj => Zn7 [] (Z7 .u8 (rd a0 a1).1) ([vI (rd a0 a1).2]) j hj) U (qz S)) ?_ (L7 ?_ ?_ W9)) ?_
 intro _ _ _ _ _ hS _ d1 hcq
 refine X2 call192 (S4 (eM (d1 2 16 U U))) U (Zs4 d0  hS) ?_
 rintro _ _ _ d2 hS ⟨_, rfl, rfl⟩
 exact qn d2 U hS U
 exact X4 fun S B => Y2 Zf7 (evT (B 5 U) U) U (qz S)
 exact Y7 fun S V => Y1 (vI (rd a0 a1).2) ty2 (eM (V 4 18 U U)) (S.get (mR mL)) U U (qz S)
 intro _ d7 c5 b9 hS b5 c0 hcq
 have hS : St c5 d7 ([(c4, cA (Z7 .u8 (rd a0 a1).1 ++ [vI (rd a0 a1).2]) 78)] ++ (a5 ++ _)) := hS
 have Z4 := Z4.trans b9
 have a8 := a8.mono b9
 have a6 := a6.mono b9
 have hS := hS.perm R5
 refine Yq3 (a := b6) (m := (rd a0 a1).2) Zs5 (by exact (eM (c0 0 14 (by decide) U))) (by exact (eM (c0 3 17 (by decide) U))) (by exact (eM (c0 5 19 (by decide) U))) a6 hS ?_
 intro _ d8 d3 hS
 have hS := hS.perm R5.symm
 refine Z2 (X1 (Z0 (W4 (a1 + 1) (by exact (evT (b5 10 U) b0)) U (i64_in _ (by omega)) U (Z3 (vI (a1 + 1)) U U (Z2 ?_)))))
 have hS := St.dA hS
 exact d5 _ _ ⟨(a1 + 1), (Zc9 a3 b6 (rd a0 a1).2), c5, d8, a4, Z4, hS, (by omega), d3, a8, (evT (b5 3 U) b2), (evT (b5 8 U) b3), (evT (b5 9 U) b4), U⟩
 refine Z6 (bF b8 U) (W2 U ?_)
 cases a4
 exact d6 _ _ ⟨a3, c6, a5, U, Z4, hS, a6, a8, b2⟩
 exact ⟨0, ([] : MpT), H, C6, a4, Z4, hS, (by omega), d4, a8, U, U, U, U⟩
 rintro _ _ ⟨a7, _, a9, rfl, Z4, hS, b7, a8, c1⟩
 dsimp only [Ex.elim] at c3
 refine Z1 (Z0 (Z3 m4 (by exact c1) U (Z5 m4 U U (Z2 (Y9 (vs := [m4]) func110 Ut ?_)))))
 have hS := St.dropMid hS
 cases c3
 exact ⟨_, _, _, U, Z4, hS, b7⟩
def Zv8 (K : Nat) (a0 : (A8 × Int)) : Option (A8 × Int) := ((Zm3 K a0.1).bind fun a1 => some (a1, a0.2))
theorem Xg9 {a0 r : (A8 × Int)} (q0 : Zv8 K a0 = some r) (hS : St H w L) :
 Calls prog 167 #[vA (Z7 .u8 a0.1 ++ [vI a0.2])] w (T4 (fun v G => (R.agg yT).p (G.new H) v r) H L) := by
 have Z4 := Sub.refl H
 refine X0 func167 U ntmps167 U ?_
 unfold Zv8 at q0
 refine Z1 (Z0 (T8 (v := vA (Z7 .u8 a0.1 ++ [vI a0.2])) (Z7 .u8 a0.1 ++ [vI a0.2]).toArray U U hS U (fun _ _ hS => U5 (z := vA (Z7 .u8 (fun _ => 0) ++ [vI 0])) (Z7 .u8 (fun _ => 0) ++ [vI 0]).toArray Yg3.zero U hS U (fun _ _ hS => Z2 (Z1 (Z0 (U5 (z := vA (Z7 .u8 (fun _ => 0) ++ [vI 0])) (Z7 .u8 (fun _ => 0) ++ [vI 0]).toArray Yg3.zero U hS U (fun _ _ hS => Z2 (Z1 (Z0 (Y2 Wu9 U U (U0 (Z7 .u8 a0.1) Vm5 U (hS.get (o := cA (Z7 .u8 a0.1 ++ [vI a0.2]) 199) (mR (mR mL))) U (fun j hj => Zn7 [] (Z7 .u8 a0.1) ([vI a0.2]) j hj) U ?_))))))))))))
 obtain ⟨a1, a3, q0⟩ := bSm q0
 refine X2 call238 (S4 U) U (Yv0 a3  hS) ?_
 rintro _ _ _ a4 hS ⟨_, rfl, rfl⟩
 have Z4 := Z4.trans a4
 refine Y2 L6 U U (J7 (v := vA (Z7 .u8 a1)) (cs := (Z7 .u8 (fun _ => 0) ++ [vI 0]).toArray) (cs' := (Z7 .u8 a1 ++ [vI 0]).toArray) P7 U U hS U (R7 .u8 a1) (nl U) (by have h := Xc5 (Z7 .u8 a1) [] (Z7 .u8 (fun _ => 0)) ([vI 0]) U; simp only [append_assoc, nil_append, append_nil] at h ⊢; exact h) (fun _ hS => Z2 (Z1 (Z0 (Y2 Wt4 U U (Y1 (vI a0.2) ty2 U (hS.get (mR (mR mL))) U U (Y2 Zf7 U U (J7 (v := vI a0.2) (cs := (Z7 .u8 a1 ++ [vI 0]).toArray) (cs' := (Z7 .u8 a1 ++ [vI a0.2]).toArray) ty2 U U hS U (Zv6 U) (nl U) U (fun _ hS => Z2 (Z1 (Z0 (X5 Yb3 U (hS.get mL) U U ?_))))))))))))
 have hS := hS.perm R5
 refine W1 (v := vA (Z7 .u8 a1 ++ [vI a0.2])) (vs := (Z7 .u8 a1 ++ [vI a0.2]).toArray) (cs := (Z7 .u8 (fun _ => 0) ++ [vI 0]).toArray) Yb3 U U U hS U (Yg4 (R7 .u8 a1) (K9 U)) U ?_
 intro _ hS
 have hS := hS.perm R5.symm
 refine Z2 (Y9 (vs := [vA (Z7 .u8 a1 ++ [vI a0.2])]) func167 ⟨⟨_, U, T9 Yb3 (hS.get (mR mL)) U⟩, trivial⟩ ?_)
 cases q0
 exact ⟨_, _, U, Z4, (St.dA (St.dA (St.dA hS))), ⟨_, U, ⟨_, _, U, U, U⟩⟩⟩
def Zq1 (K : Nat) (a0 : MpT) (a1 : Int) : Option Int := ((Ya5 K a0 a1).bind fun r4 => (if r4 < 0 then some (-1) else some r4))
theorem Ym3 {a0 : MpT} {a1 r : Int} (q0 : Zq1 K a0 a1 = some r) (a4 : Y3 yT H s0 a0) (hS : St H w L) :
 Calls prog 24 #[vA [s0], vI a1] w (T4 (fun v G => (R.int .i64).p G v r) H L) := by
 have Z4 := Sub.refl H
 refine X0 func24 U ntmps24 U ?_
 unfold Zq1 at q0
 refine Z1 (Z0 (T8 (v := vA [s0]) [s0].toArray U U hS U (fun _ _ hS => Z5 (vI 0) U U (Z2 (Z1 (Z0 (Y2 Wf3 U U (Y1 s0 Vi3 U (hS.get mL) U U (Z3 (vI a1) U U ?_)))))))))
 obtain ⟨r4, a5, q0⟩ := bSm q0
 refine X2 call89 (W8 U U) U (Xb7 a5 a4 hS) ?_
 rintro _ _ _ a6 hS rfl
 have Z4 := Z4.trans a6
 refine Z5 (vI r4) U U (Z2 (Z1 (Z1 (Z0 (Z3 (vI r4) U U (V4 (k := .i64) (a := r4) (b := 0) U U U (Z2 ?_)))))))
 obtain ⟨a3, q0⟩ | ⟨a3, q0⟩ := ic q0
 refine Z8 (bT a3 U) (Z1 (Z0 (Z5 (vI (-1)) U U (Z2 (Y9 (vs := [vI (-1)]) func24 Ut ?_)))))
 cases q0
 exact ⟨_, _, U, Z4, (St.dA hS), U⟩
 refine Z6 (bF a3 U) (Y6 (Z1 (Z0 (Z3 (vI r4) U U (Z5 (vI r4) U U (Z2 (Y9 (vs := [vI r4]) func24 Ut ?_)))))))
 cases q0
 exact ⟨_, _, U, Z4, (St.dA hS), U⟩
def L3 (K : Nat) (a0 : List Int) (a1 : (Int → Option Bool)) : Option Bool := ((N9 K a0 a1).bind fun r1 => some (decide (0 ≤ r1)))
theorem Zy1 {a0 : List Int} {a1 : (Int → Option Bool)} {r : Bool} (q0 : L3 K a0 a1 = some r) (a3 : Y3 (Y4 .i64) H s0 a0) (a4 : FnQ prog s1 (R.int .i64) a1 H) (hS : St H w L) :
 Calls prog 172 #[s0, s1] w (T4 (fun v G => R.bool.p G v r) H L) := by
 have Z4 := Sub.refl H
 refine X0 func172 U ntmps172 U ?_
 unfold L3 at q0
 refine Z1 (Z0 (Z5 (vB false) U U (Z2 (Z1 (Z0 (Z3 s0 U U (Z3 s1 U U ?_)))))))
 obtain ⟨r1, a5, q0⟩ := bSm q0
 refine X2 call235 (W8 U U) U (Zl7 a5 a3 a4 hS) ?_
 rintro _ _ _ a6 hS rfl
 have Z4 := Z4.trans a6
 refine Ya4 (k := .i64) (a := r1) (b := 0) U U U (Z5 (vB (decide (0 ≤ r1))) U U (Z2 (Y9 (vs := [vB (decide (0 ≤ r1))]) func172 Ut ?_)))
 cases q0
 exact ⟨_, _, U, Z4, hS, U⟩
end Go.Proofs.YtabofnehiclkiaaGreat
