/- Walks of functions: each computes its pure function, if that gives a value. -/
import Derived.Test.YtabofnehiclkiaaGreatZF11
import Derived.Test.YtabofnehiclkiaaGreatZF12
namespace Go.Proofs.YtabofnehiclkiaaGreat
open Go Go.Proofs.Tryz
set_option linter.unusedSimpArgs false
set_option linter.unusedVariables false
set_option maxRecDepth 100000
set_option maxHeartbeats 8000000
variable {K : Nat} {H : FH} {w : World} {L : OL} {s0 s1 s2 s3 s4 s5 s6 : Value}
def J6 (K : Nat) (a0 : ((List Int) × (List MpT))) : Nat → Int → Option (Ex Bool (Unit))
 | 0, _ => none
 | k + 1, b0 => (if b0 < (a0.2.length : Int) then ((Zq3 K (a0.1, a0.2) (rd a0.2 b0)).bind fun b5 => (if 0 < (b5.length : Int) then some (.ret false) else J6 K a0 k (b0 + 1))) else some (.go ()))
def I1 (K : Nat) (a0 : ((List Int) × (List MpT))) : Nat → Int → Option (Ex Bool (Unit))
 | 0, _ => none
 | k + 1, a1 => (if a1 < (a0.2.length : Int) then ((Zv6 K a0.1 (rd a0.2 a1)).bind fun c3 => (if c3 = true then ((Zm2 K a0.1 (rd a0.2 a1)).bind fun a7 => (if a7.2 = true then (if 0 < ((rd a0.2 a1).length : Int) then (if a1 < (a0.1.length : Int) then (if a7.1 = (IntKind.i64.wrap ((rd a0.1 a1) + 1)) then I1 K a0 k (a1 + 1) else some (.ret false)) else none) else I1 K a0 k (a1 + 1)) else some (.ret false))) else some (.ret false))) else some (.go ()))
def Zp3 (K : Nat) (a0 : ((List Int) × (List MpT))) (b3 : Bool) : Option Bool := (if b3 = true then some false else ((I1 K a0 K 0).bind (Ex.elim (fun r => some r) (fun s => ((J6 K a0 K 0).bind (Ex.elim (fun r => some r) (fun s => some true)))))))
def Zw3 (K : Nat) (a0 : ((List Int) × (List MpT))) : Option Bool := ((Zj7 K a0.1).bind fun c7 => (if c7 = true then Zp3 K a0 (!decide ((a0.2.length : Int) = (a0.1.length : Int))) else Zp3 K a0 true))
theorem Xg9 {a0 : ((List Int) × (List MpT))} {r : Bool} (q0 : Zw3 K a0 = some r) (a5 : Y3 (Y5 .i64) H s0 a0.1) (a6 : Y3 (X2 yT) H s1 a0.2) (hS : St H w L) :
 Calls prog 72 #[vA ([s0] ++ [s1])] w (U7 (fun v G => R.bool.p G v r) H L) := by
 have Z4 := Sub.refl H
 refine X0 func72 rfl ntmps72 rfl ?_
 unfold Zw3 at q0
 refine Z1 (Z0 ?_)
 refine T7 (v := vA ([s0] ++ [s1])) ([s0] ++ [s1]).toArray rfl rfl hS rfl ?_
 intro b1 _ hS
 refine Z5 (vB false) rfl rfl (Z2 (Z1 (Z1 ?_)))
 refine N4 (fun f w => ∃ (b3 : Bool) (H1 : FH), Zp3 K a0 b3 = some r ∧ Sub H H1 ∧ St H1 w ([(b1, cA ([s0] ++ [s1]) 31)] ++ L) ∧ Y3 (Y5 .i64) H1 s0 a0.1 ∧ Y3 (X2 yT) H1 s1 a0.2 ∧ tv f 1 = vP b1 ∧ tv f 19 = vB b3) ?_ ?_
 rintro _ _ ⟨b3, g8, c4, Z4, hS, a5, a6, f2, c5⟩
 unfold Zp3 at c4
 obtain ⟨f3, c4⟩ | ⟨f3, c4⟩ := ic c4
 refine Z8 (Eq.trans (by exact c5) (congrArg vB f3)) (Z1 (Z0 (Z5 (vB false) rfl rfl (Z2 ?_))))
 refine Y9 (vs := [vB false]) func72 ⟨rfl, trivial⟩ ?_
 obtain rfl := oi c4
 exact ⟨_, _, rfl, Z4, (St.dropA hS), rfl⟩
 refine Z7 (Eq.trans (by exact c5) (congrArg vB (W1 f3))) (Y6 (Z1 (Z1 (Z0 (Z5 (vI 0) rfl rfl (Z2 (Y8 ?_)))))))
 obtain ⟨f4, a3, b6⟩ := bind_some c4
 refine W0 (id := 0) (fun k f w => ∃ (a1 : Int) (H1 : FH), I1 K a0 k a1 = some f4 ∧ Sub H H1 ∧ St H1 w ([(b1, cA ([s0] ++ [s1]) 31)] ++ L) ∧ 0 ≤ a1 ∧ Y3 (Y5 .i64) H1 s0 a0.1 ∧ Y3 (X2 yT) H1 s1 a0.2 ∧ tv f 1 = vP b1 ∧ tv f 3 = vI a1) (fun f w => ∃ (H1 : FH), f4 = .go () ∧ Sub H H1 ∧ St H1 w ([(b1, cA ([s0] ++ [s1]) 31)] ++ L) ∧ Y3 (Y5 .i64) H1 s0 a0.1 ∧ Y3 (X2 yT) H1 s1 a0.2 ∧ tv f 1 = vP b1) rfl ?_ ?_ K ?_ ?_
 rintro f w ⟨a1, H1, a3, _⟩
 rw [I1] at a3; cases a3
 rintro k _ _ j1 l1 ⟨a1, j3, a3, Z4, hS, _, a5, a6, b4, b8⟩
 rw [I1] at a3
 refine Z1 (Z1 (Z0 (Z3 (vI a1) (by exact b8) rfl (Y2 Zf5 (by exact b4) rfl ?_))))
 refine Y0 (s1) Zy9 rfl (hS.get mL) rfl rfl ?_
 have m5 := a6.bound
 refine X9 Zf1 rfl a6 rfl ?_
 refine W8 (k := .i64) (a := a1) (b := (a0.2.length : Int)) rfl rfl rfl (Z2 ?_)
 obtain ⟨f5, a3⟩ | ⟨f5, a3⟩ := ic a3
 refine Z8 (bT f5 rfl) (Y6 (Z1 (Y8 (Z1 (Z1 ?_)))))
 obtain ⟨l2, l3, _, _, _, j4, j5, ⟨e3, rfl, c2⟩, j6⟩ := a6.elem (i := a1) (by omega) (by omega)
 obtain ⟨c3, j7, a3⟩ := bind_some a3
 refine W7 9 (S9 [mE 27 (vP b1), mE 28 (s0), mE 29 (vQ b1 1), mE 30 (s1), mE 31 (vI a1), mE 32 (vQ l2 l3), mE 33 (vA ([e3])), mE 34 (vB c3), mE 35 (vB (!c3))]) [] mixed rfl rfl rfl hS (V9 ?_ ?_ ?_ ?_ ?_ ?_ ?_ ?_ (E8 ?_ V1)) ?_
 exact X4 fun S B => Y2 L6 (evT (B 1 rfl) b4) rfl (qz S)
 exact Y7 fun S V => Y0 (s0) P4 (eM (V 0 27 rfl rfl)) (S.get (mR mL)) rfl rfl (qz S)
 exact X4 fun S B => Y2 Zf5 (evT (B 1 rfl) b4) rfl (qz S)
 exact Y7 fun S V => Y0 (s1) Zy9 (eM (V 2 29 rfl rfl)) (S.get (mR mL)) rfl rfl (qz S)
 exact X4 fun S B => Z3 (vI a1) (evT (B 3 rfl) b8) rfl (qz S)
 exact Y7 fun S V => X5 Zf1 rfl (eM (V 3 30 rfl rfl)) j4 (eM (V 4 31 rfl rfl)) (by omega) (by omega) rfl (qz S)
 exact P0 fun s S V => V0 ([e3]) Q4 (eM (V 5 32 rfl rfl)) (S.froz _ _ (s.1 _ _ j5)) rfl j6 rfl (qz S)
 intro _ _ _ _ f6 hS _ f7 hcq
 have a5 := a5.mono f6
 have c2 := c2.mono f6
 refine X3 call145 (V2 (eM (f7 1 28 rfl rfl)) (eM (f7 6 33 rfl rfl))) rfl (Xi9 j7 a5 c2 hS) ?_
 rintro _ _ _ j8 hS rfl
 exact qn j8 rfl hS rfl
 exact Y7 fun S V => N8 (b := c3) (eM (V 7 34 rfl rfl)) rfl (qz S)
 intro l4 l5 l6 e1 hS f8 j9 hcq
 have hS : St l6 l5 ([(b1, cA ([s0] ++ [s1]) 31)] ++ L) := hS
 have Z4 := Z4.trans e1
 have a5 := a5.mono e1
 have a6 := a6.mono e1
 have f9 := evT (f8 1 rfl) b4
 have g0 := evT (f8 3 rfl) b8
 have g1 : tv l4 35 = vB (!c3) := j9 8 35 (by decide) rfl
 refine Z2 ?_
 obtain ⟨c8, a3⟩ | ⟨c8, a3⟩ := ic a3
 refine Z7 (Eq.trans (by exact g1) (congrArg (fun b => vB (!b)) c8)) (Y6 (Z1 ?_))
 obtain ⟨k0, k1, _, _, _, g9, h0, ⟨d9, rfl, b9⟩, h1⟩ := a6.elem (i := a1) (by omega) (by omega)
 obtain ⟨a7, h2, a3⟩ := bind_some a3
 refine W7 13 (S9 [mE 37 (vP b1), mE 38 (s0), mE 39 (vQ b1 1), mE 40 (s1), mE 41 (vI a1), mE 42 (vQ k0 k1), mE 43 (vA ([d9])), mE 44 (Value.tuple #[vI a7.1, vB a7.2]), mE 36 (Value.tuple #[vI a7.1, vB a7.2]), mE 45 (vI a7.1), mE 46 (vB a7.2), mE 4 (vI a7.1), mE 5 (vB a7.2)]) [] mixed rfl rfl rfl hS (V9 ?_ ?_ ?_ ?_ ?_ ?_ ?_ ?_ (J9 ?_ ?_ ?_ ?_ (E8 ?_ V1))) ?_
 exact X4 fun S B => Y2 L6 (evT (B 1 rfl) f9) rfl (qz S)
 exact Y7 fun S V => Y0 (s0) P4 (eM (V 0 37 rfl rfl)) (S.get (mR mL)) rfl rfl (qz S)
 exact X4 fun S B => Y2 Zf5 (evT (B 1 rfl) f9) rfl (qz S)
 exact Y7 fun S V => Y0 (s1) Zy9 (eM (V 2 39 rfl rfl)) (S.get (mR mL)) rfl rfl (qz S)
 exact X4 fun S B => Z3 (vI a1) (evT (B 3 rfl) g0) rfl (qz S)
 exact Y7 fun S V => X5 Zf1 rfl (eM (V 3 40 rfl rfl)) g9 (eM (V 4 41 rfl rfl)) (by omega) (by omega) rfl (qz S)
 exact P0 fun s S V => V0 ([d9]) Q4 (eM (V 5 42 rfl rfl)) (S.froz _ _ (s.1 _ _ h0)) rfl h1 rfl (qz S)
 intro _ _ _ _ e4 hS _ e5 hcq
 have a5 := a5.mono e4
 have b9 := b9.mono e4
 refine X3 call146 (V2 (eM (e5 1 38 rfl rfl)) (eM (e5 6 43 rfl rfl))) rfl (Ys8 h2 a5 b9 hS) ?_
 rintro _ _ _ h3 hS ⟨_, _, rfl, rfl, rfl⟩
 exact qn h3 rfl hS rfl
 exact Y7 fun S V => Z3 (Value.tuple #[vI a7.1, vB a7.2]) (eM (V 7 44 rfl rfl)) rfl (qz S)
 exact Y7 fun S V => V3 (vI a7.1) (eM (V 8 36 rfl rfl)) rfl rfl (qz S)
 exact Y7 fun S V => V3 (vB a7.2) (eM (V 8 36 rfl rfl)) rfl rfl (qz S)
 exact Y7 fun S V => Z5 (vI a7.1) (eM (V 9 45 rfl rfl)) rfl (qz S)
 exact Y7 fun S V => Z5 (vB a7.2) (eM (V 10 46 rfl rfl)) rfl (qz S)
 intro _ k2 e2 c9 hS e6 e7 hcq
 have hS : St e2 k2 ([(b1, cA ([s0] ++ [s1]) 31)] ++ L) := hS
 have Z4 := Z4.trans c9
 have a5 := a5.mono c9
 have a6 := a6.mono c9
 have d0 := evT (e6 1 rfl) f9
 have d1 := evT (e6 3 rfl) g0
 refine Z2 (Z1 (Z0 (Z3 (vB a7.2) (by exact (eM (e7 12 5 (by decide) rfl))) rfl (N8 (b := a7.2) rfl rfl (Z3 (vB (!a7.2)) rfl rfl ?_)))))
 obtain ⟨a4, a3⟩ | ⟨a4, a3⟩ := ic a3
 refine Y1 rfl rfl (nT a4) (Y2 Zf5 (by exact d0) rfl ?_)
 refine Y1 rfl rfl (nT a4) ?_
 refine Y0 (s1) Zy9 rfl (hS.get mL) rfl rfl ?_
 refine Y1 rfl rfl (nT a4) (Z3 (vI a1) (by exact d1) rfl ?_)
 obtain ⟨_, _, _, _, _, h4, h5, ⟨g2, rfl, c6⟩, h6⟩ := a6.elem (i := a1) (by omega) (by omega)
 refine Y1 rfl rfl (nT a4) ?_
 refine X5 Zf1 rfl rfl h4 rfl (by omega) (by omega) rfl ?_
 refine Y1 rfl rfl (nT a4) (Y2 U3 rfl rfl ?_)
 refine Y1 rfl rfl (nT a4) ?_
 refine Y0 (g2) Q7 rfl (hS.froz _ _ h5) (h6 0 (show 0 < 1 by decide)) rfl ?_
 have m0 := c6.bound
 refine Y1 rfl rfl (nT a4) ?_
 refine X9 R9 rfl c6 rfl ?_
 refine Y1 rfl rfl (nT a4) ?_
 refine Za9 (k := .i64) (a := ((rd a0.2 a1).length : Int)) (b := 0) rfl rfl rfl ?_
 refine Y1 rfl rfl (nT a4) (Z3 (vB (decide (0 < ((rd a0.2 a1).length : Int)))) rfl rfl ?_)
 obtain ⟨a8, a3⟩ | ⟨a8, a3⟩ := ic a3
 refine Y1 rfl rfl (bT a8 rfl) (Z3 (vI a7.1) (by exact (eM (e7 11 4 (by decide) rfl))) rfl ?_)
 refine Y1 rfl rfl (bT a8 rfl) (Y2 L6 (by exact d0) rfl ?_)
 refine Y1 rfl rfl (bT a8 rfl) ?_
 refine Y0 (s0) P4 rfl (hS.get mL) rfl rfl ?_
 refine Y1 rfl rfl (bT a8 rfl) (Z3 (vI a1) (by exact d1) rfl ?_)
 refine Y1 rfl rfl (bT a8 rfl) ?_
 obtain ⟨_, a3⟩ := gd a3
 obtain ⟨_, _, _, _, _, h7, h8, rfl, h9⟩ := a5.elem (i := a1) (by omega) (by omega)
 refine X5 U5 rfl rfl h7 rfl (by omega) (by omega) rfl ?_
 refine Y1 rfl rfl (bT a8 rfl) ?_
 refine Y0 (vI (rd a0.1 a1)) ty2 rfl (hS.froz _ _ h8) (h9 0 (show 0 < 1 by decide)) rfl ?_
 refine Y1 rfl rfl (bT a8 rfl) ?_
 refine W2 (IntKind.i64.wrap ((rd a0.1 a1) + 1)) rfl rfl rfl rfl ?_
 refine Y1 rfl rfl (bT a8 rfl) ?_
 refine M0 (k := .i64) (a := a7.1) (b := (IntKind.i64.wrap ((rd a0.1 a1) + 1))) rfl rfl rfl ?_
 refine Y1 rfl rfl (nT a4) ?_
 refine W6 (t := true) (vB (!decide (a7.1 = (IntKind.i64.wrap ((rd a0.1 a1) + 1))))) (bT a8 rfl) ((if_pos rfl).trans rfl) rfl ?_
 refine W6 (t := false) (vB (!decide (a7.1 = (IntKind.i64.wrap ((rd a0.1 a1) + 1))))) (nT a4) ((if_neg Bool.false_ne_true).trans rfl) rfl (Z2 ?_)
 obtain ⟨d2, a3⟩ | ⟨d2, a3⟩ := ic a3
 refine Z7 (bN d2 rfl) (Y6 (X1 (Z0 (Z3 (vI a1) (by exact d1) rfl ?_))))
 refine W2 (a1 + 1) rfl rfl (IntWalk.i64_in _ (by omega)) rfl (Z5 (vI (a1 + 1)) rfl rfl (Z2 ?_))
 exact j1 _ _ ⟨(a1 + 1), e2, a3, Z4, hS, (by omega), a5, a6, d0, rfl⟩
 refine Z8 (bO d2 rfl) (Z1 (Z0 (Z5 (vB false) rfl rfl (Z2 ?_))))
 refine Y9 (vs := [vB false]) func72 ⟨rfl, trivial⟩ ?_
 obtain rfl := oi a3
 dsimp only [Ex.elim] at b6
 obtain rfl := oi b6
 exact ⟨_, _, rfl, Z4, (St.dropA hS), rfl⟩
 refine Z9 rfl rfl (bF a8 rfl) rfl rfl rfl (Z9 rfl rfl (bF a8 rfl) rfl rfl rfl (Z9 rfl rfl (bF a8 rfl) rfl rfl rfl (Z9 rfl rfl (bF a8 rfl) rfl rfl rfl (Z9 rfl rfl (bF a8 rfl) rfl rfl rfl (Z9 rfl rfl (bF a8 rfl) rfl rfl rfl (Z9 rfl rfl (bF a8 rfl) rfl rfl rfl (Z9 rfl rfl (bF a8 rfl) rfl rfl rfl ?_)))))))
 refine Y1 rfl rfl (nT a4) ?_
 refine W6 (t := false) (vB false) (bF a8 rfl) ((if_neg Bool.false_ne_true).trans rfl) rfl ?_
 refine W6 (t := false) (vB false) (nT a4) ((if_neg Bool.false_ne_true).trans rfl) rfl (Z2 (Z7 rfl (Y6 (X1 (Z0 (Z3 (vI a1) (by exact d1) rfl ?_))))))
 refine W2 (a1 + 1) rfl rfl (IntWalk.i64_in _ (by omega)) rfl (Z5 (vI (a1 + 1)) rfl rfl (Z2 ?_))
 exact j1 _ _ ⟨(a1 + 1), e2, a3, Z4, hS, (by omega), a5, a6, d0, rfl⟩
 refine Z9 rfl rfl (nT (W1 a4)) rfl rfl rfl (Z9 rfl rfl (nT (W1 a4)) rfl rfl rfl (Z9 rfl rfl (nT (W1 a4)) rfl rfl rfl (Z9 rfl rfl (nT (W1 a4)) rfl rfl rfl (Z9 rfl rfl (nT (W1 a4)) rfl rfl rfl (Z9 rfl rfl (nT (W1 a4)) rfl rfl rfl (Z9 rfl rfl (nT (W1 a4)) rfl rfl rfl (Z9 rfl rfl (nT (W1 a4)) rfl rfl rfl (Z9 rfl rfl (nT (W1 a4)) rfl rfl rfl ?_))))))))
 refine U2 rfl rfl rfl rfl rfl ?_
 refine U2 rfl rfl rfl rfl rfl ?_
 refine U2 rfl rfl rfl rfl rfl ?_
 refine U2 rfl rfl rfl rfl rfl ?_
 refine U2 rfl rfl rfl rfl rfl ?_
 refine U2 rfl rfl rfl rfl rfl ?_
 refine U2 rfl rfl rfl rfl rfl ?_
 refine U2 rfl rfl rfl rfl rfl (Z9 rfl rfl (nT (W1 a4)) rfl rfl rfl ?_)
 refine W6 (t := true) (vB true) (nT (W1 a4)) ((if_pos rfl).trans rfl) rfl (Z2 (Z8 rfl (Z1 (Z0 (Z5 (vB false) rfl rfl (Z2 ?_))))))
 refine Y9 (vs := [vB false]) func72 ⟨rfl, trivial⟩ ?_
 obtain rfl := oi a3
 dsimp only [Ex.elim] at b6
 obtain rfl := oi b6
 exact ⟨_, _, rfl, Z4, (St.dropA hS), rfl⟩
 refine Z8 (Eq.trans (by exact g1) (congrArg (fun b => vB (!b)) (W1 c8))) (Z1 (Z0 (Z5 (vB false) rfl rfl (Z2 ?_))))
 refine Y9 (vs := [vB false]) func72 ⟨rfl, trivial⟩ ?_
 obtain rfl := oi a3
 dsimp only [Ex.elim] at b6
 obtain rfl := oi b6
 exact ⟨_, _, rfl, Z4, (St.dropA hS), rfl⟩
 refine Z7 (bF f5 rfl) ?_
 refine X7 rfl ?_
 obtain rfl := oi a3
 exact l1 _ _ ⟨j3, rfl, Z4, hS, a5, a6, b4⟩
 exact ⟨0, g8, a3, Z4, hS, (by omega), a5, a6, f2, rfl⟩
 rintro _ _ ⟨k3, rfl, Z4, hS, a5, a6, f0⟩
 dsimp only [Ex.elim] at b6
 refine Z1 (Z1 (Z0 (Z5 (vI 0) rfl rfl (Z2 (Y8 ?_)))))
 obtain ⟨g3, b2, d3⟩ := bind_some b6
 refine W0 (id := 2) (fun k f w => ∃ (b0 : Int) (H1 : FH), J6 K a0 k b0 = some g3 ∧ Sub H H1 ∧ St H1 w ([(b1, cA ([s0] ++ [s1]) 31)] ++ L) ∧ 0 ≤ b0 ∧ Y3 (Y5 .i64) H1 s0 a0.1 ∧ Y3 (X2 yT) H1 s1 a0.2 ∧ tv f 1 = vP b1 ∧ tv f 6 = vI b0) (fun f w => ∃ (H1 : FH), g3 = .go () ∧ Sub H H1 ∧ St H1 w ([(b1, cA ([s0] ++ [s1]) 31)] ++ L) ∧ Y3 (Y5 .i64) H1 s0 a0.1 ∧ Y3 (X2 yT) H1 s1 a0.2) rfl ?_ ?_ K ?_ ?_
 rintro f w ⟨b0, H1, b2, _⟩
 rw [J6] at b2; cases b2
 rintro k _ _ l7 l9 ⟨b0, k4, b2, Z4, hS, _, a5, a6, b7, c0⟩
 rw [J6] at b2
 refine Z1 (Z1 (Z0 (Z3 (vI b0) (by exact c0) rfl (Y2 Zf5 (by exact b7) rfl ?_))))
 refine Y0 (s1) Zy9 rfl (hS.get mL) rfl rfl ?_
 have m2 := a6.bound
 refine X9 Zf1 rfl a6 rfl ?_
 refine W8 (k := .i64) (a := b0) (b := (a0.2.length : Int)) rfl rfl rfl (Z2 ?_)
 obtain ⟨d4, b2⟩ | ⟨d4, b2⟩ := ic b2
 refine Z8 (bT d4 rfl) (Y6 (Z1 (Y8 (Z1 ?_))))
 obtain ⟨k5, k6, _, _, _, i0, i1, ⟨e0, rfl, c1⟩, i2⟩ := a6.elem (i := b0) (by omega) (by omega)
 obtain ⟨b5, i3, b2⟩ := bind_some b2
 refine W7 10 (S9 [mE 76 (vA ([s0] ++ [s1])), mE 77 (vQ b1 1), mE 78 (s1), mE 79 (vI b0), mE 80 (vQ k5 k6), mE 81 (vA ([e0])), (82, MP.rep (R.agg (X2 yT)) (b5)), (83, MP.sl yT (b5)), mE 84 (vI (b5.length : Int)), mE 85 (vB (decide (0 < (b5.length : Int))))]) [] mixed rfl rfl rfl hS (V9 ?_ ?_ ?_ ?_ ?_ ?_ ?_ ?_ (J2 ?_ ?_ V1)) ?_
 exact X4 fun S B => W3 Ya1 (evT (B 1 rfl) b7) (S.get (mR mL)) rfl rfl (qz S)
 exact X4 fun S B => Y2 Zf5 (evT (B 1 rfl) b7) rfl (qz S)
 exact Y7 fun S V => Y0 (s1) Zy9 (eM (V 1 77 rfl rfl)) (S.get (mR mL)) rfl rfl (qz S)
 exact X4 fun S B => Z3 (vI b0) (evT (B 6 rfl) c0) rfl (qz S)
 exact Y7 fun S V => X5 Zf1 rfl (eM (V 2 78 rfl rfl)) i0 (eM (V 3 79 rfl rfl)) (by omega) (by omega) rfl (qz S)
 exact P0 fun s S V => V0 ([e0]) Q4 (eM (V 4 80 rfl rfl)) (S.froz _ _ (s.1 _ _ i1)) rfl i2 rfl (qz S)
 intro _ _ _ _ d5 hS _ e8 hcq
 have a5 := a5.mono d5
 have a6 := a6.mono d5
 have c1 := c1.mono d5
 refine X3 call119 (V2 (eM (e8 0 76 rfl rfl)) (eM (e8 5 81 rfl rfl))) rfl (Yn6 i3 a5 a6 c1 hS) ?_
 rintro _ _ _ i4 hS i5
 exact qn i4 rfl hS i5
 intro _ _ _ _ _ hS _ i6 hcq
 obtain ⟨_, k7, ⟨_, rfl, ⟨g4, rfl, f1⟩⟩⟩ := gvR (i6 6 82 rfl rfl)
 refine Wf3 (g4) Vc4 k7 rfl rfl ?_
 exact qn (.refl _) rfl hS f1
 intro _ _ _ _ _ hS _ i7 hcq
 obtain ⟨_, k8, i8⟩ := gvS (i7 7 83 rfl rfl)
 refine X9 R9 k8 i8 rfl ?_
 exact qn (.refl _) rfl hS rfl
 exact Y7 fun S V => Za9 (k := .i64) (a := (b5.length : Int)) (b := 0) (eM (V 8 84 rfl rfl)) rfl rfl (qz S)
 intro k9 l0 g5 d6 hS e9 i9 hcq
 have hS : St g5 l0 ([(b1, cA ([s0] ++ [s1]) 31)] ++ L) := hS
 have Z4 := Z4.trans d6
 have a5 := a5.mono d6
 have a6 := a6.mono d6
 have g6 : tv k9 85 = vB (decide (0 < (b5.length : Int))) := i9 9 85 (by decide) rfl
 refine Z2 ?_
 obtain ⟨d7, b2⟩ | ⟨d7, b2⟩ := ic b2
 refine Z8 (bT d7 (by exact g6)) (Z1 (Z0 (Z5 (vB false) rfl rfl (Z2 ?_))))
 refine Y9 (vs := [vB false]) func72 ⟨rfl, trivial⟩ ?_
 obtain rfl := oi b2
 dsimp only [Ex.elim] at d3
 obtain rfl := oi d3
 exact ⟨_, _, rfl, Z4, (St.dropA hS), rfl⟩
 refine Z7 (bF d7 (by exact g6)) (Y6 (X1 (Z0 (Z3 (vI b0) (by exact (evT (e9 6 rfl) c0)) rfl ?_))))
 refine W2 (b0 + 1) rfl rfl (IntWalk.i64_in _ (by omega)) rfl (Z5 (vI (b0 + 1)) rfl rfl (Z2 ?_))
 exact l7 _ _ ⟨(b0 + 1), g5, b2, Z4, hS, (by omega), a5, a6, (evT (e9 1 rfl) b7), rfl⟩
 refine Z7 (bF d4 rfl) ?_
 refine X7 rfl ?_
 obtain rfl := oi b2
 exact l9 _ _ ⟨k4, rfl, Z4, hS, a5, a6⟩
 exact ⟨0, k3, b2, Z4, hS, (by omega), a5, a6, f0, rfl⟩
 rintro _ _ ⟨_, rfl, Z4, hS, a5, a6⟩
 dsimp only [Ex.elim] at d3
 refine Z1 (Z0 (Z5 (vB true) rfl rfl (Z2 ?_)))
 refine Y9 (vs := [vB true]) func72 ⟨rfl, trivial⟩ ?_
 obtain rfl := oi d3
 exact ⟨_, _, rfl, Z4, (St.dropA hS), rfl⟩
 intro j2
 refine Z0 (Y2 L6 rfl rfl ?_)
 refine Y0 (s0) P4 rfl (hS.get mL) rfl rfl ?_
 obtain ⟨c7, j0, q0⟩ := bind_some q0
 refine X3 call144 (R3 rfl) rfl (Yr4 j0 a5 hS) ?_
 rintro _ g7 _ d8 hS rfl
 have Z4 := Z4.trans d8
 have a5 := a5.mono d8
 have a6 := a6.mono d8
 refine N8 (b := c7) rfl rfl (Z3 (vB (!c7)) rfl rfl ?_)
 obtain ⟨a9, q0⟩ | ⟨a9, q0⟩ := ic q0
 refine Y1 rfl rfl (nT a9) (Y2 Zf5 rfl rfl ?_)
 refine Y1 rfl rfl (nT a9) ?_
 refine Y0 (s1) Zy9 rfl (hS.get mL) rfl rfl ?_
 have m3 := a6.bound
 refine Y1 rfl rfl (nT a9) ?_
 refine X9 Zf1 rfl a6 rfl ?_
 refine Y1 rfl rfl (nT a9) (Y2 L6 rfl rfl ?_)
 refine Y1 rfl rfl (nT a9) ?_
 refine Y0 (s0) P4 rfl (hS.get mL) rfl rfl ?_
 have m4 := a5.bound
 refine Y1 rfl rfl (nT a9) ?_
 refine X9 U5 rfl a5 rfl ?_
 refine Y1 rfl rfl (nT a9) ?_
 refine M0 (k := .i64) (a := (a0.2.length : Int)) (b := (a0.1.length : Int)) rfl rfl rfl ?_
 refine W6 (t := false) (vB (!decide ((a0.2.length : Int) = (a0.1.length : Int)))) (nT a9) ((if_neg Bool.false_ne_true).trans rfl) rfl (Z2 ?_)
 exact j2 _ _ ⟨(!decide ((a0.2.length : Int) = (a0.1.length : Int))), g7, q0, Z4, hS, a5, a6, rfl, rfl⟩
 refine Z9 rfl rfl (nT (W1 a9)) rfl rfl rfl (Z9 rfl rfl (nT (W1 a9)) rfl rfl rfl (Z9 rfl rfl (nT (W1 a9)) rfl rfl rfl (Z9 rfl rfl (nT (W1 a9)) rfl rfl rfl (Z9 rfl rfl (nT (W1 a9)) rfl rfl rfl (Z9 rfl rfl (nT (W1 a9)) rfl rfl rfl (Z9 rfl rfl (nT (W1 a9)) rfl rfl rfl ?_))))))
 refine W6 (t := true) (vB true) (nT (W1 a9)) ((if_pos rfl).trans rfl) rfl (Z2 ?_)
 exact j2 _ _ ⟨true, g7, q0, Z4, hS, a5, a6, rfl, rfl⟩
theorem Wb8 : Zk9 prog 31 0 0 := ⟨fun b o w => by simp [Instr.fieldAt, Instr.sureAddr, fieldPlace, runUnderlying31, sizeOf22, R7]⟩
theorem Vj6 {M : List A8} {i : Nat} (h : i < M.length) : rd M (i : Int) = M[i] := by unfold rd; rw [Int.toNat_natCast, List.getD_eq_getElem?_getD, List.getElem?_eq_getElem h]; rfl
def Yj7 (K : Nat) (x : List Int × List MpT) (M' : List A8) : List A8 → Option (List (List Int))
  | [] => some []
  | p :: ps => (Zd2 K p 1).bind fun f => (Zq3 K x f).bind fun d => (Zn1 K d M').bind fun r => (Yj7 K x M' ps).bind fun rs => some (r :: rs)
def Zm6 (K : Nat) (x : List Int × List MpT) (n : Int) : Option (List (List Int)) :=
  if -1099511627776 ≤ n ∧ n ≤ 1099511627776 then (P7 K x.1 n).bind fun M => (P7 K x.1 (n + 1)).bind fun M' => if M.length ≤ 1099511627776 then Yj7 K x M' M else none else none
theorem Yt0 {a0 : List Int × List MpT} {a1 : Int} {r : List (List Int)} (q0 : Zm6 K a0 a1 = some r) {s0 s1 : Value} (hs0 : Y3 (Y5 .i64) H s0 a0.1) (hs1 : Y3 (X2 yT) H s1 a0.2) (hS : St H w L) :
    Calls prog 170 #[vA ([s0] ++ [s1]), vI a1] w (U7 (fun v G => (R.sl (X2 (Y5 .i64))).p G v r) H L) := by
  unfold Zm6 at q0
  by_cases hg : -1099511627776 ≤ a1 ∧ a1 ≤ 1099511627776
  case neg => rw [if_neg hg] at q0; cases q0
  rw [if_pos hg] at q0
  obtain ⟨M, hM, q0⟩ := bind_some q0
  obtain ⟨M', hM', q0⟩ := bind_some q0
  by_cases hl : M.length ≤ 1099511627776
  case neg => rw [if_neg hl] at q0; cases q0
  rw [if_pos hl] at q0
  obtain ⟨g1, g2⟩ := hg
  refine X0 func170 rfl ntmps170 rfl ?_
  repeat refine Z1 ?_
  refine Z0 ?_
  refine T7 (v := vA ([s0] ++ [s1])) ([s0] ++ [s1]).toArray rfl rfl hS rfl ?_
  intro ab w1 hS
  obtain ⟨G0, b9, hS, a6⟩ := St.freezeBox hS
  have hs0 := hs0.mono b9
  have hs1 := hs1.mono b9
  refine Z5 vN rfl rfl (Z2 ?_)
  repeat refine Z1 ?_
  have hn1 : IntKind.i64.wrap (a1 + 1) = a1 + 1 := IntWalk.i64_in _ (by omega)
  refine W7 12 (S9 [mE 9 (vQ ab 0), mE 10 s0, mE 11 (vI a1), (12, MP.sl (Q9 .u8) M), mE 13 (vQ ab 0), mE 14 s0, mE 15 (vI a1), mE 16 (vI (a1 + 1)), (17, MP.sl (Q9 .u8) M'), (18, MP.lit0), (5, MP.sl (Q9 .u8) M), (6, MP.sl (Q9 .u8) M')]) [] mixed rfl rfl rfl hS (V9 ?_ ?_ ?_ ?_ ?_ ?_ ?_ ?_ (J9 ?_ ?_ ?_ ?_ V1)) ?_
  · exact X4 fun S B => Y2 Wb8 (evT (B 2 rfl) rfl) rfl (qz S)
  · exact P0 fun s S V => Y0 s0 P4 (eM (V 0 9 rfl rfl)) (S.froz _ _ (s.1 _ _ a6)) rfl rfl (qz S)
  · exact X4 fun S B => Z3 _ (evT (B 1 rfl) rfl) rfl (qz S)
  · intro f w G X s S B V hcq
    refine X3 call99 (V2 (eM (V 1 10 rfl rfl)) (eM (V 2 11 rfl rfl))) rfl (Zc6 hM (hs0.mono s) S) ?_
    rintro v G2 w2 s2 S2 hv
    exact qn s2 rfl S2 hv
  · exact X4 fun S B => Y2 Wb8 (evT (B 2 rfl) rfl) rfl (qz S)
  · exact P0 fun s S V => Y0 s0 P4 (eM (V 4 13 rfl rfl)) (S.froz _ _ (s.1 _ _ a6)) rfl rfl (qz S)
  · exact X4 fun S B => Z3 _ (evT (B 1 rfl) rfl) rfl (qz S)
  · exact Y7 fun S V => W2 (a1 + 1) (eM (V 6 15 rfl rfl)) rfl hn1 rfl (qz S)
  · intro f w G X s S B V hcq
    refine X3 call99 (V2 (eM (V 5 14 rfl rfl)) (eM (V 7 16 rfl rfl))) rfl (Zc6 hM' (hs0.mono s) S) ?_
    rintro v G2 w2 s2 S2 hv
    exact qn s2 rfl S2 hv
  · intro f w G X s S B V hcq
    refine Vb4 (τ := X2 (Y5 .i64)) T2 Zn8 rfl S rfl ?_
    intro b w' _ S'
    exact qn (.refl _) rfl S' ⟨b, rfl⟩
  · intro f w G X s S B V hcq
    have hg : (MP.sl (Q9 .u8) M).p G (f 12) := V 3 12 rfl rfl
    exact Z5 (f 12) rfl rfl (qn (.refl _) rfl S hg)
  · intro f w G X s S B V hcq
    have hg : (MP.sl (Q9 .u8) M').p G (f 17) := V 8 17 rfl rfl
    exact Z5 (f 17) rfl rfl (qn (.refl _) rfl S hg)
  intro f5 w5 H5 s5 hS hB hV _
  obtain ⟨bl, hbl⟩ := hV 9 18 (by decide) rfl
  have hv5 : Y3 (Q9 .u8) H5 (f5 5) M := hV 10 5 (by decide) rfl
  have hv6 : Y3 (Q9 .u8) H5 (f5 6) M' := hV 11 6 (by decide) rfl
  have t2 : tv f5 2 = vQ ab 0 := evT (hB 2 rfl) rfl
  obtain ⟨v5, t5⟩ : ∃ v, f5 5 = v := ⟨_, rfl⟩
  obtain ⟨v6, t6⟩ : ∃ v, f5 6 = v := ⟨_, rfl⟩
  rw [t5] at hv5
  rw [t6] at hv6
  have hS : St H5 w5 ((Ww0 (.cells #[] 22) (f5 18) ++ []) ++ L) := hS
  rw [show f5 18 = _ from hbl] at hS
  have hS : St H5 w5 ([(bl, .cells #[] 22)] ++ L) := hS
  have ho : X8 (X2 (Y5 .i64)) 22 H5 (.slice (some ⟨bl, 0, none⟩) 0 0) [] [(bl, .cells #[] 22)] := .inr ⟨bl, 0, #[], rfl, by simp, by simp [maxLen], by simp, rfl, by simp⟩
  have hs0 := hs0.mono s5
  have hs1 := hs1.mono s5
  have a6 := s5.1 _ _ a6
  have Z4 := b9.trans s5
  refine Z5 (.slice (some ⟨bl, 0, none⟩) 0 0) (by exact hbl) rfl (Z2 ?_)
  repeat refine Z1 ?_
  refine Z0 (Z5 (vI 0) rfl rfl (Z2 ?_))
  repeat refine Z1 ?_
  refine Y8 ?_
  refine W0 (id := 0) (fun k f w => ∃ (m : Nat) (acc tl : List (List Int)) (H6 : FH) (v : Value) (Cm : OL), m ≤ M.length ∧ M.length < m + k ∧ acc.length = m ∧ Yj7 K a0 M' (M.drop m) = some tl ∧ acc ++ tl = r ∧ Sub H5 H6 ∧ St H6 w (Cm ++ L) ∧ X8 (X2 (Y5 .i64)) 22 H6 v acc Cm ∧ tv f 2 = vQ ab 0 ∧ tv f 5 = v5 ∧ tv f 6 = v6 ∧ tv f 7 = v ∧ tv f 8 = vI (m : Int))
    (fun f w => ∃ (H6 : FH) (v : Value) (Cm : OL), Sub H5 H6 ∧ St H6 w (Cm ++ L) ∧ X8 (X2 (Y5 .i64)) 22 H6 v r Cm ∧ tv f 7 = v) rfl ?_ ?_ (M.length + 1) ?_ ?_
  · rintro f w ⟨m, acc, tl, H6, v, Cm, h1, h2, _⟩; omega
  · rintro k f w ih hx ⟨m, acc, tl, H6, v, Cm, h1, h2, hal, htl, hr, s6, hS, ho, t2, t5, t6, t7, t8⟩
    have hv5 := hv5.mono s6
    have hv6 := hv6.mono s6
    have hs0 := hs0.mono s6
    have hs1 := hs1.mono s6
    have a6 := s6.1 _ _ a6
    repeat refine Z1 ?_
    refine Z0 (Z3 (vI (m : Int)) (by exact t8) rfl (Z3 v5 (by exact t5) rfl ?_))
    refine X9 Yb1 rfl hv5 rfl ?_
    refine W8 (k := .i64) (a := m) (b := M.length) rfl rfl rfl (Z2 ?_)
    repeat refine Z1 ?_
    by_cases hm : (m : Int) < (M.length : Int)
    · have hm' : m < M.length := by omega
      refine Z8 (bT hm rfl) (Y6 ?_)
      repeat refine Z1 ?_
      refine Y8 ?_
      repeat refine Z1 ?_
      rw [show M.drop m = M[m] :: M.drop (m + 1) from (List.getElem_cons_drop ..).symm, Yj7, ← Vj6 hm'] at htl
      obtain ⟨fm, hfm, htl⟩ := bind_some htl
      obtain ⟨dm, hdm, htl⟩ := bind_some htl
      obtain ⟨row, hrow, htl⟩ := bind_some htl
      obtain ⟨tl', htl', htl⟩ := bind_some htl
      obtain rfl := oi htl
      obtain ⟨pb, po, _, _, _, hp1, hp2, rfl, hp3⟩ := hv5.elem (i := (m : Int)) (by omega) hm
      generalize rd M (m : Int) = pm at hfm hp3
      refine Xk6 fun f2 hf2 => ?_
      have t2 : tv f2 2 = vQ ab 0 := by rw [hf2]; exact t2
      have t5 : tv f2 5 = v5 := by rw [hf2]; exact t5
      have t6 : tv f2 6 = v6 := by rw [hf2]; exact t6
      have t7 : tv f2 7 = v := by rw [hf2]; exact t7
      have t8 : tv f2 8 = vI (m : Int) := by rw [hf2]; exact t8
      clear hf2
      refine W7 11 (S9 [mE 25 v, mE 26 (vA ([s0] ++ [s1])), mE 27 v5, mE 28 (vI (m : Int)), mE 29 (vQ pb po), mE 30 (vA (Z6 .u8 pm)), (31, MP.rep (R.agg (X2 yT)) fm), (32, MP.rep (R.agg (X2 yT)) dm), mE 33 v6, (34, MP.sl (Y5 .i64) row), (35, MP.sl (X2 (Y5 .i64)) [row])]) [] mixed rfl rfl rfl hS (V9 ?_ ?_ ?_ ?_ ?_ ?_ ?_ ?_ (J2 ?_ ?_ (E8 ?_ V1))) ?_
      · exact X4 fun S B => Z3 _ (evT (B 7 rfl) t7) rfl (qz S)
      · exact Ve8 fun s S B => W3 Ya1 (evT (B 2 rfl) t2) (S.froz _ _ (s.1 _ _ a6)) rfl rfl (qz S)
      · exact X4 fun S B => Z3 _ (evT (B 5 rfl) t5) rfl (qz S)
      · exact X4 fun S B => Z3 _ (evT (B 8 rfl) t8) rfl (qz S)
      · exact Y7 fun S V => X5 Yb1 rfl (eM (V 2 27 rfl rfl)) hp1 (eM (V 3 28 rfl rfl)) (by omega) hm rfl (qz S)
      · exact P0 fun s S V => V0 (Z6 .u8 pm) P5 (eM (V 4 29 rfl rfl)) (S.froz _ _ (s.1 _ _ hp2)) rfl hp3 rfl (qz S)
      · intro f w G X s S B V hcq
        refine X3 call208 (V2 (eM (V 5 30 rfl rfl)) rfl) rfl (Zu7 hfm S) ?_
        rintro v G2 w2 s2 S2 hv
        exact qn s2 rfl S2 hv
      · intro f w G X s S B V hcq
        obtain ⟨u, hu, ⟨_, rfl, ⟨b3, rfl, b6⟩⟩⟩ := gvR (V 6 31 rfl rfl)
        refine X3 call119 (V2 (eM (V 1 26 rfl rfl)) hu) rfl (Yn6 hdm (hs0.mono s) (hs1.mono s) b6 S) ?_
        rintro v G2 w2 s2 S2 hv
        exact qn s2 rfl S2 hv
      · exact X4 fun S B => Z3 _ (evT (B 6 rfl) t6) rfl (qz S)
      · intro f w G X s S B V hcq
        obtain ⟨u, hu, ⟨_, rfl, ⟨b3, rfl, b6⟩⟩⟩ := gvR (V 7 32 rfl rfl)
        refine X3 call189 (V2 hu (eM (V 8 33 rfl rfl))) rfl ((Ys9 hrow b6 (hv6.mono s) S).mono fun _ _ => Yf9.done) ?_
        rintro v G2 w2 s2 S2 hv
        exact qn s2 rfl S2 hv
      · intro f w G X s S B V _
        have hg : (MP.sl (Y5 .i64) row).p G (f 34) := V 9 34 rfl rfl
        have hg : Y3 (Y5 .i64) G (f 34) row := hg
        refine Zc2 (τ := X2 (Y5 .i64)) T2 Zn8 rfl [f 34] [row] rfl rfl (E7 rfl) (Zk6 ⟨_, hg.cellsL, hg⟩) (by decide) (by decide) S rfl ?_
        intro u G2 w2 s2 S hl
        exact qn s2 rfl S hl
      intro f4 w4 H7 s7 hS hB hV _
      have hg : (MP.sl (X2 (Y5 .i64)) [row]).p H7 (f4 35) := hV 10 35 (by decide) rfl
      refine N6 (τ := X2 (Y5 .i64)) Yb5 rfl (eM (hV 0 25 (by decide) rfl)) (show ev f4 (.tmp 35) = f4 35 from rfl) (ho.mono s7) hS.dropA hg (by rw [hal]; simp; omega) rfl ?_
      intro v9 w9 C9 ho9 hS
      refine Z5 v9 rfl rfl (Z2 (X1 (Z0 (Z3 (vI (m : Int)) (by exact (evT (hB 8 rfl) t8)) rfl ?_))))
      refine W2 ((m : Int) + 1) rfl rfl (IntWalk.i64_in _ (by omega)) rfl (Z5 (vI ((m : Int) + 1)) rfl rfl (Z2 ?_))
      exact ih _ _ ⟨m + 1, acc ++ [row], tl', H7, v9, C9, by omega, by omega, by simp [hal], htl', by rw [List.append_assoc]; exact hr, s6.trans s7, hS, ho9, (evT (hB 2 rfl) t2), (evT (hB 5 rfl) t5), (evT (hB 6 rfl) t6), rfl, by show vI ((m : Int) + 1) = vI ((m + 1 : Nat) : Int); rw [Int.natCast_add]; rfl⟩
    · refine Z7 (bF hm rfl) (X7 rfl ?_)
      have e : m = M.length := by omega
      subst e
      rw [List.drop_length, Yj7] at htl
      obtain rfl := oi htl
      rw [List.append_nil] at hr
      subst hr
      exact hx _ _ ⟨H6, v, Cm, s6, hS, ho, t7⟩
  · exact ⟨0, [], r, H5, _, _, by omega, by omega, rfl, q0, rfl, .refl _, hS, ho, t2, by exact t5, by exact t6, rfl, rfl⟩
  · rintro f w ⟨H6, v, Cm, s6, hS, ho, t7⟩
    repeat refine Z1 ?_
    obtain ⟨H7, s7, hS, hrd⟩ := ho.freeze hS
    refine Z0 (Z3 v (by exact t7) rfl (Z5 v rfl rfl (Z2 ?_)))
    exact Y9 (vs := [v]) func170 ⟨rfl, trivial⟩ ⟨_, _, rfl, (Z4.trans s6).trans s7, hS, hrd⟩
def RbV (H : FH) (L : OL) (v : Value) (xs : List Value) : Prop :=
 ∃ a c, v = .slice a xs.length c ∧ xs.length ≤ 9223372036854775807 ∧ (xs = [] ∨ ∃ b o cs E z, a = some ⟨b, o, none⟩ ∧ (∀ H' w, Sub H H' → St H' w L → w.heap[b]? = some (.cells cs E z)) ∧ ∀ i x, xs[i]? = some x → cs[o + i]? = some x)
theorem RbV.mono {H H' : FH} {L : OL} {v : Value} {xs : List Value} (h : RbV H L v xs) (hs : Sub H H') : RbV H' L v xs := by
 obtain ⟨a, c, h1, h2, h3⟩ := h
 refine ⟨a, c, h1, h2, ?_⟩
 rcases h3 with h3 | ⟨b, o, cs, E, z, h4, h5, h6⟩
 exact .inl h3
 exact .inr ⟨b, o, cs, E, z, h4, fun K w hk => h5 K w (hs.trans hk), h6⟩
theorem RbV.at {H : FH} {L : OL} {v : Value} {xs : List Value} {i : Nat} (h : RbV H L v xs) (hm : i < xs.length) :
 ∃ b o c, v = .slice (some ⟨b, o, none⟩) xs.length c ∧ ∀ H' w, Sub H H' → St H' w L → ∃ cs E z, w.heap[b]? = some (.cells cs E z) ∧ cs[o + i * 1]? = some xs[i] := by
 obtain ⟨a, c, h1, h2, h3⟩ := h
 rcases h3 with rfl | ⟨b, o, cs, E, z, rfl, h5, h6⟩
 simp at hm
 exact ⟨b, o, c, h1, fun H' w hs hS => ⟨cs, E, z, h5 _ _ hs hS, by rw [Nat.mul_one]; exact h6 _ _ (List.getElem?_eq_getElem hm)⟩⟩
theorem RbV.rest {H : FH} {L C : OL} {b c : Nat} {xs : List Value} {E : TypeId} (h : X8 Zi6 E H (.slice (some ⟨b, 0, none⟩) xs.length c) xs C) (hin : ∀ x, x ∈ C → x ∈ L) {d : Nat} (hd : d ≤ xs.length) :
 RbV H L (.slice (if c = d then some ⟨b, 0, none⟩ else some ⟨b, 0 + d * 1, none⟩) (xs.length - d) (c - d)) (xs.drop d) := by
 rcases h with ⟨h, _, _⟩ | ⟨b', c', cs, hv, h1, h2, h3, rfl, h5⟩
 cases h
 cases hv
 refine ⟨_, c - d, by rw [List.length_drop], by rw [List.length_drop]; simp only [maxLen] at h2; omega, ?_⟩
 by_cases e : d = xs.length
 exact .inl (by rw [e, List.drop_length])
 refine .inr ⟨b, d, cs, E, (0, 0), ?_, fun H' w hs hS => hS.own _ (hin _ (List.mem_singleton.2 rfl)), fun i x hx => ?_⟩
 rw [if_neg (by omega), Nat.zero_add, Nat.mul_one]
 rw [List.getElem?_drop] at hx
 obtain ⟨ecs, ⟨rfl, _⟩, hj⟩ := h5 _ x hx
 have := hj 0 (show 0 < 1 by decide)
 simpa [show Zi6.size = 1 from rfl] using this
def fi (c : Int) : List (List Int) → Nat → Int
 | [], _ => -1
 | r :: rs, k => if rd r c = 0 then fi c rs (k + 1) else k
theorem Wh2 (c : Int) : ∀ (rs : List (List Int)) (k : Nat), fi c rs k = -1 ∨ ∃ j : Nat, fi c rs k = (k + j : Nat) ∧ j < rs.length ∧ rd (rs.getD j []) c ≠ 0 ∧ ∀ i, i < j → rd (rs.getD i []) c = 0
 | [], _ => .inl rfl
 | r :: rs, k => by
  unfold fi
  by_cases h : rd r c = 0
  rw [if_pos h]
  rcases Wh2 c rs (k + 1) with h1 | ⟨j, h1, h2, h3, h4⟩
  exact .inl h1
  refine .inr ⟨j + 1, by rw [h1]; congr 1; omega, by simp; omega, by simpa using h3, fun i hi => ?_⟩
  cases i with
  | zero => simpa using h
  | succ i => have := h4 i (by omega); simpa using this
  rw [if_neg h]
  exact .inr ⟨0, by simp, by simp, by simpa using h, fun i hi => by omega⟩
section
set_option maxRecDepth 100000
set_option maxHeartbeats 8000000
theorem Wj6 {H : FH} {w : World} {L : OL} {v p : Value} {vals : List Value} {rows : List (List Int)} {c : Int} {bc : Nat} (hv : RbV H L v vals) (hl : vals.length = rows.length) (hr : ∀ i (hi : i < rows.length) (hi' : i < vals.length), Rb H L vals[i] rows[i]) (hp : p = vP bc)
 (hc : (bc, .cells #[vI c] 3) ∈ L) (h0 : 0 ≤ c) (hm : ∀ r, r ∈ rows → c < r.length) (hS : St H w L) :
 Calls prog 232 #[v, .func (.func 233) #[] #[p]] w (U7 (fun v _ => v = vI (fi c rows 0)) H L) := by
 refine X0 func232 rfl ntmps232 rfl ?_
 obtain ⟨va, vc, hvv⟩ : ∃ a c, v = .slice a rows.length c := let ⟨a, c, h1, _⟩ := hv; ⟨a, c, by rw [← hl]; exact h1⟩
 have hb : rows.length ≤ 9223372036854775807 := let ⟨_, _, _, h, _⟩ := hv; by omega
 refine Z1 (Z0 (Z5 (vI 0) rfl rfl (Z2 (Z1 (Z1 (Z0 (Z3 v rfl rfl ?_)))))))
 refine Zo2 T2 (show v = _ from hvv) rfl (Z3 (vI 0) rfl rfl (Z2 (Y8 ?_)))
 refine W0 (id := 0) (fun k f w => ∃ (n : Nat) (H1 : FH), n ≤ rows.length ∧ rows.length < n + k ∧ Sub H H1 ∧ St H1 w L ∧ fi c (rows.drop n) n = fi c rows 0 ∧ tv f 0 = v ∧ tv f 1 = .func (.func 233) #[] #[p] ∧ tv f 7 = vI (rows.length : Int) ∧ tv f 8 = vI (n : Int))
  (fun f w => ∃ (H1 : FH), Sub H H1 ∧ St H1 w L ∧ fi c rows 0 = -1) rfl ?_ ?_ (rows.length + 1) ?_ ?_
 rintro f w ⟨n, H1, h1, h2, _⟩; omega
 rintro k f w ih hx ⟨n, H1, h1, h2, Z4, hS, hfi, t0, t1, t7, t8⟩
 refine Z1 (Z0 ?_)
 refine W8 (k := .i64) (a := n) (b := rows.length) (by exact t8) (by exact t7) rfl (Z2 (Z1 ?_))
 by_cases hn : (n : Int) < (rows.length : Int)
 have hn' : n < rows.length := by omega
 have hnv : n < vals.length := by omega
 refine Z8 (bT hn rfl) (Y6 (Z1 (Y8 (Z1 (Z0 (Z3 (vI n) (by exact t8) rfl (Z5 (vI n) rfl rfl (Z2 (Z1 (Z0 (Z3 (.func (.func 233) #[] #[p]) (by exact t1) rfl (Z3 v (by exact t0) rfl (Z3 (vI n) rfl rfl ?_)))))))))))))
 obtain ⟨b, o, cp, hv1, hcell⟩ := (hv.mono Z4).at hnv
 refine Zf8 T2 (Eq.trans rfl hv1) rfl (by omega) (by omega) rfl ?_
 obtain ⟨cs, E, z, hw, hcs⟩ := hcell H1 _ (Sub.refl _) hS
 refine Y0 vals[n] P4 rfl hw (by simpa using hcs) rfl ?_
 have hrow := hm _ (List.getElem_mem hn')
 refine Wp1 (caps := #[p]) call233 rfl (R3 rfl) rfl rfl (Wp8 ((hr n hn' hnv).mono Z4) hp hc h0 hrow hS) ?_
 rintro e w1 ⟨_, G, rfl, hs1, hS, rfl⟩
 refine ⟨_, rfl, Z2 ?_⟩
 have hd : rows.drop n = rows[n] :: rows.drop (n + 1) := (List.getElem_cons_drop ..).symm
 rw [hd, fi] at hfi
 by_cases hz : rd rows[n] c = 0
 rw [if_pos hz] at hfi
 refine Z7 (nT (decide_eq_true hz)) (Y6 (X1 (Z0 ?_)))
 refine W2 ((n : Int) + 1) (by exact t8) rfl (IntWalk.i64_in _ (by omega)) rfl (Z3 (vI ((n : Int) + 1)) rfl rfl (Z2 ?_))
 exact ih _ _ ⟨n + 1, G, by omega, by omega, Z4.trans hs1, hS, hfi, t0, t1, t7, by show vI ((n : Int) + 1) = vI ((n + 1 : Nat) : Int); rw [Int.natCast_add]; rfl⟩
 rw [if_neg hz] at hfi
 refine Z8 (nT (decide_eq_false hz)) (Z1 (Z0 (Z3 (vI n) rfl rfl (Z5 (vI n) rfl rfl (Z2 ?_)))))
 exact Y9 (vs := [vI n]) func232 ⟨rfl, trivial⟩ ⟨_, _, rfl, Z4.trans hs1, hS, by rw [← hfi]; rfl⟩
 refine Z7 (bF hn rfl) (X7 rfl ?_)
 have e : n = rows.length := by omega
 subst e
 rw [List.drop_length, fi] at hfi
 exact hx _ _ ⟨H1, Z4, hS, hfi.symm⟩
 exact ⟨0, H, by omega, by omega, .refl _, hS, rfl, rfl, rfl, rfl, rfl⟩
 rintro f w ⟨H1, Z4, hS, hfi⟩
 refine Z1 (Z0 (Z5 (vI (-1)) rfl rfl (Z2 ?_)))
 exact Y9 (vs := [vI (-1)]) func232 ⟨rfl, trivial⟩ ⟨_, _, rfl, Z4, hS, by show vI (-1) = vI (fi c rows 0); rw [hfi]⟩
end
def K8 (K : Nat) (a0 : (List MpT)) (a1 : (List MpT)) : Nat → Int → Option (Ex Bool (Unit))
 | 0, _ => none
 | k + 1, a3 => (if a3 < (a0.length : Int) then (if a3 < (a1.length : Int) then ((Zt7 K (rd a0 a3) (rd a1 a3)).bind fun a7 => (if a7 = true then K8 K a0 a1 k (a3 + 1) else some (.ret false))) else none) else some (.go ()))
def Zd7 (K : Nat) (a0 : (List MpT)) (a1 : (List MpT)) : Option Bool := (if (a0.length : Int) = (a1.length : Int) then ((K8 K a0 a1 K 0).bind (Ex.elim (fun r => some r) (fun s => some true))) else some false)
theorem Zq6 {a0 : (List MpT)} {a1 : (List MpT)} {r : Bool} (q0 : Zd7 K a0 a1 = some r) (a6 : Y3 (X2 yT) H s0 a0) (a9 : Y3 (X2 yT) H s1 a1) (hS : St H w L) :
 Calls prog 32 #[s0, s1] w (U7 (fun v G => R.bool.p G v r) H L) := by
 have Z4 := Sub.refl H
 refine X0 func32 rfl ntmps32 rfl ?_
 unfold Zd7 at q0
 refine Z1 (Z0 (Z5 (vB false) rfl rfl (Z2 (Z1 (Z1 (Z0 (Z3 (s0) rfl rfl ?_)))))))
 have e4 := a6.bound
 refine X9 Zf1 rfl a6 rfl (Z3 (s1) rfl rfl ?_)
 have e5 := a9.bound
 refine X9 Zf1 rfl a9 rfl ?_
 refine M0 (k := .i64) (a := (a0.length : Int)) (b := (a1.length : Int)) rfl rfl rfl (Z2 ?_)
 obtain ⟨b9, q0⟩ | ⟨b9, q0⟩ := ic q0
 refine Z7 (bN b9 rfl) (Y6 (Z1 (Z1 (Z0 (Z5 (vI 0) rfl rfl (Z2 (Y8 ?_)))))))
 obtain ⟨c0, a4, b3⟩ := bind_some q0
 refine W0 (id := 0) (fun k f w => ∃ (a3 : Int) (H1 : FH), K8 K a0 a1 k a3 = some c0 ∧ Sub H H1 ∧ St H1 w (L) ∧ 0 ≤ a3 ∧ Y3 (X2 yT) H1 s0 a0 ∧ Y3 (X2 yT) H1 s1 a1 ∧ tv f 0 = s0 ∧ tv f 1 = s1 ∧ tv f 5 = vI a3) (fun f w => ∃ (H1 : FH), c0 = .go () ∧ Sub H H1 ∧ St H1 w (L)) rfl ?_ ?_ K ?_ ?_
 rintro f w ⟨a3, H1, a4, _⟩
 rw [K8] at a4; cases a4
 rintro k _ _ d8 d9 ⟨a3, c9, a4, Z4, hS, _, a6, a9, a8, b2, a5⟩
 rw [K8] at a4
 refine Z1 (Z1 (Z0 (Z3 (vI a3) (by exact a5) rfl (Z3 (s0) (by exact a8) rfl ?_))))
 have e6 := a6.bound
 refine X9 Zf1 rfl a6 rfl ?_
 refine W8 (k := .i64) (a := a3) (b := (a0.length : Int)) rfl rfl rfl (Z2 ?_)
 obtain ⟨c1, a4⟩ | ⟨c1, a4⟩ := ic a4
 refine Z8 (bT c1 rfl) (Y6 (Z1 (Y8 (Z1 ?_))))
 obtain ⟨e0, e1, _, _, _, d0, d1, ⟨b7, rfl, b0⟩, d2⟩ := a6.elem (i := a3) (by omega) (by omega)
 obtain ⟨_, a4⟩ := gd a4
 obtain ⟨e2, e3, _, _, _, d3, d4, ⟨b8, rfl, b1⟩, d5⟩ := a9.elem (i := a3) (by omega) (by omega)
 obtain ⟨a7, c6, a4⟩ := bind_some a4
 refine W7 10 (S9 [mE 17 (s0), mE 18 (vI a3), mE 19 (vQ e0 e1), mE 20 (vA ([b7])), mE 21 (s1), mE 22 (vI a3), mE 23 (vQ e2 e3), mE 24 (vA ([b8])), mE 25 (vB a7), mE 26 (vB (!a7))]) [] mixed rfl rfl rfl hS (V9 ?_ ?_ ?_ ?_ ?_ ?_ ?_ ?_ (J2 ?_ ?_ V1)) ?_
 exact X4 fun S B => Z3 (s0) (evT (B 0 rfl) a8) rfl (qz S)
 exact X4 fun S B => Z3 (vI a3) (evT (B 5 rfl) a5) rfl (qz S)
 exact Y7 fun S V => X5 Zf1 rfl (eM (V 0 17 rfl rfl)) d0 (eM (V 1 18 rfl rfl)) (by omega) (by omega) rfl (qz S)
 exact P0 fun s S V => V0 ([b7]) Q4 (eM (V 2 19 rfl rfl)) (S.froz _ _ (s.1 _ _ d1)) rfl d2 rfl (qz S)
 exact X4 fun S B => Z3 (s1) (evT (B 1 rfl) b2) rfl (qz S)
 exact X4 fun S B => Z3 (vI a3) (evT (B 5 rfl) a5) rfl (qz S)
 exact Y7 fun S V => X5 Zf1 rfl (eM (V 4 21 rfl rfl)) d3 (eM (V 5 22 rfl rfl)) (by omega) (by omega) rfl (qz S)
 exact P0 fun s S V => V0 ([b8]) Q4 (eM (V 6 23 rfl rfl)) (S.froz _ _ (s.1 _ _ d4)) rfl d5 rfl (qz S)
 intro _ _ _ _ c2 hS _ c3 hcq
 have b0 := b0.mono c2
 have b1 := b1.mono c2
 refine X3 call28 (V2 (eM (c3 3 20 rfl rfl)) (eM (c3 7 24 rfl rfl))) rfl (Xc3 c6 b0 b1 hS) ?_
 rintro _ _ _ c7 hS rfl
 exact qn c7 rfl hS rfl
 exact Y7 fun S V => N8 (b := a7) (eM (V 8 25 rfl rfl)) rfl (qz S)
 intro d6 d7 c4 b4 hS b5 c8 hcq
 have hS : St c4 d7 (L) := hS
 have Z4 := Z4.trans b4
 have a6 := a6.mono b4
 have a9 := a9.mono b4
 have c5 : tv d6 26 = vB (!a7) := c8 9 26 (by decide) rfl
 refine Z2 ?_
 obtain ⟨b6, a4⟩ | ⟨b6, a4⟩ := ic a4
 refine Z7 (Eq.trans (by exact c5) (congrArg (fun b => vB (!b)) b6)) (Y6 (X1 (Z0 (Z3 (vI a3) (by exact (evT (b5 5 rfl) a5)) rfl ?_))))
 refine W2 (a3 + 1) rfl rfl (IntWalk.i64_in _ (by omega)) rfl (Z5 (vI (a3 + 1)) rfl rfl (Z2 ?_))
 exact d8 _ _ ⟨(a3 + 1), c4, a4, Z4, hS, (by omega), a6, a9, (evT (b5 0 rfl) a8), (evT (b5 1 rfl) b2), rfl⟩
 refine Z8 (Eq.trans (by exact c5) (congrArg (fun b => vB (!b)) (W1 b6))) (Z1 (Z0 (Z5 (vB false) rfl rfl (Z2 ?_))))
 refine Y9 (vs := [vB false]) func32 ⟨rfl, trivial⟩ ?_
 obtain rfl := oi a4
 dsimp only [Ex.elim] at b3
 obtain rfl := oi b3
 exact ⟨_, _, rfl, Z4, hS, rfl⟩
 refine Z7 (bF c1 rfl) ?_
 refine X7 rfl ?_
 obtain rfl := oi a4
 exact d9 _ _ ⟨c9, rfl, Z4, hS⟩
 exact ⟨0, H, a4, Z4, hS, (by omega), a6, a9, rfl, rfl, rfl⟩
 rintro _ _ ⟨_, rfl, Z4, hS⟩
 dsimp only [Ex.elim] at b3
 refine Z1 (Z0 (Z5 (vB true) rfl rfl (Z2 ?_)))
 refine Y9 (vs := [vB true]) func32 ⟨rfl, trivial⟩ ?_
 obtain rfl := oi b3
 exact ⟨_, _, rfl, Z4, hS, rfl⟩
 refine Z8 (bO b9 rfl) (Z1 (Z0 (Z5 (vB false) rfl rfl (Z2 ?_))))
 refine Y9 (vs := [vB false]) func32 ⟨rfl, trivial⟩ ?_
 obtain rfl := oi q0
 exact ⟨_, _, rfl, Z4, hS, rfl⟩
def B4 (K : Nat) (a0 : (List MpT)) : Nat → Int → (List MpT) → Option (Ex (List MpT) ((List MpT)))
 | 0, _, _ => none
 | k + 1, a1, a3 => (if a1 < (a0.length : Int) then ((Zt9 K (rd a0 a1)).bind fun b7 => (if a1 < (a3.length : Int) then B4 K a0 k (a1 + 1) (a3.set (a1).toNat b7) else none)) else some (.go a3))
def Zq9 (K : Nat) (a0 : (List MpT)) : Option (List MpT) := (if (a0.length : Int) ≤ 1099511627776 then ((B4 K a0 K 0 (List.replicate ((a0.length : Int)).toNat (([] : List (A8 × Int)) : MpT))).bind (Ex.elim (fun r => some r) (fun s => (fun (a8 : (List MpT)) => some a8) s))) else none)
theorem Yz3 {a0 : (List MpT)} {r : (List MpT)} (q0 : Zq9 K a0 = some r) (b2 : Y3 (X2 yT) H s0 a0) (hS : St H w L) :
 Calls prog 69 #[s0] w (U7 (fun v G => RdN (X2 yT) H G v r []) H L) := by
 have Z4 := Sub.refl H
 refine X0 func69 rfl ntmps69 rfl ?_
 unfold Zq9 at q0
 refine Z1 (Z0 (Z5 (vN) rfl rfl (Z2 (Z1 (Z0 (Z3 (s0) rfl rfl ?_))))))
 have e5 := b2.bound
 refine X9 Xk1 rfl b2 rfl ?_
 obtain ⟨_, q0⟩ := gd q0
 refine Wy4 (τ := (Yd2 H (X2 yT))) (([] : List (A8 × Int)) : MpT) Wt4 rfl rfl rfl (fun _ => ⟨_, rfl, Y3.nil⟩) rfl (by omega) (by omega) hS List.nodup_nil (fun _ h => (by cases h)) rfl ?_
 intro u3 _ C5 d9 hS
 refine Z5 (u3) rfl rfl (Z2 (Z1 (Z1 (Z0 (Z5 (vI 0) rfl rfl (Z2 (Y8 ?_)))))))
 obtain ⟨c1, a5, c2⟩ := bind_some q0
 refine W0 (id := 0) (fun k f w => ∃ (a1 : Int) (a3 : (List MpT)) (H1 : FH) (a9 : OL) (a4 : Value), B4 K a0 k a1 a3 = some c1 ∧ Sub H H1 ∧ St H1 w (a9 ++ L) ∧ 0 ≤ a1 ∧ I7 (Yd2 H (X2 yT)) 45 H1 a4 a3 a9 ([] : List Nat) ∧ Y3 (X2 yT) H1 s0 a0 ∧ tv f 0 = s0 ∧ tv f 3 = a4 ∧ tv f 4 = vI a1) (fun f w => ∃ (a8 : (List MpT)) (H1 : FH) (b3 : OL) (a6 : Value), c1 = .go a8 ∧ Sub H H1 ∧ St H1 w (b3 ++ L) ∧ I7 (Yd2 H (X2 yT)) 45 H1 a6 a8 b3 ([] : List Nat) ∧ tv f 3 = a6) rfl ?_ ?_ K ?_ ?_
 rintro f w ⟨a1, a3, H1, a9, a4, a5, _⟩
 rw [B4] at a5; cases a5
 rintro k _ _ e0 e1 ⟨a1, a3, c9, a9, a4, a5, Z4, hS, _, a7, b2, b4, b5, b1⟩
 rw [B4] at a5
 refine Z1 (Z1 (Z0 (Z3 (vI a1) (by exact b1) rfl (Z3 (s0) (by exact b4) rfl ?_))))
 have e6 := b2.bound
 refine X9 Xk1 rfl b2 rfl ?_
 refine W8 (k := .i64) (a := a1) (b := (a0.length : Int)) rfl rfl rfl (Z2 ?_)
 obtain ⟨c3, a5⟩ | ⟨c3, a5⟩ := ic a5
 refine Z8 (bT c3 rfl) (Y6 (Z1 (Y8 (Z0 (Z3 (a4) (by exact b5) rfl (Z3 (vI a1) (by exact b1) rfl (Z3 (s0) (by exact b4) rfl (Z3 (vI a1) (by exact b1) rfl ?_))))))))
 obtain ⟨_, _, _, _, _, d0, d1, ⟨c7, rfl, c4⟩, d2⟩ := b2.elem (i := a1) (by omega) (by omega)
 refine X5 Xk1 rfl rfl d0 rfl (by omega) (by omega) rfl ?_
 refine V0 ([c7]) Ve4 rfl (hS.froz _ _ d1) rfl d2 rfl ?_
 obtain ⟨b7, d3, a5⟩ := bind_some a5
 refine X3 call26 (R3 rfl) rfl (Xb7 d3 c4 hS) ?_
 rintro _ c8 _ b9 hS ⟨_, rfl, ⟨b6, rfl, b0⟩⟩
 have d4 := b0
 have d5 : RdF yT H c8 b6 b7 := Y3.mono (Ye9 Z4) b0
 have b0 := Y3.old b0
 have a7 := I7.keep (Yv2 H (Zw6 _)) a7 b9 (RdF.rootsOut d4) (Y3.rootsIn b0) (Zz5 _)
 have Z4 := Z4.trans b9
 have b2 := b2.mono b9
 obtain ⟨_, a5⟩ := gd a5
 obtain ⟨_, _, c5⟩ := a7.own.some (i := a1) (by omega) (by omega)
 refine P3 Zf1 (Eq.trans rfl c5) rfl (by omega) (by omega) rfl ?_
 refine Xy3 (R := Zk5 [b6]) (τ := (Yd2 H (X2 yT))) (v := a4) (u := vA ([b6])) b7 (i := a1) rfl Q4 c5 a7 hS rfl rfl (by omega) (by omega) ⟨_, rfl, d5⟩ rfl ?_
 intro _ e2 d6 hS
 refine Z2 (X1 (Z0 (Z3 (vI a1) (by exact b1) rfl ?_)))
 refine W2 (a1 + 1) rfl rfl (IntWalk.i64_in _ (by omega)) rfl (Z5 (vI (a1 + 1)) rfl rfl (Z2 ?_))
 exact e0 _ _ ⟨(a1 + 1), (a3.set (a1).toNat b7), c8, e2, a4, a5, Z4, hS, (by omega), d6, b2, b4, b5, rfl⟩
 refine Z7 (bF c3 rfl) ?_
 refine X7 rfl ?_
 obtain rfl := oi a5
 exact e1 _ _ ⟨a3, c9, a9, a4, rfl, Z4, hS, a7, b5⟩
 exact ⟨0, (List.replicate ((a0.length : Int)).toNat (([] : List (A8 × Int)) : MpT)), H, C5, u3, a5, Z4, hS, (by omega), d9, b2, rfl, rfl, rfl⟩
 rintro _ _ ⟨a8, _, b3, a6, rfl, Z4, hS, b8, c0⟩
 dsimp only [Ex.elim] at c2
 refine Z1 (Z0 (Z3 (a6) (by exact c0) rfl (Z5 (a6) rfl rfl (Z2 ?_))))
 refine Y9 (vs := [a6]) func69 ⟨rfl, trivial⟩ ?_
 obtain ⟨e3, d7, hS, c6⟩ := I7.freezeN (τ := (X2 yT)) (H0 := H) (Zw6 _) b8 hS Z4
 have d8 : RdF (X2 yT) H e3 a6 a8 := RdN.old c6
 have e4 := Y3.old d8
 have Z4 := Z4.trans d7
 obtain rfl := oi c2
 exact ⟨_, _, rfl, Z4, hS, c6⟩
def B7 (K : Nat) (a0 : (List (List Int))) : Nat → (List (List Int)) → Int → Option (Ex (List (List Int)) ((List (List Int))))
 | 0, _, _ => none
 | k + 1, a4, a1 => (if a1 < (a0.length : Int) then ((Zt8 K a4 (rd a0 a1)).bind fun r9 => B7 K a0 k r9 (a1 + 1)) else some (.go a4))
def Za7 (K : Nat) (a0 : (List (List Int))) : Option (List (List Int)) := ((B7 K a0 K ([] : List (List Int)) 0).bind (Ex.elim (fun r => some r) (fun s => (fun (b0 : (List (List Int))) => some b0) s)))
theorem Yc8 {a0 : (List (List Int))} {r : (List (List Int))} (q0 : Za7 K a0 = some r) (a7 : Y3 (X2 (Y5 .i64)) H s0 a0) (hS : St H w L) :
 Calls prog 136 #[s0] w (U7 (fun v G => (R.sl (X2 (Y5 .i64))).p G v r) H L) := by
 have Z4 := Sub.refl H
 refine X0 func136 rfl ntmps136 rfl ?_
 unfold Za7 at q0
 refine Z1 (Z0 (Z5 (vN) rfl rfl (Z2 (Z1 (Z0 ?_)))))
 refine Yb8 (τ := (X2 (Y5 .i64))) T2 Zn8 rfl hS rfl ?_
 intro u1 _ _ c3 hS
 refine Z5 (u1) rfl rfl (Z2 (Z1 (Z1 (Z0 (Z5 (vI 0) rfl rfl (Z2 (Y8 ?_)))))))
 obtain ⟨b9, b2, hS, b5⟩ := c3.freeze hS
 have Z4 := Z4.trans b2
 have a7 := a7.mono b2
 obtain ⟨b6, a3, b7⟩ := bind_some q0
 refine W0 (id := 0) (fun k f w => ∃ (a4 : (List (List Int))) (a1 : Int) (H1 : FH) (a5 : Value), B7 K a0 k a4 a1 = some b6 ∧ Sub H H1 ∧ St H1 w (L) ∧ 0 ≤ a1 ∧ Y3 (X2 (Y5 .i64)) H1 a5 a4 ∧ Y3 (X2 (Y5 .i64)) H1 s0 a0 ∧ tv f 0 = s0 ∧ tv f 3 = a5 ∧ tv f 4 = vI a1) (fun f w => ∃ (b0 : (List (List Int))) (H1 : FH) (a6 : Value), b6 = .go b0 ∧ Sub H H1 ∧ St H1 w (L) ∧ Y3 (X2 (Y5 .i64)) H1 a6 b0 ∧ tv f 3 = a6) rfl ?_ ?_ K ?_ ?_
 rintro f w ⟨a4, a1, H1, a5, a3, _⟩
 rw [B7] at a3; cases a3
 rintro k _ _ c4 c5 ⟨a4, a1, c2, a5, a3, Z4, hS, _, b3, a7, a8, b1, a9⟩
 rw [B7] at a3
 refine Z1 (Z1 (Z0 (Z3 (vI a1) (by exact a9) rfl (Z3 (s0) (by exact a8) rfl ?_))))
 have d2 := a7.bound
 refine X9 T2 rfl a7 rfl ?_
 refine W8 (k := .i64) (a := a1) (b := (a0.length : Int)) rfl rfl rfl (Z2 ?_)
 obtain ⟨b8, a3⟩ | ⟨b8, a3⟩ := ic a3
 refine Z8 (bT b8 rfl) (Y6 (Z1 (Y8 (Z0 (Z3 (a5) (by exact b1) rfl (Z3 (s0) (by exact a8) rfl (Z3 (vI a1) (by exact a9) rfl ?_)))))))
 obtain ⟨_, _, _, _, _, c6, c7, ⟨u8, rfl, c8⟩, c9⟩ := a7.elem (i := a1) (by omega) (by omega)
 refine X5 T2 rfl rfl c6 rfl (by omega) (by omega) rfl ?_
 refine Y0 (u8) P4 rfl (hS.froz _ _ c7) (c9 0 (show 0 < 1 by decide)) rfl ?_
 obtain ⟨r9, d0, a3⟩ := bind_some a3
 refine X3 call224 (V2 rfl rfl) rfl (Xb0 d0 b3 c8 hS) ?_
 rintro v9 H9 _ c1 hS d1
 have Z4 := Z4.trans c1
 have a7 := a7.mono c1
 refine Z5 (v9) rfl rfl (Z2 (X1 (Z0 (Z3 (vI a1) (by exact a9) rfl ?_))))
 refine W2 (a1 + 1) rfl rfl (IntWalk.i64_in _ (by omega)) rfl (Z5 (vI (a1 + 1)) rfl rfl (Z2 ?_))
 exact c4 _ _ ⟨r9, (a1 + 1), H9, v9, a3, Z4, hS, (by omega), d1, a7, a8, rfl, rfl⟩
 refine Z7 (bF b8 rfl) ?_
 refine X7 rfl ?_
 obtain rfl := oi a3
 exact c5 _ _ ⟨a4, c2, a5, rfl, Z4, hS, b3, b1⟩
 exact ⟨([] : List (List Int)), 0, b9, u1, a3, Z4, hS, (by omega), b5, a7, rfl, rfl, rfl⟩
 rintro _ _ ⟨b0, _, a6, rfl, Z4, hS, c0, b4⟩
 dsimp only [Ex.elim] at b7
 refine Z1 (Z0 (Z3 (a6) (by exact b4) rfl (Z5 (a6) rfl rfl (Z2 ?_))))
 refine Y9 (vs := [a6]) func136 ⟨rfl, trivial⟩ ?_
 obtain rfl := oi b7
 exact ⟨_, _, rfl, Z4, hS, c0⟩
theorem Ys4 {K : Nat} {a2 : Int} : ∀ (k : Nat) (zs : MpT), Zq1 K (fun (_ : Unit) s => s) (fun s => U0 K a2 k zs s)
 | 0, zs => ⟨none, fun s => (show U0 K a2 0 zs s = none by rw [U0])⟩
 | k + 1, [] => by
  have e : (fun s => U0 K a2 (k + 1) [] s) = fun s => some (.go s) := by funext s; rw [U0]
  rw [e]; exact .go (h := fun (_ : Unit) s => s) ()
 | k + 1, z :: zs => by
  have e : (fun s => U0 K a2 (k + 1) (z :: zs) s) = fun s => (T3 K s z.1 (((IntKind.i64.wrap (z.2 * a2))).tmod 10007)).bind fun t => U0 K a2 k zs t := by
   funext s; rw [U0]
  rw [e]; exact .bind (.add _ _) (Ys4 k zs)
theorem Wg5 {K : Nat} (t : MpT) (f : Int) : Zs3 K (fun s => F4 K s t f) := by
 obtain ⟨F, hF, hs⟩ := (Ys4 (K := K) (a2 := f) K t).step (fun s => s) (fun _ _ => rfl)
 have e : (fun s => F4 K s t f) = F := by
  funext s
  unfold F4
  exact (hs (fun r => some r) (fun s => some s) s).trans (by cases F s <;> rfl)
 rw [e]; exact hF
def Xr3 (H : FH) (b : Nat) (I : Yk4) : Prop := H.memo b = some (.pl I)
theorem Xr3.mono {H H' : FH} {b : Nat} {I : Yk4} (h : Xr3 H b I) (hs : Sub H H') : Xr3 H' b I := hs.memoPl h
theorem N1.fr {k : IntKind} {H H' : FH} {v : Value} {t : MpT} (h : N1 k H v t) (e : H.fr = H'.fr) : N1 k H' v t := by
 rcases h with h | ⟨s, b, es, c, ys, h1, h2, h3, h4⟩
 exact .inl h
 exact .inr ⟨s, b, es, c, ys, h1, by rw [← e]; exact h2, h3, h4⟩
end Go.Proofs.YtabofnehiclkiaaGreat
