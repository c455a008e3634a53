/- Walks of functions: each computes its pure function, if that gives a value. -/
import Derived.Test.YtabofnehiclkiaaGreatZF15
namespace Go.Proofs.YtabofnehiclkiaaGreat
open Go Go.Proofs.Tryz
set_option linter.unusedSimpArgs false
set_option linter.unusedVariables false
set_option maxRecDepth 100000
set_option maxHeartbeats 8000000
variable {K : Nat} {H : FH} {w : World} {L : OL} {s0 s1 s2 s3 s4 s5 s6 : Value}
def M4 (K : Nat) (a0 : ((List Int) × (List MpT))) : Nat → Int → Option (Ex Bool (Unit))
 | 0, _ => none
 | k + 1, a1 => (if a1 < (a0.2.length : Int) then ((Zo0 K a0.1 (rd a0.2 a1)).bind fun b4 => (if b4 = true then (if a1 < (a0.1.length : Int) then ((Zj8 K a0.1 (rd a0.2 a1) (IntKind.i64.wrap ((rd a0.1 a1) + 1))).bind fun b5 => (if b5 = true then M4 K a0 k (a1 + 1) else some (.ret false))) else none) else some (.ret false))) else some (.go ()))
def Zg9 (K : Nat) (a0 : ((List Int) × (List MpT))) (b2 : Bool) : Option Bool := (if b2 = true then some false else ((M4 K a0 K 0).bind (Ex.elim (fun r => some r) (fun s => ((T5 K a0.2 (fun x => Zg6 K x (a0.1, a0.2))).bind fun c0 => some (!c0))))))
def Zn0 (K : Nat) (a0 : ((List Int) × (List MpT))) : Option Bool := ((Zk1 K a0.1).bind fun c8 => (if c8 = true then Zg9 K a0 (!decide ((a0.2.length : Int) = (a0.1.length : Int))) else Zg9 K a0 true))
theorem Yt2 {a0 : ((List Int) × (List MpT))} {r : Bool} (q0 : Zn0 K a0 = some r) (a6 : Y3 (Y5 .i64) H s0 a0.1) (a7 : Y3 (X2 yT) H s1 a0.2) (hS : St H w L) :
 Calls prog 54 #[vA ([s0] ++ [s1])] w (U7 (fun v G => R.bool.p G v r) H L) := by
 have Z4 := Sub.refl H
 refine X0 func54 rfl ntmps54 rfl ?_
 unfold Zn0 at q0
 refine Z1 (Z0 ?_)
 refine T7 (v := vA ([s0] ++ [s1])) ([s0] ++ [s1]).toArray rfl rfl hS rfl ?_
 intro b1 w2 hS
 refine Z5 (vB false) rfl rfl (Z2 (Z1 (Z1 ?_)))
 refine N4 (fun f w => ∃ (b2 : Bool) (H1 : FH), Zg9 K a0 b2 = some r ∧ Sub H H1 ∧ St H1 w ([(b1, cA ([s0] ++ [s1]) 31)] ++ L) ∧ Y3 (Y5 .i64) H1 s0 a0.1 ∧ Y3 (X2 yT) H1 s1 a0.2 ∧ tv f 1 = vP b1 ∧ tv f 17 = vB b2) ?_ ?_
 rintro _ _ ⟨b2, f4, c5, Z4, hS, a6, a7, d5, c6⟩
 unfold Zg9 at c5
 obtain ⟨e4, c5⟩ | ⟨e4, c5⟩ := ic c5
 refine Z8 (Eq.trans (by exact c6) (congrArg vB e4)) (Z1 (Z0 (Z5 (vB false) rfl rfl (Z2 ?_))))
 refine Y9 (vs := [vB false]) func54 ⟨rfl, trivial⟩ ?_
 obtain rfl := oi c5
 exact ⟨_, _, rfl, Z4, (St.dropA hS), rfl⟩
 refine Z7 (Eq.trans (by exact c6) (congrArg vB (W1 e4))) (Y6 (Z1 (Z1 (Z0 (Y2 Zf5 (by exact d5) rfl ?_)))))
 refine Y0 (s1) Zy9 rfl (hS.get mL) rfl rfl ?_
 have j5 := a7.bound
 refine X9 Zf1 rfl a7 rfl (Z3 (vI 0) rfl rfl (Z2 (Y8 ?_)))
 obtain ⟨e5, a3, b6⟩ := bind_some c5
 refine W0 (id := 0) (fun k f w => ∃ (a1 : Int) (H1 : FH), M4 K a0 k a1 = some e5 ∧ Sub H H1 ∧ St H1 w ([(b1, cA ([s0] ++ [s1]) 31)] ++ L) ∧ 0 ≤ a1 ∧ Y3 (Y5 .i64) H1 s0 a0.1 ∧ Y3 (X2 yT) H1 s1 a0.2 ∧ tv f 1 = vP b1 ∧ tv f 19 = s1 ∧ tv f 20 = vI (a0.2.length : Int) ∧ tv f 21 = vI a1) (fun f w => ∃ (H1 : FH), e5 = .go () ∧ Sub H H1 ∧ St H1 w ([(b1, cA ([s0] ++ [s1]) 31)] ++ L) ∧ Y3 (Y5 .i64) H1 s0 a0.1 ∧ Y3 (X2 yT) H1 s1 a0.2 ∧ tv f 1 = vP b1) rfl ?_ ?_ K ?_ ?_
 rintro f w ⟨a1, H1, a3, _⟩
 rw [M4] at a3; cases a3
 rintro k _ _ h8 h9 ⟨a1, g9, a3, Z4, hS, _, a6, a7, a9, c1, c2, b3⟩
 rw [M4] at a3
 refine Z1 (Z0 ?_)
 refine W8 (k := .i64) (a := a1) (b := (a0.2.length : Int)) (by exact b3) (by exact c2) rfl (Z2 (Z1 ?_))
 obtain ⟨e6, a3⟩ | ⟨e6, a3⟩ := ic a3
 refine Z8 (bT e6 rfl) (Y6 (Z1 (Y8 (Z1 (Z0 (Z3 (vI a1) (by exact b3) rfl ?_))))))
 obtain ⟨_, _, _, _, _, i0, i1, ⟨b0, rfl, a8⟩, i2⟩ := a7.elem (i := a1) (by omega) (by omega)
 refine X5 Zf1 rfl (by exact c1) i0 (by exact b3) (by omega) (by omega) rfl ?_
 refine V0 ([b0]) Q4 rfl (hS.froz _ _ i1) rfl i2 rfl ?_
 refine U4 (z := vA ([vN])) ([vN]).toArray Zl9.zero rfl hS rfl ?_
 intro b8 _ hS
 refine Z5 (vI a1) rfl rfl ?_
 refine W4 (v := vA ([b0])) (vs := ([b0]).toArray) (cs := ([vN]).toArray) Q4 rfl rfl rfl hS rfl (Zb5 a8.isOne) rfl ?_
 intro _ hS
 refine Z2 (Z1 ?_)
 obtain ⟨b4, e7, a3⟩ := bind_some a3
 obtain ⟨a4, a3⟩ | ⟨a4, a3⟩ := ic a3
 obtain ⟨_, a3⟩ := gd a3
 obtain ⟨h0, h1, _, _, _, f5, c9, rfl, f6⟩ := a6.elem (i := a1) (by omega) (by omega)
 obtain ⟨b5, f7, a3⟩ := bind_some a3
 refine W7 18 (S9 [mE 26 (vP b1), mE 27 (s0), mE 28 (vA ([b0])), mE 29 (vB b4), mE 30 (vB (!b4)), mE 31 (vB (!b4)), mE 32 (vP b1), mE 33 (s0), mE 34 (vA ([b0])), mE 35 (vP b1), mE 36 (s0), mE 37 (vI a1), mE 38 (vQ h0 h1), mE 39 (vI (rd a0.1 a1)), mE 40 (vI (IntKind.i64.wrap ((rd a0.1 a1) + 1))), mE 41 (vB b5), mE 42 (vB (!b5)), mE 43 (vB (!b5))]) [] mixed rfl rfl rfl hS (V9 ?_ ?_ ?_ ?_ ?_ ?_ ?_ ?_ (V9 ?_ ?_ ?_ ?_ ?_ ?_ ?_ ?_ (J2 ?_ ?_ V1))) ?_
 exact X4 fun S B => Y2 L6 (evT (B 1 rfl) a9) rfl (qz S)
 exact Y7 fun S V => Y0 (s0) P4 (eM (V 0 26 rfl rfl)) (S.get (mR (mR mL))) rfl rfl (qz S)
 exact X4 fun S B => W3 Q4 (evT (B 4 rfl) rfl) (S.get (mR mL)) rfl rfl (qz S)
 intro d6 i3 i4 i5 c3 hS h2 c4 hcq
 have a6 := a6.mono c3
 have a8 := a8.mono c3
 have e8 : tv d6 27 = s0 := c4 1 27 rfl rfl
 have e9 : tv d6 28 = vA ([b0]) := c4 2 28 rfl rfl
 refine X3 call121 (V2 e8 e9) rfl (Ya7 e7 a6 a8 hS) ?_
 rintro _ i6 i7 d7 hS rfl
 exact qn d7 rfl hS rfl
 exact Y7 fun S V => N8 (b := b4) (eM (V 3 29 rfl rfl)) rfl (qz S)
 exact Y7 fun S V => Z3 (vB (!b4)) (eM (V 4 30 rfl rfl)) rfl (qz S)
 exact L3 fun S B V => Y1 rfl rfl (Eq.trans (eM (V 5 31 rfl rfl)) (congrArg (fun b => vB (!b)) a4)) (Y2 L6 (evT (B 1 rfl) a9) rfl (qz S))
 intro _ _ _ _ _ hS _ f0 hcq
 refine Y1 rfl rfl (Eq.trans (eM (f0 5 31 rfl rfl)) (congrArg (fun b => vB (!b)) a4)) ?_
 refine Y0 (s0) P4 (eM (f0 6 32 rfl rfl)) (hS.get (mR (mR mL))) rfl rfl ?_
 exact qn (.refl _) rfl hS rfl
 intro i8 _ _ _ _ hS f8 f9 hcq
 have h3 : tv i8 4 = vP b8 := Eq.trans (f8 4 rfl) rfl
 refine Y1 rfl rfl (Eq.trans (eM (f9 5 31 rfl rfl)) (congrArg (fun b => vB (!b)) a4)) ?_
 refine W3 Q4 h3 (hS.get (mR mL)) rfl rfl ?_
 exact qn (.refl _) rfl hS rfl
 exact L3 fun S B V => Y1 rfl rfl (Eq.trans (eM (V 5 31 rfl rfl)) (congrArg (fun b => vB (!b)) a4)) (Y2 L6 (evT (B 1 rfl) a9) rfl (qz S))
 intro _ _ _ _ _ hS _ d8 hcq
 refine Y1 rfl rfl (Eq.trans (eM (d8 5 31 rfl rfl)) (congrArg (fun b => vB (!b)) a4)) ?_
 refine Y0 (s0) P4 (eM (d8 9 35 rfl rfl)) (hS.get (mR (mR mL))) rfl rfl ?_
 exact qn (.refl _) rfl hS rfl
 exact L3 fun S B V => Y1 rfl rfl (Eq.trans (eM (V 5 31 rfl rfl)) (congrArg (fun b => vB (!b)) a4)) (Z3 (vI a1) (evT (B 3 rfl) rfl) rfl (qz S))
 intro _ _ _ _ _ hS _ d0 hcq
 refine Y1 rfl rfl (Eq.trans (eM (d0 5 31 rfl rfl)) (congrArg (fun b => vB (!b)) a4)) ?_
 refine X5 U5 rfl (eM (d0 10 36 rfl rfl)) f5 (eM (d0 11 37 rfl rfl)) (by omega) (by omega) rfl ?_
 exact qn (.refl _) rfl hS rfl
 intro _ _ _ _ g0 hS _ d9 hcq
 have c9 := g0.1 _ _ c9
 refine Y1 rfl rfl (Eq.trans (eM (d9 5 31 rfl rfl)) (congrArg (fun b => vB (!b)) a4)) ?_
 refine Y0 (vI (rd a0.1 a1)) ty2 (eM (d9 12 38 rfl rfl)) (hS.froz _ _ c9) (f6 0 (show 0 < 1 by decide)) rfl ?_
 exact qn (.refl _) rfl hS rfl
 intro _ _ _ _ _ hS _ e0 hcq
 refine Y1 rfl rfl (Eq.trans (eM (e0 5 31 rfl rfl)) (congrArg (fun b => vB (!b)) a4)) ?_
 refine W2 (IntKind.i64.wrap ((rd a0.1 a1) + 1)) (eM (e0 13 39 rfl rfl)) rfl rfl rfl ?_
 exact qn (.refl _) rfl hS rfl
 intro _ _ _ _ e1 hS _ b7 hcq
 have a6 := a6.mono e1
 have a8 := a8.mono e1
 refine Y1 rfl rfl (Eq.trans (eM (b7 5 31 rfl rfl)) (congrArg (fun b => vB (!b)) a4)) ?_
 refine X3 call122 (D8 (eM (b7 7 33 rfl rfl)) (eM (b7 8 34 rfl rfl)) (eM (b7 14 40 rfl rfl))) rfl (Yp9 f7 a6 a8 hS) ?_
 rintro _ _ _ g1 hS rfl
 exact qn g1 rfl hS rfl
 exact Y7 fun S V => Y1 rfl rfl (Eq.trans (eM (V 5 31 rfl rfl)) (congrArg (fun b => vB (!b)) a4)) (N8 (b := b5) (eM (V 15 41 rfl rfl)) rfl (qz S))
 exact Y7 fun S V => W6 (t := false) (vB (!b5)) (Eq.trans (eM (V 5 31 rfl rfl)) (congrArg (fun b => vB (!b)) a4)) ((if_neg Bool.false_ne_true).trans (eM (V 16 42 rfl rfl))) rfl (qz S)
 intro h4 h5 f1 d1 hS b9 g2 hcq
 have hS : St f1 h5 ([(b8, cA ([b0]) 45)] ++ ([(b1, cA ([s0] ++ [s1]) 31)] ++ L)) := hS
 have Z4 := Z4.trans d1
 have a7 := a7.mono d1
 have a6 := a6.mono d1
 have f2 : tv h4 43 = vB (!b5) := g2 17 43 (by decide) rfl
 refine Z2 ?_
 obtain ⟨d2, a3⟩ | ⟨d2, a3⟩ := ic a3
 refine Z7 (Eq.trans (by exact f2) (congrArg (fun b => vB (!b)) d2)) (Y6 (X1 (Z0 ?_)))
 refine W2 (a1 + 1) (by exact (evT (b9 21 rfl) b3)) rfl (IntWalk.i64_in _ (by omega)) rfl (Z3 (vI (a1 + 1)) rfl rfl (Z2 ?_))
 have hS := St.dropA hS
 exact h8 _ _ ⟨(a1 + 1), f1, a3, Z4, hS, (by omega), a6, a7, (evT (b9 1 rfl) a9), (evT (b9 19 rfl) c1), (evT (b9 20 rfl) c2), rfl⟩
 refine Z8 (Eq.trans (by exact f2) (congrArg (fun b => vB (!b)) (W1 d2))) (Z1 (Z0 (Z5 (vB false) rfl rfl (Z2 ?_))))
 refine Y9 (vs := [vB false]) func54 ⟨rfl, trivial⟩ ?_
 obtain rfl := oi a3
 dsimp only [Ex.elim] at b6
 obtain rfl := oi b6
 exact ⟨_, _, rfl, Z4, (St.dropA (St.dropA hS)), rfl⟩
 refine W7 18 (S9 [mE 26 (vP b1), mE 27 (s0), mE 28 (vA ([b0])), mE 29 (vB b4), mE 30 (vB (!b4)), mE 31 (vB (!b4)), mE 32 (undef), mE 33 (undef), mE 34 (undef), mE 35 (undef), mE 36 (undef), mE 37 (undef), mE 38 (undef), mE 39 (undef), mE 40 (undef), mE 41 (undef), mE 42 (undef), mE 43 (vB true)]) [] mixed rfl rfl rfl hS (V9 ?_ ?_ ?_ ?_ ?_ ?_ ?_ ?_ (V9 ?_ ?_ ?_ ?_ ?_ ?_ ?_ ?_ (J2 ?_ ?_ V1))) ?_
 exact X4 fun S B => Y2 L6 (evT (B 1 rfl) a9) rfl (qz S)
 exact Y7 fun S V => Y0 (s0) P4 (eM (V 0 26 rfl rfl)) (S.get (mR (mR mL))) rfl rfl (qz S)
 exact X4 fun S B => W3 Q4 (evT (B 4 rfl) rfl) (S.get (mR mL)) rfl rfl (qz S)
 intro d6 i3 i4 i5 c3 hS h2 c4 hcq
 have a6 := a6.mono c3
 have a8 := a8.mono c3
 have e8 : tv d6 27 = s0 := c4 1 27 rfl rfl
 have e9 : tv d6 28 = vA ([b0]) := c4 2 28 rfl rfl
 refine X3 call121 (V2 e8 e9) rfl (Ya7 e7 a6 a8 hS) ?_
 rintro _ i6 i7 d7 hS rfl
 exact qn d7 rfl hS rfl
 exact Y7 fun S V => N8 (b := b4) (eM (V 3 29 rfl rfl)) rfl (qz S)
 exact Y7 fun S V => Z3 (vB (!b4)) (eM (V 4 30 rfl rfl)) rfl (qz S)
 exact Y7 fun S V => Z9 rfl rfl (Eq.trans (eM (V 5 31 rfl rfl)) (congrArg (fun b => vB (!b)) (W1 a4))) rfl rfl rfl (qz S)
 exact Y7 fun S V => Z9 rfl rfl (Eq.trans (eM (V 5 31 rfl rfl)) (congrArg (fun b => vB (!b)) (W1 a4))) rfl rfl rfl (qz S)
 exact Y7 fun S V => Z9 rfl rfl (Eq.trans (eM (V 5 31 rfl rfl)) (congrArg (fun b => vB (!b)) (W1 a4))) rfl rfl rfl (qz S)
 exact Y7 fun S V => Z9 rfl rfl (Eq.trans (eM (V 5 31 rfl rfl)) (congrArg (fun b => vB (!b)) (W1 a4))) rfl rfl rfl (qz S)
 exact Y7 fun S V => Z9 rfl rfl (Eq.trans (eM (V 5 31 rfl rfl)) (congrArg (fun b => vB (!b)) (W1 a4))) rfl rfl rfl (qz S)
 exact Y7 fun S V => Z9 rfl rfl (Eq.trans (eM (V 5 31 rfl rfl)) (congrArg (fun b => vB (!b)) (W1 a4))) rfl rfl rfl (qz S)
 exact Y7 fun S V => Z9 rfl rfl (Eq.trans (eM (V 5 31 rfl rfl)) (congrArg (fun b => vB (!b)) (W1 a4))) rfl rfl rfl (qz S)
 exact Y7 fun S V => Z9 rfl rfl (Eq.trans (eM (V 5 31 rfl rfl)) (congrArg (fun b => vB (!b)) (W1 a4))) rfl rfl rfl (qz S)
 exact Y7 fun S V => Z9 rfl rfl (Eq.trans (eM (V 5 31 rfl rfl)) (congrArg (fun b => vB (!b)) (W1 a4))) rfl rfl rfl (qz S)
 exact Y7 fun S V => Z9 rfl rfl (Eq.trans (eM (V 5 31 rfl rfl)) (congrArg (fun b => vB (!b)) (W1 a4))) rfl rfl rfl (qz S)
 exact Y7 fun S V => Z9 rfl rfl (Eq.trans (eM (V 5 31 rfl rfl)) (congrArg (fun b => vB (!b)) (W1 a4))) rfl rfl rfl (qz S)
 exact Y7 fun S V => W6 (t := true) (vB true) (Eq.trans (eM (V 5 31 rfl rfl)) (congrArg (fun b => vB (!b)) (W1 a4))) ((if_pos rfl).trans rfl) rfl (qz S)
 intro _ h6 h7 g3 hS _ g4 hcq
 have hS : St h7 h6 ([(b8, cA ([b0]) 45)] ++ ([(b1, cA ([s0] ++ [s1]) 31)] ++ L)) := hS
 have Z4 := Z4.trans g3
 refine Z2 (Z8 (by exact (eM (g4 17 43 (by decide) rfl))) (Z1 (Z0 (Z5 (vB false) rfl rfl (Z2 ?_)))))
 refine Y9 (vs := [vB false]) func54 ⟨rfl, trivial⟩ ?_
 obtain rfl := oi a3
 dsimp only [Ex.elim] at b6
 obtain rfl := oi b6
 exact ⟨_, _, rfl, Z4, (St.dropA (St.dropA hS)), rfl⟩
 refine Z7 (bF e6 rfl) ?_
 refine X7 rfl ?_
 obtain rfl := oi a3
 exact h9 _ _ ⟨g9, rfl, Z4, hS, a6, a7, a9⟩
 exact ⟨0, f4, a3, Z4, hS, (by omega), a6, a7, d5, rfl, rfl, rfl⟩
 rintro _ _ ⟨_, rfl, Z4, hS, a6, a7, c7⟩
 dsimp only [Ex.elim] at b6
 refine Z1 ?_
 obtain ⟨_, d3, hS, e2⟩ := St.freezeBox hS
 have Z4 := Z4.trans d3
 have a6 := a6.mono d3
 have a7 := a7.mono d3
 refine Z0 (Y2 Zf5 (by exact c7) rfl ?_)
 refine Y0 (s1) Zy9 rfl (hS.froz _ _ e2) ((Yn9 ([s0] ++ [s1]) 2) 1 (show 1 < 2 by decide)) rfl ?_
 refine Ym6 (by exact c7) rfl ?_
 obtain ⟨c0, g5, b6⟩ := bind_some b6
 refine X3 call123 (V2 rfl rfl) rfl (Zc4 g5 a7 ⟨124, #[vP b1], rfl, call124, fun H2 w2 L2 v x b i9 j0 hv j1 => by obtain ⟨_, rfl, ⟨j2, rfl, e3⟩⟩ := hv; exact Ym9 j1 e3 (Zs8.mono i9 ⟨_, _, _, _, _, rfl, e2, ⟨_, _, rfl, ⟨_, rfl, a6⟩, ⟨_, rfl, a7⟩⟩, (Yn9 ([s0] ++ [s1]) 2)⟩) j0⟩ hS) ?_
 rintro _ _ _ g6 hS rfl
 have Z4 := Z4.trans g6
 refine N8 (b := c0) rfl rfl (Z5 (vB (!c0)) rfl rfl (Z2 ?_))
 refine Y9 (vs := [vB (!c0)]) func54 ⟨rfl, trivial⟩ ?_
 obtain rfl := oi b6
 exact ⟨_, _, rfl, Z4, hS, rfl⟩
 intro g8
 refine Z0 (Y2 L6 rfl rfl ?_)
 refine Y0 (s0) P4 rfl (hS.get mL) rfl rfl ?_
 obtain ⟨c8, g7, q0⟩ := bind_some q0
 refine X3 call120 (R3 rfl) rfl (Ys3 g7 a6 hS) ?_
 rintro _ f3 _ d4 hS rfl
 have Z4 := Z4.trans d4
 have a6 := a6.mono d4
 have a7 := a7.mono d4
 refine N8 (b := c8) rfl rfl (Z3 (vB (!c8)) rfl rfl ?_)
 obtain ⟨a5, q0⟩ | ⟨a5, q0⟩ := ic q0
 refine Y1 rfl rfl (nT a5) (Y2 Zf5 rfl rfl ?_)
 refine Y1 rfl rfl (nT a5) ?_
 refine Y0 (s1) Zy9 rfl (hS.get mL) rfl rfl ?_
 have j3 := a7.bound
 refine Y1 rfl rfl (nT a5) ?_
 refine X9 Zf1 rfl a7 rfl ?_
 refine Y1 rfl rfl (nT a5) (Y2 L6 rfl rfl ?_)
 refine Y1 rfl rfl (nT a5) ?_
 refine Y0 (s0) P4 rfl (hS.get mL) rfl rfl ?_
 have j4 := a6.bound
 refine Y1 rfl rfl (nT a5) ?_
 refine X9 U5 rfl a6 rfl ?_
 refine Y1 rfl rfl (nT a5) ?_
 refine M0 (k := .i64) (a := (a0.2.length : Int)) (b := (a0.1.length : Int)) rfl rfl rfl ?_
 refine W6 (t := false) (vB (!decide ((a0.2.length : Int) = (a0.1.length : Int)))) (nT a5) ((if_neg Bool.false_ne_true).trans rfl) rfl (Z2 ?_)
 exact g8 _ _ ⟨(!decide ((a0.2.length : Int) = (a0.1.length : Int))), f3, q0, Z4, hS, a6, a7, rfl, rfl⟩
 refine Z9 rfl rfl (nT (W1 a5)) rfl rfl rfl (Z9 rfl rfl (nT (W1 a5)) rfl rfl rfl (Z9 rfl rfl (nT (W1 a5)) rfl rfl rfl (Z9 rfl rfl (nT (W1 a5)) rfl rfl rfl (Z9 rfl rfl (nT (W1 a5)) rfl rfl rfl (Z9 rfl rfl (nT (W1 a5)) rfl rfl rfl (Z9 rfl rfl (nT (W1 a5)) rfl rfl rfl ?_))))))
 refine W6 (t := true) (vB true) (nT (W1 a5)) ((if_pos rfl).trans rfl) rfl (Z2 ?_)
 exact g8 _ _ ⟨true, f3, q0, Z4, hS, a6, a7, rfl, rfl⟩
end Go.Proofs.YtabofnehiclkiaaGreat
