/- Walks of functions: each computes its pure function, if that gives a value. -/
import Derived.Test.YtabofnehiclkiaaGreatZF2
import Derived.Test.YtabofnehiclkiaaGreatZF4
import Derived.Test.YtabofnehiclkiaaGreatZF1
import Derived.Test.YtabofnehiclkiaaGreatZF3
namespace Go.Proofs.YtabofnehiclkiaaGreat
open Go Go.Proofs.Tryz
set_option linter.unusedSimpArgs false
set_option linter.unusedVariables false
set_option maxRecDepth 100000
set_option maxHeartbeats 8000000
variable {K : Nat} {H : FH} {w : World} {L : OL} {s0 s1 s2 s3 s4 s5 s6 : Value}
def I0 (K : Nat) (a0 : (List Int)) (a1 : MpT) : Nat → Int → Option (Ex Bool (Unit))
 | 0, _ => none
 | k + 1, a3 => (if a3 < (a1.length : Int) then ((Zs2 K a0 ((rd a1 a3).1)).bind fun a8 => (if a8 = true then ((Zm7 K ((rd a1 a3).2) 1 10006).bind fun a6 => (if a6 = true then (if 0 < a3 then (if 0 ≤ (IntKind.i64.wrap (a3 - 1)) then (if (IntKind.i64.wrap (a3 - 1)) < (a1.length : Int) then ((Zd1 K ((rd a1 (IntKind.i64.wrap (a3 - 1))).1) ((rd a1 a3).1)).bind fun b9 => (if b9 = true then I0 K a0 a1 k (a3 + 1) else some (.ret false))) else none) else none) else I0 K a0 a1 k (a3 + 1)) else some (.ret false))) else some (.ret false))) else some (.go ()))
def Zv6 (K : Nat) (a0 : (List Int)) (a1 : MpT) : Option Bool := ((I0 K a0 a1 K 0).bind (Ex.elim (fun r => some r) (fun s => some (decide ((a1.length : Int) ≤ 400)))))
theorem Xi9 {a0 : (List Int)} {a1 : MpT} {r : Bool} (q0 : Zv6 K a0 a1 = some r) (b0 : Y3 (Y5 .i64) H s0 a0) (b3 : Y3 yT H s1 a1) (hS : St H w L) :
 Calls prog 145 #[s0, vA ([s1])] w (U7 (fun v G => R.bool.p G v r) H L) := by
 have Z4 := Sub.refl H
 refine X0 func145 rfl ntmps145 rfl ?_
 unfold Zv6 at q0
 refine Z1 (Z0 ?_)
 refine T7 (v := vA ([s1])) ([s1]).toArray rfl rfl hS rfl ?_
 intro b1 _ hS
 refine Z5 (vB false) rfl rfl (Z2 (Z1 (Z1 (Z0 (Z5 (vI 0) rfl rfl (Z2 (Y8 ?_)))))))
 obtain ⟨f8, a4, c0⟩ := bind_some q0
 refine W0 (id := 0) (fun k f w => ∃ (a3 : Int) (H1 : FH), I0 K a0 a1 k a3 = some f8 ∧ Sub H H1 ∧ St H1 w ([(b1, cA ([s1]) 45)] ++ L) ∧ 0 ≤ a3 ∧ Y3 (Y5 .i64) H1 s0 a0 ∧ Y3 yT H1 s1 a1 ∧ tv f 0 = s0 ∧ tv f 3 = vP b1 ∧ tv f 5 = vI a3) (fun f w => ∃ (H1 : FH), f8 = .go () ∧ Sub H H1 ∧ St H1 w ([(b1, cA ([s1]) 45)] ++ L) ∧ Y3 yT H1 s1 a1 ∧ tv f 3 = vP b1) rfl ?_ ?_ K ?_ ?_
 rintro f w ⟨a3, H1, a4, _⟩
 rw [I0] at a4; cases a4
 rintro k _ _ i9 k5 ⟨a3, j4, a4, Z4, hS, _, b0, b3, b4, b5, b2⟩
 rw [I0] at a4
 refine Z1 (Z1 (Z0 (Z3 (vI a3) (by exact b2) rfl (Y2 U3 (by exact b5) rfl ?_))))
 refine Y0 (s1) Q7 rfl (hS.get mL) rfl rfl ?_
 have l0 := b3.bound
 refine X9 R9 rfl b3 rfl ?_
 refine W8 (k := .i64) (a := a3) (b := (a1.length : Int)) rfl rfl rfl (Z2 ?_)
 obtain ⟨f9, a4⟩ | ⟨f9, a4⟩ := ic a4
 refine Z8 (bT f9 rfl) (Y6 (Z1 (Y8 (Z1 (Z0 (Y2 U3 (by exact b5) rfl ?_))))))
 refine Y0 (s1) Q7 rfl (hS.get mL) rfl rfl (Z3 (vI a3) (by exact b2) rfl ?_)
 obtain ⟨_, _, _, _, _, k6, k7, ⟨_, _, rfl, rfl, rfl⟩, k8⟩ := b3.elem (i := a3) (by omega) (by omega)
 refine X5 R9 rfl rfl k6 rfl (by omega) (by omega) rfl ?_
 refine V0 (Z6 .u8 ((rd a1 a3).1) ++ [vI ((rd a1 a3).2)]) Zy7 rfl (hS.froz _ _ k7) rfl k8 rfl ?_
 refine U4 (z := vA (Z6 .u8 (fun _ => 0) ++ [vI 0])) (Z6 .u8 (fun _ => 0) ++ [vI 0]).toArray Ye6.zero rfl hS rfl ?_
 intro b7 _ hS
 refine W4 (v := vA (Z6 .u8 ((rd a1 a3).1) ++ [vI ((rd a1 a3).2)])) (vs := (Z6 .u8 ((rd a1 a3).1) ++ [vI ((rd a1 a3).2)]).toArray) (cs := (Z6 .u8 (fun _ => 0) ++ [vI 0]).toArray) Zy7 rfl rfl rfl hS rfl (Yf3 (S8 .u8 ((rd a1 a3).1)) (Zb5 rfl)) rfl ?_
 intro _ hS
 refine Z2 (Z1 ?_)
 obtain ⟨a8, d4, a4⟩ := bind_some a4
 obtain ⟨a7, a4⟩ | ⟨a7, a4⟩ := ic a4
 obtain ⟨a6, d5, a4⟩ := bind_some a4
 obtain ⟨a9, a4⟩ | ⟨a9, a4⟩ := ic a4
 obtain ⟨a5, a4⟩ | ⟨a5, a4⟩ := ic a4
 obtain ⟨_, a4⟩ := gd a4
 obtain ⟨_, a4⟩ := gd a4
 obtain ⟨g0, g1, _, _, _, h6, d6, ⟨_, _, rfl, rfl, rfl⟩, h7⟩ := b3.elem (i := (IntKind.i64.wrap (a3 - 1))) (by omega) (by omega)
 obtain ⟨b9, h8, a4⟩ := bind_some a4
 refine W7 28 (S9 [mE 19 (s0), mE 20 (vP b7), mE 21 (vA (Z6 .u8 ((rd a1 a3).1))), mE 22 (vB a8), mE 23 (vB (!a8)), mE 24 (vB (!a8)), mE 25 (vQ b7 8), mE 26 (vI ((rd a1 a3).2)), mE 27 (vB a6), mE 28 (vB (!a6)), mE 29 (vB (!a6)), mE 30 (vB (!a6)), mE 31 (vI a3), mE 32 (vB (decide (0 < a3))), mE 33 (vB (decide (0 < a3))), mE 34 (vP b1), mE 35 (s1), mE 36 (vI a3), mE 37 (vI (IntKind.i64.wrap (a3 - 1))), mE 38 (vQ g0 g1), mE 39 (vQ g0 (g1 + 0)), mE 40 (vA (Z6 .u8 ((rd a1 (IntKind.i64.wrap (a3 - 1))).1))), mE 41 (vP b7), mE 42 (vA (Z6 .u8 ((rd a1 a3).1))), mE 43 (vB b9), mE 44 (vB (!b9)), mE 45 (vB (!b9)), mE 46 (vB (!b9))]) [] mixed rfl rfl rfl hS (V9 ?_ ?_ ?_ ?_ ?_ ?_ ?_ ?_ (V9 ?_ ?_ ?_ ?_ ?_ ?_ ?_ ?_ (V9 ?_ ?_ ?_ ?_ ?_ ?_ ?_ ?_ (J9 ?_ ?_ ?_ ?_ V1)))) ?_
 exact X4 fun S B => Z3 (s0) (evT (B 0 rfl) b4) rfl (qz S)
 exact X4 fun S B => Y2 M9 (evT (B 6 rfl) rfl) rfl (qz S)
 exact Y7 fun S V => V0 (Z6 .u8 ((rd a1 a3).1)) P5 (eM (V 1 20 rfl rfl)) (S.get (o := cA (Z6 .u8 ((rd a1 a3).1) ++ [vI ((rd a1 a3).2)]) 78) (mR mL)) rfl (fun j hj => Zl3 ([]) (Z6 .u8 ((rd a1 a3).1)) (([vI ((rd a1 a3).2)])) j hj) rfl (qz S)
 intro c1 g2 g3 g4 c3 hS e7 b6 hcq
 have b0 := b0.mono c3
 have c9 : tv c1 19 = s0 := b6 0 19 rfl rfl
 have d0 : tv c1 21 = vA (Z6 .u8 ((rd a1 a3).1)) := b6 2 21 rfl rfl
 refine X3 call228 (V2 c9 d0) rfl (Zq5 d4 b0 hS) ?_
 rintro _ g5 g6 c4 hS rfl
 exact qn c4 rfl hS rfl
 exact Y7 fun S V => N8 (b := a8) (eM (V 3 22 rfl rfl)) rfl (qz S)
 exact Y7 fun S V => Z3 (vB (!a8)) (eM (V 4 23 rfl rfl)) rfl (qz S)
 exact L3 fun S B V => Y1 rfl rfl (Eq.trans (eM (V 5 24 rfl rfl)) (congrArg (fun b => vB (!b)) a7)) (Y2 Ze3 (evT (B 6 rfl) rfl) rfl (qz S))
 intro c7 j0 j1 j2 g7 hS g8 c2 hcq
 have e5 : tv c7 24 = vB (!a8) := c2 5 24 rfl rfl
 have e6 : tv c7 25 = vQ b7 8 := c2 6 25 rfl rfl
 refine Y1 rfl rfl (Eq.trans e5 (congrArg (fun b => vB (!b)) a7)) ?_
 refine Y0 (vI ((rd a1 a3).2)) ty2 e6 (hS.get (mR mL)) rfl rfl ?_
 exact qn (.refl _) rfl hS rfl
 intro c8 j3 g9 h0 f0 hS f1 b8 hcq
 have d1 : tv c8 24 = vB (!a8) := b8 5 24 rfl rfl
 have d2 : tv c8 26 = vI ((rd a1 a3).2) := b8 7 26 rfl rfl
 refine Y1 rfl rfl (Eq.trans d1 (congrArg (fun b => vB (!b)) a7)) ?_
 refine X3 call73 (D8 d2 rfl rfl) rfl (Zo6 d5  hS) ?_
 rintro _ h1 h2 c5 hS rfl
 exact qn c5 rfl hS rfl
 exact Y7 fun S V => Y1 rfl rfl (Eq.trans (eM (V 5 24 rfl rfl)) (congrArg (fun b => vB (!b)) a7)) (N8 (b := a6) (eM (V 8 27 rfl rfl)) rfl (qz S))
 exact Y7 fun S V => W6 (t := false) (vB (!a6)) (Eq.trans (eM (V 5 24 rfl rfl)) (congrArg (fun b => vB (!b)) a7)) ((if_neg Bool.false_ne_true).trans (eM (V 9 28 rfl rfl))) rfl (qz S)
 exact Y7 fun S V => Z3 (vB (!a6)) (eM (V 10 29 rfl rfl)) rfl (qz S)
 exact L3 fun S B V => Y1 rfl rfl (Eq.trans (eM (V 11 30 rfl rfl)) (congrArg (fun b => vB (!b)) a9)) (Z3 (vI a3) (evT (B 5 rfl) b2) rfl (qz S))
 intro d3 j5 j6 j7 h9 hS i0 c6 hcq
 have e8 : tv d3 30 = vB (!a6) := c6 11 30 rfl rfl
 have e9 : tv d3 31 = vI a3 := c6 12 31 rfl rfl
 refine Y1 rfl rfl (Eq.trans e8 (congrArg (fun b => vB (!b)) a9)) ?_
 refine Za9 (k := .i64) (a := a3) (b := 0) e9 rfl rfl ?_
 exact qn (.refl _) rfl hS rfl
 exact Y7 fun S V => Y1 rfl rfl (Eq.trans (eM (V 11 30 rfl rfl)) (congrArg (fun b => vB (!b)) a9)) (Z3 (vB (decide (0 < a3))) (eM (V 13 32 rfl rfl)) rfl (qz S))
 exact L3 fun S B V => Y1 rfl rfl (bT a5 (eM (V 14 33 rfl rfl))) (Y2 U3 (evT (B 3 rfl) b5) rfl (qz S))
 intro _ _ _ _ _ hS _ f2 hcq
 refine Y1 rfl rfl (bT a5 (eM (f2 14 33 rfl rfl))) ?_
 refine Y0 (s1) Q7 (eM (f2 15 34 rfl rfl)) (hS.get (mR (mR mL))) rfl rfl ?_
 exact qn (.refl _) rfl hS rfl
 exact L3 fun S B V => Y1 rfl rfl (bT a5 (eM (V 14 33 rfl rfl))) (Z3 (vI a3) (evT (B 5 rfl) b2) rfl (qz S))
 intro _ _ _ _ _ hS _ f3 hcq
 refine Y1 rfl rfl (bT a5 (eM (f3 14 33 rfl rfl))) ?_
 refine Zk8 (IntKind.i64.wrap (a3 - 1)) (eM (f3 17 36 rfl rfl)) rfl rfl rfl ?_
 exact qn (.refl _) rfl hS rfl
 intro _ _ _ _ _ hS _ d7 hcq
 refine Y1 rfl rfl (bT a5 (eM (d7 14 33 rfl rfl))) ?_
 refine X5 R9 rfl (eM (d7 16 35 rfl rfl)) h6 (eM (d7 18 37 rfl rfl)) (by omega) (by omega) rfl ?_
 exact qn (.refl _) rfl hS rfl
 exact Y7 fun S V => Y1 rfl rfl (bT a5 (eM (V 14 33 rfl rfl))) (Y2 M9 (eM (V 19 38 rfl rfl)) rfl (qz S))
 intro _ _ _ _ i1 hS _ f4 hcq
 have d6 := i1.1 _ _ d6
 refine Y1 rfl rfl (bT a5 (eM (f4 14 33 rfl rfl))) ?_
 refine V0 (Z6 .u8 ((rd a1 (IntKind.i64.wrap (a3 - 1))).1)) P5 (eM (f4 20 39 rfl rfl)) (hS.froz _ _ d6) rfl (Zd6 ([]) (Z6 .u8 ((rd a1 (IntKind.i64.wrap (a3 - 1))).1)) (([vI ((rd a1 (IntKind.i64.wrap (a3 - 1))).2)])) h7 (nl rfl)) rfl ?_
 exact qn (.refl _) rfl hS rfl
 exact L3 fun S B V => Y1 rfl rfl (bT a5 (eM (V 14 33 rfl rfl))) (Y2 M9 (evT (B 6 rfl) rfl) rfl (qz S))
 intro _ _ _ _ _ hS _ f5 hcq
 refine Y1 rfl rfl (bT a5 (eM (f5 14 33 rfl rfl))) ?_
 refine V0 (Z6 .u8 ((rd a1 a3).1)) P5 (eM (f5 22 41 rfl rfl)) (hS.get (o := cA (Z6 .u8 ((rd a1 a3).1) ++ [vI ((rd a1 a3).2)]) 78) (mR mL)) rfl (fun j hj => Zl3 ([]) (Z6 .u8 ((rd a1 a3).1)) (([vI ((rd a1 a3).2)])) j hj) rfl ?_
 exact qn (.refl _) rfl hS rfl
 intro _ _ _ _ _ hS _ d8 hcq
 refine Y1 rfl rfl (bT a5 (eM (d8 14 33 rfl rfl))) ?_
 refine X3 call229 (V2 (eM (d8 21 40 rfl rfl)) (eM (d8 23 42 rfl rfl))) rfl (Zu8 h8  hS) ?_
 rintro _ _ _ i2 hS rfl
 exact qn i2 rfl hS rfl
 exact Y7 fun S V => Y1 rfl rfl (bT a5 (eM (V 14 33 rfl rfl))) (N8 (b := b9) (eM (V 24 43 rfl rfl)) rfl (qz S))
 intro _ _ _ _ _ hS _ d9 hcq
 refine Y1 rfl rfl (Eq.trans (eM (d9 11 30 rfl rfl)) (congrArg (fun b => vB (!b)) a9)) ?_
 refine W6 (t := true) (vB (!b9)) (bT a5 (eM (d9 14 33 rfl rfl))) ((if_pos rfl).trans (eM (d9 25 44 rfl rfl))) rfl ?_
 exact qn (.refl _) rfl hS rfl
 exact Y7 fun S V => W6 (t := false) (vB (!b9)) (Eq.trans (eM (V 11 30 rfl rfl)) (congrArg (fun b => vB (!b)) a9)) ((if_neg Bool.false_ne_true).trans (eM (V 26 45 rfl rfl))) rfl (qz S)
 intro j8 j9 h3 e0 hS e1 i3 hcq
 have hS : St h3 j9 ([(b7, cA (Z6 .u8 ((rd a1 a3).1) ++ [vI ((rd a1 a3).2)]) 78)] ++ ([(b1, cA ([s1]) 45)] ++ L)) := hS
 have Z4 := Z4.trans e0
 have b0 := b0.mono e0
 have b3 := b3.mono e0
 have h4 : tv j8 46 = vB (!b9) := i3 27 46 (by decide) rfl
 refine Z2 ?_
 obtain ⟨e2, a4⟩ | ⟨e2, a4⟩ := ic a4
 refine Z7 (Eq.trans (by exact h4) (congrArg (fun b => vB (!b)) e2)) (Y6 (X1 (Z0 (Z3 (vI a3) (by exact (evT (e1 5 rfl) b2)) rfl ?_))))
 refine W2 (a3 + 1) rfl rfl (IntWalk.i64_in _ (by omega)) rfl (Z5 (vI (a3 + 1)) rfl rfl (Z2 ?_))
 have hS := St.dropA hS
 exact i9 _ _ ⟨(a3 + 1), h3, a4, Z4, hS, (by omega), b0, b3, (evT (e1 0 rfl) b4), (evT (e1 3 rfl) b5), rfl⟩
 refine Z8 (Eq.trans (by exact h4) (congrArg (fun b => vB (!b)) (W1 e2))) (Z1 (Z0 (Z5 (vB false) rfl rfl (Z2 ?_))))
 refine Y9 (vs := [vB false]) func145 ⟨rfl, trivial⟩ ?_
 obtain rfl := oi a4
 dsimp only [Ex.elim] at c0
 obtain rfl := oi c0
 exact ⟨_, _, rfl, Z4, (St.dropA (St.dropA hS)), rfl⟩
 refine W7 28 (S9 [mE 19 (s0), mE 20 (vP b7), mE 21 (vA (Z6 .u8 ((rd a1 a3).1))), mE 22 (vB a8), mE 23 (vB (!a8)), mE 24 (vB (!a8)), mE 25 (vQ b7 8), mE 26 (vI ((rd a1 a3).2)), mE 27 (vB a6), mE 28 (vB (!a6)), mE 29 (vB (!a6)), mE 30 (vB (!a6)), mE 31 (vI a3), mE 32 (vB (decide (0 < a3))), mE 33 (vB (decide (0 < a3))), mE 34 (undef), mE 35 (undef), mE 36 (undef), mE 37 (undef), mE 38 (undef), mE 39 (undef), mE 40 (undef), mE 41 (undef), mE 42 (undef), mE 43 (undef), mE 44 (undef), mE 45 (vB false), mE 46 (vB false)]) [] mixed rfl rfl rfl hS (V9 ?_ ?_ ?_ ?_ ?_ ?_ ?_ ?_ (V9 ?_ ?_ ?_ ?_ ?_ ?_ ?_ ?_ (V9 ?_ ?_ ?_ ?_ ?_ ?_ ?_ ?_ (J9 ?_ ?_ ?_ ?_ V1)))) ?_
 exact X4 fun S B => Z3 (s0) (evT (B 0 rfl) b4) rfl (qz S)
 exact X4 fun S B => Y2 M9 (evT (B 6 rfl) rfl) rfl (qz S)
 exact Y7 fun S V => V0 (Z6 .u8 ((rd a1 a3).1)) P5 (eM (V 1 20 rfl rfl)) (S.get (o := cA (Z6 .u8 ((rd a1 a3).1) ++ [vI ((rd a1 a3).2)]) 78) (mR mL)) rfl (fun j hj => Zl3 ([]) (Z6 .u8 ((rd a1 a3).1)) (([vI ((rd a1 a3).2)])) j hj) rfl (qz S)
 intro c1 g2 g3 g4 c3 hS e7 b6 hcq
 have b0 := b0.mono c3
 have c9 : tv c1 19 = s0 := b6 0 19 rfl rfl
 have d0 : tv c1 21 = vA (Z6 .u8 ((rd a1 a3).1)) := b6 2 21 rfl rfl
 refine X3 call228 (V2 c9 d0) rfl (Zq5 d4 b0 hS) ?_
 rintro _ g5 g6 c4 hS rfl
 exact qn c4 rfl hS rfl
 exact Y7 fun S V => N8 (b := a8) (eM (V 3 22 rfl rfl)) rfl (qz S)
 exact Y7 fun S V => Z3 (vB (!a8)) (eM (V 4 23 rfl rfl)) rfl (qz S)
 exact L3 fun S B V => Y1 rfl rfl (Eq.trans (eM (V 5 24 rfl rfl)) (congrArg (fun b => vB (!b)) a7)) (Y2 Ze3 (evT (B 6 rfl) rfl) rfl (qz S))
 intro c7 j0 j1 j2 g7 hS g8 c2 hcq
 have e5 : tv c7 24 = vB (!a8) := c2 5 24 rfl rfl
 have e6 : tv c7 25 = vQ b7 8 := c2 6 25 rfl rfl
 refine Y1 rfl rfl (Eq.trans e5 (congrArg (fun b => vB (!b)) a7)) ?_
 refine Y0 (vI ((rd a1 a3).2)) ty2 e6 (hS.get (mR mL)) rfl rfl ?_
 exact qn (.refl _) rfl hS rfl
 intro c8 j3 g9 h0 f0 hS f1 b8 hcq
 have d1 : tv c8 24 = vB (!a8) := b8 5 24 rfl rfl
 have d2 : tv c8 26 = vI ((rd a1 a3).2) := b8 7 26 rfl rfl
 refine Y1 rfl rfl (Eq.trans d1 (congrArg (fun b => vB (!b)) a7)) ?_
 refine X3 call73 (D8 d2 rfl rfl) rfl (Zo6 d5  hS) ?_
 rintro _ h1 h2 c5 hS rfl
 exact qn c5 rfl hS rfl
 exact Y7 fun S V => Y1 rfl rfl (Eq.trans (eM (V 5 24 rfl rfl)) (congrArg (fun b => vB (!b)) a7)) (N8 (b := a6) (eM (V 8 27 rfl rfl)) rfl (qz S))
 exact Y7 fun S V => W6 (t := false) (vB (!a6)) (Eq.trans (eM (V 5 24 rfl rfl)) (congrArg (fun b => vB (!b)) a7)) ((if_neg Bool.false_ne_true).trans (eM (V 9 28 rfl rfl))) rfl (qz S)
 exact Y7 fun S V => Z3 (vB (!a6)) (eM (V 10 29 rfl rfl)) rfl (qz S)
 exact L3 fun S B V => Y1 rfl rfl (Eq.trans (eM (V 11 30 rfl rfl)) (congrArg (fun b => vB (!b)) a9)) (Z3 (vI a3) (evT (B 5 rfl) b2) rfl (qz S))
 intro d3 j5 j6 j7 h9 hS i0 c6 hcq
 have e8 : tv d3 30 = vB (!a6) := c6 11 30 rfl rfl
 have e9 : tv d3 31 = vI a3 := c6 12 31 rfl rfl
 refine Y1 rfl rfl (Eq.trans e8 (congrArg (fun b => vB (!b)) a9)) ?_
 refine Za9 (k := .i64) (a := a3) (b := 0) e9 rfl rfl ?_
 exact qn (.refl _) rfl hS rfl
 exact Y7 fun S V => Y1 rfl rfl (Eq.trans (eM (V 11 30 rfl rfl)) (congrArg (fun b => vB (!b)) a9)) (Z3 (vB (decide (0 < a3))) (eM (V 13 32 rfl rfl)) rfl (qz S))
 exact Y7 fun S V => Z9 rfl rfl (bF a5 (eM (V 14 33 rfl rfl))) rfl rfl rfl (qz S)
 exact Y7 fun S V => Z9 rfl rfl (bF a5 (eM (V 14 33 rfl rfl))) rfl rfl rfl (qz S)
 exact Y7 fun S V => Z9 rfl rfl (bF a5 (eM (V 14 33 rfl rfl))) rfl rfl rfl (qz S)
 exact Y7 fun S V => Z9 rfl rfl (bF a5 (eM (V 14 33 rfl rfl))) rfl rfl rfl (qz S)
 exact Y7 fun S V => Z9 rfl rfl (bF a5 (eM (V 14 33 rfl rfl))) rfl rfl rfl (qz S)
 exact Y7 fun S V => Z9 rfl rfl (bF a5 (eM (V 14 33 rfl rfl))) rfl rfl rfl (qz S)
 exact Y7 fun S V => Z9 rfl rfl (bF a5 (eM (V 14 33 rfl rfl))) rfl rfl rfl (qz S)
 exact Y7 fun S V => Z9 rfl rfl (bF a5 (eM (V 14 33 rfl rfl))) rfl rfl rfl (qz S)
 exact Y7 fun S V => Z9 rfl rfl (bF a5 (eM (V 14 33 rfl rfl))) rfl rfl rfl (qz S)
 exact Y7 fun S V => Z9 rfl rfl (bF a5 (eM (V 14 33 rfl rfl))) rfl rfl rfl (qz S)
 exact Y7 fun S V => Z9 rfl rfl (bF a5 (eM (V 14 33 rfl rfl))) rfl rfl rfl (qz S)
 intro _ _ _ _ _ hS _ f6 hcq
 refine Y1 rfl rfl (Eq.trans (eM (f6 11 30 rfl rfl)) (congrArg (fun b => vB (!b)) a9)) ?_
 refine W6 (t := false) (vB false) (bF a5 (eM (f6 14 33 rfl rfl))) ((if_neg Bool.false_ne_true).trans rfl) rfl ?_
 exact qn (.refl _) rfl hS rfl
 exact Y7 fun S V => W6 (t := false) (vB false) (Eq.trans (eM (V 11 30 rfl rfl)) (congrArg (fun b => vB (!b)) a9)) ((if_neg Bool.false_ne_true).trans (eM (V 26 45 rfl rfl))) rfl (qz S)
 intro _ k0 h5 e3 hS e4 i4 hcq
 have hS : St h5 k0 ([(b7, cA (Z6 .u8 ((rd a1 a3).1) ++ [vI ((rd a1 a3).2)]) 78)] ++ ([(b1, cA ([s1]) 45)] ++ L)) := hS
 have Z4 := Z4.trans e3
 have b0 := b0.mono e3
 have b3 := b3.mono e3
 refine Z2 (Z7 (by exact (eM (i4 27 46 (by decide) rfl))) (Y6 (X1 (Z0 (Z3 (vI a3) (by exact (evT (e4 5 rfl) b2)) rfl ?_)))))
 refine W2 (a3 + 1) rfl rfl (IntWalk.i64_in _ (by omega)) rfl (Z5 (vI (a3 + 1)) rfl rfl (Z2 ?_))
 have hS := St.dropA hS
 exact i9 _ _ ⟨(a3 + 1), h5, a4, Z4, hS, (by omega), b0, b3, (evT (e4 0 rfl) b4), (evT (e4 3 rfl) b5), rfl⟩
 refine W7 28 (S9 [mE 19 (s0), mE 20 (vP b7), mE 21 (vA (Z6 .u8 ((rd a1 a3).1))), mE 22 (vB a8), mE 23 (vB (!a8)), mE 24 (vB (!a8)), mE 25 (vQ b7 8), mE 26 (vI ((rd a1 a3).2)), mE 27 (vB a6), mE 28 (vB (!a6)), mE 29 (vB (!a6)), mE 30 (vB (!a6)), mE 31 (undef), mE 32 (undef), mE 33 (undef), mE 34 (undef), mE 35 (undef), mE 36 (undef), mE 37 (undef), mE 38 (undef), mE 39 (undef), mE 40 (undef), mE 41 (undef), mE 42 (undef), mE 43 (undef), mE 44 (undef), mE 45 (undef), mE 46 (vB true)]) [] mixed rfl rfl rfl hS (V9 ?_ ?_ ?_ ?_ ?_ ?_ ?_ ?_ (V9 ?_ ?_ ?_ ?_ ?_ ?_ ?_ ?_ (V9 ?_ ?_ ?_ ?_ ?_ ?_ ?_ ?_ (J9 ?_ ?_ ?_ ?_ V1)))) ?_
 exact X4 fun S B => Z3 (s0) (evT (B 0 rfl) b4) rfl (qz S)
 exact X4 fun S B => Y2 M9 (evT (B 6 rfl) rfl) rfl (qz S)
 exact Y7 fun S V => V0 (Z6 .u8 ((rd a1 a3).1)) P5 (eM (V 1 20 rfl rfl)) (S.get (o := cA (Z6 .u8 ((rd a1 a3).1) ++ [vI ((rd a1 a3).2)]) 78) (mR mL)) rfl (fun j hj => Zl3 ([]) (Z6 .u8 ((rd a1 a3).1)) (([vI ((rd a1 a3).2)])) j hj) rfl (qz S)
 intro c1 g2 g3 g4 c3 hS e7 b6 hcq
 have b0 := b0.mono c3
 have c9 : tv c1 19 = s0 := b6 0 19 rfl rfl
 have d0 : tv c1 21 = vA (Z6 .u8 ((rd a1 a3).1)) := b6 2 21 rfl rfl
 refine X3 call228 (V2 c9 d0) rfl (Zq5 d4 b0 hS) ?_
 rintro _ g5 g6 c4 hS rfl
 exact qn c4 rfl hS rfl
 exact Y7 fun S V => N8 (b := a8) (eM (V 3 22 rfl rfl)) rfl (qz S)
 exact Y7 fun S V => Z3 (vB (!a8)) (eM (V 4 23 rfl rfl)) rfl (qz S)
 exact L3 fun S B V => Y1 rfl rfl (Eq.trans (eM (V 5 24 rfl rfl)) (congrArg (fun b => vB (!b)) a7)) (Y2 Ze3 (evT (B 6 rfl) rfl) rfl (qz S))
 intro c7 j0 j1 j2 g7 hS g8 c2 hcq
 have e5 : tv c7 24 = vB (!a8) := c2 5 24 rfl rfl
 have e6 : tv c7 25 = vQ b7 8 := c2 6 25 rfl rfl
 refine Y1 rfl rfl (Eq.trans e5 (congrArg (fun b => vB (!b)) a7)) ?_
 refine Y0 (vI ((rd a1 a3).2)) ty2 e6 (hS.get (mR mL)) rfl rfl ?_
 exact qn (.refl _) rfl hS rfl
 intro c8 j3 g9 h0 f0 hS f1 b8 hcq
 have d1 : tv c8 24 = vB (!a8) := b8 5 24 rfl rfl
 have d2 : tv c8 26 = vI ((rd a1 a3).2) := b8 7 26 rfl rfl
 refine Y1 rfl rfl (Eq.trans d1 (congrArg (fun b => vB (!b)) a7)) ?_
 refine X3 call73 (D8 d2 rfl rfl) rfl (Zo6 d5  hS) ?_
 rintro _ h1 h2 c5 hS rfl
 exact qn c5 rfl hS rfl
 exact Y7 fun S V => Y1 rfl rfl (Eq.trans (eM (V 5 24 rfl rfl)) (congrArg (fun b => vB (!b)) a7)) (N8 (b := a6) (eM (V 8 27 rfl rfl)) rfl (qz S))
 exact Y7 fun S V => W6 (t := false) (vB (!a6)) (Eq.trans (eM (V 5 24 rfl rfl)) (congrArg (fun b => vB (!b)) a7)) ((if_neg Bool.false_ne_true).trans (eM (V 9 28 rfl rfl))) rfl (qz S)
 exact Y7 fun S V => Z3 (vB (!a6)) (eM (V 10 29 rfl rfl)) rfl (qz S)
 exact Y7 fun S V => Z9 rfl rfl (Eq.trans (eM (V 11 30 rfl rfl)) (congrArg (fun b => vB (!b)) (W1 a9))) rfl rfl rfl (qz S)
 exact Y7 fun S V => Z9 rfl rfl (Eq.trans (eM (V 11 30 rfl rfl)) (congrArg (fun b => vB (!b)) (W1 a9))) rfl rfl rfl (qz S)
 exact Y7 fun S V => Z9 rfl rfl (Eq.trans (eM (V 11 30 rfl rfl)) (congrArg (fun b => vB (!b)) (W1 a9))) rfl rfl rfl (qz S)
 exact Y7 fun S V => U2 rfl rfl (eM (V 14 33 rfl rfl)) rfl rfl (qz S)
 exact Y7 fun S V => U2 rfl rfl (eM (V 14 33 rfl rfl)) rfl rfl (qz S)
 exact Y7 fun S V => U2 rfl rfl (eM (V 14 33 rfl rfl)) rfl rfl (qz S)
 exact Y7 fun S V => U2 rfl rfl (eM (V 14 33 rfl rfl)) rfl rfl (qz S)
 exact Y7 fun S V => U2 rfl rfl (eM (V 14 33 rfl rfl)) rfl rfl (qz S)
 exact Y7 fun S V => U2 rfl rfl (eM (V 14 33 rfl rfl)) rfl rfl (qz S)
 exact Y7 fun S V => U2 rfl rfl (eM (V 14 33 rfl rfl)) rfl rfl (qz S)
 exact Y7 fun S V => U2 rfl rfl (eM (V 14 33 rfl rfl)) rfl rfl (qz S)
 exact Y7 fun S V => U2 rfl rfl (eM (V 14 33 rfl rfl)) rfl rfl (qz S)
 exact Y7 fun S V => U2 rfl rfl (eM (V 14 33 rfl rfl)) rfl rfl (qz S)
 exact Y7 fun S V => U2 rfl rfl (eM (V 14 33 rfl rfl)) rfl rfl (qz S)
 exact Y7 fun S V => Z9 rfl rfl (Eq.trans (eM (V 11 30 rfl rfl)) (congrArg (fun b => vB (!b)) (W1 a9))) rfl rfl rfl (qz S)
 exact Y7 fun S V => W6 (t := true) (vB true) (Eq.trans (eM (V 11 30 rfl rfl)) (congrArg (fun b => vB (!b)) (W1 a9))) ((if_pos rfl).trans rfl) rfl (qz S)
 intro _ k1 k2 i5 hS _ i6 hcq
 have hS : St k2 k1 ([(b7, cA (Z6 .u8 ((rd a1 a3).1) ++ [vI ((rd a1 a3).2)]) 78)] ++ ([(b1, cA ([s1]) 45)] ++ L)) := hS
 have Z4 := Z4.trans i5
 refine Z2 (Z8 (by exact (eM (i6 27 46 (by decide) rfl))) (Z1 (Z0 (Z5 (vB false) rfl rfl (Z2 ?_)))))
 refine Y9 (vs := [vB false]) func145 ⟨rfl, trivial⟩ ?_
 obtain rfl := oi a4
 dsimp only [Ex.elim] at c0
 obtain rfl := oi c0
 exact ⟨_, _, rfl, Z4, (St.dropA (St.dropA hS)), rfl⟩
 refine W7 28 (S9 [mE 19 (s0), mE 20 (vP b7), mE 21 (vA (Z6 .u8 ((rd a1 a3).1))), mE 22 (vB a8), mE 23 (vB (!a8)), mE 24 (vB (!a8)), mE 25 (undef), mE 26 (undef), mE 27 (undef), mE 28 (undef), mE 29 (vB true), mE 30 (vB true), mE 31 (undef), mE 32 (undef), mE 33 (undef), mE 34 (undef), mE 35 (undef), mE 36 (undef), mE 37 (undef), mE 38 (undef), mE 39 (undef), mE 40 (undef), mE 41 (undef), mE 42 (undef), mE 43 (undef), mE 44 (undef), mE 45 (undef), mE 46 (vB true)]) [] mixed rfl rfl rfl hS (V9 ?_ ?_ ?_ ?_ ?_ ?_ ?_ ?_ (V9 ?_ ?_ ?_ ?_ ?_ ?_ ?_ ?_ (V9 ?_ ?_ ?_ ?_ ?_ ?_ ?_ ?_ (J9 ?_ ?_ ?_ ?_ V1)))) ?_
 exact X4 fun S B => Z3 (s0) (evT (B 0 rfl) b4) rfl (qz S)
 exact X4 fun S B => Y2 M9 (evT (B 6 rfl) rfl) rfl (qz S)
 exact Y7 fun S V => V0 (Z6 .u8 ((rd a1 a3).1)) P5 (eM (V 1 20 rfl rfl)) (S.get (o := cA (Z6 .u8 ((rd a1 a3).1) ++ [vI ((rd a1 a3).2)]) 78) (mR mL)) rfl (fun j hj => Zl3 ([]) (Z6 .u8 ((rd a1 a3).1)) (([vI ((rd a1 a3).2)])) j hj) rfl (qz S)
 intro c1 g2 g3 g4 c3 hS e7 b6 hcq
 have b0 := b0.mono c3
 have c9 : tv c1 19 = s0 := b6 0 19 rfl rfl
 have d0 : tv c1 21 = vA (Z6 .u8 ((rd a1 a3).1)) := b6 2 21 rfl rfl
 refine X3 call228 (V2 c9 d0) rfl (Zq5 d4 b0 hS) ?_
 rintro _ g5 g6 c4 hS rfl
 exact qn c4 rfl hS rfl
 exact Y7 fun S V => N8 (b := a8) (eM (V 3 22 rfl rfl)) rfl (qz S)
 exact Y7 fun S V => Z3 (vB (!a8)) (eM (V 4 23 rfl rfl)) rfl (qz S)
 exact Y7 fun S V => Z9 rfl rfl (Eq.trans (eM (V 5 24 rfl rfl)) (congrArg (fun b => vB (!b)) (W1 a7))) rfl rfl rfl (qz S)
 exact Y7 fun S V => Z9 rfl rfl (Eq.trans (eM (V 5 24 rfl rfl)) (congrArg (fun b => vB (!b)) (W1 a7))) rfl rfl rfl (qz S)
 exact Y7 fun S V => Z9 rfl rfl (Eq.trans (eM (V 5 24 rfl rfl)) (congrArg (fun b => vB (!b)) (W1 a7))) rfl rfl rfl (qz S)
 exact Y7 fun S V => Z9 rfl rfl (Eq.trans (eM (V 5 24 rfl rfl)) (congrArg (fun b => vB (!b)) (W1 a7))) rfl rfl rfl (qz S)
 exact Y7 fun S V => W6 (t := true) (vB true) (Eq.trans (eM (V 5 24 rfl rfl)) (congrArg (fun b => vB (!b)) (W1 a7))) ((if_pos rfl).trans rfl) rfl (qz S)
 exact Y7 fun S V => Z3 (vB true) (eM (V 10 29 rfl rfl)) rfl (qz S)
 exact Y7 fun S V => Z9 rfl rfl (eM (V 11 30 rfl rfl)) rfl rfl rfl (qz S)
 exact Y7 fun S V => Z9 rfl rfl (eM (V 11 30 rfl rfl)) rfl rfl rfl (qz S)
 exact Y7 fun S V => Z9 rfl rfl (eM (V 11 30 rfl rfl)) rfl rfl rfl (qz S)
 exact Y7 fun S V => U2 rfl rfl (eM (V 14 33 rfl rfl)) rfl rfl (qz S)
 exact Y7 fun S V => U2 rfl rfl (eM (V 14 33 rfl rfl)) rfl rfl (qz S)
 exact Y7 fun S V => U2 rfl rfl (eM (V 14 33 rfl rfl)) rfl rfl (qz S)
 exact Y7 fun S V => U2 rfl rfl (eM (V 14 33 rfl rfl)) rfl rfl (qz S)
 exact Y7 fun S V => U2 rfl rfl (eM (V 14 33 rfl rfl)) rfl rfl (qz S)
 exact Y7 fun S V => U2 rfl rfl (eM (V 14 33 rfl rfl)) rfl rfl (qz S)
 exact Y7 fun S V => U2 rfl rfl (eM (V 14 33 rfl rfl)) rfl rfl (qz S)
 exact Y7 fun S V => U2 rfl rfl (eM (V 14 33 rfl rfl)) rfl rfl (qz S)
 exact Y7 fun S V => U2 rfl rfl (eM (V 14 33 rfl rfl)) rfl rfl (qz S)
 exact Y7 fun S V => U2 rfl rfl (eM (V 14 33 rfl rfl)) rfl rfl (qz S)
 exact Y7 fun S V => U2 rfl rfl (eM (V 14 33 rfl rfl)) rfl rfl (qz S)
 exact Y7 fun S V => Z9 rfl rfl (eM (V 11 30 rfl rfl)) rfl rfl rfl (qz S)
 exact Y7 fun S V => W6 (t := true) (vB true) (eM (V 11 30 rfl rfl)) ((if_pos rfl).trans rfl) rfl (qz S)
 intro _ k3 k4 i7 hS _ i8 hcq
 have hS : St k4 k3 ([(b7, cA (Z6 .u8 ((rd a1 a3).1) ++ [vI ((rd a1 a3).2)]) 78)] ++ ([(b1, cA ([s1]) 45)] ++ L)) := hS
 have Z4 := Z4.trans i7
 refine Z2 (Z8 (by exact (eM (i8 27 46 (by decide) rfl))) (Z1 (Z0 (Z5 (vB false) rfl rfl (Z2 ?_)))))
 refine Y9 (vs := [vB false]) func145 ⟨rfl, trivial⟩ ?_
 obtain rfl := oi a4
 dsimp only [Ex.elim] at c0
 obtain rfl := oi c0
 exact ⟨_, _, rfl, Z4, (St.dropA (St.dropA hS)), rfl⟩
 refine Z7 (bF f9 rfl) ?_
 refine X7 rfl ?_
 obtain rfl := oi a4
 exact k5 _ _ ⟨j4, rfl, Z4, hS, b3, b5⟩
 exact ⟨0, H, a4, Z4, hS, (by omega), b0, b3, rfl, rfl, rfl⟩
 rintro _ _ ⟨_, rfl, Z4, hS, b3, f7⟩
 dsimp only [Ex.elim] at c0
 refine Z1 (Z0 (Y2 U3 (by exact f7) rfl ?_))
 refine Y0 (s1) Q7 rfl (hS.get mL) rfl rfl ?_
 have k9 := b3.bound
 refine X9 R9 rfl b3 rfl ?_
 refine Yh6 (k := .i64) (a := (a1.length : Int)) (b := 400) rfl rfl rfl (Z5 (vB (decide ((a1.length : Int) ≤ 400))) rfl rfl (Z2 ?_))
 refine Y9 (vs := [vB (decide ((a1.length : Int) ≤ 400))]) func145 ⟨rfl, trivial⟩ ?_
 obtain rfl := oi c0
 exact ⟨_, _, rfl, Z4, (St.dropA hS), rfl⟩
def L9 (K : Nat) (a0 : (List Int)) (a1 : MpT) (r8 : Int) : Nat → Int → Option (Ex (Int × Bool) (Unit))
 | 0, _ => none
 | k + 1, a3 => (if a3 < (a1.length : Int) then ((Za1 K a0 ((rd a1 a3).1)).bind fun b7 => (if b7 = r8 then L9 K a0 a1 r8 k (a3 + 1) else some (.ret (0, false)))) else some (.go ()))
def Zm2 (K : Nat) (a0 : (List Int)) (a1 : MpT) : Option (Int × Bool) := (if (a1.length : Int) = 0 then some ((-1), true) else (if 0 < (a1.length : Int) then ((Za1 K a0 ((rd a1 0).1)).bind fun r8 => ((L9 K a0 a1 r8 K 1).bind (Ex.elim (fun r => some r) (fun s => some (r8, true))))) else none))
theorem Ys8 {a0 : (List Int)} {a1 : MpT} {r : (Int × Bool)} (q0 : Zm2 K a0 a1 = some r) (a6 : Y3 (Y5 .i64) H s0 a0) (a5 : Y3 yT H s1 a1) (hS : St H w L) :
 Calls prog 146 #[s0, vA ([s1])] w (U7 (fun v G => (R.t2 (R.int .i64) R.bool).p G v r) H L) := by
 have Z4 := Sub.refl H
 refine X0 func146 rfl ntmps146 rfl ?_
 unfold Zm2 at q0
 refine Z1 (Z0 ?_)
 refine T7 (v := vA ([s1])) ([s1]).toArray rfl rfl hS rfl ?_
 intro b1 _ hS
 refine Z5 (vI 0) rfl rfl (Z5 (vB false) rfl rfl (Z2 (Z1 (Z1 (Z0 (Y2 U3 rfl rfl ?_))))))
 refine Y0 (s1) Q7 rfl (hS.get mL) rfl rfl ?_
 have d4 := a5.bound
 refine X9 R9 rfl a5 rfl ?_
 refine Za0 (k := .i64) (a := (a1.length : Int)) (b := 0) rfl rfl rfl (Z2 ?_)
 obtain ⟨b8, q0⟩ | ⟨b8, q0⟩ := ic q0
 refine Z8 (bT b8 rfl) (Z1 (Z0 (Z5 (vI (-1)) rfl rfl (Z5 (vB true) rfl rfl (Z2 ?_)))))
 refine Y9 (vs := [vI (-1), vB true]) func146 ⟨rfl, rfl, trivial⟩ ?_
 obtain rfl := oi q0
 exact ⟨_, _, rfl, Z4, (St.dropA hS), ⟨_, _, rfl, rfl, rfl⟩⟩
 refine Z7 (bF b8 rfl) (Y6 (Z1 (Z0 (Z3 (s0) rfl rfl (Y2 U3 rfl rfl ?_)))))
 refine Y0 (s1) Q7 rfl (hS.get mL) rfl rfl ?_
 obtain ⟨_, q0⟩ := gd q0
 obtain ⟨_, _, _, _, _, c6, c7, ⟨_, _, rfl, rfl, rfl⟩, c8⟩ := a5.elem (i := 0) (by omega) (by omega)
 refine X5 R9 rfl rfl c6 rfl (by omega) (by omega) rfl (Y2 M9 rfl rfl ?_)
 refine V0 (Z6 .u8 ((rd a1 0).1)) P5 rfl (hS.froz _ _ c7) rfl (Zd6 ([]) (Z6 .u8 ((rd a1 0).1)) (([vI ((rd a1 0).2)])) c8 (nl rfl)) rfl ?_
 obtain ⟨r8, c9, q0⟩ := bind_some q0
 refine X3 call207 (V2 rfl rfl) rfl (Zu6 c9 a6 hS) ?_
 rintro _ H8 _ b9 hS rfl
 have Z4 := Z4.trans b9
 have a6 := a6.mono b9
 have a5 := a5.mono b9
 refine Z5 (vI r8) rfl rfl (Z2 (Z1 (Z1 (Z0 (Z5 (vI 1) rfl rfl (Z2 (Y8 ?_)))))))
 obtain ⟨c0, a4, b2⟩ := bind_some q0
 refine W0 (id := 0) (fun k f w => ∃ (a3 : Int) (H1 : FH), L9 K a0 a1 r8 k a3 = some c0 ∧ Sub H H1 ∧ St H1 w ([(b1, cA ([s1]) 45)] ++ L) ∧ 0 ≤ a3 ∧ Y3 (Y5 .i64) H1 s0 a0 ∧ Y3 yT H1 s1 a1 ∧ tv f 0 = s0 ∧ tv f 3 = vP b1 ∧ tv f 6 = vI r8 ∧ tv f 7 = vI a3) (fun f w => ∃ (H1 : FH), c0 = .go () ∧ Sub H H1 ∧ St H1 w ([(b1, cA ([s1]) 45)] ++ L) ∧ Y3 yT H1 s1 a1 ∧ tv f 6 = vI r8) rfl ?_ ?_ K ?_ ?_
 rintro f w ⟨a3, H1, a4, _⟩
 rw [L9] at a4; cases a4
 rintro k _ _ d0 d1 ⟨a3, c1, a4, Z4, hS, _, a6, a5, b0, a7, a8, a9⟩
 rw [L9] at a4
 refine Z1 (Z1 (Z0 (Z3 (vI a3) (by exact a9) rfl (Y2 U3 (by exact a7) rfl ?_))))
 refine Y0 (s1) Q7 rfl (hS.get mL) rfl rfl ?_
 have d3 := a5.bound
 refine X9 R9 rfl a5 rfl ?_
 refine W8 (k := .i64) (a := a3) (b := (a1.length : Int)) rfl rfl rfl (Z2 ?_)
 obtain ⟨b3, a4⟩ | ⟨b3, a4⟩ := ic a4
 refine Z8 (bT b3 rfl) (Y6 (Z1 (Y8 (Z1 (Z0 (Z3 (s0) (by exact b0) rfl (Y2 U3 (by exact a7) rfl ?_)))))))
 refine Y0 (s1) Q7 rfl (hS.get mL) rfl rfl (Z3 (vI a3) (by exact a9) rfl ?_)
 obtain ⟨_, _, _, _, _, c2, c3, ⟨_, _, rfl, rfl, rfl⟩, c4⟩ := a5.elem (i := a3) (by omega) (by omega)
 refine X5 R9 rfl rfl c2 rfl (by omega) (by omega) rfl (Y2 M9 rfl rfl ?_)
 refine V0 (Z6 .u8 ((rd a1 a3).1)) P5 rfl (hS.froz _ _ c3) rfl (Zd6 ([]) (Z6 .u8 ((rd a1 a3).1)) (([vI ((rd a1 a3).2)])) c4 (nl rfl)) rfl ?_
 obtain ⟨b7, c5, a4⟩ := bind_some a4
 refine X3 call207 (V2 rfl rfl) rfl (Zu6 c5 a6 hS) ?_
 rintro _ d2 _ b4 hS rfl
 have Z4 := Z4.trans b4
 have a6 := a6.mono b4
 have a5 := a5.mono b4
 refine Z3 (vI r8) (by exact a8) rfl ?_
 refine M0 (k := .i64) (a := b7) (b := r8) rfl rfl rfl (Z2 ?_)
 obtain ⟨b5, a4⟩ | ⟨b5, a4⟩ := ic a4
 refine Z7 (bN b5 rfl) (Y6 (X1 (Z0 (Z3 (vI a3) (by exact a9) rfl ?_))))
 refine W2 (a3 + 1) rfl rfl (IntWalk.i64_in _ (by omega)) rfl (Z5 (vI (a3 + 1)) rfl rfl (Z2 ?_))
 exact d0 _ _ ⟨(a3 + 1), d2, a4, Z4, hS, (by omega), a6, a5, b0, a7, a8, rfl⟩
 refine Z8 (bO b5 rfl) (Z1 (Z0 (Z5 (vI 0) rfl rfl (Z5 (vB false) rfl rfl (Z2 ?_)))))
 refine Y9 (vs := [vI 0, vB false]) func146 ⟨rfl, rfl, trivial⟩ ?_
 obtain rfl := oi a4
 dsimp only [Ex.elim] at b2
 obtain rfl := oi b2
 exact ⟨_, _, rfl, Z4, (St.dropA hS), ⟨_, _, rfl, rfl, rfl⟩⟩
 refine Z7 (bF b3 rfl) ?_
 refine X7 rfl ?_
 obtain rfl := oi a4
 exact d1 _ _ ⟨c1, rfl, Z4, hS, a5, a8⟩
 exact ⟨1, H8, a4, Z4, hS, (by omega), a6, a5, rfl, rfl, rfl, rfl⟩
 rintro _ _ ⟨_, rfl, Z4, hS, a5, b6⟩
 dsimp only [Ex.elim] at b2
 refine Z1 (Z0 (Z3 (vI r8) (by exact b6) rfl (Z5 (vI r8) rfl rfl (Z5 (vB true) rfl rfl (Z2 ?_)))))
 refine Y9 (vs := [vI r8, vB true]) func146 ⟨rfl, rfl, trivial⟩ ?_
 obtain rfl := oi b2
 exact ⟨_, _, rfl, Z4, (St.dropA hS), ⟨_, _, rfl, rfl, rfl⟩⟩
def Wr5 (ds : List Int) (n most : Int) : Bool := decide ((∀ d, d ∈ ds → 1 ≤ d ∧ d ≤ 12) ∧ ds.length ≤ 8 ∧ n ≤ 1000 ∧ 0 ≤ most ∧ most ≤ 1073741824)
def lsM (ds : List Int) (n most : Int) : List A8 := if 0 ≤ n then lsF ds most ds.length (fun _ => 0) n [] else []
def Zh5 (K : Nat) (ds : List Int) (n most : Int) : Option (List A8 × Bool) := if Wr5 ds n most = true then some (lsM ds n most, decide (((lsM ds n most).length : Int) ≤ most)) else none
theorem Yc5 {a0 : List Int} {a1 a2 : Int} {r : List A8 × Bool} (q0 : Zh5 K a0 a1 a2 = some r) (hs0 : Y3 (Y5 .i64) H s0 a0) (hS : St H w L) :
    Calls prog 231 #[s0, vI a1, vI a2] w (U7 (fun v G => (R.t2 (R.sl (Q9 .i64)) R.bool).p G v r) H L) := by
  unfold Zh5 at q0
  by_cases hok : Wr5 a0 a1 a2 = true
  case neg => rw [if_neg hok] at q0; cases q0
  rw [if_pos hok] at q0
  obtain rfl := oi q0
  obtain ⟨k1, k2, k3, k4⟩ := of_decide_eq_true hok
  refine X0 func231 rfl ntmps231 rfl ?_
  repeat refine Z1 ?_
  refine Z0 (Z5 (vN) rfl rfl (Z5 (vB false) rfl rfl (Z2 ?_)))
  repeat refine Z1 ?_
  refine Z0 (Z3 s0 rfl rfl (Z3 (vI a2) rfl rfl ?_))
  refine Zu1 ([s0] ++ ([vI a2] ++ [vN])) Vi8 (Zz7 rfl rfl) (F2 rfl hs0.cellsL rfl (nl rfl) (F2 rfl rfl rfl (nl rfl) (Zp8 rfl))) rfl ?_
  refine T7 (v := vA ([s0] ++ ([vI a2] ++ [vN]))) ([s0] ++ ([vI a2] ++ [vN])).toArray rfl rfl hS rfl ?_
  intro bl w1 hS
  refine Z5 (vP bl) rfl rfl (Z2 ?_)
  have hS : St H w1 ([(bl, .cells #[s0, vI a2, vN] 298)] ++ ([] ++ L)) := hS
  repeat refine Z1 ?_
  refine Z0 (Z3 (vI a1) rfl rfl ?_)
  refine Ya0 (k := .i64) (a := a1) (b := 0) rfl rfl rfl (Z2 ?_)
  repeat refine Z1 ?_
  refine N4 (fun f w => ∃ (G : FH) (vo : Value) (Co : OL), Sub H G ∧ St G w ([(bl, .cells #[s0, vI a2, vo] 298)] ++ (Co ++ L)) ∧ X8 (Q9 .i64) 222 G vo (lsM a0 a1 a2) Co ∧ tv f 2 = vI a2 ∧ tv f 8 = vP bl) ?_ ?_
  · rintro f w ⟨G, vo, Co, Z4, hS, ho, t2, t8⟩
    repeat refine Z1 ?_
    refine W7 12 (S9 [mE 19 (vP bl), mE 20 (vP bl), mE 21 (vQ bl 2), mE 22 vo, mE 23 (vP bl), mE 24 (vP bl), mE 25 (vQ bl 2), mE 26 vo, mE 27 (vI (lsM a0 a1 a2).length), mE 28 (vI a2), mE 29 (vB (decide (((lsM a0 a1 a2).length : Int) ≤ a2))), mE 6 vo]) [] mixed rfl rfl rfl hS (V9 ?_ ?_ ?_ ?_ ?_ ?_ ?_ ?_ (J9 ?_ ?_ ?_ ?_ V1)) ?_
    · exact X4 fun S B => Z3 _ (evT (B 8 rfl) t8) rfl (qz S)
    · exact Y7 fun S V => V4 (eM (V 0 19 rfl rfl)) rfl (qz S)
    · exact Y7 fun S V => Y2 Yf0 (eM (V 1 20 rfl rfl)) rfl (qz S)
    · exact Y7 fun S V => Y0 vo Xj9 (eM (V 2 21 rfl rfl)) (S.get (mR mL)) rfl rfl (qz S)
    · exact X4 fun S B => Z3 _ (evT (B 8 rfl) t8) rfl (qz S)
    · exact Y7 fun S V => V4 (eM (V 4 23 rfl rfl)) rfl (qz S)
    · exact Y7 fun S V => Y2 Yf0 (eM (V 5 24 rfl rfl)) rfl (qz S)
    · exact Y7 fun S V => Y0 vo Xj9 (eM (V 6 25 rfl rfl)) (S.get (mR mL)) rfl rfl (qz S)
    · exact P0 fun s S V => Yd0 Ya2 (eM (V 7 26 rfl rfl)) (ho.mono s) rfl (qz S)
    · exact X4 fun S B => Z3 _ (evT (B 2 rfl) t2) rfl (qz S)
    · exact Y7 fun S V => Yh6 (k := .i64) (a := ((lsM a0 a1 a2).length : Int)) (b := a2) (eM (V 8 27 rfl rfl)) (eM (V 9 28 rfl rfl)) rfl (qz S)
    · exact Y7 fun S V => Z5 vo (eM (V 3 22 rfl rfl)) rfl (qz S)
    intro f2 w2 H2 s2 hS hB hV _
    refine Z5 (vB (decide (((lsM a0 a1 a2).length : Int) ≤ a2))) (eM (hV 10 29 (by decide) rfl)) rfl (Z2 ?_)
    have hS : St H2 w2 ([(bl, .cells #[s0, vI a2, vo] 298)] ++ (Co ++ L)) := hS
    have hS : St H2 w2 (Co ++ ([(bl, .cells #[s0, vI a2, vo] 298)] ++ L)) := hS.swap
    obtain ⟨H3, s3, hS3, hrd⟩ := (ho.mono s2).freeze hS
    exact Y9 (vs := [vo, vB (decide (((lsM a0 a1 a2).length : Int) ≤ a2))]) func231 ⟨by exact (eM (hV 11 6 (by decide) rfl)), rfl, trivial⟩ ⟨_, H3, rfl, (Z4.trans s2).trans s3, hS3.dropA, ⟨_, _, rfl, hrd, rfl⟩⟩
  intro hJ
  by_cases hn : 0 ≤ a1
  · refine Z8 (bT hn rfl) ?_
    refine Z0 (Z3 (vP bl) rfl rfl ?_)
    refine B5 (vA (Z6 .i64 (fun _ => 0))) Xq3 rfl (Z3 (vI a1) rfl rfl ?_)
    refine U9 call272 (Ww8 rfl (congrArg vI (show (0 : Int) = ((a0.length - a0.length : Nat) : Int) by omega)) rfl rfl) rfl (Wm7 k1 k2 k4 a0.length (Nat.le_refl _) (p := fun _ => 0) (left := a1) (out := []) ⟨hn, k3⟩ hs0 (X8.nil _ _ _) (by simp; omega) hS) ?_
    rintro e2 w2 ⟨H2, vo, Co, rfl, s2, hS, ho⟩
    refine ⟨_, rfl, Z2 ?_⟩
    exact hJ _ _ ⟨H2, vo, Co, s2, hS, by unfold lsM; rw [if_pos hn]; exact ho, rfl, rfl⟩
  · refine Z7 (bF hn rfl) (Y6 ?_)
    exact hJ _ _ ⟨H, vN, [], .refl _, hS, by unfold lsM; rw [if_neg hn]; exact X8.nil _ _ _, rfl, rfl⟩
def I9 (K : Nat) (a0 : (List MpT)) : Nat → Int → Int → Option (Ex Int (Int))
 | 0, _, _ => none
 | k + 1, a5, a3 => (if a3 < (a0.length : Int) then ((Zn2 K (rd a0 a3) a5).bind fun r4 => (if r4 < 0 then some (.ret (-1)) else I9 K a0 k r4 (a3 + 1))) else some (.go a5))
def Zh2 (K : Nat) (a0 : (List MpT)) (a1 : Int) : Option Int := ((I9 K a0 K a1 0).bind (Ex.elim (fun r => some r) (fun s => (fun (a6 : Int) => some a6) s)))
theorem Yc7 {a0 : (List MpT)} {a1 : Int} {r : Int} (q0 : Zh2 K a0 a1 = some r) (a9 : Y3 (X2 yT) H s0 a0) (hS : St H w L) :
 Calls prog 34 #[s0, vI a1] w (U7 (fun v G => (R.int .i64).p G v r) H L) := by
 have Z4 := Sub.refl H
 refine X0 func34 rfl ntmps34 rfl ?_
 unfold Zh2 at q0
 refine Z1 (Z0 (Z5 (vI 0) rfl rfl (Z2 (Z1 (Z1 (Z0 (Z5 (vI 0) rfl rfl (Z2 (Y8 ?_)))))))))
 obtain ⟨b3, a4, b1⟩ := bind_some q0
 refine W0 (id := 0) (fun k f w => ∃ (a5 : Int) (a3 : Int) (H1 : FH), I9 K a0 k a5 a3 = some b3 ∧ Sub H H1 ∧ St H1 w (L) ∧ 0 ≤ a3 ∧ Y3 (X2 yT) H1 s0 a0 ∧ tv f 0 = s0 ∧ tv f 1 = vI a5 ∧ tv f 5 = vI a3) (fun f w => ∃ (a6 : Int) (H1 : FH), b3 = .go a6 ∧ Sub H H1 ∧ St H1 w (L) ∧ tv f 1 = vI a6) rfl ?_ ?_ K ?_ ?_
 rintro f w ⟨a5, a3, H1, a4, _⟩
 rw [I9] at a4; cases a4
 rintro k _ _ c0 c1 ⟨a5, a3, b8, a4, Z4, hS, _, a9, a7, b0, a8⟩
 rw [I9] at a4
 refine Z1 (Z1 (Z0 (Z3 (vI a3) (by exact a8) rfl (Z3 (s0) (by exact a7) rfl ?_))))
 have c6 := a9.bound
 refine X9 Zf1 rfl a9 rfl ?_
 refine W8 (k := .i64) (a := a3) (b := (a0.length : Int)) rfl rfl rfl (Z2 ?_)
 obtain ⟨b4, a4⟩ | ⟨b4, a4⟩ := ic a4
 refine Z8 (bT b4 rfl) (Y6 (Z1 (Y8 (Z1 (Z0 (Z3 (s0) (by exact a7) rfl (Z3 (vI a3) (by exact a8) rfl ?_)))))))
 obtain ⟨_, _, _, _, _, c2, c3, ⟨b9, rfl, b6⟩, c4⟩ := a9.elem (i := a3) (by omega) (by omega)
 refine X5 Zf1 rfl rfl c2 rfl (by omega) (by omega) rfl (Y2 U3 rfl rfl ?_)
 refine Y0 (b9) Q7 rfl (hS.froz _ _ c3) (c4 0 (show 0 < 1 by decide)) rfl (Z3 (vI a5) (by exact b0) rfl ?_)
 obtain ⟨r4, c5, a4⟩ := bind_some a4
 refine X3 call102 (V2 rfl rfl) rfl (Ys6 c5 b6 hS) ?_
 rintro _ H4 _ b7 hS rfl
 have Z4 := Z4.trans b7
 have a9 := a9.mono b7
 refine Z5 (vI r4) rfl rfl (Z2 (Z1 (Z0 (Z3 (vI r4) rfl rfl ?_))))
 refine W8 (k := .i64) (a := r4) (b := 0) rfl rfl rfl (Z2 ?_)
 obtain ⟨b5, a4⟩ | ⟨b5, a4⟩ := ic a4
 refine Z8 (bT b5 rfl) (Z1 (Z0 (Z5 (vI (-1)) rfl rfl (Z2 ?_))))
 refine Y9 (vs := [vI (-1)]) func34 ⟨rfl, trivial⟩ ?_
 obtain rfl := oi a4
 dsimp only [Ex.elim] at b1
 obtain rfl := oi b1
 exact ⟨_, _, rfl, Z4, hS, rfl⟩
 refine Z7 (bF b5 rfl) (Y6 (X1 (Z0 (Z3 (vI a3) (by exact a8) rfl ?_))))
 refine W2 (a3 + 1) rfl rfl (IntWalk.i64_in _ (by omega)) rfl (Z5 (vI (a3 + 1)) rfl rfl (Z2 ?_))
 exact c0 _ _ ⟨r4, (a3 + 1), H4, a4, Z4, hS, (by omega), a9, a7, rfl, rfl⟩
 refine Z7 (bF b4 rfl) ?_
 refine X7 rfl ?_
 obtain rfl := oi a4
 exact c1 _ _ ⟨a5, b8, rfl, Z4, hS, b0⟩
 exact ⟨a1, 0, H, a4, Z4, hS, (by omega), a9, rfl, rfl, rfl⟩
 rintro _ _ ⟨a6, _, rfl, Z4, hS, b2⟩
 dsimp only [Ex.elim] at b1
 refine Z1 (Z0 (Z3 (vI a6) (by exact b2) rfl (Z5 (vI a6) rfl rfl (Z2 ?_))))
 refine Y9 (vs := [vI a6]) func34 ⟨rfl, trivial⟩ ?_
 obtain rfl := oi b1
 exact ⟨_, _, rfl, Z4, hS, rfl⟩
def Zt3 (K : Nat) (a0 : (A8 × Int)) : Option (A8 × Int) := ((Zj9 K a0.1).bind fun a1 => some (a1, a0.2))
theorem Xa3 {a0 : (A8 × Int)} {r : (A8 × Int)} (q0 : Zt3 K a0 = some r) (hS : St H w L) :
 Calls prog 167 #[vA (Z6 .u8 a0.1 ++ [vI a0.2])] w (U7 (fun v G => (R.agg yT).p (G.new H) v r) H L) := by
 have Z4 := Sub.refl H
 refine X0 func167 rfl ntmps167 rfl ?_
 unfold Zt3 at q0
 refine Z1 (Z0 ?_)
 refine T7 (v := vA (Z6 .u8 a0.1 ++ [vI a0.2])) (Z6 .u8 a0.1 ++ [vI a0.2]).toArray rfl rfl hS rfl ?_
 intro _ _ hS
 refine U4 (z := vA (Z6 .u8 (fun _ => 0) ++ [vI 0])) (Z6 .u8 (fun _ => 0) ++ [vI 0]).toArray Ye6.zero rfl hS rfl ?_
 intro _ _ hS
 refine Z2 (Z1 (Z0 ?_))
 refine U4 (z := vA (Z6 .u8 (fun _ => 0) ++ [vI 0])) (Z6 .u8 (fun _ => 0) ++ [vI 0]).toArray Ye6.zero rfl hS rfl ?_
 intro _ _ hS
 refine Z2 (Z1 (Z0 (Y2 Wr8 rfl rfl ?_)))
 refine V0 (Z6 .u8 a0.1) Vj4 rfl (hS.get (o := cA (Z6 .u8 a0.1 ++ [vI a0.2]) 199) (mR (mR mL))) rfl (fun j hj => Zl3 ([]) (Z6 .u8 a0.1) (([vI a0.2])) j hj) rfl ?_
 obtain ⟨a1, a3, q0⟩ := bind_some q0
 refine X3 call238 (R3 rfl) rfl (Yo9 a3  hS) ?_
 rintro _ _ _ a4 hS ⟨_, rfl, rfl⟩
 have Z4 := Z4.trans a4
 refine Y2 M9 rfl rfl ?_
 refine K6 (v := vA (Z6 .u8 a1)) (cs := (Z6 .u8 (fun _ => 0) ++ [vI 0]).toArray) (cs' := (Z6 .u8 a1 ++ [vI 0]).toArray) P5 rfl rfl hS rfl (S8 .u8 a1) (nl rfl) (by have h := Yz6 (Z6 .u8 a1) ([]) (Z6 .u8 (fun _ => 0)) (([vI 0])) rfl; simp only [List.append_assoc, List.nil_append, List.append_nil] at h ⊢; exact h) ?_
 intro _ hS
 refine Z2 (Z1 (Z0 (Y2 Wt6 rfl rfl ?_)))
 refine Y0 (vI a0.2) ty2 rfl (hS.get (mR (mR mL))) rfl rfl (Y2 Ze3 rfl rfl ?_)
 refine K6 (v := vI a0.2) (cs := (Z6 .u8 a1 ++ [vI 0]).toArray) (cs' := (Z6 .u8 a1 ++ [vI a0.2]).toArray) ty2 rfl rfl hS rfl (Zs5 rfl) (nl rfl) rfl ?_
 intro _ hS
 refine Z2 (Z1 (Z0 ?_))
 refine W3 Zy7 rfl (hS.get mL) rfl rfl ?_
 have hS := hS.perm R6
 refine W4 (v := vA (Z6 .u8 a1 ++ [vI a0.2])) (vs := (Z6 .u8 a1 ++ [vI a0.2]).toArray) (cs := (Z6 .u8 (fun _ => 0) ++ [vI 0]).toArray) Zy7 rfl rfl rfl hS rfl (Yf3 (S8 .u8 a1) (Zb5 rfl)) rfl ?_
 intro _ hS
 have hS := hS.perm R6.symm
 refine Z2 ?_
 refine Y9 (vs := [vA (Z6 .u8 a1 ++ [vI a0.2])]) func167 ⟨⟨_, rfl, P1 Zy7 (hS.get (mR mL)) rfl⟩, trivial⟩ ?_
 obtain rfl := oi q0
 exact ⟨_, _, rfl, Z4, (St.dropA (St.dropA (St.dropA hS))), ⟨_, rfl, ⟨_, _, rfl, rfl, rfl⟩⟩⟩
def R8 (K : Nat) (a0 : (List Int)) (a1 : (Int → Option Bool)) : Option Bool := ((N2 K a0 a1).bind fun r1 => some (decide (0 ≤ r1)))
theorem Zh8 {a0 : (List Int)} {a1 : (Int → Option Bool)} {r : Bool} (q0 : R8 K a0 a1 = some r) (a3 : Y3 (Y5 .i64) H s0 a0) (a4 : FnQ prog s1 (R.int .i64) a1 H) (hS : St H w L) :
 Calls prog 172 #[s0, s1] w (U7 (fun v G => R.bool.p G v r) H L) := by
 have Z4 := Sub.refl H
 refine X0 func172 rfl ntmps172 rfl ?_
 unfold R8 at q0
 refine Z1 (Z0 (Z5 (vB false) rfl rfl (Z2 (Z1 (Z0 (Z3 (s0) rfl rfl (Z3 (s1) rfl rfl ?_)))))))
 obtain ⟨r1, a5, q0⟩ := bind_some q0
 refine X3 call235 (V2 rfl rfl) rfl (Zj4 a5 a3 a4 hS) ?_
 rintro _ _ _ a6 hS rfl
 have Z4 := Z4.trans a6
 refine Ya0 (k := .i64) (a := r1) (b := 0) rfl rfl rfl (Z5 (vB (decide (0 ≤ r1))) rfl rfl (Z2 ?_))
 refine Y9 (vs := [vB (decide (0 ≤ r1))]) func172 ⟨rfl, trivial⟩ ?_
 obtain rfl := oi q0
 exact ⟨_, _, rfl, Z4, hS, rfl⟩
def Zv1 (K : Nat) (a0 : Int) : Option Bool := ((Zj2 K a0 1 10006).bind fun r1 => some r1)
theorem Yv1 {a0 : Int} {r : Bool} (q0 : Zv1 K a0 = some r) (hS : St H w L) :
 Calls prog 212 #[vI a0] w (U7 (fun v G => R.bool.p G v r) H L) := by
 have Z4 := Sub.refl H
 refine X0 func212 rfl ntmps212 rfl ?_
 unfold Zv1 at q0
 refine Z1 (Z0 (Z5 (vB false) rfl rfl (Z2 (Z1 (Z0 (Z3 (vI a0) rfl rfl ?_))))))
 obtain ⟨r1, a1, q0⟩ := bind_some q0
 refine X3 call81 (D8 rfl rfl rfl) rfl (Ya3 a1  hS) ?_
 rintro _ _ _ a3 hS rfl
 have Z4 := Z4.trans a3
 refine Z5 (vB r1) rfl rfl (Z2 ?_)
 refine Y9 (vs := [vB r1]) func212 ⟨rfl, trivial⟩ ?_
 obtain rfl := oi q0
 exact ⟨_, _, rfl, Z4, hS, rfl⟩
end Go.Proofs.YtabofnehiclkiaaGreat
