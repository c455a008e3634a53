/- Walks of functions: each computes its pure function, if that gives a value. -/
import Derived.Test.YtabofnehiclkiaaGreatXTy
import Derived.Test.YtabofnehiclkiaaGreatXF4
import Derived.Test.YtabofnehiclkiaaGreatXF3
import Derived.Test.YtabofnehiclkiaaGreatXF1
import Derived.Test.YtabofnehiclkiaaGreatXF2
namespace Go.Proofs.YtabofnehiclkiaaGreat
open Go
set_option linter.unusedSimpArgs false
set_option linter.unusedVariables false
set_option maxRecDepth 100000
set_option maxHeartbeats 8000000
variable {K : Nat} {H : FH} {w : World} {L : OL} {s0 s1 s2 s3 s4 s5 s6 : Value}
def E8 (K : Nat) (a0 : (List Int)) (a1 : MpT) : Nat → Int → Option (Ex Bool (Unit))
 | 0, _ => none
 | k + 1, a3 => (if a3 < (a1.length : Int) then ((Zv2 K a0 ((rd a1 a3).1)).bind fun a8 => (if a8 = true then ((Zu7 K ((rd a1 a3).2) 1 10006).bind fun a6 => (if a6 = true then (if 0 < a3 then (if 0 ≤ (IntKind.i64.wrap (a3 - 1)) then (if (IntKind.i64.wrap (a3 - 1)) < (a1.length : Int) then ((Zh7 K ((rd a1 (IntKind.i64.wrap (a3 - 1))).1) ((rd a1 a3).1)).bind fun b9 => (if b9 = true then E8 K a0 a1 k (a3 + 1) else some (.ret false))) else none) else none) else E8 K a0 a1 k (a3 + 1)) else some (.ret false))) else some (.ret false))) else some (.go ()))
def Zp7 (K : Nat) (a0 : (List Int)) (a1 : MpT) : Option Bool := ((E8 K a0 a1 K 0).bind (Ex.elim (fun r => some r) (fun s => some (decide ((a1.length : Int) ≤ 400)))))
theorem Yn9 {a0 : (List Int)} {a1 : MpT} {r : Bool} (q0 : Zp7 K a0 a1 = some r) (b0 : Z9 (Y6 .i64) H s0 a0) (b3 : Z9 yT H s1 a1) (hS : St H w L) :
 Calls Tryz.prog 145 #[s0, vA ([s1])] w (T2 (fun v G => R.bool.p G v r) H L) := by
 have Z3 := Sub.refl H
 refine X3 Tryz.func145 rfl Tryz.ntmps145 rfl ?_
 unfold Zp7 at q0
 refine Z2 (Z0 ?_)
 refine S3 (v := vA ([s1])) ([s1]).toArray rfl rfl hS rfl ?_
 intro b1 _ hS
 refine Z5 (vB false) rfl rfl (Z1 (Z2 (Z2 (Z0 (Z5 (vI 0) rfl rfl (Z1 (Y7 ?_)))))))
 obtain ⟨f8, a4, c0⟩ := bind_some q0
 refine W1 (id := 0) (fun k f w => ∃ (a3 : Int) (H1 : FH), E8 K a0 a1 k a3 = some f8 ∧ Sub H H1 ∧ St H1 w ([(b1, cA ([s1]) 45)] ++ L) ∧ 0 ≤ a3 ∧ Z9 (Y6 .i64) H1 s0 a0 ∧ Z9 yT H1 s1 a1 ∧ tv f 0 = s0 ∧ tv f 3 = vP b1 ∧ tv f 5 = vI a3) (fun f w => ∃ (H1 : FH), f8 = .go () ∧ Sub H H1 ∧ St H1 w ([(b1, cA ([s1]) 45)] ++ L) ∧ Z9 yT H1 s1 a1 ∧ tv f 3 = vP b1) rfl ?_ ?_ K ?_ ?_
 rintro f w ⟨a3, H1, a4, _⟩
 rw [E8] at a4; cases a4
 rintro k _ _ i9 k5 ⟨a3, j4, a4, Z3, hS, _, b0, b3, b4, b5, b2⟩
 rw [E8] at a4
 refine Z2 (Z2 (Z0 (Z4 (vI a3) (by exact b2) rfl (Y2 V9 (by exact b5) rfl ?_))))
 refine Y3 (s1) Q4 rfl (hS.get mL) rfl rfl ?_
 have l0 := b3.bound
 refine W7 R7 rfl b3 rfl ?_
 refine V5 (k := .i64) (a := a3) (b := (a1.length : Int)) rfl rfl rfl (Z1 ?_)
 obtain ⟨f9, a4⟩ | ⟨f9, a4⟩ := ic a4
 refine Y0 (bT f9 rfl) (Y8 (Z2 (Y7 (Z2 (Z0 (Y2 V9 (by exact b5) rfl ?_))))))
 refine Y3 (s1) Q4 rfl (hS.get mL) rfl rfl (Z4 (vI a3) (by exact b2) rfl ?_)
 obtain ⟨_, _, _, _, _, k6, k7, ⟨_, _, rfl, rfl, rfl⟩, k8⟩ := b3.elem (i := a3) (by omega) (by omega)
 refine X9 R7 rfl rfl k6 rfl (by omega) (by omega) rfl ?_
 refine W9 (Z7 .u8 ((rd a1 a3).1) ++ [vI ((rd a1 a3).2)]) Zt9 rfl (hS.froz _ _ k7) rfl k8 rfl ?_
 refine W6 (z := vA (Z7 .u8 (fun _ => 0) ++ [vI 0])) (Z7 .u8 (fun _ => 0) ++ [vI 0]).toArray Ya6.zero rfl hS rfl ?_
 intro b7 _ hS
 refine X5 (v := vA (Z7 .u8 ((rd a1 a3).1) ++ [vI ((rd a1 a3).2)])) (vs := (Z7 .u8 ((rd a1 a3).1) ++ [vI ((rd a1 a3).2)]).toArray) (cs := (Z7 .u8 (fun _ => 0) ++ [vI 0]).toArray) Zt9 rfl rfl rfl hS rfl (R8 (S4 .u8 ((rd a1 a3).1)) (U0 rfl)) rfl ?_
 intro _ hS
 refine Z1 (Z2 ?_)
 obtain ⟨a8, d4, a4⟩ := bind_some a4
 obtain ⟨a7, a4⟩ | ⟨a7, a4⟩ := ic a4
 obtain ⟨a6, d5, a4⟩ := bind_some a4
 obtain ⟨a9, a4⟩ | ⟨a9, a4⟩ := ic a4
 obtain ⟨a5, a4⟩ | ⟨a5, a4⟩ := ic a4
 obtain ⟨_, a4⟩ := gd a4
 obtain ⟨_, a4⟩ := gd a4
 obtain ⟨g0, g1, _, _, _, h6, d6, ⟨_, _, rfl, rfl, rfl⟩, h7⟩ := b3.elem (i := (IntKind.i64.wrap (a3 - 1))) (by omega) (by omega)
 obtain ⟨b9, h8, a4⟩ := bind_some a4
 refine U1 28 (P0 [mE 19 (s0), mE 20 (vP b7), mE 21 (vA (Z7 .u8 ((rd a1 a3).1))), mE 22 (vB a8), mE 23 (vB (!a8)), mE 24 (vB (!a8)), mE 25 (vQ b7 8), mE 26 (vI ((rd a1 a3).2)), mE 27 (vB a6), mE 28 (vB (!a6)), mE 29 (vB (!a6)), mE 30 (vB (!a6)), mE 31 (vI a3), mE 32 (vB (decide (0 < a3))), mE 33 (vB (decide (0 < a3))), mE 34 (vP b1), mE 35 (s1), mE 36 (vI a3), mE 37 (vI (IntKind.i64.wrap (a3 - 1))), mE 38 (vQ g0 g1), mE 39 (vQ g0 (g1 + 0)), mE 40 (vA (Z7 .u8 ((rd a1 (IntKind.i64.wrap (a3 - 1))).1))), mE 41 (vP b7), mE 42 (vA (Z7 .u8 ((rd a1 a3).1))), mE 43 (vB b9), mE 44 (vB (!b9)), mE 45 (vB (!b9)), mE 46 (vB (!b9))]) [] mixed rfl rfl rfl hS (Z6 rfl ?_ (Z6 rfl ?_ (Z6 rfl ?_ (Z6 rfl ?_ (Z6 rfl ?_ (Z6 rfl ?_ (Z6 rfl ?_ (Z6 rfl ?_ (Z6 rfl ?_ (Z6 rfl ?_ (Z6 rfl ?_ (Z6 rfl ?_ (Z6 rfl ?_ (Z6 rfl ?_ (Z6 rfl ?_ (Z6 rfl ?_ (Z6 rfl ?_ (Z6 rfl ?_ (Z6 rfl ?_ (Z6 rfl ?_ (Z6 rfl ?_ (Z6 rfl ?_ (Z6 rfl ?_ (Z6 rfl ?_ (Z6 rfl ?_ (Z6 rfl ?_ (Z6 rfl ?_ (Z6 rfl ?_ U7)))))))))))))))))))))))))))) ?_
 exact W5 fun S B => Z4 (s0) (evT (B 0 rfl) b4) rfl (qz S)
 exact W5 fun S B => Y2 M1 (evT (B 6 rfl) rfl) rfl (qz S)
 exact X2 fun S V => W9 (Z7 .u8 ((rd a1 a3).1)) M2 (eM (V 1 20 rfl rfl)) (S.get (o := cA (Z7 .u8 ((rd a1 a3).1) ++ [vI ((rd a1 a3).2)]) 78) (mR mL)) rfl (fun j hj => Zm0 ([]) (Z7 .u8 ((rd a1 a3).1)) (([vI ((rd a1 a3).2)])) j hj) rfl (qz S)
 intro c1 g2 g3 g4 c3 hS e7 b6 hcq
 have b0 := b0.mono c3
 have c9 : tv c1 19 = s0 := b6 0 19 rfl rfl
 have d0 : tv c1 21 = vA (Z7 .u8 ((rd a1 a3).1)) := b6 2 21 rfl rfl
 refine X6 Tryz.call228 (U9 c9 d0) rfl (Zt7 d4 b0 hS) ?_
 rintro _ g5 g6 c4 hS rfl
 exact qn c4 rfl hS rfl
 exact X2 fun S V => K9 (b := a8) (eM (V 3 22 rfl rfl)) rfl (qz S)
 exact X2 fun S V => Z4 (vB (!a8)) (eM (V 4 23 rfl rfl)) rfl (qz S)
 exact G4 fun S B V => Y4 rfl rfl (Eq.trans (eM (V 5 24 rfl rfl)) (congrArg (fun b => vB (!b)) a7)) (Y2 Ze2 (evT (B 6 rfl) rfl) rfl (qz S))
 intro c7 j0 j1 j2 g7 hS g8 c2 hcq
 have e5 : tv c7 24 = vB (!a8) := c2 5 24 rfl rfl
 have e6 : tv c7 25 = vQ b7 8 := c2 6 25 rfl rfl
 refine Y4 rfl rfl (Eq.trans e5 (congrArg (fun b => vB (!b)) a7)) ?_
 refine Y3 (vI ((rd a1 a3).2)) ty2 e6 (hS.get (mR mL)) rfl rfl ?_
 exact qn (.refl _) rfl hS rfl
 intro c8 j3 g9 h0 f0 hS f1 b8 hcq
 have d1 : tv c8 24 = vB (!a8) := b8 5 24 rfl rfl
 have d2 : tv c8 26 = vI ((rd a1 a3).2) := b8 7 26 rfl rfl
 refine Y4 rfl rfl (Eq.trans d1 (congrArg (fun b => vB (!b)) a7)) ?_
 refine X6 Tryz.call73 (G7 d2 rfl rfl) rfl (Zy4 d5  hS) ?_
 rintro _ h1 h2 c5 hS rfl
 exact qn c5 rfl hS rfl
 exact X2 fun S V => Y4 rfl rfl (Eq.trans (eM (V 5 24 rfl rfl)) (congrArg (fun b => vB (!b)) a7)) (K9 (b := a6) (eM (V 8 27 rfl rfl)) rfl (qz S))
 exact X2 fun S V => V0 (t := false) (vB (!a6)) (Eq.trans (eM (V 5 24 rfl rfl)) (congrArg (fun b => vB (!b)) a7)) ((if_neg Bool.false_ne_true).trans (eM (V 9 28 rfl rfl))) rfl (qz S)
 exact X2 fun S V => Z4 (vB (!a6)) (eM (V 10 29 rfl rfl)) rfl (qz S)
 exact G4 fun S B V => Y4 rfl rfl (Eq.trans (eM (V 11 30 rfl rfl)) (congrArg (fun b => vB (!b)) a9)) (Z4 (vI a3) (evT (B 5 rfl) b2) rfl (qz S))
 intro d3 j5 j6 j7 h9 hS i0 c6 hcq
 have e8 : tv d3 30 = vB (!a6) := c6 11 30 rfl rfl
 have e9 : tv d3 31 = vI a3 := c6 12 31 rfl rfl
 refine Y4 rfl rfl (Eq.trans e8 (congrArg (fun b => vB (!b)) a9)) ?_
 refine Zi5 (k := .i64) (a := a3) (b := 0) e9 rfl rfl ?_
 exact qn (.refl _) rfl hS rfl
 exact X2 fun S V => Y4 rfl rfl (Eq.trans (eM (V 11 30 rfl rfl)) (congrArg (fun b => vB (!b)) a9)) (Z4 (vB (decide (0 < a3))) (eM (V 13 32 rfl rfl)) rfl (qz S))
 exact G4 fun S B V => Y4 rfl rfl (bT a5 (eM (V 14 33 rfl rfl))) (Y2 V9 (evT (B 3 rfl) b5) rfl (qz S))
 intro _ _ _ _ _ hS _ f2 hcq
 refine Y4 rfl rfl (bT a5 (eM (f2 14 33 rfl rfl))) ?_
 refine Y3 (s1) Q4 (eM (f2 15 34 rfl rfl)) (hS.get (mR (mR mL))) rfl rfl ?_
 exact qn (.refl _) rfl hS rfl
 exact G4 fun S B V => Y4 rfl rfl (bT a5 (eM (V 14 33 rfl rfl))) (Z4 (vI a3) (evT (B 5 rfl) b2) rfl (qz S))
 intro _ _ _ _ _ hS _ f3 hcq
 refine Y4 rfl rfl (bT a5 (eM (f3 14 33 rfl rfl))) ?_
 refine Yg5 (IntKind.i64.wrap (a3 - 1)) (eM (f3 17 36 rfl rfl)) rfl rfl rfl ?_
 exact qn (.refl _) rfl hS rfl
 intro _ _ _ _ _ hS _ d7 hcq
 refine Y4 rfl rfl (bT a5 (eM (d7 14 33 rfl rfl))) ?_
 refine X9 R7 rfl (eM (d7 16 35 rfl rfl)) h6 (eM (d7 18 37 rfl rfl)) (by omega) (by omega) rfl ?_
 exact qn (.refl _) rfl hS rfl
 exact X2 fun S V => Y4 rfl rfl (bT a5 (eM (V 14 33 rfl rfl))) (Y2 M1 (eM (V 19 38 rfl rfl)) rfl (qz S))
 intro _ _ _ _ i1 hS _ f4 hcq
 have d6 := i1.1 _ _ d6
 refine Y4 rfl rfl (bT a5 (eM (f4 14 33 rfl rfl))) ?_
 refine W9 (Z7 .u8 ((rd a1 (IntKind.i64.wrap (a3 - 1))).1)) M2 (eM (f4 20 39 rfl rfl)) (hS.froz _ _ d6) rfl (Zk1 ([]) (Z7 .u8 ((rd a1 (IntKind.i64.wrap (a3 - 1))).1)) (([vI ((rd a1 (IntKind.i64.wrap (a3 - 1))).2)])) h7 (nl rfl)) rfl ?_
 exact qn (.refl _) rfl hS rfl
 exact G4 fun S B V => Y4 rfl rfl (bT a5 (eM (V 14 33 rfl rfl))) (Y2 M1 (evT (B 6 rfl) rfl) rfl (qz S))
 intro _ _ _ _ _ hS _ f5 hcq
 refine Y4 rfl rfl (bT a5 (eM (f5 14 33 rfl rfl))) ?_
 refine W9 (Z7 .u8 ((rd a1 a3).1)) M2 (eM (f5 22 41 rfl rfl)) (hS.get (o := cA (Z7 .u8 ((rd a1 a3).1) ++ [vI ((rd a1 a3).2)]) 78) (mR mL)) rfl (fun j hj => Zm0 ([]) (Z7 .u8 ((rd a1 a3).1)) (([vI ((rd a1 a3).2)])) j hj) rfl ?_
 exact qn (.refl _) rfl hS rfl
 intro _ _ _ _ _ hS _ d8 hcq
 refine Y4 rfl rfl (bT a5 (eM (d8 14 33 rfl rfl))) ?_
 refine X6 Tryz.call229 (U9 (eM (d8 21 40 rfl rfl)) (eM (d8 23 42 rfl rfl))) rfl (Zy0 h8  hS) ?_
 rintro _ _ _ i2 hS rfl
 exact qn i2 rfl hS rfl
 exact X2 fun S V => Y4 rfl rfl (bT a5 (eM (V 14 33 rfl rfl))) (K9 (b := b9) (eM (V 24 43 rfl rfl)) rfl (qz S))
 intro _ _ _ _ _ hS _ d9 hcq
 refine Y4 rfl rfl (Eq.trans (eM (d9 11 30 rfl rfl)) (congrArg (fun b => vB (!b)) a9)) ?_
 refine V0 (t := true) (vB (!b9)) (bT a5 (eM (d9 14 33 rfl rfl))) ((if_pos rfl).trans (eM (d9 25 44 rfl rfl))) rfl ?_
 exact qn (.refl _) rfl hS rfl
 exact X2 fun S V => V0 (t := false) (vB (!b9)) (Eq.trans (eM (V 11 30 rfl rfl)) (congrArg (fun b => vB (!b)) a9)) ((if_neg Bool.false_ne_true).trans (eM (V 26 45 rfl rfl))) rfl (qz S)
 intro j8 j9 h3 e0 hS e1 i3 hcq
 have hS : St h3 j9 ([(b7, cA (Z7 .u8 ((rd a1 a3).1) ++ [vI ((rd a1 a3).2)]) 78)] ++ ([(b1, cA ([s1]) 45)] ++ L)) := hS
 have Z3 := Z3.trans e0
 have b0 := b0.mono e0
 have b3 := b3.mono e0
 have h4 : tv j8 46 = vB (!b9) := i3 27 46 (by decide) rfl
 refine Z1 ?_
 obtain ⟨e2, a4⟩ | ⟨e2, a4⟩ := ic a4
 refine Z8 (Eq.trans (by exact h4) (congrArg (fun b => vB (!b)) e2)) (Y8 (X4 (Z0 (Z4 (vI a3) (by exact (evT (e1 5 rfl) b2)) rfl ?_))))
 refine W8 (a3 + 1) rfl rfl (IntWalk.i64_in _ (by omega)) rfl (Z5 (vI (a3 + 1)) rfl rfl (Z1 ?_))
 have hS := St.dropA hS
 exact i9 _ _ ⟨(a3 + 1), h3, a4, Z3, hS, (by omega), b0, b3, (evT (e1 0 rfl) b4), (evT (e1 3 rfl) b5), rfl⟩
 refine Y0 (Eq.trans (by exact h4) (congrArg (fun b => vB (!b)) (X8 e2))) (Z2 (Z0 (Z5 (vB false) rfl rfl (Z1 ?_))))
 refine X0 (vs := [vB false]) Tryz.func145 ⟨rfl, trivial⟩ ?_
 obtain rfl := oi a4
 dsimp only [Ex.elim] at c0
 obtain rfl := oi c0
 exact ⟨_, _, rfl, Z3, (St.dropA (St.dropA hS)), rfl⟩
 refine U1 28 (P0 [mE 19 (s0), mE 20 (vP b7), mE 21 (vA (Z7 .u8 ((rd a1 a3).1))), mE 22 (vB a8), mE 23 (vB (!a8)), mE 24 (vB (!a8)), mE 25 (vQ b7 8), mE 26 (vI ((rd a1 a3).2)), mE 27 (vB a6), mE 28 (vB (!a6)), mE 29 (vB (!a6)), mE 30 (vB (!a6)), mE 31 (vI a3), mE 32 (vB (decide (0 < a3))), mE 33 (vB (decide (0 < a3))), mE 34 (undef), mE 35 (undef), mE 36 (undef), mE 37 (undef), mE 38 (undef), mE 39 (undef), mE 40 (undef), mE 41 (undef), mE 42 (undef), mE 43 (undef), mE 44 (undef), mE 45 (vB false), mE 46 (vB false)]) [] mixed rfl rfl rfl hS (Z6 rfl ?_ (Z6 rfl ?_ (Z6 rfl ?_ (Z6 rfl ?_ (Z6 rfl ?_ (Z6 rfl ?_ (Z6 rfl ?_ (Z6 rfl ?_ (Z6 rfl ?_ (Z6 rfl ?_ (Z6 rfl ?_ (Z6 rfl ?_ (Z6 rfl ?_ (Z6 rfl ?_ (Z6 rfl ?_ (Z6 rfl ?_ (Z6 rfl ?_ (Z6 rfl ?_ (Z6 rfl ?_ (Z6 rfl ?_ (Z6 rfl ?_ (Z6 rfl ?_ (Z6 rfl ?_ (Z6 rfl ?_ (Z6 rfl ?_ (Z6 rfl ?_ (Z6 rfl ?_ (Z6 rfl ?_ U7)))))))))))))))))))))))))))) ?_
 exact W5 fun S B => Z4 (s0) (evT (B 0 rfl) b4) rfl (qz S)
 exact W5 fun S B => Y2 M1 (evT (B 6 rfl) rfl) rfl (qz S)
 exact X2 fun S V => W9 (Z7 .u8 ((rd a1 a3).1)) M2 (eM (V 1 20 rfl rfl)) (S.get (o := cA (Z7 .u8 ((rd a1 a3).1) ++ [vI ((rd a1 a3).2)]) 78) (mR mL)) rfl (fun j hj => Zm0 ([]) (Z7 .u8 ((rd a1 a3).1)) (([vI ((rd a1 a3).2)])) j hj) rfl (qz S)
 intro c1 g2 g3 g4 c3 hS e7 b6 hcq
 have b0 := b0.mono c3
 have c9 : tv c1 19 = s0 := b6 0 19 rfl rfl
 have d0 : tv c1 21 = vA (Z7 .u8 ((rd a1 a3).1)) := b6 2 21 rfl rfl
 refine X6 Tryz.call228 (U9 c9 d0) rfl (Zt7 d4 b0 hS) ?_
 rintro _ g5 g6 c4 hS rfl
 exact qn c4 rfl hS rfl
 exact X2 fun S V => K9 (b := a8) (eM (V 3 22 rfl rfl)) rfl (qz S)
 exact X2 fun S V => Z4 (vB (!a8)) (eM (V 4 23 rfl rfl)) rfl (qz S)
 exact G4 fun S B V => Y4 rfl rfl (Eq.trans (eM (V 5 24 rfl rfl)) (congrArg (fun b => vB (!b)) a7)) (Y2 Ze2 (evT (B 6 rfl) rfl) rfl (qz S))
 intro c7 j0 j1 j2 g7 hS g8 c2 hcq
 have e5 : tv c7 24 = vB (!a8) := c2 5 24 rfl rfl
 have e6 : tv c7 25 = vQ b7 8 := c2 6 25 rfl rfl
 refine Y4 rfl rfl (Eq.trans e5 (congrArg (fun b => vB (!b)) a7)) ?_
 refine Y3 (vI ((rd a1 a3).2)) ty2 e6 (hS.get (mR mL)) rfl rfl ?_
 exact qn (.refl _) rfl hS rfl
 intro c8 j3 g9 h0 f0 hS f1 b8 hcq
 have d1 : tv c8 24 = vB (!a8) := b8 5 24 rfl rfl
 have d2 : tv c8 26 = vI ((rd a1 a3).2) := b8 7 26 rfl rfl
 refine Y4 rfl rfl (Eq.trans d1 (congrArg (fun b => vB (!b)) a7)) ?_
 refine X6 Tryz.call73 (G7 d2 rfl rfl) rfl (Zy4 d5  hS) ?_
 rintro _ h1 h2 c5 hS rfl
 exact qn c5 rfl hS rfl
 exact X2 fun S V => Y4 rfl rfl (Eq.trans (eM (V 5 24 rfl rfl)) (congrArg (fun b => vB (!b)) a7)) (K9 (b := a6) (eM (V 8 27 rfl rfl)) rfl (qz S))
 exact X2 fun S V => V0 (t := false) (vB (!a6)) (Eq.trans (eM (V 5 24 rfl rfl)) (congrArg (fun b => vB (!b)) a7)) ((if_neg Bool.false_ne_true).trans (eM (V 9 28 rfl rfl))) rfl (qz S)
 exact X2 fun S V => Z4 (vB (!a6)) (eM (V 10 29 rfl rfl)) rfl (qz S)
 exact G4 fun S B V => Y4 rfl rfl (Eq.trans (eM (V 11 30 rfl rfl)) (congrArg (fun b => vB (!b)) a9)) (Z4 (vI a3) (evT (B 5 rfl) b2) rfl (qz S))
 intro d3 j5 j6 j7 h9 hS i0 c6 hcq
 have e8 : tv d3 30 = vB (!a6) := c6 11 30 rfl rfl
 have e9 : tv d3 31 = vI a3 := c6 12 31 rfl rfl
 refine Y4 rfl rfl (Eq.trans e8 (congrArg (fun b => vB (!b)) a9)) ?_
 refine Zi5 (k := .i64) (a := a3) (b := 0) e9 rfl rfl ?_
 exact qn (.refl _) rfl hS rfl
 exact X2 fun S V => Y4 rfl rfl (Eq.trans (eM (V 11 30 rfl rfl)) (congrArg (fun b => vB (!b)) a9)) (Z4 (vB (decide (0 < a3))) (eM (V 13 32 rfl rfl)) rfl (qz S))
 exact X2 fun S V => Y1 rfl rfl (bF a5 (eM (V 14 33 rfl rfl))) rfl rfl rfl (qz S)
 exact X2 fun S V => Y1 rfl rfl (bF a5 (eM (V 14 33 rfl rfl))) rfl rfl rfl (qz S)
 exact X2 fun S V => Y1 rfl rfl (bF a5 (eM (V 14 33 rfl rfl))) rfl rfl rfl (qz S)
 exact X2 fun S V => Y1 rfl rfl (bF a5 (eM (V 14 33 rfl rfl))) rfl rfl rfl (qz S)
 exact X2 fun S V => Y1 rfl rfl (bF a5 (eM (V 14 33 rfl rfl))) rfl rfl rfl (qz S)
 exact X2 fun S V => Y1 rfl rfl (bF a5 (eM (V 14 33 rfl rfl))) rfl rfl rfl (qz S)
 exact X2 fun S V => Y1 rfl rfl (bF a5 (eM (V 14 33 rfl rfl))) rfl rfl rfl (qz S)
 exact X2 fun S V => Y1 rfl rfl (bF a5 (eM (V 14 33 rfl rfl))) rfl rfl rfl (qz S)
 exact X2 fun S V => Y1 rfl rfl (bF a5 (eM (V 14 33 rfl rfl))) rfl rfl rfl (qz S)
 exact X2 fun S V => Y1 rfl rfl (bF a5 (eM (V 14 33 rfl rfl))) rfl rfl rfl (qz S)
 exact X2 fun S V => Y1 rfl rfl (bF a5 (eM (V 14 33 rfl rfl))) rfl rfl rfl (qz S)
 intro _ _ _ _ _ hS _ f6 hcq
 refine Y4 rfl rfl (Eq.trans (eM (f6 11 30 rfl rfl)) (congrArg (fun b => vB (!b)) a9)) ?_
 refine V0 (t := false) (vB false) (bF a5 (eM (f6 14 33 rfl rfl))) ((if_neg Bool.false_ne_true).trans rfl) rfl ?_
 exact qn (.refl _) rfl hS rfl
 exact X2 fun S V => V0 (t := false) (vB false) (Eq.trans (eM (V 11 30 rfl rfl)) (congrArg (fun b => vB (!b)) a9)) ((if_neg Bool.false_ne_true).trans (eM (V 26 45 rfl rfl))) rfl (qz S)
 intro _ k0 h5 e3 hS e4 i4 hcq
 have hS : St h5 k0 ([(b7, cA (Z7 .u8 ((rd a1 a3).1) ++ [vI ((rd a1 a3).2)]) 78)] ++ ([(b1, cA ([s1]) 45)] ++ L)) := hS
 have Z3 := Z3.trans e3
 have b0 := b0.mono e3
 have b3 := b3.mono e3
 refine Z1 (Z8 (by exact (eM (i4 27 46 (by decide) rfl))) (Y8 (X4 (Z0 (Z4 (vI a3) (by exact (evT (e4 5 rfl) b2)) rfl ?_)))))
 refine W8 (a3 + 1) rfl rfl (IntWalk.i64_in _ (by omega)) rfl (Z5 (vI (a3 + 1)) rfl rfl (Z1 ?_))
 have hS := St.dropA hS
 exact i9 _ _ ⟨(a3 + 1), h5, a4, Z3, hS, (by omega), b0, b3, (evT (e4 0 rfl) b4), (evT (e4 3 rfl) b5), rfl⟩
 refine U1 28 (P0 [mE 19 (s0), mE 20 (vP b7), mE 21 (vA (Z7 .u8 ((rd a1 a3).1))), mE 22 (vB a8), mE 23 (vB (!a8)), mE 24 (vB (!a8)), mE 25 (vQ b7 8), mE 26 (vI ((rd a1 a3).2)), mE 27 (vB a6), mE 28 (vB (!a6)), mE 29 (vB (!a6)), mE 30 (vB (!a6)), mE 31 (undef), mE 32 (undef), mE 33 (undef), mE 34 (undef), mE 35 (undef), mE 36 (undef), mE 37 (undef), mE 38 (undef), mE 39 (undef), mE 40 (undef), mE 41 (undef), mE 42 (undef), mE 43 (undef), mE 44 (undef), mE 45 (undef), mE 46 (vB true)]) [] mixed rfl rfl rfl hS (Z6 rfl ?_ (Z6 rfl ?_ (Z6 rfl ?_ (Z6 rfl ?_ (Z6 rfl ?_ (Z6 rfl ?_ (Z6 rfl ?_ (Z6 rfl ?_ (Z6 rfl ?_ (Z6 rfl ?_ (Z6 rfl ?_ (Z6 rfl ?_ (Z6 rfl ?_ (Z6 rfl ?_ (Z6 rfl ?_ (Z6 rfl ?_ (Z6 rfl ?_ (Z6 rfl ?_ (Z6 rfl ?_ (Z6 rfl ?_ (Z6 rfl ?_ (Z6 rfl ?_ (Z6 rfl ?_ (Z6 rfl ?_ (Z6 rfl ?_ (Z6 rfl ?_ (Z6 rfl ?_ (Z6 rfl ?_ U7)))))))))))))))))))))))))))) ?_
 exact W5 fun S B => Z4 (s0) (evT (B 0 rfl) b4) rfl (qz S)
 exact W5 fun S B => Y2 M1 (evT (B 6 rfl) rfl) rfl (qz S)
 exact X2 fun S V => W9 (Z7 .u8 ((rd a1 a3).1)) M2 (eM (V 1 20 rfl rfl)) (S.get (o := cA (Z7 .u8 ((rd a1 a3).1) ++ [vI ((rd a1 a3).2)]) 78) (mR mL)) rfl (fun j hj => Zm0 ([]) (Z7 .u8 ((rd a1 a3).1)) (([vI ((rd a1 a3).2)])) j hj) rfl (qz S)
 intro c1 g2 g3 g4 c3 hS e7 b6 hcq
 have b0 := b0.mono c3
 have c9 : tv c1 19 = s0 := b6 0 19 rfl rfl
 have d0 : tv c1 21 = vA (Z7 .u8 ((rd a1 a3).1)) := b6 2 21 rfl rfl
 refine X6 Tryz.call228 (U9 c9 d0) rfl (Zt7 d4 b0 hS) ?_
 rintro _ g5 g6 c4 hS rfl
 exact qn c4 rfl hS rfl
 exact X2 fun S V => K9 (b := a8) (eM (V 3 22 rfl rfl)) rfl (qz S)
 exact X2 fun S V => Z4 (vB (!a8)) (eM (V 4 23 rfl rfl)) rfl (qz S)
 exact G4 fun S B V => Y4 rfl rfl (Eq.trans (eM (V 5 24 rfl rfl)) (congrArg (fun b => vB (!b)) a7)) (Y2 Ze2 (evT (B 6 rfl) rfl) rfl (qz S))
 intro c7 j0 j1 j2 g7 hS g8 c2 hcq
 have e5 : tv c7 24 = vB (!a8) := c2 5 24 rfl rfl
 have e6 : tv c7 25 = vQ b7 8 := c2 6 25 rfl rfl
 refine Y4 rfl rfl (Eq.trans e5 (congrArg (fun b => vB (!b)) a7)) ?_
 refine Y3 (vI ((rd a1 a3).2)) ty2 e6 (hS.get (mR mL)) rfl rfl ?_
 exact qn (.refl _) rfl hS rfl
 intro c8 j3 g9 h0 f0 hS f1 b8 hcq
 have d1 : tv c8 24 = vB (!a8) := b8 5 24 rfl rfl
 have d2 : tv c8 26 = vI ((rd a1 a3).2) := b8 7 26 rfl rfl
 refine Y4 rfl rfl (Eq.trans d1 (congrArg (fun b => vB (!b)) a7)) ?_
 refine X6 Tryz.call73 (G7 d2 rfl rfl) rfl (Zy4 d5  hS) ?_
 rintro _ h1 h2 c5 hS rfl
 exact qn c5 rfl hS rfl
 exact X2 fun S V => Y4 rfl rfl (Eq.trans (eM (V 5 24 rfl rfl)) (congrArg (fun b => vB (!b)) a7)) (K9 (b := a6) (eM (V 8 27 rfl rfl)) rfl (qz S))
 exact X2 fun S V => V0 (t := false) (vB (!a6)) (Eq.trans (eM (V 5 24 rfl rfl)) (congrArg (fun b => vB (!b)) a7)) ((if_neg Bool.false_ne_true).trans (eM (V 9 28 rfl rfl))) rfl (qz S)
 exact X2 fun S V => Z4 (vB (!a6)) (eM (V 10 29 rfl rfl)) rfl (qz S)
 exact X2 fun S V => Y1 rfl rfl (Eq.trans (eM (V 11 30 rfl rfl)) (congrArg (fun b => vB (!b)) (X8 a9))) rfl rfl rfl (qz S)
 exact X2 fun S V => Y1 rfl rfl (Eq.trans (eM (V 11 30 rfl rfl)) (congrArg (fun b => vB (!b)) (X8 a9))) rfl rfl rfl (qz S)
 exact X2 fun S V => Y1 rfl rfl (Eq.trans (eM (V 11 30 rfl rfl)) (congrArg (fun b => vB (!b)) (X8 a9))) rfl rfl rfl (qz S)
 exact X2 fun S V => U6 rfl rfl (eM (V 14 33 rfl rfl)) rfl rfl (qz S)
 exact X2 fun S V => U6 rfl rfl (eM (V 14 33 rfl rfl)) rfl rfl (qz S)
 exact X2 fun S V => U6 rfl rfl (eM (V 14 33 rfl rfl)) rfl rfl (qz S)
 exact X2 fun S V => U6 rfl rfl (eM (V 14 33 rfl rfl)) rfl rfl (qz S)
 exact X2 fun S V => U6 rfl rfl (eM (V 14 33 rfl rfl)) rfl rfl (qz S)
 exact X2 fun S V => U6 rfl rfl (eM (V 14 33 rfl rfl)) rfl rfl (qz S)
 exact X2 fun S V => U6 rfl rfl (eM (V 14 33 rfl rfl)) rfl rfl (qz S)
 exact X2 fun S V => U6 rfl rfl (eM (V 14 33 rfl rfl)) rfl rfl (qz S)
 exact X2 fun S V => U6 rfl rfl (eM (V 14 33 rfl rfl)) rfl rfl (qz S)
 exact X2 fun S V => U6 rfl rfl (eM (V 14 33 rfl rfl)) rfl rfl (qz S)
 exact X2 fun S V => U6 rfl rfl (eM (V 14 33 rfl rfl)) rfl rfl (qz S)
 exact X2 fun S V => Y1 rfl rfl (Eq.trans (eM (V 11 30 rfl rfl)) (congrArg (fun b => vB (!b)) (X8 a9))) rfl rfl rfl (qz S)
 exact X2 fun S V => V0 (t := true) (vB true) (Eq.trans (eM (V 11 30 rfl rfl)) (congrArg (fun b => vB (!b)) (X8 a9))) ((if_pos rfl).trans rfl) rfl (qz S)
 intro _ k1 k2 i5 hS _ i6 hcq
 have hS : St k2 k1 ([(b7, cA (Z7 .u8 ((rd a1 a3).1) ++ [vI ((rd a1 a3).2)]) 78)] ++ ([(b1, cA ([s1]) 45)] ++ L)) := hS
 have Z3 := Z3.trans i5
 refine Z1 (Y0 (by exact (eM (i6 27 46 (by decide) rfl))) (Z2 (Z0 (Z5 (vB false) rfl rfl (Z1 ?_)))))
 refine X0 (vs := [vB false]) Tryz.func145 ⟨rfl, trivial⟩ ?_
 obtain rfl := oi a4
 dsimp only [Ex.elim] at c0
 obtain rfl := oi c0
 exact ⟨_, _, rfl, Z3, (St.dropA (St.dropA hS)), rfl⟩
 refine U1 28 (P0 [mE 19 (s0), mE 20 (vP b7), mE 21 (vA (Z7 .u8 ((rd a1 a3).1))), mE 22 (vB a8), mE 23 (vB (!a8)), mE 24 (vB (!a8)), mE 25 (undef), mE 26 (undef), mE 27 (undef), mE 28 (undef), mE 29 (vB true), mE 30 (vB true), mE 31 (undef), mE 32 (undef), mE 33 (undef), mE 34 (undef), mE 35 (undef), mE 36 (undef), mE 37 (undef), mE 38 (undef), mE 39 (undef), mE 40 (undef), mE 41 (undef), mE 42 (undef), mE 43 (undef), mE 44 (undef), mE 45 (undef), mE 46 (vB true)]) [] mixed rfl rfl rfl hS (Z6 rfl ?_ (Z6 rfl ?_ (Z6 rfl ?_ (Z6 rfl ?_ (Z6 rfl ?_ (Z6 rfl ?_ (Z6 rfl ?_ (Z6 rfl ?_ (Z6 rfl ?_ (Z6 rfl ?_ (Z6 rfl ?_ (Z6 rfl ?_ (Z6 rfl ?_ (Z6 rfl ?_ (Z6 rfl ?_ (Z6 rfl ?_ (Z6 rfl ?_ (Z6 rfl ?_ (Z6 rfl ?_ (Z6 rfl ?_ (Z6 rfl ?_ (Z6 rfl ?_ (Z6 rfl ?_ (Z6 rfl ?_ (Z6 rfl ?_ (Z6 rfl ?_ (Z6 rfl ?_ (Z6 rfl ?_ U7)))))))))))))))))))))))))))) ?_
 exact W5 fun S B => Z4 (s0) (evT (B 0 rfl) b4) rfl (qz S)
 exact W5 fun S B => Y2 M1 (evT (B 6 rfl) rfl) rfl (qz S)
 exact X2 fun S V => W9 (Z7 .u8 ((rd a1 a3).1)) M2 (eM (V 1 20 rfl rfl)) (S.get (o := cA (Z7 .u8 ((rd a1 a3).1) ++ [vI ((rd a1 a3).2)]) 78) (mR mL)) rfl (fun j hj => Zm0 ([]) (Z7 .u8 ((rd a1 a3).1)) (([vI ((rd a1 a3).2)])) j hj) rfl (qz S)
 intro c1 g2 g3 g4 c3 hS e7 b6 hcq
 have b0 := b0.mono c3
 have c9 : tv c1 19 = s0 := b6 0 19 rfl rfl
 have d0 : tv c1 21 = vA (Z7 .u8 ((rd a1 a3).1)) := b6 2 21 rfl rfl
 refine X6 Tryz.call228 (U9 c9 d0) rfl (Zt7 d4 b0 hS) ?_
 rintro _ g5 g6 c4 hS rfl
 exact qn c4 rfl hS rfl
 exact X2 fun S V => K9 (b := a8) (eM (V 3 22 rfl rfl)) rfl (qz S)
 exact X2 fun S V => Z4 (vB (!a8)) (eM (V 4 23 rfl rfl)) rfl (qz S)
 exact X2 fun S V => Y1 rfl rfl (Eq.trans (eM (V 5 24 rfl rfl)) (congrArg (fun b => vB (!b)) (X8 a7))) rfl rfl rfl (qz S)
 exact X2 fun S V => Y1 rfl rfl (Eq.trans (eM (V 5 24 rfl rfl)) (congrArg (fun b => vB (!b)) (X8 a7))) rfl rfl rfl (qz S)
 exact X2 fun S V => Y1 rfl rfl (Eq.trans (eM (V 5 24 rfl rfl)) (congrArg (fun b => vB (!b)) (X8 a7))) rfl rfl rfl (qz S)
 exact X2 fun S V => Y1 rfl rfl (Eq.trans (eM (V 5 24 rfl rfl)) (congrArg (fun b => vB (!b)) (X8 a7))) rfl rfl rfl (qz S)
 exact X2 fun S V => V0 (t := true) (vB true) (Eq.trans (eM (V 5 24 rfl rfl)) (congrArg (fun b => vB (!b)) (X8 a7))) ((if_pos rfl).trans rfl) rfl (qz S)
 exact X2 fun S V => Z4 (vB true) (eM (V 10 29 rfl rfl)) rfl (qz S)
 exact X2 fun S V => Y1 rfl rfl (eM (V 11 30 rfl rfl)) rfl rfl rfl (qz S)
 exact X2 fun S V => Y1 rfl rfl (eM (V 11 30 rfl rfl)) rfl rfl rfl (qz S)
 exact X2 fun S V => Y1 rfl rfl (eM (V 11 30 rfl rfl)) rfl rfl rfl (qz S)
 exact X2 fun S V => U6 rfl rfl (eM (V 14 33 rfl rfl)) rfl rfl (qz S)
 exact X2 fun S V => U6 rfl rfl (eM (V 14 33 rfl rfl)) rfl rfl (qz S)
 exact X2 fun S V => U6 rfl rfl (eM (V 14 33 rfl rfl)) rfl rfl (qz S)
 exact X2 fun S V => U6 rfl rfl (eM (V 14 33 rfl rfl)) rfl rfl (qz S)
 exact X2 fun S V => U6 rfl rfl (eM (V 14 33 rfl rfl)) rfl rfl (qz S)
 exact X2 fun S V => U6 rfl rfl (eM (V 14 33 rfl rfl)) rfl rfl (qz S)
 exact X2 fun S V => U6 rfl rfl (eM (V 14 33 rfl rfl)) rfl rfl (qz S)
 exact X2 fun S V => U6 rfl rfl (eM (V 14 33 rfl rfl)) rfl rfl (qz S)
 exact X2 fun S V => U6 rfl rfl (eM (V 14 33 rfl rfl)) rfl rfl (qz S)
 exact X2 fun S V => U6 rfl rfl (eM (V 14 33 rfl rfl)) rfl rfl (qz S)
 exact X2 fun S V => U6 rfl rfl (eM (V 14 33 rfl rfl)) rfl rfl (qz S)
 exact X2 fun S V => Y1 rfl rfl (eM (V 11 30 rfl rfl)) rfl rfl rfl (qz S)
 exact X2 fun S V => V0 (t := true) (vB true) (eM (V 11 30 rfl rfl)) ((if_pos rfl).trans rfl) rfl (qz S)
 intro _ k3 k4 i7 hS _ i8 hcq
 have hS : St k4 k3 ([(b7, cA (Z7 .u8 ((rd a1 a3).1) ++ [vI ((rd a1 a3).2)]) 78)] ++ ([(b1, cA ([s1]) 45)] ++ L)) := hS
 have Z3 := Z3.trans i7
 refine Z1 (Y0 (by exact (eM (i8 27 46 (by decide) rfl))) (Z2 (Z0 (Z5 (vB false) rfl rfl (Z1 ?_)))))
 refine X0 (vs := [vB false]) Tryz.func145 ⟨rfl, trivial⟩ ?_
 obtain rfl := oi a4
 dsimp only [Ex.elim] at c0
 obtain rfl := oi c0
 exact ⟨_, _, rfl, Z3, (St.dropA (St.dropA hS)), rfl⟩
 refine Z8 (bF f9 rfl) ?_
 refine W0 rfl ?_
 obtain rfl := oi a4
 exact k5 _ _ ⟨j4, rfl, Z3, hS, b3, b5⟩
 exact ⟨0, H, a4, Z3, hS, (by omega), b0, b3, rfl, rfl, rfl⟩
 rintro _ _ ⟨_, rfl, Z3, hS, b3, f7⟩
 dsimp only [Ex.elim] at c0
 refine Z2 (Z0 (Y2 V9 (by exact f7) rfl ?_))
 refine Y3 (s1) Q4 rfl (hS.get mL) rfl rfl ?_
 have k9 := b3.bound
 refine W7 R7 rfl b3 rfl ?_
 refine Xb0 (k := .i64) (a := (a1.length : Int)) (b := 400) rfl rfl rfl (Z5 (vB (decide ((a1.length : Int) ≤ 400))) rfl rfl (Z1 ?_))
 refine X0 (vs := [vB (decide ((a1.length : Int) ≤ 400))]) Tryz.func145 ⟨rfl, trivial⟩ ?_
 obtain rfl := oi c0
 exact ⟨_, _, rfl, Z3, (St.dropA hS), rfl⟩
def Zg5 (K : Nat) (a0 : MpT) : Nat → Int → MpT → Option (Ex MpT (MpT))
 | 0, _, _ => none
 | k + 1, a1, a3 => (if a1 < (a0.length : Int) then ((Zi2 K ((rd a0 a1).1)).bind fun b6 => Zg5 K a0 k (a1 + 1) (F6 a3 b6 ((rd a0 a1).2))) else some (.go a3))
def Ze5 (K : Nat) (a0 : MpT) : Option MpT := ((Zg5 K a0 K 0 ([] : MpT)).bind (Ex.elim (fun r => some r) (fun s => (fun (a7 : MpT) => some a7) s)))
theorem Zj2 {a0 : MpT} {r : MpT} (q0 : Ze5 K a0 = some r) (a8 : Z9 yT H s0 a0) (hS : St H w L) :
 Calls Tryz.prog 110 #[vA ([s0])] w (Yt8 .i64 r H L) := by
 have Z3 := Sub.refl H
 refine X3 Tryz.func110 rfl Tryz.ntmps110 rfl ?_
 unfold Ze5 at q0
 refine Z2 (Z0 ?_)
 refine S3 (v := vA ([s0])) ([s0]).toArray rfl rfl hS rfl ?_
 intro b1 _ hS
 refine Z5 (Value.map none) rfl rfl (Z1 (Z2 (Z0 ?_)))
 refine Zk3 (k := .i64) hS rfl ?_
 intro m4 _ C6 d4 hS
 refine Z5 (m4) rfl rfl (Z1 (Z2 (Z2 (Z0 (Y2 V9 rfl rfl ?_)))))
 refine Y3 (s0) Q4 rfl (hS.get (mR mL)) rfl rfl ?_
 have d9 := a8.bound
 refine W7 R7 rfl a8 rfl (Z4 (vI 0) rfl rfl (Z1 (Y7 ?_)))
 obtain ⟨c2, a4, c3⟩ := bind_some q0
 refine W1 (id := 0) (fun k f w => ∃ (a1 : Int) (a3 : MpT) (H1 : FH) (a5 : OL), Zg5 K a0 k a1 a3 = some c2 ∧ Sub H H1 ∧ St H1 w (a5 ++ ([(b1, cA ([s0]) 45)] ++ L)) ∧ 0 ≤ a1 ∧ P7 .i64 m4 a3 a5 ∧ Z9 yT H1 s0 a0 ∧ tv f 3 = m4 ∧ tv f 8 = s0 ∧ tv f 9 = vI (a0.length : Int) ∧ tv f 10 = vI a1) (fun f w => ∃ (a7 : MpT) (H1 : FH) (a9 : OL), c2 = .go a7 ∧ Sub H H1 ∧ St H1 w (a9 ++ ([(b1, cA ([s0]) 45)] ++ L)) ∧ P7 .i64 m4 a7 a9 ∧ Z9 yT H1 s0 a0 ∧ tv f 3 = m4) rfl ?_ ?_ K ?_ ?_
 rintro f w ⟨a1, a3, H1, a5, a4, _⟩
 rw [Zg5] at a4; cases a4
 rintro k _ _ d5 d6 ⟨a1, a3, c6, a5, a4, Z3, hS, _, a6, a8, b2, b3, b4, b0⟩
 rw [Zg5] at a4
 refine Z2 (Z0 ?_)
 refine V5 (k := .i64) (a := a1) (b := (a0.length : Int)) (by exact b0) (by exact b4) rfl (Z1 (Z2 ?_))
 obtain ⟨b8, a4⟩ | ⟨b8, a4⟩ := ic a4
 refine Y0 (bT b8 rfl) (Y8 (Z2 (Y7 (Z2 (Z0 ?_)))))
 obtain ⟨_, _, _, _, _, c7, c8, ⟨_, _, rfl, rfl, rfl⟩, c9⟩ := a8.elem (i := a1) (by omega) (by omega)
 refine X9 R7 rfl (by exact b3) c7 (by exact b0) (by omega) (by omega) rfl ?_
 refine W9 (Z7 .u8 ((rd a0 a1).1) ++ [vI ((rd a0 a1).2)]) Zt9 rfl (hS.froz _ _ c8) rfl c9 rfl ?_
 refine W6 (z := vA (Z7 .u8 (fun _ => 0) ++ [vI 0])) (Z7 .u8 (fun _ => 0) ++ [vI 0]).toArray Ya6.zero rfl hS rfl ?_
 intro c4 _ hS
 refine X5 (v := vA (Z7 .u8 ((rd a0 a1).1) ++ [vI ((rd a0 a1).2)])) (vs := (Z7 .u8 ((rd a0 a1).1) ++ [vI ((rd a0 a1).2)]).toArray) (cs := (Z7 .u8 (fun _ => 0) ++ [vI 0]).toArray) Zt9 rfl rfl rfl hS rfl (R8 (S4 .u8 ((rd a0 a1).1)) (U0 rfl)) rfl ?_
 intro _ hS
 refine Z1 ?_
 obtain ⟨b6, d0, a4⟩ := bind_some a4
 refine U1 6 (P0 [mE 14 (m4), mE 15 (vP c4), mE 16 (vA (Z7 .u8 ((rd a0 a1).1))), mE 17 (vA (Z7 .i64 b6)), mE 18 (vQ c4 8), mE 19 (vI ((rd a0 a1).2))]) [] mixed rfl rfl rfl hS (Z6 rfl ?_ (Z6 rfl ?_ (Z6 rfl ?_ (Z6 rfl ?_ (Z6 rfl ?_ (Z6 rfl ?_ U7)))))) ?_
 exact W5 fun S B => Z4 (m4) (evT (B 3 rfl) b2) rfl (qz S)
 exact W5 fun S B => Y2 M1 (evT (B 5 rfl) rfl) rfl (qz S)
 exact X2 fun S V => W9 (Z7 .u8 ((rd a0 a1).1)) M2 (eM (V 1 15 rfl rfl)) (S.get (o := cA (Z7 .u8 ((rd a0 a1).1) ++ [vI ((rd a0 a1).2)]) 78) (mR mL)) rfl (fun j hj => Zm0 ([]) (Z7 .u8 ((rd a0 a1).1)) (([vI ((rd a0 a1).2)])) j hj) rfl (qz S)
 intro _ _ _ _ _ hS _ d1 hcq
 refine X6 Tryz.call192 (S2 (eM (d1 2 16 rfl rfl))) rfl (Zt5 d0  hS) ?_
 rintro _ _ _ d2 hS ⟨_, rfl, rfl⟩
 exact qn d2 rfl hS rfl
 exact W5 fun S B => Y2 Ze2 (evT (B 5 rfl) rfl) rfl (qz S)
 exact X2 fun S V => Y3 (vI ((rd a0 a1).2)) ty2 (eM (V 4 18 rfl rfl)) (S.get (mR mL)) rfl rfl (qz S)
 intro _ d7 c5 b9 hS b5 c0 hcq
 have hS : St c5 d7 ([(c4, cA (Z7 .u8 ((rd a0 a1).1) ++ [vI ((rd a0 a1).2)]) 78)] ++ (a5 ++ ([(b1, cA ([s0]) 45)] ++ L))) := hS
 have Z3 := Z3.trans b9
 have a8 := a8.mono b9
 have a6 := a6.mono b9
 have hS := hS.perm V1
 refine Xd2 (a := b6) (m := (rd a0 a1).2) Zi9 (by exact (eM (c0 0 14 (by decide) rfl))) (by exact (eM (c0 3 17 (by decide) rfl))) (by exact (eM (c0 5 19 (by decide) rfl))) a6 hS ?_
 intro _ d8 d3 hS
 have hS := hS.perm V1.symm
 refine Z1 (X4 (Z0 ?_))
 refine W8 (a1 + 1) (by exact (evT (b5 10 rfl) b0)) rfl (IntWalk.i64_in _ (by omega)) rfl (Z4 (vI (a1 + 1)) rfl rfl (Z1 ?_))
 have hS := St.dropA hS
 exact d5 _ _ ⟨(a1 + 1), (F6 a3 b6 ((rd a0 a1).2)), c5, d8, a4, Z3, hS, (by omega), d3, a8, (evT (b5 3 rfl) b2), (evT (b5 8 rfl) b3), (evT (b5 9 rfl) b4), rfl⟩
 refine Z8 (bF b8 rfl) ?_
 refine W0 rfl ?_
 obtain rfl := oi a4
 exact d6 _ _ ⟨a3, c6, a5, rfl, Z3, hS, a6, a8, b2⟩
 exact ⟨0, ([] : MpT), H, C6, a4, Z3, hS, (by omega), d4, a8, rfl, rfl, rfl, rfl⟩
 rintro _ _ ⟨a7, _, a9, rfl, Z3, hS, b7, a8, c1⟩
 dsimp only [Ex.elim] at c3
 refine Z2 (Z0 (Z4 (m4) (by exact c1) rfl (Z5 (m4) rfl rfl (Z1 ?_))))
 refine X0 (vs := [m4]) Tryz.func110 ⟨rfl, trivial⟩ ?_
 have hS := St.dropMid hS
 obtain rfl := oi c3
 exact ⟨_, _, _, rfl, Z3, hS, b7⟩
def C4 (K : Nat) (a0 : (List MpT)) : Nat → Int → Int → Option (Ex Int (Int))
 | 0, _, _ => none
 | k + 1, a5, a3 => (if a3 < (a0.length : Int) then ((Zq0 K (rd a0 a3) a5).bind fun r4 => (if r4 < 0 then some (.ret (-1)) else C4 K a0 k r4 (a3 + 1))) else some (.go a5))
def Zh3 (K : Nat) (a0 : (List MpT)) (a1 : Int) : Option Int := ((C4 K a0 K a1 0).bind (Ex.elim (fun r => some r) (fun s => (fun (a6 : Int) => some a6) s)))
theorem Zy1 {a0 : (List MpT)} {a1 : Int} {r : Int} (q0 : Zh3 K a0 a1 = some r) (a9 : Z9 (Y9 yT) H s0 a0) (hS : St H w L) :
 Calls Tryz.prog 34 #[s0, vI a1] w (T2 (fun v G => (R.int .i64).p G v r) H L) := by
 have Z3 := Sub.refl H
 refine X3 Tryz.func34 rfl Tryz.ntmps34 rfl ?_
 unfold Zh3 at q0
 refine Z2 (Z0 (Z5 (vI 0) rfl rfl (Z1 (Z2 (Z2 (Z0 (Z5 (vI 0) rfl rfl (Z1 (Y7 ?_)))))))))
 obtain ⟨b3, a4, b1⟩ := bind_some q0
 refine W1 (id := 0) (fun k f w => ∃ (a5 : Int) (a3 : Int) (H1 : FH), C4 K a0 k a5 a3 = some b3 ∧ Sub H H1 ∧ St H1 w (L) ∧ 0 ≤ a3 ∧ Z9 (Y9 yT) H1 s0 a0 ∧ tv f 0 = s0 ∧ tv f 1 = vI a5 ∧ tv f 5 = vI a3) (fun f w => ∃ (a6 : Int) (H1 : FH), b3 = .go a6 ∧ Sub H H1 ∧ St H1 w (L) ∧ tv f 1 = vI a6) rfl ?_ ?_ K ?_ ?_
 rintro f w ⟨a5, a3, H1, a4, _⟩
 rw [C4] at a4; cases a4
 rintro k _ _ c0 c1 ⟨a5, a3, b8, a4, Z3, hS, _, a9, a7, b0, a8⟩
 rw [C4] at a4
 refine Z2 (Z2 (Z0 (Z4 (vI a3) (by exact a8) rfl (Z4 (s0) (by exact a7) rfl ?_))))
 have c6 := a9.bound
 refine W7 P6 rfl a9 rfl ?_
 refine V5 (k := .i64) (a := a3) (b := (a0.length : Int)) rfl rfl rfl (Z1 ?_)
 obtain ⟨b4, a4⟩ | ⟨b4, a4⟩ := ic a4
 refine Y0 (bT b4 rfl) (Y8 (Z2 (Y7 (Z2 (Z0 (Z4 (s0) (by exact a7) rfl (Z4 (vI a3) (by exact a8) rfl ?_)))))))
 obtain ⟨_, _, _, _, _, c2, c3, ⟨b9, rfl, b6⟩, c4⟩ := a9.elem (i := a3) (by omega) (by omega)
 refine X9 P6 rfl rfl c2 rfl (by omega) (by omega) rfl (Y2 V9 rfl rfl ?_)
 refine Y3 (b9) Q4 rfl (hS.froz _ _ c3) (c4 0 (show 0 < 1 by decide)) rfl (Z4 (vI a5) (by exact b0) rfl ?_)
 obtain ⟨r4, c5, a4⟩ := bind_some a4
 refine X6 Tryz.call102 (U9 rfl rfl) rfl (Yv3 c5 b6 hS) ?_
 rintro _ H4 _ b7 hS rfl
 have Z3 := Z3.trans b7
 have a9 := a9.mono b7
 refine Z5 (vI r4) rfl rfl (Z1 (Z2 (Z0 (Z4 (vI r4) rfl rfl ?_))))
 refine V5 (k := .i64) (a := r4) (b := 0) rfl rfl rfl (Z1 ?_)
 obtain ⟨b5, a4⟩ | ⟨b5, a4⟩ := ic a4
 refine Y0 (bT b5 rfl) (Z2 (Z0 (Z5 (vI (-1)) rfl rfl (Z1 ?_))))
 refine X0 (vs := [vI (-1)]) Tryz.func34 ⟨rfl, trivial⟩ ?_
 obtain rfl := oi a4
 dsimp only [Ex.elim] at b1
 obtain rfl := oi b1
 exact ⟨_, _, rfl, Z3, hS, rfl⟩
 refine Z8 (bF b5 rfl) (Y8 (X4 (Z0 (Z4 (vI a3) (by exact a8) rfl ?_))))
 refine W8 (a3 + 1) rfl rfl (IntWalk.i64_in _ (by omega)) rfl (Z5 (vI (a3 + 1)) rfl rfl (Z1 ?_))
 exact c0 _ _ ⟨r4, (a3 + 1), H4, a4, Z3, hS, (by omega), a9, a7, rfl, rfl⟩
 refine Z8 (bF b4 rfl) ?_
 refine W0 rfl ?_
 obtain rfl := oi a4
 exact c1 _ _ ⟨a5, b8, rfl, Z3, hS, b0⟩
 exact ⟨a1, 0, H, a4, Z3, hS, (by omega), a9, rfl, rfl, rfl⟩
 rintro _ _ ⟨a6, _, rfl, Z3, hS, b2⟩
 dsimp only [Ex.elim] at b1
 refine Z2 (Z0 (Z4 (vI a6) (by exact b2) rfl (Z5 (vI a6) rfl rfl (Z1 ?_))))
 refine X0 (vs := [vI a6]) Tryz.func34 ⟨rfl, trivial⟩ ?_
 obtain rfl := oi b1
 exact ⟨_, _, rfl, Z3, hS, rfl⟩
def Zx5 (K : Nat) (a0 : (A8 × Int)) : Option (A8 × Int) := ((Zo9 K a0.1).bind fun a1 => some (a1, a0.2))
theorem Xe8 {a0 : (A8 × Int)} {r : (A8 × Int)} (q0 : Zx5 K a0 = some r) (hS : St H w L) :
 Calls Tryz.prog 167 #[vA (Z7 .u8 a0.1 ++ [vI a0.2])] w (T2 (fun v G => (R.agg yT).p (G.new H) v r) H L) := by
 have Z3 := Sub.refl H
 refine X3 Tryz.func167 rfl Tryz.ntmps167 rfl ?_
 unfold Zx5 at q0
 refine Z2 (Z0 ?_)
 refine S3 (v := vA (Z7 .u8 a0.1 ++ [vI a0.2])) (Z7 .u8 a0.1 ++ [vI a0.2]).toArray rfl rfl hS rfl ?_
 intro _ _ hS
 refine W6 (z := vA (Z7 .u8 (fun _ => 0) ++ [vI 0])) (Z7 .u8 (fun _ => 0) ++ [vI 0]).toArray Ya6.zero rfl hS rfl ?_
 intro _ _ hS
 refine Z1 (Z2 (Z0 ?_))
 refine W6 (z := vA (Z7 .u8 (fun _ => 0) ++ [vI 0])) (Z7 .u8 (fun _ => 0) ++ [vI 0]).toArray Ya6.zero rfl hS rfl ?_
 intro _ _ hS
 refine Z1 (Z2 (Z0 (Y2 Wr6 rfl rfl ?_)))
 refine W9 (Z7 .u8 a0.1) Vj1 rfl (hS.get (o := cA (Z7 .u8 a0.1 ++ [vI a0.2]) 199) (mR (mR mL))) rfl (fun j hj => Zm0 ([]) (Z7 .u8 a0.1) (([vI a0.2])) j hj) rfl ?_
 obtain ⟨a1, a3, q0⟩ := bind_some q0
 refine X6 Tryz.call238 (S2 rfl) rfl (Yt7 a3  hS) ?_
 rintro _ _ _ a4 hS ⟨_, rfl, rfl⟩
 have Z3 := Z3.trans a4
 refine Y2 M1 rfl rfl ?_
 refine Zb1 (v := vA (Z7 .u8 a1)) (cs := (Z7 .u8 (fun _ => 0) ++ [vI 0]).toArray) (cs' := (Z7 .u8 a1 ++ [vI 0]).toArray) M2 rfl rfl hS rfl (S4 .u8 a1) (nl rfl) (by have h := Xd0 (Z7 .u8 a1) ([]) (Z7 .u8 (fun _ => 0)) (([vI 0])) rfl; simp only [List.append_assoc, List.nil_append, List.append_nil] at h ⊢; exact h) ?_
 intro _ hS
 refine Z1 (Z2 (Z0 (Y2 Wp3 rfl rfl ?_)))
 refine Y3 (vI a0.2) ty2 rfl (hS.get (mR (mR mL))) rfl rfl (Y2 Ze2 rfl rfl ?_)
 refine Zb1 (v := vI a0.2) (cs := (Z7 .u8 a1 ++ [vI 0]).toArray) (cs' := (Z7 .u8 a1 ++ [vI a0.2]).toArray) ty2 rfl rfl hS rfl (Yb6 rfl) (nl rfl) rfl ?_
 intro _ hS
 refine Z1 (Z2 (Z0 ?_))
 refine X7 Zt9 rfl (hS.get mL) rfl rfl ?_
 have hS := hS.perm V1
 refine X5 (v := vA (Z7 .u8 a1 ++ [vI a0.2])) (vs := (Z7 .u8 a1 ++ [vI a0.2]).toArray) (cs := (Z7 .u8 (fun _ => 0) ++ [vI 0]).toArray) Zt9 rfl rfl rfl hS rfl (R8 (S4 .u8 a1) (U0 rfl)) rfl ?_
 intro _ hS
 have hS := hS.perm V1.symm
 refine Z1 ?_
 refine X0 (vs := [vA (Z7 .u8 a1 ++ [vI a0.2])]) Tryz.func167 ⟨⟨_, rfl, V6 Zt9 (hS.get (mR mL)) rfl⟩, trivial⟩ ?_
 obtain rfl := oi q0
 exact ⟨_, _, rfl, Z3, (St.dropA (St.dropA (St.dropA hS))), ⟨_, rfl, ⟨_, _, rfl, rfl, rfl⟩⟩⟩
def R0 (K : Nat) (a0 : (List MpT)) (a1 : (MpT → Option Bool)) : Option Bool := ((G6 K a0 a1).bind fun r1 => some (decide (0 ≤ r1)))
theorem Zg3 {a0 : (List MpT)} {a1 : (MpT → Option Bool)} {r : Bool} (q0 : R0 K a0 a1 = some r) (a3 : Z9 (Y9 yT) H s0 a0) (a4 : FnQ Tryz.prog s1 (R.agg (Y9 yT)) a1 H) (hS : St H w L) :
 Calls Tryz.prog 123 #[s0, s1] w (T2 (fun v G => R.bool.p G v r) H L) := by
 have Z3 := Sub.refl H
 refine X3 Tryz.func123 rfl Tryz.ntmps123 rfl ?_
 unfold R0 at q0
 refine Z2 (Z0 (Z5 (vB false) rfl rfl (Z1 (Z2 (Z0 (Z4 (s0) rfl rfl (Z4 (s1) rfl rfl ?_)))))))
 obtain ⟨r1, a5, q0⟩ := bind_some q0
 refine X6 Tryz.call214 (U9 rfl rfl) rfl (Zu9 a5 a3 a4 hS) ?_
 rintro _ _ _ a6 hS rfl
 have Z3 := Z3.trans a6
 refine Yg8 (k := .i64) (a := r1) (b := 0) rfl rfl rfl (Z5 (vB (decide (0 ≤ r1))) rfl rfl (Z1 ?_))
 refine X0 (vs := [vB (decide (0 ≤ r1))]) Tryz.func123 ⟨rfl, trivial⟩ ?_
 obtain rfl := oi q0
 exact ⟨_, _, rfl, Z3, hS, rfl⟩
def I1 (K : Nat) (a0 : (List Int)) (a1 : (Int → Option Bool)) : Option Bool := ((K4 K a0 a1).bind fun r1 => some (decide (0 ≤ r1)))
theorem Zy7 {a0 : (List Int)} {a1 : (Int → Option Bool)} {r : Bool} (q0 : I1 K a0 a1 = some r) (a3 : Z9 (Y6 .i64) H s0 a0) (a4 : FnQ Tryz.prog s1 (R.int .i64) a1 H) (hS : St H w L) :
 Calls Tryz.prog 172 #[s0, s1] w (T2 (fun v G => R.bool.p G v r) H L) := by
 have Z3 := Sub.refl H
 refine X3 Tryz.func172 rfl Tryz.ntmps172 rfl ?_
 unfold I1 at q0
 refine Z2 (Z0 (Z5 (vB false) rfl rfl (Z1 (Z2 (Z0 (Z4 (s0) rfl rfl (Z4 (s1) rfl rfl ?_)))))))
 obtain ⟨r1, a5, q0⟩ := bind_some q0
 refine X6 Tryz.call235 (U9 rfl rfl) rfl (Zn7 a5 a3 a4 hS) ?_
 rintro _ _ _ a6 hS rfl
 have Z3 := Z3.trans a6
 refine Yg8 (k := .i64) (a := r1) (b := 0) rfl rfl rfl (Z5 (vB (decide (0 ≤ r1))) rfl rfl (Z1 ?_))
 refine X0 (vs := [vB (decide (0 ≤ r1))]) Tryz.func172 ⟨rfl, trivial⟩ ?_
 obtain rfl := oi q0
 exact ⟨_, _, rfl, Z3, hS, rfl⟩
def Zp2 (K : Nat) (a0 : Int) : Option Bool := ((Zr9 K a0 1 12).bind fun r1 => some (!r1))
theorem Yn2 {a0 : Int} {r : Bool} (q0 : Zp2 K a0 = some r) (hS : St H w L) :
 Calls Tryz.prog 210 #[vI a0] w (T2 (fun v G => R.bool.p G v r) H L) := by
 have Z3 := Sub.refl H
 refine X3 Tryz.func210 rfl Tryz.ntmps210 rfl ?_
 unfold Zp2 at q0
 refine Z2 (Z0 (Z5 (vB false) rfl rfl (Z1 (Z2 (Z0 (Z4 (vI a0) rfl rfl ?_))))))
 obtain ⟨r1, a1, q0⟩ := bind_some q0
 refine X6 Tryz.call81 (G7 rfl rfl rfl) rfl (Ym5 a1  hS) ?_
 rintro _ _ _ a3 hS rfl
 have Z3 := Z3.trans a3
 refine K9 (b := r1) rfl rfl (Z5 (vB (!r1)) rfl rfl (Z1 ?_))
 refine X0 (vs := [vB (!r1)]) Tryz.func210 ⟨rfl, trivial⟩ ?_
 obtain rfl := oi q0
 exact ⟨_, _, rfl, Z3, hS, rfl⟩
end Go.Proofs.YtabofnehiclkiaaGreat
