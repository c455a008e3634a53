/- Walks of functions: each computes its pure function, if that gives a value. -/
import Derived.Test.YtabofnehiclkiaaGreatZF6
import Derived.Test.YtabofnehiclkiaaGreatZF5
import Derived.Test.YtabofnehiclkiaaGreatZF8
import Derived.Test.YtabofnehiclkiaaGreatZF7
namespace Go.Proofs.YtabofnehiclkiaaGreat
open Go Go.Proofs.Tryz
set_option linter.unusedSimpArgs false
set_option linter.unusedVariables false
set_option maxRecDepth 100000
set_option maxHeartbeats 8000000
variable {K : Nat} {H : FH} {w : World} {L : OL} {s0 s1 s2 s3 s4 s5 s6 : Value}
def Zm1 (K : Nat) (h1 : Int → Option (Ex Bool (Unit))) (a1 : MpT) (a3 : Int) (b2 : Bool) : Option (Ex Bool (Unit)) := (if b2 = true then some (.ret false) else (if 0 < a3 then (if 0 ≤ (IntKind.i64.wrap (a3 - 1)) then (if (IntKind.i64.wrap (a3 - 1)) < (a1.length : Int) then ((Zd4 K ((rd a1 (IntKind.i64.wrap (a3 - 1))).1)).bind fun d9 => ((Zd4 K ((rd a1 a3).1)).bind fun e0 => ((D0 K d9 e0).bind fun b3 => (if 0 ≤ b3 then some (.ret false) else h1 (a3 + 1))))) else none) else none) else h1 (a3 + 1)))
def M5 (K : Nat) (a0 : (List Int)) (a1 : MpT) : Nat → Int → Option (Ex Bool (Unit))
 | 0, _ => none
 | k + 1, a3 => (if a3 < (a1.length : Int) then ((Zk0 K a0 ((rd a1 a3).1)).bind fun c9 => (if c9 = true then ((Zv1 K ((rd a1 a3).2)).bind fun c1 => Zm1 K (M5 K a0 a1 k) a1 a3 (!c1)) else Zm1 K (M5 K a0 a1 k) a1 a3 true)) else some (.go ()))
def Zo0 (K : Nat) (a0 : (List Int)) (a1 : MpT) : Option Bool := (if 400 < (a1.length : Int) then some false else ((M5 K a0 a1 K 0).bind (Ex.elim (fun r => some r) (fun s => some true))))
theorem Ya7 {a0 : (List Int)} {a1 : MpT} {r : Bool} (q0 : Zo0 K a0 a1 = some r) (a9 : Y3 (Y5 .i64) H s0 a0) (a7 : Y3 yT H s1 a1) (hS : St H w L) :
 Calls prog 121 #[s0, vA ([s1])] w (U7 (fun v G => R.bool.p G v r) H L) := by
 have Z4 := Sub.refl H
 refine X0 func121 rfl ntmps121 rfl ?_
 unfold Zo0 at q0
 refine Z1 (Z0 ?_)
 refine T7 (v := vA ([s1])) ([s1]).toArray rfl rfl hS rfl ?_
 intro b1 _ hS
 refine Z5 (vB false) rfl rfl (Z2 (Z1 (Z1 (Z0 (Y2 U3 rfl rfl ?_)))))
 refine Y0 (s1) Q7 rfl (hS.get mL) rfl rfl ?_
 have i4 := a7.bound
 refine X9 R9 rfl a7 rfl ?_
 refine Za9 (k := .i64) (a := (a1.length : Int)) (b := 400) rfl rfl rfl (Z2 ?_)
 obtain ⟨e8, q0⟩ | ⟨e8, q0⟩ := ic q0
 refine Z8 (bT e8 rfl) (Z1 (Z0 (Z5 (vB false) rfl rfl (Z2 ?_))))
 refine Y9 (vs := [vB false]) func121 ⟨rfl, trivial⟩ ?_
 obtain rfl := oi q0
 exact ⟨_, _, rfl, Z4, (St.dropA hS), rfl⟩
 refine Z7 (bF e8 rfl) (Y6 (Z1 (Z1 (Z0 (Y2 U3 rfl rfl ?_)))))
 refine Y0 (s1) Q7 rfl (hS.get mL) rfl rfl ?_
 have i5 := a7.bound
 refine X9 R9 rfl a7 rfl (Z3 (vI 0) rfl rfl (Z2 (Y8 ?_)))
 obtain ⟨e1, a6, b8⟩ := bind_some q0
 refine W0 (id := 0) (fun k f w => ∃ (a3 : Int) (H1 : FH), M5 K a0 a1 k a3 = some e1 ∧ Sub H H1 ∧ St H1 w ([(b1, cA ([s1]) 45)] ++ L) ∧ 0 ≤ a3 ∧ Y3 (Y5 .i64) H1 s0 a0 ∧ Y3 yT H1 s1 a1 ∧ tv f 0 = s0 ∧ tv f 3 = vP b1 ∧ tv f 12 = s1 ∧ tv f 13 = vI (a1.length : Int) ∧ tv f 14 = vI a3) (fun f w => ∃ (H1 : FH), e1 = .go () ∧ Sub H H1 ∧ St H1 w ([(b1, cA ([s1]) 45)] ++ L) ∧ Y3 yT H1 s1 a1) rfl ?_ ?_ K ?_ ?_
 rintro f w ⟨a3, H1, a6, _⟩
 rw [M5] at a6; cases a6
 rintro k _ _ h2 i0 ⟨a3, h4, a6, Z4, hS, _, a9, a7, c0, c4, b4, b5, b0⟩
 rw [M5] at a6
 refine Z1 (Z0 ?_)
 refine W8 (k := .i64) (a := a3) (b := (a1.length : Int)) (by exact b0) (by exact b5) rfl (Z2 (Z1 ?_))
 obtain ⟨e9, a6⟩ | ⟨e9, a6⟩ := ic a6
 refine Z8 (bT e9 rfl) (Y6 (Z1 (Y8 (Z1 (Z0 (Z3 (vI a3) (by exact b0) rfl ?_))))))
 obtain ⟨_, _, _, _, _, i1, i2, ⟨_, _, rfl, rfl, rfl⟩, i3⟩ := a7.elem (i := a3) (by omega) (by omega)
 refine X5 R9 rfl (by exact b4) i1 (by exact b0) (by omega) (by omega) rfl ?_
 refine V0 (Z6 .u8 ((rd a1 a3).1) ++ [vI ((rd a1 a3).2)]) Zy7 rfl (hS.froz _ _ i2) rfl i3 rfl ?_
 refine U4 (z := vA (Z6 .u8 (fun _ => 0) ++ [vI 0])) (Z6 .u8 (fun _ => 0) ++ [vI 0]).toArray Ye6.zero rfl hS rfl ?_
 intro b9 _ hS
 refine Z5 (vI a3) rfl rfl ?_
 refine W4 (v := vA (Z6 .u8 ((rd a1 a3).1) ++ [vI ((rd a1 a3).2)])) (vs := (Z6 .u8 ((rd a1 a3).1) ++ [vI ((rd a1 a3).2)]).toArray) (cs := (Z6 .u8 (fun _ => 0) ++ [vI 0]).toArray) Zy7 rfl rfl rfl hS rfl (Yf3 (S8 .u8 ((rd a1 a3).1)) (Zb5 rfl)) rfl ?_
 intro _ hS
 refine Z2 (Z1 (Z1 ?_))
 refine N4 (fun f w => ∃ (b2 : Bool) (H1 : FH), Zm1 K (M5 K a0 a1 k) a1 a3 b2 = some e1 ∧ Sub H H1 ∧ St H1 w ([(b9, cA (Z6 .u8 ((rd a1 a3).1) ++ [vI ((rd a1 a3).2)]) 78)] ++ ([(b1, cA ([s1]) 45)] ++ L)) ∧ Y3 (Y5 .i64) H1 s0 a0 ∧ Y3 yT H1 s1 a1 ∧ tv f 0 = s0 ∧ tv f 3 = vP b1 ∧ tv f 5 = vI a3 ∧ tv f 6 = vP b9 ∧ tv f 12 = s1 ∧ tv f 13 = vI (a1.length : Int) ∧ tv f 14 = vI a3 ∧ tv f 29 = vB b2) ?_ ?_
 rintro _ _ ⟨b2, _, a4, Z4, hS, a9, a7, d8, c2, c3, f0, c5, c6, c7, c8⟩
 unfold Zm1 at a4
 obtain ⟨e2, a4⟩ | ⟨e2, a4⟩ := ic a4
 refine Z8 (Eq.trans (by exact c8) (congrArg vB e2)) (Z1 (Z0 (Z5 (vB false) rfl rfl (Z2 ?_))))
 refine Y9 (vs := [vB false]) func121 ⟨rfl, trivial⟩ ?_
 obtain rfl := oi a4
 dsimp only [Ex.elim] at b8
 obtain rfl := oi b8
 exact ⟨_, _, rfl, Z4, (St.dropA (St.dropA hS)), rfl⟩
 refine Z7 (Eq.trans (by exact c8) (congrArg vB (W1 e2))) (Y6 (Z1 ?_))
 obtain ⟨a5, a4⟩ | ⟨a5, a4⟩ := ic a4
 obtain ⟨_, a4⟩ := gd a4
 obtain ⟨_, a4⟩ := gd a4
 obtain ⟨f1, f2, _, _, _, f8, d0, ⟨_, _, rfl, rfl, rfl⟩, f9⟩ := a7.elem (i := (IntKind.i64.wrap (a3 - 1))) (by omega) (by omega)
 obtain ⟨d9, g0, a4⟩ := bind_some a4
 obtain ⟨e0, g1, a4⟩ := bind_some a4
 obtain ⟨b3, g2, a4⟩ := bind_some a4
 refine W7 17 (S9 [mE 30 (vI a3), mE 31 (vB (decide (0 < a3))), mE 32 (vB (decide (0 < a3))), mE 33 (vP b1), mE 34 (s1), mE 35 (vI a3), mE 36 (vI (IntKind.i64.wrap (a3 - 1))), mE 37 (vQ f1 f2), mE 38 (vQ f1 (f2 + 0)), mE 39 (vA (Z6 .u8 ((rd a1 (IntKind.i64.wrap (a3 - 1))).1))), mE 40 (vA (Z6 .i64 d9)), mE 41 (vP b9), mE 42 (vA (Z6 .u8 ((rd a1 a3).1))), mE 43 (vA (Z6 .i64 e0)), mE 44 (vI b3), mE 45 (vB (decide (0 ≤ b3))), mE 46 (vB (decide (0 ≤ b3)))]) [] mixed rfl rfl rfl hS (V9 ?_ ?_ ?_ ?_ ?_ ?_ ?_ ?_ (V9 ?_ ?_ ?_ ?_ ?_ ?_ ?_ ?_ (E8 ?_ V1))) ?_
 exact X4 fun S B => Z3 (vI a3) (evT (B 5 rfl) c3) rfl (qz S)
 exact Y7 fun S V => Za9 (k := .i64) (a := a3) (b := 0) (eM (V 0 30 rfl rfl)) rfl rfl (qz S)
 exact Y7 fun S V => Z3 (vB (decide (0 < a3))) (eM (V 1 31 rfl rfl)) rfl (qz S)
 exact L3 fun S B V => Y1 rfl rfl (bT a5 (eM (V 2 32 rfl rfl))) (Y2 U3 (evT (B 3 rfl) c2) rfl (qz S))
 intro _ _ _ _ _ hS _ f3 hcq
 refine Y1 rfl rfl (bT a5 (eM (f3 2 32 rfl rfl))) ?_
 refine Y0 (s1) Q7 (eM (f3 3 33 rfl rfl)) (hS.get (mR (mR mL))) rfl rfl ?_
 exact qn (.refl _) rfl hS rfl
 exact L3 fun S B V => Y1 rfl rfl (bT a5 (eM (V 2 32 rfl rfl))) (Z3 (vI a3) (evT (B 5 rfl) c3) rfl (qz S))
 intro _ _ _ _ _ hS _ f4 hcq
 refine Y1 rfl rfl (bT a5 (eM (f4 2 32 rfl rfl))) ?_
 refine Zk8 (IntKind.i64.wrap (a3 - 1)) (eM (f4 5 35 rfl rfl)) rfl rfl rfl ?_
 exact qn (.refl _) rfl hS rfl
 intro _ _ _ _ _ hS _ d1 hcq
 refine Y1 rfl rfl (bT a5 (eM (d1 2 32 rfl rfl))) ?_
 refine X5 R9 rfl (eM (d1 4 34 rfl rfl)) f8 (eM (d1 6 36 rfl rfl)) (by omega) (by omega) rfl ?_
 exact qn (.refl _) rfl hS rfl
 exact Y7 fun S V => Y1 rfl rfl (bT a5 (eM (V 2 32 rfl rfl))) (Y2 M9 (eM (V 7 37 rfl rfl)) rfl (qz S))
 intro _ _ _ _ g3 hS _ e3 hcq
 have d0 := g3.1 _ _ d0
 refine Y1 rfl rfl (bT a5 (eM (e3 2 32 rfl rfl))) ?_
 refine V0 (Z6 .u8 ((rd a1 (IntKind.i64.wrap (a3 - 1))).1)) P5 (eM (e3 8 38 rfl rfl)) (hS.froz _ _ d0) rfl (Zd6 ([]) (Z6 .u8 ((rd a1 (IntKind.i64.wrap (a3 - 1))).1)) (([vI ((rd a1 (IntKind.i64.wrap (a3 - 1))).2)])) f9 (nl rfl)) rfl ?_
 exact qn (.refl _) rfl hS rfl
 intro _ _ _ _ _ hS _ e4 hcq
 refine Y1 rfl rfl (bT a5 (eM (e4 2 32 rfl rfl))) ?_
 refine X3 call192 (R3 (eM (e4 9 39 rfl rfl))) rfl (Zq4 g0  hS) ?_
 rintro _ _ _ g4 hS ⟨_, rfl, rfl⟩
 exact qn g4 rfl hS rfl
 exact L3 fun S B V => Y1 rfl rfl (bT a5 (eM (V 2 32 rfl rfl))) (Y2 M9 (evT (B 6 rfl) f0) rfl (qz S))
 intro _ _ _ _ _ hS _ e5 hcq
 refine Y1 rfl rfl (bT a5 (eM (e5 2 32 rfl rfl))) ?_
 refine V0 (Z6 .u8 ((rd a1 a3).1)) P5 (eM (e5 11 41 rfl rfl)) (hS.get (o := cA (Z6 .u8 ((rd a1 a3).1) ++ [vI ((rd a1 a3).2)]) 78) (mR mL)) rfl (fun j hj => Zl3 ([]) (Z6 .u8 ((rd a1 a3).1)) (([vI ((rd a1 a3).2)])) j hj) rfl ?_
 exact qn (.refl _) rfl hS rfl
 intro _ _ _ _ _ hS _ e6 hcq
 refine Y1 rfl rfl (bT a5 (eM (e6 2 32 rfl rfl))) ?_
 refine X3 call192 (R3 (eM (e6 12 42 rfl rfl))) rfl (Zq4 g1  hS) ?_
 rintro _ _ _ g5 hS ⟨_, rfl, rfl⟩
 exact qn g5 rfl hS rfl
 intro _ _ _ _ _ hS _ d2 hcq
 refine Y1 rfl rfl (bT a5 (eM (d2 2 32 rfl rfl))) ?_
 refine X3 call213 (V2 (eM (d2 10 40 rfl rfl)) (eM (d2 13 43 rfl rfl))) rfl (Zy5 g2  hS) ?_
 rintro _ _ _ g6 hS rfl
 exact qn g6 rfl hS rfl
 intro _ _ _ _ _ hS _ e7 hcq
 refine Y1 rfl rfl (bT a5 (eM (e7 2 32 rfl rfl))) ?_
 refine Ya0 (k := .i64) (a := b3) (b := 0) (eM (e7 14 44 rfl rfl)) rfl rfl ?_
 exact qn (.refl _) rfl hS rfl
 exact Y7 fun S V => W6 (t := true) (vB (decide (0 ≤ b3))) (bT a5 (eM (V 2 32 rfl rfl))) ((if_pos rfl).trans (eM (V 15 45 rfl rfl))) rfl (qz S)
 intro h5 h6 f5 d3 hS b6 g7 hcq
 have hS : St f5 h6 ([(b9, cA (Z6 .u8 ((rd a1 a3).1) ++ [vI ((rd a1 a3).2)]) 78)] ++ ([(b1, cA ([s1]) 45)] ++ L)) := hS
 have Z4 := Z4.trans d3
 have a9 := a9.mono d3
 have a7 := a7.mono d3
 have f6 : tv h5 46 = vB (decide (0 ≤ b3)) := g7 16 46 (by decide) rfl
 refine Z2 ?_
 obtain ⟨d4, a4⟩ | ⟨d4, a4⟩ := ic a4
 refine Z8 (bT d4 (by exact f6)) (Z1 (Z0 (Z5 (vB false) rfl rfl (Z2 ?_))))
 refine Y9 (vs := [vB false]) func121 ⟨rfl, trivial⟩ ?_
 obtain rfl := oi a4
 dsimp only [Ex.elim] at b8
 obtain rfl := oi b8
 exact ⟨_, _, rfl, Z4, (St.dropA (St.dropA hS)), rfl⟩
 refine Z7 (bF d4 (by exact f6)) (Y6 (X1 (Z0 ?_)))
 refine W2 (a3 + 1) (by exact (evT (b6 14 rfl) c7)) rfl (IntWalk.i64_in _ (by omega)) rfl (Z3 (vI (a3 + 1)) rfl rfl (Z2 ?_))
 have hS := St.dropA hS
 exact h2 _ _ ⟨(a3 + 1), f5, a4, Z4, hS, (by omega), a9, a7, (evT (b6 0 rfl) d8), (evT (b6 3 rfl) c2), (evT (b6 12 rfl) c5), (evT (b6 13 rfl) c6), rfl⟩
 refine W7 17 (S9 [mE 30 (vI a3), mE 31 (vB (decide (0 < a3))), mE 32 (vB (decide (0 < a3))), mE 33 (undef), mE 34 (undef), mE 35 (undef), mE 36 (undef), mE 37 (undef), mE 38 (undef), mE 39 (undef), mE 40 (undef), mE 41 (undef), mE 42 (undef), mE 43 (undef), mE 44 (undef), mE 45 (undef), mE 46 (vB false)]) [] mixed rfl rfl rfl hS (V9 ?_ ?_ ?_ ?_ ?_ ?_ ?_ ?_ (V9 ?_ ?_ ?_ ?_ ?_ ?_ ?_ ?_ (E8 ?_ V1))) ?_
 exact X4 fun S B => Z3 (vI a3) (evT (B 5 rfl) c3) rfl (qz S)
 exact Y7 fun S V => Za9 (k := .i64) (a := a3) (b := 0) (eM (V 0 30 rfl rfl)) rfl rfl (qz S)
 exact Y7 fun S V => Z3 (vB (decide (0 < a3))) (eM (V 1 31 rfl rfl)) rfl (qz S)
 exact Y7 fun S V => Z9 rfl rfl (bF a5 (eM (V 2 32 rfl rfl))) rfl rfl rfl (qz S)
 exact Y7 fun S V => Z9 rfl rfl (bF a5 (eM (V 2 32 rfl rfl))) rfl rfl rfl (qz S)
 exact Y7 fun S V => Z9 rfl rfl (bF a5 (eM (V 2 32 rfl rfl))) rfl rfl rfl (qz S)
 exact Y7 fun S V => Z9 rfl rfl (bF a5 (eM (V 2 32 rfl rfl))) rfl rfl rfl (qz S)
 exact Y7 fun S V => Z9 rfl rfl (bF a5 (eM (V 2 32 rfl rfl))) rfl rfl rfl (qz S)
 exact Y7 fun S V => Z9 rfl rfl (bF a5 (eM (V 2 32 rfl rfl))) rfl rfl rfl (qz S)
 exact Y7 fun S V => Z9 rfl rfl (bF a5 (eM (V 2 32 rfl rfl))) rfl rfl rfl (qz S)
 exact Y7 fun S V => Z9 rfl rfl (bF a5 (eM (V 2 32 rfl rfl))) rfl rfl rfl (qz S)
 exact Y7 fun S V => Z9 rfl rfl (bF a5 (eM (V 2 32 rfl rfl))) rfl rfl rfl (qz S)
 exact Y7 fun S V => Z9 rfl rfl (bF a5 (eM (V 2 32 rfl rfl))) rfl rfl rfl (qz S)
 exact Y7 fun S V => Z9 rfl rfl (bF a5 (eM (V 2 32 rfl rfl))) rfl rfl rfl (qz S)
 exact Y7 fun S V => Z9 rfl rfl (bF a5 (eM (V 2 32 rfl rfl))) rfl rfl rfl (qz S)
 exact Y7 fun S V => Z9 rfl rfl (bF a5 (eM (V 2 32 rfl rfl))) rfl rfl rfl (qz S)
 exact Y7 fun S V => W6 (t := false) (vB false) (bF a5 (eM (V 2 32 rfl rfl))) ((if_neg Bool.false_ne_true).trans rfl) rfl (qz S)
 intro _ h7 f7 d5 hS b7 g8 hcq
 have hS : St f7 h7 ([(b9, cA (Z6 .u8 ((rd a1 a3).1) ++ [vI ((rd a1 a3).2)]) 78)] ++ ([(b1, cA ([s1]) 45)] ++ L)) := hS
 have Z4 := Z4.trans d5
 have a9 := a9.mono d5
 have a7 := a7.mono d5
 refine Z2 (Z7 (by exact (eM (g8 16 46 (by decide) rfl))) (Y6 (X1 (Z0 ?_))))
 refine W2 (a3 + 1) (by exact (evT (b7 14 rfl) c7)) rfl (IntWalk.i64_in _ (by omega)) rfl (Z3 (vI (a3 + 1)) rfl rfl (Z2 ?_))
 have hS := St.dropA hS
 exact h2 _ _ ⟨(a3 + 1), f7, a4, Z4, hS, (by omega), a9, a7, (evT (b7 0 rfl) d8), (evT (b7 3 rfl) c2), (evT (b7 12 rfl) c5), (evT (b7 13 rfl) c6), rfl⟩
 intro h3
 refine Z0 (Z3 (s0) (by exact c0) rfl (Y2 M9 rfl rfl ?_))
 refine V0 (Z6 .u8 ((rd a1 a3).1)) P5 rfl (hS.get (o := cA (Z6 .u8 ((rd a1 a3).1) ++ [vI ((rd a1 a3).2)]) 78) mL) rfl (fun j hj => Zl3 ([]) (Z6 .u8 ((rd a1 a3).1)) (([vI ((rd a1 a3).2)])) j hj) rfl ?_
 obtain ⟨c9, g9, a6⟩ := bind_some a6
 refine X3 call211 (V2 rfl rfl) rfl (Yq5 g9 a9 hS) ?_
 rintro _ h8 _ d6 hS rfl
 have Z4 := Z4.trans d6
 have a9 := a9.mono d6
 have a7 := a7.mono d6
 refine N8 (b := c9) rfl rfl (Z3 (vB (!c9)) rfl rfl ?_)
 obtain ⟨a8, a6⟩ | ⟨a8, a6⟩ := ic a6
 refine Y1 rfl rfl (nT a8) (Y2 Ze3 rfl rfl ?_)
 refine Y1 rfl rfl (nT a8) ?_
 refine Y0 (vI ((rd a1 a3).2)) ty2 rfl (hS.get mL) rfl rfl ?_
 obtain ⟨c1, h0, a6⟩ := bind_some a6
 refine Y1 rfl rfl (nT a8) ?_
 refine X3 call212 (R3 rfl) rfl (Yv1 h0  hS) ?_
 rintro _ h9 _ d7 hS rfl
 have Z4 := Z4.trans d7
 have a9 := a9.mono d7
 have a7 := a7.mono d7
 refine Y1 rfl rfl (nT a8) (N8 (b := c1) rfl rfl ?_)
 refine W6 (t := false) (vB (!c1)) (nT a8) ((if_neg Bool.false_ne_true).trans rfl) rfl (Z2 ?_)
 exact h3 _ _ ⟨(!c1), h9, a6, Z4, hS, a9, a7, c0, c4, rfl, rfl, b4, b5, b0, rfl⟩
 refine Z9 rfl rfl (nT (W1 a8)) rfl rfl rfl (Z9 rfl rfl (nT (W1 a8)) rfl rfl rfl (Z9 rfl rfl (nT (W1 a8)) rfl rfl rfl (Z9 rfl rfl (nT (W1 a8)) rfl rfl rfl ?_)))
 refine W6 (t := true) (vB true) (nT (W1 a8)) ((if_pos rfl).trans rfl) rfl (Z2 ?_)
 exact h3 _ _ ⟨true, h8, a6, Z4, hS, a9, a7, c0, c4, rfl, rfl, b4, b5, b0, rfl⟩
 refine Z7 (bF e9 rfl) ?_
 refine X7 rfl ?_
 obtain rfl := oi a6
 exact i0 _ _ ⟨h4, rfl, Z4, hS, a7⟩
 exact ⟨0, H, a6, Z4, hS, (by omega), a9, a7, rfl, rfl, rfl, rfl, rfl⟩
 rintro _ _ ⟨_, rfl, Z4, hS, a7⟩
 dsimp only [Ex.elim] at b8
 refine Z1 (Z0 (Z5 (vB true) rfl rfl (Z2 ?_)))
 refine Y9 (vs := [vB true]) func121 ⟨rfl, trivial⟩ ?_
 obtain rfl := oi b8
 exact ⟨_, _, rfl, Z4, (St.dropA hS), rfl⟩
def E6 (K : Nat) (a0 : (List Int)) (a1 : MpT) (a2 : MpT) : Nat → Int → MpT → Option (Ex MpT (MpT))
 | 0, _, _ => none
 | k + 1, a4, a5 => (if a4 < (a1.length : Int) then ((Zo3 K a0 ((rd a1 a4).1, (rd a1 a4).2) a2).bind fun d1 => ((Zo1 K a5 d1 1).bind fun c8 => E6 K a0 a1 a2 k (a4 + 1) c8)) else some (.go a5))
def Zi5 (K : Nat) (a0 : (List Int)) (a1 : MpT) (a2 : MpT) : Option MpT := ((E6 K a0 a1 a2 K 0 ([] : List (A8 × Int))).bind (Ex.elim (fun r => some r) (fun s => (fun (a8 : MpT) => some a8) s)))
theorem Yg7 {a0 : (List Int)} {a1 : MpT} {a2 : MpT} {r : MpT} (q0 : Zi5 K a0 a1 a2 = some r) (c0 : Y3 (Y5 .i64) H s0 a0) (b2 : Y3 yT H s1 a1) (b3 : Y3 yT H s2 a2) (hS : St H w L) :
 Calls prog 197 #[s0, vA ([s1]), vA ([s2])] w (U7 (fun v G => (R.agg (X2 yT)).p G v r) H L) := by
 have Z4 := Sub.refl H
 refine X0 func197 rfl ntmps197 rfl ?_
 unfold Zi5 at q0
 refine Z1 (Z0 ?_)
 refine T7 (v := vA ([s1])) ([s1]).toArray rfl rfl hS rfl ?_
 intro b1 _ hS
 refine T7 (v := vA ([s2])) ([s2]).toArray rfl rfl hS rfl ?_
 intro b4 _ hS
 refine U4 (z := vA ([vN])) ([vN]).toArray Zl9.zero rfl hS rfl ?_
 intro b7 _ hS
 refine Z2 (Z1 (Z0 ?_))
 refine B5 (vA ([vN])) Yr1 rfl ?_
 refine U4 (z := vA ([vN])) ([vN]).toArray Zl9.zero rfl hS rfl ?_
 intro d0 _ hS
 refine W4 (v := vA ([vN])) (vs := ([vN]).toArray) (cs := ([vN]).toArray) Q4 rfl rfl rfl hS rfl (Zb5 rfl) rfl ?_
 intro _ hS
 refine Z2 (Z1 (Z1 (Z0 (Z5 (vI 0) rfl rfl (Z2 (Y8 ?_))))))
 have d7 : Y3 yT H (.slice none 0 0) ([] : List (A8 × Int)) := Y3.nil
 obtain ⟨d8, a7, d9⟩ := bind_some q0
 refine W0 (id := 0) (fun k f w => ∃ (a4 : Int) (a5 : MpT) (H1 : FH) (a3 : Value), E6 K a0 a1 a2 k a4 a5 = some d8 ∧ Sub H H1 ∧ St H1 w ([(d0, cA ([a3]) 45)] ++ ([(b7, cA ([vN]) 45)] ++ ([(b4, cA ([s2]) 45)] ++ ([(b1, cA ([s1]) 45)] ++ L)))) ∧ 0 ≤ a4 ∧ Y3 yT H1 a3 a5 ∧ Y3 (Y5 .i64) H1 s0 a0 ∧ Y3 yT H1 s1 a1 ∧ Y3 yT H1 s2 a2 ∧ tv f 0 = s0 ∧ tv f 4 = vP b1 ∧ tv f 5 = vP b4 ∧ tv f 6 = vP b7 ∧ tv f 7 = vP d0 ∧ tv f 8 = vI a4) (fun f w => ∃ (a8 : MpT) (H1 : FH) (a6 : Value), d8 = .go a8 ∧ Sub H H1 ∧ St H1 w ([(d0, cA ([a6]) 45)] ++ ([(b7, cA ([vN]) 45)] ++ ([(b4, cA ([s2]) 45)] ++ ([(b1, cA ([s1]) 45)] ++ L)))) ∧ Y3 yT H1 a6 a8 ∧ Y3 yT H1 s1 a1 ∧ Y3 yT H1 s2 a2 ∧ tv f 6 = vP b7 ∧ tv f 7 = vP d0) rfl ?_ ?_ K ?_ ?_
 rintro f w ⟨a4, a5, H1, a3, a7, _⟩
 rw [E6] at a7; cases a7
 rintro k _ _ f7 f8 ⟨a4, a5, f0, a3, a7, Z4, hS, _, a9, c0, b2, b3, c3, b6, c4, c5, b8, b9⟩
 rw [E6] at a7
 refine Z1 (Z1 (Z0 (Z3 (vI a4) (by exact b9) rfl (Y2 U3 (by exact b6) rfl ?_))))
 refine Y0 (s1) Q7 rfl (hS.get (mR (mR (mR mL)))) rfl rfl ?_
 have g1 := b2.bound
 refine X9 R9 rfl b2 rfl ?_
 refine W8 (k := .i64) (a := a4) (b := (a1.length : Int)) rfl rfl rfl (Z2 ?_)
 obtain ⟨d2, a7⟩ | ⟨d2, a7⟩ := ic a7
 refine Z8 (bT d2 rfl) (Y6 (Z1 (Y8 ?_)))
 obtain ⟨f9, g0, _, _, _, f1, f2, ⟨_, _, rfl, rfl, rfl⟩, f3⟩ := b2.elem (i := a4) (by omega) (by omega)
 obtain ⟨d1, e3, a7⟩ := bind_some a7
 obtain ⟨c8, e4, a7⟩ := bind_some a7
 refine W7 10 (S9 [mE 17 (vA ([a3])), mE 18 (s0), mE 19 (vP b1), mE 20 (s1), mE 21 (vI a4), mE 22 (vQ f9 g0), mE 23 (vA (Z6 .u8 ((rd a1 a4).1) ++ [vI ((rd a1 a4).2)])), mE 24 (vA ([s2])), (25, MP.rep (R.agg (X2 yT)) (d1)), (26, MP.rep (R.agg (X2 yT)) (c8))]) [] mixed rfl rfl rfl hS (V9 ?_ ?_ ?_ ?_ ?_ ?_ ?_ ?_ (J2 ?_ ?_ V1)) ?_
 exact X4 fun S B => W3 Q4 (evT (B 7 rfl) b8) (S.get (mR mL)) rfl rfl (qz S)
 exact X4 fun S B => Z3 (s0) (evT (B 0 rfl) c3) rfl (qz S)
 exact X4 fun S B => Y2 U3 (evT (B 4 rfl) b6) rfl (qz S)
 exact Y7 fun S V => Y0 (s1) Q7 (eM (V 2 19 rfl rfl)) (S.get (mR (mR (mR (mR mL))))) rfl rfl (qz S)
 exact X4 fun S B => Z3 (vI a4) (evT (B 8 rfl) b9) rfl (qz S)
 exact Y7 fun S V => X5 R9 rfl (eM (V 3 20 rfl rfl)) f1 (eM (V 4 21 rfl rfl)) (by omega) (by omega) rfl (qz S)
 exact P0 fun s S V => V0 (Z6 .u8 ((rd a1 a4).1) ++ [vI ((rd a1 a4).2)]) Zy7 (eM (V 5 22 rfl rfl)) (S.froz _ _ (s.1 _ _ f2)) rfl f3 rfl (qz S)
 exact X4 fun S B => W3 Q4 (evT (B 5 rfl) c4) (S.get (mR (mR (mR mL)))) rfl rfl (qz S)
 intro _ _ _ _ e0 hS _ d3 hcq
 have c0 := c0.mono e0
 have b3 := b3.mono e0
 refine X3 call258 (D8 (eM (d3 1 18 rfl rfl)) (eM (d3 6 23 rfl rfl)) (eM (d3 7 24 rfl rfl))) rfl (Yw0 e3 c0 b3 hS) ?_
 rintro _ _ _ e5 hS e6
 exact qn e5 rfl hS e6
 intro _ _ _ _ e7 hS _ d4 hcq
 have a9 := a9.mono e7
 obtain ⟨_, f4, ⟨_, rfl, ⟨_, rfl, d5⟩⟩⟩ := gvR (d4 8 25 rfl rfl)
 refine X3 call196 (D8 (eM (d4 0 17 rfl rfl)) f4 rfl) rfl (Yj2 e4 a9 d5 hS) ?_
 rintro _ _ _ e8 hS c9
 have c9 := ((R.agg (X2 yT))).mono (Yi2 _ _) c9
 exact qn e8 rfl hS c9
 intro _ f5 e1 c1 hS b0 e9 hcq
 have hS : St e1 f5 ([(d0, cA ([a3]) 45)] ++ ([(b7, cA ([vN]) 45)] ++ ([(b4, cA ([s2]) 45)] ++ ([(b1, cA ([s1]) 45)] ++ L)))) := hS
 have Z4 := Z4.trans c1
 have c0 := c0.mono c1
 have b2 := b2.mono c1
 have b3 := b3.mono c1
 have e2 := evT (b0 7 rfl) b8
 obtain ⟨_, f6, ⟨_, rfl, ⟨c2, rfl, c6⟩⟩⟩ := gvR (e9 9 26 (by decide) rfl)
 refine W4 (v := vA ([c2])) (vs := ([c2]).toArray) (cs := ([a3]).toArray) Q4 (by exact e2) (by exact f6) rfl hS rfl (Zb5 c6.isOne) rfl ?_
 intro _ hS
 refine Z2 (X1 (Z0 (Z3 (vI a4) (by exact (evT (b0 8 rfl) b9)) rfl ?_)))
 refine W2 (a4 + 1) rfl rfl (IntWalk.i64_in _ (by omega)) rfl (Z5 (vI (a4 + 1)) rfl rfl (Z2 ?_))
 exact f7 _ _ ⟨(a4 + 1), c8, e1, c2, a7, Z4, hS, (by omega), c6, c0, b2, b3, (evT (b0 0 rfl) c3), (evT (b0 4 rfl) b6), (evT (b0 5 rfl) c4), (evT (b0 6 rfl) c5), e2, rfl⟩
 refine Z7 (bF d2 rfl) ?_
 refine X7 rfl ?_
 obtain rfl := oi a7
 exact f8 _ _ ⟨a5, f0, a3, rfl, Z4, hS, a9, b2, b3, c5, b8⟩
 exact ⟨0, ([] : List (A8 × Int)), H, (vN), a7, Z4, hS, (by omega), d7, c0, b2, b3, rfl, rfl, rfl, rfl, rfl, rfl⟩
 rintro _ _ ⟨a8, _, a6, rfl, Z4, hS, b5, b2, b3, c7, d6⟩
 dsimp only [Ex.elim] at d9
 refine Z1 (Z0 ?_)
 refine W3 Q4 (by exact d6) (hS.get mL) rfl rfl ?_
 have hS := hS.perm R6
 refine W4 (v := vA ([a6])) (vs := ([a6]).toArray) (cs := ([vN]).toArray) Q4 (by exact c7) rfl rfl hS rfl (Zb5 b5.isOne) rfl ?_
 intro _ hS
 have hS := hS.perm R6.symm
 refine Z2 ?_
 refine Y9 (vs := [vA ([a6])]) func197 ⟨⟨_, (by exact c7), P1 Q4 (hS.get (mR mL)) rfl⟩, trivial⟩ ?_
 obtain rfl := oi d9
 exact ⟨_, _, rfl, Z4, (St.dropA (St.dropA (St.dropA (St.dropA hS)))), ⟨_, rfl, ⟨_, rfl, b5⟩⟩⟩
def N7 (K : Nat) (a0 : ((List Int) × (List MpT))) : Nat → Int → M8 → Option (Ex M8 (M8))
 | 0, _, _ => none
 | k + 1, a1, a5 => (if a1 < (a0.2.length : Int) then ((Zr3 K (rd a0.2 a1)).bind fun c7 => (if a1 < 8 then N7 K a0 k (a1 + 1) (Xj4 a5 a1 c7) else none)) else some (.go a5))
def Zd8 (K : Nat) (a0 : ((List Int) × (List MpT))) : Option M8 := ((N7 K a0 K 0 (fun _ => ([] : MpT))).bind (Ex.elim (fun r => some r) (fun s => (fun (a9 : M8) => some a9) s)))
theorem Yi7 {a0 : ((List Int) × (List MpT))} {r : M8} (q0 : Zd8 K a0 = some r) (e2 : Zs8 (Yh5 (X2 (Y5 .i64)) (X2 (X2 yT))) H s0 a0) (hS : St H w L) :
 Calls prog 205 #[s0] w (U7 (fun v G => (R.agg (tyV .i64)).p G v r) H L) := by
 obtain ⟨e3, e4, _, _, _, rfl, d3, ⟨_, _, rfl, ⟨_, rfl, _⟩, ⟨b4, rfl, a3⟩⟩, d4⟩ := e2
 have Z4 := Sub.refl H
 refine X0 func205 rfl ntmps205 rfl ?_
 unfold Zd8 at q0
 refine Z1 (Z0 ?_)
 have b1 : RdV .i64 H Zn7 (fun _ => ([] : MpT)) := RdV.nil
 refine U4 (z := vA (N9 Zn7)) (N9 Zn7).toArray Wh5.zero rfl hS rfl ?_
 intro b2 _ hS
 refine Z2 (Z1 (Z0 ?_))
 have d2 : RdV .i64 H Zn7 (fun _ => ([] : MpT)) := RdV.nil
 refine B5 (vA (N9 Zn7)) Vh1 rfl ?_
 have e9 : RdV .i64 H Zn7 (fun _ => ([] : MpT)) := RdV.nil
 refine U4 (z := vA (N9 Zn7)) (N9 Zn7).toArray Wh5.zero rfl hS rfl ?_
 intro b7 _ hS
 refine W4 (v := vA (N9 Zn7)) (vs := (N9 Zn7).toArray) (cs := (N9 Zn7).toArray) Xi1 rfl rfl rfl hS rfl (Yr5 d2) rfl ?_
 intro _ hS
 refine Z2 (Z1 (Z1 (Z0 (Z3 (vQ e3 e4) rfl rfl (V4 rfl rfl (Y2 Zf5 rfl rfl ?_))))))
 refine Y0 (b4) Zy9 rfl (hS.froz _ _ d3) (d4 1 (show 1 < 2 by decide)) rfl ?_
 have e8 := a3.bound
 refine X9 Zf1 rfl a3 rfl (Z3 (vI 0) rfl rfl (Z2 (Y8 ?_)))
 obtain ⟨c8, a6, c9⟩ := bind_some q0
 refine W0 (id := 0) (fun k f w => ∃ (a1 : Int) (a5 : M8) (H1 : FH) (a4 : V8), N7 K a0 k a1 a5 = some c8 ∧ Sub H H1 ∧ St H1 w ([(b7, cA (N9 a4) 237)] ++ ([(b2, cA (N9 Zn7) 237)] ++ L)) ∧ 0 ≤ a1 ∧ RdV .i64 H1 a4 a5 ∧ RdV .i64 H1 Zn7 (fun _ => ([] : MpT)) ∧ Y3 (X2 yT) H1 b4 a0.2 ∧ tv f 2 = vP b2 ∧ tv f 3 = vP b7 ∧ tv f 10 = b4 ∧ tv f 11 = vI (a0.2.length : Int) ∧ tv f 12 = vI a1) (fun f w => ∃ (a9 : M8) (H1 : FH) (a7 : V8), c8 = .go a9 ∧ Sub H H1 ∧ St H1 w ([(b7, cA (N9 a7) 237)] ++ ([(b2, cA (N9 Zn7) 237)] ++ L)) ∧ RdV .i64 H1 a7 a9 ∧ RdV .i64 H1 Zn7 (fun _ => ([] : MpT)) ∧ tv f 2 = vP b2 ∧ tv f 3 = vP b7) rfl ?_ ?_ K ?_ ?_
 rintro f w ⟨a1, a5, H1, a4, a6, _⟩
 rw [N7] at a6; cases a6
 rintro k _ _ e5 e6 ⟨a1, a5, d5, a4, a6, Z4, hS, _, a8, b1, a3, b9, b3, b5, b6, b0⟩
 rw [N7] at a6
 refine Z1 (Z0 ?_)
 refine W8 (k := .i64) (a := a1) (b := (a0.2.length : Int)) (by exact b0) (by exact b6) rfl (Z2 (Z1 ?_))
 obtain ⟨c5, a6⟩ | ⟨c5, a6⟩ := ic a6
 refine Z8 (bT c5 rfl) (Y6 (Z1 (Y8 (Z1 (Z0 (Z3 (vI a1) (by exact b0) rfl ?_))))))
 obtain ⟨_, _, _, _, _, d6, d7, ⟨c1, rfl, c4⟩, d8⟩ := a3.elem (i := a1) (by omega) (by omega)
 refine X5 Zf1 rfl (by exact b5) d6 (by exact b0) (by omega) (by omega) rfl ?_
 refine V0 ([c1]) Q4 rfl (hS.froz _ _ d7) rfl d8 rfl ?_
 refine U4 (z := vA ([vN])) ([vN]).toArray Zl9.zero rfl hS rfl ?_
 intro _ _ hS
 refine Z5 (vI a1) rfl rfl ?_
 refine W4 (v := vA ([c1])) (vs := ([c1]).toArray) (cs := ([vN]).toArray) Q4 rfl rfl rfl hS rfl (Zb5 c4.isOne) rfl ?_
 intro _ hS
 refine Z2 (Z0 (Z3 (vI a1) rfl rfl ?_))
 refine W3 Q4 rfl (hS.get mL) rfl rfl ?_
 obtain ⟨c7, d9, a6⟩ := bind_some a6
 refine U9 call110 (R3 rfl) rfl (Yl5 d9 c4 hS) ?_
 rintro _ _ ⟨d0, _, _, rfl, c2, hS, e0⟩
 refine ⟨_, rfl, ?_⟩
 have Z4 := Z4.trans c2
 have a3 := a3.mono c2
 have b1 := b1.mono c2
 have a8 := a8.mono c2
 obtain ⟨_, a6⟩ := gd a6
 refine V5 Ww1 (by exact b3) rfl (by omega) (by omega) rfl ?_
 obtain ⟨e7, c3, hS, d1⟩ := e0.freeze hS
 have Z4 := Z4.trans c3
 have a3 := a3.mono c3
 have b1 := b1.mono c3
 have a8 := a8.mono c3
 have hS := hS.perm R6
 have e1 := RdV.upd a8 (a1) d1
 refine Zd3 (v := d0) (cs := (N9 a4).toArray) (cs' := (N9 (Xx0 a4 a1 d0)).toArray) Wv7 rfl rfl hS d1.isOne rfl (by simp [Z6, N9]; omega) (Wv0 (by omega) (by omega)) ?_
 intro _ hS
 have hS := hS.perm R6.symm
 refine Z2 (X1 (Z0 ?_))
 refine W2 (a1 + 1) (by exact b0) rfl (IntWalk.i64_in _ (by omega)) rfl (Z3 (vI (a1 + 1)) rfl rfl (Z2 ?_))
 have hS := St.dropA hS
 exact e5 _ _ ⟨(a1 + 1), (Xj4 a5 a1 c7), e7, (Xx0 a4 a1 d0), a6, Z4, hS, (by omega), e1, b1, a3, b9, b3, b5, b6, rfl⟩
 refine Z7 (bF c5 rfl) ?_
 refine X7 rfl ?_
 obtain rfl := oi a6
 exact e6 _ _ ⟨a5, d5, a4, rfl, Z4, hS, a8, b1, b9, b3⟩
 exact ⟨0, (fun _ => ([] : MpT)), H, Zn7, a6, Z4, hS, (by omega), d2, b1, a3, rfl, rfl, rfl, rfl, rfl⟩
 rintro _ _ ⟨a9, _, a7, rfl, Z4, hS, b8, b1, c0, c6⟩
 dsimp only [Ex.elim] at c9
 refine Z1 (Z0 ?_)
 refine W3 Xi1 (by exact c6) (hS.get mL) rfl rfl ?_
 have hS := hS.perm R6
 refine W4 (v := vA (N9 a7)) (vs := (N9 a7).toArray) (cs := (N9 Zn7).toArray) Xi1 (by exact c0) rfl rfl hS rfl (Yr5 b8) rfl ?_
 intro _ hS
 have hS := hS.perm R6.symm
 refine Z2 ?_
 refine Y9 (vs := [vA (N9 a7)]) func205 ⟨⟨_, (by exact c0), P1 Xi1 (hS.get (mR mL)) rfl⟩, trivial⟩ ?_
 obtain rfl := oi c9
 exact ⟨_, _, rfl, Z4, (St.dropA (St.dropA hS)), ⟨_, rfl, ⟨_, rfl, b8⟩⟩⟩
def B3 (K : Nat) (a0 : (List MpT)) : Nat → Int → Int → Option (Ex Int (Int))
 | 0, _, _ => none
 | k + 1, a5, a3 => (if a3 < (a0.length : Int) then ((Zt4 K (rd a0 a3) a5).bind fun r6 => (if r6 < 0 then some (.ret (-1)) else B3 K a0 k r6 (a3 + 1))) else some (.go a5))
def Zx7 (K : Nat) (a0 : (List MpT)) (a1 : Int) : Option Int := (if (IntKind.i64.wrap (a1 - (a0.length : Int))) < 0 then some (-1) else ((B3 K a0 K (IntKind.i64.wrap (a1 - (a0.length : Int))) 0).bind (Ex.elim (fun r => some r) (fun s => (fun (a6 : Int) => some a6) s))))
theorem Yy9 {a0 : (List MpT)} {a1 : Int} {r : Int} (q0 : Zx7 K a0 a1 = some r) (a7 : Y3 (X2 yT) H s0 a0) (hS : St H w L) :
 Calls prog 67 #[s0, vI a1] w (U7 (fun v G => (R.int .i64).p G v r) H L) := by
 have Z4 := Sub.refl H
 refine X0 func67 rfl ntmps67 rfl ?_
 unfold Zx7 at q0
 refine Z1 (Z0 (Z5 (vI 0) rfl rfl (Z2 (Z1 (Z0 (Z3 (vI a1) rfl rfl (Z3 (s0) rfl rfl ?_)))))))
 have c7 := a7.bound
 refine X9 Xk1 rfl a7 rfl ?_
 refine Zk8 (IntKind.i64.wrap (a1 - (a0.length : Int))) rfl rfl rfl rfl (Z5 (vI (IntKind.i64.wrap (a1 - (a0.length : Int)))) rfl rfl (Z2 (Z1 (Z1 (Z0 (Z3 (vI (IntKind.i64.wrap (a1 - (a0.length : Int)))) rfl rfl ?_))))))
 refine W8 (k := .i64) (a := (IntKind.i64.wrap (a1 - (a0.length : Int)))) (b := 0) rfl rfl rfl (Z2 ?_)
 obtain ⟨b3, q0⟩ | ⟨b3, q0⟩ := ic q0
 refine Z8 (bT b3 rfl) (Z1 (Z0 (Z5 (vI (-1)) rfl rfl (Z2 ?_))))
 refine Y9 (vs := [vI (-1)]) func67 ⟨rfl, trivial⟩ ?_
 obtain rfl := oi q0
 exact ⟨_, _, rfl, Z4, hS, rfl⟩
 refine Z7 (bF b3 rfl) (Y6 (Z1 (Z1 (Z0 (Z5 (vI 0) rfl rfl (Z2 (Y8 ?_)))))))
 obtain ⟨b4, a4, b1⟩ := bind_some q0
 refine W0 (id := 0) (fun k f w => ∃ (a5 : Int) (a3 : Int) (H1 : FH), B3 K a0 k a5 a3 = some b4 ∧ Sub H H1 ∧ St H1 w (L) ∧ 0 ≤ a3 ∧ Y3 (X2 yT) H1 s0 a0 ∧ tv f 0 = s0 ∧ tv f 1 = vI a5 ∧ tv f 5 = vI a3) (fun f w => ∃ (a6 : Int) (H1 : FH), b4 = .go a6 ∧ Sub H H1 ∧ St H1 w (L) ∧ tv f 1 = vI a6) rfl ?_ ?_ K ?_ ?_
 rintro f w ⟨a5, a3, H1, a4, _⟩
 rw [B3] at a4; cases a4
 rintro k _ _ c1 c2 ⟨a5, a3, b9, a4, Z4, hS, _, a7, a8, b0, a9⟩
 rw [B3] at a4
 refine Z1 (Z1 (Z0 (Z3 (vI a3) (by exact a9) rfl (Z3 (s0) (by exact a8) rfl ?_))))
 have c8 := a7.bound
 refine X9 Xk1 rfl a7 rfl ?_
 refine W8 (k := .i64) (a := a3) (b := (a0.length : Int)) rfl rfl rfl (Z2 ?_)
 obtain ⟨b5, a4⟩ | ⟨b5, a4⟩ := ic a4
 refine Z8 (bT b5 rfl) (Y6 (Z1 (Y8 (Z1 (Z0 (Z3 (s0) (by exact a8) rfl (Z3 (vI a3) (by exact a9) rfl ?_)))))))
 obtain ⟨_, _, _, _, _, c3, c4, ⟨c0, rfl, b7⟩, c5⟩ := a7.elem (i := a3) (by omega) (by omega)
 refine X5 Xk1 rfl rfl c3 rfl (by omega) (by omega) rfl ?_
 refine V0 ([c0]) Ve4 rfl (hS.froz _ _ c4) rfl c5 rfl (Z3 (vI a5) (by exact b0) rfl ?_)
 obtain ⟨r6, c6, a4⟩ := bind_some a4
 refine X3 call24 (V2 rfl rfl) rfl (Xa9 c6 b7 hS) ?_
 rintro _ H6 _ b8 hS rfl
 have Z4 := Z4.trans b8
 have a7 := a7.mono b8
 refine Z5 (vI r6) rfl rfl (Z2 (Z1 (Z0 (Z3 (vI r6) rfl rfl ?_))))
 refine W8 (k := .i64) (a := r6) (b := 0) rfl rfl rfl (Z2 ?_)
 obtain ⟨b6, a4⟩ | ⟨b6, a4⟩ := ic a4
 refine Z8 (bT b6 rfl) (Z1 (Z0 (Z5 (vI (-1)) rfl rfl (Z2 ?_))))
 refine Y9 (vs := [vI (-1)]) func67 ⟨rfl, trivial⟩ ?_
 obtain rfl := oi a4
 dsimp only [Ex.elim] at b1
 obtain rfl := oi b1
 exact ⟨_, _, rfl, Z4, hS, rfl⟩
 refine Z7 (bF b6 rfl) (Y6 (X1 (Z0 (Z3 (vI a3) (by exact a9) rfl ?_))))
 refine W2 (a3 + 1) rfl rfl (IntWalk.i64_in _ (by omega)) rfl (Z5 (vI (a3 + 1)) rfl rfl (Z2 ?_))
 exact c1 _ _ ⟨r6, (a3 + 1), H6, a4, Z4, hS, (by omega), a7, a8, rfl, rfl⟩
 refine Z7 (bF b5 rfl) ?_
 refine X7 rfl ?_
 obtain rfl := oi a4
 exact c2 _ _ ⟨a5, b9, rfl, Z4, hS, b0⟩
 exact ⟨(IntKind.i64.wrap (a1 - (a0.length : Int))), 0, H, a4, Z4, hS, (by omega), a7, rfl, rfl, rfl⟩
 rintro _ _ ⟨a6, _, rfl, Z4, hS, b2⟩
 dsimp only [Ex.elim] at b1
 refine Z1 (Z0 (Z3 (vI a6) (by exact b2) rfl (Z5 (vI a6) rfl rfl (Z2 ?_))))
 refine Y9 (vs := [vI a6]) func67 ⟨rfl, trivial⟩ ?_
 obtain rfl := oi b1
 exact ⟨_, _, rfl, Z4, hS, rfl⟩
def B1 (K : Nat) (a0 : MpT) : Nat → Int → MpT → Option (Ex MpT (MpT))
 | 0, _, _ => none
 | k + 1, a1, a3 => (if a1 < (a0.length : Int) then ((Zt3 K ((rd a0 a1).1, (rd a0 a1).2)).bind fun b3 => (if a1 < (a3.length : Int) then B1 K a0 k (a1 + 1) (a3.set (a1).toNat (b3.1, b3.2)) else none)) else some (.go a3))
def Zr2 (K : Nat) (a0 : MpT) : Option MpT := (if (a0.length : Int) ≤ 1099511627776 then ((B1 K a0 K 0 (List.replicate ((a0.length : Int)).toNat (((fun _ => 0), 0) : (A8 × Int)))).bind (Ex.elim (fun r => some r) (fun s => (fun (a8 : MpT) => some a8) s))) else none)
theorem Yy7 {a0 : MpT} {r : MpT} (q0 : Zr2 K a0 = some r) (b1 : Y3 yT H s0 a0) (hS : St H w L) :
 Calls prog 92 #[s0] w (U7 (fun v G => (R.sl yT).p (G.new H) v r) H L) := by
 have Z4 := Sub.refl H
 refine X0 func92 rfl ntmps92 rfl ?_
 unfold Zr2 at q0
 refine Z1 (Z0 (Z5 (vN) rfl rfl (Z2 (Z1 (Z0 (Z3 (s0) rfl rfl ?_))))))
 have d8 := b1.bound
 refine X9 Wg8 rfl b1 rfl ?_
 obtain ⟨_, q0⟩ := gd q0
 refine Yg0 (τ := yT) (((fun _ => 0), 0) : (A8 × Int)) Xa7 rfl rfl rfl (fun _ => ⟨_, _, rfl, rfl, rfl⟩) (by omega) (by omega) hS rfl ?_
 intro u3 _ C5 d1 hS
 refine Z5 (u3) rfl rfl (Z2 (Z1 (Z1 (Z0 (Z5 (vI 0) rfl rfl (Z2 (Y8 ?_)))))))
 obtain ⟨c0, a5, c1⟩ := bind_some q0
 refine W0 (id := 0) (fun k f w => ∃ (a1 : Int) (a3 : MpT) (H1 : FH) (a9 : OL) (a4 : Value), B1 K a0 k a1 a3 = some c0 ∧ Sub H H1 ∧ St H1 w (a9 ++ L) ∧ 0 ≤ a1 ∧ X8 yT 78 H1 a4 a3 a9 ∧ Y3 yT H1 s0 a0 ∧ tv f 0 = s0 ∧ tv f 3 = a4 ∧ tv f 4 = vI a1) (fun f w => ∃ (a8 : MpT) (H1 : FH) (b2 : OL) (a6 : Value), c0 = .go a8 ∧ Sub H H1 ∧ St H1 w (b2 ++ L) ∧ X8 yT 78 H1 a6 a8 b2 ∧ tv f 3 = a6) rfl ?_ ?_ K ?_ ?_
 rintro f w ⟨a1, a3, H1, a9, a4, a5, _⟩
 rw [B1] at a5; cases a5
 rintro k _ _ d2 d3 ⟨a1, a3, c4, a9, a4, a5, Z4, hS, _, a7, b1, b4, b5, b0⟩
 rw [B1] at a5
 refine Z1 (Z1 (Z0 (Z3 (vI a1) (by exact b0) rfl (Z3 (s0) (by exact b4) rfl ?_))))
 have d9 := b1.bound
 refine X9 Wg8 rfl b1 rfl ?_
 refine W8 (k := .i64) (a := a1) (b := (a0.length : Int)) rfl rfl rfl (Z2 ?_)
 obtain ⟨c2, a5⟩ | ⟨c2, a5⟩ := ic a5
 refine Z8 (bT c2 rfl) (Y6 (Z1 (Y8 (Z0 (Z3 (a4) (by exact b5) rfl (Z3 (vI a1) (by exact b0) rfl (Z3 (s0) (by exact b4) rfl (Z3 (vI a1) (by exact b0) rfl ?_))))))))
 obtain ⟨_, _, _, _, _, c5, c6, ⟨_, _, rfl, rfl, rfl⟩, c7⟩ := b1.elem (i := a1) (by omega) (by omega)
 refine X5 Wg8 rfl rfl c5 rfl (by omega) (by omega) rfl ?_
 refine V0 (Z6 .u8 ((rd a0 a1).1) ++ [vI ((rd a0 a1).2)]) Vi0 rfl (hS.froz _ _ c6) rfl c7 rfl ?_
 obtain ⟨b3, c8, a5⟩ := bind_some a5
 refine X3 call167 (R3 rfl) rfl (Xa3 c8  hS) ?_
 rintro _ d4 _ b8 hS ⟨_, rfl, ⟨_, _, rfl, rfl, rfl⟩⟩
 have Z4 := Z4.trans b8
 have b1 := b1.mono b8
 have a7 := a7.mono b8
 obtain ⟨_, a5⟩ := gd a5
 obtain ⟨_, _, c3⟩ := a7.some (i := a1) (by omega) (by omega)
 refine P3 R9 (Eq.trans rfl c3) rfl (by omega) (by omega) rfl ?_
 refine Zd0 (τ := yT) (v := a4) (u := vA (Z6 .u8 b3.1 ++ [vI b3.2])) (b3.1, b3.2) (i := a1) rfl Zy7 c3 a7 hS rfl rfl (by omega) (by omega) ⟨_, _, rfl, rfl, rfl⟩ ?_
 intro _ d5 c9 hS
 refine Z2 (X1 (Z0 (Z3 (vI a1) (by exact b0) rfl ?_)))
 refine W2 (a1 + 1) rfl rfl (IntWalk.i64_in _ (by omega)) rfl (Z5 (vI (a1 + 1)) rfl rfl (Z2 ?_))
 exact d2 _ _ ⟨(a1 + 1), (a3.set (a1).toNat (b3.1, b3.2)), d4, d5, a4, a5, Z4, hS, (by omega), c9, b1, b4, b5, rfl⟩
 refine Z7 (bF c2 rfl) ?_
 refine X7 rfl ?_
 obtain rfl := oi a5
 exact d3 _ _ ⟨a3, c4, a9, a4, rfl, Z4, hS, a7, b5⟩
 exact ⟨0, (List.replicate ((a0.length : Int)).toNat (((fun _ => 0), 0) : (A8 × Int))), H, C5, u3, a5, Z4, hS, (by omega), d1, b1, rfl, rfl, rfl⟩
 rintro _ _ ⟨a8, _, b2, a6, rfl, Z4, hS, b7, b9⟩
 dsimp only [Ex.elim] at c1
 refine Z1 (Z0 (Z3 (a6) (by exact b9) rfl (Z5 (a6) rfl rfl (Z2 ?_))))
 refine Y9 (vs := [a6]) func92 ⟨rfl, trivial⟩ ?_
 obtain ⟨d6, d0, hS, b6⟩ := X8.freezeF (τ := yT) (H0 := H) b7 hS Z4
 have d7 := Y3.old b6
 have b6 : RdF yT H d6 a6 a8 := b6
 have Z4 := Z4.trans d0
 obtain rfl := oi c1
 exact ⟨_, _, rfl, Z4, hS, b6⟩
def okS (ds : List Int) (n : Int) : Bool := decide ((∀ d, d ∈ ds → 1 ≤ d ∧ d ≤ 12) ∧ ds.length ≤ 8 ∧ 0 ≤ n ∧ n ≤ 1000)
def P7 (K : Nat) (ds : List Int) (n : Int) : Option (List A8) := if okS ds n = true then some (fsF ds ds.length (fun _ => 0) n []) else none
theorem Zc6 {a0 : List Int} {a1 : Int} {r : List A8} (q0 : P7 K a0 a1 = some r) (hs0 : Y3 (Y5 .i64) H s0 a0) (hS : St H w L) :
    Calls prog 99 #[s0, vI a1] w (U7 (fun v G => (R.sl (Q9 .u8)).p G v r) H L) := by
  unfold P7 at q0
  by_cases hok : okS a0 a1 = true
  case neg => rw [if_neg hok] at q0; cases q0
  rw [if_pos hok] at q0
  obtain rfl := oi q0
  obtain ⟨k1, k2, k3, k4⟩ := of_decide_eq_true hok
  refine X0 func99 rfl ntmps99 rfl ?_
  repeat refine Z1 ?_
  refine Z0 (Z5 (vN) rfl rfl (Z2 ?_))
  repeat refine Z1 ?_
  refine Z0 (Z3 s0 rfl rfl ?_)
  refine B5 (vA (Z6 .u8 (fun _ => 0))) Wf1 rfl (Z3 (vI a1) rfl rfl ?_)
  refine U9 call171 (Ww4 rfl rfl (congrArg vI (show (0 : Int) = ((a0.length - a0.length : Nat) : Int) by simp)) rfl rfl) rfl (Wy0 k1 k2 a0.length (Nat.le_refl _) ⟨k3, k4⟩ hs0 (X8.nil _ _ _) (by simp) hS) ?_
  rintro e3 w3 ⟨v, H3, C3, rfl, s3, hS, ho⟩
  refine ⟨_, rfl, ?_⟩
  obtain ⟨H4, s4, hS, hrd⟩ := ho.freeze hS
  refine Z5 v rfl rfl (Z2 ?_)
  exact Y9 (vs := [v]) func99 ⟨rfl, trivial⟩ ⟨_, _, rfl, s3.trans s4, hS, hrd⟩
section
variable {P : Program} {n : Nat} {ops : Array Oper} {J : Fr → World → Prop} {r : List Oper} {f : Fr} {w : World} {d : Nat} {T : TypeId} {pos : String} {af : Array Edge}
theorem Xn8 {X E : TypeId} {s : Nat} {x y : Operand} {b o m c : Nat} {k : IntKind} {i : Nat} (t : SlI P X E s) (hx : ev f x = .slice (some ⟨b, o, none⟩) m c) (hy : ev f y = .int k i) (hm : i ≤ m) (hn : Nat.blt d n = true)
 (K : X6 P n ops J r (upd f d (.slice (if c = i then some ⟨b, o, none⟩ else some ⟨b, o + i * s, none⟩) (m - i) (c - i))) w) : X6 P n ops J (⟨some d, .slice X x (some y) none none, T, pos, af, none⟩ :: r) f w :=
 V6 rfl rfl hn (by simp [execOp, hx, hy, Instr.sliceAt, Instr.slice, Instr.sureAddr, Instr.sliceBounds, Instr.sliceBound, asIntOf, t.under, t.sizeOf, R7, hm]) K
theorem Yu7 {X E : TypeId} {s : Nat} {x y : Operand} {b o m c : Nat} {k : IntKind} {j : Nat} (t : SlI P X E s) (hx : ev f x = .slice (some ⟨b, o, none⟩) m c) (hy : ev f y = .int k j) (hm : j ≤ c) (hn : Nat.blt d n = true)
 (K : X6 P n ops J r (upd f d (.slice (some ⟨b, o, none⟩) j c)) w) : X6 P n ops J (⟨some d, .slice X x none (some y) none, T, pos, af, none⟩ :: r) f w :=
 V6 rfl rfl hn (by simp [execOp, hx, hy, Instr.sliceAt, Instr.slice, Instr.sureAddr, Instr.sliceBounds, Instr.sliceBound, asIntOf, t.under, t.sizeOf, R7, hm]) K
end
end Go.Proofs.YtabofnehiclkiaaGreat
