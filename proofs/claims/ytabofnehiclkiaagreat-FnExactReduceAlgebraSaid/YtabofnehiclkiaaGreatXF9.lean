/- Walks of functions: each computes its pure function, if that gives a value. -/
import Derived.Test.YtabofnehiclkiaaGreatXTy
import Derived.Test.YtabofnehiclkiaaGreatXF1
import Derived.Test.YtabofnehiclkiaaGreatXF7
import Derived.Test.YtabofnehiclkiaaGreatXF4
import Derived.Test.YtabofnehiclkiaaGreatXF8
import Derived.Test.YtabofnehiclkiaaGreatXF6
namespace Go.Proofs.YtabofnehiclkiaaGreat
open Go
set_option linter.unusedSimpArgs false
set_option linter.unusedVariables false
set_option maxRecDepth 100000
set_option maxHeartbeats 8000000
variable {K : Nat} {H : FH} {w : World} {L : OL} {s0 s1 s2 s3 s4 s5 s6 : Value}
def Zq4 (K : Nat) (h1 : Int → Option (Ex Bool (Unit))) (a1 : MpT) (a3 : Int) (b2 : Bool) : Option (Ex Bool (Unit)) := (if b2 = true then some (.ret false) else (if 0 < a3 then (if 0 ≤ (IntKind.i64.wrap (a3 - 1)) then (if (IntKind.i64.wrap (a3 - 1)) < (a1.length : Int) then ((Zi2 K ((rd a1 (IntKind.i64.wrap (a3 - 1))).1)).bind fun d9 => ((Zi2 K ((rd a1 a3).1)).bind fun e0 => ((Zb2 K d9 e0).bind fun b3 => (if 0 ≤ b3 then some (.ret false) else h1 (a3 + 1))))) else none) else none) else h1 (a3 + 1)))
def J7 (K : Nat) (a0 : (List Int)) (a1 : MpT) : Nat → Int → Option (Ex Bool (Unit))
 | 0, _ => none
 | k + 1, a3 => (if a3 < (a1.length : Int) then ((Zo4 K a0 ((rd a1 a3).1)).bind fun c9 => (if c9 = true then ((Zy5 K ((rd a1 a3).2)).bind fun c1 => Zq4 K (J7 K a0 a1 k) a1 a3 (!c1)) else Zq4 K (J7 K a0 a1 k) a1 a3 true)) else some (.go ()))
def Zr8 (K : Nat) (a0 : (List Int)) (a1 : MpT) : Option Bool := (if 400 < (a1.length : Int) then some false else ((J7 K a0 a1 K 0).bind (Ex.elim (fun r => some r) (fun s => some true))))
theorem Yb4 {a0 : (List Int)} {a1 : MpT} {r : Bool} (q0 : Zr8 K a0 a1 = some r) (a9 : Z9 (Y6 .i64) H s0 a0) (a7 : Z9 yT H s1 a1) (hS : St H w L) :
 Calls Tryz.prog 121 #[s0, vA ([s1])] w (T2 (fun v G => R.bool.p G v r) H L) := by
 have Z3 := Sub.refl H
 refine X3 Tryz.func121 rfl Tryz.ntmps121 rfl ?_
 unfold Zr8 at q0
 refine Z2 (Z0 ?_)
 refine S3 (v := vA ([s1])) ([s1]).toArray rfl rfl hS rfl ?_
 intro b1 _ hS
 refine Z5 (vB false) rfl rfl (Z1 (Z2 (Z2 (Z0 (Y2 V9 rfl rfl ?_)))))
 refine Y3 (s1) Q4 rfl (hS.get mL) rfl rfl ?_
 have i4 := a7.bound
 refine W7 R7 rfl a7 rfl ?_
 refine Zi5 (k := .i64) (a := (a1.length : Int)) (b := 400) rfl rfl rfl (Z1 ?_)
 obtain ⟨e8, q0⟩ | ⟨e8, q0⟩ := ic q0
 refine Y0 (bT e8 rfl) (Z2 (Z0 (Z5 (vB false) rfl rfl (Z1 ?_))))
 refine X0 (vs := [vB false]) Tryz.func121 ⟨rfl, trivial⟩ ?_
 obtain rfl := oi q0
 exact ⟨_, _, rfl, Z3, (St.dropA hS), rfl⟩
 refine Z8 (bF e8 rfl) (Y8 (Z2 (Z2 (Z0 (Y2 V9 rfl rfl ?_)))))
 refine Y3 (s1) Q4 rfl (hS.get mL) rfl rfl ?_
 have i5 := a7.bound
 refine W7 R7 rfl a7 rfl (Z4 (vI 0) rfl rfl (Z1 (Y7 ?_)))
 obtain ⟨e1, a6, b8⟩ := bind_some q0
 refine W1 (id := 0) (fun k f w => ∃ (a3 : Int) (H1 : FH), J7 K a0 a1 k a3 = some e1 ∧ Sub H H1 ∧ St H1 w ([(b1, cA ([s1]) 45)] ++ L) ∧ 0 ≤ a3 ∧ Z9 (Y6 .i64) H1 s0 a0 ∧ Z9 yT H1 s1 a1 ∧ tv f 0 = s0 ∧ tv f 3 = vP b1 ∧ tv f 12 = s1 ∧ tv f 13 = vI (a1.length : Int) ∧ tv f 14 = vI a3) (fun f w => ∃ (H1 : FH), e1 = .go () ∧ Sub H H1 ∧ St H1 w ([(b1, cA ([s1]) 45)] ++ L) ∧ Z9 yT H1 s1 a1) rfl ?_ ?_ K ?_ ?_
 rintro f w ⟨a3, H1, a6, _⟩
 rw [J7] at a6; cases a6
 rintro k _ _ h2 i0 ⟨a3, h4, a6, Z3, hS, _, a9, a7, c0, c4, b4, b5, b0⟩
 rw [J7] at a6
 refine Z2 (Z0 ?_)
 refine V5 (k := .i64) (a := a3) (b := (a1.length : Int)) (by exact b0) (by exact b5) rfl (Z1 (Z2 ?_))
 obtain ⟨e9, a6⟩ | ⟨e9, a6⟩ := ic a6
 refine Y0 (bT e9 rfl) (Y8 (Z2 (Y7 (Z2 (Z0 (Z4 (vI a3) (by exact b0) rfl ?_))))))
 obtain ⟨_, _, _, _, _, i1, i2, ⟨_, _, rfl, rfl, rfl⟩, i3⟩ := a7.elem (i := a3) (by omega) (by omega)
 refine X9 R7 rfl (by exact b4) i1 (by exact b0) (by omega) (by omega) rfl ?_
 refine W9 (Z7 .u8 ((rd a1 a3).1) ++ [vI ((rd a1 a3).2)]) Zt9 rfl (hS.froz _ _ i2) rfl i3 rfl ?_
 refine W6 (z := vA (Z7 .u8 (fun _ => 0) ++ [vI 0])) (Z7 .u8 (fun _ => 0) ++ [vI 0]).toArray Ya6.zero rfl hS rfl ?_
 intro b9 _ hS
 refine Z5 (vI a3) rfl rfl ?_
 refine X5 (v := vA (Z7 .u8 ((rd a1 a3).1) ++ [vI ((rd a1 a3).2)])) (vs := (Z7 .u8 ((rd a1 a3).1) ++ [vI ((rd a1 a3).2)]).toArray) (cs := (Z7 .u8 (fun _ => 0) ++ [vI 0]).toArray) Zt9 rfl rfl rfl hS rfl (R8 (S4 .u8 ((rd a1 a3).1)) (U0 rfl)) rfl ?_
 intro _ hS
 refine Z1 (Z2 (Z2 ?_))
 refine Zb0 (fun f w => ∃ (b2 : Bool) (H1 : FH), Zq4 K (J7 K a0 a1 k) a1 a3 b2 = some e1 ∧ Sub H H1 ∧ St H1 w ([(b9, cA (Z7 .u8 ((rd a1 a3).1) ++ [vI ((rd a1 a3).2)]) 78)] ++ ([(b1, cA ([s1]) 45)] ++ L)) ∧ Z9 (Y6 .i64) H1 s0 a0 ∧ Z9 yT H1 s1 a1 ∧ tv f 0 = s0 ∧ tv f 3 = vP b1 ∧ tv f 5 = vI a3 ∧ tv f 6 = vP b9 ∧ tv f 12 = s1 ∧ tv f 13 = vI (a1.length : Int) ∧ tv f 14 = vI a3 ∧ tv f 29 = vB b2) ?_ ?_
 rintro _ _ ⟨b2, _, a4, Z3, hS, a9, a7, d8, c2, c3, f0, c5, c6, c7, c8⟩
 unfold Zq4 at a4
 obtain ⟨e2, a4⟩ | ⟨e2, a4⟩ := ic a4
 refine Y0 (Eq.trans (by exact c8) (congrArg vB e2)) (Z2 (Z0 (Z5 (vB false) rfl rfl (Z1 ?_))))
 refine X0 (vs := [vB false]) Tryz.func121 ⟨rfl, trivial⟩ ?_
 obtain rfl := oi a4
 dsimp only [Ex.elim] at b8
 obtain rfl := oi b8
 exact ⟨_, _, rfl, Z3, (St.dropA (St.dropA hS)), rfl⟩
 refine Z8 (Eq.trans (by exact c8) (congrArg vB (X8 e2))) (Y8 (Z2 ?_))
 obtain ⟨a5, a4⟩ | ⟨a5, a4⟩ := ic a4
 obtain ⟨_, a4⟩ := gd a4
 obtain ⟨_, a4⟩ := gd a4
 obtain ⟨f1, f2, _, _, _, f8, d0, ⟨_, _, rfl, rfl, rfl⟩, f9⟩ := a7.elem (i := (IntKind.i64.wrap (a3 - 1))) (by omega) (by omega)
 obtain ⟨d9, g0, a4⟩ := bind_some a4
 obtain ⟨e0, g1, a4⟩ := bind_some a4
 obtain ⟨b3, g2, a4⟩ := bind_some a4
 refine U1 17 (P0 [mE 30 (vI a3), mE 31 (vB (decide (0 < a3))), mE 32 (vB (decide (0 < a3))), mE 33 (vP b1), mE 34 (s1), mE 35 (vI a3), mE 36 (vI (IntKind.i64.wrap (a3 - 1))), mE 37 (vQ f1 f2), mE 38 (vQ f1 (f2 + 0)), mE 39 (vA (Z7 .u8 ((rd a1 (IntKind.i64.wrap (a3 - 1))).1))), mE 40 (vA (Z7 .i64 d9)), mE 41 (vP b9), mE 42 (vA (Z7 .u8 ((rd a1 a3).1))), mE 43 (vA (Z7 .i64 e0)), mE 44 (vI b3), mE 45 (vB (decide (0 ≤ b3))), mE 46 (vB (decide (0 ≤ b3)))]) [] mixed rfl rfl rfl hS (Z6 rfl ?_ (Z6 rfl ?_ (Z6 rfl ?_ (Z6 rfl ?_ (Z6 rfl ?_ (Z6 rfl ?_ (Z6 rfl ?_ (Z6 rfl ?_ (Z6 rfl ?_ (Z6 rfl ?_ (Z6 rfl ?_ (Z6 rfl ?_ (Z6 rfl ?_ (Z6 rfl ?_ (Z6 rfl ?_ (Z6 rfl ?_ (Z6 rfl ?_ U7))))))))))))))))) ?_
 exact W5 fun S B => Z4 (vI a3) (evT (B 5 rfl) c3) rfl (qz S)
 exact X2 fun S V => Zi5 (k := .i64) (a := a3) (b := 0) (eM (V 0 30 rfl rfl)) rfl rfl (qz S)
 exact X2 fun S V => Z4 (vB (decide (0 < a3))) (eM (V 1 31 rfl rfl)) rfl (qz S)
 exact G4 fun S B V => Y4 rfl rfl (bT a5 (eM (V 2 32 rfl rfl))) (Y2 V9 (evT (B 3 rfl) c2) rfl (qz S))
 intro _ _ _ _ _ hS _ f3 hcq
 refine Y4 rfl rfl (bT a5 (eM (f3 2 32 rfl rfl))) ?_
 refine Y3 (s1) Q4 (eM (f3 3 33 rfl rfl)) (hS.get (mR (mR mL))) rfl rfl ?_
 exact qn (.refl _) rfl hS rfl
 exact G4 fun S B V => Y4 rfl rfl (bT a5 (eM (V 2 32 rfl rfl))) (Z4 (vI a3) (evT (B 5 rfl) c3) rfl (qz S))
 intro _ _ _ _ _ hS _ f4 hcq
 refine Y4 rfl rfl (bT a5 (eM (f4 2 32 rfl rfl))) ?_
 refine Yg5 (IntKind.i64.wrap (a3 - 1)) (eM (f4 5 35 rfl rfl)) rfl rfl rfl ?_
 exact qn (.refl _) rfl hS rfl
 intro _ _ _ _ _ hS _ d1 hcq
 refine Y4 rfl rfl (bT a5 (eM (d1 2 32 rfl rfl))) ?_
 refine X9 R7 rfl (eM (d1 4 34 rfl rfl)) f8 (eM (d1 6 36 rfl rfl)) (by omega) (by omega) rfl ?_
 exact qn (.refl _) rfl hS rfl
 exact X2 fun S V => Y4 rfl rfl (bT a5 (eM (V 2 32 rfl rfl))) (Y2 M1 (eM (V 7 37 rfl rfl)) rfl (qz S))
 intro _ _ _ _ g3 hS _ e3 hcq
 have d0 := g3.1 _ _ d0
 refine Y4 rfl rfl (bT a5 (eM (e3 2 32 rfl rfl))) ?_
 refine W9 (Z7 .u8 ((rd a1 (IntKind.i64.wrap (a3 - 1))).1)) M2 (eM (e3 8 38 rfl rfl)) (hS.froz _ _ d0) rfl (Zk1 ([]) (Z7 .u8 ((rd a1 (IntKind.i64.wrap (a3 - 1))).1)) (([vI ((rd a1 (IntKind.i64.wrap (a3 - 1))).2)])) f9 (nl rfl)) rfl ?_
 exact qn (.refl _) rfl hS rfl
 intro _ _ _ _ _ hS _ e4 hcq
 refine Y4 rfl rfl (bT a5 (eM (e4 2 32 rfl rfl))) ?_
 refine X6 Tryz.call192 (S2 (eM (e4 9 39 rfl rfl))) rfl (Zt5 g0  hS) ?_
 rintro _ _ _ g4 hS ⟨_, rfl, rfl⟩
 exact qn g4 rfl hS rfl
 exact G4 fun S B V => Y4 rfl rfl (bT a5 (eM (V 2 32 rfl rfl))) (Y2 M1 (evT (B 6 rfl) f0) rfl (qz S))
 intro _ _ _ _ _ hS _ e5 hcq
 refine Y4 rfl rfl (bT a5 (eM (e5 2 32 rfl rfl))) ?_
 refine W9 (Z7 .u8 ((rd a1 a3).1)) M2 (eM (e5 11 41 rfl rfl)) (hS.get (o := cA (Z7 .u8 ((rd a1 a3).1) ++ [vI ((rd a1 a3).2)]) 78) (mR mL)) rfl (fun j hj => Zm0 ([]) (Z7 .u8 ((rd a1 a3).1)) (([vI ((rd a1 a3).2)])) j hj) rfl ?_
 exact qn (.refl _) rfl hS rfl
 intro _ _ _ _ _ hS _ e6 hcq
 refine Y4 rfl rfl (bT a5 (eM (e6 2 32 rfl rfl))) ?_
 refine X6 Tryz.call192 (S2 (eM (e6 12 42 rfl rfl))) rfl (Zt5 g1  hS) ?_
 rintro _ _ _ g5 hS ⟨_, rfl, rfl⟩
 exact qn g5 rfl hS rfl
 intro _ _ _ _ _ hS _ d2 hcq
 refine Y4 rfl rfl (bT a5 (eM (d2 2 32 rfl rfl))) ?_
 refine X6 Tryz.call213 (U9 (eM (d2 10 40 rfl rfl)) (eM (d2 13 43 rfl rfl))) rfl (Ya4 g2  hS) ?_
 rintro _ _ _ g6 hS rfl
 exact qn g6 rfl hS rfl
 intro _ _ _ _ _ hS _ e7 hcq
 refine Y4 rfl rfl (bT a5 (eM (e7 2 32 rfl rfl))) ?_
 refine Yg8 (k := .i64) (a := b3) (b := 0) (eM (e7 14 44 rfl rfl)) rfl rfl ?_
 exact qn (.refl _) rfl hS rfl
 exact X2 fun S V => V0 (t := true) (vB (decide (0 ≤ b3))) (bT a5 (eM (V 2 32 rfl rfl))) ((if_pos rfl).trans (eM (V 15 45 rfl rfl))) rfl (qz S)
 intro h5 h6 f5 d3 hS b6 g7 hcq
 have hS : St f5 h6 ([(b9, cA (Z7 .u8 ((rd a1 a3).1) ++ [vI ((rd a1 a3).2)]) 78)] ++ ([(b1, cA ([s1]) 45)] ++ L)) := hS
 have Z3 := Z3.trans d3
 have a9 := a9.mono d3
 have a7 := a7.mono d3
 have f6 : tv h5 46 = vB (decide (0 ≤ b3)) := g7 16 46 (by decide) rfl
 refine Z1 ?_
 obtain ⟨d4, a4⟩ | ⟨d4, a4⟩ := ic a4
 refine Y0 (bT d4 (by exact f6)) (Z2 (Z0 (Z5 (vB false) rfl rfl (Z1 ?_))))
 refine X0 (vs := [vB false]) Tryz.func121 ⟨rfl, trivial⟩ ?_
 obtain rfl := oi a4
 dsimp only [Ex.elim] at b8
 obtain rfl := oi b8
 exact ⟨_, _, rfl, Z3, (St.dropA (St.dropA hS)), rfl⟩
 refine Z8 (bF d4 (by exact f6)) (Y8 (X4 (Z0 ?_)))
 refine W8 (a3 + 1) (by exact (evT (b6 14 rfl) c7)) rfl (IntWalk.i64_in _ (by omega)) rfl (Z4 (vI (a3 + 1)) rfl rfl (Z1 ?_))
 have hS := St.dropA hS
 exact h2 _ _ ⟨(a3 + 1), f5, a4, Z3, hS, (by omega), a9, a7, (evT (b6 0 rfl) d8), (evT (b6 3 rfl) c2), (evT (b6 12 rfl) c5), (evT (b6 13 rfl) c6), rfl⟩
 refine U1 17 (P0 [mE 30 (vI a3), mE 31 (vB (decide (0 < a3))), mE 32 (vB (decide (0 < a3))), mE 33 (undef), mE 34 (undef), mE 35 (undef), mE 36 (undef), mE 37 (undef), mE 38 (undef), mE 39 (undef), mE 40 (undef), mE 41 (undef), mE 42 (undef), mE 43 (undef), mE 44 (undef), mE 45 (undef), mE 46 (vB false)]) [] mixed rfl rfl rfl hS (Z6 rfl ?_ (Z6 rfl ?_ (Z6 rfl ?_ (Z6 rfl ?_ (Z6 rfl ?_ (Z6 rfl ?_ (Z6 rfl ?_ (Z6 rfl ?_ (Z6 rfl ?_ (Z6 rfl ?_ (Z6 rfl ?_ (Z6 rfl ?_ (Z6 rfl ?_ (Z6 rfl ?_ (Z6 rfl ?_ (Z6 rfl ?_ (Z6 rfl ?_ U7))))))))))))))))) ?_
 exact W5 fun S B => Z4 (vI a3) (evT (B 5 rfl) c3) rfl (qz S)
 exact X2 fun S V => Zi5 (k := .i64) (a := a3) (b := 0) (eM (V 0 30 rfl rfl)) rfl rfl (qz S)
 exact X2 fun S V => Z4 (vB (decide (0 < a3))) (eM (V 1 31 rfl rfl)) rfl (qz S)
 exact X2 fun S V => Y1 rfl rfl (bF a5 (eM (V 2 32 rfl rfl))) rfl rfl rfl (qz S)
 exact X2 fun S V => Y1 rfl rfl (bF a5 (eM (V 2 32 rfl rfl))) rfl rfl rfl (qz S)
 exact X2 fun S V => Y1 rfl rfl (bF a5 (eM (V 2 32 rfl rfl))) rfl rfl rfl (qz S)
 exact X2 fun S V => Y1 rfl rfl (bF a5 (eM (V 2 32 rfl rfl))) rfl rfl rfl (qz S)
 exact X2 fun S V => Y1 rfl rfl (bF a5 (eM (V 2 32 rfl rfl))) rfl rfl rfl (qz S)
 exact X2 fun S V => Y1 rfl rfl (bF a5 (eM (V 2 32 rfl rfl))) rfl rfl rfl (qz S)
 exact X2 fun S V => Y1 rfl rfl (bF a5 (eM (V 2 32 rfl rfl))) rfl rfl rfl (qz S)
 exact X2 fun S V => Y1 rfl rfl (bF a5 (eM (V 2 32 rfl rfl))) rfl rfl rfl (qz S)
 exact X2 fun S V => Y1 rfl rfl (bF a5 (eM (V 2 32 rfl rfl))) rfl rfl rfl (qz S)
 exact X2 fun S V => Y1 rfl rfl (bF a5 (eM (V 2 32 rfl rfl))) rfl rfl rfl (qz S)
 exact X2 fun S V => Y1 rfl rfl (bF a5 (eM (V 2 32 rfl rfl))) rfl rfl rfl (qz S)
 exact X2 fun S V => Y1 rfl rfl (bF a5 (eM (V 2 32 rfl rfl))) rfl rfl rfl (qz S)
 exact X2 fun S V => Y1 rfl rfl (bF a5 (eM (V 2 32 rfl rfl))) rfl rfl rfl (qz S)
 exact X2 fun S V => V0 (t := false) (vB false) (bF a5 (eM (V 2 32 rfl rfl))) ((if_neg Bool.false_ne_true).trans rfl) rfl (qz S)
 intro _ h7 f7 d5 hS b7 g8 hcq
 have hS : St f7 h7 ([(b9, cA (Z7 .u8 ((rd a1 a3).1) ++ [vI ((rd a1 a3).2)]) 78)] ++ ([(b1, cA ([s1]) 45)] ++ L)) := hS
 have Z3 := Z3.trans d5
 have a9 := a9.mono d5
 have a7 := a7.mono d5
 refine Z1 (Z8 (by exact (eM (g8 16 46 (by decide) rfl))) (Y8 (X4 (Z0 ?_))))
 refine W8 (a3 + 1) (by exact (evT (b7 14 rfl) c7)) rfl (IntWalk.i64_in _ (by omega)) rfl (Z4 (vI (a3 + 1)) rfl rfl (Z1 ?_))
 have hS := St.dropA hS
 exact h2 _ _ ⟨(a3 + 1), f7, a4, Z3, hS, (by omega), a9, a7, (evT (b7 0 rfl) d8), (evT (b7 3 rfl) c2), (evT (b7 12 rfl) c5), (evT (b7 13 rfl) c6), rfl⟩
 intro h3
 refine Z0 (Z4 (s0) (by exact c0) rfl (Y2 M1 rfl rfl ?_))
 refine W9 (Z7 .u8 ((rd a1 a3).1)) M2 rfl (hS.get (o := cA (Z7 .u8 ((rd a1 a3).1) ++ [vI ((rd a1 a3).2)]) 78) mL) rfl (fun j hj => Zm0 ([]) (Z7 .u8 ((rd a1 a3).1)) (([vI ((rd a1 a3).2)])) j hj) rfl ?_
 obtain ⟨c9, g9, a6⟩ := bind_some a6
 refine X6 Tryz.call211 (U9 rfl rfl) rfl (Yt1 g9 a9 hS) ?_
 rintro _ h8 _ d6 hS rfl
 have Z3 := Z3.trans d6
 have a9 := a9.mono d6
 have a7 := a7.mono d6
 refine K9 (b := c9) rfl rfl (Z4 (vB (!c9)) rfl rfl ?_)
 obtain ⟨a8, a6⟩ | ⟨a8, a6⟩ := ic a6
 refine Y4 rfl rfl (Eq.trans rfl (congrArg (fun b => vB (!b)) a8)) (Y2 Ze2 rfl rfl ?_)
 refine Y4 rfl rfl (Eq.trans rfl (congrArg (fun b => vB (!b)) a8)) ?_
 refine Y3 (vI ((rd a1 a3).2)) ty2 rfl (hS.get mL) rfl rfl ?_
 obtain ⟨c1, h0, a6⟩ := bind_some a6
 refine Y4 rfl rfl (Eq.trans rfl (congrArg (fun b => vB (!b)) a8)) ?_
 refine X6 Tryz.call212 (S2 rfl) rfl (Yy6 h0  hS) ?_
 rintro _ h9 _ d7 hS rfl
 have Z3 := Z3.trans d7
 have a9 := a9.mono d7
 have a7 := a7.mono d7
 refine Y4 rfl rfl (Eq.trans rfl (congrArg (fun b => vB (!b)) a8)) (K9 (b := c1) rfl rfl ?_)
 refine V0 (t := false) (vB (!c1)) (Eq.trans rfl (congrArg (fun b => vB (!b)) a8)) ((if_neg Bool.false_ne_true).trans rfl) rfl (Z1 ?_)
 exact h3 _ _ ⟨(!c1), h9, a6, Z3, hS, a9, a7, c0, c4, rfl, rfl, b4, b5, b0, rfl⟩
 refine Y1 rfl rfl (Eq.trans rfl (congrArg (fun b => vB (!b)) (X8 a8))) rfl rfl rfl (Y1 rfl rfl (Eq.trans rfl (congrArg (fun b => vB (!b)) (X8 a8))) rfl rfl rfl (Y1 rfl rfl (Eq.trans rfl (congrArg (fun b => vB (!b)) (X8 a8))) rfl rfl rfl (Y1 rfl rfl (Eq.trans rfl (congrArg (fun b => vB (!b)) (X8 a8))) rfl rfl rfl ?_)))
 refine V0 (t := true) (vB true) (Eq.trans rfl (congrArg (fun b => vB (!b)) (X8 a8))) ((if_pos rfl).trans rfl) rfl (Z1 ?_)
 exact h3 _ _ ⟨true, h8, a6, Z3, hS, a9, a7, c0, c4, rfl, rfl, b4, b5, b0, rfl⟩
 refine Z8 (bF e9 rfl) ?_
 refine W0 rfl ?_
 obtain rfl := oi a6
 exact i0 _ _ ⟨h4, rfl, Z3, hS, a7⟩
 exact ⟨0, H, a6, Z3, hS, (by omega), a9, a7, rfl, rfl, rfl, rfl, rfl⟩
 rintro _ _ ⟨_, rfl, Z3, hS, a7⟩
 dsimp only [Ex.elim] at b8
 refine Z2 (Z0 (Z5 (vB true) rfl rfl (Z1 ?_)))
 refine X0 (vs := [vB true]) Tryz.func121 ⟨rfl, trivial⟩ ?_
 obtain rfl := oi b8
 exact ⟨_, _, rfl, Z3, (St.dropA hS), rfl⟩
def N2 (K : Nat) (a0 : ((List Int) × (List MpT))) (a1 : (List Int)) : Nat → Int → (List Int) → (List Int) → Option (Ex ((List Int) × (List Int)) ((List Int) × (List Int)))
 | 0, _, _, _ => none
 | k + 1, a3, a6, a4 => (if a3 < (a0.1.length : Int) then ((Zh2 K a1 a3).bind fun g4 => (if g4 = true then (if a6.length + ([(-1)]).length ≤ 1099511627776 then N2 K a0 a1 k (a3 + 1) (a6 ++ [(-1)]) a4 else none) else (if a6.length + ([(a4.length : Int)]).length ≤ 1099511627776 then (if a4.length + ([(rd a0.1 a3)]).length ≤ 1099511627776 then N2 K a0 a1 k (a3 + 1) (a6 ++ [(a4.length : Int)]) (a4 ++ [(rd a0.1 a3)]) else none) else none))) else some (.go (a6, a4)))
def Zh0 (K : Nat) (a0 : ((List Int) × (List MpT))) (a1 : (List Int)) : Option ((List Int) × (List Int)) := ((N2 K a0 a1 K 0 ([] : List Int) ([] : List Int)).bind (Ex.elim (fun r => some r) (fun s => (fun (b4 : (List Int)) (b7 : (List Int)) => some (b7, b4)) s.1 s.2)))
theorem Yk2 {a0 : ((List Int) × (List MpT))} {a1 : (List Int)} {r : ((List Int) × (List Int))} (q0 : Zh0 K a0 a1 = some r) (g5 : Zn2 (Zp1 (Y9 (Y6 .i64)) (Y9 (Y9 yT))) H s0 a0) (b9 : Z9 (Y6 .i64) H s1 a1) (hS : St H w L) :
 Calls Tryz.prog 253 #[s0, s1] w (T2 (fun v G => (R.t2 (R.sl (Y6 .i64)) (R.sl (Y6 .i64))).p (G.new H) v r) H L) := by
 obtain ⟨g6, g7, _, _, _, rfl, e9, ⟨_, _, rfl, ⟨c9, rfl, a7⟩, ⟨_, rfl, _⟩⟩, f0⟩ := g5
 have Z3 := Sub.refl H
 refine X3 Tryz.func253 rfl Tryz.ntmps253 rfl ?_
 unfold Zh0 at q0
 refine Z2 (Z0 (Z5 (vN) rfl rfl (Z5 (vN) rfl rfl (Z1 (Z2 (Z0 ?_))))))
 refine Zq2 (τ := (Y6 .i64)) Q0 ze2 rfl hS rfl ?_
 intro u1 _ C3 g8 hS
 refine Zq2 (τ := (Y6 .i64)) Zs6 ze3 rfl hS rfl ?_
 intro u6 _ C8 g9 hS
 refine Z5 (u1) rfl rfl (Z5 (u6) rfl rfl (Z1 (Z2 (Z2 (Z0 (Z4 (vQ g6 g7) rfl rfl (R9 rfl rfl (Y2 R4 rfl rfl ?_))))))))
 refine Y3 (c9) M9 rfl (hS.froz _ _ e9) (f0 0 (show 0 < 2 by decide)) rfl ?_
 have h8 := a7.bound
 refine W7 Q0 rfl a7 rfl (Z4 (vI 0) rfl rfl (Z1 (Y7 ?_)))
 obtain ⟨e1, a9, e2⟩ := bind_some q0
 refine W1 (id := 0) (fun k f w => ∃ (a3 : Int) (a6 : (List Int)) (a4 : (List Int)) (H1 : FH) (b6 : OL) (b0 : Value) (b5 : OL) (b1 : Value), N2 K a0 a1 k a3 a6 a4 = some e1 ∧ Sub H H1 ∧ St H1 w (b6 ++ (b5 ++ L)) ∧ 0 ≤ a3 ∧ W3 (Y6 .i64) 3 H1 b0 a6 b6 ∧ W3 (Y6 .i64) 2 H1 b1 a4 b5 ∧ Z9 (Y6 .i64) H1 s1 a1 ∧ Z9 (Y6 .i64) H1 c9 a0.1 ∧ tv f 1 = s1 ∧ tv f 6 = b1 ∧ tv f 7 = b0 ∧ tv f 15 = c9 ∧ tv f 16 = vI (a0.1.length : Int) ∧ tv f 17 = vI a3) (fun f w => ∃ (b4 : (List Int)) (b7 : (List Int)) (H1 : FH) (c1 : OL) (b2 : Value) (c3 : OL) (b3 : Value), e1 = .go (b4, b7) ∧ Sub H H1 ∧ St H1 w (c1 ++ (c3 ++ L)) ∧ W3 (Y6 .i64) 3 H1 b2 b4 c1 ∧ W3 (Y6 .i64) 2 H1 b3 b7 c3 ∧ tv f 6 = b3 ∧ tv f 7 = b2) rfl ?_ ?_ K ?_ ?_
 rintro f w ⟨a3, a6, a4, H1, b6, b0, b5, b1, a9, _⟩
 rw [N2] at a9; cases a9
 rintro k _ _ e5 h0 ⟨a3, a6, a4, f1, b6, b0, b5, b1, a9, Z3, hS, _, a8, a5, b9, a7, c6, c2, c7, c4, c5, b8⟩
 rw [N2] at a9
 refine Z2 (Z0 ?_)
 refine V5 (k := .i64) (a := a3) (b := (a0.1.length : Int)) (by exact b8) (by exact c5) rfl (Z1 (Z2 ?_))
 obtain ⟨d6, a9⟩ | ⟨d6, a9⟩ := ic a9
 refine Y0 (bT d6 rfl) (Y8 (Z2 (Y7 (Z2 (Z0 (Z4 (vI a3) (by exact b8) rfl ?_))))))
 obtain ⟨_, _, _, _, _, f2, f3, rfl, f4⟩ := a7.elem (i := a3) (by omega) (by omega)
 refine X9 Q0 rfl (by exact c4) f2 (by exact b8) (by omega) (by omega) rfl ?_
 refine Y3 (vI (rd a0.1 a3)) ty2 rfl (hS.froz _ _ f3) (f4 0 (show 0 < 1 by decide)) rfl (Z5 (vI a3) rfl rfl (Z5 (vI (rd a0.1 a3)) rfl rfl (Z1 (Z2 (Z2 (Z0 (Z4 (s1) (by exact c6) rfl (Z4 (vI a3) rfl rfl ?_))))))))
 obtain ⟨_, f5, a9⟩ := bind_some a9
 refine X6 Tryz.call275 (U9 rfl rfl) rfl (Yf1 f5 b9 hS) ?_
 rintro _ _ _ d0 hS rfl
 have Z3 := Z3.trans d0
 have b9 := b9.mono d0
 have a7 := a7.mono d0
 have a5 := a5.mono d0
 have a8 := a8.mono d0
 refine Z1 ?_
 obtain ⟨d7, a9⟩ | ⟨d7, a9⟩ := ic a9
 refine Y0 (Eq.trans rfl (congrArg vB d7)) (Z2 (Z0 (Z4 (b0) (by exact c7) rfl ?_)))
 refine D9 (τ := (Y6 .i64)) Zs6 ze3 rfl [vI (-1)] [(-1)] rfl rfl (K6 rfl) (Zi6 rfl) (by decide) (by decide) hS rfl ?_
 intro _ h1 _ d1 hS f6
 have Z3 := Z3.trans d1
 have b9 := b9.mono d1
 have a7 := a7.mono d1
 have a5 := a5.mono d1
 have a8 := a8.mono d1
 obtain ⟨f7, a9⟩ := gd a9
 refine N5 (τ := (Y6 .i64)) Wt8 rfl rfl rfl a8 hS f6 f7 rfl ?_
 intro e6 _ h2 f8 hS
 refine Z5 (e6) rfl rfl (Z1 ?_)
 refine W0 rfl (Z0 ?_)
 refine W8 (a3 + 1) (by exact b8) rfl (IntWalk.i64_in _ (by omega)) rfl (Z4 (vI (a3 + 1)) rfl rfl (Z1 ?_))
 exact e5 _ _ ⟨(a3 + 1), (a6 ++ [(-1)]), a4, h1, h2, e6, b5, b1, a9, Z3, hS, (by omega), f8, a5, b9, a7, c6, c2, rfl, c4, c5, rfl⟩
 refine Z8 (Eq.trans rfl (congrArg vB (X8 d7))) (Y8 (Z2 (Z0 (Z4 (b0) (by exact c7) rfl (Z4 (b1) (by exact c2) rfl ?_)))))
 have h9 := a5.bound
 refine Wq8 Q0 rfl a5 rfl ?_
 refine D9 (τ := (Y6 .i64)) Zs6 ze3 rfl [vI (a4.length : Int)] [(a4.length : Int)] rfl rfl (K6 rfl) (Zi6 rfl) (by decide) (by decide) hS rfl ?_
 intro _ _ _ d2 hS f9
 have Z3 := Z3.trans d2
 have b9 := b9.mono d2
 have a7 := a7.mono d2
 have a5 := a5.mono d2
 have a8 := a8.mono d2
 obtain ⟨g0, a9⟩ := gd a9
 refine N5 (τ := (Y6 .i64)) Wt8 rfl rfl rfl a8 hS f9 g0 rfl ?_
 intro e7 _ h3 d8 hS
 refine Z5 (e7) rfl rfl (Z1 (Z0 (Z4 (b1) (by exact c2) rfl (Z4 (vI (rd a0.1 a3)) rfl rfl ?_))))
 refine D9 (τ := (Y6 .i64)) Q0 ze2 rfl [vI (rd a0.1 a3)] [(rd a0.1 a3)] rfl rfl (K6 rfl) (Zi6 rfl) (by decide) (by decide) hS rfl ?_
 intro _ h4 _ d3 hS g1
 have Z3 := Z3.trans d3
 have b9 := b9.mono d3
 have a7 := a7.mono d3
 have a5 := a5.mono d3
 have d8 := d8.mono d3
 obtain ⟨g2, a9⟩ := gd a9
 have hS := hS.perm V1
 refine N5 (τ := (Y6 .i64)) Xd5 rfl rfl rfl a5 hS g1 g2 rfl ?_
 intro e8 _ h5 g3 hS
 have hS := hS.perm V1.symm
 refine Z5 (e8) rfl rfl (Z1 (X4 (Z0 ?_)))
 refine W8 (a3 + 1) (by exact b8) rfl (IntWalk.i64_in _ (by omega)) rfl (Z4 (vI (a3 + 1)) rfl rfl (Z1 ?_))
 exact e5 _ _ ⟨(a3 + 1), (a6 ++ [(a4.length : Int)]), (a4 ++ [(rd a0.1 a3)]), h4, h3, e7, h5, e8, a9, Z3, hS, (by omega), d8, g3, b9, a7, c6, rfl, rfl, c4, c5, rfl⟩
 refine Z8 (bF d6 rfl) ?_
 refine W0 rfl ?_
 obtain rfl := oi a9
 exact h0 _ _ ⟨a6, a4, f1, b6, b0, b5, b1, rfl, Z3, hS, a8, a5, c2, c7⟩
 exact ⟨0, ([] : List Int), ([] : List Int), H, C8, u6, C3, u1, a9, Z3, hS, (by omega), g9, g8, b9, a7, rfl, rfl, rfl, rfl, rfl, rfl⟩
 rintro _ _ ⟨b4, b7, _, c1, b2, c3, b3, rfl, Z3, hS, c0, d5, d9, e0⟩
 dsimp only [Ex.elim] at e2
 refine Z2 (Z0 (Z4 (b3) (by exact d9) rfl (Z4 (b2) (by exact e0) rfl (Z5 (b3) rfl rfl (Z5 (b2) rfl rfl (Z1 ?_))))))
 refine X0 (vs := [b3, b2]) Tryz.func253 ⟨rfl, rfl, trivial⟩ ?_
 have hS := hS.perm V1
 obtain ⟨h6, e3, hS, c8⟩ := W3.freezeF (τ := (Y6 .i64)) (H0 := H) d5 hS Z3
 have i0 := Z9.old c8
 have c8 : RdF (Y6 .i64) H h6 b3 b7 := c8
 have Z3 := Z3.trans e3
 have c0 := c0.mono e3
 obtain ⟨h7, e4, hS, d4⟩ := W3.freezeF (τ := (Y6 .i64)) (H0 := H) c0 hS Z3
 have i1 := Z9.old d4
 have d4 : RdF (Y6 .i64) H h7 b2 b4 := d4
 have Z3 := Z3.trans e4
 have c8 := c8.mono e4
 obtain rfl := oi e2
 exact ⟨_, _, rfl, Z3, hS, ⟨_, _, rfl, c8, d4⟩⟩
def Zd5 (K : Nat) (r4 : (List (List Int))) (a1 : Int) : Nat → Int → Option (Ex (Int × Int × Bool) (Unit))
 | 0, _ => none
 | k + 1, a3 => (if a3 < (r4.length : Int) then (if a3 < ((rd r4 a1).length : Int) then (if (rd (rd r4 a1) a3) = 0 then Zd5 K r4 a1 k (a3 + 1) else some (.ret (a1, a3, true))) else none) else some (.go ()))
def Zg2 (K : Nat) (r4 : (List (List Int))) : Nat → Int → Option (Ex (Int × Int × Bool) (Unit))
 | 0, _ => none
 | k + 1, a1 => (if a1 < (r4.length : Int) then ((Zd5 K r4 a1 K 0).bind (Ex.elim (fun r => some (.ret r)) (fun s => Zg2 K r4 k (a1 + 1)))) else some (.go ()))
def Zu1 (K : Nat) (a0 : ((List Int) × (List MpT))) : Option (Int × Int × Bool) := ((Zl5 K (a0.1, a0.2)).bind fun r4 => ((Zg2 K r4 K 0).bind (Ex.elim (fun r => some r) (fun s => some (0, 0, false)))))
theorem Xb6 {a0 : ((List Int) × (List MpT))} {r : (Int × Int × Bool)} (q0 : Zu1 K a0 = some r) (a6 : Z9 (Y6 .i64) H s0 a0.1) (a7 : Z9 (Y9 yT) H s1 a0.2) (hS : St H w L) :
 Calls Tryz.prog 179 #[vA ([s0] ++ [s1])] w (T2 (fun v G => (R.t3 (R.int .i64) (R.int .i64) R.bool).p G v r) H L) := by
 have Z3 := Sub.refl H
 refine X3 Tryz.func179 rfl Tryz.ntmps179 rfl ?_
 unfold Zu1 at q0
 refine Z2 (Z0 ?_)
 refine S3 (v := vA ([s0] ++ [s1])) ([s0] ++ [s1]).toArray rfl rfl hS rfl ?_
 intro b1 _ hS
 refine Z5 (vI 0) rfl rfl (Z5 (vI 0) rfl rfl (Z5 (vB false) rfl rfl (Z1 (Z2 (Z0 ?_)))))
 refine X7 S5 rfl (hS.get mL) rfl rfl ?_
 obtain ⟨r4, d5, q0⟩ := bind_some q0
 refine X6 Tryz.call243 (S2 rfl) rfl (Yf2 d5 a6 a7 hS) ?_
 rintro v4 H4 _ c0 hS a8
 have Z3 := Z3.trans c0
 have a6 := a6.mono c0
 have a7 := a7.mono c0
 refine Z5 (v4) rfl rfl (Z1 (Z2 (Z2 (Z0 (Z5 (vI 0) rfl rfl (Z1 (Y7 ?_)))))))
 obtain ⟨c1, a5, b5⟩ := bind_some q0
 refine W1 (id := 0) (fun k f w => ∃ (a1 : Int) (H1 : FH), Zg2 K r4 k a1 = some c1 ∧ Sub H H1 ∧ St H1 w ([(b1, cA ([s0] ++ [s1]) 31)] ++ L) ∧ 0 ≤ a1 ∧ Z9 (Y6 .i64) H1 s0 a0.1 ∧ Z9 (Y9 yT) H1 s1 a0.2 ∧ Z9 (Y9 (Y6 .i64)) H1 v4 r4 ∧ tv f 5 = v4 ∧ tv f 6 = vI a1) (fun f w => ∃ (H1 : FH), c1 = .go () ∧ Sub H H1 ∧ St H1 w ([(b1, cA ([s0] ++ [s1]) 31)] ++ L) ∧ Z9 (Y6 .i64) H1 s0 a0.1 ∧ Z9 (Y9 yT) H1 s1 a0.2) rfl ?_ ?_ K ?_ ?_
 rintro f w ⟨a1, H1, a5, _⟩
 rw [Zg2] at a5; cases a5
 rintro k _ _ d6 d7 ⟨a1, c2, a5, Z3, hS, _, a6, a7, a8, b3, b4⟩
 rw [Zg2] at a5
 refine Z2 (Z2 (Z0 (Z4 (vI a1) (by exact b4) rfl (Z4 (v4) (by exact b3) rfl ?_))))
 have e1 := a8.bound
 refine W7 Yg7 rfl a8 rfl ?_
 refine V5 (k := .i64) (a := a1) (b := (r4.length : Int)) rfl rfl rfl (Z1 ?_)
 obtain ⟨c3, a5⟩ | ⟨c3, a5⟩ := ic a5
 refine Y0 (bT c3 rfl) (Y8 (Z2 (Y7 (Z2 (Z0 (Z5 (vI 0) rfl rfl (Z1 (Y7 ?_))))))))
 obtain ⟨c4, a4, b6⟩ := bind_some a5
 refine W1 (id := 2) (fun k f w => ∃ (a3 : Int) (H1 : FH), Zd5 K r4 a1 k a3 = some c4 ∧ Sub H H1 ∧ St H1 w ([(b1, cA ([s0] ++ [s1]) 31)] ++ L) ∧ 0 ≤ a3 ∧ Z9 (Y6 .i64) H1 s0 a0.1 ∧ Z9 (Y9 yT) H1 s1 a0.2 ∧ Z9 (Y9 (Y6 .i64)) H1 v4 r4 ∧ tv f 5 = v4 ∧ tv f 6 = vI a1 ∧ tv f 7 = vI a3) (fun f w => ∃ (H1 : FH), c4 = .go () ∧ Sub H H1 ∧ St H1 w ([(b1, cA ([s0] ++ [s1]) 31)] ++ L) ∧ Z9 (Y6 .i64) H1 s0 a0.1 ∧ Z9 (Y9 yT) H1 s1 a0.2 ∧ Z9 (Y9 (Y6 .i64)) H1 v4 r4 ∧ tv f 5 = v4 ∧ tv f 6 = vI a1) rfl ?_ ?_ K ?_ ?_
 rintro f w ⟨a3, H1, a4, _⟩
 rw [Zd5] at a4; cases a4
 rintro k _ _ d8 d9 ⟨a3, c5, a4, Z3, hS, _, a6, a7, a8, a9, b0, b2⟩
 rw [Zd5] at a4
 refine Z2 (Z2 (Z0 (Z4 (vI a3) (by exact b2) rfl (Z4 (v4) (by exact a9) rfl ?_))))
 have e2 := a8.bound
 refine W7 Yg7 rfl a8 rfl ?_
 refine V5 (k := .i64) (a := a3) (b := (r4.length : Int)) rfl rfl rfl (Z1 ?_)
 obtain ⟨c6, a4⟩ | ⟨c6, a4⟩ := ic a4
 refine Y0 (bT c6 rfl) (Y8 (Z2 (Y7 (Z2 (Z0 (Z4 (v4) (by exact a9) rfl (Z4 (vI a1) (by exact b0) rfl ?_)))))))
 obtain ⟨_, _, _, _, _, c7, c8, ⟨e0, rfl, c9⟩, d0⟩ := a8.elem (i := a1) (by omega) (by omega)
 refine X9 Yg7 rfl rfl c7 rfl (by omega) (by omega) rfl ?_
 refine Y3 (e0) M9 rfl (hS.froz _ _ c8) (d0 0 (show 0 < 1 by decide)) rfl (Z4 (vI a3) (by exact b2) rfl ?_)
 obtain ⟨_, a4⟩ := gd a4
 obtain ⟨_, _, _, _, _, d1, d2, rfl, d3⟩ := c9.elem (i := a3) (by omega) (by omega)
 refine X9 Q0 rfl rfl d1 rfl (by omega) (by omega) rfl ?_
 refine Y3 (vI (rd (rd r4 a1) a3)) ty2 rfl (hS.froz _ _ d2) (d3 0 (show 0 < 1 by decide)) rfl ?_
 refine L7 (k := .i64) (a := (rd (rd r4 a1) a3)) (b := 0) rfl rfl rfl (Z1 ?_)
 obtain ⟨b7, a4⟩ | ⟨b7, a4⟩ := ic a4
 refine Z8 (bN b7 rfl) (Y8 (X4 (Z0 (Z4 (vI a3) (by exact b2) rfl ?_))))
 refine W8 (a3 + 1) rfl rfl (IntWalk.i64_in _ (by omega)) rfl (Z5 (vI (a3 + 1)) rfl rfl (Z1 ?_))
 exact d8 _ _ ⟨(a3 + 1), c5, a4, Z3, hS, (by omega), a6, a7, a8, a9, b0, rfl⟩
 refine Y0 (bO b7 rfl) (Z2 (Z0 (Z4 (vI a1) (by exact b0) rfl (Z4 (vI a3) (by exact b2) rfl (Z5 (vI a1) rfl rfl (Z5 (vI a3) rfl rfl (Z5 (vB true) rfl rfl (Z1 ?_))))))))
 refine X0 (vs := [vI a1, vI a3, vB true]) Tryz.func179 ⟨rfl, rfl, rfl, trivial⟩ ?_
 obtain rfl := oi a4
 dsimp only [Ex.elim] at b6
 obtain rfl := oi b6
 dsimp only [Ex.elim] at b5
 obtain rfl := oi b5
 exact ⟨_, _, rfl, Z3, (St.dropA hS), ⟨_, _, _, rfl, rfl, rfl, rfl⟩⟩
 refine Z8 (bF c6 rfl) ?_
 refine W0 rfl ?_
 obtain rfl := oi a4
 exact d9 _ _ ⟨c5, rfl, Z3, hS, a6, a7, a8, a9, b0⟩
 exact ⟨0, c2, a4, Z3, hS, (by omega), a6, a7, a8, b3, b4, rfl⟩
 rintro _ _ ⟨d4, rfl, Z3, hS, a6, a7, a8, b8, b9⟩
 dsimp only [Ex.elim] at b6
 refine X4 (Z0 (Z4 (vI a1) (by exact b9) rfl ?_))
 refine W8 (a1 + 1) rfl rfl (IntWalk.i64_in _ (by omega)) rfl (Z5 (vI (a1 + 1)) rfl rfl (Z1 ?_))
 exact d6 _ _ ⟨(a1 + 1), d4, b6, Z3, hS, (by omega), a6, a7, a8, b8, rfl⟩
 refine Z8 (bF c3 rfl) ?_
 refine W0 rfl ?_
 obtain rfl := oi a5
 exact d7 _ _ ⟨c2, rfl, Z3, hS, a6, a7⟩
 exact ⟨0, H4, a5, Z3, hS, (by omega), a6, a7, a8, rfl, rfl⟩
 rintro _ _ ⟨_, rfl, Z3, hS, a6, a7⟩
 dsimp only [Ex.elim] at b5
 refine Z2 (Z0 (Z5 (vI 0) rfl rfl (Z5 (vI 0) rfl rfl (Z5 (vB false) rfl rfl (Z1 ?_)))))
 refine X0 (vs := [vI 0, vI 0, vB false]) Tryz.func179 ⟨rfl, rfl, rfl, trivial⟩ ?_
 obtain rfl := oi b5
 exact ⟨_, _, rfl, Z3, (St.dropA hS), ⟨_, _, _, rfl, rfl, rfl, rfl⟩⟩
def F8 (K : Nat) (a0 : MpT) (a1 : MpT) : Nat → Int → Option (Ex Bool (Unit))
 | 0, _ => none
 | k + 1, a3 => (if a3 < (a0.length : Int) then (if a3 < (a1.length : Int) then ((Zx0 K ((rd a0 a3).1, (rd a0 a3).2) ((rd a1 a3).1, (rd a1 a3).2)).bind fun a7 => (if a7 = true then F8 K a0 a1 k (a3 + 1) else some (.ret false))) else none) else some (.go ()))
def Zu2 (K : Nat) (a0 : MpT) (a1 : MpT) : Option Bool := (if (a0.length : Int) = (a1.length : Int) then ((F8 K a0 a1 K 0).bind (Ex.elim (fun r => some r) (fun s => some true))) else some false)
theorem Xb7 {a0 : MpT} {a1 : MpT} {r : Bool} (q0 : Zu2 K a0 a1 = some r) (a6 : Z9 yT H s0 a0) (a9 : Z9 yT H s1 a1) (hS : St H w L) :
 Calls Tryz.prog 94 #[s0, s1] w (T2 (fun v G => R.bool.p G v r) H L) := by
 have Z3 := Sub.refl H
 refine X3 Tryz.func94 rfl Tryz.ntmps94 rfl ?_
 unfold Zu2 at q0
 refine Z2 (Z0 (Z5 (vB false) rfl rfl (Z1 (Z2 (Z2 (Z0 (Z4 (s0) rfl rfl ?_)))))))
 have d9 := a6.bound
 refine W7 R7 rfl a6 rfl (Z4 (s1) rfl rfl ?_)
 have e0 := a9.bound
 refine W7 R7 rfl a9 rfl ?_
 refine L7 (k := .i64) (a := (a0.length : Int)) (b := (a1.length : Int)) rfl rfl rfl (Z1 ?_)
 obtain ⟨b5, q0⟩ | ⟨b5, q0⟩ := ic q0
 refine Z8 (bN b5 rfl) (Y8 (Z2 (Z2 (Z0 (Z5 (vI 0) rfl rfl (Z1 (Y7 ?_)))))))
 obtain ⟨b6, a4, b1⟩ := bind_some q0
 refine W1 (id := 0) (fun k f w => ∃ (a3 : Int) (H1 : FH), F8 K a0 a1 k a3 = some b6 ∧ Sub H H1 ∧ St H1 w (L) ∧ 0 ≤ a3 ∧ Z9 yT H1 s0 a0 ∧ Z9 yT H1 s1 a1 ∧ tv f 0 = s0 ∧ tv f 1 = s1 ∧ tv f 5 = vI a3) (fun f w => ∃ (H1 : FH), b6 = .go () ∧ Sub H H1 ∧ St H1 w (L)) rfl ?_ ?_ K ?_ ?_
 rintro f w ⟨a3, H1, a4, _⟩
 rw [F8] at a4; cases a4
 rintro k _ _ d3 d4 ⟨a3, c4, a4, Z3, hS, _, a6, a9, a8, b0, a5⟩
 rw [F8] at a4
 refine Z2 (Z2 (Z0 (Z4 (vI a3) (by exact a5) rfl (Z4 (s0) (by exact a8) rfl ?_))))
 have e1 := a6.bound
 refine W7 R7 rfl a6 rfl ?_
 refine V5 (k := .i64) (a := a3) (b := (a0.length : Int)) rfl rfl rfl (Z1 ?_)
 obtain ⟨b7, a4⟩ | ⟨b7, a4⟩ := ic a4
 refine Y0 (bT b7 rfl) (Y8 (Z2 (Y7 (Z2 ?_))))
 obtain ⟨d5, d6, _, _, _, c5, c6, ⟨_, _, rfl, rfl, rfl⟩, c7⟩ := a6.elem (i := a3) (by omega) (by omega)
 obtain ⟨_, a4⟩ := gd a4
 obtain ⟨d7, d8, _, _, _, c8, c9, ⟨_, _, rfl, rfl, rfl⟩, d0⟩ := a9.elem (i := a3) (by omega) (by omega)
 obtain ⟨a7, c1, a4⟩ := bind_some a4
 refine U1 10 (P0 [mE 17 (s0), mE 18 (vI a3), mE 19 (vQ d5 d6), mE 20 (vA (Z7 .u8 ((rd a0 a3).1) ++ [vI ((rd a0 a3).2)])), mE 21 (s1), mE 22 (vI a3), mE 23 (vQ d7 d8), mE 24 (vA (Z7 .u8 ((rd a1 a3).1) ++ [vI ((rd a1 a3).2)])), mE 25 (vB a7), mE 26 (vB (!a7))]) [] mixed rfl rfl rfl hS (Z6 rfl ?_ (Z6 rfl ?_ (Z6 rfl ?_ (Z6 rfl ?_ (Z6 rfl ?_ (Z6 rfl ?_ (Z6 rfl ?_ (Z6 rfl ?_ (Z6 rfl ?_ (Z6 rfl ?_ U7)))))))))) ?_
 exact W5 fun S B => Z4 (s0) (evT (B 0 rfl) a8) rfl (qz S)
 exact W5 fun S B => Z4 (vI a3) (evT (B 5 rfl) a5) rfl (qz S)
 exact X2 fun S V => X9 R7 rfl (eM (V 0 17 rfl rfl)) c5 (eM (V 1 18 rfl rfl)) (by omega) (by omega) rfl (qz S)
 exact E6 fun s S V => W9 (Z7 .u8 ((rd a0 a3).1) ++ [vI ((rd a0 a3).2)]) Zt9 (eM (V 2 19 rfl rfl)) (S.froz _ _ (s.1 _ _ c6)) rfl c7 rfl (qz S)
 exact W5 fun S B => Z4 (s1) (evT (B 1 rfl) b0) rfl (qz S)
 exact W5 fun S B => Z4 (vI a3) (evT (B 5 rfl) a5) rfl (qz S)
 exact X2 fun S V => X9 R7 rfl (eM (V 4 21 rfl rfl)) c8 (eM (V 5 22 rfl rfl)) (by omega) (by omega) rfl (qz S)
 exact E6 fun s S V => W9 (Z7 .u8 ((rd a1 a3).1) ++ [vI ((rd a1 a3).2)]) Zt9 (eM (V 6 23 rfl rfl)) (S.froz _ _ (s.1 _ _ c9)) rfl d0 rfl (qz S)
 intro _ _ _ _ _ hS _ b8 hcq
 refine X6 Tryz.call168 (U9 (eM (b8 3 20 rfl rfl)) (eM (b8 7 24 rfl rfl))) rfl (Xg5 c1  hS) ?_
 rintro _ _ _ c2 hS rfl
 exact qn c2 rfl hS rfl
 exact X2 fun S V => K9 (b := a7) (eM (V 8 25 rfl rfl)) rfl (qz S)
 intro d1 d2 b9 b2 hS b3 c3 hcq
 have hS : St b9 d2 (L) := hS
 have Z3 := Z3.trans b2
 have a6 := a6.mono b2
 have a9 := a9.mono b2
 have c0 : tv d1 26 = vB (!a7) := c3 9 26 (by decide) rfl
 refine Z1 ?_
 obtain ⟨b4, a4⟩ | ⟨b4, a4⟩ := ic a4
 refine Z8 (Eq.trans (by exact c0) (congrArg (fun b => vB (!b)) b4)) (Y8 (X4 (Z0 (Z4 (vI a3) (by exact (evT (b3 5 rfl) a5)) rfl ?_))))
 refine W8 (a3 + 1) rfl rfl (IntWalk.i64_in _ (by omega)) rfl (Z5 (vI (a3 + 1)) rfl rfl (Z1 ?_))
 exact d3 _ _ ⟨(a3 + 1), b9, a4, Z3, hS, (by omega), a6, a9, (evT (b3 0 rfl) a8), (evT (b3 1 rfl) b0), rfl⟩
 refine Y0 (Eq.trans (by exact c0) (congrArg (fun b => vB (!b)) (X8 b4))) (Z2 (Z0 (Z5 (vB false) rfl rfl (Z1 ?_))))
 refine X0 (vs := [vB false]) Tryz.func94 ⟨rfl, trivial⟩ ?_
 obtain rfl := oi a4
 dsimp only [Ex.elim] at b1
 obtain rfl := oi b1
 exact ⟨_, _, rfl, Z3, hS, rfl⟩
 refine Z8 (bF b7 rfl) ?_
 refine W0 rfl ?_
 obtain rfl := oi a4
 exact d4 _ _ ⟨c4, rfl, Z3, hS⟩
 exact ⟨0, H, a4, Z3, hS, (by omega), a6, a9, rfl, rfl, rfl⟩
 rintro _ _ ⟨_, rfl, Z3, hS⟩
 dsimp only [Ex.elim] at b1
 refine Z2 (Z0 (Z5 (vB true) rfl rfl (Z1 ?_)))
 refine X0 (vs := [vB true]) Tryz.func94 ⟨rfl, trivial⟩ ?_
 obtain rfl := oi b1
 exact ⟨_, _, rfl, Z3, hS, rfl⟩
 refine Y0 (bO b5 rfl) (Z2 (Z0 (Z5 (vB false) rfl rfl (Z1 ?_))))
 refine X0 (vs := [vB false]) Tryz.func94 ⟨rfl, trivial⟩ ?_
 obtain rfl := oi q0
 exact ⟨_, _, rfl, Z3, hS, rfl⟩
def Zd1 (K : Nat) (a0 : (List MpT)) : Nat → Int → Int → Option (Ex Int (Int))
 | 0, _, _ => none
 | k + 1, a5, a3 => (if a3 < (a0.length : Int) then ((Zx1 K (rd a0 a3) a5).bind fun r6 => (if r6 < 0 then some (.ret (-1)) else Zd1 K a0 k r6 (a3 + 1))) else some (.go a5))
def Zz8 (K : Nat) (a0 : (List MpT)) (a1 : Int) : Option Int := (if (IntKind.i64.wrap (a1 - (a0.length : Int))) < 0 then some (-1) else ((Zd1 K a0 K (IntKind.i64.wrap (a1 - (a0.length : Int))) 0).bind (Ex.elim (fun r => some r) (fun s => (fun (a6 : Int) => some a6) s))))
theorem Xb8 {a0 : (List MpT)} {a1 : Int} {r : Int} (q0 : Zz8 K a0 a1 = some r) (a7 : Z9 (Y9 yT) H s0 a0) (hS : St H w L) :
 Calls Tryz.prog 67 #[s0, vI a1] w (T2 (fun v G => (R.int .i64).p G v r) H L) := by
 have Z3 := Sub.refl H
 refine X3 Tryz.func67 rfl Tryz.ntmps67 rfl ?_
 unfold Zz8 at q0
 refine Z2 (Z0 (Z5 (vI 0) rfl rfl (Z1 (Z2 (Z0 (Z4 (vI a1) rfl rfl (Z4 (s0) rfl rfl ?_)))))))
 have c7 := a7.bound
 refine W7 Xl8 rfl a7 rfl ?_
 refine Yg5 (IntKind.i64.wrap (a1 - (a0.length : Int))) rfl rfl rfl rfl (Z5 (vI (IntKind.i64.wrap (a1 - (a0.length : Int)))) rfl rfl (Z1 (Z2 (Z2 (Z0 (Z4 (vI (IntKind.i64.wrap (a1 - (a0.length : Int)))) rfl rfl ?_))))))
 refine V5 (k := .i64) (a := (IntKind.i64.wrap (a1 - (a0.length : Int)))) (b := 0) rfl rfl rfl (Z1 ?_)
 obtain ⟨b3, q0⟩ | ⟨b3, q0⟩ := ic q0
 refine Y0 (bT b3 rfl) (Z2 (Z0 (Z5 (vI (-1)) rfl rfl (Z1 ?_))))
 refine X0 (vs := [vI (-1)]) Tryz.func67 ⟨rfl, trivial⟩ ?_
 obtain rfl := oi q0
 exact ⟨_, _, rfl, Z3, hS, rfl⟩
 refine Z8 (bF b3 rfl) (Y8 (Z2 (Z2 (Z0 (Z5 (vI 0) rfl rfl (Z1 (Y7 ?_)))))))
 obtain ⟨b4, a4, b1⟩ := bind_some q0
 refine W1 (id := 0) (fun k f w => ∃ (a5 : Int) (a3 : Int) (H1 : FH), Zd1 K a0 k a5 a3 = some b4 ∧ Sub H H1 ∧ St H1 w (L) ∧ 0 ≤ a3 ∧ Z9 (Y9 yT) H1 s0 a0 ∧ tv f 0 = s0 ∧ tv f 1 = vI a5 ∧ tv f 5 = vI a3) (fun f w => ∃ (a6 : Int) (H1 : FH), b4 = .go a6 ∧ Sub H H1 ∧ St H1 w (L) ∧ tv f 1 = vI a6) rfl ?_ ?_ K ?_ ?_
 rintro f w ⟨a5, a3, H1, a4, _⟩
 rw [Zd1] at a4; cases a4
 rintro k _ _ c1 c2 ⟨a5, a3, b9, a4, Z3, hS, _, a7, a8, b0, a9⟩
 rw [Zd1] at a4
 refine Z2 (Z2 (Z0 (Z4 (vI a3) (by exact a9) rfl (Z4 (s0) (by exact a8) rfl ?_))))
 have c8 := a7.bound
 refine W7 Xl8 rfl a7 rfl ?_
 refine V5 (k := .i64) (a := a3) (b := (a0.length : Int)) rfl rfl rfl (Z1 ?_)
 obtain ⟨b5, a4⟩ | ⟨b5, a4⟩ := ic a4
 refine Y0 (bT b5 rfl) (Y8 (Z2 (Y7 (Z2 (Z0 (Z4 (s0) (by exact a8) rfl (Z4 (vI a3) (by exact a9) rfl ?_)))))))
 obtain ⟨_, _, _, _, _, c3, c4, ⟨c0, rfl, b7⟩, c5⟩ := a7.elem (i := a3) (by omega) (by omega)
 refine X9 Xl8 rfl rfl c3 rfl (by omega) (by omega) rfl ?_
 refine W9 ([c0]) Vf9 rfl (hS.froz _ _ c4) rfl c5 rfl (Z4 (vI a5) (by exact b0) rfl ?_)
 obtain ⟨r6, c6, a4⟩ := bind_some a4
 refine X6 Tryz.call24 (U9 rfl rfl) rfl (Xg7 c6 b7 hS) ?_
 rintro _ H6 _ b8 hS rfl
 have Z3 := Z3.trans b8
 have a7 := a7.mono b8
 refine Z5 (vI r6) rfl rfl (Z1 (Z2 (Z0 (Z4 (vI r6) rfl rfl ?_))))
 refine V5 (k := .i64) (a := r6) (b := 0) rfl rfl rfl (Z1 ?_)
 obtain ⟨b6, a4⟩ | ⟨b6, a4⟩ := ic a4
 refine Y0 (bT b6 rfl) (Z2 (Z0 (Z5 (vI (-1)) rfl rfl (Z1 ?_))))
 refine X0 (vs := [vI (-1)]) Tryz.func67 ⟨rfl, trivial⟩ ?_
 obtain rfl := oi a4
 dsimp only [Ex.elim] at b1
 obtain rfl := oi b1
 exact ⟨_, _, rfl, Z3, hS, rfl⟩
 refine Z8 (bF b6 rfl) (Y8 (X4 (Z0 (Z4 (vI a3) (by exact a9) rfl ?_))))
 refine W8 (a3 + 1) rfl rfl (IntWalk.i64_in _ (by omega)) rfl (Z5 (vI (a3 + 1)) rfl rfl (Z1 ?_))
 exact c1 _ _ ⟨r6, (a3 + 1), H6, a4, Z3, hS, (by omega), a7, a8, rfl, rfl⟩
 refine Z8 (bF b5 rfl) ?_
 refine W0 rfl ?_
 obtain rfl := oi a4
 exact c2 _ _ ⟨a5, b9, rfl, Z3, hS, b0⟩
 exact ⟨(IntKind.i64.wrap (a1 - (a0.length : Int))), 0, H, a4, Z3, hS, (by omega), a7, rfl, rfl, rfl⟩
 rintro _ _ ⟨a6, _, rfl, Z3, hS, b2⟩
 dsimp only [Ex.elim] at b1
 refine Z2 (Z0 (Z4 (vI a6) (by exact b2) rfl (Z5 (vI a6) rfl rfl (Z1 ?_))))
 refine X0 (vs := [vI a6]) Tryz.func67 ⟨rfl, trivial⟩ ?_
 obtain rfl := oi b1
 exact ⟨_, _, rfl, Z3, hS, rfl⟩
def D7 (K : Nat) (a0 : (List Int)) (a1 : (List MpT)) : Nat → Int → Option (Ex ((List MpT) × Int) (Unit))
 | 0, _ => none
 | k + 1, a3 => (if a3 < (a1.length : Int) then ((Zp7 K a0 (rd a1 a3)).bind fun r4 => (if r4 = true then D7 K a0 a1 k (a3 + 1) else some (.ret (([] : List MpT), 3)))) else some (.go ()))
def Zf5 (K : Nat) (a0 : (List Int)) (a1 : (List MpT)) : Option ((List MpT) × Int) := ((D7 K a0 a1 K 0).bind (Ex.elim (fun r => some r) (fun s => some (a1, 0))))
theorem Yc0 {a0 : (List Int)} {a1 : (List MpT)} {r : ((List MpT) × Int)} (q0 : Zf5 K a0 a1 = some r) (a8 : Z9 (Y6 .i64) H s0 a0) (a5 : Z9 (Y9 yT) H s1 a1) (hS : St H w L) :
 Calls Tryz.prog 182 #[s0, s1] w (T2 (fun v G => (R.t2 (R.sl (Y9 yT)) (R.int .i64)).p G v r) H L) := by
 have Z3 := Sub.refl H
 refine X3 Tryz.func182 rfl Tryz.ntmps182 rfl ?_
 unfold Zf5 at q0
 refine Z2 (Z0 (Z5 (vN) rfl rfl (Z5 (vI 0) rfl rfl (Z1 (Z2 (Z2 (Z0 (Z5 (vI 0) rfl rfl (Z1 (Y7 ?_))))))))))
 obtain ⟨b2, a4, b0⟩ := bind_some q0
 refine W1 (id := 0) (fun k f w => ∃ (a3 : Int) (H1 : FH), D7 K a0 a1 k a3 = some b2 ∧ Sub H H1 ∧ St H1 w (L) ∧ 0 ≤ a3 ∧ Z9 (Y6 .i64) H1 s0 a0 ∧ Z9 (Y9 yT) H1 s1 a1 ∧ tv f 0 = s0 ∧ tv f 1 = s1 ∧ tv f 6 = vI a3) (fun f w => ∃ (H1 : FH), b2 = .go () ∧ Sub H H1 ∧ St H1 w (L) ∧ Z9 (Y9 yT) H1 s1 a1 ∧ tv f 1 = s1) rfl ?_ ?_ K ?_ ?_
 rintro f w ⟨a3, H1, a4, _⟩
 rw [D7] at a4; cases a4
 rintro k _ _ b9 c0 ⟨a3, b7, a4, Z3, hS, _, a8, a5, a9, a6, a7⟩
 rw [D7] at a4
 refine Z2 (Z2 (Z0 (Z4 (vI a3) (by exact a7) rfl (Z4 (s1) (by exact a6) rfl ?_))))
 have c5 := a5.bound
 refine W7 P6 rfl a5 rfl ?_
 refine V5 (k := .i64) (a := a3) (b := (a1.length : Int)) rfl rfl rfl (Z1 ?_)
 obtain ⟨b3, a4⟩ | ⟨b3, a4⟩ := ic a4
 refine Y0 (bT b3 rfl) (Y8 (Z2 (Y7 (Z2 (Z0 (Z4 (s0) (by exact a9) rfl (Z4 (s1) (by exact a6) rfl (Z4 (vI a3) (by exact a7) rfl ?_))))))))
 obtain ⟨_, _, _, _, _, c1, c2, ⟨b8, rfl, b6⟩, c3⟩ := a5.elem (i := a3) (by omega) (by omega)
 refine X9 P6 rfl rfl c1 rfl (by omega) (by omega) rfl ?_
 refine W9 ([b8]) U2 rfl (hS.froz _ _ c2) rfl c3 rfl ?_
 obtain ⟨r4, c4, a4⟩ := bind_some a4
 refine X6 Tryz.call145 (U9 rfl rfl) rfl (Yn9 c4 a8 b6 hS) ?_
 rintro _ H4 _ b4 hS rfl
 have Z3 := Z3.trans b4
 have a8 := a8.mono b4
 have a5 := a5.mono b4
 refine K9 (b := r4) rfl rfl (Z1 ?_)
 obtain ⟨b5, a4⟩ | ⟨b5, a4⟩ := ic a4
 refine Z8 (Eq.trans rfl (congrArg (fun b => vB (!b)) b5)) (Y8 (X4 (Z0 (Z4 (vI a3) (by exact a7) rfl ?_))))
 refine W8 (a3 + 1) rfl rfl (IntWalk.i64_in _ (by omega)) rfl (Z5 (vI (a3 + 1)) rfl rfl (Z1 ?_))
 exact b9 _ _ ⟨(a3 + 1), H4, a4, Z3, hS, (by omega), a8, a5, a9, a6, rfl⟩
 refine Y0 (Eq.trans rfl (congrArg (fun b => vB (!b)) (X8 b5))) (Z2 (Z0 (Z5 (vN) rfl rfl (Z5 (vI 3) rfl rfl (Z1 ?_)))))
 refine X0 (vs := [vN, vI 3]) Tryz.func182 ⟨rfl, rfl, trivial⟩ ?_
 obtain rfl := oi a4
 dsimp only [Ex.elim] at b0
 obtain rfl := oi b0
 exact ⟨_, _, rfl, Z3, hS, ⟨_, _, rfl, Z9.nil, rfl⟩⟩
 refine Z8 (bF b3 rfl) ?_
 refine W0 rfl ?_
 obtain rfl := oi a4
 exact c0 _ _ ⟨b7, rfl, Z3, hS, a5, a6⟩
 exact ⟨0, H, a4, Z3, hS, (by omega), a8, a5, rfl, rfl, rfl⟩
 rintro _ _ ⟨_, rfl, Z3, hS, a5, b1⟩
 dsimp only [Ex.elim] at b0
 refine Z2 (Z0 (Z4 (s1) (by exact b1) rfl (Z5 (s1) rfl rfl (Z5 (vI 0) rfl rfl (Z1 ?_)))))
 refine X0 (vs := [s1, vI 0]) Tryz.func182 ⟨rfl, rfl, trivial⟩ ?_
 obtain rfl := oi b0
 exact ⟨_, _, rfl, Z3, hS, ⟨_, _, rfl, a5, rfl⟩⟩
def Zi0 (K : Nat) (a0 : ((List Int) × (List MpT))) (a1 : Int) : Option Int := ((Zo0 K a0.1 a1).bind fun r4 => (if r4 < 0 then some (-1) else ((Zh3 K a0.2 r4).bind fun r7 => (if r7 < 0 then some (-1) else some r7))))
theorem Yc1 {a0 : ((List Int) × (List MpT))} {a1 : Int} {r : Int} (q0 : Zi0 K a0 a1 = some r) (a7 : Z9 (Y6 .i64) H s0 a0.1) (a3 : Z9 (Y9 yT) H s1 a0.2) (hS : St H w L) :
 Calls Tryz.prog 41 #[vA ([s0] ++ [s1]), vI a1] w (T2 (fun v G => (R.int .i64).p G v r) H L) := by
 have Z3 := Sub.refl H
 refine X3 Tryz.func41 rfl Tryz.ntmps41 rfl ?_
 unfold Zi0 at q0
 refine Z2 (Z0 ?_)
 refine S3 (v := vA ([s0] ++ [s1])) ([s0] ++ [s1]).toArray rfl rfl hS rfl ?_
 intro _ _ hS
 refine Z5 (vI 0) rfl rfl (Z1 (Z2 (Z0 (Y2 R4 rfl rfl ?_))))
 refine Y3 (s0) M9 rfl (hS.get mL) rfl rfl (Z4 (vI a1) rfl rfl ?_)
 obtain ⟨r4, a8, q0⟩ := bind_some q0
 refine X6 Tryz.call23 (U9 rfl rfl) rfl (Yu4 a8 a7 hS) ?_
 rintro _ _ _ a6 hS rfl
 have Z3 := Z3.trans a6
 have a3 := a3.mono a6
 refine Z5 (vI r4) rfl rfl (Z1 (Z2 (Z2 (Z0 (Z4 (vI r4) rfl rfl ?_)))))
 refine V5 (k := .i64) (a := r4) (b := 0) rfl rfl rfl (Z1 ?_)
 obtain ⟨a4, q0⟩ | ⟨a4, q0⟩ := ic q0
 refine Y0 (bT a4 rfl) (Z2 (Z0 (Z5 (vI (-1)) rfl rfl (Z1 ?_))))
 refine X0 (vs := [vI (-1)]) Tryz.func41 ⟨rfl, trivial⟩ ?_
 obtain rfl := oi q0
 exact ⟨_, _, rfl, Z3, (St.dropA hS), rfl⟩
 refine Z8 (bF a4 rfl) (Y8 (Z2 (Z0 (Y2 P2 rfl rfl ?_))))
 refine Y3 (s1) Zd6 rfl (hS.get mL) rfl rfl (Z4 (vI r4) rfl rfl ?_)
 obtain ⟨r7, a9, q0⟩ := bind_some q0
 refine X6 Tryz.call34 (U9 rfl rfl) rfl (Zy1 a9 a3 hS) ?_
 rintro _ _ _ b0 hS rfl
 have Z3 := Z3.trans b0
 refine Z5 (vI r7) rfl rfl (Z1 (Z2 (Z2 (Z0 (Z4 (vI r7) rfl rfl ?_)))))
 refine V5 (k := .i64) (a := r7) (b := 0) rfl rfl rfl (Z1 ?_)
 obtain ⟨a5, q0⟩ | ⟨a5, q0⟩ := ic q0
 refine Y0 (bT a5 rfl) (Z2 (Z0 (Z5 (vI (-1)) rfl rfl (Z1 ?_))))
 refine X0 (vs := [vI (-1)]) Tryz.func41 ⟨rfl, trivial⟩ ?_
 obtain rfl := oi q0
 exact ⟨_, _, rfl, Z3, (St.dropA hS), rfl⟩
 refine Z8 (bF a5 rfl) (Y8 (Z2 (Z0 (Z4 (vI r7) rfl rfl (Z5 (vI r7) rfl rfl (Z1 ?_))))))
 refine X0 (vs := [vI r7]) Tryz.func41 ⟨rfl, trivial⟩ ?_
 obtain rfl := oi q0
 exact ⟨_, _, rfl, Z3, (St.dropA hS), rfl⟩
def Zn9 (K : Nat) (a0 : (List Int)) : Option Bool := (if (a0.length : Int) ≤ 8 then ((I1 K a0 (fun x => Zp2 K x)).bind fun r3 => some (!r3)) else some false)
theorem Ys5 {a0 : (List Int)} {r : Bool} (q0 : Zn9 K a0 = some r) (a3 : Z9 (Y6 .i64) H s0 a0) (hS : St H w L) :
 Calls Tryz.prog 120 #[s0] w (T2 (fun v G => R.bool.p G v r) H L) := by
 have Z3 := Sub.refl H
 refine X3 Tryz.func120 rfl Tryz.ntmps120 rfl ?_
 unfold Zn9 at q0
 refine Z2 (Z0 (Z5 (vB false) rfl rfl (Z1 (Z2 (Z0 (Z4 (s0) rfl rfl ?_))))))
 have a8 := a3.bound
 refine W7 Q0 rfl a3 rfl ?_
 refine Xb0 (k := .i64) (a := (a0.length : Int)) (b := 8) rfl rfl rfl (Z4 (vB (decide ((a0.length : Int) ≤ 8))) rfl rfl ?_)
 obtain ⟨a1, q0⟩ | ⟨a1, q0⟩ := ic q0
 refine Y4 rfl rfl (bT a1 rfl) (Z4 (s0) rfl rfl ?_)
 obtain ⟨r3, a4, q0⟩ := bind_some q0
 refine Y4 rfl rfl (bT a1 rfl) ?_
 refine X6 Tryz.call172 (U9 rfl rfl) rfl (Zy7 a4 a3 ⟨210, #[], rfl, Tryz.call210, fun H2 w2 L2 v x b a9 a5 hv a6 => by obtain rfl := hv; exact Yn2 a6   a5⟩ hS) ?_
 rintro _ _ _ a7 hS rfl
 have Z3 := Z3.trans a7
 refine Y4 rfl rfl (bT a1 rfl) (K9 (b := r3) rfl rfl ?_)
 refine V0 (t := true) (vB (!r3)) (bT a1 rfl) ((if_pos rfl).trans rfl) rfl (Z5 (vB (!r3)) rfl rfl (Z1 ?_))
 refine X0 (vs := [vB (!r3)]) Tryz.func120 ⟨rfl, trivial⟩ ?_
 obtain rfl := oi q0
 exact ⟨_, _, rfl, Z3, hS, rfl⟩
 refine Y1 rfl rfl (bF a1 rfl) rfl rfl rfl (Y1 rfl rfl (bF a1 rfl) rfl rfl rfl (Y1 rfl rfl (bF a1 rfl) rfl rfl rfl ?_))
 refine V0 (t := false) (vB false) (bF a1 rfl) ((if_neg Bool.false_ne_true).trans rfl) rfl (Z5 (vB false) rfl rfl (Z1 ?_))
 refine X0 (vs := [vB false]) Tryz.func120 ⟨rfl, trivial⟩ ?_
 obtain rfl := oi q0
 exact ⟨_, _, rfl, Z3, hS, rfl⟩
end Go.Proofs.YtabofnehiclkiaaGreat
