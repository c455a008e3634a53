/- Walk, rules and plain laws. -/
import Derived.Test.YtabofnehiclkiaaGreatRF7
import Derived.Test.YtabofnehiclkiaaGreatRF5
import Derived.Test.YtabofnehiclkiaaGreatRF8
import Derived.Test.YtabofnehiclkiaaGreatRF6
namespace Go.Proofs.YtabofnehiclkiaaGreat
open Go Go.Proofs.Tryz IntKind IntWalk List
set_option linter.all false
set_option maxRecDepth 100000
set_option maxHeartbeats 8000000
variable {K : Nat} {H : FH} {w : World} {L : OL} {s0 s1 s2 s3 s4 s5 s6 : Value}
def Zo0 (K : Nat) (h1 : Int → Option (Ex Bool Unit)) (a1 : MpT) (a3 : Int) (b2 : Bool) : Option (Ex Bool Unit) := (if b2 = true then some (.ret false) else (if 0 < a3 then (if 0 ≤ (i64.wrap (a3 - 1)) then (if (i64.wrap (a3 - 1)) < (a1.length : Int) then ((Zf5 K (rd a1 (i64.wrap (a3 - 1))).1).bind fun d9 => ((Zf5 K (rd a1 a3).1).bind fun e0 => ((B1 K d9 e0).bind fun b3 => (if 0 ≤ b3 then some (.ret false) else h1 (a3 + 1))))) else none) else none) else h1 (a3 + 1)))
def L0 (K : Nat) (a0 : List Int) (a1 : MpT) : Nat → Int → Option (Ex Bool Unit)
 | 0, _ => none
 | k + 1, a3 => (if a3 < (a1.length : Int) then ((Zm6 K a0 (rd a1 a3).1).bind fun c9 => (if c9 = true then ((Zx5 K (rd a1 a3).2).bind fun c1 => Zo0 K (L0 K a0 a1 k) a1 a3 (!c1)) else Zo0 K (L0 K a0 a1 k) a1 a3 true)) else some (.go ()))
def Zp9 (K : Nat) (a0 : List Int) (a1 : MpT) : Option Bool := (if 400 < (a1.length : Int) then some false else ((L0 K a0 a1 K 0).bind (Ex.elim (fun r => some r) (fun s => some true))))
theorem Yd0 {a0 : List Int} {a1 : MpT} {r : Bool} (q0 : Zp9 K a0 a1 = some r) (a9 : Y3 (Y4 .i64) H s0 a0) (a7 : Y3 yT H s1 a1) (hS : St H w L) :
 Calls prog 121 #[s0, vA [s1]] w (T4 (fun v G => R.bool.p G v r) H L) := by
 have Z4 := Sub.refl H
 refine X0 func121 U ntmps121 U ?_
 unfold Zp9 at q0
 refine Z1 (Z0 (T8 (v := vA [s1]) [s1].toArray U U hS U (fun b1 _ hS => Z5 (vB false) U U (Z2 (Z1 (Z1 (Z0 (Y2 U8 U U (Y1 s1 P1 U (hS.get mL) U U ?_)))))))))
 have i4 := a7.bound
 refine X9 Q0 U a7 U (A0 (k := .i64) (a := (a1.length : Int)) (b := 400) U U U (Z2 ?_))
 obtain ⟨e8, q0⟩ | ⟨e8, q0⟩ := ic q0
 refine Z8 (bT e8 U) (Z1 (Z0 (Z5 (vB false) U U (Z2 (Y9 (vs := [vB false]) func121 Ut ?_)))))
 cases q0
 exact ⟨_, _, U, Z4, (St.dA hS), U⟩
 refine Z6 (bF e8 U) (Y6 (Z1 (Z1 (Z0 (Y2 U8 U U (Y1 s1 P1 U (hS.get mL) U U ?_))))))
 have i5 := a7.bound
 refine X9 Q0 U a7 U (Z3 (vI 0) U U (Z2 (Y8 ?_)))
 obtain ⟨e1, a6, b8⟩ := bSm q0
 refine W3 (id := 0) (fun k f w => ∃ a3 H1, L0 K a0 a1 k a3 = some e1 ∧ Sub H H1 ∧ St H1 w ([(b1, cA [s1] 45)] ++ L) ∧ 0 ≤ a3 ∧ Y3 (Y4 .i64) H1 s0 a0 ∧ Y3 yT H1 s1 a1 ∧ tv f 0 = s0 ∧ tv f 3 = vP b1 ∧ tv f 12 = s1 ∧ tv f 13 = vI (a1.length : Int) ∧ tv f 14 = vI a3) (fun f w => ∃ H1, e1 = .go () ∧ Sub H H1 ∧ St H1 w ([(b1, cA [s1] 45)] ++ L) ∧ Y3 yT H1 s1 a1) U ?_ ?_ K ?_ ?_
 rintro f w ⟨a3, H1, a6, _⟩
 rw [L0] at a6; cases a6
 rintro k _ _ h2 i0 ⟨a3, h4, a6, Z4, hS, _, a9, a7, c0, c4, b4, b5, b0⟩
 rw [L0] at a6
 refine Z1 (Z0 (V4 (k := .i64) (a := a3) (b := (a1.length : Int)) (by exact b0) (by exact b5) U (Z2 (Z1 ?_))))
 obtain ⟨e9, a6⟩ | ⟨e9, a6⟩ := ic a6
 refine Z8 (bT e9 U) (Y6 (Z1 (Y8 (Z1 (Z0 (Z3 (vI a3) (by exact b0) U ?_))))))
 obtain ⟨_, _, _, _, _, i1, i2, ⟨_, _, rfl, rfl, rfl⟩, i3⟩ := a7.elem (i := a3) (by omega) (by omega)
 refine X6 Q0 U (by exact b4) i1 (by exact b0) (by omega) (by omega) U (U0 (Z7 .u8 (rd a1 a3).1 ++ [vI (rd a1 a3).2]) Yb3 U (hS.froz _ _ i2) U i3 U (U5 (z := vA (Z7 .u8 (fun _ => 0) ++ [vI 0])) (Z7 .u8 (fun _ => 0) ++ [vI 0]).toArray Yg3.zero U hS U (fun b9 _ hS => Z5 (vI a3) U U (W1 (v := vA (Z7 .u8 (rd a1 a3).1 ++ [vI (rd a1 a3).2])) (vs := (Z7 .u8 (rd a1 a3).1 ++ [vI (rd a1 a3).2]).toArray) (cs := (Z7 .u8 (fun _ => 0) ++ [vI 0]).toArray) Yb3 U U U hS U (Yg4 (R7 .u8 (rd a1 a3).1) (K9 U)) U (fun _ hS => Z2 (Z1 (Z1 (N1 (fun f w => ∃ b2 H1, Zo0 K (L0 K a0 a1 k) a1 a3 b2 = some e1 ∧ Sub H H1 ∧ St H1 w ([(b9, cA (Z7 .u8 (rd a1 a3).1 ++ [vI (rd a1 a3).2]) 78)] ++ ([(b1, cA [s1] 45)] ++ L)) ∧ Y3 (Y4 .i64) H1 s0 a0 ∧ Y3 yT H1 s1 a1 ∧ tv f 0 = s0 ∧ tv f 3 = vP b1 ∧ tv f 5 = vI a3 ∧ tv f 6 = vP b9 ∧ tv f 12 = s1 ∧ tv f 13 = vI (a1.length : Int) ∧ tv f 14 = vI a3 ∧ tv f 29 = vB b2) ?_ ?_))))))))
 rintro _ _ ⟨b2, _, a4, Z4, hS, a9, a7, d8, c2, c3, f0, c5, c6, c7, c8⟩
 unfold Zo0 at a4
 obtain ⟨e2, a4⟩ | ⟨e2, a4⟩ := ic a4
 refine Z8 (Eq.trans (by exact c8) (congrArg vB e2)) (Z1 (Z0 (Z5 (vB false) U U (Z2 (Y9 (vs := [vB false]) func121 Ut ?_)))))
 cases a4
 dsimp only [Ex.elim] at b8
 cases b8
 exact ⟨_, _, U, Z4, (St.dA (St.dA hS)), U⟩
 refine Z6 (Eq.trans (by exact c8) (congrArg vB (X8 e2))) (Y6 (Z1 ?_))
 obtain ⟨a5, a4⟩ | ⟨a5, a4⟩ := ic a4
 obtain ⟨_, a4⟩ := gd a4
 obtain ⟨_, a4⟩ := gd a4
 obtain ⟨f1, f2, _, _, _, f8, d0, ⟨_, _, rfl, rfl, rfl⟩, f9⟩ := a7.elem (i := (i64.wrap (a3 - 1))) (by omega) (by omega)
 obtain ⟨d9, g0, a4⟩ := bSm a4
 obtain ⟨e0, g1, a4⟩ := bSm a4
 obtain ⟨b3, g2, a4⟩ := bSm a4
 refine W6 17 (S8 [mE 30 (vI a3), mE 31 (vB (decide (0 < a3))), mE 32 (vB (decide (0 < a3))), mE 33 (vP b1), mE 34 s1, mE 35 (vI a3), mE 36 (vI (i64.wrap (a3 - 1))), mE 37 (vQ f1 f2), mE 38 (vQ f1 (f2 + 0)), mE 39 (vA (Z7 .u8 (rd a1 (i64.wrap (a3 - 1))).1)), mE 40 (vA (Z7 .i64 d9)), mE 41 (vP b9), mE 42 (vA (Z7 .u8 (rd a1 a3).1)), mE 43 (vA (Z7 .i64 e0)), mE 44 (vI b3), mE 45 (vB (decide (0 ≤ b3))), mE 46 (vB (decide (0 ≤ b3)))]) [] mixed U U U hS (U1 (X4 fun S B => Z3 (vI a3) (evT (B 5 U) c3) U (qz S)) (Y7 fun S V => A0 (k := .i64) (a := a3) (b := 0) (eM (V 0 30 U U)) U U (qz S)) (Y7 fun S V => Z3 (vB (decide (0 < a3))) (eM (V 1 31 U U)) U (qz S)) (K6 fun S B V => Y0 U U (bT a5 (eM (V 2 32 U U))) (Y2 U8 (evT (B 3 U) c2) U (qz S))) ?_ ?_ ?_ ?_ (U1 ?_ ?_ ?_ ?_ ?_ ?_ ?_ ?_ (I2 ?_ W9))) ?_
 intro _ _ _ _ _ hS _ f3 hcq
 refine Y0 U U (bT a5 (eM (f3 2 32 U U))) (Y1 s1 P1 (eM (f3 3 33 U U)) (hS.get (mR (mR mL))) U U (qn (.refl _) U hS U))
 exact K6 fun S B V => Y0 U U (bT a5 (eM (V 2 32 U U))) (Z3 (vI a3) (evT (B 5 U) c3) U (qz S))
 intro _ _ _ _ _ hS _ f4 hcq
 refine Y0 U U (bT a5 (eM (f4 2 32 U U))) (Zg8 (i64.wrap (a3 - 1)) (eM (f4 5 35 U U)) U U U (qn (.refl _) U hS U))
 intro _ _ _ _ _ hS _ d1 hcq
 refine Y0 U U (bT a5 (eM (d1 2 32 U U))) (X6 Q0 U (eM (d1 4 34 U U)) f8 (eM (d1 6 36 U U)) (by omega) (by omega) U (qn (.refl _) U hS U))
 exact Y7 fun S V => Y0 U U (bT a5 (eM (V 2 32 U U))) (Y2 L6 (eM (V 7 37 U U)) U (qz S))
 intro _ _ _ _ g3 hS _ e3 hcq
 have d0 := g3.1 _ _ d0
 refine Y0 U U (bT a5 (eM (e3 2 32 U U))) (U0 (Z7 .u8 (rd a1 (i64.wrap (a3 - 1))).1) P7 (eM (e3 8 38 U U)) (hS.froz _ _ d0) U (Zf9 [] (Z7 .u8 (rd a1 (i64.wrap (a3 - 1))).1) ([vI (rd a1 (i64.wrap (a3 - 1))).2]) f9 (nl U)) U (qn (.refl _) U hS U))
 intro _ _ _ _ _ hS _ e4 hcq
 refine Y0 U U (bT a5 (eM (e4 2 32 U U))) (X2 call192 (S4 (eM (e4 9 39 U U))) U (Zs4 g0  hS) ?_)
 rintro _ _ _ g4 hS ⟨_, rfl, rfl⟩
 exact qn g4 U hS U
 exact K6 fun S B V => Y0 U U (bT a5 (eM (V 2 32 U U))) (Y2 L6 (evT (B 6 U) f0) U (qz S))
 intro _ _ _ _ _ hS _ e5 hcq
 refine Y0 U U (bT a5 (eM (e5 2 32 U U))) (U0 (Z7 .u8 (rd a1 a3).1) P7 (eM (e5 11 41 U U)) (hS.get (o := cA (Z7 .u8 (rd a1 a3).1 ++ [vI (rd a1 a3).2]) 78) (mR mL)) U (fun j hj => Zn7 [] (Z7 .u8 (rd a1 a3).1) ([vI (rd a1 a3).2]) j hj) U (qn (.refl _) U hS U))
 intro _ _ _ _ _ hS _ e6 hcq
 refine Y0 U U (bT a5 (eM (e6 2 32 U U))) (X2 call192 (S4 (eM (e6 12 42 U U))) U (Zs4 g1  hS) ?_)
 rintro _ _ _ g5 hS ⟨_, rfl, rfl⟩
 exact qn g5 U hS U
 intro _ _ _ _ _ hS _ d2 hcq
 refine Y0 U U (bT a5 (eM (d2 2 32 U U))) (X2 call213 (W8 (eM (d2 10 40 U U)) (eM (d2 13 43 U U))) U (Ya9 g2  hS) ?_)
 rintro _ _ _ g6 hS rfl
 exact qn g6 U hS U
 intro _ _ _ _ _ hS _ e7 hcq
 refine Y0 U U (bT a5 (eM (e7 2 32 U U))) (Ya4 (k := .i64) (a := b3) (b := 0) (eM (e7 14 44 U U)) U U (qn (.refl _) U hS U))
 exact Y7 fun S V => W5 (t := true) (vB (decide (0 ≤ b3))) (bT a5 (eM (V 2 32 U U))) ((if_pos U).trans (eM (V 15 45 U U))) U (qz S)
 intro h5 h6 f5 d3 hS b6 g7 hcq
 have hS : St f5 h6 ([(b9, cA (Z7 .u8 (rd a1 a3).1 ++ [vI (rd a1 a3).2]) 78)] ++ _) := hS
 have Z4 := Z4.trans d3
 have a9 := a9.mono d3
 have a7 := a7.mono d3
 have f6 : tv h5 46 = vB (decide (0 ≤ b3)) := g7 16 46 (by decide) U
 refine Z2 ?_
 obtain ⟨d4, a4⟩ | ⟨d4, a4⟩ := ic a4
 refine Z8 (bT d4 (by exact f6)) (Z1 (Z0 (Z5 (vB false) U U (Z2 (Y9 (vs := [vB false]) func121 Ut ?_)))))
 cases a4
 dsimp only [Ex.elim] at b8
 cases b8
 exact ⟨_, _, U, Z4, (St.dA (St.dA hS)), U⟩
 refine Z6 (bF d4 (by exact f6)) (Y6 (X1 (Z0 (W4 (a3 + 1) (by exact (evT (b6 14 U) c7)) U (i64_in _ (by omega)) U (Z3 (vI (a3 + 1)) U U (Z2 ?_))))))
 have hS := St.dA hS
 exact h2 _ _ ⟨(a3 + 1), f5, a4, Z4, hS, (by omega), a9, a7, (evT (b6 0 U) d8), (evT (b6 3 U) c2), (evT (b6 12 U) c5), (evT (b6 13 U) c6), U⟩
 refine W6 17 (S8 [mE 30 (vI a3), mE 31 (vB (decide (0 < a3))), mE 32 (vB (decide (0 < a3))), mE 33 undef, mE 34 undef, mE 35 undef, mE 36 undef, mE 37 undef, mE 38 undef, mE 39 undef, mE 40 undef, mE 41 undef, mE 42 undef, mE 43 undef, mE 44 undef, mE 45 undef, mE 46 (vB false)]) [] mixed U U U hS (U1 (X4 fun S B => Z3 (vI a3) (evT (B 5 U) c3) U (qz S)) (Y7 fun S V => A0 (k := .i64) (a := a3) (b := 0) (eM (V 0 30 U U)) U U (qz S)) (Y7 fun S V => Z3 (vB (decide (0 < a3))) (eM (V 1 31 U U)) U (qz S)) (Y7 fun S V => Z9 U U (bF a5 (eM (V 2 32 U U))) U U U (qz S)) (Y7 fun S V => Z9 U U (bF a5 (eM (V 2 32 U U))) U U U (qz S)) (Y7 fun S V => Z9 U U (bF a5 (eM (V 2 32 U U))) U U U (qz S)) (Y7 fun S V => Z9 U U (bF a5 (eM (V 2 32 U U))) U U U (qz S)) (Y7 fun S V => Z9 U U (bF a5 (eM (V 2 32 U U))) U U U (qz S)) (U1 (Y7 fun S V => Z9 U U (bF a5 (eM (V 2 32 U U))) U U U (qz S)) (Y7 fun S V => Z9 U U (bF a5 (eM (V 2 32 U U))) U U U (qz S)) (Y7 fun S V => Z9 U U (bF a5 (eM (V 2 32 U U))) U U U (qz S)) (Y7 fun S V => Z9 U U (bF a5 (eM (V 2 32 U U))) U U U (qz S)) (Y7 fun S V => Z9 U U (bF a5 (eM (V 2 32 U U))) U U U (qz S)) (Y7 fun S V => Z9 U U (bF a5 (eM (V 2 32 U U))) U U U (qz S)) (Y7 fun S V => Z9 U U (bF a5 (eM (V 2 32 U U))) U U U (qz S)) (Y7 fun S V => Z9 U U (bF a5 (eM (V 2 32 U U))) U U U (qz S)) (I2 (Y7 fun S V => W5 (t := false) (vB false) (bF a5 (eM (V 2 32 U U))) ((if_neg Bool.false_ne_true).trans U) U (qz S)) W9))) ?_
 intro _ h7 f7 d5 hS b7 g8 hcq
 have hS : St f7 h7 ([(b9, cA (Z7 .u8 (rd a1 a3).1 ++ [vI (rd a1 a3).2]) 78)] ++ _) := hS
 have Z4 := Z4.trans d5
 have a9 := a9.mono d5
 have a7 := a7.mono d5
 refine Z2 (Z6 (by exact (eM (g8 16 46 (by decide) U))) (Y6 (X1 (Z0 (W4 (a3 + 1) (by exact (evT (b7 14 U) c7)) U (i64_in _ (by omega)) U (Z3 (vI (a3 + 1)) U U (Z2 ?_)))))))
 have hS := St.dA hS
 exact h2 _ _ ⟨(a3 + 1), f7, a4, Z4, hS, (by omega), a9, a7, (evT (b7 0 U) d8), (evT (b7 3 U) c2), (evT (b7 12 U) c5), (evT (b7 13 U) c6), U⟩
 intro h3
 refine Z0 (Z3 s0 (by exact c0) U (Y2 L6 U U (U0 (Z7 .u8 (rd a1 a3).1) P7 U (hS.get (o := cA (Z7 .u8 (rd a1 a3).1 ++ [vI (rd a1 a3).2]) 78) mL) U (fun j hj => Zn7 [] (Z7 .u8 (rd a1 a3).1) ([vI (rd a1 a3).2]) j hj) U ?_)))
 obtain ⟨c9, g9, a6⟩ := bSm a6
 refine X2 call211 (W8 U U) U (Yu6 g9 a9 hS) ?_
 rintro _ h8 _ d6 hS rfl
 have Z4 := Z4.trans d6
 have a9 := a9.mono d6
 have a7 := a7.mono d6
 refine P5 (b := c9) U U (Z3 (vB (!c9)) U U ?_)
 obtain ⟨a8, a6⟩ | ⟨a8, a6⟩ := ic a6
 refine Y0 U U (nT a8) (Y2 Zf7 U U (Y0 U U (nT a8) (Y1 (vI (rd a1 a3).2) ty2 U (hS.get mL) U U ?_)))
 obtain ⟨c1, h0, a6⟩ := bSm a6
 refine Y0 U U (nT a8) (X2 call212 (S4 U) U (Yy7 h0  hS) ?_)
 rintro _ h9 _ d7 hS rfl
 have Z4 := Z4.trans d7
 have a9 := a9.mono d7
 have a7 := a7.mono d7
 refine Y0 U U (nT a8) (P5 (b := c1) U U (W5 (t := false) (vB (!c1)) (nT a8) ((if_neg Bool.false_ne_true).trans U) U (Z2 (h3 _ _ ⟨(!c1), h9, a6, Z4, hS, a9, a7, c0, c4, U, U, b4, b5, b0, U⟩))))
 refine Z9 U U (nT (X8 a8)) U U U (Z9 U U (nT (X8 a8)) U U U (Z9 U U (nT (X8 a8)) U U U (Z9 U U (nT (X8 a8)) U U U (W5 (t := true) (vB true) (nT (X8 a8)) ((if_pos U).trans U) U (Z2 (h3 _ _ ⟨true, h8, a6, Z4, hS, a9, a7, c0, c4, U, U, b4, b5, b0, U⟩))))))
 refine Z6 (bF e9 U) (W2 U ?_)
 cases a6
 exact i0 _ _ ⟨h4, U, Z4, hS, a7⟩
 exact ⟨0, H, a6, Z4, hS, (by omega), a9, a7, U, U, U, U, U⟩
 rintro _ _ ⟨_, rfl, Z4, hS, a7⟩
 dsimp only [Ex.elim] at b8
 refine Z1 (Z0 (Z5 (vB true) U U (Z2 (Y9 (vs := [vB true]) func121 Ut ?_))))
 cases b8
 exact ⟨_, _, U, Z4, (St.dA hS), U⟩
def D7 (K : Nat) (a0 : List Int) (a1 a2 : MpT) : Nat → Int → MpT → Option (Ex MpT MpT)
 | 0, _, _ => none
 | k + 1, a4, a5 => (if a4 < (a1.length : Int) then ((Zq4 K a0 ((rd a1 a4).1, (rd a1 a4).2) a2).bind fun d1 => ((Zq0 K a5 d1 1).bind fun c8 => D7 K a0 a1 a2 k (a4 + 1) c8)) else some (.go a5))
def Zk9 (K : Nat) (a0 : List Int) (a1 a2 : MpT) : Option MpT := ((D7 K a0 a1 a2 K 0 ([] : List (A8 × Int))).bind (Ex.elim (fun r => some r) (fun s => (fun (a8 : MpT) => some a8) s)))
theorem Yh7 {a0 : List Int} {a1 a2 r : MpT} (q0 : Zk9 K a0 a1 a2 = some r) (c0 : Y3 (Y4 .i64) H s0 a0) (b2 : Y3 yT H s1 a1) (b3 : Y3 yT H s2 a2) (hS : St H w L) :
 Calls prog 197 #[s0, vA [s1], vA [s2]] w (T4 (fun v G => (R.agg (X3 yT)).p G v r) H L) := by
 have Z4 := Sub.refl H
 refine X0 func197 U ntmps197 U ?_
 unfold Zk9 at q0
 refine Z1 (Z0 (T8 (v := vA [s1]) [s1].toArray U U hS U (fun b1 _ hS => T8 (v := vA [s2]) [s2].toArray U U hS U (fun b4 _ hS => U5 (z := vA [vN]) [vN].toArray Zj8.zero U hS U (fun b7 _ hS => Z2 (Z1 (Z0 (M4 (vA [vN]) Zz0 U (U5 (z := vA [vN]) [vN].toArray Zj8.zero U hS U (fun d0 _ hS => W1 (v := vA [vN]) (vs := ([vN]).toArray) (cs := ([vN]).toArray) U7 U U U hS U (K9 U) U (fun _ hS => Z2 (Z1 (Z1 (Z0 (Z5 (vI 0) U U (Z2 (Y8 ?_)))))))))))))))))
 have d7 : Y3 yT H (.slice none 0 0) ([] : List (A8 × Int)) := Y3.nil
 obtain ⟨d8, a7, d9⟩ := bSm q0
 refine W3 (id := 0) (fun k f w => ∃ a4 a5 H1 a3, D7 K a0 a1 a2 k a4 a5 = some d8 ∧ Sub H H1 ∧ St H1 w ([(d0, cA [a3] 45)] ++ ([(b7, cA [vN] 45)] ++ ([(b4, cA [s2] 45)] ++ ([(b1, cA [s1] 45)] ++ L)))) ∧ 0 ≤ a4 ∧ Y3 yT H1 a3 a5 ∧ Y3 (Y4 .i64) H1 s0 a0 ∧ Y3 yT H1 s1 a1 ∧ Y3 yT H1 s2 a2 ∧ tv f 0 = s0 ∧ tv f 4 = vP b1 ∧ tv f 5 = vP b4 ∧ tv f 6 = vP b7 ∧ tv f 7 = vP d0 ∧ tv f 8 = vI a4) (fun f w => ∃ a8 H1 a6, d8 = .go a8 ∧ Sub H H1 ∧ St H1 w ([(d0, cA [a6] 45)] ++ ([(b7, cA [vN] 45)] ++ ([(b4, cA [s2] 45)] ++ ([(b1, cA [s1] 45)] ++ L)))) ∧ Y3 yT H1 a6 a8 ∧ Y3 yT H1 s1 a1 ∧ Y3 yT H1 s2 a2 ∧ tv f 6 = vP b7 ∧ tv f 7 = vP d0) U ?_ ?_ K ?_ ?_
 rintro f w ⟨a4, a5, H1, a3, a7, _⟩
 rw [D7] at a7; cases a7
 rintro k _ _ f7 f8 ⟨a4, a5, f0, a3, a7, Z4, hS, _, a9, c0, b2, b3, c3, b6, c4, c5, b8, b9⟩
 rw [D7] at a7
 refine Z1 (Z1 (Z0 (Z3 (vI a4) (by exact b9) U (Y2 U8 (by exact b6) U (Y1 s1 P1 U (hS.get (mR (mR (mR mL)))) U U ?_)))))
 have g1 := b2.bound
 refine X9 Q0 U b2 U (V4 (k := .i64) (a := a4) (b := (a1.length : Int)) U U U (Z2 ?_))
 obtain ⟨d2, a7⟩ | ⟨d2, a7⟩ := ic a7
 refine Z8 (bT d2 U) (Y6 (Z1 (Y8 ?_)))
 obtain ⟨f9, g0, _, _, _, f1, f2, ⟨_, _, rfl, rfl, rfl⟩, f3⟩ := b2.elem (i := a4) (by omega) (by omega)
 obtain ⟨d1, e3, a7⟩ := bSm a7
 obtain ⟨c8, e4, a7⟩ := bSm a7
 refine W6 10 (S8 [mE 17 (vA [a3]), mE 18 s0, mE 19 (vP b1), mE 20 s1, mE 21 (vI a4), mE 22 (vQ f9 g0), mE 23 (vA (Z7 .u8 (rd a1 a4).1 ++ [vI (rd a1 a4).2])), mE 24 (vA [s2]), (25, MP.rep (R.agg (X3 yT)) d1), (26, MP.rep (R.agg (X3 yT)) c8)]) [] mixed U U U hS (U1 (X4 fun S B => X5 U7 (evT (B 7 U) b8) (S.get (mR mL)) U U (qz S)) (X4 fun S B => Z3 s0 (evT (B 0 U) c3) U (qz S)) (X4 fun S B => Y2 U8 (evT (B 4 U) b6) U (qz S)) (Y7 fun S V => Y1 s1 P1 (eM (V 2 19 U U)) (S.get (mR (mR (mR (mR mL))))) U U (qz S)) (X4 fun S B => Z3 (vI a4) (evT (B 8 U) b9) U (qz S)) (Y7 fun S V => X6 Q0 U (eM (V 3 20 U U)) f1 (eM (V 4 21 U U)) (by omega) (by omega) U (qz S)) (P0 fun s S V => U0 (Z7 .u8 (rd a1 a4).1 ++ [vI (rd a1 a4).2]) Yb3 (eM (V 5 22 U U)) (S.froz _ _ (s.1 _ _ f2)) U f3 U (qz S)) (X4 fun S B => X5 U7 (evT (B 5 U) c4) (S.get (mR (mR (mR mL)))) U U (qz S)) (L7 ?_ ?_ W9)) ?_
 intro _ _ _ _ e0 hS _ d3 hcq
 have c0 := c0.mono e0
 have b3 := b3.mono e0
 refine X2 call258 (I3 (eM (d3 1 18 U U)) (eM (d3 6 23 U U)) (eM (d3 7 24 U U))) U (Yz8 e3 c0 b3 hS) ?_
 rintro _ _ _ e5 hS e6
 exact qn e5 U hS e6
 intro _ _ _ _ e7 hS _ d4 hcq
 have a9 := a9.mono e7
 obtain ⟨_, f4, ⟨_, rfl, ⟨_, rfl, d5⟩⟩⟩ := gvR (d4 8 25 U U)
 refine X2 call196 (I3 (eM (d4 0 17 U U)) f4 U) U (Yo0 e4 a9 d5 hS) ?_
 rintro _ _ _ e8 hS c9
 have c9 := ((R.agg (X3 yT))).mono (Zw4 _ _) c9
 exact qn e8 U hS c9
 intro _ f5 e1 c1 hS b0 e9 hcq
 have hS : St e1 f5 ([(d0, cA [a3] 45)] ++ _) := hS
 have Z4 := Z4.trans c1
 have c0 := c0.mono c1
 have b2 := b2.mono c1
 have b3 := b3.mono c1
 have e2 := evT (b0 7 U) b8
 obtain ⟨_, f6, ⟨_, rfl, ⟨c2, rfl, c6⟩⟩⟩ := gvR (e9 9 26 (by decide) U)
 refine W1 (v := vA [c2]) (vs := ([c2]).toArray) (cs := ([a3]).toArray) U7 (by exact e2) (by exact f6) U hS U (K9 c6.isOne) U fun _ hS => Z2 (X1 (Z0 (Z3 (vI a4) (by exact (evT (b0 8 U) b9)) U (W4 (a4 + 1) U U (i64_in _ (by omega)) U (Z5 (vI (a4 + 1)) U U (Z2 (f7 _ _ ⟨(a4 + 1), c8, e1, c2, a7, Z4, hS, (by omega), c6, c0, b2, b3, (evT (b0 0 U) c3), (evT (b0 4 U) b6), (evT (b0 5 U) c4), (evT (b0 6 U) c5), e2, U⟩)))))))
 refine Z6 (bF d2 U) (W2 U ?_)
 cases a7
 exact f8 _ _ ⟨a5, f0, a3, U, Z4, hS, a9, b2, b3, c5, b8⟩
 exact ⟨0, ([] : List (A8 × Int)), H, (vN), a7, Z4, hS, (by omega), d7, c0, b2, b3, U, U, U, U, U, U⟩
 rintro _ _ ⟨a8, _, a6, rfl, Z4, hS, b5, b2, b3, c7, d6⟩
 dsimp only [Ex.elim] at d9
 refine Z1 (Z0 (X5 U7 (by exact d6) (hS.get mL) U U ?_))
 have hS := hS.perm R5
 refine W1 (v := vA [a6]) (vs := ([a6]).toArray) (cs := ([vN]).toArray) U7 (by exact c7) U U hS U (K9 b5.isOne) U ?_
 intro _ hS
 have hS := hS.perm R5.symm
 refine Z2 (Y9 (vs := [vA [a6]]) func197 ⟨⟨_, (by exact c7), T9 U7 (hS.get (mR mL)) U⟩, trivial⟩ ?_)
 cases d9
 exact ⟨_, _, U, Z4, (St.dA (St.dA (St.dA (St.dA hS)))), ⟨_, U, ⟨_, U, b5⟩⟩⟩
def M3 (K : Nat) (a0 : ((List Int) × (List MpT))) : Nat → Int → M8 → Option (Ex M8 M8)
 | 0, _, _ => none
 | k + 1, a1, a5 => (if a1 < (a0.2.length : Int) then ((Zo8 K (rd a0.2 a1)).bind fun c7 => (if a1 < 8 then M3 K a0 k (a1 + 1) (Xn2 a5 a1 c7) else none)) else some (.go a5))
def Zf4 (K : Nat) (a0 : ((List Int) × (List MpT))) : Option M8 := ((M3 K a0 K 0 (fun _ => ([] : MpT))).bind (Ex.elim (fun r => some r) (fun s => (fun (a9 : M8) => some a9) s)))
theorem Ym0 {a0 : ((List Int) × (List MpT))} {r : M8} (q0 : Zf4 K a0 = some r) (e2 : Zt4 (Yd6 (X3 (Y4 .i64)) (X3 (X3 yT))) H s0 a0) (hS : St H w L) :
 Calls prog 205 #[s0] w (T4 (fun v G => (R.agg (tyV .i64)).p G v r) H L) := by
 obtain ⟨e3, e4, _, _, _, rfl, d3, ⟨_, _, rfl, ⟨_, rfl, _⟩, ⟨b4, rfl, a3⟩⟩, d4⟩ := e2
 have Z4 := Sub.refl H
 refine X0 func205 U ntmps205 U ?_
 unfold Zf4 at q0
 refine Z1 (Z0 ?_)
 have b1 : RdV .i64 H Zp8 (fun _ => ([] : MpT)) := RdV.nil
 refine U5 (z := vA (M5 Zp8)) (M5 Zp8).toArray Wm3.zero U hS U fun b2 _ hS => Z2 (Z1 (Z0 ?_))
 have d2 : RdV .i64 H Zp8 (fun _ => ([] : MpT)) := RdV.nil
 refine M4 (vA (M5 Zp8)) Vk3 U ?_
 have e9 : RdV .i64 H Zp8 (fun _ => ([] : MpT)) := RdV.nil
 refine U5 (z := vA (M5 Zp8)) (M5 Zp8).toArray Wm3.zero U hS U fun b7 _ hS => W1 (v := vA (M5 Zp8)) (vs := (M5 Zp8).toArray) (cs := (M5 Zp8).toArray) Xi7 U U U hS U (Yt3 d2) U fun _ hS => Z2 (Z1 (Z1 (Z0 (Z3 (vQ e3 e4) U U (V0 U U (Y2 Zh6 U U (Y1 b4 Yb2 U (hS.froz _ _ d3) (d4 1 (show 1 < 2 by decide)) U ?_)))))))
 have e8 := a3.bound
 refine X9 Zm7 U a3 U (Z3 (vI 0) U U (Z2 (Y8 ?_)))
 obtain ⟨c8, a6, c9⟩ := bSm q0
 refine W3 (id := 0) (fun k f w => ∃ a1 a5 H1 a4, M3 K a0 k a1 a5 = some c8 ∧ Sub H H1 ∧ St H1 w ([(b7, cA (M5 a4) 237)] ++ ([(b2, cA (M5 Zp8) 237)] ++ L)) ∧ 0 ≤ a1 ∧ RdV .i64 H1 a4 a5 ∧ RdV .i64 H1 Zp8 (fun _ => ([] : MpT)) ∧ Y3 (X3 yT) H1 b4 a0.2 ∧ tv f 2 = vP b2 ∧ tv f 3 = vP b7 ∧ tv f 10 = b4 ∧ tv f 11 = vI (a0.2.length : Int) ∧ tv f 12 = vI a1) (fun f w => ∃ a9 H1 a7, c8 = .go a9 ∧ Sub H H1 ∧ St H1 w ([(b7, cA (M5 a7) 237)] ++ ([(b2, cA (M5 Zp8) 237)] ++ L)) ∧ RdV .i64 H1 a7 a9 ∧ RdV .i64 H1 Zp8 (fun _ => ([] : MpT)) ∧ tv f 2 = vP b2 ∧ tv f 3 = vP b7) U ?_ ?_ K ?_ ?_
 rintro f w ⟨a1, a5, H1, a4, a6, _⟩
 rw [M3] at a6; cases a6
 rintro k _ _ e5 e6 ⟨a1, a5, d5, a4, a6, Z4, hS, _, a8, b1, a3, b9, b3, b5, b6, b0⟩
 rw [M3] at a6
 refine Z1 (Z0 (V4 (k := .i64) (a := a1) (b := (a0.2.length : Int)) (by exact b0) (by exact b6) U (Z2 (Z1 ?_))))
 obtain ⟨c5, a6⟩ | ⟨c5, a6⟩ := ic a6
 refine Z8 (bT c5 U) (Y6 (Z1 (Y8 (Z1 (Z0 (Z3 (vI a1) (by exact b0) U ?_))))))
 obtain ⟨_, _, _, _, _, d6, d7, ⟨c1, rfl, c4⟩, d8⟩ := a3.elem (i := a1) (by omega) (by omega)
 refine X6 Zm7 U (by exact b5) d6 (by exact b0) (by omega) (by omega) U (U0 [c1] U7 U (hS.froz _ _ d7) U d8 U (U5 (z := vA [vN]) [vN].toArray Zj8.zero U hS U (fun _ _ hS => Z5 (vI a1) U U (W1 (v := vA [c1]) (vs := ([c1]).toArray) (cs := ([vN]).toArray) U7 U U U hS U (K9 c4.isOne) U (fun _ hS => Z2 (Z0 (Z3 (vI a1) U U (X5 U7 U (hS.get mL) U U ?_))))))))
 obtain ⟨c7, d9, a6⟩ := bSm a6
 refine U9 call110 (S4 U) U (Zx6 d9 c4 hS) ?_
 rintro _ _ ⟨d0, _, _, rfl, c2, hS, e0⟩
 refine ⟨_, U, ?_⟩
 have Z4 := Z4.trans c2
 have a3 := a3.mono c2
 have b1 := b1.mono c2
 have a8 := a8.mono c2
 obtain ⟨_, a6⟩ := gd a6
 refine U3 Va1 (by exact b3) U (by omega) (by omega) U ?_
 obtain ⟨e7, c3, hS, d1⟩ := e0.freeze hS
 have Z4 := Z4.trans c3
 have a3 := a3.mono c3
 have b1 := b1.mono c3
 have a8 := a8.mono c3
 have hS := hS.perm R5
 have e1 := RdV.upd a8 a1 d1
 refine Ze6 (v := d0) (cs := (M5 a4).toArray) (cs' := (M5 (Xt9 a4 a1 d0)).toArray) Wz8 U U hS d1.isOne U (by simp [Z7, M5]; omega) (Wx7 (by omega) (by omega)) ?_
 intro _ hS
 have hS := hS.perm R5.symm
 refine Z2 (X1 (Z0 (W4 (a1 + 1) (by exact b0) U (i64_in _ (by omega)) U (Z3 (vI (a1 + 1)) U U (Z2 ?_)))))
 have hS := St.dA hS
 exact e5 _ _ ⟨(a1 + 1), (Xn2 a5 a1 c7), e7, (Xt9 a4 a1 d0), a6, Z4, hS, (by omega), e1, b1, a3, b9, b3, b5, b6, U⟩
 refine Z6 (bF c5 U) (W2 U ?_)
 cases a6
 exact e6 _ _ ⟨a5, d5, a4, U, Z4, hS, a8, b1, b9, b3⟩
 exact ⟨0, (fun _ => ([] : MpT)), H, Zp8, a6, Z4, hS, (by omega), d2, b1, a3, U, U, U, U, U⟩
 rintro _ _ ⟨a9, _, a7, rfl, Z4, hS, b8, b1, c0, c6⟩
 dsimp only [Ex.elim] at c9
 refine Z1 (Z0 (X5 Xi7 (by exact c6) (hS.get mL) U U ?_))
 have hS := hS.perm R5
 refine W1 (v := vA (M5 a7)) (vs := (M5 a7).toArray) (cs := (M5 Zp8).toArray) Xi7 (by exact c0) U U hS U (Yt3 b8) U ?_
 intro _ hS
 have hS := hS.perm R5.symm
 refine Z2 (Y9 (vs := [vA (M5 a7)]) func205 ⟨⟨_, (by exact c0), T9 Xi7 (hS.get (mR mL)) U⟩, trivial⟩ ?_)
 cases c9
 exact ⟨_, _, U, Z4, (St.dA (St.dA hS)), ⟨_, U, ⟨_, U, b8⟩⟩⟩
def Za1 (K : Nat) (a0 : List MpT) : Nat → Int → Int → Option (Ex Int Int)
 | 0, _, _ => none
 | k + 1, a5, a3 => (if a3 < (a0.length : Int) then ((Zq1 K (rd a0 a3) a5).bind fun r6 => (if r6 < 0 then some (.ret (-1)) else Za1 K a0 k r6 (a3 + 1))) else some (.go a5))
def Ya8 (K : Nat) (a0 : List MpT) (a1 : Int) : Option Int := (if (i64.wrap (a1 - (a0.length : Int))) < 0 then some (-1) else ((Za1 K a0 K (i64.wrap (a1 - (a0.length : Int))) 0).bind (Ex.elim (fun r => some r) (fun s => (fun (a6 : Int) => some a6) s))))
theorem Xc2 {a0 : List MpT} {a1 r : Int} (q0 : Ya8 K a0 a1 = some r) (a7 : Y3 (X3 yT) H s0 a0) (hS : St H w L) :
 Calls prog 67 #[s0, vI a1] w (T4 (fun v G => (R.int .i64).p G v r) H L) := by
 have Z4 := Sub.refl H
 refine X0 func67 U ntmps67 U ?_
 unfold Ya8 at q0
 refine Z1 (Z0 (Z5 (vI 0) U U (Z2 (Z1 (Z0 (Z3 (vI a1) U U (Z3 s0 U U ?_)))))))
 have c7 := a7.bound
 refine X9 Xm4 U a7 U (Zg8 (i64.wrap (a1 - (a0.length : Int))) U U U U (Z5 (vI (i64.wrap (a1 - (a0.length : Int)))) U U (Z2 (Z1 (Z1 (Z0 (Z3 (vI (i64.wrap (a1 - (a0.length : Int)))) U U (V4 (k := .i64) (a := (i64.wrap (a1 - (a0.length : Int)))) (b := 0) U U U (Z2 ?_)))))))))
 obtain ⟨b3, q0⟩ | ⟨b3, q0⟩ := ic q0
 refine Z8 (bT b3 U) (Z1 (Z0 (Z5 (vI (-1)) U U (Z2 (Y9 (vs := [vI (-1)]) func67 Ut ?_)))))
 cases q0
 exact ⟨_, _, U, Z4, hS, U⟩
 refine Z6 (bF b3 U) (Y6 (Z1 (Z1 (Z0 (Z5 (vI 0) U U (Z2 (Y8 ?_)))))))
 obtain ⟨b4, a4, b1⟩ := bSm q0
 refine W3 (id := 0) (fun k f w => ∃ a5 a3 H1, Za1 K a0 k a5 a3 = some b4 ∧ Sub H H1 ∧ St H1 w L ∧ 0 ≤ a3 ∧ Y3 (X3 yT) H1 s0 a0 ∧ tv f 0 = s0 ∧ tv f 1 = vI a5 ∧ tv f 5 = vI a3) (fun f w => ∃ a6 H1, b4 = .go a6 ∧ Sub H H1 ∧ St H1 w L ∧ tv f 1 = vI a6) U ?_ ?_ K ?_ ?_
 rintro f w ⟨a5, a3, H1, a4, _⟩
 rw [Za1] at a4; cases a4
 rintro k _ _ c1 c2 ⟨a5, a3, b9, a4, Z4, hS, _, a7, a8, b0, a9⟩
 rw [Za1] at a4
 refine Z1 (Z1 (Z0 (Z3 (vI a3) (by exact a9) U (Z3 s0 (by exact a8) U ?_))))
 have c8 := a7.bound
 refine X9 Xm4 U a7 U (V4 (k := .i64) (a := a3) (b := (a0.length : Int)) U U U (Z2 ?_))
 obtain ⟨b5, a4⟩ | ⟨b5, a4⟩ := ic a4
 refine Z8 (bT b5 U) (Y6 (Z1 (Y8 (Z1 (Z0 (Z3 s0 (by exact a8) U (Z3 (vI a3) (by exact a9) U ?_)))))))
 obtain ⟨_, _, _, _, _, c3, c4, ⟨c0, rfl, b7⟩, c5⟩ := a7.elem (i := a3) (by omega) (by omega)
 refine X6 Xm4 U U c3 U (by omega) (by omega) U (U0 [c0] Xe5 U (hS.froz _ _ c4) U c5 U (Z3 (vI a5) (by exact b0) U ?_))
 obtain ⟨r6, c6, a4⟩ := bSm a4
 refine X2 call24 (W8 U U) U (Ym3 c6 b7 hS) ?_
 rintro _ H6 _ b8 hS rfl
 have Z4 := Z4.trans b8
 have a7 := a7.mono b8
 refine Z5 (vI r6) U U (Z2 (Z1 (Z0 (Z3 (vI r6) U U (V4 (k := .i64) (a := r6) (b := 0) U U U (Z2 ?_))))))
 obtain ⟨b6, a4⟩ | ⟨b6, a4⟩ := ic a4
 refine Z8 (bT b6 U) (Z1 (Z0 (Z5 (vI (-1)) U U (Z2 (Y9 (vs := [vI (-1)]) func67 Ut ?_)))))
 cases a4
 dsimp only [Ex.elim] at b1
 cases b1
 exact ⟨_, _, U, Z4, hS, U⟩
 refine Z6 (bF b6 U) (Y6 (X1 (Z0 (Z3 (vI a3) (by exact a9) U (W4 (a3 + 1) U U (i64_in _ (by omega)) U (Z5 (vI (a3 + 1)) U U (Z2 (c1 _ _ ⟨r6, (a3 + 1), H6, a4, Z4, hS, (by omega), a7, a8, U, U⟩))))))))
 refine Z6 (bF b5 U) (W2 U ?_)
 cases a4
 exact c2 _ _ ⟨a5, b9, U, Z4, hS, b0⟩
 exact ⟨(i64.wrap (a1 - (a0.length : Int))), 0, H, a4, Z4, hS, (by omega), a7, U, U, U⟩
 rintro _ _ ⟨a6, _, rfl, Z4, hS, b2⟩
 dsimp only [Ex.elim] at b1
 refine Z1 (Z0 (Z3 (vI a6) (by exact b2) U (Z5 (vI a6) U U (Z2 (Y9 (vs := [vI a6]) func67 Ut ?_)))))
 cases b1
 exact ⟨_, _, U, Z4, hS, U⟩
def Za6 (K : Nat) (a0 : MpT) : Nat → Int → MpT → Option (Ex MpT MpT)
 | 0, _, _ => none
 | k + 1, a1, a3 => (if a1 < (a0.length : Int) then ((Zv8 K ((rd a0 a1).1, (rd a0 a1).2)).bind fun b3 => (if a1 < (a3.length : Int) then Za6 K a0 k (a1 + 1) (a3.set (a1).toNat (b3.1, b3.2)) else none)) else some (.go a3))
def Zt9 (K : Nat) (a0 : MpT) : Option MpT := (if (a0.length : Int) ≤ 1099511627776 then ((Za6 K a0 K 0 (replicate ((a0.length : Int)).toNat (((fun _ => 0), 0) : (A8 × Int)))).bind (Ex.elim (fun r => some r) (fun s => (fun (a8 : MpT) => some a8) s))) else none)
theorem Xb9 {a0 r : MpT} (q0 : Zt9 K a0 = some r) (b1 : Y3 yT H s0 a0) (hS : St H w L) :
 Calls prog 92 #[s0] w (T4 (fun v G => (R.sl yT).p (G.new H) v r) H L) := by
 have Z4 := Sub.refl H
 refine X0 func92 U ntmps92 U ?_
 unfold Zt9 at q0
 refine Z1 (Z0 (Z5 vN U U (Z2 (Z1 (Z0 (Z3 s0 U U ?_))))))
 have d8 := b1.bound
 refine X9 Wi7 U b1 U ?_
 obtain ⟨_, q0⟩ := gd q0
 refine Zz4 (τ := yT) (((fun _ => 0), 0) : (A8 × Int)) Xd5 U U U (fun _ => ⟨_, _, U, U, U⟩) (by omega) (by omega) hS U fun u3 _ C5 d1 hS => Z5 u3 U U (Z2 (Z1 (Z1 (Z0 (Z5 (vI 0) U U (Z2 (Y8 ?_)))))))
 obtain ⟨c0, a5, c1⟩ := bSm q0
 refine W3 (id := 0) (fun k f w => ∃ a1 a3 H1 a9 a4, Za6 K a0 k a1 a3 = some c0 ∧ Sub H H1 ∧ St H1 w (a9 ++ L) ∧ 0 ≤ a1 ∧ W0 yT 78 H1 a4 a3 a9 ∧ Y3 yT H1 s0 a0 ∧ tv f 0 = s0 ∧ tv f 3 = a4 ∧ tv f 4 = vI a1) (fun f w => ∃ a8 H1 b2 a6, c0 = .go a8 ∧ Sub H H1 ∧ St H1 w (b2 ++ L) ∧ W0 yT 78 H1 a6 a8 b2 ∧ tv f 3 = a6) U ?_ ?_ K ?_ ?_
 rintro f w ⟨a1, a3, H1, a9, a4, a5, _⟩
 rw [Za6] at a5; cases a5
 rintro k _ _ d2 d3 ⟨a1, a3, c4, a9, a4, a5, Z4, hS, _, a7, b1, b4, b5, b0⟩
 rw [Za6] at a5
 refine Z1 (Z1 (Z0 (Z3 (vI a1) (by exact b0) U (Z3 s0 (by exact b4) U ?_))))
 have d9 := b1.bound
 refine X9 Wi7 U b1 U (V4 (k := .i64) (a := a1) (b := (a0.length : Int)) U U U (Z2 ?_))
 obtain ⟨c2, a5⟩ | ⟨c2, a5⟩ := ic a5
 refine Z8 (bT c2 U) (Y6 (Z1 (Y8 (Z0 (Z3 a4 (by exact b5) U (Z3 (vI a1) (by exact b0) U (Z3 s0 (by exact b4) U (Z3 (vI a1) (by exact b0) U ?_))))))))
 obtain ⟨_, _, _, _, _, c5, c6, ⟨_, _, rfl, rfl, rfl⟩, c7⟩ := b1.elem (i := a1) (by omega) (by omega)
 refine X6 Wi7 U U c5 U (by omega) (by omega) U (U0 (Z7 .u8 (rd a0 a1).1 ++ [vI (rd a0 a1).2]) Vl9 U (hS.froz _ _ c6) U c7 U ?_)
 obtain ⟨b3, c8, a5⟩ := bSm a5
 refine X2 call167 (S4 U) U (Xg9 c8  hS) ?_
 rintro _ d4 _ b8 hS ⟨_, rfl, ⟨_, _, rfl, rfl, rfl⟩⟩
 have Z4 := Z4.trans b8
 have b1 := b1.mono b8
 have a7 := a7.mono b8
 obtain ⟨_, a5⟩ := gd a5
 obtain ⟨_, _, c3⟩ := a7.some (i := a1) (by omega) (by omega)
 refine Q3 Q0 (Eq.trans U c3) U (by omega) (by omega) U (Za9 (τ := yT) (v := a4) (u := vA (Z7 .u8 b3.1 ++ [vI b3.2])) (b3.1, b3.2) (i := a1) U Yb3 c3 a7 hS U U (by omega) (by omega) ⟨_, _, U, U, U⟩ (fun _ d5 c9 hS => Z2 (X1 (Z0 (Z3 (vI a1) (by exact b0) U (W4 (a1 + 1) U U (i64_in _ (by omega)) U (Z5 (vI (a1 + 1)) U U (Z2 (d2 _ _ ⟨(a1 + 1), (a3.set (a1).toNat (b3.1, b3.2)), d4, d5, a4, a5, Z4, hS, (by omega), c9, b1, b4, b5, U⟩)))))))))
 refine Z6 (bF c2 U) (W2 U ?_)
 cases a5
 exact d3 _ _ ⟨a3, c4, a9, a4, U, Z4, hS, a7, b5⟩
 exact ⟨0, (replicate ((a0.length : Int)).toNat (((fun _ => 0), 0) : (A8 × Int))), H, C5, u3, a5, Z4, hS, (by omega), d1, b1, U, U, U⟩
 rintro _ _ ⟨a8, _, b2, a6, rfl, Z4, hS, b7, b9⟩
 dsimp only [Ex.elim] at c1
 refine Z1 (Z0 (Z3 a6 (by exact b9) U (Z5 a6 U U (Z2 (Y9 (vs := [a6]) func92 Ut ?_)))))
 obtain ⟨d6, d0, hS, b6⟩ := W0.freezeF (τ := yT) (H0 := H) b7 hS Z4
 have d7 := Y3.old b6
 have b6 : RdF yT H d6 a6 a8 := b6
 have Z4 := Z4.trans d0
 cases c1
 exact ⟨_, _, U, Z4, hS, b6⟩
def okS (ds : List Int) (n : Int) : Bool := decide ((∀ d, d ∈ ds → 1 ≤ d ∧ d ≤ 12) ∧ ds.length ≤ 8 ∧ 0 ≤ n ∧ n ≤ 1000)
def P4 (K : Nat) (ds : List Int) (n : Int) : Option (List A8) := if okS ds n = true then some (fsF ds ds.length (fun _ => 0) n []) else none
theorem Za0 {a0 : List Int} {a1 : Int} {r : List A8} (q0 : P4 K a0 a1 = some r) (hs0 : Y3 (Y4 .i64) H s0 a0) (hS : St H w L) :
    Calls prog 99 #[s0, vI a1] w (T4 (fun v G => (R.sl (Q5 .u8)).p G v r) H L) := by
  unfold P4 at q0
  by_cases hok : okS a0 a1 = true
  case neg => rw [if_neg hok] at q0; cases q0
  rw [if_pos hok] at q0
  cases q0
  obtain ⟨k1, k2, k3, k4⟩ := of_decide_eq_true hok
  refine X0 func99 U ntmps99 U ?_
  repeat refine Z1 ?_
  refine Z0 (Z5 vN U U (Z2 ?_))
  repeat refine Z1 ?_
  refine Z0 (Z3 s0 U U (M4 (vA (Z7 .u8 (fun _ => 0))) Wj8 U (Z3 (vI a1) U U (U9 call171 (Wz0 U U (congrArg vI (show (0 : Int) = ((a0.length - a0.length : Nat) : Int) by simp)) U U) U (Vc2 k1 k2 a0.length (Nat.le_refl _) ⟨k3, k4⟩ hs0 (W0.nil _ _ _) (by simp) hS) ?_))))
  rintro e3 w3 ⟨v, H3, C3, rfl, s3, hS, ho⟩
  refine ⟨_, U, ?_⟩
  obtain ⟨H4, s4, hS, hrd⟩ := ho.freeze hS
  refine Z5 v U U (Z2 (Y9 (vs := [v]) func99 Ut ⟨_, _, U, s3.trans s4, hS, hrd⟩))
section
variable {P : Program} {n : Nat} {ops : Array Oper} {J : Fr → World → Prop} {r : List Oper} {f : Fr} {w : World} {d : Nat} {T : TypeId} {pos : String} {af : Array Edge}
theorem Xo9 {X E : TypeId} {s : Nat} {x y : Operand} {b o m c : Nat} {k : IntKind} {i : Nat} (t : SlI P X E s) (hx : ev f x = .slice (some ⟨b, o, none⟩) m c) (hy : ev f y = .int k i) (hm : i ≤ m) (hn : Nat.blt d n = true)
 (K : X7 P n ops J r (upd f d (.slice (if c = i then some ⟨b, o, none⟩ else some ⟨b, o + i * s, none⟩) (m - i) (c - i))) w) : X7 P n ops J (⟨some d, .slice X x (some y) none none, T, pos, af, none⟩ :: r) f w :=
 U2 U U hn (by simp [execOp, hx, hy, Instr.sliceAt, Instr.slice, Instr.sureAddr, Instr.sliceBounds, Instr.sliceBound, asIntOf, t.under, t.sizeOf, Q2, hm]) K
theorem Xa1 {X E : TypeId} {s : Nat} {x y : Operand} {b o m c : Nat} {k : IntKind} {j : Nat} (t : SlI P X E s) (hx : ev f x = .slice (some ⟨b, o, none⟩) m c) (hy : ev f y = .int k j) (hm : j ≤ c) (hn : Nat.blt d n = true)
 (K : X7 P n ops J r (upd f d (.slice (some ⟨b, o, none⟩) j c)) w) : X7 P n ops J (⟨some d, .slice X x none (some y) none, T, pos, af, none⟩ :: r) f w :=
 U2 U U hn (by simp [execOp, hx, hy, Instr.sliceAt, Instr.slice, Instr.sureAddr, Instr.sliceBounds, Instr.sliceBound, asIntOf, t.under, t.sizeOf, Q2, hm]) K
end
end Go.Proofs.YtabofnehiclkiaaGreat
