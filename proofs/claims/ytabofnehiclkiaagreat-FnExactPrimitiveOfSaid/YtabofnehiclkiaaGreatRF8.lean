/- Walk, rules and plain laws. -/
import Derived.Test.YtabofnehiclkiaaGreatRF4
import Derived.Test.YtabofnehiclkiaaGreatRF3
import Derived.Test.YtabofnehiclkiaaGreatShelfP
import Derived.Test.YtabofnehiclkiaaGreatRF1
import Derived.Test.YtabofnehiclkiaaGreatRF2
namespace Go.Proofs.YtabofnehiclkiaaGreat
open Go Go.Proofs.Tryz IntKind IntWalk List
set_option linter.all false
set_option maxRecDepth 100000
set_option maxHeartbeats 8000000
variable {K : Nat} {H : FH} {w : World} {L : OL} {s0 s1 s2 s3 s4 s5 s6 : Value}
def I8 (K : Nat) (a0 : List Int) (a1 : (A8 × Int)) (a2 : MpT) : Nat → Int → MpT → Option (Ex MpT MpT)
 | 0, _, _ => none
 | k + 1, a4, a6 => (if a4 < (a2.length : Int) then ((Zp4 K a0 a1.1 (rd a2 a4).1).bind fun a3 => (if a3.2 = 0 then I8 K a0 a1 a2 k (a4 + 1) a6 else ((E7 K (i64.wrap ((i64.wrap (a3.2 * a1.2)) * (rd a2 a4).2))).bind fun b5 => (if a6.length + ([(a3.1, b5)]).length ≤ 1099511627776 then I8 K a0 a1 a2 k (a4 + 1) (a6 ++ [(a3.1, b5)]) else none)))) else some (.go a6))
def Zq4 (K : Nat) (a0 : List Int) (a1 : (A8 × Int)) (a2 : MpT) : Option MpT := ((I8 K a0 a1 a2 K 0 ([] : List (A8 × Int))).bind (Ex.elim (fun r => some r) (fun s => (fun (b2 : MpT) => some b2) s)))
theorem Yz8 {a0 : List Int} {a1 : (A8 × Int)} {a2 r : MpT} (q0 : Zq4 K a0 a1 a2 = some r) (b8 : Y3 (Y4 .i64) H s0 a0) (b3 : Y3 yT H s1 a2) (hS : St H w L) :
 Calls prog 258 #[s0, vA (Z7 .u8 a1.1 ++ [vI a1.2]), vA [s1]] w (T4 (fun v G => (R.agg (X3 yT)).p G v r) H L) := by
 have Z4 := Sub.refl H
 refine X0 func258 U ntmps258 U ?_
 unfold Zq4 at q0
 refine Z1 (Z0 (T8 (v := vA (Z7 .u8 a1.1 ++ [vI a1.2])) (Z7 .u8 a1.1 ++ [vI a1.2]).toArray U U hS U (fun b1 _ hS => T8 (v := vA [s1]) [s1].toArray U U hS U (fun b4 _ hS => U5 (z := vA [vN]) [vN].toArray Zj8.zero U hS U (fun b7 _ hS => Z2 (Z1 (Z0 (M4 (vA [vN]) Zz0 U (U5 (z := vA [vN]) [vN].toArray Zj8.zero U hS U (fun c7 _ hS => W1 (v := vA [vN]) (vs := ([vN]).toArray) (cs := ([vN]).toArray) U7 U U U hS U (K9 U) U (fun _ hS => Z2 (Z1 (Z1 (Z0 (Z5 (vI 0) U U (Z2 (Y8 ?_)))))))))))))))))
 have e9 : W0 yT 78 H (.slice none 0 0) [] [] := W0.nil _ _ _
 obtain ⟨f0, a9, f1⟩ := bSm q0
 refine W3 (id := 0) (fun k f w => ∃ a4 a6 H1 a7 a5, I8 K a0 a1 a2 k a4 a6 = some f0 ∧ Sub H H1 ∧ St H1 w (a7 ++ ([(c7, cA [a5] 45)] ++ ([(b7, cA [vN] 45)] ++ ([(b4, cA [s1] 45)] ++ ([(b1, cA (Z7 .u8 a1.1 ++ [vI a1.2]) 78)] ++ L))))) ∧ 0 ≤ a4 ∧ W0 yT 78 H1 a5 a6 a7 ∧ Y3 (Y4 .i64) H1 s0 a0 ∧ Y3 yT H1 s1 a2 ∧ tv f 0 = s0 ∧ tv f 4 = vP b1 ∧ tv f 5 = vP b4 ∧ tv f 6 = vP b7 ∧ tv f 7 = vP c7 ∧ tv f 8 = vI a4) (fun f w => ∃ b2 H1 b6 b0, f0 = .go b2 ∧ Sub H H1 ∧ St H1 w (b6 ++ ([(c7, cA [b0] 45)] ++ ([(b7, cA [vN] 45)] ++ ([(b4, cA [s1] 45)] ++ ([(b1, cA (Z7 .u8 a1.1 ++ [vI a1.2]) 78)] ++ L))))) ∧ W0 yT 78 H1 b0 b2 b6 ∧ Y3 yT H1 s1 a2 ∧ tv f 6 = vP b7 ∧ tv f 7 = vP c7) U ?_ ?_ K ?_ ?_
 rintro f w ⟨a4, a6, H1, a7, a5, a9, _⟩
 rw [I8] at a9; cases a9
 rintro k _ _ i0 j6 ⟨a4, a6, i3, a7, a5, a9, Z4, hS, _, a8, b8, b3, d1, d2, c3, d3, d4, c4⟩
 rw [I8] at a9
 refine Z1 (Z1 (Z0 (Z3 (vI a4) (by exact c4) U (Y2 U8 (by exact c3) U (Y1 s1 P1 U (hS.get (mR (mR (mR mL)))) U U ?_)))))
 have j7 := b3.bound
 refine X9 Q0 U b3 U (V4 (k := .i64) (a := a4) (b := (a2.length : Int)) U U U (Z2 ?_))
 obtain ⟨d9, a9⟩ | ⟨d9, a9⟩ := ic a9
 refine Z8 (bT d9 U) (Y6 (Z1 (Y8 (Z1 ?_))))
 obtain ⟨i1, i2, _, _, _, i4, i5, ⟨_, _, rfl, rfl, rfl⟩, i6⟩ := b3.elem (i := a4) (by omega) (by omega)
 obtain ⟨a3, g4, a9⟩ := bSm a9
 refine W6 16 (S8 [mE 20 s0, mE 21 (vP b1), mE 22 (vA (Z7 .u8 a1.1)), mE 23 (vP b4), mE 24 s1, mE 25 (vI a4), mE 26 (vQ i1 i2), mE 27 (vQ i1 (i2 + 0)), mE 28 (vA (Z7 .u8 (rd a2 a4).1)), mE 29 (Value.tuple #[vA (Z7 .u8 a3.1), vI a3.2]), mE 19 (Value.tuple #[vA (Z7 .u8 a3.1), vI a3.2]), mE 30 (vA (Z7 .u8 a3.1)), mE 31 (vI a3.2), (9, MP.box (cA (Z7 .u8 (fun _ => 0)) 72)), mE 10 (vI a3.2)]) [Co.st 13 9 14 11 30 (Zw6 72)] mixed U (Zy5 (ns := [(13, 9, 14, 11, 30)]) U U) U hS (W7 U (X4 fun S B => Z3 s0 (evT (B 0 U) d1) U (qz S)) (W7 U (X4 fun S B => Y2 L6 (evT (B 4 U) d2) U (qz S)) (W7 U (Y7 fun S V => U0 (Z7 .u8 a1.1) P7 (eM (V 1 21 U U)) (S.get (o := cA (Z7 .u8 a1.1 ++ [vI a1.2]) 78) (mR (mR (mR (mR (mR mL)))))) U (fun j hj => Zn7 [] (Z7 .u8 a1.1) ([vI a1.2]) j hj) U (qz S)) (W7 U (X4 fun S B => Y2 U8 (evT (B 5 U) c3) U (qz S)) (W7 U (Y7 fun S V => Y1 s1 P1 (eM (V 3 23 U U)) (S.get (mR (mR (mR (mR mL))))) U U (qz S)) (W7 U (X4 fun S B => Z3 (vI a4) (evT (B 8 U) c4) U (qz S)) (W7 U (Y7 fun S V => X6 Q0 U (eM (V 4 24 U U)) i4 (eM (V 5 25 U U)) (by omega) (by omega) U (qz S)) (W7 U (Y7 fun S V => Y2 L6 (eM (V 6 26 U U)) U (qz S)) (W7 U (P0 fun s S V => U0 (Z7 .u8 (rd a2 a4).1) P7 (eM (V 7 27 U U)) (S.froz _ _ (s.1 _ _ i5)) U (Zf9 [] (Z7 .u8 (rd a2 a4).1) ([vI (rd a2 a4).2]) i6 (nl U)) U (qz S)) (W7 U ?_ (W7 U ?_ (W7 U ?_ (W7 U ?_ (W7 U ?_ (Yj9 U ?_ (W7 U ?_ W9)))))))))))))))) ?_
 intro _ _ _ _ g5 hS _ d6 hcq
 have b8 := b8.mono g5
 refine X2 call278 (I3 (eM (d6 0 20 U U)) (eM (d6 2 22 U U)) (eM (d6 8 28 U U))) U (Yw6 g4 b8 hS) ?_
 rintro _ _ _ g6 hS ⟨_, _, rfl, ⟨_, rfl, rfl⟩, rfl⟩
 exact qn g6 U hS U
 exact Y7 fun S V => Z3 (Value.tuple #[vA (Z7 .u8 a3.1), vI a3.2]) (eM (V 9 29 U U)) U (qz S)
 exact Y7 fun S V => V1 (vA (Z7 .u8 a3.1)) (eM (V 10 19 U U)) U U (qz S)
 exact Y7 fun S V => V1 (vI a3.2) (eM (V 10 19 U U)) U U (qz S)
 intro _ _ _ _ _ hS _ _ hcq
 refine U5 (z := vA (Z7 .u8 (fun _ => 0))) (Z7 .u8 (fun _ => 0)).toArray Yn9.zero U hS U fun _ _ hS => qn (.refl _) U hS ⟨_, U⟩
 intro c2 i7 f2 i8 _ hS _ e5 hcq
 have Z4 := Sub.refl f2
 obtain ⟨f3, d0⟩ := e5 13 9 U U
 have d0 : c2 9 = vP f3 := d0
 have hS : St f2 i7 (Zg0 (cA (Z7 .u8 (fun _ => 0)) 72) (c2 9) ++ (i8 ++ (a7 ++ _))) := hS
 rw [d0] at hS
 have i9 : tv c2 9 = vP f3 := d0
 have f4 : tv c2 30 = vA (Z7 .u8 a3.1) := e5 11 30 U U
 refine W1 (v := vA (Z7 .u8 a3.1)) (vs := (Z7 .u8 a3.1).toArray) (cs := (Z7 .u8 (fun _ => 0)).toArray) P7 i9 f4 U hS U (R7 .u8 a3.1) U ?_
 intro _ hS
 have j0 : c2 30 = vA (Z7 .u8 a3.1) := f4
 exact Z2 ⟨_, U, U, Z4, by show St _ _ (Zg0 (Zw6 72 (c2 30)) (c2 9) ++ _); rw [d0, j0]; exact hS, trivial⟩
 exact Y7 fun S V => Z5 (vI a3.2) (eM (V 12 31 U U)) U (qz S)
 intro c5 j1 f5 c8 hS c0 d7 hcq
 have hS : St f5 j1 ((Zg0 (Zw6 72 (c5 30)) (c5 9) ++ ([])) ++ (a7 ++ _)) := hS
 have Z4 := Z4.trans c8
 have b8 := b8.mono c8
 have b3 := b3.mono c8
 have a8 := a8.mono c8
 have f6 := evT (c0 0 U) d1
 have e0 := evT (c0 4 U) d2
 have e1 := evT (c0 5 U) c3
 have f7 := evT (c0 6 U) d3
 have e2 := evT (c0 7 U) d4
 have e3 := evT (c0 8 U) c4
 have f8 : tv c5 10 = vI a3.2 := d7 15 10 (by decide) U
 obtain ⟨f9, c6⟩ := d7 13 9 (by decide) U
 have c6 : c5 9 = vP f9 := c6
 rw [c6] at hS
 have c6 : tv c5 9 = _ := c6
 have j2 : c5 30 = vA (Z7 .u8 a3.1) := (eM (d7 11 30 (by decide) U))
 rw [j2] at hS
 refine Z2 (Z1 (Z0 (Z3 (vI a3.2) (by exact f8) U (L1 (k := .i64) (a := a3.2) (b := 0) U U U (Z2 ?_)))))
 obtain ⟨d8, a9⟩ | ⟨d8, a9⟩ := ic a9
 refine Z6 (bN d8 U) (Y6 (X1 (Z0 (Z3 (vI a4) (by exact e3) U (W4 (a4 + 1) U U (i64_in _ (by omega)) U (Z5 (vI (a4 + 1)) U U (Z2 ?_)))))))
 have hS := St.dA hS
 exact i0 _ _ ⟨(a4 + 1), a6, f5, a7, a5, a9, Z4, hS, (by omega), a8, b8, b3, f6, e0, e1, f7, e2, U⟩
 refine Z8 (bO d8 U) ?_
 obtain ⟨g0, g1, _, _, _, g7, g8, ⟨_, _, rfl, rfl, rfl⟩, g9⟩ := b3.elem (i := a4) (by omega) (by omega)
 obtain ⟨b5, h0, a9⟩ := bSm a9
 refine W6 17 (S8 [mE 34 (vP c7), mE 35 a5, mE 36 (vA (Z7 .u8 a3.1)), mE 37 (vI a3.2), mE 38 (vQ b1 8), mE 39 (vI a1.2), mE 40 (vI (i64.wrap (a3.2 * a1.2))), mE 41 (vP b4), mE 42 s1, mE 43 (vI a4), mE 44 (vQ g0 g1), mE 45 (vQ g0 (g1 + 8)), mE 46 (vI (rd a2 a4).2), mE 47 (vI (i64.wrap ((i64.wrap (a3.2 * a1.2)) * (rd a2 a4).2))), mE 48 (vI b5), mE 49 (vA (Z7 .u8 a3.1 ++ [vI b5])), (50, MP.sl yT [(a3.1, b5)])]) [] mixed U U U hS (U1 (X4 fun S B => Y2 U8 (evT (B 7 U) e2) U (qz S)) (Y7 fun S V => Y1 a5 P1 (eM (V 0 34 U U)) (S.get (mR (mR (mR mL)))) U U (qz S)) (X4 fun S B => X5 P7 (evT (B 9 U) c6) (S.get (mR mL)) U U (qz S)) (X4 fun S B => Z3 (vI a3.2) (evT (B 10 U) f8) U (qz S)) (X4 fun S B => Y2 Zf7 (evT (B 4 U) e0) U (qz S)) (Y7 fun S V => Y1 (vI a1.2) ty2 (eM (V 4 38 U U)) (S.get (mR (mR (mR (mR (mR (mR mL))))))) U U (qz S)) (Y7 fun S V => Zi4 (i64.wrap (a3.2 * a1.2)) (eM (V 3 37 U U)) (eM (V 5 39 U U)) U U (qz S)) (X4 fun S B => Y2 U8 (evT (B 5 U) e1) U (qz S)) (U1 (Y7 fun S V => Y1 s1 P1 (eM (V 7 41 U U)) (S.get (mR (mR (mR (mR (mR mL)))))) U U (qz S)) (X4 fun S B => Z3 (vI a4) (evT (B 8 U) e3) U (qz S)) (Y7 fun S V => X6 Q0 U (eM (V 8 42 U U)) g7 (eM (V 9 43 U U)) (by omega) (by omega) U (qz S)) (Y7 fun S V => Y2 Zf7 (eM (V 10 44 U U)) U (qz S)) (P0 fun s S V => Y1 (vI (rd a2 a4).2) ty2 (eM (V 11 45 U U)) (S.froz _ _ (s.1 _ _ g8)) (g9 8 (show 8 < 9 by decide)) U (qz S)) (Y7 fun S V => Zi4 (i64.wrap ((i64.wrap (a3.2 * a1.2)) * (rd a2 a4).2)) (eM (V 6 40 U U)) (eM (V 12 46 U U)) U U (qz S)) ?_ ?_ (I2 ?_ W9))) ?_
 intro _ _ _ _ _ hS _ h1 hcq
 refine X2 call209 (S4 (eM (h1 13 47 U U))) U (B3 h0  hS) ?_
 rintro _ _ _ h2 hS rfl
 exact qn h2 U hS U
 exact Y7 fun S V => Zw5 (Z7 .u8 a3.1 ++ [vI b5]) Xn9 (Yc0 (eM (V 2 36 U U)) (eM (V 14 48 U U))) (E1 U U U (nl U) (E1 U U U (nl U) (Zr9 U))) U (qz S)
 intro _ _ _ _ _ hS _ h3 hcq
 refine Zc4 (τ := yT) Q0 Yg3 U [vA (Z7 .u8 a3.1 ++ [vI b5])] [(a3.1, b5)] U U (D3 (eM (h3 15 49 U U))) (Zl6 ⟨_, _, U, U, U⟩) (by decide) (by decide) hS U fun _ _ _ h4 hS h5 => qn h4 U hS h5
 intro _ j3 g2 c9 hS c1 e6 hcq
 have hS : St g2 j3 ([(f9, cA (Z7 .u8 a3.1) 72)] ++ (a7 ++ _)) := hS
 have Z4 := Z4.trans c9
 have b8 := b8.mono c9
 have b3 := b3.mono c9
 have a8 := a8.mono c9
 have g3 := evT (c1 7 U) e2
 obtain ⟨_, j4, h6⟩ := gvS (e6 16 50 (by decide) U)
 obtain ⟨h7, a9⟩ := gd a9
 have hS := hS.perm R5
 refine N2 (τ := yT) Xd5 U (by exact (eM (e6 1 35 (by decide) U))) (by exact j4) a8 hS h6 h7 U ?_
 intro e4 _ j5 e7 hS
 have hS := hS.perm R5.symm
 refine Y2 U8 (by exact g3) U ?_
 have hS := hS.perm Zc0
 refine Ze6 (v := e4) (cs := ([a5]).toArray) (cs' := ([e4]).toArray) P1 U U hS e7.isOne U (nl U) U ?_
 intro _ hS
 have hS := hS.perm Zc0.symm
 refine Z2 (X1 (Z0 (Z3 (vI a4) (by exact (evT (c1 8 U) e3)) U (W4 (a4 + 1) U U (i64_in _ (by omega)) U (Z5 (vI (a4 + 1)) U U (Z2 ?_))))))
 have hS := St.dA hS
 exact i0 _ _ ⟨(a4 + 1), (a6 ++ [(a3.1, b5)]), g2, j5, e4, a9, Z4, hS, (by omega), e7, b8, b3, (evT (c1 0 U) f6), (evT (c1 4 U) e0), (evT (c1 5 U) e1), (evT (c1 6 U) f7), g3, U⟩
 refine Z6 (bF d9 U) (W2 U ?_)
 cases a9
 exact j6 _ _ ⟨a6, i3, a7, a5, U, Z4, hS, a8, b3, d3, d4⟩
 exact ⟨0, ([] : List (A8 × Int)), H, ([]), (vN), a9, Z4, hS, (by omega), e9, b8, b3, U, U, U, U, U, U⟩
 rintro _ _ ⟨b2, _, b6, b0, rfl, Z4, hS, b9, b3, d5, e8⟩
 dsimp only [Ex.elim] at f1
 refine Z1 (Z0 (X5 U7 (by exact e8) (hS.get (mR mL)) U U ?_))
 have hS := hS.perm Zc0
 refine W1 (v := vA [b0]) (vs := ([b0]).toArray) (cs := ([vN]).toArray) U7 (by exact d5) U U hS U (K9 b9.isOne) U ?_
 intro _ hS
 have hS := hS.perm Zc0.symm
 refine Z2 (Y9 (vs := [vA [b0]]) func258 ⟨⟨_, (by exact d5), T9 U7 (hS.get (mR (mR mL))) U⟩, trivial⟩ ?_)
 obtain ⟨_, h8, hS, h9⟩ := b9.freeze hS
 have Z4 := Z4.trans h8
 cases f1
 exact ⟨_, _, U, Z4, (St.dA (St.dA (St.dA (St.dA hS)))), ⟨_, U, ⟨_, U, h9⟩⟩⟩
section
open Go Go.Sort Go.RowKit Go.Shelf Go.Lib
abbrev Yb5 := {a : A8 // ∀ i, 0 ≤ a i ∧ a i ≤ 2305843009213693952}
instance : Inhabited Yb5 := ⟨⟨fun _ => 0, fun _ => by simp⟩⟩
def Xe8 (a b : A8) : Int :=
 if a 0 = b 0 then if a 1 = b 1 then if a 2 = b 2 then if a 3 = b 3 then if a 4 = b 4 then if a 5 = b 5 then if a 6 = b 6 then if a 7 = b 7 then 0
  else i64.wrap (b 7 - a 7) else i64.wrap (b 6 - a 6) else i64.wrap (b 5 - a 5) else i64.wrap (b 4 - a 4) else i64.wrap (b 3 - a 3)
  else i64.wrap (b 2 - a 2) else i64.wrap (b 1 - a 1) else i64.wrap (b 0 - a 0)
theorem Va3 (a b : A8) : B1 9 a b = some (Xe8 a b) := by
 have e : ∀ (m : A8) (j : Nat) (h : j < 8), Y5 m (j : Int) = m ⟨j, h⟩ := fun m j h => by unfold Y5; simp [h]
 have e0 := fun m => e m 0 (by decide)
 have e1 := fun m => e m 1 (by decide)
 have e2 := fun m => e m 2 (by decide)
 have e3 := fun m => e m 3 (by decide)
 have e4 := fun m => e m 4 (by decide)
 have e5 := fun m => e m 5 (by decide)
 have e6 := fun m => e m 6 (by decide)
 have e7 := fun m => e m 7 (by decide)
 simp only [Int.ofNat_zero, Int.natCast_one, Int.cast_ofNat_Int] at e0 e1 e2 e3 e4 e5 e6 e7
 unfold B1 Xe8
 have z : ∀ (j k : Int), j + 1 = k → j + 1 = k := fun _ _ h => h
 simp only [P9, show (0 : Int) + 1 = 1 from U, show (1 : Int) + 1 = 2 from U, show (2 : Int) + 1 = 3 from U, show (3 : Int) + 1 = 4 from U, show (4 : Int) + 1 = 5 from U, show (5 : Int) + 1 = 6 from U,
  show (6 : Int) + 1 = 7 from U, show (7 : Int) + 1 = 8 from U, show (0 : Int) < 8 from by decide, show (1 : Int) < 8 from by decide, show (2 : Int) < 8 from by decide, show (3 : Int) < 8 from by decide, show (4 : Int) < 8 from by decide,
  show (5 : Int) < 8 from by decide, show (6 : Int) < 8 from by decide, show (7 : Int) < 8 from by decide, show ¬ (8 : Int) < 8 from by decide, if_true, if_false, e0, e1, e2, e3, e4, e5, e6, e7]
 simp only [show (⟨0, by decide⟩ : Fin 8) = 0 from U, show (⟨1, by decide⟩ : Fin 8) = 1 from U, show (⟨2, by decide⟩ : Fin 8) = 2 from U, show (⟨3, by decide⟩ : Fin 8) = 3 from U, show (⟨4, by decide⟩ : Fin 8) = 4 from U,
  show (⟨5, by decide⟩ : Fin 8) = 5 from U, show (⟨6, by decide⟩ : Fin 8) = 6 from U, show (⟨7, by decide⟩ : Fin 8) = 7 from U]
 by_cases h0 : a 0 = b 0
 by_cases h1 : a 1 = b 1
 by_cases h2 : a 2 = b 2
 by_cases h3 : a 3 = b 3
 by_cases h4 : a 4 = b 4
 by_cases h5 : a 5 = b 5
 by_cases h6 : a 6 = b 6
 by_cases h7 : a 7 = b 7
 simp [h0, h1, h2, h3, h4, h5, h6, h7, Ex.elim]
 simp [h0, h1, h2, h3, h4, h5, h6, h7, Ex.elim]
 simp [h0, h1, h2, h3, h4, h5, h6, Ex.elim]
 simp [h0, h1, h2, h3, h4, h5, Ex.elim]
 simp [h0, h1, h2, h3, h4, Ex.elim]
 simp [h0, h1, h2, h3, Ex.elim]
 simp [h0, h1, h2, Ex.elim]
 simp [h0, h1, Ex.elim]
 simp [h0, Ex.elim]
theorem Wx6 {x y : Int} (hx : 0 ≤ x ∧ x ≤ 2305843009213693952) (hy : 0 ≤ y ∧ y ≤ 2305843009213693952) : decide (i64.wrap (y - x) < 0) = decide (y < x) := by
 rw [i64_in _ (by omega)]
 simp only [decide_eq_decide]
 omega
theorem Xk8 (x y : Yb5) : ltOf (fun x y : Yb5 => Xe8 x.1 y.1) x y = bef x.1 y.1 := by
 unfold ltOf Xe8 bef l8
 have hw : ∀ i, decide (i64.wrap (y.1 i - x.1 i) < 0) = decide (y.1 i < x.1 i) := fun i => Wx6 (x.2 i) (y.2 i)
 simp only [Zi3]
 by_cases h0 : x.1 0 = y.1 0
 by_cases h1 : x.1 1 = y.1 1
 by_cases h2 : x.1 2 = y.1 2
 by_cases h3 : x.1 3 = y.1 3
 by_cases h4 : x.1 4 = y.1 4
 by_cases h5 : x.1 5 = y.1 5
 by_cases h6 : x.1 6 = y.1 6
 by_cases h7 : x.1 7 = y.1 7
 simp [h0, h1, h2, h3, h4, h5, h6, h7]
 simp only [h0, h1, h2, h3, h4, h5, h6, if_true, if_neg h7]; exact hw 7
 simp only [h0, h1, h2, h3, h4, h5, if_true, if_neg h6]; exact hw 6
 simp only [h0, h1, h2, h3, h4, if_true, if_neg h5]; exact hw 5
 simp only [h0, h1, h2, h3, if_true, if_neg h4]; exact hw 4
 simp only [h0, h1, h2, if_true, if_neg h3]; exact hw 3
 simp only [h0, h1, if_true, if_neg h2]; exact hw 2
 simp only [h0, if_true, if_neg h1]; exact hw 1
 simp only [if_neg h0]; exact hw 0
theorem Vh1 : SWO (ltOf fun x y : Yb5 => Xe8 x.1 y.1) where
 irrefl x := by rw [Xk8]; exact Zh0 _
 trans x y z h1 h2 := by rw [Xk8] at *; exact Zq6 h1 h2
 ntrans x y z h1 h2 := by
  rw [Xk8] at *
  cases h : bef x.1 z.1 with
  | false => rfl
  | true =>
   by_cases exy : x.1 = y.1
   rw [exy] at h; rw [h] at h2; cases h2
   have hyx : bef y.1 x.1 = true := (Yi0 exy).resolve_left (by rw [h1]; simp)
   rw [Zq6 hyx h] at h2; cases h2
def FH.all (W : World) : FH := ⟨fun b => W.heap[b]?, fun _ => none, some (W.tape, W.os, W.output, W.drawn, W.heap.size)⟩
theorem St.all (W : World) : St (FH.all W) W [] := ⟨fun _ _ h => h, fun _ _ h => (by cases h), fun t h => (by cases h; exact ⟨rfl, rfl, rfl, Nat.le_refl _⟩), fun b o h hl => (by
 have h : W.heap[b]? = some o := h
 have hl : W.heap.size ≤ b := hl
 rw [Array.getElem?_eq_none hl] at h; cases h), fun _ h => (by cases h), nodup_nil, fun _ h => (by cases h)⟩
theorem Wt1 {W w' : World} {H' : FH} (hs : Sub (FH.all W) H') (hS : St H' w' []) : ∃ q os, w' = grow (W.drewN q) os := by
 obtain ⟨h1, h2, h3, h4⟩ := hS.rest _ (hs.2.2.trans U)
 have hsz : W.heap.size ≤ w'.heap.size := by
  by_cases h0 : W.heap.size = 0
  omega
  have hl : W.heap[W.heap.size - 1]? = some W.heap[W.heap.size - 1] := by simp
  have := Zi0 (hS.froz _ _ (hs.1 _ _ hl))
  omega
 refine ⟨w'.drawn - W.drawn, w'.heap.extract W.heap.size w'.heap.size, ?_⟩
 have hh : w'.heap = W.heap ++ w'.heap.extract W.heap.size w'.heap.size := by
  apply Array.ext_getElem?
  intro i
  rw [Array.getElem?_append]
  split
  rename_i hi
  have hl : W.heap[i]? = some W.heap[i] := by simp [hi]
  rw [hl]
  exact hS.froz _ _ (hs.1 _ _ hl)
  rename_i hi
  rw [Array.getElem?_extract]
  by_cases hi2 : i < w'.heap.size
  rw [if_pos (by omega)]
  congr 1; omega
  rw [if_neg (by omega)]
  simp; omega
 obtain ⟨hp, tp, dr, os, out⟩ := w'
 simp only at h1 h2 h3 h4 hh hsz ⊢
 unfold grow World.drewN
 simp only
 congr 1
 omega
theorem Vf4 (blk off size : Nat) (w : World) : CmpLays prog 213 #[] (fun x : Yb5 => Z7 .i64 x.1) 8 (fun x y => Xe8 x.1 y.1) blk off size w := by
 intro m os dk hd x y
 have h := Ya9 (Va3 x.1 y.1) (St.all (sortWorldK (fun x : Yb5 => Z7 .i64 x.1) 8 w blk off m dk os))
 refine h.mono ?_
 rintro e w' ⟨v, H', rfl, hs, hS, hv⟩
 exact ⟨congrArg Ending.returned hv, Wt1 hs hS⟩
theorem St.ahead {H : FH} {w : World} {L : OL} (h : St H w L) (n : Nat) : St H (Sort.ahead w n) L :=
 ⟨h.froz, h.memo, fun t ht => (let ⟨a, b, c, d⟩ := h.rest t ht; ⟨a, b, c, Nat.le_trans d (Nat.le_add_right _ _)⟩), h.nofz, h.own, h.nodup, h.apart⟩
theorem St.grown {H : FH} {w : World} {L : OL} (h : St H w L) (os : Array Obj) : St H (grow w os) L := by
 have hlt : ∀ b o', w.heap[b]? = some o' → (grow w os).heap[b]? = some o' := fun b o' hb => by
  have := Zi0 hb
  show (w.heap ++ os)[b]? = some o'
  rw [Array.getElem?_append_left this]; exact hb
 exact ⟨fun b o hb => hlt b o (h.froz b o hb), fun b I hb => (let ⟨h1, h2, o, h3, h4⟩ := h.memo b I hb; ⟨h1, h2, o, hlt _ _ h3, h4⟩), h.rest, h.nofz, fun x hx => hlt _ _ (h.own x hx), h.nodup, h.apart⟩
theorem St.mapBlock {H : FH} {w : World} {L : OL} {b : Nat} {cs : Array Value} {E : TypeId} (h : St H w ([(b, .cells cs E)] ++ L)) (f : Array Value → Array Value) : St H (Sort.mapBlock w b f) ([(b, .cells (f cs) E)] ++ L) := by
 have hw : w.heap[b]? = some (.cells cs E) := St.hd h
 have e : Sort.mapBlock w b f = { w with heap := w.heap.setIfInBounds b (.cells (f cs) E) } := by
  unfold Sort.mapBlock
  congr 1
  apply Array.ext_getElem?
  intro k
  rw [Array.getElem?_modify, Array.getElem?_setIfInBounds]
  by_cases hk : b = k
  subst hk
  have := Zi0 hw
  rw [hw]
  simp [this, onCells]
  simp [hk]
 rw [e]
 exact St.put h _
theorem Vc0 {xs : List A8} (hb : ∀ a, a ∈ xs → ∀ i, 0 ≤ a i ∧ a i ≤ 2305843009213693952) : ∃ ks : List Yb5, ks.map Subtype.val = xs := by
 induction xs with
 | nil => exact ⟨[], U⟩
 | cons a xs ih =>
  obtain ⟨ks, rfl⟩ := ih (fun b h => hb b (mem_cons_of_mem _ h))
  exact ⟨⟨a, hb a (mem_cons_self ..)⟩ :: ks, U⟩
theorem Wx2 (ks : List Yb5) (t : Nat) (h : t < ks.length * 8) : (flatK (fun x : Yb5 => Z7 .i64 x.1) 8 ks.toArray)[t]! = (Z7 .i64 (ks[t / 8]!).1)[t % 8]! := by
 rw [get_flatK _ _ _ _ (by simpa using h)]
 simp
theorem Va4 {H : FH} {w : World} {L : OL} {b c : Nat} {cs : Array Value} {xs : List A8} (hl : xs.length ≤ c) (hc : c ≤ maxLen) (hcs : cs.size = c * 8)
 (hx : ∀ i x, xs[i]? = some x → ∀ j, j < 8 → cs[i * 8 + j]? = (Z7 .i64 x)[j]?) (hS : St H w ([(b, .cells cs 222)] ++ L))
 (hb : ∀ a, a ∈ xs → ∀ i, 0 ≤ a i ∧ a i ≤ 2305843009213693952) (hlen : xs.length ≤ 1099511627776) (hnd : xs.Nodup) :
 Calls prog 257 #[.slice (some ⟨b, 0, none⟩) xs.length c, .func (.func 213) #[] #[]] w (fun e w' => e = .returned (.tuple #[]) ∧ ∃ ys C', ys.Perm xs ∧ ys.Pairwise (fun p q => bef p q = true) ∧ St H w' (C' ++ L) ∧
  W0 (Q5 .i64) 222 H (.slice (some ⟨b, 0, none⟩) xs.length c) ys C') := by
 obtain ⟨ks, rfl⟩ := Vc0 hb
 have hw : w.heap[b]? = some (.cells cs 222) := St.hd hS
 have hget : ∀ (t : Nat), t < ks.length * 8 → cs[t]? = some ((flatK (fun x : Yb5 => Z7 .i64 x.1) 8 ks.toArray)[t]!) := by
  intro t ht
  have h8 : t / 8 < ks.length := by omega
  have := hx (t / 8) (ks[t / 8]).1 (by simp [h8]) (t % 8) (Nat.mod_lt _ (by decide))
  rw [show t / 8 * 8 + t % 8 = t by omega] at this
  rw [this, Wx2 ks t ht]
  have he : (Z7 .i64 (ks[t / 8]).1).length = 8 := rfl
  have h9 : t % 8 < (Z7 .i64 (ks[t / 8]).1).length := by rw [he]; exact Nat.mod_lt _ (by decide)
  rw [getElem!_pos ks _ h8, getElem?_eq_getElem h9, getElem!_pos (Z7 .i64 (ks[t / 8]).1) _ h9]
 have hH : HoldsK (fun x : Yb5 => Z7 .i64 x.1) 8 w b 0 ks.toArray := by
  intro j hj
  rw [size_flatK] at hj
  have hj' : j < ks.length * 8 := by simpa using hj
  refine ⟨?_, ?_⟩
  rw [World.cell?, hw]
  simp only [Nat.zero_add]
  rw [hget j hj']; rfl
  simp [World.frozen?, hw]
 have hcall := AnyQ.slices_SortFunc Tryz.sortP 8 isAgg222 sizeOf222 (fun x : Yb5 => Z7 .i64 x.1) (fun _ => rfl) (fun x v hv => R7 _ _ v hv) (fun x y => Xe8 x.1 y.1) Vh1 213 #[] b 0 c ks.toArray w call213
  (Vf4 b 0 ks.toArray.size w) hH (Zi0 hw) (by simp at hlen ⊢; omega)
 change Calls prog 257 _ _ _ at hcall
 simp only [size_toArray, length_map] at hcall ⊢
 refine hcall.mono ?_
 rintro e w' ⟨rfl, d', n, os, hp, hs, rfl⟩
 have hsz : d'.size = ks.length := by have := hp.1; simpa using this
 have hperm : d'.toList.Perm ks := by
  have := hp.2.2
  rw [Array.extract_eq_self_of_le (by omega), Array.extract_eq_self_of_le (by simp)] at this
  simpa using this
 have hF : (flatK (fun x : Yb5 => Z7 .i64 x.1) 8 d').size = ks.length * 8 := by rw [size_flatK, hsz]
 refine ⟨U, d'.toList.map Subtype.val, [(b, .cells (putCells id 0 (flatK (fun x : Yb5 => Z7 .i64 x.1) 8 d') cs) 222)], hperm.map _, ?_, ?_, .inr ⟨b, c, _, ?_, ?_, hc, ?_, U, ?_⟩⟩
 rw [pairwise_map, pairwise_iff_getElem]
 intro i j hi hj hij
 have hi' : i < d'.size := by simpa using hi
 have hj' : j < d'.size := by simpa using hj
 have := hs i j (Nat.zero_le _) hij (by simp at hj ⊢; omega)
 rw [Xk8, getElem!_pos d' j hj', getElem!_pos d' i hi'] at this
 simp only [Array.getElem_toList]
 refine (Yi0 ?_).resolve_right (by rw [this]; simp)
 intro e
 have hnd' : (d'.toList.map Subtype.val).Nodup := (hperm.map _).nodup_iff.2 hnd
 have := (nodup_iff_pairwise_ne.1 hnd')
 rw [pairwise_map, pairwise_iff_getElem] at this
 exact this i j hi hj hij (by simpa using e)
 have h1 := (hS.ahead n).mapBlock (putCells id 0 (flatK (fun x : Yb5 => Z7 .i64 x.1) 8 d'))
 exact h1.grown os
 simp [hsz]
 simp [hsz]; simpa using hl
 simp only [putCells, Array.size_mapIdx]
 exact hcs
 intro i x hix
 refine ⟨_, U, fun j hj => ?_⟩
 have hj : j < 8 := hj
 have hi : i < d'.size := by
  rcases Nat.lt_or_ge i d'.size with h | h
  exact h
  rw [getElem?_eq_none (by simpa using h)] at hix; cases hix
 have hxv : x = d'[i].1 := by
  rw [getElem?_map] at hix
  simp [hi] at hix
  exact hix.symm
 subst hxv
 show (putCells id 0 (flatK (fun x : Yb5 => Z7 .i64 x.1) 8 d') cs)[i * 8 + j]? = _
 have ht : i * 8 + j < ks.length * 8 := by omega
 have hcl : i * 8 + j < cs.size := by rw [hcs]; simp at hl; omega
 simp only [putCells, Array.getElem?_mapIdx]
 rw [Array.getElem?_eq_getElem hcl]
 simp only [Option.map_some]
 rw [if_pos (by rw [hF]; omega), Nat.sub_zero, get_flatK _ _ _ _ (by rw [hsz]; exact ht)]
 rw [show (i * 8 + j) / 8 = i by omega, show (i * 8 + j) % 8 = j by omega, getElem!_pos d' _ hi]
 have h9 : j < (Z7 .i64 d'[i].1).length := hj
 rw [getElem!_pos (Z7 .i64 d'[i].1) j h9, getElem?_eq_getElem h9]; rfl
end
def Zd0 (K : Nat) (a0 a1 : List Int) (a2 : Int) : Nat → Int → (List Int) → Option (Ex (List Int) ((List Int)))
 | 0, _, _ => none
 | k + 1, a3, a5 => (if a3 < (a0.length : Int) then (if a3 < (a1.length : Int) then ((E7 K (i64.wrap ((rd a0 a3) - (i64.wrap (a2 * (rd a1 a3)))))).bind fun b5 => (if a3 < (a5.length : Int) then Zd0 K a0 a1 a2 k (a3 + 1) (a5.set (a3).toNat b5) else none)) else none) else some (.go a5))
def Zg2 (K : Nat) (a0 a1 : List Int) (a2 : Int) : Option (List Int) := (if (a0.length : Int) ≤ 1099511627776 then ((Zd0 K a0 a1 a2 K 0 (replicate ((a0.length : Int)).toNat (0 : Int))).bind (Ex.elim (fun r => some r) (fun s => (fun (b0 : List Int) => some b0) s))) else none)
theorem Zs8 {a0 a1 : List Int} {a2 : Int} {r : List Int} (q0 : Zg2 K a0 a1 a2 = some r) (b2 : Y3 (Y4 .i64) H s0 a0) (b9 : Y3 (Y4 .i64) H s1 a1) (hS : St H w L) :
 Calls prog 190 #[s0, s1, vI a2] w (T4 (fun v G => (R.sl (Y4 .i64)).p G v r) H L) := by
 have Z4 := Sub.refl H
 refine X0 func190 U ntmps190 U ?_
 unfold Zg2 at q0
 refine Z1 (Z0 (Z5 vN U U (Z2 (Z1 (Z0 (Z3 s0 U U ?_))))))
 have f3 := b2.bound
 refine X9 T1 U b2 U ?_
 obtain ⟨_, q0⟩ := gd q0
 refine Zz4 (τ := (Y4 .i64)) (0 : Int) Zx1 U U U (fun _ => rfl) (by omega) (by omega) hS U fun u3 _ C5 e8 hS => Z5 u3 U U (Z2 (Z1 (Z1 (Z0 (Z5 (vI 0) U U (Z2 (Y8 ?_)))))))
 obtain ⟨c6, a6, c7⟩ := bSm q0
 refine W3 (id := 0) (fun k f w => ∃ a3 a5 H1 a7 a4, Zd0 K a0 a1 a2 k a3 a5 = some c6 ∧ Sub H H1 ∧ St H1 w (a7 ++ L) ∧ 0 ≤ a3 ∧ W0 (Y4 .i64) 2 H1 a4 a5 a7 ∧ Y3 (Y4 .i64) H1 s0 a0 ∧ Y3 (Y4 .i64) H1 s1 a1 ∧ tv f 0 = s0 ∧ tv f 1 = s1 ∧ tv f 2 = vI a2 ∧ tv f 7 = a4 ∧ tv f 8 = vI a3) (fun f w => ∃ b0 H1 b3 a8, c6 = .go b0 ∧ Sub H H1 ∧ St H1 w (b3 ++ L) ∧ W0 (Y4 .i64) 2 H1 a8 b0 b3 ∧ tv f 7 = a8) U ?_ ?_ K ?_ ?_
 rintro f w ⟨a3, a5, H1, a7, a4, a6, _⟩
 rw [Zd0] at a6; cases a6
 rintro k _ _ e9 f0 ⟨a3, a5, d9, a7, a4, a6, Z4, hS, _, a9, b2, b9, b6, c0, c1, b7, b1⟩
 rw [Zd0] at a6
 refine Z1 (Z1 (Z0 (Z3 (vI a3) (by exact b1) U (Z3 s0 (by exact b6) U ?_))))
 have f4 := b2.bound
 refine X9 T1 U b2 U (V4 (k := .i64) (a := a3) (b := (a0.length : Int)) U U U (Z2 ?_))
 obtain ⟨c8, a6⟩ | ⟨c8, a6⟩ := ic a6
 refine Z8 (bT c8 U) (Y6 (Z1 (Y8 ?_)))
 obtain ⟨f1, f2, _, _, _, e0, e1, rfl, e2⟩ := b2.elem (i := a3) (by omega) (by omega)
 obtain ⟨_, a6⟩ := gd a6
 obtain ⟨e3, e4, _, _, _, d0, d1, rfl, d2⟩ := b9.elem (i := a3) (by omega) (by omega)
 obtain ⟨b5, d3, a6⟩ := bSm a6
 obtain ⟨_, a6⟩ := gd a6
 obtain ⟨e5, _, c3⟩ := a9.some (i := a3) (by omega) (by omega)
 refine W6 15 (S8 [mE 18 a4, mE 19 (vI a3), mE 20 s0, mE 21 (vI a3), mE 22 (vQ f1 f2), mE 23 (vI (rd a0 a3)), mE 24 (vI a2), mE 25 s1, mE 26 (vI a3), mE 27 (vQ e3 e4), mE 28 (vI (rd a1 a3)), mE 29 (vI (i64.wrap (a2 * (rd a1 a3)))), mE 30 (vI (i64.wrap ((rd a0 a3) - (i64.wrap (a2 * (rd a1 a3)))))), mE 31 (vI b5), mE 32 (vQ e5 ((a3).toNat * 1))]) [] mixed U U U hS (U1 (X4 fun S B => Z3 a4 (evT (B 7 U) b7) U (qz S)) (X4 fun S B => Z3 (vI a3) (evT (B 8 U) b1) U (qz S)) (X4 fun S B => Z3 s0 (evT (B 0 U) b6) U (qz S)) (X4 fun S B => Z3 (vI a3) (evT (B 8 U) b1) U (qz S)) (Y7 fun S V => X6 T1 U (eM (V 2 20 U U)) e0 (eM (V 3 21 U U)) (by omega) (by omega) U (qz S)) (P0 fun s S V => Y1 (vI (rd a0 a3)) ty2 (eM (V 4 22 U U)) (S.froz _ _ (s.1 _ _ e1)) (e2 0 (show 0 < 1 by decide)) U (qz S)) (X4 fun S B => Z3 (vI a2) (evT (B 2 U) c1) U (qz S)) (X4 fun S B => Z3 s1 (evT (B 1 U) c0) U (qz S)) (K3 (X4 fun S B => Z3 (vI a3) (evT (B 8 U) b1) U (qz S)) (Y7 fun S V => X6 T1 U (eM (V 7 25 U U)) d0 (eM (V 8 26 U U)) (by omega) (by omega) U (qz S)) (P0 fun s S V => Y1 (vI (rd a1 a3)) ty2 (eM (V 9 27 U U)) (S.froz _ _ (s.1 _ _ d1)) (d2 0 (show 0 < 1 by decide)) U (qz S)) (Y7 fun S V => Zi4 (i64.wrap (a2 * (rd a1 a3))) (eM (V 6 24 U U)) (eM (V 10 28 U U)) U U (qz S)) (L7 (Y7 fun S V => Zg8 (i64.wrap ((rd a0 a3) - (i64.wrap (a2 * (rd a1 a3))))) (eM (V 5 23 U U)) (eM (V 11 29 U U)) U U (qz S)) ?_ (I2 ?_ W9)))) ?_
 intro _ _ _ _ _ hS _ d4 hcq
 refine X2 call209 (S4 (eM (d4 12 30 U U))) U (B3 d3  hS) ?_
 rintro _ _ _ d5 hS rfl
 exact qn d5 U hS U
 exact Y7 fun S V => Q3 T1 (Eq.trans (eM (V 0 18 U U)) c3) (eM (V 1 19 U U)) (by omega) (by omega) U (qz S)
 intro _ e6 c9 b8 hS b4 c4 hcq
 have hS : St c9 e6 (a7 ++ L) := hS
 have Z4 := Z4.trans b8
 have b2 := b2.mono b8
 have b9 := b9.mono b8
 have a9 := a9.mono b8
 refine Za9 (τ := (Y4 .i64)) (v := a4) (u := vI b5) b5 (i := a3) U ty2 c3 a9 hS (by exact (eM (c4 14 32 (by decide) U))) (by exact (eM (c4 13 31 (by decide) U))) (by omega) (by omega) U fun _ e7 d6 hS => Z2 (X1 (Z0 (Z3 (vI a3) (by exact (evT (b4 8 U) b1)) U (W4 (a3 + 1) U U (i64_in _ (by omega)) U (Z5 (vI (a3 + 1)) U U (Z2 (e9 _ _ ⟨(a3 + 1), (a5.set (a3).toNat b5), c9, e7, a4, a6, Z4, hS, (by omega), d6, b2, b9, (evT (b4 0 U) b6), (evT (b4 1 U) c0), (evT (b4 2 U) c1), (evT (b4 7 U) b7), U⟩)))))))
 refine Z6 (bF c8 U) (W2 U ?_)
 cases a6
 exact f0 _ _ ⟨a5, d9, a7, a4, U, Z4, hS, a9, b7⟩
 exact ⟨0, (replicate ((a0.length : Int)).toNat (0 : Int)), H, C5, u3, a6, Z4, hS, (by omega), e8, b2, b9, U, U, U, U, U⟩
 rintro _ _ ⟨b0, _, b3, a8, rfl, Z4, hS, c2, c5⟩
 dsimp only [Ex.elim] at c7
 refine Z1 (Z0 (Z3 a8 (by exact c5) U (Z5 a8 U U (Z2 (Y9 (vs := [a8]) func190 Ut ?_)))))
 obtain ⟨_, d7, hS, d8⟩ := c2.freeze hS
 have Z4 := Z4.trans d7
 cases c7
 exact ⟨_, _, U, Z4, hS, d8⟩
def Wx0 (ds : List Int) (n most : Int) : Bool := decide ((∀ d, d ∈ ds → 1 ≤ d ∧ d ≤ 12) ∧ ds.length ≤ 8 ∧ n ≤ 1000 ∧ 0 ≤ most ∧ most ≤ 1073741824)
def lsM (ds : List Int) (n most : Int) : List A8 := if 0 ≤ n then lsF ds most ds.length (fun _ => 0) n [] else []
def Zj3 (K : Nat) (ds : List Int) (n most : Int) : Option (List A8 × Bool) := if Wx0 ds n most = true then some (lsM ds n most, decide (((lsM ds n most).length : Int) ≤ most)) else none
theorem Ye8 {a0 : List Int} {a1 a2 : Int} {r : List A8 × Bool} (q0 : Zj3 K a0 a1 a2 = some r) (hs0 : Y3 (Y4 .i64) H s0 a0) (hS : St H w L) :
    Calls prog 231 #[s0, vI a1, vI a2] w (T4 (fun v G => (R.t2 (R.sl (Q5 .i64)) R.bool).p G v r) H L) := by
  unfold Zj3 at q0
  by_cases hok : Wx0 a0 a1 a2 = true
  case neg => rw [if_neg hok] at q0; cases q0
  rw [if_pos hok] at q0
  cases q0
  obtain ⟨k1, k2, k3, k4⟩ := of_decide_eq_true hok
  refine X0 func231 U ntmps231 U ?_
  repeat refine Z1 ?_
  refine Z0 (Z5 vN U U (Z5 (vB false) U U (Z2 ?_)))
  repeat refine Z1 ?_
  refine Z0 (Z3 s0 U U (Z3 (vI a2) U U (Zw5 ([s0] ++ ([vI a2] ++ [vN])) Vl2 (Yc0 U U) (E1 U hs0.cellsL U (nl U) (E1 U U U (nl U) (Zr9 U))) U (T8 (v := vA ([s0] ++ ([vI a2] ++ [vN]))) ([s0] ++ ([vI a2] ++ [vN])).toArray U U hS U (fun bl w1 hS => Z5 (vP bl) U U (Z2 ?_))))))
  have hS : St H w1 ([(bl, .cells #[s0, vI a2, vN] 298)] ++ ([] ++ L)) := hS
  repeat refine Z1 ?_
  refine Z0 (Z3 (vI a1) U U (Ya4 (k := .i64) (a := a1) (b := 0) U U U (Z2 ?_)))
  repeat refine Z1 ?_
  refine N1 (fun f w => ∃ G vo Co, Sub H G ∧ St G w ([(bl, .cells #[s0, vI a2, vo] 298)] ++ (Co ++ L)) ∧ W0 (Q5 .i64) 222 G vo (lsM a0 a1 a2) Co ∧ tv f 2 = vI a2 ∧ tv f 8 = vP bl) ?_ ?_
  · rintro f w ⟨G, vo, Co, Z4, hS, ho, t2, t8⟩
    repeat refine Z1 ?_
    refine W6 12 (S8 [mE 19 (vP bl), mE 20 (vP bl), mE 21 (vQ bl 2), mE 22 vo, mE 23 (vP bl), mE 24 (vP bl), mE 25 (vQ bl 2), mE 26 vo, mE 27 (vI (lsM a0 a1 a2).length), mE 28 (vI a2), mE 29 (vB (decide (((lsM a0 a1 a2).length : Int) ≤ a2))), mE 6 vo]) [] mixed U U U hS (U1 (X4 fun S B => Z3 _ (evT (B 8 U) t8) U (qz S)) (Y7 fun S V => V0 (eM (V 0 19 U U)) U (qz S)) (Y7 fun S V => Y2 Yf5 (eM (V 1 20 U U)) U (qz S)) (Y7 fun S V => Y1 vo Xo3 (eM (V 2 21 U U)) (S.get (mR mL)) U U (qz S)) (X4 fun S B => Z3 _ (evT (B 8 U) t8) U (qz S)) (Y7 fun S V => V0 (eM (V 4 23 U U)) U (qz S)) (Y7 fun S V => Y2 Yf5 (eM (V 5 24 U U)) U (qz S)) (Y7 fun S V => Y1 vo Xo3 (eM (V 6 25 U U)) (S.get (mR mL)) U U (qz S)) (K3 (P0 fun s S V => Yh0 Zv1 (eM (V 7 26 U U)) (ho.mono s) U (qz S)) (X4 fun S B => Z3 _ (evT (B 2 U) t2) U (qz S)) (Y7 fun S V => Yj8 (k := .i64) (a := ((lsM a0 a1 a2).length : Int)) (b := a2) (eM (V 8 27 U U)) (eM (V 9 28 U U)) U (qz S)) (Y7 fun S V => Z5 vo (eM (V 3 22 U U)) U (qz S)) W9)) ?_
    intro f2 w2 H2 s2 hS hB hV _
    refine Z5 (vB (decide (((lsM a0 a1 a2).length : Int) ≤ a2))) (eM (hV 10 29 (by decide) U)) U (Z2 ?_)
    have hS : St H2 w2 ([(bl, .cells #[s0, vI a2, vo] 298)] ++ _) := hS
    have hS : St H2 w2 (Co ++ ([(bl, .cells #[s0, vI a2, vo] 298)] ++ L)) := hS.swap
    obtain ⟨H3, s3, hS3, hrd⟩ := (ho.mono s2).freeze hS
    exact Y9 (vs := [vo, vB (decide (((lsM a0 a1 a2).length : Int) ≤ a2))]) func231 ⟨by exact (eM (hV 11 6 (by decide) U)), U, trivial⟩ ⟨_, H3, U, (Z4.trans s2).trans s3, hS3.dA, ⟨_, _, U, hrd, U⟩⟩
  intro hJ
  by_cases hn : 0 ≤ a1
  · refine Z8 (bT hn U) ?_
    refine Z0 (Z3 (vP bl) U U (M4 (vA (Z7 .i64 (fun _ => 0))) Xt5 U (Z3 (vI a1) U U (U9 call272 (Wy3 U (congrArg vI (show (0 : Int) = ((a0.length - a0.length : Nat) : Int) by omega)) U U) U (Wq4 k1 k2 k4 a0.length (Nat.le_refl _) (p := fun _ => 0) (left := a1) (out := []) ⟨hn, k3⟩ hs0 (W0.nil _ _ _) (by simp; omega) hS) ?_))))
    rintro e2 w2 ⟨H2, vo, Co, rfl, s2, hS, ho⟩
    refine ⟨_, U, Z2 ?_⟩
    exact hJ _ _ ⟨H2, vo, Co, s2, hS, by unfold lsM; rw [if_pos hn]; exact ho, U, U⟩
  · refine Z6 (bF hn U) (Y6 ?_)
    exact hJ _ _ ⟨H, vN, [], .refl _, hS, by unfold lsM; rw [if_neg hn]; exact W0.nil _ _ _, U, U⟩
def Zw0 (K : Nat) (a0 a1 : (A8 × Int)) : Option Bool := ((Zm4 K a0.1 a1.1).bind fun r7 => (if r7 = true then (if a0.2 = a1.2 then some true else some false) else some false))
theorem Xg7 {a0 a1 : (A8 × Int)} {r : Bool} (q0 : Zw0 K a0 a1 = some r) (hS : St H w L) :
 Calls prog 168 #[vA (Z7 .u8 a0.1 ++ [vI a0.2]), vA (Z7 .u8 a1.1 ++ [vI a1.2])] w (T4 (fun v G => R.bool.p G v r) H L) := by
 have Z4 := Sub.refl H
 refine X0 func168 U ntmps168 U ?_
 unfold Zw0 at q0
 refine Z1 (Z0 (T8 (v := vA (Z7 .u8 a0.1 ++ [vI a0.2])) (Z7 .u8 a0.1 ++ [vI a0.2]).toArray U U hS U (fun _ _ hS => T8 (v := vA (Z7 .u8 a1.1 ++ [vI a1.2])) (Z7 .u8 a1.1 ++ [vI a1.2]).toArray U U hS U (fun _ _ hS => Z5 (vB false) U U (Z2 (Z1 (Z1 (Z0 (Y2 L6 U U (U0 (Z7 .u8 a0.1) P7 U (hS.get (o := cA (Z7 .u8 a0.1 ++ [vI a0.2]) 78) (mR mL)) U (fun j hj => Zn7 [] (Z7 .u8 a0.1) ([vI a0.2]) j hj) U (Y2 L6 U U (U0 (Z7 .u8 a1.1) P7 U (hS.get (o := cA (Z7 .u8 a1.1 ++ [vI a1.2]) 78) mL) U (fun j hj => Zn7 [] (Z7 .u8 a1.1) ([vI a1.2]) j hj) U ?_))))))))))))
 obtain ⟨r7, a5, q0⟩ := bSm q0
 refine X2 call239 (W8 U U) U (Yt7 a5  hS) ?_
 rintro _ _ _ a6 hS rfl
 have Z4 := Z4.trans a6
 refine P5 (b := r7) U U (Z2 ?_)
 obtain ⟨a4, q0⟩ | ⟨a4, q0⟩ := ic q0
 refine Z6 (nT a4) (Y6 (Z1 (Z1 (Z0 (Y2 Zf7 U U (Y1 (vI a0.2) ty2 U (hS.get (mR mL)) U U (Y2 Zf7 U U (Y1 (vI a1.2) ty2 U (hS.get mL) U U (L1 (k := .i64) (a := a0.2) (b := a1.2) U U U (Z2 ?_))))))))))
 obtain ⟨a3, q0⟩ | ⟨a3, q0⟩ := ic q0
 refine Z6 (bN a3 U) (Y6 (Z1 (Z0 (Z5 (vB true) U U (Z2 (Y9 (vs := [vB true]) func168 Ut ?_))))))
 cases q0
 exact ⟨_, _, U, Z4, (St.dA (St.dA hS)), U⟩
 refine Z8 (bO a3 U) (Z1 (Z0 (Z5 (vB false) U U (Z2 (Y9 (vs := [vB false]) func168 Ut ?_)))))
 cases q0
 exact ⟨_, _, U, Z4, (St.dA (St.dA hS)), U⟩
 refine Z8 (nT (X8 a4)) (Z1 (Z0 (Z5 (vB false) U U (Z2 (Y9 (vs := [vB false]) func168 Ut ?_)))))
 cases q0
 exact ⟨_, _, U, Z4, (St.dA (St.dA hS)), U⟩
def Zl3 (K : Nat) (a0 : MpT) (a1 : Int) : Option Int := ((Zn9 K a0 a1).bind fun r4 => (if r4 < 0 then some (-1) else some r4))
theorem Yi6 {a0 : MpT} {a1 r : Int} (q0 : Zl3 K a0 a1 = some r) (a4 : Y3 yT H s0 a0) (hS : St H w L) :
 Calls prog 44 #[vA [s0], vI a1] w (T4 (fun v G => (R.int .i64).p G v r) H L) := by
 have Z4 := Sub.refl H
 refine X0 func44 U ntmps44 U ?_
 unfold Zl3 at q0
 refine Z1 (Z0 (T8 (v := vA [s0]) [s0].toArray U U hS U (fun _ _ hS => Z5 (vI 0) U U (Z2 (Z1 (Z0 (Y2 U8 U U (Y1 s0 P1 U (hS.get mL) U U (Z3 (vI a1) U U ?_)))))))))
 obtain ⟨r4, a5, q0⟩ := bSm q0
 refine X2 call102 (W8 U U) U (Yx0 a5 a4 hS) ?_
 rintro _ _ _ a6 hS rfl
 have Z4 := Z4.trans a6
 refine Z5 (vI r4) U U (Z2 (Z1 (Z1 (Z0 (Z3 (vI r4) U U (V4 (k := .i64) (a := r4) (b := 0) U U U (Z2 ?_)))))))
 obtain ⟨a3, q0⟩ | ⟨a3, q0⟩ := ic q0
 refine Z8 (bT a3 U) (Z1 (Z0 (Z5 (vI (-1)) U U (Z2 (Y9 (vs := [vI (-1)]) func44 Ut ?_)))))
 cases q0
 exact ⟨_, _, U, Z4, (St.dA hS), U⟩
 refine Z6 (bF a3 U) (Y6 (Z1 (Z0 (Z3 (vI r4) U U (Z5 (vI r4) U U (Z2 (Y9 (vs := [vI r4]) func44 Ut ?_)))))))
 cases q0
 exact ⟨_, _, U, Z4, (St.dA hS), U⟩
def T6 (K : Nat) (a0 : List MpT) (a1 : (MpT → Option Bool)) : Option Bool := ((J0 K a0 a1).bind fun r1 => some (decide (0 ≤ r1)))
theorem Zd6 {a0 : List MpT} {a1 : (MpT → Option Bool)} {r : Bool} (q0 : T6 K a0 a1 = some r) (a3 : Y3 (X3 yT) H s0 a0) (a4 : FnQ prog s1 (R.agg (X3 yT)) a1 H) (hS : St H w L) :
 Calls prog 123 #[s0, s1] w (T4 (fun v G => R.bool.p G v r) H L) := by
 have Z4 := Sub.refl H
 refine X0 func123 U ntmps123 U ?_
 unfold T6 at q0
 refine Z1 (Z0 (Z5 (vB false) U U (Z2 (Z1 (Z0 (Z3 s0 U U (Z3 s1 U U ?_)))))))
 obtain ⟨r1, a5, q0⟩ := bSm q0
 refine X2 call214 (W8 U U) U (Zu3 a5 a3 a4 hS) ?_
 rintro _ _ _ a6 hS rfl
 have Z4 := Z4.trans a6
 refine Ya4 (k := .i64) (a := r1) (b := 0) U U U (Z5 (vB (decide (0 ≤ r1))) U U (Z2 (Y9 (vs := [vB (decide (0 ≤ r1))]) func123 Ut ?_)))
 cases q0
 exact ⟨_, _, U, Z4, hS, U⟩
def Zn1 (K : Nat) (a0 : Int) : Option Bool := ((Zq2 K a0 1 12).bind fun r1 => some (!r1))
theorem Yo5 {a0 : Int} {r : Bool} (q0 : Zn1 K a0 = some r) (hS : St H w L) :
 Calls prog 210 #[vI a0] w (T4 (fun v G => R.bool.p G v r) H L) := by
 have Z4 := Sub.refl H
 refine X0 func210 U ntmps210 U ?_
 unfold Zn1 at q0
 refine Z1 (Z0 (Z5 (vB false) U U (Z2 (Z1 (Z0 (Z3 (vI a0) U U ?_))))))
 obtain ⟨r1, a1, q0⟩ := bSm q0
 refine X2 call81 (I3 U U U) U (Yn5 a1  hS) ?_
 rintro _ _ _ a3 hS rfl
 have Z4 := Z4.trans a3
 refine P5 (b := r1) U U (Z5 (vB (!r1)) U U (Z2 (Y9 (vs := [vB (!r1)]) func210 Ut ?_)))
 cases q0
 exact ⟨_, _, U, Z4, hS, U⟩
end Go.Proofs.YtabofnehiclkiaaGreat
