/- Walk, rules and plain laws. -/
import Derived.Test.YtabofnehiclkiaaGreatRTy
namespace Go.Proofs.YtabofnehiclkiaaGreat
open Go Go.Proofs.Tryz IntKind IntWalk List
set_option linter.all false
set_option maxRecDepth 100000
set_option maxHeartbeats 8000000
variable {K : Nat} {H : FH} {w : World} {L : OL} {s0 s1 s2 s3 s4 s5 s6 : Value}
def J8 (K : Nat) (a0 : A8) (a1 : List Int) : Nat → Int → Int → Option (Ex (A8 × Int) Int)
 | 0, _, _ => none
 | k + 1, b3, a4 => (if a4 < (a1.length : Int) then (if a4 < 8 then J8 K a0 a1 k (i64.wrap (b3 + (i64.wrap ((((rd a1 a4)).tmod 2) * (Y5 a0 a4))))) (a4 + 1) else none) else some (.go b3))
def E8 (K : Nat) (j3 : Int → Int → Option (Ex (A8 × Int) Int)) (a0 : A8) (a1 : List Int) (a2 : A8) (a3 a9 : Int) (c2 : Bool) : Option (Ex (A8 × Int) Int) := (if c2 = true then some (.ret ((fun _ => 0), 0)) else (if a3 < 8 then (if 0 < (Y5 a2 a3) then ((J8 K a0 a1 K a9 (a3 + 1)).bind (Ex.elim (fun r => some (.ret r)) (fun s => (fun (d6 : Int) => j3 (a3 + 1) d6) s))) else j3 (a3 + 1) a9) else none))
def M7 (K : Nat) (a2 : A8) : Nat → Int → A8 → Option (Ex (A8 × Int) A8)
 | 0, _, _ => none
 | k + 1, a5, a6 => (if a5 < 8 then M7 K a2 k (a5 + 1) (T3 a6 a5 (i64.wrap ((Y5 a6 a5) + (Y5 a2 a5)))) else some (.go a6))
def S6 (K : Nat) (a0 : A8) (a1 : List Int) (a2 : A8) : Nat → Int → Int → Option (Ex (A8 × Int) Int)
 | 0, _, _ => none
 | k + 1, a3, a9 => (if a3 < (a1.length : Int) then (if (((rd a1 a3)).tmod 2) = 0 then S6 K a0 a1 a2 k (a3 + 1) a9 else (if a3 < 8 then (if 0 < (Y5 a0 a3) then E8 K (S6 K a0 a1 a2 k) a0 a1 a2 a3 a9 (decide (0 < (Y5 a2 a3))) else E8 K (S6 K a0 a1 a2 k) a0 a1 a2 a3 a9 false) else none)) else some (.go a9))
def D8 (K : Nat) (a0 : A8) (a1 : List Int) (a2 : A8) : Option (A8 × Int) := ((S6 K a0 a1 a2 K 0 0).bind (Ex.elim (fun r => some r) (fun s => (fun (c1 : Int) => ((M7 K a2 K 0 a0).bind (Ex.elim (fun r => some r) (fun s => (fun (a7 : A8) => (if ((c1).tmod 2) = 1 then some (a7, (-1)) else some (a7, 1))) s)))) s)))
theorem Ys3 {a0 : A8} {a1 : List Int} {a2 : A8} {r : (A8 × Int)} (q0 : D8 K a0 a1 a2 = some r) (b0 : Y3 (Y4 .i64) H s0 a1) (hS : St H w L) :
 Calls prog 216 #[vA (Z7 .i64 a0), s0, vA (Z7 .i64 a2)] w (T4 (fun v G => (R.t2 (R.agg (Q5 .i64)) (R.int .i64)).p G v r) H L) := by
 have Z4 := Sub.refl H
 refine X0 func216 U ntmps216 U ?_
 unfold D8 at q0
 refine Z1 (Z0 (T8 (v := vA (Z7 .i64 a0)) (Z7 .i64 a0).toArray U U hS U (fun b1 _ hS => T8 (v := vA (Z7 .i64 a2)) (Z7 .i64 a2).toArray U U hS U (fun b4 _ hS => U5 (z := vA (Z7 .i64 (fun _ => 0))) (Z7 .i64 (fun _ => 0)).toArray Zm8.zero U hS U (fun b7 _ hS => Z5 (vI 0) U U (Z2 (Z1 (Z0 (Z5 (vI 0) U U (Z2 (Z1 (Z1 (Z0 (Z3 s0 U U ?_))))))))))))))
 have l4 := b0.bound
 refine X9 T1 U b0 U (Z3 (vI 0) U U (Z2 (Y8 ?_)))
 obtain ⟨g3, a8, f5⟩ := bSm q0
 refine W3 (id := 0) (fun k f w => ∃ a3 a9 H1, S6 K a0 a1 a2 k a3 a9 = some g3 ∧ Sub H H1 ∧ St H1 w ([(b7, cA (Z7 .i64 (fun _ => 0)) 222)] ++ ([(b4, cA (Z7 .i64 a2) 222)] ++ ([(b1, cA (Z7 .i64 a0) 222)] ++ L))) ∧ 0 ≤ a3 ∧ Y3 (Y4 .i64) H1 s0 a1 ∧ tv f 1 = s0 ∧ tv f 3 = vP b1 ∧ tv f 5 = vP b4 ∧ tv f 6 = vP b7 ∧ tv f 8 = vI a9 ∧ tv f 13 = s0 ∧ tv f 14 = vI (a1.length : Int) ∧ tv f 15 = vI a3) (fun f w => ∃ c1 H1, g3 = .go c1 ∧ Sub H H1 ∧ St H1 w ([(b7, cA (Z7 .i64 (fun _ => 0)) 222)] ++ ([(b4, cA (Z7 .i64 a2) 222)] ++ ([(b1, cA (Z7 .i64 a0) 222)] ++ L))) ∧ tv f 3 = vP b1 ∧ tv f 5 = vP b4 ∧ tv f 6 = vP b7 ∧ tv f 8 = vI c1) U ?_ ?_ K ?_ ?_
 rintro f w ⟨a3, a9, H1, a8, _⟩
 rw [S6] at a8; cases a8
 rintro k _ _ i5 k7 ⟨a3, a9, f6, a8, Z4, hS, _, b0, d7, c3, c4, c8, c9, c5, c6, b6⟩
 rw [S6] at a8
 refine Z1 (Z0 (V4 (k := .i64) (a := a3) (b := (a1.length : Int)) (by exact b6) (by exact c6) U (Z2 (Z1 ?_))))
 obtain ⟨g4, a8⟩ | ⟨g4, a8⟩ := ic a8
 refine Z8 (bT g4 U) (Y6 (Z1 (Y8 (Z1 (Z0 (Z3 (vI a3) (by exact b6) U ?_))))))
 obtain ⟨_, _, _, _, _, j5, j6, rfl, j7⟩ := b0.elem (i := a3) (by omega) (by omega)
 refine X6 T1 U (by exact c5) j5 (by exact b6) (by omega) (by omega) U (Y1 (vI (rd a1 a3)) ty2 U (hS.froz _ _ j6) (j7 0 (show 0 < 1 by decide)) U (Z5 (vI a3) U U (Z5 (vI (rd a1 a3)) U U (Z2 (Z1 (Z1 (Z0 (Z3 (vI (rd a1 a3)) U U (Zd4 (((rd a1 a3)).tmod 2) U U (by decide) U U (Zb2 (k := .i64) (a := (((rd a1 a3)).tmod 2)) (b := 0) U U U (Z2 ?_)))))))))))
 obtain ⟨g5, a8⟩ | ⟨g5, a8⟩ := ic a8
 refine Z8 (bT g5 U) (W2 U (Z0 (W4 (a3 + 1) (by exact b6) U (i64_in _ (by omega)) U (Z3 (vI (a3 + 1)) U U (Z2 (i5 _ _ ⟨(a3 + 1), a9, f6, a8, Z4, hS, (by omega), b0, d7, c3, c4, c8, c9, c5, c6, U⟩))))))
 refine Z6 (bF g5 U) (Y6 (Z1 (Z1 (N1 (fun f w => ∃ c2 H1, E8 K (S6 K a0 a1 a2 k) a0 a1 a2 a3 a9 c2 = some g3 ∧ Sub H H1 ∧ St H1 w ([(b7, cA (Z7 .i64 (fun _ => 0)) 222)] ++ ([(b4, cA (Z7 .i64 a2) 222)] ++ ([(b1, cA (Z7 .i64 a0) 222)] ++ L))) ∧ Y3 (Y4 .i64) H1 s0 a1 ∧ tv f 1 = s0 ∧ tv f 3 = vP b1 ∧ tv f 5 = vP b4 ∧ tv f 6 = vP b7 ∧ tv f 8 = vI a9 ∧ tv f 9 = vI a3 ∧ tv f 13 = s0 ∧ tv f 14 = vI (a1.length : Int) ∧ tv f 15 = vI a3 ∧ tv f 32 = vB c2) ?_ ?_))))
 rintro _ _ ⟨c2, h2, b2, Z4, hS, b0, f9, g0, e0, d4, g1, g2, e4, e5, e6, e7⟩
 unfold E8 at b2
 obtain ⟨g6, b2⟩ | ⟨g6, b2⟩ := ic b2
 refine Z8 (Eq.trans (by exact e7) (congrArg vB g6)) (Z1 (Z0 (M4 (vA (Z7 .i64 (fun _ => 0))) Xt5 U (W1 (v := vA (Z7 .i64 (fun _ => 0))) (vs := (Z7 .i64 (fun _ => 0)).toArray) (cs := (Z7 .i64 (fun _ => 0)).toArray) P3 (by exact d4) U U hS U (R7 .i64 (fun _ => 0)) U (fun _ hS => Z5 (vI 0) U U (Z2 (Y9 (vs := [vA (Z7 .i64 (fun _ => 0)), vI 0]) func216 ⟨⟨_, (by exact d4), T9 P3 (hS.get mL) U⟩, U, trivial⟩ ?_)))))))
 cases b2
 dsimp only [Ex.elim] at f5
 cases f5
 exact ⟨_, _, U, Z4, (St.dA (St.dA (St.dA hS))), ⟨_, _, U, ⟨_, U, U⟩, U⟩⟩
 refine Z6 (Eq.trans (by exact e7) (congrArg vB (X8 g6))) (Y6 (Z1 (Z0 (Z3 (vI a3) (by exact g2) U ?_))))
 obtain ⟨_, b2⟩ := gd b2
 refine U3 Zm9 (by exact e0) U (by omega) (by omega) U (Y1 (vI (Y5 a2 a3)) ty3 U (hS.get (o := cA (Z7 .i64 a2) 222) (mR mL)) (I1 [] [] (by omega) (by omega)) U (A0 (k := .i64) (a := (Y5 a2 a3)) (b := 0) U U U (Z2 ?_)))
 obtain ⟨g7, b2⟩ | ⟨g7, b2⟩ := ic b2
 refine Z8 (bT g7 U) (Z1 (Z0 (Z3 (vI a3) (by exact g2) U (W4 (a3 + 1) U U (i64_in _ (by omega)) U (Z5 (vI (a3 + 1)) U U (Z2 (Y8 ?_)))))))
 obtain ⟨i6, b8, i7⟩ := bSm b2
 refine W3 (id := 2) (fun k f w => ∃ b3 a4 H1, J8 K a0 a1 k b3 a4 = some i6 ∧ Sub H H1 ∧ St H1 w ([(b7, cA (Z7 .i64 (fun _ => 0)) 222)] ++ ([(b4, cA (Z7 .i64 a2) 222)] ++ ([(b1, cA (Z7 .i64 a0) 222)] ++ L))) ∧ 0 ≤ a4 ∧ Y3 (Y4 .i64) H1 s0 a1 ∧ tv f 1 = s0 ∧ tv f 3 = vP b1 ∧ tv f 5 = vP b4 ∧ tv f 6 = vP b7 ∧ tv f 8 = vI b3 ∧ tv f 11 = vI a4 ∧ tv f 13 = s0 ∧ tv f 14 = vI (a1.length : Int) ∧ tv f 15 = vI a3) (fun f w => ∃ d6 H1, i6 = .go d6 ∧ Sub H H1 ∧ St H1 w ([(b7, cA (Z7 .i64 (fun _ => 0)) 222)] ++ ([(b4, cA (Z7 .i64 a2) 222)] ++ ([(b1, cA (Z7 .i64 a0) 222)] ++ L))) ∧ Y3 (Y4 .i64) H1 s0 a1 ∧ tv f 1 = s0 ∧ tv f 3 = vP b1 ∧ tv f 5 = vP b4 ∧ tv f 6 = vP b7 ∧ tv f 8 = vI d6 ∧ tv f 13 = s0 ∧ tv f 14 = vI (a1.length : Int) ∧ tv f 15 = vI a3) U ?_ ?_ K ?_ ?_
 rintro f w ⟨b3, a4, H1, b8, _⟩
 rw [J8] at b8; cases b8
 rintro k _ _ k8 k9 ⟨b3, a4, j8, b8, Z4, hS, _, b0, d0, d8, e8, e9, f0, c7, e1, e2, e3⟩
 rw [J8] at b8
 refine Z1 (Z1 (Z0 (Z3 (vI a4) (by exact c7) U (Z3 s0 (by exact d0) U ?_))))
 have l5 := b0.bound
 refine X9 T1 U b0 U (V4 (k := .i64) (a := a4) (b := (a1.length : Int)) U U U (Z2 ?_))
 obtain ⟨g8, b8⟩ | ⟨g8, b8⟩ := ic b8
 refine Z8 (bT g8 U) (Y6 (Z1 (Y8 ?_)))
 obtain ⟨l0, l1, _, _, _, j9, k0, rfl, k1⟩ := b0.elem (i := a4) (by omega) (by omega)
 obtain ⟨_, b8⟩ := gd b8
 refine W6 11 (S8 [mE 46 (vI b3), mE 47 s0, mE 48 (vI a4), mE 49 (vQ l0 l1), mE 50 (vI (rd a1 a4)), mE 51 (vI (((rd a1 a4)).tmod 2)), mE 52 (vI a4), mE 53 (vQ b1 (0 + (a4).toNat * 1)), mE 54 (vI (Y5 a0 a4)), mE 55 (vI (i64.wrap ((((rd a1 a4)).tmod 2) * (Y5 a0 a4)))), mE 56 (vI (i64.wrap (b3 + (i64.wrap ((((rd a1 a4)).tmod 2) * (Y5 a0 a4))))))]) [] mixed U U U hS (U1 (X4 fun S B => Z3 (vI b3) (evT (B 8 U) f0) U (qz S)) (X4 fun S B => Z3 s0 (evT (B 1 U) d0) U (qz S)) (X4 fun S B => Z3 (vI a4) (evT (B 11 U) c7) U (qz S)) (Y7 fun S V => X6 T1 U (eM (V 1 47 U U)) j9 (eM (V 2 48 U U)) (by omega) (by omega) U (qz S)) (P0 fun s S V => Y1 (vI (rd a1 a4)) ty2 (eM (V 3 49 U U)) (S.froz _ _ (s.1 _ _ k0)) (k1 0 (show 0 < 1 by decide)) U (qz S)) (Y7 fun S V => Zd4 (((rd a1 a4)).tmod 2) (eM (V 4 50 U U)) U (by decide) U U (qz S)) (X4 fun S B => Z3 (vI a4) (evT (B 11 U) c7) U (qz S)) (K6 fun S B V => U3 Zm9 (evT (B 3 U) d8) (eM (V 6 52 U U)) (by omega) (by omega) U (qz S)) (L7 (Y7 fun S V => Y1 (vI (Y5 a0 a4)) ty3 (eM (V 7 53 U U)) (S.get (o := cA (Z7 .i64 a0) 222) (mR (mR (mR mL)))) (I1 [] [] (by omega) (by omega)) U (qz S)) (Y7 fun S V => Zi4 (i64.wrap ((((rd a1 a4)).tmod 2) * (Y5 a0 a4))) (eM (V 5 51 U U)) (eM (V 8 54 U U)) U U (qz S)) (I2 (Y7 fun S V => W4 (i64.wrap (b3 + (i64.wrap ((((rd a1 a4)).tmod 2) * (Y5 a0 a4))))) (eM (V 0 46 U U)) (eM (V 9 55 U U)) U U (qz S)) W9))) ?_
 intro _ k2 i8 h3 hS c0 j1 hcq
 have hS : St i8 k2 ([(b7, cA (Z7 .i64 (fun _ => 0)) 222)] ++ _) := hS
 have Z4 := Z4.trans h3
 have b0 := b0.mono h3
 refine Z5 (vI (i64.wrap (b3 + (i64.wrap ((((rd a1 a4)).tmod 2) * (Y5 a0 a4)))))) (by exact (eM (j1 10 56 (by decide) U))) U (Z2 (X1 (Z0 (Z3 (vI a4) (by exact (evT (c0 11 U) c7)) U (W4 (a4 + 1) U U (i64_in _ (by omega)) U (Z5 (vI (a4 + 1)) U U (Z2 (k8 _ _ ⟨(i64.wrap (b3 + (i64.wrap ((((rd a1 a4)).tmod 2) * (Y5 a0 a4))))), (a4 + 1), i8, b8, Z4, hS, (by omega), b0, (evT (c0 1 U) d0), (evT (c0 3 U) d8), (evT (c0 5 U) e8), (evT (c0 6 U) e9), U, U, (evT (c0 13 U) e1), (evT (c0 14 U) e2), (evT (c0 15 U) e3)⟩))))))))
 refine Z6 (bF g8 U) (W2 U ?_)
 cases b8
 exact k9 _ _ ⟨b3, j8, U, Z4, hS, b0, d0, d8, e8, e9, f0, e1, e2, e3⟩
 exact ⟨a9, (a3 + 1), h2, b8, Z4, hS, (by omega), b0, f9, g0, e0, d4, g1, U, e4, e5, e6⟩
 rintro _ _ ⟨d6, k3, rfl, Z4, hS, b0, h5, h6, h7, h8, h9, g9, h0, h1⟩
 dsimp only [Ex.elim] at i7
 refine X1 (Z0 (W4 (a3 + 1) (by exact h1) U (i64_in _ (by omega)) U (Z3 (vI (a3 + 1)) U U (Z2 (i5 _ _ ⟨(a3 + 1), d6, k3, i7, Z4, hS, (by omega), b0, h5, h6, h7, h8, h9, g9, h0, U⟩)))))
 refine Z6 (bF g7 U) (Y6 (X1 (Z0 (W4 (a3 + 1) (by exact e6) U (i64_in _ (by omega)) U (Z3 (vI (a3 + 1)) U U (Z2 (i5 _ _ ⟨(a3 + 1), a9, h2, b2, Z4, hS, (by omega), b0, f9, g0, e0, d4, g1, e4, e5, U⟩)))))))
 intro j4
 refine Z0 (Z3 (vI a3) U U ?_)
 obtain ⟨_, a8⟩ := gd a8
 refine U3 Zm9 (by exact c3) U (by omega) (by omega) U (Y1 (vI (Y5 a0 a3)) ty3 U (hS.get (o := cA (Z7 .i64 a0) 222) (mR (mR mL))) (I1 [] [] (by omega) (by omega)) U (A0 (k := .i64) (a := (Y5 a0 a3)) (b := 0) U U U (Z3 (vB (decide (0 < (Y5 a0 a3)))) U U ?_)))
 obtain ⟨b5, a8⟩ | ⟨b5, a8⟩ := ic a8
 refine Y0 U U (bT b5 U) (Z3 (vI a3) U U (Y0 U U (bT b5 U) (U3 Zm9 (by exact c4) U (by omega) (by omega) U (Y0 U U (bT b5 U) (Y1 (vI (Y5 a2 a3)) ty3 U (hS.get (o := cA (Z7 .i64 a2) 222) (mR mL)) (I1 [] [] (by omega) (by omega)) U (Y0 U U (bT b5 U) (A0 (k := .i64) (a := (Y5 a2 a3)) (b := 0) U U U (W5 (t := true) (vB (decide (0 < (Y5 a2 a3)))) (bT b5 U) ((if_pos U).trans U) U (Z2 (j4 _ _ ⟨(decide (0 < (Y5 a2 a3))), f6, a8, Z4, hS, b0, d7, c3, c4, c8, c9, U, c5, c6, b6, U⟩))))))))))
 refine Z9 U U (bF b5 U) U U U (Z9 U U (bF b5 U) U U U (Z9 U U (bF b5 U) U U U (Z9 U U (bF b5 U) U U U (W5 (t := false) (vB false) (bF b5 U) ((if_neg Bool.false_ne_true).trans U) U (Z2 (j4 _ _ ⟨false, f6, a8, Z4, hS, b0, d7, c3, c4, c8, c9, U, c5, c6, b6, U⟩))))))
 refine Z6 (bF g4 U) (W2 U ?_)
 cases a8
 exact k7 _ _ ⟨a9, f6, U, Z4, hS, c3, c4, c8, c9⟩
 exact ⟨0, 0, H, a8, Z4, hS, (by omega), b0, U, U, U, U, U, U, U, U⟩
 rintro _ _ ⟨c1, k4, rfl, Z4, hS, i0, i1, i2, i3⟩
 dsimp only [Ex.elim] at f5
 refine Z1 (Z1 (Z0 (Z3 (vI 0) U U (Z2 (Y8 ?_)))))
 obtain ⟨i9, b9, d9⟩ := bSm f5
 refine W3 (id := 4) (fun k f w => ∃ a5 a6 H1, M7 K a2 k a5 a6 = some i9 ∧ Sub H H1 ∧ St H1 w ([(b7, cA (Z7 .i64 (fun _ => 0)) 222)] ++ ([(b4, cA (Z7 .i64 a2) 222)] ++ ([(b1, cA (Z7 .i64 a6) 222)] ++ L))) ∧ 0 ≤ a5 ∧ tv f 3 = vP b1 ∧ tv f 5 = vP b4 ∧ tv f 6 = vP b7 ∧ tv f 8 = vI c1 ∧ tv f 58 = vI a5) (fun f w => ∃ a7 H1, i9 = .go a7 ∧ Sub H H1 ∧ St H1 w ([(b7, cA (Z7 .i64 (fun _ => 0)) 222)] ++ ([(b4, cA (Z7 .i64 a2) 222)] ++ ([(b1, cA (Z7 .i64 a7) 222)] ++ L))) ∧ tv f 3 = vP b1 ∧ tv f 6 = vP b7 ∧ tv f 8 = vI c1) U ?_ ?_ K ?_ ?_
 rintro f w ⟨a5, a6, H1, b9, _⟩
 rw [M7] at b9; cases b9
 rintro k _ _ l2 l3 ⟨a5, a6, k5, b9, Z4, hS, _, d1, f1, f2, f3, d3⟩
 rw [M7] at b9
 refine Z1 (Z0 (V4 (k := .i64) (a := a5) (b := 8) (by exact d3) U U (Z2 (Z1 ?_))))
 obtain ⟨f7, b9⟩ | ⟨f7, b9⟩ := ic b9
 refine Z8 (bT f7 U) (Y6 (Z1 (Y8 (Z1 (Z0 (Z3 (vI a5) (by exact d3) U (Z5 (vI a5) U U (Z2 (W6 8 (S8 [mE 61 (vI a5), mE 62 (vQ b1 (0 + (a5).toNat * 1)), mE 63 (vI (Y5 a6 a5)), mE 64 (vI a5), mE 65 (vQ b4 (0 + (a5).toNat * 1)), mE 66 (vI (Y5 a2 a5)), mE 67 (vI (i64.wrap ((Y5 a6 a5) + (Y5 a2 a5)))), mE 68 (vQ b1 (0 + (a5).toNat * 1))]) [] mixed U U U hS (U1 (X4 fun S B => Z3 (vI a5) (evT (B 12 U) U) U (qz S)) (K6 fun S B V => U3 Zm9 (evT (B 3 U) d1) (eM (V 0 61 U U)) (by omega) (by omega) U (qz S)) (Y7 fun S V => Y1 (vI (Y5 a6 a5)) ty3 (eM (V 1 62 U U)) (S.get (o := cA (Z7 .i64 a6) 222) (mR (mR (mR mL)))) (I1 [] [] (by omega) (by omega)) U (qz S)) (X4 fun S B => Z3 (vI a5) (evT (B 12 U) U) U (qz S)) (K6 fun S B V => U3 Zm9 (evT (B 5 U) f1) (eM (V 3 64 U U)) (by omega) (by omega) U (qz S)) (Y7 fun S V => Y1 (vI (Y5 a2 a5)) ty3 (eM (V 4 65 U U)) (S.get (o := cA (Z7 .i64 a2) 222) (mR (mR mL))) (I1 [] [] (by omega) (by omega)) U (qz S)) (Y7 fun S V => W4 (i64.wrap ((Y5 a6 a5) + (Y5 a2 a5))) (eM (V 2 63 U U)) (eM (V 5 66 U U)) U U (qz S)) (K6 fun S B V => U3 Zm9 (evT (B 3 U) d1) (eM (V 0 61 U U)) (by omega) (by omega) U (qz S)) W9) ?_)))))))))
 intro _ k6 j0 j2 hS d5 h4 hcq
 have hS : St j0 k6 ([(b7, cA (Z7 .i64 (fun _ => 0)) 222)] ++ _) := hS
 have Z4 := Z4.trans j2
 have hS := hS.perm Zc0
 refine J7 (v := vI (i64.wrap ((Y5 a6 a5) + (Y5 a2 a5)))) (cs := (Z7 .i64 a6).toArray) (cs' := (Z7 .i64 (T3 a6 a5 (i64.wrap ((Y5 a6 a5) + (Y5 a2 a5))))).toArray) ty3 (by exact (eM (h4 7 68 (by decide) U))) (by exact (eM (h4 6 67 (by decide) U))) hS U (Zv6 U) (by simp [Z7, M5]; omega) (Zj0 (by omega) (by omega)) ?_
 intro _ hS
 have hS := hS.perm Zc0.symm
 refine Z2 (X1 (Z0 (W4 (a5 + 1) (by exact (evT (d5 58 U) d3)) U (i64_in _ (by omega)) U (Z3 (vI (a5 + 1)) U U (Z2 (l2 _ _ ⟨(a5 + 1), (T3 a6 a5 (i64.wrap ((Y5 a6 a5) + (Y5 a2 a5)))), j0, b9, Z4, hS, (by omega), (evT (d5 3 U) d1), (evT (d5 5 U) f1), (evT (d5 6 U) f2), (evT (d5 8 U) f3), U⟩))))))
 refine Z6 (bF f7 U) (W2 U ?_)
 cases b9
 exact l3 _ _ ⟨a6, k5, U, Z4, hS, d1, f2, f3⟩
 exact ⟨0, a0, k4, b9, Z4, hS, (by omega), i0, i1, i2, i3, U⟩
 rintro _ _ ⟨a7, _, rfl, Z4, hS, f4, d2, i4⟩
 dsimp only [Ex.elim] at d9
 refine Z1 (Z1 (Z0 (Z3 (vI c1) (by exact i4) U (Zd4 ((c1).tmod 2) U U (by decide) U U (Zb2 (k := .i64) (a := ((c1).tmod 2)) (b := 1) U U U (Z2 ?_))))))
 obtain ⟨f8, d9⟩ | ⟨f8, d9⟩ := ic d9
 refine Z8 (bT f8 U) (Z1 (Z0 (X5 P3 (by exact f4) (hS.get (mR (mR mL))) U U (W1 (v := vA (Z7 .i64 a7)) (vs := (Z7 .i64 a7).toArray) (cs := (Z7 .i64 (fun _ => 0)).toArray) P3 (by exact d2) U U hS U (R7 .i64 a7) U (fun _ hS => Z5 (vI (-1)) U U (Z2 (Y9 (vs := [vA (Z7 .i64 a7), vI (-1)]) func216 ⟨⟨_, (by exact d2), T9 P3 (hS.get mL) U⟩, U, trivial⟩ ?_)))))))
 cases d9
 exact ⟨_, _, U, Z4, (St.dA (St.dA (St.dA hS))), ⟨_, _, U, ⟨_, U, U⟩, U⟩⟩
 refine Z6 (bF f8 U) (Y6 (Z1 (Z0 (X5 P3 (by exact f4) (hS.get (mR (mR mL))) U U (W1 (v := vA (Z7 .i64 a7)) (vs := (Z7 .i64 a7).toArray) (cs := (Z7 .i64 (fun _ => 0)).toArray) P3 (by exact d2) U U hS U (R7 .i64 a7) U (fun _ hS => Z5 (vI 1) U U (Z2 (Y9 (vs := [vA (Z7 .i64 a7), vI 1]) func216 ⟨⟨_, (by exact d2), T9 P3 (hS.get mL) U⟩, U, trivial⟩ ?_))))))))
 cases d9
 exact ⟨_, _, U, Z4, (St.dA (St.dA (St.dA hS))), ⟨_, _, U, ⟨_, U, U⟩, U⟩⟩
section
variable {P : Program} {n : Nat} {l : List Oper} {m : Nat} {tab : Nat → MP} {H : FH} {L : OL} {f0 : Fr} {J : Fr → World → Prop} {B : FH → World → Prop} {late : Nat → Bool}
theorem Ww2 (hres : ∀ d v, (tab d).res v = []) (hok : Ze8 l (m + 1) = true) (hml : m + 1 ≤ l.length)
 (hdm : (l[m]?).bind (·.dst) = none) (hmid : ∀ i, i < m → late i = false → ((Q4 l []).getD m 0).testBit i = true) (hnm : ∀ i, i < m → late i = true → ((Q4 l []).getD i 0).testBit m = false)
 (hla : ∀ i o, i < m → late i = true → l[i]? = some o → ∃ d, o.dst = some d ∧ ∀ f w H', Sub H H' → (∀ t, inD (l.take (m + 1)) t = false → f t = f0 t) → (∀ i' d', i' < m → ((Q4 l []).getD i 0).testBit i' = true → (l[i']?).bind (·.dst) = some d' → (tab d').p H' (f d')) →
  X7 P n l.toArray (fun f' w' => ∃ v, f' = upd f d v ∧ w' = w ∧ (tab d).p H' v) [o] f w)
 (hq : M6 (Ze2 P n l m tab [] H L f0) (l.take m) 0)
 (hm : ∀ o f w H', l[m]? = some o → Sub H H' → St H' w L → (∀ t, inD (l.take m) t = false → f t = f0 t) → (∀ i d, i < m → late i = false → (l[i]?).bind (·.dst) = some d → (tab d).p H' (f d)) →
  X7 P n l.toArray (fun f' w' => ∃ H'', f' = f ∧ Sub H' H'' ∧ B H'' w') [o] f w)
 (ht : ∀ f w H', Sub H H' → B H' w → (∀ t, inD (l.take (m + 1)) t = false → f t = f0 t) → (∀ i d, i < m → (l[i]?).bind (·.dst) = some d → (tab d).p H' (f d)) → X7 P n l.toArray J (l.drop (m + 1)) f w) :
 ∀ (fuel : Nat) (listed : Array Bool) (a : Act) (w : World) (f : Fr) (H' : FH), listed.size = l.length → listed.toList.countP id + fuel = l.length →
  (∀ i, listed.getD i false = true → i < m + 1) → Yb8 l listed → Zh2 n a f → Sub H H' →
  (listed.getD m false = false → St H' w L ∧ ∀ t, inD (l.take m) t = false → f t = f0 t) → (listed.getD m false = true → B H' w) → (∀ t, inD (l.take (m + 1)) t = false → f t = f0 t) →
  (∀ i d, i < m → listed.getD i false = true → (l[i]?).bind (·.dst) = some d → (tab d).p H' (f d)) → wpAny P .any l.toArray (Yb1 n J) fuel listed a w := by
 have hdd : ∀ i j d d', i ≠ j → i < m → j < m → (l[i]?).bind (·.dst) = some d → (l[j]?).bind (·.dst) = some d' → d ≠ d' := fun i j d d' hij hi hj hd hd' =>
  L8 (P8 hok) (i := i) (j := j) hij (by rw [getElem?_take, if_pos (by omega)]; exact hd) (by rw [getElem?_take, if_pos (by omega)]; exact hd')
 intro fuel
 induction fuel with
 | zero =>
  intro listed a w f H' hs hcnt hlt hc ha Z4 hA hB hb hv
  have hall := Zu0 (xs := listed.toList) (by have := Array.length_toList (xs := listed); omega)
  have hget : ∀ i, i < l.length → listed.getD i false = true := fun i hi => by
   have := hall i (by simp; omega)
   rw [getD_eq_getElem?_getD] at this
   rw [Array.getD_eq_getD_getElem?]
   simpa using this
  have hme : m + 1 = l.length := by
   rcases Nat.lt_or_ge (m + 1) l.length with h | h
   have := hlt (m + 1) (hget (m + 1) h); omega
   omega
  refine ⟨?_, ?_⟩
  cases hr : Region.ready .any l.toArray listed with
  | nil => rfl
  | cons j r =>
   obtain ⟨o, ho, hj, hf, _⟩ := Zd7 hs (by rw [hr]; exact mem_cons_self ..)
   rw [hget j (by omega)] at hf; cases hf
  have := ht f w H' Z4 (hB (hget m (by omega))) hb (fun i d hi hd => hv i d hi (hget i (by omega)) hd) a ha
  rw [hme, drop_length] at this
  exact this
 | succ fuel ih =>
  intro listed a w f H' hs hcnt hlt hc ha Z4 hA hB hb hv
  by_cases hall : ∀ i, i < m + 1 → listed.getD i false = true
  have hk : ∀ i, listed.getD i false = decide (i < m + 1) := by
   intro i
   by_cases h : i < m + 1
   rw [hall i h]; exact (decide_eq_true h).symm
   cases hg : listed.getD i false with
   | false => exact (decide_eq_false h).symm
   | true => exact absurd (hlt i hg) h
  have hcm : listed.toList.countP id = m + 1 := by
   refine Yy6 _ (m + 1) (by simp; omega) (fun i => ?_)
   rw [← hk i, getD_eq_getElem?_getD, Array.getD_eq_getD_getElem?]
   simp
  exact Yc5 hok (fuel + 1) (m + 1) listed a w hs (by omega) (Nat.le_refl _) hk (ht f w H' Z4 (hB (hall m (by omega))) hb (fun i d hi hd => hv i d hi (hall i (by omega)) hd) a ha)
  refine ⟨fun hr => ?_, fun j hj => ?_⟩
  exact absurd (fun i hi => Zy2 hs (Zn5 hok) hr i (by omega)) hall
  obtain ⟨o, ho, hjs, hf, he⟩ := Zd7 hs hj
  obtain ⟨hmk, hc'⟩ := Zv0 ho hc hjs he
  have hjl : j < l.length := by omega
  have hjm : j < m + 1 := by
   rcases Nat.lt_or_ge j (m + 1) with h | h
   exact h
   exact absurd (fun i hi => hmk i (Zs3 hok j h hjl i (by omega))) hall
  have hset : ∀ i, i ≠ j → (listed.setIfInBounds j true).getD i false = listed.getD i false := fun i hij => by
   rw [Array.getD_eq_getD_getElem?, Array.getD_eq_getD_getElem?, Array.getElem?_setIfInBounds, if_neg (fun h => hij h.symm)]
  have hsj : (listed.setIfInBounds j true).getD j false = true := by rw [Array.getD_eq_getD_getElem?, Array.getElem?_setIfInBounds]; simp [hjs]
  have hx : listed.toList[j]? = some false := by
   rw [Array.getD_eq_getD_getElem?] at hf
   simpa [hjs] using hf
  have hcnt' : (listed.setIfInBounds j true).toList.countP id + fuel = l.length := by
   have := Zu9 listed.toList j hx
   rw [Array.toList_setIfInBounds]; rw [this]; omega
  have hlt' : ∀ i, (listed.setIfInBounds j true).getD i false = true → i < m + 1 := by
   intro i hi
   rcases F2 hi with rfl | h
   exact hjm
   exact hlt i h
  by_cases ejm : j = m
  subst ejm
  obtain ⟨hS, hbA⟩ := hA hf
  refine L5 ho ha (hm o f w H' ho Z4 hS hbA (fun i d hi hij hd => hv i d hi (hmk i (hmid i hi hij)) hd)) ?_
  rintro f' a' w' ha' ⟨H'', rfl, hs2, hB2⟩
  refine ih (listed.setIfInBounds j true) a' w' f' H'' (by simpa using hs) hcnt' hlt' hc' ha' (Z4.trans hs2) (fun h => by rw [hsj] at h; cases h) (fun _ => hB2) hb ?_
  intro i d hi hil hd
  rw [hset i (by omega)] at hil
  exact (tab d).mono hs2 (hv i d hi hil hd)
  have hjm' : j < m := by omega
  by_cases hlm : listed.getD m false = true
  have hl : late j = true := by
   cases e : late j with
   | true => rfl
   | false =>
    have := hc m hlm j (hmid j hjm' e)
    rw [hf] at this; cases this
  obtain ⟨d, hd, hstep⟩ := hla j o hjm' hl ho
  have hB1 := hB hlm
  have hdj : (l[j]?).bind (·.dst) = some d := by rw [ho]; exact hd
  refine L5 ho ha (hstep f w H' Z4 hb (fun i' d' hi' hb' hd' => hv i' d' hi' (hmk i' hb') hd')) ?_
  rintro f' a' w' ha' ⟨v, rfl, rfl, hp⟩
  refine ih (listed.setIfInBounds j true) a' w' (upd f d v) H' (by simpa using hs) hcnt' hlt' hc' ha' Z4 (fun h => by rw [hset m (by omega), hlm] at h; cases h) (fun _ => hB1) ?_ ?_
  intro t ht'
  rw [Zf0, if_neg, hb t ht']
  rintro rfl
  rw [Zz9 ho (by omega) hd] at ht'; cases ht'
  intro i d' hi hil hd'
  rw [Zf0]
  by_cases e : d' = d
  subst e; rw [if_pos rfl]; exact hp
  rw [if_neg e]
  rcases F2 hil with rfl | h
  rw [hdj] at hd'; exact absurd (Option.some.inj hd').symm e
  exact hv i d' hi h hd'
  have hlm : listed.getD m false = false := by simpa using hlm
  obtain ⟨hS, hbA⟩ := hA hlm
  have hstep := hq.at (j := j) (o := o) (by rw [getElem?_take, if_pos hjm']; exact ho)
  rw [Nat.zero_add] at hstep
  have hstep : Zg3 P n l m tab [] H L f0 j o := hstep
  refine L5 ho ha (hstep f w H' [] Z4 hS hbA (fun i d hi hd => hv i d (by
   have hil := hmk i hi
   rcases Nat.lt_or_ge i m with h | h
   exact h
   have := hlt i hil
   have : i = m := by omega
   rw [this, hlm] at hil; cases hil) (hmk i hi) hd) (fun k c hk _ => by cases hk)) ?_
  rintro f' a' w' ha' ⟨d, v, H'', hd, rfl, hs2, hS2, hp⟩
  rw [hres, nil_append, nil_append] at hS2
  have hdj : (l[j]?).bind (·.dst) = some d := by rw [ho]; exact hd
  refine ih (listed.setIfInBounds j true) a' w' (upd f d v) H'' (by simpa using hs) hcnt' hlt' hc' ha' (Z4.trans hs2) (fun _ => ⟨hS2, fun t ht' => ?_⟩) (fun h => by rw [hset m (by omega), hlm] at h; cases h) ?_ ?_
  rw [Zf0, if_neg, hbA t ht']
  rintro rfl
  rw [Zz9 ho hjm' hd] at ht'; cases ht'
  intro t ht'
  rw [Zf0, if_neg, hb t ht']
  rintro rfl
  rw [Zz9 ho (by omega) hd] at ht'; cases ht'
  intro i d' hi hil hd'
  rw [Zf0]
  by_cases e : d' = d
  subst e; rw [if_pos rfl]; exact hp
  rw [if_neg e]
  rcases F2 hil with rfl | h
  rw [hdj] at hd'; exact absurd (Option.some.inj hd').symm e
  exact (tab d').mono hs2 (hv i d' hi h hd')
end
theorem Wu8 {P : Program} {n : Nat} {g : FuncId} {R : Ending → World → Prop} {K : List Item} {l : List Oper} {id : Nat} {H : FH} {L : OL} {f0 : Fr} {w : World}
 (m : Nat) (tab : Nat → MP) (late : Nat → Bool) (B : FH → World → Prop) (hmix : P.follows .mixedOrders = true) (hres : ∀ d v, (tab d).res v = []) (hok : Ze8 l (m + 1) = true) (hml : Nat.ble (m + 1) l.length = true)
 {om : Oper} (hom : l[m]? = some om) (hdm : (l[m]?).bind (·.dst) = none) (hmid : ((range m).all fun i => late i || ((Q4 l []).getD m 0).testBit i) = true) (hnm : ((range m).all fun i => !late i || !((Q4 l []).getD i 0).testBit m) = true)
 (hla : ∀ i o, i < m → late i = true → l[i]? = some o → ∃ d, o.dst = some d ∧ ∀ f w H', Sub H H' → (∀ t, inD (l.take (m + 1)) t = false → f t = f0 t) → (∀ i' d', i' < m → ((Q4 l []).getD i 0).testBit i' = true → (l[i']?).bind (·.dst) = some d' → (tab d').p H' (f d')) →
  X7 P n l.toArray (fun f' w' => ∃ v, f' = upd f d v ∧ w' = w ∧ (tab d).p H' v) [o] f w)
 (hS : St H w L)
 (hq : M6 (Ze2 P n l m tab [] H L f0) (l.take m) 0)
 (hm : ∀ f w H', Sub H H' → St H' w L → (∀ t, inD (l.take m) t = false → f t = f0 t) → (∀ i d, i < m → late i = false → (l[i]?).bind (·.dst) = some d → (tab d).p H' (f d)) →
  X7 P n l.toArray (fun f' w' => ∃ H'', f' = f ∧ Sub H' H'' ∧ B H'' w') [om] f w)
 (ht : ∀ f w H', Sub H H' → B H' w → (∀ t, inD (l.take (m + 1)) t = false → f t = f0 t) → (∀ i d, i < m → (l[i]?).bind (·.dst) = some d → (tab d).p H' (f d)) → X7 P n l.toArray (fun f' w' => Run P n g R K f' w') (l.drop (m + 1)) f w) :
 Run P n g R (.code (.region id l.toArray true) :: K) f0 w := by
 intro a ha b cs hb hk
 have hml' : m + 1 ≤ l.length := by simpa [Nat.ble_eq] using hml
 have hz : ∀ i, (Array.replicate l.length false).getD i false = false := fun i => by rw [Array.getD_eq_getD_getElem?, Array.getElem?_replicate]; split <;> rfl
 have hwp : (Code.region id l.toArray true).wp P (Yb1 n (fun f' w' => Run P n g R K f' w')) a w := by
  refine wp_region_any hmix ?_
  have := Ww2 (P := P) (J := fun f' w' => Run P n g R K f' w') hres hok hml' hdm (fun i hi hne => by
   have h := all_eq_true.1 hmid i (mem_range.2 hi)
   rw [hne, Bool.false_or] at h; exact h) (fun i hi hl => by
   have h := all_eq_true.1 hnm i (mem_range.2 hi)
   rw [hl] at h; simpa using h) hla hq (fun o f w H' ho => by rw [hom] at ho; cases ho; exact hm f w H') ht l.length (Array.replicate l.length false) a w.drew f0 H (by simp) (by simp [countP_replicate]) (fun i hi => by rw [hz] at hi; cases hi)
   (fun i hi => by rw [hz] at hi; cases hi) ha (Sub.refl _) (fun _ => ⟨hS.drew, fun _ _ => rfl⟩) (fun h => by rw [hz] at h; cases h) (fun _ _ => rfl) (fun i d _ hi => by rw [hz] at hi; cases hi)
  simpa using this
 obtain ⟨e, a', w', ⟨rfl, f', ha', hJ⟩, harr⟩ := hwp b K cs
 obtain ⟨e, w'', fr, hR, hc, hf, hl⟩ := hJ a' ha' b cs hb hk
 exact ⟨e, w'', fr, hR, .of_steps harr hc, hf, hl⟩
def P9 (K : Nat) (a0 a1 : A8) : Nat → Int → Option (Ex Int Unit)
 | 0, _ => none
 | k + 1, a3 => (if a3 < 8 then (if (Y5 a0 a3) = (Y5 a1 a3) then P9 K a0 a1 k (a3 + 1) else some (.ret (i64.wrap ((Y5 a1 a3) - (Y5 a0 a3))))) else some (.go ()))
def B1 (K : Nat) (a0 a1 : A8) : Option Int := ((P9 K a0 a1 K 0).bind (Ex.elim (fun r => some r) (fun s => some 0)))
theorem Ya9 {a0 a1 : A8} {r : Int} (q0 : B1 K a0 a1 = some r) (hS : St H w L) :
 Calls prog 213 #[vA (Z7 .i64 a0), vA (Z7 .i64 a1)] w (T4 (fun v G => (R.int .i64).p G v r) H L) := by
 have Z4 := Sub.refl H
 refine X0 func213 U ntmps213 U ?_
 unfold B1 at q0
 refine Z1 (Z0 (T8 (v := vA (Z7 .i64 a0)) (Z7 .i64 a0).toArray U U hS U (fun b1 _ hS => T8 (v := vA (Z7 .i64 a1)) (Z7 .i64 a1).toArray U U hS U (fun b4 _ hS => Z5 (vI 0) U U (Z2 (Z1 (Z1 (Z0 (Z3 (vI 0) U U (Z2 (Y8 ?_)))))))))))
 obtain ⟨b2, a4, a8⟩ := bSm q0
 refine W3 (id := 0) (fun k f w => ∃ a3 H1, P9 K a0 a1 k a3 = some b2 ∧ Sub H H1 ∧ St H1 w ([(b4, cA (Z7 .i64 a1) 222)] ++ ([(b1, cA (Z7 .i64 a0) 222)] ++ L)) ∧ 0 ≤ a3 ∧ tv f 2 = vP b1 ∧ tv f 3 = vP b4 ∧ tv f 6 = vI a3) (fun f w => ∃ H1, b2 = .go () ∧ Sub H H1 ∧ St H1 w ([(b4, cA (Z7 .i64 a1) 222)] ++ ([(b1, cA (Z7 .i64 a0) 222)] ++ L))) U ?_ ?_ K ?_ ?_
 rintro f w ⟨a3, H1, a4, _⟩
 rw [P9] at a4; cases a4
 rintro k _ _ c8 c9 ⟨a3, c3, a4, Z4, hS, _, a6, a7, a5⟩
 rw [P9] at a4
 refine Z1 (Z0 (V4 (k := .i64) (a := a3) (b := 8) (by exact a5) U U (Z2 (Z1 ?_))))
 obtain ⟨b3, a4⟩ | ⟨b3, a4⟩ := ic a4
 refine Z8 (bT b3 U) (Y6 (Z1 (Y8 (Z1 (Z0 (Z3 (vI a3) (by exact a5) U (Z5 (vI a3) U U (Z2 (Z1 (W6 7 (S8 [mE 9 (vI a3), mE 10 (vQ b1 (0 + (a3).toNat * 1)), mE 11 (vI (Y5 a0 a3)), mE 12 (vI a3), mE 13 (vQ b4 (0 + (a3).toNat * 1)), mE 14 (vI (Y5 a1 a3)), mE 15 (vB (!decide ((Y5 a0 a3) = (Y5 a1 a3))))]) [] mixed U U U hS (K3 (X4 fun S B => Z3 (vI a3) (evT (B 5 U) U) U (qz S)) (K6 fun S B V => U3 Zm9 (evT (B 2 U) a6) (eM (V 0 9 U U)) (by omega) (by omega) U (qz S)) (Y7 fun S V => Y1 (vI (Y5 a0 a3)) ty3 (eM (V 1 10 U U)) (S.get (o := cA (Z7 .i64 a0) 222) (mR (mR mL))) (I1 [] [] (by omega) (by omega)) U (qz S)) (X4 fun S B => Z3 (vI a3) (evT (B 5 U) U) U (qz S)) (L7 (K6 fun S B V => U3 Zm9 (evT (B 3 U) a7) (eM (V 3 12 U U)) (by omega) (by omega) U (qz S)) (Y7 fun S V => Y1 (vI (Y5 a1 a3)) ty3 (eM (V 4 13 U U)) (S.get (o := cA (Z7 .i64 a1) 222) (mR mL)) (I1 [] [] (by omega) (by omega)) U (qz S)) (I2 (Y7 fun S V => L1 (k := .i64) (a := (Y5 a0 a3)) (b := (Y5 a1 a3)) (eM (V 2 11 U U)) (eM (V 5 14 U U)) U (qz S)) W9))) ?_))))))))))
 intro b7 d0 b8 c4 hS a9 c5 hcq
 have hS : St b8 d0 ([(b4, cA (Z7 .i64 a1) 222)] ++ _) := hS
 have Z4 := Z4.trans c4
 have b9 := evT (a9 2 U) a6
 have c0 := evT (a9 3 U) a7
 have c1 : tv b7 5 = vI a3 := Eq.trans (a9 5 U) U
 have c2 : tv b7 15 = vB (!decide ((Y5 a0 a3) = (Y5 a1 a3))) := c5 6 15 (by decide) U
 refine Z2 ?_
 obtain ⟨b0, a4⟩ | ⟨b0, a4⟩ := ic a4
 refine Z6 (bN b0 (by exact c2)) (Y6 (X1 (Z0 (W4 (a3 + 1) (by exact (evT (a9 6 U) a5)) U (i64_in _ (by omega)) U (Z3 (vI (a3 + 1)) U U (Z2 (c8 _ _ ⟨(a3 + 1), b8, a4, Z4, hS, (by omega), b9, c0, U⟩)))))))
 refine Z8 (bO b0 (by exact c2)) (Z1 (W6 8 (S8 [mE 16 (vI a3), mE 17 (vQ b4 (0 + (a3).toNat * 1)), mE 18 (vI (Y5 a1 a3)), mE 19 (vI a3), mE 20 (vQ b1 (0 + (a3).toNat * 1)), mE 21 (vI (Y5 a0 a3)), mE 22 (vI (i64.wrap ((Y5 a1 a3) - (Y5 a0 a3)))), mE 4 (vI (i64.wrap ((Y5 a1 a3) - (Y5 a0 a3))))]) [] mixed U U U hS (U1 (X4 fun S B => Z3 (vI a3) (evT (B 5 U) c1) U (qz S)) (K6 fun S B V => U3 Zm9 (evT (B 3 U) c0) (eM (V 0 16 U U)) (by omega) (by omega) U (qz S)) (Y7 fun S V => Y1 (vI (Y5 a1 a3)) ty3 (eM (V 1 17 U U)) (S.get (o := cA (Z7 .i64 a1) 222) (mR mL)) (I1 [] [] (by omega) (by omega)) U (qz S)) (X4 fun S B => Z3 (vI a3) (evT (B 5 U) c1) U (qz S)) (K6 fun S B V => U3 Zm9 (evT (B 2 U) b9) (eM (V 3 19 U U)) (by omega) (by omega) U (qz S)) (Y7 fun S V => Y1 (vI (Y5 a0 a3)) ty3 (eM (V 4 20 U U)) (S.get (o := cA (Z7 .i64 a0) 222) (mR (mR mL))) (I1 [] [] (by omega) (by omega)) U (qz S)) (Y7 fun S V => Zg8 (i64.wrap ((Y5 a1 a3) - (Y5 a0 a3))) (eM (V 2 18 U U)) (eM (V 5 21 U U)) U U (qz S)) (Y7 fun S V => Z5 (vI (i64.wrap ((Y5 a1 a3) - (Y5 a0 a3)))) (eM (V 6 22 U U)) U (qz S)) W9) ?_))
 intro _ c6 c7 b5 hS _ b6 hcq
 have hS : St c7 c6 ([(b4, cA (Z7 .i64 a1) 222)] ++ _) := hS
 have Z4 := Z4.trans b5
 refine Z2 (Y9 (vs := [vI (i64.wrap ((Y5 a1 a3) - (Y5 a0 a3)))]) func213 ⟨(by exact (eM (b6 7 4 (by decide) U))), trivial⟩ ?_)
 cases a4
 dsimp only [Ex.elim] at a8
 cases a8
 exact ⟨_, _, U, Z4, (St.dA (St.dA hS)), U⟩
 refine Z6 (bF b3 U) (W2 U ?_)
 cases a4
 exact c9 _ _ ⟨c3, U, Z4, hS⟩
 exact ⟨0, H, a4, Z4, hS, (by omega), U, U, U⟩
 rintro _ _ ⟨_, rfl, Z4, hS⟩
 dsimp only [Ex.elim] at a8
 refine Z1 (Z0 (Z5 (vI 0) U U (Z2 (Y9 (vs := [vI 0]) func213 Ut ?_))))
 cases a8
 exact ⟨_, _, U, Z4, (St.dA (St.dA hS)), U⟩
def E0 (K : Nat) (a0 : List Int) (a1 : A8) : Nat → Int → Int → Option (Ex Int Int)
 | 0, _, _ => none
 | k + 1, a4, a3 => (if a3 < (a0.length : Int) then (if a3 < 8 then E0 K a0 a1 k (i64.wrap (a4 + (i64.wrap ((rd a0 a3) * (i64.wrap (Y5 a1 a3)))))) (a3 + 1) else none) else some (.go a4))
def Zb9 (K : Nat) (a0 : List Int) (a1 : A8) : Option Int := ((E0 K a0 a1 K 0 0).bind (Ex.elim (fun r => some r) (fun s => (fun (a6 : Int) => some a6) s)))
theorem Zw8 {a0 : List Int} {a1 : A8} {r : Int} (q0 : Zb9 K a0 a1 = some r) (a9 : Y3 (Y4 .i64) H s0 a0) (hS : St H w L) :
 Calls prog 207 #[s0, vA (Z7 .u8 a1)] w (T4 (fun v G => (R.int .i64).p G v r) H L) := by
 have Z4 := Sub.refl H
 refine X0 func207 U ntmps207 U ?_
 unfold Zb9 at q0
 refine Z1 (Z0 (T8 (v := vA (Z7 .u8 a1)) (Z7 .u8 a1).toArray U U hS U (fun b1 _ hS => Z5 (vI 0) U U (Z2 (Z1 (Z0 (Z5 (vI 0) U U (Z2 (Z1 (Z1 (Z0 (Z5 (vI 0) U U (Z2 (Y8 ?_))))))))))))))
 obtain ⟨b6, a5, b7⟩ := bSm q0
 refine W3 (id := 0) (fun k f w => ∃ a4 a3 H1, E0 K a0 a1 k a4 a3 = some b6 ∧ Sub H H1 ∧ St H1 w ([(b1, cA (Z7 .u8 a1) 72)] ++ L) ∧ 0 ≤ a3 ∧ Y3 (Y4 .i64) H1 s0 a0 ∧ tv f 0 = s0 ∧ tv f 3 = vP b1 ∧ tv f 5 = vI a4 ∧ tv f 6 = vI a3) (fun f w => ∃ a6 H1, b6 = .go a6 ∧ Sub H H1 ∧ St H1 w ([(b1, cA (Z7 .u8 a1) 72)] ++ L) ∧ tv f 5 = vI a6) U ?_ ?_ K ?_ ?_
 rintro f w ⟨a4, a3, H1, a5, _⟩
 rw [E0] at a5; cases a5
 rintro k _ _ c6 c7 ⟨a4, a3, c1, a5, Z4, hS, _, a9, a8, b0, b2, a7⟩
 rw [E0] at a5
 refine Z1 (Z1 (Z0 (Z3 (vI a3) (by exact a7) U (Z3 s0 (by exact a8) U ?_))))
 have d0 := a9.bound
 refine X9 T1 U a9 U (V4 (k := .i64) (a := a3) (b := (a0.length : Int)) U U U (Z2 ?_))
 obtain ⟨b8, a5⟩ | ⟨b8, a5⟩ := ic a5
 refine Z8 (bT b8 U) (Y6 (Z1 (Y8 ?_)))
 obtain ⟨c8, c9, _, _, _, c2, c3, rfl, c4⟩ := a9.elem (i := a3) (by omega) (by omega)
 obtain ⟨_, a5⟩ := gd a5
 refine W6 11 (S8 [mE 13 (vI a4), mE 14 s0, mE 15 (vI a3), mE 16 (vQ c8 c9), mE 17 (vI (rd a0 a3)), mE 18 (vI a3), mE 19 (vQ b1 (0 + (a3).toNat * 1)), mE 20 (Value.int .u8 (Y5 a1 a3)), mE 21 (vI (i64.wrap (Y5 a1 a3))), mE 22 (vI (i64.wrap ((rd a0 a3) * (i64.wrap (Y5 a1 a3))))), mE 23 (vI (i64.wrap (a4 + (i64.wrap ((rd a0 a3) * (i64.wrap (Y5 a1 a3)))))))]) [] mixed U U U hS (U1 (X4 fun S B => Z3 (vI a4) (evT (B 5 U) b2) U (qz S)) (X4 fun S B => Z3 s0 (evT (B 0 U) a8) U (qz S)) (X4 fun S B => Z3 (vI a3) (evT (B 6 U) a7) U (qz S)) (Y7 fun S V => X6 T1 U (eM (V 1 14 U U)) c2 (eM (V 2 15 U U)) (by omega) (by omega) U (qz S)) (P0 fun s S V => Y1 (vI (rd a0 a3)) ty2 (eM (V 3 16 U U)) (S.froz _ _ (s.1 _ _ c3)) (c4 0 (show 0 < 1 by decide)) U (qz S)) (X4 fun S B => Z3 (vI a3) (evT (B 6 U) a7) U (qz S)) (K6 fun S B V => U3 Zh5 (evT (B 3 U) b0) (eM (V 5 18 U U)) (by omega) (by omega) U (qz S)) (Y7 fun S V => Y1 (Value.int .u8 (Y5 a1 a3)) ty5 (eM (V 6 19 U U)) (S.get (o := cA (Z7 .u8 a1) 72) (mR mL)) (I1 [] [] (by omega) (by omega)) U (qz S)) (L7 (Y7 fun S V => Ym9 (s := .u8) ((i64.wrap (Y5 a1 a3))) Va0 (eM (V 7 20 U U)) U U (qz S)) (Y7 fun S V => Zi4 (i64.wrap ((rd a0 a3) * (i64.wrap (Y5 a1 a3)))) (eM (V 4 17 U U)) (eM (V 8 21 U U)) U U (qz S)) (I2 (Y7 fun S V => W4 (i64.wrap (a4 + (i64.wrap ((rd a0 a3) * (i64.wrap (Y5 a1 a3)))))) (eM (V 0 13 U U)) (eM (V 9 22 U U)) U U (qz S)) W9))) ?_
 intro _ c5 b9 b4 hS b3 c0 hcq
 have hS : St b9 c5 ([(b1, cA (Z7 .u8 a1) 72)] ++ L) := hS
 have Z4 := Z4.trans b4
 have a9 := a9.mono b4
 refine Z5 (vI (i64.wrap (a4 + (i64.wrap ((rd a0 a3) * (i64.wrap (Y5 a1 a3))))))) (by exact (eM (c0 10 23 (by decide) U))) U (Z2 (X1 (Z0 (Z3 (vI a3) (by exact (evT (b3 6 U) a7)) U (W4 (a3 + 1) U U (i64_in _ (by omega)) U (Z5 (vI (a3 + 1)) U U (Z2 (c6 _ _ ⟨(i64.wrap (a4 + (i64.wrap ((rd a0 a3) * (i64.wrap (Y5 a1 a3)))))), (a3 + 1), b9, a5, Z4, hS, (by omega), a9, (evT (b3 0 U) a8), (evT (b3 3 U) b0), U, U⟩))))))))
 refine Z6 (bF b8 U) (W2 U ?_)
 cases a5
 exact c7 _ _ ⟨a4, c1, U, Z4, hS, b2⟩
 exact ⟨0, 0, H, a5, Z4, hS, (by omega), a9, U, U, U, U⟩
 rintro _ _ ⟨a6, _, rfl, Z4, hS, b5⟩
 dsimp only [Ex.elim] at b7
 refine Z1 (Z0 (Z3 (vI a6) (by exact b5) U (Z5 (vI a6) U U (Z2 (Y9 (vs := [vI a6]) func207 Ut ?_)))))
 cases b7
 exact ⟨_, _, U, Z4, (St.dA hS), U⟩
def Za2 (K : Nat) (a0 : A8) : Nat → Int → A8 → Option (Ex A8 A8)
 | 0, _, _ => none
 | k + 1, a1, a3 => (if a1 < 8 then Za2 K a0 k (a1 + 1) (T3 a3 a1 (i64.wrap (Y5 a0 a1))) else some (.go a3))
def Zf5 (K : Nat) (a0 : A8) : Option A8 := ((Za2 K a0 K 0 (fun _ => 0)).bind (Ex.elim (fun r => some r) (fun s => (fun (a4 : A8) => some a4) s)))
theorem Zs4 {a0 r : A8} (q0 : Zf5 K a0 = some r) (hS : St H w L) :
 Calls prog 192 #[vA (Z7 .u8 a0)] w (T4 (fun v G => (R.agg (Q5 .i64)).p G v r) H L) := by
 have Z4 := Sub.refl H
 refine X0 func192 U ntmps192 U ?_
 unfold Zf5 at q0
 refine Z1 (Z0 (T8 (v := vA (Z7 .u8 a0)) (Z7 .u8 a0).toArray U U hS U (fun b1 _ hS => U5 (z := vA (Z7 .i64 (fun _ => 0))) (Z7 .i64 (fun _ => 0)).toArray Zm8.zero U hS U (fun b4 _ hS => Z2 (Z1 (Z0 (M4 (vA (Z7 .i64 (fun _ => 0))) Xt5 U (U5 (z := vA (Z7 .i64 (fun _ => 0))) (Z7 .i64 (fun _ => 0)).toArray Zm8.zero U hS U (fun b7 _ hS => W1 (v := vA (Z7 .i64 (fun _ => 0))) (vs := (Z7 .i64 (fun _ => 0)).toArray) (cs := (Z7 .i64 (fun _ => 0)).toArray) P3 U U U hS U (R7 .i64 (fun _ => 0)) U (fun _ hS => Z2 (Z1 (Z1 (Z0 (X5 P7 U (hS.get (mR (mR mL))) U U (Z3 (vI 0) U U (Z2 (Y8 ?_)))))))))))))))))
 obtain ⟨b5, a5, b6⟩ := bSm q0
 refine W3 (id := 0) (fun k f w => ∃ a1 a3 H1, Za2 K a0 k a1 a3 = some b5 ∧ Sub H H1 ∧ St H1 w ([(b7, cA (Z7 .i64 a3) 222)] ++ ([(b4, cA (Z7 .i64 (fun _ => 0)) 222)] ++ ([(b1, cA (Z7 .u8 a0) 72)] ++ L))) ∧ 0 ≤ a1 ∧ tv f 2 = vP b4 ∧ tv f 3 = vP b7 ∧ tv f 7 = vA (Z7 .u8 a0) ∧ tv f 8 = vI a1) (fun f w => ∃ a4 H1, b5 = .go a4 ∧ Sub H H1 ∧ St H1 w ([(b7, cA (Z7 .i64 a4) 222)] ++ ([(b4, cA (Z7 .i64 (fun _ => 0)) 222)] ++ ([(b1, cA (Z7 .u8 a0) 72)] ++ L))) ∧ tv f 2 = vP b4 ∧ tv f 3 = vP b7) U ?_ ?_ K ?_ ?_
 rintro f w ⟨a1, a3, H1, a5, _⟩
 rw [Za2] at a5; cases a5
 rintro k _ _ b9 c0 ⟨a1, a3, b8, a5, Z4, hS, _, a8, a7, a9, a6⟩
 rw [Za2] at a5
 refine Z1 (Z0 (V4 (k := .i64) (a := a1) (b := 8) (by exact a6) U U (Z2 (Z1 ?_))))
 obtain ⟨b2, a5⟩ | ⟨b2, a5⟩ := ic a5
 refine Z8 (bT b2 U) (Y6 (Z1 (Y8 (Z1 (Z0 (Z3 (vI a1) (by exact a6) U (Yo6 (Value.int .u8 (Y5 a0 a1)) Zh5 (by exact a9) (by exact a6) (by omega) (by omega) (Ym6 (by omega) (by omega)) U (Z5 (vI a1) U U (Z5 (Value.int .u8 (Y5 a0 a1)) U U (Z2 (Z0 (Z3 (vI a1) U U (Z3 (Value.int .u8 (Y5 a0 a1)) U U (Ym9 (s := .u8) ((i64.wrap (Y5 a0 a1))) Vl1 U U U (U3 Zm9 (by exact a7) U (by omega) (by omega) U (J7 (v := vI (i64.wrap (Y5 a0 a1))) (cs := (Z7 .i64 a3).toArray) (cs' := (Z7 .i64 (T3 a3 a1 (i64.wrap (Y5 a0 a1)))).toArray) ty3 U U hS U (Zv6 U) (by simp [Z7, M5]; omega) (Zj0 (by omega) (by omega)) (fun _ hS => Z2 (X1 (Z0 (W4 (a1 + 1) (by exact a6) U (i64_in _ (by omega)) U (Z3 (vI (a1 + 1)) U U (Z2 (b9 _ _ ⟨(a1 + 1), (T3 a3 a1 (i64.wrap (Y5 a0 a1))), b8, a5, Z4, hS, (by omega), a8, a7, a9, U⟩)))))))))))))))))))))))
 refine Z6 (bF b2 U) (W2 U ?_)
 cases a5
 exact c0 _ _ ⟨a3, b8, U, Z4, hS, a8, a7⟩
 exact ⟨0, (fun _ => 0), H, a5, Z4, hS, (by omega), U, U, U, U⟩
 rintro _ _ ⟨a4, _, rfl, Z4, hS, b0, b3⟩
 dsimp only [Ex.elim] at b6
 refine Z1 (Z0 (X5 P3 (by exact b3) (hS.get mL) U U ?_))
 have hS := hS.perm R5
 refine W1 (v := vA (Z7 .i64 a4)) (vs := (Z7 .i64 a4).toArray) (cs := (Z7 .i64 (fun _ => 0)).toArray) P3 (by exact b0) U U hS U (R7 .i64 a4) U ?_
 intro _ hS
 have hS := hS.perm R5.symm
 refine Z2 (Y9 (vs := [vA (Z7 .i64 a4)]) func192 ⟨⟨_, (by exact b0), T9 P3 (hS.get (mR mL)) U⟩, trivial⟩ ?_)
 cases b6
 exact ⟨_, _, U, Z4, (St.dA (St.dA (St.dA hS))), ⟨_, U, U⟩⟩
def D9 (K : Nat) (a0 : List Int) : Nat → Int → (List Int) → Option (Ex (List Int) ((List Int)))
 | 0, _, _ => none
 | k + 1, a1, a3 => (if a1 < (a0.length : Int) then (if a1 < (a3.length : Int) then D9 K a0 k (a1 + 1) (a3.set (a1).toNat (rd a0 a1)) else none) else some (.go a3))
def Zq8 (K : Nat) (a0 : List Int) : Option (List Int) := (if (a0.length : Int) ≤ 1099511627776 then ((D9 K a0 K 0 (replicate ((a0.length : Int)).toNat (0 : Int))).bind (Ex.elim (fun r => some r) (fun s => (fun (a7 : List Int) => some a7) s))) else none)
theorem Yz7 {a0 r : List Int} (q0 : Zq8 K a0 = some r) (b4 : Y3 (Y4 .i64) H s0 a0) (hS : St H w L) :
 Calls prog 77 #[s0] w (T4 (fun v G => (R.sl (Y4 .i64)).p (G.new H) v r) H L) := by
 have Z4 := Sub.refl H
 refine X0 func77 U ntmps77 U ?_
 unfold Zq8 at q0
 refine Z1 (Z0 (Z5 vN U U (Z2 (Z1 (Z0 (Z3 s0 U U ?_))))))
 have d4 := b4.bound
 refine X9 T1 U b4 U ?_
 obtain ⟨_, q0⟩ := gd q0
 refine Zz4 (τ := (Y4 .i64)) (0 : Int) Zx1 U U U (fun _ => rfl) (by omega) (by omega) hS U fun u3 _ C5 c8 hS => Z5 u3 U U (Z2 (Z1 (Z1 (Z0 (Z5 (vI 0) U U (Z2 (Y8 ?_)))))))
 obtain ⟨b8, a6, b9⟩ := bSm q0
 refine W3 (id := 0) (fun k f w => ∃ a1 a3 H1 a8 a4, D9 K a0 k a1 a3 = some b8 ∧ Sub H H1 ∧ St H1 w (a8 ++ L) ∧ 0 ≤ a1 ∧ W0 (Y4 .i64) 2 H1 a4 a3 a8 ∧ Y3 (Y4 .i64) H1 s0 a0 ∧ tv f 0 = s0 ∧ tv f 3 = a4 ∧ tv f 4 = vI a1) (fun f w => ∃ a7 H1 b1 a5, b8 = .go a7 ∧ Sub H H1 ∧ St H1 w (b1 ++ L) ∧ W0 (Y4 .i64) 2 H1 a5 a7 b1 ∧ tv f 3 = a5) U ?_ ?_ K ?_ ?_
 rintro f w ⟨a1, a3, H1, a8, a4, a6, _⟩
 rw [D9] at a6; cases a6
 rintro k _ _ c9 d0 ⟨a1, a3, c0, a8, a4, a6, Z4, hS, _, a9, b4, b2, b3, b0⟩
 rw [D9] at a6
 refine Z1 (Z1 (Z0 (Z3 (vI a1) (by exact b0) U (Z3 s0 (by exact b2) U ?_))))
 have d5 := b4.bound
 refine X9 T1 U b4 U (V4 (k := .i64) (a := a1) (b := (a0.length : Int)) U U U (Z2 ?_))
 obtain ⟨c1, a6⟩ | ⟨c1, a6⟩ := ic a6
 refine Z8 (bT c1 U) (Y6 (Z1 (Y8 (Z0 (Z3 a4 (by exact b3) U (Z3 (vI a1) (by exact b0) U (Z3 s0 (by exact b2) U (Z3 (vI a1) (by exact b0) U ?_))))))))
 obtain ⟨_, _, _, _, _, c3, c4, rfl, c5⟩ := b4.elem (i := a1) (by omega) (by omega)
 refine X6 T1 U U c3 U (by omega) (by omega) U (Y1 (vI (rd a0 a1)) ty2 U (hS.froz _ _ c4) (c5 0 (show 0 < 1 by decide)) U ?_)
 obtain ⟨_, a6⟩ := gd a6
 obtain ⟨_, _, c2⟩ := a9.some (i := a1) (by omega) (by omega)
 refine Q3 T1 (Eq.trans U c2) U (by omega) (by omega) U (Za9 (τ := (Y4 .i64)) (v := a4) (u := vI (rd a0 a1)) (rd a0 a1) (i := a1) U ty2 c2 a9 hS U U (by omega) (by omega) U (fun _ d1 c6 hS => Z2 (X1 (Z0 (Z3 (vI a1) (by exact b0) U (W4 (a1 + 1) U U (i64_in _ (by omega)) U (Z5 (vI (a1 + 1)) U U (Z2 (c9 _ _ ⟨(a1 + 1), (a3.set (a1).toNat (rd a0 a1)), c0, d1, a4, a6, Z4, hS, (by omega), c6, b4, b2, b3, U⟩)))))))))
 refine Z6 (bF c1 U) (W2 U ?_)
 cases a6
 exact d0 _ _ ⟨a3, c0, a8, a4, U, Z4, hS, a9, b3⟩
 exact ⟨0, (replicate ((a0.length : Int)).toNat (0 : Int)), H, C5, u3, a6, Z4, hS, (by omega), c8, b4, U, U, U⟩
 rintro _ _ ⟨a7, _, b1, a5, rfl, Z4, hS, b6, b7⟩
 dsimp only [Ex.elim] at b9
 refine Z1 (Z0 (Z3 a5 (by exact b7) U (Z5 a5 U U (Z2 (Y9 (vs := [a5]) func77 Ut ?_)))))
 obtain ⟨d2, c7, hS, b5⟩ := W0.freezeF (τ := (Y4 .i64)) (H0 := H) b6 hS Z4
 have d3 := Y3.old b5
 have b5 : RdF (Y4 .i64) H d2 a5 a7 := b5
 have Z4 := Z4.trans c7
 cases b9
 exact ⟨_, _, U, Z4, hS, b5⟩
def V3 (K : Nat) (a0 : List MpT) (a1 : (MpT → Option Bool)) : Nat → Int → Option (Ex Int Unit)
 | 0, _ => none
 | k + 1, a3 => (if a3 < (a0.length : Int) then ((a1 (rd a0 a3)).bind fun r4 => (if r4 = true then some (.ret a3) else V3 K a0 a1 k (a3 + 1))) else some (.go ()))
def J0 (K : Nat) (a0 : List MpT) (a1 : (MpT → Option Bool)) : Option Int := ((V3 K a0 a1 K 0).bind (Ex.elim (fun r => some r) (fun s => some (-1))))
theorem Zu3 {a0 : List MpT} {a1 : (MpT → Option Bool)} {r : Int} (q0 : J0 K a0 a1 = some r) (a6 : Y3 (X3 yT) H s0 a0) (a7 : FnQ prog s1 (R.agg (X3 yT)) a1 H) (hS : St H w L) :
 Calls prog 214 #[s0, s1] w (T4 (fun v G => (R.int .i64).p G v r) H L) := by
 have Z4 := Sub.refl H
 refine X0 func214 U ntmps214 U ?_
 unfold J0 at q0
 refine Z1 (Z0 (Z5 (vI 0) U U (Z2 (Z1 (Z1 (Z0 (Z3 s0 U U ?_)))))))
 have c5 := a6.bound
 refine X9 Zm7 U a6 U (Z3 (vI 0) U U (Z2 (Y8 ?_)))
 obtain ⟨b2, a4, b1⟩ := bSm q0
 refine W3 (id := 0) (fun k f w => ∃ a3 H1, V3 K a0 a1 k a3 = some b2 ∧ Sub H H1 ∧ St H1 w L ∧ 0 ≤ a3 ∧ Y3 (X3 yT) H1 s0 a0 ∧ FnQ prog s1 (R.agg (X3 yT)) a1 H1 ∧ tv f 0 = s0 ∧ tv f 1 = s1 ∧ tv f 7 = vI (a0.length : Int) ∧ tv f 8 = vI a3) (fun f w => ∃ H1, b2 = .go () ∧ Sub H H1 ∧ St H1 w L) U ?_ ?_ K ?_ ?_
 rintro f w ⟨a3, H1, a4, _⟩
 rw [V3] at a4; cases a4
 rintro k _ _ b9 c0 ⟨a3, b7, a4, Z4, hS, _, a6, a7, a8, a9, b0, a5⟩
 rw [V3] at a4
 refine Z1 (Z0 (V4 (k := .i64) (a := a3) (b := (a0.length : Int)) (by exact a5) (by exact b0) U (Z2 (Z1 ?_))))
 obtain ⟨b3, a4⟩ | ⟨b3, a4⟩ := ic a4
 refine Z8 (bT b3 U) (Y6 (Z1 (Y8 (Z1 (Z0 (Z3 (vI a3) (by exact a5) U (Z5 (vI a3) U U (Z2 (Z1 (Z0 (Z3 s1 (by exact a9) U (Z3 s0 (by exact a8) U (Z3 (vI a3) U U ?_)))))))))))))
 obtain ⟨_, _, _, _, _, c1, c2, ⟨b8, rfl, b6⟩, c3⟩ := a6.elem (i := a3) (by omega) (by omega)
 refine X6 Zm7 U U c1 U (by omega) (by omega) U (U0 [b8] U7 U (hS.froz _ _ c2) U c3 U ?_)
 obtain ⟨_, c4, a4⟩ := bSm a4
 refine Wh7 a7 U U hS ⟨_, U, ⟨_, U, b6⟩⟩ c4 U ?_
 intro H4 _ b4 hS
 have Z4 := Z4.trans b4
 have a6 := a6.mono b4
 have a7 := a7.mono b4
 refine Z2 ?_
 obtain ⟨b5, a4⟩ | ⟨b5, a4⟩ := ic a4
 refine Z8 (Eq.trans U (congrArg vB b5)) (Z1 (Z0 (Z3 (vI a3) U U (Z5 (vI a3) U U (Z2 (Y9 (vs := [vI a3]) func214 Ut ?_))))))
 cases a4
 dsimp only [Ex.elim] at b1
 cases b1
 exact ⟨_, _, U, Z4, hS, U⟩
 refine Z6 (Eq.trans U (congrArg vB (X8 b5))) (Y6 (X1 (Z0 (W4 (a3 + 1) (by exact a5) U (i64_in _ (by omega)) U (Z3 (vI (a3 + 1)) U U (Z2 (b9 _ _ ⟨(a3 + 1), H4, a4, Z4, hS, (by omega), a6, a7, a8, a9, b0, U⟩)))))))
 refine Z6 (bF b3 U) (W2 U ?_)
 cases a4
 exact c0 _ _ ⟨b7, U, Z4, hS⟩
 exact ⟨0, H, a4, Z4, hS, (by omega), a6, a7, U, U, U, U⟩
 rintro _ _ ⟨_, rfl, Z4, hS⟩
 dsimp only [Ex.elim] at b1
 refine Z1 (Z0 (Z5 (vI (-1)) U U (Z2 (Y9 (vs := [vI (-1)]) func214 Ut ?_))))
 cases b1
 exact ⟨_, _, U, Z4, hS, U⟩
def Zw2 (K : Nat) (a0 : Bool) (a1 : Int) : Option Int := (if a0 = true then some a1 else some 0)
theorem Ys0 {a0 : Bool} {a1 r : Int} (q0 : Zw2 K a0 a1 = some r) (hS : St H w L) :
 Calls prog 80 #[vB a0, vI a1] w (T4 (fun v G => (R.int .i64).p G v r) H L) := by
 have Z4 := Sub.refl H
 refine X0 func80 U ntmps80 U ?_
 unfold Zw2 at q0
 refine Z1 (Z0 (Z5 (vI 0) U U (Z2 (Z1 (Z1 (Z0 (Z3 (vB a0) U U (Z2 ?_))))))))
 obtain ⟨a3, q0⟩ | ⟨a3, q0⟩ := ic q0
 refine Z8 (Eq.trans U (congrArg vB a3)) (Z1 (Z0 (Z3 (vI a1) U U (Z5 (vI a1) U U (Z2 (Y9 (vs := [vI a1]) func80 Ut ?_))))))
 cases q0
 exact ⟨_, _, U, Z4, hS, U⟩
 refine Z6 (Eq.trans U (congrArg vB (X8 a3))) (Y6 (Z1 (Z0 (Z5 (vI 0) U U (Z2 (Y9 (vs := [vI 0]) func80 Ut ?_))))))
 cases q0
 exact ⟨_, _, U, Z4, hS, U⟩
def Zt3 (K : Nat) (a0 : Int) : Option Bool := some (!decide (a0 = 0))
theorem Xc4 {a0 : Int} {r : Bool} (q0 : Zt3 K a0 = some r) (hS : St H w L) :
 Calls prog 236 #[vI a0] w (T4 (fun v G => R.bool.p G v r) H L) := by
 have Z4 := Sub.refl H
 refine X0 func236 U ntmps236 U ?_
 unfold Zt3 at q0
 refine Z1 (Z0 (Z5 (vB false) U U (Z2 (Z1 (Z0 (Z3 (vI a0) U U (L1 (k := .i64) (a := a0) (b := 0) U U U (Z5 (vB (!decide (a0 = 0))) U U (Z2 (Y9 (vs := [vB (!decide (a0 = 0))]) func236 Ut ?_))))))))))
 cases q0
 exact ⟨_, _, U, Z4, hS, U⟩
end Go.Proofs.YtabofnehiclkiaaGreat
