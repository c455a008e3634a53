/- Walk, rules and plain laws. -/
import Derived.Test.YtabofnehiclkiaaGreatRF9
import Derived.Test.YtabofnehiclkiaaGreatRF10
namespace Go.Proofs.YtabofnehiclkiaaGreat
open Go Go.Proofs.Tryz IntKind IntWalk List
set_option linter.all false
set_option maxRecDepth 100000
set_option maxHeartbeats 8000000
variable {K : Nat} {H : FH} {w : World} {L : OL} {s0 s1 s2 s3 s4 s5 s6 : Value}
def Zl2 (K : Nat) (w6 : Int → A8 → A8 → Option (Ex MpT (A8 × A8))) (a4 a8 : Int) (b0 b8 : A8) : Option (Ex MpT (A8 × A8)) := (if a8 ≤ a4 then w6 (a8 + 1) b8 (T3 b0 a8 0) else w6 (a8 + 1) b8 b0)
def Zl1 (K : Nat) (z9 : Int → MpT → Option (Ex MpT MpT)) (a0 : ((List Int) × (List MpT))) (a1 : MpT) (a3 a4 : Int) (a9 : MpT) (a7 b2 : A8) (c7 : Int) : Option (Ex MpT MpT) := ((Ze3 K (T3 a7 a4 (u8.wrap ((Y5 (rd a1 a3).1 a4) - 1))) 1).bind fun m0 => (if a4 < (a0.2.length : Int) then ((Zk9 K a0.1 m0 (rd a0.2 a4)).bind fun m2 => ((Ze3 K b2 1).bind fun m3 => ((Zk9 K a0.1 m2 m3).bind fun m4 => ((E7 K c7).bind fun m5 => ((Zq0 K a9 m4 m5).bind fun k5 => z9 (a4 + 1) k5))))) else none))
def E9 (K : Nat) (a4 : Int) : Nat → Int → A8 → A8 → Option (Ex MpT (A8 × A8))
 | 0, _, _, _ => none
 | k + 1, a8, b5, b0 => (if a8 < 8 then (if a4 ≤ a8 then Zl2 K (E9 K a4 k) a4 a8 b0 (T3 b5 a8 0) else Zl2 K (E9 K a4 k) a4 a8 b0 b5) else some (.go (b5, b0)))
def I4 (K : Nat) (a0 : ((List Int) × (List MpT))) (a1 : MpT) (a3 : Int) : Nat → Int → MpT → Option (Ex MpT MpT)
 | 0, _, _ => none
 | k + 1, a4, a9 => (if a4 < (a0.1.length : Int) then (if a4 < 8 then (if (Y5 (rd a1 a3).1 a4) = 0 then I4 K a0 a1 a3 k (a4 + 1) a9 else ((E9 K a4 K 0 (rd a1 a3).1 (rd a1 a3).1).bind (Ex.elim (fun r => some (.ret r)) (fun s => (fun (a7 b2 : A8) => ((Zb9 K a0.1 a7).bind fun k6 => (if ((k6).tmod 2) = 0 then Zl1 K (I4 K a0 a1 a3 k) a0 a1 a3 a4 a9 a7 b2 (i64.wrap ((rd a1 a3).2 * (i64.wrap (Y5 (rd a1 a3).1 a4)))) else Zl1 K (I4 K a0 a1 a3 k) a0 a1 a3 a4 a9 a7 b2 (i64.wrap (0 - (i64.wrap ((rd a1 a3).2 * (i64.wrap (Y5 (rd a1 a3).1 a4))))))))) s.1 s.2)))) else none) else some (.go a9))
def Zf8 (K : Nat) (a0 : ((List Int) × (List MpT))) (a1 : MpT) : Nat → Int → MpT → Option (Ex MpT MpT)
 | 0, _, _ => none
 | k + 1, a3, c0 => (if a3 < (a1.length : Int) then ((I4 K a0 a1 a3 K 0 c0).bind (Ex.elim (fun r => some (.ret r)) (fun s => (fun (c6 : MpT) => Zf8 K a0 a1 k (a3 + 1) c6) s))) else some (.go c0))
def Zn6 (K : Nat) (a0 : ((List Int) × (List MpT))) (a1 : MpT) : Option MpT := ((Zf8 K a0 a1 K 0 ([] : List (A8 × Int))).bind (Ex.elim (fun r => some r) (fun s => (fun (c9 : MpT) => some c9) s)))
theorem Yg0 {a0 : ((List Int) × (List MpT))} {a1 r : MpT} (q0 : Zn6 K a0 a1 = some r) (b3 : Y3 (Y4 .i64) H s0 a0.1) (b9 : Y3 (X3 yT) H s1 a0.2) (b6 : Y3 yT H s2 a1) (hS : St H w L) :
 Calls prog 119 #[vA ([s0] ++ [s1]), vA [s2]] w (T4 (fun v G => (R.agg (X3 yT)).p G v r) H L) := by
 have Z4 := Sub.refl H
 refine X0 func119 U ntmps119 U ?_
 unfold Zn6 at q0
 refine Z1 (Z0 (T8 (v := vA ([s0] ++ [s1])) ([s0] ++ [s1]).toArray U U hS U (fun b1 _ hS => T8 (v := vA [s2]) [s2].toArray U U hS U (fun b4 _ hS => U5 (z := vA [vN]) [vN].toArray Zj8.zero U hS U (fun b7 _ hS => Z2 (Z1 (Z0 (M4 (vA [vN]) Zz0 U (U5 (z := vA [vN]) [vN].toArray Zj8.zero U hS U (fun c4 _ hS => W1 (v := vA [vN]) (vs := ([vN]).toArray) (cs := ([vN]).toArray) U7 U U U hS U (K9 U) U (fun _ hS => Z2 (Z1 (Z1 (Z0 (Z5 (vI 0) U U (Z2 (Y8 ?_)))))))))))))))))
 have q1 : Y3 yT H (.slice none 0 0) ([] : List (A8 × Int)) := Y3.nil
 obtain ⟨q2, d6, q3⟩ := bSm q0
 refine W3 (id := 0) (fun k f w => ∃ a3 c0 H1 c2, Zf8 K a0 a1 k a3 c0 = some q2 ∧ Sub H H1 ∧ St H1 w ([(c4, cA [c2] 45)] ++ ([(b7, cA [vN] 45)] ++ ([(b4, cA [s2] 45)] ++ ([(b1, cA ([s0] ++ [s1]) 31)] ++ L)))) ∧ 0 ≤ a3 ∧ Y3 yT H1 c2 c0 ∧ Y3 (Y4 .i64) H1 s0 a0.1 ∧ Y3 (X3 yT) H1 s1 a0.2 ∧ Y3 yT H1 s2 a1 ∧ tv f 2 = vP b1 ∧ tv f 3 = vP b4 ∧ tv f 4 = vP b7 ∧ tv f 5 = vP c4 ∧ tv f 6 = vI a3) (fun f w => ∃ c9 H1 c3, q2 = .go c9 ∧ Sub H H1 ∧ St H1 w ([(c4, cA [c3] 45)] ++ ([(b7, cA [vN] 45)] ++ ([(b4, cA [s2] 45)] ++ ([(b1, cA ([s0] ++ [s1]) 31)] ++ L)))) ∧ Y3 yT H1 c3 c9 ∧ Y3 (Y4 .i64) H1 s0 a0.1 ∧ Y3 (X3 yT) H1 s1 a0.2 ∧ Y3 yT H1 s2 a1 ∧ tv f 4 = vP b7 ∧ tv f 5 = vP c4) U ?_ ?_ K ?_ ?_
 rintro f w ⟨a3, c0, H1, c2, d6, _⟩
 rw [Zf8] at d6; cases d6
 rintro k _ _ ih0 hx0 ⟨a3, c0, q4, c2, d6, Z4, hS, _, e8, b3, b9, b6, o1, f8, j0, j1, f9⟩
 rw [Zf8] at d6
 refine Z1 (Z1 (Z0 (Z3 (vI a3) (by exact f9) U (Y2 U8 (by exact f8) U (Y1 s2 P1 U (hS.get (mR (mR mL))) U U ?_)))))
 have a13 := b6.bound
 refine X9 Q0 U b6 U (V4 (k := .i64) (a := a3) (b := (a1.length : Int)) U U U (Z2 ?_))
 obtain ⟨m6, d6⟩ | ⟨m6, d6⟩ := ic d6
 refine Z8 (bT m6 U) (Y6 (Z1 (Y8 (Z1 (Z0 (Y2 U8 (by exact f8) U (Y1 s2 P1 U (hS.get (mR (mR mL))) U U (Z3 (vI a3) (by exact f9) U ?_))))))))
 obtain ⟨_, _, _, _, _, x6, x7, ⟨_, _, rfl, rfl, rfl⟩, x8⟩ := b6.elem (i := a3) (by omega) (by omega)
 refine X6 Q0 U U x6 U (by omega) (by omega) U (Y2 L6 U U (U0 (Z7 .u8 (rd a1 a3).1) P7 U (hS.froz _ _ x7) U (Zf9 [] (Z7 .u8 (rd a1 a3).1) ([vI (rd a1 a3).2]) x8 (nl U)) U (U5 (z := vA (Z7 .u8 (fun _ => 0))) (Z7 .u8 (fun _ => 0)).toArray Yn9.zero U hS U (fun d0 _ hS => W1 (v := vA (Z7 .u8 (rd a1 a3).1)) (vs := (Z7 .u8 (rd a1 a3).1).toArray) (cs := (Z7 .u8 (fun _ => 0)).toArray) P7 U U U hS U (R7 .u8 (rd a1 a3).1) U (fun _ hS => Z2 (Z1 (Z0 (Z5 (vI 0) U U (Z2 (Y8 ?_))))))))))
 obtain ⟨m7, c5, q5⟩ := bSm d6
 refine W3 (id := 2) (fun k f w => ∃ a4 a9 H1 a6, I4 K a0 a1 a3 k a4 a9 = some m7 ∧ Sub H H1 ∧ St H1 w ([(d0, cA (Z7 .u8 (rd a1 a3).1) 72)] ++ ([(c4, cA [a6] 45)] ++ ([(b7, cA [vN] 45)] ++ ([(b4, cA [s2] 45)] ++ ([(b1, cA ([s0] ++ [s1]) 31)] ++ L))))) ∧ 0 ≤ a4 ∧ Y3 yT H1 a6 a9 ∧ Y3 (Y4 .i64) H1 s0 a0.1 ∧ Y3 (X3 yT) H1 s1 a0.2 ∧ Y3 yT H1 s2 a1 ∧ tv f 2 = vP b1 ∧ tv f 3 = vP b4 ∧ tv f 4 = vP b7 ∧ tv f 5 = vP c4 ∧ tv f 6 = vI a3 ∧ tv f 7 = vP d0 ∧ tv f 8 = vI a4) (fun f w => ∃ c6 H1 d2, m7 = .go c6 ∧ Sub H H1 ∧ St H1 w ([(d0, cA (Z7 .u8 (rd a1 a3).1) 72)] ++ ([(c4, cA [d2] 45)] ++ ([(b7, cA [vN] 45)] ++ ([(b4, cA [s2] 45)] ++ ([(b1, cA ([s0] ++ [s1]) 31)] ++ L))))) ∧ Y3 yT H1 d2 c6 ∧ Y3 (Y4 .i64) H1 s0 a0.1 ∧ Y3 (X3 yT) H1 s1 a0.2 ∧ Y3 yT H1 s2 a1 ∧ tv f 2 = vP b1 ∧ tv f 3 = vP b4 ∧ tv f 4 = vP b7 ∧ tv f 5 = vP c4 ∧ tv f 6 = vI a3) U ?_ ?_ K ?_ ?_
 rintro f w ⟨a4, a9, H1, a6, c5, _⟩
 rw [I4] at c5; cases c5
 rintro k _ _ w7 hx1 ⟨a4, a9, q6, a6, c5, Z4, hS, _, a5, b3, b9, b6, e2, g0, g1, g2, g3, d8, e3⟩
 rw [I4] at c5
 refine Z1 (Z1 (Z0 (Z3 (vI a4) (by exact e3) U (Y2 N8 (by exact e2) U (Y1 s0 Q9 U (hS.get (mR (mR (mR (mR mL))))) U U ?_)))))
 have a14 := b3.bound
 refine X9 T1 U b3 U (V4 (k := .i64) (a := a4) (b := (a0.1.length : Int)) U U U (Z2 ?_))
 obtain ⟨m8, c5⟩ | ⟨m8, c5⟩ := ic c5
 refine Z8 (bT m8 U) (Y6 (Z1 (Y8 (Z1 (Z1 (Z0 (Z3 (vI a4) (by exact e3) U ?_)))))))
 obtain ⟨_, c5⟩ := gd c5
 refine U3 Zh5 (by exact d8) U (by omega) (by omega) U (Y1 (Value.int .u8 (Y5 (rd a1 a3).1 a4)) ty5 U (hS.get (o := cA (Z7 .u8 (rd a1 a3).1) 72) mL) (I1 [] [] (by omega) (by omega)) U (Zb2 (k := .u8) (a := (Y5 (rd a1 a3).1 a4)) (b := 0) U U U (Z2 ?_)))
 obtain ⟨m9, c5⟩ | ⟨m9, c5⟩ := ic c5
 refine Z8 (bT m9 U) (W2 U (Z0 (Z3 (vI a4) (by exact e3) U (W4 (a4 + 1) U U (i64_in _ (by omega)) U (Z5 (vI (a4 + 1)) U U (Z2 (w7 _ _ ⟨(a4 + 1), a9, q6, a6, c5, Z4, hS, (by omega), a5, b3, b9, b6, e2, g0, g1, g2, g3, d8, U⟩)))))))
 refine Z6 (bF m9 U) (Y6 (Z1 (W6 6 (S8 [mE 40 (vA (Z7 .u8 (rd a1 a3).1)), mE 41 (vA (Z7 .u8 (rd a1 a3).1)), (9, MP.box (cA (Z7 .u8 (fun _ => 0)) 72)), (10, MP.box (cA (Z7 .u8 (fun _ => 0)) 72))]) [Co.st 2 9 4 0 40 (Zw6 72), Co.st 3 10 5 1 41 (Zw6 72)] mixed U (Zy5 (ns := [(2, 9, 4, 0, 40), (3, 10, 5, 1, 41)]) U U) U hS (W7 U (X4 fun S B => X5 P7 (evT (B 7 U) d8) (S.get (mR mL)) U U (qz S)) (W7 U (X4 fun S B => X5 P7 (evT (B 7 U) d8) (S.get (mR mL)) U U (qz S)) (W7 U ?_ (W7 U ?_ (Yj9 U ?_ (Yj9 U ?_ W9)))))) ?_)))
 intro _ _ _ _ _ hS _ _ hcq
 refine U5 (z := vA (Z7 .u8 (fun _ => 0))) (Z7 .u8 (fun _ => 0)).toArray Yn9.zero U hS U fun _ _ hS => qn (.refl _) U hS ⟨_, U⟩
 intro _ _ _ _ _ hS _ _ hcq
 refine U5 (z := vA (Z7 .u8 (fun _ => 0))) (Z7 .u8 (fun _ => 0)).toArray Yn9.zero U hS U fun _ _ hS => qn (.refl _) U hS ⟨_, U⟩
 intro i1 w66 w8 X68 _ hS _ q7 hcq
 have Z4 := Sub.refl w8
 obtain ⟨w9, l5⟩ := q7 2 9 U U
 have l5 : i1 9 = vP w9 := l5
 have hS : St w8 w66 (Zg0 (cA (Z7 .u8 (fun _ => 0)) 72) (i1 9) ++ _) := hS
 rw [l5] at hS
 have q76 : tv i1 9 = vP w9 := l5
 have x0 : tv i1 40 = vA (Z7 .u8 (rd a1 a3).1) := q7 0 40 U U
 refine W1 (v := vA (Z7 .u8 (rd a1 a3).1)) (vs := (Z7 .u8 (rd a1 a3).1).toArray) (cs := (Z7 .u8 (fun _ => 0)).toArray) P7 q76 x0 U hS U (R7 .u8 (rd a1 a3).1) U ?_
 intro _ hS
 have g79 : i1 40 = vA (Z7 .u8 (rd a1 a3).1) := x0
 exact Z2 ⟨_, U, U, Z4, by show St _ _ (Zg0 (Zw6 72 (i1 40)) (i1 9) ++ _); rw [l5, g79]; exact hS, trivial⟩
 intro i2 w81 x1 X83 _ hS _ q8 hcq
 have Z4 := Sub.refl x1
 obtain ⟨x2, l6⟩ := q8 3 10 U U
 have l6 : i2 10 = vP x2 := l6
 have hS : St x1 w81 (Zg0 (cA (Z7 .u8 (fun _ => 0)) 72) (i2 10) ++ _) := hS
 rw [l6] at hS
 have q91 : tv i2 10 = vP x2 := l6
 have x3 : tv i2 41 = vA (Z7 .u8 (rd a1 a3).1) := q8 1 41 U U
 refine W1 (v := vA (Z7 .u8 (rd a1 a3).1)) (vs := (Z7 .u8 (rd a1 a3).1).toArray) (cs := (Z7 .u8 (fun _ => 0)).toArray) P7 q91 x3 U hS U (R7 .u8 (rd a1 a3).1) U ?_
 intro _ hS
 have g94 : i2 41 = vA (Z7 .u8 (rd a1 a3).1) := x3
 exact Z2 ⟨_, U, U, Z4, by show St _ _ (Zg0 (Zw6 72 (i2 41)) (i2 10) ++ _); rw [l6, g94]; exact hS, trivial⟩
 intro e9 w96 x4 i3 hS f1 h9 hcq
 have hS : St x4 w96 ((Zg0 (Zw6 72 (e9 40)) (e9 9) ++ (Zg0 (Zw6 72 (e9 41)) (e9 10) ++ ([]))) ++ _) := hS
 have Z4 := Z4.trans i3
 have b3 := b3.mono i3
 have b9 := b9.mono i3
 have b6 := b6.mono i3
 have a5 := a5.mono i3
 obtain ⟨d4, g4⟩ := h9 2 9 (by decide) U
 have g4 : e9 9 = vP d4 := g4
 rw [g4] at hS
 have g4 : tv e9 9 = _ := g4
 have x9 : e9 40 = vA (Z7 .u8 (rd a1 a3).1) := (eM (h9 0 40 (by decide) U))
 rw [x9] at hS
 obtain ⟨d1, g5⟩ := h9 3 10 (by decide) U
 have g5 : e9 10 = vP d1 := g5
 rw [g5] at hS
 have g5 : tv e9 10 = _ := g5
 have y0 : e9 41 = vA (Z7 .u8 (rd a1 a3).1) := (eM (h9 1 41 (by decide) U))
 rw [y0] at hS
 refine Z2 (Z1 (Z1 (Z0 (Z5 (vI 0) U U (Z2 (Y8 ?_))))))
 obtain ⟨n0, c8, e1⟩ := bSm c5
 refine W3 (id := 4) (fun k f w => ∃ a8 b5 b0 H1, E9 K a4 k a8 b5 b0 = some n0 ∧ Sub H H1 ∧ St H1 w ([(d4, cA (Z7 .u8 b5) 72)] ++ ([(d1, cA (Z7 .u8 b0) 72)] ++ ([(d0, cA (Z7 .u8 (rd a1 a3).1) 72)] ++ ([(c4, cA [a6] 45)] ++ ([(b7, cA [vN] 45)] ++ ([(b4, cA [s2] 45)] ++ ([(b1, cA ([s0] ++ [s1]) 31)] ++ L))))))) ∧ 0 ≤ a8 ∧ Y3 (Y4 .i64) H1 s0 a0.1 ∧ Y3 (X3 yT) H1 s1 a0.2 ∧ Y3 yT H1 s2 a1 ∧ Y3 yT H1 a6 a9 ∧ tv f 2 = vP b1 ∧ tv f 3 = vP b4 ∧ tv f 4 = vP b7 ∧ tv f 5 = vP c4 ∧ tv f 6 = vI a3 ∧ tv f 7 = vP d0 ∧ tv f 8 = vI a4 ∧ tv f 9 = vP d4 ∧ tv f 10 = vP d1 ∧ tv f 11 = vI a8) (fun f w => ∃ a7 b2 H1, n0 = .go (a7, b2) ∧ Sub H H1 ∧ St H1 w ([(d4, cA (Z7 .u8 a7) 72)] ++ ([(d1, cA (Z7 .u8 b2) 72)] ++ ([(d0, cA (Z7 .u8 (rd a1 a3).1) 72)] ++ ([(c4, cA [a6] 45)] ++ ([(b7, cA [vN] 45)] ++ ([(b4, cA [s2] 45)] ++ ([(b1, cA ([s0] ++ [s1]) 31)] ++ L))))))) ∧ Y3 (Y4 .i64) H1 s0 a0.1 ∧ Y3 (X3 yT) H1 s1 a0.2 ∧ Y3 yT H1 s2 a1 ∧ Y3 yT H1 a6 a9 ∧ tv f 2 = vP b1 ∧ tv f 3 = vP b4 ∧ tv f 4 = vP b7 ∧ tv f 5 = vP c4 ∧ tv f 6 = vI a3 ∧ tv f 7 = vP d0 ∧ tv f 8 = vI a4 ∧ tv f 9 = vP d4 ∧ tv f 10 = vP d1) U ?_ ?_ K ?_ ?_
 rintro f w ⟨a8, b5, b0, H1, c8, _⟩
 rw [E9] at c8; cases c8
 rintro k _ _ x5 hx2 ⟨a8, b5, b0, n1, c8, Z4, hS, _, b3, b9, b6, a5, g6, g7, g8, g9, h0, h1, e4, e5, f2, d7⟩
 rw [E9] at c8
 refine Z1 (Z1 (Z0 (Z3 (vI a8) (by exact d7) U (V4 (k := .i64) (a := a8) (b := 8) U U U (Z2 ?_)))))
 obtain ⟨k7, c8⟩ | ⟨k7, c8⟩ := ic c8
 refine Z8 (bT k7 U) (Y6 (Z1 (Y8 (Z1 (Z1 (Z0 (Z3 (vI a8) (by exact d7) U (Z3 (vI a4) (by exact e4) U (Ya4 (k := .i64) (a := a8) (b := a4) U U U (Z2 (N1 (fun f w => ∃ b8 H1, Zl2 K (E9 K a4 k) a4 a8 b0 b8 = some n0 ∧ Sub H H1 ∧ St H1 w ([(d4, cA (Z7 .u8 b8) 72)] ++ ([(d1, cA (Z7 .u8 b0) 72)] ++ ([(d0, cA (Z7 .u8 (rd a1 a3).1) 72)] ++ ([(c4, cA [a6] 45)] ++ ([(b7, cA [vN] 45)] ++ ([(b4, cA [s2] 45)] ++ ([(b1, cA ([s0] ++ [s1]) 31)] ++ L))))))) ∧ Y3 (Y4 .i64) H1 s0 a0.1 ∧ Y3 (X3 yT) H1 s1 a0.2 ∧ Y3 yT H1 s2 a1 ∧ Y3 yT H1 a6 a9 ∧ tv f 2 = vP b1 ∧ tv f 3 = vP b4 ∧ tv f 4 = vP b7 ∧ tv f 5 = vP c4 ∧ tv f 6 = vI a3 ∧ tv f 7 = vP d0 ∧ tv f 8 = vI a4 ∧ tv f 9 = vP d4 ∧ tv f 10 = vP d1 ∧ tv f 11 = vI a8) ?_ ?_)))))))))))
 rintro _ _ ⟨b8, l7, e6, Z4, hS, b3, b9, b6, a5, j2, j3, j4, j5, j6, j7, h2, j8, f3, d9⟩
 unfold Zl2 at e6
 refine Z1 (Z0 (Z3 (vI a8) (by exact d9) U (Z3 (vI a4) (by exact h2) U (Yj8 (k := .i64) (a := a8) (b := a4) U U U (Z2 ?_)))))
 obtain ⟨k8, e6⟩ | ⟨k8, e6⟩ := ic e6
 refine Z8 (bT k8 U) (Z0 (Z3 (vI a8) (by exact d9) U (U3 Zh5 (by exact f3) U (by omega) (by omega) U ?_)))
 have hS := hS.perm R5
 refine J7 (v := Value.int .u8 0) (cs := (Z7 .u8 b0).toArray) (cs' := (Z7 .u8 (T3 b0 a8 0)).toArray) ty5 U U hS U (Zv6 U) (by simp [Z7, M5]; omega) (Zj0 (by omega) (by omega)) ?_
 intro _ hS
 have hS := hS.perm R5.symm
 refine Z2 (X1 (Z0 (Z3 (vI a8) (by exact d9) U (W4 (a8 + 1) U U (i64_in _ (by omega)) U (Z5 (vI (a8 + 1)) U U (Z2 (x5 _ _ ⟨(a8 + 1), b8, (T3 b0 a8 0), l7, e6, Z4, hS, (by omega), b3, b9, b6, a5, j2, j3, j4, j5, j6, j7, h2, j8, f3, U⟩)))))))
 refine Z6 (bF k8 U) (Y6 (X1 (Z0 (Z3 (vI a8) (by exact d9) U (W4 (a8 + 1) U U (i64_in _ (by omega)) U (Z5 (vI (a8 + 1)) U U (Z2 (x5 _ _ ⟨(a8 + 1), b8, b0, l7, e6, Z4, hS, (by omega), b3, b9, b6, a5, j2, j3, j4, j5, j6, j7, h2, j8, f3, U⟩))))))))
 intro q9
 obtain ⟨k9, c8⟩ | ⟨k9, c8⟩ := ic c8
 refine Z8 (bT k9 U) (Z0 (Z3 (vI a8) (by exact d7) U (U3 Zh5 (by exact e5) U (by omega) (by omega) U (J7 (v := Value.int .u8 0) (cs := (Z7 .u8 b5).toArray) (cs' := (Z7 .u8 (T3 b5 a8 0)).toArray) ty5 U U hS U (Zv6 U) (by simp [Z7, M5]; omega) (Zj0 (by omega) (by omega)) (fun _ hS => Z2 (q9 _ _ ⟨(T3 b5 a8 0), n1, c8, Z4, hS, b3, b9, b6, a5, g6, g7, g8, g9, h0, h1, e4, e5, f2, d7⟩))))))
 refine Z6 (bF k9 U) (Y6 (q9 _ _ ⟨b5, n1, c8, Z4, hS, b3, b9, b6, a5, g6, g7, g8, g9, h0, h1, e4, e5, f2, d7⟩))
 refine Z6 (bF k7 U) (W2 U ?_)
 cases c8
 exact hx2 _ _ ⟨b5, b0, n1, U, Z4, hS, b3, b9, b6, a5, g6, g7, g8, g9, h0, h1, e4, e5, f2⟩
 exact ⟨0, ((rd a1 a3).1), ((rd a1 a3).1), x4, c8, Z4, hS, (by omega), b3, b9, b6, a5, (evT (f1 2 U) e2), (evT (f1 3 U) g0), (evT (f1 4 U) g1), (evT (f1 5 U) g2), (evT (f1 6 U) g3), (evT (f1 7 U) d8), (evT (f1 8 U) e3), g4, g5, U⟩
 rintro _ _ ⟨a7, b2, _, rfl, Z4, hS, b3, b9, b6, a5, o2, j9, o3, o4, k0, h3, e7, k1, n2⟩
 dsimp only [Ex.elim] at e1
 refine Z1 (Z0 (X5 P7 (by exact k1) (hS.get mL) U U (U5 (z := vA (Z7 .u8 (fun _ => 0))) (Z7 .u8 (fun _ => 0)).toArray Yn9.zero U hS U (fun f4 _ hS => W1 (v := vA (Z7 .u8 a7)) (vs := (Z7 .u8 a7).toArray) (cs := (Z7 .u8 (fun _ => 0)).toArray) P7 U U U hS U (R7 .u8 a7) U (fun _ hS => Z2 (Z1 (Z0 (Z3 (vI a4) (by exact e7) U (Z3 (vI a4) (by exact e7) U (U3 Zh5 (by exact h3) U (by omega) (by omega) U (Y1 (Value.int .u8 (Y5 (rd a1 a3).1 a4)) ty5 U (hS.get (o := cA (Z7 .u8 (rd a1 a3).1) 72) (mR (mR (mR mL)))) (I1 [] [] (by omega) (by omega)) U (Zg8 (u8.wrap ((Y5 (rd a1 a3).1 a4) - 1)) U U U U (U3 Zh5 U U (by omega) (by omega) U (J7 (v := Value.int .u8 (u8.wrap ((Y5 (rd a1 a3).1 a4) - 1))) (cs := (Z7 .u8 a7).toArray) (cs' := (Z7 .u8 (T3 a7 a4 (u8.wrap ((Y5 (rd a1 a3).1 a4) - 1)))).toArray) ty5 U U hS U (Zv6 U) (by simp [Z7, M5]; omega) (Zj0 (by omega) (by omega)) (fun _ hS => Z2 (Z1 ?_))))))))))))))))
 obtain ⟨r0, r1, _, _, _, t7, t8, ⟨_, _, rfl, rfl, rfl⟩, t9⟩ := b6.elem (i := a3) (by omega) (by omega)
 refine W6 12 (S8 [mE 63 (vP b4), mE 64 s2, mE 65 (vI a3), mE 66 (vQ r0 r1), mE 67 (vQ r0 (r1 + 8)), mE 68 (vI (rd a1 a3).2), mE 69 (vI a4), mE 70 (vQ d0 (0 + (a4).toNat * 1)), mE 71 (Value.int .u8 (Y5 (rd a1 a3).1 a4)), mE 72 (vI (i64.wrap (Y5 (rd a1 a3).1 a4))), mE 73 (vI (i64.wrap ((rd a1 a3).2 * (i64.wrap (Y5 (rd a1 a3).1 a4))))), mE 13 (vI (i64.wrap ((rd a1 a3).2 * (i64.wrap (Y5 (rd a1 a3).1 a4)))))]) [] mixed U U U hS (U1 (X4 fun S B => Y2 U8 (evT (B 3 U) j9) U (qz S)) (Y7 fun S V => Y1 s2 P1 (eM (V 0 63 U U)) (S.get (mR (mR (mR (mR (mR (mR (mR mL)))))))) U U (qz S)) (X4 fun S B => Z3 (vI a3) (evT (B 6 U) k0) U (qz S)) (Y7 fun S V => X6 Q0 U (eM (V 1 64 U U)) t7 (eM (V 2 65 U U)) (by omega) (by omega) U (qz S)) (Y7 fun S V => Y2 Zf7 (eM (V 3 66 U U)) U (qz S)) (P0 fun s S V => Y1 (vI (rd a1 a3).2) ty2 (eM (V 4 67 U U)) (S.froz _ _ (s.1 _ _ t8)) (t9 8 (show 8 < 9 by decide)) U (qz S)) (X4 fun S B => Z3 (vI a4) (evT (B 8 U) e7) U (qz S)) (K6 fun S B V => U3 Zh5 (evT (B 7 U) h3) (eM (V 6 69 U U)) (by omega) (by omega) U (qz S)) (K3 (Y7 fun S V => Y1 (Value.int .u8 (Y5 (rd a1 a3).1 a4)) ty5 (eM (V 7 70 U U)) (S.get (o := cA (Z7 .u8 (rd a1 a3).1) 72) (mR (mR (mR (mR mL))))) (I1 [] [] (by omega) (by omega)) U (qz S)) (Y7 fun S V => Ym9 (s := .u8) ((i64.wrap (Y5 (rd a1 a3).1 a4))) Va0 (eM (V 8 71 U U)) U U (qz S)) (Y7 fun S V => Zi4 (i64.wrap ((rd a1 a3).2 * (i64.wrap (Y5 (rd a1 a3).1 a4)))) (eM (V 5 68 U U)) (eM (V 9 72 U U)) U U (qz S)) (Y7 fun S V => Z5 (vI (i64.wrap ((rd a1 a3).2 * (i64.wrap (Y5 (rd a1 a3).1 a4))))) (eM (V 10 73 U U)) U (qz S)) W9)) ?_
 intro r2 y1 y2 f5 hS d3 u0 hcq
 have hS : St y2 y1 ([(f4, cA (Z7 .u8 (T3 a7 a4 (u8.wrap ((Y5 (rd a1 a3).1 a4) - 1)))) 72)] ++ _) := hS
 have Z4 := Z4.trans f5
 have b3 := b3.mono f5
 have b9 := b9.mono f5
 have b6 := b6.mono f5
 have a5 := a5.mono f5
 have n3 := evT (d3 2 U) o2
 have r3 := evT (d3 3 U) j9
 have r4 := evT (d3 4 U) o3
 have r5 := evT (d3 5 U) o4
 have r6 := evT (d3 6 U) k0
 have r7 := evT (d3 7 U) h3
 have r8 := evT (d3 8 U) e7
 have r9 := evT (d3 10 U) n2
 have s3 : tv r2 12 = vP f4 := Eq.trans (d3 12 U) U
 have s4 : tv r2 13 = vI (i64.wrap ((rd a1 a3).2 * (i64.wrap (Y5 (rd a1 a3).1 a4)))) := u0 11 13 (by decide) U
 refine Z2 (Z1 (Z1 (Z0 (Y2 N8 (by exact n3) U (Y1 s0 Q9 U (hS.get (mR (mR (mR (mR (mR (mR (mR mL)))))))) U U (X5 P7 (by exact (evT (d3 9 U) k1)) (hS.get (mR mL)) U U ?_))))))
 obtain ⟨k6, u1, e1⟩ := bSm e1
 refine X2 call207 (W8 U U) U (Zw8 u1 b3 hS) ?_
 rintro _ s5 _ f6 hS rfl
 have Z4 := Z4.trans f6
 have b3 := b3.mono f6
 have b9 := b9.mono f6
 have b6 := b6.mono f6
 have a5 := a5.mono f6
 refine Zd4 ((k6).tmod 2) U U (by decide) U U (L1 (k := .i64) (a := ((k6).tmod 2)) (b := 0) U U U (Z2 (N1 (fun f w => ∃ c7 H1, Zl1 K (I4 K a0 a1 a3 k) a0 a1 a3 a4 a9 a7 b2 c7 = some m7 ∧ Sub H H1 ∧ St H1 w ([(f4, cA (Z7 .u8 (T3 a7 a4 (u8.wrap ((Y5 (rd a1 a3).1 a4) - 1)))) 72)] ++ ([(d4, cA (Z7 .u8 a7) 72)] ++ ([(d1, cA (Z7 .u8 b2) 72)] ++ ([(d0, cA (Z7 .u8 (rd a1 a3).1) 72)] ++ ([(c4, cA [a6] 45)] ++ ([(b7, cA [vN] 45)] ++ ([(b4, cA [s2] 45)] ++ ([(b1, cA ([s0] ++ [s1]) 31)] ++ L)))))))) ∧ Y3 (Y4 .i64) H1 s0 a0.1 ∧ Y3 (X3 yT) H1 s1 a0.2 ∧ Y3 yT H1 s2 a1 ∧ Y3 yT H1 a6 a9 ∧ tv f 2 = vP b1 ∧ tv f 3 = vP b4 ∧ tv f 4 = vP b7 ∧ tv f 5 = vP c4 ∧ tv f 6 = vI a3 ∧ tv f 7 = vP d0 ∧ tv f 8 = vI a4 ∧ tv f 10 = vP d1 ∧ tv f 12 = vP f4 ∧ tv f 13 = vI c7) ?_ ?_)))
 rintro _ _ ⟨c7, _, c1, Z4, hS, b3, b9, b6, a5, h4, o5, o6, o7, o8, o9, k2, n4, n5, n6⟩
 unfold Zl1 at c1
 refine Z1 ?_
 obtain ⟨m0, u2, c1⟩ := bSm c1
 obtain ⟨_, c1⟩ := gd c1
 obtain ⟨y3, y4, _, _, _, u3, u4, ⟨l9, rfl, h5⟩, u5⟩ := b9.elem (i := a4) (by omega) (by omega)
 obtain ⟨m2, u6, c1⟩ := bSm c1
 refine W6 12 (S8 [mE 82 (vP b1), mE 83 s0, mE 84 (vA (Z7 .u8 (T3 a7 a4 (u8.wrap ((Y5 (rd a1 a3).1 a4) - 1))))), (85, MP.rep (R.agg (X3 yT)) m0), mE 86 (vQ b1 1), mE 87 s1, mE 88 (vI a4), mE 89 (vQ y3 y4), mE 90 (vA [l9]), (91, MP.rep (R.agg (X3 yT)) m2), (14, MP.box (cA [vN] 45))]) [Co.st 10 14 11 9 91 (Zw6 45)] mixed U (Zy5 (ns := [(10, 14, 11, 9, 91)]) U U) U hS (W7 U (X4 fun S B => Y2 N8 (evT (B 2 U) h4) U (qz S)) (W7 U (Y7 fun S V => Y1 s0 Q9 (eM (V 0 82 U U)) (S.get (mR (mR (mR (mR (mR (mR (mR (mR mL))))))))) U U (qz S)) (W7 U (X4 fun S B => X5 P7 (evT (B 12 U) n5) (S.get (mR mL)) U U (qz S)) (W7 U ?_ (W7 U ?_ (W7 U ?_ (W7 U ?_ (W7 U ?_ (W7 U ?_ (W7 U ?_ (W7 U ?_ (Yj9 U ?_ W9)))))))))))) ?_
 intro _ _ _ _ _ hS _ u7 hcq
 refine X2 call208 (W8 (eM (u7 2 84 U U)) U) U (Zw9 u2  hS) ?_
 rintro _ _ _ u8 hS u9
 exact qn u8 U hS u9
 exact X4 fun S B => Y2 Zh6 (evT (B 2 U) h4) U (qz S)
 exact Y7 fun S V => Y1 s1 Yb2 (eM (V 4 86 U U)) (S.get (mR (mR (mR (mR (mR (mR (mR (mR mL))))))))) U U (qz S)
 exact X4 fun S B => Z3 (vI a4) (evT (B 8 U) k2) U (qz S)
 exact Y7 fun S V => X6 Zm7 U (eM (V 5 87 U U)) u3 (eM (V 6 88 U U)) (by omega) (by omega) U (qz S)
 exact P0 fun s S V => U0 [l9] U7 (eM (V 7 89 U U)) (S.froz _ _ (s.1 _ _ u4)) U u5 U (qz S)
 intro _ _ _ _ n7 hS _ l0 hcq
 have b3 := b3.mono n7
 have h5 := h5.mono n7
 obtain ⟨_, y5, ⟨_, rfl, ⟨_, rfl, p0⟩⟩⟩ := gvR (l0 3 85 U U)
 refine X2 call197 (I3 (eM (l0 1 83 U U)) y5 (eM (l0 8 90 U U))) U (Yh7 u6 b3 p0 h5 hS) ?_
 rintro _ _ _ v0 hS v1
 exact qn v0 U hS v1
 intro _ _ _ _ _ hS _ _ hcq
 refine U5 (z := vA [vN]) [vN].toArray Zj8.zero U hS U fun _ _ hS => qn (.refl _) U hS ⟨_, U⟩
 intro h6 y6 s6 y7 _ hS _ n8 hcq
 have Z4 := Sub.refl s6
 obtain ⟨s7, i4⟩ := n8 10 14 U U
 have i4 : h6 14 = vP s7 := i4
 have hS : St s6 y6 (Zg0 (cA [vN] 45) (h6 14) ++ (y7 ++ _)) := hS
 rw [i4] at hS
 have y8 : tv h6 14 = vP s7 := i4
 obtain ⟨_, s8, ⟨_, rfl, ⟨i5, rfl, p1⟩⟩⟩ := gvR (n8 9 91 U U)
 refine W1 (v := vA [i5]) (vs := ([i5]).toArray) (cs := ([vN]).toArray) U7 y8 s8 U hS U (K9 p1.isOne) U ?_
 intro _ hS
 have y9 : h6 91 = vA [i5] := s8
 exact Z2 ⟨_, U, U, Z4, by show St _ _ (Zg0 (Zw6 45 (h6 91)) (h6 14) ++ _); rw [i4, y9]; exact hS, trivial⟩
 intro i6 z0 z1 f7 hS d5 n9 hcq
 have hS : St z1 z0 ((Zg0 (Zw6 45 (i6 91)) (i6 14) ++ ([])) ++ _) := hS
 have Z4 := Z4.trans f7
 have a5 := a5.mono f7
 have b6 := b6.mono f7
 have b3 := b3.mono f7
 have b9 := b9.mono f7
 have s9 := evT (d5 2 U) h4
 have t0 := evT (d5 5 U) o7
 obtain ⟨_, z2, ⟨_, rfl, ⟨i7, rfl, h7⟩⟩⟩ := gvR (n9 9 91 (by decide) U)
 obtain ⟨t1, h8⟩ := n9 10 14 (by decide) U
 have h8 : i6 14 = vP t1 := h8
 rw [h8] at hS
 have h8 : tv i6 14 = _ := h8
 have z3 : i6 91 = vA [i7] := z2
 rw [z3] at hS
 refine Z2 ?_
 obtain ⟨m3, v2, c1⟩ := bSm c1
 obtain ⟨m4, v3, c1⟩ := bSm c1
 obtain ⟨m5, v4, c1⟩ := bSm c1
 obtain ⟨k5, v5, c1⟩ := bSm c1
 refine W6 10 (S8 [mE 92 (vA [a6]), mE 93 (vP b1), mE 94 s0, mE 95 (vA [i7]), mE 96 (vA (Z7 .u8 b2)), (97, MP.rep (R.agg (X3 yT)) m3), (98, MP.rep (R.agg (X3 yT)) m4), mE 99 (vI c7), mE 100 (vI m5), (101, MP.rep (R.agg (X3 yT)) k5)]) [] mixed U U U hS (U1 (X4 fun S B => X5 U7 (evT (B 5 U) t0) (S.get (mR (mR (mR (mR (mR (mR mL))))))) U U (qz S)) (X4 fun S B => Y2 N8 (evT (B 2 U) s9) U (qz S)) (Y7 fun S V => Y1 s0 Q9 (eM (V 1 93 U U)) (S.get (mR (mR (mR (mR (mR (mR (mR (mR (mR mL)))))))))) U U (qz S)) (X4 fun S B => X5 U7 (evT (B 14 U) h8) (S.get (mR mL)) U U (qz S)) (X4 fun S B => X5 P7 (evT (B 10 U) (evT (d5 10 U) n4)) (S.get (mR (mR (mR (mR mL))))) U U (qz S)) ?_ ?_ ?_ (L7 ?_ ?_ W9)) ?_
 intro _ _ _ _ _ hS _ v6 hcq
 refine X2 call208 (W8 (eM (v6 4 96 U U)) U) U (Zw9 v2  hS) ?_
 rintro _ _ _ v7 hS v8
 exact qn v7 U hS v8
 intro _ _ _ _ o0 hS _ l1 hcq
 have b3 := b3.mono o0
 have h7 := h7.mono o0
 obtain ⟨_, z4, ⟨_, rfl, ⟨_, rfl, p2⟩⟩⟩ := gvR (l1 5 97 U U)
 refine X2 call197 (I3 (eM (l1 2 94 U U)) (eM (l1 3 95 U U)) z4) U (Yh7 v3 b3 h7 p2 hS) ?_
 rintro _ _ _ v9 hS w0
 exact qn v9 U hS w0
 exact X4 fun S B => Z3 (vI c7) (evT (B 13 U) (evT (d5 13 U) n6)) U (qz S)
 intro _ _ _ _ _ hS _ w1 hcq
 refine X2 call209 (S4 (eM (w1 7 99 U U))) U (B3 v4  hS) ?_
 rintro _ _ _ w2 hS rfl
 exact qn w2 U hS U
 intro _ _ _ _ w3 hS _ l2 hcq
 have a5 := a5.mono w3
 obtain ⟨_, z5, ⟨_, rfl, ⟨_, rfl, p3⟩⟩⟩ := gvR (l2 6 98 U U)
 refine X2 call196 (I3 (eM (l2 0 92 U U)) z5 (eM (l2 8 100 U U))) U (Yo0 v5 a5 p3 hS) ?_
 rintro _ _ _ w4 hS l3
 have l3 := ((R.agg (X3 yT))).mono (Zw4 _ _) l3
 exact qn w4 U hS l3
 intro _ z6 t4 i0 hS e0 w5 hcq
 have hS : St t4 z6 ([(t1, cA [i7] 45)] ++ _) := hS
 have Z4 := Z4.trans i0
 have b6 := b6.mono i0
 have b3 := b3.mono i0
 have b9 := b9.mono i0
 have t5 := evT (e0 5 U) t0
 obtain ⟨_, z7, ⟨_, rfl, ⟨i8, rfl, k3⟩⟩⟩ := gvR (w5 9 101 (by decide) U)
 have hS := hS.perm Xh8
 refine W1 (v := vA [i8]) (vs := ([i8]).toArray) (cs := ([a6]).toArray) U7 (by exact t5) (by exact z7) U hS U (K9 k3.isOne) U ?_
 intro _ hS
 have hS := hS.perm Xh8.symm
 refine Z2 (X1 (Z0 (Z3 (vI a4) (by exact (evT (e0 8 U) (evT (d5 8 U) k2))) U (W4 (a4 + 1) U U (i64_in _ (by omega)) U (Z5 (vI (a4 + 1)) U U (Z2 ?_))))))
 have hS := St.dA hS
 have hS := St.dA hS
 have hS := St.dA hS
 have hS := St.dA hS
 exact w7 _ _ ⟨(a4 + 1), k5, t4, i8, c1, Z4, hS, (by omega), k3, b3, b9, b6, (evT (e0 2 U) s9), (evT (e0 3 U) (evT (d5 3 U) o5)), (evT (e0 4 U) (evT (d5 4 U) o6)), t5, (evT (e0 6 U) (evT (d5 6 U) o8)), (evT (e0 7 U) (evT (d5 7 U) o9)), U⟩
 intro t6
 obtain ⟨l4, e1⟩ | ⟨l4, e1⟩ := ic e1
 refine Z6 (bN l4 U) (Y6 (t6 _ _ ⟨(i64.wrap ((rd a1 a3).2 * (i64.wrap (Y5 (rd a1 a3).1 a4)))), s5, e1, Z4, hS, b3, b9, b6, a5, n3, r3, r4, r5, r6, r7, r8, r9, s3, s4⟩))
 refine Z8 (bO l4 U) (Z0 (Z3 (vI (i64.wrap ((rd a1 a3).2 * (i64.wrap (Y5 (rd a1 a3).1 a4))))) (by exact s4) U (Xt0 (i64.wrap (0 - (i64.wrap ((rd a1 a3).2 * (i64.wrap (Y5 (rd a1 a3).1 a4)))))) U U U (Z5 (vI (i64.wrap (0 - (i64.wrap ((rd a1 a3).2 * (i64.wrap (Y5 (rd a1 a3).1 a4))))))) U U (Z2 (t6 _ _ ⟨(i64.wrap (0 - (i64.wrap ((rd a1 a3).2 * (i64.wrap (Y5 (rd a1 a3).1 a4)))))), s5, e1, Z4, hS, b3, b9, b6, a5, n3, r3, r4, r5, r6, r7, r8, r9, s3, U⟩))))))
 refine Z6 (bF m8 U) (W2 U ?_)
 cases c5
 exact hx1 _ _ ⟨a9, q6, a6, U, Z4, hS, a5, b3, b9, b6, e2, g0, g1, g2, g3⟩
 exact ⟨0, c0, q4, c2, c5, Z4, hS, (by omega), e8, b3, b9, b6, o1, f8, j0, j1, f9, U, U⟩
 rintro _ _ ⟨c6, z8, d2, rfl, Z4, hS, i9, b3, b9, b6, p4, p5, p6, p7, p8⟩
 dsimp only [Ex.elim] at q5
 refine X1 (Z0 (Z3 (vI a3) (by exact p8) U (W4 (a3 + 1) U U (i64_in _ (by omega)) U (Z5 (vI (a3 + 1)) U U (Z2 ?_)))))
 have hS := St.dA hS
 exact ih0 _ _ ⟨(a3 + 1), c6, z8, d2, q5, Z4, hS, (by omega), i9, b3, b9, b6, p4, p5, p6, p7, U⟩
 refine Z6 (bF m6 U) (W2 U ?_)
 cases d6
 exact hx0 _ _ ⟨c0, q4, c2, U, Z4, hS, e8, b3, b9, b6, j0, j1⟩
 exact ⟨0, ([] : List (A8 × Int)), H, (vN), d6, Z4, hS, (by omega), q1, b3, b9, b6, U, U, U, U, U⟩
 rintro _ _ ⟨c9, _, c3, rfl, Z4, hS, f0, b3, b9, b6, k4, p9⟩
 dsimp only [Ex.elim] at q3
 refine Z1 (Z0 (X5 U7 (by exact p9) (hS.get mL) U U ?_))
 have hS := hS.perm R5
 refine W1 (v := vA [c3]) (vs := ([c3]).toArray) (cs := ([vN]).toArray) U7 (by exact k4) U U hS U (K9 f0.isOne) U ?_
 intro _ hS
 have hS := hS.perm R5.symm
 refine Z2 (Y9 (vs := [vA [c3]]) func119 ⟨⟨_, (by exact k4), T9 U7 (hS.get (mR mL)) U⟩, trivial⟩ ?_)
 cases q3
 exact ⟨_, _, U, Z4, (St.dA (St.dA (St.dA (St.dA hS)))), ⟨_, U, ⟨_, U, f0⟩⟩⟩
def U6 (K : Nat) (a2 : Int) : Nat → MpT → MpT → Option (Ex MpT MpT)
 | 0, _, _ => none
 | k + 1, [], a3 => some (.go a3)
 | k + 1, z7 :: b8, a3 => ((T7 K a3 z7.1 (((i64.wrap (z7.2 * a2))).tmod 10007)).bind fun b9 => U6 K a2 k b8 b9)
theorem Yj7 {a2 : Int} {a3 : MpT} {k : Nat} {zp zq : MpT} {o : Ex MpT (MpT)} (hp : zp.Perm zq) (q : U6 K a2 k zp a3 = some o) : U6 K a2 k zq a3 = some o := by
 exact (Yo8 (K := K) (fun k zs s => U6 K a2 k zs s) (by intros; rw [U6])
  (fun z => ⟨fun s => T7 K s z.1 (((i64.wrap (z.2 * a2))).tmod 10007), .add _ _, by intros; rw [U6]⟩) hp k a3).symm.trans q
def E5 (K : Nat) (a0 a1 : MpT) (a2 : Int) : Option MpT := ((U6 K a2 K a1 a0).bind (Ex.elim (fun r => some r) (fun s => (fun (a7 : MpT) => some a7) s)))
theorem Yu9 {a0 a1 : MpT} {a2 : Int} {r : MpT} (q0 : E5 K a0 a1 a2 = some r) {L C0 : OL} (c8 : Q8 .i64 s0 a0 C0) (c9 : N0 .i64 H s1 a1) (hS : St H w (C0 ++ L)) :
 Calls prog 129 #[s0, s1, vI a2] w (Wy8 .i64 s0 r H L) := by
 have Z4 := Sub.refl H
 refine X0 func129 U ntmps129 U ?_
 unfold E5 at q0
 refine Z1 (Z0 (Z3 s1 U U (Yk3 Zs5 U c9 hS U (fun c0 _ C3 d0 hS => Z2 (Y8 ?_)))))
 obtain ⟨c1, a4, c2⟩ := bSm q0
 refine W3 (id := 0) (fun k f w => ∃ a8 a3 H1 a5 a6, U6 K a2 k a8 a3 = some c1 ∧ Sub H H1 ∧ St H1 w (a5 ++ (a6 ++ L)) ∧ Zi2 .i64 H1 c0 a8 none a5 ∧ Q8 .i64 s0 a3 a6 ∧ tv f 0 = s0 ∧ tv f 2 = vI a2 ∧ tv f 9 = c0) (fun f w => ∃ a7 H1 a9 b0, c1 = .go a7 ∧ Sub H H1 ∧ St H1 w (a9 ++ (b0 ++ L)) ∧ Zi2 .i64 H1 c0 ([] : MpT) none a9 ∧ Q8 .i64 s0 a7 b0) U ?_ ?_ K ?_ ?_
 rintro f w ⟨a8, a3, H1, a5, a6, a4, _⟩
 rw [U6] at a4; cases a4
 rintro k _ _ d1 d2 ⟨a8, a3, c4, a5, a6, a4, Z4, hS, b2, b3, b4, b5, b1⟩
 refine Z1 (Z0 (Ys4 (by exact b1) b2 hS U ?_ ?_))
 intro d3; subst d3
 rw [U6] at a4
 refine V1 (vB false) U U U (Z2 (Z1 (Z6 U (W2 U ?_))))
 cases a4
 exact d2 _ _ ⟨a3, c4, a5, a6, U, Z4, hS, b2, b3⟩
 intro z7 b8 _ d4 c5 b6 hS
 replace a4 := Yj7 c5 a4
 rw [U6] at a4
 refine V1 (vB true) U U U (Z2 (Z1 (Z8 U (Y6 (Y8 (Z1 (Z0 (Yk7 (by exact b1) b6 hS U (V1 (vA (Z7 .i64 z7.1)) U U U (V1 (vI z7.2) U U U (U5 (z := vA (Z7 .i64 (fun _ => 0))) (Z7 .i64 (fun _ => 0)).toArray Zm8.zero U hS U (fun _ _ hS => W1 (v := vA (Z7 .i64 z7.1)) (vs := (Z7 .i64 z7.1).toArray) (cs := (Z7 .i64 (fun _ => 0)).toArray) P3 U U U hS U (R7 .i64 z7.1) U (fun _ hS => Z5 (vI z7.2) U U (Z2 (Z0 (Z3 s0 (by exact b4) U (X5 P3 U (hS.get mL) U U (Z3 (vI z7.2) U U (Z3 (vI a2) (by exact b5) U (Zi4 (i64.wrap (z7.2 * a2)) U U U U (Zd4 (((i64.wrap (z7.2 * a2))).tmod 10007) U U (by decide) U U ?_)))))))))))))))))))))
 obtain ⟨b9, c6, a4⟩ := bSm a4
 have hS := hS.perm Zc0
 refine U9 call217 (I3 U U U) U (Yb0 c6 b3 hS) ?_
 rintro _ _ ⟨d5, d6, rfl, c3, hS, c7⟩
 refine ⟨_, U, ?_⟩
 have Z4 := Z4.trans c3
 have b6 := b6.mono c3
 have hS := hS.perm Zc0.symm
 refine Z2 (X1 ?_)
 have hS := St.dA hS
 exact d1 _ _ ⟨b8, b9, d5, d4, d6, a4, Z4, hS, b6.drop, c7, b4, b5, b1⟩
 exact ⟨a1, a0, H, C3, C0, a4, Z4, hS, d0, c8, U, U, U⟩
 rintro _ _ ⟨a7, _, a9, b0, rfl, Z4, hS, _, b7⟩
 dsimp only [Ex.elim] at c2
 refine Ys7 (vs := []) func129 trivial ?_
 have hS := hS.perm R5
 have hS := St.dropMid hS
 cases c2
 exact ⟨_, _, U, Z4, hS, b7⟩
def E4 (K : Nat) (a0 : ((List Int) × (List MpT))) (a2 : Int) : Nat → Int → Option (Ex Bool Unit)
 | 0, _ => none
 | k + 1, a4 => (if a4 ≤ a2 then ((P4 K a0.1 a4).bind fun r5 => (if 120 < (r5.length : Int) then some (.ret false) else E4 K a0 a2 k (i64.wrap (a4 + 1)))) else some (.go ()))
def Ze4 (K : Nat) (a0 : ((List Int) × (List MpT))) (a1 a2 : Int) : Option Bool := ((E4 K a0 a2 K (if a1 < 0 then 0 else a1)).bind (Ex.elim (fun r => some r) (fun s => some true)))
theorem Yw8 {a0 : ((List Int) × (List MpT))} {a1 a2 : Int} {r : Bool} (q0 : Ze4 K a0 a1 a2 = some r) (a6 : Y3 (Y4 .i64) H s0 a0.1) (a7 : Y3 (X3 yT) H s1 a0.2) (hS : St H w L) :
 Calls prog 74 #[vA ([s0] ++ [s1]), vI a1, vI a2] w (T4 (fun v G => R.bool.p G v r) H L) := by
 have Z4 := Sub.refl H
 refine X0 func74 U ntmps74 U ?_
 unfold Ze4 at q0
 refine Z1 (Z0 (T8 (v := vA ([s0] ++ [s1])) ([s0] ++ [s1]).toArray U U hS U (fun b1 _ hS => Z5 (vB false) U U (Z2 (Z1 (Z1 (Z0 (Z3 (vI a1) U U (Vl7 U U U (Z5 (vI (if a1 < 0 then 0 else a1)) U U (Z2 (Y8 ?_))))))))))))
 obtain ⟨b2, a3, b0⟩ := bSm q0
 refine W3 (id := 0) (fun k f w => ∃ a4 H1, E4 K a0 a2 k a4 = some b2 ∧ Sub H H1 ∧ St H1 w ([(b1, cA ([s0] ++ [s1]) 31)] ++ L) ∧ Y3 (Y4 .i64) H1 s0 a0.1 ∧ Y3 (X3 yT) H1 s1 a0.2 ∧ tv f 2 = vI a2 ∧ tv f 3 = vP b1 ∧ tv f 7 = vI a4) (fun f w => ∃ H1, b2 = .go () ∧ Sub H H1 ∧ St H1 w ([(b1, cA ([s0] ++ [s1]) 31)] ++ L) ∧ Y3 (Y4 .i64) H1 s0 a0.1 ∧ Y3 (X3 yT) H1 s1 a0.2) U ?_ ?_ K ?_ ?_
 rintro f w ⟨a4, H1, a3, _⟩
 rw [E4] at a3; cases a3
 rintro k _ _ b8 b9 ⟨a4, b7, a3, Z4, hS, a6, a7, a8, a9, a5⟩
 rw [E4] at a3
 refine Z1 (Z1 (Z0 (Z3 (vI a4) (by exact a5) U (Z3 (vI a2) (by exact a8) U (Yj8 (k := .i64) (a := a4) (b := a2) U U U (Z2 ?_))))))
 obtain ⟨b3, a3⟩ | ⟨b3, a3⟩ := ic a3
 refine Z8 (bT b3 U) (Y6 (Z1 (Y8 (Z1 (Z0 (Y2 N8 (by exact a9) U (Y1 s0 Q9 U (hS.get mL) U U (Z3 (vI a4) (by exact a5) U ?_))))))))
 obtain ⟨r5, c0, a3⟩ := bSm a3
 refine X2 call99 (W8 U U) U (Za0 c0 a6 hS) ?_
 rintro _ H5 _ b4 hS b6
 have Z4 := Z4.trans b4
 have a6 := a6.mono b4
 have a7 := a7.mono b4
 have c1 := b6.bound
 refine X9 Zv3 U b6 U (A0 (k := .i64) (a := (r5.length : Int)) (b := 120) U U U (Z2 ?_))
 obtain ⟨b5, a3⟩ | ⟨b5, a3⟩ := ic a3
 refine Z8 (bT b5 U) (Z1 (Z0 (Z5 (vB false) U U (Z2 (Y9 (vs := [vB false]) func74 Ut ?_)))))
 cases a3
 dsimp only [Ex.elim] at b0
 cases b0
 exact ⟨_, _, U, Z4, (St.dA hS), U⟩
 refine Z6 (bF b5 U) (Y6 (X1 (Z0 (Z3 (vI a4) (by exact a5) U (W4 (i64.wrap (a4 + 1)) U U U U (Z5 (vI (i64.wrap (a4 + 1))) U U (Z2 (b8 _ _ ⟨(i64.wrap (a4 + 1)), H5, a3, Z4, hS, a6, a7, a8, a9, U⟩))))))))
 refine Z6 (bF b3 U) (W2 U ?_)
 cases a3
 exact b9 _ _ ⟨b7, U, Z4, hS, a6, a7⟩
 exact ⟨(if a1 < 0 then 0 else a1), H, a3, Z4, hS, a6, a7, U, U, U⟩
 rintro _ _ ⟨_, rfl, Z4, hS, a6, a7⟩
 dsimp only [Ex.elim] at b0
 refine Z1 (Z0 (Z5 (vB true) U U (Z2 (Y9 (vs := [vB true]) func74 Ut ?_))))
 cases b0
 exact ⟨_, _, U, Z4, (St.dA hS), U⟩
def Zo2 (K : Nat) (a0 : ((List Int) × (List MpT))) (a1 : Int) : Option Int := ((Zy0 K a0.1 a1).bind fun r4 => (if r4 < 0 then some (-1) else ((Ya8 K a0.2 r4).bind fun r7 => (if r7 < 0 then some (-1) else some r7))))
theorem Yx1 {a0 : ((List Int) × (List MpT))} {a1 r : Int} (q0 : Zo2 K a0 a1 = some r) (a7 : Y3 (Y4 .i64) H s0 a0.1) (a3 : Y3 (X3 yT) H s1 a0.2) (hS : St H w L) :
 Calls prog 15 #[vA ([s0] ++ [s1]), vI a1] w (T4 (fun v G => (R.int .i64).p G v r) H L) := by
 have Z4 := Sub.refl H
 refine X0 func15 U ntmps15 U ?_
 unfold Zo2 at q0
 refine Z1 (Z0 (T8 (v := vA ([s0] ++ [s1])) ([s0] ++ [s1]).toArray U U hS U (fun _ _ hS => Z5 (vI 0) U U (Z2 (Z1 (Z0 (Y2 Wh6 U U (Y1 s0 Q9 U (hS.get mL) U U (Z3 (vI a1) U U ?_)))))))))
 obtain ⟨r4, a8, q0⟩ := bSm q0
 refine X2 call71 (W8 U U) U (Yz2 a8 a7 hS) ?_
 rintro _ _ _ a6 hS rfl
 have Z4 := Z4.trans a6
 have a3 := a3.mono a6
 refine Z5 (vI r4) U U (Z2 (Z1 (Z1 (Z0 (Z3 (vI r4) U U (V4 (k := .i64) (a := r4) (b := 0) U U U (Z2 ?_)))))))
 obtain ⟨a4, q0⟩ | ⟨a4, q0⟩ := ic q0
 refine Z8 (bT a4 U) (Z1 (Z0 (Z5 (vI (-1)) U U (Z2 (Y9 (vs := [vI (-1)]) func15 Ut ?_)))))
 cases q0
 exact ⟨_, _, U, Z4, (St.dA hS), U⟩
 refine Z6 (bF a4 U) (Y6 (Z1 (Z0 (Y2 Wg9 U U (Y1 s1 Vi8 U (hS.get mL) U U (Z3 (vI r4) U U ?_))))))
 obtain ⟨r7, a9, q0⟩ := bSm q0
 refine X2 call67 (W8 U U) U (Xc2 a9 a3 hS) ?_
 rintro _ _ _ b0 hS rfl
 have Z4 := Z4.trans b0
 refine Z5 (vI r7) U U (Z2 (Z1 (Z1 (Z0 (Z3 (vI r7) U U (V4 (k := .i64) (a := r7) (b := 0) U U U (Z2 ?_)))))))
 obtain ⟨a5, q0⟩ | ⟨a5, q0⟩ := ic q0
 refine Z8 (bT a5 U) (Z1 (Z0 (Z5 (vI (-1)) U U (Z2 (Y9 (vs := [vI (-1)]) func15 Ut ?_)))))
 cases q0
 exact ⟨_, _, U, Z4, (St.dA hS), U⟩
 refine Z6 (bF a5 U) (Y6 (Z1 (Z0 (Z3 (vI r7) U U (Z5 (vI r7) U U (Z2 (Y9 (vs := [vI r7]) func15 Ut ?_)))))))
 cases q0
 exact ⟨_, _, U, Z4, (St.dA hS), U⟩
theorem Xp6 {K : Nat} {a0 r : List Int} (q0 : Zd1 K a0 = some r) {H : FH} {w : World} {L : OL} {s0 : Value} (hs0 : Y3 (Y4 .i64) H s0 a0) (hS : St H w L) :
 Calls prog 183 #[s0] w (Ye1 (Y4 .i64) 2 r H L) := by
 have Z4 := Sub.refl H
 refine X0 func183 U ntmps183 U ?_
 unfold Zd1 at q0
 refine Z1 (Z0 (Z5 (Value.slice none 0 0) U U (Z2 (Z1 (Z1 (Z0 (Z3 s0 U U ?_)))))))
 obtain ⟨ad, cu, ⟨hv0, hl0⟩, hx0⟩ := id hs0
 cases ad with
 | none =>
  have ha : a0 = [] := by
   rcases hx0 with h | ⟨b2, o2, cs2, E2, h, _⟩
   exact h
   cases h
  refine Xf2 T1 hv0 U U (Z2 (Z8 U (Z1 (Z0 (Z5 (Value.slice none 0 0) U U (Z2 (Y9 (vs := [Value.slice none 0 0]) func183 Ut ?_)))))))
  subst ha
  rw [if_pos (by decide)] at q0
  have hz := Option.some.inj q0
  subst hz
  exact ⟨_, _, [], U, Z4, hS, W0.nil _ _ _⟩
 | some p =>
 refine Xf2 T1 hv0 U U (Z2 (Z6 U (Y6 (Z1 (Z0 (Ye7 (τ := (Y4 .i64)) T1 ze2 U hS U ?_))))))
 intro u1 w2 C3 ho4 hS
 have hS : St H w2 (C3 ++ L) := hS
 refine Z3 s0 U U ?_
 by_cases hg6 : ([] : List Int).length + a0.length ≤ 1099511627776
 case neg => rw [if_neg hg6] at q0; cases q0
 rw [if_pos hg6] at q0
 refine N2 (τ := (Y4 .i64)) Zx1 U U U ho4 hS hs0 hg6 U ?_
 intro u7 w8 C9 ho10 hS
 have hS : St H w8 (C9 ++ L) := hS
 refine Z5 u7 U U (Z2 (Y9 (vs := [u7]) func183 Ut ?_))
 have hz := Option.some.inj q0
 subst hz
 exact ⟨_, _, _, U, Z4, hS, ho10⟩
def B7 (K : Nat) (a0 : MpT) : Option MpT := ((Zt9 K a0).bind fun a4 => some a4)
theorem Zp0 {a0 r : MpT} (q0 : B7 K a0 = some r) (a8 : Y3 yT H s0 a0) (hS : St H w L) :
 Calls prog 26 #[vA [s0]] w (T4 (fun v G => (R.agg (X3 yT)).p (G.new H) v r) H L) := by
 have Z4 := Sub.refl H
 refine X0 func26 U ntmps26 U ?_
 unfold B7 at q0
 refine Z1 (Z0 (T8 (v := vA [s0]) [s0].toArray U U hS U (fun _ _ hS => U5 (z := vA [vN]) [vN].toArray Zj8.zero U hS U (fun _ _ hS => Z2 (Z1 (Z0 (U5 (z := vA [vN]) [vN].toArray Zj8.zero U hS U (fun _ _ hS => Z2 (Z1 (Z0 (Y2 Wf3 U U (Y1 s0 Vi3 U (hS.get (mR (mR mL))) U U ?_))))))))))))
 obtain ⟨a4, a5, q0⟩ := bSm q0
 refine X2 call92 (S4 U) U (Xb9 a5 a8 hS) ?_
 rintro a3 a9 _ a6 hS a1
 have b0 := a1
 have a7 : RdF yT H a9 a3 a4 := Y3.mono (Yo2 Z4) a1
 have a1 := Y3.old a1
 have Z4 := Z4.trans a6
 refine Y2 U8 U U (Ze6 (v := a3) (cs := ([vN]).toArray) (cs' := ([a3]).toArray) P1 U U hS a1.isOne U (nl U) U (fun _ hS => Z2 (Z1 (Z0 (X5 U7 U (hS.get mL) U U ?_)))))
 have hS := hS.perm R5
 refine W1 (v := vA [a3]) (vs := ([a3]).toArray) (cs := ([vN]).toArray) U7 U U U hS U (K9 a1.isOne) U ?_
 intro _ hS
 have hS := hS.perm R5.symm
 refine Z2 (Y9 (vs := [vA [a3]]) func26 ⟨⟨_, U, T9 U7 (hS.get (mR mL)) U⟩, trivial⟩ ?_)
 cases q0
 exact ⟨_, _, U, Z4, (St.dA (St.dA (St.dA hS))), ⟨_, U, ⟨_, U, a7⟩⟩⟩
end Go.Proofs.YtabofnehiclkiaaGreat
