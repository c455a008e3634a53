/- Walk, rules and plain laws. -/
import Derived.Test.YtabofnehiclkiaaGreatRF4
import Derived.Test.YtabofnehiclkiaaGreatRF2
namespace Go.Proofs.YtabofnehiclkiaaGreat
open Go Go.Proofs.Tryz IntKind IntWalk List
set_option linter.all false
set_option maxRecDepth 100000
set_option maxHeartbeats 8000000
variable {K : Nat} {H : FH} {w : World} {L : OL} {s0 s1 s2 s3 s4 s5 s6 : Value}
def Zl8 (K : Nat) (e7 : Int → MpT → Int → Option (Ex MpT MpT)) (a3 a4 : Int) (c0 : MpT) : Option (Ex MpT MpT) := e7 (i64.wrap (a3 + 1)) c0 (i64.wrap (a4 + 1))
def Za4 (K : Nat) (e7 : Int → MpT → Int → Option (Ex MpT MpT)) (a0 a1 : MpT) (a2 a3 a4 : Int) (a6 : MpT) (d4 : Bool) : Option (Ex MpT MpT) := (if d4 = true then (if 0 ≤ a4 then (if a4 < (a1.length : Int) then ((E7 K (i64.wrap (a2 * (rd a1 a4).2))).bind fun c8 => (if c8 = 0 then e7 a3 a6 (i64.wrap (a4 + 1)) else (if a6.length + ([((rd a1 a4).1, c8)]).length ≤ 1099511627776 then e7 a3 (a6 ++ [((rd a1 a4).1, c8)]) (i64.wrap (a4 + 1)) else none))) else none) else none) else (if 0 ≤ a3 then (if a3 < (a0.length : Int) then (if 0 ≤ a4 then (if a4 < (a1.length : Int) then ((E7 K (i64.wrap (a2 * (rd a1 a4).2))).bind fun j3 => ((E7 K (i64.wrap ((rd a0 a3).2 + j3))).bind fun c3 => (if c3 = 0 then Zl8 K e7 a3 a4 a6 else (if a6.length + ([((rd a0 a3).1, c3)]).length ≤ 1099511627776 then Zl8 K e7 a3 a4 (a6 ++ [((rd a0 a3).1, c3)]) else none)))) else none) else none) else none) else none))
def E6 (K : Nat) (e7 : Int → MpT → Int → Option (Ex MpT MpT)) (a0 a1 : MpT) (a2 a3 a4 : Int) (a6 : MpT) (d9 : Bool) : Option (Ex MpT MpT) := (if d9 = true then (if 0 ≤ a3 then (if a3 < (a0.length : Int) then (if a6.length + ([((rd a0 a3).1, (rd a0 a3).2)]).length ≤ 1099511627776 then e7 (i64.wrap (a3 + 1)) (a6 ++ [((rd a0 a3).1, (rd a0 a3).2)]) a4 else none) else none) else none) else (if a3 = (a0.length : Int) then Za4 K e7 a0 a1 a2 a3 a4 a6 true else (if 0 ≤ a4 then (if a4 < (a1.length : Int) then (if 0 ≤ a3 then (if a3 < (a0.length : Int) then ((Ze5 K (rd a1 a4).1 (rd a0 a3).1).bind fun e8 => Za4 K e7 a0 a1 a2 a3 a4 a6 e8) else none) else none) else none) else none)))
def Zh8 (K : Nat) (e7 : Int → MpT → Int → Option (Ex MpT MpT)) (a0 a1 : MpT) (a2 a3 a4 : Int) (a6 : MpT) (e0 : Bool) : Option (Ex MpT MpT) := (if e0 = true then (if a4 = (a1.length : Int) then E6 K e7 a0 a1 a2 a3 a4 a6 true else (if a3 < (a0.length : Int) then (if 0 ≤ a3 then (if 0 ≤ a4 then (if a4 < (a1.length : Int) then ((Ze5 K (rd a0 a3).1 (rd a1 a4).1).bind fun d3 => E6 K e7 a0 a1 a2 a3 a4 a6 d3) else none) else none) else none) else E6 K e7 a0 a1 a2 a3 a4 a6 false)) else some (.go a6))
def Q1 (K : Nat) (a0 a1 : MpT) (a2 : Int) : Nat → Int → MpT → Int → Option (Ex MpT MpT)
 | 0, _, _, _ => none
 | k + 1, a3, a6, a4 => (if a3 < (a0.length : Int) then Zh8 K (Q1 K a0 a1 a2 k) a0 a1 a2 a3 a4 a6 true else Zh8 K (Q1 K a0 a1 a2 k) a0 a1 a2 a3 a4 a6 (decide (a4 < (a1.length : Int))))
def Zq0 (K : Nat) (a0 a1 : MpT) (a2 : Int) : Option MpT := ((Q1 K a0 a1 a2 K 0 ([] : List (A8 × Int)) 0).bind (Ex.elim (fun r => some r) (fun s => (fun (c5 : MpT) => some c5) s)))
theorem Yo0 {a0 a1 : MpT} {a2 : Int} {r : MpT} (q0 : Zq0 K a0 a1 a2 = some r) (b2 : Y3 yT H s0 a0) (b5 : Y3 yT H s1 a1) (hS : St H w L) :
 Calls prog 196 #[vA [s0], vA [s1], vI a2] w (T4 (fun v G => (R.agg (X3 yT)).p (G.new H) v r) H L) := by
 have Z4 := Sub.refl H
 refine X0 func196 U ntmps196 U ?_
 unfold Zq0 at q0
 refine Z1 (Z0 (T8 (v := vA [s0]) [s0].toArray U U hS U (fun b1 _ hS => T8 (v := vA [s1]) [s1].toArray U U hS U (fun b4 _ hS => U5 (z := vA [vN]) [vN].toArray Zj8.zero U hS U (fun b7 _ hS => Z2 (Z1 (Z0 (M4 (vA [vN]) Zz0 U (U5 (z := vA [vN]) [vN].toArray Zj8.zero U hS U (fun c4 _ hS => W1 (v := vA [vN]) (vs := ([vN]).toArray) (cs := ([vN]).toArray) U7 U U U hS U (K9 U) U (fun _ hS => Z2 (Z1 (Z0 (Z5 (vI 0) U U (Z5 (vI 0) U U (Z2 (Z1 (Y8 ?_))))))))))))))))))
 have r7 : W0 yT 78 H (.slice none 0 0) [] [] := W0.nil _ _ _
 obtain ⟨h7, e1, r8⟩ := bSm q0
 refine W3 (id := 0) (fun k f w => ∃ a3 a6 a4 H1 a9 a7, Q1 K a0 a1 a2 k a3 a6 a4 = some h7 ∧ Sub H H1 ∧ St H1 w (a9 ++ ([(c4, cA [a7] 45)] ++ ([(b7, cA [vN] 45)] ++ ([(b4, cA [s1] 45)] ++ ([(b1, cA [s0] 45)] ++ L))))) ∧ W0 yT 78 H1 a7 a6 a9 ∧ Y3 yT H1 s0 a0 ∧ Y3 yT H1 s1 a1 ∧ tv f 2 = vI a2 ∧ tv f 3 = vP b1 ∧ tv f 4 = vP b4 ∧ tv f 6 = vP b7 ∧ tv f 7 = vP c4 ∧ tv f 8 = vI a3 ∧ tv f 9 = vI a4) (fun f w => ∃ c5 H1 e9 c1, h7 = .go c5 ∧ Sub H H1 ∧ St H1 w (e9 ++ ([(c4, cA [c1] 45)] ++ ([(b7, cA [vN] 45)] ++ ([(b4, cA [s1] 45)] ++ ([(b1, cA [s0] 45)] ++ L))))) ∧ W0 yT 78 H1 c1 c5 e9 ∧ Y3 yT H1 s0 a0 ∧ Y3 yT H1 s1 a1 ∧ tv f 6 = vP b7 ∧ tv f 7 = vP c4) U ?_ ?_ K ?_ ?_
 rintro f w ⟨a3, a6, a4, H1, a9, a7, e1, _⟩
 rw [Q1] at e1; cases e1
 rintro k _ _ o7 hx0 ⟨a3, a6, a4, r9, a9, a7, e1, Z4, hS, a5, b2, b5, k7, h8, h9, k8, k9, i0, i1⟩
 rw [Q1] at e1
 refine Z1 (Z1 (N1 (fun f w => ∃ e0 H1, Zh8 K (Q1 K a0 a1 a2 k) a0 a1 a2 a3 a4 a6 e0 = some h7 ∧ Sub H H1 ∧ St H1 w (a9 ++ ([(c4, cA [a7] 45)] ++ ([(b7, cA [vN] 45)] ++ ([(b4, cA [s1] 45)] ++ ([(b1, cA [s0] 45)] ++ L))))) ∧ Y3 yT H1 s0 a0 ∧ Y3 yT H1 s1 a1 ∧ W0 yT 78 H1 a7 a6 a9 ∧ tv f 2 = vI a2 ∧ tv f 3 = vP b1 ∧ tv f 4 = vP b4 ∧ tv f 6 = vP b7 ∧ tv f 7 = vP c4 ∧ tv f 8 = vI a3 ∧ tv f 9 = vI a4 ∧ tv f 24 = vB e0) ?_ ?_))
 rintro _ _ ⟨e0, s2, b9, Z4, hS, b2, b5, a5, i2, d5, c9, g1, g2, d6, d0, j4⟩
 unfold Zh8 at b9
 obtain ⟨n8, b9⟩ | ⟨n8, b9⟩ := ic b9
 refine Z8 (Eq.trans (by exact j4) (congrArg vB n8)) (Y6 (Y8 (Y8 (Z1 (N1 (fun f w => ∃ d9 H1, E6 K (Q1 K a0 a1 a2 k) a0 a1 a2 a3 a4 a6 d9 = some h7 ∧ Sub H H1 ∧ St H1 w (a9 ++ ([(c4, cA [a7] 45)] ++ ([(b7, cA [vN] 45)] ++ ([(b4, cA [s1] 45)] ++ ([(b1, cA [s0] 45)] ++ L))))) ∧ Y3 yT H1 s0 a0 ∧ Y3 yT H1 s1 a1 ∧ W0 yT 78 H1 a7 a6 a9 ∧ tv f 2 = vI a2 ∧ tv f 3 = vP b1 ∧ tv f 4 = vP b4 ∧ tv f 6 = vP b7 ∧ tv f 7 = vP c4 ∧ tv f 8 = vI a3 ∧ tv f 9 = vI a4 ∧ tv f 61 = vB d9) ?_ ?_)))))
 rintro _ _ ⟨d9, _, b3, Z4, hS, b2, b5, a5, i3, d1, g3, i4, g4, d2, g5, j5⟩
 unfold E6 at b3
 obtain ⟨n9, b3⟩ | ⟨n9, b3⟩ := ic b3
 refine Z8 (Eq.trans (by exact j5) (congrArg vB n9)) (Z1 ?_)
 obtain ⟨_, b3⟩ := gd b3
 obtain ⟨_, b3⟩ := gd b3
 obtain ⟨b93, o93, _, _, _, a50, a51, ⟨_, _, rfl, rfl, rfl⟩, a52⟩ := b2.elem (i := a3) (by omega) (by omega)
 have J6 := Z4
 refine W6 8 (S8 [mE 89 (vP c4), mE 90 a7, mE 91 (vP b1), mE 92 s0, mE 93 (vI a3), mE 94 (vQ b93 o93), mE 95 (vA (Z7 .u8 (rd a0 a3).1 ++ [vI (rd a0 a3).2])), (96, MP.sl yT [((rd a0 a3).1, (rd a0 a3).2)])]) [] mixed U U U hS (U1 (X4 fun S B => Y2 U8 (evT (B 7 U) g4) U (qz S)) (Y7 fun S V => Y1 a7 P1 (eM (V 0 89 U U)) (S.get (mR (mR mL))) U U (qz S)) (X4 fun S B => Y2 U8 (evT (B 3 U) d1) U (qz S)) (Y7 fun S V => Y1 s0 P1 (eM (V 2 91 U U)) (S.get (mR (mR (mR (mR (mR mL)))))) U U (qz S)) (X4 fun S B => Z3 (vI a3) (evT (B 8 U) d2) U (qz S)) (Y7 fun S V => X6 Q0 U (eM (V 3 92 U U)) a50 (eM (V 4 93 U U)) (by omega) (by omega) U (qz S)) (P0 fun s S V => U0 (Z7 .u8 (rd a0 a3).1 ++ [vI (rd a0 a3).2]) Yb3 (eM (V 5 94 U U)) (S.froz _ _ (s.1 _ _ a51)) U a52 U (qz S)) ?_ W9) ?_
 intro _ _ a53 _ x8 hS _ x9 hcq
 have Z4 := Sub.refl a53
 have Zc6 := J6.trans x8
 refine Zc4 (τ := yT) Q0 Yg3 U [vA (Z7 .u8 (rd a0 a3).1 ++ [vI (rd a0 a3).2])] [((rd a0 a3).1, (rd a0 a3).2)] U U (D3 (eM (x9 6 95 U U))) (Zl6 ⟨_, _, U, U, U⟩) (by decide) (by decide) hS U ?_
 intro _ _ _ y0 hS y1
 have Z4 := Z4.trans y0
 exact Z2 ⟨96, _, _, U, U, Z4, hS, y1⟩
 intro _ a54 s3 i7 hS f1 o8 hcq
 have hS : St s3 a54 (a9 ++ _) := hS
 have Z4 := Z4.trans i7
 have b5 := b5.mono i7
 have b2 := b2.mono i7
 have a5 := a5.mono i7
 have s4 := evT (f1 7 U) g4
 obtain ⟨_, a55, y2⟩ := gvS (o8 7 96 (by decide) U)
 obtain ⟨y3, b3⟩ := gd b3
 refine N2 (τ := yT) Xd5 U (by exact (eM (o8 1 90 (by decide) U))) (by exact a55) a5 hS y2 y3 U fun o0 _ a56 o9 hS => Y2 U8 (by exact s4) U ?_
 have hS := hS.perm R5
 refine Ze6 (v := o0) (cs := ([a7]).toArray) (cs' := ([o0]).toArray) P1 U U hS o9.isOne U (nl U) U ?_
 intro _ hS
 have hS := hS.perm R5.symm
 refine Z2 (Z0 (Z3 (vI a3) (by exact (evT (f1 8 U) d2)) U (W4 (i64.wrap (a3 + 1)) U U U U (Z5 (vI (i64.wrap (a3 + 1))) U U (Z2 (X1 (X1 (o7 _ _ ⟨(i64.wrap (a3 + 1)), (a6 ++ [((rd a0 a3).1, (rd a0 a3).2)]), a4, s3, a56, o0, b3, Z4, hS, o9, b2, b5, (evT (f1 2 U) i3), (evT (f1 3 U) d1), (evT (f1 4 U) g3), (evT (f1 6 U) i4), s4, U, (evT (f1 9 U) g5)⟩))))))))
 refine Z6 (Eq.trans (by exact j5) (congrArg vB (X8 n9))) (Z1 (N1 (fun f w => ∃ d4 H1, Za4 K (Q1 K a0 a1 a2 k) a0 a1 a2 a3 a4 a6 d4 = some h7 ∧ Sub H H1 ∧ St H1 w (a9 ++ ([(c4, cA [a7] 45)] ++ ([(b7, cA [vN] 45)] ++ ([(b4, cA [s1] 45)] ++ ([(b1, cA [s0] 45)] ++ L))))) ∧ Y3 yT H1 s0 a0 ∧ Y3 yT H1 s1 a1 ∧ W0 yT 78 H1 a7 a6 a9 ∧ tv f 2 = vI a2 ∧ tv f 3 = vP b1 ∧ tv f 4 = vP b4 ∧ tv f 6 = vP b7 ∧ tv f 7 = vP c4 ∧ tv f 8 = vI a3 ∧ tv f 9 = vI a4 ∧ tv f 101 = vB d4) ?_ ?_))
 rintro _ _ ⟨d4, _, a8, Z4, hS, b2, b5, a5, f0, g6, d7, i5, g7, g8, d8, i6⟩
 unfold Za4 at a8
 obtain ⟨l1, a8⟩ | ⟨l1, a8⟩ := ic a8
 refine Z8 (Eq.trans (by exact i6) (congrArg vB l1)) (Z1 (Z1 (Z0 (Z3 (vI a2) (by exact f0) U (Y2 U8 (by exact d7) U (Y1 s1 P1 U (hS.get (mR (mR (mR mL)))) U U (Z3 (vI a4) (by exact d8) U ?_)))))))
 obtain ⟨_, a8⟩ := gd a8
 obtain ⟨_, a8⟩ := gd a8
 obtain ⟨_, _, _, _, _, y4, y5, ⟨_, _, rfl, rfl, rfl⟩, y6⟩ := b5.elem (i := a4) (by omega) (by omega)
 refine X6 Q0 U U y4 U (by omega) (by omega) U (Y2 Zf7 U U (Y1 (vI (rd a1 a4).2) ty2 U (hS.froz _ _ y5) (y6 8 (show 8 < 9 by decide)) U (Zi4 (i64.wrap (a2 * (rd a1 a4).2)) U U U U ?_)))
 obtain ⟨c8, y7, a8⟩ := bSm a8
 refine X2 call209 (S4 U) U (B3 y7  hS) ?_
 rintro _ a57 _ i8 hS rfl
 have Z4 := Z4.trans i8
 have b5 := b5.mono i8
 have b2 := b2.mono i8
 have a5 := a5.mono i8
 refine Z5 (vI c8) U U (Z2 (Z1 (Z0 (Z3 (vI c8) U U (L1 (k := .i64) (a := c8) (b := 0) U U U (Z2 ?_))))))
 obtain ⟨l2, a8⟩ | ⟨l2, a8⟩ := ic a8
 refine Z6 (bN l2 U) (Y6 (Z0 (Z3 (vI a4) (by exact d8) U (W4 (i64.wrap (a4 + 1)) U U U U (Z5 (vI (i64.wrap (a4 + 1))) U U (Z2 (X1 (X1 (o7 _ _ ⟨a3, a6, (i64.wrap (a4 + 1)), a57, a9, a7, a8, Z4, hS, a5, b2, b5, f0, g6, d7, i5, g7, g8, U⟩)))))))))
 refine Z8 (bO l2 U) ?_
 obtain ⟨s5, s6, _, _, _, y8, y9, ⟨_, _, rfl, rfl, rfl⟩, z0⟩ := b5.elem (i := a4) (by omega) (by omega)
 have J6 := Z4
 refine W6 11 (S8 [mE 133 (vP c4), mE 134 a7, mE 135 (vP b4), mE 136 s1, mE 137 (vI a4), mE 138 (vQ s5 s6), mE 139 (vQ s5 (s6 + 0)), mE 140 (vA (Z7 .u8 (rd a1 a4).1)), mE 141 (vI c8), mE 142 (vA (Z7 .u8 (rd a1 a4).1 ++ [vI c8])), (143, MP.sl yT [((rd a1 a4).1, c8)])]) [] mixed U U U hS (U1 (X4 fun S B => Y2 U8 (evT (B 7 U) g7) U (qz S)) (Y7 fun S V => Y1 a7 P1 (eM (V 0 133 U U)) (S.get (mR (mR mL))) U U (qz S)) (X4 fun S B => Y2 U8 (evT (B 4 U) d7) U (qz S)) (Y7 fun S V => Y1 s1 P1 (eM (V 2 135 U U)) (S.get (mR (mR (mR (mR mL))))) U U (qz S)) (X4 fun S B => Z3 (vI a4) (evT (B 9 U) d8) U (qz S)) (Y7 fun S V => X6 Q0 U (eM (V 3 136 U U)) y8 (eM (V 4 137 U U)) (by omega) (by omega) U (qz S)) (Y7 fun S V => Y2 L6 (eM (V 5 138 U U)) U (qz S)) (P0 fun s S V => U0 (Z7 .u8 (rd a1 a4).1) P7 (eM (V 6 139 U U)) (S.froz _ _ (s.1 _ _ y9)) U (Zf9 [] (Z7 .u8 (rd a1 a4).1) ([vI (rd a1 a4).2]) z0 (nl U)) U (qz S)) (L7 (X4 fun S B => Z3 (vI c8) (evT (B 10 U) U) U (qz S)) (Y7 fun S V => Zw5 (Z7 .u8 (rd a1 a4).1 ++ [vI c8]) Xn9 (Yc0 (eM (V 7 140 U U)) (eM (V 8 141 U U))) (E1 U U U (nl U) (E1 U U U (nl U) (Zr9 U))) U (qz S)) (I2 ?_ W9))) ?_
 intro _ _ a58 _ z1 hS _ z2 hcq
 have Z4 := Sub.refl a58
 have Zc6 := J6.trans z1
 refine Zc4 (τ := yT) Q0 Yg3 U [vA (Z7 .u8 (rd a1 a4).1 ++ [vI c8])] [((rd a1 a4).1, c8)] U U (D3 (eM (z2 9 142 U U))) (Zl6 ⟨_, _, U, U, U⟩) (by decide) (by decide) hS U ?_
 intro _ _ _ z3 hS z4
 have Z4 := Z4.trans z3
 exact Z2 ⟨143, _, _, U, U, Z4, hS, z4⟩
 intro _ a59 s7 i9 hS f2 p0 hcq
 have hS : St s7 a59 (a9 ++ _) := hS
 have Z4 := Z4.trans i9
 have b5 := b5.mono i9
 have b2 := b2.mono i9
 have a5 := a5.mono i9
 have s8 := evT (f2 7 U) g7
 obtain ⟨_, a60, z5⟩ := gvS (p0 10 143 (by decide) U)
 obtain ⟨z6, a8⟩ := gd a8
 refine N2 (τ := yT) Xd5 U (by exact (eM (p0 1 134 (by decide) U))) (by exact a60) a5 hS z5 z6 U fun o1 _ a61 p1 hS => Y2 U8 (by exact s8) U ?_
 have hS := hS.perm R5
 refine Ze6 (v := o1) (cs := ([a7]).toArray) (cs' := ([o1]).toArray) P1 U U hS p1.isOne U (nl U) U ?_
 intro _ hS
 have hS := hS.perm R5.symm
 refine Z2 (Z0 (Z3 (vI a4) (by exact (evT (f2 9 U) d8)) U (W4 (i64.wrap (a4 + 1)) U U U U (Z5 (vI (i64.wrap (a4 + 1))) U U (Z2 (X1 (X1 (o7 _ _ ⟨a3, (a6 ++ [((rd a1 a4).1, c8)]), (i64.wrap (a4 + 1)), s7, a61, o1, a8, Z4, hS, p1, b2, b5, (evT (f2 2 U) f0), (evT (f2 3 U) g6), (evT (f2 4 U) d7), (evT (f2 6 U) i5), s8, (evT (f2 8 U) g8), U⟩))))))))
 refine Z6 (Eq.trans (by exact i6) (congrArg vB (X8 l1))) (Z1 (Z1 ?_))
 obtain ⟨_, a8⟩ := gd a8
 obtain ⟨_, a8⟩ := gd a8
 obtain ⟨s9, t0, _, _, _, z7, z8, ⟨_, _, rfl, rfl, rfl⟩, z9⟩ := b2.elem (i := a3) (by omega) (by omega)
 obtain ⟨_, a8⟩ := gd a8
 obtain ⟨_, a8⟩ := gd a8
 obtain ⟨t1, t4, _, _, _, a00, a01, ⟨_, _, rfl, rfl, rfl⟩, a02⟩ := b5.elem (i := a4) (by omega) (by omega)
 obtain ⟨j3, a03, a8⟩ := bSm a8
 obtain ⟨c3, a04, a8⟩ := bSm a8
 have J6 := Z4
 refine W6 18 (S8 [mE 25 (vP b1), mE 26 s0, mE 27 (vI a3), mE 28 (vQ s9 t0), mE 29 (vQ s9 (t0 + 8)), mE 30 (vI (rd a0 a3).2), mE 31 (vI a2), mE 32 (vP b4), mE 33 s1, mE 34 (vI a4), mE 35 (vQ t1 t4), mE 36 (vQ t1 (t4 + 8)), mE 37 (vI (rd a1 a4).2), mE 38 (vI (i64.wrap (a2 * (rd a1 a4).2))), mE 39 (vI j3), mE 40 (vI (i64.wrap ((rd a0 a3).2 + j3))), mE 41 (vI c3), mE 11 (vI c3)]) [] mixed U U U hS (U1 (X4 fun S B => Y2 U8 (evT (B 3 U) g6) U (qz S)) (Y7 fun S V => Y1 s0 P1 (eM (V 0 25 U U)) (S.get (mR (mR (mR (mR (mR mL)))))) U U (qz S)) (X4 fun S B => Z3 (vI a3) (evT (B 8 U) g8) U (qz S)) (Y7 fun S V => X6 Q0 U (eM (V 1 26 U U)) z7 (eM (V 2 27 U U)) (by omega) (by omega) U (qz S)) (Y7 fun S V => Y2 Zf7 (eM (V 3 28 U U)) U (qz S)) (P0 fun s S V => Y1 (vI (rd a0 a3).2) ty2 (eM (V 4 29 U U)) (S.froz _ _ (s.1 _ _ z8)) (z9 8 (show 8 < 9 by decide)) U (qz S)) (X4 fun S B => Z3 (vI a2) (evT (B 2 U) f0) U (qz S)) (X4 fun S B => Y2 U8 (evT (B 4 U) d7) U (qz S)) (U1 (Y7 fun S V => Y1 s1 P1 (eM (V 7 32 U U)) (S.get (mR (mR (mR (mR mL))))) U U (qz S)) (X4 fun S B => Z3 (vI a4) (evT (B 9 U) d8) U (qz S)) (Y7 fun S V => X6 Q0 U (eM (V 8 33 U U)) a00 (eM (V 9 34 U U)) (by omega) (by omega) U (qz S)) (Y7 fun S V => Y2 Zf7 (eM (V 10 35 U U)) U (qz S)) (P0 fun s S V => Y1 (vI (rd a1 a4).2) ty2 (eM (V 11 36 U U)) (S.froz _ _ (s.1 _ _ a01)) (a02 8 (show 8 < 9 by decide)) U (qz S)) (Y7 fun S V => Zi4 (i64.wrap (a2 * (rd a1 a4).2)) (eM (V 6 31 U U)) (eM (V 12 37 U U)) U U (qz S)) ?_ ?_ (L7 ?_ ?_ W9))) ?_
 intro _ _ a62 _ a05 hS _ a06 hcq
 have Z4 := Sub.refl a62
 have Zc6 := J6.trans a05
 refine X2 call209 (S4 (eM (a06 13 38 U U))) U (B3 a03  hS) ?_
 rintro _ _ _ a07 hS rfl
 have Z4 := Z4.trans a07
 exact Z2 ⟨39, _, _, U, U, Z4, hS, U⟩
 exact Y7 fun S V => W4 (i64.wrap ((rd a0 a3).2 + j3)) (eM (V 5 30 U U)) (eM (V 14 39 U U)) U U (qz S)
 intro _ _ a63 _ a08 hS _ a09 hcq
 have Z4 := Sub.refl a63
 have Zc6 := J6.trans a08
 refine X2 call209 (S4 (eM (a09 15 40 U U))) U (B3 a04  hS) ?_
 rintro _ _ _ a10 hS rfl
 have Z4 := Z4.trans a10
 exact Z2 ⟨41, _, _, U, U, Z4, hS, U⟩
 exact Y7 fun S V => Z5 (vI c3) (eM (V 16 41 U U)) U (qz S)
 intro a64 a65 t5 j0 hS f3 a11 hcq
 have hS : St t5 a65 (a9 ++ _) := hS
 have Z4 := Z4.trans j0
 have b5 := b5.mono j0
 have b2 := b2.mono j0
 have a5 := a5.mono j0
 have t6 := evT (f3 2 U) f0
 have o2 := evT (f3 3 U) g6
 have t7 := evT (f3 4 U) d7
 have t8 := evT (f3 6 U) i5
 have o3 := evT (f3 7 U) g7
 have o4 := evT (f3 8 U) g8
 have t9 := evT (f3 9 U) d8
 have u0 : tv a64 11 = vI c3 := a11 17 11 (by decide) U
 refine Z2 (Z1 (Z0 (Z3 (vI c3) (by exact u0) U (L1 (k := .i64) (a := c3) (b := 0) U U U (Z2 (N1 (fun f w => ∃ c0 H1 c6 c7, Zl8 K (Q1 K a0 a1 a2 k) a3 a4 c0 = some h7 ∧ Sub H H1 ∧ St H1 w (c6 ++ ([(c4, cA [c7] 45)] ++ ([(b7, cA [vN] 45)] ++ ([(b4, cA [s1] 45)] ++ ([(b1, cA [s0] 45)] ++ L))))) ∧ W0 yT 78 H1 c7 c0 c6 ∧ Y3 yT H1 s0 a0 ∧ Y3 yT H1 s1 a1 ∧ tv f 2 = vI a2 ∧ tv f 3 = vP b1 ∧ tv f 4 = vP b4 ∧ tv f 6 = vP b7 ∧ tv f 7 = vP c4 ∧ tv f 8 = vI a3 ∧ tv f 9 = vI a4) ?_ ?_))))))
 rintro _ _ ⟨c0, u1, c6, c7, j6, Z4, hS, g9, b2, b5, q9, r0, r1, r2, r3, r4, r5⟩
 unfold Zl8 at j6
 refine Z1 (Z0 (Z3 (vI a3) (by exact r4) U (W4 (i64.wrap (a3 + 1)) U U U U (Z5 (vI (i64.wrap (a3 + 1))) U U (Z2 (Z0 (Z3 (vI a4) (by exact r5) U (W4 (i64.wrap (a4 + 1)) U U U U (Z5 (vI (i64.wrap (a4 + 1))) U U (Z2 (X1 (X1 (o7 _ _ ⟨(i64.wrap (a3 + 1)), c0, (i64.wrap (a4 + 1)), u1, c6, c7, j6, Z4, hS, g9, b2, b5, q9, r0, r1, r2, r3, U, U⟩)))))))))))))
 intro u2
 obtain ⟨l3, a8⟩ | ⟨l3, a8⟩ := ic a8
 refine Z6 (bN l3 U) (Y6 (u2 _ _ ⟨a6, t5, a9, a7, a8, Z4, hS, a5, b2, b5, t6, o2, t7, t8, o3, o4, t9⟩))
 refine Z8 (bO l3 U) ?_
 obtain ⟨u3, u4, _, _, _, a12, a13, ⟨_, _, rfl, rfl, rfl⟩, a14⟩ := b2.elem (i := a3) (by omega) (by omega)
 have J6 := Z4
 refine W6 11 (S8 [mE 44 (vP c4), mE 45 a7, mE 46 (vP b1), mE 47 s0, mE 48 (vI a3), mE 49 (vQ u3 u4), mE 50 (vQ u3 (u4 + 0)), mE 51 (vA (Z7 .u8 (rd a0 a3).1)), mE 52 (vI c3), mE 53 (vA (Z7 .u8 (rd a0 a3).1 ++ [vI c3])), (54, MP.sl yT [((rd a0 a3).1, c3)])]) [] mixed U U U hS (U1 (X4 fun S B => Y2 U8 (evT (B 7 U) o3) U (qz S)) (Y7 fun S V => Y1 a7 P1 (eM (V 0 44 U U)) (S.get (mR (mR mL))) U U (qz S)) (X4 fun S B => Y2 U8 (evT (B 3 U) o2) U (qz S)) (Y7 fun S V => Y1 s0 P1 (eM (V 2 46 U U)) (S.get (mR (mR (mR (mR (mR mL)))))) U U (qz S)) (X4 fun S B => Z3 (vI a3) (evT (B 8 U) o4) U (qz S)) (Y7 fun S V => X6 Q0 U (eM (V 3 47 U U)) a12 (eM (V 4 48 U U)) (by omega) (by omega) U (qz S)) (Y7 fun S V => Y2 L6 (eM (V 5 49 U U)) U (qz S)) (P0 fun s S V => U0 (Z7 .u8 (rd a0 a3).1) P7 (eM (V 6 50 U U)) (S.froz _ _ (s.1 _ _ a13)) U (Zf9 [] (Z7 .u8 (rd a0 a3).1) ([vI (rd a0 a3).2]) a14 (nl U)) U (qz S)) (L7 (X4 fun S B => Z3 (vI c3) (evT (B 11 U) u0) U (qz S)) (Y7 fun S V => Zw5 (Z7 .u8 (rd a0 a3).1 ++ [vI c3]) Xn9 (Yc0 (eM (V 7 51 U U)) (eM (V 8 52 U U))) (E1 U U U (nl U) (E1 U U U (nl U) (Zr9 U))) U (qz S)) (I2 ?_ W9))) ?_
 intro _ _ a66 _ a15 hS _ a16 hcq
 have Z4 := Sub.refl a66
 have Zc6 := J6.trans a15
 refine Zc4 (τ := yT) Q0 Yg3 U [vA (Z7 .u8 (rd a0 a3).1 ++ [vI c3])] [((rd a0 a3).1, c3)] U U (D3 (eM (a16 9 53 U U))) (Zl6 ⟨_, _, U, U, U⟩) (by decide) (by decide) hS U ?_
 intro _ _ _ a17 hS a18
 have Z4 := Z4.trans a17
 exact Z2 ⟨54, _, _, U, U, Z4, hS, a18⟩
 intro _ a67 u5 j1 hS f4 p2 hcq
 have hS : St u5 a67 (a9 ++ _) := hS
 have Z4 := Z4.trans j1
 have b5 := b5.mono j1
 have b2 := b2.mono j1
 have a5 := a5.mono j1
 have u6 := evT (f4 7 U) o3
 obtain ⟨_, a68, a19⟩ := gvS (p2 10 54 (by decide) U)
 obtain ⟨a20, a8⟩ := gd a8
 refine N2 (τ := yT) Xd5 U (by exact (eM (p2 1 45 (by decide) U))) (by exact a68) a5 hS a19 a20 U fun o5 _ a69 p3 hS => Y2 U8 (by exact u6) U ?_
 have hS := hS.perm R5
 refine Ze6 (v := o5) (cs := ([a7]).toArray) (cs' := ([o5]).toArray) P1 U U hS p3.isOne U (nl U) U ?_
 intro _ hS
 have hS := hS.perm R5.symm
 refine Z2 (u2 _ _ ⟨(a6 ++ [((rd a0 a3).1, c3)]), u5, a69, o5, a8, Z4, hS, p3, b2, b5, (evT (f4 2 U) t6), (evT (f4 3 U) o2), (evT (f4 4 U) t7), (evT (f4 6 U) t8), u6, (evT (f4 8 U) o4), (evT (f4 9 U) t9)⟩)
 intro u7
 have a84 := b2.bound
 obtain ⟨b8, b3⟩ | ⟨b8, b3⟩ := ic b3
 have J6 := Z4
 refine W6 21 (S8 [mE 102 (vI a3), mE 103 (vP b1), mE 104 s0, mE 105 (vI (a0.length : Int)), mE 106 (vB (decide (a3 = (a0.length : Int)))), mE 107 (vB (decide (a3 = (a0.length : Int)))), mE 108 undef, mE 109 undef, mE 110 undef, mE 111 undef, mE 112 undef, mE 113 undef, mE 114 undef, mE 115 undef, mE 116 undef, mE 117 undef, mE 118 undef, mE 119 undef, mE 120 undef, mE 121 (vB true), mE 101 (vB true)]) [] mixed U U U hS (U1 (X4 fun S B => Z3 (vI a3) (evT (B 8 U) d2) U (qz S)) (X4 fun S B => Y2 U8 (evT (B 3 U) d1) U (qz S)) (Y7 fun S V => Y1 s0 P1 (eM (V 1 103 U U)) (S.get (mR (mR (mR (mR (mR mL)))))) U U (qz S)) (P0 fun s S V => X9 Q0 (eM (V 2 104 U U)) (b2.mono s) U (qz S)) (Y7 fun S V => Zb2 (k := .i64) (a := a3) (b := (a0.length : Int)) (eM (V 0 102 U U)) (eM (V 3 105 U U)) U (qz S)) (Y7 fun S V => Z3 (vB (decide (a3 = (a0.length : Int)))) (eM (V 4 106 U U)) U (qz S)) (Y7 fun S V => Z9 U U (bT b8 (eM (V 5 107 U U))) U U U (qz S)) (Y7 fun S V => Z9 U U (bT b8 (eM (V 5 107 U U))) U U U (qz S)) (U1 (Y7 fun S V => Z9 U U (bT b8 (eM (V 5 107 U U))) U U U (qz S)) (Y7 fun S V => Z9 U U (bT b8 (eM (V 5 107 U U))) U U U (qz S)) (Y7 fun S V => Z9 U U (bT b8 (eM (V 5 107 U U))) U U U (qz S)) (Y7 fun S V => Z9 U U (bT b8 (eM (V 5 107 U U))) U U U (qz S)) (Y7 fun S V => Z9 U U (bT b8 (eM (V 5 107 U U))) U U U (qz S)) (Y7 fun S V => Z9 U U (bT b8 (eM (V 5 107 U U))) U U U (qz S)) (Y7 fun S V => Z9 U U (bT b8 (eM (V 5 107 U U))) U U U (qz S)) (Y7 fun S V => Z9 U U (bT b8 (eM (V 5 107 U U))) U U U (qz S)) (K3 (Y7 fun S V => Z9 U U (bT b8 (eM (V 5 107 U U))) U U U (qz S)) (Y7 fun S V => Z9 U U (bT b8 (eM (V 5 107 U U))) U U U (qz S)) (Y7 fun S V => Z9 U U (bT b8 (eM (V 5 107 U U))) U U U (qz S)) (Y7 fun S V => W5 (t := true) (vB true) (bT b8 (eM (V 5 107 U U))) ((if_pos U).trans U) U (qz S)) (I2 (Y7 fun S V => Z5 (vB true) (eM (V 19 121 U U)) U (qz S)) W9)))) ?_
 intro _ a70 u8 j2 hS f5 a21 hcq
 have hS : St u8 a70 (a9 ++ _) := hS
 have Z4 := Z4.trans j2
 have b5 := b5.mono j2
 have b2 := b2.mono j2
 have a5 := a5.mono j2
 refine Z2 (u7 _ _ ⟨true, u8, b3, Z4, hS, b2, b5, a5, (evT (f5 2 U) i3), (evT (f5 3 U) d1), (evT (f5 4 U) g3), (evT (f5 6 U) i4), (evT (f5 7 U) g4), (evT (f5 8 U) d2), (evT (f5 9 U) g5), (eM (a21 20 101 (by decide) U))⟩)
 obtain ⟨_, b3⟩ := gd b3
 obtain ⟨_, b3⟩ := gd b3
 obtain ⟨u9, v0, _, _, _, a22, l4, ⟨_, _, rfl, rfl, rfl⟩, a23⟩ := b5.elem (i := a4) (by omega) (by omega)
 obtain ⟨_, b3⟩ := gd b3
 obtain ⟨_, b3⟩ := gd b3
 obtain ⟨p4, p5, _, _, _, v1, j7, ⟨_, _, rfl, rfl, rfl⟩, v2⟩ := b2.elem (i := a3) (by omega) (by omega)
 obtain ⟨e8, v3, b3⟩ := bSm b3
 have J6 := Z4
 refine W6 21 (S8 [mE 102 (vI a3), mE 103 (vP b1), mE 104 s0, mE 105 (vI (a0.length : Int)), mE 106 (vB (decide (a3 = (a0.length : Int)))), mE 107 (vB (decide (a3 = (a0.length : Int)))), mE 108 (vP b4), mE 109 s1, mE 110 (vI a4), mE 111 (vQ u9 v0), mE 112 (vQ u9 (v0 + 0)), mE 113 (vA (Z7 .u8 (rd a1 a4).1)), mE 114 (vP b1), mE 115 s0, mE 116 (vI a3), mE 117 (vQ p4 p5), mE 118 (vQ p4 (p5 + 0)), mE 119 (vA (Z7 .u8 (rd a0 a3).1)), mE 120 (vB e8), mE 121 (vB e8), mE 101 (vB e8)]) [] mixed U U U hS (U1 (X4 fun S B => Z3 (vI a3) (evT (B 8 U) d2) U (qz S)) (X4 fun S B => Y2 U8 (evT (B 3 U) d1) U (qz S)) (Y7 fun S V => Y1 s0 P1 (eM (V 1 103 U U)) (S.get (mR (mR (mR (mR (mR mL)))))) U U (qz S)) (P0 fun s S V => X9 Q0 (eM (V 2 104 U U)) (b2.mono s) U (qz S)) (Y7 fun S V => Zb2 (k := .i64) (a := a3) (b := (a0.length : Int)) (eM (V 0 102 U U)) (eM (V 3 105 U U)) U (qz S)) (Y7 fun S V => Z3 (vB (decide (a3 = (a0.length : Int)))) (eM (V 4 106 U U)) U (qz S)) (K6 fun S B V => Y0 U U (bF b8 (eM (V 5 107 U U))) (Y2 U8 (evT (B 4 U) g3) U (qz S))) ?_ (U1 ?_ ?_ ?_ ?_ ?_ ?_ ?_ ?_ (K3 ?_ ?_ ?_ ?_ (I2 ?_ W9)))) ?_
 intro _ _ a71 _ a24 hS _ p6 hcq
 have Z4 := Sub.refl a71
 have Zc6 := J6.trans a24
 refine Y0 U U (bF b8 (eM (p6 5 107 U U))) (Y1 s1 P1 (eM (p6 6 108 U U)) (hS.get (mR (mR (mR (mR mL))))) U U (Z2 ⟨109, _, _, U, U, Z4, hS, U⟩))
 exact K6 fun S B V => Y0 U U (bF b8 (eM (V 5 107 U U))) (Z3 (vI a4) (evT (B 9 U) g5) U (qz S))
 intro _ _ a72 _ a25 hS _ l5 hcq
 have Z4 := Sub.refl a72
 have Zc6 := J6.trans a25
 refine Y0 U U (bF b8 (eM (l5 5 107 U U))) (X6 Q0 U (eM (l5 7 109 U U)) a22 (eM (l5 8 110 U U)) (by omega) (by omega) U (Z2 ⟨111, _, _, U, U, Z4, hS, U⟩))
 exact Y7 fun S V => Y0 U U (bF b8 (eM (V 5 107 U U))) (Y2 L6 (eM (V 9 111 U U)) U (qz S))
 intro _ _ a73 _ p7 hS _ p8 hcq
 have Z4 := Sub.refl a73
 have Zc6 := J6.trans p7
 have l4 := p7.1 _ _ l4
 refine Y0 U U (bF b8 (eM (p8 5 107 U U))) (U0 (Z7 .u8 (rd a1 a4).1) P7 (eM (p8 10 112 U U)) (hS.froz _ _ l4) U (Zf9 [] (Z7 .u8 (rd a1 a4).1) ([vI (rd a1 a4).2]) a23 (nl U)) U (Z2 ⟨113, _, _, U, U, Z4, hS, U⟩))
 exact K6 fun S B V => Y0 U U (bF b8 (eM (V 5 107 U U))) (Y2 U8 (evT (B 3 U) d1) U (qz S))
 intro _ _ a74 _ a26 hS _ p9 hcq
 have Z4 := Sub.refl a74
 have Zc6 := J6.trans a26
 refine Y0 U U (bF b8 (eM (p9 5 107 U U))) (Y1 s0 P1 (eM (p9 12 114 U U)) (hS.get (mR (mR (mR (mR (mR mL)))))) U U (Z2 ⟨115, _, _, U, U, Z4, hS, U⟩))
 exact K6 fun S B V => Y0 U U (bF b8 (eM (V 5 107 U U))) (Z3 (vI a3) (evT (B 8 U) d2) U (qz S))
 intro _ _ a75 _ a27 hS _ l6 hcq
 have Z4 := Sub.refl a75
 have Zc6 := J6.trans a27
 refine Y0 U U (bF b8 (eM (l6 5 107 U U))) (X6 Q0 U (eM (l6 13 115 U U)) v1 (eM (l6 14 116 U U)) (by omega) (by omega) U (Z2 ⟨117, _, _, U, U, Z4, hS, U⟩))
 exact Y7 fun S V => Y0 U U (bF b8 (eM (V 5 107 U U))) (Y2 L6 (eM (V 15 117 U U)) U (qz S))
 intro _ _ a28 _ m9 hS _ n0 hcq
 have Z4 := Sub.refl a28
 have Zc6 := J6.trans m9
 have j7 := m9.1 _ _ j7
 refine Y0 U U (bF b8 (eM (n0 5 107 U U))) (U0 (Z7 .u8 (rd a0 a3).1) P7 (eM (n0 16 118 U U)) (hS.froz _ _ j7) U (Zf9 [] (Z7 .u8 (rd a0 a3).1) ([vI (rd a0 a3).2]) v2 (nl U)) U (Z2 ⟨119, _, _, U, U, Z4, hS, U⟩))
 intro _ _ a29 _ v4 hS _ j8 hcq
 have Z4 := Sub.refl a29
 have Zc6 := J6.trans v4
 refine Y0 U U (bF b8 (eM (j8 5 107 U U))) (X2 call229 (W8 (eM (j8 11 113 U U)) (eM (j8 17 119 U U))) U (Zx3 v3  hS) ?_)
 rintro _ _ _ v5 hS rfl
 have Z4 := Z4.trans v5
 exact Z2 ⟨120, _, _, U, U, Z4, hS, U⟩
 exact Y7 fun S V => W5 (t := false) (vB e8) (bF b8 (eM (V 5 107 U U))) ((if_neg Bool.false_ne_true).trans (eM (V 18 120 U U))) U (qz S)
 exact Y7 fun S V => Z5 (vB e8) (eM (V 19 121 U U)) U (qz S)
 intro _ a30 q1 h0 hS e2 v6 hcq
 have hS : St q1 a30 (a9 ++ _) := hS
 have Z4 := Z4.trans h0
 have b5 := b5.mono h0
 have b2 := b2.mono h0
 have a5 := a5.mono h0
 refine Z2 (u7 _ _ ⟨e8, q1, b3, Z4, hS, b2, b5, a5, (evT (e2 2 U) i3), (evT (e2 3 U) d1), (evT (e2 4 U) g3), (evT (e2 6 U) i4), (evT (e2 7 U) g4), (evT (e2 8 U) d2), (evT (e2 9 U) g5), (eM (v6 20 101 (by decide) U))⟩)
 intro o6
 have a79 := b5.bound
 obtain ⟨b6, b9⟩ | ⟨b6, b9⟩ := ic b9
 have J6 := Z4
 refine W6 28 (S8 [mE 62 (vI a4), mE 63 (vP b4), mE 64 s1, mE 65 (vI (a1.length : Int)), mE 66 (vB (decide (a4 = (a1.length : Int)))), mE 67 (vB (decide (a4 = (a1.length : Int)))), mE 68 undef, mE 69 undef, mE 70 undef, mE 71 undef, mE 72 undef, mE 73 undef, mE 74 undef, mE 75 undef, mE 76 undef, mE 77 undef, mE 78 undef, mE 79 undef, mE 80 undef, mE 81 undef, mE 82 undef, mE 83 undef, mE 84 undef, mE 85 undef, mE 86 undef, mE 87 undef, mE 88 (vB true), mE 61 (vB true)]) [] mixed U U U hS (U1 (X4 fun S B => Z3 (vI a4) (evT (B 9 U) d0) U (qz S)) (X4 fun S B => Y2 U8 (evT (B 4 U) c9) U (qz S)) (Y7 fun S V => Y1 s1 P1 (eM (V 1 63 U U)) (S.get (mR (mR (mR (mR mL))))) U U (qz S)) (P0 fun s S V => X9 Q0 (eM (V 2 64 U U)) (b5.mono s) U (qz S)) (Y7 fun S V => Zb2 (k := .i64) (a := a4) (b := (a1.length : Int)) (eM (V 0 62 U U)) (eM (V 3 65 U U)) U (qz S)) (Y7 fun S V => Z3 (vB (decide (a4 = (a1.length : Int)))) (eM (V 4 66 U U)) U (qz S)) (Y7 fun S V => Z9 U U (bT b6 (eM (V 5 67 U U))) U U U (qz S)) (Y7 fun S V => Z9 U U (bT b6 (eM (V 5 67 U U))) U U U (qz S)) (U1 (Y7 fun S V => Z9 U U (bT b6 (eM (V 5 67 U U))) U U U (qz S)) (Y7 fun S V => Z9 U U (bT b6 (eM (V 5 67 U U))) U U U (qz S)) (Y7 fun S V => Z9 U U (bT b6 (eM (V 5 67 U U))) U U U (qz S)) (Y7 fun S V => Z9 U U (bT b6 (eM (V 5 67 U U))) U U U (qz S)) (Y7 fun S V => V2 U U (eM (V 11 73 U U)) U U (qz S)) (Y7 fun S V => V2 U U (eM (V 11 73 U U)) U U (qz S)) (Y7 fun S V => V2 U U (eM (V 11 73 U U)) U U (qz S)) (Y7 fun S V => V2 U U (eM (V 11 73 U U)) U U (qz S)) (U1 (Y7 fun S V => V2 U U (eM (V 11 73 U U)) U U (qz S)) (Y7 fun S V => V2 U U (eM (V 11 73 U U)) U U (qz S)) (Y7 fun S V => V2 U U (eM (V 11 73 U U)) U U (qz S)) (Y7 fun S V => V2 U U (eM (V 11 73 U U)) U U (qz S)) (Y7 fun S V => V2 U U (eM (V 11 73 U U)) U U (qz S)) (Y7 fun S V => V2 U U (eM (V 11 73 U U)) U U (qz S)) (Y7 fun S V => V2 U U (eM (V 11 73 U U)) U U (qz S)) (Y7 fun S V => V2 U U (eM (V 11 73 U U)) U U (qz S)) (K3 (Y7 fun S V => V2 U U (eM (V 11 73 U U)) U U (qz S)) (Y7 fun S V => Z9 U U (bT b6 (eM (V 5 67 U U))) U U U (qz S)) (Y7 fun S V => W5 (t := true) (vB true) (bT b6 (eM (V 5 67 U U))) ((if_pos U).trans U) U (qz S)) (Y7 fun S V => Z5 (vB true) (eM (V 26 88 U U)) U (qz S)) W9)))) ?_
 intro _ a31 q2 h1 hS e3 v7 hcq
 have hS : St q2 a31 (a9 ++ _) := hS
 have Z4 := Z4.trans h1
 have b5 := b5.mono h1
 have b2 := b2.mono h1
 have a5 := a5.mono h1
 refine Z2 (o6 _ _ ⟨true, q2, b9, Z4, hS, b2, b5, a5, (evT (e3 2 U) i2), (evT (e3 3 U) d5), (evT (e3 4 U) c9), (evT (e3 6 U) g1), (evT (e3 7 U) g2), (evT (e3 8 U) d6), (evT (e3 9 U) d0), (eM (v7 27 61 (by decide) U))⟩)
 have a80 := b2.bound
 obtain ⟨b0, b9⟩ | ⟨b0, b9⟩ := ic b9
 obtain ⟨_, b9⟩ := gd b9
 obtain ⟨q3, q4, _, _, _, v8, j9, ⟨_, _, rfl, rfl, rfl⟩, v9⟩ := b2.elem (i := a3) (by omega) (by omega)
 obtain ⟨_, b9⟩ := gd b9
 obtain ⟨_, b9⟩ := gd b9
 obtain ⟨q5, q6, _, _, _, w0, k0, ⟨_, _, rfl, rfl, rfl⟩, w1⟩ := b5.elem (i := a4) (by omega) (by omega)
 obtain ⟨d3, w2, b9⟩ := bSm b9
 have J6 := Z4
 refine W6 28 (S8 [mE 62 (vI a4), mE 63 (vP b4), mE 64 s1, mE 65 (vI (a1.length : Int)), mE 66 (vB (decide (a4 = (a1.length : Int)))), mE 67 (vB (decide (a4 = (a1.length : Int)))), mE 68 (vI a3), mE 69 (vP b1), mE 70 s0, mE 71 (vI (a0.length : Int)), mE 72 (vB (decide (a3 < (a0.length : Int)))), mE 73 (vB (decide (a3 < (a0.length : Int)))), mE 74 (vP b1), mE 75 s0, mE 76 (vI a3), mE 77 (vQ q3 q4), mE 78 (vQ q3 (q4 + 0)), mE 79 (vA (Z7 .u8 (rd a0 a3).1)), mE 80 (vP b4), mE 81 s1, mE 82 (vI a4), mE 83 (vQ q5 q6), mE 84 (vQ q5 (q6 + 0)), mE 85 (vA (Z7 .u8 (rd a1 a4).1)), mE 86 (vB d3), mE 87 (vB d3), mE 88 (vB d3), mE 61 (vB d3)]) [] mixed U U U hS (U1 (X4 fun S B => Z3 (vI a4) (evT (B 9 U) d0) U (qz S)) (X4 fun S B => Y2 U8 (evT (B 4 U) c9) U (qz S)) (Y7 fun S V => Y1 s1 P1 (eM (V 1 63 U U)) (S.get (mR (mR (mR (mR mL))))) U U (qz S)) (P0 fun s S V => X9 Q0 (eM (V 2 64 U U)) (b5.mono s) U (qz S)) (Y7 fun S V => Zb2 (k := .i64) (a := a4) (b := (a1.length : Int)) (eM (V 0 62 U U)) (eM (V 3 65 U U)) U (qz S)) (Y7 fun S V => Z3 (vB (decide (a4 = (a1.length : Int)))) (eM (V 4 66 U U)) U (qz S)) (K6 fun S B V => Y0 U U (bF b6 (eM (V 5 67 U U))) (Z3 (vI a3) (evT (B 8 U) d6) U (qz S))) (K6 fun S B V => Y0 U U (bF b6 (eM (V 5 67 U U))) (Y2 U8 (evT (B 3 U) d5) U (qz S))) (U1 ?_ ?_ ?_ ?_ ?_ ?_ ?_ ?_ (U1 ?_ ?_ ?_ ?_ ?_ ?_ ?_ ?_ (K3 ?_ ?_ ?_ ?_ W9)))) ?_
 intro h2 a32 l7 a33 k1 hS w3 f7 hcq
 have Z4 := Sub.refl l7
 have Zc6 := J6.trans k1
 have l9 : tv h2 67 = vB (decide (a4 = (a1.length : Int))) := f7 5 67 U U
 have m0 : tv h2 69 = vP b1 := f7 7 69 U U
 refine Y0 U U (bF b6 l9) (Y1 s0 P1 m0 (hS.get (mR (mR (mR (mR (mR mL)))))) U U (Z2 ⟨70, _, _, U, U, Z4, hS, U⟩))
 intro h3 a34 m2 a35 f8 hS w4 f9 hcq
 have Z4 := Sub.refl m2
 have Zc6 := J6.trans f8
 have b2 := b2.mono f8
 have m3 : tv h3 67 = vB (decide (a4 = (a1.length : Int))) := f9 5 67 U U
 have m4 : tv h3 70 = s0 := f9 8 70 U U
 refine Y0 U U (bF b6 m3) (X9 Q0 m4 b2 U (Z2 ⟨71, _, _, U, U, Z4, hS, U⟩))
 intro f6 a36 m5 a37 k2 hS w5 e4 hcq
 have Z4 := Sub.refl m5
 have Zc6 := J6.trans k2
 have m6 : tv f6 67 = vB (decide (a4 = (a1.length : Int))) := e4 5 67 U U
 have m7 : tv f6 68 = vI a3 := e4 6 68 U U
 have m8 : tv f6 71 = vI (a0.length : Int) := e4 9 71 U U
 refine Y0 U U (bF b6 m6) (V4 (k := .i64) (a := a3) (b := (a0.length : Int)) m7 m8 U (Z2 ⟨72, _, _, U, U, Z4, hS, U⟩))
 exact Y7 fun S V => Y0 U U (bF b6 (eM (V 5 67 U U))) (Z3 (vB (decide (a3 < (a0.length : Int)))) (eM (V 10 72 U U)) U (qz S))
 exact K6 fun S B V => Y0 U U (bT b0 (eM (V 11 73 U U))) (Y2 U8 (evT (B 3 U) d5) U (qz S))
 intro _ _ a38 _ w6 hS _ n1 hcq
 have Z4 := Sub.refl a38
 have Zc6 := J6.trans w6
 refine Y0 U U (bT b0 (eM (n1 11 73 U U))) (Y1 s0 P1 (eM (n1 12 74 U U)) (hS.get (mR (mR (mR (mR (mR mL)))))) U U (Z2 ⟨75, _, _, U, U, Z4, hS, U⟩))
 exact K6 fun S B V => Y0 U U (bT b0 (eM (V 11 73 U U))) (Z3 (vI a3) (evT (B 8 U) d6) U (qz S))
 intro _ _ a39 _ w7 hS _ k3 hcq
 have Z4 := Sub.refl a39
 have Zc6 := J6.trans w7
 refine Y0 U U (bT b0 (eM (k3 11 73 U U))) (X6 Q0 U (eM (k3 13 75 U U)) v8 (eM (k3 14 76 U U)) (by omega) (by omega) U (Z2 ⟨77, _, _, U, U, Z4, hS, U⟩))
 exact Y7 fun S V => Y0 U U (bT b0 (eM (V 11 73 U U))) (Y2 L6 (eM (V 15 77 U U)) U (qz S))
 intro _ _ a40 _ n2 hS _ n3 hcq
 have Z4 := Sub.refl a40
 have Zc6 := J6.trans n2
 have j9 := n2.1 _ _ j9
 refine Y0 U U (bT b0 (eM (n3 11 73 U U))) (U0 (Z7 .u8 (rd a0 a3).1) P7 (eM (n3 16 78 U U)) (hS.froz _ _ j9) U (Zf9 [] (Z7 .u8 (rd a0 a3).1) ([vI (rd a0 a3).2]) v9 (nl U)) U (Z2 ⟨79, _, _, U, U, Z4, hS, U⟩))
 exact K6 fun S B V => Y0 U U (bT b0 (eM (V 11 73 U U))) (Y2 U8 (evT (B 4 U) c9) U (qz S))
 intro _ _ a41 _ w8 hS _ n4 hcq
 have Z4 := Sub.refl a41
 have Zc6 := J6.trans w8
 refine Y0 U U (bT b0 (eM (n4 11 73 U U))) (Y1 s1 P1 (eM (n4 18 80 U U)) (hS.get (mR (mR (mR (mR mL))))) U U (Z2 ⟨81, _, _, U, U, Z4, hS, U⟩))
 exact K6 fun S B V => Y0 U U (bT b0 (eM (V 11 73 U U))) (Z3 (vI a4) (evT (B 9 U) d0) U (qz S))
 intro _ _ a42 _ w9 hS _ k4 hcq
 have Z4 := Sub.refl a42
 have Zc6 := J6.trans w9
 refine Y0 U U (bT b0 (eM (k4 11 73 U U))) (X6 Q0 U (eM (k4 19 81 U U)) w0 (eM (k4 20 82 U U)) (by omega) (by omega) U (Z2 ⟨83, _, _, U, U, Z4, hS, U⟩))
 exact Y7 fun S V => Y0 U U (bT b0 (eM (V 11 73 U U))) (Y2 L6 (eM (V 21 83 U U)) U (qz S))
 intro _ _ a43 _ n5 hS _ n6 hcq
 have Z4 := Sub.refl a43
 have Zc6 := J6.trans n5
 have k0 := n5.1 _ _ k0
 refine Y0 U U (bT b0 (eM (n6 11 73 U U))) (U0 (Z7 .u8 (rd a1 a4).1) P7 (eM (n6 22 84 U U)) (hS.froz _ _ k0) U (Zf9 [] (Z7 .u8 (rd a1 a4).1) ([vI (rd a1 a4).2]) w1 (nl U)) U (Z2 ⟨85, _, _, U, U, Z4, hS, U⟩))
 intro _ _ a44 _ x0 hS _ k5 hcq
 have Z4 := Sub.refl a44
 have Zc6 := J6.trans x0
 refine Y0 U U (bT b0 (eM (k5 11 73 U U))) (X2 call229 (W8 (eM (k5 17 79 U U)) (eM (k5 23 85 U U))) U (Zx3 w2  hS) ?_)
 rintro _ _ _ x1 hS rfl
 have Z4 := Z4.trans x1
 exact Z2 ⟨86, _, _, U, U, Z4, hS, U⟩
 intro _ _ a45 _ x2 hS _ k6 hcq
 have Z4 := Sub.refl a45
 have Zc6 := J6.trans x2
 refine Y0 U U (bF b6 (eM (k6 5 67 U U))) (W5 (t := true) (vB d3) (bT b0 (eM (k6 11 73 U U))) ((if_pos U).trans (eM (k6 24 86 U U))) U (Z2 ⟨87, _, _, U, U, Z4, hS, U⟩))
 exact Y7 fun S V => W5 (t := false) (vB d3) (bF b6 (eM (V 5 67 U U))) ((if_neg Bool.false_ne_true).trans (eM (V 25 87 U U))) U (qz S)
 exact Y7 fun S V => Z5 (vB d3) (eM (V 26 88 U U)) U (qz S)
 intro _ a46 q7 h4 hS e5 x3 hcq
 have hS : St q7 a46 (a9 ++ _) := hS
 have Z4 := Z4.trans h4
 have b5 := b5.mono h4
 have b2 := b2.mono h4
 have a5 := a5.mono h4
 refine Z2 (o6 _ _ ⟨d3, q7, b9, Z4, hS, b2, b5, a5, (evT (e5 2 U) i2), (evT (e5 3 U) d5), (evT (e5 4 U) c9), (evT (e5 6 U) g1), (evT (e5 7 U) g2), (evT (e5 8 U) d6), (evT (e5 9 U) d0), (eM (x3 27 61 (by decide) U))⟩)
 have J6 := Z4
 refine W6 28 (S8 [mE 62 (vI a4), mE 63 (vP b4), mE 64 s1, mE 65 (vI (a1.length : Int)), mE 66 (vB (decide (a4 = (a1.length : Int)))), mE 67 (vB (decide (a4 = (a1.length : Int)))), mE 68 (vI a3), mE 69 (vP b1), mE 70 s0, mE 71 (vI (a0.length : Int)), mE 72 (vB (decide (a3 < (a0.length : Int)))), mE 73 (vB (decide (a3 < (a0.length : Int)))), mE 74 undef, mE 75 undef, mE 76 undef, mE 77 undef, mE 78 undef, mE 79 undef, mE 80 undef, mE 81 undef, mE 82 undef, mE 83 undef, mE 84 undef, mE 85 undef, mE 86 undef, mE 87 (vB false), mE 88 (vB false), mE 61 (vB false)]) [] mixed U U U hS (U1 (X4 fun S B => Z3 (vI a4) (evT (B 9 U) d0) U (qz S)) (X4 fun S B => Y2 U8 (evT (B 4 U) c9) U (qz S)) (Y7 fun S V => Y1 s1 P1 (eM (V 1 63 U U)) (S.get (mR (mR (mR (mR mL))))) U U (qz S)) (P0 fun s S V => X9 Q0 (eM (V 2 64 U U)) (b5.mono s) U (qz S)) (Y7 fun S V => Zb2 (k := .i64) (a := a4) (b := (a1.length : Int)) (eM (V 0 62 U U)) (eM (V 3 65 U U)) U (qz S)) (Y7 fun S V => Z3 (vB (decide (a4 = (a1.length : Int)))) (eM (V 4 66 U U)) U (qz S)) (K6 fun S B V => Y0 U U (bF b6 (eM (V 5 67 U U))) (Z3 (vI a3) (evT (B 8 U) d6) U (qz S))) (K6 fun S B V => Y0 U U (bF b6 (eM (V 5 67 U U))) (Y2 U8 (evT (B 3 U) d5) U (qz S))) (U1 ?_ ?_ ?_ ?_ ?_ ?_ ?_ ?_ (U1 ?_ ?_ ?_ ?_ ?_ ?_ ?_ ?_ (K3 ?_ ?_ ?_ ?_ W9)))) ?_
 intro h2 a32 l7 a33 k1 hS w3 f7 hcq
 have Z4 := Sub.refl l7
 have Zc6 := J6.trans k1
 have l9 : tv h2 67 = vB (decide (a4 = (a1.length : Int))) := f7 5 67 U U
 have m0 : tv h2 69 = vP b1 := f7 7 69 U U
 refine Y0 U U (bF b6 l9) (Y1 s0 P1 m0 (hS.get (mR (mR (mR (mR (mR mL)))))) U U (Z2 ⟨70, _, _, U, U, Z4, hS, U⟩))
 intro h3 a34 m2 a35 f8 hS w4 f9 hcq
 have Z4 := Sub.refl m2
 have Zc6 := J6.trans f8
 have b2 := b2.mono f8
 have m3 : tv h3 67 = vB (decide (a4 = (a1.length : Int))) := f9 5 67 U U
 have m4 : tv h3 70 = s0 := f9 8 70 U U
 refine Y0 U U (bF b6 m3) (X9 Q0 m4 b2 U (Z2 ⟨71, _, _, U, U, Z4, hS, U⟩))
 intro f6 a36 m5 a37 k2 hS w5 e4 hcq
 have Z4 := Sub.refl m5
 have Zc6 := J6.trans k2
 have m6 : tv f6 67 = vB (decide (a4 = (a1.length : Int))) := e4 5 67 U U
 have m7 : tv f6 68 = vI a3 := e4 6 68 U U
 have m8 : tv f6 71 = vI (a0.length : Int) := e4 9 71 U U
 refine Y0 U U (bF b6 m6) (V4 (k := .i64) (a := a3) (b := (a0.length : Int)) m7 m8 U (Z2 ⟨72, _, _, U, U, Z4, hS, U⟩))
 exact Y7 fun S V => Y0 U U (bF b6 (eM (V 5 67 U U))) (Z3 (vB (decide (a3 < (a0.length : Int)))) (eM (V 10 72 U U)) U (qz S))
 exact Y7 fun S V => Z9 U U (bF b0 (eM (V 11 73 U U))) U U U (qz S)
 exact Y7 fun S V => Z9 U U (bF b0 (eM (V 11 73 U U))) U U U (qz S)
 exact Y7 fun S V => Z9 U U (bF b0 (eM (V 11 73 U U))) U U U (qz S)
 exact Y7 fun S V => Z9 U U (bF b0 (eM (V 11 73 U U))) U U U (qz S)
 exact Y7 fun S V => Z9 U U (bF b0 (eM (V 11 73 U U))) U U U (qz S)
 exact Y7 fun S V => Z9 U U (bF b0 (eM (V 11 73 U U))) U U U (qz S)
 exact Y7 fun S V => Z9 U U (bF b0 (eM (V 11 73 U U))) U U U (qz S)
 exact Y7 fun S V => Z9 U U (bF b0 (eM (V 11 73 U U))) U U U (qz S)
 exact Y7 fun S V => Z9 U U (bF b0 (eM (V 11 73 U U))) U U U (qz S)
 exact Y7 fun S V => Z9 U U (bF b0 (eM (V 11 73 U U))) U U U (qz S)
 exact Y7 fun S V => Z9 U U (bF b0 (eM (V 11 73 U U))) U U U (qz S)
 exact Y7 fun S V => Z9 U U (bF b0 (eM (V 11 73 U U))) U U U (qz S)
 exact Y7 fun S V => Z9 U U (bF b0 (eM (V 11 73 U U))) U U U (qz S)
 intro _ _ a47 _ x4 hS _ n7 hcq
 have Z4 := Sub.refl a47
 have Zc6 := J6.trans x4
 refine Y0 U U (bF b6 (eM (n7 5 67 U U))) (W5 (t := false) (vB false) (bF b0 (eM (n7 11 73 U U))) ((if_neg Bool.false_ne_true).trans U) U (Z2 ⟨87, _, _, U, U, Z4, hS, U⟩))
 exact Y7 fun S V => W5 (t := false) (vB false) (bF b6 (eM (V 5 67 U U))) ((if_neg Bool.false_ne_true).trans (eM (V 25 87 U U))) U (qz S)
 exact Y7 fun S V => Z5 (vB false) (eM (V 26 88 U U)) U (qz S)
 intro _ a48 q8 h5 hS e6 x5 hcq
 have hS : St q8 a48 (a9 ++ _) := hS
 have Z4 := Z4.trans h5
 have b5 := b5.mono h5
 have b2 := b2.mono h5
 have a5 := a5.mono h5
 refine Z2 (o6 _ _ ⟨false, q8, b9, Z4, hS, b2, b5, a5, (evT (e6 2 U) i2), (evT (e6 3 U) d5), (evT (e6 4 U) c9), (evT (e6 6 U) g1), (evT (e6 7 U) g2), (evT (e6 8 U) d6), (evT (e6 9 U) d0), (eM (x5 27 61 (by decide) U))⟩)
 refine Z6 (Eq.trans (by exact j4) (congrArg vB (X8 n8))) (W2 U ?_)
 cases b9
 exact hx0 _ _ ⟨a6, s2, a9, a7, U, Z4, hS, a5, b2, b5, g1, g2⟩
 intro x6
 refine Z0 (Z3 (vI a3) (by exact i0) U (Y2 U8 (by exact h8) U (Y1 s0 P1 U (hS.get (mR (mR (mR (mR mL))))) U U ?_)))
 have a81 := b2.bound
 refine X9 Q0 U b2 U (V4 (k := .i64) (a := a3) (b := (a0.length : Int)) U U U (Z3 (vB (decide (a3 < (a0.length : Int)))) U U ?_))
 obtain ⟨c2, e1⟩ | ⟨c2, e1⟩ := ic e1
 refine Z9 U U (bT c2 U) U U U (Z9 U U (bT c2 U) U U U (Z9 U U (bT c2 U) U U U (Z9 U U (bT c2 U) U U U (Z9 U U (bT c2 U) U U U (W5 (t := true) (vB true) (bT c2 U) ((if_pos U).trans U) U (Z2 (x6 _ _ ⟨true, r9, e1, Z4, hS, b2, b5, a5, k7, h8, h9, k8, k9, i0, i1, U⟩)))))))
 refine Y0 U U (bF c2 U) (Z3 (vI a4) (by exact i1) U (Y0 U U (bF c2 U) (Y2 U8 (by exact h9) U (Y0 U U (bF c2 U) (Y1 s1 P1 U (hS.get (mR (mR (mR mL)))) U U ?_)))))
 have a82 := b5.bound
 refine Y0 U U (bF c2 U) (X9 Q0 U b5 U (Y0 U U (bF c2 U) (V4 (k := .i64) (a := a4) (b := (a1.length : Int)) U U U (W5 (t := false) (vB (decide (a4 < (a1.length : Int)))) (bF c2 U) ((if_neg Bool.false_ne_true).trans U) U (Z2 (x6 _ _ ⟨(decide (a4 < (a1.length : Int))), r9, e1, Z4, hS, b2, b5, a5, k7, h8, h9, k8, k9, i0, i1, U⟩))))))
 exact ⟨0, ([] : List (A8 × Int)), 0, H, ([]), (vN), e1, Z4, hS, r7, b2, b5, U, U, U, U, U, U, U⟩
 rintro _ _ ⟨c5, _, e9, c1, rfl, Z4, hS, g0, b2, b5, l0, r6⟩
 dsimp only [Ex.elim] at r8
 refine Z1 (Z0 (X5 U7 (by exact r6) (hS.get (mR mL)) U U ?_))
 have hS := hS.perm Zc0
 refine W1 (v := vA [c1]) (vs := ([c1]).toArray) (cs := ([vN]).toArray) U7 (by exact l0) U U hS U (K9 g0.isOne) U ?_
 intro _ hS
 have hS := hS.perm Zc0.symm
 refine Z2 (Y9 (vs := [vA [c1]]) func196 ⟨⟨_, (by exact l0), T9 U7 (hS.get (mR (mR mL))) U⟩, trivial⟩ ?_)
 obtain ⟨a49, x7, hS, h6⟩ := W0.freezeF (τ := yT) (H0 := H) g0 hS Z4
 have a83 := Y3.old h6
 have h6 : RdF yT H a49 c1 c5 := h6
 have Z4 := Z4.trans x7
 cases r8
 exact ⟨_, _, U, Z4, (St.dA (St.dA (St.dA (St.dA hS)))), ⟨_, U, ⟨_, U, h6⟩⟩⟩
end Go.Proofs.YtabofnehiclkiaaGreat
