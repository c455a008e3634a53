/- Walks of functions: each computes its pure function, if that gives a value. -/
import Derived.Test.YtabofnehiclkiaaGreatZF1
import Derived.Test.YtabofnehiclkiaaGreatZF4
namespace Go.Proofs.YtabofnehiclkiaaGreat
open Go Go.Proofs.Tryz
set_option linter.unusedSimpArgs false
set_option linter.unusedVariables false
set_option maxRecDepth 100000
set_option maxHeartbeats 8000000
variable {K : Nat} {H : FH} {w : World} {L : OL} {s0 s1 s2 s3 s4 s5 s6 : Value}
def Zj5 (K : Nat) (e7 : Int → MpT → Int → Option (Ex MpT (MpT))) (a3 : Int) (a4 : Int) (c0 : MpT) : Option (Ex MpT (MpT)) := e7 (IntKind.i64.wrap (a3 + 1)) c0 (IntKind.i64.wrap (a4 + 1))
def B2 (K : Nat) (e7 : Int → MpT → Int → Option (Ex MpT (MpT))) (a0 : MpT) (a1 : MpT) (a2 : Int) (a3 : Int) (a4 : Int) (a6 : MpT) (d4 : Bool) : Option (Ex MpT (MpT)) := (if d4 = true then (if 0 ≤ a4 then (if a4 < (a1.length : Int) then ((F5 K (IntKind.i64.wrap (a2 * (rd a1 a4).2))).bind fun c8 => (if c8 = 0 then e7 a3 a6 (IntKind.i64.wrap (a4 + 1)) else (if a6.length + ([((rd a1 a4).1, c8)]).length ≤ 1099511627776 then e7 a3 (a6 ++ [((rd a1 a4).1, c8)]) (IntKind.i64.wrap (a4 + 1)) else none))) else none) else none) else (if 0 ≤ a3 then (if a3 < (a0.length : Int) then (if 0 ≤ a4 then (if a4 < (a1.length : Int) then ((F5 K (IntKind.i64.wrap (a2 * (rd a1 a4).2))).bind fun j3 => ((F5 K (IntKind.i64.wrap ((rd a0 a3).2 + j3))).bind fun c3 => (if c3 = 0 then Zj5 K (e7) a3 a4 a6 else (if a6.length + ([((rd a0 a3).1, c3)]).length ≤ 1099511627776 then Zj5 K (e7) a3 a4 (a6 ++ [((rd a0 a3).1, c3)]) else none)))) else none) else none) else none) else none))
def F3 (K : Nat) (e7 : Int → MpT → Int → Option (Ex MpT (MpT))) (a0 : MpT) (a1 : MpT) (a2 : Int) (a3 : Int) (a4 : Int) (a6 : MpT) (d9 : Bool) : Option (Ex MpT (MpT)) := (if d9 = true then (if 0 ≤ a3 then (if a3 < (a0.length : Int) then (if a6.length + ([((rd a0 a3).1, (rd a0 a3).2)]).length ≤ 1099511627776 then e7 (IntKind.i64.wrap (a3 + 1)) (a6 ++ [((rd a0 a3).1, (rd a0 a3).2)]) a4 else none) else none) else none) else (if a3 = (a0.length : Int) then B2 K (e7) a0 a1 a2 a3 a4 a6 true else (if 0 ≤ a4 then (if a4 < (a1.length : Int) then (if 0 ≤ a3 then (if a3 < (a0.length : Int) then ((Zd1 K ((rd a1 a4).1) ((rd a0 a3).1)).bind fun e8 => B2 K (e7) a0 a1 a2 a3 a4 a6 e8) else none) else none) else none) else none)))
def Zf7 (K : Nat) (e7 : Int → MpT → Int → Option (Ex MpT (MpT))) (a0 : MpT) (a1 : MpT) (a2 : Int) (a3 : Int) (a4 : Int) (a6 : MpT) (e0 : Bool) : Option (Ex MpT (MpT)) := (if e0 = true then (if a4 = (a1.length : Int) then F3 K (e7) a0 a1 a2 a3 a4 a6 true else (if a3 < (a0.length : Int) then (if 0 ≤ a3 then (if 0 ≤ a4 then (if a4 < (a1.length : Int) then ((Zd1 K ((rd a0 a3).1) ((rd a1 a4).1)).bind fun d3 => F3 K (e7) a0 a1 a2 a3 a4 a6 d3) else none) else none) else none) else F3 K (e7) a0 a1 a2 a3 a4 a6 false)) else some (.go a6))
def Q0 (K : Nat) (a0 : MpT) (a1 : MpT) (a2 : Int) : Nat → Int → MpT → Int → Option (Ex MpT (MpT))
 | 0, _, _, _ => none
 | k + 1, a3, a6, a4 => (if a3 < (a0.length : Int) then Zf7 K (Q0 K a0 a1 a2 k) a0 a1 a2 a3 a4 a6 true else Zf7 K (Q0 K a0 a1 a2 k) a0 a1 a2 a3 a4 a6 (decide (a4 < (a1.length : Int))))
def Zo1 (K : Nat) (a0 : MpT) (a1 : MpT) (a2 : Int) : Option MpT := ((Q0 K a0 a1 a2 K 0 ([] : List (A8 × Int)) 0).bind (Ex.elim (fun r => some r) (fun s => (fun (c5 : MpT) => some c5) s)))
theorem Yj2 {a0 : MpT} {a1 : MpT} {a2 : Int} {r : MpT} (q0 : Zo1 K a0 a1 a2 = some r) (b2 : Y3 yT H s0 a0) (b5 : Y3 yT H s1 a1) (hS : St H w L) :
 Calls prog 196 #[vA ([s0]), vA ([s1]), vI a2] w (U7 (fun v G => (R.agg (X2 yT)).p (G.new H) v r) H L) := by
 have Z4 := Sub.refl H
 refine X0 func196 rfl ntmps196 rfl ?_
 unfold Zo1 at q0
 refine Z1 (Z0 ?_)
 refine T7 (v := vA ([s0])) ([s0]).toArray rfl rfl hS rfl ?_
 intro b1 _ hS
 refine T7 (v := vA ([s1])) ([s1]).toArray rfl rfl hS rfl ?_
 intro b4 _ hS
 refine U4 (z := vA ([vN])) ([vN]).toArray Zl9.zero rfl hS rfl ?_
 intro b7 _ hS
 refine Z2 (Z1 (Z0 ?_))
 refine B5 (vA ([vN])) Yr1 rfl ?_
 refine U4 (z := vA ([vN])) ([vN]).toArray Zl9.zero rfl hS rfl ?_
 intro c4 _ hS
 refine W4 (v := vA ([vN])) (vs := ([vN]).toArray) (cs := ([vN]).toArray) Q4 rfl rfl rfl hS rfl (Zb5 rfl) rfl ?_
 intro _ hS
 refine Z2 (Z1 (Z0 (Z5 (vI 0) rfl rfl (Z5 (vI 0) rfl rfl (Z2 (Z1 (Y8 ?_)))))))
 have r7 : X8 yT 78 H (.slice none 0 0) [] [] := X8.nil _ _ _
 obtain ⟨h7, e1, r8⟩ := bind_some q0
 refine W0 (id := 0) (fun k f w => ∃ (a3 : Int) (a6 : MpT) (a4 : Int) (H1 : FH) (a9 : OL) (a7 : Value), Q0 K a0 a1 a2 k a3 a6 a4 = some h7 ∧ Sub H H1 ∧ St H1 w (a9 ++ ([(c4, cA ([a7]) 45)] ++ ([(b7, cA ([vN]) 45)] ++ ([(b4, cA ([s1]) 45)] ++ ([(b1, cA ([s0]) 45)] ++ L))))) ∧ X8 yT 78 H1 a7 a6 a9 ∧ Y3 yT H1 s0 a0 ∧ Y3 yT H1 s1 a1 ∧ tv f 2 = vI a2 ∧ tv f 3 = vP b1 ∧ tv f 4 = vP b4 ∧ tv f 6 = vP b7 ∧ tv f 7 = vP c4 ∧ tv f 8 = vI a3 ∧ tv f 9 = vI a4) (fun f w => ∃ (c5 : MpT) (H1 : FH) (e9 : OL) (c1 : Value), h7 = .go c5 ∧ Sub H H1 ∧ St H1 w (e9 ++ ([(c4, cA ([c1]) 45)] ++ ([(b7, cA ([vN]) 45)] ++ ([(b4, cA ([s1]) 45)] ++ ([(b1, cA ([s0]) 45)] ++ L))))) ∧ X8 yT 78 H1 c1 c5 e9 ∧ Y3 yT H1 s0 a0 ∧ Y3 yT H1 s1 a1 ∧ tv f 6 = vP b7 ∧ tv f 7 = vP c4) rfl ?_ ?_ K ?_ ?_
 rintro f w ⟨a3, a6, a4, H1, a9, a7, e1, _⟩
 rw [Q0] at e1; cases e1
 rintro k _ _ o7 hx0 ⟨a3, a6, a4, r9, a9, a7, e1, Z4, hS, a5, b2, b5, k7, h8, h9, k8, k9, i0, i1⟩
 rw [Q0] at e1
 refine Z1 (Z1 ?_)
 refine N4 (fun f w => ∃ (e0 : Bool) (H1 : FH), Zf7 K (Q0 K a0 a1 a2 k) a0 a1 a2 a3 a4 a6 e0 = some h7 ∧ Sub H H1 ∧ St H1 w (a9 ++ ([(c4, cA ([a7]) 45)] ++ ([(b7, cA ([vN]) 45)] ++ ([(b4, cA ([s1]) 45)] ++ ([(b1, cA ([s0]) 45)] ++ L))))) ∧ Y3 yT H1 s0 a0 ∧ Y3 yT H1 s1 a1 ∧ X8 yT 78 H1 a7 a6 a9 ∧ tv f 2 = vI a2 ∧ tv f 3 = vP b1 ∧ tv f 4 = vP b4 ∧ tv f 6 = vP b7 ∧ tv f 7 = vP c4 ∧ tv f 8 = vI a3 ∧ tv f 9 = vI a4 ∧ tv f 24 = vB e0) ?_ ?_
 rintro _ _ ⟨e0, s2, b9, Z4, hS, b2, b5, a5, i2, d5, c9, g1, g2, d6, d0, j4⟩
 unfold Zf7 at b9
 obtain ⟨n8, b9⟩ | ⟨n8, b9⟩ := ic b9
 refine Z8 (Eq.trans (by exact j4) (congrArg vB n8)) (Y6 (Y8 (Y8 (Z1 ?_))))
 refine N4 (fun f w => ∃ (d9 : Bool) (H1 : FH), F3 K (Q0 K a0 a1 a2 k) a0 a1 a2 a3 a4 a6 d9 = some h7 ∧ Sub H H1 ∧ St H1 w (a9 ++ ([(c4, cA ([a7]) 45)] ++ ([(b7, cA ([vN]) 45)] ++ ([(b4, cA ([s1]) 45)] ++ ([(b1, cA ([s0]) 45)] ++ L))))) ∧ Y3 yT H1 s0 a0 ∧ Y3 yT H1 s1 a1 ∧ X8 yT 78 H1 a7 a6 a9 ∧ tv f 2 = vI a2 ∧ tv f 3 = vP b1 ∧ tv f 4 = vP b4 ∧ tv f 6 = vP b7 ∧ tv f 7 = vP c4 ∧ tv f 8 = vI a3 ∧ tv f 9 = vI a4 ∧ tv f 61 = vB d9) ?_ ?_
 rintro _ _ ⟨d9, _, b3, Z4, hS, b2, b5, a5, i3, d1, g3, i4, g4, d2, g5, j5⟩
 unfold F3 at b3
 obtain ⟨n9, b3⟩ | ⟨n9, b3⟩ := ic b3
 refine Z8 (Eq.trans (by exact j5) (congrArg vB n9)) (Z1 ?_)
 obtain ⟨_, b3⟩ := gd b3
 obtain ⟨_, b3⟩ := gd b3
 obtain ⟨b93, o93, _, _, _, a50, a51, ⟨_, _, rfl, rfl, rfl⟩, a52⟩ := b2.elem (i := a3) (by omega) (by omega)
 have K5 := Z4
 refine W7 8 (S9 [mE 89 (vP c4), mE 90 (a7), mE 91 (vP b1), mE 92 (s0), mE 93 (vI a3), mE 94 (vQ b93 o93), mE 95 (vA (Z6 .u8 ((rd a0 a3).1) ++ [vI ((rd a0 a3).2)])), (96, MP.sl yT ([((rd a0 a3).1, (rd a0 a3).2)]))]) [] mixed rfl rfl rfl hS (V9 ?_ ?_ ?_ ?_ ?_ ?_ ?_ ?_ V1) ?_
 exact X4 fun S B => Y2 U3 (evT (B 7 rfl) g4) rfl (qz S)
 exact Y7 fun S V => Y0 (a7) Q7 (eM (V 0 89 rfl rfl)) (S.get (mR (mR mL))) rfl rfl (qz S)
 exact X4 fun S B => Y2 U3 (evT (B 3 rfl) d1) rfl (qz S)
 exact Y7 fun S V => Y0 (s0) Q7 (eM (V 2 91 rfl rfl)) (S.get (mR (mR (mR (mR (mR mL)))))) rfl rfl (qz S)
 exact X4 fun S B => Z3 (vI a3) (evT (B 8 rfl) d2) rfl (qz S)
 exact Y7 fun S V => X5 R9 rfl (eM (V 3 92 rfl rfl)) a50 (eM (V 4 93 rfl rfl)) (by omega) (by omega) rfl (qz S)
 exact P0 fun s S V => V0 (Z6 .u8 ((rd a0 a3).1) ++ [vI ((rd a0 a3).2)]) Zy7 (eM (V 5 94 rfl rfl)) (S.froz _ _ (s.1 _ _ a51)) rfl a52 rfl (qz S)
 intro _ _ a53 _ x8 hS _ x9 hcq
 have Z4 := Sub.refl a53
 have Zb3 := K5.trans x8
 refine Zc2 (τ := yT) R9 Ye6 rfl [vA (Z6 .u8 ((rd a0 a3).1) ++ [vI ((rd a0 a3).2)])] [((rd a0 a3).1, (rd a0 a3).2)] rfl rfl (E7 (eM (x9 6 95 rfl rfl))) (Zk6 ⟨_, _, rfl, rfl, rfl⟩) (by decide) (by decide) hS rfl ?_
 intro _ _ _ y0 hS y1
 have Z4 := Z4.trans y0
 exact Z2 ⟨96, _, _, rfl, rfl, Z4, hS, y1⟩
 intro _ a54 s3 i7 hS f1 o8 hcq
 have hS : St s3 a54 (a9 ++ ([(c4, cA ([a7]) 45)] ++ ([(b7, cA ([vN]) 45)] ++ ([(b4, cA ([s1]) 45)] ++ ([(b1, cA ([s0]) 45)] ++ L))))) := hS
 have Z4 := Z4.trans i7
 have b5 := b5.mono i7
 have b2 := b2.mono i7
 have a5 := a5.mono i7
 have s4 := evT (f1 7 rfl) g4
 obtain ⟨_, a55, y2⟩ := gvS (o8 7 96 (by decide) rfl)
 obtain ⟨y3, b3⟩ := gd b3
 refine N6 (τ := yT) Xa7 rfl (by exact (eM (o8 1 90 (by decide) rfl))) (by exact a55) a5 hS y2 y3 rfl ?_
 intro o0 _ a56 o9 hS
 refine Y2 U3 (by exact s4) rfl ?_
 have hS := hS.perm R6
 refine Zd3 (v := o0) (cs := ([a7]).toArray) (cs' := ([o0]).toArray) Q7 rfl rfl hS o9.isOne rfl (nl rfl) rfl ?_
 intro _ hS
 have hS := hS.perm R6.symm
 refine Z2 (Z0 (Z3 (vI a3) (by exact (evT (f1 8 rfl) d2)) rfl ?_))
 refine W2 (IntKind.i64.wrap (a3 + 1)) rfl rfl rfl rfl (Z5 (vI (IntKind.i64.wrap (a3 + 1))) rfl rfl (Z2 (X1 (X1 ?_))))
 exact o7 _ _ ⟨(IntKind.i64.wrap (a3 + 1)), (a6 ++ [((rd a0 a3).1, (rd a0 a3).2)]), a4, s3, a56, o0, b3, Z4, hS, o9, b2, b5, (evT (f1 2 rfl) i3), (evT (f1 3 rfl) d1), (evT (f1 4 rfl) g3), (evT (f1 6 rfl) i4), s4, rfl, (evT (f1 9 rfl) g5)⟩
 refine Z7 (Eq.trans (by exact j5) (congrArg vB (W1 n9))) (Z1 ?_)
 refine N4 (fun f w => ∃ (d4 : Bool) (H1 : FH), B2 K (Q0 K a0 a1 a2 k) a0 a1 a2 a3 a4 a6 d4 = some h7 ∧ Sub H H1 ∧ St H1 w (a9 ++ ([(c4, cA ([a7]) 45)] ++ ([(b7, cA ([vN]) 45)] ++ ([(b4, cA ([s1]) 45)] ++ ([(b1, cA ([s0]) 45)] ++ L))))) ∧ Y3 yT H1 s0 a0 ∧ Y3 yT H1 s1 a1 ∧ X8 yT 78 H1 a7 a6 a9 ∧ tv f 2 = vI a2 ∧ tv f 3 = vP b1 ∧ tv f 4 = vP b4 ∧ tv f 6 = vP b7 ∧ tv f 7 = vP c4 ∧ tv f 8 = vI a3 ∧ tv f 9 = vI a4 ∧ tv f 101 = vB d4) ?_ ?_
 rintro _ _ ⟨d4, _, a8, Z4, hS, b2, b5, a5, f0, g6, d7, i5, g7, g8, d8, i6⟩
 unfold B2 at a8
 obtain ⟨l1, a8⟩ | ⟨l1, a8⟩ := ic a8
 refine Z8 (Eq.trans (by exact i6) (congrArg vB l1)) (Z1 (Z1 (Z0 (Z3 (vI a2) (by exact f0) rfl (Y2 U3 (by exact d7) rfl ?_)))))
 refine Y0 (s1) Q7 rfl (hS.get (mR (mR (mR mL)))) rfl rfl (Z3 (vI a4) (by exact d8) rfl ?_)
 obtain ⟨_, a8⟩ := gd a8
 obtain ⟨_, a8⟩ := gd a8
 obtain ⟨_, _, _, _, _, y4, y5, ⟨_, _, rfl, rfl, rfl⟩, y6⟩ := b5.elem (i := a4) (by omega) (by omega)
 refine X5 R9 rfl rfl y4 rfl (by omega) (by omega) rfl (Y2 Ze3 rfl rfl ?_)
 refine Y0 (vI ((rd a1 a4).2)) ty2 rfl (hS.froz _ _ y5) (y6 8 (show 8 < 9 by decide)) rfl ?_
 refine Zg4 (IntKind.i64.wrap (a2 * (rd a1 a4).2)) rfl rfl rfl rfl ?_
 obtain ⟨c8, y7, a8⟩ := bind_some a8
 refine X3 call209 (R3 rfl) rfl (D2 y7  hS) ?_
 rintro _ a57 _ i8 hS rfl
 have Z4 := Z4.trans i8
 have b5 := b5.mono i8
 have b2 := b2.mono i8
 have a5 := a5.mono i8
 refine Z5 (vI c8) rfl rfl (Z2 (Z1 (Z0 (Z3 (vI c8) rfl rfl ?_))))
 refine M0 (k := .i64) (a := c8) (b := 0) rfl rfl rfl (Z2 ?_)
 obtain ⟨l2, a8⟩ | ⟨l2, a8⟩ := ic a8
 refine Z7 (bN l2 rfl) (Y6 (Z0 (Z3 (vI a4) (by exact d8) rfl ?_)))
 refine W2 (IntKind.i64.wrap (a4 + 1)) rfl rfl rfl rfl (Z5 (vI (IntKind.i64.wrap (a4 + 1))) rfl rfl (Z2 (X1 (X1 ?_))))
 exact o7 _ _ ⟨a3, a6, (IntKind.i64.wrap (a4 + 1)), a57, a9, a7, a8, Z4, hS, a5, b2, b5, f0, g6, d7, i5, g7, g8, rfl⟩
 refine Z8 (bO l2 rfl) ?_
 obtain ⟨s5, s6, _, _, _, y8, y9, ⟨_, _, rfl, rfl, rfl⟩, z0⟩ := b5.elem (i := a4) (by omega) (by omega)
 have K5 := Z4
 refine W7 11 (S9 [mE 133 (vP c4), mE 134 (a7), mE 135 (vP b4), mE 136 (s1), mE 137 (vI a4), mE 138 (vQ s5 s6), mE 139 (vQ s5 (s6 + 0)), mE 140 (vA (Z6 .u8 ((rd a1 a4).1))), mE 141 (vI c8), mE 142 (vA (Z6 .u8 ((rd a1 a4).1) ++ [vI c8])), (143, MP.sl yT ([((rd a1 a4).1, c8)]))]) [] mixed rfl rfl rfl hS (V9 ?_ ?_ ?_ ?_ ?_ ?_ ?_ ?_ (J2 ?_ ?_ (E8 ?_ V1))) ?_
 exact X4 fun S B => Y2 U3 (evT (B 7 rfl) g7) rfl (qz S)
 exact Y7 fun S V => Y0 (a7) Q7 (eM (V 0 133 rfl rfl)) (S.get (mR (mR mL))) rfl rfl (qz S)
 exact X4 fun S B => Y2 U3 (evT (B 4 rfl) d7) rfl (qz S)
 exact Y7 fun S V => Y0 (s1) Q7 (eM (V 2 135 rfl rfl)) (S.get (mR (mR (mR (mR mL))))) rfl rfl (qz S)
 exact X4 fun S B => Z3 (vI a4) (evT (B 9 rfl) d8) rfl (qz S)
 exact Y7 fun S V => X5 R9 rfl (eM (V 3 136 rfl rfl)) y8 (eM (V 4 137 rfl rfl)) (by omega) (by omega) rfl (qz S)
 exact Y7 fun S V => Y2 M9 (eM (V 5 138 rfl rfl)) rfl (qz S)
 exact P0 fun s S V => V0 (Z6 .u8 ((rd a1 a4).1)) P5 (eM (V 6 139 rfl rfl)) (S.froz _ _ (s.1 _ _ y9)) rfl (Zd6 ([]) (Z6 .u8 ((rd a1 a4).1)) (([vI ((rd a1 a4).2)])) z0 (nl rfl)) rfl (qz S)
 exact X4 fun S B => Z3 (vI c8) (evT (B 10 rfl) rfl) rfl (qz S)
 exact Y7 fun S V => Zu1 (Z6 .u8 ((rd a1 a4).1) ++ [vI c8]) Xl8 (Zz7 (eM (V 7 140 rfl rfl)) (eM (V 8 141 rfl rfl))) (F2 rfl rfl rfl (nl rfl) (F2 rfl rfl rfl (nl rfl) (Zp8 rfl))) rfl (qz S)
 intro _ _ a58 _ z1 hS _ z2 hcq
 have Z4 := Sub.refl a58
 have Zb3 := K5.trans z1
 refine Zc2 (τ := yT) R9 Ye6 rfl [vA (Z6 .u8 ((rd a1 a4).1) ++ [vI c8])] [((rd a1 a4).1, c8)] rfl rfl (E7 (eM (z2 9 142 rfl rfl))) (Zk6 ⟨_, _, rfl, rfl, rfl⟩) (by decide) (by decide) hS rfl ?_
 intro _ _ _ z3 hS z4
 have Z4 := Z4.trans z3
 exact Z2 ⟨143, _, _, rfl, rfl, Z4, hS, z4⟩
 intro _ a59 s7 i9 hS f2 p0 hcq
 have hS : St s7 a59 (a9 ++ ([(c4, cA ([a7]) 45)] ++ ([(b7, cA ([vN]) 45)] ++ ([(b4, cA ([s1]) 45)] ++ ([(b1, cA ([s0]) 45)] ++ L))))) := hS
 have Z4 := Z4.trans i9
 have b5 := b5.mono i9
 have b2 := b2.mono i9
 have a5 := a5.mono i9
 have s8 := evT (f2 7 rfl) g7
 obtain ⟨_, a60, z5⟩ := gvS (p0 10 143 (by decide) rfl)
 obtain ⟨z6, a8⟩ := gd a8
 refine N6 (τ := yT) Xa7 rfl (by exact (eM (p0 1 134 (by decide) rfl))) (by exact a60) a5 hS z5 z6 rfl ?_
 intro o1 _ a61 p1 hS
 refine Y2 U3 (by exact s8) rfl ?_
 have hS := hS.perm R6
 refine Zd3 (v := o1) (cs := ([a7]).toArray) (cs' := ([o1]).toArray) Q7 rfl rfl hS p1.isOne rfl (nl rfl) rfl ?_
 intro _ hS
 have hS := hS.perm R6.symm
 refine Z2 (Z0 (Z3 (vI a4) (by exact (evT (f2 9 rfl) d8)) rfl ?_))
 refine W2 (IntKind.i64.wrap (a4 + 1)) rfl rfl rfl rfl (Z5 (vI (IntKind.i64.wrap (a4 + 1))) rfl rfl (Z2 (X1 (X1 ?_))))
 exact o7 _ _ ⟨a3, (a6 ++ [((rd a1 a4).1, c8)]), (IntKind.i64.wrap (a4 + 1)), s7, a61, o1, a8, Z4, hS, p1, b2, b5, (evT (f2 2 rfl) f0), (evT (f2 3 rfl) g6), (evT (f2 4 rfl) d7), (evT (f2 6 rfl) i5), s8, (evT (f2 8 rfl) g8), rfl⟩
 refine Z7 (Eq.trans (by exact i6) (congrArg vB (W1 l1))) (Z1 (Z1 ?_))
 obtain ⟨_, a8⟩ := gd a8
 obtain ⟨_, a8⟩ := gd a8
 obtain ⟨s9, t0, _, _, _, z7, z8, ⟨_, _, rfl, rfl, rfl⟩, z9⟩ := b2.elem (i := a3) (by omega) (by omega)
 obtain ⟨_, a8⟩ := gd a8
 obtain ⟨_, a8⟩ := gd a8
 obtain ⟨t1, t4, _, _, _, a00, a01, ⟨_, _, rfl, rfl, rfl⟩, a02⟩ := b5.elem (i := a4) (by omega) (by omega)
 obtain ⟨j3, a03, a8⟩ := bind_some a8
 obtain ⟨c3, a04, a8⟩ := bind_some a8
 have K5 := Z4
 refine W7 18 (S9 [mE 25 (vP b1), mE 26 (s0), mE 27 (vI a3), mE 28 (vQ s9 t0), mE 29 (vQ s9 (t0 + 8)), mE 30 (vI ((rd a0 a3).2)), mE 31 (vI a2), mE 32 (vP b4), mE 33 (s1), mE 34 (vI a4), mE 35 (vQ t1 t4), mE 36 (vQ t1 (t4 + 8)), mE 37 (vI ((rd a1 a4).2)), mE 38 (vI (IntKind.i64.wrap (a2 * (rd a1 a4).2))), mE 39 (vI j3), mE 40 (vI (IntKind.i64.wrap ((rd a0 a3).2 + j3))), mE 41 (vI c3), mE 11 (vI c3)]) [] mixed rfl rfl rfl hS (V9 ?_ ?_ ?_ ?_ ?_ ?_ ?_ ?_ (V9 ?_ ?_ ?_ ?_ ?_ ?_ ?_ ?_ (J2 ?_ ?_ V1))) ?_
 exact X4 fun S B => Y2 U3 (evT (B 3 rfl) g6) rfl (qz S)
 exact Y7 fun S V => Y0 (s0) Q7 (eM (V 0 25 rfl rfl)) (S.get (mR (mR (mR (mR (mR mL)))))) rfl rfl (qz S)
 exact X4 fun S B => Z3 (vI a3) (evT (B 8 rfl) g8) rfl (qz S)
 exact Y7 fun S V => X5 R9 rfl (eM (V 1 26 rfl rfl)) z7 (eM (V 2 27 rfl rfl)) (by omega) (by omega) rfl (qz S)
 exact Y7 fun S V => Y2 Ze3 (eM (V 3 28 rfl rfl)) rfl (qz S)
 exact P0 fun s S V => Y0 (vI ((rd a0 a3).2)) ty2 (eM (V 4 29 rfl rfl)) (S.froz _ _ (s.1 _ _ z8)) (z9 8 (show 8 < 9 by decide)) rfl (qz S)
 exact X4 fun S B => Z3 (vI a2) (evT (B 2 rfl) f0) rfl (qz S)
 exact X4 fun S B => Y2 U3 (evT (B 4 rfl) d7) rfl (qz S)
 exact Y7 fun S V => Y0 (s1) Q7 (eM (V 7 32 rfl rfl)) (S.get (mR (mR (mR (mR mL))))) rfl rfl (qz S)
 exact X4 fun S B => Z3 (vI a4) (evT (B 9 rfl) d8) rfl (qz S)
 exact Y7 fun S V => X5 R9 rfl (eM (V 8 33 rfl rfl)) a00 (eM (V 9 34 rfl rfl)) (by omega) (by omega) rfl (qz S)
 exact Y7 fun S V => Y2 Ze3 (eM (V 10 35 rfl rfl)) rfl (qz S)
 exact P0 fun s S V => Y0 (vI ((rd a1 a4).2)) ty2 (eM (V 11 36 rfl rfl)) (S.froz _ _ (s.1 _ _ a01)) (a02 8 (show 8 < 9 by decide)) rfl (qz S)
 exact Y7 fun S V => Zg4 (IntKind.i64.wrap (a2 * (rd a1 a4).2)) (eM (V 6 31 rfl rfl)) (eM (V 12 37 rfl rfl)) rfl rfl (qz S)
 intro _ _ a62 _ a05 hS _ a06 hcq
 have Z4 := Sub.refl a62
 have Zb3 := K5.trans a05
 refine X3 call209 (R3 (eM (a06 13 38 rfl rfl))) rfl (D2 a03  hS) ?_
 rintro _ _ _ a07 hS rfl
 have Z4 := Z4.trans a07
 exact Z2 ⟨39, _, _, rfl, rfl, Z4, hS, rfl⟩
 exact Y7 fun S V => W2 (IntKind.i64.wrap ((rd a0 a3).2 + j3)) (eM (V 5 30 rfl rfl)) (eM (V 14 39 rfl rfl)) rfl rfl (qz S)
 intro _ _ a63 _ a08 hS _ a09 hcq
 have Z4 := Sub.refl a63
 have Zb3 := K5.trans a08
 refine X3 call209 (R3 (eM (a09 15 40 rfl rfl))) rfl (D2 a04  hS) ?_
 rintro _ _ _ a10 hS rfl
 have Z4 := Z4.trans a10
 exact Z2 ⟨41, _, _, rfl, rfl, Z4, hS, rfl⟩
 exact Y7 fun S V => Z5 (vI c3) (eM (V 16 41 rfl rfl)) rfl (qz S)
 intro a64 a65 t5 j0 hS f3 a11 hcq
 have hS : St t5 a65 (a9 ++ ([(c4, cA ([a7]) 45)] ++ ([(b7, cA ([vN]) 45)] ++ ([(b4, cA ([s1]) 45)] ++ ([(b1, cA ([s0]) 45)] ++ L))))) := hS
 have Z4 := Z4.trans j0
 have b5 := b5.mono j0
 have b2 := b2.mono j0
 have a5 := a5.mono j0
 have t6 := evT (f3 2 rfl) f0
 have o2 := evT (f3 3 rfl) g6
 have t7 := evT (f3 4 rfl) d7
 have t8 := evT (f3 6 rfl) i5
 have o3 := evT (f3 7 rfl) g7
 have o4 := evT (f3 8 rfl) g8
 have t9 := evT (f3 9 rfl) d8
 have u0 : tv a64 11 = vI c3 := a11 17 11 (by decide) rfl
 refine Z2 (Z1 (Z0 (Z3 (vI c3) (by exact u0) rfl ?_)))
 refine M0 (k := .i64) (a := c3) (b := 0) rfl rfl rfl (Z2 ?_)
 refine N4 (fun f w => ∃ (c0 : MpT) (H1 : FH) (c6 : OL) (c7 : Value), Zj5 K (Q0 K a0 a1 a2 k) a3 a4 c0 = some h7 ∧ Sub H H1 ∧ St H1 w (c6 ++ ([(c4, cA ([c7]) 45)] ++ ([(b7, cA ([vN]) 45)] ++ ([(b4, cA ([s1]) 45)] ++ ([(b1, cA ([s0]) 45)] ++ L))))) ∧ X8 yT 78 H1 c7 c0 c6 ∧ Y3 yT H1 s0 a0 ∧ Y3 yT H1 s1 a1 ∧ tv f 2 = vI a2 ∧ tv f 3 = vP b1 ∧ tv f 4 = vP b4 ∧ tv f 6 = vP b7 ∧ tv f 7 = vP c4 ∧ tv f 8 = vI a3 ∧ tv f 9 = vI a4) ?_ ?_
 rintro _ _ ⟨c0, u1, c6, c7, j6, Z4, hS, g9, b2, b5, q9, r0, r1, r2, r3, r4, r5⟩
 unfold Zj5 at j6
 refine Z1 (Z0 (Z3 (vI a3) (by exact r4) rfl ?_))
 refine W2 (IntKind.i64.wrap (a3 + 1)) rfl rfl rfl rfl (Z5 (vI (IntKind.i64.wrap (a3 + 1))) rfl rfl (Z2 (Z0 (Z3 (vI a4) (by exact r5) rfl ?_))))
 refine W2 (IntKind.i64.wrap (a4 + 1)) rfl rfl rfl rfl (Z5 (vI (IntKind.i64.wrap (a4 + 1))) rfl rfl (Z2 (X1 (X1 ?_))))
 exact o7 _ _ ⟨(IntKind.i64.wrap (a3 + 1)), c0, (IntKind.i64.wrap (a4 + 1)), u1, c6, c7, j6, Z4, hS, g9, b2, b5, q9, r0, r1, r2, r3, rfl, rfl⟩
 intro u2
 obtain ⟨l3, a8⟩ | ⟨l3, a8⟩ := ic a8
 refine Z7 (bN l3 rfl) (Y6 ?_)
 exact u2 _ _ ⟨a6, t5, a9, a7, a8, Z4, hS, a5, b2, b5, t6, o2, t7, t8, o3, o4, t9⟩
 refine Z8 (bO l3 rfl) ?_
 obtain ⟨u3, u4, _, _, _, a12, a13, ⟨_, _, rfl, rfl, rfl⟩, a14⟩ := b2.elem (i := a3) (by omega) (by omega)
 have K5 := Z4
 refine W7 11 (S9 [mE 44 (vP c4), mE 45 (a7), mE 46 (vP b1), mE 47 (s0), mE 48 (vI a3), mE 49 (vQ u3 u4), mE 50 (vQ u3 (u4 + 0)), mE 51 (vA (Z6 .u8 ((rd a0 a3).1))), mE 52 (vI c3), mE 53 (vA (Z6 .u8 ((rd a0 a3).1) ++ [vI c3])), (54, MP.sl yT ([((rd a0 a3).1, c3)]))]) [] mixed rfl rfl rfl hS (V9 ?_ ?_ ?_ ?_ ?_ ?_ ?_ ?_ (J2 ?_ ?_ (E8 ?_ V1))) ?_
 exact X4 fun S B => Y2 U3 (evT (B 7 rfl) o3) rfl (qz S)
 exact Y7 fun S V => Y0 (a7) Q7 (eM (V 0 44 rfl rfl)) (S.get (mR (mR mL))) rfl rfl (qz S)
 exact X4 fun S B => Y2 U3 (evT (B 3 rfl) o2) rfl (qz S)
 exact Y7 fun S V => Y0 (s0) Q7 (eM (V 2 46 rfl rfl)) (S.get (mR (mR (mR (mR (mR mL)))))) rfl rfl (qz S)
 exact X4 fun S B => Z3 (vI a3) (evT (B 8 rfl) o4) rfl (qz S)
 exact Y7 fun S V => X5 R9 rfl (eM (V 3 47 rfl rfl)) a12 (eM (V 4 48 rfl rfl)) (by omega) (by omega) rfl (qz S)
 exact Y7 fun S V => Y2 M9 (eM (V 5 49 rfl rfl)) rfl (qz S)
 exact P0 fun s S V => V0 (Z6 .u8 ((rd a0 a3).1)) P5 (eM (V 6 50 rfl rfl)) (S.froz _ _ (s.1 _ _ a13)) rfl (Zd6 ([]) (Z6 .u8 ((rd a0 a3).1)) (([vI ((rd a0 a3).2)])) a14 (nl rfl)) rfl (qz S)
 exact X4 fun S B => Z3 (vI c3) (evT (B 11 rfl) u0) rfl (qz S)
 exact Y7 fun S V => Zu1 (Z6 .u8 ((rd a0 a3).1) ++ [vI c3]) Xl8 (Zz7 (eM (V 7 51 rfl rfl)) (eM (V 8 52 rfl rfl))) (F2 rfl rfl rfl (nl rfl) (F2 rfl rfl rfl (nl rfl) (Zp8 rfl))) rfl (qz S)
 intro _ _ a66 _ a15 hS _ a16 hcq
 have Z4 := Sub.refl a66
 have Zb3 := K5.trans a15
 refine Zc2 (τ := yT) R9 Ye6 rfl [vA (Z6 .u8 ((rd a0 a3).1) ++ [vI c3])] [((rd a0 a3).1, c3)] rfl rfl (E7 (eM (a16 9 53 rfl rfl))) (Zk6 ⟨_, _, rfl, rfl, rfl⟩) (by decide) (by decide) hS rfl ?_
 intro _ _ _ a17 hS a18
 have Z4 := Z4.trans a17
 exact Z2 ⟨54, _, _, rfl, rfl, Z4, hS, a18⟩
 intro _ a67 u5 j1 hS f4 p2 hcq
 have hS : St u5 a67 (a9 ++ ([(c4, cA ([a7]) 45)] ++ ([(b7, cA ([vN]) 45)] ++ ([(b4, cA ([s1]) 45)] ++ ([(b1, cA ([s0]) 45)] ++ L))))) := hS
 have Z4 := Z4.trans j1
 have b5 := b5.mono j1
 have b2 := b2.mono j1
 have a5 := a5.mono j1
 have u6 := evT (f4 7 rfl) o3
 obtain ⟨_, a68, a19⟩ := gvS (p2 10 54 (by decide) rfl)
 obtain ⟨a20, a8⟩ := gd a8
 refine N6 (τ := yT) Xa7 rfl (by exact (eM (p2 1 45 (by decide) rfl))) (by exact a68) a5 hS a19 a20 rfl ?_
 intro o5 _ a69 p3 hS
 refine Y2 U3 (by exact u6) rfl ?_
 have hS := hS.perm R6
 refine Zd3 (v := o5) (cs := ([a7]).toArray) (cs' := ([o5]).toArray) Q7 rfl rfl hS p3.isOne rfl (nl rfl) rfl ?_
 intro _ hS
 have hS := hS.perm R6.symm
 refine Z2 ?_
 exact u2 _ _ ⟨(a6 ++ [((rd a0 a3).1, c3)]), u5, a69, o5, a8, Z4, hS, p3, b2, b5, (evT (f4 2 rfl) t6), (evT (f4 3 rfl) o2), (evT (f4 4 rfl) t7), (evT (f4 6 rfl) t8), u6, (evT (f4 8 rfl) o4), (evT (f4 9 rfl) t9)⟩
 intro u7
 have a84 := b2.bound
 obtain ⟨b8, b3⟩ | ⟨b8, b3⟩ := ic b3
 have K5 := Z4
 refine W7 21 (S9 [mE 102 (vI a3), mE 103 (vP b1), mE 104 (s0), mE 105 (vI (a0.length : Int)), mE 106 (vB (decide (a3 = (a0.length : Int)))), mE 107 (vB (decide (a3 = (a0.length : Int)))), mE 108 (undef), mE 109 (undef), mE 110 (undef), mE 111 (undef), mE 112 (undef), mE 113 (undef), mE 114 (undef), mE 115 (undef), mE 116 (undef), mE 117 (undef), mE 118 (undef), mE 119 (undef), mE 120 (undef), mE 121 (vB true), mE 101 (vB true)]) [] mixed rfl rfl rfl hS (V9 ?_ ?_ ?_ ?_ ?_ ?_ ?_ ?_ (V9 ?_ ?_ ?_ ?_ ?_ ?_ ?_ ?_ (J9 ?_ ?_ ?_ ?_ (E8 ?_ V1)))) ?_
 exact X4 fun S B => Z3 (vI a3) (evT (B 8 rfl) d2) rfl (qz S)
 exact X4 fun S B => Y2 U3 (evT (B 3 rfl) d1) rfl (qz S)
 exact Y7 fun S V => Y0 (s0) Q7 (eM (V 1 103 rfl rfl)) (S.get (mR (mR (mR (mR (mR mL)))))) rfl rfl (qz S)
 exact P0 fun s S V => X9 R9 (eM (V 2 104 rfl rfl)) (b2.mono s) rfl (qz S)
 exact Y7 fun S V => Za0 (k := .i64) (a := a3) (b := (a0.length : Int)) (eM (V 0 102 rfl rfl)) (eM (V 3 105 rfl rfl)) rfl (qz S)
 exact Y7 fun S V => Z3 (vB (decide (a3 = (a0.length : Int)))) (eM (V 4 106 rfl rfl)) rfl (qz S)
 exact Y7 fun S V => Z9 rfl rfl (bT b8 (eM (V 5 107 rfl rfl))) rfl rfl rfl (qz S)
 exact Y7 fun S V => Z9 rfl rfl (bT b8 (eM (V 5 107 rfl rfl))) rfl rfl rfl (qz S)
 exact Y7 fun S V => Z9 rfl rfl (bT b8 (eM (V 5 107 rfl rfl))) rfl rfl rfl (qz S)
 exact Y7 fun S V => Z9 rfl rfl (bT b8 (eM (V 5 107 rfl rfl))) rfl rfl rfl (qz S)
 exact Y7 fun S V => Z9 rfl rfl (bT b8 (eM (V 5 107 rfl rfl))) rfl rfl rfl (qz S)
 exact Y7 fun S V => Z9 rfl rfl (bT b8 (eM (V 5 107 rfl rfl))) rfl rfl rfl (qz S)
 exact Y7 fun S V => Z9 rfl rfl (bT b8 (eM (V 5 107 rfl rfl))) rfl rfl rfl (qz S)
 exact Y7 fun S V => Z9 rfl rfl (bT b8 (eM (V 5 107 rfl rfl))) rfl rfl rfl (qz S)
 exact Y7 fun S V => Z9 rfl rfl (bT b8 (eM (V 5 107 rfl rfl))) rfl rfl rfl (qz S)
 exact Y7 fun S V => Z9 rfl rfl (bT b8 (eM (V 5 107 rfl rfl))) rfl rfl rfl (qz S)
 exact Y7 fun S V => Z9 rfl rfl (bT b8 (eM (V 5 107 rfl rfl))) rfl rfl rfl (qz S)
 exact Y7 fun S V => Z9 rfl rfl (bT b8 (eM (V 5 107 rfl rfl))) rfl rfl rfl (qz S)
 exact Y7 fun S V => Z9 rfl rfl (bT b8 (eM (V 5 107 rfl rfl))) rfl rfl rfl (qz S)
 exact Y7 fun S V => W6 (t := true) (vB true) (bT b8 (eM (V 5 107 rfl rfl))) ((if_pos rfl).trans rfl) rfl (qz S)
 exact Y7 fun S V => Z5 (vB true) (eM (V 19 121 rfl rfl)) rfl (qz S)
 intro _ a70 u8 j2 hS f5 a21 hcq
 have hS : St u8 a70 (a9 ++ ([(c4, cA ([a7]) 45)] ++ ([(b7, cA ([vN]) 45)] ++ ([(b4, cA ([s1]) 45)] ++ ([(b1, cA ([s0]) 45)] ++ L))))) := hS
 have Z4 := Z4.trans j2
 have b5 := b5.mono j2
 have b2 := b2.mono j2
 have a5 := a5.mono j2
 refine Z2 ?_
 exact u7 _ _ ⟨true, u8, b3, Z4, hS, b2, b5, a5, (evT (f5 2 rfl) i3), (evT (f5 3 rfl) d1), (evT (f5 4 rfl) g3), (evT (f5 6 rfl) i4), (evT (f5 7 rfl) g4), (evT (f5 8 rfl) d2), (evT (f5 9 rfl) g5), (eM (a21 20 101 (by decide) rfl))⟩
 obtain ⟨_, b3⟩ := gd b3
 obtain ⟨_, b3⟩ := gd b3
 obtain ⟨u9, v0, _, _, _, a22, l4, ⟨_, _, rfl, rfl, rfl⟩, a23⟩ := b5.elem (i := a4) (by omega) (by omega)
 obtain ⟨_, b3⟩ := gd b3
 obtain ⟨_, b3⟩ := gd b3
 obtain ⟨p4, p5, _, _, _, v1, j7, ⟨_, _, rfl, rfl, rfl⟩, v2⟩ := b2.elem (i := a3) (by omega) (by omega)
 obtain ⟨e8, v3, b3⟩ := bind_some b3
 have K5 := Z4
 refine W7 21 (S9 [mE 102 (vI a3), mE 103 (vP b1), mE 104 (s0), mE 105 (vI (a0.length : Int)), mE 106 (vB (decide (a3 = (a0.length : Int)))), mE 107 (vB (decide (a3 = (a0.length : Int)))), mE 108 (vP b4), mE 109 (s1), mE 110 (vI a4), mE 111 (vQ u9 v0), mE 112 (vQ u9 (v0 + 0)), mE 113 (vA (Z6 .u8 ((rd a1 a4).1))), mE 114 (vP b1), mE 115 (s0), mE 116 (vI a3), mE 117 (vQ p4 p5), mE 118 (vQ p4 (p5 + 0)), mE 119 (vA (Z6 .u8 ((rd a0 a3).1))), mE 120 (vB e8), mE 121 (vB e8), mE 101 (vB e8)]) [] mixed rfl rfl rfl hS (V9 ?_ ?_ ?_ ?_ ?_ ?_ ?_ ?_ (V9 ?_ ?_ ?_ ?_ ?_ ?_ ?_ ?_ (J9 ?_ ?_ ?_ ?_ (E8 ?_ V1)))) ?_
 exact X4 fun S B => Z3 (vI a3) (evT (B 8 rfl) d2) rfl (qz S)
 exact X4 fun S B => Y2 U3 (evT (B 3 rfl) d1) rfl (qz S)
 exact Y7 fun S V => Y0 (s0) Q7 (eM (V 1 103 rfl rfl)) (S.get (mR (mR (mR (mR (mR mL)))))) rfl rfl (qz S)
 exact P0 fun s S V => X9 R9 (eM (V 2 104 rfl rfl)) (b2.mono s) rfl (qz S)
 exact Y7 fun S V => Za0 (k := .i64) (a := a3) (b := (a0.length : Int)) (eM (V 0 102 rfl rfl)) (eM (V 3 105 rfl rfl)) rfl (qz S)
 exact Y7 fun S V => Z3 (vB (decide (a3 = (a0.length : Int)))) (eM (V 4 106 rfl rfl)) rfl (qz S)
 exact L3 fun S B V => Y1 rfl rfl (bF b8 (eM (V 5 107 rfl rfl))) (Y2 U3 (evT (B 4 rfl) g3) rfl (qz S))
 intro _ _ a71 _ a24 hS _ p6 hcq
 have Z4 := Sub.refl a71
 have Zb3 := K5.trans a24
 refine Y1 rfl rfl (bF b8 (eM (p6 5 107 rfl rfl))) ?_
 refine Y0 (s1) Q7 (eM (p6 6 108 rfl rfl)) (hS.get (mR (mR (mR (mR mL))))) rfl rfl ?_
 exact Z2 ⟨109, _, _, rfl, rfl, Z4, hS, rfl⟩
 exact L3 fun S B V => Y1 rfl rfl (bF b8 (eM (V 5 107 rfl rfl))) (Z3 (vI a4) (evT (B 9 rfl) g5) rfl (qz S))
 intro _ _ a72 _ a25 hS _ l5 hcq
 have Z4 := Sub.refl a72
 have Zb3 := K5.trans a25
 refine Y1 rfl rfl (bF b8 (eM (l5 5 107 rfl rfl))) ?_
 refine X5 R9 rfl (eM (l5 7 109 rfl rfl)) a22 (eM (l5 8 110 rfl rfl)) (by omega) (by omega) rfl ?_
 exact Z2 ⟨111, _, _, rfl, rfl, Z4, hS, rfl⟩
 exact Y7 fun S V => Y1 rfl rfl (bF b8 (eM (V 5 107 rfl rfl))) (Y2 M9 (eM (V 9 111 rfl rfl)) rfl (qz S))
 intro _ _ a73 _ p7 hS _ p8 hcq
 have Z4 := Sub.refl a73
 have Zb3 := K5.trans p7
 have l4 := p7.1 _ _ l4
 refine Y1 rfl rfl (bF b8 (eM (p8 5 107 rfl rfl))) ?_
 refine V0 (Z6 .u8 ((rd a1 a4).1)) P5 (eM (p8 10 112 rfl rfl)) (hS.froz _ _ l4) rfl (Zd6 ([]) (Z6 .u8 ((rd a1 a4).1)) (([vI ((rd a1 a4).2)])) a23 (nl rfl)) rfl ?_
 exact Z2 ⟨113, _, _, rfl, rfl, Z4, hS, rfl⟩
 exact L3 fun S B V => Y1 rfl rfl (bF b8 (eM (V 5 107 rfl rfl))) (Y2 U3 (evT (B 3 rfl) d1) rfl (qz S))
 intro _ _ a74 _ a26 hS _ p9 hcq
 have Z4 := Sub.refl a74
 have Zb3 := K5.trans a26
 refine Y1 rfl rfl (bF b8 (eM (p9 5 107 rfl rfl))) ?_
 refine Y0 (s0) Q7 (eM (p9 12 114 rfl rfl)) (hS.get (mR (mR (mR (mR (mR mL)))))) rfl rfl ?_
 exact Z2 ⟨115, _, _, rfl, rfl, Z4, hS, rfl⟩
 exact L3 fun S B V => Y1 rfl rfl (bF b8 (eM (V 5 107 rfl rfl))) (Z3 (vI a3) (evT (B 8 rfl) d2) rfl (qz S))
 intro _ _ a75 _ a27 hS _ l6 hcq
 have Z4 := Sub.refl a75
 have Zb3 := K5.trans a27
 refine Y1 rfl rfl (bF b8 (eM (l6 5 107 rfl rfl))) ?_
 refine X5 R9 rfl (eM (l6 13 115 rfl rfl)) v1 (eM (l6 14 116 rfl rfl)) (by omega) (by omega) rfl ?_
 exact Z2 ⟨117, _, _, rfl, rfl, Z4, hS, rfl⟩
 exact Y7 fun S V => Y1 rfl rfl (bF b8 (eM (V 5 107 rfl rfl))) (Y2 M9 (eM (V 15 117 rfl rfl)) rfl (qz S))
 intro _ _ a28 _ m9 hS _ n0 hcq
 have Z4 := Sub.refl a28
 have Zb3 := K5.trans m9
 have j7 := m9.1 _ _ j7
 refine Y1 rfl rfl (bF b8 (eM (n0 5 107 rfl rfl))) ?_
 refine V0 (Z6 .u8 ((rd a0 a3).1)) P5 (eM (n0 16 118 rfl rfl)) (hS.froz _ _ j7) rfl (Zd6 ([]) (Z6 .u8 ((rd a0 a3).1)) (([vI ((rd a0 a3).2)])) v2 (nl rfl)) rfl ?_
 exact Z2 ⟨119, _, _, rfl, rfl, Z4, hS, rfl⟩
 intro _ _ a29 _ v4 hS _ j8 hcq
 have Z4 := Sub.refl a29
 have Zb3 := K5.trans v4
 refine Y1 rfl rfl (bF b8 (eM (j8 5 107 rfl rfl))) ?_
 refine X3 call229 (V2 (eM (j8 11 113 rfl rfl)) (eM (j8 17 119 rfl rfl))) rfl (Zu8 v3  hS) ?_
 rintro _ _ _ v5 hS rfl
 have Z4 := Z4.trans v5
 exact Z2 ⟨120, _, _, rfl, rfl, Z4, hS, rfl⟩
 exact Y7 fun S V => W6 (t := false) (vB e8) (bF b8 (eM (V 5 107 rfl rfl))) ((if_neg Bool.false_ne_true).trans (eM (V 18 120 rfl rfl))) rfl (qz S)
 exact Y7 fun S V => Z5 (vB e8) (eM (V 19 121 rfl rfl)) rfl (qz S)
 intro _ a30 q1 h0 hS e2 v6 hcq
 have hS : St q1 a30 (a9 ++ ([(c4, cA ([a7]) 45)] ++ ([(b7, cA ([vN]) 45)] ++ ([(b4, cA ([s1]) 45)] ++ ([(b1, cA ([s0]) 45)] ++ L))))) := hS
 have Z4 := Z4.trans h0
 have b5 := b5.mono h0
 have b2 := b2.mono h0
 have a5 := a5.mono h0
 refine Z2 ?_
 exact u7 _ _ ⟨e8, q1, b3, Z4, hS, b2, b5, a5, (evT (e2 2 rfl) i3), (evT (e2 3 rfl) d1), (evT (e2 4 rfl) g3), (evT (e2 6 rfl) i4), (evT (e2 7 rfl) g4), (evT (e2 8 rfl) d2), (evT (e2 9 rfl) g5), (eM (v6 20 101 (by decide) rfl))⟩
 intro o6
 have a79 := b5.bound
 obtain ⟨b6, b9⟩ | ⟨b6, b9⟩ := ic b9
 have K5 := Z4
 refine W7 28 (S9 [mE 62 (vI a4), mE 63 (vP b4), mE 64 (s1), mE 65 (vI (a1.length : Int)), mE 66 (vB (decide (a4 = (a1.length : Int)))), mE 67 (vB (decide (a4 = (a1.length : Int)))), mE 68 (undef), mE 69 (undef), mE 70 (undef), mE 71 (undef), mE 72 (undef), mE 73 (undef), mE 74 (undef), mE 75 (undef), mE 76 (undef), mE 77 (undef), mE 78 (undef), mE 79 (undef), mE 80 (undef), mE 81 (undef), mE 82 (undef), mE 83 (undef), mE 84 (undef), mE 85 (undef), mE 86 (undef), mE 87 (undef), mE 88 (vB true), mE 61 (vB true)]) [] mixed rfl rfl rfl hS (V9 ?_ ?_ ?_ ?_ ?_ ?_ ?_ ?_ (V9 ?_ ?_ ?_ ?_ ?_ ?_ ?_ ?_ (V9 ?_ ?_ ?_ ?_ ?_ ?_ ?_ ?_ (J9 ?_ ?_ ?_ ?_ V1)))) ?_
 exact X4 fun S B => Z3 (vI a4) (evT (B 9 rfl) d0) rfl (qz S)
 exact X4 fun S B => Y2 U3 (evT (B 4 rfl) c9) rfl (qz S)
 exact Y7 fun S V => Y0 (s1) Q7 (eM (V 1 63 rfl rfl)) (S.get (mR (mR (mR (mR mL))))) rfl rfl (qz S)
 exact P0 fun s S V => X9 R9 (eM (V 2 64 rfl rfl)) (b5.mono s) rfl (qz S)
 exact Y7 fun S V => Za0 (k := .i64) (a := a4) (b := (a1.length : Int)) (eM (V 0 62 rfl rfl)) (eM (V 3 65 rfl rfl)) rfl (qz S)
 exact Y7 fun S V => Z3 (vB (decide (a4 = (a1.length : Int)))) (eM (V 4 66 rfl rfl)) rfl (qz S)
 exact Y7 fun S V => Z9 rfl rfl (bT b6 (eM (V 5 67 rfl rfl))) rfl rfl rfl (qz S)
 exact Y7 fun S V => Z9 rfl rfl (bT b6 (eM (V 5 67 rfl rfl))) rfl rfl rfl (qz S)
 exact Y7 fun S V => Z9 rfl rfl (bT b6 (eM (V 5 67 rfl rfl))) rfl rfl rfl (qz S)
 exact Y7 fun S V => Z9 rfl rfl (bT b6 (eM (V 5 67 rfl rfl))) rfl rfl rfl (qz S)
 exact Y7 fun S V => Z9 rfl rfl (bT b6 (eM (V 5 67 rfl rfl))) rfl rfl rfl (qz S)
 exact Y7 fun S V => Z9 rfl rfl (bT b6 (eM (V 5 67 rfl rfl))) rfl rfl rfl (qz S)
 exact Y7 fun S V => U2 rfl rfl (eM (V 11 73 rfl rfl)) rfl rfl (qz S)
 exact Y7 fun S V => U2 rfl rfl (eM (V 11 73 rfl rfl)) rfl rfl (qz S)
 exact Y7 fun S V => U2 rfl rfl (eM (V 11 73 rfl rfl)) rfl rfl (qz S)
 exact Y7 fun S V => U2 rfl rfl (eM (V 11 73 rfl rfl)) rfl rfl (qz S)
 exact Y7 fun S V => U2 rfl rfl (eM (V 11 73 rfl rfl)) rfl rfl (qz S)
 exact Y7 fun S V => U2 rfl rfl (eM (V 11 73 rfl rfl)) rfl rfl (qz S)
 exact Y7 fun S V => U2 rfl rfl (eM (V 11 73 rfl rfl)) rfl rfl (qz S)
 exact Y7 fun S V => U2 rfl rfl (eM (V 11 73 rfl rfl)) rfl rfl (qz S)
 exact Y7 fun S V => U2 rfl rfl (eM (V 11 73 rfl rfl)) rfl rfl (qz S)
 exact Y7 fun S V => U2 rfl rfl (eM (V 11 73 rfl rfl)) rfl rfl (qz S)
 exact Y7 fun S V => U2 rfl rfl (eM (V 11 73 rfl rfl)) rfl rfl (qz S)
 exact Y7 fun S V => U2 rfl rfl (eM (V 11 73 rfl rfl)) rfl rfl (qz S)
 exact Y7 fun S V => U2 rfl rfl (eM (V 11 73 rfl rfl)) rfl rfl (qz S)
 exact Y7 fun S V => Z9 rfl rfl (bT b6 (eM (V 5 67 rfl rfl))) rfl rfl rfl (qz S)
 exact Y7 fun S V => W6 (t := true) (vB true) (bT b6 (eM (V 5 67 rfl rfl))) ((if_pos rfl).trans rfl) rfl (qz S)
 exact Y7 fun S V => Z5 (vB true) (eM (V 26 88 rfl rfl)) rfl (qz S)
 intro _ a31 q2 h1 hS e3 v7 hcq
 have hS : St q2 a31 (a9 ++ ([(c4, cA ([a7]) 45)] ++ ([(b7, cA ([vN]) 45)] ++ ([(b4, cA ([s1]) 45)] ++ ([(b1, cA ([s0]) 45)] ++ L))))) := hS
 have Z4 := Z4.trans h1
 have b5 := b5.mono h1
 have b2 := b2.mono h1
 have a5 := a5.mono h1
 refine Z2 ?_
 exact o6 _ _ ⟨true, q2, b9, Z4, hS, b2, b5, a5, (evT (e3 2 rfl) i2), (evT (e3 3 rfl) d5), (evT (e3 4 rfl) c9), (evT (e3 6 rfl) g1), (evT (e3 7 rfl) g2), (evT (e3 8 rfl) d6), (evT (e3 9 rfl) d0), (eM (v7 27 61 (by decide) rfl))⟩
 have a80 := b2.bound
 obtain ⟨b0, b9⟩ | ⟨b0, b9⟩ := ic b9
 obtain ⟨_, b9⟩ := gd b9
 obtain ⟨q3, q4, _, _, _, v8, j9, ⟨_, _, rfl, rfl, rfl⟩, v9⟩ := b2.elem (i := a3) (by omega) (by omega)
 obtain ⟨_, b9⟩ := gd b9
 obtain ⟨_, b9⟩ := gd b9
 obtain ⟨q5, q6, _, _, _, w0, k0, ⟨_, _, rfl, rfl, rfl⟩, w1⟩ := b5.elem (i := a4) (by omega) (by omega)
 obtain ⟨d3, w2, b9⟩ := bind_some b9
 have K5 := Z4
 refine W7 28 (S9 [mE 62 (vI a4), mE 63 (vP b4), mE 64 (s1), mE 65 (vI (a1.length : Int)), mE 66 (vB (decide (a4 = (a1.length : Int)))), mE 67 (vB (decide (a4 = (a1.length : Int)))), mE 68 (vI a3), mE 69 (vP b1), mE 70 (s0), mE 71 (vI (a0.length : Int)), mE 72 (vB (decide (a3 < (a0.length : Int)))), mE 73 (vB (decide (a3 < (a0.length : Int)))), mE 74 (vP b1), mE 75 (s0), mE 76 (vI a3), mE 77 (vQ q3 q4), mE 78 (vQ q3 (q4 + 0)), mE 79 (vA (Z6 .u8 ((rd a0 a3).1))), mE 80 (vP b4), mE 81 (s1), mE 82 (vI a4), mE 83 (vQ q5 q6), mE 84 (vQ q5 (q6 + 0)), mE 85 (vA (Z6 .u8 ((rd a1 a4).1))), mE 86 (vB d3), mE 87 (vB d3), mE 88 (vB d3), mE 61 (vB d3)]) [] mixed rfl rfl rfl hS (V9 ?_ ?_ ?_ ?_ ?_ ?_ ?_ ?_ (V9 ?_ ?_ ?_ ?_ ?_ ?_ ?_ ?_ (V9 ?_ ?_ ?_ ?_ ?_ ?_ ?_ ?_ (J9 ?_ ?_ ?_ ?_ V1)))) ?_
 exact X4 fun S B => Z3 (vI a4) (evT (B 9 rfl) d0) rfl (qz S)
 exact X4 fun S B => Y2 U3 (evT (B 4 rfl) c9) rfl (qz S)
 exact Y7 fun S V => Y0 (s1) Q7 (eM (V 1 63 rfl rfl)) (S.get (mR (mR (mR (mR mL))))) rfl rfl (qz S)
 exact P0 fun s S V => X9 R9 (eM (V 2 64 rfl rfl)) (b5.mono s) rfl (qz S)
 exact Y7 fun S V => Za0 (k := .i64) (a := a4) (b := (a1.length : Int)) (eM (V 0 62 rfl rfl)) (eM (V 3 65 rfl rfl)) rfl (qz S)
 exact Y7 fun S V => Z3 (vB (decide (a4 = (a1.length : Int)))) (eM (V 4 66 rfl rfl)) rfl (qz S)
 exact L3 fun S B V => Y1 rfl rfl (bF b6 (eM (V 5 67 rfl rfl))) (Z3 (vI a3) (evT (B 8 rfl) d6) rfl (qz S))
 exact L3 fun S B V => Y1 rfl rfl (bF b6 (eM (V 5 67 rfl rfl))) (Y2 U3 (evT (B 3 rfl) d5) rfl (qz S))
 intro h2 a32 l7 a33 k1 hS w3 f7 hcq
 have Z4 := Sub.refl l7
 have Zb3 := K5.trans k1
 have l9 : tv h2 67 = vB (decide (a4 = (a1.length : Int))) := f7 5 67 rfl rfl
 have m0 : tv h2 69 = vP b1 := f7 7 69 rfl rfl
 refine Y1 rfl rfl (bF b6 l9) ?_
 refine Y0 (s0) Q7 m0 (hS.get (mR (mR (mR (mR (mR mL)))))) rfl rfl ?_
 exact Z2 ⟨70, _, _, rfl, rfl, Z4, hS, rfl⟩
 intro h3 a34 m2 a35 f8 hS w4 f9 hcq
 have Z4 := Sub.refl m2
 have Zb3 := K5.trans f8
 have b2 := b2.mono f8
 have m3 : tv h3 67 = vB (decide (a4 = (a1.length : Int))) := f9 5 67 rfl rfl
 have m4 : tv h3 70 = s0 := f9 8 70 rfl rfl
 refine Y1 rfl rfl (bF b6 m3) ?_
 refine X9 R9 m4 b2 rfl ?_
 exact Z2 ⟨71, _, _, rfl, rfl, Z4, hS, rfl⟩
 intro f6 a36 m5 a37 k2 hS w5 e4 hcq
 have Z4 := Sub.refl m5
 have Zb3 := K5.trans k2
 have m6 : tv f6 67 = vB (decide (a4 = (a1.length : Int))) := e4 5 67 rfl rfl
 have m7 : tv f6 68 = vI a3 := e4 6 68 rfl rfl
 have m8 : tv f6 71 = vI (a0.length : Int) := e4 9 71 rfl rfl
 refine Y1 rfl rfl (bF b6 m6) ?_
 refine W8 (k := .i64) (a := a3) (b := (a0.length : Int)) m7 m8 rfl ?_
 exact Z2 ⟨72, _, _, rfl, rfl, Z4, hS, rfl⟩
 exact Y7 fun S V => Y1 rfl rfl (bF b6 (eM (V 5 67 rfl rfl))) (Z3 (vB (decide (a3 < (a0.length : Int)))) (eM (V 10 72 rfl rfl)) rfl (qz S))
 exact L3 fun S B V => Y1 rfl rfl (bT b0 (eM (V 11 73 rfl rfl))) (Y2 U3 (evT (B 3 rfl) d5) rfl (qz S))
 intro _ _ a38 _ w6 hS _ n1 hcq
 have Z4 := Sub.refl a38
 have Zb3 := K5.trans w6
 refine Y1 rfl rfl (bT b0 (eM (n1 11 73 rfl rfl))) ?_
 refine Y0 (s0) Q7 (eM (n1 12 74 rfl rfl)) (hS.get (mR (mR (mR (mR (mR mL)))))) rfl rfl ?_
 exact Z2 ⟨75, _, _, rfl, rfl, Z4, hS, rfl⟩
 exact L3 fun S B V => Y1 rfl rfl (bT b0 (eM (V 11 73 rfl rfl))) (Z3 (vI a3) (evT (B 8 rfl) d6) rfl (qz S))
 intro _ _ a39 _ w7 hS _ k3 hcq
 have Z4 := Sub.refl a39
 have Zb3 := K5.trans w7
 refine Y1 rfl rfl (bT b0 (eM (k3 11 73 rfl rfl))) ?_
 refine X5 R9 rfl (eM (k3 13 75 rfl rfl)) v8 (eM (k3 14 76 rfl rfl)) (by omega) (by omega) rfl ?_
 exact Z2 ⟨77, _, _, rfl, rfl, Z4, hS, rfl⟩
 exact Y7 fun S V => Y1 rfl rfl (bT b0 (eM (V 11 73 rfl rfl))) (Y2 M9 (eM (V 15 77 rfl rfl)) rfl (qz S))
 intro _ _ a40 _ n2 hS _ n3 hcq
 have Z4 := Sub.refl a40
 have Zb3 := K5.trans n2
 have j9 := n2.1 _ _ j9
 refine Y1 rfl rfl (bT b0 (eM (n3 11 73 rfl rfl))) ?_
 refine V0 (Z6 .u8 ((rd a0 a3).1)) P5 (eM (n3 16 78 rfl rfl)) (hS.froz _ _ j9) rfl (Zd6 ([]) (Z6 .u8 ((rd a0 a3).1)) (([vI ((rd a0 a3).2)])) v9 (nl rfl)) rfl ?_
 exact Z2 ⟨79, _, _, rfl, rfl, Z4, hS, rfl⟩
 exact L3 fun S B V => Y1 rfl rfl (bT b0 (eM (V 11 73 rfl rfl))) (Y2 U3 (evT (B 4 rfl) c9) rfl (qz S))
 intro _ _ a41 _ w8 hS _ n4 hcq
 have Z4 := Sub.refl a41
 have Zb3 := K5.trans w8
 refine Y1 rfl rfl (bT b0 (eM (n4 11 73 rfl rfl))) ?_
 refine Y0 (s1) Q7 (eM (n4 18 80 rfl rfl)) (hS.get (mR (mR (mR (mR mL))))) rfl rfl ?_
 exact Z2 ⟨81, _, _, rfl, rfl, Z4, hS, rfl⟩
 exact L3 fun S B V => Y1 rfl rfl (bT b0 (eM (V 11 73 rfl rfl))) (Z3 (vI a4) (evT (B 9 rfl) d0) rfl (qz S))
 intro _ _ a42 _ w9 hS _ k4 hcq
 have Z4 := Sub.refl a42
 have Zb3 := K5.trans w9
 refine Y1 rfl rfl (bT b0 (eM (k4 11 73 rfl rfl))) ?_
 refine X5 R9 rfl (eM (k4 19 81 rfl rfl)) w0 (eM (k4 20 82 rfl rfl)) (by omega) (by omega) rfl ?_
 exact Z2 ⟨83, _, _, rfl, rfl, Z4, hS, rfl⟩
 exact Y7 fun S V => Y1 rfl rfl (bT b0 (eM (V 11 73 rfl rfl))) (Y2 M9 (eM (V 21 83 rfl rfl)) rfl (qz S))
 intro _ _ a43 _ n5 hS _ n6 hcq
 have Z4 := Sub.refl a43
 have Zb3 := K5.trans n5
 have k0 := n5.1 _ _ k0
 refine Y1 rfl rfl (bT b0 (eM (n6 11 73 rfl rfl))) ?_
 refine V0 (Z6 .u8 ((rd a1 a4).1)) P5 (eM (n6 22 84 rfl rfl)) (hS.froz _ _ k0) rfl (Zd6 ([]) (Z6 .u8 ((rd a1 a4).1)) (([vI ((rd a1 a4).2)])) w1 (nl rfl)) rfl ?_
 exact Z2 ⟨85, _, _, rfl, rfl, Z4, hS, rfl⟩
 intro _ _ a44 _ x0 hS _ k5 hcq
 have Z4 := Sub.refl a44
 have Zb3 := K5.trans x0
 refine Y1 rfl rfl (bT b0 (eM (k5 11 73 rfl rfl))) ?_
 refine X3 call229 (V2 (eM (k5 17 79 rfl rfl)) (eM (k5 23 85 rfl rfl))) rfl (Zu8 w2  hS) ?_
 rintro _ _ _ x1 hS rfl
 have Z4 := Z4.trans x1
 exact Z2 ⟨86, _, _, rfl, rfl, Z4, hS, rfl⟩
 intro _ _ a45 _ x2 hS _ k6 hcq
 have Z4 := Sub.refl a45
 have Zb3 := K5.trans x2
 refine Y1 rfl rfl (bF b6 (eM (k6 5 67 rfl rfl))) ?_
 refine W6 (t := true) (vB d3) (bT b0 (eM (k6 11 73 rfl rfl))) ((if_pos rfl).trans (eM (k6 24 86 rfl rfl))) rfl ?_
 exact Z2 ⟨87, _, _, rfl, rfl, Z4, hS, rfl⟩
 exact Y7 fun S V => W6 (t := false) (vB d3) (bF b6 (eM (V 5 67 rfl rfl))) ((if_neg Bool.false_ne_true).trans (eM (V 25 87 rfl rfl))) rfl (qz S)
 exact Y7 fun S V => Z5 (vB d3) (eM (V 26 88 rfl rfl)) rfl (qz S)
 intro _ a46 q7 h4 hS e5 x3 hcq
 have hS : St q7 a46 (a9 ++ ([(c4, cA ([a7]) 45)] ++ ([(b7, cA ([vN]) 45)] ++ ([(b4, cA ([s1]) 45)] ++ ([(b1, cA ([s0]) 45)] ++ L))))) := hS
 have Z4 := Z4.trans h4
 have b5 := b5.mono h4
 have b2 := b2.mono h4
 have a5 := a5.mono h4
 refine Z2 ?_
 exact o6 _ _ ⟨d3, q7, b9, Z4, hS, b2, b5, a5, (evT (e5 2 rfl) i2), (evT (e5 3 rfl) d5), (evT (e5 4 rfl) c9), (evT (e5 6 rfl) g1), (evT (e5 7 rfl) g2), (evT (e5 8 rfl) d6), (evT (e5 9 rfl) d0), (eM (x3 27 61 (by decide) rfl))⟩
 have K5 := Z4
 refine W7 28 (S9 [mE 62 (vI a4), mE 63 (vP b4), mE 64 (s1), mE 65 (vI (a1.length : Int)), mE 66 (vB (decide (a4 = (a1.length : Int)))), mE 67 (vB (decide (a4 = (a1.length : Int)))), mE 68 (vI a3), mE 69 (vP b1), mE 70 (s0), mE 71 (vI (a0.length : Int)), mE 72 (vB (decide (a3 < (a0.length : Int)))), mE 73 (vB (decide (a3 < (a0.length : Int)))), mE 74 (undef), mE 75 (undef), mE 76 (undef), mE 77 (undef), mE 78 (undef), mE 79 (undef), mE 80 (undef), mE 81 (undef), mE 82 (undef), mE 83 (undef), mE 84 (undef), mE 85 (undef), mE 86 (undef), mE 87 (vB false), mE 88 (vB false), mE 61 (vB false)]) [] mixed rfl rfl rfl hS (V9 ?_ ?_ ?_ ?_ ?_ ?_ ?_ ?_ (V9 ?_ ?_ ?_ ?_ ?_ ?_ ?_ ?_ (V9 ?_ ?_ ?_ ?_ ?_ ?_ ?_ ?_ (J9 ?_ ?_ ?_ ?_ V1)))) ?_
 exact X4 fun S B => Z3 (vI a4) (evT (B 9 rfl) d0) rfl (qz S)
 exact X4 fun S B => Y2 U3 (evT (B 4 rfl) c9) rfl (qz S)
 exact Y7 fun S V => Y0 (s1) Q7 (eM (V 1 63 rfl rfl)) (S.get (mR (mR (mR (mR mL))))) rfl rfl (qz S)
 exact P0 fun s S V => X9 R9 (eM (V 2 64 rfl rfl)) (b5.mono s) rfl (qz S)
 exact Y7 fun S V => Za0 (k := .i64) (a := a4) (b := (a1.length : Int)) (eM (V 0 62 rfl rfl)) (eM (V 3 65 rfl rfl)) rfl (qz S)
 exact Y7 fun S V => Z3 (vB (decide (a4 = (a1.length : Int)))) (eM (V 4 66 rfl rfl)) rfl (qz S)
 exact L3 fun S B V => Y1 rfl rfl (bF b6 (eM (V 5 67 rfl rfl))) (Z3 (vI a3) (evT (B 8 rfl) d6) rfl (qz S))
 exact L3 fun S B V => Y1 rfl rfl (bF b6 (eM (V 5 67 rfl rfl))) (Y2 U3 (evT (B 3 rfl) d5) rfl (qz S))
 intro h2 a32 l7 a33 k1 hS w3 f7 hcq
 have Z4 := Sub.refl l7
 have Zb3 := K5.trans k1
 have l9 : tv h2 67 = vB (decide (a4 = (a1.length : Int))) := f7 5 67 rfl rfl
 have m0 : tv h2 69 = vP b1 := f7 7 69 rfl rfl
 refine Y1 rfl rfl (bF b6 l9) ?_
 refine Y0 (s0) Q7 m0 (hS.get (mR (mR (mR (mR (mR mL)))))) rfl rfl ?_
 exact Z2 ⟨70, _, _, rfl, rfl, Z4, hS, rfl⟩
 intro h3 a34 m2 a35 f8 hS w4 f9 hcq
 have Z4 := Sub.refl m2
 have Zb3 := K5.trans f8
 have b2 := b2.mono f8
 have m3 : tv h3 67 = vB (decide (a4 = (a1.length : Int))) := f9 5 67 rfl rfl
 have m4 : tv h3 70 = s0 := f9 8 70 rfl rfl
 refine Y1 rfl rfl (bF b6 m3) ?_
 refine X9 R9 m4 b2 rfl ?_
 exact Z2 ⟨71, _, _, rfl, rfl, Z4, hS, rfl⟩
 intro f6 a36 m5 a37 k2 hS w5 e4 hcq
 have Z4 := Sub.refl m5
 have Zb3 := K5.trans k2
 have m6 : tv f6 67 = vB (decide (a4 = (a1.length : Int))) := e4 5 67 rfl rfl
 have m7 : tv f6 68 = vI a3 := e4 6 68 rfl rfl
 have m8 : tv f6 71 = vI (a0.length : Int) := e4 9 71 rfl rfl
 refine Y1 rfl rfl (bF b6 m6) ?_
 refine W8 (k := .i64) (a := a3) (b := (a0.length : Int)) m7 m8 rfl ?_
 exact Z2 ⟨72, _, _, rfl, rfl, Z4, hS, rfl⟩
 exact Y7 fun S V => Y1 rfl rfl (bF b6 (eM (V 5 67 rfl rfl))) (Z3 (vB (decide (a3 < (a0.length : Int)))) (eM (V 10 72 rfl rfl)) rfl (qz S))
 exact Y7 fun S V => Z9 rfl rfl (bF b0 (eM (V 11 73 rfl rfl))) rfl rfl rfl (qz S)
 exact Y7 fun S V => Z9 rfl rfl (bF b0 (eM (V 11 73 rfl rfl))) rfl rfl rfl (qz S)
 exact Y7 fun S V => Z9 rfl rfl (bF b0 (eM (V 11 73 rfl rfl))) rfl rfl rfl (qz S)
 exact Y7 fun S V => Z9 rfl rfl (bF b0 (eM (V 11 73 rfl rfl))) rfl rfl rfl (qz S)
 exact Y7 fun S V => Z9 rfl rfl (bF b0 (eM (V 11 73 rfl rfl))) rfl rfl rfl (qz S)
 exact Y7 fun S V => Z9 rfl rfl (bF b0 (eM (V 11 73 rfl rfl))) rfl rfl rfl (qz S)
 exact Y7 fun S V => Z9 rfl rfl (bF b0 (eM (V 11 73 rfl rfl))) rfl rfl rfl (qz S)
 exact Y7 fun S V => Z9 rfl rfl (bF b0 (eM (V 11 73 rfl rfl))) rfl rfl rfl (qz S)
 exact Y7 fun S V => Z9 rfl rfl (bF b0 (eM (V 11 73 rfl rfl))) rfl rfl rfl (qz S)
 exact Y7 fun S V => Z9 rfl rfl (bF b0 (eM (V 11 73 rfl rfl))) rfl rfl rfl (qz S)
 exact Y7 fun S V => Z9 rfl rfl (bF b0 (eM (V 11 73 rfl rfl))) rfl rfl rfl (qz S)
 exact Y7 fun S V => Z9 rfl rfl (bF b0 (eM (V 11 73 rfl rfl))) rfl rfl rfl (qz S)
 exact Y7 fun S V => Z9 rfl rfl (bF b0 (eM (V 11 73 rfl rfl))) rfl rfl rfl (qz S)
 intro _ _ a47 _ x4 hS _ n7 hcq
 have Z4 := Sub.refl a47
 have Zb3 := K5.trans x4
 refine Y1 rfl rfl (bF b6 (eM (n7 5 67 rfl rfl))) ?_
 refine W6 (t := false) (vB false) (bF b0 (eM (n7 11 73 rfl rfl))) ((if_neg Bool.false_ne_true).trans rfl) rfl ?_
 exact Z2 ⟨87, _, _, rfl, rfl, Z4, hS, rfl⟩
 exact Y7 fun S V => W6 (t := false) (vB false) (bF b6 (eM (V 5 67 rfl rfl))) ((if_neg Bool.false_ne_true).trans (eM (V 25 87 rfl rfl))) rfl (qz S)
 exact Y7 fun S V => Z5 (vB false) (eM (V 26 88 rfl rfl)) rfl (qz S)
 intro _ a48 q8 h5 hS e6 x5 hcq
 have hS : St q8 a48 (a9 ++ ([(c4, cA ([a7]) 45)] ++ ([(b7, cA ([vN]) 45)] ++ ([(b4, cA ([s1]) 45)] ++ ([(b1, cA ([s0]) 45)] ++ L))))) := hS
 have Z4 := Z4.trans h5
 have b5 := b5.mono h5
 have b2 := b2.mono h5
 have a5 := a5.mono h5
 refine Z2 ?_
 exact o6 _ _ ⟨false, q8, b9, Z4, hS, b2, b5, a5, (evT (e6 2 rfl) i2), (evT (e6 3 rfl) d5), (evT (e6 4 rfl) c9), (evT (e6 6 rfl) g1), (evT (e6 7 rfl) g2), (evT (e6 8 rfl) d6), (evT (e6 9 rfl) d0), (eM (x5 27 61 (by decide) rfl))⟩
 refine Z7 (Eq.trans (by exact j4) (congrArg vB (W1 n8))) ?_
 refine X7 rfl ?_
 obtain rfl := oi b9
 exact hx0 _ _ ⟨a6, s2, a9, a7, rfl, Z4, hS, a5, b2, b5, g1, g2⟩
 intro x6
 refine Z0 (Z3 (vI a3) (by exact i0) rfl (Y2 U3 (by exact h8) rfl ?_))
 refine Y0 (s0) Q7 rfl (hS.get (mR (mR (mR (mR mL))))) rfl rfl ?_
 have a81 := b2.bound
 refine X9 R9 rfl b2 rfl ?_
 refine W8 (k := .i64) (a := a3) (b := (a0.length : Int)) rfl rfl rfl (Z3 (vB (decide (a3 < (a0.length : Int)))) rfl rfl ?_)
 obtain ⟨c2, e1⟩ | ⟨c2, e1⟩ := ic e1
 refine Z9 rfl rfl (bT c2 rfl) rfl rfl rfl (Z9 rfl rfl (bT c2 rfl) rfl rfl rfl (Z9 rfl rfl (bT c2 rfl) rfl rfl rfl (Z9 rfl rfl (bT c2 rfl) rfl rfl rfl (Z9 rfl rfl (bT c2 rfl) rfl rfl rfl ?_))))
 refine W6 (t := true) (vB true) (bT c2 rfl) ((if_pos rfl).trans rfl) rfl (Z2 ?_)
 exact x6 _ _ ⟨true, r9, e1, Z4, hS, b2, b5, a5, k7, h8, h9, k8, k9, i0, i1, rfl⟩
 refine Y1 rfl rfl (bF c2 rfl) (Z3 (vI a4) (by exact i1) rfl ?_)
 refine Y1 rfl rfl (bF c2 rfl) (Y2 U3 (by exact h9) rfl ?_)
 refine Y1 rfl rfl (bF c2 rfl) ?_
 refine Y0 (s1) Q7 rfl (hS.get (mR (mR (mR mL)))) rfl rfl ?_
 have a82 := b5.bound
 refine Y1 rfl rfl (bF c2 rfl) ?_
 refine X9 R9 rfl b5 rfl ?_
 refine Y1 rfl rfl (bF c2 rfl) ?_
 refine W8 (k := .i64) (a := a4) (b := (a1.length : Int)) rfl rfl rfl ?_
 refine W6 (t := false) (vB (decide (a4 < (a1.length : Int)))) (bF c2 rfl) ((if_neg Bool.false_ne_true).trans rfl) rfl (Z2 ?_)
 exact x6 _ _ ⟨(decide (a4 < (a1.length : Int))), r9, e1, Z4, hS, b2, b5, a5, k7, h8, h9, k8, k9, i0, i1, rfl⟩
 exact ⟨0, ([] : List (A8 × Int)), 0, H, ([]), (vN), e1, Z4, hS, r7, b2, b5, rfl, rfl, rfl, rfl, rfl, rfl, rfl⟩
 rintro _ _ ⟨c5, _, e9, c1, rfl, Z4, hS, g0, b2, b5, l0, r6⟩
 dsimp only [Ex.elim] at r8
 refine Z1 (Z0 ?_)
 refine W3 Q4 (by exact r6) (hS.get (mR mL)) rfl rfl ?_
 have hS := hS.perm Zb1
 refine W4 (v := vA ([c1])) (vs := ([c1]).toArray) (cs := ([vN]).toArray) Q4 (by exact l0) rfl rfl hS rfl (Zb5 g0.isOne) rfl ?_
 intro _ hS
 have hS := hS.perm Zb1.symm
 refine Z2 ?_
 refine Y9 (vs := [vA ([c1])]) func196 ⟨⟨_, (by exact l0), P1 Q4 (hS.get (mR (mR mL))) rfl⟩, trivial⟩ ?_
 obtain ⟨a49, x7, hS, h6⟩ := X8.freezeF (τ := yT) (H0 := H) g0 hS Z4
 have a83 := Y3.old h6
 have h6 : RdF yT H a49 c1 c5 := h6
 have Z4 := Z4.trans x7
 obtain rfl := oi r8
 exact ⟨_, _, rfl, Z4, (St.dropA (St.dropA (St.dropA (St.dropA hS)))), ⟨_, rfl, ⟨_, rfl, h6⟩⟩⟩
end Go.Proofs.YtabofnehiclkiaaGreat
