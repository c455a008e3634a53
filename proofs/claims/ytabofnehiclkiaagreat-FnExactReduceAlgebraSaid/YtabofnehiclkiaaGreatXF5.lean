/- Walks of functions: each computes its pure function, if that gives a value. -/
import Derived.Test.YtabofnehiclkiaaGreatXTy
import Derived.Test.YtabofnehiclkiaaGreatXF3
namespace Go.Proofs.YtabofnehiclkiaaGreat
open Go
set_option linter.unusedSimpArgs false
set_option linter.unusedVariables false
set_option maxRecDepth 100000
set_option maxHeartbeats 8000000
variable {K : Nat} {H : FH} {w : World} {L : OL} {s0 s1 s2 s3 s4 s5 s6 : Value}
def Zn8 (K : Nat) (e7 : Int → MpT → Int → Option (Ex MpT (MpT))) (a3 : Int) (a4 : Int) (c0 : MpT) : Option (Ex MpT (MpT)) := e7 (IntKind.i64.wrap (a3 + 1)) c0 (IntKind.i64.wrap (a4 + 1))
def Zc4 (K : Nat) (e7 : Int → MpT → Int → Option (Ex MpT (MpT))) (a0 : MpT) (a1 : MpT) (a2 : Int) (a3 : Int) (a4 : Int) (a6 : MpT) (d4 : Bool) : Option (Ex MpT (MpT)) := (if d4 = true then (if 0 ≤ a4 then (if a4 < (a1.length : Int) then ((Zc0 K (IntKind.i64.wrap (a2 * (rd a1 a4).2))).bind fun c8 => (if c8 = 0 then e7 a3 a6 (IntKind.i64.wrap (a4 + 1)) else (if a6.length + ([((rd a1 a4).1, c8)]).length ≤ 1099511627776 then e7 a3 (a6 ++ [((rd a1 a4).1, c8)]) (IntKind.i64.wrap (a4 + 1)) else none))) else none) else none) else (if 0 ≤ a3 then (if a3 < (a0.length : Int) then (if 0 ≤ a4 then (if a4 < (a1.length : Int) then ((Zc0 K (IntKind.i64.wrap (a2 * (rd a1 a4).2))).bind fun j3 => ((Zc0 K (IntKind.i64.wrap ((rd a0 a3).2 + j3))).bind fun c3 => (if c3 = 0 then Zn8 K (e7) a3 a4 a6 else (if a6.length + ([((rd a0 a3).1, c3)]).length ≤ 1099511627776 then Zn8 K (e7) a3 a4 (a6 ++ [((rd a0 a3).1, c3)]) else none)))) else none) else none) else none) else none))
def B6 (K : Nat) (e7 : Int → MpT → Int → Option (Ex MpT (MpT))) (a0 : MpT) (a1 : MpT) (a2 : Int) (a3 : Int) (a4 : Int) (a6 : MpT) (d9 : Bool) : Option (Ex MpT (MpT)) := (if d9 = true then (if 0 ≤ a3 then (if a3 < (a0.length : Int) then (if a6.length + ([((rd a0 a3).1, (rd a0 a3).2)]).length ≤ 1099511627776 then e7 (IntKind.i64.wrap (a3 + 1)) (a6 ++ [((rd a0 a3).1, (rd a0 a3).2)]) a4 else none) else none) else none) else (if a3 = (a0.length : Int) then Zc4 K (e7) a0 a1 a2 a3 a4 a6 true else (if 0 ≤ a4 then (if a4 < (a1.length : Int) then (if 0 ≤ a3 then (if a3 < (a0.length : Int) then ((Zh7 K ((rd a1 a4).1) ((rd a0 a3).1)).bind fun e8 => Zc4 K (e7) a0 a1 a2 a3 a4 a6 e8) else none) else none) else none) else none)))
def Zk0 (K : Nat) (e7 : Int → MpT → Int → Option (Ex MpT (MpT))) (a0 : MpT) (a1 : MpT) (a2 : Int) (a3 : Int) (a4 : Int) (a6 : MpT) (e0 : Bool) : Option (Ex MpT (MpT)) := (if e0 = true then (if a4 = (a1.length : Int) then B6 K (e7) a0 a1 a2 a3 a4 a6 true else (if a3 < (a0.length : Int) then (if 0 ≤ a3 then (if 0 ≤ a4 then (if a4 < (a1.length : Int) then ((Zh7 K ((rd a0 a3).1) ((rd a1 a4).1)).bind fun d3 => B6 K (e7) a0 a1 a2 a3 a4 a6 d3) else none) else none) else none) else B6 K (e7) a0 a1 a2 a3 a4 a6 false)) else some (.go a6))
def Q7 (K : Nat) (a0 : MpT) (a1 : MpT) (a2 : Int) : Nat → Int → MpT → Int → Option (Ex MpT (MpT))
 | 0, _, _, _ => none
 | k + 1, a3, a6, a4 => (if a3 < (a0.length : Int) then Zk0 K (Q7 K a0 a1 a2 k) a0 a1 a2 a3 a4 a6 true else Zk0 K (Q7 K a0 a1 a2 k) a0 a1 a2 a3 a4 a6 (decide (a4 < (a1.length : Int))))
def Zf6 (K : Nat) (a0 : MpT) (a1 : MpT) (a2 : Int) : Option MpT := ((Q7 K a0 a1 a2 K 0 ([] : List (A8 × Int)) 0).bind (Ex.elim (fun r => some r) (fun s => (fun (c5 : MpT) => some c5) s)))
theorem Zw7 {a0 : MpT} {a1 : MpT} {a2 : Int} {r : MpT} (q0 : Zf6 K a0 a1 a2 = some r) (b2 : Z9 yT H s0 a0) (b5 : Z9 yT H s1 a1) (hS : St H w L) :
 Calls Tryz.prog 196 #[vA ([s0]), vA ([s1]), vI a2] w (T2 (fun v G => (R.agg (Y9 yT)).p (G.new H) v r) H L) := by
 have Z3 := Sub.refl H
 refine X3 Tryz.func196 rfl Tryz.ntmps196 rfl ?_
 unfold Zf6 at q0
 refine Z2 (Z0 ?_)
 refine S3 (v := vA ([s0])) ([s0]).toArray rfl rfl hS rfl ?_
 intro b1 _ hS
 refine S3 (v := vA ([s1])) ([s1]).toArray rfl rfl hS rfl ?_
 intro b4 _ hS
 refine W6 (z := vA ([vN])) ([vN]).toArray I0.zero rfl hS rfl ?_
 intro b7 _ hS
 refine Z1 (Z2 (Z0 ?_))
 refine R6 (vA ([vN])) Yf8 rfl ?_
 refine W6 (z := vA ([vN])) ([vN]).toArray I0.zero rfl hS rfl ?_
 intro c4 _ hS
 refine X5 (v := vA ([vN])) (vs := ([vN]).toArray) (cs := ([vN]).toArray) U2 rfl rfl rfl hS rfl (U0 rfl) rfl ?_
 intro _ hS
 refine Z1 (Z2 (Z0 (Z5 (vI 0) rfl rfl (Z5 (vI 0) rfl rfl (Z1 (Z2 (Y7 ?_)))))))
 have r6 : W3 yT 78 H (.slice none 0 0) [] [] := W3.nil _ _ _
 obtain ⟨h7, e1, r7⟩ := bind_some q0
 refine W1 (id := 0) (fun k f w => ∃ (a3 : Int) (a6 : MpT) (a4 : Int) (H1 : FH) (a9 : OL) (a7 : Value), Q7 K a0 a1 a2 k a3 a6 a4 = some h7 ∧ Sub H H1 ∧ St H1 w (a9 ++ ([(c4, cA ([a7]) 45)] ++ ([(b7, cA ([vN]) 45)] ++ ([(b4, cA ([s1]) 45)] ++ ([(b1, cA ([s0]) 45)] ++ L))))) ∧ W3 yT 78 H1 a7 a6 a9 ∧ Z9 yT H1 s0 a0 ∧ Z9 yT H1 s1 a1 ∧ tv f 2 = vI a2 ∧ tv f 3 = vP b1 ∧ tv f 4 = vP b4 ∧ tv f 6 = vP b7 ∧ tv f 7 = vP c4 ∧ tv f 8 = vI a3 ∧ tv f 9 = vI a4) (fun f w => ∃ (c5 : MpT) (H1 : FH) (e9 : OL) (c1 : Value), h7 = .go c5 ∧ Sub H H1 ∧ St H1 w (e9 ++ ([(c4, cA ([c1]) 45)] ++ ([(b7, cA ([vN]) 45)] ++ ([(b4, cA ([s1]) 45)] ++ ([(b1, cA ([s0]) 45)] ++ L))))) ∧ W3 yT 78 H1 c1 c5 e9 ∧ Z9 yT H1 s0 a0 ∧ Z9 yT H1 s1 a1 ∧ tv f 6 = vP b7 ∧ tv f 7 = vP c4) rfl ?_ ?_ K ?_ ?_
 rintro f w ⟨a3, a6, a4, H1, a9, a7, e1, _⟩
 rw [Q7] at e1; cases e1
 rintro k _ _ o6 hx0 ⟨a3, a6, a4, r8, a9, a7, e1, Z3, hS, a5, b2, b5, k7, h8, h9, k8, k9, i0, i1⟩
 rw [Q7] at e1
 refine Z2 (Z2 ?_)
 refine Zb0 (fun f w => ∃ (e0 : Bool) (H1 : FH), Zk0 K (Q7 K a0 a1 a2 k) a0 a1 a2 a3 a4 a6 e0 = some h7 ∧ Sub H H1 ∧ St H1 w (a9 ++ ([(c4, cA ([a7]) 45)] ++ ([(b7, cA ([vN]) 45)] ++ ([(b4, cA ([s1]) 45)] ++ ([(b1, cA ([s0]) 45)] ++ L))))) ∧ Z9 yT H1 s0 a0 ∧ Z9 yT H1 s1 a1 ∧ W3 yT 78 H1 a7 a6 a9 ∧ tv f 2 = vI a2 ∧ tv f 3 = vP b1 ∧ tv f 4 = vP b4 ∧ tv f 6 = vP b7 ∧ tv f 7 = vP c4 ∧ tv f 8 = vI a3 ∧ tv f 9 = vI a4 ∧ tv f 24 = vB e0) ?_ ?_
 rintro _ _ ⟨e0, r9, b9, Z3, hS, b2, b5, a5, i2, d5, c9, g1, g2, d6, d0, j4⟩
 unfold Zk0 at b9
 obtain ⟨n7, b9⟩ | ⟨n7, b9⟩ := ic b9
 refine Y0 (Eq.trans (by exact j4) (congrArg vB n7)) (Y8 (Y7 (Y7 (Z2 ?_))))
 refine Zb0 (fun f w => ∃ (d9 : Bool) (H1 : FH), B6 K (Q7 K a0 a1 a2 k) a0 a1 a2 a3 a4 a6 d9 = some h7 ∧ Sub H H1 ∧ St H1 w (a9 ++ ([(c4, cA ([a7]) 45)] ++ ([(b7, cA ([vN]) 45)] ++ ([(b4, cA ([s1]) 45)] ++ ([(b1, cA ([s0]) 45)] ++ L))))) ∧ Z9 yT H1 s0 a0 ∧ Z9 yT H1 s1 a1 ∧ W3 yT 78 H1 a7 a6 a9 ∧ tv f 2 = vI a2 ∧ tv f 3 = vP b1 ∧ tv f 4 = vP b4 ∧ tv f 6 = vP b7 ∧ tv f 7 = vP c4 ∧ tv f 8 = vI a3 ∧ tv f 9 = vI a4 ∧ tv f 61 = vB d9) ?_ ?_
 rintro _ _ ⟨d9, _, b3, Z3, hS, b2, b5, a5, i3, d1, g3, i4, g4, d2, g5, j5⟩
 unfold B6 at b3
 obtain ⟨n8, b3⟩ | ⟨n8, b3⟩ := ic b3
 refine Y0 (Eq.trans (by exact j5) (congrArg vB n8)) (Z2 ?_)
 obtain ⟨_, b3⟩ := gd b3
 obtain ⟨_, b3⟩ := gd b3
 obtain ⟨b93, o93, _, _, _, a49, a50, ⟨_, _, rfl, rfl, rfl⟩, a51⟩ := b2.elem (i := a3) (by omega) (by omega)
 have U5 := Z3
 refine U1 8 (P0 [mE 89 (vP c4), mE 90 (a7), mE 91 (vP b1), mE 92 (s0), mE 93 (vI a3), mE 94 (vQ b93 o93), mE 95 (vA (Z7 .u8 ((rd a0 a3).1) ++ [vI ((rd a0 a3).2)])), (96, MP.sl yT ([((rd a0 a3).1, (rd a0 a3).2)]))]) [] mixed rfl rfl rfl hS (Z6 rfl ?_ (Z6 rfl ?_ (Z6 rfl ?_ (Z6 rfl ?_ (Z6 rfl ?_ (Z6 rfl ?_ (Z6 rfl ?_ (Z6 rfl ?_ U7)))))))) ?_
 exact W5 fun S B => Y2 V9 (evT (B 7 rfl) g4) rfl (qz S)
 exact X2 fun S V => Y3 (a7) Q4 (eM (V 0 89 rfl rfl)) (S.get (mR (mR mL))) rfl rfl (qz S)
 exact W5 fun S B => Y2 V9 (evT (B 3 rfl) d1) rfl (qz S)
 exact X2 fun S V => Y3 (s0) Q4 (eM (V 2 91 rfl rfl)) (S.get (mR (mR (mR (mR (mR mL)))))) rfl rfl (qz S)
 exact W5 fun S B => Z4 (vI a3) (evT (B 8 rfl) d2) rfl (qz S)
 exact X2 fun S V => X9 R7 rfl (eM (V 3 92 rfl rfl)) a49 (eM (V 4 93 rfl rfl)) (by omega) (by omega) rfl (qz S)
 exact E6 fun s S V => W9 (Z7 .u8 ((rd a0 a3).1) ++ [vI ((rd a0 a3).2)]) Zt9 (eM (V 5 94 rfl rfl)) (S.froz _ _ (s.1 _ _ a50)) rfl a51 rfl (qz S)
 intro _ _ a52 _ x7 hS _ x8 hcq
 have Z3 := Sub.refl a52
 have S7 := U5.trans x7
 refine D9 (τ := yT) R7 Ya6 rfl [vA (Z7 .u8 ((rd a0 a3).1) ++ [vI ((rd a0 a3).2)])] [((rd a0 a3).1, (rd a0 a3).2)] rfl rfl (K6 (eM (x8 6 95 rfl rfl))) (Zi6 ⟨_, _, rfl, rfl, rfl⟩) (by decide) (by decide) hS rfl ?_
 intro _ _ _ x9 hS y0
 have Z3 := Z3.trans x9
 exact Z1 ⟨96, _, _, rfl, rfl, Z3, hS, y0⟩
 intro _ a53 s2 i7 hS f1 o7 hcq
 have hS : St s2 a53 (a9 ++ ([(c4, cA ([a7]) 45)] ++ ([(b7, cA ([vN]) 45)] ++ ([(b4, cA ([s1]) 45)] ++ ([(b1, cA ([s0]) 45)] ++ L))))) := hS
 have Z3 := Z3.trans i7
 have b5 := b5.mono i7
 have b2 := b2.mono i7
 have a5 := a5.mono i7
 have s3 := evT (f1 7 rfl) g4
 obtain ⟨_, a54, y1⟩ := gvS (o7 7 96 (by decide) rfl)
 obtain ⟨y2, b3⟩ := gd b3
 refine N5 (τ := yT) Yw2 rfl (by exact (eM (o7 1 90 (by decide) rfl))) (by exact a54) a5 hS y1 y2 rfl ?_
 intro n9 _ a55 o8 hS
 refine Y2 V9 (by exact s3) rfl ?_
 have hS := hS.perm V1
 refine Zb3 (v := n9) (cs := ([a7]).toArray) (cs' := ([n9]).toArray) Q4 rfl rfl hS o8.isOne rfl (nl rfl) rfl ?_
 intro _ hS
 have hS := hS.perm V1.symm
 refine Z1 (Z0 (Z4 (vI a3) (by exact (evT (f1 8 rfl) d2)) rfl ?_))
 refine W8 (IntKind.i64.wrap (a3 + 1)) rfl rfl rfl rfl (Z5 (vI (IntKind.i64.wrap (a3 + 1))) rfl rfl (Z1 (X4 (X4 ?_))))
 exact o6 _ _ ⟨(IntKind.i64.wrap (a3 + 1)), (a6 ++ [((rd a0 a3).1, (rd a0 a3).2)]), a4, s2, a55, n9, b3, Z3, hS, o8, b2, b5, (evT (f1 2 rfl) i3), (evT (f1 3 rfl) d1), (evT (f1 4 rfl) g3), (evT (f1 6 rfl) i4), s3, rfl, (evT (f1 9 rfl) g5)⟩
 refine Z8 (Eq.trans (by exact j5) (congrArg vB (X8 n8))) (Z2 ?_)
 refine Zb0 (fun f w => ∃ (d4 : Bool) (H1 : FH), Zc4 K (Q7 K a0 a1 a2 k) a0 a1 a2 a3 a4 a6 d4 = some h7 ∧ Sub H H1 ∧ St H1 w (a9 ++ ([(c4, cA ([a7]) 45)] ++ ([(b7, cA ([vN]) 45)] ++ ([(b4, cA ([s1]) 45)] ++ ([(b1, cA ([s0]) 45)] ++ L))))) ∧ Z9 yT H1 s0 a0 ∧ Z9 yT H1 s1 a1 ∧ W3 yT 78 H1 a7 a6 a9 ∧ tv f 2 = vI a2 ∧ tv f 3 = vP b1 ∧ tv f 4 = vP b4 ∧ tv f 6 = vP b7 ∧ tv f 7 = vP c4 ∧ tv f 8 = vI a3 ∧ tv f 9 = vI a4 ∧ tv f 101 = vB d4) ?_ ?_
 rintro _ _ ⟨d4, _, a8, Z3, hS, b2, b5, a5, f0, g6, d7, i5, g7, g8, d8, i6⟩
 unfold Zc4 at a8
 obtain ⟨l1, a8⟩ | ⟨l1, a8⟩ := ic a8
 refine Y0 (Eq.trans (by exact i6) (congrArg vB l1)) (Z2 (Z2 (Z0 (Z4 (vI a2) (by exact f0) rfl (Y2 V9 (by exact d7) rfl ?_)))))
 refine Y3 (s1) Q4 rfl (hS.get (mR (mR (mR mL)))) rfl rfl (Z4 (vI a4) (by exact d8) rfl ?_)
 obtain ⟨_, a8⟩ := gd a8
 obtain ⟨_, a8⟩ := gd a8
 obtain ⟨_, _, _, _, _, y3, y4, ⟨_, _, rfl, rfl, rfl⟩, y5⟩ := b5.elem (i := a4) (by omega) (by omega)
 refine X9 R7 rfl rfl y3 rfl (by omega) (by omega) rfl (Y2 Ze2 rfl rfl ?_)
 refine Y3 (vI ((rd a1 a4).2)) ty2 rfl (hS.froz _ _ y4) (y5 8 (show 8 < 9 by decide)) rfl ?_
 refine Zt1 (IntKind.i64.wrap (a2 * (rd a1 a4).2)) rfl rfl rfl rfl ?_
 obtain ⟨c8, y6, a8⟩ := bind_some a8
 refine X6 Tryz.call209 (S2 rfl) rfl (Zf2 y6  hS) ?_
 rintro _ a56 _ i8 hS rfl
 have Z3 := Z3.trans i8
 have b5 := b5.mono i8
 have b2 := b2.mono i8
 have a5 := a5.mono i8
 refine Z5 (vI c8) rfl rfl (Z1 (Z2 (Z0 (Z4 (vI c8) rfl rfl ?_))))
 refine L7 (k := .i64) (a := c8) (b := 0) rfl rfl rfl (Z1 ?_)
 obtain ⟨l2, a8⟩ | ⟨l2, a8⟩ := ic a8
 refine Z8 (bN l2 rfl) (Y8 (Z0 (Z4 (vI a4) (by exact d8) rfl ?_)))
 refine W8 (IntKind.i64.wrap (a4 + 1)) rfl rfl rfl rfl (Z5 (vI (IntKind.i64.wrap (a4 + 1))) rfl rfl (Z1 (X4 (X4 ?_))))
 exact o6 _ _ ⟨a3, a6, (IntKind.i64.wrap (a4 + 1)), a56, a9, a7, a8, Z3, hS, a5, b2, b5, f0, g6, d7, i5, g7, g8, rfl⟩
 refine Y0 (bO l2 rfl) ?_
 obtain ⟨s4, s5, _, _, _, y7, y8, ⟨_, _, rfl, rfl, rfl⟩, y9⟩ := b5.elem (i := a4) (by omega) (by omega)
 have U5 := Z3
 refine U1 11 (P0 [mE 133 (vP c4), mE 134 (a7), mE 135 (vP b4), mE 136 (s1), mE 137 (vI a4), mE 138 (vQ s4 s5), mE 139 (vQ s4 (s5 + 0)), mE 140 (vA (Z7 .u8 ((rd a1 a4).1))), mE 141 (vI c8), mE 142 (vA (Z7 .u8 ((rd a1 a4).1) ++ [vI c8])), (143, MP.sl yT ([((rd a1 a4).1, c8)]))]) [] mixed rfl rfl rfl hS (Z6 rfl ?_ (Z6 rfl ?_ (Z6 rfl ?_ (Z6 rfl ?_ (Z6 rfl ?_ (Z6 rfl ?_ (Z6 rfl ?_ (Z6 rfl ?_ (Z6 rfl ?_ (Z6 rfl ?_ (Z6 rfl ?_ U7))))))))))) ?_
 exact W5 fun S B => Y2 V9 (evT (B 7 rfl) g7) rfl (qz S)
 exact X2 fun S V => Y3 (a7) Q4 (eM (V 0 133 rfl rfl)) (S.get (mR (mR mL))) rfl rfl (qz S)
 exact W5 fun S B => Y2 V9 (evT (B 4 rfl) d7) rfl (qz S)
 exact X2 fun S V => Y3 (s1) Q4 (eM (V 2 135 rfl rfl)) (S.get (mR (mR (mR (mR mL))))) rfl rfl (qz S)
 exact W5 fun S B => Z4 (vI a4) (evT (B 9 rfl) d8) rfl (qz S)
 exact X2 fun S V => X9 R7 rfl (eM (V 3 136 rfl rfl)) y7 (eM (V 4 137 rfl rfl)) (by omega) (by omega) rfl (qz S)
 exact X2 fun S V => Y2 M1 (eM (V 5 138 rfl rfl)) rfl (qz S)
 exact E6 fun s S V => W9 (Z7 .u8 ((rd a1 a4).1)) M2 (eM (V 6 139 rfl rfl)) (S.froz _ _ (s.1 _ _ y8)) rfl (Zk1 ([]) (Z7 .u8 ((rd a1 a4).1)) (([vI ((rd a1 a4).2)])) y9 (nl rfl)) rfl (qz S)
 exact W5 fun S B => Z4 (vI c8) (evT (B 10 rfl) rfl) rfl (qz S)
 exact X2 fun S V => Zl9 (Z7 .u8 ((rd a1 a4).1) ++ [vI c8]) Xf8 (Zz1 (eM (V 7 140 rfl rfl)) (eM (V 8 141 rfl rfl))) (Q5 rfl rfl rfl (nl rfl) (Q5 rfl rfl rfl (nl rfl) (Zh6 rfl))) rfl (qz S)
 intro _ _ a57 _ z0 hS _ z1 hcq
 have Z3 := Sub.refl a57
 have S7 := U5.trans z0
 refine D9 (τ := yT) R7 Ya6 rfl [vA (Z7 .u8 ((rd a1 a4).1) ++ [vI c8])] [((rd a1 a4).1, c8)] rfl rfl (K6 (eM (z1 9 142 rfl rfl))) (Zi6 ⟨_, _, rfl, rfl, rfl⟩) (by decide) (by decide) hS rfl ?_
 intro _ _ _ z2 hS z3
 have Z3 := Z3.trans z2
 exact Z1 ⟨143, _, _, rfl, rfl, Z3, hS, z3⟩
 intro _ a58 s6 i9 hS f2 o9 hcq
 have hS : St s6 a58 (a9 ++ ([(c4, cA ([a7]) 45)] ++ ([(b7, cA ([vN]) 45)] ++ ([(b4, cA ([s1]) 45)] ++ ([(b1, cA ([s0]) 45)] ++ L))))) := hS
 have Z3 := Z3.trans i9
 have b5 := b5.mono i9
 have b2 := b2.mono i9
 have a5 := a5.mono i9
 have s7 := evT (f2 7 rfl) g7
 obtain ⟨_, a59, z4⟩ := gvS (o9 10 143 (by decide) rfl)
 obtain ⟨z5, a8⟩ := gd a8
 refine N5 (τ := yT) Yw2 rfl (by exact (eM (o9 1 134 (by decide) rfl))) (by exact a59) a5 hS z4 z5 rfl ?_
 intro o0 _ a60 p0 hS
 refine Y2 V9 (by exact s7) rfl ?_
 have hS := hS.perm V1
 refine Zb3 (v := o0) (cs := ([a7]).toArray) (cs' := ([o0]).toArray) Q4 rfl rfl hS p0.isOne rfl (nl rfl) rfl ?_
 intro _ hS
 have hS := hS.perm V1.symm
 refine Z1 (Z0 (Z4 (vI a4) (by exact (evT (f2 9 rfl) d8)) rfl ?_))
 refine W8 (IntKind.i64.wrap (a4 + 1)) rfl rfl rfl rfl (Z5 (vI (IntKind.i64.wrap (a4 + 1))) rfl rfl (Z1 (X4 (X4 ?_))))
 exact o6 _ _ ⟨a3, (a6 ++ [((rd a1 a4).1, c8)]), (IntKind.i64.wrap (a4 + 1)), s6, a60, o0, a8, Z3, hS, p0, b2, b5, (evT (f2 2 rfl) f0), (evT (f2 3 rfl) g6), (evT (f2 4 rfl) d7), (evT (f2 6 rfl) i5), s7, (evT (f2 8 rfl) g8), rfl⟩
 refine Z8 (Eq.trans (by exact i6) (congrArg vB (X8 l1))) (Z2 (Z2 ?_))
 obtain ⟨_, a8⟩ := gd a8
 obtain ⟨_, a8⟩ := gd a8
 obtain ⟨s8, s9, _, _, _, z6, z7, ⟨_, _, rfl, rfl, rfl⟩, z8⟩ := b2.elem (i := a3) (by omega) (by omega)
 obtain ⟨_, a8⟩ := gd a8
 obtain ⟨_, a8⟩ := gd a8
 obtain ⟨t0, t1, _, _, _, z9, a00, ⟨_, _, rfl, rfl, rfl⟩, a01⟩ := b5.elem (i := a4) (by omega) (by omega)
 obtain ⟨j3, a02, a8⟩ := bind_some a8
 obtain ⟨c3, a03, a8⟩ := bind_some a8
 have U5 := Z3
 refine U1 18 (P0 [mE 25 (vP b1), mE 26 (s0), mE 27 (vI a3), mE 28 (vQ s8 s9), mE 29 (vQ s8 (s9 + 8)), mE 30 (vI ((rd a0 a3).2)), mE 31 (vI a2), mE 32 (vP b4), mE 33 (s1), mE 34 (vI a4), mE 35 (vQ t0 t1), mE 36 (vQ t0 (t1 + 8)), mE 37 (vI ((rd a1 a4).2)), mE 38 (vI (IntKind.i64.wrap (a2 * (rd a1 a4).2))), mE 39 (vI j3), mE 40 (vI (IntKind.i64.wrap ((rd a0 a3).2 + j3))), mE 41 (vI c3), mE 11 (vI c3)]) [] mixed rfl rfl rfl hS (Z6 rfl ?_ (Z6 rfl ?_ (Z6 rfl ?_ (Z6 rfl ?_ (Z6 rfl ?_ (Z6 rfl ?_ (Z6 rfl ?_ (Z6 rfl ?_ (Z6 rfl ?_ (Z6 rfl ?_ (Z6 rfl ?_ (Z6 rfl ?_ (Z6 rfl ?_ (Z6 rfl ?_ (Z6 rfl ?_ (Z6 rfl ?_ (Z6 rfl ?_ (Z6 rfl ?_ U7)))))))))))))))))) ?_
 exact W5 fun S B => Y2 V9 (evT (B 3 rfl) g6) rfl (qz S)
 exact X2 fun S V => Y3 (s0) Q4 (eM (V 0 25 rfl rfl)) (S.get (mR (mR (mR (mR (mR mL)))))) rfl rfl (qz S)
 exact W5 fun S B => Z4 (vI a3) (evT (B 8 rfl) g8) rfl (qz S)
 exact X2 fun S V => X9 R7 rfl (eM (V 1 26 rfl rfl)) z6 (eM (V 2 27 rfl rfl)) (by omega) (by omega) rfl (qz S)
 exact X2 fun S V => Y2 Ze2 (eM (V 3 28 rfl rfl)) rfl (qz S)
 exact E6 fun s S V => Y3 (vI ((rd a0 a3).2)) ty2 (eM (V 4 29 rfl rfl)) (S.froz _ _ (s.1 _ _ z7)) (z8 8 (show 8 < 9 by decide)) rfl (qz S)
 exact W5 fun S B => Z4 (vI a2) (evT (B 2 rfl) f0) rfl (qz S)
 exact W5 fun S B => Y2 V9 (evT (B 4 rfl) d7) rfl (qz S)
 exact X2 fun S V => Y3 (s1) Q4 (eM (V 7 32 rfl rfl)) (S.get (mR (mR (mR (mR mL))))) rfl rfl (qz S)
 exact W5 fun S B => Z4 (vI a4) (evT (B 9 rfl) d8) rfl (qz S)
 exact X2 fun S V => X9 R7 rfl (eM (V 8 33 rfl rfl)) z9 (eM (V 9 34 rfl rfl)) (by omega) (by omega) rfl (qz S)
 exact X2 fun S V => Y2 Ze2 (eM (V 10 35 rfl rfl)) rfl (qz S)
 exact E6 fun s S V => Y3 (vI ((rd a1 a4).2)) ty2 (eM (V 11 36 rfl rfl)) (S.froz _ _ (s.1 _ _ a00)) (a01 8 (show 8 < 9 by decide)) rfl (qz S)
 exact X2 fun S V => Zt1 (IntKind.i64.wrap (a2 * (rd a1 a4).2)) (eM (V 6 31 rfl rfl)) (eM (V 12 37 rfl rfl)) rfl rfl (qz S)
 intro _ _ a61 _ a04 hS _ a05 hcq
 have Z3 := Sub.refl a61
 have S7 := U5.trans a04
 refine X6 Tryz.call209 (S2 (eM (a05 13 38 rfl rfl))) rfl (Zf2 a02  hS) ?_
 rintro _ _ _ a06 hS rfl
 have Z3 := Z3.trans a06
 exact Z1 ⟨39, _, _, rfl, rfl, Z3, hS, rfl⟩
 exact X2 fun S V => W8 (IntKind.i64.wrap ((rd a0 a3).2 + j3)) (eM (V 5 30 rfl rfl)) (eM (V 14 39 rfl rfl)) rfl rfl (qz S)
 intro _ _ a62 _ a07 hS _ a08 hcq
 have Z3 := Sub.refl a62
 have S7 := U5.trans a07
 refine X6 Tryz.call209 (S2 (eM (a08 15 40 rfl rfl))) rfl (Zf2 a03  hS) ?_
 rintro _ _ _ a09 hS rfl
 have Z3 := Z3.trans a09
 exact Z1 ⟨41, _, _, rfl, rfl, Z3, hS, rfl⟩
 exact X2 fun S V => Z5 (vI c3) (eM (V 16 41 rfl rfl)) rfl (qz S)
 intro a63 a64 t4 j0 hS f3 a10 hcq
 have hS : St t4 a64 (a9 ++ ([(c4, cA ([a7]) 45)] ++ ([(b7, cA ([vN]) 45)] ++ ([(b4, cA ([s1]) 45)] ++ ([(b1, cA ([s0]) 45)] ++ L))))) := hS
 have Z3 := Z3.trans j0
 have b5 := b5.mono j0
 have b2 := b2.mono j0
 have a5 := a5.mono j0
 have t5 := evT (f3 2 rfl) f0
 have o1 := evT (f3 3 rfl) g6
 have t6 := evT (f3 4 rfl) d7
 have t7 := evT (f3 6 rfl) i5
 have o2 := evT (f3 7 rfl) g7
 have o3 := evT (f3 8 rfl) g8
 have t8 := evT (f3 9 rfl) d8
 have t9 : tv a63 11 = vI c3 := a10 17 11 (by decide) rfl
 refine Z1 (Z2 (Z0 (Z4 (vI c3) (by exact t9) rfl ?_)))
 refine L7 (k := .i64) (a := c3) (b := 0) rfl rfl rfl (Z1 ?_)
 refine Zb0 (fun f w => ∃ (c0 : MpT) (H1 : FH) (c6 : OL) (c7 : Value), Zn8 K (Q7 K a0 a1 a2 k) a3 a4 c0 = some h7 ∧ Sub H H1 ∧ St H1 w (c6 ++ ([(c4, cA ([c7]) 45)] ++ ([(b7, cA ([vN]) 45)] ++ ([(b4, cA ([s1]) 45)] ++ ([(b1, cA ([s0]) 45)] ++ L))))) ∧ W3 yT 78 H1 c7 c0 c6 ∧ Z9 yT H1 s0 a0 ∧ Z9 yT H1 s1 a1 ∧ tv f 2 = vI a2 ∧ tv f 3 = vP b1 ∧ tv f 4 = vP b4 ∧ tv f 6 = vP b7 ∧ tv f 7 = vP c4 ∧ tv f 8 = vI a3 ∧ tv f 9 = vI a4) ?_ ?_
 rintro _ _ ⟨c0, u0, c6, c7, j6, Z3, hS, g9, b2, b5, q8, q9, r0, r1, r2, r3, r4⟩
 unfold Zn8 at j6
 refine Z2 (Z0 (Z4 (vI a3) (by exact r3) rfl ?_))
 refine W8 (IntKind.i64.wrap (a3 + 1)) rfl rfl rfl rfl (Z5 (vI (IntKind.i64.wrap (a3 + 1))) rfl rfl (Z1 (Z0 (Z4 (vI a4) (by exact r4) rfl ?_))))
 refine W8 (IntKind.i64.wrap (a4 + 1)) rfl rfl rfl rfl (Z5 (vI (IntKind.i64.wrap (a4 + 1))) rfl rfl (Z1 (X4 (X4 ?_))))
 exact o6 _ _ ⟨(IntKind.i64.wrap (a3 + 1)), c0, (IntKind.i64.wrap (a4 + 1)), u0, c6, c7, j6, Z3, hS, g9, b2, b5, q8, q9, r0, r1, r2, rfl, rfl⟩
 intro u1
 obtain ⟨l3, a8⟩ | ⟨l3, a8⟩ := ic a8
 refine Z8 (bN l3 rfl) (Y8 ?_)
 exact u1 _ _ ⟨a6, t4, a9, a7, a8, Z3, hS, a5, b2, b5, t5, o1, t6, t7, o2, o3, t8⟩
 refine Y0 (bO l3 rfl) ?_
 obtain ⟨u2, u3, _, _, _, a11, a12, ⟨_, _, rfl, rfl, rfl⟩, a13⟩ := b2.elem (i := a3) (by omega) (by omega)
 have U5 := Z3
 refine U1 11 (P0 [mE 44 (vP c4), mE 45 (a7), mE 46 (vP b1), mE 47 (s0), mE 48 (vI a3), mE 49 (vQ u2 u3), mE 50 (vQ u2 (u3 + 0)), mE 51 (vA (Z7 .u8 ((rd a0 a3).1))), mE 52 (vI c3), mE 53 (vA (Z7 .u8 ((rd a0 a3).1) ++ [vI c3])), (54, MP.sl yT ([((rd a0 a3).1, c3)]))]) [] mixed rfl rfl rfl hS (Z6 rfl ?_ (Z6 rfl ?_ (Z6 rfl ?_ (Z6 rfl ?_ (Z6 rfl ?_ (Z6 rfl ?_ (Z6 rfl ?_ (Z6 rfl ?_ (Z6 rfl ?_ (Z6 rfl ?_ (Z6 rfl ?_ U7))))))))))) ?_
 exact W5 fun S B => Y2 V9 (evT (B 7 rfl) o2) rfl (qz S)
 exact X2 fun S V => Y3 (a7) Q4 (eM (V 0 44 rfl rfl)) (S.get (mR (mR mL))) rfl rfl (qz S)
 exact W5 fun S B => Y2 V9 (evT (B 3 rfl) o1) rfl (qz S)
 exact X2 fun S V => Y3 (s0) Q4 (eM (V 2 46 rfl rfl)) (S.get (mR (mR (mR (mR (mR mL)))))) rfl rfl (qz S)
 exact W5 fun S B => Z4 (vI a3) (evT (B 8 rfl) o3) rfl (qz S)
 exact X2 fun S V => X9 R7 rfl (eM (V 3 47 rfl rfl)) a11 (eM (V 4 48 rfl rfl)) (by omega) (by omega) rfl (qz S)
 exact X2 fun S V => Y2 M1 (eM (V 5 49 rfl rfl)) rfl (qz S)
 exact E6 fun s S V => W9 (Z7 .u8 ((rd a0 a3).1)) M2 (eM (V 6 50 rfl rfl)) (S.froz _ _ (s.1 _ _ a12)) rfl (Zk1 ([]) (Z7 .u8 ((rd a0 a3).1)) (([vI ((rd a0 a3).2)])) a13 (nl rfl)) rfl (qz S)
 exact W5 fun S B => Z4 (vI c3) (evT (B 11 rfl) t9) rfl (qz S)
 exact X2 fun S V => Zl9 (Z7 .u8 ((rd a0 a3).1) ++ [vI c3]) Xf8 (Zz1 (eM (V 7 51 rfl rfl)) (eM (V 8 52 rfl rfl))) (Q5 rfl rfl rfl (nl rfl) (Q5 rfl rfl rfl (nl rfl) (Zh6 rfl))) rfl (qz S)
 intro _ _ a65 _ a14 hS _ a15 hcq
 have Z3 := Sub.refl a65
 have S7 := U5.trans a14
 refine D9 (τ := yT) R7 Ya6 rfl [vA (Z7 .u8 ((rd a0 a3).1) ++ [vI c3])] [((rd a0 a3).1, c3)] rfl rfl (K6 (eM (a15 9 53 rfl rfl))) (Zi6 ⟨_, _, rfl, rfl, rfl⟩) (by decide) (by decide) hS rfl ?_
 intro _ _ _ a16 hS a17
 have Z3 := Z3.trans a16
 exact Z1 ⟨54, _, _, rfl, rfl, Z3, hS, a17⟩
 intro _ a66 u4 j1 hS f4 p1 hcq
 have hS : St u4 a66 (a9 ++ ([(c4, cA ([a7]) 45)] ++ ([(b7, cA ([vN]) 45)] ++ ([(b4, cA ([s1]) 45)] ++ ([(b1, cA ([s0]) 45)] ++ L))))) := hS
 have Z3 := Z3.trans j1
 have b5 := b5.mono j1
 have b2 := b2.mono j1
 have a5 := a5.mono j1
 have u5 := evT (f4 7 rfl) o2
 obtain ⟨_, a67, a18⟩ := gvS (p1 10 54 (by decide) rfl)
 obtain ⟨a19, a8⟩ := gd a8
 refine N5 (τ := yT) Yw2 rfl (by exact (eM (p1 1 45 (by decide) rfl))) (by exact a67) a5 hS a18 a19 rfl ?_
 intro o4 _ a68 p2 hS
 refine Y2 V9 (by exact u5) rfl ?_
 have hS := hS.perm V1
 refine Zb3 (v := o4) (cs := ([a7]).toArray) (cs' := ([o4]).toArray) Q4 rfl rfl hS p2.isOne rfl (nl rfl) rfl ?_
 intro _ hS
 have hS := hS.perm V1.symm
 refine Z1 ?_
 exact u1 _ _ ⟨(a6 ++ [((rd a0 a3).1, c3)]), u4, a68, o4, a8, Z3, hS, p2, b2, b5, (evT (f4 2 rfl) t5), (evT (f4 3 rfl) o1), (evT (f4 4 rfl) t6), (evT (f4 6 rfl) t7), u5, (evT (f4 8 rfl) o3), (evT (f4 9 rfl) t8)⟩
 intro u6
 have a83 := b2.bound
 obtain ⟨b8, b3⟩ | ⟨b8, b3⟩ := ic b3
 have U5 := Z3
 refine U1 21 (P0 [mE 102 (vI a3), mE 103 (vP b1), mE 104 (s0), mE 105 (vI (a0.length : Int)), mE 106 (vB (decide (a3 = (a0.length : Int)))), mE 107 (vB (decide (a3 = (a0.length : Int)))), mE 108 (undef), mE 109 (undef), mE 110 (undef), mE 111 (undef), mE 112 (undef), mE 113 (undef), mE 114 (undef), mE 115 (undef), mE 116 (undef), mE 117 (undef), mE 118 (undef), mE 119 (undef), mE 120 (undef), mE 121 (vB true), mE 101 (vB true)]) [] mixed rfl rfl rfl hS (Z6 rfl ?_ (Z6 rfl ?_ (Z6 rfl ?_ (Z6 rfl ?_ (Z6 rfl ?_ (Z6 rfl ?_ (Z6 rfl ?_ (Z6 rfl ?_ (Z6 rfl ?_ (Z6 rfl ?_ (Z6 rfl ?_ (Z6 rfl ?_ (Z6 rfl ?_ (Z6 rfl ?_ (Z6 rfl ?_ (Z6 rfl ?_ (Z6 rfl ?_ (Z6 rfl ?_ (Z6 rfl ?_ (Z6 rfl ?_ (Z6 rfl ?_ U7))))))))))))))))))))) ?_
 exact W5 fun S B => Z4 (vI a3) (evT (B 8 rfl) d2) rfl (qz S)
 exact W5 fun S B => Y2 V9 (evT (B 3 rfl) d1) rfl (qz S)
 exact X2 fun S V => Y3 (s0) Q4 (eM (V 1 103 rfl rfl)) (S.get (mR (mR (mR (mR (mR mL)))))) rfl rfl (qz S)
 exact E6 fun s S V => W7 R7 (eM (V 2 104 rfl rfl)) (b2.mono s) rfl (qz S)
 exact X2 fun S V => Zc2 (k := .i64) (a := a3) (b := (a0.length : Int)) (eM (V 0 102 rfl rfl)) (eM (V 3 105 rfl rfl)) rfl (qz S)
 exact X2 fun S V => Z4 (vB (decide (a3 = (a0.length : Int)))) (eM (V 4 106 rfl rfl)) rfl (qz S)
 exact X2 fun S V => Y1 rfl rfl (bT b8 (eM (V 5 107 rfl rfl))) rfl rfl rfl (qz S)
 exact X2 fun S V => Y1 rfl rfl (bT b8 (eM (V 5 107 rfl rfl))) rfl rfl rfl (qz S)
 exact X2 fun S V => Y1 rfl rfl (bT b8 (eM (V 5 107 rfl rfl))) rfl rfl rfl (qz S)
 exact X2 fun S V => Y1 rfl rfl (bT b8 (eM (V 5 107 rfl rfl))) rfl rfl rfl (qz S)
 exact X2 fun S V => Y1 rfl rfl (bT b8 (eM (V 5 107 rfl rfl))) rfl rfl rfl (qz S)
 exact X2 fun S V => Y1 rfl rfl (bT b8 (eM (V 5 107 rfl rfl))) rfl rfl rfl (qz S)
 exact X2 fun S V => Y1 rfl rfl (bT b8 (eM (V 5 107 rfl rfl))) rfl rfl rfl (qz S)
 exact X2 fun S V => Y1 rfl rfl (bT b8 (eM (V 5 107 rfl rfl))) rfl rfl rfl (qz S)
 exact X2 fun S V => Y1 rfl rfl (bT b8 (eM (V 5 107 rfl rfl))) rfl rfl rfl (qz S)
 exact X2 fun S V => Y1 rfl rfl (bT b8 (eM (V 5 107 rfl rfl))) rfl rfl rfl (qz S)
 exact X2 fun S V => Y1 rfl rfl (bT b8 (eM (V 5 107 rfl rfl))) rfl rfl rfl (qz S)
 exact X2 fun S V => Y1 rfl rfl (bT b8 (eM (V 5 107 rfl rfl))) rfl rfl rfl (qz S)
 exact X2 fun S V => Y1 rfl rfl (bT b8 (eM (V 5 107 rfl rfl))) rfl rfl rfl (qz S)
 exact X2 fun S V => V0 (t := true) (vB true) (bT b8 (eM (V 5 107 rfl rfl))) ((if_pos rfl).trans rfl) rfl (qz S)
 exact X2 fun S V => Z5 (vB true) (eM (V 19 121 rfl rfl)) rfl (qz S)
 intro _ a69 u7 j2 hS f5 a20 hcq
 have hS : St u7 a69 (a9 ++ ([(c4, cA ([a7]) 45)] ++ ([(b7, cA ([vN]) 45)] ++ ([(b4, cA ([s1]) 45)] ++ ([(b1, cA ([s0]) 45)] ++ L))))) := hS
 have Z3 := Z3.trans j2
 have b5 := b5.mono j2
 have b2 := b2.mono j2
 have a5 := a5.mono j2
 refine Z1 ?_
 exact u6 _ _ ⟨true, u7, b3, Z3, hS, b2, b5, a5, (evT (f5 2 rfl) i3), (evT (f5 3 rfl) d1), (evT (f5 4 rfl) g3), (evT (f5 6 rfl) i4), (evT (f5 7 rfl) g4), (evT (f5 8 rfl) d2), (evT (f5 9 rfl) g5), (eM (a20 20 101 (by decide) rfl))⟩
 obtain ⟨_, b3⟩ := gd b3
 obtain ⟨_, b3⟩ := gd b3
 obtain ⟨u8, u9, _, _, _, a21, l4, ⟨_, _, rfl, rfl, rfl⟩, a22⟩ := b5.elem (i := a4) (by omega) (by omega)
 obtain ⟨_, b3⟩ := gd b3
 obtain ⟨_, b3⟩ := gd b3
 obtain ⟨p3, p4, _, _, _, v0, j7, ⟨_, _, rfl, rfl, rfl⟩, v1⟩ := b2.elem (i := a3) (by omega) (by omega)
 obtain ⟨e8, v2, b3⟩ := bind_some b3
 have U5 := Z3
 refine U1 21 (P0 [mE 102 (vI a3), mE 103 (vP b1), mE 104 (s0), mE 105 (vI (a0.length : Int)), mE 106 (vB (decide (a3 = (a0.length : Int)))), mE 107 (vB (decide (a3 = (a0.length : Int)))), mE 108 (vP b4), mE 109 (s1), mE 110 (vI a4), mE 111 (vQ u8 u9), mE 112 (vQ u8 (u9 + 0)), mE 113 (vA (Z7 .u8 ((rd a1 a4).1))), mE 114 (vP b1), mE 115 (s0), mE 116 (vI a3), mE 117 (vQ p3 p4), mE 118 (vQ p3 (p4 + 0)), mE 119 (vA (Z7 .u8 ((rd a0 a3).1))), mE 120 (vB e8), mE 121 (vB e8), mE 101 (vB e8)]) [] mixed rfl rfl rfl hS (Z6 rfl ?_ (Z6 rfl ?_ (Z6 rfl ?_ (Z6 rfl ?_ (Z6 rfl ?_ (Z6 rfl ?_ (Z6 rfl ?_ (Z6 rfl ?_ (Z6 rfl ?_ (Z6 rfl ?_ (Z6 rfl ?_ (Z6 rfl ?_ (Z6 rfl ?_ (Z6 rfl ?_ (Z6 rfl ?_ (Z6 rfl ?_ (Z6 rfl ?_ (Z6 rfl ?_ (Z6 rfl ?_ (Z6 rfl ?_ (Z6 rfl ?_ U7))))))))))))))))))))) ?_
 exact W5 fun S B => Z4 (vI a3) (evT (B 8 rfl) d2) rfl (qz S)
 exact W5 fun S B => Y2 V9 (evT (B 3 rfl) d1) rfl (qz S)
 exact X2 fun S V => Y3 (s0) Q4 (eM (V 1 103 rfl rfl)) (S.get (mR (mR (mR (mR (mR mL)))))) rfl rfl (qz S)
 exact E6 fun s S V => W7 R7 (eM (V 2 104 rfl rfl)) (b2.mono s) rfl (qz S)
 exact X2 fun S V => Zc2 (k := .i64) (a := a3) (b := (a0.length : Int)) (eM (V 0 102 rfl rfl)) (eM (V 3 105 rfl rfl)) rfl (qz S)
 exact X2 fun S V => Z4 (vB (decide (a3 = (a0.length : Int)))) (eM (V 4 106 rfl rfl)) rfl (qz S)
 exact G4 fun S B V => Y4 rfl rfl (bF b8 (eM (V 5 107 rfl rfl))) (Y2 V9 (evT (B 4 rfl) g3) rfl (qz S))
 intro _ _ a70 _ a23 hS _ p5 hcq
 have Z3 := Sub.refl a70
 have S7 := U5.trans a23
 refine Y4 rfl rfl (bF b8 (eM (p5 5 107 rfl rfl))) ?_
 refine Y3 (s1) Q4 (eM (p5 6 108 rfl rfl)) (hS.get (mR (mR (mR (mR mL))))) rfl rfl ?_
 exact Z1 ⟨109, _, _, rfl, rfl, Z3, hS, rfl⟩
 exact G4 fun S B V => Y4 rfl rfl (bF b8 (eM (V 5 107 rfl rfl))) (Z4 (vI a4) (evT (B 9 rfl) g5) rfl (qz S))
 intro _ _ a71 _ a24 hS _ l5 hcq
 have Z3 := Sub.refl a71
 have S7 := U5.trans a24
 refine Y4 rfl rfl (bF b8 (eM (l5 5 107 rfl rfl))) ?_
 refine X9 R7 rfl (eM (l5 7 109 rfl rfl)) a21 (eM (l5 8 110 rfl rfl)) (by omega) (by omega) rfl ?_
 exact Z1 ⟨111, _, _, rfl, rfl, Z3, hS, rfl⟩
 exact X2 fun S V => Y4 rfl rfl (bF b8 (eM (V 5 107 rfl rfl))) (Y2 M1 (eM (V 9 111 rfl rfl)) rfl (qz S))
 intro _ _ a72 _ p6 hS _ p7 hcq
 have Z3 := Sub.refl a72
 have S7 := U5.trans p6
 have l4 := p6.1 _ _ l4
 refine Y4 rfl rfl (bF b8 (eM (p7 5 107 rfl rfl))) ?_
 refine W9 (Z7 .u8 ((rd a1 a4).1)) M2 (eM (p7 10 112 rfl rfl)) (hS.froz _ _ l4) rfl (Zk1 ([]) (Z7 .u8 ((rd a1 a4).1)) (([vI ((rd a1 a4).2)])) a22 (nl rfl)) rfl ?_
 exact Z1 ⟨113, _, _, rfl, rfl, Z3, hS, rfl⟩
 exact G4 fun S B V => Y4 rfl rfl (bF b8 (eM (V 5 107 rfl rfl))) (Y2 V9 (evT (B 3 rfl) d1) rfl (qz S))
 intro _ _ a73 _ a25 hS _ p8 hcq
 have Z3 := Sub.refl a73
 have S7 := U5.trans a25
 refine Y4 rfl rfl (bF b8 (eM (p8 5 107 rfl rfl))) ?_
 refine Y3 (s0) Q4 (eM (p8 12 114 rfl rfl)) (hS.get (mR (mR (mR (mR (mR mL)))))) rfl rfl ?_
 exact Z1 ⟨115, _, _, rfl, rfl, Z3, hS, rfl⟩
 exact G4 fun S B V => Y4 rfl rfl (bF b8 (eM (V 5 107 rfl rfl))) (Z4 (vI a3) (evT (B 8 rfl) d2) rfl (qz S))
 intro _ _ a74 _ a26 hS _ l6 hcq
 have Z3 := Sub.refl a74
 have S7 := U5.trans a26
 refine Y4 rfl rfl (bF b8 (eM (l6 5 107 rfl rfl))) ?_
 refine X9 R7 rfl (eM (l6 13 115 rfl rfl)) v0 (eM (l6 14 116 rfl rfl)) (by omega) (by omega) rfl ?_
 exact Z1 ⟨117, _, _, rfl, rfl, Z3, hS, rfl⟩
 exact X2 fun S V => Y4 rfl rfl (bF b8 (eM (V 5 107 rfl rfl))) (Y2 M1 (eM (V 15 117 rfl rfl)) rfl (qz S))
 intro _ _ a27 _ m8 hS _ m9 hcq
 have Z3 := Sub.refl a27
 have S7 := U5.trans m8
 have j7 := m8.1 _ _ j7
 refine Y4 rfl rfl (bF b8 (eM (m9 5 107 rfl rfl))) ?_
 refine W9 (Z7 .u8 ((rd a0 a3).1)) M2 (eM (m9 16 118 rfl rfl)) (hS.froz _ _ j7) rfl (Zk1 ([]) (Z7 .u8 ((rd a0 a3).1)) (([vI ((rd a0 a3).2)])) v1 (nl rfl)) rfl ?_
 exact Z1 ⟨119, _, _, rfl, rfl, Z3, hS, rfl⟩
 intro _ _ a28 _ v3 hS _ j8 hcq
 have Z3 := Sub.refl a28
 have S7 := U5.trans v3
 refine Y4 rfl rfl (bF b8 (eM (j8 5 107 rfl rfl))) ?_
 refine X6 Tryz.call229 (U9 (eM (j8 11 113 rfl rfl)) (eM (j8 17 119 rfl rfl))) rfl (Zy0 v2  hS) ?_
 rintro _ _ _ v4 hS rfl
 have Z3 := Z3.trans v4
 exact Z1 ⟨120, _, _, rfl, rfl, Z3, hS, rfl⟩
 exact X2 fun S V => V0 (t := false) (vB e8) (bF b8 (eM (V 5 107 rfl rfl))) ((if_neg Bool.false_ne_true).trans (eM (V 18 120 rfl rfl))) rfl (qz S)
 exact X2 fun S V => Z5 (vB e8) (eM (V 19 121 rfl rfl)) rfl (qz S)
 intro _ a29 p9 h0 hS e2 v5 hcq
 have hS : St p9 a29 (a9 ++ ([(c4, cA ([a7]) 45)] ++ ([(b7, cA ([vN]) 45)] ++ ([(b4, cA ([s1]) 45)] ++ ([(b1, cA ([s0]) 45)] ++ L))))) := hS
 have Z3 := Z3.trans h0
 have b5 := b5.mono h0
 have b2 := b2.mono h0
 have a5 := a5.mono h0
 refine Z1 ?_
 exact u6 _ _ ⟨e8, p9, b3, Z3, hS, b2, b5, a5, (evT (e2 2 rfl) i3), (evT (e2 3 rfl) d1), (evT (e2 4 rfl) g3), (evT (e2 6 rfl) i4), (evT (e2 7 rfl) g4), (evT (e2 8 rfl) d2), (evT (e2 9 rfl) g5), (eM (v5 20 101 (by decide) rfl))⟩
 intro o5
 have a78 := b5.bound
 obtain ⟨b6, b9⟩ | ⟨b6, b9⟩ := ic b9
 have U5 := Z3
 refine U1 28 (P0 [mE 62 (vI a4), mE 63 (vP b4), mE 64 (s1), mE 65 (vI (a1.length : Int)), mE 66 (vB (decide (a4 = (a1.length : Int)))), mE 67 (vB (decide (a4 = (a1.length : Int)))), mE 68 (undef), mE 69 (undef), mE 70 (undef), mE 71 (undef), mE 72 (undef), mE 73 (undef), mE 74 (undef), mE 75 (undef), mE 76 (undef), mE 77 (undef), mE 78 (undef), mE 79 (undef), mE 80 (undef), mE 81 (undef), mE 82 (undef), mE 83 (undef), mE 84 (undef), mE 85 (undef), mE 86 (undef), mE 87 (undef), mE 88 (vB true), mE 61 (vB true)]) [] mixed rfl rfl rfl hS (Z6 rfl ?_ (Z6 rfl ?_ (Z6 rfl ?_ (Z6 rfl ?_ (Z6 rfl ?_ (Z6 rfl ?_ (Z6 rfl ?_ (Z6 rfl ?_ (Z6 rfl ?_ (Z6 rfl ?_ (Z6 rfl ?_ (Z6 rfl ?_ (Z6 rfl ?_ (Z6 rfl ?_ (Z6 rfl ?_ (Z6 rfl ?_ (Z6 rfl ?_ (Z6 rfl ?_ (Z6 rfl ?_ (Z6 rfl ?_ (Z6 rfl ?_ (Z6 rfl ?_ (Z6 rfl ?_ (Z6 rfl ?_ (Z6 rfl ?_ (Z6 rfl ?_ (Z6 rfl ?_ (Z6 rfl ?_ U7)))))))))))))))))))))))))))) ?_
 exact W5 fun S B => Z4 (vI a4) (evT (B 9 rfl) d0) rfl (qz S)
 exact W5 fun S B => Y2 V9 (evT (B 4 rfl) c9) rfl (qz S)
 exact X2 fun S V => Y3 (s1) Q4 (eM (V 1 63 rfl rfl)) (S.get (mR (mR (mR (mR mL))))) rfl rfl (qz S)
 exact E6 fun s S V => W7 R7 (eM (V 2 64 rfl rfl)) (b5.mono s) rfl (qz S)
 exact X2 fun S V => Zc2 (k := .i64) (a := a4) (b := (a1.length : Int)) (eM (V 0 62 rfl rfl)) (eM (V 3 65 rfl rfl)) rfl (qz S)
 exact X2 fun S V => Z4 (vB (decide (a4 = (a1.length : Int)))) (eM (V 4 66 rfl rfl)) rfl (qz S)
 exact X2 fun S V => Y1 rfl rfl (bT b6 (eM (V 5 67 rfl rfl))) rfl rfl rfl (qz S)
 exact X2 fun S V => Y1 rfl rfl (bT b6 (eM (V 5 67 rfl rfl))) rfl rfl rfl (qz S)
 exact X2 fun S V => Y1 rfl rfl (bT b6 (eM (V 5 67 rfl rfl))) rfl rfl rfl (qz S)
 exact X2 fun S V => Y1 rfl rfl (bT b6 (eM (V 5 67 rfl rfl))) rfl rfl rfl (qz S)
 exact X2 fun S V => Y1 rfl rfl (bT b6 (eM (V 5 67 rfl rfl))) rfl rfl rfl (qz S)
 exact X2 fun S V => Y1 rfl rfl (bT b6 (eM (V 5 67 rfl rfl))) rfl rfl rfl (qz S)
 exact X2 fun S V => U6 rfl rfl (eM (V 11 73 rfl rfl)) rfl rfl (qz S)
 exact X2 fun S V => U6 rfl rfl (eM (V 11 73 rfl rfl)) rfl rfl (qz S)
 exact X2 fun S V => U6 rfl rfl (eM (V 11 73 rfl rfl)) rfl rfl (qz S)
 exact X2 fun S V => U6 rfl rfl (eM (V 11 73 rfl rfl)) rfl rfl (qz S)
 exact X2 fun S V => U6 rfl rfl (eM (V 11 73 rfl rfl)) rfl rfl (qz S)
 exact X2 fun S V => U6 rfl rfl (eM (V 11 73 rfl rfl)) rfl rfl (qz S)
 exact X2 fun S V => U6 rfl rfl (eM (V 11 73 rfl rfl)) rfl rfl (qz S)
 exact X2 fun S V => U6 rfl rfl (eM (V 11 73 rfl rfl)) rfl rfl (qz S)
 exact X2 fun S V => U6 rfl rfl (eM (V 11 73 rfl rfl)) rfl rfl (qz S)
 exact X2 fun S V => U6 rfl rfl (eM (V 11 73 rfl rfl)) rfl rfl (qz S)
 exact X2 fun S V => U6 rfl rfl (eM (V 11 73 rfl rfl)) rfl rfl (qz S)
 exact X2 fun S V => U6 rfl rfl (eM (V 11 73 rfl rfl)) rfl rfl (qz S)
 exact X2 fun S V => U6 rfl rfl (eM (V 11 73 rfl rfl)) rfl rfl (qz S)
 exact X2 fun S V => Y1 rfl rfl (bT b6 (eM (V 5 67 rfl rfl))) rfl rfl rfl (qz S)
 exact X2 fun S V => V0 (t := true) (vB true) (bT b6 (eM (V 5 67 rfl rfl))) ((if_pos rfl).trans rfl) rfl (qz S)
 exact X2 fun S V => Z5 (vB true) (eM (V 26 88 rfl rfl)) rfl (qz S)
 intro _ a30 q1 h1 hS e3 v6 hcq
 have hS : St q1 a30 (a9 ++ ([(c4, cA ([a7]) 45)] ++ ([(b7, cA ([vN]) 45)] ++ ([(b4, cA ([s1]) 45)] ++ ([(b1, cA ([s0]) 45)] ++ L))))) := hS
 have Z3 := Z3.trans h1
 have b5 := b5.mono h1
 have b2 := b2.mono h1
 have a5 := a5.mono h1
 refine Z1 ?_
 exact o5 _ _ ⟨true, q1, b9, Z3, hS, b2, b5, a5, (evT (e3 2 rfl) i2), (evT (e3 3 rfl) d5), (evT (e3 4 rfl) c9), (evT (e3 6 rfl) g1), (evT (e3 7 rfl) g2), (evT (e3 8 rfl) d6), (evT (e3 9 rfl) d0), (eM (v6 27 61 (by decide) rfl))⟩
 have a79 := b2.bound
 obtain ⟨b0, b9⟩ | ⟨b0, b9⟩ := ic b9
 obtain ⟨_, b9⟩ := gd b9
 obtain ⟨q2, q3, _, _, _, v7, j9, ⟨_, _, rfl, rfl, rfl⟩, v8⟩ := b2.elem (i := a3) (by omega) (by omega)
 obtain ⟨_, b9⟩ := gd b9
 obtain ⟨_, b9⟩ := gd b9
 obtain ⟨q4, q5, _, _, _, v9, k0, ⟨_, _, rfl, rfl, rfl⟩, w0⟩ := b5.elem (i := a4) (by omega) (by omega)
 obtain ⟨d3, w1, b9⟩ := bind_some b9
 have U5 := Z3
 refine U1 28 (P0 [mE 62 (vI a4), mE 63 (vP b4), mE 64 (s1), mE 65 (vI (a1.length : Int)), mE 66 (vB (decide (a4 = (a1.length : Int)))), mE 67 (vB (decide (a4 = (a1.length : Int)))), mE 68 (vI a3), mE 69 (vP b1), mE 70 (s0), mE 71 (vI (a0.length : Int)), mE 72 (vB (decide (a3 < (a0.length : Int)))), mE 73 (vB (decide (a3 < (a0.length : Int)))), mE 74 (vP b1), mE 75 (s0), mE 76 (vI a3), mE 77 (vQ q2 q3), mE 78 (vQ q2 (q3 + 0)), mE 79 (vA (Z7 .u8 ((rd a0 a3).1))), mE 80 (vP b4), mE 81 (s1), mE 82 (vI a4), mE 83 (vQ q4 q5), mE 84 (vQ q4 (q5 + 0)), mE 85 (vA (Z7 .u8 ((rd a1 a4).1))), mE 86 (vB d3), mE 87 (vB d3), mE 88 (vB d3), mE 61 (vB d3)]) [] mixed rfl rfl rfl hS (Z6 rfl ?_ (Z6 rfl ?_ (Z6 rfl ?_ (Z6 rfl ?_ (Z6 rfl ?_ (Z6 rfl ?_ (Z6 rfl ?_ (Z6 rfl ?_ (Z6 rfl ?_ (Z6 rfl ?_ (Z6 rfl ?_ (Z6 rfl ?_ (Z6 rfl ?_ (Z6 rfl ?_ (Z6 rfl ?_ (Z6 rfl ?_ (Z6 rfl ?_ (Z6 rfl ?_ (Z6 rfl ?_ (Z6 rfl ?_ (Z6 rfl ?_ (Z6 rfl ?_ (Z6 rfl ?_ (Z6 rfl ?_ (Z6 rfl ?_ (Z6 rfl ?_ (Z6 rfl ?_ (Z6 rfl ?_ U7)))))))))))))))))))))))))))) ?_
 exact W5 fun S B => Z4 (vI a4) (evT (B 9 rfl) d0) rfl (qz S)
 exact W5 fun S B => Y2 V9 (evT (B 4 rfl) c9) rfl (qz S)
 exact X2 fun S V => Y3 (s1) Q4 (eM (V 1 63 rfl rfl)) (S.get (mR (mR (mR (mR mL))))) rfl rfl (qz S)
 exact E6 fun s S V => W7 R7 (eM (V 2 64 rfl rfl)) (b5.mono s) rfl (qz S)
 exact X2 fun S V => Zc2 (k := .i64) (a := a4) (b := (a1.length : Int)) (eM (V 0 62 rfl rfl)) (eM (V 3 65 rfl rfl)) rfl (qz S)
 exact X2 fun S V => Z4 (vB (decide (a4 = (a1.length : Int)))) (eM (V 4 66 rfl rfl)) rfl (qz S)
 exact G4 fun S B V => Y4 rfl rfl (bF b6 (eM (V 5 67 rfl rfl))) (Z4 (vI a3) (evT (B 8 rfl) d6) rfl (qz S))
 exact G4 fun S B V => Y4 rfl rfl (bF b6 (eM (V 5 67 rfl rfl))) (Y2 V9 (evT (B 3 rfl) d5) rfl (qz S))
 intro h2 a31 l7 a32 k1 hS w2 f7 hcq
 have Z3 := Sub.refl l7
 have S7 := U5.trans k1
 have l9 : tv h2 67 = vB (decide (a4 = (a1.length : Int))) := f7 5 67 rfl rfl
 have m0 : tv h2 69 = vP b1 := f7 7 69 rfl rfl
 refine Y4 rfl rfl (bF b6 l9) ?_
 refine Y3 (s0) Q4 m0 (hS.get (mR (mR (mR (mR (mR mL)))))) rfl rfl ?_
 exact Z1 ⟨70, _, _, rfl, rfl, Z3, hS, rfl⟩
 intro h3 a33 m1 a34 f8 hS w3 f9 hcq
 have Z3 := Sub.refl m1
 have S7 := U5.trans f8
 have b2 := b2.mono f8
 have m2 : tv h3 67 = vB (decide (a4 = (a1.length : Int))) := f9 5 67 rfl rfl
 have m3 : tv h3 70 = s0 := f9 8 70 rfl rfl
 refine Y4 rfl rfl (bF b6 m2) ?_
 refine W7 R7 m3 b2 rfl ?_
 exact Z1 ⟨71, _, _, rfl, rfl, Z3, hS, rfl⟩
 intro f6 a35 m4 a36 k2 hS w4 e4 hcq
 have Z3 := Sub.refl m4
 have S7 := U5.trans k2
 have m5 : tv f6 67 = vB (decide (a4 = (a1.length : Int))) := e4 5 67 rfl rfl
 have m6 : tv f6 68 = vI a3 := e4 6 68 rfl rfl
 have m7 : tv f6 71 = vI (a0.length : Int) := e4 9 71 rfl rfl
 refine Y4 rfl rfl (bF b6 m5) ?_
 refine V5 (k := .i64) (a := a3) (b := (a0.length : Int)) m6 m7 rfl ?_
 exact Z1 ⟨72, _, _, rfl, rfl, Z3, hS, rfl⟩
 exact X2 fun S V => Y4 rfl rfl (bF b6 (eM (V 5 67 rfl rfl))) (Z4 (vB (decide (a3 < (a0.length : Int)))) (eM (V 10 72 rfl rfl)) rfl (qz S))
 exact G4 fun S B V => Y4 rfl rfl (bT b0 (eM (V 11 73 rfl rfl))) (Y2 V9 (evT (B 3 rfl) d5) rfl (qz S))
 intro _ _ a37 _ w5 hS _ n0 hcq
 have Z3 := Sub.refl a37
 have S7 := U5.trans w5
 refine Y4 rfl rfl (bT b0 (eM (n0 11 73 rfl rfl))) ?_
 refine Y3 (s0) Q4 (eM (n0 12 74 rfl rfl)) (hS.get (mR (mR (mR (mR (mR mL)))))) rfl rfl ?_
 exact Z1 ⟨75, _, _, rfl, rfl, Z3, hS, rfl⟩
 exact G4 fun S B V => Y4 rfl rfl (bT b0 (eM (V 11 73 rfl rfl))) (Z4 (vI a3) (evT (B 8 rfl) d6) rfl (qz S))
 intro _ _ a38 _ w6 hS _ k3 hcq
 have Z3 := Sub.refl a38
 have S7 := U5.trans w6
 refine Y4 rfl rfl (bT b0 (eM (k3 11 73 rfl rfl))) ?_
 refine X9 R7 rfl (eM (k3 13 75 rfl rfl)) v7 (eM (k3 14 76 rfl rfl)) (by omega) (by omega) rfl ?_
 exact Z1 ⟨77, _, _, rfl, rfl, Z3, hS, rfl⟩
 exact X2 fun S V => Y4 rfl rfl (bT b0 (eM (V 11 73 rfl rfl))) (Y2 M1 (eM (V 15 77 rfl rfl)) rfl (qz S))
 intro _ _ a39 _ n1 hS _ n2 hcq
 have Z3 := Sub.refl a39
 have S7 := U5.trans n1
 have j9 := n1.1 _ _ j9
 refine Y4 rfl rfl (bT b0 (eM (n2 11 73 rfl rfl))) ?_
 refine W9 (Z7 .u8 ((rd a0 a3).1)) M2 (eM (n2 16 78 rfl rfl)) (hS.froz _ _ j9) rfl (Zk1 ([]) (Z7 .u8 ((rd a0 a3).1)) (([vI ((rd a0 a3).2)])) v8 (nl rfl)) rfl ?_
 exact Z1 ⟨79, _, _, rfl, rfl, Z3, hS, rfl⟩
 exact G4 fun S B V => Y4 rfl rfl (bT b0 (eM (V 11 73 rfl rfl))) (Y2 V9 (evT (B 4 rfl) c9) rfl (qz S))
 intro _ _ a40 _ w7 hS _ n3 hcq
 have Z3 := Sub.refl a40
 have S7 := U5.trans w7
 refine Y4 rfl rfl (bT b0 (eM (n3 11 73 rfl rfl))) ?_
 refine Y3 (s1) Q4 (eM (n3 18 80 rfl rfl)) (hS.get (mR (mR (mR (mR mL))))) rfl rfl ?_
 exact Z1 ⟨81, _, _, rfl, rfl, Z3, hS, rfl⟩
 exact G4 fun S B V => Y4 rfl rfl (bT b0 (eM (V 11 73 rfl rfl))) (Z4 (vI a4) (evT (B 9 rfl) d0) rfl (qz S))
 intro _ _ a41 _ w8 hS _ k4 hcq
 have Z3 := Sub.refl a41
 have S7 := U5.trans w8
 refine Y4 rfl rfl (bT b0 (eM (k4 11 73 rfl rfl))) ?_
 refine X9 R7 rfl (eM (k4 19 81 rfl rfl)) v9 (eM (k4 20 82 rfl rfl)) (by omega) (by omega) rfl ?_
 exact Z1 ⟨83, _, _, rfl, rfl, Z3, hS, rfl⟩
 exact X2 fun S V => Y4 rfl rfl (bT b0 (eM (V 11 73 rfl rfl))) (Y2 M1 (eM (V 21 83 rfl rfl)) rfl (qz S))
 intro _ _ a42 _ n4 hS _ n5 hcq
 have Z3 := Sub.refl a42
 have S7 := U5.trans n4
 have k0 := n4.1 _ _ k0
 refine Y4 rfl rfl (bT b0 (eM (n5 11 73 rfl rfl))) ?_
 refine W9 (Z7 .u8 ((rd a1 a4).1)) M2 (eM (n5 22 84 rfl rfl)) (hS.froz _ _ k0) rfl (Zk1 ([]) (Z7 .u8 ((rd a1 a4).1)) (([vI ((rd a1 a4).2)])) w0 (nl rfl)) rfl ?_
 exact Z1 ⟨85, _, _, rfl, rfl, Z3, hS, rfl⟩
 intro _ _ a43 _ w9 hS _ k5 hcq
 have Z3 := Sub.refl a43
 have S7 := U5.trans w9
 refine Y4 rfl rfl (bT b0 (eM (k5 11 73 rfl rfl))) ?_
 refine X6 Tryz.call229 (U9 (eM (k5 17 79 rfl rfl)) (eM (k5 23 85 rfl rfl))) rfl (Zy0 w1  hS) ?_
 rintro _ _ _ x0 hS rfl
 have Z3 := Z3.trans x0
 exact Z1 ⟨86, _, _, rfl, rfl, Z3, hS, rfl⟩
 intro _ _ a44 _ x1 hS _ k6 hcq
 have Z3 := Sub.refl a44
 have S7 := U5.trans x1
 refine Y4 rfl rfl (bF b6 (eM (k6 5 67 rfl rfl))) ?_
 refine V0 (t := true) (vB d3) (bT b0 (eM (k6 11 73 rfl rfl))) ((if_pos rfl).trans (eM (k6 24 86 rfl rfl))) rfl ?_
 exact Z1 ⟨87, _, _, rfl, rfl, Z3, hS, rfl⟩
 exact X2 fun S V => V0 (t := false) (vB d3) (bF b6 (eM (V 5 67 rfl rfl))) ((if_neg Bool.false_ne_true).trans (eM (V 25 87 rfl rfl))) rfl (qz S)
 exact X2 fun S V => Z5 (vB d3) (eM (V 26 88 rfl rfl)) rfl (qz S)
 intro _ a45 q6 h4 hS e5 x2 hcq
 have hS : St q6 a45 (a9 ++ ([(c4, cA ([a7]) 45)] ++ ([(b7, cA ([vN]) 45)] ++ ([(b4, cA ([s1]) 45)] ++ ([(b1, cA ([s0]) 45)] ++ L))))) := hS
 have Z3 := Z3.trans h4
 have b5 := b5.mono h4
 have b2 := b2.mono h4
 have a5 := a5.mono h4
 refine Z1 ?_
 exact o5 _ _ ⟨d3, q6, b9, Z3, hS, b2, b5, a5, (evT (e5 2 rfl) i2), (evT (e5 3 rfl) d5), (evT (e5 4 rfl) c9), (evT (e5 6 rfl) g1), (evT (e5 7 rfl) g2), (evT (e5 8 rfl) d6), (evT (e5 9 rfl) d0), (eM (x2 27 61 (by decide) rfl))⟩
 have U5 := Z3
 refine U1 28 (P0 [mE 62 (vI a4), mE 63 (vP b4), mE 64 (s1), mE 65 (vI (a1.length : Int)), mE 66 (vB (decide (a4 = (a1.length : Int)))), mE 67 (vB (decide (a4 = (a1.length : Int)))), mE 68 (vI a3), mE 69 (vP b1), mE 70 (s0), mE 71 (vI (a0.length : Int)), mE 72 (vB (decide (a3 < (a0.length : Int)))), mE 73 (vB (decide (a3 < (a0.length : Int)))), mE 74 (undef), mE 75 (undef), mE 76 (undef), mE 77 (undef), mE 78 (undef), mE 79 (undef), mE 80 (undef), mE 81 (undef), mE 82 (undef), mE 83 (undef), mE 84 (undef), mE 85 (undef), mE 86 (undef), mE 87 (vB false), mE 88 (vB false), mE 61 (vB false)]) [] mixed rfl rfl rfl hS (Z6 rfl ?_ (Z6 rfl ?_ (Z6 rfl ?_ (Z6 rfl ?_ (Z6 rfl ?_ (Z6 rfl ?_ (Z6 rfl ?_ (Z6 rfl ?_ (Z6 rfl ?_ (Z6 rfl ?_ (Z6 rfl ?_ (Z6 rfl ?_ (Z6 rfl ?_ (Z6 rfl ?_ (Z6 rfl ?_ (Z6 rfl ?_ (Z6 rfl ?_ (Z6 rfl ?_ (Z6 rfl ?_ (Z6 rfl ?_ (Z6 rfl ?_ (Z6 rfl ?_ (Z6 rfl ?_ (Z6 rfl ?_ (Z6 rfl ?_ (Z6 rfl ?_ (Z6 rfl ?_ (Z6 rfl ?_ U7)))))))))))))))))))))))))))) ?_
 exact W5 fun S B => Z4 (vI a4) (evT (B 9 rfl) d0) rfl (qz S)
 exact W5 fun S B => Y2 V9 (evT (B 4 rfl) c9) rfl (qz S)
 exact X2 fun S V => Y3 (s1) Q4 (eM (V 1 63 rfl rfl)) (S.get (mR (mR (mR (mR mL))))) rfl rfl (qz S)
 exact E6 fun s S V => W7 R7 (eM (V 2 64 rfl rfl)) (b5.mono s) rfl (qz S)
 exact X2 fun S V => Zc2 (k := .i64) (a := a4) (b := (a1.length : Int)) (eM (V 0 62 rfl rfl)) (eM (V 3 65 rfl rfl)) rfl (qz S)
 exact X2 fun S V => Z4 (vB (decide (a4 = (a1.length : Int)))) (eM (V 4 66 rfl rfl)) rfl (qz S)
 exact G4 fun S B V => Y4 rfl rfl (bF b6 (eM (V 5 67 rfl rfl))) (Z4 (vI a3) (evT (B 8 rfl) d6) rfl (qz S))
 exact G4 fun S B V => Y4 rfl rfl (bF b6 (eM (V 5 67 rfl rfl))) (Y2 V9 (evT (B 3 rfl) d5) rfl (qz S))
 intro h2 a31 l7 a32 k1 hS w2 f7 hcq
 have Z3 := Sub.refl l7
 have S7 := U5.trans k1
 have l9 : tv h2 67 = vB (decide (a4 = (a1.length : Int))) := f7 5 67 rfl rfl
 have m0 : tv h2 69 = vP b1 := f7 7 69 rfl rfl
 refine Y4 rfl rfl (bF b6 l9) ?_
 refine Y3 (s0) Q4 m0 (hS.get (mR (mR (mR (mR (mR mL)))))) rfl rfl ?_
 exact Z1 ⟨70, _, _, rfl, rfl, Z3, hS, rfl⟩
 intro h3 a33 m1 a34 f8 hS w3 f9 hcq
 have Z3 := Sub.refl m1
 have S7 := U5.trans f8
 have b2 := b2.mono f8
 have m2 : tv h3 67 = vB (decide (a4 = (a1.length : Int))) := f9 5 67 rfl rfl
 have m3 : tv h3 70 = s0 := f9 8 70 rfl rfl
 refine Y4 rfl rfl (bF b6 m2) ?_
 refine W7 R7 m3 b2 rfl ?_
 exact Z1 ⟨71, _, _, rfl, rfl, Z3, hS, rfl⟩
 intro f6 a35 m4 a36 k2 hS w4 e4 hcq
 have Z3 := Sub.refl m4
 have S7 := U5.trans k2
 have m5 : tv f6 67 = vB (decide (a4 = (a1.length : Int))) := e4 5 67 rfl rfl
 have m6 : tv f6 68 = vI a3 := e4 6 68 rfl rfl
 have m7 : tv f6 71 = vI (a0.length : Int) := e4 9 71 rfl rfl
 refine Y4 rfl rfl (bF b6 m5) ?_
 refine V5 (k := .i64) (a := a3) (b := (a0.length : Int)) m6 m7 rfl ?_
 exact Z1 ⟨72, _, _, rfl, rfl, Z3, hS, rfl⟩
 exact X2 fun S V => Y4 rfl rfl (bF b6 (eM (V 5 67 rfl rfl))) (Z4 (vB (decide (a3 < (a0.length : Int)))) (eM (V 10 72 rfl rfl)) rfl (qz S))
 exact X2 fun S V => Y1 rfl rfl (bF b0 (eM (V 11 73 rfl rfl))) rfl rfl rfl (qz S)
 exact X2 fun S V => Y1 rfl rfl (bF b0 (eM (V 11 73 rfl rfl))) rfl rfl rfl (qz S)
 exact X2 fun S V => Y1 rfl rfl (bF b0 (eM (V 11 73 rfl rfl))) rfl rfl rfl (qz S)
 exact X2 fun S V => Y1 rfl rfl (bF b0 (eM (V 11 73 rfl rfl))) rfl rfl rfl (qz S)
 exact X2 fun S V => Y1 rfl rfl (bF b0 (eM (V 11 73 rfl rfl))) rfl rfl rfl (qz S)
 exact X2 fun S V => Y1 rfl rfl (bF b0 (eM (V 11 73 rfl rfl))) rfl rfl rfl (qz S)
 exact X2 fun S V => Y1 rfl rfl (bF b0 (eM (V 11 73 rfl rfl))) rfl rfl rfl (qz S)
 exact X2 fun S V => Y1 rfl rfl (bF b0 (eM (V 11 73 rfl rfl))) rfl rfl rfl (qz S)
 exact X2 fun S V => Y1 rfl rfl (bF b0 (eM (V 11 73 rfl rfl))) rfl rfl rfl (qz S)
 exact X2 fun S V => Y1 rfl rfl (bF b0 (eM (V 11 73 rfl rfl))) rfl rfl rfl (qz S)
 exact X2 fun S V => Y1 rfl rfl (bF b0 (eM (V 11 73 rfl rfl))) rfl rfl rfl (qz S)
 exact X2 fun S V => Y1 rfl rfl (bF b0 (eM (V 11 73 rfl rfl))) rfl rfl rfl (qz S)
 exact X2 fun S V => Y1 rfl rfl (bF b0 (eM (V 11 73 rfl rfl))) rfl rfl rfl (qz S)
 intro _ _ a46 _ x3 hS _ n6 hcq
 have Z3 := Sub.refl a46
 have S7 := U5.trans x3
 refine Y4 rfl rfl (bF b6 (eM (n6 5 67 rfl rfl))) ?_
 refine V0 (t := false) (vB false) (bF b0 (eM (n6 11 73 rfl rfl))) ((if_neg Bool.false_ne_true).trans rfl) rfl ?_
 exact Z1 ⟨87, _, _, rfl, rfl, Z3, hS, rfl⟩
 exact X2 fun S V => V0 (t := false) (vB false) (bF b6 (eM (V 5 67 rfl rfl))) ((if_neg Bool.false_ne_true).trans (eM (V 25 87 rfl rfl))) rfl (qz S)
 exact X2 fun S V => Z5 (vB false) (eM (V 26 88 rfl rfl)) rfl (qz S)
 intro _ a47 q7 h5 hS e6 x4 hcq
 have hS : St q7 a47 (a9 ++ ([(c4, cA ([a7]) 45)] ++ ([(b7, cA ([vN]) 45)] ++ ([(b4, cA ([s1]) 45)] ++ ([(b1, cA ([s0]) 45)] ++ L))))) := hS
 have Z3 := Z3.trans h5
 have b5 := b5.mono h5
 have b2 := b2.mono h5
 have a5 := a5.mono h5
 refine Z1 ?_
 exact o5 _ _ ⟨false, q7, b9, Z3, hS, b2, b5, a5, (evT (e6 2 rfl) i2), (evT (e6 3 rfl) d5), (evT (e6 4 rfl) c9), (evT (e6 6 rfl) g1), (evT (e6 7 rfl) g2), (evT (e6 8 rfl) d6), (evT (e6 9 rfl) d0), (eM (x4 27 61 (by decide) rfl))⟩
 refine Z8 (Eq.trans (by exact j4) (congrArg vB (X8 n7))) ?_
 refine W0 rfl ?_
 obtain rfl := oi b9
 exact hx0 _ _ ⟨a6, r9, a9, a7, rfl, Z3, hS, a5, b2, b5, g1, g2⟩
 intro x5
 refine Z0 (Z4 (vI a3) (by exact i0) rfl (Y2 V9 (by exact h8) rfl ?_))
 refine Y3 (s0) Q4 rfl (hS.get (mR (mR (mR (mR mL))))) rfl rfl ?_
 have a80 := b2.bound
 refine W7 R7 rfl b2 rfl ?_
 refine V5 (k := .i64) (a := a3) (b := (a0.length : Int)) rfl rfl rfl (Z4 (vB (decide (a3 < (a0.length : Int)))) rfl rfl ?_)
 obtain ⟨c2, e1⟩ | ⟨c2, e1⟩ := ic e1
 refine Y1 rfl rfl (bT c2 rfl) rfl rfl rfl (Y1 rfl rfl (bT c2 rfl) rfl rfl rfl (Y1 rfl rfl (bT c2 rfl) rfl rfl rfl (Y1 rfl rfl (bT c2 rfl) rfl rfl rfl (Y1 rfl rfl (bT c2 rfl) rfl rfl rfl ?_))))
 refine V0 (t := true) (vB true) (bT c2 rfl) ((if_pos rfl).trans rfl) rfl (Z1 ?_)
 exact x5 _ _ ⟨true, r8, e1, Z3, hS, b2, b5, a5, k7, h8, h9, k8, k9, i0, i1, rfl⟩
 refine Y4 rfl rfl (bF c2 rfl) (Z4 (vI a4) (by exact i1) rfl ?_)
 refine Y4 rfl rfl (bF c2 rfl) (Y2 V9 (by exact h9) rfl ?_)
 refine Y4 rfl rfl (bF c2 rfl) ?_
 refine Y3 (s1) Q4 rfl (hS.get (mR (mR (mR mL)))) rfl rfl ?_
 have a81 := b5.bound
 refine Y4 rfl rfl (bF c2 rfl) ?_
 refine W7 R7 rfl b5 rfl ?_
 refine Y4 rfl rfl (bF c2 rfl) ?_
 refine V5 (k := .i64) (a := a4) (b := (a1.length : Int)) rfl rfl rfl ?_
 refine V0 (t := false) (vB (decide (a4 < (a1.length : Int)))) (bF c2 rfl) ((if_neg Bool.false_ne_true).trans rfl) rfl (Z1 ?_)
 exact x5 _ _ ⟨(decide (a4 < (a1.length : Int))), r8, e1, Z3, hS, b2, b5, a5, k7, h8, h9, k8, k9, i0, i1, rfl⟩
 exact ⟨0, ([] : List (A8 × Int)), 0, H, ([]), (vN), e1, Z3, hS, r6, b2, b5, rfl, rfl, rfl, rfl, rfl, rfl, rfl⟩
 rintro _ _ ⟨c5, _, e9, c1, rfl, Z3, hS, g0, b2, b5, l0, r5⟩
 dsimp only [Ex.elim] at r7
 refine Z2 (Z0 ?_)
 refine X7 U2 (by exact r5) (hS.get (mR mL)) rfl rfl ?_
 have hS := hS.perm Q8
 refine X5 (v := vA ([c1])) (vs := ([c1]).toArray) (cs := ([vN]).toArray) U2 (by exact l0) rfl rfl hS rfl (U0 g0.isOne) rfl ?_
 intro _ hS
 have hS := hS.perm Q8.symm
 refine Z1 ?_
 refine X0 (vs := [vA ([c1])]) Tryz.func196 ⟨⟨_, (by exact l0), V6 U2 (hS.get (mR (mR mL))) rfl⟩, trivial⟩ ?_
 obtain ⟨a48, x6, hS, h6⟩ := W3.freezeF (τ := yT) (H0 := H) g0 hS Z3
 have a82 := Z9.old h6
 have h6 : RdF yT H a48 c1 c5 := h6
 have Z3 := Z3.trans x6
 obtain rfl := oi r7
 exact ⟨_, _, rfl, Z3, (St.dropA (St.dropA (St.dropA (St.dropA hS)))), ⟨_, rfl, ⟨_, rfl, h6⟩⟩⟩
end Go.Proofs.YtabofnehiclkiaaGreat
