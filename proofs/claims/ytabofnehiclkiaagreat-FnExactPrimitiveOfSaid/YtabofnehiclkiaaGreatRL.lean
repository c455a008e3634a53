/- Walk, rules and plain laws. -/
import Derived.Test.YtabofnehiclkiaaGreatRF20
import Derived.Test.YtabofnehiclkiaaGreatRX2
namespace Go.Proofs.YtabofnehiclkiaaGreat
open Go Go.Proofs.Tryz IntKind IntWalk List
set_option linter.all false
set_option maxRecDepth 100000
set_option maxHeartbeats 8000000
variable {K : Nat} {H : FH} {w : World} {L : OL} {s0 s1 s2 s3 s4 s5 s6 : Value}
def D1 (K : Nat) (a5 : (MpT × Int)) (e1 : Bool) : Option Bool := (if e1 = true then some false else ((Zl3 K (mkT 1 a5.1.length) 1).bind fun f3 => (if f3 < 0 then some false else (if f3 = (1 + 9 * (a5.1.length : Int)) then some true else some false))))
def K7 (K : Nat) (a0 : ((List Int) × (List MpT))) (a1 : MpT) (a5 a4 : (MpT × Int)) (e7 : Bool) : Option Bool := (if e7 = true then some false else (if a5.1.length ≤ 1000000000000 ∧ 0 ≤ (1 : Int) ∧ (1 : Int) ≤ 1000000000000000 then ((Zl3 K (mkT 1 a5.1.length) 1).bind fun f4 => (if f4 < 0 then some false else (if f4 = (1 + 9 * (a5.1.length : Int)) then ((Zb4 K (a0.1, a0.2)).bind fun i8 => ((B7 K a1).bind fun m7 => ((Zf2 K (i8.1, i8.2) m7).bind fun b2 => ((I6 K (b2.1, b2.2).1 (a4.1, a4.2).1).bind fun i9 => (if i9 = true then D1 K a5 (!decide ((b2.1, b2.2).2 = (a4.1, a4.2).2)) else D1 K a5 true))))) else some false))) else none))
def D2 (K : Nat) (a0 : ((List Int) × (List MpT))) (a1 : MpT) (b7 : ((List Int) × (List MpT))) (c8 : MpT) (a5 a4 : (MpT × Int)) (e8 : Bool) : Option Bool := (if e8 = true then some false else ((Zb4 K (a0.1, a0.2)).bind fun j0 => ((Zo7 K (b7.1, b7.2) (j0.1, j0.2)).bind fun g4 => (if g4 = true then ((B7 K a1).bind fun m8 => ((I6 K c8 m8).bind fun g5 => (if g5 = true then (if Zx4 b7 ≤ 1000000000000 ∧ 0 ≤ (1 : Int) ∧ (1 : Int) ≤ 1000000 then (if c8.length ≤ 1000000000000 ∧ 0 ≤ ((1 + Zx4 b7) : Int) ∧ ((1 + Zx4 b7) : Int) ≤ 1000000000000000 then (if ((1 + Zx4 b7) + 9 * (c8.length : Int)) < 0 then K7 K a0 a1 a5 a4 true else ((I6 K a5.1 (a4.1, a4.2).1).bind fun h3 => (if h3 = true then K7 K a0 a1 a5 a4 (!decide (a5.2 = (a4.1, a4.2).2)) else K7 K a0 a1 a5 a4 true))) else none) else none) else some false))) else some false))))
def Zg4 (K : Nat) (a0 : ((List Int) × (List MpT))) (a1 : MpT) : Option Bool := ((Zo2 K (a0.1, a0.2) 1048576).bind fun r7 => (if r7 < 0 then some true else ((Zq1 K a1 r7).bind fun l7 => (if l7 < 0 then some true else ((Zb4 K (a0.1, a0.2)).bind fun o1 => ((B7 K a1).bind fun q9 => ((Zk6 K (o1.1, o1.2) q9).bind fun a4 => ((Zb4 K (a0.1, a0.2)).bind fun b7 => ((B7 K a1).bind fun c8 => ((Zf2 K (b7.1, b7.2) c8).bind fun a5 => ((I6 K a5.1 (a4.1, a4.2).1).bind fun j1 => (if j1 = true then D2 K a0 a1 b7 c8 a5 a4 (!decide (a5.2 = (a4.1, a4.2).2)) else D2 K a0 a1 b7 c8 a5 a4 true))))))))))))
theorem Yf7 {a0 : ((List Int) × (List MpT))} {a1 : MpT} {r : Bool} (q0 : Zg4 K a0 a1 = some r) (a6 : Y3 (Y4 .i64) H s0 a0.1) (a7 : Y3 (X3 yT) H s1 a0.2) (a8 : Y3 yT H s2 a1) (hM : ∀ b, H.memo b = none) (hL : ∀ b, b < H.lim → H b ≠ none) (hS : St H w L) :
 Calls prog 9 #[vA ([s0] ++ [s1]), vA [s2]] w (T4 (fun v G => R.bool.p G v r) H L) := by
 have Z4 := Sub.refl H
 refine X0 func9 U ntmps9 U ?_
 unfold Zg4 at q0
 refine Z1 (Z0 (T8 (v := vA ([s0] ++ [s1])) ([s0] ++ [s1]).toArray U U hS U (fun b1 _ hS => T8 (v := vA [s2]) [s2].toArray U U hS U (fun b4 _ hS => Z5 (vB false) U U (Z2 (Z1 (Z0 (Z5 (vI 1048576) U U (Z2 (Z1 (Z0 (X5 Xy0 U (hS.get (mR mL)) U U (Z3 (vI 1048576) U U ?_)))))))))))))
 obtain ⟨r7, hr7, q0⟩ := bSm q0
 refine X2 call15 (W8 U U) U (Yx1 hr7 a6 a7 hS) ?_
 rintro _ _ _ o2 hS rfl
 have Z4 := Z4.trans o2
 have a6 := a6.mono o2
 have a7 := a7.mono o2
 have a8 := a8.mono o2
 refine Z5 (vI r7) U U (Z2 (Z1 (Z1 (Z0 (Z3 (vI r7) U U (V4 (k := .i64) (a := r7) (b := 0) U U U (Z2 ?_)))))))
 obtain ⟨r0, q0⟩ | ⟨r0, q0⟩ := ic q0
 refine Z8 (bT r0 U) (Z1 (Z0 (Z5 (vB true) U U (Z2 (Y9 (vs := [vB true]) func9 Ut ?_)))))
 cases q0
 exact ⟨_, _, U, Z4, (St.dA (St.dA hS)), U⟩
 refine Z6 (bF r0 U) (Y6 (Z1 (Z0 (X5 Xe5 U (hS.get mL) U U (Z3 (vI r7) U U ?_)))))
 obtain ⟨l7, y9, q0⟩ := bSm q0
 refine X2 call24 (W8 U U) U (Ym3 y9 a8 hS) ?_
 rintro _ _ _ j2 hS rfl
 have Z4 := Z4.trans j2
 have a8 := a8.mono j2
 have a6 := a6.mono j2
 have a7 := a7.mono j2
 refine Z5 (vI l7) U U (Z2 (Z1 (Z1 (Z0 (Z3 (vI l7) U U (V4 (k := .i64) (a := l7) (b := 0) U U U (Z2 ?_)))))))
 obtain ⟨m9, q0⟩ | ⟨m9, q0⟩ := ic q0
 refine Z8 (bT m9 U) (Z1 (Z0 (Z5 (vB true) U U (Z2 (Y9 (vs := [vB true]) func9 Ut ?_)))))
 cases q0
 exact ⟨_, _, U, Z4, (St.dA (St.dA hS)), U⟩
 refine Z6 (bF m9 U) (Y6 (Z1 ?_))
 obtain ⟨o1, z0, q0⟩ := bSm q0
 obtain ⟨q9, z1, q0⟩ := bSm q0
 obtain ⟨a4, z2, q0⟩ := bSm q0
 refine W6 11 (S8 [mE 28 (vA ([s0] ++ [s1])), (29, MP.rep (R.agg (Yd6 (X3 (Y4 .i64)) (X3 (X3 yT)))) o1), mE 30 (vA [s2]), (31, MP.rep (R.agg (X3 yT)) q9), (32, MP.rep (R.t2 (R.agg (X3 yT)) (R.int .i64)) a4), (27, MP.rep (R.t2 (R.agg (X3 yT)) (R.int .i64)) ((a4.1, a4.2))), (33, MP.rep (R.agg (X3 yT)) (a4.1, a4.2).1), mE 34 (vI (a4.1, a4.2).2), (6, MP.box (cA [vN] 45)), mE 7 (vI (a4.1, a4.2).2)]) [Co.st 8 6 9 6 33 (Zw6 45)] mixed U (Zy5 (ns := [(8, 6, 9, 6, 33)]) U U) U hS (W7 U (X4 fun S B => X5 Xy0 (evT (B 2 U) U) (S.get (mR (mR mL))) U U (qz S)) (W7 U ?_ (W7 U ?_ (W7 U ?_ (W7 U ?_ (W7 U ?_ (W7 U ?_ (W7 U ?_ (W7 U ?_ (Yj9 U ?_ (W7 U ?_ W9))))))))))) ?_
 intro _ _ _ _ r1 hS _ z3 hcq
 have a6 := a6.mono r1
 have a7 := a7.mono r1
 refine X2 call17 (S4 (eM (z3 0 28 U U))) U (Zp7 z0 a6 a7 hS) ?_
 rintro _ _ _ z4 hS n0
 have n0 := Yc7.rep n0
 exact qn z4 U hS n0
 exact X4 fun S B => X5 Xe5 (evT (B 3 U) U) (S.get (mR mL)) U U (qz S)
 intro _ _ _ _ z5 hS _ z6 hcq
 have a8 := a8.mono z5
 refine X2 call26 (S4 (eM (z6 2 30 U U))) U (Zp0 z1 a8 hS) ?_
 rintro _ _ _ z7 hS n1
 have n1 := ((R.agg (X3 yT))).mono (Zw4 _ _) n1
 exact qn z7 U hS n1
 intro _ _ _ _ _ hS _ r2 hcq
 obtain ⟨_, q61, ⟨_, rfl, ⟨_, _, rfl, ⟨_, rfl, r3⟩, ⟨_, rfl, r4⟩⟩⟩⟩ := gvR (r2 1 29 U U)
 obtain ⟨_, q63, ⟨_, rfl, ⟨_, rfl, r5⟩⟩⟩ := gvR (r2 3 31 U U)
 refine X2 call42 (W8 q61 q63) U (Yr8 z2 r3 r4 r5 hS) ?_
 rintro _ _ _ z8 hS z9
 exact qn z8 U hS z9
 intro _ _ _ _ _ hS _ a00 hcq
 obtain ⟨_, q75, ⟨_, _, rfl, ⟨_, rfl, ⟨p4, rfl, n2⟩⟩, rfl⟩⟩ := gvR (a00 4 32 U U)
 refine Z3 (Value.tuple #[vA [p4], vI a4.2]) q75 U (qn (.refl _) U hS ⟨_, _, U, ⟨_, U, ⟨_, U, n2⟩⟩, U⟩)
 intro _ _ _ _ _ hS _ a01 hcq
 obtain ⟨_, q85, ⟨_, _, rfl, ⟨_, rfl, ⟨p5, rfl, n3⟩⟩, rfl⟩⟩ := gvR (a01 5 27 U U)
 refine V1 (vA [p5]) q85 U U (qn (.refl _) U hS ⟨_, U, ⟨_, U, n3⟩⟩)
 intro _ _ _ _ _ hS _ a02 hcq
 obtain ⟨_, q95, ⟨_, _, rfl, ⟨_, rfl, ⟨_, rfl, _⟩⟩, rfl⟩⟩ := gvR (a02 5 27 U U)
 refine V1 (vI (a4.1, a4.2).2) q95 U U (qn (.refl _) U hS U)
 intro _ _ _ _ _ hS _ _ hcq
 refine U5 (z := vA [vN]) [vN].toArray Zj8.zero U hS U fun _ _ hS => qn (.refl _) U hS ⟨_, U⟩
 intro g6 a03 r6 a04 _ hS _ o3 hcq
 have Z4 := Sub.refl r6
 obtain ⟨r8, h4⟩ := o3 8 6 U U
 have h4 : g6 6 = vP r8 := h4
 have hS : St r6 a03 (Zg0 (cA [vN] 45) (g6 6) ++ (a04 ++ _)) := hS
 rw [h4] at hS
 have a05 : tv g6 6 = vP r8 := h4
 obtain ⟨_, r9, ⟨_, rfl, ⟨h5, rfl, p6⟩⟩⟩ := gvR (o3 6 33 U U)
 refine W1 (v := vA [h5]) (vs := ([h5]).toArray) (cs := ([vN]).toArray) U7 a05 r9 U hS U (K9 p6.isOne) U ?_
 intro _ hS
 have a06 : g6 33 = vA [h5] := r9
 exact Z2 ⟨_, U, U, Z4, by show St _ _ (Zg0 (Zw6 45 (g6 33)) (g6 6) ++ _); rw [h4, a06]; exact hS, trivial⟩
 exact Y7 fun S V => Z5 (vI (a4.1, a4.2).2) (eM (V 7 34 U U)) U (qz S)
 intro f5 a07 h6 h1 hS o4 j3 hcq
 have hS : St h6 a07 ((Zg0 (Zw6 45 (f5 33)) (f5 6) ++ ([])) ++ _) := hS
 have Z4 := Z4.trans h1
 have a6 := a6.mono h1
 have a7 := a7.mono h1
 have a8 := a8.mono h1
 have n4 : tv f5 2 = vP b1 := Eq.trans (o4 2 U) U
 have n5 : tv f5 3 = vP b4 := Eq.trans (o4 3 U) U
 obtain ⟨_, a08, ⟨_, rfl, ⟨c4, rfl, a3⟩⟩⟩ := gvR (j3 6 33 (by decide) U)
 have n6 : tv f5 7 = vI (a4.1, a4.2).2 := j3 10 7 (by decide) U
 obtain ⟨e5, f6⟩ := j3 8 6 (by decide) U
 have f6 : f5 6 = vP e5 := f6
 rw [f6] at hS
 have f6 : tv f5 6 = _ := f6
 have a09 : f5 33 = vA [c4] := a08
 rw [a09] at hS
 refine Z2 (Z1 (Z0 (X5 Xy0 (by exact n4) (hS.get (mR (mR mL))) U U ?_)))
 have j4 := Y3.noMI a6
 have j5 := Y3.noMF a7
 have j6 := Y3.noMT a8
 have f7 := Y3.noMT a3
 have sB := Ve1 h6
 have i3 := Z4
 have u7 := sB
 obtain ⟨b7, u8, q0⟩ := bSm q0
 refine U9 call17 (S4 U) U (Zp7 u8 a6 a7 hS) ?_
 rintro _ _ ⟨_, h7, rfl, g1, hS, o5⟩
 obtain ⟨c9, d0, rfl, b9, c0⟩ := id o5.old
 have b9 := Y3.old b9
 have c0 := Y3.old c0
 refine ⟨_, U, ?_⟩
 have Z4 := Z4.trans g1
 have a6 := a6.mono g1
 have a7 := a7.mono g1
 have a8 := a8.mono g1
 have a3 := a3.mono g1
 have sB := sB.trans g1
 have c1 := Sub.refl h7
 refine U5 (z := vA ([vN] ++ [vN])) ([vN] ++ [vN]).toArray Wt0.zero U hS U fun f8 _ hS => W1 (v := vA ([c9] ++ [d0])) (vs := ([c9] ++ [d0]).toArray) (cs := ([vN] ++ [vN]).toArray) Zx2 U U U hS U (Yg4 (K9 b9.isOne) (K9 c0.isOne)) U fun _ hS => Z2 (Z1 (Z0 (X5 Xe5 (by exact n5) (hS.get (mR (mR mL))) U U ?_)))
 have i4 := Z4
 have u9 := sB
 have l9 := c1
 obtain ⟨c8, v0, q0⟩ := bSm q0
 refine X2 call26 (S4 U) U (Zp0 v0 a8 hS) ?_
 rintro _ g2 _ d5 hS ⟨_, rfl, ⟨c7, rfl, f9⟩⟩
 have Z4 := Z4.trans d5
 have a8 := a8.mono d5
 have a6 := a6.mono d5
 have a7 := a7.mono d5
 have a3 := a3.mono d5
 have b9 := b9.mono d5
 have c0 := c0.mono d5
 have sB := sB.trans d5
 have c1 := c1.trans d5
 have b6 := Zw4 g2 h7
 have b8 := Y3.old f9
 have f9 := Y3.mono (Xo8 (Sub.refl (g2.new h7))) f9
 refine U5 (z := vA [vN]) [vN].toArray Zj8.zero U hS U fun g0 _ hS => W1 (v := vA [c7]) (vs := ([c7]).toArray) (cs := ([vN]).toArray) U7 U U U hS U (K9 b8.isOne) U fun _ hS => Z2 (Z1 (Z0 (X5 Zx2 U (hS.get (mR mL)) U U (X5 U7 U (hS.get mL) U U ?_))))
 have i5 := Z4
 have v1 := sB
 have m0 := c1
 have j7 := b6
 obtain ⟨a5, v2, q0⟩ := bSm q0
 refine X2 call43 (W8 U U) U (Yd2 v2 b9 c0 b8 hS) ?_
 rintro _ j8 _ d1 hS ⟨_, _, rfl, ⟨_, rfl, ⟨c3, rfl, e9⟩⟩, rfl⟩
 have Z4 := Z4.trans d1
 have b9 := b9.mono d1
 have c0 := c0.mono d1
 have b8 := b8.mono d1
 have a6 := a6.mono d1
 have a7 := a7.mono d1
 have a8 := a8.mono d1
 have a3 := a3.mono d1
 have sB := sB.trans d1
 have c1 := c1.trans d1
 have b6 := b6.trans d1
 have a9 := Zw4 j8 g2
 have b5 := Y3.old e9
 have e9 := Y3.mono (Xo8 (Sub.refl (j8.new g2))) e9
 refine Z3 (Value.tuple #[vA [c3], vI a5.2]) U U (V1 (vA [c3]) U U U (V1 (vI a5.2) U U U (U5 (z := vA [vN]) [vN].toArray Zj8.zero U hS U (fun e6 _ hS => W1 (v := vA [c3]) (vs := ([c3]).toArray) (cs := ([vN]).toArray) U7 U U U hS U (K9 b5.isOne) U (fun _ hS => Z5 (vI a5.2) U U (Z2 (Z1 (Z1 (N1 (fun f w => ∃ e8 H1, D2 K a0 a1 b7 c8 a5 a4 e8 = some r ∧ Sub H H1 ∧ St H1 w ([(e6, cA [c3] 45)] ++ ([(g0, cA [c7] 45)] ++ ([(f8, cA ([c9] ++ [d0]) 31)] ++ ([(e5, cA [c4] 45)] ++ ([(b4, cA [s2] 40)] ++ ([(b1, cA ([s0] ++ [s1]) 25)] ++ L)))))) ∧ Y3 (Y4 .i64) H1 c9 b7.1 ∧ Y3 yT H1 c7 c8 ∧ Y3 yT H1 c3 a5.1 ∧ Y3 (X3 yT) H1 d0 b7.2 ∧ Y3 (Y4 .i64) H1 s0 a0.1 ∧ Y3 (X3 yT) H1 s1 a0.2 ∧ Y3 yT H1 s2 a1 ∧ Y3 yT H1 c4 (a4.1, a4.2).1 ∧ tv f 2 = vP b1 ∧ tv f 3 = vP b4 ∧ tv f 6 = vP e5 ∧ tv f 7 = vI (a4.1, a4.2).2 ∧ tv f 8 = vP f8 ∧ tv f 9 = vP g0 ∧ tv f 10 = vP e6 ∧ tv f 11 = vI a5.2 ∧ tv f 53 = vB e8 ∧ Sub h6.noM H1 ∧ Sub h7 H1 ∧ Sub (g2.new h7) H1 ∧ Sub (j8.new g2) H1) ?_ ?_)))))))))
 rintro _ _ ⟨e8, _, b3, Z4, hS, b9, b8, b5, c0, a6, a7, a8, a3, m2, s3, s4, s5, m3, s6, p7, p8, i6, sB, c1, b6, a9⟩
 unfold D2 at b3
 obtain ⟨j9, b3⟩ | ⟨j9, b3⟩ := ic b3
 refine Z8 (Eq.trans (by exact i6) (congrArg vB j9)) (Z1 (Z0 (Z5 (vB false) U U (Z2 (Y9 (vs := [vB false]) func9 Ut ?_)))))
 cases b3
 exact ⟨_, _, U, Z4, (St.dA (St.dA (St.dA (St.dA (St.dA (St.dA hS)))))), U⟩
 refine Z6 (Eq.trans (by exact i6) (congrArg vB (X8 j9))) (Y6 (Z1 (Z1 ?_)))
 obtain ⟨j0, v3, b3⟩ := bSm b3
 obtain ⟨g4, v4, b3⟩ := bSm b3
 refine W6 5 (S8 [mE 54 (vA ([c9] ++ [d0])), mE 55 (vA ([s0] ++ [s1])), (56, MP.rep (R.agg (Yd6 (X3 (Y4 .i64)) (X3 (X3 yT)))) j0), mE 57 (vB g4), mE 58 (vB (!g4))]) [] mixed U U U hS (K3 (X4 fun S B => X5 Zx2 (evT (B 8 U) m3) (S.get (mR (mR (mR mL)))) U U (qz S)) (X4 fun S B => X5 Xy0 (evT (B 2 U) m2) (S.get (mR (mR (mR (mR (mR (mR mL))))))) U U (qz S)) ?_ ?_ (I2 ?_ W9)) ?_
 intro _ _ _ _ o6 hS _ v5 hcq
 have a6 := a6.mono o6
 have a7 := a7.mono o6
 refine X2 call17 (S4 (eM (v5 1 55 U U))) U (Zp7 v3 a6 a7 hS) ?_
 rintro _ _ _ v6 hS k0
 have k0 := Yc7.rep k0
 exact qn v6 U hS k0
 intro _ _ _ _ o7 hS _ o8 hcq
 have b9 := b9.mono o7
 have c0 := c0.mono o7
 obtain ⟨_, a10, ⟨_, rfl, ⟨_, _, rfl, ⟨_, rfl, p9⟩, ⟨_, rfl, q1⟩⟩⟩⟩ := gvR (o8 2 56 U U)
 refine X2 call20 (W8 (eM (o8 0 54 U U)) a10) U (Yx2 v4 b9 c0 p9 q1 hS) ?_
 rintro _ _ _ v7 hS rfl
 exact qn v7 U hS U
 exact Y7 fun S V => P5 (b := g4) (eM (V 3 57 U U)) U (qz S)
 intro a11 a12 a13 d2 hS e2 v8 hcq
 have hS : St a13 a12 ([(e6, cA [c3] 45)] ++ _) := hS
 have Z4 := Z4.trans d2
 have b5 := b5.mono d2
 have b8 := b8.mono d2
 have a3 := a3.mono d2
 have a8 := a8.mono d2
 have a6 := a6.mono d2
 have a7 := a7.mono d2
 have sB := sB.trans d2
 have c1 := c1.trans d2
 have b6 := b6.trans d2
 have a9 := a9.trans d2
 have s7 := evT (e2 3 U) s3
 have s8 := evT (e2 9 U) s6
 have s9 : tv a11 58 = vB (!g4) := v8 4 58 (by decide) U
 refine Z2 ?_
 obtain ⟨k1, b3⟩ | ⟨k1, b3⟩ := ic b3
 refine Z6 (Eq.trans (by exact s9) (congrArg (fun b => vB (!b)) k1)) (Y6 (Z1 (Z1 ?_)))
 obtain ⟨m8, v9, b3⟩ := bSm b3
 obtain ⟨g5, w0, b3⟩ := bSm b3
 refine W6 5 (S8 [mE 59 (vA [c7]), mE 60 (vA [s2]), (61, MP.rep (R.agg (X3 yT)) m8), mE 62 (vB g5), mE 63 (vB (!g5))]) [] mixed U U U hS (K3 (X4 fun S B => X5 U7 (evT (B 9 U) s8) (S.get (mR (mR mL))) U U (qz S)) (X4 fun S B => X5 Xe5 (evT (B 3 U) s7) (S.get (mR (mR (mR (mR (mR mL)))))) U U (qz S)) ?_ ?_ (I2 ?_ W9)) ?_
 intro _ _ _ _ w1 hS _ w2 hcq
 have a8 := a8.mono w1
 refine X2 call26 (S4 (eM (w2 1 60 U U))) U (Zp0 v9 a8 hS) ?_
 rintro _ _ _ w3 hS k2
 have k2 := ((R.agg (X3 yT))).mono (Zw4 _ _) k2
 exact qn w3 U hS k2
 intro _ _ _ _ w4 hS _ o9 hcq
 have b8 := b8.mono w4
 obtain ⟨_, a14, ⟨_, rfl, ⟨_, rfl, q2⟩⟩⟩ := gvR (o9 2 61 U U)
 refine X2 call28 (W8 (eM (o9 0 59 U U)) a14) U (Zo6 w0 b8 q2 hS) ?_
 rintro _ _ _ w5 hS rfl
 exact qn w5 U hS U
 exact Y7 fun S V => P5 (b := g5) (eM (V 3 62 U U)) U (qz S)
 intro a15 a16 a17 d3 hS e3 w6 hcq
 have hS : St a17 a16 ([(e6, cA [c3] 45)] ++ _) := hS
 have Z4 := Z4.trans d3
 have b5 := b5.mono d3
 have b8 := b8.mono d3
 have a3 := a3.mono d3
 have a8 := a8.mono d3
 have a6 := a6.mono d3
 have a7 := a7.mono d3
 have sB := sB.trans d3
 have c1 := c1.trans d3
 have b6 := b6.trans d3
 have a9 := a9.trans d3
 have n7 := evT (e3 2 U) (evT (e2 2 U) m2)
 have n8 := evT (e3 3 U) s7
 have k3 := evT (e3 6 U) (evT (e2 6 U) s4)
 have k4 := evT (e3 7 U) (evT (e2 7 U) s5)
 have k5 := evT (e3 10 U) (evT (e2 10 U) p7)
 have t0 : tv a15 63 = vB (!g5) := w6 4 63 (by decide) U
 refine Z2 ?_
 obtain ⟨k6, b3⟩ | ⟨k6, b3⟩ := ic b3
 refine Z6 (Eq.trans (by exact t0) (congrArg (fun b => vB (!b)) k6)) (Y6 (Z1 (Z0 (Z5 (vI 1) U U (Z2 (Z1 (Z0 (X5 Zx2 (by exact (evT (e3 8 U) (evT (e2 8 U) m3))) (hS.get (mR (mR mL))) U U (Z3 (vI 1) U U ?_)))))))))
 obtain ⟨w7, b3⟩ := gd b3
 refine U9 call21 (W8 U U) U (Wj2 o5 c1 w7 (Wa0 hL i3 Z4) hS) ?_
 rintro _ _ ⟨_, rfl, hS, _, _, g3⟩
 refine ⟨_, U, ?_⟩
 have Z4 := g3 H Z4 hM (fun b h => .inl (Ys6 i3 b h))
 have b6 := g3 _ b6 (fun _ => rfl) (Yx3 l9)
 have b8 := Y3.mono b6 (Y3.old f9)
 have a9 := g3 _ a9 (fun _ => rfl) (Yx3 m0)
 have b5 := Y3.mono a9 (Y3.old e9)
 have sB := g3 _ sB (fun _ => rfl) (fun b h => .inl (Ys6 u7 b h))
 have a6 := j4.mono sB
 have a7 := j5.mono sB
 have a8 := j6.mono sB
 have a3 := f7.mono sB
 refine Z5 (vI (1 + Zx4 b7)) U U (Z2 (Z1 (Z0 (X5 U7 (by exact (evT (e3 9 U) s8)) (hS.get (mR mL)) U U (Z3 (vI (1 + Zx4 b7)) U U ?_)))))
 obtain ⟨w8, b3⟩ := gd b3
 refine U9 call29 (W8 U U) U (Xd1 f9 b6 w8 (Wa0 hL i4 Z4) hS) ?_
 rintro _ _ ⟨a18, rfl, hS, f0, h8⟩
 refine ⟨_, U, ?_⟩
 have Z4 := h8 H Z4 hM (fun b h => .inl (Ys6 i4 b h))
 have sB := h8 _ sB (fun _ => rfl) (fun b h => .inl (Ys6 u9 b h))
 have a9 := h8 _ a9 (fun _ => rfl) (Yx3 j7)
 have b5 := Y3.mono a9 (Y3.old e9)
 have a6 := j4.mono sB
 have a7 := j5.mono sB
 have a8 := j6.mono sB
 have a3 := f7.mono sB
 refine Z5 (vI ((1 + Zx4 b7) + 9 * (c8.length : Int))) U U (Z2 (Z1 (Z1 (N1 (fun f w => ∃ e7 H1, K7 K a0 a1 a5 a4 e7 = some r ∧ Sub H H1 ∧ St H1 w ([(e6, cA [c3] 45)] ++ ([(g0, cA [c7] 45)] ++ ([(f8, cA ([c9] ++ [d0]) 31)] ++ ([(e5, cA [c4] 45)] ++ ([(b4, cA [s2] 40)] ++ ([(b1, cA ([s0] ++ [s1]) 25)] ++ L)))))) ∧ Y3 yT H1 c3 a5.1 ∧ Y3 yT H1 c7 (mkT (1 + Zx4 b7) c8.length) ∧ Y3 (Y4 .i64) H1 s0 a0.1 ∧ Y3 (X3 yT) H1 s1 a0.2 ∧ Y3 yT H1 s2 a1 ∧ Y3 yT H1 c4 (a4.1, a4.2).1 ∧ tv f 2 = vP b1 ∧ tv f 3 = vP b4 ∧ tv f 6 = vP e5 ∧ tv f 7 = vI (a4.1, a4.2).2 ∧ tv f 10 = vP e6 ∧ tv f 82 = vB e7 ∧ Sub h6.noM H1 ∧ Sub (j8.new g2) H1) ?_ ?_))))
 rintro _ _ ⟨e7, _, b0, Z4, hS, b5, f0, a6, a7, a8, a3, t1, t4, t5, t6, g7, i7, sB, a9⟩
 unfold K7 at b0
 obtain ⟨k7, b0⟩ | ⟨k7, b0⟩ := ic b0
 refine Z8 (Eq.trans (by exact i7) (congrArg vB k7)) (Z1 (Z0 (Z5 (vB false) U U (Z2 (Y9 (vs := [vB false]) func9 Ut ?_)))))
 cases b0
 exact ⟨_, _, U, Z4, (St.dA (St.dA (St.dA (St.dA (St.dA (St.dA hS)))))), U⟩
 refine Z6 (Eq.trans (by exact i7) (congrArg vB (X8 k7))) (Y6 (Z1 (Z0 (Z5 (vI 1) U U (Z2 (Z1 (Z0 (X5 U7 (by exact g7) (hS.get mL) U U (Z3 (vI 1) U U ?_)))))))))
 obtain ⟨w9, b0⟩ := gd b0
 refine U9 call29 (W8 U U) U (Xd1 e9 a9 w9 (Wa0 hL i5 Z4) hS) ?_
 rintro _ _ ⟨_, rfl, hS, c5, m4⟩
 refine ⟨_, U, ?_⟩
 have Z4 := m4 H Z4 hM (fun b h => .inl (Ys6 i5 b h))
 have sB := m4 _ sB (fun _ => rfl) (fun b h => .inl (Ys6 v1 b h))
 have a6 := j4.mono sB
 have a7 := j5.mono sB
 have a8 := j6.mono sB
 have a3 := f7.mono sB
 refine Z5 (vI (1 + 9 * (a5.1.length : Int))) U U (Z2 (Z1 (Z0 (Z5 (vI 1) U U (Z2 (Z1 (Z0 (X5 U7 (by exact g7) (hS.get mL) U U (Z3 (vI 1) U U ?_)))))))))
 obtain ⟨f4, x0, b0⟩ := bSm b0
 refine X2 call44 (W8 U U) U (Yi6 x0 c5 hS) ?_
 rintro _ _ _ f1 hS rfl
 have Z4 := Z4.trans f1
 have c5 := c5.mono f1
 have a3 := a3.mono f1
 have a8 := a8.mono f1
 have a6 := a6.mono f1
 have a7 := a7.mono f1
 have sB := sB.trans f1
 refine Z5 (vI f4) U U (Z2 (Z1 (Z1 (Z0 (Z3 (vI f4) U U (V4 (k := .i64) (a := f4) (b := 0) U U U (Z2 ?_)))))))
 obtain ⟨k8, b0⟩ | ⟨k8, b0⟩ := ic b0
 refine Z8 (bT k8 U) (Z1 (Z0 (Z5 (vB false) U U (Z2 (Y9 (vs := [vB false]) func9 Ut ?_)))))
 cases b0
 exact ⟨_, _, U, Z4, (St.dA (St.dA (St.dA (St.dA (St.dA (St.dA hS)))))), U⟩
 refine Z6 (bF k8 U) (Y6 (Z1 (Z1 (Z0 (Z3 (vI f4) U U (Z3 (vI (1 + 9 * (a5.1.length : Int))) U U (L1 (k := .i64) (a := f4) (b := (1 + 9 * (a5.1.length : Int))) U U U (Z2 ?_))))))))
 obtain ⟨k9, b0⟩ | ⟨k9, b0⟩ := ic b0
 refine Z6 (bN k9 U) (Y6 (Z1 ?_))
 obtain ⟨i8, x1, b0⟩ := bSm b0
 obtain ⟨m7, x2, b0⟩ := bSm b0
 obtain ⟨b2, x3, b0⟩ := bSm b0
 refine W6 11 (S8 [mE 95 (vA ([s0] ++ [s1])), (96, MP.rep (R.agg (Yd6 (X3 (Y4 .i64)) (X3 (X3 yT)))) i8), mE 97 (vA [s2]), (98, MP.rep (R.agg (X3 yT)) m7), (99, MP.rep (R.t2 (R.agg (X3 yT)) (R.int .i64)) b2), (94, MP.rep (R.t2 (R.agg (X3 yT)) (R.int .i64)) ((b2.1, b2.2))), (100, MP.rep (R.agg (X3 yT)) (b2.1, b2.2).1), mE 101 (vI (b2.1, b2.2).2), (15, MP.box (cA [vN] 45)), mE 16 (vI (b2.1, b2.2).2)]) [Co.st 8 15 9 6 100 (Zw6 45)] mixed U (Zy5 (ns := [(8, 15, 9, 6, 100)]) U U) U hS (W7 U (X4 fun S B => X5 Xy0 (evT (B 2 U) t1) (S.get (mR (mR (mR (mR (mR (mR mL))))))) U U (qz S)) (W7 U ?_ (W7 U ?_ (W7 U ?_ (W7 U ?_ (W7 U ?_ (W7 U ?_ (W7 U ?_ (W7 U ?_ (Yj9 U ?_ (W7 U ?_ W9))))))))))) ?_
 intro _ _ _ _ p0 hS _ x4 hcq
 have a6 := a6.mono p0
 have a7 := a7.mono p0
 refine X2 call17 (S4 (eM (x4 0 95 U U))) U (Zp7 x1 a6 a7 hS) ?_
 rintro _ _ _ x5 hS l0
 have l0 := Yc7.rep l0
 exact qn x5 U hS l0
 exact X4 fun S B => X5 Xe5 (evT (B 3 U) t4) (S.get (mR (mR (mR (mR (mR mL)))))) U U (qz S)
 intro _ _ _ _ x6 hS _ x7 hcq
 have a8 := a8.mono x6
 refine X2 call26 (S4 (eM (x7 2 97 U U))) U (Zp0 x2 a8 hS) ?_
 rintro _ _ _ x8 hS l1
 have l1 := ((R.agg (X3 yT))).mono (Zw4 _ _) l1
 exact qn x8 U hS l1
 intro _ _ _ _ _ hS _ p1 hcq
 obtain ⟨_, a19, ⟨_, rfl, ⟨_, _, rfl, ⟨_, rfl, q3⟩, ⟨_, rfl, q4⟩⟩⟩⟩ := gvR (p1 1 96 U U)
 obtain ⟨_, a20, ⟨_, rfl, ⟨_, rfl, q5⟩⟩⟩ := gvR (p1 3 98 U U)
 refine X2 call43 (W8 a19 a20) U (Yd2 x3 q3 q4 q5 hS) ?_
 rintro _ _ _ x9 hS l2
 have l2 := ((R.t2 (R.agg (X3 yT)) (R.int .i64))).mono (Zw4 _ _) l2
 exact qn x9 U hS l2
 intro _ _ _ _ _ hS _ y0 hcq
 obtain ⟨_, a21, ⟨_, _, rfl, ⟨_, rfl, ⟨n9, rfl, m5⟩⟩, rfl⟩⟩ := gvR (y0 4 99 U U)
 refine Z3 (Value.tuple #[vA [n9], vI b2.2]) a21 U (qn (.refl _) U hS ⟨_, _, U, ⟨_, U, ⟨_, U, m5⟩⟩, U⟩)
 intro _ _ _ _ _ hS _ y1 hcq
 obtain ⟨_, a22, ⟨_, _, rfl, ⟨_, rfl, ⟨o0, rfl, m6⟩⟩, rfl⟩⟩ := gvR (y1 5 94 U U)
 refine V1 (vA [o0]) a22 U U (qn (.refl _) U hS ⟨_, U, ⟨_, U, m6⟩⟩)
 intro _ _ _ _ _ hS _ y2 hcq
 obtain ⟨_, a23, ⟨_, _, rfl, ⟨_, rfl, ⟨_, rfl, _⟩⟩, rfl⟩⟩ := gvR (y2 5 94 U U)
 refine V1 (vI (b2.1, b2.2).2) a23 U U (qn (.refl _) U hS U)
 intro _ _ _ _ _ hS _ _ hcq
 refine U5 (z := vA [vN]) [vN].toArray Zj8.zero U hS U fun _ _ hS => qn (.refl _) U hS ⟨_, U⟩
 intro g8 a24 t7 a25 _ hS _ p2 hcq
 have Z4 := Sub.refl t7
 obtain ⟨t8, h9⟩ := p2 8 15 U U
 have h9 : g8 15 = vP t8 := h9
 have hS : St t7 a24 (Zg0 (cA [vN] 45) (g8 15) ++ (a25 ++ _)) := hS
 rw [h9] at hS
 have a26 : tv g8 15 = vP t8 := h9
 obtain ⟨_, t9, ⟨_, rfl, ⟨i0, rfl, q6⟩⟩⟩ := gvR (p2 6 100 U U)
 refine W1 (v := vA [i0]) (vs := ([i0]).toArray) (cs := ([vN]).toArray) U7 a26 t9 U hS U (K9 q6.isOne) U ?_
 intro _ hS
 have a27 : g8 100 = vA [i0] := t9
 exact Z2 ⟨_, U, U, Z4, by show St _ _ (Zg0 (Zw6 45 (g8 100)) (g8 15) ++ _); rw [h9, a27]; exact hS, trivial⟩
 exact Y7 fun S V => Z5 (vI (b2.1, b2.2).2) (eM (V 7 101 U U)) U (qz S)
 intro g9 a28 a29 f2 hS h2 l3 hcq
 have hS : St a29 a28 ((Zg0 (Zw6 45 (g9 100)) (g9 15) ++ ([])) ++ _) := hS
 have Z4 := Z4.trans f2
 have c5 := c5.mono f2
 have a3 := a3.mono f2
 have a8 := a8.mono f2
 have a6 := a6.mono f2
 have a7 := a7.mono f2
 have sB := sB.trans f2
 have u0 := evT (h2 10 U) g7
 have u1 : tv g9 13 = vI (1 + 9 * (a5.1.length : Int)) := Eq.trans (h2 13 U) U
 obtain ⟨_, a30, ⟨_, rfl, ⟨i1, rfl, e0⟩⟩⟩ := gvR (l3 6 100 (by decide) U)
 obtain ⟨u2, h0⟩ := l3 8 15 (by decide) U
 have h0 : g9 15 = vP u2 := h0
 rw [h0] at hS
 have h0 : tv g9 15 = _ := h0
 have a31 : g9 100 = vA [i1] := a30
 rw [a31] at hS
 refine Z2 (Z1 (Z1 (N1 (fun f w => ∃ e1 H1, D1 K a5 e1 = some r ∧ Sub H H1 ∧ St H1 w ([(u2, cA [i1] 45)] ++ ([(e6, cA [c3] 45)] ++ ([(g0, cA [c7] 45)] ++ ([(f8, cA ([c9] ++ [d0]) 31)] ++ ([(e5, cA [c4] 45)] ++ ([(b4, cA [s2] 40)] ++ ([(b1, cA ([s0] ++ [s1]) 25)] ++ L))))))) ∧ Y3 yT H1 c3 (mkT 1 a5.1.length) ∧ Y3 (Y4 .i64) H1 s0 a0.1 ∧ Y3 (X3 yT) H1 s1 a0.2 ∧ Y3 yT H1 s2 a1 ∧ Y3 yT H1 c4 (a4.1, a4.2).1 ∧ Y3 yT H1 i1 (b2.1, b2.2).1 ∧ tv f 10 = vP e6 ∧ tv f 13 = vI (1 + 9 * (a5.1.length : Int)) ∧ tv f 110 = vB e1 ∧ Sub h6.noM H1) ?_ ?_)))
 rintro _ _ ⟨e1, _, c2, Z4, hS, c5, a6, a7, a8, a3, e0, q7, q8, i2, sB⟩
 unfold D1 at c2
 obtain ⟨l4, c2⟩ | ⟨l4, c2⟩ := ic c2
 refine Z8 (Eq.trans (by exact i2) (congrArg vB l4)) (Z1 (Z0 (Z5 (vB false) U U (Z2 (Y9 (vs := [vB false]) func9 Ut ?_)))))
 cases c2
 exact ⟨_, _, U, Z4, (St.dA (St.dA (St.dA (St.dA (St.dA (St.dA (St.dA hS))))))), U⟩
 refine Z6 (Eq.trans (by exact i2) (congrArg vB (X8 l4))) (Y6 (Z1 (Z0 (Z5 (vI 1) U U (Z2 (Z1 (Z0 (X5 U7 (by exact q7) (hS.get (mR mL)) U U (Z3 (vI 1) U U ?_)))))))))
 obtain ⟨f3, y3, c2⟩ := bSm c2
 refine X2 call44 (W8 U U) U (Yi6 y3 c5 hS) ?_
 rintro _ _ _ p3 hS rfl
 have Z4 := Z4.trans p3
 have sB := sB.trans p3
 refine Z5 (vI f3) U U (Z2 (Z1 (Z1 (Z0 (Z3 (vI f3) U U (V4 (k := .i64) (a := f3) (b := 0) U U U (Z2 ?_)))))))
 obtain ⟨l5, c2⟩ | ⟨l5, c2⟩ := ic c2
 refine Z8 (bT l5 U) (Z1 (Z0 (Z5 (vB false) U U (Z2 (Y9 (vs := [vB false]) func9 Ut ?_)))))
 cases c2
 exact ⟨_, _, U, Z4, (St.dA (St.dA (St.dA (St.dA (St.dA (St.dA (St.dA hS))))))), U⟩
 refine Z6 (bF l5 U) (Y6 (Z1 (Z1 (Z0 (Z3 (vI f3) U U (Z3 (vI (1 + 9 * (a5.1.length : Int))) (by exact q8) U (L1 (k := .i64) (a := f3) (b := (1 + 9 * (a5.1.length : Int))) U U U (Z2 ?_))))))))
 obtain ⟨l6, c2⟩ | ⟨l6, c2⟩ := ic c2
 refine Z6 (bN l6 U) (Y6 (Z1 (Z0 (Z5 (vB true) U U (Z2 (Y9 (vs := [vB true]) func9 Ut ?_))))))
 cases c2
 exact ⟨_, _, U, Z4, (St.dA (St.dA (St.dA (St.dA (St.dA (St.dA (St.dA hS))))))), U⟩
 refine Z8 (bO l6 U) (Z1 (Z0 (Z5 (vB false) U U (Z2 (Y9 (vs := [vB false]) func9 Ut ?_)))))
 cases c2
 exact ⟨_, _, U, Z4, (St.dA (St.dA (St.dA (St.dA (St.dA (St.dA (St.dA hS))))))), U⟩
 intro y7
 refine Z0 (X5 U7 (by exact h0) (hS.get mL) U U (X5 U7 (by exact (evT (h2 6 U) t5)) (hS.get (mR (mR (mR (mR mL))))) U U ?_))
 obtain ⟨i9, y4, b0⟩ := bSm b0
 refine X2 call28 (W8 U U) U (Zo6 y4 e0 a3 hS) ?_
 rintro _ u3 _ e4 hS rfl
 have Z4 := Z4.trans e4
 have e0 := e0.mono e4
 have a3 := a3.mono e4
 have c5 := c5.mono e4
 have a8 := a8.mono e4
 have a6 := a6.mono e4
 have a7 := a7.mono e4
 have sB := sB.trans e4
 refine P5 (b := i9) U U (Z3 (vB (!i9)) U U ?_)
 obtain ⟨d6, b0⟩ | ⟨d6, b0⟩ := ic b0
 refine Y0 U U (nT d6) (Z3 (vI (b2.1, b2.2).2) (by exact (eM (l3 10 16 (by decide) U))) U (Y0 U U (nT d6) (Z3 (vI (a4.1, a4.2).2) (by exact (evT (h2 7 U) t6)) U (Y0 U U (nT d6) (L1 (k := .i64) (a := (b2.1, b2.2).2) (b := (a4.1, a4.2).2) U U U (W5 (t := false) (vB (!decide ((b2.1, b2.2).2 = (a4.1, a4.2).2))) (nT d6) ((if_neg Bool.false_ne_true).trans U) U (Z2 (y7 _ _ ⟨(!decide ((b2.1, b2.2).2 = (a4.1, a4.2).2)), u3, b0, Z4, hS, c5, a6, a7, a8, a3, e0, u0, u1, U, sB⟩))))))))
 refine Z9 U U (nT (X8 d6)) U U U (Z9 U U (nT (X8 d6)) U U U (Z9 U U (nT (X8 d6)) U U U (W5 (t := true) (vB true) (nT (X8 d6)) ((if_pos U).trans U) U (Z2 (y7 _ _ ⟨true, u3, b0, Z4, hS, c5, a6, a7, a8, a3, e0, u0, u1, U, sB⟩)))))
 refine Z8 (bO k9 U) (Z1 (Z0 (Z5 (vB false) U U (Z2 (Y9 (vs := [vB false]) func9 Ut ?_)))))
 cases b0
 exact ⟨_, _, U, Z4, (St.dA (St.dA (St.dA (St.dA (St.dA (St.dA hS)))))), U⟩
 intro u4
 refine Z0 (Z3 (vI ((1 + Zx4 b7) + 9 * (c8.length : Int))) U U (V4 (k := .i64) (a := ((1 + Zx4 b7) + 9 * (c8.length : Int))) (b := 0) U U U (Z3 (vB (decide (((1 + Zx4 b7) + 9 * (c8.length : Int)) < 0))) U U ?_)))
 obtain ⟨d4, b3⟩ | ⟨d4, b3⟩ := ic b3
 refine Z9 U U (bT d4 U) U U U (Z9 U U (bT d4 U) U U U (Z9 U U (bT d4 U) U U U (Z9 U U (bT d4 U) U U U (W5 (t := true) (vB true) (bT d4 U) ((if_pos U).trans U) U (Z3 (vB true) U U (Z9 U U U U U U (Z9 U U U U U U (Z9 U U U U U U (W5 (t := true) (vB true) U ((if_pos U).trans U) U (Z2 (u4 _ _ ⟨true, a18, b3, Z4, hS, b5, f0, a6, a7, a8, a3, n7, n8, k3, k4, k5, U, sB, a9⟩)))))))))))
 refine Y0 U U (bF d4 U) (X5 U7 (by exact k5) (hS.get mL) U U (Y0 U U (bF d4 U) (X5 U7 (by exact k3) (hS.get (mR (mR (mR mL)))) U U ?_)))
 obtain ⟨h3, y5, b3⟩ := bSm b3
 refine Y0 U U (bF d4 U) (X2 call28 (W8 U U) U (Zo6 y5 b5 a3 hS) ?_)
 rintro _ u5 _ d7 hS rfl
 have Z4 := Z4.trans d7
 have b5 := b5.mono d7
 have a3 := a3.mono d7
 have f0 := f0.mono d7
 have a8 := a8.mono d7
 have a6 := a6.mono d7
 have a7 := a7.mono d7
 have sB := sB.trans d7
 have a9 := a9.trans d7
 refine Y0 U U (bF d4 U) (P5 (b := h3) U U (W5 (t := false) (vB (!h3)) (bF d4 U) ((if_neg Bool.false_ne_true).trans U) U (Z3 (vB (!h3)) U U ?_)))
 obtain ⟨d8, b3⟩ | ⟨d8, b3⟩ := ic b3
 refine Y0 U U (nT d8) (Z3 (vI a5.2) (by exact (evT (e3 11 U) (evT (e2 11 U) p8))) U (Y0 U U (nT d8) (Z3 (vI (a4.1, a4.2).2) (by exact k4) U (Y0 U U (nT d8) (L1 (k := .i64) (a := a5.2) (b := (a4.1, a4.2).2) U U U (W5 (t := false) (vB (!decide (a5.2 = (a4.1, a4.2).2))) (nT d8) ((if_neg Bool.false_ne_true).trans U) U (Z2 (u4 _ _ ⟨(!decide (a5.2 = (a4.1, a4.2).2)), u5, b3, Z4, hS, b5, f0, a6, a7, a8, a3, n7, n8, k3, k4, k5, U, sB, a9⟩))))))))
 refine Z9 U U (nT (X8 d8)) U U U (Z9 U U (nT (X8 d8)) U U U (Z9 U U (nT (X8 d8)) U U U (W5 (t := true) (vB true) (nT (X8 d8)) ((if_pos U).trans U) U (Z2 (u4 _ _ ⟨true, u5, b3, Z4, hS, b5, f0, a6, a7, a8, a3, n7, n8, k3, k4, k5, U, sB, a9⟩)))))
 refine Z8 (Eq.trans (by exact t0) (congrArg (fun b => vB (!b)) (X8 k6))) (Z1 (Z0 (Z5 (vB false) U U (Z2 (Y9 (vs := [vB false]) func9 Ut ?_)))))
 cases b3
 exact ⟨_, _, U, Z4, (St.dA (St.dA (St.dA (St.dA (St.dA (St.dA hS)))))), U⟩
 refine Z8 (Eq.trans (by exact s9) (congrArg (fun b => vB (!b)) (X8 k1))) (Z1 (Z0 (Z5 (vB false) U U (Z2 (Y9 (vs := [vB false]) func9 Ut ?_)))))
 cases b3
 exact ⟨_, _, U, Z4, (St.dA (St.dA (St.dA (St.dA (St.dA (St.dA hS)))))), U⟩
 intro y8
 refine Z0 (X5 U7 U (hS.get mL) U U (X5 U7 (by exact f6) (hS.get (mR (mR (mR mL)))) U U ?_))
 obtain ⟨j1, y6, q0⟩ := bSm q0
 refine X2 call28 (W8 U U) U (Zo6 y6 b5 a3 hS) ?_
 rintro _ u6 _ c6 hS rfl
 have Z4 := Z4.trans c6
 have b5 := b5.mono c6
 have a3 := a3.mono c6
 have a6 := a6.mono c6
 have a7 := a7.mono c6
 have a8 := a8.mono c6
 have b9 := b9.mono c6
 have c0 := c0.mono c6
 have b8 := b8.mono c6
 have sB := sB.trans c6
 have c1 := c1.trans c6
 have b6 := b6.trans c6
 have a9 := a9.trans c6
 refine P5 (b := j1) U U (Z3 (vB (!j1)) U U ?_)
 obtain ⟨d9, q0⟩ | ⟨d9, q0⟩ := ic q0
 refine Y0 U U (nT d9) (Z3 (vI a5.2) U U (Y0 U U (nT d9) (Z3 (vI (a4.1, a4.2).2) (by exact n6) U (Y0 U U (nT d9) (L1 (k := .i64) (a := a5.2) (b := (a4.1, a4.2).2) U U U (W5 (t := false) (vB (!decide (a5.2 = (a4.1, a4.2).2))) (nT d9) ((if_neg Bool.false_ne_true).trans U) U (Z2 (y8 _ _ ⟨(!decide (a5.2 = (a4.1, a4.2).2)), u6, q0, Z4, hS, b9, b8, b5, c0, a6, a7, a8, a3, n4, n5, f6, n6, U, U, U, U, U, sB, c1, b6, a9⟩))))))))
 refine Z9 U U (nT (X8 d9)) U U U (Z9 U U (nT (X8 d9)) U U U (Z9 U U (nT (X8 d9)) U U U (W5 (t := true) (vB true) (nT (X8 d9)) ((if_pos U).trans U) U (Z2 (y8 _ _ ⟨true, u6, q0, Z4, hS, b9, b8, b5, c0, a6, a7, a8, a3, n4, n5, f6, n6, U, U, U, U, U, sB, c1, b6, a9⟩)))))
end Go.Proofs.YtabofnehiclkiaaGreat
