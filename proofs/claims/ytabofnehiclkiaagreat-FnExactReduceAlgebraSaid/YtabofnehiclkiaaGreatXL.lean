/- The walk of the law. -/
import Derived.Test.YtabofnehiclkiaaGreatXF13
import Derived.Test.YtabofnehiclkiaaGreatXF6
import Derived.Test.YtabofnehiclkiaaGreatXF19
import Derived.Test.YtabofnehiclkiaaGreatXF23
import Derived.Test.YtabofnehiclkiaaGreatXF9
import Derived.Test.YtabofnehiclkiaaGreatXF11
import Derived.Test.YtabofnehiclkiaaGreatXF16
import Derived.Test.YtabofnehiclkiaaGreatXX
import Derived.Test.YtabofnehiclkiaaGreatXTy
namespace Go.Proofs.YtabofnehiclkiaaGreat
open Go
set_option linter.unusedSimpArgs false
set_option linter.unusedVariables false
set_option maxRecDepth 100000
set_option maxHeartbeats 8000000
variable {K : Nat} {H : FH} {w : World} {L : OL} {s0 s1 s2 s3 s4 s5 s6 : Value}
def J4 (K : Nat) (a4 : (((List Int) × (List MpT)) × (List MpT) × Int)) (f8 : Bool) : Option Bool := (if f8 = true then some false else ((Zi0 K ((mkA a4.1 1).1, (mkA a4.1 1).2) 1).bind fun h8 => (if h8 < 0 then some false else ((Zh3 K (Zz3 (1 + Zb8 a4.1) a4.2.1) h8).bind fun g7 => (if g7 < 0 then some false else (if g7 = ((1 + Zb8 a4.1) + I2 a4.2.1) then some true else some false))))))
def N6 (K : Nat) (a0 : ((List Int) × (List MpT))) (a4 : (((List Int) × (List MpT)) × (List MpT) × Int)) (r9 : (((List Int) × (List MpT)) × (List MpT) × Int)) (g3 : Bool) : Option Bool := (if g3 = true then some false else (if Zb8 a4.1 ≤ 1000000000000 ∧ 0 ≤ (1 : Int) ∧ (1 : Int) ≤ 1000000 then (if I2 a4.2.1 ≤ 1000000000000 ∧ 0 ≤ ((1 + Zb8 a4.1) : Int) ∧ ((1 + Zb8 a4.1) : Int) ≤ 100000000000000 then ((Zi0 K ((mkA a4.1 1).1, (mkA a4.1 1).2) 1).bind fun h9 => (if h9 < 0 then some false else ((Zh3 K (Zz3 (1 + Zb8 a4.1) a4.2.1) h9).bind fun g8 => (if g8 < 0 then some false else (if g8 = ((1 + Zb8 a4.1) + I2 a4.2.1) then ((Ze7 K (a0.1, a0.2)).bind fun i0 => ((Zf8 K (i0.1, i0.2)).bind fun d9 => ((Ze4 K (d9.1.1, d9.1.2) (r9.1.1, r9.1.2)).bind fun k5 => (if k5 = true then ((Zh8 K d9.2.1 r9.2.1).bind fun i9 => (if i9 = true then J4 K a4 (!decide (d9.2.2 = r9.2.2)) else J4 K a4 true)) else J4 K a4 true)))) else some false))))) else none) else none))
def J3 (K : Nat) (a0 : ((List Int) × (List MpT))) (c9 : ((List Int) × (List MpT))) (a4 : (((List Int) × (List MpT)) × (List MpT) × Int)) (r9 : (((List Int) × (List MpT)) × (List MpT) × Int)) (g4 : Bool) : Option Bool := (if g4 = true then some false else ((Ze7 K (a0.1, a0.2)).bind fun n3 => ((Ze4 K (c9.1, c9.2) (n3.1, n3.2)).bind fun k0 => (if k0 = true then (if Zb8 c9 ≤ 1000000000000 ∧ 0 ≤ (1 : Int) ∧ (1 : Int) ≤ 1000000 then (if (1 + Zb8 c9) < 0 then N6 K a0 a4 r9 true else ((Ze4 K (a4.1.1, a4.1.2) (r9.1.1, r9.1.2)).bind fun j0 => (if j0 = true then ((Zh8 K a4.2.1 r9.2.1).bind fun j1 => (if j1 = true then N6 K a0 a4 r9 (!decide (a4.2.2 = r9.2.2)) else N6 K a0 a4 r9 true)) else N6 K a0 a4 r9 true))) else none) else some false))))
def Zg6 (K : Nat) (a0 : ((List Int) × (List MpT))) : Option Bool := ((Zq6 K (a0.1, a0.2) 1048576).bind fun r4 => (if r4 < 0 then some true else ((Ze7 K (a0.1, a0.2)).bind fun r7 => ((Zj0 K (r7.1, r7.2)).bind fun r9 => ((Ze7 K (a0.1, a0.2)).bind fun c9 => ((Zf8 K (c9.1, c9.2)).bind fun a4 => ((Ze4 K (a4.1.1, a4.1.2) (r9.1.1, r9.1.2)).bind fun k6 => (if k6 = true then ((Zh8 K a4.2.1 r9.2.1).bind fun j2 => (if j2 = true then J3 K a0 c9 a4 r9 (!decide (a4.2.2 = r9.2.2)) else J3 K a0 c9 a4 r9 true)) else J3 K a0 c9 a4 r9 true))))))))
theorem Yd9 {a0 : ((List Int) × (List MpT))} {r : Bool} (q0 : Zg6 K a0 = some r) (a6 : Z9 (Y6 .i64) H s0 a0.1) (a7 : Z9 (Y9 yT) H s1 a0.2) (hM : ∀ b, H.memo b = none) (hL : ∀ b, b < H.lim → H b ≠ none) (hS : St H w L) :
 Calls Tryz.prog 8 #[vA ([s0] ++ [s1])] w (T2 (fun v G => R.bool.p G v r) H L) := by
 have Z3 := Sub.refl H
 refine X3 Tryz.func8 rfl Tryz.ntmps8 rfl ?_
 unfold Zg6 at q0
 refine Z2 (Z0 ?_)
 refine S3 (v := vA ([s0] ++ [s1])) ([s0] ++ [s1]).toArray rfl rfl hS rfl ?_
 intro b1 _ hS
 refine Z5 (vB false) rfl rfl (Z1 (Z2 (Z0 (Z5 (vI 1048576) rfl rfl (Z1 (Z2 (Z0 ?_)))))))
 refine X7 Xy3 rfl (hS.get mL) rfl rfl (Z4 (vI 1048576) rfl rfl ?_)
 obtain ⟨r4, w7, q0⟩ := bind_some q0
 refine X6 Tryz.call15 (U9 rfl rfl) rfl (Yv4 w7 a6 a7 hS) ?_
 rintro _ _ _ o8 hS rfl
 have Z3 := Z3.trans o8
 have a6 := a6.mono o8
 have a7 := a7.mono o8
 refine Z5 (vI r4) rfl rfl (Z1 (Z2 (Z2 (Z0 (Z4 (vI r4) rfl rfl ?_)))))
 refine V5 (k := .i64) (a := r4) (b := 0) rfl rfl rfl (Z1 ?_)
 obtain ⟨o9, q0⟩ | ⟨o9, q0⟩ := ic q0
 refine Y0 (bT o9 rfl) (Z2 (Z0 (Z5 (vB true) rfl rfl (Z1 ?_))))
 refine X0 (vs := [vB true]) Tryz.func8 ⟨rfl, trivial⟩ ?_
 obtain rfl := oi q0
 exact ⟨_, _, rfl, Z3, (St.dropA hS), rfl⟩
 refine Z8 (bF o9 rfl) (Y8 (Z2 (Z0 ?_)))
 refine X7 Xy3 rfl (hS.get mL) rfl rfl ?_
 have x5 := Z3
 obtain ⟨r7, w8, q0⟩ := bind_some q0
 refine T5 Tryz.call17 (S2 rfl) rfl (Zr0 w8 a6 a7 hS) ?_
 rintro _ _ ⟨_, H7, rfl, p0, hS, w9⟩
 obtain ⟨u6, u7, rfl, j3, j4⟩ := id w9.old
 have j3 := Z9.old j3
 have j4 := Z9.old j4
 refine ⟨_, rfl, ?_⟩
 have Z3 := Z3.trans p0
 have a6 := a6.mono p0
 have a7 := a7.mono p0
 have x8 := Sub.refl H7
 obtain ⟨r9, x0, q0⟩ := bind_some q0
 have hS := hS.noM
 have Z3 := Sub.nomT hM Z3
 have a6 : Z9 (Y6 .i64) H7.noM s0 a0.1 := a6
 have a7 : Z9 (Y9 yT) H7.noM s1 a0.2 := a7
 have j3 : Z9 (Y6 .i64) H7.noM u6 r7.1 := j3
 have j4 : Z9 (Y9 yT) H7.noM u7 r7.2 := j4
 have j3 : Z9 (Y6 .i64) H7.noM u6 r7.1 := j3
 have j4 : Z9 (Y9 yT) H7.noM u7 r7.2 := j4
 refine X6 Tryz.call39 (S2 rfl) rfl (Yn1 x0 j3 j4 (fun _ => rfl) hS) ?_
 rintro _ H9 _ p1 hS ⟨_, e9, _, rfl, ⟨_, rfl, ⟨_, _, rfl, ⟨c4, rfl, a1⟩, ⟨c5, rfl, a3⟩⟩⟩, a5, rfl⟩
 have Z3 := Z3.trans p1
 have a6 := a6.mono p1
 have a7 := a7.mono p1
 refine Z4 (Value.tuple #[vA ([c4] ++ [c5]), e9, vI r9.2.2]) rfl rfl (W4 (vA ([c4] ++ [c5])) rfl rfl rfl (W4 (e9) rfl rfl rfl (W4 (vI r9.2.2) rfl rfl rfl ?_)))
 refine W6 (z := vA ([vN] ++ [vN])) ([vN] ++ [vN]).toArray Zr4.zero rfl hS rfl ?_
 intro k1 _ hS
 refine X5 (v := vA ([c4] ++ [c5])) (vs := ([c4] ++ [c5]).toArray) (cs := ([vN] ++ [vN]).toArray) S5 rfl rfl rfl hS rfl (R8 (U0 a1.isOne) (U0 a3.isOne)) rfl ?_
 intro _ hS
 refine Z5 (e9) rfl rfl (Z5 (vI r9.2.2) rfl rfl (Z1 (Z2 (Z0 ?_))))
 refine X7 Xy3 rfl (hS.get (mR mL)) rfl rfl ?_
 have n4 := Z9.noMI a6
 have n5 := Z9.noMF a7
 have i4 := Z9.noMI a1
 have i5 := Z9.noMF a3
 have k2 := Z9.noMF a5
 have sB := Wz9 H9
 have l7 := Z3
 have v0 := sB
 obtain ⟨c9, v1, q0⟩ := bind_some q0
 refine T5 Tryz.call17 (S2 rfl) rfl (Zr0 v1 a6 a7 hS) ?_
 rintro _ _ ⟨_, g1, rfl, i1, hS, k7⟩
 obtain ⟨f9, g0, rfl, c1, c2⟩ := id k7.old
 have c1 := Z9.old c1
 have c2 := Z9.old c2
 refine ⟨_, rfl, ?_⟩
 have Z3 := Z3.trans i1
 have a5 := a5.mono i1
 have a6 := a6.mono i1
 have a7 := a7.mono i1
 have a1 := a1.mono i1
 have a3 := a3.mono i1
 have sB := sB.trans i1
 have d3 := Sub.refl g1
 refine W6 (z := vA ([vN] ++ [vN])) ([vN] ++ [vN]).toArray Zr4.zero rfl hS rfl ?_
 intro l9 _ hS
 refine X5 (v := vA ([f9] ++ [g0])) (vs := ([f9] ++ [g0]).toArray) (cs := ([vN] ++ [vN]).toArray) S5 rfl rfl rfl hS rfl (R8 (U0 c1.isOne) (U0 c2.isOne)) rfl ?_
 intro _ hS
 refine Z1 (Z2 (Z0 ?_))
 refine X7 S5 rfl (hS.get mL) rfl rfl ?_
 have hS := hS.noM
 have Z3 := Sub.nomT hM Z3
 have a5 : Z9 (Y9 yT) g1.noM e9 r9.2.1 := a5
 have c1 : Z9 (Y6 .i64) g1.noM f9 c9.1 := c1
 have c2 : Z9 (Y9 yT) g1.noM g0 c9.2 := c2
 have a6 : Z9 (Y6 .i64) g1.noM s0 a0.1 := a6
 have a7 : Z9 (Y9 yT) g1.noM s1 a0.2 := a7
 have a1 : Z9 (Y6 .i64) g1.noM c4 r9.1.1 := a1
 have a3 : Z9 (Y9 yT) g1.noM c5 r9.1.2 := a3
 have sB := Sub.nomT (fun _ => rfl) sB
 have d3 := Sub.nomB d3
 have k7 := Zi7.nom k7
 have c1 : Z9 (Y6 .i64) g1.noM f9 c9.1 := c1
 have c2 : Z9 (Y9 yT) g1.noM g0 c9.2 := c2
 have i2 := Z3
 have p2 := sB
 have h4 := d3
 obtain ⟨a4, v2, q0⟩ := bind_some q0
 refine T5 Tryz.call40 (S2 rfl) rfl (Ya3 v2 c1 c2 (fun _ => rfl) hS) ?_
 rintro _ _ ⟨_, p3, rfl, g2, hS, _, d8, _, rfl, ⟨m7, i6, s8, n6, g9⟩, rfl⟩
 have n7 := RdN.old n6
 have b3 : Sub (m7.new g1.noM) p3 := (Yc2 _ _).trans s8
 have b9 := Z9.mono b3 n7
 have o4 := h4
 have h4 := h4.trans i6
 obtain ⟨f0, f1, rfl, b5, b6⟩ := id g9.old
 have b5 := Z9.old b5
 have b6 := Z9.old b6
 refine ⟨_, rfl, ?_⟩
 have Z3 := Z3.trans g2
 have a5 := a5.mono g2
 have c1 := c1.mono g2
 have c2 := c2.mono g2
 have a6 := a6.mono g2
 have a7 := a7.mono g2
 have a1 := a1.mono g2
 have a3 := a3.mono g2
 have sB := sB.trans g2
 have d3 := d3.trans g2
 have b7 := Sub.refl p3
 refine Z4 (Value.tuple #[vA ([f0] ++ [f1]), d8, vI a4.2.2]) rfl rfl (W4 (vA ([f0] ++ [f1])) rfl rfl rfl (W4 (d8) rfl rfl rfl (W4 (vI a4.2.2) rfl rfl rfl ?_)))
 refine W6 (z := vA ([vN] ++ [vN])) ([vN] ++ [vN]).toArray Zr4.zero rfl hS rfl ?_
 intro j5 _ hS
 refine X5 (v := vA ([f0] ++ [f1])) (vs := ([f0] ++ [f1]).toArray) (cs := ([vN] ++ [vN]).toArray) S5 rfl rfl rfl hS rfl (R8 (U0 b5.isOne) (U0 b6.isOne)) rfl ?_
 intro _ hS
 refine Z5 (d8) rfl rfl (Z5 (vI a4.2.2) rfl rfl (Z1 (Z2 (Z2 ?_))))
 refine Zb0 (fun f w => ∃ (g4 : Bool) (H1 : FH), J3 K a0 c9 a4 r9 g4 = some r ∧ Sub H H1 ∧ St H1 w ([(j5, cA ([f0] ++ [f1]) 31)] ++ ([(l9, cA ([f9] ++ [g0]) 31)] ++ ([(k1, cA ([c4] ++ [c5]) 31)] ++ ([(b1, cA ([s0] ++ [s1]) 25)] ++ L)))) ∧ Z9 (Y6 .i64) H1 f9 c9.1 ∧ Z9 (Y6 .i64) H1 f0 a4.1.1 ∧ Z9 (Y9 yT) H1 g0 c9.2 ∧ Z9 (Y9 yT) H1 f1 a4.1.2 ∧ Z9 (Y9 yT) H1 d8 a4.2.1 ∧ Z9 (Y6 .i64) H1 s0 a0.1 ∧ Z9 (Y9 yT) H1 s1 a0.2 ∧ Z9 (Y6 .i64) H1 c4 r9.1.1 ∧ Z9 (Y9 yT) H1 c5 r9.1.2 ∧ Z9 (Y9 yT) H1 e9 r9.2.1 ∧ tv f 1 = vP b1 ∧ tv f 4 = vP k1 ∧ tv f 5 = e9 ∧ tv f 6 = vI r9.2.2 ∧ tv f 7 = vP l9 ∧ tv f 8 = vP j5 ∧ tv f 9 = d8 ∧ tv f 10 = vI a4.2.2 ∧ tv f 51 = vB g4 ∧ Sub H9.noM H1 ∧ Sub g1.noM H1 ∧ Sub p3 H1 ∧ Sub (m7.new g1.noM) H1) ?_ ?_
 rintro _ _ ⟨g4, _, b8, Z3, hS, c1, b5, c2, b6, b9, a6, a7, a1, a3, a5, m0, p4, p5, p6, m1, p7, p8, o5, k3, sB, d3, b7, b3⟩
 unfold J3 at b8
 obtain ⟨m8, b8⟩ | ⟨m8, b8⟩ := ic b8
 refine Y0 (Eq.trans (by exact k3) (congrArg vB m8)) (Z2 (Z0 (Z5 (vB false) rfl rfl (Z1 ?_))))
 refine X0 (vs := [vB false]) Tryz.func8 ⟨rfl, trivial⟩ ?_
 obtain rfl := oi b8
 exact ⟨_, _, rfl, Z3, (St.dropA (St.dropA (St.dropA (St.dropA hS)))), rfl⟩
 refine Z8 (Eq.trans (by exact k3) (congrArg vB (X8 m8))) (Y8 (Z2 (Z2 ?_)))
 obtain ⟨n3, v3, b8⟩ := bind_some b8
 obtain ⟨k0, v4, b8⟩ := bind_some b8
 refine U1 5 (P0 [mE 52 (vA ([f9] ++ [g0])), mE 53 (vA ([s0] ++ [s1])), (54, MP.rep (R.agg (Zp1 (Y9 (Y6 .i64)) (Y9 (Y9 yT)))) (n3)), mE 55 (vB k0), mE 56 (vB (!k0))]) [] mixed rfl rfl rfl hS (Z6 rfl ?_ (Z6 rfl ?_ (Z6 rfl ?_ (Z6 rfl ?_ (Z6 rfl ?_ U7))))) ?_
 exact W5 fun S B => X7 S5 (evT (B 7 rfl) m1) (S.get (mR (mR mL))) rfl rfl (qz S)
 exact W5 fun S B => X7 Xy3 (evT (B 1 rfl) m0) (S.get (mR (mR (mR (mR mL))))) rfl rfl (qz S)
 intro _ _ _ _ p9 hS _ v5 hcq
 have a6 := a6.mono p9
 have a7 := a7.mono p9
 refine X6 Tryz.call17 (S2 (eM (v5 1 53 rfl rfl))) rfl (Zr0 v3 a6 a7 hS) ?_
 rintro _ _ _ v6 hS m9
 have m9 := Zi7.rep m9
 exact qn v6 rfl hS m9
 intro _ _ _ _ q1 hS _ q2 hcq
 have c1 := c1.mono q1
 have c2 := c2.mono q1
 obtain ⟨_, x1, ⟨_, rfl, ⟨_, _, rfl, ⟨_, rfl, q3⟩, ⟨_, rfl, q4⟩⟩⟩⟩ := gvR (q2 2 54 rfl rfl)
 refine X6 Tryz.call20 (U9 (eM (q2 0 52 rfl rfl)) x1) rfl (Zr1 v4 c1 c2 q3 q4 hS) ?_
 rintro _ _ _ v7 hS rfl
 exact qn v7 rfl hS rfl
 exact X2 fun S V => K9 (b := k0) (eM (V 3 55 rfl rfl)) rfl (qz S)
 intro x2 x3 x4 e5 hS h0 v8 hcq
 have hS : St x4 x3 ([(j5, cA ([f0] ++ [f1]) 31)] ++ ([(l9, cA ([f9] ++ [g0]) 31)] ++ ([(k1, cA ([c4] ++ [c5]) 31)] ++ ([(b1, cA ([s0] ++ [s1]) 25)] ++ L)))) := hS
 have Z3 := Z3.trans e5
 have a5 := a5.mono e5
 have b9 := b9.mono e5
 have b5 := b5.mono e5
 have b6 := b6.mono e5
 have a1 := a1.mono e5
 have a3 := a3.mono e5
 have a6 := a6.mono e5
 have a7 := a7.mono e5
 have sB := sB.trans e5
 have d3 := d3.trans e5
 have b7 := b7.trans e5
 have b3 := b3.trans e5
 have n8 := evT (h0 1 rfl) m0
 have m2 := evT (h0 4 rfl) p4
 have m3 := evT (h0 5 rfl) p5
 have m4 := evT (h0 6 rfl) p6
 have m5 := evT (h0 8 rfl) p7
 have m6 := evT (h0 9 rfl) p8
 have u8 : tv x2 56 = vB (!k0) := v8 4 56 (by decide) rfl
 refine Z1 ?_
 obtain ⟨n0, b8⟩ | ⟨n0, b8⟩ := ic b8
 refine Z8 (Eq.trans (by exact u8) (congrArg (fun b => vB (!b)) n0)) (Y8 (Z2 (Z0 (Z5 (vI 1) rfl rfl (Z1 (Z2 (Z0 ?_)))))))
 refine X7 S5 (by exact (evT (h0 7 rfl) m1)) (hS.get (mR mL)) rfl rfl (Z4 (vI 1) rfl rfl ?_)
 obtain ⟨v9, b8⟩ := gd b8
 refine T5 Tryz.call21 (U9 rfl rfl) rfl (Xj7 k7 d3 v9 (Xt7 hL l7 Z3) hS) ?_
 rintro _ _ ⟨q5, rfl, hS, f2, f3, i7⟩
 refine ⟨_, rfl, ?_⟩
 have Z3 := i7 H Z3 hM (fun b h => .inl (Yq3 l7 b h))
 have g9 := Zi7.tr (g9.mono b7) (i7 _ (Yc2 _ _) (fun _ => rfl) (Xo2 h4))
 have b3 := i7 _ b3 (fun _ => rfl) (Xo2 o4)
 have b9 := Z9.mono b3 n7
 have sB := i7 _ sB (fun _ => rfl) (fun b h => .inl (Yq3 v0 b h))
 have b7 := Sub.refl q5
 have b5 := (Zi7.rd g9).1
 have b6 := (Zi7.rd g9).2
 have a6 := n4.mono sB
 have a7 := n5.mono sB
 have a1 := i4.mono sB
 have a3 := i5.mono sB
 have a5 := k2.mono sB
 refine Z5 (vI (1 + Zb8 c9)) rfl rfl (Z1 (Z2 (Z2 ?_)))
 refine Zb0 (fun f w => ∃ (g3 : Bool) (H1 : FH), N6 K a0 a4 r9 g3 = some r ∧ Sub H H1 ∧ St H1 w ([(j5, cA ([f0] ++ [f1]) 31)] ++ ([(l9, cA ([f9] ++ [g0]) 31)] ++ ([(k1, cA ([c4] ++ [c5]) 31)] ++ ([(b1, cA ([s0] ++ [s1]) 25)] ++ L)))) ∧ Z9 (Y6 .i64) H1 f0 a4.1.1 ∧ Z9 (Y9 yT) H1 f1 a4.1.2 ∧ Z9 (Y9 yT) H1 d8 a4.2.1 ∧ Z9 (Y6 .i64) H1 f9 ((mkA c9 1).1) ∧ Z9 (Y9 yT) H1 g0 ((mkA c9 1).2) ∧ Z9 (Y6 .i64) H1 s0 a0.1 ∧ Z9 (Y9 yT) H1 s1 a0.2 ∧ Z9 (Y6 .i64) H1 c4 r9.1.1 ∧ Z9 (Y9 yT) H1 c5 r9.1.2 ∧ Z9 (Y9 yT) H1 e9 r9.2.1 ∧ tv f 1 = vP b1 ∧ tv f 4 = vP k1 ∧ tv f 5 = e9 ∧ tv f 6 = vI r9.2.2 ∧ tv f 8 = vP j5 ∧ tv f 9 = d8 ∧ tv f 78 = vB g3 ∧ Sub H9.noM H1 ∧ Sub q5 H1 ∧ Sub (m7.new g1.noM) H1) ?_ ?_
 rintro _ _ ⟨g3, _, a8, Z3, hS, b5, b6, b9, f2, f3, a6, a7, a1, a3, a5, q6, q7, q8, q9, h1, h2, k4, sB, b7, b3⟩
 unfold N6 at a8
 obtain ⟨n1, a8⟩ | ⟨n1, a8⟩ := ic a8
 refine Y0 (Eq.trans (by exact k4) (congrArg vB n1)) (Z2 (Z0 (Z5 (vB false) rfl rfl (Z1 ?_))))
 refine X0 (vs := [vB false]) Tryz.func8 ⟨rfl, trivial⟩ ?_
 obtain rfl := oi a8
 exact ⟨_, _, rfl, Z3, (St.dropA (St.dropA (St.dropA (St.dropA hS)))), rfl⟩
 refine Z8 (Eq.trans (by exact k4) (congrArg vB (X8 n1))) (Y8 (Z2 (Z0 (Z5 (vI 1) rfl rfl (Z1 (Z2 (Z0 ?_)))))))
 refine X7 S5 (by exact h1) (hS.get mL) rfl rfl (Z4 (vI 1) rfl rfl ?_)
 obtain ⟨w0, a8⟩ := gd a8
 obtain ⟨_, s9, _, t0, o6, j6, r0, r1, hS, j7⟩ := Wo8 n6 b3 (Xt7 hL i2 Z3) hS
 have g9 := Zi7.tr (g9.mono b7) (j7 _ (Yc2 _ _) (fun _ => rfl) Wh3)
 have b7 := Sub.refl s9
 have Z3 := j7 H Z3 hM (fun b h => .inl (Yq3 i2 b h))
 have sB := j7 _ sB (fun _ => rfl) (fun b h => .inl (Yq3 p2 b h))
 refine T5 Tryz.call21 (U9 rfl rfl) rfl (Xj7 g9 b7 w0 (Xt7 hL (i2.trans i6) Z3) hS) ?_
 rintro _ _ ⟨_, rfl, hS, a9, b0, j8⟩
 refine ⟨_, rfl, ?_⟩
 have Z3 := j8 H Z3 hM (fun b h => .inl (Yq3 (i2.trans i6) b h))
 have sB := j8 _ sB (fun _ => rfl) (fun b h => .inl (Yq3 (p2.trans i6) b h))
 have j6 := j8 _ j6 r0 (fun b h => .inl (r1 b h))
 have a6 := n4.mono sB
 have a7 := n5.mono sB
 have a1 := i4.mono sB
 have a3 := i5.mono sB
 have a5 := k2.mono sB
 refine Z5 (vI (1 + Zb8 a4.1)) rfl rfl (Z1 (Z2 (Z0 (Z4 (d8) (by exact h2) rfl (Z4 (vI (1 + Zb8 a4.1)) rfl rfl ?_)))))
 obtain ⟨n9, a8⟩ := gd a8
 refine T5 Tryz.call33 (U9 rfl rfl) rfl (Yy5 (Z9.mono j6 o6) t0 n9.1 n9.2 hS) ?_
 rintro _ _ ⟨_, rfl, f4, hS, b2⟩
 refine ⟨_, rfl, ?_⟩
 have Z3 := Z3.trans f4
 have a5 := a5.mono f4
 have a9 := a9.mono f4
 have b0 := b0.mono f4
 have a1 := a1.mono f4
 have a3 := a3.mono f4
 have a6 := a6.mono f4
 have a7 := a7.mono f4
 have sB := sB.trans f4
 refine Z5 (vI ((1 + Zb8 a4.1) + I2 a4.2.1)) rfl rfl (Z1 (Z2 (Z0 (Z5 (vI 1) rfl rfl (Z1 (Z2 (Z0 ?_)))))))
 refine X7 S5 (by exact h1) (hS.get mL) rfl rfl (Z4 (vI 1) rfl rfl ?_)
 obtain ⟨h9, t1, a8⟩ := bind_some a8
 refine X6 Tryz.call41 (U9 rfl rfl) rfl (Yc1 t1 a9 b0 hS) ?_
 rintro _ _ _ e6 hS rfl
 have Z3 := Z3.trans e6
 have a5 := a5.mono e6
 have b2 := b2.mono e6
 have a9 := a9.mono e6
 have b0 := b0.mono e6
 have a1 := a1.mono e6
 have a3 := a3.mono e6
 have a6 := a6.mono e6
 have a7 := a7.mono e6
 have sB := sB.trans e6
 refine Z5 (vI h9) rfl rfl (Z1 (Z2 (Z2 (Z0 (Z4 (vI h9) rfl rfl ?_)))))
 refine V5 (k := .i64) (a := h9) (b := 0) rfl rfl rfl (Z1 ?_)
 obtain ⟨k8, a8⟩ | ⟨k8, a8⟩ := ic a8
 refine Y0 (bT k8 rfl) (Z2 (Z0 (Z5 (vB false) rfl rfl (Z1 ?_))))
 refine X0 (vs := [vB false]) Tryz.func8 ⟨rfl, trivial⟩ ?_
 obtain rfl := oi a8
 exact ⟨_, _, rfl, Z3, (St.dropA (St.dropA (St.dropA (St.dropA hS)))), rfl⟩
 refine Z8 (bF k8 rfl) (Y8 (Z2 (Z0 (Z4 (d8) (by exact h2) rfl (Z4 (vI h9) rfl rfl ?_)))))
 obtain ⟨g8, t4, a8⟩ := bind_some a8
 refine X6 Tryz.call34 (U9 rfl rfl) rfl (Zy1 t4 b2 hS) ?_
 rintro _ _ _ e7 hS rfl
 have Z3 := Z3.trans e7
 have a5 := a5.mono e7
 have b2 := b2.mono e7
 have a9 := a9.mono e7
 have b0 := b0.mono e7
 have a1 := a1.mono e7
 have a3 := a3.mono e7
 have a6 := a6.mono e7
 have a7 := a7.mono e7
 have sB := sB.trans e7
 refine Z5 (vI g8) rfl rfl (Z1 (Z2 (Z2 (Z0 (Z4 (vI g8) rfl rfl ?_)))))
 refine V5 (k := .i64) (a := g8) (b := 0) rfl rfl rfl (Z1 ?_)
 obtain ⟨k9, a8⟩ | ⟨k9, a8⟩ := ic a8
 refine Y0 (bT k9 rfl) (Z2 (Z0 (Z5 (vB false) rfl rfl (Z1 ?_))))
 refine X0 (vs := [vB false]) Tryz.func8 ⟨rfl, trivial⟩ ?_
 obtain rfl := oi a8
 exact ⟨_, _, rfl, Z3, (St.dropA (St.dropA (St.dropA (St.dropA hS)))), rfl⟩
 refine Z8 (bF k9 rfl) (Y8 (Z2 (Z2 (Z0 (Z4 (vI g8) rfl rfl (Z4 (vI ((1 + Zb8 a4.1) + I2 a4.2.1)) rfl rfl ?_))))))
 refine L7 (k := .i64) (a := g8) (b := ((1 + Zb8 a4.1) + I2 a4.2.1)) rfl rfl rfl (Z1 ?_)
 obtain ⟨l0, a8⟩ | ⟨l0, a8⟩ := ic a8
 refine Z8 (bN l0 rfl) (Y8 (Z2 (Z0 ?_)))
 refine X7 Xy3 (by exact q6) (hS.get (mR (mR (mR mL)))) rfl rfl ?_
 have w5 := Z3
 have x6 := sB
 obtain ⟨i0, t5, a8⟩ := bind_some a8
 refine T5 Tryz.call17 (S2 rfl) rfl (Zr0 t5 a6 a7 hS) ?_
 rintro _ _ ⟨_, d4, rfl, e8, hS, l1⟩
 obtain ⟨o0, o1, rfl, g5, g6⟩ := id l1.old
 have g5 := Z9.old g5
 have g6 := Z9.old g6
 refine ⟨_, rfl, ?_⟩
 have Z3 := Z3.trans e8
 have a5 := a5.mono e8
 have b2 := b2.mono e8
 have a6 := a6.mono e8
 have a7 := a7.mono e8
 have a9 := a9.mono e8
 have b0 := b0.mono e8
 have a1 := a1.mono e8
 have a3 := a3.mono e8
 have sB := sB.trans e8
 have c0 := Sub.refl d4
 have hS := hS.noM
 have Z3 := Sub.nomT hM Z3
 have a5 : Z9 (Y9 yT) d4.noM e9 r9.2.1 := a5
 have b2 : Z9 (Y9 yT) d4.noM d8 (Zz3 (1 + Zb8 a4.1) a4.2.1) := b2
 have a6 : Z9 (Y6 .i64) d4.noM s0 a0.1 := a6
 have a7 : Z9 (Y9 yT) d4.noM s1 a0.2 := a7
 have g5 : Z9 (Y6 .i64) d4.noM o0 i0.1 := g5
 have g6 : Z9 (Y9 yT) d4.noM o1 i0.2 := g6
 have a9 : Z9 (Y6 .i64) d4.noM f0 ((mkA a4.1 1).1) := a9
 have b0 : Z9 (Y9 yT) d4.noM f1 ((mkA a4.1 1).2) := b0
 have a1 : Z9 (Y6 .i64) d4.noM c4 r9.1.1 := a1
 have a3 : Z9 (Y9 yT) d4.noM c5 r9.1.2 := a3
 have sB := Sub.nomT (fun _ => rfl) sB
 have c0 := Sub.nomB c0
 have l1 := Zi7.nom l1
 have g5 : Z9 (Y6 .i64) d4.noM o0 i0.1 := g5
 have g6 : Z9 (Y9 yT) d4.noM o1 i0.2 := g6
 have w6 := Z3
 have x7 := sB
 have h3 := c0
 obtain ⟨d9, t6, a8⟩ := bind_some a8
 refine T5 Tryz.call40 (S2 rfl) rfl (Ya3 t6 g5 g6 (fun _ => rfl) hS) ?_
 rintro _ _ ⟨_, n2, rfl, e0, hS, _, i8, _, rfl, ⟨o2, r2, r3, r5, t7⟩, rfl⟩
 have r6 := RdN.old r5
 have c6 : Sub (o2.new d4.noM) n2 := (Yc2 _ _).trans r3
 have l2 := Z9.mono c6 r6
 have u9 := h3
 have h3 := h3.trans r2
 obtain ⟨h5, h6, rfl, d5, d6⟩ := id t7.old
 have d5 := Z9.old d5
 have d6 := Z9.old d6
 refine ⟨_, rfl, ?_⟩
 have Z3 := Z3.trans e0
 have a5 := a5.mono e0
 have b2 := b2.mono e0
 have a6 := a6.mono e0
 have a7 := a7.mono e0
 have a9 := a9.mono e0
 have b0 := b0.mono e0
 have a1 := a1.mono e0
 have a3 := a3.mono e0
 have sB := sB.trans e0
 have c0 := c0.trans e0
 have d7 := Sub.refl n2
 refine Z4 (Value.tuple #[vA ([h5] ++ [h6]), i8, vI d9.2.2]) rfl rfl (W4 (vA ([h5] ++ [h6])) rfl rfl rfl (W4 (i8) rfl rfl rfl (W4 (vI d9.2.2) rfl rfl rfl ?_)))
 refine W6 (z := vA ([vN] ++ [vN])) ([vN] ++ [vN]).toArray Zr4.zero rfl hS rfl ?_
 intro w1 _ hS
 refine X5 (v := vA ([h5] ++ [h6])) (vs := ([h5] ++ [h6]).toArray) (cs := ([vN] ++ [vN]).toArray) S5 rfl rfl rfl hS rfl (R8 (U0 d5.isOne) (U0 d6.isOne)) rfl ?_
 intro _ hS
 refine Z5 (i8) rfl rfl (Z5 (vI d9.2.2) rfl rfl (Z1 (Z2 (Z2 ?_))))
 refine Zb0 (fun f w => ∃ (f8 : Bool) (H1 : FH), J4 K a4 f8 = some r ∧ Sub H H1 ∧ St H1 w ([(w1, cA ([h5] ++ [h6]) 31)] ++ ([(j5, cA ([f0] ++ [f1]) 31)] ++ ([(l9, cA ([f9] ++ [g0]) 31)] ++ ([(k1, cA ([c4] ++ [c5]) 31)] ++ ([(b1, cA ([s0] ++ [s1]) 25)] ++ L))))) ∧ Z9 (Y6 .i64) H1 h5 d9.1.1 ∧ Z9 (Y9 yT) H1 h6 d9.1.2 ∧ Z9 (Y9 yT) H1 d8 (Zz3 (1 + Zb8 a4.1) a4.2.1) ∧ Z9 (Y6 .i64) H1 f0 ((mkA a4.1 1).1) ∧ Z9 (Y9 yT) H1 f1 ((mkA a4.1 1).2) ∧ Z9 (Y6 .i64) H1 s0 a0.1 ∧ Z9 (Y9 yT) H1 s1 a0.2 ∧ Z9 (Y6 .i64) H1 c4 r9.1.1 ∧ Z9 (Y9 yT) H1 c5 r9.1.2 ∧ tv f 8 = vP j5 ∧ tv f 9 = d8 ∧ tv f 12 = vI ((1 + Zb8 a4.1) + I2 a4.2.1) ∧ tv f 119 = vB f8 ∧ Sub H9.noM H1 ∧ Sub d4.noM H1 ∧ Sub n2 H1 ∧ Sub (o2.new d4.noM) H1) ?_ ?_
 rintro _ _ ⟨f8, _, b4, Z3, hS, d5, d6, b2, a9, b0, a6, a7, a1, a3, r8, s2, o7, j9, sB, c0, d7, c6⟩
 unfold J4 at b4
 obtain ⟨l3, b4⟩ | ⟨l3, b4⟩ := ic b4
 refine Y0 (Eq.trans (by exact j9) (congrArg vB l3)) (Z2 (Z0 (Z5 (vB false) rfl rfl (Z1 ?_))))
 refine X0 (vs := [vB false]) Tryz.func8 ⟨rfl, trivial⟩ ?_
 obtain rfl := oi b4
 exact ⟨_, _, rfl, Z3, (St.dropA (St.dropA (St.dropA (St.dropA (St.dropA hS))))), rfl⟩
 refine Z8 (Eq.trans (by exact j9) (congrArg vB (X8 l3))) (Y8 (Z2 (Z0 (Z5 (vI 1) rfl rfl (Z1 (Z2 (Z0 ?_)))))))
 refine X7 S5 (by exact r8) (hS.get (mR mL)) rfl rfl (Z4 (vI 1) rfl rfl ?_)
 obtain ⟨h8, t8, b4⟩ := bind_some b4
 refine X6 Tryz.call41 (U9 rfl rfl) rfl (Yc1 t8 a9 b0 hS) ?_
 rintro _ _ _ h7 hS rfl
 have Z3 := Z3.trans h7
 have b2 := b2.mono h7
 have sB := sB.trans h7
 have c0 := c0.trans h7
 have d7 := d7.trans h7
 have c6 := c6.trans h7
 refine Z5 (vI h8) rfl rfl (Z1 (Z2 (Z2 (Z0 (Z4 (vI h8) rfl rfl ?_)))))
 refine V5 (k := .i64) (a := h8) (b := 0) rfl rfl rfl (Z1 ?_)
 obtain ⟨l4, b4⟩ | ⟨l4, b4⟩ := ic b4
 refine Y0 (bT l4 rfl) (Z2 (Z0 (Z5 (vB false) rfl rfl (Z1 ?_))))
 refine X0 (vs := [vB false]) Tryz.func8 ⟨rfl, trivial⟩ ?_
 obtain rfl := oi b4
 exact ⟨_, _, rfl, Z3, (St.dropA (St.dropA (St.dropA (St.dropA (St.dropA hS))))), rfl⟩
 refine Z8 (bF l4 rfl) (Y8 (Z2 (Z0 (Z4 (d8) (by exact s2) rfl (Z4 (vI h8) rfl rfl ?_)))))
 obtain ⟨g7, t9, b4⟩ := bind_some b4
 refine X6 Tryz.call34 (U9 rfl rfl) rfl (Zy1 t9 b2 hS) ?_
 rintro _ _ _ i3 hS rfl
 have Z3 := Z3.trans i3
 have sB := sB.trans i3
 have c0 := c0.trans i3
 have d7 := d7.trans i3
 have c6 := c6.trans i3
 refine Z5 (vI g7) rfl rfl (Z1 (Z2 (Z2 (Z0 (Z4 (vI g7) rfl rfl ?_)))))
 refine V5 (k := .i64) (a := g7) (b := 0) rfl rfl rfl (Z1 ?_)
 obtain ⟨l5, b4⟩ | ⟨l5, b4⟩ := ic b4
 refine Y0 (bT l5 rfl) (Z2 (Z0 (Z5 (vB false) rfl rfl (Z1 ?_))))
 refine X0 (vs := [vB false]) Tryz.func8 ⟨rfl, trivial⟩ ?_
 obtain rfl := oi b4
 exact ⟨_, _, rfl, Z3, (St.dropA (St.dropA (St.dropA (St.dropA (St.dropA hS))))), rfl⟩
 refine Z8 (bF l5 rfl) (Y8 (Z2 (Z2 (Z0 (Z4 (vI g7) rfl rfl (Z4 (vI ((1 + Zb8 a4.1) + I2 a4.2.1)) (by exact o7) rfl ?_))))))
 refine L7 (k := .i64) (a := g7) (b := ((1 + Zb8 a4.1) + I2 a4.2.1)) rfl rfl rfl (Z1 ?_)
 obtain ⟨l6, b4⟩ | ⟨l6, b4⟩ := ic b4
 refine Z8 (bN l6 rfl) (Y8 (Z2 (Z0 (Z5 (vB true) rfl rfl (Z1 ?_)))))
 refine X0 (vs := [vB true]) Tryz.func8 ⟨rfl, trivial⟩ ?_
 obtain rfl := oi b4
 exact ⟨_, _, rfl, Z3, (St.dropA (St.dropA (St.dropA (St.dropA (St.dropA hS))))), rfl⟩
 refine Y0 (bO l6 rfl) (Z2 (Z0 (Z5 (vB false) rfl rfl (Z1 ?_))))
 refine X0 (vs := [vB false]) Tryz.func8 ⟨rfl, trivial⟩ ?_
 obtain rfl := oi b4
 exact ⟨_, _, rfl, Z3, (St.dropA (St.dropA (St.dropA (St.dropA (St.dropA hS))))), rfl⟩
 intro s3
 refine Z0 ?_
 refine X7 S5 rfl (hS.get mL) rfl rfl ?_
 refine X7 S5 (by exact q7) (hS.get (mR (mR (mR mL)))) rfl rfl ?_
 obtain ⟨k5, u0, a8⟩ := bind_some a8
 refine X6 Tryz.call20 (U9 rfl rfl) rfl (Zr1 u0 d5 d6 a1 a3 hS) ?_
 rintro _ w2 _ c3 hS rfl
 have Z3 := Z3.trans c3
 have a5 := a5.mono c3
 have b2 := b2.mono c3
 have l2 := l2.mono c3
 have d5 := d5.mono c3
 have d6 := d6.mono c3
 have a1 := a1.mono c3
 have a3 := a3.mono c3
 have a9 := a9.mono c3
 have b0 := b0.mono c3
 have a6 := a6.mono c3
 have a7 := a7.mono c3
 have sB := sB.trans c3
 have c0 := c0.trans c3
 have d7 := d7.trans c3
 have c6 := c6.trans c3
 refine K9 (b := k5) rfl rfl (Z4 (vB (!k5)) rfl rfl ?_)
 obtain ⟨e1, a8⟩ | ⟨e1, a8⟩ := ic a8
 refine Y4 rfl rfl (Eq.trans rfl (congrArg (fun b => vB (!b)) e1)) (Z4 (i8) rfl rfl ?_)
 refine Y4 rfl rfl (Eq.trans rfl (congrArg (fun b => vB (!b)) e1)) (Z4 (e9) (by exact q8) rfl ?_)
 obtain ⟨i9, u1, a8⟩ := bind_some a8
 refine Y4 rfl rfl (Eq.trans rfl (congrArg (fun b => vB (!b)) e1)) ?_
 refine X6 Tryz.call32 (U9 rfl rfl) rfl (Zt8 u1 l2 a5 hS) ?_
 rintro _ s4 _ d0 hS rfl
 have Z3 := Z3.trans d0
 have b2 := b2.mono d0
 have d5 := d5.mono d0
 have d6 := d6.mono d0
 have a1 := a1.mono d0
 have a3 := a3.mono d0
 have a9 := a9.mono d0
 have b0 := b0.mono d0
 have a6 := a6.mono d0
 have a7 := a7.mono d0
 have sB := sB.trans d0
 have c0 := c0.trans d0
 have d7 := d7.trans d0
 have c6 := c6.trans d0
 refine Y4 rfl rfl (Eq.trans rfl (congrArg (fun b => vB (!b)) e1)) (K9 (b := i9) rfl rfl ?_)
 refine V0 (t := false) (vB (!i9)) (Eq.trans rfl (congrArg (fun b => vB (!b)) e1)) ((if_neg Bool.false_ne_true).trans rfl) rfl (Z4 (vB (!i9)) rfl rfl ?_)
 obtain ⟨f5, a8⟩ | ⟨f5, a8⟩ := ic a8
 refine Y4 rfl rfl (Eq.trans rfl (congrArg (fun b => vB (!b)) f5)) (Z4 (vI d9.2.2) rfl rfl ?_)
 refine Y4 rfl rfl (Eq.trans rfl (congrArg (fun b => vB (!b)) f5)) (Z4 (vI r9.2.2) (by exact q9) rfl ?_)
 refine Y4 rfl rfl (Eq.trans rfl (congrArg (fun b => vB (!b)) f5)) ?_
 refine L7 (k := .i64) (a := d9.2.2) (b := r9.2.2) rfl rfl rfl ?_
 refine V0 (t := false) (vB (!decide (d9.2.2 = r9.2.2))) (Eq.trans rfl (congrArg (fun b => vB (!b)) f5)) ((if_neg Bool.false_ne_true).trans rfl) rfl (Z1 ?_)
 exact s3 _ _ ⟨(!decide (d9.2.2 = r9.2.2)), s4, a8, Z3, hS, d5, d6, b2, a9, b0, a6, a7, a1, a3, h1, h2, rfl, rfl, sB, c0, d7, c6⟩
 refine Y1 rfl rfl (Eq.trans rfl (congrArg (fun b => vB (!b)) (X8 f5))) rfl rfl rfl (Y1 rfl rfl (Eq.trans rfl (congrArg (fun b => vB (!b)) (X8 f5))) rfl rfl rfl (Y1 rfl rfl (Eq.trans rfl (congrArg (fun b => vB (!b)) (X8 f5))) rfl rfl rfl ?_))
 refine V0 (t := true) (vB true) (Eq.trans rfl (congrArg (fun b => vB (!b)) (X8 f5))) ((if_pos rfl).trans rfl) rfl (Z1 ?_)
 exact s3 _ _ ⟨true, s4, a8, Z3, hS, d5, d6, b2, a9, b0, a6, a7, a1, a3, h1, h2, rfl, rfl, sB, c0, d7, c6⟩
 refine Y1 rfl rfl (Eq.trans rfl (congrArg (fun b => vB (!b)) (X8 e1))) rfl rfl rfl (Y1 rfl rfl (Eq.trans rfl (congrArg (fun b => vB (!b)) (X8 e1))) rfl rfl rfl (Y1 rfl rfl (Eq.trans rfl (congrArg (fun b => vB (!b)) (X8 e1))) rfl rfl rfl (Y1 rfl rfl (Eq.trans rfl (congrArg (fun b => vB (!b)) (X8 e1))) rfl rfl rfl ?_)))
 refine V0 (t := true) (vB true) (Eq.trans rfl (congrArg (fun b => vB (!b)) (X8 e1))) ((if_pos rfl).trans rfl) rfl (Z4 (vB true) rfl rfl (Y1 rfl rfl rfl rfl rfl rfl (Y1 rfl rfl rfl rfl rfl rfl (Y1 rfl rfl rfl rfl rfl rfl ?_))))
 refine V0 (t := true) (vB true) rfl ((if_pos rfl).trans rfl) rfl (Z1 ?_)
 exact s3 _ _ ⟨true, w2, a8, Z3, hS, d5, d6, b2, a9, b0, a6, a7, a1, a3, h1, h2, rfl, rfl, sB, c0, d7, c6⟩
 refine Y0 (bO l0 rfl) (Z2 (Z0 (Z5 (vB false) rfl rfl (Z1 ?_))))
 refine X0 (vs := [vB false]) Tryz.func8 ⟨rfl, trivial⟩ ?_
 obtain rfl := oi a8
 exact ⟨_, _, rfl, Z3, (St.dropA (St.dropA (St.dropA (St.dropA hS)))), rfl⟩
 intro o3
 refine Z0 (Z4 (vI (1 + Zb8 c9)) rfl rfl ?_)
 refine V5 (k := .i64) (a := (1 + Zb8 c9)) (b := 0) rfl rfl rfl (Z4 (vB (decide ((1 + Zb8 c9) < 0))) rfl rfl ?_)
 obtain ⟨e2, b8⟩ | ⟨e2, b8⟩ := ic b8
 refine Y1 rfl rfl (bT e2 rfl) rfl rfl rfl (Y1 rfl rfl (bT e2 rfl) rfl rfl rfl (Y1 rfl rfl (bT e2 rfl) rfl rfl rfl (Y1 rfl rfl (bT e2 rfl) rfl rfl rfl ?_)))
 refine V0 (t := true) (vB true) (bT e2 rfl) ((if_pos rfl).trans rfl) rfl (Z4 (vB true) rfl rfl (Y1 rfl rfl rfl rfl rfl rfl (Y1 rfl rfl rfl rfl rfl rfl (Y1 rfl rfl rfl rfl rfl rfl (Y1 rfl rfl rfl rfl rfl rfl ?_)))))
 refine V0 (t := true) (vB true) rfl ((if_pos rfl).trans rfl) rfl (Z4 (vB true) rfl rfl (Y1 rfl rfl rfl rfl rfl rfl (Y1 rfl rfl rfl rfl rfl rfl (Y1 rfl rfl rfl rfl rfl rfl ?_))))
 refine V0 (t := true) (vB true) rfl ((if_pos rfl).trans rfl) rfl (Z1 ?_)
 exact o3 _ _ ⟨true, q5, b8, Z3, hS, b5, b6, b9, f2, f3, a6, a7, a1, a3, a5, n8, m2, m3, m4, m5, m6, rfl, sB, b7, b3⟩
 refine Y4 rfl rfl (bF e2 rfl) ?_
 refine X7 S5 (by exact m5) (hS.get mL) rfl rfl ?_
 refine Y4 rfl rfl (bF e2 rfl) ?_
 refine X7 S5 (by exact m2) (hS.get (mR (mR mL))) rfl rfl ?_
 obtain ⟨j0, u2, b8⟩ := bind_some b8
 refine Y4 rfl rfl (bF e2 rfl) ?_
 refine X6 Tryz.call20 (U9 rfl rfl) rfl (Zr1 u2 b5 b6 a1 a3 hS) ?_
 rintro _ w3 _ d1 hS rfl
 have Z3 := Z3.trans d1
 have a5 := a5.mono d1
 have b9 := b9.mono d1
 have b5 := b5.mono d1
 have b6 := b6.mono d1
 have a1 := a1.mono d1
 have a3 := a3.mono d1
 have f2 := f2.mono d1
 have f3 := f3.mono d1
 have a6 := a6.mono d1
 have a7 := a7.mono d1
 have sB := sB.trans d1
 have b7 := b7.trans d1
 have b3 := b3.trans d1
 refine Y4 rfl rfl (bF e2 rfl) (K9 (b := j0) rfl rfl ?_)
 refine V0 (t := false) (vB (!j0)) (bF e2 rfl) ((if_neg Bool.false_ne_true).trans rfl) rfl (Z4 (vB (!j0)) rfl rfl ?_)
 obtain ⟨e3, b8⟩ | ⟨e3, b8⟩ := ic b8
 refine Y4 rfl rfl (Eq.trans rfl (congrArg (fun b => vB (!b)) e3)) (Z4 (d8) (by exact m6) rfl ?_)
 refine Y4 rfl rfl (Eq.trans rfl (congrArg (fun b => vB (!b)) e3)) (Z4 (e9) (by exact m3) rfl ?_)
 obtain ⟨j1, u3, b8⟩ := bind_some b8
 refine Y4 rfl rfl (Eq.trans rfl (congrArg (fun b => vB (!b)) e3)) ?_
 refine X6 Tryz.call32 (U9 rfl rfl) rfl (Zt8 u3 b9 a5 hS) ?_
 rintro _ s5 _ d2 hS rfl
 have Z3 := Z3.trans d2
 have a5 := a5.mono d2
 have b9 := b9.mono d2
 have b5 := b5.mono d2
 have b6 := b6.mono d2
 have a1 := a1.mono d2
 have a3 := a3.mono d2
 have f2 := f2.mono d2
 have f3 := f3.mono d2
 have a6 := a6.mono d2
 have a7 := a7.mono d2
 have sB := sB.trans d2
 have b7 := b7.trans d2
 have b3 := b3.trans d2
 refine Y4 rfl rfl (Eq.trans rfl (congrArg (fun b => vB (!b)) e3)) (K9 (b := j1) rfl rfl ?_)
 refine V0 (t := false) (vB (!j1)) (Eq.trans rfl (congrArg (fun b => vB (!b)) e3)) ((if_neg Bool.false_ne_true).trans rfl) rfl (Z4 (vB (!j1)) rfl rfl ?_)
 obtain ⟨f6, b8⟩ | ⟨f6, b8⟩ := ic b8
 refine Y4 rfl rfl (Eq.trans rfl (congrArg (fun b => vB (!b)) f6)) (Z4 (vI a4.2.2) (by exact (evT (h0 10 rfl) o5)) rfl ?_)
 refine Y4 rfl rfl (Eq.trans rfl (congrArg (fun b => vB (!b)) f6)) (Z4 (vI r9.2.2) (by exact m4) rfl ?_)
 refine Y4 rfl rfl (Eq.trans rfl (congrArg (fun b => vB (!b)) f6)) ?_
 refine L7 (k := .i64) (a := a4.2.2) (b := r9.2.2) rfl rfl rfl ?_
 refine V0 (t := false) (vB (!decide (a4.2.2 = r9.2.2))) (Eq.trans rfl (congrArg (fun b => vB (!b)) f6)) ((if_neg Bool.false_ne_true).trans rfl) rfl (Z1 ?_)
 exact o3 _ _ ⟨(!decide (a4.2.2 = r9.2.2)), s5, b8, Z3, hS, b5, b6, b9, f2, f3, a6, a7, a1, a3, a5, n8, m2, m3, m4, m5, m6, rfl, sB, b7, b3⟩
 refine Y1 rfl rfl (Eq.trans rfl (congrArg (fun b => vB (!b)) (X8 f6))) rfl rfl rfl (Y1 rfl rfl (Eq.trans rfl (congrArg (fun b => vB (!b)) (X8 f6))) rfl rfl rfl (Y1 rfl rfl (Eq.trans rfl (congrArg (fun b => vB (!b)) (X8 f6))) rfl rfl rfl ?_))
 refine V0 (t := true) (vB true) (Eq.trans rfl (congrArg (fun b => vB (!b)) (X8 f6))) ((if_pos rfl).trans rfl) rfl (Z1 ?_)
 exact o3 _ _ ⟨true, s5, b8, Z3, hS, b5, b6, b9, f2, f3, a6, a7, a1, a3, a5, n8, m2, m3, m4, m5, m6, rfl, sB, b7, b3⟩
 refine Y1 rfl rfl (Eq.trans rfl (congrArg (fun b => vB (!b)) (X8 e3))) rfl rfl rfl (Y1 rfl rfl (Eq.trans rfl (congrArg (fun b => vB (!b)) (X8 e3))) rfl rfl rfl (Y1 rfl rfl (Eq.trans rfl (congrArg (fun b => vB (!b)) (X8 e3))) rfl rfl rfl (Y1 rfl rfl (Eq.trans rfl (congrArg (fun b => vB (!b)) (X8 e3))) rfl rfl rfl ?_)))
 refine V0 (t := true) (vB true) (Eq.trans rfl (congrArg (fun b => vB (!b)) (X8 e3))) ((if_pos rfl).trans rfl) rfl (Z4 (vB true) rfl rfl (Y1 rfl rfl rfl rfl rfl rfl (Y1 rfl rfl rfl rfl rfl rfl (Y1 rfl rfl rfl rfl rfl rfl ?_))))
 refine V0 (t := true) (vB true) rfl ((if_pos rfl).trans rfl) rfl (Z1 ?_)
 exact o3 _ _ ⟨true, w3, b8, Z3, hS, b5, b6, b9, f2, f3, a6, a7, a1, a3, a5, n8, m2, m3, m4, m5, m6, rfl, sB, b7, b3⟩
 refine Y0 (Eq.trans (by exact u8) (congrArg (fun b => vB (!b)) (X8 n0))) (Z2 (Z0 (Z5 (vB false) rfl rfl (Z1 ?_))))
 refine X0 (vs := [vB false]) Tryz.func8 ⟨rfl, trivial⟩ ?_
 obtain rfl := oi b8
 exact ⟨_, _, rfl, Z3, (St.dropA (St.dropA (St.dropA (St.dropA hS)))), rfl⟩
 intro s6
 refine Z0 ?_
 refine X7 S5 rfl (hS.get mL) rfl rfl ?_
 refine X7 S5 rfl (hS.get (mR (mR mL))) rfl rfl ?_
 obtain ⟨k6, u4, q0⟩ := bind_some q0
 refine X6 Tryz.call20 (U9 rfl rfl) rfl (Zr1 u4 b5 b6 a1 a3 hS) ?_
 rintro _ w4 _ c7 hS rfl
 have Z3 := Z3.trans c7
 have a5 := a5.mono c7
 have b9 := b9.mono c7
 have b5 := b5.mono c7
 have b6 := b6.mono c7
 have a1 := a1.mono c7
 have a3 := a3.mono c7
 have a6 := a6.mono c7
 have a7 := a7.mono c7
 have c1 := c1.mono c7
 have c2 := c2.mono c7
 have sB := sB.trans c7
 have d3 := d3.trans c7
 have b7 := b7.trans c7
 have b3 := b3.trans c7
 refine K9 (b := k6) rfl rfl (Z4 (vB (!k6)) rfl rfl ?_)
 obtain ⟨e4, q0⟩ | ⟨e4, q0⟩ := ic q0
 refine Y4 rfl rfl (Eq.trans rfl (congrArg (fun b => vB (!b)) e4)) (Z4 (d8) rfl rfl ?_)
 refine Y4 rfl rfl (Eq.trans rfl (congrArg (fun b => vB (!b)) e4)) (Z4 (e9) rfl rfl ?_)
 obtain ⟨j2, u5, q0⟩ := bind_some q0
 refine Y4 rfl rfl (Eq.trans rfl (congrArg (fun b => vB (!b)) e4)) ?_
 refine X6 Tryz.call32 (U9 rfl rfl) rfl (Zt8 u5 b9 a5 hS) ?_
 rintro _ s7 _ c8 hS rfl
 have Z3 := Z3.trans c8
 have a5 := a5.mono c8
 have b9 := b9.mono c8
 have b5 := b5.mono c8
 have b6 := b6.mono c8
 have a1 := a1.mono c8
 have a3 := a3.mono c8
 have a6 := a6.mono c8
 have a7 := a7.mono c8
 have c1 := c1.mono c8
 have c2 := c2.mono c8
 have sB := sB.trans c8
 have d3 := d3.trans c8
 have b7 := b7.trans c8
 have b3 := b3.trans c8
 refine Y4 rfl rfl (Eq.trans rfl (congrArg (fun b => vB (!b)) e4)) (K9 (b := j2) rfl rfl ?_)
 refine V0 (t := false) (vB (!j2)) (Eq.trans rfl (congrArg (fun b => vB (!b)) e4)) ((if_neg Bool.false_ne_true).trans rfl) rfl (Z4 (vB (!j2)) rfl rfl ?_)
 obtain ⟨f7, q0⟩ | ⟨f7, q0⟩ := ic q0
 refine Y4 rfl rfl (Eq.trans rfl (congrArg (fun b => vB (!b)) f7)) (Z4 (vI a4.2.2) rfl rfl ?_)
 refine Y4 rfl rfl (Eq.trans rfl (congrArg (fun b => vB (!b)) f7)) (Z4 (vI r9.2.2) rfl rfl ?_)
 refine Y4 rfl rfl (Eq.trans rfl (congrArg (fun b => vB (!b)) f7)) ?_
 refine L7 (k := .i64) (a := a4.2.2) (b := r9.2.2) rfl rfl rfl ?_
 refine V0 (t := false) (vB (!decide (a4.2.2 = r9.2.2))) (Eq.trans rfl (congrArg (fun b => vB (!b)) f7)) ((if_neg Bool.false_ne_true).trans rfl) rfl (Z1 ?_)
 exact s6 _ _ ⟨(!decide (a4.2.2 = r9.2.2)), s7, q0, Z3, hS, c1, b5, c2, b6, b9, a6, a7, a1, a3, a5, rfl, rfl, rfl, rfl, rfl, rfl, rfl, rfl, rfl, sB, d3, b7, b3⟩
 refine Y1 rfl rfl (Eq.trans rfl (congrArg (fun b => vB (!b)) (X8 f7))) rfl rfl rfl (Y1 rfl rfl (Eq.trans rfl (congrArg (fun b => vB (!b)) (X8 f7))) rfl rfl rfl (Y1 rfl rfl (Eq.trans rfl (congrArg (fun b => vB (!b)) (X8 f7))) rfl rfl rfl ?_))
 refine V0 (t := true) (vB true) (Eq.trans rfl (congrArg (fun b => vB (!b)) (X8 f7))) ((if_pos rfl).trans rfl) rfl (Z1 ?_)
 exact s6 _ _ ⟨true, s7, q0, Z3, hS, c1, b5, c2, b6, b9, a6, a7, a1, a3, a5, rfl, rfl, rfl, rfl, rfl, rfl, rfl, rfl, rfl, sB, d3, b7, b3⟩
 refine Y1 rfl rfl (Eq.trans rfl (congrArg (fun b => vB (!b)) (X8 e4))) rfl rfl rfl (Y1 rfl rfl (Eq.trans rfl (congrArg (fun b => vB (!b)) (X8 e4))) rfl rfl rfl (Y1 rfl rfl (Eq.trans rfl (congrArg (fun b => vB (!b)) (X8 e4))) rfl rfl rfl (Y1 rfl rfl (Eq.trans rfl (congrArg (fun b => vB (!b)) (X8 e4))) rfl rfl rfl ?_)))
 refine V0 (t := true) (vB true) (Eq.trans rfl (congrArg (fun b => vB (!b)) (X8 e4))) ((if_pos rfl).trans rfl) rfl (Z4 (vB true) rfl rfl (Y1 rfl rfl rfl rfl rfl rfl (Y1 rfl rfl rfl rfl rfl rfl (Y1 rfl rfl rfl rfl rfl rfl ?_))))
 refine V0 (t := true) (vB true) rfl ((if_pos rfl).trans rfl) rfl (Z1 ?_)
 exact s6 _ _ ⟨true, w4, q0, Z3, hS, c1, b5, c2, b6, b9, a6, a7, a1, a3, a5, rfl, rfl, rfl, rfl, rfl, rfl, rfl, rfl, rfl, sB, d3, b7, b3⟩
end Go.Proofs.YtabofnehiclkiaaGreat
