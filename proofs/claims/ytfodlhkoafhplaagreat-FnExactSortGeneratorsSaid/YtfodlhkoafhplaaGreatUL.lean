/- The walk of the law. -/
import Derived.Test.YtfodlhkoafhplaaGreatUF17
import Derived.Test.YtfodlhkoafhplaaGreatUF19
import Derived.Test.YtfodlhkoafhplaaGreatUF11
import Derived.Test.YtfodlhkoafhplaaGreatUF14
import Derived.Test.YtfodlhkoafhplaaGreatUF8
import Derived.Test.YtfodlhkoafhplaaGreatUF1
import Derived.Test.YtfodlhkoafhplaaGreatUF2
import Derived.Test.YtfodlhkoafhplaaGreatUX
import Derived.Test.YtfodlhkoafhplaaGreatUTy
namespace Go.Proofs.YtfodlhkoafhplaaGreat
open Go
set_option linter.unusedSimpArgs false
set_option linter.unusedVariables false
set_option maxRecDepth 100000
set_option maxHeartbeats 8000000
def P7 (K : Nat) (a4 : (((List Int) × (List MpT)) × (List Int) × Int)) (e5 : Bool) : Option Bool := (if e5 = true then some false else ((Zb0 K ((mkA a4.1 1).1, (mkA a4.1 1).2) 1).bind fun g8 => (if g8 < 0 then some false else ((A0 K (mkI (1 + G3 a4.1) a4.2.1.length) g8).bind fun g2 => (if g2 < 0 then some false else (if g2 = ((1 + G3 a4.1) + (a4.2.1.length : Int)) then some true else some false))))))
def Q0 (K : Nat) (a0 : ((List Int) × (List MpT))) (a4 : (((List Int) × (List MpT)) × (List Int) × Int)) (r9 : (((List Int) × (List MpT)) × (List Int) × Int)) (f8 : Bool) : Option Bool := (if f8 = true then some false else (if G3 a4.1 ≤ 1000000000000 ∧ 0 ≤ (1 : Int) ∧ (1 : Int) ≤ 1000000 then (if a4.2.1.length ≤ 1000000000000 ∧ 0 ≤ ((1 + G3 a4.1) : Int) ∧ ((1 + G3 a4.1) : Int) ≤ 1000000000000000 then ((Zb0 K ((mkA a4.1 1).1, (mkA a4.1 1).2) 1).bind fun g9 => (if g9 < 0 then some false else ((A0 K (mkI (1 + G3 a4.1) a4.2.1.length) g9).bind fun g3 => (if g3 < 0 then some false else (if g3 = ((1 + G3 a4.1) + (a4.2.1.length : Int)) then ((B2 K (a0.1, a0.2)).bind fun m8 => ((D8 K (m8.1, m8.2)).bind fun e0 => ((C9 K (e0.1.1, e0.1.2) (r9.1.1, r9.1.2)).bind fun j8 => (if j8 = true then ((Za1 K e0.2.1 r9.2.1).bind fun i2 => (if i2 = true then P7 K a4 (!decide (e0.2.2 = r9.2.2)) else P7 K a4 true)) else P7 K a4 true)))) else some false))))) else none) else none))
def P6 (K : Nat) (a0 : ((List Int) × (List MpT))) (d2 : ((List Int) × (List MpT))) (a4 : (((List Int) × (List MpT)) × (List Int) × Int)) (r9 : (((List Int) × (List MpT)) × (List Int) × Int)) (f9 : Bool) : Option Bool := (if f9 = true then some false else ((B2 K (a0.1, a0.2)).bind fun n2 => ((C9 K (d2.1, d2.2) (n2.1, n2.2)).bind fun j9 => (if j9 = true then (if G3 d2 ≤ 1000000000000 ∧ 0 ≤ (1 : Int) ∧ (1 : Int) ≤ 1000000 then (if (1 + G3 d2) < 0 then Q0 K a0 a4 r9 true else ((C9 K (a4.1.1, a4.1.2) (r9.1.1, r9.1.2)).bind fun i3 => (if i3 = true then ((Za1 K a4.2.1 r9.2.1).bind fun i4 => (if i4 = true then Q0 K a0 a4 r9 (!decide (a4.2.2 = r9.2.2)) else Q0 K a0 a4 r9 true)) else Q0 K a0 a4 r9 true))) else none) else some false))))
def B9 (K : Nat) (a0 : ((List Int) × (List MpT))) : Option Bool := ((Zh7 K (a0.1, a0.2) 1048576).bind fun r4 => (if r4 < 0 then some true else ((B2 K (a0.1, a0.2)).bind fun r7 => ((Zb8 K (r7.1, r7.2)).bind fun r9 => ((B2 K (a0.1, a0.2)).bind fun d2 => ((D8 K (d2.1, d2.2)).bind fun a4 => ((C9 K (a4.1.1, a4.1.2) (r9.1.1, r9.1.2)).bind fun k0 => (if k0 = true then ((Za1 K a4.2.1 r9.2.1).bind fun i5 => (if i5 = true then P6 K a0 d2 a4 r9 (!decide (a4.2.2 = r9.2.2)) else P6 K a0 d2 a4 r9 true)) else P6 K a0 d2 a4 r9 true))))))))
theorem Zs0 {K : Nat} {a0 : ((List Int) × (List MpT))} {r : Bool} (q0 : B9 K a0 = some r) {H : FH} {w : World} {L : OL} {s0 : Value} {s1 : Value} (a6 : Y2 (Y8 .i64) H s0 a0.1) (a7 : Y2 (W0 yT) H s1 a0.2) (hM : ∀ b, H.memo b = none) (hL : ∀ b, b < H.lim → H b ≠ none) (hS : St H w L) :
 Calls Tryz.prog 11 #[vA ([s0] ++ [s1])] w (S3 (fun v G => R.bool.p G v r) H L) := by
 have Z2 := Sub.refl H
 refine X2 Tryz.func11 rfl Tryz.ntmps11 rfl ?_
 unfold B9 at q0
 refine Z3 (Z1 ?_)
 refine S5 (v := vA ([s0] ++ [s1])) ([s0] ++ [s1]).toArray rfl rfl hS rfl ?_
 intro b1 w2 hS
 refine Z5 (Value.bool false) rfl rfl (Z0 (Z3 (Z1 (Z5 (vI 1048576) rfl rfl (Z0 (Z3 (Z1 ?_)))))))
 refine W1 Xc9 rfl (hS.get mL) rfl rfl (Z4 (vI 1048576) rfl rfl ?_)
 obtain ⟨r4, w4, q0⟩ := bind_some q0
 refine X0 Tryz.call15 (T0 rfl rfl) rfl (Yh7 w4 a6 a7 hS) ?_
 rintro e4 w5 ⟨_, H4, rfl, o3, hS, rfl⟩
 refine ⟨_, rfl, ?_⟩
 have Z2 := Z2.trans o3
 have a6 := a6.mono o3
 have a7 := a7.mono o3
 refine Z5 (vI r4) rfl rfl (Z0 (Z3 (Z3 (Z1 (Z4 (vI r4) rfl rfl ?_)))))
 refine U2 (k := .i64) (a := r4) (b := 0) rfl rfl rfl (Z0 ?_)
 by_cases n3 : r4 < 0
 rw [if_pos n3] at q0
 refine Y0 (bT n3 rfl) (Z3 (Z1 (Z5 (Value.bool true) rfl rfl (Z0 ?_))))
 refine Y9 (vs := [Value.bool true]) Tryz.func11 ⟨rfl, trivial⟩ ?_
 have hz := Option.some.inj q0
 subst hz
 exact ⟨_, _, rfl, Z2, (St.dropA hS), rfl⟩
 rw [if_neg n3] at q0
 refine Z9 (bF n3 rfl) (Y6 (Z3 (Z1 ?_)))
 refine W1 Xc9 rfl (hS.get mL) rfl rfl ?_
 have x5 := Z2
 obtain ⟨r7, w6, q0⟩ := bind_some q0
 refine X0 Tryz.call17 (M0 rfl) rfl (Zi2 w6 a6 a7 hS) ?_
 rintro e7 w8 ⟨va7, H7, rfl, o4, hS, w7⟩
 obtain ⟨vd7, vi7, rfl, o5, o6⟩ := id w7.old
 have o5 := Y2.old o5
 have o6 := Y2.old o6
 refine ⟨_, rfl, ?_⟩
 have Z2 := Z2.trans o4
 have a6 := a6.mono o4
 have a7 := a7.mono o4
 have hc7 := Sub.refl H7
 obtain ⟨r9, w9, q0⟩ := bind_some q0
 refine X0 Tryz.call68 (M0 rfl) rfl (Zz7 w9 o5 o6 hS) ?_
 rintro e9 w10 ⟨_, H9, rfl, o7, hS, ⟨z1, g4, z2, rfl, ⟨_, rfl, ⟨_, _, rfl, ⟨c8, rfl, a1⟩, ⟨c9, rfl, a3⟩⟩⟩, a5, rfl⟩⟩
 refine ⟨_, rfl, ?_⟩
 have Z2 := Z2.trans o7
 have a6 := a6.mono o7
 have a7 := a7.mono o7
 refine Z4 (Value.tuple #[vA ([c8] ++ [c9]), g4, vI r9.2.2]) rfl rfl (V5 (vA ([c8] ++ [c9])) rfl rfl rfl (V5 (g4) rfl rfl rfl (V5 (vI r9.2.2) rfl rfl rfl ?_)))
 refine V0 (z := vA ([vN] ++ [vN])) ([vN] ++ [vN]).toArray Zq3.zero rfl hS rfl ?_
 intro k4 w12 hS
 refine X8 (v := vA ([c8] ++ [c9])) (vs := ([c8] ++ [c9]).toArray) (cs := ([vN] ++ [vN]).toArray) Q9 rfl rfl rfl hS rfl (L8 (S2 a1.isOne) (S2 a3.isOne)) rfl ?_
 intro w14 hS
 refine Z5 (g4) rfl rfl (Z5 (vI r9.2.2) rfl rfl (Z0 (Z3 (Z1 ?_))))
 refine W1 Xc9 rfl (hS.get (mR mL)) rfl rfl ?_
 have n4 := Y2.noMI a6
 have n5 := Y2.noMF a7
 have i6 := Y2.noMI a1
 have i7 := Y2.noMF a3
 have k5 := Y2.noMI a5
 have sB := Xy6 H9
 have l6 := Z2
 have u3 := sB
 obtain ⟨d2, u4, q0⟩ := bind_some q0
 refine X0 Tryz.call17 (M0 rfl) rfl (Zi2 u4 a6 a7 hS) ?_
 rintro e15 w16 ⟨z3, l7, rfl, h9, hS, o8⟩
 obtain ⟨g6, g7, rfl, d0, d1⟩ := id o8.old
 have d0 := Y2.old d0
 have d1 := Y2.old d1
 refine ⟨_, rfl, ?_⟩
 have Z2 := Z2.trans h9
 have a5 := a5.mono h9
 have a6 := a6.mono h9
 have a7 := a7.mono h9
 have a1 := a1.mono h9
 have a3 := a3.mono h9
 have sB := sB.trans h9
 have e1 := Sub.refl l7
 refine V0 (z := vA ([vN] ++ [vN])) ([vN] ++ [vN]).toArray Zq3.zero rfl hS rfl ?_
 intro l9 w18 hS
 refine X8 (v := vA ([g6] ++ [g7])) (vs := ([g6] ++ [g7]).toArray) (cs := ([vN] ++ [vN]).toArray) Q9 rfl rfl rfl hS rfl (L8 (S2 d0.isOne) (S2 d1.isOne)) rfl ?_
 intro w20 hS
 refine Z0 (Z3 (Z1 ?_))
 refine W1 Q9 rfl (hS.get mL) rfl rfl ?_
 have i0 := Z2
 have o9 := sB
 have h5 := e1
 obtain ⟨a4, u5, q0⟩ := bind_some q0
 refine X0 Tryz.call69 (M0 rfl) rfl (Zo9 u5 d0 d1 hS) ?_
 rintro e21 w22 ⟨_, p0, rfl, g5, hS, z4, e2, _, rfl, ⟨m9, i8, s2, k8, h0⟩, rfl⟩
 have b3 : Sub (m9.new l7) p0 := (Zr3 _ _).trans s2
 have b8 := Y2.mono b3 k8
 have o0 := h5
 have h5 := h5.trans i8
 obtain ⟨g0, g1, rfl, b4, b5⟩ := id h0.old
 have b4 := Y2.old b4
 have b5 := Y2.old b5
 refine ⟨_, rfl, ?_⟩
 have Z2 := Z2.trans g5
 have a5 := a5.mono g5
 have d0 := d0.mono g5
 have d1 := d1.mono g5
 have a6 := a6.mono g5
 have a7 := a7.mono g5
 have a1 := a1.mono g5
 have a3 := a3.mono g5
 have sB := sB.trans g5
 have e1 := e1.trans g5
 have b6 := Sub.refl p0
 refine Z4 (Value.tuple #[vA ([g0] ++ [g1]), e2, vI a4.2.2]) rfl rfl (V5 (vA ([g0] ++ [g1])) rfl rfl rfl (V5 (e2) rfl rfl rfl (V5 (vI a4.2.2) rfl rfl rfl ?_)))
 refine V0 (z := vA ([vN] ++ [vN])) ([vN] ++ [vN]).toArray Zq3.zero rfl hS rfl ?_
 intro k1 w24 hS
 refine X8 (v := vA ([g0] ++ [g1])) (vs := ([g0] ++ [g1]).toArray) (cs := ([vN] ++ [vN]).toArray) Q9 rfl rfl rfl hS rfl (L8 (S2 b4.isOne) (S2 b5.isOne)) rfl ?_
 intro w26 hS
 refine Z5 (e2) rfl rfl (Z5 (vI a4.2.2) rfl rfl (Z0 (Z3 (Z3 ?_))))
 refine Za3 (fun f w => ∃ (f9 : Bool) (H1 : FH), P6 K a0 d2 a4 r9 f9 = some r ∧ Sub H H1 ∧ St H1 w ([(k1, cA ([g0] ++ [g1]) 29)] ++ ([(l9, cA ([g6] ++ [g7]) 29)] ++ ([(k4, cA ([c8] ++ [c9]) 29)] ++ ([(b1, cA ([s0] ++ [s1]) 25)] ++ L)))) ∧ Y2 (Y8 .i64) H1 g6 d2.1 ∧ Y2 (Y8 .i64) H1 g0 a4.1.1 ∧ Y2 (W0 yT) H1 g7 d2.2 ∧ Y2 (W0 yT) H1 g1 a4.1.2 ∧ Y2 (Y8 .i64) H1 e2 a4.2.1 ∧ Y2 (Y8 .i64) H1 s0 a0.1 ∧ Y2 (W0 yT) H1 s1 a0.2 ∧ Y2 (Y8 .i64) H1 c8 r9.1.1 ∧ Y2 (W0 yT) H1 c9 r9.1.2 ∧ Y2 (Y8 .i64) H1 g4 r9.2.1 ∧ ev f (.tmp 1) = vP b1 ∧ ev f (.tmp 4) = vP k4 ∧ ev f (.tmp 5) = g4 ∧ ev f (.tmp 6) = vI r9.2.2 ∧ ev f (.tmp 7) = vP l9 ∧ ev f (.tmp 8) = vP k1 ∧ ev f (.tmp 9) = e2 ∧ ev f (.tmp 10) = vI a4.2.2 ∧ ev f (.tmp 51) = Value.bool f9 ∧ Sub H9.noM H1 ∧ Sub l7 H1 ∧ Sub p0 H1 ∧ Sub (m9.new l7) H1) ?_ ?_
 rintro fj1 x6 ⟨f9, x7, c0, Z2, hS, d0, b4, d1, b5, b8, a6, a7, a1, a3, a5, m0, p1, p2, p3, m1, p4, p5, o1, k6, sB, e1, b6, b3⟩
 unfold P6 at c0
 by_cases k9 : f9 = true
 rw [if_pos k9] at c0
 refine Y0 (Eq.trans (by exact k6) (congrArg Value.bool k9)) (Z3 (Z1 (Z5 (Value.bool false) rfl rfl (Z0 ?_))))
 refine Y9 (vs := [Value.bool false]) Tryz.func11 ⟨rfl, trivial⟩ ?_
 have hz := Option.some.inj c0
 subst hz
 exact ⟨_, _, rfl, Z2, (St.dropA (St.dropA (St.dropA (St.dropA hS)))), rfl⟩
 rw [if_neg k9] at c0
 refine Z9 (Eq.trans (by exact k6) (congrArg Value.bool (W2 k9))) (Y6 (Z3 (Z3 ?_)))
 obtain ⟨n2, u6, c0⟩ := bind_some c0
 obtain ⟨j9, u7, c0⟩ := bind_some c0
 refine U0 5 (Q5 [(52, MP.eq (vA ([g6] ++ [g7]))), (53, MP.eq (vA ([s0] ++ [s1]))), (54, MP.rep (R.agg (Zo8 (W0 (Y8 .i64)) (W0 (W0 yT)))) (n2)), (55, MP.eq (Value.bool j9)), (56, MP.eq (Value.bool (!j9)))]) [] mixed rfl rfl rfl hS (Z6 rfl ?_ (Z6 rfl ?_ (Z6 rfl ?_ (Z6 rfl ?_ (Z6 rfl ?_ U5))))) ?_
 intro f28 w29 H30 X31 z5 hS u8 z6 hcq
 refine W1 Q9 (evT (u8 7 rfl) m1) (hS.get (mR (mR mL))) rfl rfl ?_
 exact qn (.refl _) rfl hS rfl
 intro f37 w38 H39 X40 z7 hS u9 z8 hcq
 refine W1 Xc9 (evT (u9 1 rfl) m0) (hS.get (mR (mR (mR (mR mL))))) rfl rfl ?_
 exact qn (.refl _) rfl hS rfl
 intro f46 w47 H48 X49 p6 hS z9 v0 hcq
 have a6 := a6.mono p6
 have a7 := a7.mono p6
 refine X0 Tryz.call17 (M0 (eM (v0 1 53 rfl rfl))) rfl (Zi2 u6 a6 a7 hS) ?_
 rintro e55 w56 ⟨x0, H55, rfl, v1, hS, n0⟩
 refine ⟨x0, rfl, ?_⟩
 have n0 := Zi4.rep n0
 exact qn v1 rfl hS n0
 intro f57 w58 H59 X60 p7 hS a00 p8 hcq
 have d0 := d0.mono p7
 have d1 := d1.mono p7
 obtain ⟨v67, x1, ⟨_, rfl, ⟨_, _, rfl, ⟨x8, rfl, p9⟩, ⟨x9, rfl, q1⟩⟩⟩⟩ := gvR (p8 2 54 rfl rfl)
 refine X0 Tryz.call19 (T0 (eM (p8 0 52 rfl rfl)) x1) rfl (Zi0 u7 d0 d1 p9 q1 hS) ?_
 rintro e68 w69 ⟨_, H68, rfl, v2, hS, rfl⟩
 refine ⟨_, rfl, ?_⟩
 exact qn v2 rfl hS rfl
 intro f70 w71 H72 X73 a01 hS a02 v3 hcq
 refine M1 (b := j9) (eM (v3 3 55 rfl rfl)) rfl ?_
 exact qn (.refl _) rfl hS rfl
 intro x2 x3 x4 e6 hS h1 v4 hcq
 have hS : St x4 x3 ([(k1, cA ([g0] ++ [g1]) 29)] ++ ([(l9, cA ([g6] ++ [g7]) 29)] ++ ([(k4, cA ([c8] ++ [c9]) 29)] ++ ([(b1, cA ([s0] ++ [s1]) 25)] ++ L)))) := hS
 have Z2 := Z2.trans e6
 have a5 := a5.mono e6
 have b8 := b8.mono e6
 have b4 := b4.mono e6
 have b5 := b5.mono e6
 have a1 := a1.mono e6
 have a3 := a3.mono e6
 have a6 := a6.mono e6
 have a7 := a7.mono e6
 have sB := sB.trans e6
 have e1 := e1.trans e6
 have b6 := b6.trans e6
 have b3 := b3.trans e6
 have n6 := evT (h1 1 rfl) m0
 have m2 := evT (h1 4 rfl) p1
 have m3 := evT (h1 5 rfl) p2
 have m4 := evT (h1 6 rfl) p3
 have m5 := evT (h1 8 rfl) p4
 have m6 := evT (h1 9 rfl) p5
 have u1 : ev x2 (.tmp 56) = Value.bool (!j9) := v4 4 56 (by decide) rfl
 refine Z0 ?_
 by_cases l0 : j9 = true
 rw [if_pos l0] at c0
 refine Z9 (Eq.trans (by exact u1) (congrArg (fun b => Value.bool (!b)) l0)) (Y6 (Z3 (Z1 (Z5 (vI 1) rfl rfl (Z0 (Z3 (Z1 ?_)))))))
 refine W1 Q9 (by exact (evT (h1 7 rfl) m1)) (hS.get (mR mL)) rfl rfl (Z4 (vI 1) rfl rfl ?_)
 obtain ⟨v5, c0⟩ := gd c0
 refine X0 Tryz.call20 (T0 rfl rfl) rfl (Ys7 o8 e1 v5 (Xe4 hL l6 Z2) hS) ?_
 rintro e96 w97 ⟨q2, rfl, hS, f5, f6, i9⟩
 refine ⟨_, rfl, ?_⟩
 have Z2 := i9 H Z2 hM (fun b h => .inl (Yd6 l6 b h))
 have h0 := Zi4.tr (h0.mono b6) (i9 _ (Zr3 _ _) (fun _ => rfl) (Yw8 h5))
 have b3 := i9 _ b3 (fun _ => rfl) (Yw8 o0)
 have b8 := Y2.mono b3 k8
 have sB := i9 _ sB (fun _ => rfl) (fun b h => .inl (Yd6 u3 b h))
 have b6 := Sub.refl q2
 have b4 := (Zi4.rd h0).1
 have b5 := (Zi4.rd h0).2
 have a6 := n4.mono sB
 have a7 := n5.mono sB
 have a1 := i6.mono sB
 have a3 := i7.mono sB
 have a5 := k5.mono sB
 refine Z5 (vI (1 + G3 d2)) rfl rfl (Z0 (Z3 (Z3 ?_)))
 refine Za3 (fun f w => ∃ (f8 : Bool) (H1 : FH), Q0 K a0 a4 r9 f8 = some r ∧ Sub H H1 ∧ St H1 w ([(k1, cA ([g0] ++ [g1]) 29)] ++ ([(l9, cA ([g6] ++ [g7]) 29)] ++ ([(k4, cA ([c8] ++ [c9]) 29)] ++ ([(b1, cA ([s0] ++ [s1]) 25)] ++ L)))) ∧ Y2 (Y8 .i64) H1 g0 a4.1.1 ∧ Y2 (W0 yT) H1 g1 a4.1.2 ∧ Y2 (Y8 .i64) H1 e2 a4.2.1 ∧ Y2 (Y8 .i64) H1 g6 ((mkA d2 1).1) ∧ Y2 (W0 yT) H1 g7 ((mkA d2 1).2) ∧ Y2 (Y8 .i64) H1 s0 a0.1 ∧ Y2 (W0 yT) H1 s1 a0.2 ∧ Y2 (Y8 .i64) H1 c8 r9.1.1 ∧ Y2 (W0 yT) H1 c9 r9.1.2 ∧ Y2 (Y8 .i64) H1 g4 r9.2.1 ∧ ev f (.tmp 1) = vP b1 ∧ ev f (.tmp 4) = vP k4 ∧ ev f (.tmp 5) = g4 ∧ ev f (.tmp 6) = vI r9.2.2 ∧ ev f (.tmp 8) = vP k1 ∧ ev f (.tmp 9) = e2 ∧ ev f (.tmp 78) = Value.bool f8 ∧ Sub H9.noM H1 ∧ Sub q2 H1 ∧ Sub (m9.new l7) H1) ?_ ?_
 rintro fj2 y0 ⟨f8, y1, a8, Z2, hS, b4, b5, b8, f5, f6, a6, a7, a1, a3, a5, q3, q4, q5, q6, h2, h3, k7, sB, b6, b3⟩
 unfold Q0 at a8
 by_cases l1 : f8 = true
 rw [if_pos l1] at a8
 refine Y0 (Eq.trans (by exact k7) (congrArg Value.bool l1)) (Z3 (Z1 (Z5 (Value.bool false) rfl rfl (Z0 ?_))))
 refine Y9 (vs := [Value.bool false]) Tryz.func11 ⟨rfl, trivial⟩ ?_
 have hz := Option.some.inj a8
 subst hz
 exact ⟨_, _, rfl, Z2, (St.dropA (St.dropA (St.dropA (St.dropA hS)))), rfl⟩
 rw [if_neg l1] at a8
 refine Z9 (Eq.trans (by exact k7) (congrArg Value.bool (W2 l1))) (Y6 (Z3 (Z1 (Z5 (vI 1) rfl rfl (Z0 (Z3 (Z1 ?_)))))))
 refine W1 Q9 (by exact h2) (hS.get mL) rfl rfl (Z4 (vI 1) rfl rfl ?_)
 obtain ⟨v6, a8⟩ := gd a8
 obtain ⟨y2, s3, s4, hS, k2⟩ := Wc2 k8 b3 (Xe4 hL i0 Z2) hS
 have h0 := Zi4.tr (h0.mono b6) (k2 _ (Zr3 _ _) (fun _ => rfl) Xv7)
 have b6 := Sub.refl s3
 have Z2 := k2 H Z2 hM (fun b h => .inl (Yd6 i0 b h))
 have sB := k2 _ sB (fun _ => rfl) (fun b h => .inl (Yd6 o9 b h))
 refine X0 Tryz.call20 (T0 rfl rfl) rfl (Ys7 h0 b6 v6 (Xe4 hL (i0.trans i8) Z2) hS) ?_
 rintro a03 a04 ⟨a05, rfl, hS, a9, b0, m7⟩
 refine ⟨_, rfl, ?_⟩
 have Z2 := m7 H Z2 hM (fun b h => .inl (Yd6 (i0.trans i8) b h))
 have sB := m7 _ sB (fun _ => rfl) (fun b h => .inl (Yd6 (o9.trans i8) b h))
 have a6 := n4.mono sB
 have a7 := n5.mono sB
 have a1 := i6.mono sB
 have a3 := i7.mono sB
 have a5 := k5.mono sB
 refine Z5 (vI (1 + G3 a4.1)) rfl rfl (Z0 (Z3 (Z1 (Z4 (e2) (by exact h3) rfl (Z4 (vI (1 + G3 a4.1)) rfl rfl ?_)))))
 obtain ⟨n7, a8⟩ := gd a8
 refine X0 Tryz.call25 (T0 rfl rfl) rfl (Yn0 s4 n7.1 n7.2 hS) ?_
 rintro a06 a07 ⟨a08, rfl, f7, hS, b2⟩
 refine ⟨_, rfl, ?_⟩
 have Z2 := Z2.trans f7
 have a5 := a5.mono f7
 have a9 := a9.mono f7
 have b0 := b0.mono f7
 have a1 := a1.mono f7
 have a3 := a3.mono f7
 have a6 := a6.mono f7
 have a7 := a7.mono f7
 have sB := sB.trans f7
 refine Z5 (vI ((1 + G3 a4.1) + (a4.2.1.length : Int))) rfl rfl (Z0 (Z3 (Z1 (Z5 (vI 1) rfl rfl (Z0 (Z3 (Z1 ?_)))))))
 refine W1 Q9 (by exact h2) (hS.get mL) rfl rfl (Z4 (vI 1) rfl rfl ?_)
 obtain ⟨g9, s5, a8⟩ := bind_some a8
 refine X0 Tryz.call21 (T0 rfl rfl) rfl (Zr7 s5 a9 b0 hS) ?_
 rintro a09 a10 ⟨_, a11, rfl, e8, hS, rfl⟩
 refine ⟨_, rfl, ?_⟩
 have Z2 := Z2.trans e8
 have a5 := a5.mono e8
 have b2 := b2.mono e8
 have a9 := a9.mono e8
 have b0 := b0.mono e8
 have a1 := a1.mono e8
 have a3 := a3.mono e8
 have a6 := a6.mono e8
 have a7 := a7.mono e8
 have sB := sB.trans e8
 refine Z5 (vI g9) rfl rfl (Z0 (Z3 (Z3 (Z1 (Z4 (vI g9) rfl rfl ?_)))))
 refine U2 (k := .i64) (a := g9) (b := 0) rfl rfl rfl (Z0 ?_)
 by_cases j0 : g9 < 0
 rw [if_pos j0] at a8
 refine Y0 (bT j0 rfl) (Z3 (Z1 (Z5 (Value.bool false) rfl rfl (Z0 ?_))))
 refine Y9 (vs := [Value.bool false]) Tryz.func11 ⟨rfl, trivial⟩ ?_
 have hz := Option.some.inj a8
 subst hz
 exact ⟨_, _, rfl, Z2, (St.dropA (St.dropA (St.dropA (St.dropA hS)))), rfl⟩
 rw [if_neg j0] at a8
 refine Z9 (bF j0 rfl) (Y6 (Z3 (Z1 (Z4 (e2) (by exact h3) rfl (Z4 (vI g9) rfl rfl ?_)))))
 obtain ⟨g3, s6, a8⟩ := bind_some a8
 refine X0 Tryz.call26 (T0 rfl rfl) rfl (Zm4 s6 b2 hS) ?_
 rintro a12 a13 ⟨_, a14, rfl, f0, hS, rfl⟩
 refine ⟨_, rfl, ?_⟩
 have Z2 := Z2.trans f0
 have a5 := a5.mono f0
 have b2 := b2.mono f0
 have a9 := a9.mono f0
 have b0 := b0.mono f0
 have a1 := a1.mono f0
 have a3 := a3.mono f0
 have a6 := a6.mono f0
 have a7 := a7.mono f0
 have sB := sB.trans f0
 refine Z5 (vI g3) rfl rfl (Z0 (Z3 (Z3 (Z1 (Z4 (vI g3) rfl rfl ?_)))))
 refine U2 (k := .i64) (a := g3) (b := 0) rfl rfl rfl (Z0 ?_)
 by_cases j1 : g3 < 0
 rw [if_pos j1] at a8
 refine Y0 (bT j1 rfl) (Z3 (Z1 (Z5 (Value.bool false) rfl rfl (Z0 ?_))))
 refine Y9 (vs := [Value.bool false]) Tryz.func11 ⟨rfl, trivial⟩ ?_
 have hz := Option.some.inj a8
 subst hz
 exact ⟨_, _, rfl, Z2, (St.dropA (St.dropA (St.dropA (St.dropA hS)))), rfl⟩
 rw [if_neg j1] at a8
 refine Z9 (bF j1 rfl) (Y6 (Z3 (Z3 (Z1 (Z4 (vI g3) rfl rfl (Z4 (vI ((1 + G3 a4.1) + (a4.2.1.length : Int))) rfl rfl ?_))))))
 refine K9 (k := .i64) (a := g3) (b := ((1 + G3 a4.1) + (a4.2.1.length : Int))) rfl rfl rfl (Z0 ?_)
 by_cases j2 : g3 = ((1 + G3 a4.1) + (a4.2.1.length : Int))
 rw [if_pos j2] at a8
 refine Z9 (bN j2 rfl) (Y6 (Z3 (Z1 ?_)))
 refine W1 Xc9 (by exact q3) (hS.get (mR (mR (mR mL)))) rfl rfl ?_
 have w1 := Z2
 have y3 := sB
 obtain ⟨m8, s7, a8⟩ := bind_some a8
 refine X0 Tryz.call17 (M0 rfl) rfl (Zi2 s7 a6 a7 hS) ?_
 rintro a15 a16 ⟨y4, l2, rfl, f1, hS, s8⟩
 obtain ⟨y5, y6, rfl, l3, l4⟩ := id s8.old
 have l3 := Y2.old l3
 have l4 := Y2.old l4
 refine ⟨_, rfl, ?_⟩
 have Z2 := Z2.trans f1
 have a5 := a5.mono f1
 have b2 := b2.mono f1
 have a6 := a6.mono f1
 have a7 := a7.mono f1
 have a9 := a9.mono f1
 have b0 := b0.mono f1
 have a1 := a1.mono f1
 have a3 := a3.mono f1
 have sB := sB.trans f1
 have c2 := Sub.refl l2
 have w3 := Z2
 have y7 := sB
 have h4 := c2
 obtain ⟨e0, s9, a8⟩ := bind_some a8
 refine X0 Tryz.call69 (M0 rfl) rfl (Zo9 s9 l3 l4 hS) ?_
 rintro a17 a18 ⟨_, n1, rfl, e3, hS, y8, j3, _, rfl, ⟨n8, q7, q8, q9, t0⟩, rfl⟩
 have c1 : Sub (n8.new l2) n1 := (Zr3 _ _).trans q8
 have l5 := Y2.mono c1 q9
 have u2 := h4
 have h4 := h4.trans q7
 obtain ⟨h6, h7, rfl, d3, d4⟩ := id t0.old
 have d3 := Y2.old d3
 have d4 := Y2.old d4
 refine ⟨_, rfl, ?_⟩
 have Z2 := Z2.trans e3
 have a5 := a5.mono e3
 have b2 := b2.mono e3
 have a6 := a6.mono e3
 have a7 := a7.mono e3
 have a9 := a9.mono e3
 have b0 := b0.mono e3
 have a1 := a1.mono e3
 have a3 := a3.mono e3
 have sB := sB.trans e3
 have c2 := c2.trans e3
 have d5 := Sub.refl n1
 refine Z4 (Value.tuple #[vA ([h6] ++ [h7]), j3, vI e0.2.2]) rfl rfl (V5 (vA ([h6] ++ [h7])) rfl rfl rfl (V5 (j3) rfl rfl rfl (V5 (vI e0.2.2) rfl rfl rfl ?_)))
 refine V0 (z := vA ([vN] ++ [vN])) ([vN] ++ [vN]).toArray Zq3.zero rfl hS rfl ?_
 intro v7 a19 hS
 refine X8 (v := vA ([h6] ++ [h7])) (vs := ([h6] ++ [h7]).toArray) (cs := ([vN] ++ [vN]).toArray) Q9 rfl rfl rfl hS rfl (L8 (S2 d3.isOne) (S2 d4.isOne)) rfl ?_
 intro a20 hS
 refine Z5 (j3) rfl rfl (Z5 (vI e0.2.2) rfl rfl (Z0 (Z3 (Z3 ?_))))
 refine Za3 (fun f w => ∃ (e5 : Bool) (H1 : FH), P7 K a4 e5 = some r ∧ Sub H H1 ∧ St H1 w ([(v7, cA ([h6] ++ [h7]) 29)] ++ ([(k1, cA ([g0] ++ [g1]) 29)] ++ ([(l9, cA ([g6] ++ [g7]) 29)] ++ ([(k4, cA ([c8] ++ [c9]) 29)] ++ ([(b1, cA ([s0] ++ [s1]) 25)] ++ L))))) ∧ Y2 (Y8 .i64) H1 h6 e0.1.1 ∧ Y2 (W0 yT) H1 h7 e0.1.2 ∧ Y2 (Y8 .i64) H1 e2 (mkI (1 + G3 a4.1) a4.2.1.length) ∧ Y2 (Y8 .i64) H1 g0 ((mkA a4.1 1).1) ∧ Y2 (W0 yT) H1 g1 ((mkA a4.1 1).2) ∧ Y2 (Y8 .i64) H1 s0 a0.1 ∧ Y2 (W0 yT) H1 s1 a0.2 ∧ Y2 (Y8 .i64) H1 c8 r9.1.1 ∧ Y2 (W0 yT) H1 c9 r9.1.2 ∧ ev f (.tmp 8) = vP k1 ∧ ev f (.tmp 9) = e2 ∧ ev f (.tmp 12) = vI ((1 + G3 a4.1) + (a4.2.1.length : Int)) ∧ ev f (.tmp 119) = Value.bool e5 ∧ Sub H9.noM H1 ∧ Sub l2 H1 ∧ Sub n1 H1 ∧ Sub (n8.new l2) H1) ?_ ?_
 rintro fj3 y9 ⟨e5, z0, b7, Z2, hS, d3, d4, b2, a9, b0, a6, a7, a1, a3, r0, r1, o2, k3, sB, c2, d5, c1⟩
 unfold P7 at b7
 by_cases j4 : e5 = true
 rw [if_pos j4] at b7
 refine Y0 (Eq.trans (by exact k3) (congrArg Value.bool j4)) (Z3 (Z1 (Z5 (Value.bool false) rfl rfl (Z0 ?_))))
 refine Y9 (vs := [Value.bool false]) Tryz.func11 ⟨rfl, trivial⟩ ?_
 have hz := Option.some.inj b7
 subst hz
 exact ⟨_, _, rfl, Z2, (St.dropA (St.dropA (St.dropA (St.dropA (St.dropA hS))))), rfl⟩
 rw [if_neg j4] at b7
 refine Z9 (Eq.trans (by exact k3) (congrArg Value.bool (W2 j4))) (Y6 (Z3 (Z1 (Z5 (vI 1) rfl rfl (Z0 (Z3 (Z1 ?_)))))))
 refine W1 Q9 (by exact r0) (hS.get (mR mL)) rfl rfl (Z4 (vI 1) rfl rfl ?_)
 obtain ⟨g8, t1, b7⟩ := bind_some b7
 refine X0 Tryz.call21 (T0 rfl rfl) rfl (Zr7 t1 a9 b0 hS) ?_
 rintro a21 a22 ⟨_, a23, rfl, h8, hS, rfl⟩
 refine ⟨_, rfl, ?_⟩
 have Z2 := Z2.trans h8
 have b2 := b2.mono h8
 have sB := sB.trans h8
 have c2 := c2.trans h8
 have d5 := d5.trans h8
 have c1 := c1.trans h8
 refine Z5 (vI g8) rfl rfl (Z0 (Z3 (Z3 (Z1 (Z4 (vI g8) rfl rfl ?_)))))
 refine U2 (k := .i64) (a := g8) (b := 0) rfl rfl rfl (Z0 ?_)
 by_cases j5 : g8 < 0
 rw [if_pos j5] at b7
 refine Y0 (bT j5 rfl) (Z3 (Z1 (Z5 (Value.bool false) rfl rfl (Z0 ?_))))
 refine Y9 (vs := [Value.bool false]) Tryz.func11 ⟨rfl, trivial⟩ ?_
 have hz := Option.some.inj b7
 subst hz
 exact ⟨_, _, rfl, Z2, (St.dropA (St.dropA (St.dropA (St.dropA (St.dropA hS))))), rfl⟩
 rw [if_neg j5] at b7
 refine Z9 (bF j5 rfl) (Y6 (Z3 (Z1 (Z4 (e2) (by exact r1) rfl (Z4 (vI g8) rfl rfl ?_)))))
 obtain ⟨g2, t4, b7⟩ := bind_some b7
 refine X0 Tryz.call26 (T0 rfl rfl) rfl (Zm4 t4 b2 hS) ?_
 rintro a24 a25 ⟨_, a26, rfl, i1, hS, rfl⟩
 refine ⟨_, rfl, ?_⟩
 have Z2 := Z2.trans i1
 have sB := sB.trans i1
 have c2 := c2.trans i1
 have d5 := d5.trans i1
 have c1 := c1.trans i1
 refine Z5 (vI g2) rfl rfl (Z0 (Z3 (Z3 (Z1 (Z4 (vI g2) rfl rfl ?_)))))
 refine U2 (k := .i64) (a := g2) (b := 0) rfl rfl rfl (Z0 ?_)
 by_cases j6 : g2 < 0
 rw [if_pos j6] at b7
 refine Y0 (bT j6 rfl) (Z3 (Z1 (Z5 (Value.bool false) rfl rfl (Z0 ?_))))
 refine Y9 (vs := [Value.bool false]) Tryz.func11 ⟨rfl, trivial⟩ ?_
 have hz := Option.some.inj b7
 subst hz
 exact ⟨_, _, rfl, Z2, (St.dropA (St.dropA (St.dropA (St.dropA (St.dropA hS))))), rfl⟩
 rw [if_neg j6] at b7
 refine Z9 (bF j6 rfl) (Y6 (Z3 (Z3 (Z1 (Z4 (vI g2) rfl rfl (Z4 (vI ((1 + G3 a4.1) + (a4.2.1.length : Int))) (by exact o2) rfl ?_))))))
 refine K9 (k := .i64) (a := g2) (b := ((1 + G3 a4.1) + (a4.2.1.length : Int))) rfl rfl rfl (Z0 ?_)
 by_cases j7 : g2 = ((1 + G3 a4.1) + (a4.2.1.length : Int))
 rw [if_pos j7] at b7
 refine Z9 (bN j7 rfl) (Y6 (Z3 (Z1 (Z5 (Value.bool true) rfl rfl (Z0 ?_)))))
 refine Y9 (vs := [Value.bool true]) Tryz.func11 ⟨rfl, trivial⟩ ?_
 have hz := Option.some.inj b7
 subst hz
 exact ⟨_, _, rfl, Z2, (St.dropA (St.dropA (St.dropA (St.dropA (St.dropA hS))))), rfl⟩
 rw [if_neg j7] at b7
 refine Y0 (bO j7 rfl) (Z3 (Z1 (Z5 (Value.bool false) rfl rfl (Z0 ?_))))
 refine Y9 (vs := [Value.bool false]) Tryz.func11 ⟨rfl, trivial⟩ ?_
 have hz := Option.some.inj b7
 subst hz
 exact ⟨_, _, rfl, Z2, (St.dropA (St.dropA (St.dropA (St.dropA (St.dropA hS))))), rfl⟩
 intro r2
 refine Z1 ?_
 refine W1 Q9 rfl (hS.get mL) rfl rfl ?_
 refine W1 Q9 (by exact q4) (hS.get (mR (mR (mR mL)))) rfl rfl ?_
 obtain ⟨j8, t5, a8⟩ := bind_some a8
 refine X0 Tryz.call19 (T0 rfl rfl) rfl (Zi0 t5 d3 d4 a1 a3 hS) ?_
 rintro a27 a28 ⟨_, v8, rfl, b9, hS, rfl⟩
 refine ⟨_, rfl, ?_⟩
 have Z2 := Z2.trans b9
 have a5 := a5.mono b9
 have b2 := b2.mono b9
 have l5 := l5.mono b9
 have d3 := d3.mono b9
 have d4 := d4.mono b9
 have a1 := a1.mono b9
 have a3 := a3.mono b9
 have a9 := a9.mono b9
 have b0 := b0.mono b9
 have a6 := a6.mono b9
 have a7 := a7.mono b9
 have sB := sB.trans b9
 have c2 := c2.trans b9
 have d5 := d5.trans b9
 have c1 := c1.trans b9
 refine M1 (b := j8) rfl rfl (Z4 (Value.bool (!j8)) rfl rfl ?_)
 by_cases d6 : j8 = true
 rw [if_pos d6] at a8
 refine Y1 rfl rfl (Eq.trans rfl (congrArg (fun b => Value.bool (!b)) d6)) (Z4 (j3) rfl rfl ?_)
 refine Y1 rfl rfl (Eq.trans rfl (congrArg (fun b => Value.bool (!b)) d6)) (Z4 (g4) (by exact q5) rfl ?_)
 obtain ⟨i2, t6, a8⟩ := bind_some a8
 refine Y1 rfl rfl (Eq.trans rfl (congrArg (fun b => Value.bool (!b)) d6)) ?_
 refine X0 Tryz.call24 (T0 rfl rfl) rfl (Zj2 t6 l5 a5 hS) ?_
 rintro a29 a30 ⟨_, r3, rfl, c5, hS, rfl⟩
 refine ⟨_, rfl, ?_⟩
 have Z2 := Z2.trans c5
 have b2 := b2.mono c5
 have d3 := d3.mono c5
 have d4 := d4.mono c5
 have a1 := a1.mono c5
 have a3 := a3.mono c5
 have a9 := a9.mono c5
 have b0 := b0.mono c5
 have a6 := a6.mono c5
 have a7 := a7.mono c5
 have sB := sB.trans c5
 have c2 := c2.trans c5
 have d5 := d5.trans c5
 have c1 := c1.trans c5
 refine Y1 rfl rfl (Eq.trans rfl (congrArg (fun b => Value.bool (!b)) d6)) (M1 (b := i2) rfl rfl ?_)
 refine V2 (t := false) (Value.bool (!i2)) (Eq.trans rfl (congrArg (fun b => Value.bool (!b)) d6)) ((if_neg Bool.false_ne_true).trans rfl) rfl (Z4 (Value.bool (!i2)) rfl rfl ?_)
 by_cases f2 : i2 = true
 rw [if_pos f2] at a8
 refine Y1 rfl rfl (Eq.trans rfl (congrArg (fun b => Value.bool (!b)) f2)) (Z4 (vI e0.2.2) rfl rfl ?_)
 refine Y1 rfl rfl (Eq.trans rfl (congrArg (fun b => Value.bool (!b)) f2)) (Z4 (vI r9.2.2) (by exact q6) rfl ?_)
 refine Y1 rfl rfl (Eq.trans rfl (congrArg (fun b => Value.bool (!b)) f2)) ?_
 refine K9 (k := .i64) (a := e0.2.2) (b := r9.2.2) rfl rfl rfl ?_
 refine V2 (t := false) (Value.bool (!decide (e0.2.2 = r9.2.2))) (Eq.trans rfl (congrArg (fun b => Value.bool (!b)) f2)) ((if_neg Bool.false_ne_true).trans rfl) rfl (Z0 ?_)
 exact r2 _ _ ⟨(!decide (e0.2.2 = r9.2.2)), r3, a8, Z2, hS, d3, d4, b2, a9, b0, a6, a7, a1, a3, h2, h3, rfl, rfl, sB, c2, d5, c1⟩
 rw [if_neg f2] at a8
 refine Z8 rfl rfl (Eq.trans rfl (congrArg (fun b => Value.bool (!b)) (W2 f2))) rfl rfl rfl (Z8 rfl rfl (Eq.trans rfl (congrArg (fun b => Value.bool (!b)) (W2 f2))) rfl rfl rfl (Z8 rfl rfl (Eq.trans rfl (congrArg (fun b => Value.bool (!b)) (W2 f2))) rfl rfl rfl ?_))
 refine V2 (t := true) (Value.bool true) (Eq.trans rfl (congrArg (fun b => Value.bool (!b)) (W2 f2))) ((if_pos rfl).trans rfl) rfl (Z0 ?_)
 exact r2 _ _ ⟨true, r3, a8, Z2, hS, d3, d4, b2, a9, b0, a6, a7, a1, a3, h2, h3, rfl, rfl, sB, c2, d5, c1⟩
 rw [if_neg d6] at a8
 refine Z8 rfl rfl (Eq.trans rfl (congrArg (fun b => Value.bool (!b)) (W2 d6))) rfl rfl rfl (Z8 rfl rfl (Eq.trans rfl (congrArg (fun b => Value.bool (!b)) (W2 d6))) rfl rfl rfl (Z8 rfl rfl (Eq.trans rfl (congrArg (fun b => Value.bool (!b)) (W2 d6))) rfl rfl rfl (Z8 rfl rfl (Eq.trans rfl (congrArg (fun b => Value.bool (!b)) (W2 d6))) rfl rfl rfl ?_)))
 refine V2 (t := true) (Value.bool true) (Eq.trans rfl (congrArg (fun b => Value.bool (!b)) (W2 d6))) ((if_pos rfl).trans rfl) rfl (Z4 (Value.bool true) rfl rfl (Z8 rfl rfl rfl rfl rfl rfl (Z8 rfl rfl rfl rfl rfl rfl (Z8 rfl rfl rfl rfl rfl rfl ?_))))
 refine V2 (t := true) (Value.bool true) rfl ((if_pos rfl).trans rfl) rfl (Z0 ?_)
 exact r2 _ _ ⟨true, v8, a8, Z2, hS, d3, d4, b2, a9, b0, a6, a7, a1, a3, h2, h3, rfl, rfl, sB, c2, d5, c1⟩
 rw [if_neg j2] at a8
 refine Y0 (bO j2 rfl) (Z3 (Z1 (Z5 (Value.bool false) rfl rfl (Z0 ?_))))
 refine Y9 (vs := [Value.bool false]) Tryz.func11 ⟨rfl, trivial⟩ ?_
 have hz := Option.some.inj a8
 subst hz
 exact ⟨_, _, rfl, Z2, (St.dropA (St.dropA (St.dropA (St.dropA hS)))), rfl⟩
 intro n9
 refine Z1 (Z4 (vI (1 + G3 d2)) rfl rfl ?_)
 refine U2 (k := .i64) (a := (1 + G3 d2)) (b := 0) rfl rfl rfl (Z4 (Value.bool (decide ((1 + G3 d2) < 0))) rfl rfl ?_)
 by_cases d7 : (1 + G3 d2) < 0
 rw [if_pos d7] at c0
 refine Z8 rfl rfl (bT d7 rfl) rfl rfl rfl (Z8 rfl rfl (bT d7 rfl) rfl rfl rfl (Z8 rfl rfl (bT d7 rfl) rfl rfl rfl (Z8 rfl rfl (bT d7 rfl) rfl rfl rfl ?_)))
 refine V2 (t := true) (Value.bool true) (bT d7 rfl) ((if_pos rfl).trans rfl) rfl (Z4 (Value.bool true) rfl rfl (Z8 rfl rfl rfl rfl rfl rfl (Z8 rfl rfl rfl rfl rfl rfl (Z8 rfl rfl rfl rfl rfl rfl (Z8 rfl rfl rfl rfl rfl rfl ?_)))))
 refine V2 (t := true) (Value.bool true) rfl ((if_pos rfl).trans rfl) rfl (Z4 (Value.bool true) rfl rfl (Z8 rfl rfl rfl rfl rfl rfl (Z8 rfl rfl rfl rfl rfl rfl (Z8 rfl rfl rfl rfl rfl rfl ?_))))
 refine V2 (t := true) (Value.bool true) rfl ((if_pos rfl).trans rfl) rfl (Z0 ?_)
 exact n9 _ _ ⟨true, q2, c0, Z2, hS, b4, b5, b8, f5, f6, a6, a7, a1, a3, a5, n6, m2, m3, m4, m5, m6, rfl, sB, b6, b3⟩
 rw [if_neg d7] at c0
 refine Y1 rfl rfl (bF d7 rfl) ?_
 refine W1 Q9 (by exact m5) (hS.get mL) rfl rfl ?_
 refine Y1 rfl rfl (bF d7 rfl) ?_
 refine W1 Q9 (by exact m2) (hS.get (mR (mR mL))) rfl rfl ?_
 obtain ⟨i3, t7, c0⟩ := bind_some c0
 refine Y1 rfl rfl (bF d7 rfl) ?_
 refine X0 Tryz.call19 (T0 rfl rfl) rfl (Zi0 t7 b4 b5 a1 a3 hS) ?_
 rintro a31 a32 ⟨_, v9, rfl, c6, hS, rfl⟩
 refine ⟨_, rfl, ?_⟩
 have Z2 := Z2.trans c6
 have a5 := a5.mono c6
 have b8 := b8.mono c6
 have b4 := b4.mono c6
 have b5 := b5.mono c6
 have a1 := a1.mono c6
 have a3 := a3.mono c6
 have f5 := f5.mono c6
 have f6 := f6.mono c6
 have a6 := a6.mono c6
 have a7 := a7.mono c6
 have sB := sB.trans c6
 have b6 := b6.trans c6
 have b3 := b3.trans c6
 refine Y1 rfl rfl (bF d7 rfl) (M1 (b := i3) rfl rfl ?_)
 refine V2 (t := false) (Value.bool (!i3)) (bF d7 rfl) ((if_neg Bool.false_ne_true).trans rfl) rfl (Z4 (Value.bool (!i3)) rfl rfl ?_)
 by_cases d8 : i3 = true
 rw [if_pos d8] at c0
 refine Y1 rfl rfl (Eq.trans rfl (congrArg (fun b => Value.bool (!b)) d8)) (Z4 (e2) (by exact m6) rfl ?_)
 refine Y1 rfl rfl (Eq.trans rfl (congrArg (fun b => Value.bool (!b)) d8)) (Z4 (g4) (by exact m3) rfl ?_)
 obtain ⟨i4, t8, c0⟩ := bind_some c0
 refine Y1 rfl rfl (Eq.trans rfl (congrArg (fun b => Value.bool (!b)) d8)) ?_
 refine X0 Tryz.call24 (T0 rfl rfl) rfl (Zj2 t8 b8 a5 hS) ?_
 rintro a33 a34 ⟨_, r5, rfl, c7, hS, rfl⟩
 refine ⟨_, rfl, ?_⟩
 have Z2 := Z2.trans c7
 have a5 := a5.mono c7
 have b8 := b8.mono c7
 have b4 := b4.mono c7
 have b5 := b5.mono c7
 have a1 := a1.mono c7
 have a3 := a3.mono c7
 have f5 := f5.mono c7
 have f6 := f6.mono c7
 have a6 := a6.mono c7
 have a7 := a7.mono c7
 have sB := sB.trans c7
 have b6 := b6.trans c7
 have b3 := b3.trans c7
 refine Y1 rfl rfl (Eq.trans rfl (congrArg (fun b => Value.bool (!b)) d8)) (M1 (b := i4) rfl rfl ?_)
 refine V2 (t := false) (Value.bool (!i4)) (Eq.trans rfl (congrArg (fun b => Value.bool (!b)) d8)) ((if_neg Bool.false_ne_true).trans rfl) rfl (Z4 (Value.bool (!i4)) rfl rfl ?_)
 by_cases f3 : i4 = true
 rw [if_pos f3] at c0
 refine Y1 rfl rfl (Eq.trans rfl (congrArg (fun b => Value.bool (!b)) f3)) (Z4 (vI a4.2.2) (by exact (evT (h1 10 rfl) o1)) rfl ?_)
 refine Y1 rfl rfl (Eq.trans rfl (congrArg (fun b => Value.bool (!b)) f3)) (Z4 (vI r9.2.2) (by exact m4) rfl ?_)
 refine Y1 rfl rfl (Eq.trans rfl (congrArg (fun b => Value.bool (!b)) f3)) ?_
 refine K9 (k := .i64) (a := a4.2.2) (b := r9.2.2) rfl rfl rfl ?_
 refine V2 (t := false) (Value.bool (!decide (a4.2.2 = r9.2.2))) (Eq.trans rfl (congrArg (fun b => Value.bool (!b)) f3)) ((if_neg Bool.false_ne_true).trans rfl) rfl (Z0 ?_)
 exact n9 _ _ ⟨(!decide (a4.2.2 = r9.2.2)), r5, c0, Z2, hS, b4, b5, b8, f5, f6, a6, a7, a1, a3, a5, n6, m2, m3, m4, m5, m6, rfl, sB, b6, b3⟩
 rw [if_neg f3] at c0
 refine Z8 rfl rfl (Eq.trans rfl (congrArg (fun b => Value.bool (!b)) (W2 f3))) rfl rfl rfl (Z8 rfl rfl (Eq.trans rfl (congrArg (fun b => Value.bool (!b)) (W2 f3))) rfl rfl rfl (Z8 rfl rfl (Eq.trans rfl (congrArg (fun b => Value.bool (!b)) (W2 f3))) rfl rfl rfl ?_))
 refine V2 (t := true) (Value.bool true) (Eq.trans rfl (congrArg (fun b => Value.bool (!b)) (W2 f3))) ((if_pos rfl).trans rfl) rfl (Z0 ?_)
 exact n9 _ _ ⟨true, r5, c0, Z2, hS, b4, b5, b8, f5, f6, a6, a7, a1, a3, a5, n6, m2, m3, m4, m5, m6, rfl, sB, b6, b3⟩
 rw [if_neg d8] at c0
 refine Z8 rfl rfl (Eq.trans rfl (congrArg (fun b => Value.bool (!b)) (W2 d8))) rfl rfl rfl (Z8 rfl rfl (Eq.trans rfl (congrArg (fun b => Value.bool (!b)) (W2 d8))) rfl rfl rfl (Z8 rfl rfl (Eq.trans rfl (congrArg (fun b => Value.bool (!b)) (W2 d8))) rfl rfl rfl (Z8 rfl rfl (Eq.trans rfl (congrArg (fun b => Value.bool (!b)) (W2 d8))) rfl rfl rfl ?_)))
 refine V2 (t := true) (Value.bool true) (Eq.trans rfl (congrArg (fun b => Value.bool (!b)) (W2 d8))) ((if_pos rfl).trans rfl) rfl (Z4 (Value.bool true) rfl rfl (Z8 rfl rfl rfl rfl rfl rfl (Z8 rfl rfl rfl rfl rfl rfl (Z8 rfl rfl rfl rfl rfl rfl ?_))))
 refine V2 (t := true) (Value.bool true) rfl ((if_pos rfl).trans rfl) rfl (Z0 ?_)
 exact n9 _ _ ⟨true, v9, c0, Z2, hS, b4, b5, b8, f5, f6, a6, a7, a1, a3, a5, n6, m2, m3, m4, m5, m6, rfl, sB, b6, b3⟩
 rw [if_neg l0] at c0
 refine Y0 (Eq.trans (by exact u1) (congrArg (fun b => Value.bool (!b)) (W2 l0))) (Z3 (Z1 (Z5 (Value.bool false) rfl rfl (Z0 ?_))))
 refine Y9 (vs := [Value.bool false]) Tryz.func11 ⟨rfl, trivial⟩ ?_
 have hz := Option.some.inj c0
 subst hz
 exact ⟨_, _, rfl, Z2, (St.dropA (St.dropA (St.dropA (St.dropA hS)))), rfl⟩
 intro r6
 refine Z1 ?_
 refine W1 Q9 rfl (hS.get mL) rfl rfl ?_
 refine W1 Q9 rfl (hS.get (mR (mR mL))) rfl rfl ?_
 obtain ⟨k0, t9, q0⟩ := bind_some q0
 refine X0 Tryz.call19 (T0 rfl rfl) rfl (Zi0 t9 b4 b5 a1 a3 hS) ?_
 rintro a35 a36 ⟨_, w0, rfl, c3, hS, rfl⟩
 refine ⟨_, rfl, ?_⟩
 have Z2 := Z2.trans c3
 have a5 := a5.mono c3
 have b8 := b8.mono c3
 have b4 := b4.mono c3
 have b5 := b5.mono c3
 have a1 := a1.mono c3
 have a3 := a3.mono c3
 have a6 := a6.mono c3
 have a7 := a7.mono c3
 have d0 := d0.mono c3
 have d1 := d1.mono c3
 have sB := sB.trans c3
 have e1 := e1.trans c3
 have b6 := b6.trans c3
 have b3 := b3.trans c3
 refine M1 (b := k0) rfl rfl (Z4 (Value.bool (!k0)) rfl rfl ?_)
 by_cases d9 : k0 = true
 rw [if_pos d9] at q0
 refine Y1 rfl rfl (Eq.trans rfl (congrArg (fun b => Value.bool (!b)) d9)) (Z4 (e2) rfl rfl ?_)
 refine Y1 rfl rfl (Eq.trans rfl (congrArg (fun b => Value.bool (!b)) d9)) (Z4 (g4) rfl rfl ?_)
 obtain ⟨i5, u0, q0⟩ := bind_some q0
 refine Y1 rfl rfl (Eq.trans rfl (congrArg (fun b => Value.bool (!b)) d9)) ?_
 refine X0 Tryz.call24 (T0 rfl rfl) rfl (Zj2 u0 b8 a5 hS) ?_
 rintro a37 a38 ⟨_, r8, rfl, c4, hS, rfl⟩
 refine ⟨_, rfl, ?_⟩
 have Z2 := Z2.trans c4
 have a5 := a5.mono c4
 have b8 := b8.mono c4
 have b4 := b4.mono c4
 have b5 := b5.mono c4
 have a1 := a1.mono c4
 have a3 := a3.mono c4
 have a6 := a6.mono c4
 have a7 := a7.mono c4
 have d0 := d0.mono c4
 have d1 := d1.mono c4
 have sB := sB.trans c4
 have e1 := e1.trans c4
 have b6 := b6.trans c4
 have b3 := b3.trans c4
 refine Y1 rfl rfl (Eq.trans rfl (congrArg (fun b => Value.bool (!b)) d9)) (M1 (b := i5) rfl rfl ?_)
 refine V2 (t := false) (Value.bool (!i5)) (Eq.trans rfl (congrArg (fun b => Value.bool (!b)) d9)) ((if_neg Bool.false_ne_true).trans rfl) rfl (Z4 (Value.bool (!i5)) rfl rfl ?_)
 by_cases f4 : i5 = true
 rw [if_pos f4] at q0
 refine Y1 rfl rfl (Eq.trans rfl (congrArg (fun b => Value.bool (!b)) f4)) (Z4 (vI a4.2.2) rfl rfl ?_)
 refine Y1 rfl rfl (Eq.trans rfl (congrArg (fun b => Value.bool (!b)) f4)) (Z4 (vI r9.2.2) rfl rfl ?_)
 refine Y1 rfl rfl (Eq.trans rfl (congrArg (fun b => Value.bool (!b)) f4)) ?_
 refine K9 (k := .i64) (a := a4.2.2) (b := r9.2.2) rfl rfl rfl ?_
 refine V2 (t := false) (Value.bool (!decide (a4.2.2 = r9.2.2))) (Eq.trans rfl (congrArg (fun b => Value.bool (!b)) f4)) ((if_neg Bool.false_ne_true).trans rfl) rfl (Z0 ?_)
 exact r6 _ _ ⟨(!decide (a4.2.2 = r9.2.2)), r8, q0, Z2, hS, d0, b4, d1, b5, b8, a6, a7, a1, a3, a5, rfl, rfl, rfl, rfl, rfl, rfl, rfl, rfl, rfl, sB, e1, b6, b3⟩
 rw [if_neg f4] at q0
 refine Z8 rfl rfl (Eq.trans rfl (congrArg (fun b => Value.bool (!b)) (W2 f4))) rfl rfl rfl (Z8 rfl rfl (Eq.trans rfl (congrArg (fun b => Value.bool (!b)) (W2 f4))) rfl rfl rfl (Z8 rfl rfl (Eq.trans rfl (congrArg (fun b => Value.bool (!b)) (W2 f4))) rfl rfl rfl ?_))
 refine V2 (t := true) (Value.bool true) (Eq.trans rfl (congrArg (fun b => Value.bool (!b)) (W2 f4))) ((if_pos rfl).trans rfl) rfl (Z0 ?_)
 exact r6 _ _ ⟨true, r8, q0, Z2, hS, d0, b4, d1, b5, b8, a6, a7, a1, a3, a5, rfl, rfl, rfl, rfl, rfl, rfl, rfl, rfl, rfl, sB, e1, b6, b3⟩
 rw [if_neg d9] at q0
 refine Z8 rfl rfl (Eq.trans rfl (congrArg (fun b => Value.bool (!b)) (W2 d9))) rfl rfl rfl (Z8 rfl rfl (Eq.trans rfl (congrArg (fun b => Value.bool (!b)) (W2 d9))) rfl rfl rfl (Z8 rfl rfl (Eq.trans rfl (congrArg (fun b => Value.bool (!b)) (W2 d9))) rfl rfl rfl (Z8 rfl rfl (Eq.trans rfl (congrArg (fun b => Value.bool (!b)) (W2 d9))) rfl rfl rfl ?_)))
 refine V2 (t := true) (Value.bool true) (Eq.trans rfl (congrArg (fun b => Value.bool (!b)) (W2 d9))) ((if_pos rfl).trans rfl) rfl (Z4 (Value.bool true) rfl rfl (Z8 rfl rfl rfl rfl rfl rfl (Z8 rfl rfl rfl rfl rfl rfl (Z8 rfl rfl rfl rfl rfl rfl ?_))))
 refine V2 (t := true) (Value.bool true) rfl ((if_pos rfl).trans rfl) rfl (Z0 ?_)
 exact r6 _ _ ⟨true, w0, q0, Z2, hS, d0, b4, d1, b5, b8, a6, a7, a1, a3, a5, rfl, rfl, rfl, rfl, rfl, rfl, rfl, rfl, rfl, sB, e1, b6, b3⟩
end Go.Proofs.YtfodlhkoafhplaaGreat
