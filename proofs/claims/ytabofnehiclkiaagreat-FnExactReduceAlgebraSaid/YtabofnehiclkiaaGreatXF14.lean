/- Walks of functions: each computes its pure function, if that gives a value. -/
import Derived.Test.YtabofnehiclkiaaGreatXTy
import Derived.Test.YtabofnehiclkiaaGreatXF5
import Derived.Test.YtabofnehiclkiaaGreatXF10
import Derived.Test.YtabofnehiclkiaaGreatXF7
import Derived.Test.YtabofnehiclkiaaGreatXF12
import Derived.Test.YtabofnehiclkiaaGreatXF1
import Derived.Test.YtabofnehiclkiaaGreatXF3
namespace Go.Proofs.YtabofnehiclkiaaGreat
open Go
set_option linter.unusedSimpArgs false
set_option linter.unusedVariables false
set_option maxRecDepth 100000
set_option maxHeartbeats 8000000
variable {K : Nat} {H : FH} {w : World} {L : OL} {s0 s1 s2 s3 s4 s5 s6 : Value}
def E3 (K : Nat) (a0 : (List Int)) (a1 : (List MpT)) (a2 : MpT) (a4 : Int) : Nat → Int → MpT → Option (Ex MpT (MpT))
 | 0, _, _ => none
 | k + 1, a3, a7 => (if a3 < (a1.length : Int) then (if a3 < 8 then (if 0 < (Y5 ((rd a2 a4).1) a3) then ((Zs2 K a0 (rd a1 a3) (Y5 ((rd a2 a4).1) a3)).bind fun f5 => ((A0 K a0 a7 f5).bind fun e8 => E3 K a0 a1 a2 a4 k (a3 + 1) e8)) else E3 K a0 a1 a2 a4 k (a3 + 1) a7) else none) else some (.go a7))
def Za3 (K : Nat) (a0 : (List Int)) (a1 : (List MpT)) (a2 : MpT) : Nat → Int → MpT → Option (Ex MpT (MpT))
 | 0, _, _ => none
 | k + 1, a4, a9 => (if a4 < (a2.length : Int) then ((F0 K (fun _ => 0) ((rd a2 a4).2)).bind fun h5 => ((E3 K a0 a1 a2 a4 K 0 h5).bind (Ex.elim (fun r => some (.ret r)) (fun s => (fun (b8 : MpT) => ((Zf6 K a9 b8 1).bind fun f6 => Za3 K a0 a1 a2 k (a4 + 1) f6)) s)))) else some (.go a9))
def Zj8 (K : Nat) (a0 : (List Int)) (a1 : (List MpT)) (a2 : MpT) : Option MpT := ((Za3 K a0 a1 a2 K 0 ([] : List (A8 × Int))).bind (Ex.elim (fun r => some r) (fun s => (fun (c2 : MpT) => some c2) s)))
theorem Zz2 {a0 : (List Int)} {a1 : (List MpT)} {a2 : MpT} {r : MpT} (q0 : Zj8 K a0 a1 a2 = some r) (b5 : Z9 (Y6 .i64) H s0 a0) (b9 : Z9 (Y9 yT) H s1 a1) (b3 : Z9 yT H s2 a2) (hS : St H w L) :
 Calls Tryz.prog 181 #[s0, s1, vA ([s2])] w (T2 (fun v G => (R.agg (Y9 yT)).p G v r) H L) := by
 have Z3 := Sub.refl H
 refine X3 Tryz.func181 rfl Tryz.ntmps181 rfl ?_
 unfold Zj8 at q0
 refine Z2 (Z0 ?_)
 refine S3 (v := vA ([s2])) ([s2]).toArray rfl rfl hS rfl ?_
 intro b1 _ hS
 refine W6 (z := vA ([vN])) ([vN]).toArray I0.zero rfl hS rfl ?_
 intro b4 _ hS
 refine Z1 (Z2 (Z0 ?_))
 refine R6 (vA ([vN])) Yf8 rfl ?_
 refine W6 (z := vA ([vN])) ([vN]).toArray I0.zero rfl hS rfl ?_
 intro b7 _ hS
 refine X5 (v := vA ([vN])) (vs := ([vN]).toArray) (cs := ([vN]).toArray) U2 rfl rfl rfl hS rfl (U0 rfl) rfl ?_
 intro _ hS
 refine Z1 (Z2 (Z2 (Z0 (Z5 (vI 0) rfl rfl (Z1 (Y7 ?_))))))
 have h6 : Z9 yT H (.slice none 0 0) ([] : List (A8 × Int)) := Z9.nil
 obtain ⟨h7, c0, h8⟩ := bind_some q0
 refine W1 (id := 0) (fun k f w => ∃ (a4 : Int) (a9 : MpT) (H1 : FH) (a6 : Value), Za3 K a0 a1 a2 k a4 a9 = some h7 ∧ Sub H H1 ∧ St H1 w ([(b7, cA ([a6]) 45)] ++ ([(b4, cA ([vN]) 45)] ++ ([(b1, cA ([s2]) 45)] ++ L))) ∧ 0 ≤ a4 ∧ Z9 yT H1 a6 a9 ∧ Z9 (Y6 .i64) H1 s0 a0 ∧ Z9 (Y9 yT) H1 s1 a1 ∧ Z9 yT H1 s2 a2 ∧ tv f 0 = s0 ∧ tv f 1 = s1 ∧ tv f 5 = vP b1 ∧ tv f 6 = vP b4 ∧ tv f 7 = vP b7 ∧ tv f 8 = vI a4) (fun f w => ∃ (c2 : MpT) (H1 : FH) (b2 : Value), h7 = .go c2 ∧ Sub H H1 ∧ St H1 w ([(b7, cA ([b2]) 45)] ++ ([(b4, cA ([vN]) 45)] ++ ([(b1, cA ([s2]) 45)] ++ L))) ∧ Z9 yT H1 b2 c2 ∧ Z9 yT H1 s2 a2 ∧ tv f 6 = vP b4 ∧ tv f 7 = vP b7) rfl ?_ ?_ K ?_ ?_
 rintro f w ⟨a4, a9, H1, a6, c0, _⟩
 rw [Za3] at c0; cases c0
 rintro k _ _ l0 l1 ⟨a4, a9, j5, a6, c0, Z3, hS, _, a5, b5, b9, b3, g5, g6, d3, e4, e5, d4⟩
 rw [Za3] at c0
 refine Z2 (Z2 (Z0 (Z4 (vI a4) (by exact d4) rfl (Y2 V9 (by exact d3) rfl ?_))))
 refine Y3 (s2) Q4 rfl (hS.get (mR (mR mL))) rfl rfl ?_
 have l6 := b3.bound
 refine W7 R7 rfl b3 rfl ?_
 refine V5 (k := .i64) (a := a4) (b := (a2.length : Int)) rfl rfl rfl (Z1 ?_)
 obtain ⟨f7, c0⟩ | ⟨f7, c0⟩ := ic c0
 refine Y0 (bT f7 rfl) (Y8 (Z2 (Y7 (Z2 (Z0 ?_)))))
 refine R6 (vA (Z7 .u8 (fun _ => 0))) Yx8 rfl (Y2 V9 (by exact d3) rfl ?_)
 refine Y3 (s2) Q4 rfl (hS.get (mR (mR mL))) rfl rfl (Z4 (vI a4) (by exact d4) rfl ?_)
 obtain ⟨_, _, _, _, _, j6, j7, ⟨_, _, rfl, rfl, rfl⟩, j8⟩ := b3.elem (i := a4) (by omega) (by omega)
 refine X9 R7 rfl rfl j6 rfl (by omega) (by omega) rfl (Y2 Ze2 rfl rfl ?_)
 refine Y3 (vI ((rd a2 a4).2)) ty2 rfl (hS.froz _ _ j7) (j8 8 (show 8 < 9 by decide)) rfl ?_
 obtain ⟨h5, j9, c0⟩ := bind_some c0
 refine X6 Tryz.call208 (U9 rfl rfl) rfl (Zl2 j9  hS) ?_
 rintro _ l2 _ d9 hS ⟨_, rfl, ⟨e9, rfl, f3⟩⟩
 have Z3 := Z3.trans d9
 have b5 := b5.mono d9
 have b9 := b9.mono d9
 have b3 := b3.mono d9
 have a5 := a5.mono d9
 refine W6 (z := vA ([vN])) ([vN]).toArray I0.zero rfl hS rfl ?_
 intro f4 _ hS
 refine X5 (v := vA ([e9])) (vs := ([e9]).toArray) (cs := ([vN]).toArray) U2 rfl rfl rfl hS rfl (U0 f3.isOne) rfl ?_
 intro _ hS
 refine Z1 (Z2 (Z2 (Z0 (Z5 (vI 0) rfl rfl (Z1 (Y7 ?_))))))
 obtain ⟨h9, b0, f0⟩ := bind_some c0
 refine W1 (id := 2) (fun k f w => ∃ (a3 : Int) (a7 : MpT) (H1 : FH) (a8 : Value), E3 K a0 a1 a2 a4 k a3 a7 = some h9 ∧ Sub H H1 ∧ St H1 w ([(f4, cA ([a8]) 45)] ++ ([(b7, cA ([a6]) 45)] ++ ([(b4, cA ([vN]) 45)] ++ ([(b1, cA ([s2]) 45)] ++ L)))) ∧ 0 ≤ a3 ∧ Z9 yT H1 a8 a7 ∧ Z9 (Y6 .i64) H1 s0 a0 ∧ Z9 (Y9 yT) H1 s1 a1 ∧ Z9 yT H1 s2 a2 ∧ Z9 yT H1 a6 a9 ∧ tv f 0 = s0 ∧ tv f 1 = s1 ∧ tv f 5 = vP b1 ∧ tv f 6 = vP b4 ∧ tv f 7 = vP b7 ∧ tv f 8 = vI a4 ∧ tv f 9 = vP f4 ∧ tv f 10 = vI a3) (fun f w => ∃ (b8 : MpT) (H1 : FH) (c4 : Value), h9 = .go b8 ∧ Sub H H1 ∧ St H1 w ([(f4, cA ([c4]) 45)] ++ ([(b7, cA ([a6]) 45)] ++ ([(b4, cA ([vN]) 45)] ++ ([(b1, cA ([s2]) 45)] ++ L)))) ∧ Z9 yT H1 c4 b8 ∧ Z9 (Y6 .i64) H1 s0 a0 ∧ Z9 (Y9 yT) H1 s1 a1 ∧ Z9 yT H1 s2 a2 ∧ Z9 yT H1 a6 a9 ∧ tv f 0 = s0 ∧ tv f 1 = s1 ∧ tv f 5 = vP b1 ∧ tv f 6 = vP b4 ∧ tv f 7 = vP b7 ∧ tv f 8 = vI a4 ∧ tv f 9 = vP f4) rfl ?_ ?_ K ?_ ?_
 rintro f w ⟨a3, a7, H1, a8, b0, _⟩
 rw [E3] at b0; cases b0
 rintro k _ _ j4 l3 ⟨a3, a7, i0, a8, b0, Z3, hS, _, b6, b5, b9, b3, a5, c5, c6, c7, d5, d6, c8, c9, c1⟩
 rw [E3] at b0
 refine Z2 (Z2 (Z0 (Z4 (vI a3) (by exact c1) rfl (Z4 (s1) (by exact c6) rfl ?_))))
 have l7 := b9.bound
 refine W7 P6 rfl b9 rfl ?_
 refine V5 (k := .i64) (a := a3) (b := (a1.length : Int)) rfl rfl rfl (Z1 ?_)
 obtain ⟨f8, b0⟩ | ⟨f8, b0⟩ := ic b0
 refine Y0 (bT f8 rfl) (Y8 (Z2 (Y7 (Z2 (Z0 (Y2 V9 (by exact c7) rfl ?_))))))
 refine Y3 (s2) Q4 rfl (hS.get (mR (mR (mR mL)))) rfl rfl (Z4 (vI a4) (by exact c8) rfl (Z4 (vI a3) (by exact c1) rfl ?_))
 obtain ⟨_, _, _, _, _, k0, k1, ⟨_, _, rfl, rfl, rfl⟩, k2⟩ := b3.elem (i := a4) (by omega) (by omega)
 refine X9 R7 rfl rfl k0 rfl (by omega) (by omega) rfl (Y2 M1 rfl rfl ?_)
 obtain ⟨_, b0⟩ := gd b0
 refine V2 Zd9 rfl rfl (by omega) (by omega) rfl ?_
 refine Y3 (Value.int .u8 (Y5 ((rd a2 a4).1) a3)) ty5 rfl (hS.froz _ _ k1) (Xh0 ([]) (([vI ((rd a2 a4).2)])) k2 (nl rfl) (by omega) (by omega)) rfl ?_
 refine Zi5 (k := .u8) (a := (Y5 ((rd a2 a4).1) a3)) (b := 0) rfl rfl rfl (Z1 ?_)
 obtain ⟨f9, b0⟩ | ⟨f9, b0⟩ := ic b0
 refine Y0 (bT f9 rfl) ?_
 obtain ⟨l4, l5, _, _, _, k3, k4, ⟨g2, rfl, e0⟩, k5⟩ := b9.elem (i := a3) (by omega) (by omega)
 obtain ⟨g0, g1, _, _, _, i3, i4, ⟨_, _, rfl, rfl, rfl⟩, i5⟩ := b3.elem (i := a4) (by omega) (by omega)
 obtain ⟨f5, i6, b0⟩ := bind_some b0
 obtain ⟨e8, i7, b0⟩ := bind_some b0
 refine U1 17 (P0 [mE 42 (s0), mE 43 (vA ([a8])), mE 44 (s0), mE 45 (s1), mE 46 (vI a3), mE 47 (vQ l4 l5), mE 48 (vA ([g2])), mE 49 (vP b1), mE 50 (s2), mE 51 (vI a4), mE 52 (vI a3), mE 53 (vQ g0 g1), mE 54 (vQ g0 (g1 + 0)), mE 55 (vQ g0 (g1 + 0 + (a3).toNat * 1)), mE 56 (Value.int .u8 (Y5 ((rd a2 a4).1) a3)), (57, MP.rep (R.agg (Y9 yT)) (f5)), (58, MP.rep (R.agg (Y9 yT)) (e8))]) [] mixed rfl rfl rfl hS (Z6 rfl ?_ (Z6 rfl ?_ (Z6 rfl ?_ (Z6 rfl ?_ (Z6 rfl ?_ (Z6 rfl ?_ (Z6 rfl ?_ (Z6 rfl ?_ (Z6 rfl ?_ (Z6 rfl ?_ (Z6 rfl ?_ (Z6 rfl ?_ (Z6 rfl ?_ (Z6 rfl ?_ (Z6 rfl ?_ (Z6 rfl ?_ (Z6 rfl ?_ U7))))))))))))))))) ?_
 exact W5 fun S B => Z4 (s0) (evT (B 0 rfl) c5) rfl (qz S)
 exact W5 fun S B => X7 U2 (evT (B 9 rfl) c9) (S.get (mR mL)) rfl rfl (qz S)
 exact W5 fun S B => Z4 (s0) (evT (B 0 rfl) c5) rfl (qz S)
 exact W5 fun S B => Z4 (s1) (evT (B 1 rfl) c6) rfl (qz S)
 exact W5 fun S B => Z4 (vI a3) (evT (B 10 rfl) c1) rfl (qz S)
 exact X2 fun S V => X9 P6 rfl (eM (V 3 45 rfl rfl)) k3 (eM (V 4 46 rfl rfl)) (by omega) (by omega) rfl (qz S)
 exact E6 fun s S V => W9 ([g2]) U2 (eM (V 5 47 rfl rfl)) (S.froz _ _ (s.1 _ _ k4)) rfl k5 rfl (qz S)
 exact W5 fun S B => Y2 V9 (evT (B 5 rfl) c7) rfl (qz S)
 exact X2 fun S V => Y3 (s2) Q4 (eM (V 7 49 rfl rfl)) (S.get (mR (mR (mR (mR mL))))) rfl rfl (qz S)
 exact W5 fun S B => Z4 (vI a4) (evT (B 8 rfl) c8) rfl (qz S)
 exact W5 fun S B => Z4 (vI a3) (evT (B 10 rfl) c1) rfl (qz S)
 exact X2 fun S V => X9 R7 rfl (eM (V 8 50 rfl rfl)) i3 (eM (V 9 51 rfl rfl)) (by omega) (by omega) rfl (qz S)
 exact X2 fun S V => Y2 M1 (eM (V 11 53 rfl rfl)) rfl (qz S)
 exact X2 fun S V => V2 Zd9 (eM (V 12 54 rfl rfl)) (eM (V 10 52 rfl rfl)) (by omega) (by omega) rfl (qz S)
 exact E6 fun s S V => Y3 (Value.int .u8 (Y5 ((rd a2 a4).1) a3)) ty5 (eM (V 13 55 rfl rfl)) (S.froz _ _ (s.1 _ _ i4)) (Xh0 ([]) (([vI ((rd a2 a4).2)])) i5 (nl rfl) (by omega) (by omega)) rfl (qz S)
 intro _ _ _ _ g3 hS _ f1 hcq
 have b5 := b5.mono g3
 have e0 := e0.mono g3
 refine X6 Tryz.call247 (G7 (eM (f1 2 44 rfl rfl)) (eM (f1 6 48 rfl rfl)) (eM (f1 14 56 rfl rfl))) rfl (Yy1 i6 b5 e0 hS) ?_
 rintro _ _ _ i8 hS i9
 exact qn i8 rfl hS i9
 intro _ _ _ _ g4 hS _ f2 hcq
 have b5 := b5.mono g4
 have b6 := b6.mono g4
 obtain ⟨_, k6, ⟨_, rfl, ⟨_, rfl, g7⟩⟩⟩ := gvR (f2 15 57 rfl rfl)
 refine X6 Tryz.call197 (G7 (eM (f2 0 42 rfl rfl)) (eM (f2 1 43 rfl rfl)) k6) rfl (Zs7 i7 b5 b6 g7 hS) ?_
 rintro _ _ _ j0 hS j1
 exact qn j0 rfl hS j1
 intro _ k7 i1 d1 hS c3 j2 hcq
 have hS : St i1 k7 ([(f4, cA ([a8]) 45)] ++ ([(b7, cA ([a6]) 45)] ++ ([(b4, cA ([vN]) 45)] ++ ([(b1, cA ([s2]) 45)] ++ L)))) := hS
 have Z3 := Z3.trans d1
 have b5 := b5.mono d1
 have b9 := b9.mono d1
 have b3 := b3.mono d1
 have a5 := a5.mono d1
 have i2 := evT (c3 9 rfl) c9
 obtain ⟨_, k8, ⟨_, rfl, ⟨e1, rfl, e6⟩⟩⟩ := gvR (j2 16 58 (by decide) rfl)
 refine X5 (v := vA ([e1])) (vs := ([e1]).toArray) (cs := ([a8]).toArray) U2 (by exact i2) (by exact k8) rfl hS rfl (U0 e6.isOne) rfl ?_
 intro _ hS
 refine Z1 (X4 (Z0 (Z4 (vI a3) (by exact (evT (c3 10 rfl) c1)) rfl ?_)))
 refine W8 (a3 + 1) rfl rfl (IntWalk.i64_in _ (by omega)) rfl (Z5 (vI (a3 + 1)) rfl rfl (Z1 ?_))
 exact j4 _ _ ⟨(a3 + 1), e8, i1, e1, b0, Z3, hS, (by omega), e6, b5, b9, b3, a5, (evT (c3 0 rfl) c5), (evT (c3 1 rfl) c6), (evT (c3 5 rfl) c7), (evT (c3 6 rfl) d5), (evT (c3 7 rfl) d6), (evT (c3 8 rfl) c8), i2, rfl⟩
 refine Z8 (bF f9 rfl) (Y8 (X4 (Z0 (Z4 (vI a3) (by exact c1) rfl ?_))))
 refine W8 (a3 + 1) rfl rfl (IntWalk.i64_in _ (by omega)) rfl (Z5 (vI (a3 + 1)) rfl rfl (Z1 ?_))
 exact j4 _ _ ⟨(a3 + 1), a7, i0, a8, b0, Z3, hS, (by omega), b6, b5, b9, b3, a5, c5, c6, c7, d5, d6, c8, c9, rfl⟩
 refine Z8 (bF f8 rfl) ?_
 refine W0 rfl ?_
 obtain rfl := oi b0
 exact l3 _ _ ⟨a7, i0, a8, rfl, Z3, hS, b6, b5, b9, b3, a5, c5, c6, c7, d5, d6, c8, c9⟩
 exact ⟨0, h5, l2, e9, b0, Z3, hS, (by omega), f3, b5, b9, b3, a5, g5, g6, d3, e4, e5, d4, rfl, rfl⟩
 rintro _ _ ⟨b8, _, c4, rfl, Z3, hS, e3, b5, b9, b3, a5, g8, g9, h0, h1, d7, h2, h3⟩
 dsimp only [Ex.elim] at f0
 refine Z0 ?_
 refine X7 U2 (by exact d7) (hS.get (mR mL)) rfl rfl ?_
 refine X7 U2 (by exact h3) (hS.get mL) rfl rfl ?_
 obtain ⟨f6, j3, f0⟩ := bind_some f0
 refine X6 Tryz.call196 (G7 rfl rfl rfl) rfl (Zw7 j3 a5 e3 hS) ?_
 rintro _ k9 _ d8 hS ⟨_, rfl, ⟨e2, rfl, d0⟩⟩
 have d0 := Z9.old d0
 have Z3 := Z3.trans d8
 have b5 := b5.mono d8
 have b9 := b9.mono d8
 have b3 := b3.mono d8
 have hS := hS.perm V1
 refine X5 (v := vA ([e2])) (vs := ([e2]).toArray) (cs := ([a6]).toArray) U2 (by exact d7) rfl rfl hS rfl (U0 d0.isOne) rfl ?_
 intro _ hS
 have hS := hS.perm V1.symm
 refine Z1 (X4 (Z0 (Z4 (vI a4) (by exact h2) rfl ?_)))
 refine W8 (a4 + 1) rfl rfl (IntWalk.i64_in _ (by omega)) rfl (Z5 (vI (a4 + 1)) rfl rfl (Z1 ?_))
 have hS := St.dropA hS
 exact l0 _ _ ⟨(a4 + 1), f6, k9, e2, f0, Z3, hS, (by omega), d0, b5, b9, b3, g8, g9, h0, h1, d7, rfl⟩
 refine Z8 (bF f7 rfl) ?_
 refine W0 rfl ?_
 obtain rfl := oi c0
 exact l1 _ _ ⟨a9, j5, a6, rfl, Z3, hS, a5, b3, e4, e5⟩
 exact ⟨0, ([] : List (A8 × Int)), H, (vN), c0, Z3, hS, (by omega), h6, b5, b9, b3, rfl, rfl, rfl, rfl, rfl, rfl⟩
 rintro _ _ ⟨c2, _, b2, rfl, Z3, hS, d2, b3, e7, h4⟩
 dsimp only [Ex.elim] at h8
 refine Z2 (Z0 ?_)
 refine X7 U2 (by exact h4) (hS.get mL) rfl rfl ?_
 have hS := hS.perm V1
 refine X5 (v := vA ([b2])) (vs := ([b2]).toArray) (cs := ([vN]).toArray) U2 (by exact e7) rfl rfl hS rfl (U0 d2.isOne) rfl ?_
 intro _ hS
 have hS := hS.perm V1.symm
 refine Z1 ?_
 refine X0 (vs := [vA ([b2])]) Tryz.func181 ⟨⟨_, (by exact e7), V6 U2 (hS.get (mR mL)) rfl⟩, trivial⟩ ?_
 obtain rfl := oi h8
 exact ⟨_, _, rfl, Z3, (St.dropA (St.dropA (St.dropA hS))), ⟨_, rfl, ⟨_, rfl, d2⟩⟩⟩
abbrev LdT := List Int × List Int × List MpT
def pwN (K : Nat) (x : LdT) (i : Int) : Nat → Option MpT
 | 0 => Zn3 K
 | n + 1 => if 0 ≤ i ∧ i < (x.2.2.length : Int) then (pwN K x i n).bind fun r => J8 K r x.2.1 (rd x.2.2 i) else none
def L0 (K : Nat) (x : LdT) (i e : Int) : Option MpT := if 0 ≤ e ∧ e ≤ 4611686018427387904 then pwN K x i e.toNat else none
def C1 (i e : Int) : Value := .agg #[.int .i64 i, .int .i64 e]
theorem Wr4 {i e j f : Int} (h : C1 i e = C1 j f) : i = j ∧ e = f := by simpa [C1] using h
/-- what the map of powers keeps -/
def Yj6 (K : Nat) (x : LdT) : Yi8 := fun F o => ∃ es clock, o = .map es clock ∧
 ∀ n, n ∈ es.toList → ∃ i e t, n.key = C1 i e ∧ L0 K x i e = some t ∧ Q9 .i64 ⟨F, fun _ => none, none⟩ n.val t
theorem Yy4 (K : Nat) (x : LdT) : Xr3 (Yj6 K x) := by
 rintro F F' o hs ⟨es, c, rfl, h⟩
 refine ⟨es, c, rfl, fun n hn => ?_⟩
 obtain ⟨i, e, t, h1, h2, h3⟩ := h n hn
 exact ⟨i, e, t, h1, h2, Q9.mono (H := ⟨F, fun _ => none, none⟩) (H' := ⟨F', fun _ => none, none⟩) ⟨hs, fun _ _ h => h, rfl⟩ h3⟩
def Zx4 (H : FH) (b : Nat) (I : Yi8) : Prop := H.memo b = some I
theorem Zx4.mono {H H' : FH} {b : Nat} {I : Yi8} (h : Zx4 H b I) (hs : Sub H H') : Zx4 H' b I := hs.2.1 _ _ h
theorem Q9.fr {k : IntKind} {H H' : FH} {v : Value} {t : MpT} (h : Q9 k H v t) (e : H.fr = H'.fr) : Q9 k H' v t := by
 rcases h with h | ⟨s, b, es, c, ys, h1, h2, h3, h4⟩
 exact .inl h
 exact .inr ⟨s, b, es, c, ys, h1, by rw [← e]; exact h2, h3, h4⟩
def Xs5 (K : Nat) : Ty LdT :=
 ⟨4, fun H cs x => ∃ v1 v2 v3 b, cs = [v1, v2, v3, .map (some b)] ∧ Z9 (Y6 .i64) H v1 x.1 ∧ Z9 (Y6 .i64) H v2 x.2.1 ∧ Z9 (Ze6 .i64) H v3 x.2.2 ∧ Zx4 H b (Yj6 K x),
  fun ⟨_, _, _, _, h, _⟩ => by rw [h]; rfl, fun hs ⟨v1, v2, v3, b, h, h1, h2, h3, h4⟩ => ⟨v1, v2, v3, b, h, h1.mono hs, h2.mono hs, h3.mono hs, h4.mono hs⟩,
  fun ⟨v1, v2, v3, b, h, h1, h2, h3, h4⟩ u hu => by
   rw [h] at hu
   simp only [List.mem_cons, List.not_mem_nil, or_false] at hu
   rcases hu with rfl | rfl | rfl | rfl
   exact h1.isOne
   exact h2.isOne
   exact h3.isOne
   rfl⟩
section
variable {P : Program} {w : World} {H : FH} {L : OL}
/-- a map of one's own, still empty, becomes the map of powers -/
theorem St.toMemo {b : Nat} (h : St H w ([(b, .map #[] 0)] ++ L)) (K : Nat) (x : LdT) : ∃ H', Sub H H' ∧ St H' w L ∧ Zx4 H' b (Yj6 K x) :=
 ⟨H.addM b (Yj6 K x), Sub.addM (St.noneM h), St.freezeM h (Yy4 K x) ⟨#[], 0, rfl, by simp⟩, FH.addM_self ..⟩
/-- a map of powers is taken out, and put back -/
def FH.outM (H : FH) (b : Nat) : FH := ⟨H.fr, fun c => if c = b then none else H.memo c, H.base⟩
theorem St.takeM (h : St H w L) {b : Nat} {I : Yi8} (hb : Zx4 H b I) : ∃ o, I H.fr o ∧ St (H.outM b) w ([(b, o)] ++ L) := by
 obtain ⟨h1, h2, o, h3, h4⟩ := h.memo b I hb
 refine ⟨o, h4, h.froz, fun c J hc => ?_, h.rest, h.nofz, fun x hx => ?_, ?_, fun x hx => ?_⟩
 replace hc : (if c = b then Option.none else H.memo c) = some J := hc
 split at hc
 cases hc
 exact h.memo c J hc
 rcases List.mem_append.1 hx with hx | hx
 cases List.mem_singleton.1 hx; exact h3
 exact h.own x hx
 show (b :: L.map Prod.fst).Nodup
 refine List.nodup_cons.2 ⟨fun hm => ?_, h.nodup⟩
 obtain ⟨x, hx, rfl⟩ := List.mem_map.1 hm
 have := (h.apart x hx).2
 rw [hb] at this; cases this
 show H x.1 = Option.none ∧ (if x.1 = b then Option.none else H.memo x.1) = Option.none
 rcases List.mem_append.1 hx with hx | hx
 cases List.mem_singleton.1 hx; exact ⟨h1, if_pos rfl⟩
 refine ⟨(h.apart x hx).1, ?_⟩
 split
 rfl
 exact (h.apart x hx).2
theorem St.backM {H2 : FH} {b : Nat} {o : Obj} (h : St H2 w ([(b, o)] ++ L)) {I : Yi8} (hs : Sub (H.outM b) H2) (hb : Zx4 H b I) (hm : Xr3 I) (hI : I H2.fr o) :
 ∃ H3, Sub H H3 ∧ Sub H2 H3 ∧ St H3 w L := by
 refine ⟨H2.addM b I, ⟨fun c p hc => hs.1 c p hc, fun c J hc => ?_, hs.2.2⟩, Sub.addM (St.noneM h), St.freezeM h hm hI⟩
 show (if c = b then some I else H2.memo c) = some J
 split
 rename_i e; subst e; rw [← hc]; exact hb.symm
 rename_i e
 refine hs.2.1 c J ?_
 show (if c = b then Option.none else H.memo c) = some J
 rw [if_neg e]; exact hc
/-- what is told of the type of the map of powers -/
structure Xb1 (P : Program) (T K : TypeId) : Prop where
 under : ∃ E, (∀ w, (underlying T).run P w = .ok (.map K E) w) ∧ ∀ w, (zeroValue E).run P w = .ok (.map none) w
 check : ∀ (b : Bool) (i e : Int) (w : World), (Instr.checkKey b 10000 K (C1 i e)).run P w = .ok () w
 equal : ∀ (i e j f : Int) (w : World), (Op.equal K (C1 i e) (C1 j f)).run P w = .ok (decide (i = j ∧ e = f)) w
 arr : ∀ w, ∃ el, (underlying K).run P w = .ok (.array 2 el) w
theorem Xo3 {T K : TypeId} (t : Xb1 P T K) (i e : Int) : ∀ (es : List MapEntry) (n : Nat), (∀ m, m ∈ es → ∃ j f, m.key = C1 j f) →
 ∃ r, (∀ w', (Instr.findAsking K (C1 i e) es n).run P w' = .ok r w') ∧ ∀ j v, r = some (j, v) → ∃ m, n ≤ j ∧ es[j - n]? = some m ∧ m.key = C1 i e ∧ m.val = v
 | [], n, _ => ⟨none, fun w' => by simp [Instr.findAsking], fun _ _ h => by cases h⟩
 | m :: es, n, h => by
  obtain ⟨j, f, hk⟩ := h m (List.mem_cons_self ..)
  obtain ⟨r, hr, hv⟩ := Xo3 t i e es (n + 1) (fun m hm => h m (List.mem_cons_of_mem _ hm))
  by_cases hq : i = j ∧ e = f
  refine ⟨some (n, m.val), fun w' => ?_, fun j' v hjv => ?_⟩
  unfold Instr.findAsking
  simp [Sem.run_bind, hk, t.equal, hq]
  cases hjv
  exact ⟨m, Nat.le_refl _, by simp, by rw [hk, hq.1, hq.2], rfl⟩
  refine ⟨r, fun w' => ?_, fun j' v hjv => ?_⟩
  unfold Instr.findAsking
  simp only [Sem.run_bind, hk, t.equal, Result.andThen_ok, Sem.run_ite]
  rw [if_neg (by simpa using hq)]
  exact hr w'
  obtain ⟨m', h1, h2, h3, h4⟩ := hv j' v hjv
  refine ⟨m', by omega, ?_, h3, h4⟩
  rw [show j' - n = (j' - (n + 1)) + 1 by omega]
  simpa using h2
theorem Yw9 {T K : TypeId} (t : Xb1 P T K) (i e : Int) (es : List MapEntry) (h : ∀ m, m ∈ es → ∃ j f, m.key = C1 j f) :
 ∃ r, (∀ w', (Instr.findKey K (C1 i e) es).run P w' = .ok r w') ∧ ∀ j v, r = some (j, v) → ∃ m, es[j]? = some m ∧ m.key = C1 i e ∧ m.val = v := by
 obtain ⟨r, hr, hv⟩ := Xo3 t i e es 0 h
 cases es with
 | nil =>
  refine ⟨none, fun w' => ?_, fun _ _ h => by cases h⟩
  obtain ⟨el, hu⟩ := t.arr w'
  unfold Instr.findKey
  simp [Sem.run_bind, hu, Instr.findNow]
 | cons m es =>
  refine ⟨r, fun w' => ?_, fun j v hjv => let ⟨m', _, h2, h3, h4⟩ := hv j v hjv; ⟨m', h2, h3, h4⟩⟩
  obtain ⟨el, hu⟩ := t.arr w'
  obtain ⟨j, f, hk⟩ := h m (List.mem_cons_self ..)
  have : Instr.findNow (.array 2 el) (C1 i e) (m :: es) 0 = none := by
   unfold Instr.findNow
   rw [hk]; rfl
  unfold Instr.findKey
  simp only [Sem.run_bind, hu, Result.andThen_ok, this]
  exact hr w'
theorem Wa1 {T K : TypeId} (t : Xb1 P T K) (i e : Int) {b : Nat} {es : Array MapEntry} {clock : Nat} (h : ∀ m, m ∈ es.toList → ∃ j f, m.key = C1 j f) :
 ∃ u q, (∀ w', w'.heap[b]? = some (.map es clock) → (Instr.lookup T (.map (some b)) (C1 i e) true).run P w' = .ok (.tuple #[u, .bool q]) w') ∧
  (q = true → ∃ m, m ∈ es.toList ∧ m.key = C1 i e ∧ m.val = u) := by
 obtain ⟨r, hr, hv⟩ := Yw9 t i e es.toList h
 obtain ⟨E, hu, hz⟩ := t.under
 cases r with
 | none =>
  refine ⟨.map none, false, fun w' hb => ?_, fun h => by cases h⟩
  unfold Instr.lookup
  simp only [Sem.run_bind, hu, Result.andThen_ok, Sem.run_pure, Zh1 hb, t.check, hr, hz]
  simp
 | some p =>
  obtain ⟨j, v⟩ := p
  obtain ⟨m, h1, h2, h3⟩ := hv j v rfl
  refine ⟨v, true, fun w' hb => ?_, fun _ => ⟨m, List.mem_of_getElem? h1, h2, h3⟩⟩
  unfold Instr.lookup
  simp only [Sem.run_bind, hu, Result.andThen_ok, Sem.run_pure, Zh1 hb, t.check, hr]
  simp
theorem Xq5 (i e : Int) : Instr.sameBits 10000 (C1 i e) (C1 i e) = true := by
 simp [Instr.sameBits, C1]
theorem Wa2 {T K : TypeId} (t : Xb1 P T K) (i e : Int) {b : Nat} {Kf : Nat} {x : LdT} {v : Value} {tt : MpT} (hS : St H w L) (hb : Zx4 H b (Yj6 Kf x)) (hp : L0 Kf x i e = some tt) (hv : Q9 .i64 H v tt) :
 ∃ w', (Instr.mapUpdate T (.map (some b)) (C1 i e) v).run P w = .ok () w' ∧ St H w' L := by
 obtain ⟨h1, h2, o, h3, es, clock, rfl, hes⟩ := hS.memo b _ hb
 obtain ⟨r, hr, hrv⟩ := Yw9 t i e es.toList (fun m hm => let ⟨i, e, t, h, _⟩ := hes m hm; ⟨i, e, h⟩)
 obtain ⟨E, hu, hz⟩ := t.under
 have hvf : Q9 .i64 ⟨H.fr, fun _ => none, none⟩ v tt := hv.fr rfl
 have hset : ∀ o', (setObj b o').run P w = .ok () { w with heap := w.heap.setIfInBounds b o' } := fun o' => by simp [setObj, Sem.run, h3]
 cases r with
 | none =>
  refine ⟨_, ?_, hS.putM hb (o' := .map (es.push ⟨C1 i e, v, clock⟩) (clock + 1)) ⟨_, _, rfl, fun m hm => ?_⟩⟩
  unfold Instr.mapUpdate
  simp only [Sem.run_bind, hu, Result.andThen_ok, Sem.run_pure, Zh1 h3, t.check, hr, hset]
  rw [Array.toList_push] at hm
  rcases List.mem_append.1 hm with hm | hm
  exact hes m hm
  cases List.mem_singleton.1 hm
  exact ⟨i, e, tt, rfl, hp, hvf⟩
 | some p =>
  obtain ⟨j, u⟩ := p
  obtain ⟨m, hm1, hm2, hm3⟩ := hrv j u rfl
  have hold : ((es[j]?).map (·.key)).getD (C1 i e) = C1 i e := by
   rw [Array.getElem?_toList] at hm1
   rw [hm1]; exact hm2
  refine ⟨_, ?_, hS.putM hb (o' := .map (es.modify j fun n => { n with key := C1 i e, val := v }) clock) ⟨_, _, rfl, fun n hn => ?_⟩⟩
  unfold Instr.mapUpdate
  simp only [Sem.run_bind, hu, Result.andThen_ok, Sem.run_pure, Zh1 h3, t.check, hr, hold, Instr.keyThatStays, Xq5, if_true, hset]
  obtain ⟨q, hq, rfl⟩ := List.getElem_of_mem hn
  have hq' : q < es.size := by simpa using hq
  simp only [Array.getElem_toList, Array.getElem_modify]
  split
  exact ⟨i, e, tt, rfl, hp, hvf⟩
  exact hes _ (by simp)
theorem Wn7 {T E : TypeId} {i : TypeInfo} (d : Nat) (hu : P.underlying T = some (.array 2 E)) (he : P.underlying E = some (.int .i64)) (hi : P.info? E = some i) (hs : i.size = 1) (a b c f : Int) :
 (Op.equalIn (d + 2) T (C1 a b) (C1 c f)).run P w = .ok (decide (a = c ∧ b = f)) w := by
 unfold C1
 rw [run_equalIn_array w (d + 1) _ _ hu hi]
 have hc : P.cellsOf E = 1 := by simp [Program.cellsOf, hi, hs]
 have h0 : ∀ x y : Int, (part E #[.int .i64 x, .int .i64 y] 0).run P w = .ok (.int .i64 x) w := fun x y => by simp [part, isAgg, run_underlying he]
 have h1 : ∀ x y : Int, (part E #[.int .i64 x, .int .i64 y] 1).run P w = .ok (.int .i64 y) w := fun x y => by simp [part, isAgg, run_underlying he]
 have he' : ∀ (x y : Int), (Op.equalIn (d + 1) E (.int .i64 x) (.int .i64 y)).run P w = .ok (x == y) w := fun x y => run_equalIn_int w d E .i64 .i64 x y he
 rw [hc]
 have : List.range 2 = [0, 1] := rfl
 rw [this]
 simp only [Op.eqItems, Sem.run_bind, Nat.zero_mul, Nat.one_mul, h0, h1, Result.andThen_ok, he', Sem.run_ite]
 by_cases e1 : a = c <;> by_cases e2 : b = f <;> simp [e1, e2]
theorem Xq6 {K E : TypeId} {i : TypeInfo} (d : Nat) (hu : P.underlying K = some (.array 2 E)) (he : P.underlying E = some (.int .i64)) (hi : P.info? E = some i) (hs : i.size = 1) (b : Bool) (x y : Int) :
 (Instr.checkKey b (d + 2) K (C1 x y)).run P w = .ok () w := by
 have h0 : (part E #[.int .i64 x, .int .i64 y] 0).run P w = .ok (.int .i64 x) w := by simp [part, isAgg, run_underlying he]
 have h1 : (part E #[.int .i64 x, .int .i64 y] 1).run P w = .ok (.int .i64 y) w := by simp [part, isAgg, run_underlying he]
 have hz : (sizeOf E).run P w = .ok 1 w := by simp [sizeOf, typeInfo, hi, hs]
 unfold Instr.checkKey C1
 simp only [Sem.run_bind, run_underlying hu, Result.andThen_ok]
 simp [Std.Legacy.Range.forIn_eq_forIn_range', Std.Legacy.Range.size, List.range', Sem.run_bind, hz, h0, h1, Yn7 he]
theorem Vh6 {T K E A : TypeId} {i : TypeInfo} (hT : P.underlying T = some (.map K E)) (hu : P.underlying K = some (.array 2 A)) (he : P.underlying A = some (.int .i64)) (hi : P.info? A = some i) (hs : i.size = 1)
 (hz : ∀ w, (zeroValue E).run P w = .ok (.map none) w) : Xb1 P T K :=
 ⟨⟨E, run_underlying hT, hz⟩, fun b a c w => Xq6 9998 hu he hi hs b a c, fun a b c f w => Wn7 9998 hu he hi hs a b c f, fun w => ⟨A, run_underlying hu w⟩⟩
end
def Zc7 (K : Nat) (a0 : (List MpT)) : Nat → Int → (List MpT) → Option (Ex (List MpT) ((List MpT)))
 | 0, _, _ => none
 | k + 1, a1, a3 => (if a1 < (a0.length : Int) then ((Zw9 K (rd a0 a1)).bind fun b7 => (if a1 < (a3.length : Int) then Zc7 K a0 k (a1 + 1) (a3.set (a1).toNat b7) else none)) else some (.go a3))
def Zv0 (K : Nat) (a0 : (List MpT)) : Option (List MpT) := (if (a0.length : Int) ≤ 1099511627776 then ((Zc7 K a0 K 0 (List.replicate ((a0.length : Int)).toNat (([] : List (A8 × Int)) : MpT))).bind (Ex.elim (fun r => some r) (fun s => (fun (a8 : (List MpT)) => some a8) s))) else none)
theorem Xc4 {a0 : (List MpT)} {r : (List MpT)} (q0 : Zv0 K a0 = some r) (b2 : Z9 (Y9 yT) H s0 a0) (hS : St H w L) :
 Calls Tryz.prog 69 #[s0] w (T2 (fun v G => RdN (Y9 yT) H G v r []) H L) := by
 have Z3 := Sub.refl H
 refine X3 Tryz.func69 rfl Tryz.ntmps69 rfl ?_
 unfold Zv0 at q0
 refine Z2 (Z0 (Z5 (vN) rfl rfl (Z1 (Z2 (Z0 (Z4 (s0) rfl rfl ?_))))))
 have e5 := b2.bound
 refine W7 Xl8 rfl b2 rfl ?_
 obtain ⟨_, q0⟩ := gd q0
 refine Wy2 (τ := (Zb7 H (Y9 yT))) (([] : List (A8 × Int)) : MpT) Yl7 rfl rfl rfl (fun _ => ⟨_, rfl, Z9.nil⟩) rfl (by omega) (by omega) hS List.nodup_nil (fun _ h => (by cases h)) rfl ?_
 intro u3 _ C5 d9 hS
 refine Z5 (u3) rfl rfl (Z1 (Z2 (Z2 (Z0 (Z5 (vI 0) rfl rfl (Z1 (Y7 ?_)))))))
 obtain ⟨c1, a5, c2⟩ := bind_some q0
 refine W1 (id := 0) (fun k f w => ∃ (a1 : Int) (a3 : (List MpT)) (H1 : FH) (a9 : OL) (a4 : Value), Zc7 K a0 k a1 a3 = some c1 ∧ Sub H H1 ∧ St H1 w (a9 ++ L) ∧ 0 ≤ a1 ∧ N1 (Zb7 H (Y9 yT)) 45 H1 a4 a3 a9 ([] : List Nat) ∧ Z9 (Y9 yT) H1 s0 a0 ∧ tv f 0 = s0 ∧ tv f 3 = a4 ∧ tv f 4 = vI a1) (fun f w => ∃ (a8 : (List MpT)) (H1 : FH) (b3 : OL) (a6 : Value), c1 = .go a8 ∧ Sub H H1 ∧ St H1 w (b3 ++ L) ∧ N1 (Zb7 H (Y9 yT)) 45 H1 a6 a8 b3 ([] : List Nat) ∧ tv f 3 = a6) rfl ?_ ?_ K ?_ ?_
 rintro f w ⟨a1, a3, H1, a9, a4, a5, _⟩
 rw [Zc7] at a5; cases a5
 rintro k _ _ e0 e1 ⟨a1, a3, c9, a9, a4, a5, Z3, hS, _, a7, b2, b4, b5, b1⟩
 rw [Zc7] at a5
 refine Z2 (Z2 (Z0 (Z4 (vI a1) (by exact b1) rfl (Z4 (s0) (by exact b4) rfl ?_))))
 have e6 := b2.bound
 refine W7 Xl8 rfl b2 rfl ?_
 refine V5 (k := .i64) (a := a1) (b := (a0.length : Int)) rfl rfl rfl (Z1 ?_)
 obtain ⟨c3, a5⟩ | ⟨c3, a5⟩ := ic a5
 refine Y0 (bT c3 rfl) (Y8 (Z2 (Y7 (Z0 (Z4 (a4) (by exact b5) rfl (Z4 (vI a1) (by exact b1) rfl (Z4 (s0) (by exact b4) rfl (Z4 (vI a1) (by exact b1) rfl ?_))))))))
 obtain ⟨_, _, _, _, _, d0, d1, ⟨c7, rfl, c4⟩, d2⟩ := b2.elem (i := a1) (by omega) (by omega)
 refine X9 Xl8 rfl rfl d0 rfl (by omega) (by omega) rfl ?_
 refine W9 ([c7]) Vf9 rfl (hS.froz _ _ d1) rfl d2 rfl ?_
 obtain ⟨b7, d3, a5⟩ := bind_some a5
 refine X6 Tryz.call26 (S2 rfl) rfl (Xe6 d3 c4 hS) ?_
 rintro _ c8 _ b9 hS ⟨_, rfl, ⟨b6, rfl, b0⟩⟩
 have d4 := b0
 have d5 : RdF yT H c8 b6 b7 := Z9.mono (Q6 Z3) b0
 have b0 := Z9.old b0
 have a7 := N1.keep (Zt0 H (G3 _)) a7 b9 (RdF.rootsOut d4) (Z9.rootsIn b0) (Zf4 _)
 have Z3 := Z3.trans b9
 have b2 := b2.mono b9
 obtain ⟨_, a5⟩ := gd a5
 obtain ⟨_, _, c5⟩ := a7.own.some (i := a1) (by omega) (by omega)
 refine Zw4 P6 (Eq.trans rfl c5) rfl (by omega) (by omega) rfl ?_
 refine Xz6 (R := P5 [b6]) (τ := (Zb7 H (Y9 yT))) (v := a4) (u := vA ([b6])) b7 (i := a1) rfl U2 c5 a7 hS rfl rfl (by omega) (by omega) ⟨_, rfl, d5⟩ rfl ?_
 intro _ e2 d6 hS
 refine Z1 (X4 (Z0 (Z4 (vI a1) (by exact b1) rfl ?_)))
 refine W8 (a1 + 1) rfl rfl (IntWalk.i64_in _ (by omega)) rfl (Z5 (vI (a1 + 1)) rfl rfl (Z1 ?_))
 exact e0 _ _ ⟨(a1 + 1), (a3.set (a1).toNat b7), c8, e2, a4, a5, Z3, hS, (by omega), d6, b2, b4, b5, rfl⟩
 refine Z8 (bF c3 rfl) ?_
 refine W0 rfl ?_
 obtain rfl := oi a5
 exact e1 _ _ ⟨a3, c9, a9, a4, rfl, Z3, hS, a7, b5⟩
 exact ⟨0, (List.replicate ((a0.length : Int)).toNat (([] : List (A8 × Int)) : MpT)), H, C5, u3, a5, Z3, hS, (by omega), d9, b2, rfl, rfl, rfl⟩
 rintro _ _ ⟨a8, _, b3, a6, rfl, Z3, hS, b8, c0⟩
 dsimp only [Ex.elim] at c2
 refine Z2 (Z0 (Z4 (a6) (by exact c0) rfl (Z5 (a6) rfl rfl (Z1 ?_))))
 refine X0 (vs := [a6]) Tryz.func69 ⟨rfl, trivial⟩ ?_
 obtain ⟨e3, d7, hS, c6⟩ := N1.freezeN (τ := (Y9 yT)) (H0 := H) (G3 _) b8 hS Z3
 have d8 : RdF (Y9 yT) H e3 a6 a8 := RdN.old c6
 have e4 := Z9.old d8
 have Z3 := Z3.trans d7
 obtain rfl := oi c2
 exact ⟨_, _, rfl, Z3, hS, c6⟩
def Zj5 (K : Nat) (a0 : Int) (a1 : Int) : Option MpT := ((G8 K a0).bind fun r9 => ((A9 K (F6 ([] : MpT) r9 a1)).bind fun a5 => some a5.1))
theorem Yn3 {a0 : Int} {a1 : Int} {r : MpT} (q0 : Zj5 K a0 a1 = some r) (hS : St H w L) :
 Calls Tryz.prog 248 #[vI a0, vI a1] w (T2 (fun v G => (R.agg (Y9 yT)).p (G.new H) v r) H L) := by
 have Z3 := Sub.refl H
 refine X3 Tryz.func248 rfl Tryz.ntmps248 rfl ?_
 unfold Zj5 at q0
 refine Z2 (Z0 ?_)
 refine W6 (z := vA ([vN])) ([vN]).toArray I0.zero rfl hS rfl ?_
 intro _ _ hS
 refine Z1 (Z2 (Z0 ?_))
 refine Zk3 (k := .i64) hS rfl ?_
 intro m4 _ _ a6 hS
 refine Z4 (vI a0) rfl rfl ?_
 obtain ⟨r9, b4, q0⟩ := bind_some q0
 refine X6 Tryz.call251 (S2 rfl) rfl (Zd8 b4  hS) ?_
 rintro _ _ _ a7 hS ⟨_, rfl, rfl⟩
 have Z3 := Z3.trans a7
 have a6 := a6.mono a7
 refine Z4 (vI a1) rfl rfl ?_
 refine Yb9 (a := r9) (m := a1) Zi9 rfl rfl rfl a6 hS ?_
 intro _ _ a8 hS
 refine Z4 (m4) rfl rfl ?_
 obtain ⟨_, a9, hS, b0⟩ := a8.freeze hS
 have Z3 := Z3.trans a9
 obtain ⟨a5, b1, q0⟩ := bind_some q0
 refine X6 Tryz.call112 (S2 rfl) rfl (Zz0 b1 b0 hS) ?_
 rintro _ b5 _ b2 hS ⟨_, _, rfl, ⟨_, rfl, ⟨a3, rfl, a4⟩⟩, rfl⟩
 have b6 := a4
 have b3 : RdF yT H b5 a3 a5.1 := Z9.mono (Q6 Z3) a4
 have a4 := Z9.old a4
 have Z3 := Z3.trans b2
 refine Z4 (Value.tuple #[vA ([a3]), vI a5.2]) rfl rfl (W4 (vA ([a3])) rfl rfl rfl (W4 (vI a5.2) rfl rfl rfl ?_))
 refine W6 (z := vA ([vN])) ([vN]).toArray I0.zero rfl hS rfl ?_
 intro _ _ hS
 refine X5 (v := vA ([a3])) (vs := ([a3]).toArray) (cs := ([vN]).toArray) U2 rfl rfl rfl hS rfl (U0 a4.isOne) rfl ?_
 intro _ hS
 refine Z5 (vI a5.2) rfl rfl (Z1 (Z2 (Z0 ?_)))
 refine X7 U2 rfl (hS.get mL) rfl rfl ?_
 have hS := hS.perm V1
 refine X5 (v := vA ([a3])) (vs := ([a3]).toArray) (cs := ([vN]).toArray) U2 rfl rfl rfl hS rfl (U0 a4.isOne) rfl ?_
 intro _ hS
 have hS := hS.perm V1.symm
 refine Z1 ?_
 refine X0 (vs := [vA ([a3])]) Tryz.func248 ⟨⟨_, rfl, V6 U2 (hS.get (mR mL)) rfl⟩, trivial⟩ ?_
 obtain rfl := oi q0
 exact ⟨_, _, rfl, Z3, (St.dropA (St.dropA hS)), ⟨_, rfl, ⟨_, rfl, b3⟩⟩⟩
end Go.Proofs.YtabofnehiclkiaaGreat
