/- Walks of functions: each computes its pure function, if that gives a value. -/
import Derived.Test.YtabofnehiclkiaaGreatXTy
import Derived.Test.YtabofnehiclkiaaGreatXF12
import Derived.Test.YtabofnehiclkiaaGreatXF14
import Derived.Test.YtabofnehiclkiaaGreatXF9
import Derived.Test.YtabofnehiclkiaaGreatXF5
import Derived.Test.YtabofnehiclkiaaGreatXF3
import Derived.Test.YtabofnehiclkiaaGreatXF7
import Derived.Test.YtabofnehiclkiaaGreatXF4
import Derived.Test.YtabofnehiclkiaaGreatXF16
import Derived.Test.YtabofnehiclkiaaGreatXF1
import Derived.Test.YtabofnehiclkiaaGreatXF10
import Derived.Test.YtabofnehiclkiaaGreatXF13
import Derived.Test.YtabofnehiclkiaaGreatXX
import Derived.Test.YtabofnehiclkiaaGreatXF6
import Derived.Test.YtabofnehiclkiaaGreatXF15
namespace Go.Proofs.YtabofnehiclkiaaGreat
open Go
set_option linter.unusedSimpArgs false
set_option linter.unusedVariables false
set_option maxRecDepth 100000
set_option maxHeartbeats 8000000
variable {K : Nat} {H : FH} {w : World} {L : OL} {s0 s1 s2 s3 s4 s5 s6 : Value}
def Zm7 (K : Nat) (a0 : ((List Int) × (List MpT))) (a1 : Int) (a2 : Int) : Option (((List Int) × (List MpT)) × (List MpT) × Int) := ((Zo6 K a0.1 ([a1, a2])).bind fun d7 => ((Zn0 K (a0.1.length : Int) ([a1, a2])).bind fun c1 => ((Zl5 K (a0.1, a0.2)).bind fun c8 => (if 0 ≤ a1 then (if a1 < (c8.length : Int) then (if 0 ≤ a2 then (if a2 < ((rd c8 a1).length : Int) then (if a1 < (a0.2.length : Int) then ((Zj8 K d7 c1 (rd a0.2 a1)).bind fun k9 => ((Zo3 K (rd (rd c8 a1) a2)).bind fun e6 => ((Zc0 K (IntKind.i64.wrap (0 - e6))).bind fun l0 => ((Zf6 K ([] : List (A8 × Int)) k9 l0).bind fun c9 => (if a2 < (c1.length : Int) then ((Zf5 K d7 (c1.set (a2).toNat c9)).bind fun b5 => (if b5.2 = 0 then ((Zm1 K (a0.1, a0.2) d7 (c1.set (a2).toNat c9) ([a1, a2])).bind fun b0 => (if b0.2 = 0 then some ((b0.1.1, b0.1.2), (c1.set (a2).toNat c9), 0) else some ((([] : List Int), ([] : List MpT)), ([] : List MpT), b0.2))) else some ((([] : List Int), ([] : List MpT)), ([] : List MpT), b5.2))) else none))))) else none) else none) else none) else none) else none))))
theorem Yq5 {a0 : ((List Int) × (List MpT))} {a1 : Int} {a2 : Int} {r : (((List Int) × (List MpT)) × (List MpT) × Int)} (q0 : Zm7 K a0 a1 a2 = some r) (a5 : Z9 (Y6 .i64) H s0 a0.1) (a6 : Z9 (Y9 yT) H s1 a0.2) (hM : ∀ b, H.memo b = none) (hS : St H w L) :
 Calls Tryz.prog 180 #[vA ([s0] ++ [s1]), vI a1, vI a2] w (T2 (fun v G => (R.t3 (R.agg (Zp1 (Y9 (Y6 .i64)) (Y9 (Y9 yT)))) (R.sl (Y9 yT)) (R.int .i64)).p G v r) H L) := by
 have Z3 := Sub.refl H
 refine X3 Tryz.func180 rfl Tryz.ntmps180 rfl ?_
 unfold Zm7 at q0
 refine Z2 (Z0 ?_)
 refine S3 (v := vA ([s0] ++ [s1])) ([s0] ++ [s1]).toArray rfl rfl hS rfl ?_
 intro b1 _ hS
 refine W6 (z := vA ([vN] ++ [vN])) ([vN] ++ [vN]).toArray Zr4.zero rfl hS rfl ?_
 intro b4 _ hS
 refine Z5 (vN) rfl rfl (Z5 (vI 0) rfl rfl (Z1 (Z2 ?_)))
 obtain ⟨d7, l1, q0⟩ := bind_some q0
 have r3 := a5.bound
 obtain ⟨c1, g8, q0⟩ := bind_some q0
 have U5 := Z3
 refine Xp4 14 (fun t C => P0 [mE 16 (vP b1), mE 17 (s0), mE 18 (vI a1), mE 19 (vI a2), (20, MP.sl (Y6 .i64) ([a1, a2])), (21, MP.rep (R.sl (Y6 .i64)) (d7)), mE 22 (vP b1), mE 23 (s0), mE 24 (vI (a0.1.length : Int)), mE 25 (vI a1), mE 26 (vI a2), (27, MP.sl (Y6 .i64) ([a1, a2])), (28, MP.own (Y9 yT) 45 (c1) C), (9, MP.sl (Y6 .i64) (d7))] t) [] mixed rfl rfl rfl hS (Zg8 rfl ?_ (Zg8 rfl ?_ (Zg8 rfl ?_ (Zg8 rfl ?_ (Zg8 rfl ?_ (Zg8 rfl ?_ (Zg8 rfl ?_ (Zg8 rfl ?_ (Zg8 rfl ?_ (Zg8 rfl ?_ (Zg8 rfl ?_ (Zg8 rfl ?_ (Zg8 rfl ?_ (Zg8 rfl ?_ U7)))))))))))))) ?_
 intro G1 f7 _ H9 _ l2 hS l3 _ hcq
 have Z3 := Sub.refl H9
 have S7 := U5.trans l2
 have p5 : tv f7 3 = vP b1 := Eq.trans (l3 3 rfl) rfl
 refine Y2 R4 p5 rfl ?_
 exact Z1 ⟨16, _, _, [], rfl, rfl, Z3, hS, rfl⟩
 intro G1 _ _ p6 _ l4 hS _ l5 hcq
 have Z3 := Sub.refl p6
 have S7 := U5.trans l4
 refine Y3 (s0) M9 (eM (l5 0 16 rfl rfl)) (hS.get (mR (mR mL))) rfl rfl ?_
 exact Z1 ⟨17, _, _, [], rfl, rfl, Z3, hS, rfl⟩
 intro G1 p7 _ p8 _ l6 hS l7 _ hcq
 have Z3 := Sub.refl p8
 have S7 := U5.trans l6
 have p9 : tv p7 1 = vI a1 := Eq.trans (l7 1 rfl) rfl
 refine Z4 (vI a1) p9 rfl ?_
 exact Z1 ⟨18, _, _, [], rfl, rfl, Z3, hS, rfl⟩
 intro G1 q1 _ q2 _ l9 hS m0 _ hcq
 have Z3 := Sub.refl q2
 have S7 := U5.trans l9
 have q3 : tv q1 2 = vI a2 := Eq.trans (m0 2 rfl) rfl
 refine Z4 (vI a2) q3 rfl ?_
 exact Z1 ⟨19, _, _, [], rfl, rfl, Z3, hS, rfl⟩
 intro G1 _ _ q4 _ m1 hS _ g0 hcq
 have Z3 := Sub.refl q4
 have S7 := U5.trans m1
 refine D9 (τ := (Y6 .i64)) Zs6 ze3 rfl [vI a1, vI a2] [a1, a2] rfl rfl (Zz1 (eM (g0 2 18 rfl rfl)) (eM (g0 3 19 rfl rfl))) (We3 rfl rfl) (by decide) (by decide) hS rfl ?_
 intro _ _ _ m2 hS m3
 have Z3 := Z3.trans m2
 exact Z1 ⟨20, _, _, [], rfl, rfl, Z3, hS, m3⟩
 intro G1 _ _ q5 _ g1 hS _ g2 hcq
 have Z3 := Sub.refl q5
 have S7 := U5.trans g1
 have a5 := a5.mono g1
 obtain ⟨_, q6, m4⟩ := gvS (g2 4 20 rfl rfl)
 refine X6 Tryz.call244 (U9 (eM (g2 1 17 rfl rfl)) q6) rfl (Yt2 l1 a5 m4 hS) ?_
 rintro _ _ _ m5 hS m6
 have Z3 := Z3.trans m5
 exact Z1 ⟨21, _, _, [], rfl, rfl, Z3, hS, m6⟩
 intro G1 q7 _ q8 _ m7 hS m8 _ hcq
 have Z3 := Sub.refl q8
 have S7 := U5.trans m7
 have q9 : tv q7 3 = vP b1 := Eq.trans (m8 3 rfl) rfl
 refine Y2 R4 q9 rfl ?_
 exact Z1 ⟨22, _, _, [], rfl, rfl, Z3, hS, rfl⟩
 intro G1 _ _ r0 _ m9 hS _ n0 hcq
 have Z3 := Sub.refl r0
 have S7 := U5.trans m9
 refine Y3 (s0) M9 (eM (n0 6 22 rfl rfl)) (hS.get (mR (mR mL))) rfl rfl ?_
 exact Z1 ⟨23, _, _, [], rfl, rfl, Z3, hS, rfl⟩
 intro G1 _ _ r1 _ g3 hS _ n1 hcq
 have Z3 := Sub.refl r1
 have S7 := U5.trans g3
 have a5 := a5.mono g3
 refine W7 Q0 (eM (n1 7 23 rfl rfl)) a5 rfl ?_
 exact Z1 ⟨24, _, _, [], rfl, rfl, Z3, hS, rfl⟩
 intro G1 r2 _ n2 _ g9 hS h0 _ hcq
 have Z3 := Sub.refl n2
 have S7 := U5.trans g9
 have n3 : tv r2 1 = vI a1 := Eq.trans (h0 1 rfl) rfl
 refine Z4 (vI a1) n3 rfl ?_
 exact Z1 ⟨25, _, _, [], rfl, rfl, Z3, hS, rfl⟩
 intro G1 n4 _ n5 _ h1 hS h2 _ hcq
 have Z3 := Sub.refl n5
 have S7 := U5.trans h1
 have n6 : tv n4 2 = vI a2 := Eq.trans (h2 2 rfl) rfl
 refine Z4 (vI a2) n6 rfl ?_
 exact Z1 ⟨26, _, _, [], rfl, rfl, Z3, hS, rfl⟩
 intro G1 _ _ n7 _ h3 hS _ f3 hcq
 have Z3 := Sub.refl n7
 have S7 := U5.trans h3
 refine D9 (τ := (Y6 .i64)) Zs6 ze3 rfl [vI a1, vI a2] [a1, a2] rfl rfl (Zz1 (eM (f3 9 25 rfl rfl)) (eM (f3 10 26 rfl rfl))) (We3 rfl rfl) (by decide) (by decide) hS rfl ?_
 intro _ _ _ h4 hS h5
 have Z3 := Z3.trans h4
 exact Z1 ⟨27, _, _, [], rfl, rfl, Z3, hS, h5⟩
 intro G1 _ _ n8 _ h6 hS _ f4 hcq
 have Z3 := Sub.refl n8
 have S7 := U5.trans h6
 obtain ⟨_, n9, h7⟩ := gvS (f4 11 27 rfl rfl)
 refine T5 Tryz.call178 (U9 (eM (f4 8 24 rfl rfl)) n9) rfl (Yh5 g8 h7 hS) ?_
 rintro _ _ ⟨_, _, o0, rfl, h8, hS, h9⟩
 refine ⟨_, rfl, ?_⟩
 have Z3 := Z3.trans h8
 exact Z1 ⟨28, _, _, o0, rfl, rfl, Z3, hS, h9⟩
 intro G1 _ _ o1 _ i0 hS _ i1 hcq
 have Z3 := Sub.refl o1
 have S7 := U5.trans i0
 obtain ⟨o2, o3, i2⟩ := gvR (i1 5 21 rfl rfl)
 refine Z5 (o2) o3 rfl ?_
 exact Z1 ⟨9, _, _, [], rfl, rfl, Z3, hS, i2⟩
 intro e7 d8 g4 e8 e1 hS d5 f5 hcq
 have hS : St e8 g4 ((e7 28 ++ ([])) ++ ([(b4, cA ([vN] ++ [vN]) 31)] ++ ([(b1, cA ([s0] ++ [s1]) 31)] ++ L))) := hS
 have Z3 := Z3.trans e1
 have a5 := a5.mono e1
 have a6 := a6.mono e1
 have e9 : tv d8 1 = vI a1 := Eq.trans (d5 1 rfl) rfl
 have f0 : tv d8 2 = vI a2 := Eq.trans (d5 2 rfl) rfl
 have f1 : tv d8 3 = vP b1 := Eq.trans (d5 3 rfl) rfl
 have d3 : tv d8 6 = vP b4 := Eq.trans (d5 6 rfl) rfl
 obtain ⟨e2, f2, a3⟩ := gvS (f5 13 9 (by decide) rfl)
 obtain ⟨b6, g5⟩ : ∃ v, tv d8 28 = v := ⟨_, rfl⟩
 have b7 : W3 (Y9 yT) 45 e8 b6 (c1) (e7 28) := g5 ▸ (f5 12 28 (by decide) rfl)
 obtain ⟨g6, i3⟩ : ∃ C, e7 28 = C := ⟨_, rfl⟩
 rw [i3] at hS b7
 have hS : St e8 g4 (g6 ++ ([(b4, cA ([vN] ++ [vN]) 31)] ++ ([(b1, cA ([s0] ++ [s1]) 31)] ++ L))) := by have h := hS; simp only [List.append_assoc, List.nil_append, List.append_nil] at h; exact h
 refine Z5 (b6) (by exact g5) rfl (Z1 (Z2 (Z0 ?_)))
 refine X7 S5 (by exact f1) (hS.get (mR (mR mL))) rfl rfl ?_
 obtain ⟨c8, i4, q0⟩ := bind_some q0
 refine X6 Tryz.call243 (S2 rfl) rfl (Yf2 i4 a5 a6 hS) ?_
 rintro _ d4 _ d0 hS i5
 have Z3 := Z3.trans d0
 have a3 := a3.mono d0
 have a5 := a5.mono d0
 have a6 := a6.mono d0
 have b7 := b7.mono d0
 refine Z4 (vI a1) (by exact e9) rfl ?_
 obtain ⟨_, q0⟩ := gd q0
 obtain ⟨_, q0⟩ := gd q0
 obtain ⟨_, _, _, _, _, i6, i7, ⟨o4, rfl, i8⟩, i9⟩ := i5.elem (i := a1) (by omega) (by omega)
 refine X9 Yg7 rfl rfl i6 rfl (by omega) (by omega) rfl ?_
 refine Y3 (o4) M9 rfl (hS.froz _ _ i7) (i9 0 (show 0 < 1 by decide)) rfl (Z4 (vI a2) (by exact f0) rfl ?_)
 obtain ⟨_, q0⟩ := gd q0
 obtain ⟨_, q0⟩ := gd q0
 obtain ⟨_, _, _, _, _, j0, j1, rfl, j2⟩ := i8.elem (i := a2) (by omega) (by omega)
 refine X9 Q0 rfl rfl j0 rfl (by omega) (by omega) rfl ?_
 refine Y3 (vI (rd (rd c8 a1) a2)) ty2 rfl (hS.froz _ _ j1) (j2 0 (show 0 < 1 by decide)) rfl (Z5 (vI (rd (rd c8 a1) a2)) rfl rfl (Z1 (Z2 (Z0 (Z4 (b6) rfl rfl (Z4 (vI a2) (by exact f0) rfl ?_))))))
 refine R6 (vA ([vN])) Yf8 rfl (Z4 (e2) (by exact f2) rfl (Z4 (b6) rfl rfl (Y2 P2 (by exact f1) rfl ?_)))
 refine Y3 (s1) Zd6 rfl (hS.get (mR (mR mL))) rfl rfl (Z4 (vI a1) (by exact e9) rfl ?_)
 obtain ⟨_, q0⟩ := gd q0
 obtain ⟨o5, _, j3, g7, _, j4, a7, ⟨e5, rfl, a4⟩, j5⟩ := a6.elem (i := a1) (by omega) (by omega)
 refine X9 P6 rfl rfl j4 rfl (by omega) (by omega) rfl ?_
 refine W9 ([e5]) U2 rfl (hS.froz _ _ a7) rfl j5 rfl ?_
 have zsub := Z3
 have o6 : Z9 (Y6 .i64) d4.noM e2 d7 := a3
 have o7 : Z9 (Y9 yT) d4.noM s1 a0.2 := a6
 have o8 : Z9 yT d4.noM e5 (rd a0.2 a1) := a4
 have o9 : Z9 (Y6 .i64) d4.noM s0 a0.1 := a5
 have p0 : W3 (Y9 yT) 45 d4.noM b6 c1 g6 := b7
 have p1 : d4.noM o5 = some (.cells j3 g7.1 g7.2) := a7
 obtain ⟨p2, c2, hS, j6, j7⟩ := W3.lend b7 hS
 have Z3 := Z3.trans c2
 have a3 := a3.mono c2
 have a6 := a6.mono c2
 have a4 := a4.mono c2
 have a5 := a5.mono c2
 have a7 := c2.1 _ _ a7
 have hlt := Sb.refl p2
 obtain ⟨_, j8, q0⟩ := bind_some q0
 refine X6 Tryz.call181 (G7 rfl rfl rfl) rfl (Zz2 j8 a3 j6 a4 hS) ?_
 rintro _ _ _ c3 hS ⟨_, rfl, ⟨_, rfl, c0⟩⟩
 have Z3 := Z3.trans c3
 have hlt := hlt.trans c3.sb
 have a3 := a3.mono c3
 have a6 := a6.mono c3
 have a4 := a4.mono c3
 have a5 := a5.mono c3
 have a7 := c3.1 _ _ a7
 refine Z4 (vI (rd (rd c8 a1) a2)) rfl rfl ?_
 obtain ⟨e6, j9, q0⟩ := bind_some q0
 refine X6 Tryz.call245 (S2 rfl) rfl (Ys8 j9  hS) ?_
 rintro _ _ _ b8 hS rfl
 have Z3 := Z3.trans b8
 have hlt := hlt.trans b8.sb
 have a3 := a3.mono b8
 have a6 := a6.mono b8
 have a4 := a4.mono b8
 have c0 := c0.mono b8
 have a5 := a5.mono b8
 have a7 := b8.1 _ _ a7
 refine Xj6 (IntKind.i64.wrap (0 - e6)) rfl rfl rfl ?_
 obtain ⟨_, k0, q0⟩ := bind_some q0
 refine X6 Tryz.call209 (S2 rfl) rfl (Zf2 k0  hS) ?_
 rintro _ _ _ b9 hS rfl
 have Z3 := Z3.trans b9
 have hlt := hlt.trans b9.sb
 have a3 := a3.mono b9
 have a6 := a6.mono b9
 have a4 := a4.mono b9
 have c0 := c0.mono b9
 have a5 := a5.mono b9
 have a7 := b9.1 _ _ a7
 obtain ⟨c9, k1, q0⟩ := bind_some q0
 have k2 := hlt.1
 refine X6 Tryz.call196 (G7 rfl rfl rfl) rfl (Zw7 k1 Z9.nil c0 hS) ?_
 rintro _ p3 _ c4 hS ⟨_, rfl, ⟨d9, rfl, b3⟩⟩
 have k3 := b3
 have f6 : RdF yT H p3 d9 c9 := Z9.mono (Q6 Z3) b3
 have b3 := Z9.old b3
 have Z3 := Z3.trans c4
 have hlt := hlt.trans c4.sb
 have a3 := a3.mono c4
 have a6 := a6.mono c4
 have a4 := a4.mono c4
 have a5 := a5.mono c4
 have a7 := c4.1 _ _ a7
 obtain ⟨p4, c5, k4, _, hS⟩ := Yx4.out j7 c2 hlt hS
 have Z3 := Sub.viaM hM zsub c5
 have a3 := o6.mono c5
 have a6 := o7.mono c5
 have a4 := o8.mono c5
 have a7 := c5.1 _ _ p1
 have f6 : RdF yT H p4 d9 c9 := Z9.mono (k4 H _ zsub hM k2) k3
 have b3 := Z9.old f6
 have a5 := o9.mono c5
 have b7 := p0.mono c5
 obtain ⟨_, q0⟩ := gd q0
 obtain ⟨_, _, f8⟩ := b7.some (i := a2) (by omega) (by omega)
 refine Zw4 P6 (Eq.trans rfl f8) rfl (by omega) (by omega) rfl ?_
 refine Zw2 (τ := (Y9 yT)) (v := b6) (u := vA ([d9])) c9 (i := a2) rfl U2 f8 b7 hS rfl rfl (by omega) (by omega) ⟨_, rfl, b3⟩ ?_
 intro _ _ k5 hS
 refine Z1 (Z2 (Z2 (Z0 (Z4 (e2) (by exact f2) rfl (Z4 (b6) rfl rfl ?_)))))
 obtain ⟨_, d6, hS, b2⟩ := k5.freeze hS
 have Z3 := Z3.trans d6
 have a3 := a3.mono d6
 have a5 := a5.mono d6
 have a6 := a6.mono d6
 obtain ⟨b5, k6, q0⟩ := bind_some q0
 refine X6 Tryz.call182 (U9 rfl rfl) rfl (Yc0 k6 a3 b2 hS) ?_
 rintro _ _ _ d1 hS ⟨e0, _, rfl, _, rfl⟩
 have Z3 := Z3.trans d1
 have a3 := a3.mono d1
 have b2 := b2.mono d1
 have a5 := a5.mono d1
 have a6 := a6.mono d1
 refine Z4 (Value.tuple #[e0, vI b5.2]) rfl rfl (W4 (e0) rfl rfl rfl (W4 (vI b5.2) rfl rfl rfl (Z5 (e0) rfl rfl (Z5 (vI b5.2) rfl rfl (Z1 (Z2 (Z0 (Z4 (vI b5.2) rfl rfl ?_))))))))
 refine L7 (k := .i64) (a := b5.2) (b := 0) rfl rfl rfl (Z1 ?_)
 obtain ⟨e3, q0⟩ | ⟨e3, q0⟩ := ic q0
 refine Z8 (bN e3 rfl) (Y8 (Z2 (Z0 ?_)))
 refine X7 S5 (by exact f1) (hS.get (mR mL)) rfl rfl (Z4 (e2) (by exact f2) rfl (Z4 (b6) rfl rfl (Z4 (vI a1) (by exact e9) rfl (Z4 (vI a2) (by exact f0) rfl ?_))))
 refine D9 (τ := (Y6 .i64)) Zs6 ze3 rfl [vI a1, vI a2] [a1, a2] rfl rfl (Zz1 rfl rfl) (We3 rfl rfl) (by decide) (by decide) hS rfl ?_
 intro _ _ _ d2 hS k7
 have Z3 := Z3.trans d2
 have a3 := a3.mono d2
 have b2 := b2.mono d2
 have a5 := a5.mono d2
 have a6 := a6.mono d2
 obtain ⟨b0, k8, q0⟩ := bind_some q0
 refine X6 Tryz.call246 (Ws9 rfl rfl rfl rfl) rfl (Yv9 k8 a5 a6 a3 b2 k7 hS) ?_
 rintro _ _ _ f9 hS ⟨_, _, rfl, ⟨_, rfl, ⟨_, _, rfl, ⟨a8, rfl, c6⟩, ⟨a9, rfl, c7⟩⟩⟩, rfl⟩
 have Z3 := Z3.trans f9
 have b2 := b2.mono f9
 refine Z4 (Value.tuple #[vA ([a8] ++ [a9]), vI b0.2]) rfl rfl (W4 (vA ([a8] ++ [a9])) rfl rfl rfl (W4 (vI b0.2) rfl rfl rfl ?_))
 refine W6 (z := vA ([vN] ++ [vN])) ([vN] ++ [vN]).toArray Zr4.zero rfl hS rfl ?_
 intro _ _ hS
 refine X5 (v := vA ([a8] ++ [a9])) (vs := ([a8] ++ [a9]).toArray) (cs := ([vN] ++ [vN]).toArray) S5 rfl rfl rfl hS rfl (R8 (U0 c6.isOne) (U0 c7.isOne)) rfl ?_
 intro _ hS
 refine Z5 (vI b0.2) rfl rfl (Z1 (Z2 (Z2 (Z0 (Z4 (vI b0.2) rfl rfl ?_)))))
 refine L7 (k := .i64) (a := b0.2) (b := 0) rfl rfl rfl (Z1 ?_)
 obtain ⟨e4, q0⟩ | ⟨e4, q0⟩ := ic q0
 refine Z8 (bN e4 rfl) (Y8 (Z2 (Z0 ?_)))
 refine X7 S5 rfl (hS.get mL) rfl rfl (Z4 (b6) rfl rfl ?_)
 have hS := hS.perm V1
 refine X5 (v := vA ([a8] ++ [a9])) (vs := ([a8] ++ [a9]).toArray) (cs := ([vN] ++ [vN]).toArray) S5 (by exact d3) rfl rfl hS rfl (R8 (U0 c6.isOne) (U0 c7.isOne)) rfl ?_
 intro _ hS
 have hS := hS.perm V1.symm
 refine Z5 (b6) rfl rfl (Z5 (vI 0) rfl rfl (Z1 ?_))
 refine X0 (vs := [vA ([a8] ++ [a9]), b6, vI 0]) Tryz.func180 ⟨⟨_, (by exact d3), V6 S5 (hS.get (mR mL)) rfl⟩, rfl, rfl, trivial⟩ ?_
 obtain rfl := oi q0
 exact ⟨_, _, rfl, Z3, (St.dropA (St.dropA (St.dropA hS))), ⟨_, _, _, rfl, ⟨_, rfl, ⟨_, _, rfl, ⟨_, rfl, c6⟩, ⟨_, rfl, c7⟩⟩⟩, b2, rfl⟩⟩
 refine Y0 (bO e4 rfl) (Z2 (Z0 ?_))
 refine R6 (vA ([vN] ++ [vN])) Yl4 rfl (Z4 (vI b0.2) rfl rfl ?_)
 have hS := hS.perm V1
 refine X5 (v := vA ([vN] ++ [vN])) (vs := ([vN] ++ [vN]).toArray) (cs := ([vN] ++ [vN]).toArray) S5 (by exact d3) rfl rfl hS rfl (R8 (U0 rfl) (U0 rfl)) rfl ?_
 intro _ hS
 have hS := hS.perm V1.symm
 refine Z5 (vN) rfl rfl (Z5 (vI b0.2) rfl rfl (Z1 ?_))
 refine X0 (vs := [vA ([vN] ++ [vN]), vN, vI b0.2]) Tryz.func180 ⟨⟨_, (by exact d3), V6 S5 (hS.get (mR mL)) rfl⟩, rfl, rfl, trivial⟩ ?_
 obtain rfl := oi q0
 exact ⟨_, _, rfl, Z3, (St.dropA (St.dropA (St.dropA hS))), ⟨_, _, _, rfl, ⟨_, rfl, ⟨_, _, rfl, ⟨_, rfl, Z9.nil⟩, ⟨_, rfl, Z9.nil⟩⟩⟩, Z9.nil, rfl⟩⟩
 refine Y0 (bO e3 rfl) (Z2 (Z0 ?_))
 refine R6 (vA ([vN] ++ [vN])) Yl4 rfl (Z4 (vI b5.2) rfl rfl ?_)
 refine X5 (v := vA ([vN] ++ [vN])) (vs := ([vN] ++ [vN]).toArray) (cs := ([vN] ++ [vN]).toArray) S5 (by exact d3) rfl rfl hS rfl (R8 (U0 rfl) (U0 rfl)) rfl ?_
 intro _ hS
 refine Z5 (vN) rfl rfl (Z5 (vI b5.2) rfl rfl (Z1 ?_))
 refine X0 (vs := [vA ([vN] ++ [vN]), vN, vI b5.2]) Tryz.func180 ⟨⟨_, (by exact d3), V6 S5 (hS.get mL) rfl⟩, rfl, rfl, trivial⟩ ?_
 obtain rfl := oi q0
 exact ⟨_, _, rfl, Z3, (St.dropA (St.dropA hS)), ⟨_, _, _, rfl, ⟨_, rfl, ⟨_, _, rfl, ⟨_, rfl, Z9.nil⟩, ⟨_, rfl, Z9.nil⟩⟩⟩, Z9.nil, rfl⟩⟩
def S0 (K : Nat) (a0 : LdT) (b1 : (A8 × Int)) : Nat → MpT → Int → Option (Ex MpT (MpT))
 | 0, _, _ => none
 | k + 1, c0, a4 => (if a4 < (a0.1.length : Int) then (if a4 < 8 then (if 0 < (Y5 b1.1 a4) then ((L0 K (a0.1, a0.2.1, a0.2.2) a4 (Y5 b1.1 a4)).bind fun g0 => ((J8 K c0 a0.2.1 g0).bind fun f3 => S0 K a0 b1 k f3 (a4 + 1))) else S0 K a0 b1 k c0 (a4 + 1)) else none) else some (.go c0))
def S1 (K : Nat) (a0 : LdT) : Nat → MpT → MpT → Option (Ex MpT (MpT))
 | 0, _, _ => none
 | k + 1, [], a8 => some (.go a8)
 | k + 1, b1 :: e5, a8 => ((Zn3 K).bind fun h2 => ((S0 K a0 b1 K h2 0).bind (Ex.elim (fun r => some (.ret r)) (fun s => (fun (e6 : MpT) => ((N0 K a8 e6 b1.2).bind fun g1 => S1 K a0 k e5 g1)) s))))
theorem Yi7 {a0 : LdT} {a8 : MpT} {k : Nat} {zp zq : MpT} {o : Ex MpT (MpT)} (hp : zp.Perm zq) (q : S1 K a0 k zp a8 = some o) : S1 K a0 k zq a8 = some o := by
 exact (Yh7 (K := K) (fun k zs s => S1 K a0 k zs s) (by intros; rw [S1])
  (fun z => by
   refine ⟨fun s => (Zn3 K).bind fun r => (S0 K a0 z K r 0).bind fun e => (match e with | .ret _ => none | .go y => N0 K s y z.2), .const fun r => ?_, fun k zs s => ?_⟩
   cases S0 K a0 z K r 0 with
   | none => exact .fail
   | some e => cases e with
    | ret _ => exact .fail
    | go y => exact Xk7 _ _
   rw [S1]
   cases Zn3 K with
   | none => rfl
   | some r =>
    simp only [Option.bind_some]
    cases hq : S0 K a0 z K r 0 with
    | none => rfl
    | some e => cases e with
     | go y => rfl
     | ret y =>
      have : ∀ (k : Nat) (t : MpT) (i : Int) e, S0 K a0 z k t i = some e → ∃ y, e = .go y := by
       intro k
       induction k with
       | zero => intro t i e h; rw [S0] at h; cases h
       | succ k ih =>
        intro t i e h
        rw [S0] at h
        split at h
        split at h
        split at h
        obtain ⟨_, _, h⟩ := bind_some h
        obtain ⟨_, _, h⟩ := bind_some h
        exact ih _ _ _ h
        exact ih _ _ _ h
        cases h
        cases h; exact ⟨_, rfl⟩
      obtain ⟨y', h⟩ := this _ _ _ _ hq
      cases h) hp k a8).symm.trans q
def M4 (K : Nat) (a0 : LdT) (a1 : MpT) : Option MpT := ((S1 K a0 K a1 ([] : MpT)).bind (Ex.elim (fun r => some r) (fun s => (fun (c1 : MpT) => some c1) s)))
theorem Zu6 {a0 : LdT} {a1 : MpT} {r : MpT} (q0 : M4 K a0 a1 = some r) (k9 : Zn2 (Xs5 K) H s0 a0) (l0 : Q9 .i64 H s1 a1) (hS : St H w L) :
 Calls Tryz.prog 227 #[s0, s1] w (Yt8 .i64 r H L) := by
 obtain ⟨c2, d2, g2, h3, _, rfl, b0, ⟨d7, c8, e7, f4, rfl, a5, a3, a6, a9⟩, g3⟩ := k9
 have Z3 := Sub.refl H
 refine X3 Tryz.func227 rfl Tryz.ntmps227 rfl ?_
 unfold M4 at q0
 refine Z2 (Z0 (Z5 (Value.map none) rfl rfl (Z1 (Z2 (Z0 ?_)))))
 refine Zk3 (k := .i64) hS rfl ?_
 intro m1 _ C3 l1 hS
 refine Z5 (m1) rfl rfl (Z1 (Z2 (Z2 (Z0 (Z4 (s1) rfl rfl ?_)))))
 refine Yk7 Zi9 rfl l0 hS rfl ?_
 intro e8 _ C8 l2 hS
 refine Z1 (Y7 ?_)
 obtain ⟨h4, b5, h5⟩ := bind_some q0
 refine W1 (id := 0) (fun k f w => ∃ (c4 : MpT) (a8 : MpT) (H1 : FH) (b6 : OL) (b2 : OL), S1 K a0 k c4 a8 = some h4 ∧ Sub H H1 ∧ St H1 w (b6 ++ (b2 ++ L)) ∧ Zh4 .i64 H1 e8 c4 none b6 ∧ P7 .i64 m1 a8 b2 ∧ Zx4 H1 f4 (Yj6 K a0) ∧ Z9 (Y6 .i64) H1 d7 a0.1 ∧ Z9 (Y6 .i64) H1 c8 a0.2.1 ∧ Z9 (Ze6 .i64) H1 e7 a0.2.2 ∧ H1 c2 = some (.cells g2 h3) ∧ tv f 0 = vQ c2 d2 ∧ tv f 5 = m1 ∧ tv f 12 = e8) (fun f w => ∃ (c1 : MpT) (H1 : FH) (c9 : OL) (d3 : OL), h4 = .go c1 ∧ Sub H H1 ∧ St H1 w (c9 ++ (d3 ++ L)) ∧ Zh4 .i64 H1 e8 ([] : MpT) none c9 ∧ P7 .i64 m1 c1 d3 ∧ tv f 5 = m1) rfl ?_ ?_ K ?_ ?_
 rintro f w ⟨c4, a8, H1, b6, b2, b5, _⟩
 rw [S1] at b5; cases b5
 rintro k _ _ l3 l4 ⟨c4, a8, j8, b6, b2, b5, Z3, hS, d8, a7, a9, a5, a3, a6, b0, e9, f0, d4⟩
 refine Z2 (Z0 ?_)
 refine Yr2 (by exact d4) d8 hS rfl ?_ ?_
 intro j9; subst j9
 rw [S1] at b5
 refine W4 (vB false) rfl rfl rfl (Z1 (Z2 (Z8 rfl ?_)))
 refine W0 rfl ?_
 obtain rfl := oi b5
 exact l4 _ _ ⟨a8, j8, b6, b2, rfl, Z3, hS, d8, a7, f0⟩
 intro b1 e5 _ f1 k0 b4 hS
 replace b5 := Yi7 k0 b5
 rw [S1] at b5
 refine W4 (vB true) rfl rfl rfl (Z1 (Z2 (Y0 rfl (Y8 (Y7 (Z2 (Z0 ?_)))))))
 refine Yk5 (by exact d4) b4 hS rfl (W4 (vA (Z7 .i64 b1.1)) rfl rfl rfl (W4 (vI b1.2) rfl rfl rfl ?_))
 refine W6 (z := vA (Z7 .i64 (fun _ => 0))) (Z7 .i64 (fun _ => 0)).toArray Zr2.zero rfl hS rfl ?_
 intro f8 _ hS
 refine X5 (v := vA (Z7 .i64 b1.1)) (vs := (Z7 .i64 b1.1).toArray) (cs := (Z7 .i64 (fun _ => 0)).toArray) K2 rfl rfl rfl hS rfl (S4 .i64 b1.1) rfl ?_
 intro _ hS
 refine Z5 (vI b1.2) rfl rfl (Z1 (Z2 (Z0 ?_)))
 obtain ⟨h2, k1, b5⟩ := bind_some b5
 refine T5 Tryz.call270 Wu4 rfl (Yn0 k1  hS) ?_
 rintro _ _ ⟨j6, _, _, rfl, d0, hS, k2⟩
 refine ⟨_, rfl, ?_⟩
 have Z3 := Z3.trans d0
 have a5 := a5.mono d0
 have a3 := a3.mono d0
 have a6 := a6.mono d0
 have a9 := a9.mono d0
 have a7 := a7.mono d0
 have b4 := b4.mono d0
 have b0 := d0.1 _ _ b0
 refine Z5 (j6) rfl rfl (Z1 (Z2 (Z2 (Z0 (Z4 (vQ c2 d2) (by exact e9) rfl (R9 rfl rfl (Y2 Wr3 rfl rfl ?_)))))))
 refine Y3 (d7) M9 rfl (hS.froz _ _ b0) (g3 0 (show 0 < 4 by decide)) rfl ?_
 have l6 := a5.bound
 refine W7 Q0 rfl a5 rfl (Z4 (vI 0) rfl rfl (Z1 (Y7 ?_)))
 obtain ⟨i1, b7, hS, h6⟩ := k2.freeze hS
 have Z3 := Z3.trans b7
 have a5 := a5.mono b7
 have a3 := a3.mono b7
 have a6 := a6.mono b7
 have a9 := a9.mono b7
 have a7 := a7.mono b7
 have b4 := b4.mono b7
 have b0 := b7.1 _ _ b0
 obtain ⟨h7, b3, f5⟩ := bind_some b5
 refine W1 (id := 2) (fun k f w => ∃ (c0 : MpT) (a4 : Int) (H1 : FH) (b8 : Value), S0 K a0 b1 k c0 a4 = some h7 ∧ Sub H H1 ∧ St H1 w ([(f8, cA (Z7 .i64 b1.1) 222)] ++ (f1 ++ (b2 ++ L))) ∧ 0 ≤ a4 ∧ Q9 .i64 H1 b8 c0 ∧ Zx4 H1 f4 (Yj6 K a0) ∧ Z9 (Y6 .i64) H1 d7 a0.1 ∧ Z9 (Y6 .i64) H1 c8 a0.2.1 ∧ Z9 (Ze6 .i64) H1 e7 a0.2.2 ∧ P7 .i64 m1 a8 b2 ∧ Zh4 .i64 H1 e8 e5 (some b1) f1 ∧ H1 c2 = some (.cells g2 h3) ∧ tv f 0 = vQ c2 d2 ∧ tv f 5 = m1 ∧ tv f 6 = vP f8 ∧ tv f 7 = vI b1.2 ∧ tv f 8 = b8 ∧ tv f 12 = e8 ∧ tv f 23 = vI (a0.1.length : Int) ∧ tv f 24 = vI a4) (fun f w => ∃ (e6 : MpT) (H1 : FH) (e4 : Value), h7 = .go e6 ∧ Sub H H1 ∧ St H1 w ([(f8, cA (Z7 .i64 b1.1) 222)] ++ (f1 ++ (b2 ++ L))) ∧ Q9 .i64 H1 e4 e6 ∧ Zx4 H1 f4 (Yj6 K a0) ∧ Z9 (Y6 .i64) H1 d7 a0.1 ∧ Z9 (Y6 .i64) H1 c8 a0.2.1 ∧ Z9 (Ze6 .i64) H1 e7 a0.2.2 ∧ P7 .i64 m1 a8 b2 ∧ Zh4 .i64 H1 e8 e5 (some b1) f1 ∧ H1 c2 = some (.cells g2 h3) ∧ tv f 0 = vQ c2 d2 ∧ tv f 5 = m1 ∧ tv f 7 = vI b1.2 ∧ tv f 8 = e4 ∧ tv f 12 = e8) rfl ?_ ?_ K ?_ ?_
 rintro f w ⟨c0, a4, H1, b8, b3, _⟩
 rw [S0] at b3; cases b3
 rintro k _ _ j7 l5 ⟨c0, a4, h8, b8, b3, Z3, hS, _, d9, a9, a5, a3, a6, a7, b4, b0, c3, e1, d1, e2, e3, d5, d6, c5⟩
 rw [S0] at b3
 refine Z2 (Z0 ?_)
 refine V5 (k := .i64) (a := a4) (b := (a0.1.length : Int)) (by exact c5) (by exact d6) rfl (Z1 (Z2 ?_))
 obtain ⟨g4, b3⟩ | ⟨g4, b3⟩ := ic b3
 refine Y0 (bT g4 rfl) (Y8 (Z2 (Y7 (Z2 (Z0 (Z4 (vI a4) (by exact c5) rfl (Z5 (vI a4) rfl rfl (Z1 (Z2 (Z0 (Z4 (vI a4) rfl rfl ?_)))))))))))
 obtain ⟨_, b3⟩ := gd b3
 refine V2 Zm2 (by exact d1) rfl (by omega) (by omega) rfl ?_
 refine Y3 (vI (Y5 b1.1 a4)) ty3 rfl (hS.get (o := cA (Z7 .i64 b1.1) 222) mL) (J2 ([]) ([]) (by omega) (by omega)) rfl ?_
 refine Zi5 (k := .i64) (a := (Y5 b1.1 a4)) (b := 0) rfl rfl rfl (Z1 ?_)
 obtain ⟨g5, b3⟩ | ⟨g5, b3⟩ := ic b3
 refine Y0 (bT g5 rfl) ?_
 obtain ⟨g0, i2, b3⟩ := bind_some b3
 obtain ⟨f3, i3, b3⟩ := bind_some b3
 refine U1 12 (P0 [mE 31 (b8), mE 32 (vQ c2 d2), mE 33 (vQ c2 d2), mE 34 (vQ c2 (d2 + 1)), mE 35 (c8), mE 36 (vQ c2 d2), mE 37 (vI a4), mE 38 (vI a4), mE 39 (vQ f8 (0 + (a4).toNat * 1)), mE 40 (vI (Y5 b1.1 a4)), (41, MP.rep (R.mp .i64) (g0)), (42, MP.mp .i64 (f3))]) [] mixed rfl rfl rfl hS (Z6 rfl ?_ (Z6 rfl ?_ (Z6 rfl ?_ (Z6 rfl ?_ (Z6 rfl ?_ (Z6 rfl ?_ (Z6 rfl ?_ (Z6 rfl ?_ (Z6 rfl ?_ (Z6 rfl ?_ (Z6 rfl ?_ (Z6 rfl ?_ U7)))))))))))) ?_
 exact W5 fun S B => Z4 (b8) (evT (B 8 rfl) e3) rfl (qz S)
 exact W5 fun S B => Z4 (vQ c2 d2) (evT (B 0 rfl) c3) rfl (qz S)
 exact X2 fun S V => R9 (eM (V 1 32 rfl rfl)) rfl (qz S)
 exact X2 fun S V => Y2 Xx5 (eM (V 2 33 rfl rfl)) rfl (qz S)
 exact E6 fun s S V => Y3 (c8) M9 (eM (V 3 34 rfl rfl)) (S.froz _ _ (s.1 _ _ b0)) (g3 1 (show 1 < 4 by decide)) rfl (qz S)
 exact W5 fun S B => Z4 (vQ c2 d2) (evT (B 0 rfl) c3) rfl (qz S)
 exact W5 fun S B => Z4 (vI a4) (evT (B 9 rfl) rfl) rfl (qz S)
 exact W5 fun S B => Z4 (vI a4) (evT (B 9 rfl) rfl) rfl (qz S)
 exact G4 fun S B V => V2 Zm2 (evT (B 6 rfl) d1) (eM (V 7 38 rfl rfl)) (by omega) (by omega) rfl (qz S)
 exact X2 fun S V => Y3 (vI (Y5 b1.1 a4)) ty3 (eM (V 8 39 rfl rfl)) (S.get (o := cA (Z7 .i64 b1.1) 222) (mR mL)) (J2 ([]) ([]) (by omega) (by omega)) rfl (qz S)
 intro _ _ _ _ e0 hS _ f6 hcq
 have a5 := a5.mono e0
 have a3 := a3.mono e0
 have a6 := a6.mono e0
 have a9 := a9.mono e0
 have b0 := e0.1 _ _ b0
 refine X6 Tryz.call271 (G7 (eM (f6 5 36 rfl rfl)) (eM (f6 6 37 rfl rfl)) (eM (f6 9 40 rfl rfl))) rfl (Yo6 i2 ⟨_, _, _, _, _, rfl, b0, ⟨_, _, _, _, rfl, a5, a3, a6, a9⟩, g3⟩ hS) ?_
 rintro _ _ _ i4 hS i5
 exact qn i4 rfl hS i5
 intro _ _ k3 _ g7 hS _ f7 hcq
 have Z3 := Sub.refl k3
 have a3 := a3.mono g7
 have d9 := d9.mono g7
 obtain ⟨_, k4, i6⟩ := gvR (f7 10 41 rfl rfl)
 refine T5 Tryz.call128 (G7 (eM (f7 0 31 rfl rfl)) (eM (f7 4 35 rfl rfl)) k4) rfl (Zq9 i3 d9 a3 i6 hS) ?_
 rintro _ _ ⟨_, _, _, rfl, i7, hS, i8⟩
 refine ⟨_, rfl, ?_⟩
 have Z3 := Z3.trans i7
 obtain ⟨_, i9, hS, j0⟩ := i8.freeze hS
 have Z3 := Z3.trans i9
 exact Z1 ⟨42, _, _, rfl, rfl, Z3, hS, j0⟩
 intro _ k5 h9 b9 hS c6 j1 hcq
 have hS : St h9 k5 ([(f8, cA (Z7 .i64 b1.1) 222)] ++ (f1 ++ (b2 ++ L))) := hS
 have Z3 := Z3.trans b9
 have a5 := a5.mono b9
 have a3 := a3.mono b9
 have a6 := a6.mono b9
 have a9 := a9.mono b9
 have a7 := a7.mono b9
 have b4 := b4.mono b9
 have b0 := b9.1 _ _ b0
 obtain ⟨i0, k6, j2⟩ := gvM (j1 11 42 (by decide) rfl)
 refine Z5 (i0) (by exact k6) rfl (Z1 (X4 (Z0 ?_)))
 refine W8 (a4 + 1) (by exact (evT (c6 24 rfl) c5)) rfl (IntWalk.i64_in _ (by omega)) rfl (Z4 (vI (a4 + 1)) rfl rfl (Z1 ?_))
 exact j7 _ _ ⟨f3, (a4 + 1), h9, i0, b3, Z3, hS, (by omega), j2, a9, a5, a3, a6, a7, b4, b0, (evT (c6 0 rfl) c3), (evT (c6 5 rfl) e1), (evT (c6 6 rfl) d1), (evT (c6 7 rfl) e2), rfl, (evT (c6 12 rfl) d5), (evT (c6 23 rfl) d6), rfl⟩
 refine Z8 (bF g5 rfl) (Y8 (X4 (Z0 ?_)))
 refine W8 (a4 + 1) (by exact c5) rfl (IntWalk.i64_in _ (by omega)) rfl (Z4 (vI (a4 + 1)) rfl rfl (Z1 ?_))
 exact j7 _ _ ⟨c0, (a4 + 1), h8, b8, b3, Z3, hS, (by omega), d9, a9, a5, a3, a6, a7, b4, b0, c3, e1, d1, e2, e3, d5, d6, rfl⟩
 refine Z8 (bF g4 rfl) ?_
 refine W0 rfl ?_
 obtain rfl := oi b3
 exact l5 _ _ ⟨c0, h8, b8, rfl, Z3, hS, d9, a9, a5, a3, a6, a7, b4, b0, c3, e1, e2, e3, d5⟩
 exact ⟨h2, 0, i1, j6, b3, Z3, hS, (by omega), h6, a9, a5, a3, a6, a7, b4, b0, e9, f0, rfl, rfl, rfl, d4, rfl, rfl⟩
 rintro _ _ ⟨e6, _, e4, rfl, Z3, hS, j3, a9, a5, a3, a6, a7, b4, b0, g8, f2, g9, h0, g6⟩
 dsimp only [Ex.elim] at f5
 refine Z0 (Z4 (m1) (by exact f2) rfl (Z4 (e4) (by exact h0) rfl (Z4 (vI b1.2) (by exact g9) rfl ?_)))
 obtain ⟨g1, j4, f5⟩ := bind_some f5
 have hS := hS.perm Q8
 refine T5 Tryz.call129 (G7 rfl rfl rfl) rfl (Zw5 j4 a7 j3 hS) ?_
 rintro _ _ ⟨k7, k8, rfl, c7, hS, j5⟩
 refine ⟨_, rfl, ?_⟩
 have Z3 := Z3.trans c7
 have a5 := a5.mono c7
 have a3 := a3.mono c7
 have a6 := a6.mono c7
 have a9 := a9.mono c7
 have b4 := b4.mono c7
 have b0 := c7.1 _ _ b0
 have hS := hS.perm Q8.symm
 refine Z1 (X4 ?_)
 have hS := St.dropA hS
 exact l3 _ _ ⟨e5, g1, k7, f1, k8, f5, Z3, hS, b4.drop, j5, a9, a5, a3, a6, b0, g8, f2, g6⟩
 exact ⟨a1, ([] : MpT), H, C8, C3, b5, Z3, hS, l2, l1, a9, a5, a3, a6, b0, rfl, rfl, rfl⟩
 rintro _ _ ⟨c1, _, c9, d3, rfl, Z3, hS, _, f9, h1⟩
 dsimp only [Ex.elim] at h5
 refine Z2 (Z0 (Z4 (m1) (by exact h1) rfl (Z5 (m1) rfl rfl (Z1 ?_))))
 refine X0 (vs := [m1]) Tryz.func227 ⟨rfl, trivial⟩ ?_
 have hS := hS.perm V1
 have hS := St.dropMid hS
 obtain rfl := oi h5
 exact ⟨_, _, _, rfl, Z3, hS, f9⟩
theorem Yr1 {a0 : Int} {a1 : Int} {r : (List MpT)} (q0 : Zo7 K a0 a1 = some r) (hS : St H w L) :
 Calls Tryz.prog 184 #[vI a0, vI a1] w (T2 (fun v G => RdN (Y9 yT) H G v r []) H L) := by
 have Z3 := Sub.refl H
 refine X3 Tryz.func184 rfl Tryz.ntmps184 rfl ?_
 unfold Zo7 at q0
 refine Z2 (Z0 (Z5 (vN) rfl rfl (Z1 (Z2 (Z0 ?_)))))
 refine Zq2 (τ := (Zb7 H (Y9 yT))) P6 I0 rfl hS rfl ?_
 intro u1 _ C3 c1 hS
 have c1 := N1.start c1
 refine Z5 (u1) rfl rfl (Z1 (Z2 (Z2 (Z0 (Z4 (vI a1) rfl rfl (Z4 (vI 0) rfl rfl (Z1 (Y7 ?_))))))))
 obtain ⟨c2, a7, c3⟩ := bind_some q0
 refine W1 (id := 0) (fun k f w => ∃ (a4 : Int) (a3 : (List MpT)) (H1 : FH) (b0 : OL) (a8 : Value), D3 K a0 a1 k a4 a3 = some c2 ∧ Sub H H1 ∧ St H1 w (b0 ++ L) ∧ N1 (Zb7 H (Y9 yT)) 45 H1 a8 a3 b0 ([] : List Nat) ∧ tv f 0 = vI a0 ∧ tv f 5 = a8 ∧ tv f 8 = vI a1 ∧ tv f 9 = vI a4) (fun f w => ∃ (a9 : (List MpT)) (H1 : FH) (b1 : OL) (a5 : Value), c2 = .go a9 ∧ Sub H H1 ∧ St H1 w (b1 ++ L) ∧ N1 (Zb7 H (Y9 yT)) 45 H1 a5 a9 b1 ([] : List Nat) ∧ tv f 5 = a5) rfl ?_ ?_ K ?_ ?_
 rintro f w ⟨a4, a3, H1, b0, a8, a7, _⟩
 rw [D3] at a7; cases a7
 rintro k _ _ d5 d6 ⟨a4, a3, c8, b0, a8, a7, Z3, hS, a6, b4, b5, b6, b3⟩
 rw [D3] at a7
 refine Z2 (Z0 ?_)
 refine V5 (k := .i64) (a := a4) (b := a1) (by exact b3) (by exact b6) rfl (Z1 (Z2 ?_))
 obtain ⟨b9, a7⟩ | ⟨b9, a7⟩ := ic a7
 refine Y0 (bT b9 rfl) (Y8 (Z2 (Y7 (Z2 (Z0 (Z4 (vI a4) (by exact b3) rfl (Z5 (vI a4) rfl rfl (Z1 (Z0 (Z4 (a8) (by exact b5) rfl (Z4 (vI a0) (by exact b4) rfl (Z4 (vI a4) rfl rfl ?_))))))))))))
 refine W8 (IntKind.i64.wrap (a0 + a4)) rfl rfl rfl rfl ?_
 obtain ⟨r7, d7, a7⟩ := bind_some a7
 refine X6 Tryz.call248 (U9 rfl rfl) rfl (Yn3 d7  hS) ?_
 rintro _ H7 _ c6 hS ⟨_, rfl, ⟨b7, rfl, b2⟩⟩
 have c9 := b2
 have d8 : RdF yT H H7 b7 r7 := Z9.mono (Q6 Z3) b2
 have b2 := Z9.old b2
 have a6 := N1.keep (Zt0 H (G3 _)) a6 c6 (RdF.rootsOut c9) (Z9.rootsIn b2) (Zf4 _)
 have Z3 := Z3.trans c6
 refine D9 (τ := M3 (Zb7 H (Y9 yT))) P6 I0 rfl [vA ([b7])] [(r7, P5 [b7])] rfl rfl (K6 rfl) (Zi6 ⟨⟨_, rfl, d8⟩, rfl⟩) (by decide) (by decide) hS rfl ?_
 intro _ d9 _ c4 hS d0
 have Z3 := Z3.trans c4
 have a6 := a6.mono c4
 obtain ⟨d1, a7⟩ := gd a7
 refine Yw3 (τ := (Zb7 H (Y9 yT))) (R := P5 [b7]) Yl7 rfl rfl rfl a6 hS d0 (by have h := d1; simpa using h) rfl ?_
 intro c7 _ e0 d2 hS
 refine Z5 (c7) rfl rfl (Z1 (X4 (Z0 ?_)))
 refine W8 (IntKind.i64.wrap (a4 + 1)) (by exact b3) rfl rfl rfl (Z4 (vI (IntKind.i64.wrap (a4 + 1))) rfl rfl (Z1 ?_))
 exact d5 _ _ ⟨(IntKind.i64.wrap (a4 + 1)), (a3 ++ [r7]), d9, e0, c7, a7, Z3, hS, d2, b4, rfl, b6, rfl⟩
 refine Z8 (bF b9 rfl) ?_
 refine W0 rfl ?_
 obtain rfl := oi a7
 exact d6 _ _ ⟨a3, c8, b0, a8, rfl, Z3, hS, a6, b5⟩
 exact ⟨0, ([] : List MpT), H, C3, u1, a7, Z3, hS, c1, rfl, rfl, rfl, rfl⟩
 rintro _ _ ⟨a9, _, b1, a5, rfl, Z3, hS, b8, c0⟩
 dsimp only [Ex.elim] at c3
 refine Z2 (Z0 (Z4 (a5) (by exact c0) rfl (Z5 (a5) rfl rfl (Z1 ?_))))
 refine X0 (vs := [a5]) Tryz.func184 ⟨rfl, trivial⟩ ?_
 obtain ⟨e1, d3, hS, c5⟩ := N1.freezeN (τ := (Y9 yT)) (H0 := H) (G3 _) b8 hS Z3
 have d4 : RdF (Y9 yT) H e1 a5 a9 := RdN.old c5
 have e8 := Z9.old d4
 have Z3 := Z3.trans d3
 obtain rfl := oi c3
 exact ⟨_, _, rfl, Z3, hS, c5⟩
def Zk8 (K : Nat) (a0 : MpT) (a1 : ((List Int) × (List MpT))) : Option Bool := ((Ze5 K a0).bind fun r5 => ((Zl6 K (a1.1, a1.2) r5).bind fun a6 => some (decide (0 < (a6.length : Int)))))
theorem Yp0 {a0 : MpT} {a1 : ((List Int) × (List MpT))} {r : Bool} (q0 : Zk8 K a0 a1 = some r) (b4 : Z9 yT H s0 a0) (b5 : Zn2 (Zp1 (Y9 (Y6 .i64)) (Y9 (Y9 yT))) H s1 a1) (hS : St H w L) :
 Calls Tryz.prog 124 #[vA ([s0]), s1] w (T2 (fun v G => R.bool.p G v r) H L) := by
 obtain ⟨_, _, _, _, _, rfl, a5, ⟨_, _, rfl, ⟨_, rfl, a3⟩, ⟨_, rfl, a4⟩⟩, a9⟩ := b5
 have Z3 := Sub.refl H
 refine X3 Tryz.func124 rfl Tryz.ntmps124 rfl ?_
 unfold Zk8 at q0
 refine Z2 (Z0 ?_)
 refine S3 (v := vA ([s0])) ([s0]).toArray rfl rfl hS rfl ?_
 intro _ _ hS
 refine Z5 (vB false) rfl rfl (Z1 (Z2 (Z0 ?_)))
 refine X7 U2 rfl (hS.get mL) rfl rfl ?_
 obtain ⟨_, b6, q0⟩ := bind_some q0
 refine T5 Tryz.call110 (S2 rfl) rfl (Zj2 b6 b4 hS) ?_
 rintro _ _ ⟨_, _, _, rfl, a7, hS, b7⟩
 refine ⟨_, rfl, ?_⟩
 have Z3 := Z3.trans a7
 have a3 := a3.mono a7
 have a4 := a4.mono a7
 have a5 := a7.1 _ _ a5
 obtain ⟨_, a8, hS, b0⟩ := b7.freeze hS
 have Z3 := Z3.trans a8
 have a3 := a3.mono a8
 have a4 := a4.mono a8
 have a5 := a8.1 _ _ a5
 obtain ⟨a6, b1, q0⟩ := bind_some q0
 refine T5 Tryz.call116 (U9 rfl rfl) rfl (Yv7 b1 ⟨_, _, _, _, _, rfl, a5, ⟨_, _, rfl, ⟨_, rfl, a3⟩, ⟨_, rfl, a4⟩⟩, a9⟩ b0 hS) ?_
 rintro _ _ ⟨_, _, _, rfl, b2, hS, b3⟩
 refine ⟨_, rfl, ?_⟩
 have Z3 := Z3.trans b2
 refine Wk5 Zi9 rfl b3 hS rfl ?_
 refine Zi5 (k := .i64) (a := (a6.length : Int)) (b := 0) rfl rfl rfl (Z5 (vB (decide (0 < (a6.length : Int)))) rfl rfl (Z1 ?_))
 refine X0 (vs := [vB (decide (0 < (a6.length : Int)))]) Tryz.func124 ⟨rfl, trivial⟩ ?_
 obtain rfl := oi q0
 exact ⟨_, _, rfl, Z3, (St.dropA (St.dropA hS)), rfl⟩
end Go.Proofs.YtabofnehiclkiaaGreat
