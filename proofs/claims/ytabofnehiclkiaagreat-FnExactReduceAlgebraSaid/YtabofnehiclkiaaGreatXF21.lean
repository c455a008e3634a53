/- Walks of functions: each computes its pure function, if that gives a value. -/
import Derived.Test.YtabofnehiclkiaaGreatXTy
import Derived.Test.YtabofnehiclkiaaGreatXF6
import Derived.Test.YtabofnehiclkiaaGreatXF12
import Derived.Test.YtabofnehiclkiaaGreatXF2
import Derived.Test.YtabofnehiclkiaaGreatXF1
import Derived.Test.YtabofnehiclkiaaGreatXF7
import Derived.Test.YtabofnehiclkiaaGreatXF3
import Derived.Test.YtabofnehiclkiaaGreatXF18
import Derived.Test.YtabofnehiclkiaaGreatXF9
import Derived.Test.YtabofnehiclkiaaGreatXF19
import Derived.Test.YtabofnehiclkiaaGreatXF20
import Derived.Test.YtabofnehiclkiaaGreatXX
import Derived.Test.YtabofnehiclkiaaGreatXF15
import Derived.Test.YtabofnehiclkiaaGreatXF16
import Derived.Test.YtabofnehiclkiaaGreatXF13
namespace Go.Proofs.YtabofnehiclkiaaGreat
open Go
set_option linter.unusedSimpArgs false
set_option linter.unusedVariables false
set_option maxRecDepth 100000
set_option maxHeartbeats 8000000
variable {K : Nat} {H : FH} {w : World} {L : OL} {s0 s1 s2 s3 s4 s5 s6 : Value}
theorem Yh1 {a0 : ((List Int) × (List MpT))} {a1 : Int} {a2 : Int} {r : (((List Int) × (List MpT)) × (List MpT) × Int)} (q0 : Zg1 K a0 a1 a2 = some r) (hs0 : Zn2 (Zp1 (Y9 (Y6 .i64)) (Y9 (Y9 yT))) H s0 a0) (hM : ∀ b, H.memo b = none) (hS : St H w L) :
 Calls Tryz.prog 187 #[s0, vI a1, vI a2] w (T2 (fun v G => ∃ v0 v1 v2, v = .tuple #[v0, v1, v2] ∧ Yb3 H G v0 v1 r.1 r.2.1 ∧ v2 = .int .i64 r.2.2) H L) := by
 obtain ⟨e8, f5, o2, p8, _, rfl, a7, ⟨_, _, rfl, ⟨g2, rfl, a3⟩, ⟨h3, rfl, a4⟩⟩, h4⟩ := hs0
 have Z3 := Sub.refl H
 refine X3 Tryz.func187 rfl Tryz.ntmps187 rfl ?_
 unfold Zg1 at q0
 refine Z2 (Z0 ?_)
 refine S3 (v := vQ e8 f5) ([vQ e8 f5]).toArray rfl rfl hS rfl ?_
 intro b1 _ hS
 refine W6 (z := vA ([vN] ++ [vN])) ([vN] ++ [vN]).toArray Zr4.zero rfl hS rfl ?_
 intro b4 _ hS
 refine Z5 (vN) rfl rfl (Z5 (vI 0) rfl rfl (Z1 (Z2 (Z0 ?_))))
 refine Y3 (vQ e8 f5) Yo5 rfl (hS.get (mR mL)) rfl rfl (R9 rfl rfl (Y2 R4 rfl rfl ?_))
 refine Y3 (g2) M9 rfl (hS.froz _ _ a7) (h4 0 (show 0 < 2 by decide)) rfl ?_
 have bl7 := a3.bound
 refine W7 Q0 rfl a3 rfl ?_
 obtain ⟨r9, hr9, q0⟩ := bind_some q0
 refine T5 Tryz.call250 (S2 rfl) rfl (Xb9 hr9  hS) ?_
 rintro _ _ ⟨m9, _, _, rfl, p1, hS, h5⟩
 refine ⟨_, rfl, ?_⟩
 have Z3 := Z3.trans p1
 have a3 := a3.mono p1
 have a4 := a4.mono p1
 have a7 := p1.1 _ _ a7
 refine W6 (z := vN) ([vN]).toArray Vi4.zero rfl hS rfl ?_
 intro h2 _ hS
 refine Zb3 (v := m9) (cs := ([vN]).toArray) (cs' := ([m9]).toArray) Yn4 rfl rfl hS h5.isOne rfl (nl rfl) rfl ?_
 intro _ hS
 refine Z1 (Z2 (Z0 ?_))
 refine Y3 (vQ e8 f5) Yo5 rfl (hS.get (mR (mR (mR mL)))) rfl rfl (R9 rfl rfl (Y2 P2 rfl rfl ?_))
 refine Y3 (h3) Zd6 rfl (hS.froz _ _ a7) (h4 1 (show 1 < 2 by decide)) rfl (Z4 (vI a1) rfl rfl ?_)
 obtain ⟨_, q0⟩ := gd q0
 obtain ⟨_, q0⟩ := gd q0
 obtain ⟨_, _, _, _, _, w4, w6, ⟨r0, rfl, p9⟩, w7⟩ := a4.elem (i := a1) (by omega) (by omega)
 refine X9 P6 rfl rfl w4 rfl (by omega) (by omega) rfl ?_
 refine W9 ([r0]) U2 rfl (hS.froz _ _ w6) rfl w7 rfl ?_
 obtain ⟨k5, w8, q0⟩ := bind_some q0
 refine T5 Tryz.call110 (S2 rfl) rfl (Zj2 w8 p9 hS) ?_
 rintro _ _ ⟨l4, _, _, rfl, l5, hS, j3⟩
 refine ⟨_, rfl, ?_⟩
 have Z3 := Z3.trans l5
 have a3 := a3.mono l5
 have a4 := a4.mono l5
 have h5 := h5.mono l5
 have a7 := l5.1 _ _ a7
 refine Z5 (l4) rfl rfl (Z1 (Z2 (Z0 (Z4 (l4) rfl rfl (Z4 (vI a2) rfl rfl ?_)))))
 obtain ⟨l2, w9, q0⟩ := bind_some q0
 refine X6 Tryz.call251 (S2 rfl) rfl (Zd8 w9  hS) ?_
 rintro _ _ _ j4 hS ⟨_, rfl, rfl⟩
 have Z3 := Z3.trans j4
 have a3 := a3.mono j4
 have a4 := a4.mono j4
 have h5 := h5.mono j4
 have j3 := j3.mono j4
 have a7 := j4.1 _ _ a7
 refine Yx6 (a := l2) Zi9 rfl rfl j3 hS rfl (Z5 (vI (Q1 k5 l2)) rfl rfl (Z1 (Z2 (Z0 (Z4 (l4) rfl rfl (Z4 (vI a2) rfl rfl ?_))))))
 obtain ⟨p0, x0, q0⟩ := bind_some q0
 refine X6 Tryz.call251 (S2 rfl) rfl (Zd8 x0  hS) ?_
 rintro _ _ _ j5 hS ⟨_, rfl, rfl⟩
 have Z3 := Z3.trans j5
 have a3 := a3.mono j5
 have a4 := a4.mono j5
 have h5 := h5.mono j5
 have j3 := j3.mono j5
 have a7 := j5.1 _ _ a7
 refine Xx6 (a := p0) Zi9 rfl rfl j3 hS ?_
 intro _ _ o3 hS
 refine Z1 (Z2 (Z0 ?_))
 refine Y3 (m9) Yn4 rfl (hS.get (mR mL)) rfl rfl (Z4 (vI a1) rfl rfl ?_)
 refine Zk3 (k := .i64) hS rfl ?_
 intro m30 _ _ x1 hS
 obtain ⟨_, q0⟩ := gd q0
 obtain ⟨_, _, q1⟩ := h5.some (i := a1) (by omega) (by omega)
 refine Zw4 Yj5 (Eq.trans rfl q1) rfl (by omega) (by omega) rfl ?_
 obtain ⟨_, j6, hS, x2⟩ := x1.freeze hS
 have Z3 := Z3.trans j6
 have a3 := a3.mono j6
 have a4 := a4.mono j6
 have h5 := h5.mono j6
 have o3 := o3.mono j6
 have a7 := j6.1 _ _ a7
 have hS := hS.perm Q8
 refine Zw2 (τ := (Ze6 .i64)) (v := m9) (u := m30) ([] : MpT) (i := a1) rfl Xi8 q1 h5 hS rfl rfl (by omega) (by omega) x2.relv ?_
 intro _ C41 g3 hS
 have hS := hS.perm Q8.symm
 refine Z1 (Z2 (Z0 ?_))
 refine Zk3 (k := .i64) hS rfl ?_
 intro l6 _ C45 i2 hS
 refine Z5 (l6) rfl rfl (Z1 (Z2 ?_))
 have hS := hS.perm V1
 obtain ⟨n6, j7, hS, j8⟩ := o3.freeze hS
 have Z3 := Z3.trans j7
 have a3 := a3.mono j7
 have a4 := a4.mono j7
 have g3 := g3.mono j7
 have i2 := i2.mono j7
 have a7 := j7.1 _ _ a7
 have zsub := Z3
 have z51 : Q9 .i64 n6.noM l4 (Zk5 k5 p0) := j8
 have z52 : Z9 (Y6 .i64) n6.noM g2 a0.1 := a3
 have z53 : Z9 (Y9 yT) n6.noM h3 a0.2 := a4
 have z54 : W3 (Ze6 .i64) 107 n6.noM m9 (r9.set (a1).toNat ([] : MpT)) C41 := g3
 have z55 : n6.noM e8 = some (.cells o2 p8) := a7
 have hS := hS.perm Q8
 obtain ⟨H56, i3, hS, o4, x3⟩ := W3.lend g3 hS
 have Z3 := Z3.trans i3
 have j8 := j8.mono i3
 have a3 := a3.mono i3
 have a4 := a4.mono i3
 have i2 := i2.mono i3
 have a7 := i3.1 _ _ a7
 have hlt := Sb.refl H56
 obtain ⟨o0, r1, q0⟩ := bind_some q0
 obtain ⟨l3, r2, q0⟩ := bind_some q0
 obtain ⟨o1, r3, q0⟩ := bind_some q0
 have U5 := Z3
 refine U1 12 (P0 [mE 48 (l6), mE 49 (vQ e8 f5), mE 50 (vQ e8 f5), mE 51 (vQ e8 (f5 + 0)), mE 52 (g2), mE 53 (l4), mE 54 (m9), (55, MP.mp .i64 (o0)), mE 56 (vI (Q1 k5 l2)), mE 57 (vI l3), mE 58 (vI (IntKind.i64.wrap (0 - l3))), mE 59 (vI o1)]) [] mixed rfl rfl rfl hS (Z6 rfl ?_ (Z6 rfl ?_ (Z6 rfl ?_ (Z6 rfl ?_ (Z6 rfl ?_ (Z6 rfl ?_ (Z6 rfl ?_ (Z6 rfl ?_ (Z6 rfl ?_ (Z6 rfl ?_ (Z6 rfl ?_ (Z6 rfl ?_ U7)))))))))))) ?_
 exact W5 fun S B => Z4 (l6) (evT (B 12 rfl) rfl) rfl (qz S)
 exact W5 fun S B => Y3 (vQ e8 f5) Yo5 (evT (B 3 rfl) rfl) (S.get (mR (mR (mR (mR mL))))) rfl rfl (qz S)
 exact X2 fun S V => R9 (eM (V 1 49 rfl rfl)) rfl (qz S)
 exact X2 fun S V => Y2 R4 (eM (V 2 50 rfl rfl)) rfl (qz S)
 exact E6 fun s S V => Y3 (g2) M9 (eM (V 3 51 rfl rfl)) (S.froz _ _ (s.1 _ _ a7)) (h4 0 (show 0 < 2 by decide)) rfl (qz S)
 exact W5 fun S B => Z4 (l4) (evT (B 10 rfl) rfl) rfl (qz S)
 exact W5 fun S B => Y3 (m9) Yn4 (evT (B 9 rfl) rfl) (S.get (mR (mR mL))) rfl rfl (qz S)
 intro _ _ y8 _ k6 hS _ m7 hcq
 have Z3 := Sub.refl y8
 have S7 := U5.trans k6
 have j8 := j8.mono k6
 have a3 := a3.mono k6
 have o4 := o4.mono k6
 refine T5 Tryz.call252 (G7 (eM (m7 4 52 rfl rfl)) (eM (m7 5 53 rfl rfl)) (eM (m7 6 54 rfl rfl))) rfl (Yc9 r1 a3 j8 o4 hS) ?_
 rintro _ _ ⟨_, _, _, rfl, s1, hS, s2⟩
 refine ⟨_, rfl, ?_⟩
 have Z3 := Z3.trans s1
 obtain ⟨_, s3, hS, s4⟩ := s2.freeze hS
 have Z3 := Z3.trans s3
 exact Z1 ⟨55, _, _, rfl, rfl, Z3, hS, s4⟩
 exact W5 fun S B => Z4 (vI (Q1 k5 l2)) (evT (B 11 rfl) rfl) rfl (qz S)
 intro _ _ z2 _ s7 hS _ s8 hcq
 have Z3 := Sub.refl z2
 have S7 := U5.trans s7
 refine X6 Tryz.call234 (S2 (eM (s8 8 56 rfl rfl))) rfl (Xc2 r2  hS) ?_
 rintro _ _ _ s9 hS rfl
 have Z3 := Z3.trans s9
 exact Z1 ⟨57, _, _, rfl, rfl, Z3, hS, rfl⟩
 exact X2 fun S V => Xj6 (IntKind.i64.wrap (0 - l3)) (eM (V 9 57 rfl rfl)) rfl rfl (qz S)
 intro _ _ z4 _ t4 hS _ t5 hcq
 have Z3 := Sub.refl z4
 have S7 := U5.trans t4
 refine X6 Tryz.call206 (S2 (eM (t5 10 58 rfl rfl))) rfl (Yc8 r3  hS) ?_
 rintro _ _ _ t6 hS rfl
 have Z3 := Z3.trans t6
 exact Z1 ⟨59, _, _, rfl, rfl, Z3, hS, rfl⟩
 intro j9 z5 z6 h7 hS h8 m8 hcq
 have hS : St z6 z5 (C45 ++ ([(h2, cA ([m9]) 255)] ++ ([(b4, cA ([vN] ++ [vN]) 31)] ++ ([(b1, cA ([vQ e8 f5]) 94)] ++ L)))) := hS
 have Z3 := Z3.trans h7
 have hlt := hlt.trans h7.sb
 have a3 := a3.mono h7
 have a4 := a4.mono h7
 have i2 := i2.mono h7
 have a7 := h7.1 _ _ a7
 have q2 : tv j9 1 = vI a1 := Eq.trans (h8 1 rfl) rfl
 have o5 : tv j9 2 = vI a2 := Eq.trans (h8 2 rfl) rfl
 have n0 : tv j9 3 = vP b1 := Eq.trans (h8 3 rfl) rfl
 have z7 : tv j9 6 = vP b4 := Eq.trans (h8 6 rfl) rfl
 have q3 : tv j9 9 = vP h2 := Eq.trans (h8 9 rfl) rfl
 have z8 : tv j9 12 = l6 := Eq.trans (h8 12 rfl) rfl
 obtain ⟨_, z9, n1⟩ := gvM (m8 7 55 (by decide) rfl)
 obtain ⟨_, i7, _, t7, hS⟩ := Yx4.out x3 i3 hlt hS
 have Z3 := Sub.viaM hM zsub i7
 have n1 := t7 n1
 have a3 := z52.mono i7
 have a4 := z53.mono i7
 have a7 := i7.1 _ _ z55
 have g3 := z54.mono i7
 have hS := hS.perm Q8.symm
 obtain ⟨e7, t8, q0⟩ := bind_some q0
 refine T5 Tryz.call129 (G7 (by exact (eM (m8 0 48 (by decide) rfl))) (by exact z9) (by exact (eM (m8 11 59 (by decide) rfl)))) rfl (Zw5 t8 i2 n1 hS) ?_
 rintro _ _ ⟨_, _, rfl, i8, hS, t9⟩
 refine ⟨_, rfl, ?_⟩
 have Z3 := Z3.trans i8
 have a3 := a3.mono i8
 have a4 := a4.mono i8
 have g3 := g3.mono i8
 have a7 := i8.1 _ _ a7
 refine Z1 (Z2 (Z0 ?_))
 refine Y3 (m9) Yn4 (by exact q3) (hS.get (mR mL)) rfl rfl (Z4 (vI a2) (by exact o5) rfl (Z4 (l6) (by exact z8) rfl ?_))
 obtain ⟨_, q0⟩ := gd q0
 obtain ⟨_, q0⟩ := gd q0
 obtain ⟨_, _, p3⟩ := g3.some (i := a2) (by omega) (by omega)
 refine Zw4 Yj5 (Eq.trans rfl p3) rfl (by omega) (by omega) rfl ?_
 obtain ⟨_, i9, hS, u0⟩ := t9.freeze hS
 have Z3 := Z3.trans i9
 have a3 := a3.mono i9
 have a4 := a4.mono i9
 have g3 := g3.mono i9
 have a7 := i9.1 _ _ a7
 have hS := hS.perm V1
 refine Zw2 (τ := (Ze6 .i64)) (v := m9) (u := l6) e7 (i := a2) rfl Xi8 p3 g3 hS rfl rfl (by omega) (by omega) u0.relv ?_
 intro _ _ g7 hS
 have hS := hS.perm V1.symm
 refine Z1 (Z2 (Z0 ?_))
 refine Y3 (vQ e8 f5) Yo5 (by exact n0) (hS.get (mR (mR (mR mL)))) rfl rfl (Z4 (vI a1) (by exact q2) rfl (Z4 (vI a2) (by exact o5) rfl ?_))
 refine D9 (τ := (Y6 .i64)) Zs6 ze3 rfl [vI a1, vI a2] [a1, a2] rfl rfl (Zz1 rfl rfl) (We3 rfl rfl) (by decide) (by decide) hS rfl ?_
 intro _ _ _ j0 hS u1
 have Z3 := Z3.trans j0
 have a3 := a3.mono j0
 have a4 := a4.mono j0
 have g7 := g7.mono j0
 have a7 := j0.1 _ _ a7
 obtain ⟨c4, u2, q0⟩ := bind_some q0
 refine X6 Tryz.call253 (U9 rfl rfl) rfl (Yk2 u2 ⟨_, _, _, _, _, rfl, a7, ⟨_, _, rfl, ⟨_, rfl, a3⟩, ⟨_, rfl, a4⟩⟩, h4⟩ u1 hS) ?_
 rintro _ q4 _ j1 hS ⟨b6, d3, rfl, a5, a6⟩
 have a46 := a5
 have b0 : RdF (Y6 .i64) H q4 b6 c4.1 := Z9.mono (Q6 Z3) a5
 have a5 := Z9.old a5
 have a47 := a6
 have b5 : RdF (Y6 .i64) H q4 d3 c4.2 := Z9.mono (Q6 Z3) a6
 have a6 := Z9.old a6
 have Z3 := Z3.trans j1
 have a3 := a3.mono j1
 have a4 := a4.mono j1
 have g7 := g7.mono j1
 have a7 := j1.1 _ _ a7
 refine Z4 (Value.tuple #[b6, d3]) rfl rfl (W4 (b6) rfl rfl rfl (W4 (d3) rfl rfl rfl ?_))
 refine W6 (z := vN) ([vN]).toArray Xv4.zero rfl hS rfl ?_
 intro g8 _ hS
 refine W6 (z := vN) ([vN]).toArray Vi1.zero rfl hS rfl ?_
 intro g9 _ hS
 have hS := hS.perm V1
 refine Zb3 (v := b6) (cs := ([vN]).toArray) (cs' := ([b6]).toArray) M9 rfl rfl hS a5.isOne rfl (nl rfl) rfl ?_
 intro _ hS
 have hS := hS.perm V1.symm
 refine Zb3 (v := d3) (cs := ([vN]).toArray) (cs' := ([d3]).toArray) Wt3 rfl rfl hS a6.isOne rfl (nl rfl) rfl ?_
 intro _ hS
 refine Z1 (Z2 (Z0 ?_))
 refine Y3 (b6) M9 rfl (hS.get (mR mL)) rfl rfl ?_
 refine Zl9 ([b6] ++ [vN]) We6 (K6 rfl) (Q5 rfl a5.cellsL rfl (nl rfl) (Zh6 rfl)) rfl ?_
 refine Zq2 (τ := (Zb7 H (Y9 yT))) P6 I0 rfl hS rfl ?_
 intro q5 _ a00 f2 hS
 refine W6 (z := vA ([vN] ++ [vN])) ([vN] ++ [vN]).toArray Zr4.zero rfl hS rfl ?_
 intro k0 _ hS
 refine X5 (v := vA ([b6] ++ [vN])) (vs := ([b6] ++ [vN]).toArray) (cs := ([vN] ++ [vN]).toArray) S5 rfl rfl rfl hS rfl (R8 (U0 a5.isOne) (U0 rfl)) rfl ?_
 intro _ hS
 refine Z5 (q5) rfl rfl (Z1 (Z2 ?_))
 have hS := hS.perm Vi2
 obtain ⟨_, f8, hS, b3⟩ := St.freezeBox hS
 have Z3 := Z3.trans f8
 have a5 := a5.mono f8
 have b0 := b0.mono f8
 have a6 := a6.mono f8
 have b5 := b5.mono f8
 have g7 := g7.mono f8
 have f2 := f2.mono f8
 have a3 := a3.mono f8
 have a4 := a4.mono f8
 have a7 := f8.1 _ _ a7
 have hS := hS.perm Yn6
 obtain ⟨_, f9, hS, b8⟩ := g7.freeze hS
 have Z3 := Z3.trans f9
 have a3 := a3.mono f9
 have a4 := a4.mono f9
 have a5 := a5.mono f9
 have b0 := b0.mono f9
 have a6 := a6.mono f9
 have b5 := b5.mono f9
 have f2 := f2.mono f9
 have b3 := f9.1 _ _ b3
 have a7 := f9.1 _ _ a7
 have hS := hS.perm Xa1
 obtain ⟨_, f3, hS, b9⟩ := St.freezeBox hS
 have Z3 := Z3.trans f3
 have a3 := a3.mono f3
 have a4 := a4.mono f3
 have a5 := a5.mono f3
 have b0 := b0.mono f3
 have a6 := a6.mono f3
 have b5 := b5.mono f3
 have f2 := f2.mono f3
 have b3 := f3.1 _ _ b3
 have a7 := f3.1 _ _ a7
 have b8 := b8.mono f3
 have hS := hS.perm Q8
 obtain ⟨_, f0, hS, c0⟩ := St.freezeBox hS
 have Z3 := Z3.trans f0
 have a3 := a3.mono f0
 have a4 := a4.mono f0
 have b8 := b8.mono f0
 have a5 := a5.mono f0
 have b0 := b0.mono f0
 have f2 := f2.mono f0
 have b3 := f0.1 _ _ b3
 have a7 := f0.1 _ _ a7
 have b9 := f0.1 _ _ b9
 have a6 := a6.mono f0
 have b5 := b5.mono f0
 have hS := hS.perm Q8
 obtain ⟨q6, e4, hS, c1⟩ := St.freezeBox hS
 have Z3 := Z3.trans e4
 have a3 := a3.mono e4
 have a4 := a4.mono e4
 have b8 := b8.mono e4
 have a6 := a6.mono e4
 have b5 := b5.mono e4
 have a5 := a5.mono e4
 have b0 := b0.mono e4
 have f2 := f2.mono e4
 have b3 := e4.1 _ _ b3
 have a7 := e4.1 _ _ a7
 have b9 := e4.1 _ _ b9
 have c0 := e4.1 _ _ c0
 refine Z0 ?_
 refine Xz1 (by exact n0) (by exact q3) rfl rfl rfl (Z5 (Value.func (.func 254) #[] #[vP b1, vP h2, vP g9, vP g8]) rfl rfl (Z1 (Z2 (Z2 (Z0 ?_)))))
 refine Y3 (vQ e8 f5) Yo5 (by exact n0) (hS.froz _ _ b3) ((Zc3 ([vQ e8 f5]) 1) 0 (show 0 < 1 by decide)) rfl (R9 rfl rfl (Y2 R4 rfl rfl ?_))
 refine Y3 (g2) M9 rfl (hS.froz _ _ a7) (h4 0 (show 0 < 2 by decide)) rfl ?_
 have a48 := a3.bound
 refine W7 Q0 rfl a3 rfl (Z4 (vI 0) rfl rfl (Z1 (Y7 ?_)))
 have q7 : W3 (Zb7 H (Y9 yT)) 45 q6 (.slice none 0 0) [] [] := W3.nil _ _ _
 obtain ⟨o6, c8, k1⟩ := bind_some q0
 refine W1 (id := 0) (fun k f w => ∃ (a9 : Int) (b7 : (List MpT)) (b2 : (List MpT)) (H1 : FH) (f4 : OL) (e5 : Value) (c6 : OL) (c2 : Value), S8 K a0 a1 a2 e7 c4 r9 k a9 b7 b2 = some o6 ∧ Sub H H1 ∧ St H1 w (c6 ++ ([(k0, cA ([b6] ++ [c2]) 31)] ++ (f4 ++ ([(b4, cA ([vN] ++ [vN]) 31)] ++ L)))) ∧ 0 ≤ a9 ∧ Zg0 (Zb7 H (Y9 yT)) 45 H1 e5 b7 f4 c2 b2 c6 (P5 [b6]) ∧ RdF (Y6 .i64) H H1 b6 c4.1 ∧ RdF (Y6 .i64) H H1 d3 c4.2 ∧ Z9 (Ze6 .i64) H1 m9 ((r9.set (a1).toNat ([] : MpT)).set (a2).toNat e7) ∧ Z9 (Y6 .i64) H1 b6 c4.1 ∧ Z9 (Y6 .i64) H1 d3 c4.2 ∧ Z9 (Y6 .i64) H1 g2 a0.1 ∧ Z9 (Y9 yT) H1 h3 a0.2 ∧ H1 b1 = some (cA ([vQ e8 f5]) 94) ∧ H1 e8 = some (.cells o2 p8) ∧ H1 h2 = some (cA ([m9]) 255) ∧ H1 g9 = some (cA ([d3]) 266) ∧ H1 g8 = some (cA ([b6]) 22) ∧ tv f 1 = vI a1 ∧ tv f 2 = vI a2 ∧ tv f 3 = vP b1 ∧ tv f 6 = vP b4 ∧ tv f 15 = vP k0 ∧ tv f 16 = e5 ∧ tv f 17 = Value.func (.func 254) #[] #[vP b1, vP h2, vP g9, vP g8] ∧ tv f 81 = vI (a0.1.length : Int) ∧ tv f 82 = vI a9) (fun f w => ∃ (e3 : (List MpT)) (f1 : (List MpT)) (H1 : FH) (g4 : OL) (d0 : Value) (h0 : OL) (d4 : Value), o6 = .go (e3, f1) ∧ Sub H H1 ∧ St H1 w (g4 ++ ([(k0, cA ([b6] ++ [d0]) 31)] ++ (h0 ++ ([(b4, cA ([vN] ++ [vN]) 31)] ++ L)))) ∧ Zg0 (Zb7 H (Y9 yT)) 45 H1 d4 f1 h0 d0 e3 g4 (P5 [b6]) ∧ RdF (Y6 .i64) H H1 b6 c4.1 ∧ Z9 (Y6 .i64) H1 b6 c4.1 ∧ tv f 6 = vP b4 ∧ tv f 15 = vP k0 ∧ tv f 16 = d4) rfl ?_ ?_ K ?_ ?_
 rintro f w ⟨a9, b7, b2, H1, f4, e5, c6, c2, c8, _⟩
 rw [S8] at c8; cases c8
 rintro k _ _ w1 hx0 ⟨a9, b7, b2, a01, f4, e5, c6, c2, c8, Z3, hS, _, c3, b0, b5, b8, a5, a6, a3, a4, b3, a7, b9, c0, c1, k2, k3, m2, g6, i4, l7, i5, i6, h1⟩
 rw [S8] at c8
 refine Z2 (Z0 ?_)
 refine V5 (k := .i64) (a := a9) (b := (a0.1.length : Int)) (by exact h1) (by exact i6) rfl (Z1 (Z2 ?_))
 obtain ⟨k7, c8⟩ | ⟨k7, c8⟩ := ic c8
 refine Y0 (bT k7 rfl) (Y8 (Z2 (Y7 (Z2 (Z0 (Z4 (vI a9) (by exact h1) rfl (Z5 (vI a9) rfl rfl (Z1 (Z2 (Z0 (Z4 (Value.func (.func 254) #[] #[vP b1, vP h2, vP g9, vP g8]) (by exact i5) rfl ?_)))))))))))
 refine Zk3 (k := .i64) hS rfl ?_
 intro a02 _ _ n2 hS
 refine Z4 (vI a9) rfl rfl ?_
 obtain ⟨n9, u3, c8⟩ := bind_some c8
 refine X6 Tryz.call251 (S2 rfl) rfl (Zd8 u3  hS) ?_
 rintro _ _ _ d1 hS ⟨_, rfl, rfl⟩
 have Z3 := Z3.trans d1
 have a3 := a3.mono d1
 have a4 := a4.mono d1
 have b8 := b8.mono d1
 have a6 := a6.mono d1
 have b5 := b5.mono d1
 have a5 := a5.mono d1
 have b0 := b0.mono d1
 have c3 := c3.mono d1
 have n2 := n2.mono d1
 have b3 := d1.1 _ _ b3
 have a7 := d1.1 _ _ a7
 have b9 := d1.1 _ _ b9
 have c0 := d1.1 _ _ c0
 have c1 := d1.1 _ _ c1
 refine Yb9 (a := n9) (m := 1) Zi9 rfl rfl rfl n2 hS ?_
 intro _ _ u4 hS
 refine Z4 (a02) rfl rfl ?_
 obtain ⟨_, d5, hS, u5⟩ := u4.freeze hS
 have Z3 := Z3.trans d5
 have a3 := a3.mono d5
 have a4 := a4.mono d5
 have b8 := b8.mono d5
 have a6 := a6.mono d5
 have b5 := b5.mono d5
 have a5 := a5.mono d5
 have b0 := b0.mono d5
 have c3 := c3.mono d5
 have b3 := d5.1 _ _ b3
 have a7 := d5.1 _ _ a7
 have b9 := d5.1 _ _ b9
 have c0 := d5.1 _ _ c0
 have c1 := d5.1 _ _ c1
 obtain ⟨c5, u6, c8⟩ := bind_some c8
 refine Xq4 (caps := #[vP b1, vP h2, vP g9, vP g8]) Tryz.call254 (by exact rfl) (S2 rfl) rfl rfl (Zt4 u6 u5 ⟨_, _, _, _, _, rfl, b3, ⟨_, rfl, ⟨_, _, _, _, _, rfl, a7, ⟨_, _, rfl, ⟨_, rfl, a3⟩, ⟨_, rfl, a4⟩⟩, h4⟩⟩, (Zc3 ([vQ e8 f5]) 1)⟩ ⟨_, _, _, _, _, rfl, b9, ⟨_, rfl, b8⟩, (Zc3 ([m9]) 1)⟩ ⟨_, _, _, _, _, rfl, c0, ⟨_, rfl, a6⟩, (Zc3 ([d3]) 1)⟩ ⟨_, _, _, _, _, rfl, c1, ⟨_, rfl, a5⟩, (Zc3 ([b6]) 1)⟩ hS) ?_
 rintro _ _ ⟨_, a03, rfl, d6, hS, ⟨_, _, rfl, ⟨_, rfl, ⟨d7, rfl, c7⟩⟩, rfl⟩⟩
 refine ⟨_, rfl, ?_⟩
 have a49 := c7
 have h9 : RdF yT H a03 d7 c5.1 := Z9.mono (Q6 Z3) c7
 have c7 := Z9.old c7
 have Z3 := Z3.trans d6
 have a3 := a3.mono d6
 have a4 := a4.mono d6
 have b8 := b8.mono d6
 have a6 := a6.mono d6
 have b5 := b5.mono d6
 have a5 := a5.mono d6
 have b0 := b0.mono d6
 have c3 := Zg0.keep (Zt0 H (G3 _)) c3 d6 (RdF.rootsOut a49) (Z9.rootsIn c7) (Zf4 _)
 have b3 := d6.1 _ _ b3
 have a7 := d6.1 _ _ a7
 have b9 := d6.1 _ _ b9
 have c0 := d6.1 _ _ c0
 have c1 := d6.1 _ _ c1
 refine Z4 (Value.tuple #[vA ([d7]), vI c5.2]) rfl rfl (W4 (vA ([d7])) rfl rfl rfl (W4 (vI c5.2) rfl rfl rfl ?_))
 refine W6 (z := vA ([vN])) ([vN]).toArray I0.zero rfl hS rfl ?_
 intro a04 _ hS
 refine X5 (v := vA ([d7])) (vs := ([d7]).toArray) (cs := ([vN]).toArray) U2 rfl rfl rfl hS rfl (U0 c7.isOne) rfl ?_
 intro _ hS
 refine Z5 (vI c5.2) rfl rfl (Z1 (Z2 (Z2 (Z0 (Z4 (vI c5.2) rfl rfl ?_)))))
 refine L7 (k := .i64) (a := c5.2) (b := 0) rfl rfl rfl (Z1 ?_)
 obtain ⟨k8, c8⟩ | ⟨k8, c8⟩ := ic c8
 refine Z8 (bN k8 rfl) (Y8 (Z2 (Z0 (Z4 (e5) (by exact l7) rfl ?_))))
 refine X7 U2 rfl (hS.get mL) rfl rfl ?_
 refine D9 (τ := M3 (Zb7 H (Y9 yT))) P6 I0 rfl [vA ([d7])] [(c5.1, P5 [d7])] rfl rfl (K6 rfl) (Zi6 ⟨⟨_, rfl, h9⟩, rfl⟩) (by decide) (by decide) hS rfl ?_
 intro _ q8 _ c9 hS u7
 have Z3 := Z3.trans c9
 have a3 := a3.mono c9
 have a4 := a4.mono c9
 have b8 := b8.mono c9
 have a6 := a6.mono c9
 have b5 := b5.mono c9
 have a5 := a5.mono c9
 have b0 := b0.mono c9
 have c7 := c7.mono c9
 have h9 := h9.mono c9
 have c3 := c3.mono c9
 have b3 := c9.1 _ _ b3
 have a7 := c9.1 _ _ a7
 have b9 := c9.1 _ _ b9
 have c0 := c9.1 _ _ c0
 have c1 := c9.1 _ _ c1
 obtain ⟨u8, c8⟩ := gd c8
 have hS := hS.perm Ye9
 refine Wm7 (τ := (Zb7 H (Y9 yT))) (R := P5 [d7]) Yl7 rfl rfl rfl c3 hS u7 (by have h := u8; simpa using h) rfl ?_
 intro l9 _ n3 e6 hS
 have hS := hS.perm Ye9.symm
 refine Z5 (l9) rfl rfl (Z1 (Z2 (Z2 ?_)))
 refine Zb0 (fun f w => ∃ (f6 : Bool) (H1 : FH), J6 K (S8 K a0 a1 a2 e7 c4 r9 k) a0 a1 a2 e7 c4 c5 r9 a9 b2 b7 f6 = some o6 ∧ Sub H H1 ∧ St H1 w ([(a04, cA ([d7]) 45)] ++ (c6 ++ ([(k0, cA ([b6] ++ [c2]) 31)] ++ (n3 ++ ([(b4, cA ([vN] ++ [vN]) 31)] ++ L))))) ∧ RdF (Y6 .i64) H H1 b6 c4.1 ∧ RdF (Y6 .i64) H H1 d3 c4.2 ∧ RdF yT H H1 d7 c5.1 ∧ Z9 (Ze6 .i64) H1 m9 ((r9.set (a1).toNat ([] : MpT)).set (a2).toNat e7) ∧ Z9 (Y6 .i64) H1 b6 c4.1 ∧ Z9 (Y6 .i64) H1 d3 c4.2 ∧ Z9 yT H1 d7 c5.1 ∧ Z9 (Y6 .i64) H1 g2 a0.1 ∧ Z9 (Y9 yT) H1 h3 a0.2 ∧ Zg0 (Zb7 H (Y9 yT)) 45 H1 l9 (b7 ++ [c5.1]) n3 c2 b2 c6 (P5 [b6]) ∧ H1 b1 = some (cA ([vQ e8 f5]) 94) ∧ H1 e8 = some (.cells o2 p8) ∧ H1 h2 = some (cA ([m9]) 255) ∧ H1 g9 = some (cA ([d3]) 266) ∧ H1 g8 = some (cA ([b6]) 22) ∧ tv f 1 = vI a1 ∧ tv f 2 = vI a2 ∧ tv f 3 = vP b1 ∧ tv f 6 = vP b4 ∧ tv f 15 = vP k0 ∧ tv f 16 = l9 ∧ tv f 17 = Value.func (.func 254) #[] #[vP b1, vP h2, vP g9, vP g8] ∧ tv f 18 = vI a9 ∧ tv f 81 = vI (a0.1.length : Int) ∧ tv f 82 = vI a9 ∧ tv f 109 = vB f6) ?_ ?_
 rintro _ _ ⟨f6, u9, d2, Z3, hS, b0, b5, h9, b8, a5, a6, c7, a3, a4, e6, b3, a7, b9, c0, c1, n7, n8, m0, j2, i0, m3, k4, p5, m4, m5, m1⟩
 unfold J6 at d2
 obtain ⟨k9, d2⟩ | ⟨k9, d2⟩ := ic d2
 refine Y0 (Eq.trans (by exact m1) (congrArg vB k9)) ?_
 refine W0 rfl (Z0 ?_)
 refine W8 (a9 + 1) (by exact m5) rfl (IntWalk.i64_in _ (by omega)) rfl (Z4 (vI (a9 + 1)) rfl rfl (Z1 ?_))
 have hS := St.dropA hS
 exact w1 _ _ ⟨(a9 + 1), (b7 ++ [c5.1]), b2, u9, n3, l9, c6, c2, d2, Z3, hS, (by omega), e6, b0, b5, b8, a5, a6, a3, a4, b3, a7, b9, c0, c1, n7, n8, m0, j2, i0, m3, k4, m4, rfl⟩
 refine Z8 (Eq.trans (by exact m1) (congrArg vB (X8 k9))) (Y8 (Z2 (Z0 (Z4 (Value.func (.func 254) #[] #[vP b1, vP h2, vP g9, vP g8]) (by exact k4) rfl ?_))))
 refine Y3 (vQ e8 f5) Yo5 (by exact m0) (hS.froz _ _ b3) ((Zc3 ([vQ e8 f5]) 1) 0 (show 0 < 1 by decide)) rfl (R9 rfl rfl (Y2 P2 rfl rfl ?_))
 refine Y3 (h3) Zd6 rfl (hS.froz _ _ a7) (h4 1 (show 1 < 2 by decide)) rfl (Z4 (vI a9) (by exact p5) rfl ?_)
 obtain ⟨_, d2⟩ := gd d2
 obtain ⟨_, _, _, _, _, v0, v1, ⟨q9, rfl, p6⟩, v2⟩ := a4.elem (i := a9) (by omega) (by omega)
 refine X9 P6 rfl rfl v0 rfl (by omega) (by omega) rfl ?_
 refine W9 ([q9]) U2 rfl (hS.froz _ _ v1) rfl v2 rfl ?_
 obtain ⟨_, v3, d2⟩ := bind_some d2
 refine T5 Tryz.call110 (S2 rfl) rfl (Zj2 v3 p6 hS) ?_
 rintro _ _ ⟨_, _, _, rfl, d8, hS, v4⟩
 refine ⟨_, rfl, ?_⟩
 have Z3 := Z3.trans d8
 have a3 := a3.mono d8
 have a4 := a4.mono d8
 have b8 := b8.mono d8
 have a6 := a6.mono d8
 have b5 := b5.mono d8
 have a5 := a5.mono d8
 have b0 := b0.mono d8
 have e6 := e6.mono d8
 have b3 := d8.1 _ _ b3
 have a7 := d8.1 _ _ a7
 have b9 := d8.1 _ _ b9
 have c0 := d8.1 _ _ c0
 have c1 := d8.1 _ _ c1
 obtain ⟨_, d9, hS, v5⟩ := v4.freeze hS
 have Z3 := Z3.trans d9
 have a3 := a3.mono d9
 have a4 := a4.mono d9
 have b8 := b8.mono d9
 have a6 := a6.mono d9
 have b5 := b5.mono d9
 have a5 := a5.mono d9
 have b0 := b0.mono d9
 have e6 := e6.mono d9
 have b3 := d9.1 _ _ b3
 have a7 := d9.1 _ _ a7
 have b9 := d9.1 _ _ b9
 have c0 := d9.1 _ _ c0
 have c1 := d9.1 _ _ c1
 obtain ⟨e2, v6, d2⟩ := bind_some d2
 refine Xq4 (caps := #[vP b1, vP h2, vP g9, vP g8]) Tryz.call254 (by exact rfl) (S2 rfl) rfl rfl (Zt4 v6 v5 ⟨_, _, _, _, _, rfl, b3, ⟨_, rfl, ⟨_, _, _, _, _, rfl, a7, ⟨_, _, rfl, ⟨_, rfl, a3⟩, ⟨_, rfl, a4⟩⟩, h4⟩⟩, (Zc3 ([vQ e8 f5]) 1)⟩ ⟨_, _, _, _, _, rfl, b9, ⟨_, rfl, b8⟩, (Zc3 ([m9]) 1)⟩ ⟨_, _, _, _, _, rfl, c0, ⟨_, rfl, a6⟩, (Zc3 ([d3]) 1)⟩ ⟨_, _, _, _, _, rfl, c1, ⟨_, rfl, a5⟩, (Zc3 ([b6]) 1)⟩ hS) ?_
 rintro _ _ ⟨_, a05, rfl, e0, hS, ⟨_, _, rfl, ⟨_, rfl, ⟨f7, rfl, g1⟩⟩, rfl⟩⟩
 refine ⟨_, rfl, ?_⟩
 have a53 := g1
 have v7 : RdF yT H a05 f7 e2.1 := Z9.mono (Q6 Z3) g1
 have g1 := Z9.old g1
 have Z3 := Z3.trans e0
 have a3 := a3.mono e0
 have a4 := a4.mono e0
 have b8 := b8.mono e0
 have a6 := a6.mono e0
 have b5 := b5.mono e0
 have a5 := a5.mono e0
 have b0 := b0.mono e0
 have e6 := Zg0.keep (Zt0 H (G3 _)) e6 e0 (RdF.rootsOut a53) (Z9.rootsIn g1) (Zf4 _)
 have b3 := e0.1 _ _ b3
 have a7 := e0.1 _ _ a7
 have b9 := e0.1 _ _ b9
 have c0 := e0.1 _ _ c0
 have c1 := e0.1 _ _ c1
 refine Z4 (Value.tuple #[vA ([f7]), vI e2.2]) rfl rfl (W4 (vA ([f7])) rfl rfl rfl (W4 (vI e2.2) rfl rfl rfl ?_))
 refine W6 (z := vA ([vN])) ([vN]).toArray I0.zero rfl hS rfl ?_
 intro _ _ hS
 refine X5 (v := vA ([f7])) (vs := ([f7]).toArray) (cs := ([vN]).toArray) U2 rfl rfl rfl hS rfl (U0 g1.isOne) rfl ?_
 intro _ hS
 refine Z5 (vI e2.2) rfl rfl (Z1 (Z2 (Z2 (Z0 (Z4 (vI e2.2) rfl rfl ?_)))))
 refine L7 (k := .i64) (a := e2.2) (b := 0) rfl rfl rfl (Z1 ?_)
 obtain ⟨l0, d2⟩ | ⟨l0, d2⟩ := ic d2
 refine Z8 (bN l0 rfl) (Y8 (Z0 (Y2 P2 (by exact i0) rfl ?_)))
 refine Y3 (c2) Zd6 rfl (hS.get (mR (mR (mR mL)))) rfl rfl ?_
 refine X7 U2 rfl (hS.get mL) rfl rfl ?_
 refine D9 (τ := M3 (Zb7 H (Y9 yT))) P6 I0 rfl [vA ([f7])] [(e2.1, P5 [f7])] rfl rfl (K6 rfl) (Zi6 ⟨⟨_, rfl, v7⟩, rfl⟩) (by decide) (by decide) hS rfl ?_
 intro _ a06 _ e1 hS v8
 have Z3 := Z3.trans e1
 have a3 := a3.mono e1
 have a4 := a4.mono e1
 have b8 := b8.mono e1
 have a6 := a6.mono e1
 have b5 := b5.mono e1
 have a5 := a5.mono e1
 have b0 := b0.mono e1
 have e6 := e6.mono e1
 have b3 := e1.1 _ _ b3
 have a7 := e1.1 _ _ a7
 have b9 := e1.1 _ _ b9
 have c0 := e1.1 _ _ c0
 have c1 := e1.1 _ _ c1
 obtain ⟨v9, d2⟩ := gd d2
 have hS := hS.perm Q8
 refine Wj3 (τ := (Zb7 H (Y9 yT))) (R := P5 [f7]) Yl7 rfl rfl rfl e6 hS v8 (by have h := v9; simpa using h) rfl ?_
 intro o7 _ a07 p4 hS
 have hS := hS.perm Q8.symm
 refine Y2 P2 (by exact i0) rfl ?_
 have hS := hS.perm Ye9
 refine Zb3 (v := o7) (cs := ([b6] ++ [c2]).toArray) (cs' := ([b6] ++ [o7]).toArray) Zd6 rfl rfl hS p4.ownB.isOne rfl (nl rfl) rfl ?_
 intro _ hS
 have hS := hS.perm Ye9.symm
 refine Z1 (X4 (Z0 ?_))
 refine W8 (a9 + 1) (by exact m5) rfl (IntWalk.i64_in _ (by omega)) rfl (Z4 (vI (a9 + 1)) rfl rfl (Z1 ?_))
 have hS := St.dropA hS
 have hS := St.dropA hS
 exact w1 _ _ ⟨(a9 + 1), (b7 ++ [c5.1]), (b2 ++ [e2.1]), a06, n3, l9, a07, o7, d2, Z3, hS, (by omega), p4, b0, b5, b8, a5, a6, a3, a4, b3, a7, b9, c0, c1, n7, n8, m0, j2, i0, m3, k4, m4, rfl⟩
 refine Y0 (bO l0 rfl) (Z2 (Z0 ?_))
 refine R6 (vA ([vN] ++ [vN])) Yl4 rfl (Z4 (vI e2.2) rfl rfl ?_)
 have hS := hS.perm Yn6
 refine X5 (v := vA ([vN] ++ [vN])) (vs := ([vN] ++ [vN]).toArray) (cs := ([vN] ++ [vN]).toArray) S5 (by exact j2) rfl rfl hS rfl (R8 (U0 rfl) (U0 rfl)) rfl ?_
 intro _ hS
 have hS := hS.perm Yn6.symm
 refine Z5 (vN) rfl rfl (Z5 (vI e2.2) rfl rfl (Z1 ?_))
 refine X0 (vs := [vA ([vN] ++ [vN]), vN, vI e2.2]) Tryz.func187 ⟨⟨_, (by exact j2), V6 S5 (hS.get (mR (mR (mR (mR (mR mL)))))) rfl⟩, rfl, rfl, trivial⟩ ?_
 obtain rfl := oi d2
 dsimp only [Ex.elim] at k1
 obtain rfl := oi k1
 exact ⟨_, _, rfl, Z3, (St.dropA (St.dropA (St.dropA (St.dropA (St.dropA (St.dropA hS)))))), ⟨_, _, _, rfl, Yb3.zero Z3, rfl⟩⟩
 intro w3
 refine Z0 (Z4 (vI a9) rfl rfl (Z4 (vI a1) (by exact k2) rfl ?_))
 refine Zc2 (k := .i64) (a := a9) (b := a1) rfl rfl rfl (Z4 (vB (decide (a9 = a1))) rfl rfl ?_)
 obtain ⟨g0, c8⟩ | ⟨g0, c8⟩ := ic c8
 refine Y1 rfl rfl (bT g0 rfl) rfl rfl rfl (Y1 rfl rfl (bT g0 rfl) rfl rfl rfl (Y1 rfl rfl (bT g0 rfl) rfl rfl rfl ?_))
 refine V0 (t := true) (vB true) (bT g0 rfl) ((if_pos rfl).trans rfl) rfl (Z1 ?_)
 exact w3 _ _ ⟨true, q8, c8, Z3, hS, b0, b5, h9, b8, a5, a6, c7, a3, a4, e6, b3, a7, b9, c0, c1, k2, k3, m2, g6, i4, rfl, i5, rfl, i6, h1, rfl⟩
 refine Y4 rfl rfl (bF g0 rfl) (Z4 (vI a9) rfl rfl ?_)
 refine Y4 rfl rfl (bF g0 rfl) (Z4 (vI a2) (by exact k3) rfl ?_)
 refine Y4 rfl rfl (bF g0 rfl) ?_
 refine Zc2 (k := .i64) (a := a9) (b := a2) rfl rfl rfl ?_
 refine V0 (t := false) (vB (decide (a9 = a2))) (bF g0 rfl) ((if_neg Bool.false_ne_true).trans rfl) rfl (Z1 ?_)
 exact w3 _ _ ⟨(decide (a9 = a2)), q8, c8, Z3, hS, b0, b5, h9, b8, a5, a6, c7, a3, a4, e6, b3, a7, b9, c0, c1, k2, k3, m2, g6, i4, rfl, i5, rfl, i6, h1, rfl⟩
 refine Y0 (bO k8 rfl) (Z2 (Z0 ?_))
 refine R6 (vA ([vN] ++ [vN])) Yl4 rfl (Z4 (vI c5.2) rfl rfl ?_)
 have hS := hS.perm Xa1
 refine X5 (v := vA ([vN] ++ [vN])) (vs := ([vN] ++ [vN]).toArray) (cs := ([vN] ++ [vN]).toArray) S5 (by exact g6) rfl rfl hS rfl (R8 (U0 rfl) (U0 rfl)) rfl ?_
 intro _ hS
 have hS := hS.perm Xa1.symm
 refine Z5 (vN) rfl rfl (Z5 (vI c5.2) rfl rfl (Z1 ?_))
 refine X0 (vs := [vA ([vN] ++ [vN]), vN, vI c5.2]) Tryz.func187 ⟨⟨_, (by exact g6), V6 S5 (hS.get (mR (mR (mR (mR mL))))) rfl⟩, rfl, rfl, trivial⟩ ?_
 obtain rfl := oi c8
 dsimp only [Ex.elim] at k1
 obtain rfl := oi k1
 exact ⟨_, _, rfl, Z3, (St.dropA (St.dropA (St.dropA (St.dropA (St.dropA hS))))), ⟨_, _, _, rfl, Yb3.zero Z3, rfl⟩⟩
 refine Z8 (bF k7 rfl) ?_
 refine W0 rfl ?_
 obtain rfl := oi c8
 exact hx0 _ _ ⟨b2, b7, a01, c6, c2, f4, e5, rfl, Z3, hS, c3, b0, a5, g6, i4, l7⟩
 exact ⟨0, ([] : List MpT), ([] : List MpT), q6, a00, q5, ([]), (vN), c8, Z3, hS, (by omega), Zg0.start f2 (Zf4 _) (Z9.rootsIn a5), b0, b5, b8, a5, a6, a3, a4, b3, a7, b9, c0, c1, q2, o5, n0, z7, rfl, rfl, rfl, rfl, rfl⟩
 rintro _ _ ⟨e3, f1, _, g4, d0, h0, d4, rfl, Z3, hS, g5, b0, a5, m6, o8, o9⟩
 dsimp only [Ex.elim] at k1
 refine Z2 (Z0 ?_)
 refine X7 S5 (by exact o8) (hS.get (mR mL)) rfl rfl (Z4 (d4) (by exact o9) rfl ?_)
 have hS := hS.perm Ye9
 refine X5 (v := vA ([b6] ++ [d0])) (vs := ([b6] ++ [d0]).toArray) (cs := ([vN] ++ [vN]).toArray) S5 (by exact m6) rfl rfl hS rfl (R8 (U0 a5.isOne) (U0 g5.ownB.isOne)) rfl ?_
 intro _ hS
 have hS := hS.perm Ye9.symm
 refine Z5 (d4) rfl rfl (Z5 (vI 0) rfl rfl (Z1 ?_))
 refine X0 (vs := [vA ([b6] ++ [d0]), d4, vI 0]) Tryz.func187 ⟨⟨_, (by exact m6), V6 S5 (hS.get (mR (mR (mR mL)))) rfl⟩, rfl, rfl, trivial⟩ ?_
 obtain ⟨_, n4, hS, bB, lB, i1, g5⟩ := g5.freeze1 (G3 _) hS Z3
 have Z3 := Z3.trans n4
 have b0 := b0.mono n4
 have hS := hS.perm V1
 obtain ⟨_, n5, hS, l1⟩ := g5.freezeN (G3 _) hS Z3
 have Z3 := Z3.trans n5
 have b0 := b0.mono n5
 have i1 := i1.mono (Zl8 n5)
 obtain rfl := oi k1
 exact ⟨_, _, rfl, Z3, (St.dropA (St.dropA hS)), ⟨_, _, _, rfl, Xn5 hM Z3 b0 lB i1 l1, rfl⟩⟩
def L1 (K : Nat) : Nat → (List MpT) → (List Int) → (List MpT) → Option (Ex (((List Int) × (List MpT)) × (List MpT) × Int) (Unit))
 | 0, _, _, _ => none
 | k + 1, d1, a4, a6 => ((Zl0 K (a4, a6)).bind fun c8 => (if c8.2.2 = true then ((Zg1 K (a4, a6) c8.1 c8.2.1).bind fun b6 => (if b6.2.2 = 0 then ((Zs3 K a4 b6.1.1 b6.2.1).bind fun k6 => ((Zh9 K (k6.1, k6.2.1, k6.2.2) d1).bind fun d2 => (if d2.2 = 0 then L1 K k d2.1 b6.1.1 b6.1.2 else some (.ret ((([] : List Int), ([] : List MpT)), ([] : List MpT), d2.2))))) else some (.ret ((([] : List Int), ([] : List MpT)), ([] : List MpT), b6.2.2)))) else some (.ret ((a4, a6), d1, 0))))
def L3 (K : Nat) (a0 : ((List Int) × (List MpT))) : Nat → Int → (List MpT) → Option (Ex (((List Int) × (List MpT)) × (List MpT) × Int) ((List MpT)))
 | 0, _, _ => none
 | k + 1, c5, b4 => (if c5 < (a0.2.length : Int) then ((Zv1 K (rd a0.2 c5) 0).bind fun f5 => (if b4.length + ([f5]).length ≤ 1099511627776 then L3 K a0 k (c5 + 1) (b4 ++ [f5]) else none)) else some (.go b4))
def Zg9 (K : Nat) (a0 : ((List Int) × (List MpT))) : Option (((List Int) × (List MpT)) × (List MpT) × Int) := ((Zg4 K a0.1).bind fun f4 => ((Zo7 K 0 (a0.1.length : Int)).bind fun e0 => ((L3 K a0 K 0 ([] : List MpT)).bind (Ex.elim (fun r => some r) (fun s => (fun (c0 : (List MpT)) => ((L1 K K e0 f4 c0).bind (Ex.elim (fun r => some r) (fun s => none)))) s)))))
end Go.Proofs.YtabofnehiclkiaaGreat
