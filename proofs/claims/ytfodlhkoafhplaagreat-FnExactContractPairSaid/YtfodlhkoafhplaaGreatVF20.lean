/- Walks of functions: each computes its pure function, if that gives a value. -/
import Derived.Test.YtfodlhkoafhplaaGreatVTy
import Derived.Test.YtfodlhkoafhplaaGreatVF8
import Derived.Test.YtfodlhkoafhplaaGreatVF7
import Derived.Test.YtfodlhkoafhplaaGreatVF11
import Derived.Test.YtfodlhkoafhplaaGreatVF2
import Derived.Test.YtfodlhkoafhplaaGreatVF17
import Derived.Test.YtfodlhkoafhplaaGreatVF18
import Derived.Test.YtfodlhkoafhplaaGreatVF19
import Derived.Test.YtfodlhkoafhplaaGreatVX
namespace Go.Proofs.YtfodlhkoafhplaaGreat
open Go
set_option linter.unusedSimpArgs false
set_option linter.unusedVariables false
set_option maxRecDepth 100000
set_option maxHeartbeats 8000000
theorem Yd7 {K : Nat} {a0 : ((List Int) × (List MpT))} {a1 : Int} {a2 : Int} {r : (((List Int) × (List MpT)) × (List MpT) × Int)} (q0 : Zd0 K a0 a1 a2 = some r) {H : FH} {w : World} {L : OL} {s0 : Value} (hs0 : Zn8 (Zs6 (X6 (Y6 .i64)) (X6 (X6 yT))) H s0 a0) (hM : ∀ b, H.memo b = none) (hS : St H w L) :
 Calls Tryz.prog 160 #[s0, vI a1, vI a2] w (T2 (fun v G => ∃ v0 v1 v2, v = .tuple #[v0, v1, v2] ∧ Yf6 H G v0 v1 r.1 r.2.1 ∧ v2 = .int .i64 r.2.2) H L) := by
 obtain ⟨e8, f5, o2, p8, _, rfl, a7, ⟨_, _, rfl, ⟨g2, rfl, a3⟩, ⟨h3, rfl, a4⟩⟩, h4⟩ := hs0
 have Z2 := Sub.refl H
 refine X3 Tryz.func160 rfl Tryz.ntmps160 rfl ?_
 unfold Zd0 at q0
 refine Z3 (Z0 ?_)
 refine S4 (v := Value.pointer (some ⟨e8, f5, none⟩)) ([Value.pointer (some ⟨e8, f5, none⟩)]).toArray rfl rfl hS rfl ?_
 intro b1 w2 hS
 refine V1 (z := vA ([vN] ++ [vN])) ([vN] ++ [vN]).toArray Zz0.zero rfl hS rfl ?_
 intro b4 w5 hS
 refine Z5 (vN) rfl rfl (Z5 (vI 0) rfl rfl (Z1 (Z3 (Z0 ?_))))
 refine Y4 (Value.pointer (some ⟨e8, f5, none⟩)) Yc9 rfl (hS.get (mR mL)) rfl rfl (P4 rfl rfl (Y3 R8 rfl rfl ?_))
 refine Y4 (g2) K9 rfl (hS.froz _ _ a7) (h4 0 (show 0 < 2 by decide)) rfl ?_
 have bl7 := a3.bound
 refine W7 Q2 rfl a3 rfl ?_
 obtain ⟨r9, hr9, q0⟩ := bind_some q0
 refine Y9 Tryz.call147 (R0 rfl) rfl (Yw8 hr9  hS) ?_
 rintro e9 w10 ⟨m9, H9, C9, rfl, p1, hS, h5⟩
 refine ⟨_, rfl, ?_⟩
 have Z2 := Z2.trans p1
 have a3 := a3.mono p1
 have a4 := a4.mono p1
 have a7 := p1.1 _ _ a7
 refine V1 (z := vN) ([vN]).toArray Wz2.zero rfl hS rfl ?_
 intro h2 w13 hS
 refine Zg5 (v := m9) (cs := ([vN]).toArray) (cs' := ([m9]).toArray) Yu9 rfl rfl hS h5.isOne rfl (Nat.le_of_ble_eq_true rfl) rfl ?_
 intro w15 hS
 refine Z1 (Z3 (Z0 ?_))
 refine Y4 (Value.pointer (some ⟨e8, f5, none⟩)) Yc9 rfl (hS.get (mR (mR (mR mL)))) rfl rfl (P4 rfl rfl (Y3 N8 rfl rfl ?_))
 refine Y4 (h3) Zf9 rfl (hS.froz _ _ a7) (h4 1 (show 1 < 2 by decide)) rfl (Z4 (vI a1) rfl rfl ?_)
 obtain ⟨a56, q0⟩ := gd q0
 obtain ⟨a57, q0⟩ := gd q0
 obtain ⟨b18, o18, a58, E18, _, w4, w6, ⟨r0, rfl, p9⟩, w7⟩ := a4.elem (i := a1) (by omega) (by omega)
 refine W3 I1 rfl rfl w4 rfl (by omega) (by omega) rfl ?_
 refine V6 ([r0]) T1 rfl (hS.froz _ _ w6) rfl w7 rfl ?_
 obtain ⟨k5, w8, q0⟩ := bind_some q0
 refine Y9 Tryz.call90 (R0 rfl) rfl (Zp5 w8 p9 hS) ?_
 rintro e20 w21 ⟨l4, H20, C20, rfl, l5, hS, j3⟩
 refine ⟨_, rfl, ?_⟩
 have Z2 := Z2.trans l5
 have a3 := a3.mono l5
 have a4 := a4.mono l5
 have h5 := h5.mono l5
 have a7 := l5.1 _ _ a7
 refine Z5 (l4) rfl rfl (Z1 (Z3 (Z0 (Z4 (l4) rfl rfl (Z4 (vI a2) rfl rfl ?_)))))
 obtain ⟨l2, w9, q0⟩ := bind_some q0
 refine Y9 Tryz.call151 (R0 rfl) rfl (Ze0 w9  hS) ?_
 rintro e23 w24 ⟨v23, H23, rfl, j4, hS, ⟨_, rfl, rfl⟩⟩
 refine ⟨_, rfl, ?_⟩
 have Z2 := Z2.trans j4
 have a3 := a3.mono j4
 have a4 := a4.mono j4
 have h5 := h5.mono j4
 have j3 := j3.mono j4
 have a7 := j4.1 _ _ a7
 refine Yu7 (a := l2) Zh5 rfl rfl j3 hS rfl (Z5 (vI (R2 k5 l2)) rfl rfl (Z1 (Z3 (Z0 (Z4 (l4) rfl rfl (Z4 (vI a2) rfl rfl ?_))))))
 obtain ⟨p0, x0, q0⟩ := bind_some q0
 refine Y9 Tryz.call151 (R0 rfl) rfl (Ze0 x0  hS) ?_
 rintro e25 w26 ⟨v25, H25, rfl, j5, hS, ⟨_, rfl, rfl⟩⟩
 refine ⟨_, rfl, ?_⟩
 have Z2 := Z2.trans j5
 have a3 := a3.mono j5
 have a4 := a4.mono j5
 have h5 := h5.mono j5
 have j3 := j3.mono j5
 have a7 := j5.1 _ _ a7
 refine Xp9 (a := p0) Zh5 rfl rfl j3 hS ?_
 intro w27 C28 o3 hS
 refine Z1 (Z3 (Z0 ?_))
 refine Y4 (m9) Yu9 rfl (hS.get (mR mL)) rfl rfl (Z4 (vI a1) rfl rfl ?_)
 refine Zj4 (k := .i64) hS rfl ?_
 intro m30 w31 C32 x1 hS
 obtain ⟨a59, q0⟩ := gd q0
 obtain ⟨b36, c36, q1⟩ := h5.some (i := a1) (by omega) (by omega)
 refine Zs3 Yj1 (Eq.trans rfl q1) rfl (by omega) (by omega) rfl ?_
 obtain ⟨H37, j6, hS, x2⟩ := x1.freeze hS
 have Z2 := Z2.trans j6
 have a3 := a3.mono j6
 have a4 := a4.mono j6
 have h5 := h5.mono j6
 have o3 := o3.mono j6
 have a7 := j6.1 _ _ a7
 have hS := hS.perm Zb7
 refine Zs8 (τ := (Zk1 .i64)) (v := m9) (u := m30) ([] : MpT) (i := a1) rfl Xd9 q1 h5 hS rfl rfl (by omega) (by omega) x2.relv ?_
 intro w40 C41 g3 hS
 have hS := hS.perm Zb7.symm
 refine Z1 (Z3 (Z0 ?_))
 refine Zj4 (k := .i64) hS rfl ?_
 intro l6 w44 C45 i2 hS
 refine Z5 (l6) rfl rfl (Z1 (Z3 ?_))
 have hS := hS.perm U1
 obtain ⟨n6, j7, hS, j8⟩ := o3.freeze hS
 have Z2 := Z2.trans j7
 have a3 := a3.mono j7
 have a4 := a4.mono j7
 have g3 := g3.mono j7
 have i2 := i2.mono j7
 have a7 := j7.1 _ _ a7
 have zsub := Z2
 have z51 : Q0 .i64 n6.noM l4 (Zh3 k5 p0) := j8
 have z52 : Y1 (Y6 .i64) n6.noM g2 a0.1 := a3
 have z53 : Y1 (X6 yT) n6.noM h3 a0.2 := a4
 have z54 : V0 (Zk1 .i64) 109 n6.noM m9 (r9.set (a1).toNat ([] : MpT)) C41 := g3
 have z55 : n6.noM e8 = some (.cells o2 p8) := a7
 have hS := hS.perm Zb7
 obtain ⟨H56, i3, hS, o4, x3⟩ := V0.lend g3 hS
 have Z2 := Z2.trans i3
 have j8 := j8.mono i3
 have a3 := a3.mono i3
 have a4 := a4.mono i3
 have i2 := i2.mono i3
 have a7 := i3.1 _ _ a7
 have hlt := Sb.refl H56
 obtain ⟨o0, r1, q0⟩ := bind_some q0
 obtain ⟨l3, r2, q0⟩ := bind_some q0
 obtain ⟨o1, r3, q0⟩ := bind_some q0
 have X5 := Z2
 refine U6 12 (P9 [(48, MP.eq (l6)), (49, MP.eq (Value.pointer (some ⟨e8, f5, none⟩))), (50, MP.eq (Value.pointer (some ⟨e8, f5, none⟩))), (51, MP.eq (Value.pointer (some ⟨e8, f5 + 0, none⟩))), (52, MP.eq (g2)), (53, MP.eq (l4)), (54, MP.eq (m9)), (55, MP.mp .i64 (o0)), (56, MP.eq (vI (R2 k5 l2))), (57, MP.eq (vI l3)), (58, MP.eq (vI (IntKind.i64.wrap (0 - l3)))), (59, MP.eq (vI o1))]) [] mixed rfl rfl rfl hS (Z6 rfl ?_ (Z6 rfl ?_ (Z6 rfl ?_ (Z6 rfl ?_ (Z6 rfl ?_ (Z6 rfl ?_ (Z6 rfl ?_ (Z6 rfl ?_ (Z6 rfl ?_ (Z6 rfl ?_ (Z6 rfl ?_ (Z6 rfl ?_ U8)))))))))))) ?_
 intro f60 w61 H62 X63 x4 hS x5 a60 hcq
 have Z2 := Sub.refl H62
 have X8 := X5.trans x4
 have q68 : ev f60 (.tmp 12) = l6 := Eq.trans (x5 12 rfl) rfl
 refine Z4 (l6) q68 rfl ?_
 exact Z1 ⟨48, _, _, rfl, rfl, Z2, hS, rfl⟩
 intro f69 w70 H71 X72 x6 hS x7 a61 hcq
 have Z2 := Sub.refl H71
 have X8 := X5.trans x6
 have q77 : ev f69 (.tmp 3) = vP b1 := Eq.trans (x7 3 rfl) rfl
 refine Y4 (Value.pointer (some ⟨e8, f5, none⟩)) Yc9 q77 (hS.get (mR (mR (mR (mR mL))))) rfl rfl ?_
 exact Z1 ⟨49, _, _, rfl, rfl, Z2, hS, rfl⟩
 intro f78 w79 H80 X81 x8 hS a62 x9 hcq
 have Z2 := Sub.refl H80
 have X8 := X5.trans x8
 refine P4 (eM (x9 1 49 rfl rfl)) rfl ?_
 exact Z1 ⟨50, _, _, rfl, rfl, Z2, hS, rfl⟩
 intro f87 w88 H89 X90 y0 hS a63 y1 hcq
 have Z2 := Sub.refl H89
 have X8 := X5.trans y0
 refine Y3 R8 (eM (y1 2 50 rfl rfl)) rfl ?_
 exact Z1 ⟨51, _, _, rfl, rfl, Z2, hS, rfl⟩
 intro f96 w97 H98 X99 p2 hS a35 r4 hcq
 have Z2 := Sub.refl H98
 have X8 := X5.trans p2
 have a7 := p2.1 _ _ a7
 refine Y4 (g2) K9 (eM (r4 3 51 rfl rfl)) (hS.froz _ _ a7) (h4 0 (show 0 < 2 by decide)) rfl ?_
 exact Z1 ⟨52, _, _, rfl, rfl, Z2, hS, rfl⟩
 intro y2 a64 y3 a65 r5 hS r6 a36 hcq
 have Z2 := Sub.refl y3
 have X8 := X5.trans r5
 have y4 : ev y2 (.tmp 10) = l4 := Eq.trans (r6 10 rfl) rfl
 refine Z4 (l4) y4 rfl ?_
 exact Z1 ⟨53, _, _, rfl, rfl, Z2, hS, rfl⟩
 intro y5 a66 y6 a67 r7 hS r8 a37 hcq
 have Z2 := Sub.refl y6
 have X8 := X5.trans r7
 have y7 : ev y5 (.tmp 9) = vP h2 := Eq.trans (r8 9 rfl) rfl
 refine Y4 (m9) Yu9 y7 (hS.get (mR (mR mL))) rfl rfl ?_
 exact Z1 ⟨54, _, _, rfl, rfl, Z2, hS, rfl⟩
 intro a68 a69 y8 a70 k6 hS a38 m7 hcq
 have Z2 := Sub.refl y8
 have X8 := X5.trans k6
 have j8 := j8.mono k6
 have a3 := a3.mono k6
 have o4 := o4.mono k6
 refine Y9 Tryz.call238 (I6 (eM (m7 4 52 rfl rfl)) (eM (m7 5 53 rfl rfl)) (eM (m7 6 54 rfl rfl))) rfl (Ya5 r1 a3 j8 o4 hS) ?_
 rintro a71 a72 ⟨a73, a74, a75, rfl, s1, hS, s2⟩
 refine ⟨_, rfl, ?_⟩
 have Z2 := Z2.trans s1
 obtain ⟨a76, s3, hS, s4⟩ := s2.freeze hS
 have Z2 := Z2.trans s3
 exact Z1 ⟨55, _, _, rfl, rfl, Z2, hS, s4⟩
 intro y9 a77 z0 a78 s5 hS s6 a39 hcq
 have Z2 := Sub.refl z0
 have X8 := X5.trans s5
 have z1 : ev y9 (.tmp 11) = vI (R2 k5 l2) := Eq.trans (s6 11 rfl) rfl
 refine Z4 (vI (R2 k5 l2)) z1 rfl ?_
 exact Z1 ⟨56, _, _, rfl, rfl, Z2, hS, rfl⟩
 intro a79 a80 z2 a81 s7 hS a40 s8 hcq
 have Z2 := Sub.refl z2
 have X8 := X5.trans s7
 refine Y9 Tryz.call152 (R0 (eM (s8 8 56 rfl rfl))) rfl (Yx2 r2  hS) ?_
 rintro a82 a83 ⟨_, a84, rfl, s9, hS, rfl⟩
 refine ⟨_, rfl, ?_⟩
 have Z2 := Z2.trans s9
 exact Z1 ⟨57, _, _, rfl, rfl, Z2, hS, rfl⟩
 intro a85 a86 z3 a87 t0 hS a41 t1 hcq
 have Z2 := Sub.refl z3
 have X8 := X5.trans t0
 refine Xc4 (IntKind.i64.wrap (0 - l3)) (eM (t1 9 57 rfl rfl)) rfl rfl ?_
 exact Z1 ⟨58, _, _, rfl, rfl, Z2, hS, rfl⟩
 intro a88 a89 z4 a90 t4 hS a42 t5 hcq
 have Z2 := Sub.refl z4
 have X8 := X5.trans t4
 refine Y9 Tryz.call215 (R0 (eM (t5 10 58 rfl rfl))) rfl (Ya3 r3  hS) ?_
 rintro a91 a92 ⟨_, a93, rfl, t6, hS, rfl⟩
 refine ⟨_, rfl, ?_⟩
 have Z2 := Z2.trans t6
 exact Z1 ⟨59, _, _, rfl, rfl, Z2, hS, rfl⟩
 intro j9 z5 z6 h7 hS h8 m8 hcq
 have hS : St z6 z5 (C45 ++ ([(h2, cA ([m9]) 184)] ++ ([(b4, cA ([vN] ++ [vN]) 29)] ++ ([(b1, cA ([Value.pointer (some ⟨e8, f5, none⟩)]) 102)] ++ L)))) := hS
 have Z2 := Z2.trans h7
 have hlt := hlt.trans h7.sb
 have a3 := a3.mono h7
 have a4 := a4.mono h7
 have i2 := i2.mono h7
 have a7 := h7.1 _ _ a7
 have q2 : ev j9 (.tmp 1) = vI a1 := Eq.trans (h8 1 rfl) rfl
 have o5 : ev j9 (.tmp 2) = vI a2 := Eq.trans (h8 2 rfl) rfl
 have n0 : ev j9 (.tmp 3) = vP b1 := Eq.trans (h8 3 rfl) rfl
 have z7 : ev j9 (.tmp 6) = vP b4 := Eq.trans (h8 6 rfl) rfl
 have q3 : ev j9 (.tmp 9) = vP h2 := Eq.trans (h8 9 rfl) rfl
 have z8 : ev j9 (.tmp 12) = l6 := Eq.trans (h8 12 rfl) rfl
 obtain ⟨a94, z9, n1⟩ := gvM (m8 7 55 (by decide) rfl)
 obtain ⟨a95, i7, a43, t7, hS⟩ := Xp5.out x3 i3 hlt hS
 have Z2 := Sub.viaM hM zsub i7
 have n1 := t7 n1
 have a3 := z52.mono i7
 have a4 := z53.mono i7
 have a7 := i7.1 _ _ z55
 have g3 := z54.mono i7
 have hS := hS.perm Zb7.symm
 obtain ⟨e7, t8, q0⟩ := bind_some q0
 refine Y9 Tryz.call132 (I6 (by exact (eM (m8 0 48 (by decide) rfl))) (by exact z9) (by exact (eM (m8 11 59 (by decide) rfl)))) rfl (Zs7 t8 i2 n1 hS) ?_
 rintro a96 a97 ⟨a98, a99, rfl, i8, hS, t9⟩
 refine ⟨_, rfl, ?_⟩
 have Z2 := Z2.trans i8
 have a3 := a3.mono i8
 have a4 := a4.mono i8
 have g3 := g3.mono i8
 have a7 := i8.1 _ _ a7
 refine Z1 (Z3 (Z0 ?_))
 refine Y4 (m9) Yu9 (by exact q3) (hS.get (mR mL)) rfl rfl (Z4 (vI a2) (by exact o5) rfl (Z4 (l6) (by exact z8) rfl ?_))
 obtain ⟨a44, q0⟩ := gd q0
 obtain ⟨a45, q0⟩ := gd q0
 obtain ⟨aa0, aa1, p3⟩ := g3.some (i := a2) (by omega) (by omega)
 refine Zs3 Yj1 (Eq.trans rfl p3) rfl (by omega) (by omega) rfl ?_
 obtain ⟨aa2, i9, hS, u0⟩ := t9.freeze hS
 have Z2 := Z2.trans i9
 have a3 := a3.mono i9
 have a4 := a4.mono i9
 have g3 := g3.mono i9
 have a7 := i9.1 _ _ a7
 have hS := hS.perm U1
 refine Zs8 (τ := (Zk1 .i64)) (v := m9) (u := l6) e7 (i := a2) rfl Xd9 p3 g3 hS rfl rfl (by omega) (by omega) u0.relv ?_
 intro aa3 aa4 g7 hS
 have hS := hS.perm U1.symm
 refine Z1 (Z3 (Z0 ?_))
 refine Y4 (Value.pointer (some ⟨e8, f5, none⟩)) Yc9 (by exact n0) (hS.get (mR (mR (mR mL)))) rfl rfl (Z4 (vI a1) (by exact q2) rfl (Z4 (vI a2) (by exact o5) rfl ?_))
 refine Zd8 (τ := (Y6 .i64)) Zo3 ze3 rfl [vI a1, vI a2] [a1, a2] rfl rfl (Ya6 rfl rfl) (Xx9 rfl rfl) (by decide) (by decide) hS rfl ?_
 intro aa5 aa6 aa7 j0 hS u1
 have Z2 := Z2.trans j0
 have a3 := a3.mono j0
 have a4 := a4.mono j0
 have g7 := g7.mono j0
 have a7 := j0.1 _ _ a7
 obtain ⟨c4, u2, q0⟩ := bind_some q0
 refine Y9 Tryz.call88 (U7 rfl rfl) rfl (Yg1 u2 ⟨_, _, _, _, _, rfl, a7, ⟨_, _, rfl, ⟨_, rfl, a3⟩, ⟨_, rfl, a4⟩⟩, h4⟩ u1 hS) ?_
 rintro aa8 aa9 ⟨_, q4, rfl, j1, hS, ⟨b6, d3, rfl, a5, a6⟩⟩
 refine ⟨_, rfl, ?_⟩
 have a46 := a5
 have b0 : RdF (Y6 .i64) H q4 b6 c4.1 := Y1.mono (Zg1 Z2) a5
 have a5 := Y1.old a5
 have a47 := a6
 have b5 : RdF (Y6 .i64) H q4 d3 c4.2 := Y1.mono (Zg1 Z2) a6
 have a6 := Y1.old a6
 have Z2 := Z2.trans j1
 have a3 := a3.mono j1
 have a4 := a4.mono j1
 have g7 := g7.mono j1
 have a7 := j1.1 _ _ a7
 refine Z4 (Value.tuple #[b6, d3]) rfl rfl (W9 (b6) rfl rfl rfl (W9 (d3) rfl rfl rfl ?_))
 refine V1 (z := vN) ([vN]).toArray Xm2.zero rfl hS rfl ?_
 intro g8 ab0 hS
 refine V1 (z := vN) ([vN]).toArray Wz8.zero rfl hS rfl ?_
 intro g9 ab1 hS
 have hS := hS.perm U1
 refine Zg5 (v := b6) (cs := ([vN]).toArray) (cs' := ([b6]).toArray) K9 rfl rfl hS a5.isOne rfl (Nat.le_of_ble_eq_true rfl) rfl ?_
 intro ab2 hS
 have hS := hS.perm U1.symm
 refine Zg5 (v := d3) (cs := ([vN]).toArray) (cs' := ([d3]).toArray) Wn2 rfl rfl hS a6.isOne rfl (Nat.le_of_ble_eq_true rfl) rfl ?_
 intro ab3 hS
 refine Z1 (Z3 (Z0 ?_))
 refine Y4 (b6) K9 rfl (hS.get (mR mL)) rfl rfl ?_
 refine Zt9 ([b6] ++ [vN]) Wx4 (Za3 rfl) (K5 rfl a5.cellsL rfl (Nat.le_of_ble_eq_true rfl) (Zp6 rfl)) rfl ?_
 refine Zx2 (τ := (Zs1 H (X6 yT))) I1 Zd2 rfl hS rfl ?_
 intro q5 ab4 a00 f2 hS
 refine V1 (z := vA ([vN] ++ [vN])) ([vN] ++ [vN]).toArray Zz0.zero rfl hS rfl ?_
 intro k0 ab5 hS
 refine W0 (v := vA ([b6] ++ [vN])) (vs := ([b6] ++ [vN]).toArray) (cs := ([vN] ++ [vN]).toArray) Q9 rfl rfl rfl hS rfl (L9 (T8 a5.isOne) (T8 rfl)) rfl ?_
 intro ab6 hS
 refine Z5 (q5) rfl rfl (Z1 (Z3 ?_))
 have hS := hS.perm Va3
 obtain ⟨ab7, f8, hS, b3⟩ := St.freezeBox hS
 have Z2 := Z2.trans f8
 have a5 := a5.mono f8
 have b0 := b0.mono f8
 have a6 := a6.mono f8
 have b5 := b5.mono f8
 have g7 := g7.mono f8
 have f2 := f2.mono f8
 have a3 := a3.mono f8
 have a4 := a4.mono f8
 have a7 := f8.1 _ _ a7
 have hS := hS.perm Yj0
 obtain ⟨ab8, f9, hS, b8⟩ := g7.freeze hS
 have Z2 := Z2.trans f9
 have a3 := a3.mono f9
 have a4 := a4.mono f9
 have a5 := a5.mono f9
 have b0 := b0.mono f9
 have a6 := a6.mono f9
 have b5 := b5.mono f9
 have f2 := f2.mono f9
 have b3 := f9.1 _ _ b3
 have a7 := f9.1 _ _ a7
 have hS := hS.perm Yv8
 obtain ⟨ab9, f3, hS, b9⟩ := St.freezeBox hS
 have Z2 := Z2.trans f3
 have a3 := a3.mono f3
 have a4 := a4.mono f3
 have a5 := a5.mono f3
 have b0 := b0.mono f3
 have a6 := a6.mono f3
 have b5 := b5.mono f3
 have f2 := f2.mono f3
 have b3 := f3.1 _ _ b3
 have a7 := f3.1 _ _ a7
 have b8 := b8.mono f3
 have hS := hS.perm Zb7
 obtain ⟨ac0, f0, hS, c0⟩ := St.freezeBox hS
 have Z2 := Z2.trans f0
 have a3 := a3.mono f0
 have a4 := a4.mono f0
 have b8 := b8.mono f0
 have a5 := a5.mono f0
 have b0 := b0.mono f0
 have f2 := f2.mono f0
 have b3 := f0.1 _ _ b3
 have a7 := f0.1 _ _ a7
 have b9 := f0.1 _ _ b9
 have a6 := a6.mono f0
 have b5 := b5.mono f0
 have hS := hS.perm Zb7
 obtain ⟨q6, e4, hS, c1⟩ := St.freezeBox hS
 have Z2 := Z2.trans e4
 have a3 := a3.mono e4
 have a4 := a4.mono e4
 have b8 := b8.mono e4
 have a6 := a6.mono e4
 have b5 := b5.mono e4
 have a5 := a5.mono e4
 have b0 := b0.mono e4
 have f2 := f2.mono e4
 have b3 := e4.1 _ _ b3
 have a7 := e4.1 _ _ a7
 have b9 := e4.1 _ _ b9
 have c0 := e4.1 _ _ c0
 refine Z0 ?_
 refine Xt9 (by exact n0) (by exact q3) rfl rfl rfl (Z5 (Value.func (.func 242) #[] #[vP b1, vP h2, vP g9, vP g8]) rfl rfl (Z1 (Z3 (Z3 (Z0 ?_)))))
 refine Y4 (Value.pointer (some ⟨e8, f5, none⟩)) Yc9 (by exact n0) (hS.froz _ _ b3) ((Zc9 ([Value.pointer (some ⟨e8, f5, none⟩)]) 1) 0 (show 0 < 1 by decide)) rfl (P4 rfl rfl (Y3 R8 rfl rfl ?_))
 refine Y4 (g2) K9 rfl (hS.froz _ _ a7) (h4 0 (show 0 < 2 by decide)) rfl ?_
 have a48 := a3.bound
 refine W7 Q2 rfl a3 rfl (Z4 (vI 0) rfl rfl (Z1 (Y8 ?_)))
 have q7 : V0 (Zs1 H (X6 yT)) 47 q6 (.slice none 0 0) [] [] := V0.nil _ _ _
 obtain ⟨o6, c8, k1⟩ := bind_some q0
 refine W5 (id := 0) (fun k f w => ∃ (a9 : Int) (b7 : (List MpT)) (b2 : (List MpT)) (H1 : FH) (f4 : OL) (e5 : Value) (c6 : OL) (c2 : Value), T9 K a0 a1 a2 e7 c4 r9 k a9 b7 b2 = some o6 ∧ Sub H H1 ∧ St H1 w (c6 ++ ([(k0, cA ([b6] ++ [c2]) 29)] ++ (f4 ++ ([(b4, cA ([vN] ++ [vN]) 29)] ++ L)))) ∧ 0 ≤ a9 ∧ Zd1 (Zs1 H (X6 yT)) 47 H1 e5 b7 f4 c2 b2 c6 (Zb8 [b6]) ∧ RdF (Y6 .i64) H H1 b6 c4.1 ∧ RdF (Y6 .i64) H H1 d3 c4.2 ∧ Y1 (Zk1 .i64) H1 m9 ((r9.set (a1).toNat ([] : MpT)).set (a2).toNat e7) ∧ Y1 (Y6 .i64) H1 b6 c4.1 ∧ Y1 (Y6 .i64) H1 d3 c4.2 ∧ Y1 (Y6 .i64) H1 g2 a0.1 ∧ Y1 (X6 yT) H1 h3 a0.2 ∧ H1 b1 = some (cA ([Value.pointer (some ⟨e8, f5, none⟩)]) 102) ∧ H1 e8 = some (.cells o2 p8) ∧ H1 h2 = some (cA ([m9]) 184) ∧ H1 g9 = some (cA ([d3]) 105) ∧ H1 g8 = some (cA ([b6]) 22) ∧ ev f (.tmp 1) = vI a1 ∧ ev f (.tmp 2) = vI a2 ∧ ev f (.tmp 3) = vP b1 ∧ ev f (.tmp 6) = vP b4 ∧ ev f (.tmp 15) = vP k0 ∧ ev f (.tmp 16) = e5 ∧ ev f (.tmp 17) = Value.func (.func 242) #[] #[vP b1, vP h2, vP g9, vP g8] ∧ ev f (.tmp 81) = vI (a0.1.length : Int) ∧ ev f (.tmp 82) = vI a9) (fun f w => ∃ (e3 : (List MpT)) (f1 : (List MpT)) (H1 : FH) (g4 : OL) (d0 : Value) (h0 : OL) (d4 : Value), o6 = .go (e3, f1) ∧ Sub H H1 ∧ St H1 w (g4 ++ ([(k0, cA ([b6] ++ [d0]) 29)] ++ (h0 ++ ([(b4, cA ([vN] ++ [vN]) 29)] ++ L)))) ∧ Zd1 (Zs1 H (X6 yT)) 47 H1 d4 f1 h0 d0 e3 g4 (Zb8 [b6]) ∧ RdF (Y6 .i64) H H1 b6 c4.1 ∧ Y1 (Y6 .i64) H1 b6 c4.1 ∧ ev f (.tmp 6) = vP b4 ∧ ev f (.tmp 15) = vP k0 ∧ ev f (.tmp 16) = d4) rfl ?_ ?_ K ?_ ?_
 rintro f w ⟨a9, b7, b2, H1, f4, e5, c6, c2, c8, _⟩
 rw [T9] at c8; cases c8
 rintro k ac1 ac2 w1 hx0 ⟨a9, b7, b2, a01, f4, e5, c6, c2, c8, Z2, hS, a10, c3, b0, b5, b8, a5, a6, a3, a4, b3, a7, b9, c0, c1, k2, k3, m2, g6, i4, l7, i5, i6, h1⟩
 rw [T9] at c8
 refine Z3 (Z0 ?_)
 refine V7 (k := .i64) (a := a9) (b := (a0.1.length : Int)) (by exact h1) (by exact i6) rfl (Z1 (Z3 ?_))
 by_cases k7 : a9 < (a0.1.length : Int)
 rw [if_pos k7] at c8
 refine Y0 (bT k7 rfl) (Y7 (Z3 (Y8 (Z3 (Z0 (Z4 (vI a9) (by exact h1) rfl (Z5 (vI a9) rfl rfl (Z1 (Z3 (Z0 (Z4 (Value.func (.func 242) #[] #[vP b1, vP h2, vP g9, vP g8]) (by exact i5) rfl ?_)))))))))))
 refine Zj4 (k := .i64) hS rfl ?_
 intro a02 ac3 ac4 n2 hS
 refine Z4 (vI a9) rfl rfl ?_
 obtain ⟨n9, u3, c8⟩ := bind_some c8
 refine Y9 Tryz.call151 (R0 rfl) rfl (Ze0 u3  hS) ?_
 rintro ac5 ac6 ⟨ac7, ac8, rfl, d1, hS, ⟨_, rfl, rfl⟩⟩
 refine ⟨_, rfl, ?_⟩
 have Z2 := Z2.trans d1
 have a3 := a3.mono d1
 have a4 := a4.mono d1
 have b8 := b8.mono d1
 have a6 := a6.mono d1
 have b5 := b5.mono d1
 have a5 := a5.mono d1
 have b0 := b0.mono d1
 have c3 := c3.mono d1
 have n2 := n2.mono d1
 have b3 := d1.1 _ _ b3
 have a7 := d1.1 _ _ a7
 have b9 := d1.1 _ _ b9
 have c0 := d1.1 _ _ c0
 have c1 := d1.1 _ _ c1
 refine Yb2 (a := n9) (m := 1) Zh5 rfl rfl rfl n2 hS ?_
 intro ac9 ad0 u4 hS
 refine Z4 (a02) rfl rfl ?_
 obtain ⟨ad1, d5, hS, u5⟩ := u4.freeze hS
 have Z2 := Z2.trans d5
 have a3 := a3.mono d5
 have a4 := a4.mono d5
 have b8 := b8.mono d5
 have a6 := a6.mono d5
 have b5 := b5.mono d5
 have a5 := a5.mono d5
 have b0 := b0.mono d5
 have c3 := c3.mono d5
 have b3 := d5.1 _ _ b3
 have a7 := d5.1 _ _ a7
 have b9 := d5.1 _ _ b9
 have c0 := d5.1 _ _ c0
 have c1 := d5.1 _ _ c1
 obtain ⟨c5, u6, c8⟩ := bind_some c8
 refine Xi4 (caps := #[vP b1, vP h2, vP g9, vP g8]) Tryz.call242 (by exact rfl) (R0 rfl) rfl rfl (Zq0 u6 u5 ⟨_, _, _, _, _, rfl, b3, ⟨_, rfl, ⟨_, _, _, _, _, rfl, a7, ⟨_, _, rfl, ⟨_, rfl, a3⟩, ⟨_, rfl, a4⟩⟩, h4⟩⟩, (Zc9 ([Value.pointer (some ⟨e8, f5, none⟩)]) 1)⟩ ⟨_, _, _, _, _, rfl, b9, ⟨_, rfl, b8⟩, (Zc9 ([m9]) 1)⟩ ⟨_, _, _, _, _, rfl, c0, ⟨_, rfl, a6⟩, (Zc9 ([d3]) 1)⟩ ⟨_, _, _, _, _, rfl, c1, ⟨_, rfl, a5⟩, (Zc9 ([b6]) 1)⟩ hS) ?_
 rintro ad2 ad3 ⟨_, a03, rfl, d6, hS, ⟨a31, a32, rfl, ⟨_, rfl, ⟨d7, rfl, c7⟩⟩, rfl⟩⟩
 refine ⟨_, rfl, ?_⟩
 have a49 := c7
 have h9 : RdF yT H a03 d7 c5.1 := Y1.mono (Zg1 Z2) c7
 have c7 := Y1.old c7
 have Z2 := Z2.trans d6
 have a3 := a3.mono d6
 have a4 := a4.mono d6
 have b8 := b8.mono d6
 have a6 := a6.mono d6
 have b5 := b5.mono d6
 have a5 := a5.mono d6
 have b0 := b0.mono d6
 have c3 := Zd1.keep (Zy4 H (Zj3 _)) c3 d6 (RdF.rootsOut a49) (Y1.rootsIn c7) (Zp7 _)
 have b3 := d6.1 _ _ b3
 have a7 := d6.1 _ _ a7
 have b9 := d6.1 _ _ b9
 have c0 := d6.1 _ _ c0
 have c1 := d6.1 _ _ c1
 refine Z4 (Value.tuple #[vA ([d7]), vI c5.2]) rfl rfl (W9 (vA ([d7])) rfl rfl rfl (W9 (vI c5.2) rfl rfl rfl ?_))
 refine V1 (z := vA ([vN])) ([vN]).toArray Zd2.zero rfl hS rfl ?_
 intro a04 ad4 hS
 refine W0 (v := vA ([d7])) (vs := ([d7]).toArray) (cs := ([vN]).toArray) T1 rfl rfl rfl hS rfl (T8 c7.isOne) rfl ?_
 intro ad5 hS
 refine Z5 (vI c5.2) rfl rfl (Z1 (Z3 (Z3 (Z0 (Z4 (vI c5.2) rfl rfl ?_)))))
 refine J2 (k := .i64) (a := c5.2) (b := 0) rfl rfl rfl (Z1 ?_)
 by_cases k8 : c5.2 = 0
 rw [if_pos k8] at c8
 refine Z8 (bN k8 rfl) (Y7 (Z3 (Z0 (Z4 (e5) (by exact l7) rfl ?_))))
 refine W2 T1 rfl (hS.get mL) rfl rfl ?_
 refine Zd8 (τ := A9 (Zs1 H (X6 yT))) I1 Zd2 rfl [vA ([d7])] [(c5.1, Zb8 [d7])] rfl rfl (Za3 rfl) (Zn7 ⟨⟨_, rfl, h9⟩, rfl⟩) (by decide) (by decide) hS rfl ?_
 intro ad6 q8 ad7 c9 hS u7
 have Z2 := Z2.trans c9
 have a3 := a3.mono c9
 have a4 := a4.mono c9
 have b8 := b8.mono c9
 have a6 := a6.mono c9
 have b5 := b5.mono c9
 have a5 := a5.mono c9
 have b0 := b0.mono c9
 have c7 := c7.mono c9
 have h9 := h9.mono c9
 have c3 := c3.mono c9
 have b3 := c9.1 _ _ b3
 have a7 := c9.1 _ _ a7
 have b9 := c9.1 _ _ b9
 have c0 := c9.1 _ _ c0
 have c1 := c9.1 _ _ c1
 obtain ⟨u8, c8⟩ := gd c8
 have hS := hS.perm Yf9
 refine Wd7 (τ := (Zs1 H (X6 yT))) (R := Zb8 [d7]) Xg9 rfl rfl rfl c3 hS u7 (by have h := u8; simpa using h) rfl ?_
 intro l9 ad8 n3 e6 hS
 have hS := hS.perm Yf9.symm
 refine Z5 (l9) rfl rfl (Z1 (Z3 (Z3 ?_)))
 refine B6 (fun f w => ∃ (f6 : Bool) (H1 : FH), L4 K (T9 K a0 a1 a2 e7 c4 r9 k) a0 a1 a2 e7 c4 c5 r9 a9 b2 b7 f6 = some o6 ∧ Sub H H1 ∧ St H1 w ([(a04, cA ([d7]) 47)] ++ (c6 ++ ([(k0, cA ([b6] ++ [c2]) 29)] ++ (n3 ++ ([(b4, cA ([vN] ++ [vN]) 29)] ++ L))))) ∧ RdF (Y6 .i64) H H1 b6 c4.1 ∧ RdF (Y6 .i64) H H1 d3 c4.2 ∧ RdF yT H H1 d7 c5.1 ∧ Y1 (Zk1 .i64) H1 m9 ((r9.set (a1).toNat ([] : MpT)).set (a2).toNat e7) ∧ Y1 (Y6 .i64) H1 b6 c4.1 ∧ Y1 (Y6 .i64) H1 d3 c4.2 ∧ Y1 yT H1 d7 c5.1 ∧ Y1 (Y6 .i64) H1 g2 a0.1 ∧ Y1 (X6 yT) H1 h3 a0.2 ∧ Zd1 (Zs1 H (X6 yT)) 47 H1 l9 (b7 ++ [c5.1]) n3 c2 b2 c6 (Zb8 [b6]) ∧ H1 b1 = some (cA ([Value.pointer (some ⟨e8, f5, none⟩)]) 102) ∧ H1 e8 = some (.cells o2 p8) ∧ H1 h2 = some (cA ([m9]) 184) ∧ H1 g9 = some (cA ([d3]) 105) ∧ H1 g8 = some (cA ([b6]) 22) ∧ ev f (.tmp 1) = vI a1 ∧ ev f (.tmp 2) = vI a2 ∧ ev f (.tmp 3) = vP b1 ∧ ev f (.tmp 6) = vP b4 ∧ ev f (.tmp 15) = vP k0 ∧ ev f (.tmp 16) = l9 ∧ ev f (.tmp 17) = Value.func (.func 242) #[] #[vP b1, vP h2, vP g9, vP g8] ∧ ev f (.tmp 18) = vI a9 ∧ ev f (.tmp 81) = vI (a0.1.length : Int) ∧ ev f (.tmp 82) = vI a9 ∧ ev f (.tmp 109) = Value.bool f6) ?_ ?_
 rintro fj5 a50 ⟨f6, u9, d2, Z2, hS, b0, b5, h9, b8, a5, a6, c7, a3, a4, e6, b3, a7, b9, c0, c1, n7, n8, m0, j2, i0, m3, k4, p5, m4, m5, m1⟩
 unfold L4 at d2
 by_cases k9 : f6 = true
 rw [if_pos k9] at d2
 refine Y0 (Eq.trans (by exact m1) (congrArg Value.bool k9)) ?_
 refine W4 rfl (Z0 ?_)
 refine W8 (a9 + 1) (by exact m5) rfl (IntWalk.i64_in _ (by omega)) rfl (Z4 (vI (a9 + 1)) rfl rfl (Z1 ?_))
 have hS := St.dropA hS
 exact w1 _ _ ⟨(a9 + 1), (b7 ++ [c5.1]), b2, u9, n3, l9, c6, c2, d2, Z2, hS, (by omega), e6, b0, b5, b8, a5, a6, a3, a4, b3, a7, b9, c0, c1, n7, n8, m0, j2, i0, m3, k4, m4, rfl⟩
 rw [if_neg k9] at d2
 refine Z8 (Eq.trans (by exact m1) (congrArg Value.bool (W1 k9))) (Y7 (Z3 (Z0 (Z4 (Value.func (.func 242) #[] #[vP b1, vP h2, vP g9, vP g8]) (by exact k4) rfl ?_))))
 refine Y4 (Value.pointer (some ⟨e8, f5, none⟩)) Yc9 (by exact m0) (hS.froz _ _ b3) ((Zc9 ([Value.pointer (some ⟨e8, f5, none⟩)]) 1) 0 (show 0 < 1 by decide)) rfl (P4 rfl rfl (Y3 N8 rfl rfl ?_))
 refine Y4 (h3) Zf9 rfl (hS.froz _ _ a7) (h4 1 (show 1 < 2 by decide)) rfl (Z4 (vI a9) (by exact p5) rfl ?_)
 obtain ⟨a51, d2⟩ := gd d2
 obtain ⟨ad9, ae0, a52, ae1, _, v0, v1, ⟨q9, rfl, p6⟩, v2⟩ := a4.elem (i := a9) (by omega) (by omega)
 refine W3 I1 rfl rfl v0 rfl (by omega) (by omega) rfl ?_
 refine V6 ([q9]) T1 rfl (hS.froz _ _ v1) rfl v2 rfl ?_
 obtain ⟨p7, v3, d2⟩ := bind_some d2
 refine Y9 Tryz.call90 (R0 rfl) rfl (Zp5 v3 p6 hS) ?_
 rintro ae2 ae3 ⟨ae4, ae5, ae6, rfl, d8, hS, v4⟩
 refine ⟨_, rfl, ?_⟩
 have Z2 := Z2.trans d8
 have a3 := a3.mono d8
 have a4 := a4.mono d8
 have b8 := b8.mono d8
 have a6 := a6.mono d8
 have b5 := b5.mono d8
 have a5 := a5.mono d8
 have b0 := b0.mono d8
 have e6 := e6.mono d8
 have b3 := d8.1 _ _ b3
 have a7 := d8.1 _ _ a7
 have b9 := d8.1 _ _ b9
 have c0 := d8.1 _ _ c0
 have c1 := d8.1 _ _ c1
 obtain ⟨ae7, d9, hS, v5⟩ := v4.freeze hS
 have Z2 := Z2.trans d9
 have a3 := a3.mono d9
 have a4 := a4.mono d9
 have b8 := b8.mono d9
 have a6 := a6.mono d9
 have b5 := b5.mono d9
 have a5 := a5.mono d9
 have b0 := b0.mono d9
 have e6 := e6.mono d9
 have b3 := d9.1 _ _ b3
 have a7 := d9.1 _ _ a7
 have b9 := d9.1 _ _ b9
 have c0 := d9.1 _ _ c0
 have c1 := d9.1 _ _ c1
 obtain ⟨e2, v6, d2⟩ := bind_some d2
 refine Xi4 (caps := #[vP b1, vP h2, vP g9, vP g8]) Tryz.call242 (by exact rfl) (R0 rfl) rfl rfl (Zq0 v6 v5 ⟨_, _, _, _, _, rfl, b3, ⟨_, rfl, ⟨_, _, _, _, _, rfl, a7, ⟨_, _, rfl, ⟨_, rfl, a3⟩, ⟨_, rfl, a4⟩⟩, h4⟩⟩, (Zc9 ([Value.pointer (some ⟨e8, f5, none⟩)]) 1)⟩ ⟨_, _, _, _, _, rfl, b9, ⟨_, rfl, b8⟩, (Zc9 ([m9]) 1)⟩ ⟨_, _, _, _, _, rfl, c0, ⟨_, rfl, a6⟩, (Zc9 ([d3]) 1)⟩ ⟨_, _, _, _, _, rfl, c1, ⟨_, rfl, a5⟩, (Zc9 ([b6]) 1)⟩ hS) ?_
 rintro ae8 ae9 ⟨_, a05, rfl, e0, hS, ⟨a33, a34, rfl, ⟨_, rfl, ⟨f7, rfl, g1⟩⟩, rfl⟩⟩
 refine ⟨_, rfl, ?_⟩
 have a53 := g1
 have v7 : RdF yT H a05 f7 e2.1 := Y1.mono (Zg1 Z2) g1
 have g1 := Y1.old g1
 have Z2 := Z2.trans e0
 have a3 := a3.mono e0
 have a4 := a4.mono e0
 have b8 := b8.mono e0
 have a6 := a6.mono e0
 have b5 := b5.mono e0
 have a5 := a5.mono e0
 have b0 := b0.mono e0
 have e6 := Zd1.keep (Zy4 H (Zj3 _)) e6 e0 (RdF.rootsOut a53) (Y1.rootsIn g1) (Zp7 _)
 have b3 := e0.1 _ _ b3
 have a7 := e0.1 _ _ a7
 have b9 := e0.1 _ _ b9
 have c0 := e0.1 _ _ c0
 have c1 := e0.1 _ _ c1
 refine Z4 (Value.tuple #[vA ([f7]), vI e2.2]) rfl rfl (W9 (vA ([f7])) rfl rfl rfl (W9 (vI e2.2) rfl rfl rfl ?_))
 refine V1 (z := vA ([vN])) ([vN]).toArray Zd2.zero rfl hS rfl ?_
 intro af0 af1 hS
 refine W0 (v := vA ([f7])) (vs := ([f7]).toArray) (cs := ([vN]).toArray) T1 rfl rfl rfl hS rfl (T8 g1.isOne) rfl ?_
 intro af2 hS
 refine Z5 (vI e2.2) rfl rfl (Z1 (Z3 (Z3 (Z0 (Z4 (vI e2.2) rfl rfl ?_)))))
 refine J2 (k := .i64) (a := e2.2) (b := 0) rfl rfl rfl (Z1 ?_)
 by_cases l0 : e2.2 = 0
 rw [if_pos l0] at d2
 refine Z8 (bN l0 rfl) (Y7 (Z0 (Y3 N8 (by exact i0) rfl ?_)))
 refine Y4 (c2) Zf9 rfl (hS.get (mR (mR (mR mL)))) rfl rfl ?_
 refine W2 T1 rfl (hS.get mL) rfl rfl ?_
 refine Zd8 (τ := A9 (Zs1 H (X6 yT))) I1 Zd2 rfl [vA ([f7])] [(e2.1, Zb8 [f7])] rfl rfl (Za3 rfl) (Zn7 ⟨⟨_, rfl, v7⟩, rfl⟩) (by decide) (by decide) hS rfl ?_
 intro af3 a06 af4 e1 hS v8
 have Z2 := Z2.trans e1
 have a3 := a3.mono e1
 have a4 := a4.mono e1
 have b8 := b8.mono e1
 have a6 := a6.mono e1
 have b5 := b5.mono e1
 have a5 := a5.mono e1
 have b0 := b0.mono e1
 have e6 := e6.mono e1
 have b3 := e1.1 _ _ b3
 have a7 := e1.1 _ _ a7
 have b9 := e1.1 _ _ b9
 have c0 := e1.1 _ _ c0
 have c1 := e1.1 _ _ c1
 obtain ⟨v9, d2⟩ := gd d2
 have hS := hS.perm Zb7
 refine We7 (τ := (Zs1 H (X6 yT))) (R := Zb8 [f7]) Xg9 rfl rfl rfl e6 hS v8 (by have h := v9; simpa using h) rfl ?_
 intro o7 af5 a07 p4 hS
 have hS := hS.perm Zb7.symm
 refine Y3 N8 (by exact i0) rfl ?_
 have hS := hS.perm Yf9
 refine Zg5 (v := o7) (cs := ([b6] ++ [c2]).toArray) (cs' := ([b6] ++ [o7]).toArray) Zf9 rfl rfl hS p4.ownB.isOne rfl (Nat.le_of_ble_eq_true rfl) rfl ?_
 intro af6 hS
 have hS := hS.perm Yf9.symm
 refine Z1 (X2 (Z0 ?_))
 refine W8 (a9 + 1) (by exact m5) rfl (IntWalk.i64_in _ (by omega)) rfl (Z4 (vI (a9 + 1)) rfl rfl (Z1 ?_))
 have hS := St.dropA hS
 have hS := St.dropA hS
 exact w1 _ _ ⟨(a9 + 1), (b7 ++ [c5.1]), (b2 ++ [e2.1]), a06, n3, l9, a07, o7, d2, Z2, hS, (by omega), p4, b0, b5, b8, a5, a6, a3, a4, b3, a7, b9, c0, c1, n7, n8, m0, j2, i0, m3, k4, m4, rfl⟩
 rw [if_neg l0] at d2
 refine Y0 (bO l0 rfl) (Z3 (Z0 ?_))
 refine Q1 (vA ([vN] ++ [vN])) Yo6 rfl (Z4 (vI e2.2) rfl rfl ?_)
 have hS := hS.perm Yj0
 refine W0 (v := vA ([vN] ++ [vN])) (vs := ([vN] ++ [vN]).toArray) (cs := ([vN] ++ [vN]).toArray) Q9 (by exact j2) rfl rfl hS rfl (L9 (T8 rfl) (T8 rfl)) rfl ?_
 intro af7 hS
 have hS := hS.perm Yj0.symm
 refine Z5 (vN) rfl rfl (Z5 (vI e2.2) rfl rfl (Z1 ?_))
 refine X0 (vs := [vA ([vN] ++ [vN]), vN, vI e2.2]) Tryz.func160 ⟨⟨_, (by exact j2), U5 Q9 (hS.get (mR (mR (mR (mR (mR mL)))))) rfl⟩, rfl, rfl, trivial⟩ ?_
 have hz := Option.some.inj d2
 subst hz
 dsimp only [Ex.elim] at k1
 have hz := Option.some.inj k1
 subst hz
 exact ⟨_, _, rfl, Z2, (St.dropA (St.dropA (St.dropA (St.dropA (St.dropA (St.dropA hS)))))), ⟨_, _, _, rfl, Yf6.zero Z2, rfl⟩⟩
 intro w3
 refine Z0 (Z4 (vI a9) rfl rfl (Z4 (vI a1) (by exact k2) rfl ?_))
 refine Za4 (k := .i64) (a := a9) (b := a1) rfl rfl rfl (Z4 (Value.bool (decide (a9 = a1))) rfl rfl ?_)
 by_cases g0 : a9 = a1
 rw [if_pos g0] at c8
 refine Z9 rfl rfl (bT g0 rfl) rfl rfl rfl (Z9 rfl rfl (bT g0 rfl) rfl rfl rfl (Z9 rfl rfl (bT g0 rfl) rfl rfl rfl ?_))
 refine V2 (t := true) (Value.bool true) (bT g0 rfl) ((if_pos rfl).trans rfl) rfl (Z1 ?_)
 exact w3 _ _ ⟨true, q8, c8, Z2, hS, b0, b5, h9, b8, a5, a6, c7, a3, a4, e6, b3, a7, b9, c0, c1, k2, k3, m2, g6, i4, rfl, i5, rfl, i6, h1, rfl⟩
 rw [if_neg g0] at c8
 refine Y2 rfl rfl (bF g0 rfl) (Z4 (vI a9) rfl rfl ?_)
 refine Y2 rfl rfl (bF g0 rfl) (Z4 (vI a2) (by exact k3) rfl ?_)
 refine Y2 rfl rfl (bF g0 rfl) ?_
 refine Za4 (k := .i64) (a := a9) (b := a2) rfl rfl rfl ?_
 refine V2 (t := false) (Value.bool (decide (a9 = a2))) (bF g0 rfl) ((if_neg Bool.false_ne_true).trans rfl) rfl (Z1 ?_)
 exact w3 _ _ ⟨(decide (a9 = a2)), q8, c8, Z2, hS, b0, b5, h9, b8, a5, a6, c7, a3, a4, e6, b3, a7, b9, c0, c1, k2, k3, m2, g6, i4, rfl, i5, rfl, i6, h1, rfl⟩
 rw [if_neg k8] at c8
 refine Y0 (bO k8 rfl) (Z3 (Z0 ?_))
 refine Q1 (vA ([vN] ++ [vN])) Yo6 rfl (Z4 (vI c5.2) rfl rfl ?_)
 have hS := hS.perm Yv8
 refine W0 (v := vA ([vN] ++ [vN])) (vs := ([vN] ++ [vN]).toArray) (cs := ([vN] ++ [vN]).toArray) Q9 (by exact g6) rfl rfl hS rfl (L9 (T8 rfl) (T8 rfl)) rfl ?_
 intro af8 hS
 have hS := hS.perm Yv8.symm
 refine Z5 (vN) rfl rfl (Z5 (vI c5.2) rfl rfl (Z1 ?_))
 refine X0 (vs := [vA ([vN] ++ [vN]), vN, vI c5.2]) Tryz.func160 ⟨⟨_, (by exact g6), U5 Q9 (hS.get (mR (mR (mR (mR mL))))) rfl⟩, rfl, rfl, trivial⟩ ?_
 have hz := Option.some.inj c8
 subst hz
 dsimp only [Ex.elim] at k1
 have hz := Option.some.inj k1
 subst hz
 exact ⟨_, _, rfl, Z2, (St.dropA (St.dropA (St.dropA (St.dropA (St.dropA hS))))), ⟨_, _, _, rfl, Yf6.zero Z2, rfl⟩⟩
 rw [if_neg k7] at c8
 refine Z8 (bF k7 rfl) ?_
 refine W4 rfl ?_
 have hz := Option.some.inj c8
 subst hz
 exact hx0 _ _ ⟨b2, b7, a01, c6, c2, f4, e5, rfl, Z2, hS, c3, b0, a5, g6, i4, l7⟩
 exact ⟨0, ([] : List MpT), ([] : List MpT), q6, a00, q5, ([]), (vN), c8, Z2, hS, (by omega), Zd1.start f2 (Zp7 _) (Y1.rootsIn a5), b0, b5, b8, a5, a6, a3, a4, b3, a7, b9, c0, c1, q2, o5, n0, z7, rfl, rfl, rfl, rfl, rfl⟩
 rintro af9 ag0 ⟨e3, f1, ag1, g4, d0, h0, d4, rfl, Z2, hS, g5, b0, a5, m6, o8, o9⟩
 dsimp only [Ex.elim] at k1
 refine Z3 (Z0 ?_)
 refine W2 Q9 (by exact o8) (hS.get (mR mL)) rfl rfl (Z4 (d4) (by exact o9) rfl ?_)
 have hS := hS.perm Yf9
 refine W0 (v := vA ([b6] ++ [d0])) (vs := ([b6] ++ [d0]).toArray) (cs := ([vN] ++ [vN]).toArray) Q9 (by exact m6) rfl rfl hS rfl (L9 (T8 a5.isOne) (T8 g5.ownB.isOne)) rfl ?_
 intro ag2 hS
 have hS := hS.perm Yf9.symm
 refine Z5 (d4) rfl rfl (Z5 (vI 0) rfl rfl (Z1 ?_))
 refine X0 (vs := [vA ([b6] ++ [d0]), d4, vI 0]) Tryz.func160 ⟨⟨_, (by exact m6), U5 Q9 (hS.get (mR (mR (mR mL)))) rfl⟩, rfl, rfl, trivial⟩ ?_
 obtain ⟨a08, n4, hS, bB, lB, i1, g5⟩ := g5.freeze1 (Zj3 _) hS Z2
 have Z2 := Z2.trans n4
 have b0 := b0.mono n4
 have hS := hS.perm U1
 obtain ⟨a09, n5, hS, l1⟩ := g5.freezeN (Zj3 _) hS Z2
 have Z2 := Z2.trans n5
 have b0 := b0.mono n5
 have i1 := i1.mono (Yb3 n5)
 have hz := Option.some.inj k1
 subst hz
 exact ⟨_, _, rfl, Z2, (St.dropA (St.dropA hS)), ⟨_, _, _, rfl, Wb7 hM Z2 b0 lB i1 l1, rfl⟩⟩
end Go.Proofs.YtfodlhkoafhplaaGreat
