/- Walks of functions: each computes its pure function, if that gives a value. -/
import Derived.Test.YtfodlhkoafhplaaGreatVTy
import Derived.Test.YtfodlhkoafhplaaGreatVF17
import Derived.Test.YtfodlhkoafhplaaGreatVF11
import Derived.Test.YtfodlhkoafhplaaGreatVF1
import Derived.Test.YtfodlhkoafhplaaGreatVF6
import Derived.Test.YtfodlhkoafhplaaGreatVF10
namespace Go.Proofs.YtfodlhkoafhplaaGreat
open Go
set_option linter.unusedSimpArgs false
set_option linter.unusedVariables false
set_option maxRecDepth 100000
set_option maxHeartbeats 8000000
def I8 (K : Nat) (a0 : MpT) (a1 : ((List Int) × (List MpT))) (a2 : (List MpT)) (a3 : (List Int)) (a4 : (List Int)) : Option (MpT × Int) := ((Zb2 K a1.1 a0 a2).bind fun c6 => ((Zg7 K a1.1 c6 a3 a4).bind fun c7 => ((Zd7 K c7).bind fun a6 => some (a6.1, a6.2))))
theorem Zq0 {K : Nat} {a0 : MpT} {a1 : ((List Int) × (List MpT))} {a2 : (List MpT)} {a3 : (List Int)} {a4 : (List Int)} {r : (MpT × Int)} (q0 : I8 K a0 a1 a2 a3 a4 = some r) {H : FH} {w : World} {L : OL} {s0 : Value} {s1 : Value} {s2 : Value} {s3 : Value} {s4 : Value} (d7 : Q0 .i64 H s0 a0) (l4 : Zn8 (Wn5 (Zs6 (X6 (Y6 .i64)) (X6 (X6 yT)))) H s1 a1) (l5 : Zn8 (X6 (Zk1 .i64)) H s2 a2) (l6 : Zn8 (X6 (Y6 .i64)) H s3 a3) (l7 : Zn8 (X6 (Y6 .i64)) H s4 a4) (hS : St H w L) :
 Calls Tryz.prog 242 #[s0, s1, s2, s3, s4] w (T2 (fun v G => (R.t2 (R.agg (X6 yT)) (R.int .i64)).p (G.new H) v r) H L) := by
 obtain ⟨h6, h7, p8, v9, _, rfl, b6, ⟨_, rfl, ⟨b0, b2, o7, p9, _, rfl, b3, ⟨_, _, rfl, ⟨b4, rfl, a5⟩, ⟨l3, rfl, h9⟩⟩, d2⟩⟩, d8⟩ := l4
 obtain ⟨l9, m0, q1, w0, _, rfl, c8, ⟨d9, rfl, c0⟩, i0⟩ := l5
 obtain ⟨m1, m2, q2, w1, _, rfl, c9, ⟨e0, rfl, c1⟩, i1⟩ := l6
 obtain ⟨m3, m4, q3, w3, _, rfl, d0, ⟨e1, rfl, c2⟩, i2⟩ := l7
 have Z2 := Sub.refl H
 refine X3 Tryz.func242 rfl Tryz.ntmps242 rfl ?_
 unfold I8 at q0
 refine Z3 (Z0 ?_)
 refine V1 (z := vA ([vN])) ([vN]).toArray Zd2.zero rfl hS rfl ?_
 intro b1 w2 hS
 refine Z5 (vI 0) rfl rfl (Z1 (Z3 ?_))
 obtain ⟨c6, f0, q0⟩ := bind_some q0
 obtain ⟨c7, f1, q0⟩ := bind_some q0
 obtain ⟨a6, f2, q0⟩ := bind_some q0
 have X5 := Z2
 refine U6 17 (P9 [(8, MP.eq (Value.pointer (some ⟨b0, b2, none⟩))), (9, MP.eq (Value.pointer (some ⟨b0, b2, none⟩))), (10, MP.eq (Value.pointer (some ⟨b0, b2 + 0, none⟩))), (11, MP.eq (b4)), (12, MP.eq (Value.pointer (some ⟨b0, b2, none⟩))), (13, MP.eq (Value.pointer (some ⟨b0, b2, none⟩))), (14, MP.eq (Value.pointer (some ⟨b0, b2 + 0, none⟩))), (15, MP.eq (b4)), (16, MP.eq (s0)), (17, MP.eq (d9)), (18, MP.mp .i64 (c6)), (19, MP.eq (e0)), (20, MP.eq (e1)), (21, MP.mp .i64 (c7)), (22, MP.rep (Zn5.fr H (R.t2 (R.agg (X6 yT)) (R.int .i64))) (a6)), (23, MP.rep (Zn5.fr H (R.agg (X6 yT))) (a6.1)), (24, MP.eq (vI a6.2))]) [] mixed rfl rfl rfl hS (Z6 rfl ?_ (Z6 rfl ?_ (Z6 rfl ?_ (Z6 rfl ?_ (Z6 rfl ?_ (Z6 rfl ?_ (Z6 rfl ?_ (Z6 rfl ?_ (Z6 rfl ?_ (Z6 rfl ?_ (Z6 rfl ?_ (Z6 rfl ?_ (Z6 rfl ?_ (Z6 rfl ?_ (Z6 rfl ?_ (Z6 rfl ?_ (Z6 rfl ?_ U8))))))))))))))))) ?_
 intro f4 w5 H6 X7 h8 hS m5 q4 hcq
 have Z2 := Sub.refl H6
 have X8 := X5.trans h8
 have b6 := h8.1 _ _ b6
 have m6 : ev f4 (.tmp 1) = Value.pointer (some ⟨h6, h7, none⟩) := Eq.trans (m5 1 rfl) rfl
 refine Y4 (Value.pointer (some ⟨b0, b2, none⟩)) Yc9 m6 (hS.froz _ _ b6) (d8 0 (show 0 < 1 by decide)) rfl ?_
 exact Z1 ⟨8, _, _, rfl, rfl, Z2, hS, rfl⟩
 intro w4 w6 m7 w7 i3 hS q5 i4 hcq
 have Z2 := Sub.refl m7
 have X8 := X5.trans i3
 refine P4 (eM (i4 0 8 rfl rfl)) rfl ?_
 exact Z1 ⟨9, _, _, rfl, rfl, Z2, hS, rfl⟩
 intro w8 w9 m8 x0 i5 hS q6 i6 hcq
 have Z2 := Sub.refl m8
 have X8 := X5.trans i5
 refine Y3 R8 (eM (i6 1 9 rfl rfl)) rfl ?_
 exact Z1 ⟨10, _, _, rfl, rfl, Z2, hS, rfl⟩
 intro x1 x2 m9 x3 e2 hS q7 i7 hcq
 have Z2 := Sub.refl m9
 have X8 := X5.trans e2
 have b3 := e2.1 _ _ b3
 refine Y4 (b4) K9 (eM (i7 2 10 rfl rfl)) (hS.froz _ _ b3) (d2 0 (show 0 < 2 by decide)) rfl ?_
 exact Z1 ⟨11, _, _, rfl, rfl, Z2, hS, rfl⟩
 intro n0 x4 n1 x5 e3 hS i8 q8 hcq
 have Z2 := Sub.refl n1
 have X8 := X5.trans e3
 have b6 := e3.1 _ _ b6
 have n2 : ev n0 (.tmp 1) = Value.pointer (some ⟨h6, h7, none⟩) := Eq.trans (i8 1 rfl) rfl
 refine Y4 (Value.pointer (some ⟨b0, b2, none⟩)) Yc9 n2 (hS.froz _ _ b6) (d8 0 (show 0 < 1 by decide)) rfl ?_
 exact Z1 ⟨12, _, _, rfl, rfl, Z2, hS, rfl⟩
 intro x6 x7 n3 x8 i9 hS q9 j0 hcq
 have Z2 := Sub.refl n3
 have X8 := X5.trans i9
 refine P4 (eM (j0 4 12 rfl rfl)) rfl ?_
 exact Z1 ⟨13, _, _, rfl, rfl, Z2, hS, rfl⟩
 intro x9 y0 n4 y1 j1 hS r0 j2 hcq
 have Z2 := Sub.refl n4
 have X8 := X5.trans j1
 refine Y3 R8 (eM (j2 5 13 rfl rfl)) rfl ?_
 exact Z1 ⟨14, _, _, rfl, rfl, Z2, hS, rfl⟩
 intro y2 y3 n5 y4 e4 hS r1 j3 hcq
 have Z2 := Sub.refl n5
 have X8 := X5.trans e4
 have b3 := e4.1 _ _ b3
 refine Y4 (b4) K9 (eM (j3 6 14 rfl rfl)) (hS.froz _ _ b3) (d2 0 (show 0 < 2 by decide)) rfl ?_
 exact Z1 ⟨15, _, _, rfl, rfl, Z2, hS, rfl⟩
 intro n6 y5 n7 y6 j4 hS j5 r2 hcq
 have Z2 := Sub.refl n7
 have X8 := X5.trans j4
 have n8 : ev n6 (.tmp 0) = s0 := Eq.trans (j5 0 rfl) rfl
 refine Z4 (s0) n8 rfl ?_
 exact Z1 ⟨16, _, _, rfl, rfl, Z2, hS, rfl⟩
 intro n9 y7 o0 y8 e5 hS j6 r3 hcq
 have Z2 := Sub.refl o0
 have X8 := X5.trans e5
 have c8 := e5.1 _ _ c8
 have o1 : ev n9 (.tmp 2) = Value.pointer (some ⟨l9, m0, none⟩) := Eq.trans (j6 2 rfl) rfl
 refine Y4 (d9) Yu9 o1 (hS.froz _ _ c8) (i0 0 (show 0 < 1 by decide)) rfl ?_
 exact Z1 ⟨17, _, _, rfl, rfl, Z2, hS, rfl⟩
 intro y9 z0 o2 z1 c3 hS r4 c4 hcq
 have Z2 := Sub.refl o2
 have X8 := X5.trans c3
 have d7 := d7.mono c3
 have a5 := a5.mono c3
 have c0 := c0.mono c3
 refine Y9 Tryz.call238 (I6 (eM (c4 7 15 rfl rfl)) (eM (c4 8 16 rfl rfl)) (eM (c4 9 17 rfl rfl))) rfl (Ya5 f0 a5 d7 c0 hS) ?_
 rintro r5 r6 ⟨r7, r8, r9, rfl, f3, hS, f5⟩
 refine ⟨_, rfl, ?_⟩
 have Z2 := Z2.trans f3
 obtain ⟨s5, f6, hS, f7⟩ := f5.freeze hS
 have Z2 := Z2.trans f6
 exact Z1 ⟨18, _, _, rfl, rfl, Z2, hS, f7⟩
 intro j7 s6 j8 s7 d3 hS f8 o8 hcq
 have Z2 := Sub.refl j8
 have X8 := X5.trans d3
 have c9 := d3.1 _ _ c9
 have j9 : ev j7 (.tmp 3) = Value.pointer (some ⟨m1, m2, none⟩) := Eq.trans (f8 3 rfl) rfl
 refine Y4 (e0) Wn2 j9 (hS.froz _ _ c9) (i1 0 (show 0 < 1 by decide)) rfl ?_
 exact Z1 ⟨19, _, _, rfl, rfl, Z2, hS, rfl⟩
 intro k0 s8 k1 s9 d4 hS f9 o9 hcq
 have Z2 := Sub.refl k1
 have X8 := X5.trans d4
 have d0 := d4.1 _ _ d0
 have k2 : ev k0 (.tmp 4) = Value.pointer (some ⟨m3, m4, none⟩) := Eq.trans (f9 4 rfl) rfl
 refine Y4 (e1) K9 k2 (hS.froz _ _ d0) (i2 0 (show 0 < 1 by decide)) rfl ?_
 exact Z1 ⟨20, _, _, rfl, rfl, Z2, hS, rfl⟩
 intro t0 t1 k3 t4 b7 hS p0 b8 hcq
 have Z2 := Sub.refl k3
 have X8 := X5.trans b7
 have a5 := a5.mono b7
 have c1 := c1.mono b7
 have c2 := c2.mono b7
 obtain ⟨t5, k4, g0⟩ := gvM (b8 10 18 rfl rfl)
 refine Y9 Tryz.call89 (Wo1 (eM (b8 3 11 rfl rfl)) k4 (eM (b8 11 19 rfl rfl)) (eM (b8 12 20 rfl rfl))) rfl (Yo0 f1 a5 g0 c1 c2 hS) ?_
 rintro t6 t7 ⟨t8, t9, u0, rfl, g1, hS, g2⟩
 refine ⟨_, rfl, ?_⟩
 have Z2 := Z2.trans g1
 obtain ⟨u1, g3, hS, g4⟩ := g2.freeze hS
 have Z2 := Z2.trans g3
 exact Z1 ⟨21, _, _, rfl, rfl, Z2, hS, g4⟩
 intro u2 u3 k5 u4 d5 hS p1 g5 hcq
 have Z2 := Sub.refl k5
 have X8 := X5.trans d5
 obtain ⟨u5, k6, g6⟩ := gvM (g5 13 21 rfl rfl)
 refine Y9 Tryz.call91 (R0 k6) rfl (Yt2 f2 g6 hS) ?_
 rintro u6 u7 ⟨k7, u8, rfl, g7, hS, c5⟩
 refine ⟨k7, rfl, ?_⟩
 have c5 := ((R.t2 (R.agg (X6 yT)) (R.int .i64))).mono (Zg1 (Sub.trans d5 Z2)) c5
 have Z2 := Z2.trans g7
 exact Z1 ⟨22, _, _, rfl, rfl, Z2, hS, c5⟩
 intro u9 v0 e6 v1 g8 hS p2 g9 hcq
 have Z2 := Sub.refl e6
 have X8 := X5.trans g8
 obtain ⟨v2, k8, ⟨o3, o4, rfl, ⟨_, rfl, ⟨b9, rfl, a7⟩⟩, rfl⟩⟩ := gvR (g9 14 22 rfl rfl)
 have h0 := a7
 have p3 : RdF yT H e6 b9 a6.1 := Y1.mono (Zg1 X5) a7
 have a7 := Y1.old a7
 refine W9 (vA ([b9])) k8 rfl rfl ?_
 exact Z1 ⟨23, _, _, rfl, rfl, Z2, hS, ⟨_, rfl, ⟨_, rfl, h0⟩⟩⟩
 intro v3 v4 e7 v5 h1 hS p4 h2 hcq
 have Z2 := Sub.refl e7
 have X8 := X5.trans h1
 obtain ⟨v6, k9, ⟨o5, o6, rfl, ⟨_, rfl, ⟨d1, rfl, a8⟩⟩, rfl⟩⟩ := gvR (h2 14 22 rfl rfl)
 have p5 := a8
 have p6 : RdF yT H e7 d1 a6.1 := Y1.mono (Zg1 X5) a8
 have a8 := Y1.old a8
 refine W9 (vI a6.2) k9 rfl rfl ?_
 exact Z1 ⟨24, _, _, rfl, rfl, Z2, hS, rfl⟩
 intro l0 l1 e8 h3 hS h4 d6 hcq
 have hS : St e8 l1 ([(b1, cA ([vN]) 47)] ++ L) := hS
 have Z2 := Z2.trans h3
 have e9 : ev l0 (.tmp 6) = vP b1 := Eq.trans (h4 6 rfl) rfl
 obtain ⟨v7, l2, ⟨_, rfl, ⟨b5, rfl, a9⟩⟩⟩ := gvR (d6 15 23 (by decide) rfl)
 have p7 := a9
 have h5 : RdF yT H e8 b5 a6.1 := Y1.mono (Zg1 X5) a9
 have a9 := Y1.old a9
 refine W0 (v := vA ([b5])) (vs := ([b5]).toArray) (cs := ([vN]).toArray) T1 (by exact e9) (by exact l2) rfl hS rfl (T8 a9.isOne) rfl ?_
 intro v8 hS
 refine Z5 (vI a6.2) (by exact (eM (d6 16 24 (by decide) rfl))) rfl (Z1 ?_)
 refine X0 (vs := [vA ([b5]), vI a6.2]) Tryz.func242 ⟨⟨_, (by exact e9), U5 T1 (hS.get mL) rfl⟩, rfl, trivial⟩ ?_
 have hz := Option.some.inj q0
 subst hz
 exact ⟨_, _, rfl, Z2, (St.dropA hS), ⟨_, _, rfl, ⟨_, rfl, ⟨_, rfl, h5⟩⟩, rfl⟩⟩
def Zj1 (K : Nat) (a0 : ((List Int) × (List MpT))) (a1 : (List MpT)) : Option Int := ((Zm4 K (a0.1, a0.2)).bind fun r8 => (if r8 = true then ((S0 K a1 (fun x => Zr6 K x (a0.1, a0.2))).bind fun a8 => ((Zt7 K a8 1).bind fun b4 => some b4)) else ((Zt7 K true 1).bind fun b5 => some b5)))
theorem Yl7 {K : Nat} {a0 : ((List Int) × (List MpT))} {a1 : (List MpT)} {r : Int} (q0 : Zj1 K a0 a1 = some r) {H : FH} {w : World} {L : OL} {s0 : Value} {s1 : Value} (c7 : Zn8 (Zs6 (X6 (Y6 .i64)) (X6 (X6 yT))) H s0 a0) (a9 : Y1 (X6 yT) H s1 a1) (hS : St H w L) :
 Calls Tryz.prog 85 #[s0, s1] w (T2 (fun v G => (R.int .i64).p G v r) H L) := by
 obtain ⟨b0, b2, d3, d4, _, rfl, a6, ⟨_, _, rfl, ⟨b7, rfl, a3⟩, ⟨b8, rfl, a4⟩⟩, b9⟩ := c7
 have Z2 := Sub.refl H
 refine X3 Tryz.func85 rfl Tryz.ntmps85 rfl ?_
 unfold Zj1 at q0
 refine Z3 (Z0 ?_)
 refine S4 (v := Value.pointer (some ⟨b0, b2, none⟩)) ([Value.pointer (some ⟨b0, b2, none⟩)]).toArray rfl rfl hS rfl ?_
 intro b1 w2 hS
 refine Z5 (vI 0) rfl rfl (Z1 (Z3 ?_))
 obtain ⟨H4, b3, hS, b6⟩ := St.freezeBox hS
 have Z2 := Z2.trans b3
 have a9 := a9.mono b3
 have a3 := a3.mono b3
 have a4 := a4.mono b3
 have a6 := b3.1 _ _ a6
 refine Z0 ?_
 refine Y4 (Value.pointer (some ⟨b0, b2, none⟩)) Yc9 rfl (hS.froz _ _ b6) ((Zc9 ([Value.pointer (some ⟨b0, b2, none⟩)]) 1) 0 (show 0 < 1 by decide)) rfl (P4 rfl rfl ?_)
 refine V6 ([b7] ++ [b8]) Q9 rfl (hS.froz _ _ a6) rfl b9 rfl ?_
 obtain ⟨r8, c8, q0⟩ := bind_some q0
 refine Y9 Tryz.call45 (R0 rfl) rfl (Yq7 c8 a3 a4 hS) ?_
 rintro e8 w9 ⟨_, H8, rfl, a7, hS, rfl⟩
 refine ⟨_, rfl, ?_⟩
 have Z2 := Z2.trans a7
 have a9 := a9.mono a7
 have a3 := a3.mono a7
 have a4 := a4.mono a7
 have b6 := a7.1 _ _ b6
 have a6 := a7.1 _ _ a6
 refine M4 (b := r8) rfl rfl (Z4 (Value.bool (!r8)) rfl rfl ?_)
 by_cases a5 : r8 = true
 rw [if_pos a5] at q0
 refine Y2 rfl rfl (Eq.trans rfl (congrArg (fun b => Value.bool (!b)) a5)) (Z4 (s1) rfl rfl ?_)
 refine Y2 rfl rfl (Eq.trans rfl (congrArg (fun b => Value.bool (!b)) a5)) ?_
 refine Yx8 rfl rfl ?_
 obtain ⟨a8, c1, q0⟩ := bind_some q0
 refine Y2 rfl rfl (Eq.trans rfl (congrArg (fun b => Value.bool (!b)) a5)) ?_
 refine Y9 Tryz.call127 (U7 rfl rfl) rfl (Zd6 c1 a9 ⟨174, #[vP b1], rfl, Tryz.call174, fun H2 w2 L2 v x b c9 d0 hv d1 => by obtain ⟨_, rfl, ⟨d2, rfl, c0⟩⟩ := hv; exact Yh9 d1 c0 (Zn8.mono c9 ⟨_, _, _, _, _, rfl, b6, ⟨_, rfl, ⟨_, _, _, _, _, rfl, a6, ⟨_, _, rfl, ⟨_, rfl, a3⟩, ⟨_, rfl, a4⟩⟩, b9⟩⟩, (Zc9 ([Value.pointer (some ⟨b0, b2, none⟩)]) 1)⟩) d0⟩ hS) ?_
 rintro d5 d6 ⟨_, d7, rfl, c2, hS, rfl⟩
 refine ⟨_, rfl, ?_⟩
 have Z2 := Z2.trans c2
 refine V2 (t := false) (Value.bool a8) (Eq.trans rfl (congrArg (fun b => Value.bool (!b)) a5)) ((if_neg Bool.false_ne_true).trans rfl) rfl (Z5 (Value.bool a8) rfl rfl (Z1 (Z3 (Z0 (Z4 (Value.bool a8) rfl rfl ?_)))))
 obtain ⟨b4, c3, q0⟩ := bind_some q0
 refine Y9 Tryz.call86 (U7 rfl rfl) rfl (Yn0 c3  hS) ?_
 rintro d8 d9 ⟨_, e0, rfl, c4, hS, rfl⟩
 refine ⟨_, rfl, ?_⟩
 have Z2 := Z2.trans c4
 refine Z5 (vI b4) rfl rfl (Z1 ?_)
 refine X0 (vs := [vI b4]) Tryz.func85 ⟨rfl, trivial⟩ ?_
 have hz := Option.some.inj q0
 subst hz
 exact ⟨_, _, rfl, Z2, hS, rfl⟩
 rw [if_neg a5] at q0
 refine Z9 rfl rfl (Eq.trans rfl (congrArg (fun b => Value.bool (!b)) (W1 a5))) rfl rfl rfl (Z9 rfl rfl (Eq.trans rfl (congrArg (fun b => Value.bool (!b)) (W1 a5))) rfl rfl rfl (Z9 rfl rfl (Eq.trans rfl (congrArg (fun b => Value.bool (!b)) (W1 a5))) rfl rfl rfl ?_))
 refine V2 (t := true) (Value.bool true) (Eq.trans rfl (congrArg (fun b => Value.bool (!b)) (W1 a5))) ((if_pos rfl).trans rfl) rfl (Z5 (Value.bool true) rfl rfl (Z1 (Z3 (Z0 (Z4 (Value.bool true) rfl rfl ?_)))))
 obtain ⟨b5, c5, q0⟩ := bind_some q0
 refine Y9 Tryz.call86 (U7 rfl rfl) rfl (Yn0 c5  hS) ?_
 rintro e1 e2 ⟨_, e3, rfl, c6, hS, rfl⟩
 refine ⟨_, rfl, ?_⟩
 have Z2 := Z2.trans c6
 refine Z5 (vI b5) rfl rfl (Z1 ?_)
 refine X0 (vs := [vI b5]) Tryz.func85 ⟨rfl, trivial⟩ ?_
 have hz := Option.some.inj q0
 subst hz
 exact ⟨_, _, rfl, Z2, hS, rfl⟩
end Go.Proofs.YtfodlhkoafhplaaGreat
