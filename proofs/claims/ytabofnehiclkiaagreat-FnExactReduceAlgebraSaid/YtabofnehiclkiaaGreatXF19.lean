/- Walks of functions: each computes its pure function, if that gives a value. -/
import Derived.Test.YtabofnehiclkiaaGreatXTy
import Derived.Test.YtabofnehiclkiaaGreatXF12
import Derived.Test.YtabofnehiclkiaaGreatXF17
import Derived.Test.YtabofnehiclkiaaGreatXF6
import Derived.Test.YtabofnehiclkiaaGreatXF18
import Derived.Test.YtabofnehiclkiaaGreatXX
import Derived.Test.YtabofnehiclkiaaGreatXF3
import Derived.Test.YtabofnehiclkiaaGreatXF11
import Derived.Test.YtabofnehiclkiaaGreatXF13
namespace Go.Proofs.YtabofnehiclkiaaGreat
open Go
set_option linter.unusedSimpArgs false
set_option linter.unusedVariables false
set_option maxRecDepth 100000
set_option maxHeartbeats 8000000
variable {K : Nat} {H : FH} {w : World} {L : OL} {s0 s1 s2 s3 s4 s5 s6 : Value}
theorem Yj9 {a0 : LdT} {a1 : (List MpT)} {r : ((List MpT) × Int)} (q0 : Zh9 K a0 a1 = some r) (h1 : Zn2 (Xs5 K) H s0 a0) (b4 : Z9 (Y9 yT) H s1 a1) (hS : St H w L) :
 Calls Tryz.prog 188 #[s0, s1] w (T2 (fun v G => ∃ v0 v1, v = .tuple #[v0, v1] ∧ RdN (Y9 yT) H G v0 r.1 [] ∧ v1 = .int .i64 r.2) H L) := by
 obtain ⟨e1, f1, f3, h2, _, rfl, b1, ⟨e2, e3, e4, e8, rfl, a4, a5, a6, a8⟩, f4⟩ := h1
 have Z3 := Sub.refl H
 refine X3 Tryz.func188 rfl Tryz.ntmps188 rfl ?_
 unfold Zh9 at q0
 refine Z2 (Z0 (Z5 (vN) rfl rfl (Z5 (vI 0) rfl rfl (Z1 (Z2 (Z0 ?_))))))
 refine Zq2 (τ := (Zb7 H (Y9 yT))) P6 I0 rfl hS rfl ?_
 intro u1 _ C3 e5 hS
 have e5 := N1.start e5
 refine Z5 (u1) rfl rfl (Z1 (Z2 (Z2 (Z0 (Z4 (s1) rfl rfl ?_)))))
 have j0 := b4.bound
 refine W7 P6 rfl b4 rfl (Z4 (vI 0) rfl rfl (Z1 (Y7 ?_)))
 obtain ⟨e6, a7, d4⟩ := bind_some q0
 refine W1 (id := 0) (fun k f w => ∃ (a9 : Int) (b0 : (List MpT)) (H1 : FH) (c1 : OL) (b5 : Value), K8 K a0 a1 k a9 b0 = some e6 ∧ Sub H H1 ∧ St H1 w (c1 ++ L) ∧ 0 ≤ a9 ∧ N1 (Zb7 H (Y9 yT)) 45 H1 b5 b0 c1 ([] : List Nat) ∧ Zx4 H1 e8 (Yj6 K a0) ∧ Z9 (Y9 yT) H1 s1 a1 ∧ Z9 (Y6 .i64) H1 e2 a0.1 ∧ Z9 (Y6 .i64) H1 e3 a0.2.1 ∧ Z9 (Ze6 .i64) H1 e4 a0.2.2 ∧ H1 e1 = some (.cells f3 h2) ∧ tv f 0 = vQ e1 f1 ∧ tv f 6 = b5 ∧ tv f 12 = s1 ∧ tv f 13 = vI (a1.length : Int) ∧ tv f 14 = vI a9) (fun f w => ∃ (c0 : (List MpT)) (H1 : FH) (c8 : OL) (b2 : Value), e6 = .go c0 ∧ Sub H H1 ∧ St H1 w (c8 ++ L) ∧ N1 (Zb7 H (Y9 yT)) 45 H1 b2 c0 c8 ([] : List Nat) ∧ tv f 6 = b2) rfl ?_ ?_ K ?_ ?_
 rintro f w ⟨a9, b0, H1, c1, b5, a7, _⟩
 rw [K8] at a7; cases a7
 rintro k _ _ h3 h4 ⟨a9, b0, f5, c1, b5, a7, Z3, hS, _, a3, a8, b4, a4, a5, a6, b1, d2, d3, d0, d1, c9⟩
 rw [K8] at a7
 refine Z2 (Z0 ?_)
 refine V5 (k := .i64) (a := a9) (b := (a1.length : Int)) (by exact c9) (by exact d1) rfl (Z1 (Z2 ?_))
 obtain ⟨d8, a7⟩ | ⟨d8, a7⟩ := ic a7
 refine Y0 (bT d8 rfl) (Y8 (Z2 (Y7 (Z2 (Z0 ?_)))))
 obtain ⟨_, _, _, _, _, h5, h6, ⟨d7, rfl, d9⟩, h7⟩ := b4.elem (i := a9) (by omega) (by omega)
 refine X9 P6 rfl (by exact d0) h5 (by exact c9) (by omega) (by omega) rfl ?_
 refine W9 ([d7]) U2 rfl (hS.froz _ _ h6) rfl h7 rfl ?_
 refine W6 (z := vA ([vN])) ([vN]).toArray I0.zero rfl hS rfl ?_
 intro _ _ hS
 refine X5 (v := vA ([d7])) (vs := ([d7]).toArray) (cs := ([vN]).toArray) U2 rfl rfl rfl hS rfl (U0 d9.isOne) rfl ?_
 intro _ hS
 refine Z1 (Z2 (Z0 (Z4 (vQ e1 f1) (by exact d2) rfl ?_)))
 refine X7 U2 rfl (hS.get mL) rfl rfl ?_
 obtain ⟨_, f6, a7⟩ := bind_some a7
 refine T5 Tryz.call110 (S2 rfl) rfl (Zj2 f6 d9 hS) ?_
 rintro _ _ ⟨_, _, _, rfl, c2, hS, f7⟩
 refine ⟨_, rfl, ?_⟩
 have Z3 := Z3.trans c2
 have a4 := a4.mono c2
 have a5 := a5.mono c2
 have a6 := a6.mono c2
 have a8 := a8.mono c2
 have b4 := b4.mono c2
 have a3 := a3.mono c2
 have b1 := c2.1 _ _ b1
 obtain ⟨_, c3, hS, f8⟩ := f7.freeze hS
 have Z3 := Z3.trans c3
 have a4 := a4.mono c3
 have a5 := a5.mono c3
 have a6 := a6.mono c3
 have a8 := a8.mono c3
 have b4 := b4.mono c3
 have a3 := a3.mono c3
 have b1 := c3.1 _ _ b1
 obtain ⟨_, f9, a7⟩ := bind_some a7
 refine T5 Tryz.call227 (U9 rfl rfl) rfl (Zu6 f9 ⟨_, _, _, _, _, rfl, b1, ⟨_, _, _, _, rfl, a4, a5, a6, a8⟩, f4⟩ f8 hS) ?_
 rintro _ _ ⟨_, _, _, rfl, c4, hS, g0⟩
 refine ⟨_, rfl, ?_⟩
 have Z3 := Z3.trans c4
 have a4 := a4.mono c4
 have a5 := a5.mono c4
 have a6 := a6.mono c4
 have a8 := a8.mono c4
 have b4 := b4.mono c4
 have a3 := a3.mono c4
 have b1 := c4.1 _ _ b1
 obtain ⟨_, c5, hS, g1⟩ := g0.freeze hS
 have Z3 := Z3.trans c5
 have a4 := a4.mono c5
 have a5 := a5.mono c5
 have a6 := a6.mono c5
 have a8 := a8.mono c5
 have b4 := b4.mono c5
 have a3 := a3.mono c5
 have b1 := c5.1 _ _ b1
 obtain ⟨b7, g2, a7⟩ := bind_some a7
 refine X6 Tryz.call112 (S2 rfl) rfl (Zz0 g2 g1 hS) ?_
 rintro _ h8 _ c6 hS ⟨_, _, rfl, ⟨_, rfl, ⟨b3, rfl, b6⟩⟩, rfl⟩
 have g3 := b6
 have g4 : RdF yT H h8 b3 b7.1 := Z9.mono (Q6 Z3) b6
 have b6 := Z9.old b6
 have a3 := N1.keep (Zt0 H (G3 _)) a3 c6 (RdF.rootsOut g3) (Z9.rootsIn b6) (Zf4 _)
 have Z3 := Z3.trans c6
 have a4 := a4.mono c6
 have a5 := a5.mono c6
 have a6 := a6.mono c6
 have a8 := a8.mono c6
 have b4 := b4.mono c6
 have b1 := c6.1 _ _ b1
 refine Z4 (Value.tuple #[vA ([b3]), vI b7.2]) rfl rfl (W4 (vA ([b3])) rfl rfl rfl (W4 (vI b7.2) rfl rfl rfl ?_))
 refine W6 (z := vA ([vN])) ([vN]).toArray I0.zero rfl hS rfl ?_
 intro _ _ hS
 refine X5 (v := vA ([b3])) (vs := ([b3]).toArray) (cs := ([vN]).toArray) U2 rfl rfl rfl hS rfl (U0 b6.isOne) rfl ?_
 intro _ hS
 refine Z5 (vI b7.2) rfl rfl (Z1 (Z2 (Z2 (Z0 (Z4 (vI b7.2) rfl rfl ?_)))))
 refine L7 (k := .i64) (a := b7.2) (b := 0) rfl rfl rfl (Z1 ?_)
 obtain ⟨d5, a7⟩ | ⟨d5, a7⟩ := ic a7
 refine Z8 (bN d5 rfl) (Y8 (Z0 (Z4 (b5) (by exact d3) rfl ?_)))
 refine X7 U2 rfl (hS.get mL) rfl rfl ?_
 refine D9 (τ := M3 (Zb7 H (Y9 yT))) P6 I0 rfl [vA ([b3])] [(b7.1, P5 [b3])] rfl rfl (K6 rfl) (Zi6 ⟨⟨_, rfl, g4⟩, rfl⟩) (by decide) (by decide) hS rfl ?_
 intro _ h9 _ c7 hS g5
 have Z3 := Z3.trans c7
 have a4 := a4.mono c7
 have a5 := a5.mono c7
 have a6 := a6.mono c7
 have a8 := a8.mono c7
 have b4 := b4.mono c7
 have a3 := a3.mono c7
 have b1 := c7.1 _ _ b1
 obtain ⟨g6, a7⟩ := gd a7
 have hS := hS.perm Q8
 refine Yw3 (τ := (Zb7 H (Y9 yT))) (R := P5 [b3]) Yl7 rfl rfl rfl a3 hS g5 (by have h := g6; simpa using h) rfl ?_
 intro f2 _ i0 g7 hS
 have hS := hS.perm Q8.symm
 refine Z5 (f2) rfl rfl (Z1 (X4 (Z0 ?_)))
 refine W8 (a9 + 1) (by exact c9) rfl (IntWalk.i64_in _ (by omega)) rfl (Z4 (vI (a9 + 1)) rfl rfl (Z1 ?_))
 have hS := St.dropA hS
 have hS := St.dropA hS
 exact h3 _ _ ⟨(a9 + 1), (b0 ++ [b7.1]), h9, i0, f2, a7, Z3, hS, (by omega), g7, a8, b4, a4, a5, a6, b1, d2, rfl, d0, d1, rfl⟩
 refine Y0 (bO d5 rfl) (Z2 (Z0 (Z4 (vI b7.2) rfl rfl (Z5 (vN) rfl rfl (Z5 (vI b7.2) rfl rfl (Z1 ?_))))))
 refine X0 (vs := [vN, vI b7.2]) Tryz.func188 ⟨rfl, rfl, trivial⟩ ?_
 obtain rfl := oi a7
 dsimp only [Ex.elim] at d4
 obtain rfl := oi d4
 exact ⟨_, _, rfl, Z3, (St.dropA (St.dropA (St.dropA hS))), ⟨_, _, rfl, RdN.nil (by first | exact List.nodup_nil | (rw [List.append_nil]; exact Zf4 _)), rfl⟩⟩
 refine Z8 (bF d8 rfl) ?_
 refine W0 rfl ?_
 obtain rfl := oi a7
 exact h4 _ _ ⟨b0, f5, c1, b5, rfl, Z3, hS, a3, d3⟩
 exact ⟨0, ([] : List MpT), H, C3, u1, a7, Z3, hS, (by omega), e5, a8, b4, a4, a5, a6, b1, rfl, rfl, rfl, rfl, rfl⟩
 rintro _ _ ⟨c0, _, c8, b2, rfl, Z3, hS, d6, e0⟩
 dsimp only [Ex.elim] at d4
 refine Z2 (Z0 (Z4 (b2) (by exact e0) rfl (Z5 (b2) rfl rfl (Z5 (vI 0) rfl rfl (Z1 ?_)))))
 refine X0 (vs := [b2, vI 0]) Tryz.func188 ⟨rfl, rfl, trivial⟩ ?_
 obtain ⟨i1, g8, hS, e7⟩ := N1.freezeN (τ := (Y9 yT)) (H0 := H) (G3 _) d6 hS Z3
 have g9 : RdF (Y9 yT) H i1 b2 c0 := RdN.old e7
 have i9 := Z9.old g9
 have Z3 := Z3.trans g8
 obtain rfl := oi d4
 exact ⟨_, _, rfl, Z3, hS, ⟨_, _, rfl, e7, rfl⟩⟩
def E0 (K : Nat) (a0 : MpT) (a1 : ((List Int) × (List MpT))) (a2 : (List MpT)) (a3 : (List Int)) (a4 : (List Int)) : Option (MpT × Int) := ((Zc5 K a1.1 a0 a2).bind fun c4 => ((Zj9 K a1.1 c4 a3 a4).bind fun c5 => ((A9 K c5).bind fun a6 => some (a6.1, a6.2))))
theorem Zt4 {a0 : MpT} {a1 : ((List Int) × (List MpT))} {a2 : (List MpT)} {a3 : (List Int)} {a4 : (List Int)} {r : (MpT × Int)} (q0 : E0 K a0 a1 a2 a3 a4 = some r) (d1 : Q9 .i64 H s0 a0) (h9 : Zn2 (Wu1 (Zp1 (Y9 (Y6 .i64)) (Y9 (Y9 yT)))) H s1 a1) (i0 : Zn2 (Y9 (Ze6 .i64)) H s2 a2) (i1 : Zn2 (Y9 (Y6 .i64)) H s3 a3) (i2 : Zn2 (Y9 (Y6 .i64)) H s4 a4) (hS : St H w L) :
 Calls Tryz.prog 254 #[s0, s1, s2, s3, s4] w (T2 (fun v G => (R.t2 (R.agg (Y9 yT)) (R.int .i64)).p (G.new H) v r) H L) := by
 obtain ⟨_, _, _, _, _, rfl, d2, ⟨_, rfl, ⟨b0, b2, _, _, _, rfl, c7, ⟨_, _, rfl, ⟨b3, rfl, a5⟩, ⟨_, rfl, _⟩⟩, c8⟩⟩, d3⟩ := h9
 obtain ⟨_, _, _, _, _, rfl, g4, ⟨d4, rfl, b8⟩, g5⟩ := i0
 obtain ⟨_, _, _, _, _, rfl, g6, ⟨d5, rfl, b9⟩, g7⟩ := i1
 obtain ⟨_, _, _, _, _, rfl, g8, ⟨d6, rfl, c0⟩, g9⟩ := i2
 have Z3 := Sub.refl H
 refine X3 Tryz.func254 rfl Tryz.ntmps254 rfl ?_
 unfold E0 at q0
 refine Z2 (Z0 ?_)
 refine W6 (z := vA ([vN])) ([vN]).toArray I0.zero rfl hS rfl ?_
 intro b1 _ hS
 refine Z5 (vI 0) rfl rfl (Z1 (Z2 ?_))
 obtain ⟨c4, e1, q0⟩ := bind_some q0
 obtain ⟨c5, e2, q0⟩ := bind_some q0
 obtain ⟨a6, e3, q0⟩ := bind_some q0
 have U5 := Z3
 refine U1 17 (P0 [mE 8 (vQ b0 b2), mE 9 (vQ b0 b2), mE 10 (vQ b0 (b2 + 0)), mE 11 (b3), mE 12 (vQ b0 b2), mE 13 (vQ b0 b2), mE 14 (vQ b0 (b2 + 0)), mE 15 (b3), mE 16 (s0), mE 17 (d4), (18, MP.mp .i64 (c4)), mE 19 (d5), mE 20 (d6), (21, MP.mp .i64 (c5)), (22, MP.rep (Zi8.fr H (R.t2 (R.agg (Y9 yT)) (R.int .i64))) (a6)), (23, MP.rep (Zi8.fr H (R.agg (Y9 yT))) (a6.1)), mE 24 (vI a6.2)]) [] mixed rfl rfl rfl hS (Z6 rfl ?_ (Z6 rfl ?_ (Z6 rfl ?_ (Z6 rfl ?_ (Z6 rfl ?_ (Z6 rfl ?_ (Z6 rfl ?_ (Z6 rfl ?_ (Z6 rfl ?_ (Z6 rfl ?_ (Z6 rfl ?_ (Z6 rfl ?_ (Z6 rfl ?_ (Z6 rfl ?_ (Z6 rfl ?_ (Z6 rfl ?_ (Z6 rfl ?_ U7))))))))))))))))) ?_
 exact Xm2 fun s S B => Y3 (vQ b0 b2) Yo5 (evT (B 1 rfl) rfl) (S.froz _ _ (s.1 _ _ d2)) (d3 0 (show 0 < 1 by decide)) rfl (qz S)
 exact X2 fun S V => R9 (eM (V 0 8 rfl rfl)) rfl (qz S)
 exact X2 fun S V => Y2 R4 (eM (V 1 9 rfl rfl)) rfl (qz S)
 exact E6 fun s S V => Y3 (b3) M9 (eM (V 2 10 rfl rfl)) (S.froz _ _ (s.1 _ _ c7)) (c8 0 (show 0 < 2 by decide)) rfl (qz S)
 exact Xm2 fun s S B => Y3 (vQ b0 b2) Yo5 (evT (B 1 rfl) rfl) (S.froz _ _ (s.1 _ _ d2)) (d3 0 (show 0 < 1 by decide)) rfl (qz S)
 exact X2 fun S V => R9 (eM (V 4 12 rfl rfl)) rfl (qz S)
 exact X2 fun S V => Y2 R4 (eM (V 5 13 rfl rfl)) rfl (qz S)
 exact E6 fun s S V => Y3 (b3) M9 (eM (V 6 14 rfl rfl)) (S.froz _ _ (s.1 _ _ c7)) (c8 0 (show 0 < 2 by decide)) rfl (qz S)
 exact W5 fun S B => Z4 (s0) (evT (B 0 rfl) rfl) rfl (qz S)
 exact Xm2 fun s S B => Y3 (d4) Yn4 (evT (B 2 rfl) rfl) (S.froz _ _ (s.1 _ _ g4)) (g5 0 (show 0 < 1 by decide)) rfl (qz S)
 intro _ _ i3 _ c1 hS _ c2 hcq
 have Z3 := Sub.refl i3
 have S7 := U5.trans c1
 have d1 := d1.mono c1
 have a5 := a5.mono c1
 have b8 := b8.mono c1
 refine T5 Tryz.call252 (G7 (eM (c2 7 15 rfl rfl)) (eM (c2 8 16 rfl rfl)) (eM (c2 9 17 rfl rfl))) rfl (Yc9 e1 a5 d1 b8 hS) ?_
 rintro _ _ ⟨_, _, _, rfl, e4, hS, e5⟩
 refine ⟨_, rfl, ?_⟩
 have Z3 := Z3.trans e4
 obtain ⟨_, e6, hS, e7⟩ := e5.freeze hS
 have Z3 := Z3.trans e6
 exact Z1 ⟨18, _, _, rfl, rfl, Z3, hS, e7⟩
 exact Xm2 fun s S B => Y3 (d5) Wt3 (evT (B 3 rfl) rfl) (S.froz _ _ (s.1 _ _ g6)) (g7 0 (show 0 < 1 by decide)) rfl (qz S)
 exact Xm2 fun s S B => Y3 (d6) M9 (evT (B 4 rfl) rfl) (S.froz _ _ (s.1 _ _ g8)) (g9 0 (show 0 < 1 by decide)) rfl (qz S)
 intro _ _ h0 _ b5 hS _ b6 hcq
 have Z3 := Sub.refl h0
 have S7 := U5.trans b5
 have a5 := a5.mono b5
 have b9 := b9.mono b5
 have c0 := c0.mono b5
 obtain ⟨_, h1, e8⟩ := gvM (b6 10 18 rfl rfl)
 refine T5 Tryz.call255 (Ws9 (eM (b6 3 11 rfl rfl)) h1 (eM (b6 11 19 rfl rfl)) (eM (b6 12 20 rfl rfl))) rfl (Yt6 e2 a5 e8 b9 c0 hS) ?_
 rintro _ _ ⟨_, _, _, rfl, e9, hS, f0⟩
 refine ⟨_, rfl, ?_⟩
 have Z3 := Z3.trans e9
 obtain ⟨_, f1, hS, f2⟩ := f0.freeze hS
 have Z3 := Z3.trans f1
 exact Z1 ⟨21, _, _, rfl, rfl, Z3, hS, f2⟩
 intro _ _ h2 _ c9 hS _ f3 hcq
 have Z3 := Sub.refl h2
 have S7 := U5.trans c9
 obtain ⟨_, h3, f4⟩ := gvM (f3 13 21 rfl rfl)
 refine X6 Tryz.call112 (S2 h3) rfl (Zz0 e3 f4 hS) ?_
 rintro _ _ _ f5 hS c3
 have c3 := ((R.t2 (R.agg (Y9 yT)) (R.int .i64))).mono (Q6 (Sub.trans c9 Z3)) c3
 have Z3 := Z3.trans f5
 exact Z1 ⟨22, _, _, rfl, rfl, Z3, hS, c3⟩
 intro _ _ d7 _ f6 hS _ f7 hcq
 have Z3 := Sub.refl d7
 have S7 := U5.trans f6
 obtain ⟨_, h4, ⟨_, _, rfl, ⟨_, rfl, ⟨b7, rfl, a7⟩⟩, rfl⟩⟩ := gvR (f7 14 22 rfl rfl)
 have f8 := a7
 have i4 : RdF yT H d7 b7 a6.1 := Z9.mono (Q6 U5) a7
 have a7 := Z9.old a7
 refine W4 (vA ([b7])) h4 rfl rfl ?_
 exact Z1 ⟨23, _, _, rfl, rfl, Z3, hS, ⟨_, rfl, ⟨_, rfl, f8⟩⟩⟩
 intro _ _ d8 _ f9 hS _ g0 hcq
 have Z3 := Sub.refl d8
 have S7 := U5.trans f9
 obtain ⟨_, h5, ⟨_, _, rfl, ⟨_, rfl, ⟨c6, rfl, a8⟩⟩, rfl⟩⟩ := gvR (g0 14 22 rfl rfl)
 have i5 := a8
 have i6 : RdF yT H d8 c6 a6.1 := Z9.mono (Q6 U5) a8
 have a8 := Z9.old a8
 refine W4 (vI a6.2) h5 rfl rfl ?_
 exact Z1 ⟨24, _, _, rfl, rfl, Z3, hS, rfl⟩
 intro h6 h7 d9 g1 hS g2 d0 hcq
 have hS : St d9 h7 ([(b1, cA ([vN]) 45)] ++ L) := hS
 have Z3 := Z3.trans g1
 have e0 : tv h6 6 = vP b1 := Eq.trans (g2 6 rfl) rfl
 obtain ⟨_, h8, ⟨_, rfl, ⟨b4, rfl, a9⟩⟩⟩ := gvR (d0 15 23 (by decide) rfl)
 have i7 := a9
 have g3 : RdF yT H d9 b4 a6.1 := Z9.mono (Q6 U5) a9
 have a9 := Z9.old a9
 refine X5 (v := vA ([b4])) (vs := ([b4]).toArray) (cs := ([vN]).toArray) U2 (by exact e0) (by exact h8) rfl hS rfl (U0 a9.isOne) rfl ?_
 intro _ hS
 refine Z5 (vI a6.2) (by exact (eM (d0 16 24 (by decide) rfl))) rfl (Z1 ?_)
 refine X0 (vs := [vA ([b4]), vI a6.2]) Tryz.func254 ⟨⟨_, (by exact e0), V6 U2 (hS.get mL) rfl⟩, rfl, trivial⟩ ?_
 obtain rfl := oi q0
 exact ⟨_, _, rfl, Z3, (St.dropA hS), ⟨_, _, rfl, ⟨_, rfl, ⟨_, rfl, g3⟩⟩, rfl⟩⟩
def Zm5 (K : Nat) (a0 : ((List Int) × (List MpT))) (a1 : (List MpT)) : Option Int := ((Zq7 K (a0.1, a0.2)).bind fun r8 => (if r8 = true then ((R0 K a1 (fun x => Zu8 K x (a0.1, a0.2))).bind fun a8 => ((Zx6 K a8 1).bind fun b4 => some b4)) else ((Zx6 K true 1).bind fun b5 => some b5)))
theorem Yq2 {a0 : ((List Int) × (List MpT))} {a1 : (List MpT)} {r : Int} (q0 : Zm5 K a0 a1 = some r) (c7 : Zn2 (Zp1 (Y9 (Y6 .i64)) (Y9 (Y9 yT))) H s0 a0) (a9 : Z9 (Y9 yT) H s1 a1) (hS : St H w L) :
 Calls Tryz.prog 79 #[s0, s1] w (T2 (fun v G => (R.int .i64).p G v r) H L) := by
 obtain ⟨b0, b2, _, _, _, rfl, a6, ⟨_, _, rfl, ⟨b7, rfl, a3⟩, ⟨b8, rfl, a4⟩⟩, b9⟩ := c7
 have Z3 := Sub.refl H
 refine X3 Tryz.func79 rfl Tryz.ntmps79 rfl ?_
 unfold Zm5 at q0
 refine Z2 (Z0 ?_)
 refine S3 (v := vQ b0 b2) ([vQ b0 b2]).toArray rfl rfl hS rfl ?_
 intro b1 w2 hS
 refine Z5 (vI 0) rfl rfl (Z1 (Z2 ?_))
 obtain ⟨_, b3, hS, b6⟩ := St.freezeBox hS
 have Z3 := Z3.trans b3
 have a9 := a9.mono b3
 have a3 := a3.mono b3
 have a4 := a4.mono b3
 have a6 := b3.1 _ _ a6
 refine Z0 ?_
 refine Y3 (vQ b0 b2) Yo5 rfl (hS.froz _ _ b6) ((Zc3 ([vQ b0 b2]) 1) 0 (show 0 < 1 by decide)) rfl (R9 rfl rfl ?_)
 refine W9 ([b7] ++ [b8]) S5 rfl (hS.froz _ _ a6) rfl b9 rfl ?_
 obtain ⟨r8, c8, q0⟩ := bind_some q0
 refine X6 Tryz.call54 (S2 rfl) rfl (Yv5 c8 a3 a4 hS) ?_
 rintro _ _ _ a7 hS rfl
 have Z3 := Z3.trans a7
 have a9 := a9.mono a7
 have a3 := a3.mono a7
 have a4 := a4.mono a7
 have b6 := a7.1 _ _ b6
 have a6 := a7.1 _ _ a6
 refine K9 (b := r8) rfl rfl (Z4 (vB (!r8)) rfl rfl ?_)
 obtain ⟨a5, q0⟩ | ⟨a5, q0⟩ := ic q0
 refine Y4 rfl rfl (Eq.trans rfl (congrArg (fun b => vB (!b)) a5)) (Z4 (s1) rfl rfl ?_)
 refine Y4 rfl rfl (Eq.trans rfl (congrArg (fun b => vB (!b)) a5)) ?_
 refine Xc9 rfl rfl ?_
 obtain ⟨a8, c1, q0⟩ := bind_some q0
 refine Y4 rfl rfl (Eq.trans rfl (congrArg (fun b => vB (!b)) a5)) ?_
 refine X6 Tryz.call123 (U9 rfl rfl) rfl (Zg3 c1 a9 ⟨149, #[vP b1], rfl, Tryz.call149, fun H2 w2 L2 v x b c9 d0 hv d1 => by obtain ⟨_, rfl, ⟨d2, rfl, c0⟩⟩ := hv; exact Ym4 d1 c0 (Zn2.mono c9 ⟨_, _, _, _, _, rfl, b6, ⟨_, rfl, ⟨_, _, _, _, _, rfl, a6, ⟨_, _, rfl, ⟨_, rfl, a3⟩, ⟨_, rfl, a4⟩⟩, b9⟩⟩, (Zc3 ([vQ b0 b2]) 1)⟩) d0⟩ hS) ?_
 rintro _ _ _ c2 hS rfl
 have Z3 := Z3.trans c2
 refine V0 (t := false) (vB a8) (Eq.trans rfl (congrArg (fun b => vB (!b)) a5)) ((if_neg Bool.false_ne_true).trans rfl) rfl (Z5 (vB a8) rfl rfl (Z1 (Z2 (Z0 (Z4 (vB a8) rfl rfl ?_)))))
 obtain ⟨b4, c3, q0⟩ := bind_some q0
 refine X6 Tryz.call80 (U9 rfl rfl) rfl (Yr6 c3  hS) ?_
 rintro _ _ _ c4 hS rfl
 have Z3 := Z3.trans c4
 refine Z5 (vI b4) rfl rfl (Z1 ?_)
 refine X0 (vs := [vI b4]) Tryz.func79 ⟨rfl, trivial⟩ ?_
 obtain rfl := oi q0
 exact ⟨_, _, rfl, Z3, hS, rfl⟩
 refine Y1 rfl rfl (Eq.trans rfl (congrArg (fun b => vB (!b)) (X8 a5))) rfl rfl rfl (Y1 rfl rfl (Eq.trans rfl (congrArg (fun b => vB (!b)) (X8 a5))) rfl rfl rfl (Y1 rfl rfl (Eq.trans rfl (congrArg (fun b => vB (!b)) (X8 a5))) rfl rfl rfl ?_))
 refine V0 (t := true) (vB true) (Eq.trans rfl (congrArg (fun b => vB (!b)) (X8 a5))) ((if_pos rfl).trans rfl) rfl (Z5 (vB true) rfl rfl (Z1 (Z2 (Z0 (Z4 (vB true) rfl rfl ?_)))))
 obtain ⟨b5, c5, q0⟩ := bind_some q0
 refine X6 Tryz.call80 (U9 rfl rfl) rfl (Yr6 c5  hS) ?_
 rintro _ _ _ c6 hS rfl
 have Z3 := Z3.trans c6
 refine Z5 (vI b5) rfl rfl (Z1 ?_)
 refine X0 (vs := [vI b5]) Tryz.func79 ⟨rfl, trivial⟩ ?_
 obtain rfl := oi q0
 exact ⟨_, _, rfl, Z3, hS, rfl⟩
def Zj0 (K : Nat) (a0 : ((List Int) × (List MpT))) : Option (((List Int) × (List MpT)) × (List MpT) × Int) := ((Zy8 K (a0.1, a0.2)).bind fun r7 => (if r7 = true then ((Zp8 K (a0.1, a0.2)).bind fun a4 => some ((a4.1.1, a4.1.2), a4.2.1, a4.2.2)) else some ((([] : List Int), ([] : List MpT)), ([] : List MpT), 1)))
theorem Yn1 {a0 : ((List Int) × (List MpT))} {r : (((List Int) × (List MpT)) × (List MpT) × Int)} (q0 : Zj0 K a0 = some r) (a5 : Z9 (Y6 .i64) H s0 a0.1) (a6 : Z9 (Y9 yT) H s1 a0.2) (hM : ∀ b, H.memo b = none) (hS : St H w L) :
 Calls Tryz.prog 39 #[vA ([s0] ++ [s1])] w (T2 (fun v G => (R.t3 (R.agg (Zp1 (Y9 (Y6 .i64)) (Y9 (Y9 yT)))) (R.sl (Y9 yT)) (R.int .i64)).p G v r) H L) := by
 have Z3 := Sub.refl H
 refine X3 Tryz.func39 rfl Tryz.ntmps39 rfl ?_
 unfold Zj0 at q0
 refine Z2 (Z0 ?_)
 refine S3 (v := vA ([s0] ++ [s1])) ([s0] ++ [s1]).toArray rfl rfl hS rfl ?_
 intro _ _ hS
 refine W6 (z := vA ([vN] ++ [vN])) ([vN] ++ [vN]).toArray Zr4.zero rfl hS rfl ?_
 intro _ _ hS
 refine Z5 (vN) rfl rfl (Z5 (vI 0) rfl rfl (Z1 (Z2 (Z2 (Z0 ?_)))))
 refine X7 S5 rfl (hS.get (mR mL)) rfl rfl ?_
 obtain ⟨r7, b5, q0⟩ := bind_some q0
 refine X6 Tryz.call72 (S2 rfl) rfl (Xi4 b5 a5 a6 hS) ?_
 rintro _ H7 _ b0 hS rfl
 have Z3 := Z3.trans b0
 have a5 := a5.mono b0
 have a6 := a6.mono b0
 refine K9 (b := r7) rfl rfl (Z1 ?_)
 obtain ⟨b1, q0⟩ | ⟨b1, q0⟩ := ic q0
 refine Z8 (Eq.trans rfl (congrArg (fun b => vB (!b)) b1)) (Y8 (Z2 (Z0 ?_)))
 refine X7 S5 rfl (hS.get (mR mL)) rfl rfl ?_
 obtain ⟨a4, b3, q0⟩ := bind_some q0
 have hS := hS.noM
 have Z3 := Sub.nomT hM Z3
 have a5 : Z9 (Y6 .i64) H7.noM s0 a0.1 := a5
 have a6 : Z9 (Y9 yT) H7.noM s1 a0.2 := a6
 have a5 : Z9 (Y6 .i64) H7.noM s0 a0.1 := a5
 have a6 : Z9 (Y9 yT) H7.noM s1 a0.2 := a6
 refine X6 Tryz.call104 (S2 rfl) rfl (Yv8 b3 a5 a6 (fun _ => rfl) hS) ?_
 rintro _ _ _ b4 hS ⟨_, a9, _, rfl, ⟨_, rfl, ⟨_, _, rfl, ⟨a1, rfl, a7⟩, ⟨a3, rfl, a8⟩⟩⟩, b2, rfl⟩
 have Z3 := Z3.trans b4
 refine W4 (vA ([a1] ++ [a3])) rfl rfl rfl (W4 (a9) rfl rfl rfl (W4 (vI a4.2.2) rfl rfl rfl ?_))
 refine X5 (v := vA ([a1] ++ [a3])) (vs := ([a1] ++ [a3]).toArray) (cs := ([vN] ++ [vN]).toArray) S5 rfl rfl rfl hS rfl (R8 (U0 a7.isOne) (U0 a8.isOne)) rfl ?_
 intro _ hS
 refine Z5 (a9) rfl rfl (Z5 (vI a4.2.2) rfl rfl (Z1 ?_))
 refine X0 (vs := [vA ([a1] ++ [a3]), a9, vI a4.2.2]) Tryz.func39 ⟨⟨_, rfl, V6 S5 (hS.get mL) rfl⟩, rfl, rfl, trivial⟩ ?_
 obtain rfl := oi q0
 exact ⟨_, _, rfl, Z3, (St.dropA (St.dropA hS)), ⟨_, _, _, rfl, ⟨_, rfl, ⟨_, _, rfl, ⟨_, rfl, a7⟩, ⟨_, rfl, a8⟩⟩⟩, b2, rfl⟩⟩
 refine Y0 (Eq.trans rfl (congrArg (fun b => vB (!b)) (X8 b1))) (Z2 (Z0 ?_))
 refine R6 (vA ([vN] ++ [vN])) Yl4 rfl ?_
 refine X5 (v := vA ([vN] ++ [vN])) (vs := ([vN] ++ [vN]).toArray) (cs := ([vN] ++ [vN]).toArray) S5 rfl rfl rfl hS rfl (R8 (U0 rfl) (U0 rfl)) rfl ?_
 intro _ hS
 refine Z5 (vN) rfl rfl (Z5 (vI 1) rfl rfl (Z1 ?_))
 refine X0 (vs := [vA ([vN] ++ [vN]), vN, vI 1]) Tryz.func39 ⟨⟨_, rfl, V6 S5 (hS.get mL) rfl⟩, rfl, rfl, trivial⟩ ?_
 obtain rfl := oi q0
 exact ⟨_, _, rfl, Z3, (St.dropA (St.dropA hS)), ⟨_, _, _, rfl, ⟨_, rfl, ⟨_, _, rfl, ⟨_, rfl, Z9.nil⟩, ⟨_, rfl, Z9.nil⟩⟩⟩, Z9.nil, rfl⟩⟩
end Go.Proofs.YtabofnehiclkiaaGreat
