/- Walks of functions: each computes its pure function, if that gives a value. -/
import Derived.Test.YtfodlhkoafhplaaGreatUTy
import Derived.Test.YtfodlhkoafhplaaGreatUF17
import Derived.Test.YtfodlhkoafhplaaGreatUF7
import Derived.Test.YtfodlhkoafhplaaGreatUF11
import Derived.Test.YtfodlhkoafhplaaGreatUF1
import Derived.Test.YtfodlhkoafhplaaGreatUF6
import Derived.Test.YtfodlhkoafhplaaGreatUF10
namespace Go.Proofs.YtfodlhkoafhplaaGreat
open Go
set_option linter.unusedSimpArgs false
set_option linter.unusedVariables false
set_option maxRecDepth 100000
set_option maxHeartbeats 8000000
def R4 (K : Nat) (a0 : ((List Int) × (List MpT))) (a1 : (List Int)) (b3 : (List Int)) (a8 : (List Int)) : Nat → Int → (List MpT) → Option (Ex (((List Int) × (List MpT)) × Int) ((List MpT)))
 | 0, _, _ => none
 | k + 1, a9, b0 => (if a9 < (a1.length : Int) then (if 0 ≤ (rd a1 a9) then (if (rd a1 a9) < (a0.2.length : Int) then ((Zh8 K (rd a0.2 (rd a1 a9))).bind fun j6 => ((Zf8 K a0.1 j6 b3 a8).bind fun j7 => ((Zc7 K j7).bind fun a4 => (if (a4.1, a4.2).2 = 0 then (if b0.length + ([(a4.1, a4.2).1]).length ≤ 1099511627776 then R4 K a0 a1 b3 a8 k (a9 + 1) (b0 ++ [(a4.1, a4.2).1]) else none) else some (.ret ((([] : List Int), ([] : List MpT)), (a4.1, a4.2).2)))))) else none) else none) else some (.go b0))
def Q2 (K : Nat) (a0 : ((List Int) × (List MpT))) (a1 : (List Int)) : Nat → Int → (List Int) → (List Int) → Option (Ex (((List Int) × (List MpT)) × Int) ((List Int) × (List Int)))
 | 0, _, _, _ => none
 | k + 1, a5, b9, c0 => (if a5 < (a1.length : Int) then (if 0 ≤ (rd a1 a5) then (if (rd a1 a5) < (c0.length : Int) then (if (rd a1 a5) < (a0.1.length : Int) then (if b9.length + ([(rd a0.1 (rd a1 a5))]).length ≤ 1099511627776 then Q2 K a0 a1 k (a5 + 1) (b9 ++ [(rd a0.1 (rd a1 a5))]) (c0.set ((rd a1 a5)).toNat a5) else none) else none) else none) else none) else some (.go (b9, c0)))
def B1 (K : Nat) (a0 : ((List Int) × (List MpT))) (a1 : (List Int)) : Option (((List Int) × (List MpT)) × Int) := (if (a1.length : Int) ≤ 1099511627776 then ((Q2 K a0 a1 K 0 ([] : List Int) (List.replicate ((a1.length : Int)).toNat (0 : Int))).bind (Ex.elim (fun r => some r) (fun s => (fun (a8 : (List Int)) (b3 : (List Int)) => ((R4 K a0 a1 b3 a8 K 0 ([] : List MpT)).bind (Ex.elim (fun r => some r) (fun s => (fun (c9 : (List MpT)) => some ((a8, c9), 0)) s)))) s.1 s.2))) else none)
theorem Zw3 {K : Nat} {a0 : ((List Int) × (List MpT))} {a1 : (List Int)} {r : (((List Int) × (List MpT)) × Int)} (q0 : B1 K a0 a1 = some r) {H : FH} {w : World} {L : OL} {s0 : Value} {s1 : Value} (z4 : Zh2 (Zo8 (W0 (Y8 .i64)) (W0 (W0 yT))) H s0 a0) (c4 : Y2 (Y8 .i64) H s1 a1) (hS : St H w L) :
 Calls Tryz.prog 156 #[s0, s1] w (S3 (fun v G => ∃ v0 v1, v = .tuple #[v0, v1] ∧ Zi4 H G v0 r.1 ∧ v1 = .int .i64 r.2) H L) := by
 obtain ⟨d7, f0, j8, m1, _, rfl, b4, ⟨_, _, rfl, ⟨e4, rfl, a6⟩, ⟨f1, rfl, a7⟩⟩, j9⟩ := z4
 have Z2 := Sub.refl H
 refine X2 Tryz.func156 rfl Tryz.ntmps156 rfl ?_
 unfold B1 at q0
 refine Z3 (Z1 ?_)
 refine V0 (z := vA ([vN] ++ [vN])) ([vN] ++ [vN]).toArray Zq3.zero rfl hS rfl ?_
 intro b1 w2 hS
 refine Z5 (vI 0) rfl rfl (Z0 (Z3 (Z1 (Z4 (s1) rfl rfl ?_))))
 have bl4 := c4.bound
 refine W6 S9 rfl c4 rfl ?_
 obtain ⟨hg5, q0⟩ := gd q0
 refine Yk1 (τ := (Y8 .i64)) (0 : Int) Wh2 rfl rfl rfl (fun _ => rfl) (by omega) (by omega) hS rfl ?_
 intro u6 w7 C8 z5 hS
 refine Ys9 (τ := (Y8 .i64)) S9 ze2 rfl hS rfl ?_
 intro s5 w12 z6 s7 hS
 refine Z5 (u6) rfl rfl (Z5 (s5) rfl rfl (Z0 (Z3 (Z3 (Z1 (Z4 (s1) rfl rfl ?_))))))
 have a43 := c4.bound
 refine W6 S9 rfl c4 rfl (Z4 (vI 0) rfl rfl (Z0 (Y7 ?_)))
 obtain ⟨m2, c8, m3⟩ := bind_some q0
 refine W7 (id := 0) (fun k f w => ∃ (a5 : Int) (b9 : (List Int)) (c0 : (List Int)) (H1 : FH) (d4 : OL) (d0 : Value) (d5 : OL) (c5 : Value), Q2 K a0 a1 k a5 b9 c0 = some m2 ∧ Sub H H1 ∧ St H1 w (d4 ++ (d5 ++ ([(b1, cA ([vN] ++ [vN]) 29)] ++ L))) ∧ 0 ≤ a5 ∧ V1 (Y8 .i64) 2 H1 d0 b9 d4 ∧ V1 (Y8 .i64) 3 H1 c5 c0 d5 ∧ Y2 (Y8 .i64) H1 s1 a1 ∧ Y2 (Y8 .i64) H1 e4 a0.1 ∧ Y2 (W0 yT) H1 f1 a0.2 ∧ H1 d7 = some (.cells j8 m1) ∧ ev f (.tmp 0) = Value.pointer (some ⟨d7, f0, none⟩) ∧ ev f (.tmp 1) = s1 ∧ ev f (.tmp 4) = vP b1 ∧ ev f (.tmp 6) = c5 ∧ ev f (.tmp 7) = d0 ∧ ev f (.tmp 19) = s1 ∧ ev f (.tmp 20) = vI (a1.length : Int) ∧ ev f (.tmp 21) = vI a5) (fun f w => ∃ (a8 : (List Int)) (b3 : (List Int)) (H1 : FH) (f2 : OL) (a3 : Value) (f3 : OL) (b7 : Value), m2 = .go (a8, b3) ∧ Sub H H1 ∧ St H1 w (f2 ++ (f3 ++ ([(b1, cA ([vN] ++ [vN]) 29)] ++ L))) ∧ V1 (Y8 .i64) 2 H1 a3 a8 f2 ∧ V1 (Y8 .i64) 3 H1 b7 b3 f3 ∧ Y2 (Y8 .i64) H1 s1 a1 ∧ Y2 (Y8 .i64) H1 e4 a0.1 ∧ Y2 (W0 yT) H1 f1 a0.2 ∧ H1 d7 = some (.cells j8 m1) ∧ ev f (.tmp 0) = Value.pointer (some ⟨d7, f0, none⟩) ∧ ev f (.tmp 1) = s1 ∧ ev f (.tmp 4) = vP b1 ∧ ev f (.tmp 6) = b7 ∧ ev f (.tmp 7) = a3) rfl ?_ ?_ K ?_ ?_
 rintro f w ⟨a5, b9, c0, H1, d4, d0, d5, c5, c8, _⟩
 rw [Q2] at c8; cases c8
 rintro k a44 a45 z7 z8 ⟨a5, b9, c0, s8, d4, d0, d5, c5, c8, Z2, hS, z2, d6, e8, c4, a6, a7, b4, f9, h7, h8, g0, h9, g9, h0, e9⟩
 rw [Q2] at c8
 refine Z3 (Z1 ?_)
 refine U2 (k := .i64) (a := a5) (b := (a1.length : Int)) (by exact e9) (by exact h0) rfl (Z0 (Z3 ?_))
 by_cases i6 : a5 < (a1.length : Int)
 rw [if_pos i6] at c8
 refine Y0 (bT i6 rfl) (Y6 (Z3 (Y7 (Z3 (Z1 (Z4 (vI a5) (by exact e9) rfl ?_))))))
 obtain ⟨b18, o18, a46, E18, _, s9, t0, rfl, t1⟩ := c4.elem (i := a5) (by omega) (by omega)
 refine W3 S9 rfl (by exact g9) s9 (by exact e9) (by omega) (by omega) rfl ?_
 refine Y4 (vI (rd a1 a5)) ty2 rfl (hS.froz _ _ t0) (t1 0 (show 0 < 1 by decide)) rfl (Z5 (vI a5) rfl rfl (Z5 (vI (rd a1 a5)) rfl rfl (Z0 (Z3 (Z1 (Z4 (c5) (by exact g0) rfl (Z4 (vI (rd a1 a5)) rfl rfl (Z4 (vI a5) rfl rfl ?_))))))))
 obtain ⟨a47, c8⟩ := gd c8
 obtain ⟨a48, c8⟩ := gd c8
 obtain ⟨b21, c21, m4⟩ := e8.some (i := (rd a1 a5)) (by omega) (by omega)
 refine Zt4 Yr5 (Eq.trans rfl m4) rfl (by omega) (by omega) rfl ?_
 have hS := hS.perm U1
 refine Zs7 (τ := (Y8 .i64)) (v := c5) (u := vI a5) a5 (i := (rd a1 a5)) rfl ty3 m4 e8 hS rfl rfl (by omega) (by omega) rfl ?_
 intro w22 z9 k0 hS
 have hS := hS.perm U1.symm
 refine Z0 (Z1 (Z4 (d0) (by exact h9) rfl (Z4 (Value.pointer (some ⟨d7, f0, none⟩)) (by exact f9) rfl (I3 rfl rfl (Y3 R5 rfl rfl ?_)))))
 refine Y4 (e4) J7 rfl (hS.froz _ _ b4) (j9 0 (show 0 < 2 by decide)) rfl (Z4 (vI (rd a1 a5)) rfl rfl ?_)
 obtain ⟨a49, c8⟩ := gd c8
 obtain ⟨b26, o26, a50, E26, _, t4, t5, rfl, t6⟩ := a6.elem (i := (rd a1 a5)) (by omega) (by omega)
 refine W3 S9 rfl rfl t4 rfl (by omega) (by omega) rfl ?_
 refine Y4 (vI (rd a0.1 (rd a1 a5))) ty2 rfl (hS.froz _ _ t5) (t6 0 (show 0 < 1 by decide)) rfl ?_
 refine Zk6 (τ := (Y8 .i64)) S9 ze2 rfl [vI (rd a0.1 (rd a1 a5))] [(rd a0.1 (rd a1 a5))] rfl rfl (Zc3 rfl) (Zq5 rfl) (by decide) (by decide) hS rfl ?_
 intro u27 H28 w29 f6 hS t7
 have Z2 := Z2.trans f6
 have a6 := a6.mono f6
 have a7 := a7.mono f6
 have c4 := c4.mono f6
 have k0 := k0.mono f6
 have d6 := d6.mono f6
 have b4 := f6.1 _ _ b4
 obtain ⟨t8, c8⟩ := gd c8
 refine Za8 (τ := (Y8 .i64)) Xa3 rfl rfl rfl d6 hS t7 t8 rfl ?_
 intro s6 w34 C35 t9 hS
 refine Z5 (s6) rfl rfl (Z0 (X3 (Z1 ?_)))
 refine W8 (a5 + 1) (by exact e9) rfl (IntWalk.i64_in _ (by omega)) rfl (Z4 (vI (a5 + 1)) rfl rfl (Z0 ?_))
 exact z7 _ _ ⟨(a5 + 1), (b9 ++ [(rd a0.1 (rd a1 a5))]), (c0.set ((rd a1 a5)).toNat a5), H28, C35, s6, z9, c5, c8, Z2, hS, (by omega), t9, k0, c4, a6, a7, b4, f9, h7, h8, g0, rfl, g9, h0, rfl⟩
 rw [if_neg i6] at c8
 refine Z9 (bF i6 rfl) ?_
 refine W4 rfl ?_
 have hz := Option.some.inj c8
 subst hz
 exact z8 _ _ ⟨b9, c0, s8, d4, d0, d5, c5, rfl, Z2, hS, d6, e8, c4, a6, a7, b4, f9, h7, h8, g0, h9⟩
 exact ⟨0, ([] : List Int), (List.replicate ((a1.length : Int)).toNat (0 : Int)), H, z6, s5, C8, u6, c8, Z2, hS, (by omega), s7, z5, c4, a6, a7, b4, rfl, rfl, rfl, rfl, rfl, rfl, rfl, rfl⟩
 rintro a51 a52 ⟨a8, b3, a53, f2, a3, f3, b7, rfl, Z2, hS, d1, i7, c4, a6, a7, b4, l6, l7, l9, m0, i0⟩
 dsimp only [Ex.elim] at m3
 refine Z3 (Z1 (Z4 (a3) (by exact i0) rfl ?_))
 refine Zp8 ([a3] ++ [vN]) Wd8 (Zc3 rfl) (G9 rfl d1.cellsL rfl (Nat.le_of_ble_eq_true rfl) (Zm1 rfl)) rfl ?_
 refine V0 (z := vA ([vN] ++ [vN])) ([vN] ++ [vN]).toArray Zq3.zero rfl hS rfl ?_
 intro i1 w38 hS
 refine X8 (v := vA ([a3] ++ [vN])) (vs := ([a3] ++ [vN]).toArray) (cs := ([vN] ++ [vN]).toArray) Q9 rfl rfl rfl hS rfl (L8 (S2 d1.isOne) (S2 rfl)) rfl ?_
 intro w40 hS
 refine Z0 (Z3 (Z3 (Z1 (Z4 (s1) (by exact l7) rfl ?_))))
 have a54 := c4.bound
 refine W6 S9 rfl c4 rfl (Z4 (vI 0) rfl rfl (Z0 (Y7 ?_)))
 have hS := hS.perm C2
 obtain ⟨n5, e5, hS, c6⟩ := V1.freezeF (τ := (Y8 .i64)) (H0 := H) i7 hS Z2
 have c7 := Y2.old c6
 have c6 : RdF (Y8 .i64) H n5 b7 b3 := c6
 have Z2 := Z2.trans e5
 have a6 := a6.mono e5
 have a7 := a7.mono e5
 have c4 := c4.mono e5
 have d1 := d1.mono e5
 have b4 := e5.1 _ _ b4
 have hS := hS.perm U1
 obtain ⟨i8, d8, hS, b6⟩ := V1.freezeF (τ := (Y8 .i64)) (H0 := H) d1 hS Z2
 have b8 := Y2.old b6
 have b6 : RdF (Y8 .i64) H i8 a3 a8 := b6
 have Z2 := Z2.trans d8
 have a6 := a6.mono d8
 have a7 := a7.mono d8
 have c7 := c7.mono d8
 have c6 := c6.mono d8
 have c4 := c4.mono d8
 have b4 := d8.1 _ _ b4
 have m5 : I6 (Zu5 H (W0 yT)) 47 i8 (vN) ([] : List MpT) ([]) (Zc1 [a3] ++ ([] : List Nat)) := I6.nil _ _ _ (by rw [List.append_nil]; exact Zk0 _) (by rw [List.append_nil]; exact Y2.rootsIn b8)
 obtain ⟨m6, b5, i9⟩ := bind_some m3
 refine W7 (id := 2) (fun k f w => ∃ (a9 : Int) (b0 : (List MpT)) (H1 : FH) (c1 : OL) (b2 : Value), R4 K a0 a1 b3 a8 k a9 b0 = some m6 ∧ Sub H H1 ∧ St H1 w (c1 ++ ([(i1, cA ([a3] ++ [b2]) 29)] ++ ([(b1, cA ([vN] ++ [vN]) 29)] ++ L))) ∧ 0 ≤ a9 ∧ I6 (Zu5 H (W0 yT)) 47 H1 b2 b0 c1 (Zc1 [a3] ++ ([] : List Nat)) ∧ RdF (Y8 .i64) H H1 b7 b3 ∧ RdF (Y8 .i64) H H1 a3 a8 ∧ Y2 (Y8 .i64) H1 b7 b3 ∧ Y2 (Y8 .i64) H1 a3 a8 ∧ Y2 (Y8 .i64) H1 s1 a1 ∧ Y2 (Y8 .i64) H1 e4 a0.1 ∧ Y2 (W0 yT) H1 f1 a0.2 ∧ H1 d7 = some (.cells j8 m1) ∧ ev f (.tmp 0) = Value.pointer (some ⟨d7, f0, none⟩) ∧ ev f (.tmp 4) = vP b1 ∧ ev f (.tmp 6) = b7 ∧ ev f (.tmp 7) = a3 ∧ ev f (.tmp 10) = vP i1 ∧ ev f (.tmp 43) = s1 ∧ ev f (.tmp 44) = vI (a1.length : Int) ∧ ev f (.tmp 45) = vI a9) (fun f w => ∃ (c9 : (List MpT)) (H1 : FH) (e3 : OL) (c2 : Value), m6 = .go c9 ∧ Sub H H1 ∧ St H1 w (e3 ++ ([(i1, cA ([a3] ++ [c2]) 29)] ++ ([(b1, cA ([vN] ++ [vN]) 29)] ++ L))) ∧ I6 (Zu5 H (W0 yT)) 47 H1 c2 c9 e3 (Zc1 [a3] ++ ([] : List Nat)) ∧ RdF (Y8 .i64) H H1 a3 a8 ∧ Y2 (Y8 .i64) H1 a3 a8 ∧ ev f (.tmp 4) = vP b1 ∧ ev f (.tmp 10) = vP i1) rfl ?_ ?_ K ?_ ?_
 rintro f w ⟨a9, b0, H1, c1, b2, b5, _⟩
 rw [R4] at b5; cases b5
 rintro k a55 a56 ih1 hx1 ⟨a9, b0, j0, c1, b2, b5, Z2, hS, z3, c3, c6, b6, c7, b8, c4, a6, a7, b4, g1, i2, i3, i4, h1, h2, h3, f7⟩
 rw [R4] at b5
 refine Z3 (Z1 ?_)
 refine U2 (k := .i64) (a := a9) (b := (a1.length : Int)) (by exact f7) (by exact h3) rfl (Z0 (Z3 ?_))
 by_cases j1 : a9 < (a1.length : Int)
 rw [if_pos j1] at b5
 refine Y0 (bT j1 rfl) (Y6 (Z3 (Y7 (Z3 (Z1 ?_)))))
 obtain ⟨b43, o43, a57, E43, _, u0, u1, rfl, u2⟩ := c4.elem (i := a9) (by omega) (by omega)
 refine W3 S9 rfl (by exact h2) u0 (by exact f7) (by omega) (by omega) rfl ?_
 refine Y4 (vI (rd a1 a9)) ty2 rfl (hS.froz _ _ u1) (u2 0 (show 0 < 1 by decide)) rfl (Z5 (vI (rd a1 a9)) rfl rfl (Z0 (Z3 ?_)))
 obtain ⟨a16, b5⟩ := gd b5
 obtain ⟨a17, b5⟩ := gd b5
 obtain ⟨u3, u4, a18, a58, _, n6, j2, ⟨j5, rfl, g2⟩, n7⟩ := a7.elem (i := (rd a1 a9)) (by omega) (by omega)
 obtain ⟨j6, n8, b5⟩ := bind_some b5
 obtain ⟨j7, n9, b5⟩ := bind_some b5
 obtain ⟨a4, o0, b5⟩ := bind_some b5
 have X5 := Z2
 refine U0 22 (Q5 [(50, MP.eq (Value.pointer (some ⟨d7, f0, none⟩))), (51, MP.eq (Value.pointer (some ⟨d7, f0, none⟩))), (52, MP.eq (Value.pointer (some ⟨d7, f0 + 0, none⟩))), (53, MP.eq (e4)), (54, MP.eq (Value.pointer (some ⟨d7, f0, none⟩))), (55, MP.eq (Value.pointer (some ⟨d7, f0, none⟩))), (56, MP.eq (Value.pointer (some ⟨d7, f0 + 1, none⟩))), (57, MP.eq (f1)), (58, MP.eq (vI (rd a1 a9))), (59, MP.eq (Value.pointer (some ⟨u3, u4, none⟩))), (60, MP.eq (vA ([j5]))), (61, MP.mp .i64 (j6)), (62, MP.eq (b7)), (63, MP.eq (a3)), (64, MP.mp .i64 (j7)), (65, MP.rep (Zg7.fr j0 (R.t2 (R.agg (W0 yT)) (R.int .i64))) (a4)), (49, MP.rep (Zg7.fr j0 (R.t2 (R.agg (W0 yT)) (R.int .i64))) ((a4.1, a4.2))), (66, MP.rep (Zg7.fr j0 (R.agg (W0 yT))) ((a4.1, a4.2).1)), (67, MP.eq (vI ((a4.1, a4.2).2))), (13, MP.box (cA ([vN]) 47)), (14, MP.eq (vI ((a4.1, a4.2).2)))]) [Co.st 19 13 20 17 66 (Zn4 47)] mixed rfl (Zr5 (ns := [(19, 13, 20, 17, 66)]) rfl rfl) rfl hS (Z6 rfl ?_ (Z6 rfl ?_ (Z6 rfl ?_ (Z6 rfl ?_ (Z6 rfl ?_ (Z6 rfl ?_ (Z6 rfl ?_ (Z6 rfl ?_ (Z6 rfl ?_ (Z6 rfl ?_ (Z6 rfl ?_ (Z6 rfl ?_ (Z6 rfl ?_ (Z6 rfl ?_ (Z6 rfl ?_ (Z6 rfl ?_ (Z6 rfl ?_ (Z6 rfl ?_ (Z6 rfl ?_ (Z6 rfl ?_ (Ye6 rfl ?_ (Z6 rfl ?_ U5)))))))))))))))))))))) ?_
 intro f44 w45 H46 X47 u5 hS u7 a59 hcq
 have Z2 := Sub.refl H46
 have X6 := X5.trans u5
 refine Z4 (Value.pointer (some ⟨d7, f0, none⟩)) (evT (u7 0 rfl) g1) rfl ?_
 exact Z0 ⟨50, _, _, rfl, rfl, Z2, hS, rfl⟩
 intro f53 w54 H55 X56 u8 hS a60 u9 hcq
 have Z2 := Sub.refl H55
 have X6 := X5.trans u8
 refine I3 (eM (u9 0 50 rfl rfl)) rfl ?_
 exact Z0 ⟨51, _, _, rfl, rfl, Z2, hS, rfl⟩
 intro f62 w63 H64 X65 v2 hS a61 v3 hcq
 have Z2 := Sub.refl H64
 have X6 := X5.trans v2
 refine Y3 R5 (eM (v3 1 51 rfl rfl)) rfl ?_
 exact Z0 ⟨52, _, _, rfl, rfl, Z2, hS, rfl⟩
 intro f71 w72 H73 X74 m7 hS a62 v4 hcq
 have Z2 := Sub.refl H73
 have X6 := X5.trans m7
 have b4 := m7.1 _ _ b4
 refine Y4 (e4) J7 (eM (v4 2 52 rfl rfl)) (hS.froz _ _ b4) (j9 0 (show 0 < 2 by decide)) rfl ?_
 exact Z0 ⟨53, _, _, rfl, rfl, Z2, hS, rfl⟩
 intro f80 w81 H82 X83 v5 hS v6 a63 hcq
 have Z2 := Sub.refl H82
 have X6 := X5.trans v5
 refine Z4 (Value.pointer (some ⟨d7, f0, none⟩)) (evT (v6 0 rfl) g1) rfl ?_
 exact Z0 ⟨54, _, _, rfl, rfl, Z2, hS, rfl⟩
 intro f89 w90 H91 X92 v7 hS a64 v8 hcq
 have Z2 := Sub.refl H91
 have X6 := X5.trans v7
 refine I3 (eM (v8 4 54 rfl rfl)) rfl ?_
 exact Z0 ⟨55, _, _, rfl, rfl, Z2, hS, rfl⟩
 intro f98 w99 v9 a65 o1 hS a19 o2 hcq
 have Z2 := Sub.refl v9
 have X6 := X5.trans o1
 refine Y3 M7 (eM (o2 5 55 rfl rfl)) rfl ?_
 exact Z0 ⟨56, _, _, rfl, rfl, Z2, hS, rfl⟩
 intro a66 a67 w0 a68 k7 hS a20 o3 hcq
 have Z2 := Sub.refl w0
 have X6 := X5.trans k7
 have b4 := k7.1 _ _ b4
 refine Y4 (f1) Ze3 (eM (o3 6 56 rfl rfl)) (hS.froz _ _ b4) (j9 1 (show 1 < 2 by decide)) rfl ?_
 exact Z0 ⟨57, _, _, rfl, rfl, Z2, hS, rfl⟩
 intro w1 a69 w3 a70 o4 hS o5 a21 hcq
 have Z2 := Sub.refl w3
 have X6 := X5.trans o4
 have w4 : ev w1 (.tmp 12) = vI (rd a1 a9) := Eq.trans (o5 12 rfl) rfl
 refine Z4 (vI (rd a1 a9)) w4 rfl ?_
 exact Z0 ⟨58, _, _, rfl, rfl, Z2, hS, rfl⟩
 intro a71 a72 w5 a73 o6 hS a22 k8 hcq
 have Z2 := Sub.refl w5
 have X6 := X5.trans o6
 refine W3 D7 rfl (eM (k8 7 57 rfl rfl)) n6 (eM (k8 8 58 rfl rfl)) (by omega) (by omega) rfl ?_
 exact Z0 ⟨59, _, _, rfl, rfl, Z2, hS, rfl⟩
 intro a74 a75 w6 a76 k9 hS a23 o7 hcq
 have Z2 := Sub.refl w6
 have X6 := X5.trans k9
 have j2 := k9.1 _ _ j2
 refine V4 ([j5]) T3 (eM (o7 9 59 rfl rfl)) (hS.froz _ _ j2) rfl n7 rfl ?_
 exact Z0 ⟨60, _, _, rfl, rfl, Z2, hS, rfl⟩
 intro a77 a78 w8 a79 l0 hS a24 o8 hcq
 have Z2 := Sub.refl w8
 have X6 := X5.trans l0
 have g2 := g2.mono l0
 refine X0 Tryz.call90 (M0 (eM (o8 10 60 rfl rfl))) rfl (Zt0 n8 g2 hS) ?_
 rintro a80 a81 ⟨a82, a83, a84, rfl, o9, hS, p0⟩
 refine ⟨_, rfl, ?_⟩
 have Z2 := Z2.trans o9
 obtain ⟨a85, p1, hS, p2⟩ := p0.freeze hS
 have Z2 := Z2.trans p1
 exact Z0 ⟨61, _, _, rfl, rfl, Z2, hS, p2⟩
 intro a86 a87 w9 a88 p3 hS p4 a25 hcq
 have Z2 := Sub.refl w9
 have X6 := X5.trans p3
 refine Z4 (b7) (evT (p4 6 rfl) i3) rfl ?_
 exact Z0 ⟨62, _, _, rfl, rfl, Z2, hS, rfl⟩
 intro a89 a90 x0 a91 p5 hS p6 a26 hcq
 have Z2 := Sub.refl x0
 have X6 := X5.trans p5
 refine Z4 (a3) (evT (p6 7 rfl) i4) rfl ?_
 exact Z0 ⟨63, _, _, rfl, rfl, Z2, hS, rfl⟩
 intro a92 a93 x1 a94 g6 hS a27 g7 hcq
 have Z2 := Sub.refl x1
 have X6 := X5.trans g6
 have a6 := a6.mono g6
 have c7 := c7.mono g6
 have b8 := b8.mono g6
 obtain ⟨a95, x2, p7⟩ := gvM (g7 11 61 rfl rfl)
 refine X0 Tryz.call89 (Xk5 (eM (g7 3 53 rfl rfl)) x2 (eM (g7 12 62 rfl rfl)) (eM (g7 13 63 rfl rfl))) rfl (Yg8 n9 a6 p7 c7 b8 hS) ?_
 rintro a96 a97 ⟨a98, a99, aa0, rfl, p8, hS, p9⟩
 refine ⟨_, rfl, ?_⟩
 have Z2 := Z2.trans p8
 obtain ⟨aa1, q1, hS, q2⟩ := p9.freeze hS
 have Z2 := Z2.trans q1
 exact Z0 ⟨64, _, _, rfl, rfl, Z2, hS, q2⟩
 intro aa2 aa3 x3 aa4 l1 hS a28 q3 hcq
 have Z2 := Sub.refl x3
 have X6 := X5.trans l1
 obtain ⟨aa5, x4, q4⟩ := gvM (q3 14 64 rfl rfl)
 refine X0 Tryz.call91 (M0 x4) rfl (Yi1 o0 q4 hS) ?_
 rintro aa6 aa7 ⟨x5, aa8, rfl, q5, hS, j3⟩
 refine ⟨x5, rfl, ?_⟩
 have j3 := ((R.t2 (R.agg (W0 yT)) (R.int .i64))).mono (Zf2 (Sub.trans l1 Z2)) j3
 have Z2 := Z2.trans q5
 exact Z0 ⟨65, _, _, rfl, rfl, Z2, hS, j3⟩
 intro aa9 ab0 m8 ab1 q6 hS a29 q7 hcq
 have Z2 := Sub.refl m8
 have X6 := X5.trans q6
 obtain ⟨ab2, x6, ⟨a10, a11, rfl, ⟨_, rfl, ⟨h4, rfl, d9⟩⟩, rfl⟩⟩ := gvR (q7 15 65 rfl rfl)
 have q8 := d9
 have a30 : RdF yT H m8 h4 a4.1 := Y2.mono (Zf2 X5) d9
 have d9 := Y2.old d9
 refine Z4 (Value.tuple #[vA ([h4]), vI a4.2]) x6 rfl ?_
 exact Z0 ⟨49, _, _, rfl, rfl, Z2, hS, ⟨_, _, rfl, ⟨_, rfl, ⟨_, rfl, q8⟩⟩, rfl⟩⟩
 intro ab3 ab4 m9 ab5 q9 hS a31 r0 hcq
 have Z2 := Sub.refl m9
 have X6 := X5.trans q9
 obtain ⟨ab6, x7, ⟨a12, a13, rfl, ⟨_, rfl, ⟨h5, rfl, e0⟩⟩, rfl⟩⟩ := gvR (r0 16 49 rfl rfl)
 have r1 := e0
 have a32 : RdF yT H m9 h5 ((a4.1, a4.2).1) := Y2.mono (Zf2 X5) e0
 have e0 := Y2.old e0
 refine V5 (vA ([h5])) x7 rfl rfl ?_
 exact Z0 ⟨66, _, _, rfl, rfl, Z2, hS, ⟨_, rfl, ⟨_, rfl, r1⟩⟩⟩
 intro ab7 ab8 n0 ab9 r2 hS a33 r3 hcq
 have Z2 := Sub.refl n0
 have X6 := X5.trans r2
 obtain ⟨ac0, x8, ⟨a14, a15, rfl, ⟨_, rfl, ⟨k1, rfl, e1⟩⟩, rfl⟩⟩ := gvR (r3 16 49 rfl rfl)
 have a34 := e1
 have a35 : RdF yT H n0 k1 ((a4.1, a4.2).1) := Y2.mono (Zf2 X5) e1
 have e1 := Y2.old e1
 refine V5 (vI ((a4.1, a4.2).2)) x8 rfl rfl ?_
 exact Z0 ⟨67, _, _, rfl, rfl, Z2, hS, rfl⟩
 intro ac1 ac2 x9 ac3 r4 hS a36 a37 hcq
 have Z2 := Sub.refl x9
 have X6 := X5.trans r4
 refine V0 (z := vA ([vN])) ([vN]).toArray Ze9.zero rfl hS rfl ?_
 intro ac4 ac5 hS
 exact Z0 ⟨13, _, _, rfl, rfl, Z2, hS, ⟨_, rfl⟩⟩
 intro g3 y0 k2 y1 r5 hS a38 l2 hcq
 have Z2 := Sub.refl k2
 have X6 := X5.trans r5
 obtain ⟨n1, h6⟩ := l2 19 13 rfl rfl
 have h6 : g3 13 = vP n1 := h6
 have hS : St k2 y0 (Zb7 (cA ([vN]) 47) (g3 13) ++ (y1 ++ (c1 ++ ([(i1, cA ([a3] ++ [b2]) 29)] ++ ([(b1, cA ([vN] ++ [vN]) 29)] ++ L))))) := hS
 rw [h6] at hS
 have y2 : ev g3 (.tmp 13) = vP n1 := h6
 obtain ⟨ac6, n2, ⟨_, rfl, ⟨f8, rfl, e6⟩⟩⟩ := gvR (l2 17 66 rfl rfl)
 have a39 := e6
 have a40 : RdF yT H k2 f8 ((a4.1, a4.2).1) := Y2.mono (Zf2 X5) e6
 have e6 := Y2.old e6
 refine X8 (v := vA ([f8])) (vs := ([f8]).toArray) (cs := ([vN]).toArray) T3 y2 n2 rfl hS rfl (S2 e6.isOne) rfl ?_
 intro ac7 hS
 have y3 : g3 66 = vA ([f8]) := n2
 exact Z0 ⟨_, rfl, rfl, Z2, by show St _ _ (Zb7 (Zn4 47 (g3 66)) (g3 13) ++ _); rw [h6, y3]; exact hS, trivial⟩
 intro ac8 ac9 y4 ad0 r6 hS a41 r7 hcq
 have Z2 := Sub.refl y4
 have X6 := X5.trans r6
 refine Z5 (vI ((a4.1, a4.2).2)) (eM (r7 18 67 rfl rfl)) rfl ?_
 exact Z0 ⟨14, _, _, rfl, rfl, Z2, hS, rfl⟩
 intro g4 y5 n3 d2 hS e2 j4 hcq
 have hS : St n3 y5 ((Zb7 (Zn4 47 (g4 66)) (g4 13) ++ ([])) ++ (c1 ++ ([(i1, cA ([a3] ++ [b2]) 29)] ++ ([(b1, cA ([vN] ++ [vN]) 29)] ++ L)))) := hS
 have Z2 := Z2.trans d2
 have a6 := a6.mono d2
 have a7 := a7.mono d2
 have c7 := c7.mono d2
 have c6 := c6.mono d2
 have b8 := b8.mono d2
 have b6 := b6.mono d2
 have c4 := c4.mono d2
 have b4 := d2.1 _ _ b4
 have k3 := evT (e2 4 rfl) i2
 have k4 := evT (e2 10 rfl) h1
 obtain ⟨ad1, y6, ⟨_, rfl, ⟨f4, rfl, e7⟩⟩⟩ := gvR (j4 17 66 (by decide) rfl)
 have r8 := e7
 have r9 : RdF yT H n3 f4 ((a4.1, a4.2).1) := Y2.mono (Zf2 X5) e7
 have e7 := Y2.old e7
 have n4 : ev g4 (.tmp 14) = vI ((a4.1, a4.2).2) := j4 21 14 (by decide) rfl
 have c3 := I6.keep (Yi2 H (Zp3 _)) c3 d2 (RdF.rootsOut r8) (Y2.rootsIn e7) (Zk0 _)
 obtain ⟨y7, g5⟩ := j4 19 13 (by decide) rfl
 have g5 : g4 13 = vP y7 := g5
 rw [g5] at hS
 have g5 : ev g4 (.tmp 13) = _ := g5
 have y8 : g4 66 = vA ([f4]) := y6
 rw [y8] at hS
 refine Z0 (Z3 (Z3 (Z1 (Z4 (vI ((a4.1, a4.2).2)) (by exact n4) rfl ?_))))
 refine K9 (k := .i64) (a := (a4.1, a4.2).2) (b := 0) rfl rfl rfl (Z0 ?_)
 by_cases g8 : (a4.1, a4.2).2 = 0
 rw [if_pos g8] at b5
 refine Z9 (bN g8 rfl) (Y6 (Z1 (Y3 M7 (by exact k4) rfl ?_)))
 refine Y4 (b2) Ze3 rfl (hS.get (mR (mR mL))) rfl rfl ?_
 refine W1 T3 (by exact g5) (hS.get mL) rfl rfl ?_
 refine Zk6 (τ := Zl5 (Zu5 H (W0 yT))) D7 Ze9 rfl [vA ([f4])] [((a4.1, a4.2).1, Zc1 [f4])] rfl rfl (Zc3 rfl) (Zq5 ⟨⟨_, rfl, r9⟩, rfl⟩) (by decide) (by decide) hS rfl ?_
 intro ad2 y9 ad3 d3 hS s2
 have Z2 := Z2.trans d3
 have a6 := a6.mono d3
 have a7 := a7.mono d3
 have c7 := c7.mono d3
 have c6 := c6.mono d3
 have b8 := b8.mono d3
 have b6 := b6.mono d3
 have c4 := c4.mono d3
 have c3 := c3.mono d3
 have b4 := d3.1 _ _ b4
 obtain ⟨s3, b5⟩ := gd b5
 have hS := hS.perm U1
 refine Xp6 (τ := (Zu5 H (W0 yT))) (R := Zc1 [f4]) Xb1 rfl rfl rfl c3 hS s2 (by have h := s3; simpa using h) rfl ?_
 intro k5 ad4 z0 l3 hS
 have hS := hS.perm U1.symm
 refine Y3 M7 (by exact k4) rfl ?_
 have hS := hS.perm C2
 refine Ze4 (v := k5) (cs := ([a3] ++ [b2]).toArray) (cs' := ([a3] ++ [k5]).toArray) Ze3 rfl rfl hS l3.own.isOne rfl (Nat.le_of_ble_eq_true rfl) rfl ?_
 intro ad5 hS
 have hS := hS.perm C2.symm
 refine Z0 (X3 (Z1 ?_))
 refine W8 (a9 + 1) (by exact (evT (e2 45 rfl) f7)) rfl (IntWalk.i64_in _ (by omega)) rfl (Z4 (vI (a9 + 1)) rfl rfl (Z0 ?_))
 have hS := St.dropA hS
 exact ih1 _ _ ⟨(a9 + 1), (b0 ++ [(a4.1, a4.2).1]), y9, z0, k5, b5, Z2, hS, (by omega), l3, c6, b6, c7, b8, c4, a6, a7, b4, (evT (e2 0 rfl) g1), k3, (evT (e2 6 rfl) i3), (evT (e2 7 rfl) i4), k4, (evT (e2 43 rfl) h2), (evT (e2 44 rfl) h3), rfl⟩
 rw [if_neg g8] at b5
 refine Y0 (bO g8 rfl) (Z3 (Z1 ?_))
 refine Q6 (vA ([vN] ++ [vN])) Yp6 rfl (Z4 (vI ((a4.1, a4.2).2)) (by exact n4) rfl ?_)
 have hS := hS.perm Zx4
 refine X8 (v := vA ([vN] ++ [vN])) (vs := ([vN] ++ [vN]).toArray) (cs := ([vN] ++ [vN]).toArray) Q9 (by exact k3) rfl rfl hS rfl (L8 (S2 rfl) (S2 rfl)) rfl ?_
 intro ad6 hS
 have hS := hS.perm Zx4.symm
 refine Z5 (vI ((a4.1, a4.2).2)) rfl rfl (Z0 ?_)
 refine Y9 (vs := [vA ([vN] ++ [vN]), vI ((a4.1, a4.2).2)]) Tryz.func156 ⟨⟨_, (by exact k3), U6 Q9 (hS.get (mR (mR (mR mL)))) rfl⟩, rfl, trivial⟩ ?_
 have hz := Option.some.inj b5
 subst hz
 dsimp only [Ex.elim] at i9
 have hz := Option.some.inj i9
 subst hz
 exact ⟨_, _, rfl, Z2, (St.dropA (St.dropA (St.dropA (St.dropA hS)))), ⟨_, _, rfl, ⟨_, _, rfl, Y2.nil, RdN.nil (by first | exact List.nodup_nil | (rw [List.append_nil]; exact Zk0 _))⟩, rfl⟩⟩
 rw [if_neg j1] at b5
 refine Z9 (bF j1 rfl) ?_
 refine W4 rfl ?_
 have hz := Option.some.inj b5
 subst hz
 exact hx1 _ _ ⟨b0, j0, c1, b2, rfl, Z2, hS, c3, b6, b8, i2, h1⟩
 exact ⟨0, ([] : List MpT), i8, ([]), (vN), b5, Z2, hS, (by omega), m5, c6, b6, c7, b8, c4, a6, a7, b4, l6, l9, m0, i0, rfl, rfl, rfl, rfl⟩
 rintro ad7 ad8 ⟨c9, ad9, e3, c2, rfl, Z2, hS, f5, b6, b8, i5, k6⟩
 dsimp only [Ex.elim] at i9
 refine Z3 (Z1 ?_)
 refine W1 Q9 (by exact k6) (hS.get (mR mL)) rfl rfl ?_
 have hS := hS.perm C2
 refine X8 (v := vA ([a3] ++ [c2])) (vs := ([a3] ++ [c2]).toArray) (cs := ([vN] ++ [vN]).toArray) Q9 (by exact i5) rfl rfl hS rfl (L8 (S2 b8.isOne) (S2 f5.own.isOne)) rfl ?_
 intro ae0 hS
 have hS := hS.perm C2.symm
 refine Z5 (vI 0) rfl rfl (Z0 ?_)
 refine Y9 (vs := [vA ([a3] ++ [c2]), vI 0]) Tryz.func156 ⟨⟨_, (by exact i5), U6 Q9 (hS.get (mR (mR mL))) rfl⟩, rfl, trivial⟩ ?_
 obtain ⟨z1, l4, hS, l5⟩ := I6.freezeN (τ := (W0 yT)) (H0 := H) (Zp3 _) f5 hS Z2
 have s4 : RdF (W0 yT) H z1 c2 c9 := RdN.old l5
 have a42 := Y2.old s4
 have Z2 := Z2.trans l4
 have b6 := b6.mono l4
 have hz := Option.some.inj i9
 subst hz
 exact ⟨_, _, rfl, Z2, (St.dropA (St.dropA hS)), ⟨_, _, rfl, ⟨_, _, rfl, b6, l5⟩, rfl⟩⟩
def Ze7 (K : Nat) (a0 : ((List Int) × (List MpT))) (a1 : (List MpT)) : Option Int := ((Zg9 K (a0.1, a0.2)).bind fun r8 => (if r8 = true then ((T6 K a1 (fun x => Zl4 K x (a0.1, a0.2))).bind fun a8 => ((Zn2 K a8 1).bind fun b4 => some b4)) else ((Zn2 K true 1).bind fun b5 => some b5)))
theorem Yd1 {K : Nat} {a0 : ((List Int) × (List MpT))} {a1 : (List MpT)} {r : Int} (q0 : Ze7 K a0 a1 = some r) {H : FH} {w : World} {L : OL} {s0 : Value} {s1 : Value} (c7 : Zh2 (Zo8 (W0 (Y8 .i64)) (W0 (W0 yT))) H s0 a0) (a9 : Y2 (W0 yT) H s1 a1) (hS : St H w L) :
 Calls Tryz.prog 85 #[s0, s1] w (S3 (fun v G => (R.int .i64).p G v r) H L) := by
 obtain ⟨b0, b2, d3, d4, _, rfl, a6, ⟨_, _, rfl, ⟨b7, rfl, a3⟩, ⟨b8, rfl, a4⟩⟩, b9⟩ := c7
 have Z2 := Sub.refl H
 refine X2 Tryz.func85 rfl Tryz.ntmps85 rfl ?_
 unfold Ze7 at q0
 refine Z3 (Z1 ?_)
 refine S5 (v := Value.pointer (some ⟨b0, b2, none⟩)) ([Value.pointer (some ⟨b0, b2, none⟩)]).toArray rfl rfl hS rfl ?_
 intro b1 w2 hS
 refine Z5 (vI 0) rfl rfl (Z0 (Z3 ?_))
 obtain ⟨H4, b3, hS, b6⟩ := St.freezeBox hS
 have Z2 := Z2.trans b3
 have a9 := a9.mono b3
 have a3 := a3.mono b3
 have a4 := a4.mono b3
 have a6 := b3.1 _ _ a6
 refine Z1 ?_
 refine Y4 (Value.pointer (some ⟨b0, b2, none⟩)) Xy1 rfl (hS.froz _ _ b6) ((Zq1 ([Value.pointer (some ⟨b0, b2, none⟩)]) 1) 0 (show 0 < 1 by decide)) rfl (I3 rfl rfl ?_)
 refine V4 ([b7] ++ [b8]) Q9 rfl (hS.froz _ _ a6) rfl b9 rfl ?_
 obtain ⟨r8, c8, q0⟩ := bind_some q0
 refine X0 Tryz.call45 (M0 rfl) rfl (Yh6 c8 a3 a4 hS) ?_
 rintro e8 w9 ⟨_, H8, rfl, a7, hS, rfl⟩
 refine ⟨_, rfl, ?_⟩
 have Z2 := Z2.trans a7
 have a9 := a9.mono a7
 have a3 := a3.mono a7
 have a4 := a4.mono a7
 have b6 := a7.1 _ _ b6
 have a6 := a7.1 _ _ a6
 refine M1 (b := r8) rfl rfl (Z4 (Value.bool (!r8)) rfl rfl ?_)
 by_cases a5 : r8 = true
 rw [if_pos a5] at q0
 refine Y1 rfl rfl (Eq.trans rfl (congrArg (fun b => Value.bool (!b)) a5)) (Z4 (s1) rfl rfl ?_)
 refine Y1 rfl rfl (Eq.trans rfl (congrArg (fun b => Value.bool (!b)) a5)) ?_
 refine Yc0 rfl rfl ?_
 obtain ⟨a8, c1, q0⟩ := bind_some q0
 refine Y1 rfl rfl (Eq.trans rfl (congrArg (fun b => Value.bool (!b)) a5)) ?_
 refine X0 Tryz.call127 (T0 rfl rfl) rfl (A9 c1 a9 ⟨174, #[vP b1], rfl, Tryz.call174, fun H2 w2 L2 v x b c9 d0 hv d1 => by obtain ⟨_, rfl, ⟨d2, rfl, c0⟩⟩ := hv; exact Zy2 d1 c0 (Zh2.mono c9 ⟨_, _, _, _, _, rfl, b6, ⟨_, rfl, ⟨_, _, _, _, _, rfl, a6, ⟨_, _, rfl, ⟨_, rfl, a3⟩, ⟨_, rfl, a4⟩⟩, b9⟩⟩, (Zq1 ([Value.pointer (some ⟨b0, b2, none⟩)]) 1)⟩) d0⟩ hS) ?_
 rintro d5 d6 ⟨_, d7, rfl, c2, hS, rfl⟩
 refine ⟨_, rfl, ?_⟩
 have Z2 := Z2.trans c2
 refine V2 (t := false) (Value.bool a8) (Eq.trans rfl (congrArg (fun b => Value.bool (!b)) a5)) ((if_neg Bool.false_ne_true).trans rfl) rfl (Z5 (Value.bool a8) rfl rfl (Z0 (Z3 (Z1 (Z4 (Value.bool a8) rfl rfl ?_)))))
 obtain ⟨b4, c3, q0⟩ := bind_some q0
 refine X0 Tryz.call86 (T0 rfl rfl) rfl (Yc8 c3  hS) ?_
 rintro d8 d9 ⟨_, e0, rfl, c4, hS, rfl⟩
 refine ⟨_, rfl, ?_⟩
 have Z2 := Z2.trans c4
 refine Z5 (vI b4) rfl rfl (Z0 ?_)
 refine Y9 (vs := [vI b4]) Tryz.func85 ⟨rfl, trivial⟩ ?_
 have hz := Option.some.inj q0
 subst hz
 exact ⟨_, _, rfl, Z2, hS, rfl⟩
 rw [if_neg a5] at q0
 refine Z8 rfl rfl (Eq.trans rfl (congrArg (fun b => Value.bool (!b)) (W2 a5))) rfl rfl rfl (Z8 rfl rfl (Eq.trans rfl (congrArg (fun b => Value.bool (!b)) (W2 a5))) rfl rfl rfl (Z8 rfl rfl (Eq.trans rfl (congrArg (fun b => Value.bool (!b)) (W2 a5))) rfl rfl rfl ?_))
 refine V2 (t := true) (Value.bool true) (Eq.trans rfl (congrArg (fun b => Value.bool (!b)) (W2 a5))) ((if_pos rfl).trans rfl) rfl (Z5 (Value.bool true) rfl rfl (Z0 (Z3 (Z1 (Z4 (Value.bool true) rfl rfl ?_)))))
 obtain ⟨b5, c5, q0⟩ := bind_some q0
 refine X0 Tryz.call86 (T0 rfl rfl) rfl (Yc8 c5  hS) ?_
 rintro e1 e2 ⟨_, e3, rfl, c6, hS, rfl⟩
 refine ⟨_, rfl, ?_⟩
 have Z2 := Z2.trans c6
 refine Z5 (vI b5) rfl rfl (Z0 ?_)
 refine Y9 (vs := [vI b5]) Tryz.func85 ⟨rfl, trivial⟩ ?_
 have hz := Option.some.inj q0
 subst hz
 exact ⟨_, _, rfl, Z2, hS, rfl⟩
end Go.Proofs.YtfodlhkoafhplaaGreat
