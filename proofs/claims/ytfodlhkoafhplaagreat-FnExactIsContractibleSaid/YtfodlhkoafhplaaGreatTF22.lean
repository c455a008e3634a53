/- Walks of functions: each computes its pure function, if that gives a value. -/
import Derived.Test.YtfodlhkoafhplaaGreatTTy
import Derived.Test.YtfodlhkoafhplaaGreatTF15
import Derived.Test.YtfodlhkoafhplaaGreatTF13
import Derived.Test.YtfodlhkoafhplaaGreatTF21
import Derived.Test.YtfodlhkoafhplaaGreatTF1
import Derived.Test.YtfodlhkoafhplaaGreatTF16
import Derived.Test.YtfodlhkoafhplaaGreatTF4
import Derived.Test.YtfodlhkoafhplaaGreatTF18
namespace Go.Proofs.YtfodlhkoafhplaaGreat
open Go
set_option linter.unusedSimpArgs false
set_option linter.unusedVariables false
set_option maxRecDepth 100000
set_option maxHeartbeats 8000000
def M3 (K : Nat) : Nat → (List MpT) → (List Int) → (List MpT) → Option (Ex (((List Int) × (List MpT)) × (List MpT) × Int) (Unit))
 | 0, _, _, _ => none
 | k + 1, d1, a4, a6 => ((Zj0 K (a4, a6)).bind fun c6 => (if c6.2.2 = true then ((Ze2 K (a4, a6) c6.1 c6.2.1).bind fun b5 => (if b5.2.2 = 0 then ((Zp3 K a4 b5.1.1 b5.2.1).bind fun j7 => ((Zg4 K (j7.1, j7.2.1, j7.2.2) d1).bind fun d0 => (if d0.2 = 0 then M3 K k d0.1 b5.1.1 b5.1.2 else some (.ret ((([] : List Int), ([] : List MpT)), ([] : List MpT), d0.2))))) else some (.ret ((([] : List Int), ([] : List MpT)), ([] : List MpT), b5.2.2)))) else some (.ret ((a4, a6), d1, 0))))
def M4 (K : Nat) (a0 : ((List Int) × (List MpT))) : Nat → Int → (List MpT) → Option (Ex (((List Int) × (List MpT)) × (List MpT) × Int) ((List MpT)))
 | 0, _, _ => none
 | k + 1, c0, b3 => (if c0 < (a0.2.length : Int) then ((Zs0 K (rd a0.2 c0) 0).bind fun f9 => (if b3.length + ([f9]).length ≤ 1099511627776 then M4 K a0 k (c0 + 1) (b3 ++ [f9]) else none)) else some (.go b3))
def Zf1 (K : Nat) (a0 : ((List Int) × (List MpT))) : Option (((List Int) × (List MpT)) × (List MpT) × Int) := ((Ze6 K a0.1).bind fun f6 => ((Zl4 K 0 (a0.1.length : Int)).bind fun e1 => ((M4 K a0 K 0 ([] : List MpT)).bind (Ex.elim (fun r => some r) (fun s => (fun (c1 : (List MpT)) => ((M3 K K e1 f6 c1).bind (Ex.elim (fun r => some r) (fun s => none)))) s)))))
theorem Yg5 {K : Nat} {a0 : ((List Int) × (List MpT))} {r : (((List Int) × (List MpT)) × (List MpT) × Int)} (q0 : Zf1 K a0 = some r) {H : FH} {w : World} {L : OL} {s0 : Value} (z8 : Zl1 (Zl2 (Y9 (Y6 .i64)) (Y9 (Y9 yT))) H s0 a0) (hM : ∀ b, H.memo b = none) (hS : St H w L) :
 Calls Tryz.prog 162 #[s0] w (T3 (fun v G => (R.t3 (R.agg (Zl2 (Y9 (Y6 .i64)) (Y9 (Y9 yT)))) (R.sl (Y9 yT)) (R.int .i64)).p (G.new H) v r) H L) := by
 obtain ⟨f7, f8, a49, Es0, _, rfl, e9, ⟨_, _, rfl, ⟨h0, rfl, d4⟩, ⟨i7, rfl, c4⟩⟩, k8⟩ := z8
 have Z2 := Sub.refl H
 refine X6 Tryz.func162 rfl Tryz.ntmps162 rfl ?_
 unfold Zf1 at q0
 refine Z3 (Z1 ?_)
 refine V0 (z := vA ([vN] ++ [vN])) ([vN] ++ [vN]).toArray Zu2.zero rfl hS rfl ?_
 intro b1 w2 hS
 refine Z5 (vN) rfl rfl (Z5 (vI 0) rfl rfl (Z0 (Z3 ?_)))
 obtain ⟨f6, t4, q0⟩ := bind_some q0
 have a24 := d4.bound
 obtain ⟨e1, o7, q0⟩ := bind_some q0
 have X2 := Z2
 refine U0 15 (Q6 [(15, MP.eq (Value.pointer (some ⟨f7, f8, none⟩))), (16, MP.eq (Value.pointer (some ⟨f7, f8, none⟩))), (17, MP.eq (Value.pointer (some ⟨f7, f8 + 0, none⟩))), (18, MP.eq (h0)), (19, MP.rep (Zh6.fr H (R.sl (Y6 .i64))) (f6)), (20, MP.rep (Zh6.fr H (R.sn (Y6 .i64))) (f6)), (21, MP.eq (Value.pointer (some ⟨f7, f8, none⟩))), (22, MP.eq (Value.pointer (some ⟨f7, f8, none⟩))), (23, MP.eq (Value.pointer (some ⟨f7, f8 + 0, none⟩))), (24, MP.eq (h0)), (25, MP.eq (vI (a0.1.length : Int))), (26, MP.rep (Zh6.fr H (R.sl (Y9 yT))) (e1)), (5, MP.box (cA ([vN] ++ [vN]) 29)), (6, MP.rep (Zh6.fr H (R.sl (Y9 yT))) (e1))]) [Co.st 12 5 13 5 20 (Zy8 29)] mixed rfl (Ye0 (ns := [(12, 5, 13, 5, 20)]) rfl rfl) rfl hS (Z6 rfl ?_ (Z6 rfl ?_ (Z6 rfl ?_ (Z6 rfl ?_ (Z6 rfl ?_ (Z6 rfl ?_ (Z6 rfl ?_ (Z6 rfl ?_ (Z6 rfl ?_ (Z6 rfl ?_ (Z6 rfl ?_ (Z6 rfl ?_ (Z6 rfl ?_ (Yr1 rfl ?_ (Z6 rfl ?_ U8))))))))))))))) ?_
 intro f4 w5 H6 X7 z9 hS hB9 a50 hcq
 have Z2 := Sub.refl H6
 have X8 := X2.trans z9
 have q12 : ev f4 (.tmp 0) = Value.pointer (some ⟨f7, f8, none⟩) := Eq.trans (hB9 0 rfl) rfl
 refine Z4 (Value.pointer (some ⟨f7, f8, none⟩)) q12 rfl ?_
 exact Z0 ⟨15, _, _, rfl, rfl, Z2, hS, rfl⟩
 intro f13 w14 H15 X16 t5 hS a51 t6 hcq
 have Z2 := Sub.refl H15
 have X8 := X2.trans t5
 refine R7 (eM (t6 0 15 rfl rfl)) rfl ?_
 exact Z0 ⟨16, _, _, rfl, rfl, Z2, hS, rfl⟩
 intro f22 w23 H24 X25 t7 hS a52 t8 hcq
 have Z2 := Sub.refl H24
 have X8 := X2.trans t7
 refine Y2 R2 (eM (t8 1 16 rfl rfl)) rfl ?_
 exact Z0 ⟨17, _, _, rfl, rfl, Z2, hS, rfl⟩
 intro f31 w32 H33 X34 n0 hS a53 t9 hcq
 have Z2 := Sub.refl H33
 have X8 := X2.trans n0
 have e9 := n0.1 _ _ e9
 refine Y3 (h0) M0 (eM (t9 2 17 rfl rfl)) (hS.froz _ _ e9) (k8 0 (show 0 < 2 by decide)) rfl ?_
 exact Z0 ⟨18, _, _, rfl, rfl, Z2, hS, rfl⟩
 intro f40 w41 H42 X43 k9 hS a54 u0 hcq
 have Z2 := Sub.refl H42
 have X8 := X2.trans k9
 have d4 := d4.mono k9
 refine X0 Tryz.call237 (S1 (eM (u0 3 18 rfl rfl))) rfl (Yb1 t4 d4 hS) ?_
 rintro e49 w50 ⟨v49, H49, rfl, u1, hS, l0⟩
 refine ⟨v49, rfl, ?_⟩
 have l0 := ((R.sl (Y6 .i64))).mono (N2 (Sub.trans k9 Z2)) l0
 have Z2 := Z2.trans u1
 exact Z0 ⟨19, _, _, rfl, rfl, Z2, hS, l0⟩
 intro f51 w52 t0 X54 u2 hS a55 u3 hcq
 have Z2 := Sub.refl t0
 have X8 := X2.trans u2
 obtain ⟨t1, q59, i8⟩ := gvR (u3 4 19 rfl rfl)
 have u4 := i8
 have a56 : RdF (Y6 .i64) H t0 t1 f6 := Z9.mono (N2 X2) i8
 have i8 := Z9.old i8
 refine Zj7 ([t1] ++ [vN]) Xz1 (L4 q59) (Q2 rfl i8.cellsL rfl (Nat.le_of_ble_eq_true rfl) (Zf6 rfl)) rfl ?_
 exact Z0 ⟨20, _, _, rfl, rfl, Z2, hS, ⟨_, rfl, u4⟩⟩
 intro f63 w64 H65 X66 u5 hS u6 a57 hcq
 have Z2 := Sub.refl H65
 have X8 := X2.trans u5
 have q71 : ev f63 (.tmp 0) = Value.pointer (some ⟨f7, f8, none⟩) := Eq.trans (u6 0 rfl) rfl
 refine Z4 (Value.pointer (some ⟨f7, f8, none⟩)) q71 rfl ?_
 exact Z0 ⟨21, _, _, rfl, rfl, Z2, hS, rfl⟩
 intro f72 w73 H74 X75 u7 hS a58 u8 hcq
 have Z2 := Sub.refl H74
 have X8 := X2.trans u7
 refine R7 (eM (u8 6 21 rfl rfl)) rfl ?_
 exact Z0 ⟨22, _, _, rfl, rfl, Z2, hS, rfl⟩
 intro f81 w82 H83 X84 u9 hS a59 v0 hcq
 have Z2 := Sub.refl H83
 have X8 := X2.trans u9
 refine Y2 R2 (eM (v0 7 22 rfl rfl)) rfl ?_
 exact Z0 ⟨23, _, _, rfl, rfl, Z2, hS, rfl⟩
 intro f90 w91 H92 X93 n1 hS a60 v1 hcq
 have Z2 := Sub.refl H92
 have X8 := X2.trans n1
 have e9 := n1.1 _ _ e9
 refine Y3 (h0) M0 (eM (v1 8 23 rfl rfl)) (hS.froz _ _ e9) (k8 0 (show 0 < 2 by decide)) rfl ?_
 exact Z0 ⟨24, _, _, rfl, rfl, Z2, hS, rfl⟩
 intro f99 a61 v2 a62 l9 hS a25 o8 hcq
 have Z2 := Sub.refl v2
 have X8 := X2.trans l9
 have d4 := d4.mono l9
 refine W6 Q1 (eM (o8 9 24 rfl rfl)) d4 rfl ?_
 exact Z0 ⟨25, _, _, rfl, rfl, Z2, hS, rfl⟩
 intro a63 a64 v3 a65 m0 hS a26 o9 hcq
 have Z2 := Sub.refl v3
 have X8 := X2.trans m0
 refine X0 Tryz.call243 (S5 rfl (eM (o9 10 25 rfl rfl))) rfl (Yp2 o7  hS) ?_
 rintro a66 a67 ⟨v4, a68, rfl, p0, hS, j8⟩
 refine ⟨v4, rfl, ?_⟩
 have j8 := ((R.sl (Y9 yT))).mono (N2 (Sub.trans m0 Z2)) j8
 have Z2 := Z2.trans p0
 exact Z0 ⟨26, _, _, rfl, rfl, Z2, hS, j8⟩
 intro a69 a70 v5 a71 p1 hS a27 a28 hcq
 have Z2 := Sub.refl v5
 have X8 := X2.trans p1
 refine V0 (z := vA ([vN] ++ [vN])) ([vN] ++ [vN]).toArray Zu2.zero rfl hS rfl ?_
 intro a72 a73 hS
 exact Z0 ⟨5, _, _, rfl, rfl, Z2, hS, ⟨_, rfl⟩⟩
 intro h4 v6 l1 v7 p2 hS a29 m1 hcq
 have Z2 := Sub.refl l1
 have X8 := X2.trans p2
 obtain ⟨n2, i9⟩ := m1 12 5 rfl rfl
 have i9 : h4 5 = vP n2 := i9
 have hS : St l1 v6 (Zi5 (cA ([vN] ++ [vN]) 29) (h4 5) ++ (v7 ++ ([(b1, cA ([vN] ++ [vN]) 29)] ++ L))) := hS
 rw [i9] at hS
 have v8 : ev h4 (.tmp 5) = vP n2 := i9
 obtain ⟨a74, n3, ⟨j9, rfl, h1⟩⟩ := gvR (m1 5 20 rfl rfl)
 have a30 := h1
 have a31 : RdF (Y6 .i64) H l1 j9 f6 := Z9.mono (N2 X2) h1
 have h1 := Z9.old h1
 refine W0 (v := vA ([j9] ++ [vN])) (vs := ([j9] ++ [vN]).toArray) (cs := ([vN] ++ [vN]).toArray) Q8 v8 n3 rfl hS rfl (P4 (U9 h1.isOne) (U9 rfl)) rfl ?_
 intro a75 hS
 have v9 : h4 20 = vA ([j9] ++ [vN]) := n3
 exact Z0 ⟨_, rfl, rfl, Z2, by show St _ _ (Zi5 (Zy8 29 (h4 20)) (h4 5) ++ _); rw [i9, v9]; exact hS, trivial⟩
 intro a76 a77 n4 a78 p3 hS a32 p4 hcq
 have Z2 := Sub.refl n4
 have X8 := X2.trans p3
 obtain ⟨n5, w0, i0⟩ := gvR (p4 11 26 rfl rfl)
 have p5 := i0
 have a33 : RdF (Y9 yT) H n4 n5 e1 := Z9.mono (N2 X2) i0
 have i0 := Z9.old i0
 refine Z5 (n5) w0 rfl ?_
 exact Z0 ⟨6, _, _, rfl, rfl, Z2, hS, p5⟩
 intro g8 w1 j0 k0 hS m2 k1 hcq
 have hS : St j0 w1 ((Zi5 (Zy8 29 (g8 20)) (g8 5) ++ ([])) ++ ([(b1, cA ([vN] ++ [vN]) 29)] ++ L)) := hS
 have Z2 := Z2.trans k0
 have c4 := c4.mono k0
 have e9 := k0.1 _ _ e9
 have w3 : ev g8 (.tmp 0) = Value.pointer (some ⟨f7, f8, none⟩) := Eq.trans (m2 0 rfl) rfl
 have w4 : ev g8 (.tmp 2) = vP b1 := Eq.trans (m2 2 rfl) rfl
 obtain ⟨a79, w6, ⟨d8, rfl, c7⟩⟩ := gvR (k1 5 20 (by decide) rfl)
 have a34 := c7
 have d6 : RdF (Y6 .i64) H j0 d8 f6 := Z9.mono (N2 X2) c7
 have c7 := Z9.old c7
 obtain ⟨g0, w7, c8⟩ := gvR (k1 14 6 (by decide) rfl)
 have a35 := c8
 have d7 : RdF (Y9 yT) H j0 g0 e1 := Z9.mono (N2 X2) c8
 have c8 := Z9.old c8
 obtain ⟨e4, h5⟩ := k1 12 5 (by decide) rfl
 have h5 : g8 5 = vP e4 := h5
 rw [h5] at hS
 have h5 : ev g8 (.tmp 5) = _ := h5
 have w8 : g8 20 = vA ([d8] ++ [vN]) := w6
 rw [w8] at hS
 refine Z0 (Z3 (Z3 (Z1 (Z4 (Value.pointer (some ⟨f7, f8, none⟩)) (by exact w3) rfl (R7 rfl rfl (Y2 P8 rfl rfl ?_))))))
 refine Y3 (i7) Zd0 rfl (hS.froz _ _ e9) (k8 1 (show 1 < 2 by decide)) rfl ?_
 have a36 := c4.bound
 refine W6 N1 rfl c4 rfl (Z4 (vI 0) rfl rfl (Z0 (Y7 ?_)))
 have n6 : W3 (Zc5 H (Y9 yT)) 47 j0 (.slice none 0 0) [] [] := W3.nil _ _ _
 obtain ⟨n7, d2, n8⟩ := bind_some q0
 refine W7 (id := 0) (fun k f w => ∃ (c0 : Int) (b3 : (List MpT)) (H1 : FH) (c5 : OL) (b4 : Value), M4 K a0 k c0 b3 = some n7 ∧ Sub H H1 ∧ St H1 w (c5 ++ ([(e4, cA ([d8] ++ [b4]) 29)] ++ ([(b1, cA ([vN] ++ [vN]) 29)] ++ L))) ∧ 0 ≤ c0 ∧ W3 (Zc5 H (Y9 yT)) 47 H1 b4 b3 c5 ∧ RdF (Y6 .i64) H H1 d8 f6 ∧ RdF (Y9 yT) H H1 g0 e1 ∧ Z9 (Y6 .i64) H1 d8 f6 ∧ Z9 (Y9 yT) H1 g0 e1 ∧ Z9 (Y9 yT) H1 i7 a0.2 ∧ ev f (.tmp 2) = vP b1 ∧ ev f (.tmp 5) = vP e4 ∧ ev f (.tmp 6) = g0 ∧ ev f (.tmp 30) = i7 ∧ ev f (.tmp 31) = vI (a0.2.length : Int) ∧ ev f (.tmp 32) = vI c0) (fun f w => ∃ (c1 : (List MpT)) (H1 : FH) (e5 : OL) (c9 : Value), n7 = .go c1 ∧ Sub H H1 ∧ St H1 w (e5 ++ ([(e4, cA ([d8] ++ [c9]) 29)] ++ ([(b1, cA ([vN] ++ [vN]) 29)] ++ L))) ∧ W3 (Zc5 H (Y9 yT)) 47 H1 c9 c1 e5 ∧ RdF (Y6 .i64) H H1 d8 f6 ∧ RdF (Y9 yT) H H1 g0 e1 ∧ Z9 (Y6 .i64) H1 d8 f6 ∧ Z9 (Y9 yT) H1 g0 e1 ∧ ev f (.tmp 2) = vP b1 ∧ ev f (.tmp 5) = vP e4 ∧ ev f (.tmp 6) = g0) rfl ?_ ?_ K ?_ ?_
 rintro f w ⟨c0, b3, H1, c5, b4, d2, _⟩
 rw [M4] at d2; cases d2
 rintro k a80 a81 ih0 hx0 ⟨c0, b3, n9, c5, b4, d2, Z2, hS, z4, d3, d6, d7, c7, c8, c4, j4, h6, j5, j1, j2, g9⟩
 rw [M4] at d2
 refine Z3 (Z1 ?_)
 refine U7 (k := .i64) (a := c0) (b := (a0.2.length : Int)) (by exact g9) (by exact j2) rfl (Z0 (Z3 ?_))
 by_cases i1 : c0 < (a0.2.length : Int)
 rw [if_pos i1] at d2
 refine Y0 (bT i1 rfl) (Y8 (Z3 (Y7 (Z3 (Z1 ?_)))))
 obtain ⟨a82, a83, a37, a84, _, p6, p7, ⟨g1, rfl, g4⟩, p8⟩ := c4.elem (i := c0) (by omega) (by omega)
 refine W2 N1 rfl (by exact j1) p6 (by exact g9) (by omega) (by omega) rfl ?_
 refine V2 ([g1]) U3 rfl (hS.froz _ _ p7) rfl p8 rfl ?_
 refine V0 (z := vA ([vN])) ([vN]).toArray K7.zero rfl hS rfl ?_
 intro o0 a85 hS
 refine W0 (v := vA ([g1])) (vs := ([g1]).toArray) (cs := ([vN]).toArray) U3 rfl rfl rfl hS rfl (U9 g4.isOne) rfl ?_
 intro a86 hS
 refine Z0 ?_
 obtain ⟨f9, p9, d2⟩ := bind_some d2
 have X2 := Z2
 refine U0 5 (Q6 [(36, MP.eq (vQ e4 1)), (37, MP.eq (b4)), (38, MP.eq (vA ([g1]))), (39, MP.rep (Zh6.fr n9 (R.agg (Y9 yT))) (f9)), (40, MP.sl (Zc5 H (Y9 yT)) ([f9]))]) [] mixed rfl rfl rfl hS (Z6 rfl ?_ (Z6 rfl ?_ (Z6 rfl ?_ (Z6 rfl ?_ (Z6 rfl ?_ U8))))) ?_
 intro a87 a88 w9 a89 q1 hS q2 a38 hcq
 have Z2 := Sub.refl w9
 have X8 := X2.trans q1
 refine Y2 P8 (evT (q2 5 rfl) h6) rfl ?_
 exact Z0 ⟨36, _, _, rfl, rfl, Z2, hS, rfl⟩
 intro a90 a91 x0 a92 q3 hS a39 q4 hcq
 have Z2 := Sub.refl x0
 have X8 := X2.trans q3
 refine Y3 (b4) Zd0 (eM (q4 0 36 rfl rfl)) (hS.get (mR (mR (mR mL)))) rfl rfl ?_
 exact Z0 ⟨37, _, _, rfl, rfl, Z2, hS, rfl⟩
 intro x1 a93 x2 a94 q5 hS q6 a40 hcq
 have Z2 := Sub.refl x2
 have X8 := X2.trans q5
 have x3 : ev x1 (.tmp 8) = vP o0 := Eq.trans (q6 8 rfl) rfl
 refine W1 U3 x3 (hS.get (mR mL)) rfl rfl ?_
 exact Z0 ⟨38, _, _, rfl, rfl, Z2, hS, rfl⟩
 intro a95 a96 x4 a97 k2 hS a41 q7 hcq
 have Z2 := Sub.refl x4
 have X8 := X2.trans k2
 have g4 := g4.mono k2
 refine X0 Tryz.call244 (S5 (eM (q7 2 38 rfl rfl)) rfl) rfl (Yw7 p9 g4 hS) ?_
 rintro a98 a99 ⟨x5, aa0, rfl, q8, hS, k3⟩
 refine ⟨x5, rfl, ?_⟩
 have k3 := ((R.agg (Y9 yT))).mono (N2 (Sub.trans k2 Z2)) k3
 have Z2 := Z2.trans q8
 exact Z0 ⟨39, _, _, rfl, rfl, Z2, hS, k3⟩
 intro aa1 aa2 o1 aa3 q9 hS a42 r0 hcq
 have Z2 := Sub.refl o1
 have X8 := X2.trans q9
 obtain ⟨aa4, x6, ⟨_, rfl, ⟨k7, rfl, g5⟩⟩⟩ := gvR (r0 3 39 rfl rfl)
 have a43 := g5
 have r1 : RdF yT H o1 k7 f9 := Z9.mono (N2 X2) g5
 have g5 := Z9.old g5
 refine D1 (τ := (Zc5 H (Y9 yT))) N1 K7 rfl [vA ([k7])] [f9] rfl rfl (L4 x6) (Zg7 ⟨_, rfl, r1⟩) (by decide) (by decide) hS rfl ?_
 intro aa5 aa6 aa7 r2 hS r3
 have Z2 := Z2.trans r2
 exact Z0 ⟨40, _, _, rfl, rfl, Z2, hS, r3⟩
 intro aa8 x7 o2 f0 hS g6 m3 hcq
 have hS : St o2 x7 ([(o0, cA ([g1]) 47)] ++ (c5 ++ ([(e4, cA ([d8] ++ [b4]) 29)] ++ ([(b1, cA ([vN] ++ [vN]) 29)] ++ L)))) := hS
 have Z2 := Z2.trans f0
 have c8 := c8.mono f0
 have d7 := d7.mono f0
 have c4 := c4.mono f0
 have c7 := c7.mono f0
 have d6 := d6.mono f0
 have d3 := d3.mono f0
 have o3 := evT (g6 5 rfl) h6
 obtain ⟨aa9, x8, r4⟩ := gvS (m3 4 40 (by decide) rfl)
 obtain ⟨r5, d2⟩ := gd d2
 have hS := hS.perm V3
 refine P5 (τ := (Zc5 H (Y9 yT))) Yi7 rfl (by exact (eM (m3 1 37 (by decide) rfl))) (by exact x8) d3 hS r4 r5 rfl ?_
 intro l2 ab0 x9 m4 hS
 have hS := hS.perm V3.symm
 refine Y2 P8 (by exact o3) rfl ?_
 have hS := hS.perm Q5
 refine Za3 (v := l2) (cs := ([d8] ++ [b4]).toArray) (cs' := ([d8] ++ [l2]).toArray) Zd0 rfl rfl hS m4.isOne rfl (Nat.le_of_ble_eq_true rfl) rfl ?_
 intro ab1 hS
 have hS := hS.perm Q5.symm
 refine Z0 (X5 (Z1 ?_))
 refine V1 (c0 + 1) (by exact (evT (g6 32 rfl) g9)) rfl (IntWalk.i64_in _ (by omega)) rfl (Z4 (vI (c0 + 1)) rfl rfl (Z0 ?_))
 have hS := St.dropA hS
 exact ih0 _ _ ⟨(c0 + 1), (b3 ++ [f9]), o2, x9, l2, d2, Z2, hS, (by omega), m4, d6, d7, c7, c8, c4, (evT (g6 2 rfl) j4), o3, (evT (g6 6 rfl) j5), (evT (g6 30 rfl) j1), (evT (g6 31 rfl) j2), rfl⟩
 rw [if_neg i1] at d2
 refine Z8 (bF i1 rfl) ?_
 refine W4 rfl ?_
 have hz := Option.some.inj d2
 subst hz
 exact hx0 _ _ ⟨b3, n9, c5, b4, rfl, Z2, hS, d3, d6, d7, c7, c8, j4, h6, j5⟩
 exact ⟨0, ([] : List MpT), j0, ([]), (vN), d2, Z2, hS, (by omega), n6, d6, d7, c7, c8, c4, w4, h5, w7, rfl, rfl, rfl⟩
 rintro ab2 ab3 ⟨c1, ab4, e5, c9, rfl, Z2, hS, j3, d6, d7, c7, c8, m7, m8, m9⟩
 dsimp only [Ex.elim] at n8
 refine Y7 ?_
 obtain ⟨m5, g2, hS, h2⟩ := W3.freezeF (τ := (Y9 yT)) (H0 := H) j3 hS Z2
 have o4 := Z9.old h2
 have h2 : RdF (Y9 yT) H m5 c9 c1 := h2
 have Z2 := Z2.trans g2
 have c8 := c8.mono g2
 have d7 := d7.mono g2
 have c7 := c7.mono g2
 have d6 := d6.mono g2
 obtain ⟨y0, b6, h7⟩ := bind_some n8
 refine W7 (id := 2) (fun k f w => ∃ (d1 : (List MpT)) (a4 : (List Int)) (a6 : (List MpT)) (H1 : FH) (c2 : Value) (a1 : Value) (a3 : Value), M3 K k d1 a4 a6 = some y0 ∧ Sub H H1 ∧ St H1 w ([(e4, cA ([a1] ++ [a3]) 29)] ++ ([(b1, cA ([vN] ++ [vN]) 29)] ++ L)) ∧ Z9 (Y9 yT) H1 c2 d1 ∧ RdF (Y9 yT) H H1 c2 d1 ∧ Z9 (Y6 .i64) H1 a1 a4 ∧ RdF (Y6 .i64) H H1 a1 a4 ∧ Z9 (Y9 yT) H1 a3 a6 ∧ RdF (Y9 yT) H H1 a3 a6 ∧ ev f (.tmp 2) = vP b1 ∧ ev f (.tmp 5) = vP e4 ∧ ev f (.tmp 6) = c2) (fun f w => False) rfl ?_ ?_ K ?_ ?_
 rintro f w ⟨d1, a4, a6, H1, c2, a1, a3, b6, _⟩
 rw [M3] at b6; cases b6
 rintro k ab5 ab6 ih1 hx1 ⟨d1, a4, a6, h8, c2, a1, a3, b6, Z2, hS, b8, b7, a5, a8, a7, a9, d5, d9, j6⟩
 rw [M3] at b6
 refine Y7 (Z3 (Z1 ?_))
 have zsub := Z2
 have y1 : Z9 (Y9 yT) h8.noM c2 d1 := b8
 have y2 : RdF (Y9 yT) H h8.noM c2 d1 := b7
 have y3 : Z9 (Y6 .i64) h8.noM a1 a4 := a5
 have y4 : RdF (Y6 .i64) H h8.noM a1 a4 := a8
 have y5 : Z9 (Y9 yT) h8.noM a3 a6 := a7
 have y6 : RdF (Y9 yT) H h8.noM a3 a6 := a9
 obtain ⟨y7, e2, hS, r6, r7⟩ := St.lendBox hS
 have Z2 := Z2.trans e2
 have b8 := b8.mono e2
 have b7 := b7.mono e2
 have a5 := a5.mono e2
 have a8 := a8.mono e2
 have a7 := a7.mono e2
 have a9 := a9.mono e2
 have hlt := Sb.refl y7
 obtain ⟨c6, r8, b6⟩ := bind_some b6
 refine X0 Tryz.call159 (S1 (by exact d9)) rfl (Yl0 r8 ⟨_, _, _, _, _, rfl, r6, ⟨_, _, rfl, ⟨_, rfl, a5⟩, ⟨_, rfl, a7⟩⟩, (Za9 ([a1] ++ [a3]) 2)⟩ hS) ?_
 rintro ab7 ab8 ⟨_, ab9, rfl, i2, hS, ⟨a17, a18, a19, rfl, rfl, rfl, rfl⟩⟩
 refine ⟨_, rfl, ?_⟩
 have Z2 := Z2.trans i2
 have hlt := hlt.trans i2.sb
 have b8 := b8.mono i2
 have b7 := b7.mono i2
 obtain ⟨h9, f1, a44, a45, hS⟩ := Yu7.out r7 e2 hlt hS
 have Z2 := Sub.viaM hM zsub f1
 have b8 := y1.mono f1
 have b7 := y2.mono f1
 have a5 := y3.mono f1
 have a8 := y4.mono f1
 have a7 := y5.mono f1
 have a9 := y6.mono f1
 refine Z4 (Value.tuple #[vI c6.1, vI c6.2.1, Value.bool c6.2.2]) rfl rfl (W9 (vI c6.1) rfl rfl rfl (W9 (vI c6.2.1) rfl rfl rfl (W9 (Value.bool c6.2.2) rfl rfl rfl (Z5 (vI c6.1) rfl rfl (Z5 (vI c6.2.1) rfl rfl (Z5 (Value.bool c6.2.2) rfl rfl (Z0 (Z3 (Z3 (Z1 (Z4 (Value.bool c6.2.2) rfl rfl (G5 (b := c6.2.2) rfl rfl (Z0 ?_)))))))))))))
 by_cases i3 : c6.2.2 = true
 rw [if_pos i3] at b6
 refine Z8 (Eq.trans rfl (congrArg (fun b => Value.bool (!b)) i3)) (Y8 (Z3 (Z1 (Z4 (vI c6.1) rfl rfl (Z4 (vI c6.2.1) rfl rfl ?_)))))
 have zsub := Z2
 have y8 : Z9 (Y9 yT) h9.noM c2 d1 := b8
 have y9 : RdF (Y9 yT) H h9.noM c2 d1 := b7
 have z0 : Z9 (Y6 .i64) h9.noM a1 a4 := a5
 have z1 : RdF (Y6 .i64) H h9.noM a1 a4 := a8
 have z2 : Z9 (Y9 yT) h9.noM a3 a6 := a7
 have z3 : RdF (Y9 yT) H h9.noM a3 a6 := a9
 obtain ⟨e6, e3, hS, k4, r9⟩ := St.lendBox hS
 have Z2 := Z2.trans e3
 have b8 := b8.mono e3
 have b7 := b7.mono e3
 have a5 := a5.mono e3
 have a8 := a8.mono e3
 have a7 := a7.mono e3
 have a9 := a9.mono e3
 have hlt := Sb.refl e6
 obtain ⟨b5, s1, b6⟩ := bind_some b6
 have hS := hS.noM
 have Z2 := Sub.nomT hM Z2
 have b8 : Z9 (Y9 yT) e6.noM c2 d1 := b8
 have b7 : RdF (Y9 yT) H e6.noM c2 d1 := b7
 have hlt : Sb e6 e6.noM := hlt
 have k4 : e6.noM e4 = some (cA ([a1] ++ [a3]) 29) := k4
 have a5 : Z9 (Y6 .i64) e6.noM a1 a4 := a5
 have a8 : RdF (Y6 .i64) H e6.noM a1 a4 := a8
 have a7 : Z9 (Y9 yT) e6.noM a3 a6 := a7
 have a9 : RdF (Y9 yT) H e6.noM a3 a6 := a9
 have k5 := hlt.1
 refine X0 Tryz.call160 (I1 (by exact d9) rfl rfl) rfl (Yf1 s1 ⟨_, _, _, _, _, rfl, k4, ⟨_, _, rfl, ⟨_, rfl, a5⟩, ⟨_, rfl, a7⟩⟩, (Za9 ([a1] ++ [a3]) 2)⟩ (fun _ => rfl) hS) ?_
 rintro ac0 ac1 ⟨_, l3, rfl, i4, hS, ⟨a20, e7, a21, rfl, ⟨_, rfl, ⟨_, _, rfl, ⟨b9, rfl, b0⟩, ⟨c3, rfl, b2⟩⟩⟩, e0, rfl⟩⟩
 refine ⟨_, rfl, ?_⟩
 have s2 := b0
 have f2 : RdF (Y6 .i64) H l3 b9 b5.1.1 := Z9.mono (N2 Z2) b0
 have b0 := Z9.old b0
 have s3 := b2
 have f3 : RdF (Y9 yT) H l3 c3 b5.1.2 := Z9.mono (N2 Z2) b2
 have b2 := Z9.old b2
 have s4 := e0
 have m6 : RdF (Y9 yT) H l3 e7 b5.2.1 := Z9.mono (N2 Z2) e0
 have e0 := Z9.old e0
 have Z2 := Z2.trans i4
 have hlt := hlt.trans i4.sb
 have b8 := b8.mono i4
 have b7 := b7.mono i4
 obtain ⟨l4, f5, k6, a46, hS⟩ := Yu7.out r9 e3 hlt hS
 have Z2 := Sub.viaM hM zsub f5
 have b8 := y8.mono f5
 have b7 := y9.mono f5
 have f2 : RdF (Y6 .i64) H l4 b9 b5.1.1 := Z9.mono (k6 H _ zsub hM k5) s2
 have b0 := Z9.old f2
 have f3 : RdF (Y9 yT) H l4 c3 b5.1.2 := Z9.mono (k6 H _ zsub hM k5) s3
 have b2 := Z9.old f3
 have m6 : RdF (Y9 yT) H l4 e7 b5.2.1 := Z9.mono (k6 H _ zsub hM k5) s4
 have e0 := Z9.old m6
 have a5 := z0.mono f5
 have a8 := z1.mono f5
 have a7 := z2.mono f5
 have a9 := z3.mono f5
 refine Z4 (Value.tuple #[vA ([b9] ++ [c3]), e7, vI b5.2.2]) rfl rfl (W9 (vA ([b9] ++ [c3])) rfl rfl rfl (W9 (e7) rfl rfl rfl (W9 (vI b5.2.2) rfl rfl rfl ?_)))
 refine V0 (z := vA ([vN] ++ [vN])) ([vN] ++ [vN]).toArray Zu2.zero rfl hS rfl ?_
 intro ac2 ac3 hS
 refine W0 (v := vA ([b9] ++ [c3])) (vs := ([b9] ++ [c3]).toArray) (cs := ([vN] ++ [vN]).toArray) Q8 rfl rfl rfl hS rfl (P4 (U9 b0.isOne) (U9 b2.isOne)) rfl ?_
 intro ac4 hS
 refine Z5 (e7) rfl rfl (Z5 (vI b5.2.2) rfl rfl (Z0 (Z3 (Z3 (Z1 (Z4 (vI b5.2.2) rfl rfl ?_))))))
 refine G4 (k := .i64) (a := b5.2.2) (b := 0) rfl rfl rfl (Z0 ?_)
 by_cases i5 : b5.2.2 = 0
 rw [if_pos i5] at b6
 refine Z8 (bN i5 rfl) (Y8 (Z3 (Z1 (Y2 R2 (by exact d9) rfl ?_))))
 refine Y3 (a1) M0 rfl (hS.get (mR mL)) rfl rfl (Y2 R2 rfl rfl ?_)
 refine Y3 (b9) M0 rfl (hS.get mL) rfl rfl (Z4 (e7) rfl rfl ?_)
 obtain ⟨j7, s5, b6⟩ := bind_some b6
 refine X0 Tryz.call116 (I1 rfl rfl rfl) rfl (Yt5 s5 a5 b0 e0 hS) ?_
 rintro ac5 ac6 ⟨ac7, ac8, rfl, g7, hS, ⟨ac9, ad0, a47, ad1, _, rfl, s6, ⟨z5, z6, z7, a22, rfl, l5, l6, l7, o5⟩, s7⟩⟩
 refine ⟨_, rfl, ?_⟩
 have Z2 := Z2.trans g7
 have b8 := b8.mono g7
 have b0 := b0.mono g7
 have f2 := f2.mono g7
 have b2 := b2.mono g7
 have f3 := f3.mono g7
 refine Z4 (c2) (by exact j6) rfl ?_
 obtain ⟨d0, s8, b6⟩ := bind_some b6
 refine X0 Tryz.call245 (S5 rfl rfl) rfl (Yh3 s8 ⟨_, _, _, _, _, rfl, s6, ⟨_, _, _, _, rfl, l5, l6, l7, o5⟩, s7⟩ b8 hS) ?_
 rintro ad2 ad3 ⟨_, o6, rfl, h3, hS, ⟨g3, a23, rfl, e8, rfl⟩⟩
 refine ⟨_, rfl, ?_⟩
 have a48 := e8
 have s9 : RdF (Y9 yT) H o6 g3 d0.1 := Z9.mono (N2 Z2) e8
 have e8 := Z9.old e8
 have Z2 := Z2.trans h3
 have b0 := b0.mono h3
 have f2 := f2.mono h3
 have b2 := b2.mono h3
 have f3 := f3.mono h3
 refine Z4 (Value.tuple #[g3, vI d0.2]) rfl rfl (W9 (g3) rfl rfl rfl (W9 (vI d0.2) rfl rfl rfl (Z5 (g3) rfl rfl (Z5 (vI d0.2) rfl rfl (Z0 (Z3 (Z3 (Z1 (Z4 (vI d0.2) rfl rfl ?_)))))))))
 refine G4 (k := .i64) (a := d0.2) (b := 0) rfl rfl rfl (Z0 ?_)
 by_cases i6 : d0.2 = 0
 rw [if_pos i6] at b6
 refine Z8 (bN i6 rfl) (Y8 (Z1 ?_))
 refine W1 Q8 rfl (hS.get mL) rfl rfl ?_
 have hS := hS.perm V3
 refine W0 (v := vA ([b9] ++ [c3])) (vs := ([b9] ++ [c3]).toArray) (cs := ([a1] ++ [a3]).toArray) Q8 (by exact d9) rfl rfl hS rfl (P4 (U9 b0.isOne) (U9 b2.isOne)) rfl ?_
 intro ad4 hS
 have hS := hS.perm V3.symm
 refine Z0 (X5 ?_)
 have hS := St.dropA hS
 exact ih1 _ _ ⟨d0.1, b5.1.1, b5.1.2, o6, g3, b9, c3, b6, Z2, hS, e8, s9, b0, f2, b2, f3, d5, d9, rfl⟩
 rw [if_neg i6] at b6
 refine Y0 (bO i6 rfl) (Z3 (Z1 ?_))
 refine R4 (vA ([vN] ++ [vN])) Yp0 rfl (Z4 (vI d0.2) rfl rfl ?_)
 have hS := hS.perm Q5
 refine W0 (v := vA ([vN] ++ [vN])) (vs := ([vN] ++ [vN]).toArray) (cs := ([vN] ++ [vN]).toArray) Q8 (by exact d5) rfl rfl hS rfl (P4 (U9 rfl) (U9 rfl)) rfl ?_
 intro ad5 hS
 have hS := hS.perm Q5.symm
 refine Z5 (vN) rfl rfl (Z5 (vI d0.2) rfl rfl (Z0 ?_))
 refine X3 (vs := [vA ([vN] ++ [vN]), vN, vI d0.2]) Tryz.func162 ⟨⟨_, (by exact d5), U1 Q8 (hS.get (mR (mR mL))) rfl⟩, rfl, rfl, trivial⟩ ?_
 have hz := Option.some.inj b6
 subst hz
 dsimp only [Ex.elim] at h7
 have hz := Option.some.inj h7
 subst hz
 exact ⟨_, _, rfl, Z2, (St.dropA (St.dropA (St.dropA hS))), ⟨_, _, _, rfl, ⟨_, rfl, ⟨_, _, rfl, ⟨_, rfl, Z9.nil⟩, ⟨_, rfl, Z9.nil⟩⟩⟩, Z9.nil, rfl⟩⟩
 rw [if_neg i5] at b6
 refine Y0 (bO i5 rfl) (Z3 (Z1 ?_))
 refine R4 (vA ([vN] ++ [vN])) Yp0 rfl (Z4 (vI b5.2.2) rfl rfl ?_)
 have hS := hS.perm Q5
 refine W0 (v := vA ([vN] ++ [vN])) (vs := ([vN] ++ [vN]).toArray) (cs := ([vN] ++ [vN]).toArray) Q8 (by exact d5) rfl rfl hS rfl (P4 (U9 rfl) (U9 rfl)) rfl ?_
 intro ad6 hS
 have hS := hS.perm Q5.symm
 refine Z5 (vN) rfl rfl (Z5 (vI b5.2.2) rfl rfl (Z0 ?_))
 refine X3 (vs := [vA ([vN] ++ [vN]), vN, vI b5.2.2]) Tryz.func162 ⟨⟨_, (by exact d5), U1 Q8 (hS.get (mR (mR mL))) rfl⟩, rfl, rfl, trivial⟩ ?_
 have hz := Option.some.inj b6
 subst hz
 dsimp only [Ex.elim] at h7
 have hz := Option.some.inj h7
 subst hz
 exact ⟨_, _, rfl, Z2, (St.dropA (St.dropA (St.dropA hS))), ⟨_, _, _, rfl, ⟨_, rfl, ⟨_, _, rfl, ⟨_, rfl, Z9.nil⟩, ⟨_, rfl, Z9.nil⟩⟩⟩, Z9.nil, rfl⟩⟩
 rw [if_neg i3] at b6
 refine Y0 (Eq.trans rfl (congrArg (fun b => Value.bool (!b)) (W5 i3))) (Z3 (Z1 ?_))
 refine W1 Q8 (by exact d9) (hS.get mL) rfl rfl (Z4 (c2) (by exact j6) rfl ?_)
 have hS := hS.perm V3
 refine W0 (v := vA ([a1] ++ [a3])) (vs := ([a1] ++ [a3]).toArray) (cs := ([vN] ++ [vN]).toArray) Q8 (by exact d5) rfl rfl hS rfl (P4 (U9 a5.isOne) (U9 a7.isOne)) rfl ?_
 intro ad7 hS
 have hS := hS.perm V3.symm
 refine Z5 (c2) rfl rfl (Z5 (vI 0) rfl rfl (Z0 ?_))
 refine X3 (vs := [vA ([a1] ++ [a3]), c2, vI 0]) Tryz.func162 ⟨⟨_, (by exact d5), U1 Q8 (hS.get (mR mL)) rfl⟩, rfl, rfl, trivial⟩ ?_
 have hz := Option.some.inj b6
 subst hz
 dsimp only [Ex.elim] at h7
 have hz := Option.some.inj h7
 subst hz
 exact ⟨_, _, rfl, Z2, (St.dropA (St.dropA hS)), ⟨_, _, _, rfl, ⟨_, rfl, ⟨_, _, rfl, ⟨_, rfl, a8⟩, ⟨_, rfl, a9⟩⟩⟩, b7, rfl⟩⟩
 exact ⟨e1, f6, c1, m5, g0, d8, c9, b6, Z2, hS, c8, d7, c7, d6, o4, h2, m7, m8, m9⟩
 intro _ _ h
 exact h.elim
end Go.Proofs.YtfodlhkoafhplaaGreat
