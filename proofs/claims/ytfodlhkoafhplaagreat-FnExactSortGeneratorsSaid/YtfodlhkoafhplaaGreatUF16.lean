/- Walks of functions: each computes its pure function, if that gives a value. -/
import Derived.Test.YtfodlhkoafhplaaGreatUTy
import Derived.Test.YtfodlhkoafhplaaGreatUF15
import Derived.Test.YtfodlhkoafhplaaGreatUF8
import Derived.Test.YtfodlhkoafhplaaGreatUF11
import Derived.Test.YtfodlhkoafhplaaGreatUF2
import Derived.Test.YtfodlhkoafhplaaGreatUF13
import Derived.Test.YtfodlhkoafhplaaGreatUF9
import Derived.Test.YtfodlhkoafhplaaGreatUF12
import Derived.Test.YtfodlhkoafhplaaGreatUF7
import Derived.Test.YtfodlhkoafhplaaGreatUF14
namespace Go.Proofs.YtfodlhkoafhplaaGreat
open Go
set_option linter.unusedSimpArgs false
set_option linter.unusedVariables false
set_option maxRecDepth 100000
set_option maxHeartbeats 8000000
def L7 (K : Nat) (a0 : ((List Int) × (List MpT))) (a1 : (List Int)) : Nat → Int → (List MpT) → (List Int) → (List MpT) → Option (Ex (((List Int) × (List MpT)) × Int) ((List MpT) × (List Int) × (List MpT)))
 | 0, _, _, _, _ => none
 | k + 1, a3, a5, a6, b2 => (if a3 < (a1.length : Int) then (if 0 ≤ (rd a1 a3) then (if (rd a1 a3) < (a0.1.length : Int) then (if a6.length + ([(rd a0.1 (rd a1 a3))]).length ≤ 1099511627776 then (if (rd a1 a3) < (a0.2.length : Int) then (if a5.length + ([(rd a0.2 (rd a1 a3))]).length ≤ 1099511627776 then ((Zd5 K a3).bind fun f5 => (if (rd a1 a3) < (b2.length : Int) then L7 K a0 a1 k (a3 + 1) (a5 ++ [(rd a0.2 (rd a1 a3))]) (a6 ++ [(rd a0.1 (rd a1 a3))]) (b2.set ((rd a1 a3)).toNat f5) else none)) else none) else none) else none) else none) else none) else some (.go (a5, a6, b2)))
def Zb1 (K : Nat) (a0 : ((List Int) × (List MpT))) (a1 : (List Int)) : Option (((List Int) × (List MpT)) × Int) := (if (a1.length : Int) ≤ 1099511627776 then ((L7 K a0 a1 K 0 ([] : List MpT) ([] : List Int) (List.replicate ((a1.length : Int)).toNat (([] : List (A8 × Int)) : MpT))).bind (Ex.elim (fun r => some r) (fun s => (fun (c0 : (List MpT)) (b8 : (List Int)) (c4 : (List MpT)) => ((Ze2 K (b8, c0) b8 c4 ([] : (List Int))).bind fun e4 => some ((e4.1.1, e4.1.2), e4.2))) s.1 s.2.1 s.2.2))) else none)
theorem Yd3 {K : Nat} {a0 : ((List Int) × (List MpT))} {a1 : (List Int)} {r : (((List Int) × (List MpT)) × Int)} (q0 : Zb1 K a0 a1 = some r) {H : FH} {w : World} {L : OL} {s0 : Value} {s1 : Value} {s2 : Value} (c6 : Y2 (Y8 .i64) H s0 a0.1) (c7 : Y2 (W0 yT) H s1 a0.2) (b9 : Y2 (Y8 .i64) H s2 a1) (hS : St H w L) :
 Calls Tryz.prog 153 #[vA ([s0] ++ [s1]), s2] w (S3 (fun v G => (R.t2 (R.agg (Zo8 (W0 (Y8 .i64)) (W0 (W0 yT)))) (R.int .i64)).p G v r) H L) := by
 have Z2 := Sub.refl H
 refine X2 Tryz.func153 rfl Tryz.ntmps153 rfl ?_
 unfold Zb1 at q0
 refine Z3 (Z1 ?_)
 refine S5 (v := vA ([s0] ++ [s1])) ([s0] ++ [s1]).toArray rfl rfl hS rfl ?_
 intro b1 w2 hS
 refine V0 (z := vA ([vN] ++ [vN])) ([vN] ++ [vN]).toArray Zq3.zero rfl hS rfl ?_
 intro b4 w5 hS
 refine Z5 (vI 0) rfl rfl (Z0 (Z3 ?_))
 have a38 := b9.bound
 obtain ⟨a39, q0⟩ := gd q0
 refine Xp0 6 (fun t C => Q5 [(9, MP.eq (vA ([vN] ++ [vN]))), (10, MP.eq (s2)), (11, MP.eq (vI (a1.length : Int))), (12, MP.own (W0 yT) 47 ((List.replicate ((a1.length : Int)).toNat (([] : List (A8 × Int)) : MpT))) C), (6, MP.box (cA ([vN] ++ [vN]) 29))] t) [Co.st 4 6 5 0 9 (Zn4 29)] mixed rfl (Zr5 (ns := [(4, 6, 5, 0, 9)]) rfl rfl) rfl hS (Yj6 rfl ?_ (Yj6 rfl ?_ (Yj6 rfl ?_ (Yj6 rfl ?_ (Yj6 rfl ?_ (Wf3 rfl ?_ U5)))))) ?_
 intro G1 f7 w8 H9 X10 a40 hS a41 a42 hcq
 have Z2 := Sub.refl H9
 refine Q6 (vA ([vN] ++ [vN])) Yp6 rfl ?_
 exact Z0 ⟨9, _, _, [], rfl, rfl, Z2, hS, rfl⟩
 intro G1 v1 w16 v2 X18 a43 hS r7 a44 hcq
 have Z2 := Sub.refl v2
 have v3 : ev v1 (.tmp 1) = s2 := Eq.trans (r7 1 rfl) rfl
 refine Z4 (s2) v3 rfl ?_
 exact Z0 ⟨10, _, _, [], rfl, rfl, Z2, hS, rfl⟩
 intro G1 f24 w25 v4 X27 r8 hS a45 r9 hcq
 have Z2 := Sub.refl v4
 have b9 := b9.mono r8
 refine W6 S9 (eM (r9 1 10 rfl rfl)) b9 rfl ?_
 exact Z0 ⟨11, _, _, [], rfl, rfl, Z2, hS, rfl⟩
 intro G1 v5 w45 v6 X47 a46 hS a47 s3 hcq
 have Z2 := Sub.refl v6
 have r0 : ev v5 (.tmp 11) = vI (a1.length : Int) := s3 2 11 rfl rfl
 refine Yk1 (τ := (W0 yT)) (([] : List (A8 × Int)) : MpT) Xb1 rfl r0 r0 (fun _ => ⟨_, rfl, Y2.nil⟩) (by omega) (by omega) hS rfl ?_
 intro u53 w54 v7 s4 hS
 exact Z0 ⟨12, _, _, v7, rfl, rfl, Z2, hS, s4⟩
 intro G1 f58 w59 v8 X61 a48 hS a49 a50 hcq
 have Z2 := Sub.refl v8
 refine V0 (z := vA ([vN] ++ [vN])) ([vN] ++ [vN]).toArray Zq3.zero rfl hS rfl ?_
 intro b66 w67 hS
 exact Z0 ⟨6, _, _, [], rfl, rfl, Z2, hS, ⟨_, rfl⟩⟩
 intro G1 f6 v9 r1 w0 a51 hS a52 j7 hcq
 have Z2 := Sub.refl r1
 obtain ⟨r2, h9⟩ := j7 4 6 rfl rfl
 have h9 : f6 6 = vP r2 := h9
 have hS : St r1 v9 (Zb7 (cA ([vN] ++ [vN]) 29) (f6 6) ++ (w0 ++ ([(b4, cA ([vN] ++ [vN]) 29)] ++ ([(b1, cA ([s0] ++ [s1]) 29)] ++ L)))) := hS
 rw [h9] at hS
 have w1 : ev f6 (.tmp 6) = vP r2 := h9
 have r3 : ev f6 (.tmp 9) = vA ([vN] ++ [vN]) := j7 0 9 rfl rfl
 refine X8 (v := vA ([vN] ++ [vN])) (vs := ([vN] ++ [vN]).toArray) (cs := ([vN] ++ [vN]).toArray) Q9 w1 r3 rfl hS rfl (L8 (S2 rfl) (S2 rfl)) rfl ?_
 intro w82 hS
 have w3 : f6 9 = vA ([vN] ++ [vN]) := r3
 exact Z0 ⟨_, rfl, rfl, Z2, by show St _ _ (Zb7 (Zn4 29 (f6 9)) (f6 6) ++ _); rw [h9, w3]; exact hS, trivial⟩
 intro j8 e6 r4 g0 g7 hS i0 i1 hcq
 have hS : St g0 r4 ((j8 12 ++ (Zb7 (Zn4 29 (e6 9)) (e6 6) ++ ([]))) ++ ([(b4, cA ([vN] ++ [vN]) 29)] ++ ([(b1, cA ([s0] ++ [s1]) 29)] ++ L))) := hS
 have Z2 := Z2.trans g7
 have b9 := b9.mono g7
 have c6 := c6.mono g7
 have c7 := c7.mono g7
 have w4 : ev e6 (.tmp 1) = s2 := Eq.trans (i0 1 rfl) rfl
 have w6 : ev e6 (.tmp 2) = vP b1 := Eq.trans (i0 2 rfl) rfl
 have w7 : ev e6 (.tmp 4) = vP b4 := Eq.trans (i0 4 rfl) rfl
 obtain ⟨j9, r5⟩ : ∃ v, ev e6 (.tmp 12) = v := ⟨_, rfl⟩
 have k0 : V1 (W0 yT) 47 g0 j9 ((List.replicate ((a1.length : Int)).toNat (([] : List (A8 × Int)) : MpT))) (j8 12) := r5 ▸ (i1 3 12 (by decide) rfl)
 obtain ⟨r6, s5⟩ : ∃ C, j8 12 = C := ⟨_, rfl⟩
 rw [s5] at hS k0
 obtain ⟨d7, g1⟩ := i1 4 6 (by decide) rfl
 have g1 : e6 6 = vP d7 := g1
 rw [g1] at hS
 have g1 : ev e6 (.tmp 6) = _ := g1
 have s6 : e6 9 = vA ([vN] ++ [vN]) := (eM (i1 0 9 (by decide) rfl))
 rw [s6] at hS
 have hS : St g0 r4 (r6 ++ ([(d7, cA ([vN] ++ [vN]) 29)] ++ ([(b4, cA ([vN] ++ [vN]) 29)] ++ ([(b1, cA ([s0] ++ [s1]) 29)] ++ L)))) := by have h := hS; simp only [List.append_assoc, List.nil_append, List.append_nil] at h; exact h
 refine Z5 (j9) (by exact r5) rfl (Z0 (Z3 (Z3 (Z1 (Z5 (vI 0) rfl rfl (Z0 (Y7 ?_)))))))
 have k1 : V1 (Y8 .i64) 2 g0 (.slice none 0 0) [] [] := V1.nil _ _ _
 have k2 : V1 (W0 yT) 47 g0 (.slice none 0 0) [] [] := V1.nil _ _ _
 obtain ⟨k3, a8, g8⟩ := bind_some q0
 refine W7 (id := 0) (fun k f w => ∃ (a3 : Int) (a5 : (List MpT)) (a6 : (List Int)) (b2 : (List MpT)) (H1 : FH) (b3 : OL) (a4 : Value) (b7 : OL) (a7 : Value) (b6 : OL) (b0 : Value), L7 K a0 a1 k a3 a5 a6 b2 = some k3 ∧ Sub H H1 ∧ St H1 w (b3 ++ (b7 ++ (b6 ++ ([(d7, cA ([a7] ++ [a4]) 29)] ++ ([(b4, cA ([vN] ++ [vN]) 29)] ++ ([(b1, cA ([s0] ++ [s1]) 29)] ++ L)))))) ∧ 0 ≤ a3 ∧ V1 (W0 yT) 47 H1 a4 a5 b3 ∧ V1 (Y8 .i64) 2 H1 a7 a6 b7 ∧ V1 (W0 yT) 47 H1 b0 b2 b6 ∧ Y2 (Y8 .i64) H1 s0 a0.1 ∧ Y2 (W0 yT) H1 s1 a0.2 ∧ Y2 (Y8 .i64) H1 s2 a1 ∧ ev f (.tmp 1) = s2 ∧ ev f (.tmp 2) = vP b1 ∧ ev f (.tmp 4) = vP b4 ∧ ev f (.tmp 6) = vP d7 ∧ ev f (.tmp 7) = b0 ∧ ev f (.tmp 8) = vI a3) (fun f w => ∃ (c0 : (List MpT)) (b8 : (List Int)) (c4 : (List MpT)) (H1 : FH) (c9 : OL) (d0 : Value) (d1 : OL) (c3 : Value) (d8 : OL) (c8 : Value), k3 = .go (c0, b8, c4) ∧ Sub H H1 ∧ St H1 w (c9 ++ (d1 ++ (d8 ++ ([(d7, cA ([c3] ++ [d0]) 29)] ++ ([(b4, cA ([vN] ++ [vN]) 29)] ++ ([(b1, cA ([s0] ++ [s1]) 29)] ++ L)))))) ∧ V1 (W0 yT) 47 H1 d0 c0 c9 ∧ V1 (Y8 .i64) 2 H1 c3 b8 d1 ∧ V1 (W0 yT) 47 H1 c8 c4 d8 ∧ Y2 (Y8 .i64) H1 s0 a0.1 ∧ Y2 (W0 yT) H1 s1 a0.2 ∧ ev f (.tmp 4) = vP b4 ∧ ev f (.tmp 6) = vP d7 ∧ ev f (.tmp 7) = c8) rfl ?_ ?_ K ?_ ?_
 rintro f w ⟨a3, a5, a6, b2, H1, b3, a4, b7, a7, b6, b0, a8, _⟩
 rw [L7] at a8; cases a8
 rintro k a53 a54 w9 x0 ⟨a3, a5, a6, b2, s7, b3, a4, b7, a7, b6, b0, a8, Z2, hS, x1, b5, c1, a9, c6, c7, b9, e7, g2, g3, e8, g4, e9⟩
 rw [L7] at a8
 refine Z3 (Z3 (Z1 (Z4 (vI a3) (by exact e9) rfl (Z4 (s2) (by exact e7) rfl ?_))))
 have x4 := b9.bound
 refine W6 S9 rfl b9 rfl ?_
 refine U2 (k := .i64) (a := a3) (b := (a1.length : Int)) rfl rfl rfl (Z0 ?_)
 by_cases f3 : a3 < (a1.length : Int)
 rw [if_pos f3] at a8
 refine Y0 (bT f3 rfl) (Y6 (Z3 (Y7 (Z3 ?_))))
 obtain ⟨s8, s9, x5, a55, _, l3, g9, rfl, l4⟩ := b9.elem (i := a3) (by omega) (by omega)
 obtain ⟨x6, a8⟩ := gd a8
 obtain ⟨x7, a8⟩ := gd a8
 obtain ⟨t0, t1, x8, a56, _, l5, h0, rfl, l6⟩ := c6.elem (i := (rd a1 a3)) (by omega) (by omega)
 refine U0 11 (Q5 [(19, MP.eq (vP d7)), (20, MP.eq (a7)), (21, MP.eq (vP b1)), (22, MP.eq (s0)), (23, MP.eq (s2)), (24, MP.eq (vI a3)), (25, MP.eq (Value.pointer (some ⟨s8, s9, none⟩))), (26, MP.eq (vI (rd a1 a3))), (27, MP.eq (Value.pointer (some ⟨t0, t1, none⟩))), (28, MP.eq (vI (rd a0.1 (rd a1 a3)))), (29, MP.sl (Y8 .i64) ([(rd a0.1 (rd a1 a3))]))]) [] mixed rfl rfl rfl hS (Z6 rfl ?_ (Z6 rfl ?_ (Z6 rfl ?_ (Z6 rfl ?_ (Z6 rfl ?_ (Z6 rfl ?_ (Z6 rfl ?_ (Z6 rfl ?_ (Z6 rfl ?_ (Z6 rfl ?_ (Z6 rfl ?_ U5))))))))))) ?_
 intro a57 a58 a59 a60 x9 hS l7 y0 hcq
 refine Y3 R5 (evT (l7 6 rfl) e8) rfl ?_
 exact qn (.refl _) rfl hS rfl
 intro a61 a62 a63 a64 y1 hS y2 l9 hcq
 refine Y4 (a7) J7 (eM (l9 0 19 rfl rfl)) (hS.get (mR (mR (mR (mR mL))))) rfl rfl ?_
 exact qn (.refl _) rfl hS rfl
 intro a65 a66 a67 a68 y3 hS m0 y4 hcq
 refine Y3 R5 (evT (m0 2 rfl) g2) rfl ?_
 exact qn (.refl _) rfl hS rfl
 intro a69 a70 a71 a72 y5 hS y6 m1 hcq
 refine Y4 (s0) J7 (eM (m1 2 21 rfl rfl)) (hS.get (mR (mR (mR (mR (mR (mR mL))))))) rfl rfl ?_
 exact qn (.refl _) rfl hS rfl
 intro a73 a74 a75 a76 y7 hS m2 y8 hcq
 refine Z4 (s2) (evT (m2 1 rfl) e7) rfl ?_
 exact qn (.refl _) rfl hS rfl
 intro a77 a78 a79 a80 y9 hS m3 z0 hcq
 refine Z4 (vI a3) (evT (m3 8 rfl) e9) rfl ?_
 exact qn (.refl _) rfl hS rfl
 intro a81 a82 a83 a84 z1 hS z2 i5 hcq
 refine W3 S9 rfl (eM (i5 4 23 rfl rfl)) l3 (eM (i5 5 24 rfl rfl)) (by omega) (by omega) rfl ?_
 exact qn (.refl _) rfl hS rfl
 intro a85 a86 a87 a88 m4 hS z3 m5 hcq
 have g9 := m4.1 _ _ g9
 refine Y4 (vI (rd a1 a3)) ty2 (eM (m5 6 25 rfl rfl)) (hS.froz _ _ g9) (l4 0 (show 0 < 1 by decide)) rfl ?_
 exact qn (.refl _) rfl hS rfl
 intro a89 a90 a91 a92 z4 hS z5 i6 hcq
 refine W3 S9 rfl (eM (i6 3 22 rfl rfl)) l5 (eM (i6 7 26 rfl rfl)) (by omega) (by omega) rfl ?_
 exact qn (.refl _) rfl hS rfl
 intro a93 a94 a95 a96 m6 hS z6 m7 hcq
 have h0 := m6.1 _ _ h0
 refine Y4 (vI (rd a0.1 (rd a1 a3))) ty2 (eM (m7 8 27 rfl rfl)) (hS.froz _ _ h0) (l6 0 (show 0 < 1 by decide)) rfl ?_
 exact qn (.refl _) rfl hS rfl
 intro a97 a98 a99 aa0 z7 hS z8 m8 hcq
 refine Zk6 (τ := (Y8 .i64)) S9 ze2 rfl [vI (rd a0.1 (rd a1 a3))] [(rd a0.1 (rd a1 a3))] rfl rfl (Zc3 (eM (m8 9 28 rfl rfl))) (Zq5 rfl) (by decide) (by decide) hS rfl ?_
 intro aa1 aa2 aa3 m9 hS n0
 exact qn m9 rfl hS n0
 intro aa4 t4 t5 d2 hS d9 i7 hcq
 have hS : St t5 t4 (b3 ++ (b7 ++ (b6 ++ ([(d7, cA ([a7] ++ [a4]) 29)] ++ ([(b4, cA ([vN] ++ [vN]) 29)] ++ ([(b1, cA ([s0] ++ [s1]) 29)] ++ L)))))) := hS
 have Z2 := Z2.trans d2
 have b9 := b9.mono d2
 have c6 := c6.mono d2
 have c7 := c7.mono d2
 have a9 := a9.mono d2
 have c1 := c1.mono d2
 have b5 := b5.mono d2
 have k4 := evT (d9 1 rfl) e7
 have k5 := evT (d9 2 rfl) g2
 have i2 := evT (d9 6 rfl) e8
 have k6 := evT (d9 8 rfl) e9
 obtain ⟨aa5, t6, n1⟩ := gvS (i7 10 29 (by decide) rfl)
 obtain ⟨n2, a8⟩ := gd a8
 have hS := hS.perm U1
 refine Za8 (τ := (Y8 .i64)) Xa3 rfl (by exact (eM (i7 1 20 (by decide) rfl))) (by exact t6) c1 hS n1 n2 rfl ?_
 intro e5 aa6 i3 e0 hS
 have hS := hS.perm U1.symm
 refine Y3 R5 (by exact i2) rfl ?_
 have hS := hS.perm Zx4
 refine Ze4 (v := e5) (cs := ([a7] ++ [a4]).toArray) (cs' := ([e5] ++ [a4]).toArray) J7 rfl rfl hS e0.isOne rfl (Nat.le_of_ble_eq_true rfl) rfl ?_
 intro aa7 hS
 have hS := hS.perm Zx4.symm
 refine Z0 (Z3 ?_)
 obtain ⟨t7, t8, z9, aa8, _, n3, h1, rfl, n4⟩ := b9.elem (i := a3) (by omega) (by omega)
 obtain ⟨a00, a8⟩ := gd a8
 obtain ⟨t9, u0, a01, aa9, _, n5, h2, ⟨f8, rfl, f0⟩, n6⟩ := c7.elem (i := (rd a1 a3)) (by omega) (by omega)
 refine U0 11 (Q5 [(32, MP.eq (vQ d7 1)), (33, MP.eq (a4)), (34, MP.eq (vQ b1 1)), (35, MP.eq (s1)), (36, MP.eq (s2)), (37, MP.eq (vI a3)), (38, MP.eq (Value.pointer (some ⟨t7, t8, none⟩))), (39, MP.eq (vI (rd a1 a3))), (40, MP.eq (Value.pointer (some ⟨t9, u0, none⟩))), (41, MP.eq (vA ([f8]))), (42, MP.sl (W0 yT) ([(rd a0.2 (rd a1 a3))]))]) [] mixed rfl rfl rfl hS (Z6 rfl ?_ (Z6 rfl ?_ (Z6 rfl ?_ (Z6 rfl ?_ (Z6 rfl ?_ (Z6 rfl ?_ (Z6 rfl ?_ (Z6 rfl ?_ (Z6 rfl ?_ (Z6 rfl ?_ (Z6 rfl ?_ U5))))))))))) ?_
 intro ab0 ab1 ab2 ab3 a02 hS n7 a03 hcq
 refine Y3 M7 (evT (n7 6 rfl) i2) rfl ?_
 exact qn (.refl _) rfl hS rfl
 intro ab4 ab5 ab6 ab7 a04 hS a05 n8 hcq
 refine Y4 (a4) Ze3 (eM (n8 0 32 rfl rfl)) (hS.get (mR (mR (mR (mR mL))))) rfl rfl ?_
 exact qn (.refl _) rfl hS rfl
 intro ab8 ab9 ac0 ac1 a06 hS n9 a07 hcq
 refine Y3 M7 (evT (n9 2 rfl) k5) rfl ?_
 exact qn (.refl _) rfl hS rfl
 intro ac2 ac3 ac4 ac5 a08 hS a09 o0 hcq
 refine Y4 (s1) Ze3 (eM (o0 2 34 rfl rfl)) (hS.get (mR (mR (mR (mR (mR (mR mL))))))) rfl rfl ?_
 exact qn (.refl _) rfl hS rfl
 intro ac6 ac7 ac8 ac9 a10 hS o1 a11 hcq
 refine Z4 (s2) (evT (o1 1 rfl) k4) rfl ?_
 exact qn (.refl _) rfl hS rfl
 intro ad0 ad1 ad2 ad3 a12 hS o2 a13 hcq
 refine Z4 (vI a3) (evT (o2 8 rfl) k6) rfl ?_
 exact qn (.refl _) rfl hS rfl
 intro ad4 ad5 ad6 ad7 a14 hS a15 i8 hcq
 refine W3 S9 rfl (eM (i8 4 36 rfl rfl)) n3 (eM (i8 5 37 rfl rfl)) (by omega) (by omega) rfl ?_
 exact qn (.refl _) rfl hS rfl
 intro ad8 ad9 ae0 ae1 o3 hS a16 o4 hcq
 have h1 := o3.1 _ _ h1
 refine Y4 (vI (rd a1 a3)) ty2 (eM (o4 6 38 rfl rfl)) (hS.froz _ _ h1) (n4 0 (show 0 < 1 by decide)) rfl ?_
 exact qn (.refl _) rfl hS rfl
 intro ae2 ae3 ae4 ae5 a17 hS a18 i9 hcq
 refine W3 D7 rfl (eM (i9 3 35 rfl rfl)) n5 (eM (i9 7 39 rfl rfl)) (by omega) (by omega) rfl ?_
 exact qn (.refl _) rfl hS rfl
 intro ae6 ae7 ae8 ae9 o5 hS a19 o6 hcq
 have h2 := o5.1 _ _ h2
 refine V4 ([f8]) T3 (eM (o6 8 40 rfl rfl)) (hS.froz _ _ h2) rfl n6 rfl ?_
 exact qn (.refl _) rfl hS rfl
 intro af0 af1 af2 af3 o7 hS a20 o8 hcq
 have f0 := f0.mono o7
 refine Zk6 (τ := (W0 yT)) D7 Ze9 rfl [vA ([f8])] [(rd a0.2 (rd a1 a3))] rfl rfl (Zc3 (eM (o8 9 41 rfl rfl))) (Zq5 ⟨_, rfl, f0⟩) (by decide) (by decide) hS rfl ?_
 intro af4 af5 af6 o9 hS p0
 exact qn o9 rfl hS p0
 intro af7 u1 u2 d3 hS e1 j0 hcq
 have hS : St u2 u1 (b3 ++ (i3 ++ (b6 ++ ([(d7, cA ([e5] ++ [a4]) 29)] ++ ([(b4, cA ([vN] ++ [vN]) 29)] ++ ([(b1, cA ([s0] ++ [s1]) 29)] ++ L)))))) := hS
 have Z2 := Z2.trans d3
 have b9 := b9.mono d3
 have c6 := c6.mono d3
 have c7 := c7.mono d3
 have a9 := a9.mono d3
 have e0 := e0.mono d3
 have b5 := b5.mono d3
 have k7 := evT (e1 1 rfl) k4
 have k8 := evT (e1 6 rfl) i2
 have k9 := evT (e1 7 rfl) (evT (d9 7 rfl) g4)
 have i4 := evT (e1 8 rfl) k6
 obtain ⟨af8, u3, p1⟩ := gvS (j0 10 42 (by decide) rfl)
 obtain ⟨p2, a8⟩ := gd a8
 refine Za8 (τ := (W0 yT)) Xb1 rfl (by exact (eM (j0 1 33 (by decide) rfl))) (by exact u3) b5 hS p1 p2 rfl ?_
 intro h3 af9 l0 f4 hS
 refine Y3 M7 (by exact k8) rfl ?_
 have hS := hS.perm Zx4
 refine Ze4 (v := h3) (cs := ([e5] ++ [a4]).toArray) (cs' := ([e5] ++ [h3]).toArray) Ze3 rfl rfl hS f4.isOne rfl (Nat.le_of_ble_eq_true rfl) rfl ?_
 intro ag0 hS
 have hS := hS.perm Zx4.symm
 refine Z0 ?_
 obtain ⟨u4, u5, a21, ag1, _, p3, h4, rfl, p4⟩ := b9.elem (i := a3) (by omega) (by omega)
 obtain ⟨f5, p5, a8⟩ := bind_some a8
 obtain ⟨a22, a8⟩ := gd a8
 obtain ⟨u6, ag2, j1⟩ := a9.some (i := (rd a1 a3)) (by omega) (by omega)
 refine U0 8 (Q5 [(45, MP.eq (b0)), (46, MP.eq (s2)), (47, MP.eq (vI a3)), (48, MP.eq (Value.pointer (some ⟨u4, u5, none⟩))), (49, MP.eq (vI (rd a1 a3))), (50, MP.eq (vI a3)), (51, MP.rep (R.agg (W0 yT)) (f5)), (52, MP.eq (Value.pointer (some ⟨u6, ((rd a1 a3)).toNat * 1, none⟩)))]) [] mixed rfl rfl rfl hS (Z6 rfl ?_ (Z6 rfl ?_ (Z6 rfl ?_ (Z6 rfl ?_ (Z6 rfl ?_ (Z6 rfl ?_ (Z6 rfl ?_ (Z6 rfl ?_ U5)))))))) ?_
 intro ag3 ag4 ag5 ag6 a23 hS p6 a24 hcq
 refine Z4 (b0) (evT (p6 7 rfl) k9) rfl ?_
 exact qn (.refl _) rfl hS rfl
 intro ag7 ag8 ag9 ah0 a25 hS p7 a26 hcq
 refine Z4 (s2) (evT (p7 1 rfl) k7) rfl ?_
 exact qn (.refl _) rfl hS rfl
 intro ah1 ah2 ah3 ah4 a27 hS p8 a28 hcq
 refine Z4 (vI a3) (evT (p8 8 rfl) i4) rfl ?_
 exact qn (.refl _) rfl hS rfl
 intro ah5 ah6 ah7 ah8 a29 hS a30 j2 hcq
 refine W3 S9 rfl (eM (j2 1 46 rfl rfl)) p3 (eM (j2 2 47 rfl rfl)) (by omega) (by omega) rfl ?_
 exact qn (.refl _) rfl hS rfl
 intro ah9 ai0 ai1 ai2 p9 hS a31 q1 hcq
 have h4 := p9.1 _ _ h4
 refine Y4 (vI (rd a1 a3)) ty2 (eM (q1 3 48 rfl rfl)) (hS.froz _ _ h4) (p4 0 (show 0 < 1 by decide)) rfl ?_
 exact qn (.refl _) rfl hS rfl
 intro ai3 ai4 ai5 ai6 a32 hS q2 a33 hcq
 refine Z4 (vI a3) (evT (q2 8 rfl) i4) rfl ?_
 exact qn (.refl _) rfl hS rfl
 intro ai7 ai8 ai9 aj0 a34 hS a35 q3 hcq
 refine X0 Tryz.call169 (M0 (eM (q3 5 50 rfl rfl))) rfl (Yb7 p5  hS) ?_
 rintro aj1 aj2 ⟨u7, aj3, rfl, q4, hS, q5⟩
 refine ⟨u7, rfl, ?_⟩
 exact qn q4 rfl hS q5
 intro aj4 aj5 aj6 aj7 a36 hS a37 j3 hcq
 refine Zt4 D7 (Eq.trans (eM (j3 0 45 rfl rfl)) j1) (eM (j3 4 49 rfl rfl)) (by omega) (by omega) rfl ?_
 exact qn (.refl _) rfl hS rfl
 intro aj8 u8 l1 d4 hS e2 j4 hcq
 have hS : St l1 u8 (l0 ++ (i3 ++ (b6 ++ ([(d7, cA ([e5] ++ [h3]) 29)] ++ ([(b4, cA ([vN] ++ [vN]) 29)] ++ ([(b1, cA ([s0] ++ [s1]) 29)] ++ L)))))) := hS
 have Z2 := Z2.trans d4
 have b9 := b9.mono d4
 have c6 := c6.mono d4
 have c7 := c7.mono d4
 have a9 := a9.mono d4
 have e0 := e0.mono d4
 have f4 := f4.mono d4
 obtain ⟨aj9, u9, ⟨_, rfl, ⟨l2, rfl, j5⟩⟩⟩ := gvR (j4 6 51 (by decide) rfl)
 have hS := hS.perm C2
 refine Zs7 (τ := (W0 yT)) (v := b0) (u := vA ([l2])) f5 (i := (rd a1 a3)) rfl T3 j1 a9 hS (by exact (eM (j4 7 52 (by decide) rfl))) (by exact u9) (by omega) (by omega) ⟨_, rfl, j5⟩ ?_
 intro ak0 v0 q6 hS
 have hS := hS.perm C2.symm
 refine Z0 (X3 (Z1 (Z4 (vI a3) (by exact (evT (e2 8 rfl) i4)) rfl ?_)))
 refine W8 (a3 + 1) rfl rfl (IntWalk.i64_in _ (by omega)) rfl (Z5 (vI (a3 + 1)) rfl rfl (Z0 ?_))
 exact w9 _ _ ⟨(a3 + 1), (a5 ++ [(rd a0.2 (rd a1 a3))]), (a6 ++ [(rd a0.1 (rd a1 a3))]), (b2.set ((rd a1 a3)).toNat f5), l1, l0, h3, i3, e5, v0, b0, a8, Z2, hS, (by omega), f4, e0, q6, c6, c7, b9, (evT (e2 1 rfl) k7), (evT (e2 2 rfl) (evT (e1 2 rfl) k5)), (evT (e2 4 rfl) (evT (e1 4 rfl) (evT (d9 4 rfl) g3))), (evT (e2 6 rfl) k8), (evT (e2 7 rfl) k9), rfl⟩
 rw [if_neg f3] at a8
 refine Z9 (bF f3 rfl) ?_
 refine W4 rfl ?_
 have hz := Option.some.inj a8
 subst hz
 exact x0 _ _ ⟨a5, a6, b2, s7, b3, a4, b7, a7, b6, b0, rfl, Z2, hS, b5, c1, a9, c6, c7, g3, e8, g4⟩
 exact ⟨0, ([] : List MpT), ([] : List Int), (List.replicate ((a1.length : Int)).toNat (([] : List (A8 × Int)) : MpT)), g0, ([]), (vN), ([]), (vN), r6, j9, a8, Z2, hS, (by omega), k2, k1, k0, c6, c7, b9, w4, w6, w7, g1, rfl, rfl⟩
 rintro ak1 ak2 ⟨c0, b8, c4, ak3, c9, d0, d1, c3, d8, c8, rfl, Z2, hS, c5, f9, c2, c6, c7, g5, g6, j6⟩
 dsimp only [Ex.elim] at g8
 refine Z3 (Z1 ?_)
 refine W1 Q9 (by exact g6) (hS.get (mR (mR (mR mL)))) rfl rfl (Y3 R5 (by exact g6) rfl ?_)
 refine Y4 (c3) J7 rfl (hS.get (mR (mR (mR mL)))) rfl rfl (Z4 (c8) (by exact j6) rfl ?_)
 have hS := hS.perm U1
 obtain ⟨ak4, h5, hS, e3⟩ := f9.freeze hS
 have Z2 := Z2.trans h5
 have c2 := c2.mono h5
 have c5 := c5.mono h5
 obtain ⟨ak5, h6, hS, h7⟩ := c5.freeze hS
 have Z2 := Z2.trans h6
 have e3 := e3.mono h6
 have c2 := c2.mono h6
 obtain ⟨ak6, h8, hS, q7⟩ := c2.freeze hS
 have Z2 := Z2.trans h8
 have e3 := e3.mono h8
 have h7 := h7.mono h8
 obtain ⟨e4, q8, g8⟩ := bind_some g8
 refine X0 Tryz.call82 (Xk5 rfl rfl rfl rfl) rfl (Yh5 q8 e3 h7 e3 q7 Y2.nil hS) ?_
 rintro ak7 ak8 ⟨_, ak9, rfl, q9, hS, ⟨x2, x3, rfl, ⟨_, rfl, ⟨_, _, rfl, ⟨d5, rfl, f1⟩, ⟨d6, rfl, f2⟩⟩⟩, rfl⟩⟩
 refine ⟨_, rfl, ?_⟩
 have Z2 := Z2.trans q9
 refine V5 (vA ([d5] ++ [d6])) rfl rfl rfl (V5 (vI e4.2) rfl rfl rfl ?_)
 have hS := hS.perm U1
 refine X8 (v := vA ([d5] ++ [d6])) (vs := ([d5] ++ [d6]).toArray) (cs := ([vN] ++ [vN]).toArray) Q9 (by exact g5) rfl rfl hS rfl (L8 (S2 f1.isOne) (S2 f2.isOne)) rfl ?_
 intro al0 hS
 have hS := hS.perm U1.symm
 refine Z5 (vI e4.2) rfl rfl (Z0 ?_)
 refine Y9 (vs := [vA ([d5] ++ [d6]), vI e4.2]) Tryz.func153 ⟨⟨_, (by exact g5), U6 Q9 (hS.get (mR mL)) rfl⟩, rfl, trivial⟩ ?_
 have hz := Option.some.inj g8
 subst hz
 exact ⟨_, _, rfl, Z2, (St.dropA (St.dropA (St.dropA hS))), ⟨_, _, rfl, ⟨_, rfl, ⟨_, _, rfl, ⟨_, rfl, f1⟩, ⟨_, rfl, f2⟩⟩⟩, rfl⟩⟩
def T2 (K : Nat) (a0 : LdT) (b1 : (A8 × Int)) : Nat → MpT → Int → Option (Ex MpT (MpT))
 | 0, _, _ => none
 | k + 1, c0, a3 => (if a3 < (a0.1.length : Int) then (if a3 < 8 then (if 0 < (Y5 b1.1 a3) then ((Q8 K (a0.1, a0.2.1, a0.2.2) a3 (Y5 b1.1 a3)).bind fun g2 => ((N7 K c0 a0.2.1 g2).bind fun f3 => T2 K a0 b1 k f3 (a3 + 1))) else T2 K a0 b1 k c0 (a3 + 1)) else none) else some (.go c0))
def T5 (K : Nat) (a0 : LdT) : Nat → MpT → MpT → Option (Ex MpT (MpT))
 | 0, _, _ => none
 | k + 1, [], a8 => some (.go a8)
 | k + 1, b1 :: e5, a8 => ((Zf3 K).bind fun h2 => ((T2 K a0 b1 K h2 0).bind (Ex.elim (fun r => some (.ret r)) (fun s => (fun (e6 : MpT) => ((P1 K a8 e6 b1.2).bind fun g3 => T5 K a0 k e5 g3)) s))))
theorem Zw8 {K : Nat} {a0 : LdT} {a8 : MpT} {k : Nat} {zp zq : MpT} {o : Ex MpT (MpT)} (hp : zp.Perm zq) (q : T5 K a0 k zp a8 = some o) : T5 K a0 k zq a8 = some o := by
 exact (Zv5 (K := K) (fun k zs s => T5 K a0 k zs s) (by intros; rw [T5])
  (fun z => by
   refine ⟨fun s => (Zf3 K).bind fun r => (T2 K a0 z K r 0).bind fun e => (match e with | .ret _ => none | .go y => P1 K s y z.2), .const fun r => ?_, fun k zs s => ?_⟩
   cases T2 K a0 z K r 0 with
   | none => exact .fail
   | some e => cases e with
    | ret _ => exact .fail
    | go y => exact Yr6 _ _
   rw [T5]
   cases Zf3 K with
   | none => rfl
   | some r =>
    simp only [Option.bind_some]
    cases hq : T2 K a0 z K r 0 with
    | none => rfl
    | some e => cases e with
     | go y => rfl
     | ret y =>
      have : ∀ (k : Nat) (t : MpT) (i : Int) e, T2 K a0 z k t i = some e → ∃ y, e = .go y := by
       intro k
       induction k with
       | zero => intro t i e h; rw [T2] at h; cases h
       | succ k ih =>
        intro t i e h
        rw [T2] at h
        split at h
        split at h
        split at h
        obtain ⟨_, _, h⟩ := bind_some h
        obtain ⟨_, _, h⟩ := bind_some h
        exact ih _ _ _ h
        exact ih _ _ _ h
        cases h
        cases h; exact ⟨_, rfl⟩
      obtain ⟨y', h⟩ := this _ _ _ _ hq
      cases h) hp k a8).symm.trans q
def G5 (K : Nat) (a0 : LdT) (a1 : MpT) : Option MpT := ((T5 K a0 K a1 ([] : MpT)).bind (Ex.elim (fun r => some r) (fun s => (fun (c1 : MpT) => some c1) s)))
theorem Yd4 {K : Nat} {a0 : LdT} {a1 : MpT} {r : MpT} (q0 : G5 K a0 a1 = some r) {H : FH} {w : World} {L : OL} {s0 : Value} {s1 : Value} (m7 : Zh2 (Xu2 K) H s0 a0) (m8 : R8 .i64 H s1 a1) (hS : St H w L) :
 Calls Tryz.prog 117 #[s0, s1] w (Yl2 .i64 r H L) := by
 obtain ⟨c2, d2, g4, h3, _, rfl, b0, ⟨d7, c8, e7, f4, rfl, a5, a4, a6, a9⟩, g5⟩ := m7
 have Z2 := Sub.refl H
 refine X2 Tryz.func117 rfl Tryz.ntmps117 rfl ?_
 unfold G5 at q0
 refine Z3 (Z1 (Z5 (Value.map none) rfl rfl (Z0 (Z3 (Z1 ?_)))))
 refine Zo6 (k := .i64) hS rfl ?_
 intro m1 w2 C3 m9 hS
 refine Z5 (m1) rfl rfl (Z0 (Z3 (Z3 (Z1 (Z4 (s1) rfl rfl ?_)))))
 refine Zx9 Zj6 rfl m8 hS rfl ?_
 intro e8 w7 C8 n0 hS
 refine Z0 (Y7 ?_)
 obtain ⟨h4, b5, h5⟩ := bind_some q0
 refine W7 (id := 0) (fun k f w => ∃ (c4 : MpT) (a8 : MpT) (H1 : FH) (b6 : OL) (b2 : OL), T5 K a0 k c4 a8 = some h4 ∧ Sub H H1 ∧ St H1 w (b6 ++ (b2 ++ L)) ∧ Za5 .i64 H1 e8 c4 none b6 ∧ R9 .i64 m1 a8 b2 ∧ Zp1 H1 f4 (Yb0 K a0) ∧ Y2 (Y8 .i64) H1 d7 a0.1 ∧ Y2 (Y8 .i64) H1 c8 a0.2.1 ∧ Y2 (Zw9 .i64) H1 e7 a0.2.2 ∧ H1 c2 = some (.cells g4 h3) ∧ ev f (.tmp 0) = Value.pointer (some ⟨c2, d2, none⟩) ∧ ev f (.tmp 5) = m1 ∧ ev f (.tmp 12) = e8) (fun f w => ∃ (c1 : MpT) (H1 : FH) (c9 : OL) (d3 : OL), h4 = .go c1 ∧ Sub H H1 ∧ St H1 w (c9 ++ (d3 ++ L)) ∧ Za5 .i64 H1 e8 ([] : MpT) none c9 ∧ R9 .i64 m1 c1 d3 ∧ ev f (.tmp 5) = m1) rfl ?_ ?_ K ?_ ?_
 rintro f w ⟨c4, a8, H1, b6, b2, b5, _⟩
 rw [T5] at b5; cases b5
 rintro k o2 o3 n1 n2 ⟨c4, a8, k2, b6, b2, b5, Z2, hS, d8, a7, a9, a5, a4, a6, b0, e9, f0, d4⟩
 refine Z3 (Z1 ?_)
 refine Yd0 (by exact d4) d8 hS rfl ?_ ?_
 intro k3; subst k3
 rw [T5] at b5
 refine V5 (Value.bool false) rfl rfl rfl (Z0 (Z3 (Z9 rfl ?_)))
 refine W4 rfl ?_
 have hz := Option.some.inj b5
 subst hz
 exact n2 _ _ ⟨a8, k2, b6, b2, rfl, Z2, hS, d8, a7, f0⟩
 intro b1 e5 u2 f1 k4 b4 hS
 replace b5 := Zw8 k4 b5
 rw [T5] at b5
 refine V5 (Value.bool true) rfl rfl rfl (Z0 (Z3 (Y0 rfl (Y6 (Y7 (Z3 (Z1 ?_)))))))
 refine Zy0 (by exact d4) b4 hS rfl (V5 (vA (Z7 .i64 b1.1)) rfl rfl rfl (V5 (vI b1.2) rfl rfl rfl ?_))
 refine V0 (z := vA (Z7 .i64 (fun _ => 0))) (Z7 .i64 (fun _ => 0)).toArray Zi1.zero rfl hS rfl ?_
 intro g0 u3 hS
 refine X8 (v := vA (Z7 .i64 b1.1)) (vs := (Z7 .i64 b1.1).toArray) (cs := (Z7 .i64 (fun _ => 0)).toArray) P4 rfl rfl rfl hS rfl (S4 .i64 b1.1) rfl ?_
 intro u4 hS
 refine Z5 (vI b1.2) rfl rfl (Z0 (Z3 (Z1 ?_)))
 obtain ⟨h2, k5, b5⟩ := bind_some b5
 refine X0 Tryz.call207 Xx4 rfl (Zy5 k5  hS) ?_
 rintro u5 u6 ⟨k0, u7, u8, rfl, d0, hS, k6⟩
 refine ⟨_, rfl, ?_⟩
 have Z2 := Z2.trans d0
 have a5 := a5.mono d0
 have a4 := a4.mono d0
 have a6 := a6.mono d0
 have a9 := a9.mono d0
 have a7 := a7.mono d0
 have b4 := b4.mono d0
 have b0 := d0.1 _ _ b0
 refine Z5 (k0) rfl rfl (Z0 (Z3 (Z3 (Z1 (Z4 (Value.pointer (some ⟨c2, d2, none⟩)) (by exact e9) rfl (I3 rfl rfl (Y3 Xw2 rfl rfl ?_)))))))
 refine Y4 (d7) J7 rfl (hS.froz _ _ b0) (g5 0 (show 0 < 4 by decide)) rfl ?_
 have o4 := a5.bound
 refine W6 S9 rfl a5 rfl (Z4 (vI 0) rfl rfl (Z0 (Y7 ?_)))
 obtain ⟨i1, b7, hS, h6⟩ := k6.freeze hS
 have Z2 := Z2.trans b7
 have a5 := a5.mono b7
 have a4 := a4.mono b7
 have a6 := a6.mono b7
 have a9 := a9.mono b7
 have a7 := a7.mono b7
 have b4 := b4.mono b7
 have b0 := b7.1 _ _ b0
 obtain ⟨h7, b3, f5⟩ := bind_some b5
 refine W7 (id := 2) (fun k f w => ∃ (c0 : MpT) (a3 : Int) (H1 : FH) (b8 : Value), T2 K a0 b1 k c0 a3 = some h7 ∧ Sub H H1 ∧ St H1 w ([(g0, cA (Z7 .i64 b1.1) 188)] ++ (f1 ++ (b2 ++ L))) ∧ 0 ≤ a3 ∧ R8 .i64 H1 b8 c0 ∧ Zp1 H1 f4 (Yb0 K a0) ∧ Y2 (Y8 .i64) H1 d7 a0.1 ∧ Y2 (Y8 .i64) H1 c8 a0.2.1 ∧ Y2 (Zw9 .i64) H1 e7 a0.2.2 ∧ R9 .i64 m1 a8 b2 ∧ Za5 .i64 H1 e8 e5 (some b1) f1 ∧ H1 c2 = some (.cells g4 h3) ∧ ev f (.tmp 0) = Value.pointer (some ⟨c2, d2, none⟩) ∧ ev f (.tmp 5) = m1 ∧ ev f (.tmp 6) = vP g0 ∧ ev f (.tmp 7) = vI b1.2 ∧ ev f (.tmp 8) = b8 ∧ ev f (.tmp 12) = e8 ∧ ev f (.tmp 23) = vI (a0.1.length : Int) ∧ ev f (.tmp 24) = vI a3) (fun f w => ∃ (e6 : MpT) (H1 : FH) (e4 : Value), h7 = .go e6 ∧ Sub H H1 ∧ St H1 w ([(g0, cA (Z7 .i64 b1.1) 188)] ++ (f1 ++ (b2 ++ L))) ∧ R8 .i64 H1 e4 e6 ∧ Zp1 H1 f4 (Yb0 K a0) ∧ Y2 (Y8 .i64) H1 d7 a0.1 ∧ Y2 (Y8 .i64) H1 c8 a0.2.1 ∧ Y2 (Zw9 .i64) H1 e7 a0.2.2 ∧ R9 .i64 m1 a8 b2 ∧ Za5 .i64 H1 e8 e5 (some b1) f1 ∧ H1 c2 = some (.cells g4 h3) ∧ ev f (.tmp 0) = Value.pointer (some ⟨c2, d2, none⟩) ∧ ev f (.tmp 5) = m1 ∧ ev f (.tmp 7) = vI b1.2 ∧ ev f (.tmp 8) = e4 ∧ ev f (.tmp 12) = e8) rfl ?_ ?_ K ?_ ?_
 rintro f w ⟨c0, a3, H1, b8, b3, _⟩
 rw [T2] at b3; cases b3
 rintro k o5 o6 k1 n3 ⟨c0, a3, h8, b8, b3, Z2, hS, m6, d9, a9, a5, a4, a6, a7, b4, b0, c3, e1, d1, e2, e3, d5, d6, c5⟩
 rw [T2] at b3
 refine Z3 (Z1 ?_)
 refine U2 (k := .i64) (a := a3) (b := (a0.1.length : Int)) (by exact c5) (by exact d6) rfl (Z0 (Z3 ?_))
 by_cases f6 : a3 < (a0.1.length : Int)
 rw [if_pos f6] at b3
 refine Y0 (bT f6 rfl) (Y6 (Z3 (Y7 (Z3 (Z1 (Z4 (vI a3) (by exact c5) rfl (Z5 (vI a3) rfl rfl (Z0 (Z3 (Z1 (Z4 (vI a3) rfl rfl ?_)))))))))))
 obtain ⟨o7, b3⟩ := gd b3
 refine V3 Ze5 (by exact d1) rfl (by omega) (by omega) rfl ?_
 refine Y4 (vI (Y5 b1.1 a3)) ty3 rfl (hS.get (o := cA (Z7 .i64 b1.1) 188) mL) (M5 ([]) ([]) (by omega) (by omega)) rfl ?_
 refine Zd2 (k := .i64) (a := (Y5 b1.1 a3)) (b := 0) rfl rfl rfl (Z0 ?_)
 by_cases f7 : 0 < (Y5 b1.1 a3)
 rw [if_pos f7] at b3
 refine Y0 (bT f7 rfl) ?_
 obtain ⟨g2, i2, b3⟩ := bind_some b3
 obtain ⟨f3, i3, b3⟩ := bind_some b3
 refine U0 12 (Q5 [(31, MP.eq (b8)), (32, MP.eq (Value.pointer (some ⟨c2, d2, none⟩))), (33, MP.eq (Value.pointer (some ⟨c2, d2, none⟩))), (34, MP.eq (Value.pointer (some ⟨c2, d2 + 1, none⟩))), (35, MP.eq (c8)), (36, MP.eq (Value.pointer (some ⟨c2, d2, none⟩))), (37, MP.eq (vI a3)), (38, MP.eq (vI a3)), (39, MP.eq (Value.pointer (some ⟨g0, 0 + (a3).toNat * 1, none⟩))), (40, MP.eq (vI (Y5 b1.1 a3))), (41, MP.rep (R.mp .i64) (g2)), (42, MP.mp .i64 (f3))]) [] mixed rfl rfl rfl hS (Z6 rfl ?_ (Z6 rfl ?_ (Z6 rfl ?_ (Z6 rfl ?_ (Z6 rfl ?_ (Z6 rfl ?_ (Z6 rfl ?_ (Z6 rfl ?_ (Z6 rfl ?_ (Z6 rfl ?_ (Z6 rfl ?_ (Z6 rfl ?_ U5)))))))))))) ?_
 intro u9 v0 v1 v2 o8 hS k7 o9 hcq
 refine Z4 (b8) (evT (k7 8 rfl) e3) rfl ?_
 exact qn (.refl _) rfl hS rfl
 intro v3 v4 v5 v6 p0 hS k8 p1 hcq
 refine Z4 (Value.pointer (some ⟨c2, d2, none⟩)) (evT (k8 0 rfl) c3) rfl ?_
 exact qn (.refl _) rfl hS rfl
 intro v7 v8 v9 w0 p2 hS p3 k9 hcq
 refine I3 (eM (k9 1 32 rfl rfl)) rfl ?_
 exact qn (.refl _) rfl hS rfl
 intro w1 w3 w4 w5 p4 hS p5 l0 hcq
 refine Y3 Xe7 (eM (l0 2 33 rfl rfl)) rfl ?_
 exact qn (.refl _) rfl hS rfl
 intro w6 w8 w9 x0 l1 hS p6 l2 hcq
 have b0 := l1.1 _ _ b0
 refine Y4 (c8) J7 (eM (l2 3 34 rfl rfl)) (hS.froz _ _ b0) (g5 1 (show 1 < 4 by decide)) rfl ?_
 exact qn (.refl _) rfl hS rfl
 intro x1 x2 x3 x4 p7 hS l3 p8 hcq
 refine Z4 (Value.pointer (some ⟨c2, d2, none⟩)) (evT (l3 0 rfl) c3) rfl ?_
 exact qn (.refl _) rfl hS rfl
 intro n4 x5 x6 x7 p9 hS l4 q1 hcq
 have n5 : ev n4 (.tmp 9) = vI a3 := Eq.trans (l4 9 rfl) rfl
 refine Z4 (vI a3) n5 rfl ?_
 exact qn (.refl _) rfl hS rfl
 intro n6 x8 x9 y0 q2 hS l5 q3 hcq
 have l6 : ev n6 (.tmp 9) = vI a3 := Eq.trans (l5 9 rfl) rfl
 refine Z4 (vI a3) l6 rfl ?_
 exact qn (.refl _) rfl hS rfl
 intro q4 q5 q6 q7 n7 hS i4 i5 hcq
 refine V3 Ze5 (evT (i4 6 rfl) d1) (eM (i5 7 38 rfl rfl)) (by omega) (by omega) rfl ?_
 exact qn (.refl _) rfl hS rfl
 intro q8 q9 r0 r1 n8 hS n9 i6 hcq
 refine Y4 (vI (Y5 b1.1 a3)) ty3 (eM (i6 8 39 rfl rfl)) (hS.get (o := cA (Z7 .i64 b1.1) 188) (mR mL)) (M5 ([]) ([]) (by omega) (by omega)) rfl ?_
 exact qn (.refl _) rfl hS rfl
 intro r2 r3 r4 r5 e0 hS o0 f8 hcq
 have a5 := a5.mono e0
 have a4 := a4.mono e0
 have a6 := a6.mono e0
 have a9 := a9.mono e0
 have b0 := e0.1 _ _ b0
 refine X0 Tryz.call208 (F9 (eM (f8 5 36 rfl rfl)) (eM (f8 6 37 rfl rfl)) (eM (f8 9 40 rfl rfl))) rfl (Yc1 i2 ⟨_, _, _, _, _, rfl, b0, ⟨_, _, _, _, rfl, a5, a4, a6, a9⟩, g5⟩ hS) ?_
 rintro r6 r7 ⟨l7, r8, rfl, i7, hS, i8⟩
 refine ⟨l7, rfl, ?_⟩
 exact qn i7 rfl hS i8
 intro r9 s2 l9 s3 g7 hS o1 f9 hcq
 have Z2 := Sub.refl l9
 have a4 := a4.mono g7
 have d9 := d9.mono g7
 obtain ⟨s4, m0, i9⟩ := gvR (f9 10 41 rfl rfl)
 refine X0 Tryz.call131 (F9 (eM (f9 0 31 rfl rfl)) (eM (f9 4 35 rfl rfl)) m0) rfl (Zh9 i3 d9 a4 i9 hS) ?_
 rintro s5 s6 ⟨s7, s8, s9, rfl, j0, hS, j1⟩
 refine ⟨_, rfl, ?_⟩
 have Z2 := Z2.trans j0
 obtain ⟨t0, j2, hS, j3⟩ := j1.freeze hS
 have Z2 := Z2.trans j2
 exact Z0 ⟨42, _, _, rfl, rfl, Z2, hS, j3⟩
 intro t1 m2 h9 b9 hS c6 j4 hcq
 have hS : St h9 m2 ([(g0, cA (Z7 .i64 b1.1) 188)] ++ (f1 ++ (b2 ++ L))) := hS
 have Z2 := Z2.trans b9
 have a5 := a5.mono b9
 have a4 := a4.mono b9
 have a6 := a6.mono b9
 have a9 := a9.mono b9
 have a7 := a7.mono b9
 have b4 := b4.mono b9
 have b0 := b9.1 _ _ b0
 obtain ⟨i0, m3, j5⟩ := gvM (j4 11 42 (by decide) rfl)
 refine Z5 (i0) (by exact m3) rfl (Z0 (X3 (Z1 ?_)))
 refine W8 (a3 + 1) (by exact (evT (c6 24 rfl) c5)) rfl (IntWalk.i64_in _ (by omega)) rfl (Z4 (vI (a3 + 1)) rfl rfl (Z0 ?_))
 exact k1 _ _ ⟨f3, (a3 + 1), h9, i0, b3, Z2, hS, (by omega), j5, a9, a5, a4, a6, a7, b4, b0, (evT (c6 0 rfl) c3), (evT (c6 5 rfl) e1), (evT (c6 6 rfl) d1), (evT (c6 7 rfl) e2), rfl, (evT (c6 12 rfl) d5), (evT (c6 23 rfl) d6), rfl⟩
 rw [if_neg f7] at b3
 refine Z9 (bF f7 rfl) (Y6 (X3 (Z1 ?_)))
 refine W8 (a3 + 1) (by exact c5) rfl (IntWalk.i64_in _ (by omega)) rfl (Z4 (vI (a3 + 1)) rfl rfl (Z0 ?_))
 exact k1 _ _ ⟨c0, (a3 + 1), h8, b8, b3, Z2, hS, (by omega), d9, a9, a5, a4, a6, a7, b4, b0, c3, e1, d1, e2, e3, d5, d6, rfl⟩
 rw [if_neg f6] at b3
 refine Z9 (bF f6 rfl) ?_
 refine W4 rfl ?_
 have hz := Option.some.inj b3
 subst hz
 exact n3 _ _ ⟨c0, h8, b8, rfl, Z2, hS, d9, a9, a5, a4, a6, a7, b4, b0, c3, e1, e2, e3, d5⟩
 exact ⟨h2, 0, i1, k0, b3, Z2, hS, (by omega), h6, a9, a5, a4, a6, a7, b4, b0, e9, f0, rfl, rfl, rfl, d4, rfl, rfl⟩
 rintro t4 t5 ⟨e6, t6, e4, rfl, Z2, hS, j6, a9, a5, a4, a6, a7, b4, b0, g8, f2, g9, h0, g6⟩
 dsimp only [Ex.elim] at f5
 refine Z1 (Z4 (m1) (by exact f2) rfl (Z4 (e4) (by exact h0) rfl (Z4 (vI b1.2) (by exact g9) rfl ?_)))
 obtain ⟨g3, j7, f5⟩ := bind_some f5
 have hS := hS.perm C2
 refine X0 Tryz.call132 (F9 rfl rfl rfl) rfl (Zs9 j7 a7 j6 hS) ?_
 rintro t7 t8 ⟨m4, m5, rfl, c7, hS, j8⟩
 refine ⟨_, rfl, ?_⟩
 have Z2 := Z2.trans c7
 have a5 := a5.mono c7
 have a4 := a4.mono c7
 have a6 := a6.mono c7
 have a9 := a9.mono c7
 have b4 := b4.mono c7
 have b0 := c7.1 _ _ b0
 have hS := hS.perm C2.symm
 refine Z0 (X3 ?_)
 have hS := St.dropA hS
 exact n1 _ _ ⟨e5, g3, m4, f1, m5, f5, Z2, hS, b4.drop, j8, a9, a5, a4, a6, b0, g8, f2, g6⟩
 exact ⟨a1, ([] : MpT), H, C8, C3, b5, Z2, hS, n0, m9, a9, a5, a4, a6, b0, rfl, rfl, rfl⟩
 rintro t9 u0 ⟨c1, u1, c9, d3, rfl, Z2, hS, j9, g1, h1⟩
 dsimp only [Ex.elim] at h5
 refine Z3 (Z1 (Z4 (m1) (by exact h1) rfl (Z5 (m1) rfl rfl (Z0 ?_))))
 refine Y9 (vs := [m1]) Tryz.func117 ⟨rfl, trivial⟩ ?_
 have hS := hS.perm U1
 have hS := St.dropMid hS
 have hz := Option.some.inj h5
 subst hz
 exact ⟨_, _, _, rfl, Z2, hS, g1⟩
def Zd7 (K : Nat) (a0 : MpT) (a1 : ((List Int) × (List MpT))) : Option Bool := ((Zh8 K a0).bind fun r5 => ((Ze0 K (a1.1, a1.2) r5).bind fun a6 => some (decide (0 < (a6.length : Int)))))
theorem Yc5 {K : Nat} {a0 : MpT} {a1 : ((List Int) × (List MpT))} {r : Bool} (q0 : Zd7 K a0 a1 = some r) {H : FH} {w : World} {L : OL} {s0 : Value} {s1 : Value} (b5 : Y2 yT H s0 a0) (b6 : Zh2 (Zo8 (W0 (Y8 .i64)) (W0 (W0 yT))) H s1 a1) (hS : St H w L) :
 Calls Tryz.prog 128 #[vA ([s0]), s1] w (S3 (fun v G => R.bool.p G v r) H L) := by
 obtain ⟨c2, c3, c1, c4, _, rfl, a5, ⟨_, _, rfl, ⟨b7, rfl, a3⟩, ⟨b8, rfl, a4⟩⟩, a9⟩ := b6
 have Z2 := Sub.refl H
 refine X2 Tryz.func128 rfl Tryz.ntmps128 rfl ?_
 unfold Zd7 at q0
 refine Z3 (Z1 ?_)
 refine S5 (v := vA ([s0])) ([s0]).toArray rfl rfl hS rfl ?_
 intro b1 w2 hS
 refine Z5 (Value.bool false) rfl rfl (Z0 (Z3 (Z1 ?_)))
 refine W1 T3 rfl (hS.get mL) rfl rfl ?_
 obtain ⟨r5, b9, q0⟩ := bind_some q0
 refine X0 Tryz.call90 (M0 rfl) rfl (Zt0 b9 b5 hS) ?_
 rintro e5 w6 ⟨m5, H5, C5, rfl, a7, hS, c0⟩
 refine ⟨_, rfl, ?_⟩
 have Z2 := Z2.trans a7
 have a3 := a3.mono a7
 have a4 := a4.mono a7
 have a5 := a7.1 _ _ a5
 obtain ⟨H8, a8, hS, b0⟩ := c0.freeze hS
 have Z2 := Z2.trans a8
 have a3 := a3.mono a8
 have a4 := a4.mono a8
 have a5 := a8.1 _ _ a5
 obtain ⟨a6, b2, q0⟩ := bind_some q0
 refine X0 Tryz.call120 (T0 rfl rfl) rfl (Yh4 b2 ⟨_, _, _, _, _, rfl, a5, ⟨_, _, rfl, ⟨_, rfl, a3⟩, ⟨_, rfl, a4⟩⟩, a9⟩ b0 hS) ?_
 rintro c5 c6 ⟨c7, c8, c9, rfl, b3, hS, b4⟩
 refine ⟨_, rfl, ?_⟩
 have Z2 := Z2.trans b3
 refine Xn9 Zj6 rfl b4 hS rfl ?_
 refine Zd2 (k := .i64) (a := (a6.length : Int)) (b := 0) rfl rfl rfl (Z5 (Value.bool (decide (0 < (a6.length : Int)))) rfl rfl (Z0 ?_))
 refine Y9 (vs := [Value.bool (decide (0 < (a6.length : Int)))]) Tryz.func128 ⟨rfl, trivial⟩ ?_
 have hz := Option.some.inj q0
 subst hz
 exact ⟨_, _, rfl, Z2, (St.dropA (St.dropA hS)), rfl⟩
end Go.Proofs.YtfodlhkoafhplaaGreat
