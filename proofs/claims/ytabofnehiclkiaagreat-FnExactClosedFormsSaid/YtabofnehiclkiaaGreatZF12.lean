/- Walks of functions: each computes its pure function, if that gives a value. -/
import Derived.Test.YtabofnehiclkiaaGreatZF10
import Derived.Test.YtabofnehiclkiaaGreatZF9
namespace Go.Proofs.YtabofnehiclkiaaGreat
open Go Go.Proofs.Tryz
set_option linter.unusedSimpArgs false
set_option linter.unusedVariables false
set_option maxRecDepth 100000
set_option maxHeartbeats 8000000
variable {K : Nat} {H : FH} {w : World} {L : OL} {s0 s1 s2 s3 s4 s5 s6 : Value}
def Zh6 (K : Nat) (h0 : Bool → Int → (List (List Int)) → Option (Ex (List (List Int)) (Bool × (List (List Int))))) (a0 : (List (List Int))) (a6 : (List Int)) (r3 : Int) (a4 : Int) (c4 : Bool) (b2 : (List (List Int))) : Option (Ex (List (List Int)) (Bool × (List (List Int)))) := (if r3 < ((rd a0 a4).length : Int) then ((Zh0 K (rd a0 a4) a6 (rd (rd a0 a4) r3)).bind fun d2 => (if b2.length + ([d2]).length ≤ 1099511627776 then h0 c4 (a4 + 1) (b2 ++ [d2]) else none)) else none)
def Zh4 (K : Nat) (h0 : Bool → Int → (List (List Int)) → Option (Ex (List (List Int)) (Bool × (List (List Int))))) (a0 : (List (List Int))) (a6 : (List Int)) (r3 : Int) (b4 : Bool) (a4 : Int) (a3 : (List (List Int))) (c5 : Bool) : Option (Ex (List (List Int)) (Bool × (List (List Int)))) := (if c5 = true then (if a3.length + ([a6]).length ≤ 1099511627776 then Zh6 K (h0) a0 a6 r3 a4 true (a3 ++ [a6]) else none) else Zh6 K (h0) a0 a6 r3 a4 b4 a3)
def L8 (K : Nat) (a0 : (List (List Int))) (a6 : (List Int)) (r3 : Int) : Nat → Bool → Int → (List (List Int)) → Option (Ex (List (List Int)) (Bool × (List (List Int))))
 | 0, _, _, _ => none
 | k + 1, b4, a4, a3 => (if a4 < (a0.length : Int) then (if b4 = true then Zh4 K (L8 K a0 a6 r3 k) a0 a6 r3 b4 a4 a3 false else ((B8 K (rd a0 a4)).bind fun e1 => Zh4 K (L8 K a0 a6 r3 k) a0 a6 r3 b4 a4 a3 (decide (r3 < e1)))) else some (.go (b4, a3)))
def Zt8 (K : Nat) (a0 : (List (List Int))) (a1 : (List Int)) : Option (List (List Int)) := ((Zv5 K a1 a0).bind fun r1 => ((B8 K r1).bind fun r3 => (if r3 < 0 then some a0 else (if (r1.length : Int) ≤ 1099511627776 then (if 0 ≤ r3 then (if r3 < (r1.length : Int) then ((Zk3 K (rd r1 r3)).bind fun e2 => ((F5 K (IntKind.i64.wrap (0 - e2))).bind fun g6 => ((Zh0 K (List.replicate ((r1.length : Int)).toNat (0 : Int)) r1 g6).bind fun a6 => ((L8 K a0 a6 r3 K false 0 ([] : List (List Int))).bind (Ex.elim (fun r => some r) (fun s => (fun (d3 : Bool) (b5 : (List (List Int))) => (if d3 = true then some b5 else (if b5.length + ([a6]).length ≤ 1099511627776 then some (b5 ++ [a6]) else none))) s.1 s.2)))))) else none) else none) else none))))
theorem Xb0 {a0 : (List (List Int))} {a1 : (List Int)} {r : (List (List Int))} (q0 : Zt8 K a0 a1 = some r) (a9 : Y3 (X2 (Y5 .i64)) H s0 a0) (t4 : Y3 (Y5 .i64) H s1 a1) (hS : St H w L) :
 Calls prog 224 #[s0, s1] w (U7 (fun v G => (R.sl (X2 (Y5 .i64))).p G v r) H L) := by
 have Z4 := Sub.refl H
 refine X0 func224 rfl ntmps224 rfl ?_
 unfold Zt8 at q0
 refine Z1 (Z0 (Z5 (vN) rfl rfl (Z2 (Z1 (Z0 (Z3 (s1) rfl rfl (Z3 (s0) rfl rfl ?_)))))))
 obtain ⟨r1, t5, q0⟩ := bind_some q0
 refine X3 call164 (V2 rfl rfl) rfl (Xg6 t5 t4 a9 hS) ?_
 rintro v1 H1 _ o7 hS c6
 have Z4 := Z4.trans o7
 have a9 := a9.mono o7
 refine Z5 (v1) rfl rfl (Z2 (Z1 (Z0 (Z3 (v1) rfl rfl ?_))))
 obtain ⟨r3, t6, q0⟩ := bind_some q0
 refine X3 call148 (R3 rfl) rfl (Zo9 t6 c6 hS) ?_
 rintro _ _ _ i0 hS rfl
 have Z4 := Z4.trans i0
 have a9 := a9.mono i0
 have c6 := c6.mono i0
 refine Z5 (vI r3) rfl rfl (Z2 (Z1 (Z1 (Z0 (Z3 (vI r3) rfl rfl ?_)))))
 refine W8 (k := .i64) (a := r3) (b := 0) rfl rfl rfl (Z2 ?_)
 obtain ⟨i1, q0⟩ | ⟨i1, q0⟩ := ic q0
 refine Z8 (bT i1 rfl) (Z1 (Z0 (Z3 (s0) rfl rfl (Z5 (s0) rfl rfl (Z2 ?_)))))
 refine Y9 (vs := [s0]) func224 ⟨rfl, trivial⟩ ?_
 obtain rfl := oi q0
 exact ⟨_, _, rfl, Z4, hS, a9⟩
 refine Z7 (bF i1 rfl) (Y6 (Z1 ?_))
 have v5 := c6.bound
 obtain ⟨_, q0⟩ := gd q0
 obtain ⟨_, q0⟩ := gd q0
 obtain ⟨_, q0⟩ := gd q0
 obtain ⟨p1, p2, _, _, _, j4, e8, rfl, j5⟩ := c6.elem (i := r3) (by omega) (by omega)
 obtain ⟨e2, j6, q0⟩ := bind_some q0
 obtain ⟨g6, j7, q0⟩ := bind_some q0
 refine Wp0 11 (fun t C => S9 [mE 17 (v1), mE 18 (vI (r1.length : Int)), (19, MP.own (Y5 .i64) 2 ((List.replicate ((r1.length : Int)).toNat (0 : Int))) C), mE 20 (v1), mE 21 (v1), mE 22 (vI r3), mE 23 (vQ p1 p2), mE 24 (vI (rd r1 r3)), mE 25 (vI e2), mE 26 (vI (IntKind.i64.wrap (0 - e2))), mE 27 (vI g6)] t) [] mixed rfl rfl rfl hS (Zw5 rfl ?_ (Zw5 rfl ?_ (Zw5 rfl ?_ (Zw5 rfl ?_ (Zw5 rfl ?_ (Zw5 rfl ?_ (Zw5 rfl ?_ (Zw5 rfl ?_ (Zw5 rfl ?_ (Zw5 rfl ?_ (Zw5 rfl ?_ V1))))))))))) ?_
 intro G1 f6 _ H8 _ _ hS p3 _ hcq
 have Z4 := Sub.refl H8
 have t7 : tv f6 1 = v1 := Eq.trans (p3 1 rfl) rfl
 refine Z3 (v1) t7 rfl ?_
 exact Z2 ⟨17, _, _, [], rfl, rfl, Z4, hS, rfl⟩
 intro G1 _ _ t8 _ p4 hS _ p5 hcq
 have Z4 := Sub.refl t8
 have c6 := c6.mono p4
 refine X9 U5 (eM (p5 0 17 rfl rfl)) c6 rfl ?_
 exact Z2 ⟨18, _, _, [], rfl, rfl, Z4, hS, rfl⟩
 intro G1 t9 _ u0 _ _ hS _ p6 hcq
 have Z4 := Sub.refl u0
 have o8 : tv t9 18 = vI (r1.length : Int) := p6 1 18 rfl rfl
 refine Yg0 (τ := (Y5 .i64)) (0 : Int) Yb7 rfl o8 o8 (fun _ => rfl) (by omega) (by omega) hS rfl ?_
 intro _ _ u1 p7 hS
 exact Z2 ⟨19, _, _, u1, rfl, rfl, Z4, hS, p7⟩
 intro G1 u2 _ u3 _ _ hS p8 _ hcq
 have Z4 := Sub.refl u3
 have u4 : tv u2 1 = v1 := Eq.trans (p8 1 rfl) rfl
 refine Z3 (v1) u4 rfl ?_
 exact Z2 ⟨20, _, _, [], rfl, rfl, Z4, hS, rfl⟩
 intro G1 u5 _ u6 _ _ hS p9 _ hcq
 have Z4 := Sub.refl u6
 have u7 : tv u5 1 = v1 := Eq.trans (p9 1 rfl) rfl
 refine Z3 (v1) u7 rfl ?_
 exact Z2 ⟨21, _, _, [], rfl, rfl, Z4, hS, rfl⟩
 intro G1 u8 _ u9 _ _ hS q1 _ hcq
 have Z4 := Sub.refl u9
 have v0 : tv u8 5 = vI r3 := Eq.trans (q1 5 rfl) rfl
 refine Z3 (vI r3) v0 rfl ?_
 exact Z2 ⟨22, _, _, [], rfl, rfl, Z4, hS, rfl⟩
 intro G1 _ _ q2 _ _ hS _ h1 hcq
 have Z4 := Sub.refl q2
 refine X5 U5 rfl (eM (h1 4 21 rfl rfl)) j4 (eM (h1 5 22 rfl rfl)) (by omega) (by omega) rfl ?_
 exact Z2 ⟨23, _, _, [], rfl, rfl, Z4, hS, rfl⟩
 intro G1 _ _ q3 _ j8 hS _ j9 hcq
 have Z4 := Sub.refl q3
 have e8 := j8.1 _ _ e8
 refine Y0 (vI (rd r1 r3)) ty2 (eM (j9 6 23 rfl rfl)) (hS.froz _ _ e8) (j5 0 (show 0 < 1 by decide)) rfl ?_
 exact Z2 ⟨24, _, _, [], rfl, rfl, Z4, hS, rfl⟩
 intro G1 _ _ q4 _ _ hS _ k0 hcq
 have Z4 := Sub.refl q4
 refine X3 call245 (R3 (eM (k0 7 24 rfl rfl))) rfl (Yr0 j6  hS) ?_
 rintro _ _ _ k1 hS rfl
 have Z4 := Z4.trans k1
 exact Z2 ⟨25, _, _, [], rfl, rfl, Z4, hS, rfl⟩
 intro G1 _ _ q5 _ _ hS _ k2 hcq
 have Z4 := Sub.refl q5
 refine Xq6 (IntKind.i64.wrap (0 - e2)) (eM (k2 8 25 rfl rfl)) rfl rfl ?_
 exact Z2 ⟨26, _, _, [], rfl, rfl, Z4, hS, rfl⟩
 intro G1 _ _ q6 _ _ hS _ k3 hcq
 have Z4 := Sub.refl q6
 refine X3 call209 (R3 (eM (k3 9 26 rfl rfl))) rfl (D2 j7  hS) ?_
 rintro _ _ _ k4 hS rfl
 have Z4 := Z4.trans k4
 exact Z2 ⟨27, _, _, [], rfl, rfl, Z4, hS, rfl⟩
 intro g7 g8 i2 g9 e9 hS h2 f0 hcq
 have hS : St g9 i2 ((g7 19 ++ ([])) ++ (L)) := hS
 have Z4 := Z4.trans e9
 have a9 := a9.mono e9
 have c6 := c6.mono e9
 have q7 : tv g8 0 = s0 := Eq.trans (h2 0 rfl) rfl
 have q8 : tv g8 5 = vI r3 := Eq.trans (h2 5 rfl) rfl
 obtain ⟨q9, i3⟩ : ∃ v, tv g8 19 = v := ⟨_, rfl⟩
 have h3 : X8 (Y5 .i64) 2 g9 q9 ((List.replicate ((r1.length : Int)).toNat (0 : Int))) (g7 19) := i3 ▸ (f0 2 19 (by decide) rfl)
 obtain ⟨r0, k5⟩ : ∃ C, g7 19 = C := ⟨_, rfl⟩
 rw [k5] at hS h3
 have hS : St g9 i2 (r0 ++ L) := by have h := hS; simp only [List.append_assoc, List.nil_append, List.append_nil] at h; exact h
 obtain ⟨_, f1, hS, k6⟩ := h3.freeze hS
 have Z4 := Z4.trans f1
 have a9 := a9.mono f1
 have c6 := c6.mono f1
 obtain ⟨a6, k7, q0⟩ := bind_some q0
 refine X3 call190 (D8 (by exact i3) (by exact (eM (f0 3 20 (by decide) rfl))) (by exact (eM (f0 10 27 (by decide) rfl)))) rfl (Zz0 k7 k6 c6 hS) ?_
 rintro b8 r2 _ h4 hS a7
 have Z4 := Z4.trans h4
 have a9 := a9.mono h4
 refine Z5 (b8) rfl rfl (Z2 (Z1 (Z0 ?_)))
 refine Yb8 (τ := (X2 (Y5 .i64))) T2 Zn8 rfl hS rfl ?_
 intro i4 _ r4 k8 hS
 refine Z5 (i4) rfl rfl (Z5 (vB false) rfl rfl (Z2 (Z1 (Z1 (Z0 (Z5 (vI 0) rfl rfl (Z2 (Y8 ?_))))))))
 obtain ⟨f2, b6, c8⟩ := bind_some q0
 refine W0 (id := 0) (fun k f w => ∃ (b4 : Bool) (a4 : Int) (a3 : (List (List Int))) (H1 : FH) (b0 : OL) (a8 : Value), L8 K a0 a6 r3 k b4 a4 a3 = some f2 ∧ Sub H H1 ∧ St H1 w (b0 ++ L) ∧ 0 ≤ a4 ∧ X8 (X2 (Y5 .i64)) 22 H1 a8 a3 b0 ∧ Y3 (X2 (Y5 .i64)) H1 s0 a0 ∧ Y3 (Y5 .i64) H1 b8 a6 ∧ tv f 0 = s0 ∧ tv f 1 = b8 ∧ tv f 5 = vI r3 ∧ tv f 6 = a8 ∧ tv f 7 = vB b4 ∧ tv f 8 = vI a4) (fun f w => ∃ (d3 : Bool) (b5 : (List (List Int))) (H1 : FH) (c7 : OL) (b3 : Value), f2 = .go (d3, b5) ∧ Sub H H1 ∧ St H1 w (c7 ++ L) ∧ X8 (X2 (Y5 .i64)) 22 H1 b3 b5 c7 ∧ Y3 (Y5 .i64) H1 b8 a6 ∧ tv f 1 = b8 ∧ tv f 6 = b3 ∧ tv f 7 = vB d3) rfl ?_ ?_ K ?_ ?_
 rintro f w ⟨b4, a4, a3, H1, b0, a8, b6, _⟩
 rw [L8] at b6; cases b6
 rintro k _ _ v2 v3 ⟨b4, a4, a3, i5, b0, a8, b6, Z4, hS, _, a5, a9, a7, c9, d5, d6, d7, d0, d1⟩
 rw [L8] at b6
 refine Z1 (Z1 (Z0 (Z3 (vI a4) (by exact d1) rfl (Z3 (s0) (by exact c9) rfl ?_))))
 have v4 := a9.bound
 refine X9 T2 rfl a9 rfl ?_
 refine W8 (k := .i64) (a := a4) (b := (a0.length : Int)) rfl rfl rfl (Z2 ?_)
 obtain ⟨f3, b6⟩ | ⟨f3, b6⟩ := ic b6
 refine Z8 (bT f3 rfl) (Y6 (Z1 (Y8 (Z1 (Z1 ?_)))))
 refine N4 (fun f w => ∃ (c5 : Bool) (H1 : FH), Zh4 K (L8 K a0 a6 r3 k) a0 a6 r3 b4 a4 a3 c5 = some f2 ∧ Sub H H1 ∧ St H1 w (b0 ++ L) ∧ Y3 (X2 (Y5 .i64)) H1 s0 a0 ∧ Y3 (Y5 .i64) H1 b8 a6 ∧ X8 (X2 (Y5 .i64)) 22 H1 a8 a3 b0 ∧ tv f 0 = s0 ∧ tv f 1 = b8 ∧ tv f 5 = vI r3 ∧ tv f 6 = a8 ∧ tv f 7 = vB b4 ∧ tv f 8 = vI a4 ∧ tv f 46 = vB c5) ?_ ?_
 rintro _ _ ⟨c5, k9, c3, Z4, hS, a9, a7, a5, g0, e3, g1, g2, i6, g3, e6⟩
 unfold Zh4 at c3
 refine N4 (fun f w => ∃ (c4 : Bool) (b2 : (List (List Int))) (H1 : FH) (b9 : OL) (b7 : Value), Zh6 K (L8 K a0 a6 r3 k) a0 a6 r3 a4 c4 b2 = some f2 ∧ Sub H H1 ∧ St H1 w (b9 ++ L) ∧ X8 (X2 (Y5 .i64)) 22 H1 b7 b2 b9 ∧ Y3 (X2 (Y5 .i64)) H1 s0 a0 ∧ Y3 (Y5 .i64) H1 b8 a6 ∧ tv f 0 = s0 ∧ tv f 1 = b8 ∧ tv f 5 = vI r3 ∧ tv f 6 = b7 ∧ tv f 7 = vB c4 ∧ tv f 8 = vI a4) ?_ ?_
 rintro _ _ ⟨c4, b2, _, b9, b7, c1, Z4, hS, c2, a9, a7, e4, g4, g5, i7, i8, e5⟩
 unfold Zh6 at c1
 obtain ⟨r5, r6, _, _, _, l0, l1, ⟨i9, rfl, f4⟩, l2⟩ := a9.elem (i := a4) (by omega) (by omega)
 obtain ⟨r7, r8, _, _, _, l3, l4, ⟨j0, rfl, l5⟩, l6⟩ := a9.elem (i := a4) (by omega) (by omega)
 obtain ⟨_, c1⟩ := gd c1
 obtain ⟨r9, s2, _, _, _, l7, l9, rfl, m0⟩ := l5.elem (i := r3) (by omega) (by omega)
 obtain ⟨d2, m2, c1⟩ := bind_some c1
 refine W7 15 (S9 [mE 51 (b7), mE 52 (s0), mE 53 (vI a4), mE 54 (vQ r5 r6), mE 55 (i9), mE 56 (b8), mE 57 (s0), mE 58 (vI a4), mE 59 (vQ r7 r8), mE 60 (j0), mE 61 (vI r3), mE 62 (vQ r9 s2), mE 63 (vI (rd (rd a0 a4) r3)), (64, MP.rep (R.sl (Y5 .i64)) (d2)), (65, MP.sl (X2 (Y5 .i64)) ([d2]))]) [] mixed rfl rfl rfl hS (V9 ?_ ?_ ?_ ?_ ?_ ?_ ?_ ?_ (J9 ?_ ?_ ?_ ?_ (J2 ?_ ?_ (E8 ?_ V1)))) ?_
 exact X4 fun S B => Z3 (b7) (evT (B 6 rfl) i7) rfl (qz S)
 exact X4 fun S B => Z3 (s0) (evT (B 0 rfl) e4) rfl (qz S)
 exact X4 fun S B => Z3 (vI a4) (evT (B 8 rfl) e5) rfl (qz S)
 exact Y7 fun S V => X5 T2 rfl (eM (V 1 52 rfl rfl)) l0 (eM (V 2 53 rfl rfl)) (by omega) (by omega) rfl (qz S)
 exact P0 fun s S V => Y0 (i9) P4 (eM (V 3 54 rfl rfl)) (S.froz _ _ (s.1 _ _ l1)) (l2 0 (show 0 < 1 by decide)) rfl (qz S)
 exact X4 fun S B => Z3 (b8) (evT (B 1 rfl) g4) rfl (qz S)
 exact X4 fun S B => Z3 (s0) (evT (B 0 rfl) e4) rfl (qz S)
 exact X4 fun S B => Z3 (vI a4) (evT (B 8 rfl) e5) rfl (qz S)
 exact Y7 fun S V => X5 T2 rfl (eM (V 6 57 rfl rfl)) l3 (eM (V 7 58 rfl rfl)) (by omega) (by omega) rfl (qz S)
 exact P0 fun s S V => Y0 (j0) P4 (eM (V 8 59 rfl rfl)) (S.froz _ _ (s.1 _ _ l4)) (l6 0 (show 0 < 1 by decide)) rfl (qz S)
 exact X4 fun S B => Z3 (vI r3) (evT (B 5 rfl) g5) rfl (qz S)
 exact Y7 fun S V => X5 U5 rfl (eM (V 9 60 rfl rfl)) l7 (eM (V 10 61 rfl rfl)) (by omega) (by omega) rfl (qz S)
 exact P0 fun s S V => Y0 (vI (rd (rd a0 a4) r3)) ty2 (eM (V 11 62 rfl rfl)) (S.froz _ _ (s.1 _ _ l9)) (m0 0 (show 0 < 1 by decide)) rfl (qz S)
 intro _ _ _ _ h5 hS _ f5 hcq
 have a7 := a7.mono h5
 have f4 := f4.mono h5
 refine X3 call190 (D8 (eM (f5 4 55 rfl rfl)) (eM (f5 5 56 rfl rfl)) (eM (f5 12 63 rfl rfl))) rfl (Zz0 m2 f4 a7 hS) ?_
 rintro _ _ _ m3 hS m4
 exact qn m3 rfl hS m4
 intro _ _ _ _ _ hS _ m5 hcq
 obtain ⟨s3, s4, m6⟩ := gvR (m5 13 64 rfl rfl)
 refine Zc2 (τ := (X2 (Y5 .i64))) T2 Zn8 rfl [s3] [d2] rfl rfl (E7 s4) (Zk6 m6.relv) (by decide) (by decide) hS rfl ?_
 intro _ _ _ m7 hS m8
 exact qn m7 rfl hS m8
 intro _ s5 j1 d8 hS d4 h6 hcq
 have hS : St j1 s5 (b9 ++ L) := hS
 have Z4 := Z4.trans d8
 have a9 := a9.mono d8
 have a7 := a7.mono d8
 have c2 := c2.mono d8
 obtain ⟨_, s6, m9⟩ := gvS (h6 14 65 (by decide) rfl)
 obtain ⟨n0, c1⟩ := gd c1
 refine N6 (τ := (X2 (Y5 .i64))) Yb5 rfl (by exact (eM (h6 0 51 (by decide) rfl))) (by exact s6) c2 hS m9 n0 rfl ?_
 intro j2 _ s7 n1 hS
 refine Z5 (j2) rfl rfl (Z2 (X1 (Z0 (Z3 (vI a4) (by exact (evT (d4 8 rfl) e5)) rfl ?_))))
 refine W2 (a4 + 1) rfl rfl (IntWalk.i64_in _ (by omega)) rfl (Z5 (vI (a4 + 1)) rfl rfl (Z2 ?_))
 exact v2 _ _ ⟨c4, (a4 + 1), (b2 ++ [d2]), j1, s7, j2, c1, Z4, hS, (by omega), n1, a9, a7, (evT (d4 0 rfl) e4), (evT (d4 1 rfl) g4), (evT (d4 5 rfl) g5), rfl, (evT (d4 7 rfl) i8), rfl⟩
 intro o9
 obtain ⟨f7, c3⟩ | ⟨f7, c3⟩ := ic c3
 refine Z8 (Eq.trans (by exact e6) (congrArg vB f7)) (Z1 (Z0 (Z3 (a8) (by exact g2) rfl (Z3 (b8) (by exact e3) rfl ?_))))
 refine Zc2 (τ := (X2 (Y5 .i64))) T2 Zn8 rfl [b8] [a6] rfl rfl (E7 rfl) (Zk6 a7.relv) (by decide) (by decide) hS rfl ?_
 intro _ s8 _ d9 hS n2
 have Z4 := Z4.trans d9
 have a9 := a9.mono d9
 have a7 := a7.mono d9
 have a5 := a5.mono d9
 obtain ⟨n3, c3⟩ := gd c3
 refine N6 (τ := (X2 (Y5 .i64))) Yb5 rfl rfl rfl a5 hS n2 n3 rfl ?_
 intro j3 _ s9 n4 hS
 refine Z5 (j3) rfl rfl (Z2 (Z0 (Z5 (vB true) rfl rfl (Z2 ?_))))
 exact o9 _ _ ⟨true, (a3 ++ [a6]), s8, s9, j3, c3, Z4, hS, n4, a9, a7, g0, e3, g1, rfl, rfl, g3⟩
 refine Z7 (Eq.trans (by exact e6) (congrArg vB (W1 f7))) (Y6 ?_)
 exact o9 _ _ ⟨b4, a3, k9, b0, a8, c3, Z4, hS, a5, a9, a7, g0, e3, g1, g2, i6, g3⟩
 intro p0
 refine Z0 (Z3 (vB b4) (by exact d0) rfl (N8 (b := b4) rfl rfl (Z3 (vB (!b4)) rfl rfl ?_)))
 obtain ⟨b1, b6⟩ | ⟨b1, b6⟩ := ic b6
 refine Z9 rfl rfl (nT b1) rfl rfl rfl (Z9 rfl rfl (nT b1) rfl rfl rfl (Z9 rfl rfl (nT b1) rfl rfl rfl (Z9 rfl rfl (nT b1) rfl rfl rfl (Z9 rfl rfl (nT b1) rfl rfl rfl (Z9 rfl rfl (nT b1) rfl rfl rfl (Z9 rfl rfl (nT b1) rfl rfl rfl ?_))))))
 refine W6 (t := false) (vB false) (nT b1) ((if_neg Bool.false_ne_true).trans rfl) rfl (Z2 ?_)
 exact p0 _ _ ⟨false, i5, b6, Z4, hS, a9, a7, a5, c9, d5, d6, d7, d0, d1, rfl⟩
 refine Y1 rfl rfl (nT (W1 b1)) (Z3 (s0) (by exact c9) rfl ?_)
 refine Y1 rfl rfl (nT (W1 b1)) (Z3 (vI a4) (by exact d1) rfl ?_)
 obtain ⟨_, _, _, _, _, n5, n6, ⟨t0, rfl, n7⟩, n8⟩ := a9.elem (i := a4) (by omega) (by omega)
 refine Y1 rfl rfl (nT (W1 b1)) ?_
 refine X5 T2 rfl rfl n5 rfl (by omega) (by omega) rfl ?_
 refine Y1 rfl rfl (nT (W1 b1)) ?_
 refine Y0 (t0) P4 rfl (hS.froz _ _ n6) (n8 0 (show 0 < 1 by decide)) rfl ?_
 obtain ⟨e1, n9, b6⟩ := bind_some b6
 refine Y1 rfl rfl (nT (W1 b1)) ?_
 refine X3 call148 (R3 rfl) rfl (Zo9 n9 n7 hS) ?_
 rintro _ t1 _ e0 hS rfl
 have Z4 := Z4.trans e0
 have a9 := a9.mono e0
 have a7 := a7.mono e0
 have a5 := a5.mono e0
 refine Y1 rfl rfl (nT (W1 b1)) (Z3 (vI r3) (by exact d6) rfl ?_)
 refine Y1 rfl rfl (nT (W1 b1)) ?_
 refine Za9 (k := .i64) (a := e1) (b := r3) rfl rfl rfl ?_
 refine W6 (t := true) (vB (decide (r3 < e1))) (nT (W1 b1)) ((if_pos rfl).trans rfl) rfl (Z2 ?_)
 exact p0 _ _ ⟨(decide (r3 < e1)), t1, b6, Z4, hS, a9, a7, a5, c9, d5, d6, d7, d0, d1, rfl⟩
 refine Z7 (bF f3 rfl) ?_
 refine X7 rfl ?_
 obtain rfl := oi b6
 exact v3 _ _ ⟨b4, a3, i5, b0, a8, rfl, Z4, hS, a5, a7, d5, d7, d0⟩
 exact ⟨false, 0, ([] : List (List Int)), r2, r4, i4, b6, Z4, hS, (by omega), k8, a9, a7, q7, rfl, q8, rfl, rfl, rfl⟩
 rintro _ _ ⟨d3, b5, _, c7, b3, rfl, Z4, hS, c0, a7, h8, e7, h9⟩
 dsimp only [Ex.elim] at c8
 refine Z1 (Z1 (Z0 (Z3 (vB d3) (by exact h9) rfl (N8 (b := d3) rfl rfl (Z2 ?_)))))
 obtain ⟨f8, c8⟩ | ⟨f8, c8⟩ := ic c8
 refine Z7 (nT f8) (Y6 (Z1 (Z0 (Z3 (b3) (by exact e7) rfl (Z5 (b3) rfl rfl (Z2 ?_))))))
 refine Y9 (vs := [b3]) func224 ⟨rfl, trivial⟩ ?_
 obtain ⟨_, o0, hS, o1⟩ := c0.freeze hS
 have Z4 := Z4.trans o0
 obtain rfl := oi c8
 exact ⟨_, _, rfl, Z4, hS, o1⟩
 refine Z8 (nT (W1 f8)) (Z0 (Z3 (b3) (by exact e7) rfl (Z3 (b8) (by exact h8) rfl ?_)))
 refine Zc2 (τ := (X2 (Y5 .i64))) T2 Zn8 rfl [b8] [a6] rfl rfl (E7 rfl) (Zk6 a7.relv) (by decide) (by decide) hS rfl ?_
 intro _ _ _ h7 hS o2
 have Z4 := Z4.trans h7
 have c0 := c0.mono h7
 obtain ⟨o3, c8⟩ := gd c8
 refine N6 (τ := (X2 (Y5 .i64))) Yb5 rfl rfl rfl c0 hS o2 o3 rfl ?_
 intro f9 _ _ o4 hS
 refine Z5 (f9) rfl rfl (Z2 (Z1 (Z0 (Z3 (f9) rfl rfl (Z5 (f9) rfl rfl (Z2 ?_))))))
 refine Y9 (vs := [f9]) func224 ⟨rfl, trivial⟩ ?_
 obtain ⟨_, o5, hS, o6⟩ := o4.freeze hS
 have Z4 := Z4.trans o5
 obtain rfl := oi c8
 exact ⟨_, _, rfl, Z4, hS, o6⟩
def E9 (K : Nat) (a5 : (List A8)) (a1 : Int) : Nat → Int → A8 → Option (Ex (MpT × Int) (A8))
 | 0, _, _ => none
 | k + 1, a4, b0 => (if a4 < 8 then (if 20 < (Y4 (rd a5 a1) a4) then some (.ret (([] : List (A8 × Int)), 3)) else E9 K a5 a1 k (a4 + 1) (U8 b0 a4 (IntKind.u8.wrap (Y4 (rd a5 a1) a4)))) else some (.go b0))
def E5 (K : Nat) (a0 : MpT) (a5 : (List A8)) : Nat → Int → MpT → Option (Ex (MpT × Int) (MpT))
 | 0, _, _ => none
 | k + 1, a1, a6 => (if a1 < (a5.length : Int) then ((E9 K a5 a1 K 0 (fun _ => 0)).bind (Ex.elim (fun r => some (.ret r)) (fun s => (fun (a8 : A8) => (if a6.length + ([(a8, (N5 a0 (rd a5 a1)))]).length ≤ 1099511627776 then E5 K a0 a5 k (a1 + 1) (a6 ++ [(a8, (N5 a0 (rd a5 a1)))]) else none)) s))) else some (.go a6))
def Zp1 (K : Nat) (a0 : MpT) : Option (MpT × Int) := (if 400 < (a0.length : Int) then some (([] : List (A8 × Int)), 3) else ((Zq7 K a0).bind fun a5 => ((E5 K a0 a5 K 0 ([] : List (A8 × Int))).bind (Ex.elim (fun r => some r) (fun s => (fun (b3 : MpT) => some (b3, 0)) s)))))
theorem Yw4 {a0 : MpT} {r : (MpT × Int)} (q0 : Zp1 K a0 = some r) (b7 : N1 .i64 H s0 a0) (hS : St H w L) :
 Calls prog 112 #[s0] w (U7 (fun v G => (R.t2 (R.agg (X2 yT)) (R.int .i64)).p (G.new H) v r) H L) := by
 have Z4 := Sub.refl H
 refine X0 func112 rfl ntmps112 rfl ?_
 unfold Zp1 at q0
 refine Z1 (Z0 ?_)
 refine U4 (z := vA ([vN])) ([vN]).toArray Zl9.zero rfl hS rfl ?_
 intro b1 _ hS
 refine Z5 (vI 0) rfl rfl (Z2 (Z1 (Z1 (Z0 (Z3 (s0) rfl rfl ?_)))))
 refine Wl0 Zq8 rfl b7 hS rfl ?_
 refine Za9 (k := .i64) (a := (a0.length : Int)) (b := 400) rfl rfl rfl (Z2 ?_)
 obtain ⟨g1, q0⟩ | ⟨g1, q0⟩ := ic q0
 refine Z8 (bT g1 rfl) (Z1 (Z0 ?_))
 refine B5 (vA ([vN])) Yr1 rfl ?_
 refine W4 (v := vA ([vN])) (vs := ([vN]).toArray) (cs := ([vN]).toArray) Q4 rfl rfl rfl hS rfl (Zb5 rfl) rfl ?_
 intro _ hS
 refine Z5 (vI 3) rfl rfl (Z2 ?_)
 refine Y9 (vs := [vA ([vN]), vI 3]) func112 ⟨⟨_, rfl, P1 Q4 (hS.get mL) rfl⟩, rfl, trivial⟩ ?_
 obtain rfl := oi q0
 exact ⟨_, _, rfl, Z4, (St.dropA hS), ⟨_, _, rfl, ⟨_, rfl, ⟨_, rfl, Y3.nil⟩⟩, rfl⟩⟩
 refine Z7 (bF g1 rfl) (Y6 (Z1 (Z0 ?_)))
 refine B5 (vA ([vN])) Yr1 rfl ?_
 refine U4 (z := vA ([vN])) ([vN]).toArray Zl9.zero rfl hS rfl ?_
 intro b6 _ hS
 refine W4 (v := vA ([vN])) (vs := ([vN]).toArray) (cs := ([vN]).toArray) Q4 rfl rfl rfl hS rfl (Zb5 rfl) rfl ?_
 intro _ hS
 refine Z2 (Z1 (Z1 (Z0 (Z3 (s0) rfl rfl ?_))))
 obtain ⟨a5, h6, q0⟩ := bind_some q0
 refine X3 call195 (R3 rfl) rfl (Yo8 h6 b7 hS) ?_
 rintro d5 h5 _ g2 hS b5
 have Z4 := Z4.trans g2
 have b7 := b7.mono g2
 have j2 := b5.bound
 refine X9 Ya2 rfl b5 rfl (Z3 (vI 0) rfl rfl (Z2 (Y8 ?_)))
 have g3 : X8 yT 78 h5 (.slice none 0 0) [] [] := X8.nil _ _ _
 obtain ⟨g4, b8, e4⟩ := bind_some q0
 refine W0 (id := 0) (fun k f w => ∃ (a1 : Int) (a6 : MpT) (H1 : FH) (a7 : OL) (a3 : Value), E5 K a0 a5 k a1 a6 = some g4 ∧ Sub H H1 ∧ St H1 w (a7 ++ ([(b6, cA ([a3]) 45)] ++ ([(b1, cA ([vN]) 45)] ++ L))) ∧ 0 ≤ a1 ∧ X8 yT 78 H1 a3 a6 a7 ∧ N1 .i64 H1 s0 a0 ∧ Y3 (Q9 .i64) H1 d5 a5 ∧ tv f 0 = s0 ∧ tv f 2 = vP b1 ∧ tv f 4 = vP b6 ∧ tv f 16 = d5 ∧ tv f 17 = vI (a5.length : Int) ∧ tv f 18 = vI a1) (fun f w => ∃ (b3 : MpT) (H1 : FH) (b9 : OL) (b2 : Value), g4 = .go b3 ∧ Sub H H1 ∧ St H1 w (b9 ++ ([(b6, cA ([b2]) 45)] ++ ([(b1, cA ([vN]) 45)] ++ L))) ∧ X8 yT 78 H1 b2 b3 b9 ∧ tv f 2 = vP b1 ∧ tv f 4 = vP b6) rfl ?_ ?_ K ?_ ?_
 rintro f w ⟨a1, a6, H1, a7, a3, b8, _⟩
 rw [E5] at b8; cases b8
 rintro k _ _ i6 i7 ⟨a1, a6, g5, a7, a3, b8, Z4, hS, _, a9, b7, b5, f6, d6, d7, c9, d0, c4⟩
 rw [E5] at b8
 refine Z1 (Z0 ?_)
 refine W8 (k := .i64) (a := a1) (b := (a5.length : Int)) (by exact c4) (by exact d0) rfl (Z2 (Z1 ?_))
 obtain ⟨e7, b8⟩ | ⟨e7, b8⟩ := ic b8
 refine Z8 (bT e7 rfl) (Y6 (Z1 (Y8 (Z1 (Z0 ?_)))))
 obtain ⟨_, _, _, _, _, h7, h8, rfl, h9⟩ := b5.elem (i := a1) (by omega) (by omega)
 refine X5 Ya2 rfl (by exact c9) h7 (by exact c4) (by omega) (by omega) rfl ?_
 refine V0 (Z6 .i64 (rd a5 a1)) Q6 rfl (hS.froz _ _ h8) rfl h9 rfl ?_
 refine U4 (z := vA (Z6 .i64 (fun _ => 0))) (Z6 .i64 (fun _ => 0)).toArray Zk4.zero rfl hS rfl ?_
 intro e5 _ hS
 refine W4 (v := vA (Z6 .i64 (rd a5 a1))) (vs := (Z6 .i64 (rd a5 a1)).toArray) (cs := (Z6 .i64 (fun _ => 0)).toArray) Q6 rfl rfl rfl hS rfl (S8 .i64 (rd a5 a1)) rfl ?_
 intro _ hS
 refine Z2 (Z1 (Z0 ?_))
 refine B5 (vA (Z6 .u8 (fun _ => 0))) Wf1 rfl ?_
 refine U4 (z := vA (Z6 .u8 (fun _ => 0))) (Z6 .u8 (fun _ => 0)).toArray Yl0.zero rfl hS rfl ?_
 intro e6 _ hS
 refine W4 (v := vA (Z6 .u8 (fun _ => 0))) (vs := (Z6 .u8 (fun _ => 0)).toArray) (cs := (Z6 .u8 (fun _ => 0)).toArray) P5 rfl rfl rfl hS rfl (S8 .u8 (fun _ => 0)) rfl ?_
 intro _ hS
 refine Z2 (Z1 (Z1 (Z0 ?_)))
 refine W3 Q6 rfl (hS.get (mR mL)) rfl rfl (Z3 (vI 0) rfl rfl (Z2 (Y8 ?_)))
 obtain ⟨g6, b4, c5⟩ := bind_some b8
 refine W0 (id := 2) (fun k f w => ∃ (a4 : Int) (b0 : A8) (H1 : FH), E9 K a5 a1 k a4 b0 = some g6 ∧ Sub H H1 ∧ St H1 w ([(e6, cA (Z6 .u8 b0) 72)] ++ ([(e5, cA (Z6 .i64 (rd a5 a1)) 222)] ++ (a7 ++ ([(b6, cA ([a3]) 45)] ++ ([(b1, cA ([vN]) 45)] ++ L))))) ∧ 0 ≤ a4 ∧ N1 .i64 H1 s0 a0 ∧ Y3 (Q9 .i64) H1 d5 a5 ∧ X8 yT 78 H1 a3 a6 a7 ∧ tv f 0 = s0 ∧ tv f 2 = vP b1 ∧ tv f 4 = vP b6 ∧ tv f 6 = vP e5 ∧ tv f 7 = vP e6 ∧ tv f 16 = d5 ∧ tv f 17 = vI (a5.length : Int) ∧ tv f 18 = vI a1 ∧ tv f 23 = vA (Z6 .i64 (rd a5 a1)) ∧ tv f 24 = vI a4) (fun f w => ∃ (a8 : A8) (H1 : FH), g6 = .go a8 ∧ Sub H H1 ∧ St H1 w ([(e6, cA (Z6 .u8 a8) 72)] ++ ([(e5, cA (Z6 .i64 (rd a5 a1)) 222)] ++ (a7 ++ ([(b6, cA ([a3]) 45)] ++ ([(b1, cA ([vN]) 45)] ++ L))))) ∧ N1 .i64 H1 s0 a0 ∧ Y3 (Q9 .i64) H1 d5 a5 ∧ X8 yT 78 H1 a3 a6 a7 ∧ tv f 0 = s0 ∧ tv f 2 = vP b1 ∧ tv f 4 = vP b6 ∧ tv f 6 = vP e5 ∧ tv f 7 = vP e6 ∧ tv f 16 = d5 ∧ tv f 17 = vI (a5.length : Int) ∧ tv f 18 = vI a1) rfl ?_ ?_ K ?_ ?_
 rintro f w ⟨a4, b0, H1, b4, _⟩
 rw [E9] at b4; cases b4
 rintro k _ _ i8 i9 ⟨a4, b0, g7, b4, Z4, hS, _, b7, b5, a9, d8, c2, d9, e0, c6, d1, d2, d3, d4, c0⟩
 rw [E9] at b4
 refine Z1 (Z0 ?_)
 refine W8 (k := .i64) (a := a4) (b := 8) (by exact c0) rfl rfl (Z2 (Z1 ?_))
 obtain ⟨e8, b4⟩ | ⟨e8, b4⟩ := ic b4
 refine Z8 (bT e8 rfl) (Y6 (Z1 (Y8 (Z1 (Z0 (Z3 (vI a4) (by exact c0) rfl ?_))))))
 refine Yl9 (vI (Y4 (rd a5 a1) a4)) Zk7 (by exact d4) (by exact c0) (by omega) (by omega) (Yk2 (by omega) (by omega)) rfl (Z5 (vI a4) rfl rfl (Z5 (vI (Y4 (rd a5 a1) a4)) rfl rfl (Z2 (Z1 (Z1 (Z0 (Z3 (vI (Y4 (rd a5 a1) a4)) rfl rfl ?_)))))))
 refine Za9 (k := .i64) (a := (Y4 (rd a5 a1) a4)) (b := 20) rfl rfl rfl (Z2 ?_)
 obtain ⟨e9, b4⟩ | ⟨e9, b4⟩ := ic b4
 refine Z8 (bT e9 rfl) (Z1 (Z0 ?_))
 refine B5 (vA ([vN])) Yr1 rfl ?_
 have hS := hS.perm We5
 refine W4 (v := vA ([vN])) (vs := ([vN]).toArray) (cs := ([vN]).toArray) Q4 (by exact c2) rfl rfl hS rfl (Zb5 rfl) rfl ?_
 intro _ hS
 have hS := hS.perm We5.symm
 refine Z5 (vI 3) rfl rfl (Z2 ?_)
 refine Y9 (vs := [vA ([vN]), vI 3]) func112 ⟨⟨_, (by exact c2), P1 Q4 (hS.get (mR (mR (mR (mR mL))))) rfl⟩, rfl, trivial⟩ ?_
 obtain rfl := oi b4
 dsimp only [Ex.elim] at c5
 obtain rfl := oi c5
 dsimp only [Ex.elim] at e4
 obtain rfl := oi e4
 exact ⟨_, _, rfl, Z4, (St.dropA (St.dropA (St.dropA (St.dropA (St.dropA hS))))), ⟨_, _, rfl, ⟨_, rfl, ⟨_, rfl, Y3.nil⟩⟩, rfl⟩⟩
 refine Z7 (bF e9 rfl) (Y6 (Z0 (Z3 (vI a4) rfl rfl (Z3 (vI (Y4 (rd a5 a1) a4)) rfl rfl ?_))))
 refine Yk5 (s := .i64) ((IntKind.u8.wrap (Y4 (rd a5 a1) a4))) Wh4 rfl rfl rfl ?_
 refine V5 Ze8 (by exact c6) rfl (by omega) (by omega) rfl ?_
 refine K6 (v := Value.int .u8 (IntKind.u8.wrap (Y4 (rd a5 a1) a4))) (cs := (Z6 .u8 b0).toArray) (cs' := (Z6 .u8 (U8 b0 a4 (IntKind.u8.wrap (Y4 (rd a5 a1) a4)))).toArray) ty5 rfl rfl hS rfl (Zs5 rfl) (by simp [Z6, N9]; omega) (Zh7 (by omega) (by omega)) ?_
 intro _ hS
 refine Z2 (X1 (Z0 ?_))
 refine W2 (a4 + 1) (by exact c0) rfl (IntWalk.i64_in _ (by omega)) rfl (Z3 (vI (a4 + 1)) rfl rfl (Z2 ?_))
 exact i8 _ _ ⟨(a4 + 1), (U8 b0 a4 (IntKind.u8.wrap (Y4 (rd a5 a1) a4))), g7, b4, Z4, hS, (by omega), b7, b5, a9, d8, c2, d9, e0, c6, d1, d2, d3, d4, rfl⟩
 refine Z7 (bF e8 rfl) ?_
 refine X7 rfl ?_
 obtain rfl := oi b4
 exact i9 _ _ ⟨b0, g7, rfl, Z4, hS, b7, b5, a9, d8, c2, d9, e0, c6, d1, d2, d3⟩
 exact ⟨0, (fun _ => 0), g5, b4, Z4, hS, (by omega), b7, b5, a9, f6, d6, d7, rfl, rfl, c9, d0, c4, rfl, rfl⟩
 rintro _ _ ⟨a8, _, rfl, Z4, hS, b7, b5, a9, e1, f7, e2, f8, f9, f0, f1, f2⟩
 dsimp only [Ex.elim] at c5
 have K5 := Z4
 refine W7 8 (S9 [mE 36 (vP b6), mE 37 (a3), mE 38 (vA (Z6 .u8 a8)), mE 39 (s0), mE 40 (vA (Z6 .i64 (rd a5 a1))), mE 41 (vI (N5 a0 (rd a5 a1))), mE 42 (vA (Z6 .u8 a8 ++ [vI (N5 a0 (rd a5 a1))])), (43, MP.sl yT ([(a8, (N5 a0 (rd a5 a1)))]))]) [] mixed rfl rfl rfl hS (V9 ?_ ?_ ?_ ?_ ?_ ?_ ?_ ?_ V1) ?_
 exact X4 fun S B => Y2 U3 (evT (B 4 rfl) e2) rfl (qz S)
 exact Y7 fun S V => Y0 (a3) Q7 (eM (V 0 36 rfl rfl)) (S.get (mR (mR (mR (mR mL))))) rfl rfl (qz S)
 exact X4 fun S B => W3 P5 (evT (B 7 rfl) f9) (S.get (mR mL)) rfl rfl (qz S)
 exact X4 fun S B => Z3 (s0) (evT (B 0 rfl) e1) rfl (qz S)
 exact X4 fun S B => W3 Q6 (evT (B 6 rfl) f8) (S.get (mR (mR mL))) rfl rfl (qz S)
 exact P0 fun s S V => Xo2 (a := (rd a5 a1)) Zq8 (eM (V 3 39 rfl rfl)) (eM (V 4 40 rfl rfl)) (b7.mono s) S rfl (qz S)
 exact Y7 fun S V => Zu1 (Z6 .u8 a8 ++ [vI (N5 a0 (rd a5 a1))]) Xl8 (Zz7 (eM (V 2 38 rfl rfl)) (eM (V 5 41 rfl rfl))) (F2 rfl rfl rfl (nl rfl) (F2 rfl rfl rfl (nl rfl) (Zp8 rfl))) rfl (qz S)
 intro _ _ j0 _ i0 hS _ i1 hcq
 have Z4 := Sub.refl j0
 have Zb3 := K5.trans i0
 refine Zc2 (τ := yT) R9 Ye6 rfl [vA (Z6 .u8 a8 ++ [vI (N5 a0 (rd a5 a1))])] [(a8, (N5 a0 (rd a5 a1)))] rfl rfl (E7 (eM (i1 6 42 rfl rfl))) (Zk6 ⟨_, _, rfl, rfl, rfl⟩) (by decide) (by decide) hS rfl ?_
 intro _ _ _ h0 hS h1
 have Z4 := Z4.trans h0
 exact Z2 ⟨43, _, _, rfl, rfl, Z4, hS, h1⟩
 intro _ i2 g8 c7 hS c3 f4 hcq
 have hS : St g8 i2 ([(e6, cA (Z6 .u8 a8) 72)] ++ ([(e5, cA (Z6 .i64 (rd a5 a1)) 222)] ++ (a7 ++ ([(b6, cA ([a3]) 45)] ++ ([(b1, cA ([vN]) 45)] ++ L))))) := hS
 have Z4 := Z4.trans c7
 have b7 := b7.mono c7
 have b5 := b5.mono c7
 have a9 := a9.mono c7
 have g9 := evT (c3 4 rfl) e2
 obtain ⟨_, i3, h2⟩ := gvS (f4 7 43 (by decide) rfl)
 obtain ⟨h3, c5⟩ := gd c5
 have hS := hS.perm Zb1
 refine N6 (τ := yT) Xa7 rfl (by exact (eM (f4 1 37 (by decide) rfl))) (by exact i3) a9 hS h2 h3 rfl ?_
 intro f3 _ i4 f5 hS
 have hS := hS.perm Zb1.symm
 refine Y2 U3 (by exact g9) rfl ?_
 have hS := hS.perm Xf2
 refine Zd3 (v := f3) (cs := ([a3]).toArray) (cs' := ([f3]).toArray) Q7 rfl rfl hS f5.isOne rfl (nl rfl) rfl ?_
 intro _ hS
 have hS := hS.perm Xf2.symm
 refine Z2 (X1 (Z0 ?_))
 refine W2 (a1 + 1) (by exact (evT (c3 18 rfl) f2)) rfl (IntWalk.i64_in _ (by omega)) rfl (Z3 (vI (a1 + 1)) rfl rfl (Z2 ?_))
 have hS := St.dropA hS
 have hS := St.dropA hS
 exact i6 _ _ ⟨(a1 + 1), (a6 ++ [(a8, (N5 a0 (rd a5 a1)))]), g8, i4, f3, c5, Z4, hS, (by omega), f5, b7, b5, (evT (c3 0 rfl) e1), (evT (c3 2 rfl) f7), g9, (evT (c3 16 rfl) f0), (evT (c3 17 rfl) f1), rfl⟩
 refine Z7 (bF e7 rfl) ?_
 refine X7 rfl ?_
 obtain rfl := oi b8
 exact i7 _ _ ⟨a6, g5, a7, a3, rfl, Z4, hS, a9, d6, d7⟩
 exact ⟨0, ([] : List (A8 × Int)), h5, ([]), (vN), b8, Z4, hS, (by omega), g3, b7, b5, rfl, rfl, rfl, rfl, rfl, rfl⟩
 rintro _ _ ⟨b3, _, b9, b2, rfl, Z4, hS, c1, e3, g0⟩
 dsimp only [Ex.elim] at e4
 refine Z1 (Z0 ?_)
 refine W3 Q4 (by exact g0) (hS.get (mR mL)) rfl rfl ?_
 have hS := hS.perm Zb1
 refine W4 (v := vA ([b2])) (vs := ([b2]).toArray) (cs := ([vN]).toArray) Q4 (by exact e3) rfl rfl hS rfl (Zb5 c1.isOne) rfl ?_
 intro _ hS
 have hS := hS.perm Zb1.symm
 refine Z5 (vI 0) rfl rfl (Z2 ?_)
 refine Y9 (vs := [vA ([b2]), vI 0]) func112 ⟨⟨_, (by exact e3), P1 Q4 (hS.get (mR (mR mL))) rfl⟩, rfl, trivial⟩ ?_
 obtain ⟨i5, h4, hS, c8⟩ := X8.freezeF (τ := yT) (H0 := H) c1 hS Z4
 have j1 := Y3.old c8
 have c8 : RdF yT H i5 b2 b3 := c8
 have Z4 := Z4.trans h4
 obtain rfl := oi e4
 exact ⟨_, _, rfl, Z4, (St.dropA (St.dropA hS)), ⟨_, _, rfl, ⟨_, rfl, ⟨_, rfl, c8⟩⟩, rfl⟩⟩
def V7 (K : Nat) (a1 : (List Int)) (a5 : (A8 × Int)) : Nat → MpT → MpT → Option (Ex MpT (MpT))
 | 0, _, _ => none
 | k + 1, [], a3 => some (.go a3)
 | k + 1, c3 :: d9, a3 => ((E3 K a5.1 a1 c3.1).bind fun a7 => (if a7.2 = 0 then V7 K a1 a5 k d9 a3 else ((T3 K a3 a7.1 (((IntKind.i64.wrap ((IntKind.i64.wrap (a7.2 * a5.2)) * c3.2))).tmod 10007)).bind fun f6 => V7 K a1 a5 k d9 f6)))
theorem Yj0 {a1 : (List Int)} {a5 : (A8 × Int)} {a3 : MpT} {k : Nat} {zp zq : MpT} {o : Ex MpT (MpT)} (hp : zp.Perm zq) (q : V7 K a1 a5 k zp a3 = some o) : V7 K a1 a5 k zq a3 = some o := by
 exact (Yl8 (K := K) (fun k zs s => V7 K a1 a5 k zs s) (by intros; rw [V7])
  (fun z => ⟨fun s => (E3 K a5.1 a1 z.1).bind fun r => if r.2 = 0 then some s else T3 K s r.1 (((IntKind.i64.wrap ((IntKind.i64.wrap (r.2 * a5.2)) * z.2))).tmod 10007), .const fun r => .ite .skip (.add _ _), by
   intro k zs s
   rw [V7]
   cases E3 K a5.1 a1 z.1 with
   | none => rfl
   | some r => simp only [Option.bind_some]; split <;> rfl⟩) hp k a3).symm.trans q
def S6 (K : Nat) (a1 : (List Int)) (a2 : MpT) : Nat → MpT → MpT → Option (Ex MpT (MpT))
 | 0, _, _ => none
 | k + 1, [], a4 => some (.go a4)
 | k + 1, a5 :: e0, a4 => ((V7 K a1 a5 K a2 a4).bind (Ex.elim (fun r => some (.ret r)) (fun s => (fun (b4 : MpT) => S6 K a1 a2 k e0 b4) s)))
theorem Yk8 {a1 : (List Int)} {a2 : MpT} {a4 : MpT} {k : Nat} {zp zq : MpT} {o : Ex MpT (MpT)} (hp : zp.Perm zq) (q : S6 K a1 a2 k zp a4 = some o) : S6 K a1 a2 k zq a4 = some o := by
 have hl : ∀ (z : A8 × Int) (k : Nat) (zs : MpT), Zq1 K (fun (_ : Unit) s => s) (fun s => V7 K a1 z k zs s) := by
  intro z k
  induction k with
  | zero => intro zs; exact ⟨none, fun s => (show V7 K a1 z 0 zs s = none by rw [V7])⟩
  | succ k ih =>
   intro zs
   cases zs with
   | nil =>
    have e : (fun s => V7 K a1 z (k + 1) [] s) = fun s => some (.go s) := by funext s; rw [V7]
    rw [e]; exact .go (h := fun (_ : Unit) s => s) ()
   | cons y zs =>
    have e : (fun s => V7 K a1 z (k + 1) (y :: zs) s) = fun s => (E3 K z.1 a1 y.1).bind fun r => if r.2 = 0 then V7 K a1 z k zs s else (T3 K s r.1 (((IntKind.i64.wrap ((IntKind.i64.wrap (r.2 * z.2)) * y.2))).tmod 10007)).bind fun t => V7 K a1 z k zs t := by
     funext s; rw [V7]
    rw [e]
    exact .const fun r => .ite (ih zs) (.bind (.add _ _) (ih zs))
 exact (Yl8 (K := K) (fun k zs s => S6 K a1 a2 k zs s) (by intros; rw [S6])
  (fun z => by
   obtain ⟨F, hF, hs⟩ := (hl z K a2).step (fun s => s) (fun _ _ => rfl)
   refine ⟨F, hF, fun k zs s => ?_⟩
   rw [S6]
   exact hs _ (S6 K a1 a2 k zs) s) hp k a4).symm.trans q
def D4 (K : Nat) (a0 : MpT) (a1 : (List Int)) (a2 : MpT) : Option MpT := ((S6 K a1 a2 K a0 ([] : MpT)).bind (Ex.elim (fun r => some r) (fun s => (fun (b8 : MpT) => some b8) s)))
theorem Yc6 {a0 : MpT} {a1 : (List Int)} {a2 : MpT} {r : MpT} (q0 : D4 K a0 a1 a2 = some r) (h5 : N1 .i64 H s0 a0) (b6 : Y3 (Y5 .i64) H s1 a1) (b7 : N1 .i64 H s2 a2) (hS : St H w L) :
 Calls prog 128 #[s0, s1, s2] w (Xq5 .i64 r H L) := by
 have Z4 := Sub.refl H
 refine X0 func128 rfl ntmps128 rfl ?_
 unfold D4 at q0
 refine Z1 (Z0 (Z5 (Value.map none) rfl rfl (Z2 (Z1 (Z0 ?_)))))
 refine Yg2 (k := .i64) hS rfl ?_
 intro m1 _ C3 h6 hS
 refine Z5 (m1) rfl rfl (Z2 (Z1 (Z1 (Z0 (Z3 (s0) rfl rfl ?_)))))
 refine Yi4 Zq8 rfl h5 hS rfl ?_
 intro e1 _ C8 h7 hS
 refine Z2 (Y8 ?_)
 obtain ⟨f7, b5, f8⟩ := bind_some q0
 refine W0 (id := 0) (fun k f w => ∃ (b9 : MpT) (a4 : MpT) (H1 : FH) (b0 : OL) (a8 : OL), S6 K a1 a2 k b9 a4 = some f7 ∧ Sub H H1 ∧ St H1 w (b0 ++ (a8 ++ L)) ∧ Zg2 .i64 H1 e1 b9 none b0 ∧ Q2 .i64 m1 a4 a8 ∧ Y3 (Y5 .i64) H1 s1 a1 ∧ N1 .i64 H1 s2 a2 ∧ tv f 1 = s1 ∧ tv f 2 = s2 ∧ tv f 7 = m1 ∧ tv f 16 = e1) (fun f w => ∃ (b8 : MpT) (H1 : FH) (c4 : OL) (c8 : OL), f7 = .go b8 ∧ Sub H H1 ∧ St H1 w (c4 ++ (c8 ++ L)) ∧ Zg2 .i64 H1 e1 ([] : MpT) none c4 ∧ Q2 .i64 m1 b8 c8 ∧ tv f 7 = m1) rfl ?_ ?_ K ?_ ?_
 rintro f w ⟨b9, a4, H1, b0, a8, b5, _⟩
 rw [S6] at b5; cases b5
 rintro k _ _ h8 h9 ⟨b9, a4, f9, b0, a8, b5, Z4, hS, d2, d8, b6, b7, f1, e3, e4, c9⟩
 refine Z1 (Z0 ?_)
 refine Yo0 (by exact c9) d2 hS rfl ?_ ?_
 intro g5; subst g5
 rw [S6] at b5
 refine V3 (vB false) rfl rfl rfl (Z2 (Z1 (Z7 rfl ?_)))
 refine X7 rfl ?_
 obtain rfl := oi b5
 exact h9 _ _ ⟨a4, f9, b0, a8, rfl, Z4, hS, d2, d8, e4⟩
 intro a5 e0 _ e5 g6 b3 hS
 replace b5 := Yk8 g6 b5
 rw [S6] at b5
 refine V3 (vB true) rfl rfl rfl (Z2 (Z1 (Z8 rfl (Y6 (Y8 (Z1 (Z0 ?_)))))))
 refine Yi5 (by exact c9) b3 hS rfl (V3 (vA (Z6 .i64 a5.1)) rfl rfl rfl (V3 (vI a5.2) rfl rfl rfl ?_))
 refine U4 (z := vA (Z6 .i64 (fun _ => 0))) (Z6 .i64 (fun _ => 0)).toArray Zk4.zero rfl hS rfl ?_
 intro g0 _ hS
 refine W4 (v := vA (Z6 .i64 a5.1)) (vs := (Z6 .i64 a5.1).toArray) (cs := (Z6 .i64 (fun _ => 0)).toArray) Q6 rfl rfl rfl hS rfl (S8 .i64 a5.1) rfl ?_
 intro _ hS
 refine Z5 (vI a5.2) rfl rfl (Z2 (Z1 (Z0 (Z3 (s2) (by exact e3) rfl ?_))))
 refine Yi4 Zq8 rfl b7 hS rfl ?_
 intro e8 _ i0 g7 hS
 refine Z2 (Y8 ?_)
 obtain ⟨g1, a6, g2⟩ := bind_some b5
 refine W0 (id := 2) (fun k f w => ∃ (c0 : MpT) (a3 : MpT) (H1 : FH) (b1 : OL) (a9 : OL), V7 K a1 a5 k c0 a3 = some g1 ∧ Sub H H1 ∧ St H1 w (b1 ++ ([(g0, cA (Z6 .i64 a5.1) 222)] ++ (e5 ++ (a9 ++ L)))) ∧ Zg2 .i64 H1 e8 c0 none b1 ∧ Q2 .i64 m1 a3 a9 ∧ Y3 (Y5 .i64) H1 s1 a1 ∧ N1 .i64 H1 s2 a2 ∧ Zg2 .i64 H1 e1 e0 (some a5) e5 ∧ tv f 1 = s1 ∧ tv f 2 = s2 ∧ tv f 7 = m1 ∧ tv f 8 = vP g0 ∧ tv f 9 = vI a5.2 ∧ tv f 16 = e1 ∧ tv f 23 = e8) (fun f w => ∃ (b4 : MpT) (H1 : FH) (c5 : OL) (c1 : OL), g1 = .go b4 ∧ Sub H H1 ∧ St H1 w (c5 ++ ([(g0, cA (Z6 .i64 a5.1) 222)] ++ (e5 ++ (c1 ++ L)))) ∧ Zg2 .i64 H1 e8 ([] : MpT) none c5 ∧ Q2 .i64 m1 b4 c1 ∧ Y3 (Y5 .i64) H1 s1 a1 ∧ N1 .i64 H1 s2 a2 ∧ Zg2 .i64 H1 e1 e0 (some a5) e5 ∧ tv f 1 = s1 ∧ tv f 2 = s2 ∧ tv f 7 = m1 ∧ tv f 16 = e1) rfl ?_ ?_ K ?_ ?_
 rintro f w ⟨c0, a3, H1, b1, a9, a6, _⟩
 rw [V7] at a6; cases a6
 rintro k _ _ g3 i1 ⟨c0, a3, g8, b1, a9, a6, Z4, hS, d3, b2, b6, b7, b3, c6, d4, c7, d5, d6, d0, c2⟩
 refine Z1 (Z0 ?_)
 refine Yo0 (by exact c2) d3 hS rfl ?_ ?_
 intro g9; subst g9
 rw [V7] at a6
 refine V3 (vB false) rfl rfl rfl (Z2 (Z1 (Z7 rfl ?_)))
 refine X7 rfl ?_
 obtain rfl := oi a6
 exact i1 _ _ ⟨a3, g8, b1, a9, rfl, Z4, hS, d3, b2, b6, b7, b3, c6, d4, c7, d0⟩
 intro c3 d9 _ g4 h0 d1 hS
 replace a6 := Yj0 h0 a6
 rw [V7] at a6
 refine V3 (vB true) rfl rfl rfl (Z2 (Z1 (Z8 rfl (Y6 (Y8 (Z1 (Z0 ?_)))))))
 refine Yi5 (by exact c2) d1 hS rfl (V3 (vA (Z6 .i64 c3.1)) rfl rfl rfl (V3 (vI c3.2) rfl rfl rfl ?_))
 refine U4 (z := vA (Z6 .i64 (fun _ => 0))) (Z6 .i64 (fun _ => 0)).toArray Zk4.zero rfl hS rfl ?_
 intro _ _ hS
 refine W4 (v := vA (Z6 .i64 c3.1)) (vs := (Z6 .i64 c3.1).toArray) (cs := (Z6 .i64 (fun _ => 0)).toArray) Q6 rfl rfl rfl hS rfl (S8 .i64 c3.1) rfl ?_
 intro _ hS
 refine Z5 (vI c3.2) rfl rfl (Z2 (Z1 (Z0 ?_)))
 refine W3 Q6 (by exact d5) (hS.get (mR (mR mL))) rfl rfl (Z3 (s1) (by exact c6) rfl ?_)
 refine W3 Q6 rfl (hS.get mL) rfl rfl ?_
 obtain ⟨a7, h1, a6⟩ := bind_some a6
 refine X3 call216 (D8 rfl rfl rfl) rfl (Yo6 h1 b6 hS) ?_
 rintro _ i2 _ d7 hS ⟨_, _, rfl, ⟨_, rfl, rfl⟩, rfl⟩
 have Z4 := Z4.trans d7
 have b6 := b6.mono d7
 have b7 := b7.mono d7
 have b2 := b2.mono d7
 have b3 := b3.mono d7
 have d1 := d1.mono d7
 refine Z3 (Value.tuple #[vA (Z6 .i64 a7.1), vI a7.2]) rfl rfl (V3 (vA (Z6 .i64 a7.1)) rfl rfl rfl (V3 (vI a7.2) rfl rfl rfl ?_))
 refine U4 (z := vA (Z6 .i64 (fun _ => 0))) (Z6 .i64 (fun _ => 0)).toArray Zk4.zero rfl hS rfl ?_
 intro _ _ hS
 refine W4 (v := vA (Z6 .i64 a7.1)) (vs := (Z6 .i64 a7.1).toArray) (cs := (Z6 .i64 (fun _ => 0)).toArray) Q6 rfl rfl rfl hS rfl (S8 .i64 a7.1) rfl ?_
 intro _ hS
 refine Z5 (vI a7.2) rfl rfl (Z2 (Z1 (Z0 (Z3 (vI a7.2) rfl rfl ?_))))
 refine M0 (k := .i64) (a := a7.2) (b := 0) rfl rfl rfl (Z2 ?_)
 obtain ⟨e9, a6⟩ | ⟨e9, a6⟩ := ic a6
 refine Z7 (bN e9 rfl) (Y6 (X1 ?_))
 have hS := St.dropA hS
 have hS := St.dropA hS
 exact g3 _ _ ⟨d9, a3, i2, g4, a9, a6, Z4, hS, d1.drop, b2, b6, b7, b3, c6, d4, c7, d5, d6, d0, c2⟩
 refine Z8 (bO e9 rfl) (Z0 (Z3 (m1) (by exact c7) rfl ?_))
 refine W3 Q6 rfl (hS.get mL) rfl rfl (Z3 (vI a7.2) rfl rfl (Z3 (vI a5.2) (by exact d6) rfl ?_))
 refine Zg4 (IntKind.i64.wrap (a7.2 * a5.2)) rfl rfl rfl rfl (Z3 (vI c3.2) rfl rfl ?_)
 refine Zg4 (IntKind.i64.wrap ((IntKind.i64.wrap (a7.2 * a5.2)) * c3.2)) rfl rfl rfl rfl ?_
 refine Zc1 (((IntKind.i64.wrap ((IntKind.i64.wrap (a7.2 * a5.2)) * c3.2))).tmod 10007) rfl rfl (by decide) rfl rfl ?_
 obtain ⟨f6, h2, a6⟩ := bind_some a6
 have hS := hS.perm Xg7
 refine U9 call217 (D8 rfl rfl rfl) rfl (Zy8 h2 b2 hS) ?_
 rintro _ _ ⟨i3, i4, rfl, e2, hS, h3⟩
 refine ⟨_, rfl, ?_⟩
 have Z4 := Z4.trans e2
 have b6 := b6.mono e2
 have b7 := b7.mono e2
 have b3 := b3.mono e2
 have d1 := d1.mono e2
 have hS := hS.perm Xg7.symm
 refine Z2 (X1 ?_)
 have hS := St.dropA hS
 have hS := St.dropA hS
 exact g3 _ _ ⟨d9, f6, i3, g4, i4, a6, Z4, hS, d1.drop, h3, b6, b7, b3, c6, d4, c7, d5, d6, d0, c2⟩
 exact ⟨a2, a4, f9, i0, a8, a6, Z4, hS, g7, d8, b6, b7, b3, f1, e3, e4, rfl, rfl, c9, rfl⟩
 rintro _ _ ⟨b4, h4, c5, c1, rfl, Z4, hS, _, e6, b6, b7, b3, f2, f3, f4, f0⟩
 dsimp only [Ex.elim] at g2
 refine X1 ?_
 have hS := St.dropA hS
 have hS := St.dropA hS
 exact h8 _ _ ⟨e0, b4, h4, e5, c1, g2, Z4, hS, b3.drop, e6, b6, b7, f2, f3, f4, f0⟩
 exact ⟨a0, ([] : MpT), H, C8, C3, b5, Z4, hS, h7, h6, b6, b7, rfl, rfl, rfl, rfl⟩
 rintro _ _ ⟨b8, _, c4, c8, rfl, Z4, hS, _, e7, f5⟩
 dsimp only [Ex.elim] at f8
 refine Z1 (Z0 (Z3 (m1) (by exact f5) rfl (Z5 (m1) rfl rfl (Z2 ?_))))
 refine Y9 (vs := [m1]) func128 ⟨rfl, trivial⟩ ?_
 have hS := hS.perm R6
 have hS := St.dropMid hS
 obtain rfl := oi f8
 exact ⟨_, _, _, rfl, Z4, hS, e7⟩
def Zr8 (K : Nat) (a0 : MpT) (a1 : ((List Int) × (List MpT))) : Option Bool := ((Zo0 K a1.1 a0).bind fun a4 => some (!a4))
theorem Yj3 {a0 : MpT} {a1 : ((List Int) × (List MpT))} {r : Bool} (q0 : Zr8 K a0 a1 = some r) (a8 : Y3 yT H s0 a0) (c0 : Zs8 (Vh4 (Yh5 (X2 (Y5 .i64)) (X2 (X2 yT)))) H s1 a1) (hS : St H w L) :
 Calls prog 149 #[vA ([s0]), s1] w (U7 (fun v G => R.bool.p G v r) H L) := by
 obtain ⟨_, _, _, _, _, rfl, b4, ⟨_, rfl, ⟨a6, a7, _, _, _, rfl, b2, ⟨_, _, rfl, ⟨a5, rfl, a3⟩, ⟨_, rfl, _⟩⟩, b3⟩⟩, b5⟩ := c0
 have Z4 := Sub.refl H
 refine X0 func149 rfl ntmps149 rfl ?_
 unfold Zr8 at q0
 refine Z1 (Z0 ?_)
 refine T7 (v := vA ([s0])) ([s0]).toArray rfl rfl hS rfl ?_
 intro b1 _ hS
 refine Z5 (vB false) rfl rfl (Z2 (Z1 ?_))
 obtain ⟨a4, b6, q0⟩ := bind_some q0
 refine W7 8 (S9 [mE 4 (vQ a6 a7), mE 5 (vQ a6 a7), mE 6 (vQ a6 (a7 + 0)), mE 7 (a5), mE 8 (vA ([s0])), mE 9 (vB a4), mE 10 (vB (!a4)), mE 3 (vB (!a4))]) [] mixed rfl rfl rfl hS (V9 ?_ ?_ ?_ ?_ ?_ ?_ ?_ ?_ V1) ?_
 exact Ve8 fun s S B => Y0 (vQ a6 a7) Vg7 (evT (B 1 rfl) rfl) (S.froz _ _ (s.1 _ _ b4)) (b5 0 (show 0 < 1 by decide)) rfl (qz S)
 exact Y7 fun S V => V4 (eM (V 0 4 rfl rfl)) rfl (qz S)
 exact Y7 fun S V => Y2 L6 (eM (V 1 5 rfl rfl)) rfl (qz S)
 exact P0 fun s S V => Y0 (a5) P4 (eM (V 2 6 rfl rfl)) (S.froz _ _ (s.1 _ _ b2)) (b3 0 (show 0 < 2 by decide)) rfl (qz S)
 exact X4 fun S B => W3 Q4 (evT (B 2 rfl) rfl) (S.get (mR mL)) rfl rfl (qz S)
 intro _ _ _ _ a9 hS _ b0 hcq
 have a3 := a3.mono a9
 have a8 := a8.mono a9
 refine X3 call121 (V2 (eM (b0 3 7 rfl rfl)) (eM (b0 4 8 rfl rfl))) rfl (Ya7 b6 a3 a8 hS) ?_
 rintro _ _ _ b7 hS rfl
 exact qn b7 rfl hS rfl
 exact Y7 fun S V => N8 (b := a4) (eM (V 5 9 rfl rfl)) rfl (qz S)
 exact Y7 fun S V => Z5 (vB (!a4)) (eM (V 6 10 rfl rfl)) rfl (qz S)
 intro _ c1 c2 b8 hS _ b9 hcq
 have hS : St c2 c1 ([(b1, cA ([s0]) 45)] ++ L) := hS
 have Z4 := Z4.trans b8
 refine Z2 ?_
 refine Y9 (vs := [vB (!a4)]) func149 ⟨(by exact (eM (b9 7 3 (by decide) rfl))), trivial⟩ ?_
 obtain rfl := oi q0
 exact ⟨_, _, rfl, Z4, (St.dropA hS), rfl⟩
def Zt7 (K : Nat) (a0 : MpT) (a1 : MpT) : Option Bool := ((Zr0 K a0 a1).bind fun r7 => (if r7 = true then some true else some false))
theorem Xc3 {a0 : MpT} {a1 : MpT} {r : Bool} (q0 : Zt7 K a0 a1 = some r) (a4 : Y3 yT H s0 a0) (a5 : Y3 yT H s1 a1) (hS : St H w L) :
 Calls prog 28 #[vA ([s0]), vA ([s1])] w (U7 (fun v G => R.bool.p G v r) H L) := by
 have Z4 := Sub.refl H
 refine X0 func28 rfl ntmps28 rfl ?_
 unfold Zt7 at q0
 refine Z1 (Z0 ?_)
 refine T7 (v := vA ([s0])) ([s0]).toArray rfl rfl hS rfl ?_
 intro _ _ hS
 refine T7 (v := vA ([s1])) ([s1]).toArray rfl rfl hS rfl ?_
 intro _ _ hS
 refine Z5 (vB false) rfl rfl (Z2 (Z1 (Z1 (Z0 (Y2 U3 rfl rfl ?_)))))
 refine Y0 (s0) Q7 rfl (hS.get (mR mL)) rfl rfl (Y2 U3 rfl rfl ?_)
 refine Y0 (s1) Q7 rfl (hS.get mL) rfl rfl ?_
 obtain ⟨r7, a6, q0⟩ := bind_some q0
 refine X3 call94 (V2 rfl rfl) rfl (Yy8 a6 a4 a5 hS) ?_
 rintro _ _ _ a7 hS rfl
 have Z4 := Z4.trans a7
 refine N8 (b := r7) rfl rfl (Z2 ?_)
 obtain ⟨a3, q0⟩ | ⟨a3, q0⟩ := ic q0
 refine Z7 (nT a3) (Y6 (Z1 (Z0 (Z5 (vB true) rfl rfl (Z2 ?_)))))
 refine Y9 (vs := [vB true]) func28 ⟨rfl, trivial⟩ ?_
 obtain rfl := oi q0
 exact ⟨_, _, rfl, Z4, (St.dropA (St.dropA hS)), rfl⟩
 refine Z8 (nT (W1 a3)) (Z1 (Z0 (Z5 (vB false) rfl rfl (Z2 ?_))))
 refine Y9 (vs := [vB false]) func28 ⟨rfl, trivial⟩ ?_
 obtain rfl := oi q0
 exact ⟨_, _, rfl, Z4, (St.dropA (St.dropA hS)), rfl⟩
end Go.Proofs.YtabofnehiclkiaaGreat
