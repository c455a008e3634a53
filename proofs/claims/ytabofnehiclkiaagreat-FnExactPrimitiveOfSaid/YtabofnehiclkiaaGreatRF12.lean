/- Walk, rules and plain laws. -/
import Derived.Test.YtabofnehiclkiaaGreatRF10
import Derived.Test.YtabofnehiclkiaaGreatRF9
namespace Go.Proofs.YtabofnehiclkiaaGreat
open Go Go.Proofs.Tryz IntKind IntWalk List
set_option linter.all false
set_option maxRecDepth 100000
set_option maxHeartbeats 8000000
variable {K : Nat} {H : FH} {w : World} {L : OL} {s0 s1 s2 s3 s4 s5 s6 : Value}
def Zj5 (K : Nat) (h0 : Bool → Int → (List (List Int)) → Option (Ex (List (List Int)) (Bool × (List (List Int))))) (a0 : (List (List Int))) (a6 : List Int) (r3 a4 : Int) (c4 : Bool) (b2 : (List (List Int))) : Option (Ex (List (List Int)) (Bool × (List (List Int)))) := (if r3 < ((rd a0 a4).length : Int) then ((Zg2 K (rd a0 a4) a6 (rd (rd a0 a4) r3)).bind fun d2 => (if b2.length + ([d2]).length ≤ 1099511627776 then h0 c4 (a4 + 1) (b2 ++ [d2]) else none)) else none)
def Zi9 (K : Nat) (h0 : Bool → Int → (List (List Int)) → Option (Ex (List (List Int)) (Bool × (List (List Int))))) (a0 : (List (List Int))) (a6 : List Int) (r3 : Int) (b4 : Bool) (a4 : Int) (a3 : (List (List Int))) (c5 : Bool) : Option (Ex (List (List Int)) (Bool × (List (List Int)))) := (if c5 = true then (if a3.length + ([a6]).length ≤ 1099511627776 then Zj5 K h0 a0 a6 r3 a4 true (a3 ++ [a6]) else none) else Zj5 K h0 a0 a6 r3 a4 b4 a3)
def J2 (K : Nat) (a0 : (List (List Int))) (a6 : List Int) (r3 : Int) : Nat → Bool → Int → (List (List Int)) → Option (Ex (List (List Int)) (Bool × (List (List Int))))
 | 0, _, _, _ => none
 | k + 1, b4, a4, a3 => (if a4 < (a0.length : Int) then (if b4 = true then Zi9 K (J2 K a0 a6 r3 k) a0 a6 r3 b4 a4 a3 false else ((D4 K (rd a0 a4)).bind fun e1 => Zi9 K (J2 K a0 a6 r3 k) a0 a6 r3 b4 a4 a3 (decide (r3 < e1)))) else some (.go (b4, a3)))
def Zv7 (K : Nat) (a0 : (List (List Int))) (a1 : List Int) : Option (List (List Int)) := ((Zo3 K a1 a0).bind fun r1 => ((D4 K r1).bind fun r3 => (if r3 < 0 then some a0 else (if (r1.length : Int) ≤ 1099511627776 then (if 0 ≤ r3 then (if r3 < (r1.length : Int) then ((Zm0 K (rd r1 r3)).bind fun e2 => ((E7 K (i64.wrap (0 - e2))).bind fun g6 => ((Zg2 K (replicate ((r1.length : Int)).toNat (0 : Int)) r1 g6).bind fun a6 => ((J2 K a0 a6 r3 K false 0 ([] : List (List Int))).bind (Ex.elim (fun r => some r) (fun s => (fun (d3 : Bool) (b5 : (List (List Int))) => (if d3 = true then some b5 else (if b5.length + ([a6]).length ≤ 1099511627776 then some (b5 ++ [a6]) else none))) s.1 s.2)))))) else none) else none) else none))))
theorem Xg5 {a0 : (List (List Int))} {a1 : List Int} {r : (List (List Int))} (q0 : Zv7 K a0 a1 = some r) (a9 : Y3 (X3 (Y4 .i64)) H s0 a0) (t4 : Y3 (Y4 .i64) H s1 a1) (hS : St H w L) :
 Calls prog 224 #[s0, s1] w (T4 (fun v G => (R.sl (X3 (Y4 .i64))).p G v r) H L) := by
 have Z4 := Sub.refl H
 refine X0 func224 U ntmps224 U ?_
 unfold Zv7 at q0
 refine Z1 (Z0 (Z5 vN U U (Z2 (Z1 (Z0 (Z3 s1 U U (Z3 s0 U U ?_)))))))
 obtain ⟨r1, t5, q0⟩ := bSm q0
 refine X2 call164 (W8 U U) U (Ye3 t5 t4 a9 hS) ?_
 rintro v1 H1 _ o7 hS c6
 have Z4 := Z4.trans o7
 have a9 := a9.mono o7
 refine Z5 v1 U U (Z2 (Z1 (Z0 (Z3 v1 U U ?_))))
 obtain ⟨r3, t6, q0⟩ := bSm q0
 refine X2 call148 (S4 U) U (Zk2 t6 c6 hS) ?_
 rintro _ _ _ i0 hS rfl
 have Z4 := Z4.trans i0
 have a9 := a9.mono i0
 have c6 := c6.mono i0
 refine Z5 (vI r3) U U (Z2 (Z1 (Z1 (Z0 (Z3 (vI r3) U U (V4 (k := .i64) (a := r3) (b := 0) U U U (Z2 ?_)))))))
 obtain ⟨i1, q0⟩ | ⟨i1, q0⟩ := ic q0
 refine Z8 (bT i1 U) (Z1 (Z0 (Z3 s0 U U (Z5 s0 U U (Z2 (Y9 (vs := [s0]) func224 Ut ?_))))))
 cases q0
 exact ⟨_, _, U, Z4, hS, a9⟩
 refine Z6 (bF i1 U) (Y6 (Z1 ?_))
 have v5 := c6.bound
 obtain ⟨_, q0⟩ := gd q0
 obtain ⟨_, q0⟩ := gd q0
 obtain ⟨_, q0⟩ := gd q0
 obtain ⟨p1, p2, _, _, _, j4, e8, rfl, j5⟩ := c6.elem (i := r3) (by omega) (by omega)
 obtain ⟨e2, j6, q0⟩ := bSm q0
 obtain ⟨g6, j7, q0⟩ := bSm q0
 refine Xp8 11 (fun t C => S8 [mE 17 v1, mE 18 (vI (r1.length : Int)), (19, MP.own (Y4 .i64) 2 ((replicate ((r1.length : Int)).toNat (0 : Int))) C), mE 20 v1, mE 21 v1, mE 22 (vI r3), mE 23 (vQ p1 p2), mE 24 (vI (rd r1 r3)), mE 25 (vI e2), mE 26 (vI (i64.wrap (0 - e2))), mE 27 (vI g6)] t) [] mixed U U U hS (Ze0 U ?_ (Ze0 U ?_ (Ze0 U ?_ (Ze0 U ?_ (Ze0 U ?_ (Ze0 U ?_ (Ze0 U ?_ (Ze0 U ?_ (Ze0 U ?_ (Ze0 U ?_ (Ze0 U ?_ W9))))))))))) ?_
 intro G1 f6 _ H8 _ _ hS p3 _ hcq
 have Z4 := Sub.refl H8
 have t7 : tv f6 1 = v1 := Eq.trans (p3 1 U) U
 refine Z3 v1 t7 U (Z2 ⟨17, _, _, [], U, U, Z4, hS, U⟩)
 intro G1 _ _ t8 _ p4 hS _ p5 hcq
 have Z4 := Sub.refl t8
 have c6 := c6.mono p4
 refine X9 T1 (eM (p5 0 17 U U)) c6 U (Z2 ⟨18, _, _, [], U, U, Z4, hS, U⟩)
 intro G1 t9 _ u0 _ _ hS _ p6 hcq
 have Z4 := Sub.refl u0
 have o8 : tv t9 18 = vI (r1.length : Int) := p6 1 18 U U
 refine Zz4 (τ := (Y4 .i64)) (0 : Int) Zx1 U o8 o8 (fun _ => rfl) (by omega) (by omega) hS U fun _ _ u1 p7 hS => Z2 ⟨19, _, _, u1, U, U, Z4, hS, p7⟩
 intro G1 u2 _ u3 _ _ hS p8 _ hcq
 have Z4 := Sub.refl u3
 have u4 : tv u2 1 = v1 := Eq.trans (p8 1 U) U
 refine Z3 v1 u4 U (Z2 ⟨20, _, _, [], U, U, Z4, hS, U⟩)
 intro G1 u5 _ u6 _ _ hS p9 _ hcq
 have Z4 := Sub.refl u6
 have u7 : tv u5 1 = v1 := Eq.trans (p9 1 U) U
 refine Z3 v1 u7 U (Z2 ⟨21, _, _, [], U, U, Z4, hS, U⟩)
 intro G1 u8 _ u9 _ _ hS q1 _ hcq
 have Z4 := Sub.refl u9
 have v0 : tv u8 5 = vI r3 := Eq.trans (q1 5 U) U
 refine Z3 (vI r3) v0 U (Z2 ⟨22, _, _, [], U, U, Z4, hS, U⟩)
 intro G1 _ _ q2 _ _ hS _ h1 hcq
 have Z4 := Sub.refl q2
 refine X6 T1 U (eM (h1 4 21 U U)) j4 (eM (h1 5 22 U U)) (by omega) (by omega) U (Z2 ⟨23, _, _, [], U, U, Z4, hS, U⟩)
 intro G1 _ _ q3 _ j8 hS _ j9 hcq
 have Z4 := Sub.refl q3
 have e8 := j8.1 _ _ e8
 refine Y1 (vI (rd r1 r3)) ty2 (eM (j9 6 23 U U)) (hS.froz _ _ e8) (j5 0 (show 0 < 1 by decide)) U (Z2 ⟨24, _, _, [], U, U, Z4, hS, U⟩)
 intro G1 _ _ q4 _ _ hS _ k0 hcq
 have Z4 := Sub.refl q4
 refine X2 call245 (S4 (eM (k0 7 24 U U))) U (Yu3 j6  hS) ?_
 rintro _ _ _ k1 hS rfl
 have Z4 := Z4.trans k1
 exact Z2 ⟨25, _, _, [], U, U, Z4, hS, U⟩
 intro G1 _ _ q5 _ _ hS _ k2 hcq
 have Z4 := Sub.refl q5
 refine Xt0 (i64.wrap (0 - e2)) (eM (k2 8 25 U U)) U U (Z2 ⟨26, _, _, [], U, U, Z4, hS, U⟩)
 intro G1 _ _ q6 _ _ hS _ k3 hcq
 have Z4 := Sub.refl q6
 refine X2 call209 (S4 (eM (k3 9 26 U U))) U (B3 j7  hS) ?_
 rintro _ _ _ k4 hS rfl
 have Z4 := Z4.trans k4
 exact Z2 ⟨27, _, _, [], U, U, Z4, hS, U⟩
 intro g7 g8 i2 g9 e9 hS h2 f0 hcq
 have hS : St g9 i2 ((g7 19 ++ ([])) ++ (L)) := hS
 have Z4 := Z4.trans e9
 have a9 := a9.mono e9
 have c6 := c6.mono e9
 have q7 : tv g8 0 = s0 := Eq.trans (h2 0 U) U
 have q8 : tv g8 5 = vI r3 := Eq.trans (h2 5 U) U
 obtain ⟨q9, i3⟩ : ∃ v, tv g8 19 = v := ⟨_, U⟩
 have h3 : W0 (Y4 .i64) 2 g9 q9 ((replicate ((r1.length : Int)).toNat (0 : Int))) (g7 19) := i3 ▸ (f0 2 19 (by decide) U)
 obtain ⟨r0, k5⟩ : ∃ C, g7 19 = C := ⟨_, U⟩
 rw [k5] at hS h3
 have hS : St g9 i2 (r0 ++ L) := by have h := hS; simp only [append_assoc, nil_append, append_nil] at h; exact h
 obtain ⟨_, f1, hS, k6⟩ := h3.freeze hS
 have Z4 := Z4.trans f1
 have a9 := a9.mono f1
 have c6 := c6.mono f1
 obtain ⟨a6, k7, q0⟩ := bSm q0
 refine X2 call190 (I3 (by exact i3) (by exact (eM (f0 3 20 (by decide) U))) (by exact (eM (f0 10 27 (by decide) U)))) U (Zs8 k7 k6 c6 hS) ?_
 rintro b8 r2 _ h4 hS a7
 have Z4 := Z4.trans h4
 have a9 := a9.mono h4
 refine Z5 b8 U U (Z2 (Z1 (Z0 (Ye7 (τ := (X3 (Y4 .i64))) T2 Zj1 U hS U (fun i4 _ r4 k8 hS => Z5 i4 U U (Z5 (vB false) U U (Z2 (Z1 (Z1 (Z0 (Z5 (vI 0) U U (Z2 (Y8 ?_)))))))))))))
 obtain ⟨f2, b6, c8⟩ := bSm q0
 refine W3 (id := 0) (fun k f w => ∃ b4 a4 a3 H1 b0 a8, J2 K a0 a6 r3 k b4 a4 a3 = some f2 ∧ Sub H H1 ∧ St H1 w (b0 ++ L) ∧ 0 ≤ a4 ∧ W0 (X3 (Y4 .i64)) 22 H1 a8 a3 b0 ∧ Y3 (X3 (Y4 .i64)) H1 s0 a0 ∧ Y3 (Y4 .i64) H1 b8 a6 ∧ tv f 0 = s0 ∧ tv f 1 = b8 ∧ tv f 5 = vI r3 ∧ tv f 6 = a8 ∧ tv f 7 = vB b4 ∧ tv f 8 = vI a4) (fun f w => ∃ d3 b5 H1 c7 b3, f2 = .go (d3, b5) ∧ Sub H H1 ∧ St H1 w (c7 ++ L) ∧ W0 (X3 (Y4 .i64)) 22 H1 b3 b5 c7 ∧ Y3 (Y4 .i64) H1 b8 a6 ∧ tv f 1 = b8 ∧ tv f 6 = b3 ∧ tv f 7 = vB d3) U ?_ ?_ K ?_ ?_
 rintro f w ⟨b4, a4, a3, H1, b0, a8, b6, _⟩
 rw [J2] at b6; cases b6
 rintro k _ _ v2 v3 ⟨b4, a4, a3, i5, b0, a8, b6, Z4, hS, _, a5, a9, a7, c9, d5, d6, d7, d0, d1⟩
 rw [J2] at b6
 refine Z1 (Z1 (Z0 (Z3 (vI a4) (by exact d1) U (Z3 s0 (by exact c9) U ?_))))
 have v4 := a9.bound
 refine X9 T2 U a9 U (V4 (k := .i64) (a := a4) (b := (a0.length : Int)) U U U (Z2 ?_))
 obtain ⟨f3, b6⟩ | ⟨f3, b6⟩ := ic b6
 refine Z8 (bT f3 U) (Y6 (Z1 (Y8 (Z1 (Z1 (N1 (fun f w => ∃ c5 H1, Zi9 K (J2 K a0 a6 r3 k) a0 a6 r3 b4 a4 a3 c5 = some f2 ∧ Sub H H1 ∧ St H1 w (b0 ++ L) ∧ Y3 (X3 (Y4 .i64)) H1 s0 a0 ∧ Y3 (Y4 .i64) H1 b8 a6 ∧ W0 (X3 (Y4 .i64)) 22 H1 a8 a3 b0 ∧ tv f 0 = s0 ∧ tv f 1 = b8 ∧ tv f 5 = vI r3 ∧ tv f 6 = a8 ∧ tv f 7 = vB b4 ∧ tv f 8 = vI a4 ∧ tv f 46 = vB c5) ?_ ?_))))))
 rintro _ _ ⟨c5, k9, c3, Z4, hS, a9, a7, a5, g0, e3, g1, g2, i6, g3, e6⟩
 unfold Zi9 at c3
 refine N1 (fun f w => ∃ c4 b2 H1 b9 b7, Zj5 K (J2 K a0 a6 r3 k) a0 a6 r3 a4 c4 b2 = some f2 ∧ Sub H H1 ∧ St H1 w (b9 ++ L) ∧ W0 (X3 (Y4 .i64)) 22 H1 b7 b2 b9 ∧ Y3 (X3 (Y4 .i64)) H1 s0 a0 ∧ Y3 (Y4 .i64) H1 b8 a6 ∧ tv f 0 = s0 ∧ tv f 1 = b8 ∧ tv f 5 = vI r3 ∧ tv f 6 = b7 ∧ tv f 7 = vB c4 ∧ tv f 8 = vI a4) ?_ ?_
 rintro _ _ ⟨c4, b2, _, b9, b7, c1, Z4, hS, c2, a9, a7, e4, g4, g5, i7, i8, e5⟩
 unfold Zj5 at c1
 obtain ⟨r5, r6, _, _, _, l0, l1, ⟨i9, rfl, f4⟩, l2⟩ := a9.elem (i := a4) (by omega) (by omega)
 obtain ⟨r7, r8, _, _, _, l3, l4, ⟨j0, rfl, l5⟩, l6⟩ := a9.elem (i := a4) (by omega) (by omega)
 obtain ⟨_, c1⟩ := gd c1
 obtain ⟨r9, s2, _, _, _, l7, l9, rfl, m0⟩ := l5.elem (i := r3) (by omega) (by omega)
 obtain ⟨d2, m2, c1⟩ := bSm c1
 refine W6 15 (S8 [mE 51 b7, mE 52 s0, mE 53 (vI a4), mE 54 (vQ r5 r6), mE 55 i9, mE 56 b8, mE 57 s0, mE 58 (vI a4), mE 59 (vQ r7 r8), mE 60 j0, mE 61 (vI r3), mE 62 (vQ r9 s2), mE 63 (vI (rd (rd a0 a4) r3)), (64, MP.rep (R.sl (Y4 .i64)) d2), (65, MP.sl (X3 (Y4 .i64)) [d2])]) [] mixed U U U hS (U1 (X4 fun S B => Z3 b7 (evT (B 6 U) i7) U (qz S)) (X4 fun S B => Z3 s0 (evT (B 0 U) e4) U (qz S)) (X4 fun S B => Z3 (vI a4) (evT (B 8 U) e5) U (qz S)) (Y7 fun S V => X6 T2 U (eM (V 1 52 U U)) l0 (eM (V 2 53 U U)) (by omega) (by omega) U (qz S)) (P0 fun s S V => Y1 i9 Q9 (eM (V 3 54 U U)) (S.froz _ _ (s.1 _ _ l1)) (l2 0 (show 0 < 1 by decide)) U (qz S)) (X4 fun S B => Z3 b8 (evT (B 1 U) g4) U (qz S)) (X4 fun S B => Z3 s0 (evT (B 0 U) e4) U (qz S)) (X4 fun S B => Z3 (vI a4) (evT (B 8 U) e5) U (qz S)) (K3 (Y7 fun S V => X6 T2 U (eM (V 6 57 U U)) l3 (eM (V 7 58 U U)) (by omega) (by omega) U (qz S)) (P0 fun s S V => Y1 j0 Q9 (eM (V 8 59 U U)) (S.froz _ _ (s.1 _ _ l4)) (l6 0 (show 0 < 1 by decide)) U (qz S)) (X4 fun S B => Z3 (vI r3) (evT (B 5 U) g5) U (qz S)) (Y7 fun S V => X6 T1 U (eM (V 9 60 U U)) l7 (eM (V 10 61 U U)) (by omega) (by omega) U (qz S)) (L7 (P0 fun s S V => Y1 (vI (rd (rd a0 a4) r3)) ty2 (eM (V 11 62 U U)) (S.froz _ _ (s.1 _ _ l9)) (m0 0 (show 0 < 1 by decide)) U (qz S)) ?_ (I2 ?_ W9)))) ?_
 intro _ _ _ _ h5 hS _ f5 hcq
 have a7 := a7.mono h5
 have f4 := f4.mono h5
 refine X2 call190 (I3 (eM (f5 4 55 U U)) (eM (f5 5 56 U U)) (eM (f5 12 63 U U))) U (Zs8 m2 f4 a7 hS) ?_
 rintro _ _ _ m3 hS m4
 exact qn m3 U hS m4
 intro _ _ _ _ _ hS _ m5 hcq
 obtain ⟨s3, s4, m6⟩ := gvR (m5 13 64 U U)
 refine Zc4 (τ := (X3 (Y4 .i64))) T2 Zj1 U [s3] [d2] U U (D3 s4) (Zl6 m6.relv) (by decide) (by decide) hS U fun _ _ _ m7 hS m8 => qn m7 U hS m8
 intro _ s5 j1 d8 hS d4 h6 hcq
 have hS : St j1 s5 (b9 ++ L) := hS
 have Z4 := Z4.trans d8
 have a9 := a9.mono d8
 have a7 := a7.mono d8
 have c2 := c2.mono d8
 obtain ⟨_, s6, m9⟩ := gvS (h6 14 65 (by decide) U)
 obtain ⟨n0, c1⟩ := gd c1
 refine N2 (τ := (X3 (Y4 .i64))) Ya0 U (by exact (eM (h6 0 51 (by decide) U))) (by exact s6) c2 hS m9 n0 U fun j2 _ s7 n1 hS => Z5 j2 U U (Z2 (X1 (Z0 (Z3 (vI a4) (by exact (evT (d4 8 U) e5)) U (W4 (a4 + 1) U U (i64_in _ (by omega)) U (Z5 (vI (a4 + 1)) U U (Z2 (v2 _ _ ⟨c4, (a4 + 1), (b2 ++ [d2]), j1, s7, j2, c1, Z4, hS, (by omega), n1, a9, a7, (evT (d4 0 U) e4), (evT (d4 1 U) g4), (evT (d4 5 U) g5), U, (evT (d4 7 U) i8), U⟩))))))))
 intro o9
 obtain ⟨f7, c3⟩ | ⟨f7, c3⟩ := ic c3
 refine Z8 (Eq.trans (by exact e6) (congrArg vB f7)) (Z1 (Z0 (Z3 a8 (by exact g2) U (Z3 b8 (by exact e3) U (Zc4 (τ := (X3 (Y4 .i64))) T2 Zj1 U [b8] [a6] U U (D3 U) (Zl6 a7.relv) (by decide) (by decide) hS U ?_)))))
 intro _ s8 _ d9 hS n2
 have Z4 := Z4.trans d9
 have a9 := a9.mono d9
 have a7 := a7.mono d9
 have a5 := a5.mono d9
 obtain ⟨n3, c3⟩ := gd c3
 refine N2 (τ := (X3 (Y4 .i64))) Ya0 U U U a5 hS n2 n3 U fun j3 _ s9 n4 hS => Z5 j3 U U (Z2 (Z0 (Z5 (vB true) U U (Z2 (o9 _ _ ⟨true, (a3 ++ [a6]), s8, s9, j3, c3, Z4, hS, n4, a9, a7, g0, e3, g1, U, U, g3⟩)))))
 refine Z6 (Eq.trans (by exact e6) (congrArg vB (X8 f7))) (Y6 (o9 _ _ ⟨b4, a3, k9, b0, a8, c3, Z4, hS, a5, a9, a7, g0, e3, g1, g2, i6, g3⟩))
 intro p0
 refine Z0 (Z3 (vB b4) (by exact d0) U (P5 (b := b4) U U (Z3 (vB (!b4)) U U ?_)))
 obtain ⟨b1, b6⟩ | ⟨b1, b6⟩ := ic b6
 refine Z9 U U (nT b1) U U U (Z9 U U (nT b1) U U U (Z9 U U (nT b1) U U U (Z9 U U (nT b1) U U U (Z9 U U (nT b1) U U U (Z9 U U (nT b1) U U U (Z9 U U (nT b1) U U U (W5 (t := false) (vB false) (nT b1) ((if_neg Bool.false_ne_true).trans U) U (Z2 (p0 _ _ ⟨false, i5, b6, Z4, hS, a9, a7, a5, c9, d5, d6, d7, d0, d1, U⟩)))))))))
 refine Y0 U U (nT (X8 b1)) (Z3 s0 (by exact c9) U (Y0 U U (nT (X8 b1)) (Z3 (vI a4) (by exact d1) U ?_)))
 obtain ⟨_, _, _, _, _, n5, n6, ⟨t0, rfl, n7⟩, n8⟩ := a9.elem (i := a4) (by omega) (by omega)
 refine Y0 U U (nT (X8 b1)) (X6 T2 U U n5 U (by omega) (by omega) U (Y0 U U (nT (X8 b1)) (Y1 t0 Q9 U (hS.froz _ _ n6) (n8 0 (show 0 < 1 by decide)) U ?_)))
 obtain ⟨e1, n9, b6⟩ := bSm b6
 refine Y0 U U (nT (X8 b1)) (X2 call148 (S4 U) U (Zk2 n9 n7 hS) ?_)
 rintro _ t1 _ e0 hS rfl
 have Z4 := Z4.trans e0
 have a9 := a9.mono e0
 have a7 := a7.mono e0
 have a5 := a5.mono e0
 refine Y0 U U (nT (X8 b1)) (Z3 (vI r3) (by exact d6) U (Y0 U U (nT (X8 b1)) (A0 (k := .i64) (a := e1) (b := r3) U U U (W5 (t := true) (vB (decide (r3 < e1))) (nT (X8 b1)) ((if_pos U).trans U) U (Z2 (p0 _ _ ⟨(decide (r3 < e1)), t1, b6, Z4, hS, a9, a7, a5, c9, d5, d6, d7, d0, d1, U⟩))))))
 refine Z6 (bF f3 U) (W2 U ?_)
 cases b6
 exact v3 _ _ ⟨b4, a3, i5, b0, a8, U, Z4, hS, a5, a7, d5, d7, d0⟩
 exact ⟨false, 0, ([] : List (List Int)), r2, r4, i4, b6, Z4, hS, (by omega), k8, a9, a7, q7, U, q8, U, U, U⟩
 rintro _ _ ⟨d3, b5, _, c7, b3, rfl, Z4, hS, c0, a7, h8, e7, h9⟩
 dsimp only [Ex.elim] at c8
 refine Z1 (Z1 (Z0 (Z3 (vB d3) (by exact h9) U (P5 (b := d3) U U (Z2 ?_)))))
 obtain ⟨f8, c8⟩ | ⟨f8, c8⟩ := ic c8
 refine Z6 (nT f8) (Y6 (Z1 (Z0 (Z3 b3 (by exact e7) U (Z5 b3 U U (Z2 (Y9 (vs := [b3]) func224 Ut ?_)))))))
 obtain ⟨_, o0, hS, o1⟩ := c0.freeze hS
 have Z4 := Z4.trans o0
 cases c8
 exact ⟨_, _, U, Z4, hS, o1⟩
 refine Z8 (nT (X8 f8)) (Z0 (Z3 b3 (by exact e7) U (Z3 b8 (by exact h8) U (Zc4 (τ := (X3 (Y4 .i64))) T2 Zj1 U [b8] [a6] U U (D3 U) (Zl6 a7.relv) (by decide) (by decide) hS U ?_))))
 intro _ _ _ h7 hS o2
 have Z4 := Z4.trans h7
 have c0 := c0.mono h7
 obtain ⟨o3, c8⟩ := gd c8
 refine N2 (τ := (X3 (Y4 .i64))) Ya0 U U U c0 hS o2 o3 U fun f9 _ _ o4 hS => Z5 f9 U U (Z2 (Z1 (Z0 (Z3 f9 U U (Z5 f9 U U (Z2 (Y9 (vs := [f9]) func224 Ut ?_)))))))
 obtain ⟨_, o5, hS, o6⟩ := o4.freeze hS
 have Z4 := Z4.trans o5
 cases c8
 exact ⟨_, _, U, Z4, hS, o6⟩
def D5 (K : Nat) (a5 : List A8) (a1 : Int) : Nat → Int → A8 → Option (Ex (MpT × Int) A8)
 | 0, _, _ => none
 | k + 1, a4, b0 => (if a4 < 8 then (if 20 < (Y5 (rd a5 a1) a4) then some (.ret (([] : List (A8 × Int)), 3)) else D5 K a5 a1 k (a4 + 1) (T3 b0 a4 (u8.wrap (Y5 (rd a5 a1) a4)))) else some (.go b0))
def D6 (K : Nat) (a0 : MpT) (a5 : List A8) : Nat → Int → MpT → Option (Ex (MpT × Int) MpT)
 | 0, _, _ => none
 | k + 1, a1, a6 => (if a1 < (a5.length : Int) then ((D5 K a5 a1 K 0 (fun _ => 0)).bind (Ex.elim (fun r => some (.ret r)) (fun s => (fun (a8 : A8) => (if a6.length + ([(a8, (N5 a0 (rd a5 a1)))]).length ≤ 1099511627776 then D6 K a0 a5 k (a1 + 1) (a6 ++ [(a8, (N5 a0 (rd a5 a1)))]) else none)) s))) else some (.go a6))
def Zr3 (K : Nat) (a0 : MpT) : Option (MpT × Int) := (if 400 < (a0.length : Int) then some (([] : List (A8 × Int)), 3) else ((Zs6 K a0).bind fun a5 => ((D6 K a0 a5 K 0 ([] : List (A8 × Int))).bind (Ex.elim (fun r => some r) (fun s => (fun (b3 : MpT) => some (b3, 0)) s)))))
theorem Yy3 {a0 : MpT} {r : (MpT × Int)} (q0 : Zr3 K a0 = some r) (b7 : N0 .i64 H s0 a0) (hS : St H w L) :
 Calls prog 112 #[s0] w (T4 (fun v G => (R.t2 (R.agg (X3 yT)) (R.int .i64)).p (G.new H) v r) H L) := by
 have Z4 := Sub.refl H
 refine X0 func112 U ntmps112 U ?_
 unfold Zr3 at q0
 refine Z1 (Z0 (U5 (z := vA [vN]) [vN].toArray Zj8.zero U hS U (fun b1 _ hS => Z5 (vI 0) U U (Z2 (Z1 (Z1 (Z0 (Z3 s0 U U (Wp6 Zs5 U b7 hS U (A0 (k := .i64) (a := (a0.length : Int)) (b := 400) U U U (Z2 ?_)))))))))))
 obtain ⟨g1, q0⟩ | ⟨g1, q0⟩ := ic q0
 refine Z8 (bT g1 U) (Z1 (Z0 (M4 (vA [vN]) Zz0 U (W1 (v := vA [vN]) (vs := ([vN]).toArray) (cs := ([vN]).toArray) U7 U U U hS U (K9 U) U (fun _ hS => Z5 (vI 3) U U (Z2 (Y9 (vs := [vA [vN], vI 3]) func112 ⟨⟨_, U, T9 U7 (hS.get mL) U⟩, U, trivial⟩ ?_)))))))
 cases q0
 exact ⟨_, _, U, Z4, (St.dA hS), ⟨_, _, U, ⟨_, U, ⟨_, U, Y3.nil⟩⟩, U⟩⟩
 refine Z6 (bF g1 U) (Y6 (Z1 (Z0 (M4 (vA [vN]) Zz0 U (U5 (z := vA [vN]) [vN].toArray Zj8.zero U hS U (fun b6 _ hS => W1 (v := vA [vN]) (vs := ([vN]).toArray) (cs := ([vN]).toArray) U7 U U U hS U (K9 U) U (fun _ hS => Z2 (Z1 (Z1 (Z0 (Z3 s0 U U ?_)))))))))))
 obtain ⟨a5, h6, q0⟩ := bSm q0
 refine X2 call195 (S4 U) U (Yv2 h6 b7 hS) ?_
 rintro d5 h5 _ g2 hS b5
 have Z4 := Z4.trans g2
 have b7 := b7.mono g2
 have j2 := b5.bound
 refine X9 Zv1 U b5 U (Z3 (vI 0) U U (Z2 (Y8 ?_)))
 have g3 : W0 yT 78 h5 (.slice none 0 0) [] [] := W0.nil _ _ _
 obtain ⟨g4, b8, e4⟩ := bSm q0
 refine W3 (id := 0) (fun k f w => ∃ a1 a6 H1 a7 a3, D6 K a0 a5 k a1 a6 = some g4 ∧ Sub H H1 ∧ St H1 w (a7 ++ ([(b6, cA [a3] 45)] ++ ([(b1, cA [vN] 45)] ++ L))) ∧ 0 ≤ a1 ∧ W0 yT 78 H1 a3 a6 a7 ∧ N0 .i64 H1 s0 a0 ∧ Y3 (Q5 .i64) H1 d5 a5 ∧ tv f 0 = s0 ∧ tv f 2 = vP b1 ∧ tv f 4 = vP b6 ∧ tv f 16 = d5 ∧ tv f 17 = vI (a5.length : Int) ∧ tv f 18 = vI a1) (fun f w => ∃ b3 H1 b9 b2, g4 = .go b3 ∧ Sub H H1 ∧ St H1 w (b9 ++ ([(b6, cA [b2] 45)] ++ ([(b1, cA [vN] 45)] ++ L))) ∧ W0 yT 78 H1 b2 b3 b9 ∧ tv f 2 = vP b1 ∧ tv f 4 = vP b6) U ?_ ?_ K ?_ ?_
 rintro f w ⟨a1, a6, H1, a7, a3, b8, _⟩
 rw [D6] at b8; cases b8
 rintro k _ _ i6 i7 ⟨a1, a6, g5, a7, a3, b8, Z4, hS, _, a9, b7, b5, f6, d6, d7, c9, d0, c4⟩
 rw [D6] at b8
 refine Z1 (Z0 (V4 (k := .i64) (a := a1) (b := (a5.length : Int)) (by exact c4) (by exact d0) U (Z2 (Z1 ?_))))
 obtain ⟨e7, b8⟩ | ⟨e7, b8⟩ := ic b8
 refine Z8 (bT e7 U) (Y6 (Z1 (Y8 (Z1 (Z0 ?_)))))
 obtain ⟨_, _, _, _, _, h7, h8, rfl, h9⟩ := b5.elem (i := a1) (by omega) (by omega)
 refine X6 Zv1 U (by exact c9) h7 (by exact c4) (by omega) (by omega) U (U0 (Z7 .i64 (rd a5 a1)) P3 U (hS.froz _ _ h8) U h9 U (U5 (z := vA (Z7 .i64 (fun _ => 0))) (Z7 .i64 (fun _ => 0)).toArray Zm8.zero U hS U (fun e5 _ hS => W1 (v := vA (Z7 .i64 (rd a5 a1))) (vs := (Z7 .i64 (rd a5 a1)).toArray) (cs := (Z7 .i64 (fun _ => 0)).toArray) P3 U U U hS U (R7 .i64 (rd a5 a1)) U (fun _ hS => Z2 (Z1 (Z0 (M4 (vA (Z7 .u8 (fun _ => 0))) Wj8 U (U5 (z := vA (Z7 .u8 (fun _ => 0))) (Z7 .u8 (fun _ => 0)).toArray Yn9.zero U hS U (fun e6 _ hS => W1 (v := vA (Z7 .u8 (fun _ => 0))) (vs := (Z7 .u8 (fun _ => 0)).toArray) (cs := (Z7 .u8 (fun _ => 0)).toArray) P7 U U U hS U (R7 .u8 (fun _ => 0)) U (fun _ hS => Z2 (Z1 (Z1 (Z0 (X5 P3 U (hS.get (mR mL)) U U (Z3 (vI 0) U U (Z2 (Y8 ?_)))))))))))))))))
 obtain ⟨g6, b4, c5⟩ := bSm b8
 refine W3 (id := 2) (fun k f w => ∃ a4 b0 H1, D5 K a5 a1 k a4 b0 = some g6 ∧ Sub H H1 ∧ St H1 w ([(e6, cA (Z7 .u8 b0) 72)] ++ ([(e5, cA (Z7 .i64 (rd a5 a1)) 222)] ++ (a7 ++ ([(b6, cA [a3] 45)] ++ ([(b1, cA [vN] 45)] ++ L))))) ∧ 0 ≤ a4 ∧ N0 .i64 H1 s0 a0 ∧ Y3 (Q5 .i64) H1 d5 a5 ∧ W0 yT 78 H1 a3 a6 a7 ∧ tv f 0 = s0 ∧ tv f 2 = vP b1 ∧ tv f 4 = vP b6 ∧ tv f 6 = vP e5 ∧ tv f 7 = vP e6 ∧ tv f 16 = d5 ∧ tv f 17 = vI (a5.length : Int) ∧ tv f 18 = vI a1 ∧ tv f 23 = vA (Z7 .i64 (rd a5 a1)) ∧ tv f 24 = vI a4) (fun f w => ∃ a8 H1, g6 = .go a8 ∧ Sub H H1 ∧ St H1 w ([(e6, cA (Z7 .u8 a8) 72)] ++ ([(e5, cA (Z7 .i64 (rd a5 a1)) 222)] ++ (a7 ++ ([(b6, cA [a3] 45)] ++ ([(b1, cA [vN] 45)] ++ L))))) ∧ N0 .i64 H1 s0 a0 ∧ Y3 (Q5 .i64) H1 d5 a5 ∧ W0 yT 78 H1 a3 a6 a7 ∧ tv f 0 = s0 ∧ tv f 2 = vP b1 ∧ tv f 4 = vP b6 ∧ tv f 6 = vP e5 ∧ tv f 7 = vP e6 ∧ tv f 16 = d5 ∧ tv f 17 = vI (a5.length : Int) ∧ tv f 18 = vI a1) U ?_ ?_ K ?_ ?_
 rintro f w ⟨a4, b0, H1, b4, _⟩
 rw [D5] at b4; cases b4
 rintro k _ _ i8 i9 ⟨a4, b0, g7, b4, Z4, hS, _, b7, b5, a9, d8, c2, d9, e0, c6, d1, d2, d3, d4, c0⟩
 rw [D5] at b4
 refine Z1 (Z0 (V4 (k := .i64) (a := a4) (b := 8) (by exact c0) U U (Z2 (Z1 ?_))))
 obtain ⟨e8, b4⟩ | ⟨e8, b4⟩ := ic b4
 refine Z8 (bT e8 U) (Y6 (Z1 (Y8 (Z1 (Z0 (Z3 (vI a4) (by exact c0) U (Yo6 (vI (Y5 (rd a5 a1) a4)) Zm9 (by exact d4) (by exact c0) (by omega) (by omega) (Ym6 (by omega) (by omega)) U (Z5 (vI a4) U U (Z5 (vI (Y5 (rd a5 a1) a4)) U U (Z2 (Z1 (Z1 (Z0 (Z3 (vI (Y5 (rd a5 a1) a4)) U U (A0 (k := .i64) (a := (Y5 (rd a5 a1) a4)) (b := 20) U U U (Z2 ?_))))))))))))))))
 obtain ⟨e9, b4⟩ | ⟨e9, b4⟩ := ic b4
 refine Z8 (bT e9 U) (Z1 (Z0 (M4 (vA [vN]) Zz0 U ?_)))
 have hS := hS.perm Wi9
 refine W1 (v := vA [vN]) (vs := ([vN]).toArray) (cs := ([vN]).toArray) U7 (by exact c2) U U hS U (K9 U) U ?_
 intro _ hS
 have hS := hS.perm Wi9.symm
 refine Z5 (vI 3) U U (Z2 (Y9 (vs := [vA [vN], vI 3]) func112 ⟨⟨_, (by exact c2), T9 U7 (hS.get (mR (mR (mR (mR mL))))) U⟩, U, trivial⟩ ?_))
 cases b4
 dsimp only [Ex.elim] at c5
 cases c5
 dsimp only [Ex.elim] at e4
 cases e4
 exact ⟨_, _, U, Z4, (St.dA (St.dA (St.dA (St.dA (St.dA hS))))), ⟨_, _, U, ⟨_, U, ⟨_, U, Y3.nil⟩⟩, U⟩⟩
 refine Z6 (bF e9 U) (Y6 (Z0 (Z3 (vI a4) U U (Z3 (vI (Y5 (rd a5 a1) a4)) U U (Ym9 (s := .i64) ((u8.wrap (Y5 (rd a5 a1) a4))) Wk4 U U U (U3 Zh5 (by exact c6) U (by omega) (by omega) U (J7 (v := Value.int .u8 (u8.wrap (Y5 (rd a5 a1) a4))) (cs := (Z7 .u8 b0).toArray) (cs' := (Z7 .u8 (T3 b0 a4 (u8.wrap (Y5 (rd a5 a1) a4)))).toArray) ty5 U U hS U (Zv6 U) (by simp [Z7, M5]; omega) (Zj0 (by omega) (by omega)) (fun _ hS => Z2 (X1 (Z0 (W4 (a4 + 1) (by exact c0) U (i64_in _ (by omega)) U (Z3 (vI (a4 + 1)) U U (Z2 (i8 _ _ ⟨(a4 + 1), (T3 b0 a4 (u8.wrap (Y5 (rd a5 a1) a4))), g7, b4, Z4, hS, (by omega), b7, b5, a9, d8, c2, d9, e0, c6, d1, d2, d3, d4, U⟩))))))))))))))
 refine Z6 (bF e8 U) (W2 U ?_)
 cases b4
 exact i9 _ _ ⟨b0, g7, U, Z4, hS, b7, b5, a9, d8, c2, d9, e0, c6, d1, d2, d3⟩
 exact ⟨0, (fun _ => 0), g5, b4, Z4, hS, (by omega), b7, b5, a9, f6, d6, d7, U, U, c9, d0, c4, U, U⟩
 rintro _ _ ⟨a8, _, rfl, Z4, hS, b7, b5, a9, e1, f7, e2, f8, f9, f0, f1, f2⟩
 dsimp only [Ex.elim] at c5
 have J6 := Z4
 refine W6 8 (S8 [mE 36 (vP b6), mE 37 a3, mE 38 (vA (Z7 .u8 a8)), mE 39 s0, mE 40 (vA (Z7 .i64 (rd a5 a1))), mE 41 (vI (N5 a0 (rd a5 a1))), mE 42 (vA (Z7 .u8 a8 ++ [vI (N5 a0 (rd a5 a1))])), (43, MP.sl yT [(a8, (N5 a0 (rd a5 a1)))])]) [] mixed U U U hS (U1 (X4 fun S B => Y2 U8 (evT (B 4 U) e2) U (qz S)) (Y7 fun S V => Y1 a3 P1 (eM (V 0 36 U U)) (S.get (mR (mR (mR (mR mL))))) U U (qz S)) (X4 fun S B => X5 P7 (evT (B 7 U) f9) (S.get (mR mL)) U U (qz S)) (X4 fun S B => Z3 s0 (evT (B 0 U) e1) U (qz S)) (X4 fun S B => X5 P3 (evT (B 6 U) f8) (S.get (mR (mR mL))) U U (qz S)) (P0 fun s S V => Xq3 (a := (rd a5 a1)) Zs5 (eM (V 3 39 U U)) (eM (V 4 40 U U)) (b7.mono s) S U (qz S)) (Y7 fun S V => Zw5 (Z7 .u8 a8 ++ [vI (N5 a0 (rd a5 a1))]) Xn9 (Yc0 (eM (V 2 38 U U)) (eM (V 5 41 U U))) (E1 U U U (nl U) (E1 U U U (nl U) (Zr9 U))) U (qz S)) ?_ W9) ?_
 intro _ _ j0 _ i0 hS _ i1 hcq
 have Z4 := Sub.refl j0
 have Zc6 := J6.trans i0
 refine Zc4 (τ := yT) Q0 Yg3 U [vA (Z7 .u8 a8 ++ [vI (N5 a0 (rd a5 a1))])] [(a8, (N5 a0 (rd a5 a1)))] U U (D3 (eM (i1 6 42 U U))) (Zl6 ⟨_, _, U, U, U⟩) (by decide) (by decide) hS U ?_
 intro _ _ _ h0 hS h1
 have Z4 := Z4.trans h0
 exact Z2 ⟨43, _, _, U, U, Z4, hS, h1⟩
 intro _ i2 g8 c7 hS c3 f4 hcq
 have hS : St g8 i2 ([(e6, cA (Z7 .u8 a8) 72)] ++ ([(e5, cA (Z7 .i64 (rd a5 a1)) 222)] ++ (a7 ++ _))) := hS
 have Z4 := Z4.trans c7
 have b7 := b7.mono c7
 have b5 := b5.mono c7
 have a9 := a9.mono c7
 have g9 := evT (c3 4 U) e2
 obtain ⟨_, i3, h2⟩ := gvS (f4 7 43 (by decide) U)
 obtain ⟨h3, c5⟩ := gd c5
 have hS := hS.perm Zc0
 refine N2 (τ := yT) Xd5 U (by exact (eM (f4 1 37 (by decide) U))) (by exact i3) a9 hS h2 h3 U ?_
 intro f3 _ i4 f5 hS
 have hS := hS.perm Zc0.symm
 refine Y2 U8 (by exact g9) U ?_
 have hS := hS.perm Xl1
 refine Ze6 (v := f3) (cs := ([a3]).toArray) (cs' := ([f3]).toArray) P1 U U hS f5.isOne U (nl U) U ?_
 intro _ hS
 have hS := hS.perm Xl1.symm
 refine Z2 (X1 (Z0 (W4 (a1 + 1) (by exact (evT (c3 18 U) f2)) U (i64_in _ (by omega)) U (Z3 (vI (a1 + 1)) U U (Z2 ?_)))))
 have hS := St.dA hS
 have hS := St.dA hS
 exact i6 _ _ ⟨(a1 + 1), (a6 ++ [(a8, (N5 a0 (rd a5 a1)))]), g8, i4, f3, c5, Z4, hS, (by omega), f5, b7, b5, (evT (c3 0 U) e1), (evT (c3 2 U) f7), g9, (evT (c3 16 U) f0), (evT (c3 17 U) f1), U⟩
 refine Z6 (bF e7 U) (W2 U ?_)
 cases b8
 exact i7 _ _ ⟨a6, g5, a7, a3, U, Z4, hS, a9, d6, d7⟩
 exact ⟨0, ([] : List (A8 × Int)), h5, ([]), (vN), b8, Z4, hS, (by omega), g3, b7, b5, U, U, U, U, U, U⟩
 rintro _ _ ⟨b3, _, b9, b2, rfl, Z4, hS, c1, e3, g0⟩
 dsimp only [Ex.elim] at e4
 refine Z1 (Z0 (X5 U7 (by exact g0) (hS.get (mR mL)) U U ?_))
 have hS := hS.perm Zc0
 refine W1 (v := vA [b2]) (vs := ([b2]).toArray) (cs := ([vN]).toArray) U7 (by exact e3) U U hS U (K9 c1.isOne) U ?_
 intro _ hS
 have hS := hS.perm Zc0.symm
 refine Z5 (vI 0) U U (Z2 (Y9 (vs := [vA [b2], vI 0]) func112 ⟨⟨_, (by exact e3), T9 U7 (hS.get (mR (mR mL))) U⟩, U, trivial⟩ ?_))
 obtain ⟨i5, h4, hS, c8⟩ := W0.freezeF (τ := yT) (H0 := H) c1 hS Z4
 have j1 := Y3.old c8
 have c8 : RdF yT H i5 b2 b3 := c8
 have Z4 := Z4.trans h4
 cases e4
 exact ⟨_, _, U, Z4, (St.dA (St.dA hS)), ⟨_, _, U, ⟨_, U, ⟨_, U, c8⟩⟩, U⟩⟩
def U4 (K : Nat) (a1 : List Int) (a5 : (A8 × Int)) : Nat → MpT → MpT → Option (Ex MpT MpT)
 | 0, _, _ => none
 | k + 1, [], a3 => some (.go a3)
 | k + 1, c3 :: d9, a3 => ((D8 K a5.1 a1 c3.1).bind fun a7 => (if a7.2 = 0 then U4 K a1 a5 k d9 a3 else ((T7 K a3 a7.1 (((i64.wrap ((i64.wrap (a7.2 * a5.2)) * c3.2))).tmod 10007)).bind fun f6 => U4 K a1 a5 k d9 f6)))
theorem Yl0 {a1 : List Int} {a5 : (A8 × Int)} {a3 : MpT} {k : Nat} {zp zq : MpT} {o : Ex MpT (MpT)} (hp : zp.Perm zq) (q : U4 K a1 a5 k zp a3 = some o) : U4 K a1 a5 k zq a3 = some o := by
 exact (Yo8 (K := K) (fun k zs s => U4 K a1 a5 k zs s) (by intros; rw [U4])
  (fun z => ⟨fun s => (D8 K a5.1 a1 z.1).bind fun r => if r.2 = 0 then some s else T7 K s r.1 (((i64.wrap ((i64.wrap (r.2 * a5.2)) * z.2))).tmod 10007), .const fun r => .ite .skip (.add _ _), by
   intro k zs s
   rw [U4]
   cases D8 K a5.1 a1 z.1 with
   | none => rfl
   | some r => simp only [Option.bind_some]; split <;> rfl⟩) hp k a3).symm.trans q
def R3 (K : Nat) (a1 : List Int) (a2 : MpT) : Nat → MpT → MpT → Option (Ex MpT MpT)
 | 0, _, _ => none
 | k + 1, [], a4 => some (.go a4)
 | k + 1, a5 :: e0, a4 => ((U4 K a1 a5 K a2 a4).bind (Ex.elim (fun r => some (.ret r)) (fun s => (fun (b4 : MpT) => R3 K a1 a2 k e0 b4) s)))
theorem Yn6 {a1 : List Int} {a2 a4 : MpT} {k : Nat} {zp zq : MpT} {o : Ex MpT (MpT)} (hp : zp.Perm zq) (q : R3 K a1 a2 k zp a4 = some o) : R3 K a1 a2 k zq a4 = some o := by
 have hl : ∀ (z : A8 × Int) (k : Nat) (zs : MpT), Zr5 K (fun (_ : Unit) s => s) (fun s => U4 K a1 z k zs s) := by
  intro z k
  induction k with
  | zero => intro zs; exact ⟨none, fun s => (show U4 K a1 z 0 zs s = none by rw [U4])⟩
  | succ k ih =>
   intro zs
   cases zs with
   | nil =>
    have e : (fun s => U4 K a1 z (k + 1) [] s) = fun s => some (.go s) := by funext s; rw [U4]
    rw [e]; exact .go (h := fun (_ : Unit) s => s) ()
   | cons y zs =>
    have e : (fun s => U4 K a1 z (k + 1) (y :: zs) s) = fun s => (D8 K z.1 a1 y.1).bind fun r => if r.2 = 0 then U4 K a1 z k zs s else (T7 K s r.1 (((i64.wrap ((i64.wrap (r.2 * z.2)) * y.2))).tmod 10007)).bind fun t => U4 K a1 z k zs t := by
     funext s; rw [U4]
    rw [e]
    exact .const fun r => .ite (ih zs) (.bind (.add _ _) (ih zs))
 exact (Yo8 (K := K) (fun k zs s => R3 K a1 a2 k zs s) (by intros; rw [R3])
  (fun z => by
   obtain ⟨F, hF, hs⟩ := (hl z K a2).step (fun s => s) (fun _ _ => rfl)
   refine ⟨F, hF, fun k zs s => ?_⟩
   rw [R3]
   exact hs _ (R3 K a1 a2 k zs) s) hp k a4).symm.trans q
def B4 (K : Nat) (a0 : MpT) (a1 : List Int) (a2 : MpT) : Option MpT := ((R3 K a1 a2 K a0 ([] : MpT)).bind (Ex.elim (fun r => some r) (fun s => (fun (b8 : MpT) => some b8) s)))
theorem Ye9 {a0 : MpT} {a1 : List Int} {a2 r : MpT} (q0 : B4 K a0 a1 a2 = some r) (h5 : N0 .i64 H s0 a0) (b6 : Y3 (Y4 .i64) H s1 a1) (b7 : N0 .i64 H s2 a2) (hS : St H w L) :
 Calls prog 128 #[s0, s1, s2] w (Xt4 .i64 r H L) := by
 have Z4 := Sub.refl H
 refine X0 func128 U ntmps128 U ?_
 unfold B4 at q0
 refine Z1 (Z0 (Z5 (Value.map none) U U (Z2 (Z1 (Z0 (Yi9 (k := .i64) hS U (fun m1 _ C3 h6 hS => Z5 m1 U U (Z2 (Z1 (Z1 (Z0 (Z3 s0 U U (Yk3 Zs5 U h5 hS U (fun e1 _ C8 h7 hS => Z2 (Y8 ?_)))))))))))))))
 obtain ⟨f7, b5, f8⟩ := bSm q0
 refine W3 (id := 0) (fun k f w => ∃ b9 a4 H1 b0 a8, R3 K a1 a2 k b9 a4 = some f7 ∧ Sub H H1 ∧ St H1 w (b0 ++ (a8 ++ L)) ∧ Zi2 .i64 H1 e1 b9 none b0 ∧ Q8 .i64 m1 a4 a8 ∧ Y3 (Y4 .i64) H1 s1 a1 ∧ N0 .i64 H1 s2 a2 ∧ tv f 1 = s1 ∧ tv f 2 = s2 ∧ tv f 7 = m1 ∧ tv f 16 = e1) (fun f w => ∃ b8 H1 c4 c8, f7 = .go b8 ∧ Sub H H1 ∧ St H1 w (c4 ++ (c8 ++ L)) ∧ Zi2 .i64 H1 e1 ([] : MpT) none c4 ∧ Q8 .i64 m1 b8 c8 ∧ tv f 7 = m1) U ?_ ?_ K ?_ ?_
 rintro f w ⟨b9, a4, H1, b0, a8, b5, _⟩
 rw [R3] at b5; cases b5
 rintro k _ _ h8 h9 ⟨b9, a4, f9, b0, a8, b5, Z4, hS, d2, d8, b6, b7, f1, e3, e4, c9⟩
 refine Z1 (Z0 (Ys4 (by exact c9) d2 hS U ?_ ?_))
 intro g5; subst g5
 rw [R3] at b5
 refine V1 (vB false) U U U (Z2 (Z1 (Z6 U (W2 U ?_))))
 cases b5
 exact h9 _ _ ⟨a4, f9, b0, a8, U, Z4, hS, d2, d8, e4⟩
 intro a5 e0 _ e5 g6 b3 hS
 replace b5 := Yn6 g6 b5
 rw [R3] at b5
 refine V1 (vB true) U U U (Z2 (Z1 (Z8 U (Y6 (Y8 (Z1 (Z0 (Yk7 (by exact c9) b3 hS U (V1 (vA (Z7 .i64 a5.1)) U U U (V1 (vI a5.2) U U U (U5 (z := vA (Z7 .i64 (fun _ => 0))) (Z7 .i64 (fun _ => 0)).toArray Zm8.zero U hS U (fun g0 _ hS => W1 (v := vA (Z7 .i64 a5.1)) (vs := (Z7 .i64 a5.1).toArray) (cs := (Z7 .i64 (fun _ => 0)).toArray) P3 U U U hS U (R7 .i64 a5.1) U (fun _ hS => Z5 (vI a5.2) U U (Z2 (Z1 (Z0 (Z3 s2 (by exact e3) U (Yk3 Zs5 U b7 hS U (fun e8 _ i0 g7 hS => Z2 (Y8 ?_))))))))))))))))))))
 obtain ⟨g1, a6, g2⟩ := bSm b5
 refine W3 (id := 2) (fun k f w => ∃ c0 a3 H1 b1 a9, U4 K a1 a5 k c0 a3 = some g1 ∧ Sub H H1 ∧ St H1 w (b1 ++ ([(g0, cA (Z7 .i64 a5.1) 222)] ++ (e5 ++ (a9 ++ L)))) ∧ Zi2 .i64 H1 e8 c0 none b1 ∧ Q8 .i64 m1 a3 a9 ∧ Y3 (Y4 .i64) H1 s1 a1 ∧ N0 .i64 H1 s2 a2 ∧ Zi2 .i64 H1 e1 e0 (some a5) e5 ∧ tv f 1 = s1 ∧ tv f 2 = s2 ∧ tv f 7 = m1 ∧ tv f 8 = vP g0 ∧ tv f 9 = vI a5.2 ∧ tv f 16 = e1 ∧ tv f 23 = e8) (fun f w => ∃ b4 H1 c5 c1, g1 = .go b4 ∧ Sub H H1 ∧ St H1 w (c5 ++ ([(g0, cA (Z7 .i64 a5.1) 222)] ++ (e5 ++ (c1 ++ L)))) ∧ Zi2 .i64 H1 e8 ([] : MpT) none c5 ∧ Q8 .i64 m1 b4 c1 ∧ Y3 (Y4 .i64) H1 s1 a1 ∧ N0 .i64 H1 s2 a2 ∧ Zi2 .i64 H1 e1 e0 (some a5) e5 ∧ tv f 1 = s1 ∧ tv f 2 = s2 ∧ tv f 7 = m1 ∧ tv f 16 = e1) U ?_ ?_ K ?_ ?_
 rintro f w ⟨c0, a3, H1, b1, a9, a6, _⟩
 rw [U4] at a6; cases a6
 rintro k _ _ g3 i1 ⟨c0, a3, g8, b1, a9, a6, Z4, hS, d3, b2, b6, b7, b3, c6, d4, c7, d5, d6, d0, c2⟩
 refine Z1 (Z0 (Ys4 (by exact c2) d3 hS U ?_ ?_))
 intro g9; subst g9
 rw [U4] at a6
 refine V1 (vB false) U U U (Z2 (Z1 (Z6 U (W2 U ?_))))
 cases a6
 exact i1 _ _ ⟨a3, g8, b1, a9, U, Z4, hS, d3, b2, b6, b7, b3, c6, d4, c7, d0⟩
 intro c3 d9 _ g4 h0 d1 hS
 replace a6 := Yl0 h0 a6
 rw [U4] at a6
 refine V1 (vB true) U U U (Z2 (Z1 (Z8 U (Y6 (Y8 (Z1 (Z0 (Yk7 (by exact c2) d1 hS U (V1 (vA (Z7 .i64 c3.1)) U U U (V1 (vI c3.2) U U U (U5 (z := vA (Z7 .i64 (fun _ => 0))) (Z7 .i64 (fun _ => 0)).toArray Zm8.zero U hS U (fun _ _ hS => W1 (v := vA (Z7 .i64 c3.1)) (vs := (Z7 .i64 c3.1).toArray) (cs := (Z7 .i64 (fun _ => 0)).toArray) P3 U U U hS U (R7 .i64 c3.1) U (fun _ hS => Z5 (vI c3.2) U U (Z2 (Z1 (Z0 (X5 P3 (by exact d5) (hS.get (mR (mR mL))) U U (Z3 s1 (by exact c6) U (X5 P3 U (hS.get mL) U U ?_)))))))))))))))))))
 obtain ⟨a7, h1, a6⟩ := bSm a6
 refine X2 call216 (I3 U U U) U (Ys3 h1 b6 hS) ?_
 rintro _ i2 _ d7 hS ⟨_, _, rfl, ⟨_, rfl, rfl⟩, rfl⟩
 have Z4 := Z4.trans d7
 have b6 := b6.mono d7
 have b7 := b7.mono d7
 have b2 := b2.mono d7
 have b3 := b3.mono d7
 have d1 := d1.mono d7
 refine Z3 (Value.tuple #[vA (Z7 .i64 a7.1), vI a7.2]) U U (V1 (vA (Z7 .i64 a7.1)) U U U (V1 (vI a7.2) U U U (U5 (z := vA (Z7 .i64 (fun _ => 0))) (Z7 .i64 (fun _ => 0)).toArray Zm8.zero U hS U (fun _ _ hS => W1 (v := vA (Z7 .i64 a7.1)) (vs := (Z7 .i64 a7.1).toArray) (cs := (Z7 .i64 (fun _ => 0)).toArray) P3 U U U hS U (R7 .i64 a7.1) U (fun _ hS => Z5 (vI a7.2) U U (Z2 (Z1 (Z0 (Z3 (vI a7.2) U U (L1 (k := .i64) (a := a7.2) (b := 0) U U U (Z2 ?_)))))))))))
 obtain ⟨e9, a6⟩ | ⟨e9, a6⟩ := ic a6
 refine Z6 (bN e9 U) (Y6 (X1 ?_))
 have hS := St.dA hS
 have hS := St.dA hS
 exact g3 _ _ ⟨d9, a3, i2, g4, a9, a6, Z4, hS, d1.drop, b2, b6, b7, b3, c6, d4, c7, d5, d6, d0, c2⟩
 refine Z8 (bO e9 U) (Z0 (Z3 m1 (by exact c7) U (X5 P3 U (hS.get mL) U U (Z3 (vI a7.2) U U (Z3 (vI a5.2) (by exact d6) U (Zi4 (i64.wrap (a7.2 * a5.2)) U U U U (Z3 (vI c3.2) U U (Zi4 (i64.wrap ((i64.wrap (a7.2 * a5.2)) * c3.2)) U U U U (Zd4 (((i64.wrap ((i64.wrap (a7.2 * a5.2)) * c3.2))).tmod 10007) U U (by decide) U U ?_)))))))))
 obtain ⟨f6, h2, a6⟩ := bSm a6
 have hS := hS.perm Xh8
 refine U9 call217 (I3 U U U) U (Yb0 h2 b2 hS) ?_
 rintro _ _ ⟨i3, i4, rfl, e2, hS, h3⟩
 refine ⟨_, U, ?_⟩
 have Z4 := Z4.trans e2
 have b6 := b6.mono e2
 have b7 := b7.mono e2
 have b3 := b3.mono e2
 have d1 := d1.mono e2
 have hS := hS.perm Xh8.symm
 refine Z2 (X1 ?_)
 have hS := St.dA hS
 have hS := St.dA hS
 exact g3 _ _ ⟨d9, f6, i3, g4, i4, a6, Z4, hS, d1.drop, h3, b6, b7, b3, c6, d4, c7, d5, d6, d0, c2⟩
 exact ⟨a2, a4, f9, i0, a8, a6, Z4, hS, g7, d8, b6, b7, b3, f1, e3, e4, U, U, c9, U⟩
 rintro _ _ ⟨b4, h4, c5, c1, rfl, Z4, hS, _, e6, b6, b7, b3, f2, f3, f4, f0⟩
 dsimp only [Ex.elim] at g2
 refine X1 ?_
 have hS := St.dA hS
 have hS := St.dA hS
 exact h8 _ _ ⟨e0, b4, h4, e5, c1, g2, Z4, hS, b3.drop, e6, b6, b7, f2, f3, f4, f0⟩
 exact ⟨a0, ([] : MpT), H, C8, C3, b5, Z4, hS, h7, h6, b6, b7, U, U, U, U⟩
 rintro _ _ ⟨b8, _, c4, c8, rfl, Z4, hS, _, e7, f5⟩
 dsimp only [Ex.elim] at f8
 refine Z1 (Z0 (Z3 m1 (by exact f5) U (Z5 m1 U U (Z2 (Y9 (vs := [m1]) func128 Ut ?_)))))
 have hS := hS.perm R5
 have hS := St.dropMid hS
 cases f8
 exact ⟨_, _, _, U, Z4, hS, e7⟩
def Zf6 (K : Nat) (a0 : MpT) (a1 : ((List Int) × (List MpT))) : Option Bool := ((Zp9 K a1.1 a0).bind fun a4 => some (!a4))
theorem Yn7 {a0 : MpT} {a1 : ((List Int) × (List MpT))} {r : Bool} (q0 : Zf6 K a0 a1 = some r) (a8 : Y3 yT H s0 a0) (c0 : Zt4 (Vk7 (Yd6 (X3 (Y4 .i64)) (X3 (X3 yT)))) H s1 a1) (hS : St H w L) :
 Calls prog 149 #[vA [s0], s1] w (T4 (fun v G => R.bool.p G v r) H L) := by
 obtain ⟨_, _, _, _, _, rfl, b4, ⟨_, rfl, ⟨a6, a7, _, _, _, rfl, b2, ⟨_, _, rfl, ⟨a5, rfl, a3⟩, ⟨_, rfl, _⟩⟩, b3⟩⟩, b5⟩ := c0
 have Z4 := Sub.refl H
 refine X0 func149 U ntmps149 U ?_
 unfold Zf6 at q0
 refine Z1 (Z0 (T8 (v := vA [s0]) [s0].toArray U U hS U (fun b1 _ hS => Z5 (vB false) U U (Z2 (Z1 ?_)))))
 obtain ⟨a4, b6, q0⟩ := bSm q0
 refine W6 8 (S8 [mE 4 (vQ a6 a7), mE 5 (vQ a6 a7), mE 6 (vQ a6 (a7 + 0)), mE 7 a5, mE 8 (vA [s0]), mE 9 (vB a4), mE 10 (vB (!a4)), mE 3 (vB (!a4))]) [] mixed U U U hS (U1 (Vj3 fun s S B => Y1 (vQ a6 a7) Vh9 (evT (B 1 U) U) (S.froz _ _ (s.1 _ _ b4)) (b5 0 (show 0 < 1 by decide)) U (qz S)) (Y7 fun S V => V0 (eM (V 0 4 U U)) U (qz S)) (Y7 fun S V => Y2 N8 (eM (V 1 5 U U)) U (qz S)) (P0 fun s S V => Y1 a5 Q9 (eM (V 2 6 U U)) (S.froz _ _ (s.1 _ _ b2)) (b3 0 (show 0 < 2 by decide)) U (qz S)) (X4 fun S B => X5 U7 (evT (B 2 U) U) (S.get (mR mL)) U U (qz S)) ?_ ?_ ?_ W9) ?_
 intro _ _ _ _ a9 hS _ b0 hcq
 have a3 := a3.mono a9
 have a8 := a8.mono a9
 refine X2 call121 (W8 (eM (b0 3 7 U U)) (eM (b0 4 8 U U))) U (Yd0 b6 a3 a8 hS) ?_
 rintro _ _ _ b7 hS rfl
 exact qn b7 U hS U
 exact Y7 fun S V => P5 (b := a4) (eM (V 5 9 U U)) U (qz S)
 exact Y7 fun S V => Z5 (vB (!a4)) (eM (V 6 10 U U)) U (qz S)
 intro _ c1 c2 b8 hS _ b9 hcq
 have hS : St c2 c1 ([(b1, cA [s0] 45)] ++ L) := hS
 have Z4 := Z4.trans b8
 refine Z2 (Y9 (vs := [vB (!a4)]) func149 ⟨(by exact (eM (b9 7 3 (by decide) U))), trivial⟩ ?_)
 cases q0
 exact ⟨_, _, U, Z4, (St.dA hS), U⟩
def I6 (K : Nat) (a0 a1 : MpT) : Option Bool := ((Zt1 K a0 a1).bind fun r7 => (if r7 = true then some true else some false))
theorem Zo6 {a0 a1 : MpT} {r : Bool} (q0 : I6 K a0 a1 = some r) (a4 : Y3 yT H s0 a0) (a5 : Y3 yT H s1 a1) (hS : St H w L) :
 Calls prog 28 #[vA [s0], vA [s1]] w (T4 (fun v G => R.bool.p G v r) H L) := by
 have Z4 := Sub.refl H
 refine X0 func28 U ntmps28 U ?_
 unfold I6 at q0
 refine Z1 (Z0 (T8 (v := vA [s0]) [s0].toArray U U hS U (fun _ _ hS => T8 (v := vA [s1]) [s1].toArray U U hS U (fun _ _ hS => Z5 (vB false) U U (Z2 (Z1 (Z1 (Z0 (Y2 U8 U U (Y1 s0 P1 U (hS.get (mR mL)) U U (Y2 U8 U U (Y1 s1 P1 U (hS.get mL) U U ?_))))))))))))
 obtain ⟨r7, a6, q0⟩ := bSm q0
 refine X2 call94 (W8 U U) U (Xc3 a6 a4 a5 hS) ?_
 rintro _ _ _ a7 hS rfl
 have Z4 := Z4.trans a7
 refine P5 (b := r7) U U (Z2 ?_)
 obtain ⟨a3, q0⟩ | ⟨a3, q0⟩ := ic q0
 refine Z6 (nT a3) (Y6 (Z1 (Z0 (Z5 (vB true) U U (Z2 (Y9 (vs := [vB true]) func28 Ut ?_))))))
 cases q0
 exact ⟨_, _, U, Z4, (St.dA (St.dA hS)), U⟩
 refine Z8 (nT (X8 a3)) (Z1 (Z0 (Z5 (vB false) U U (Z2 (Y9 (vs := [vB false]) func28 Ut ?_)))))
 cases q0
 exact ⟨_, _, U, Z4, (St.dA (St.dA hS)), U⟩
end Go.Proofs.YtabofnehiclkiaaGreat
