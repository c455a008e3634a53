/- Walks of functions: each computes its pure function, if that gives a value. -/
import Derived.Test.YtabofnehiclkiaaGreatXTy
import Derived.Test.YtabofnehiclkiaaGreatXF7
import Derived.Test.YtabofnehiclkiaaGreatXF12
import Derived.Test.YtabofnehiclkiaaGreatXF9
import Derived.Test.YtabofnehiclkiaaGreatXF17
import Derived.Test.YtabofnehiclkiaaGreatXF14
import Derived.Test.YtabofnehiclkiaaGreatXF10
import Derived.Test.YtabofnehiclkiaaGreatXF6
import Derived.Test.YtabofnehiclkiaaGreatXF3
import Derived.Test.YtabofnehiclkiaaGreatXF1
namespace Go.Proofs.YtabofnehiclkiaaGreat
open Go
set_option linter.unusedSimpArgs false
set_option linter.unusedVariables false
set_option maxRecDepth 100000
set_option maxHeartbeats 8000000
variable {K : Nat} {H : FH} {w : World} {L : OL} {s0 s1 s2 s3 s4 s5 s6 : Value}
def B5 (K : Nat) (b2 : (((List Int) × (List MpT)) × (List MpT) × Int)) (c7 : (List MpT)) : Nat → Int → (List MpT) → Option (Ex (((List Int) × (List MpT)) × (List MpT) × Int) ((List MpT)))
 | 0, _, _ => none
 | k + 1, b7, b5 => (if b7 < (c7.length : Int) then ((Zj8 K b2.1.1 b2.2.1 (rd c7 b7)).bind fun e4 => (if b5.length + ([e4]).length ≤ 1099511627776 then B5 K b2 c7 k (b7 + 1) (b5 ++ [e4]) else none)) else some (.go b5))
def C2 (K : Nat) : Nat → (List MpT) → (List Int) → (List MpT) → Option (Ex (((List Int) × (List MpT)) × (List MpT) × Int) (Unit))
 | 0, _, _, _ => none
 | k + 1, c7, a8, a9 => ((Zu1 K (a8, a9)).bind fun c3 => (if c3.2.2 = true then ((Zm7 K (a8, a9) c3.1 c3.2.1).bind fun b2 => (if b2.2.2 = 0 then ((B5 K b2 c7 K 0 ([] : List MpT)).bind (Ex.elim (fun r => some (.ret r)) (fun s => (fun (c4 : (List MpT)) => ((Zf5 K b2.1.1 c4).bind fun d2 => (if d2.2 = 0 then C2 K k c4 b2.1.1 b2.1.2 else some (.ret ((([] : List Int), ([] : List MpT)), ([] : List MpT), d2.2))))) s))) else some (.ret ((([] : List Int), ([] : List MpT)), ([] : List MpT), b2.2.2)))) else some (.ret ((a8, a9), c7, 0))))
def Zp8 (K : Nat) (a0 : ((List Int) × (List MpT))) : Option (((List Int) × (List MpT)) × (List MpT) × Int) := ((Zx2 K (a0.1, a0.2)).bind fun d6 => ((Zn0 K (a0.1.length : Int) ([] : (List Int))).bind fun h8 => ((C2 K K h8 ((d6.1, d6.2).1) ((d6.1, d6.2).2)).bind (Ex.elim (fun r => some r) (fun s => none)))))
theorem Yv8 {a0 : ((List Int) × (List MpT))} {r : (((List Int) × (List MpT)) × (List MpT) × Int)} (q0 : Zp8 K a0 = some r) (b6 : Z9 (Y6 .i64) H s0 a0.1) (b8 : Z9 (Y9 yT) H s1 a0.2) (hM : ∀ b, H.memo b = none) (hS : St H w L) :
 Calls Tryz.prog 104 #[vA ([s0] ++ [s1])] w (T2 (fun v G => (R.t3 (R.agg (Zp1 (Y9 (Y6 .i64)) (Y9 (Y9 yT)))) (R.sl (Y9 yT)) (R.int .i64)).p G v r) H L) := by
 have Z3 := Sub.refl H
 refine X3 Tryz.func104 rfl Tryz.ntmps104 rfl ?_
 unfold Zp8 at q0
 refine Z2 (Z0 ?_)
 refine S3 (v := vA ([s0] ++ [s1])) ([s0] ++ [s1]).toArray rfl rfl hS rfl ?_
 intro b1 _ hS
 refine W6 (z := vA ([vN] ++ [vN])) ([vN] ++ [vN]).toArray Zr4.zero rfl hS rfl ?_
 intro b4 _ hS
 refine Z5 (vN) rfl rfl (Z5 (vI 0) rfl rfl (Z1 (Z2 ?_)))
 obtain ⟨d6, l7, q0⟩ := bind_some q0
 have q3 := b6.bound
 obtain ⟨h8, l9, q0⟩ := bind_some q0
 refine Xp4 7 (fun t C => P0 [mE 17 (vA ([s0] ++ [s1])), (18, MP.rep (R.agg (Zp1 (Y9 (Y6 .i64)) (Y9 (Y9 yT)))) ((d6.1, d6.2))), mE 19 (vP b1), mE 20 (s0), mE 21 (vI (a0.1.length : Int)), (22, MP.own (Y9 yT) 45 (h8) C), (5, MP.box (cA ([vN] ++ [vN]) 31))] t) [] mixed rfl rfl rfl hS (Zg8 rfl ?_ (Zg8 rfl ?_ (Zg8 rfl ?_ (Zg8 rfl ?_ (Zg8 rfl ?_ (Zg8 rfl ?_ (Zg8 rfl ?_ U7))))))) ?_
 intro G1 f7 _ H9 _ _ hS m0 _ hcq
 have Z3 := Sub.refl H9
 have o5 : tv f7 1 = vP b1 := Eq.trans (m0 1 rfl) rfl
 refine X7 S5 o5 (hS.get (mR (mR mL))) rfl rfl ?_
 exact Z1 ⟨17, _, _, [], rfl, rfl, Z3, hS, rfl⟩
 intro G1 _ _ o6 _ i6 hS _ m1 hcq
 have Z3 := Sub.refl o6
 have b6 := b6.mono i6
 have b8 := b8.mono i6
 refine T5 Tryz.call177 (S2 (eM (m1 0 17 rfl rfl))) rfl (Xe1 l7 b6 b8 hS) ?_
 rintro _ _ ⟨_, _, _, _, rfl, m2, hS, i1, m3⟩
 refine ⟨_, rfl, ?_⟩
 have Z3 := Z3.trans m2
 obtain ⟨_, i7, hS, m4⟩ := m3.freeze hS
 have Z3 := Z3.trans i7
 have i1 := i1.mono i7
 exact Z1 ⟨18, _, _, [], rfl, rfl, Z3, hS, ⟨_, rfl, ⟨_, _, rfl, ⟨_, rfl, i1⟩, ⟨_, rfl, m4⟩⟩⟩⟩
 intro G1 o7 _ o8 _ _ hS m5 _ hcq
 have Z3 := Sub.refl o8
 have o9 : tv o7 1 = vP b1 := Eq.trans (m5 1 rfl) rfl
 refine Y2 R4 o9 rfl ?_
 exact Z1 ⟨19, _, _, [], rfl, rfl, Z3, hS, rfl⟩
 intro G1 _ _ p0 _ _ hS _ m6 hcq
 have Z3 := Sub.refl p0
 refine Y3 (s0) M9 (eM (m6 2 19 rfl rfl)) (hS.get (mR (mR mL))) rfl rfl ?_
 exact Z1 ⟨20, _, _, [], rfl, rfl, Z3, hS, rfl⟩
 intro G1 _ _ p1 _ m7 hS _ m8 hcq
 have Z3 := Sub.refl p1
 have b6 := b6.mono m7
 refine W7 Q0 (eM (m8 3 20 rfl rfl)) b6 rfl ?_
 exact Z1 ⟨21, _, _, [], rfl, rfl, Z3, hS, rfl⟩
 intro G1 _ _ p2 _ _ hS _ m9 hcq
 have Z3 := Sub.refl p2
 refine T5 Tryz.call178 (U9 (eM (m9 4 21 rfl rfl)) rfl) rfl (Yh5 l9 Z9.nil hS) ?_
 rintro _ _ ⟨_, _, p3, rfl, n0, hS, n1⟩
 refine ⟨_, rfl, ?_⟩
 have Z3 := Z3.trans n0
 exact Z1 ⟨22, _, _, p3, rfl, rfl, Z3, hS, n1⟩
 intro G1 _ _ p4 _ _ hS _ _ hcq
 have Z3 := Sub.refl p4
 refine W6 (z := vA ([vN] ++ [vN])) ([vN] ++ [vN]).toArray Zr4.zero rfl hS rfl ?_
 intro _ _ hS
 exact Z1 ⟨5, _, _, [], rfl, rfl, Z3, hS, ⟨_, rfl⟩⟩
 intro i8 h9 l5 i9 i2 hS n2 i3 hcq
 have hS : St i9 l5 ((i8 22 ++ (Zk9 (cA ([vN] ++ [vN]) 31) (h9 5) ++ ([]))) ++ ([(b4, cA ([vN] ++ [vN]) 31)] ++ ([(b1, cA ([s0] ++ [s1]) 31)] ++ L))) := hS
 have Z3 := Z3.trans i2
 have b6 := b6.mono i2
 have b8 := b8.mono i2
 have p5 : tv h9 2 = vP b4 := Eq.trans (n2 2 rfl) rfl
 obtain ⟨_, p6, ⟨_, rfl, ⟨_, _, rfl, ⟨h0, rfl, e8⟩, ⟨h1, rfl, e9⟩⟩⟩⟩ := gvR (i3 1 18 (by decide) rfl)
 obtain ⟨j0, l6⟩ : ∃ v, tv h9 22 = v := ⟨_, rfl⟩
 have j1 : W3 (Y9 yT) 45 i9 j0 (h8) (i8 22) := l6 ▸ (i3 5 22 (by decide) rfl)
 obtain ⟨p7, n3⟩ : ∃ C, i8 22 = C := ⟨_, rfl⟩
 rw [n3] at hS j1
 obtain ⟨f0, f9⟩ := i3 6 5 (by decide) rfl
 have f9 : h9 5 = vP f0 := f9
 rw [f9] at hS
 have f9 : tv h9 5 = _ := f9
 have hS : St i9 l5 (p7 ++ ([(f0, cA ([vN] ++ [vN]) 31)] ++ ([(b4, cA ([vN] ++ [vN]) 31)] ++ ([(b1, cA ([s0] ++ [s1]) 31)] ++ L)))) := by have h := hS; simp only [List.append_assoc, List.nil_append, List.append_nil] at h; exact h
 have hS := hS.perm V1
 refine X5 (v := vA ([h0] ++ [h1])) (vs := ([h0] ++ [h1]).toArray) (cs := ([vN] ++ [vN]).toArray) S5 (by exact f9) (by exact p6) rfl hS rfl (R8 (U0 e8.isOne) (U0 e9.isOne)) rfl ?_
 intro _ hS
 have hS := hS.perm V1.symm
 refine Z5 (j0) (by exact l6) rfl (Z1 (Y7 ?_))
 obtain ⟨j8, d7, hS, j2⟩ := j1.freeze hS
 have Z3 := Z3.trans d7
 have b6 := b6.mono d7
 have b8 := b8.mono d7
 have e8 := e8.mono d7
 have e9 := e9.mono d7
 obtain ⟨n4, b9, f2⟩ := bind_some q0
 refine W1 (id := 0) (fun k f w => ∃ (c7 : (List MpT)) (a8 : (List Int)) (a9 : (List MpT)) (H1 : FH) (c5 : Value) (a4 : Value) (a5 : Value), C2 K k c7 a8 a9 = some n4 ∧ Sub H H1 ∧ St H1 w ([(f0, cA ([a4] ++ [a5]) 31)] ++ ([(b4, cA ([vN] ++ [vN]) 31)] ++ ([(b1, cA ([s0] ++ [s1]) 31)] ++ L))) ∧ Z9 (Y9 yT) H1 c5 c7 ∧ Z9 (Y6 .i64) H1 a4 a8 ∧ Z9 (Y9 yT) H1 a5 a9 ∧ Z9 (Y6 .i64) H1 s0 a0.1 ∧ Z9 (Y9 yT) H1 s1 a0.2 ∧ tv f 2 = vP b4 ∧ tv f 5 = vP f0 ∧ tv f 6 = c5) (fun f w => False) rfl ?_ ?_ K ?_ ?_
 rintro f w ⟨c7, a8, a9, H1, c5, a4, a5, b9, _⟩
 rw [C2] at b9; cases b9
 rintro k _ _ p8 _ ⟨c7, a8, a9, _, c5, a4, a5, b9, Z3, hS, c0, a1, a3, b6, b8, d4, d9, g6⟩
 rw [C2] at b9
 refine Y7 (Z2 (Z0 ?_))
 refine X7 S5 (by exact d9) (hS.get mL) rfl rfl ?_
 obtain ⟨c3, j9, b9⟩ := bind_some b9
 refine X6 Tryz.call179 (S2 rfl) rfl (Xb6 j9 a1 a3 hS) ?_
 rintro _ e5 _ e0 hS ⟨_, _, _, rfl, rfl, rfl, rfl⟩
 have Z3 := Z3.trans e0
 have c0 := c0.mono e0
 have a1 := a1.mono e0
 have a3 := a3.mono e0
 have b6 := b6.mono e0
 have b8 := b8.mono e0
 refine Z4 (Value.tuple #[vI c3.1, vI c3.2.1, vB c3.2.2]) rfl rfl (W4 (vI c3.1) rfl rfl rfl (W4 (vI c3.2.1) rfl rfl rfl (W4 (vB c3.2.2) rfl rfl rfl (Z5 (vI c3.1) rfl rfl (Z5 (vI c3.2.1) rfl rfl (Z5 (vB c3.2.2) rfl rfl (Z1 (Z2 (Z2 (Z0 (Z4 (vB c3.2.2) rfl rfl (K9 (b := c3.2.2) rfl rfl (Z1 ?_)))))))))))))
 obtain ⟨h2, b9⟩ | ⟨h2, b9⟩ := ic b9
 refine Z8 (Eq.trans rfl (congrArg (fun b => vB (!b)) h2)) (Y8 (Z2 (Z0 ?_)))
 refine X7 S5 (by exact d9) (hS.get mL) rfl rfl (Z4 (vI c3.1) rfl rfl (Z4 (vI c3.2.1) rfl rfl ?_))
 obtain ⟨b2, k0, b9⟩ := bind_some b9
 have hS := hS.noM
 have Z3 := Sub.nomT hM Z3
 have c0 : Z9 (Y9 yT) e5.noM c5 c7 := c0
 have a1 : Z9 (Y6 .i64) e5.noM a4 a8 := a1
 have a3 : Z9 (Y9 yT) e5.noM a5 a9 := a3
 have b6 : Z9 (Y6 .i64) e5.noM s0 a0.1 := b6
 have b8 : Z9 (Y9 yT) e5.noM s1 a0.2 := b8
 have a1 : Z9 (Y6 .i64) e5.noM a4 a8 := a1
 have a3 : Z9 (Y9 yT) e5.noM a5 a9 := a3
 refine X6 Tryz.call180 (G7 rfl rfl rfl) rfl (Yq5 k0 a1 a3 (fun _ => rfl) hS) ?_
 rintro _ n5 _ e1 hS ⟨_, d3, _, rfl, ⟨_, rfl, ⟨_, _, rfl, ⟨b0, rfl, a6⟩, ⟨b3, rfl, a7⟩⟩⟩, c9, rfl⟩
 have Z3 := Z3.trans e1
 have c0 := c0.mono e1
 have a1 := a1.mono e1
 have a3 := a3.mono e1
 have b6 := b6.mono e1
 have b8 := b8.mono e1
 refine Z4 (Value.tuple #[vA ([b0] ++ [b3]), d3, vI b2.2.2]) rfl rfl (W4 (vA ([b0] ++ [b3])) rfl rfl rfl (W4 (d3) rfl rfl rfl (W4 (vI b2.2.2) rfl rfl rfl ?_)))
 refine W6 (z := vA ([vN] ++ [vN])) ([vN] ++ [vN]).toArray Zr4.zero rfl hS rfl ?_
 intro f3 _ hS
 refine X5 (v := vA ([b0] ++ [b3])) (vs := ([b0] ++ [b3]).toArray) (cs := ([vN] ++ [vN]).toArray) S5 rfl rfl rfl hS rfl (R8 (U0 a6.isOne) (U0 a7.isOne)) rfl ?_
 intro _ hS
 refine Z5 (d3) rfl rfl (Z5 (vI b2.2.2) rfl rfl (Z1 (Z2 (Z2 (Z0 (Z4 (vI b2.2.2) rfl rfl ?_))))))
 refine L7 (k := .i64) (a := b2.2.2) (b := 0) rfl rfl rfl (Z1 ?_)
 obtain ⟨h3, b9⟩ | ⟨h3, b9⟩ := ic b9
 refine Z8 (bN h3 rfl) (Y8 (Z2 (Z0 ?_)))
 refine Zq2 (τ := (Y9 yT)) P6 I0 rfl hS rfl ?_
 intro j3 _ n6 k1 hS
 refine Z5 (j3) rfl rfl (Z1 (Z2 (Z2 (Z0 (Z5 (vI 0) rfl rfl (Z1 (Y7 ?_)))))))
 obtain ⟨j4, c8, d8⟩ := bind_some b9
 refine W1 (id := 2) (fun k f w => ∃ (b7 : Int) (b5 : (List MpT)) (H1 : FH) (c6 : OL) (c1 : Value), B5 K b2 c7 k b7 b5 = some j4 ∧ Sub H H1 ∧ St H1 w (c6 ++ ([(f3, cA ([b0] ++ [b3]) 31)] ++ ([(f0, cA ([a4] ++ [a5]) 31)] ++ ([(b4, cA ([vN] ++ [vN]) 31)] ++ ([(b1, cA ([s0] ++ [s1]) 31)] ++ L))))) ∧ 0 ≤ b7 ∧ W3 (Y9 yT) 45 H1 c1 b5 c6 ∧ Z9 (Y6 .i64) H1 s0 a0.1 ∧ Z9 (Y9 yT) H1 s1 a0.2 ∧ Z9 (Y6 .i64) H1 b0 b2.1.1 ∧ Z9 (Y9 yT) H1 b3 b2.1.2 ∧ Z9 (Y9 yT) H1 d3 b2.2.1 ∧ Z9 (Y9 yT) H1 c5 c7 ∧ Z9 (Y6 .i64) H1 a4 a8 ∧ Z9 (Y9 yT) H1 a5 a9 ∧ tv f 2 = vP b4 ∧ tv f 5 = vP f0 ∧ tv f 6 = c5 ∧ tv f 10 = vP f3 ∧ tv f 11 = d3 ∧ tv f 13 = c1 ∧ tv f 14 = vI b7) (fun f w => ∃ (c4 : (List MpT)) (H1 : FH) (d5 : OL) (c2 : Value), j4 = .go c4 ∧ Sub H H1 ∧ St H1 w (d5 ++ ([(f3, cA ([b0] ++ [b3]) 31)] ++ ([(f0, cA ([a4] ++ [a5]) 31)] ++ ([(b4, cA ([vN] ++ [vN]) 31)] ++ ([(b1, cA ([s0] ++ [s1]) 31)] ++ L))))) ∧ W3 (Y9 yT) 45 H1 c2 c4 d5 ∧ Z9 (Y6 .i64) H1 s0 a0.1 ∧ Z9 (Y9 yT) H1 s1 a0.2 ∧ Z9 (Y6 .i64) H1 b0 b2.1.1 ∧ Z9 (Y9 yT) H1 b3 b2.1.2 ∧ Z9 (Y6 .i64) H1 a4 a8 ∧ Z9 (Y9 yT) H1 a5 a9 ∧ tv f 2 = vP b4 ∧ tv f 5 = vP f0 ∧ tv f 10 = vP f3 ∧ tv f 13 = c2) rfl ?_ ?_ K ?_ ?_
 rintro f w ⟨b7, b5, H1, c6, c1, c8, _⟩
 rw [B5] at c8; cases c8
 rintro k _ _ p9 q1 ⟨b7, b5, n7, c6, c1, c8, Z3, hS, _, d0, b6, b8, a6, a7, c9, c0, a1, a3, g7, g8, f4, e6, g0, g1, e7⟩
 rw [B5] at c8
 refine Z2 (Z2 (Z0 (Z4 (vI b7) (by exact e7) rfl (Z4 (c5) (by exact f4) rfl ?_))))
 have q2 := c0.bound
 refine W7 P6 rfl c0 rfl ?_
 refine V5 (k := .i64) (a := b7) (b := (c7.length : Int)) rfl rfl rfl (Z1 ?_)
 obtain ⟨h4, c8⟩ | ⟨h4, c8⟩ := ic c8
 refine Y0 (bT h4 rfl) (Y8 (Z2 (Y7 ?_)))
 obtain ⟨n8, n9, _, _, _, k2, k3, ⟨i0, rfl, f5⟩, k4⟩ := c0.elem (i := b7) (by omega) (by omega)
 obtain ⟨e4, k5, c8⟩ := bind_some c8
 refine U1 10 (P0 [mE 52 (c1), mE 53 (vP f3), mE 54 (b0), mE 55 (d3), mE 56 (c5), mE 57 (vI b7), mE 58 (vQ n8 n9), mE 59 (vA ([i0])), (60, MP.rep (R.agg (Y9 yT)) (e4)), (61, MP.sl (Y9 yT) ([e4]))]) [] mixed rfl rfl rfl hS (Z6 rfl ?_ (Z6 rfl ?_ (Z6 rfl ?_ (Z6 rfl ?_ (Z6 rfl ?_ (Z6 rfl ?_ (Z6 rfl ?_ (Z6 rfl ?_ (Z6 rfl ?_ (Z6 rfl ?_ U7)))))))))) ?_
 exact W5 fun S B => Z4 (c1) (evT (B 13 rfl) g1) rfl (qz S)
 exact W5 fun S B => Y2 R4 (evT (B 10 rfl) e6) rfl (qz S)
 exact X2 fun S V => Y3 (b0) M9 (eM (V 1 53 rfl rfl)) (S.get (mR (mR mL))) rfl rfl (qz S)
 exact W5 fun S B => Z4 (d3) (evT (B 11 rfl) g0) rfl (qz S)
 exact W5 fun S B => Z4 (c5) (evT (B 6 rfl) f4) rfl (qz S)
 exact W5 fun S B => Z4 (vI b7) (evT (B 14 rfl) e7) rfl (qz S)
 exact X2 fun S V => X9 P6 rfl (eM (V 4 56 rfl rfl)) k2 (eM (V 5 57 rfl rfl)) (by omega) (by omega) rfl (qz S)
 exact E6 fun s S V => W9 ([i0]) U2 (eM (V 6 58 rfl rfl)) (S.froz _ _ (s.1 _ _ k3)) rfl k4 rfl (qz S)
 intro _ _ _ _ h5 hS _ h6 hcq
 have c9 := c9.mono h5
 have a6 := a6.mono h5
 have f5 := f5.mono h5
 refine X6 Tryz.call181 (G7 (eM (h6 2 54 rfl rfl)) (eM (h6 3 55 rfl rfl)) (eM (h6 7 59 rfl rfl))) rfl (Zz2 k5 a6 c9 f5 hS) ?_
 rintro _ _ _ k6 hS k7
 exact qn k6 rfl hS k7
 intro _ _ _ _ _ hS _ k8 hcq
 obtain ⟨_, o0, ⟨_, rfl, ⟨j5, rfl, i5⟩⟩⟩ := gvR (k8 8 60 rfl rfl)
 refine D9 (τ := (Y9 yT)) P6 I0 rfl [vA ([j5])] [e4] rfl rfl (K6 o0) (Zi6 ⟨_, rfl, i5⟩) (by decide) (by decide) hS rfl ?_
 intro _ _ _ k9 hS l0
 exact qn k9 rfl hS l0
 intro _ o1 j6 d1 hS e2 i4 hcq
 have hS : St j6 o1 (c6 ++ ([(f3, cA ([b0] ++ [b3]) 31)] ++ ([(f0, cA ([a4] ++ [a5]) 31)] ++ ([(b4, cA ([vN] ++ [vN]) 31)] ++ ([(b1, cA ([s0] ++ [s1]) 31)] ++ L))))) := hS
 have Z3 := Z3.trans d1
 have c0 := c0.mono d1
 have c9 := c9.mono d1
 have b6 := b6.mono d1
 have b8 := b8.mono d1
 have a1 := a1.mono d1
 have a3 := a3.mono d1
 have a6 := a6.mono d1
 have a7 := a7.mono d1
 have d0 := d0.mono d1
 obtain ⟨_, o2, l1⟩ := gvS (i4 9 61 (by decide) rfl)
 obtain ⟨l2, c8⟩ := gd c8
 refine N5 (τ := (Y9 yT)) Yl7 rfl (by exact (eM (i4 0 52 (by decide) rfl))) (by exact o2) d0 hS l1 l2 rfl ?_
 intro j7 _ o3 l3 hS
 refine Z5 (j7) rfl rfl (Z1 (X4 (Z0 (Z4 (vI b7) (by exact (evT (e2 14 rfl) e7)) rfl ?_))))
 refine W8 (b7 + 1) rfl rfl (IntWalk.i64_in _ (by omega)) rfl (Z5 (vI (b7 + 1)) rfl rfl (Z1 ?_))
 exact p9 _ _ ⟨(b7 + 1), (b5 ++ [e4]), j6, o3, j7, c8, Z3, hS, (by omega), l3, b6, b8, a6, a7, c9, c0, a1, a3, (evT (e2 2 rfl) g7), (evT (e2 5 rfl) g8), (evT (e2 6 rfl) f4), (evT (e2 10 rfl) e6), (evT (e2 11 rfl) g0), rfl, rfl⟩
 refine Z8 (bF h4 rfl) ?_
 refine W0 rfl ?_
 obtain rfl := oi c8
 exact q1 _ _ ⟨b5, n7, c6, c1, rfl, Z3, hS, d0, b6, b8, a6, a7, a1, a3, g7, g8, e6, g1⟩
 exact ⟨0, ([] : List MpT), n5, n6, j3, c8, Z3, hS, (by omega), k1, b6, b8, a6, a7, c9, c0, a1, a3, d4, d9, g6, rfl, rfl, rfl, rfl⟩
 rintro _ _ ⟨c4, _, d5, c2, rfl, Z3, hS, g5, b6, b8, a6, a7, a1, a3, f6, g9, g2, g3⟩
 dsimp only [Ex.elim] at d8
 refine Z2 (Z2 (Z0 (Y2 R4 (by exact g2) rfl ?_)))
 refine Y3 (b0) M9 rfl (hS.get (mR mL)) rfl rfl (Z4 (c2) (by exact g3) rfl ?_)
 obtain ⟨_, f1, hS, f8⟩ := g5.freeze hS
 have Z3 := Z3.trans f1
 have a6 := a6.mono f1
 have b6 := b6.mono f1
 have b8 := b8.mono f1
 have a7 := a7.mono f1
 obtain ⟨d2, l4, d8⟩ := bind_some d8
 refine X6 Tryz.call182 (U9 rfl rfl) rfl (Yc0 l4 a6 f8 hS) ?_
 rintro _ o4 _ e3 hS ⟨g4, _, rfl, _, rfl⟩
 have Z3 := Z3.trans e3
 have f8 := f8.mono e3
 have a6 := a6.mono e3
 have b6 := b6.mono e3
 have b8 := b8.mono e3
 have a7 := a7.mono e3
 refine Z4 (Value.tuple #[g4, vI d2.2]) rfl rfl (W4 (g4) rfl rfl rfl (W4 (vI d2.2) rfl rfl rfl (Z5 (g4) rfl rfl (Z5 (vI d2.2) rfl rfl (Z1 (Z2 (Z0 (Z4 (vI d2.2) rfl rfl ?_))))))))
 refine L7 (k := .i64) (a := d2.2) (b := 0) rfl rfl rfl (Z1 ?_)
 obtain ⟨h7, d8⟩ | ⟨h7, d8⟩ := ic d8
 refine Z8 (bN h7 rfl) (Y8 (Z2 (Z0 ?_)))
 refine X7 S5 (by exact g2) (hS.get mL) rfl rfl ?_
 have hS := hS.perm V1
 refine X5 (v := vA ([b0] ++ [b3])) (vs := ([b0] ++ [b3]).toArray) (cs := ([a4] ++ [a5]).toArray) S5 (by exact g9) rfl rfl hS rfl (R8 (U0 a6.isOne) (U0 a7.isOne)) rfl ?_
 intro _ hS
 have hS := hS.perm V1.symm
 refine Z1 (Z0 (Z4 (c2) (by exact g3) rfl (Z5 (c2) rfl rfl (Z1 (X4 ?_)))))
 have hS := St.dropA hS
 exact p8 _ _ ⟨c4, b2.1.1, b2.1.2, o4, c2, b0, b3, d8, Z3, hS, f8, a6, a7, b6, b8, f6, g9, rfl⟩
 refine Y0 (bO h7 rfl) (Z2 (Z0 ?_))
 refine R6 (vA ([vN] ++ [vN])) Yl4 rfl (Z4 (vI d2.2) rfl rfl ?_)
 have hS := hS.perm Q8
 refine X5 (v := vA ([vN] ++ [vN])) (vs := ([vN] ++ [vN]).toArray) (cs := ([vN] ++ [vN]).toArray) S5 (by exact f6) rfl rfl hS rfl (R8 (U0 rfl) (U0 rfl)) rfl ?_
 intro _ hS
 have hS := hS.perm Q8.symm
 refine Z5 (vN) rfl rfl (Z5 (vI d2.2) rfl rfl (Z1 ?_))
 refine X0 (vs := [vA ([vN] ++ [vN]), vN, vI d2.2]) Tryz.func104 ⟨⟨_, (by exact f6), V6 S5 (hS.get (mR (mR mL))) rfl⟩, rfl, rfl, trivial⟩ ?_
 obtain rfl := oi d8
 dsimp only [Ex.elim] at f2
 obtain rfl := oi f2
 exact ⟨_, _, rfl, Z3, (St.dropA (St.dropA (St.dropA (St.dropA hS)))), ⟨_, _, _, rfl, ⟨_, rfl, ⟨_, _, rfl, ⟨_, rfl, Z9.nil⟩, ⟨_, rfl, Z9.nil⟩⟩⟩, Z9.nil, rfl⟩⟩
 refine Y0 (bO h3 rfl) (Z2 (Z0 ?_))
 refine R6 (vA ([vN] ++ [vN])) Yl4 rfl (Z4 (vI b2.2.2) rfl rfl ?_)
 have hS := hS.perm Q8
 refine X5 (v := vA ([vN] ++ [vN])) (vs := ([vN] ++ [vN]).toArray) (cs := ([vN] ++ [vN]).toArray) S5 (by exact d4) rfl rfl hS rfl (R8 (U0 rfl) (U0 rfl)) rfl ?_
 intro _ hS
 have hS := hS.perm Q8.symm
 refine Z5 (vN) rfl rfl (Z5 (vI b2.2.2) rfl rfl (Z1 ?_))
 refine X0 (vs := [vA ([vN] ++ [vN]), vN, vI b2.2.2]) Tryz.func104 ⟨⟨_, (by exact d4), V6 S5 (hS.get (mR (mR mL))) rfl⟩, rfl, rfl, trivial⟩ ?_
 obtain rfl := oi b9
 dsimp only [Ex.elim] at f2
 obtain rfl := oi f2
 exact ⟨_, _, rfl, Z3, (St.dropA (St.dropA (St.dropA (St.dropA hS)))), ⟨_, _, _, rfl, ⟨_, rfl, ⟨_, _, rfl, ⟨_, rfl, Z9.nil⟩, ⟨_, rfl, Z9.nil⟩⟩⟩, Z9.nil, rfl⟩⟩
 refine Y0 (Eq.trans rfl (congrArg (fun b => vB (!b)) (X8 h2))) (Z2 (Z0 ?_))
 refine X7 S5 (by exact d9) (hS.get mL) rfl rfl (Z4 (c5) (by exact g6) rfl ?_)
 have hS := hS.perm V1
 refine X5 (v := vA ([a4] ++ [a5])) (vs := ([a4] ++ [a5]).toArray) (cs := ([vN] ++ [vN]).toArray) S5 (by exact d4) rfl rfl hS rfl (R8 (U0 a1.isOne) (U0 a3.isOne)) rfl ?_
 intro _ hS
 have hS := hS.perm V1.symm
 refine Z5 (c5) rfl rfl (Z5 (vI 0) rfl rfl (Z1 ?_))
 refine X0 (vs := [vA ([a4] ++ [a5]), c5, vI 0]) Tryz.func104 ⟨⟨_, (by exact d4), V6 S5 (hS.get (mR mL)) rfl⟩, rfl, rfl, trivial⟩ ?_
 obtain rfl := oi b9
 dsimp only [Ex.elim] at f2
 obtain rfl := oi f2
 exact ⟨_, _, rfl, Z3, (St.dropA (St.dropA (St.dropA hS))), ⟨_, _, _, rfl, ⟨_, rfl, ⟨_, _, rfl, ⟨_, rfl, a1⟩, ⟨_, rfl, a3⟩⟩⟩, c0, rfl⟩⟩
 exact ⟨h8, ((d6.1, d6.2).1), ((d6.1, d6.2).2), j8, j0, h0, h1, b9, Z3, hS, j2, e8, e9, b6, b8, p5, f9, rfl⟩
 intro _ _ h
 exact h.elim
def J5 (K : Nat) (a0 : ((List Int) × (List MpT))) : Nat → Int → Option (Ex Bool (Unit))
 | 0, _ => none
 | k + 1, a1 => (if a1 < (a0.2.length : Int) then ((Zr8 K a0.1 (rd a0.2 a1)).bind fun b4 => (if b4 = true then (if a1 < (a0.1.length : Int) then ((Zo5 K a0.1 (rd a0.2 a1) (IntKind.i64.wrap ((rd a0.1 a1) + 1))).bind fun b5 => (if b5 = true then J5 K a0 k (a1 + 1) else some (.ret false))) else none) else some (.ret false))) else some (.go ()))
def Zl3 (K : Nat) (a0 : ((List Int) × (List MpT))) (b2 : Bool) : Option Bool := (if b2 = true then some false else ((J5 K a0 K 0).bind (Ex.elim (fun r => some r) (fun s => ((R0 K a0.2 (fun x => Zk8 K x (a0.1, a0.2))).bind fun c0 => some (!c0))))))
def Zq7 (K : Nat) (a0 : ((List Int) × (List MpT))) : Option Bool := ((Zn9 K a0.1).bind fun c8 => (if c8 = true then Zl3 K a0 (!decide ((a0.2.length : Int) = (a0.1.length : Int))) else Zl3 K a0 true))
theorem Yv5 {a0 : ((List Int) × (List MpT))} {r : Bool} (q0 : Zq7 K a0 = some r) (a6 : Z9 (Y6 .i64) H s0 a0.1) (a7 : Z9 (Y9 yT) H s1 a0.2) (hS : St H w L) :
 Calls Tryz.prog 54 #[vA ([s0] ++ [s1])] w (T2 (fun v G => R.bool.p G v r) H L) := by
 have Z3 := Sub.refl H
 refine X3 Tryz.func54 rfl Tryz.ntmps54 rfl ?_
 unfold Zq7 at q0
 refine Z2 (Z0 ?_)
 refine S3 (v := vA ([s0] ++ [s1])) ([s0] ++ [s1]).toArray rfl rfl hS rfl ?_
 intro b1 w2 hS
 refine Z5 (vB false) rfl rfl (Z1 (Z2 (Z2 ?_)))
 refine Zb0 (fun f w => ∃ (b2 : Bool) (H1 : FH), Zl3 K a0 b2 = some r ∧ Sub H H1 ∧ St H1 w ([(b1, cA ([s0] ++ [s1]) 31)] ++ L) ∧ Z9 (Y6 .i64) H1 s0 a0.1 ∧ Z9 (Y9 yT) H1 s1 a0.2 ∧ tv f 1 = vP b1 ∧ tv f 17 = vB b2) ?_ ?_
 rintro _ _ ⟨b2, f4, c5, Z3, hS, a6, a7, d5, c6⟩
 unfold Zl3 at c5
 obtain ⟨e4, c5⟩ | ⟨e4, c5⟩ := ic c5
 refine Y0 (Eq.trans (by exact c6) (congrArg vB e4)) (Z2 (Z0 (Z5 (vB false) rfl rfl (Z1 ?_))))
 refine X0 (vs := [vB false]) Tryz.func54 ⟨rfl, trivial⟩ ?_
 obtain rfl := oi c5
 exact ⟨_, _, rfl, Z3, (St.dropA hS), rfl⟩
 refine Z8 (Eq.trans (by exact c6) (congrArg vB (X8 e4))) (Y8 (Z2 (Z2 (Z0 (Y2 P2 (by exact d5) rfl ?_)))))
 refine Y3 (s1) Zd6 rfl (hS.get mL) rfl rfl ?_
 have j5 := a7.bound
 refine W7 P6 rfl a7 rfl (Z4 (vI 0) rfl rfl (Z1 (Y7 ?_)))
 obtain ⟨e5, a3, b6⟩ := bind_some c5
 refine W1 (id := 0) (fun k f w => ∃ (a1 : Int) (H1 : FH), J5 K a0 k a1 = some e5 ∧ Sub H H1 ∧ St H1 w ([(b1, cA ([s0] ++ [s1]) 31)] ++ L) ∧ 0 ≤ a1 ∧ Z9 (Y6 .i64) H1 s0 a0.1 ∧ Z9 (Y9 yT) H1 s1 a0.2 ∧ tv f 1 = vP b1 ∧ tv f 19 = s1 ∧ tv f 20 = vI (a0.2.length : Int) ∧ tv f 21 = vI a1) (fun f w => ∃ (H1 : FH), e5 = .go () ∧ Sub H H1 ∧ St H1 w ([(b1, cA ([s0] ++ [s1]) 31)] ++ L) ∧ Z9 (Y6 .i64) H1 s0 a0.1 ∧ Z9 (Y9 yT) H1 s1 a0.2 ∧ tv f 1 = vP b1) rfl ?_ ?_ K ?_ ?_
 rintro f w ⟨a1, H1, a3, _⟩
 rw [J5] at a3; cases a3
 rintro k _ _ h8 h9 ⟨a1, g9, a3, Z3, hS, _, a6, a7, a9, c1, c2, b3⟩
 rw [J5] at a3
 refine Z2 (Z0 ?_)
 refine V5 (k := .i64) (a := a1) (b := (a0.2.length : Int)) (by exact b3) (by exact c2) rfl (Z1 (Z2 ?_))
 obtain ⟨e6, a3⟩ | ⟨e6, a3⟩ := ic a3
 refine Y0 (bT e6 rfl) (Y8 (Z2 (Y7 (Z2 (Z0 (Z4 (vI a1) (by exact b3) rfl ?_))))))
 obtain ⟨_, _, _, _, _, i0, i1, ⟨b0, rfl, a8⟩, i2⟩ := a7.elem (i := a1) (by omega) (by omega)
 refine X9 P6 rfl (by exact c1) i0 (by exact b3) (by omega) (by omega) rfl ?_
 refine W9 ([b0]) U2 rfl (hS.froz _ _ i1) rfl i2 rfl ?_
 refine W6 (z := vA ([vN])) ([vN]).toArray I0.zero rfl hS rfl ?_
 intro b8 _ hS
 refine Z5 (vI a1) rfl rfl ?_
 refine X5 (v := vA ([b0])) (vs := ([b0]).toArray) (cs := ([vN]).toArray) U2 rfl rfl rfl hS rfl (U0 a8.isOne) rfl ?_
 intro _ hS
 refine Z1 (Z2 ?_)
 obtain ⟨b4, e7, a3⟩ := bind_some a3
 obtain ⟨a4, a3⟩ | ⟨a4, a3⟩ := ic a3
 obtain ⟨_, a3⟩ := gd a3
 obtain ⟨h0, h1, _, _, _, f5, c9, rfl, f6⟩ := a6.elem (i := a1) (by omega) (by omega)
 obtain ⟨b5, f7, a3⟩ := bind_some a3
 refine U1 18 (P0 [mE 26 (vP b1), mE 27 (s0), mE 28 (vA ([b0])), mE 29 (vB b4), mE 30 (vB (!b4)), mE 31 (vB (!b4)), mE 32 (vP b1), mE 33 (s0), mE 34 (vA ([b0])), mE 35 (vP b1), mE 36 (s0), mE 37 (vI a1), mE 38 (vQ h0 h1), mE 39 (vI (rd a0.1 a1)), mE 40 (vI (IntKind.i64.wrap ((rd a0.1 a1) + 1))), mE 41 (vB b5), mE 42 (vB (!b5)), mE 43 (vB (!b5))]) [] mixed rfl rfl rfl hS (Z6 rfl ?_ (Z6 rfl ?_ (Z6 rfl ?_ (Z6 rfl ?_ (Z6 rfl ?_ (Z6 rfl ?_ (Z6 rfl ?_ (Z6 rfl ?_ (Z6 rfl ?_ (Z6 rfl ?_ (Z6 rfl ?_ (Z6 rfl ?_ (Z6 rfl ?_ (Z6 rfl ?_ (Z6 rfl ?_ (Z6 rfl ?_ (Z6 rfl ?_ (Z6 rfl ?_ U7)))))))))))))))))) ?_
 exact W5 fun S B => Y2 R4 (evT (B 1 rfl) a9) rfl (qz S)
 exact X2 fun S V => Y3 (s0) M9 (eM (V 0 26 rfl rfl)) (S.get (mR (mR mL))) rfl rfl (qz S)
 exact W5 fun S B => X7 U2 (evT (B 4 rfl) rfl) (S.get (mR mL)) rfl rfl (qz S)
 intro d6 i3 i4 i5 c3 hS h2 c4 hcq
 have a6 := a6.mono c3
 have a8 := a8.mono c3
 have e8 : tv d6 27 = s0 := c4 1 27 rfl rfl
 have e9 : tv d6 28 = vA ([b0]) := c4 2 28 rfl rfl
 refine X6 Tryz.call121 (U9 e8 e9) rfl (Yb4 e7 a6 a8 hS) ?_
 rintro _ i6 i7 d7 hS rfl
 exact qn d7 rfl hS rfl
 exact X2 fun S V => K9 (b := b4) (eM (V 3 29 rfl rfl)) rfl (qz S)
 exact X2 fun S V => Z4 (vB (!b4)) (eM (V 4 30 rfl rfl)) rfl (qz S)
 exact G4 fun S B V => Y4 rfl rfl (Eq.trans (eM (V 5 31 rfl rfl)) (congrArg (fun b => vB (!b)) a4)) (Y2 R4 (evT (B 1 rfl) a9) rfl (qz S))
 intro _ _ _ _ _ hS _ f0 hcq
 refine Y4 rfl rfl (Eq.trans (eM (f0 5 31 rfl rfl)) (congrArg (fun b => vB (!b)) a4)) ?_
 refine Y3 (s0) M9 (eM (f0 6 32 rfl rfl)) (hS.get (mR (mR mL))) rfl rfl ?_
 exact qn (.refl _) rfl hS rfl
 intro i8 _ _ _ _ hS f8 f9 hcq
 have h3 : tv i8 4 = vP b8 := Eq.trans (f8 4 rfl) rfl
 refine Y4 rfl rfl (Eq.trans (eM (f9 5 31 rfl rfl)) (congrArg (fun b => vB (!b)) a4)) ?_
 refine X7 U2 h3 (hS.get (mR mL)) rfl rfl ?_
 exact qn (.refl _) rfl hS rfl
 exact G4 fun S B V => Y4 rfl rfl (Eq.trans (eM (V 5 31 rfl rfl)) (congrArg (fun b => vB (!b)) a4)) (Y2 R4 (evT (B 1 rfl) a9) rfl (qz S))
 intro _ _ _ _ _ hS _ d8 hcq
 refine Y4 rfl rfl (Eq.trans (eM (d8 5 31 rfl rfl)) (congrArg (fun b => vB (!b)) a4)) ?_
 refine Y3 (s0) M9 (eM (d8 9 35 rfl rfl)) (hS.get (mR (mR mL))) rfl rfl ?_
 exact qn (.refl _) rfl hS rfl
 exact G4 fun S B V => Y4 rfl rfl (Eq.trans (eM (V 5 31 rfl rfl)) (congrArg (fun b => vB (!b)) a4)) (Z4 (vI a1) (evT (B 3 rfl) rfl) rfl (qz S))
 intro _ _ _ _ _ hS _ d0 hcq
 refine Y4 rfl rfl (Eq.trans (eM (d0 5 31 rfl rfl)) (congrArg (fun b => vB (!b)) a4)) ?_
 refine X9 Q0 rfl (eM (d0 10 36 rfl rfl)) f5 (eM (d0 11 37 rfl rfl)) (by omega) (by omega) rfl ?_
 exact qn (.refl _) rfl hS rfl
 intro _ _ _ _ g0 hS _ d9 hcq
 have c9 := g0.1 _ _ c9
 refine Y4 rfl rfl (Eq.trans (eM (d9 5 31 rfl rfl)) (congrArg (fun b => vB (!b)) a4)) ?_
 refine Y3 (vI (rd a0.1 a1)) ty2 (eM (d9 12 38 rfl rfl)) (hS.froz _ _ c9) (f6 0 (show 0 < 1 by decide)) rfl ?_
 exact qn (.refl _) rfl hS rfl
 intro _ _ _ _ _ hS _ e0 hcq
 refine Y4 rfl rfl (Eq.trans (eM (e0 5 31 rfl rfl)) (congrArg (fun b => vB (!b)) a4)) ?_
 refine W8 (IntKind.i64.wrap ((rd a0.1 a1) + 1)) (eM (e0 13 39 rfl rfl)) rfl rfl rfl ?_
 exact qn (.refl _) rfl hS rfl
 intro _ _ _ _ e1 hS _ b7 hcq
 have a6 := a6.mono e1
 have a8 := a8.mono e1
 refine Y4 rfl rfl (Eq.trans (eM (b7 5 31 rfl rfl)) (congrArg (fun b => vB (!b)) a4)) ?_
 refine X6 Tryz.call122 (G7 (eM (b7 7 33 rfl rfl)) (eM (b7 8 34 rfl rfl)) (eM (b7 14 40 rfl rfl))) rfl (Yu3 f7 a6 a8 hS) ?_
 rintro _ _ _ g1 hS rfl
 exact qn g1 rfl hS rfl
 exact X2 fun S V => Y4 rfl rfl (Eq.trans (eM (V 5 31 rfl rfl)) (congrArg (fun b => vB (!b)) a4)) (K9 (b := b5) (eM (V 15 41 rfl rfl)) rfl (qz S))
 exact X2 fun S V => V0 (t := false) (vB (!b5)) (Eq.trans (eM (V 5 31 rfl rfl)) (congrArg (fun b => vB (!b)) a4)) ((if_neg Bool.false_ne_true).trans (eM (V 16 42 rfl rfl))) rfl (qz S)
 intro h4 h5 f1 d1 hS b9 g2 hcq
 have hS : St f1 h5 ([(b8, cA ([b0]) 45)] ++ ([(b1, cA ([s0] ++ [s1]) 31)] ++ L)) := hS
 have Z3 := Z3.trans d1
 have a7 := a7.mono d1
 have a6 := a6.mono d1
 have f2 : tv h4 43 = vB (!b5) := g2 17 43 (by decide) rfl
 refine Z1 ?_
 obtain ⟨d2, a3⟩ | ⟨d2, a3⟩ := ic a3
 refine Z8 (Eq.trans (by exact f2) (congrArg (fun b => vB (!b)) d2)) (Y8 (X4 (Z0 ?_)))
 refine W8 (a1 + 1) (by exact (evT (b9 21 rfl) b3)) rfl (IntWalk.i64_in _ (by omega)) rfl (Z4 (vI (a1 + 1)) rfl rfl (Z1 ?_))
 have hS := St.dropA hS
 exact h8 _ _ ⟨(a1 + 1), f1, a3, Z3, hS, (by omega), a6, a7, (evT (b9 1 rfl) a9), (evT (b9 19 rfl) c1), (evT (b9 20 rfl) c2), rfl⟩
 refine Y0 (Eq.trans (by exact f2) (congrArg (fun b => vB (!b)) (X8 d2))) (Z2 (Z0 (Z5 (vB false) rfl rfl (Z1 ?_))))
 refine X0 (vs := [vB false]) Tryz.func54 ⟨rfl, trivial⟩ ?_
 obtain rfl := oi a3
 dsimp only [Ex.elim] at b6
 obtain rfl := oi b6
 exact ⟨_, _, rfl, Z3, (St.dropA (St.dropA hS)), rfl⟩
 refine U1 18 (P0 [mE 26 (vP b1), mE 27 (s0), mE 28 (vA ([b0])), mE 29 (vB b4), mE 30 (vB (!b4)), mE 31 (vB (!b4)), mE 32 (undef), mE 33 (undef), mE 34 (undef), mE 35 (undef), mE 36 (undef), mE 37 (undef), mE 38 (undef), mE 39 (undef), mE 40 (undef), mE 41 (undef), mE 42 (undef), mE 43 (vB true)]) [] mixed rfl rfl rfl hS (Z6 rfl ?_ (Z6 rfl ?_ (Z6 rfl ?_ (Z6 rfl ?_ (Z6 rfl ?_ (Z6 rfl ?_ (Z6 rfl ?_ (Z6 rfl ?_ (Z6 rfl ?_ (Z6 rfl ?_ (Z6 rfl ?_ (Z6 rfl ?_ (Z6 rfl ?_ (Z6 rfl ?_ (Z6 rfl ?_ (Z6 rfl ?_ (Z6 rfl ?_ (Z6 rfl ?_ U7)))))))))))))))))) ?_
 exact W5 fun S B => Y2 R4 (evT (B 1 rfl) a9) rfl (qz S)
 exact X2 fun S V => Y3 (s0) M9 (eM (V 0 26 rfl rfl)) (S.get (mR (mR mL))) rfl rfl (qz S)
 exact W5 fun S B => X7 U2 (evT (B 4 rfl) rfl) (S.get (mR mL)) rfl rfl (qz S)
 intro d6 i3 i4 i5 c3 hS h2 c4 hcq
 have a6 := a6.mono c3
 have a8 := a8.mono c3
 have e8 : tv d6 27 = s0 := c4 1 27 rfl rfl
 have e9 : tv d6 28 = vA ([b0]) := c4 2 28 rfl rfl
 refine X6 Tryz.call121 (U9 e8 e9) rfl (Yb4 e7 a6 a8 hS) ?_
 rintro _ i6 i7 d7 hS rfl
 exact qn d7 rfl hS rfl
 exact X2 fun S V => K9 (b := b4) (eM (V 3 29 rfl rfl)) rfl (qz S)
 exact X2 fun S V => Z4 (vB (!b4)) (eM (V 4 30 rfl rfl)) rfl (qz S)
 exact X2 fun S V => Y1 rfl rfl (Eq.trans (eM (V 5 31 rfl rfl)) (congrArg (fun b => vB (!b)) (X8 a4))) rfl rfl rfl (qz S)
 exact X2 fun S V => Y1 rfl rfl (Eq.trans (eM (V 5 31 rfl rfl)) (congrArg (fun b => vB (!b)) (X8 a4))) rfl rfl rfl (qz S)
 exact X2 fun S V => Y1 rfl rfl (Eq.trans (eM (V 5 31 rfl rfl)) (congrArg (fun b => vB (!b)) (X8 a4))) rfl rfl rfl (qz S)
 exact X2 fun S V => Y1 rfl rfl (Eq.trans (eM (V 5 31 rfl rfl)) (congrArg (fun b => vB (!b)) (X8 a4))) rfl rfl rfl (qz S)
 exact X2 fun S V => Y1 rfl rfl (Eq.trans (eM (V 5 31 rfl rfl)) (congrArg (fun b => vB (!b)) (X8 a4))) rfl rfl rfl (qz S)
 exact X2 fun S V => Y1 rfl rfl (Eq.trans (eM (V 5 31 rfl rfl)) (congrArg (fun b => vB (!b)) (X8 a4))) rfl rfl rfl (qz S)
 exact X2 fun S V => Y1 rfl rfl (Eq.trans (eM (V 5 31 rfl rfl)) (congrArg (fun b => vB (!b)) (X8 a4))) rfl rfl rfl (qz S)
 exact X2 fun S V => Y1 rfl rfl (Eq.trans (eM (V 5 31 rfl rfl)) (congrArg (fun b => vB (!b)) (X8 a4))) rfl rfl rfl (qz S)
 exact X2 fun S V => Y1 rfl rfl (Eq.trans (eM (V 5 31 rfl rfl)) (congrArg (fun b => vB (!b)) (X8 a4))) rfl rfl rfl (qz S)
 exact X2 fun S V => Y1 rfl rfl (Eq.trans (eM (V 5 31 rfl rfl)) (congrArg (fun b => vB (!b)) (X8 a4))) rfl rfl rfl (qz S)
 exact X2 fun S V => Y1 rfl rfl (Eq.trans (eM (V 5 31 rfl rfl)) (congrArg (fun b => vB (!b)) (X8 a4))) rfl rfl rfl (qz S)
 exact X2 fun S V => V0 (t := true) (vB true) (Eq.trans (eM (V 5 31 rfl rfl)) (congrArg (fun b => vB (!b)) (X8 a4))) ((if_pos rfl).trans rfl) rfl (qz S)
 intro _ h6 h7 g3 hS _ g4 hcq
 have hS : St h7 h6 ([(b8, cA ([b0]) 45)] ++ ([(b1, cA ([s0] ++ [s1]) 31)] ++ L)) := hS
 have Z3 := Z3.trans g3
 refine Z1 (Y0 (by exact (eM (g4 17 43 (by decide) rfl))) (Z2 (Z0 (Z5 (vB false) rfl rfl (Z1 ?_)))))
 refine X0 (vs := [vB false]) Tryz.func54 ⟨rfl, trivial⟩ ?_
 obtain rfl := oi a3
 dsimp only [Ex.elim] at b6
 obtain rfl := oi b6
 exact ⟨_, _, rfl, Z3, (St.dropA (St.dropA hS)), rfl⟩
 refine Z8 (bF e6 rfl) ?_
 refine W0 rfl ?_
 obtain rfl := oi a3
 exact h9 _ _ ⟨g9, rfl, Z3, hS, a6, a7, a9⟩
 exact ⟨0, f4, a3, Z3, hS, (by omega), a6, a7, d5, rfl, rfl, rfl⟩
 rintro _ _ ⟨_, rfl, Z3, hS, a6, a7, c7⟩
 dsimp only [Ex.elim] at b6
 refine Z2 ?_
 obtain ⟨_, d3, hS, e2⟩ := St.freezeBox hS
 have Z3 := Z3.trans d3
 have a6 := a6.mono d3
 have a7 := a7.mono d3
 refine Z0 (Y2 P2 (by exact c7) rfl ?_)
 refine Y3 (s1) Zd6 rfl (hS.froz _ _ e2) ((Zc3 ([s0] ++ [s1]) 2) 1 (show 1 < 2 by decide)) rfl ?_
 refine Xc9 (by exact c7) rfl ?_
 obtain ⟨c0, g5, b6⟩ := bind_some b6
 refine X6 Tryz.call123 (U9 rfl rfl) rfl (Zg3 g5 a7 ⟨124, #[vP b1], rfl, Tryz.call124, fun H2 w2 L2 v x b i9 j0 hv j1 => by obtain ⟨_, rfl, ⟨j2, rfl, e3⟩⟩ := hv; exact Yp0 j1 e3 (Zn2.mono i9 ⟨_, _, _, _, _, rfl, e2, ⟨_, _, rfl, ⟨_, rfl, a6⟩, ⟨_, rfl, a7⟩⟩, (Zc3 ([s0] ++ [s1]) 2)⟩) j0⟩ hS) ?_
 rintro _ _ _ g6 hS rfl
 have Z3 := Z3.trans g6
 refine K9 (b := c0) rfl rfl (Z5 (vB (!c0)) rfl rfl (Z1 ?_))
 refine X0 (vs := [vB (!c0)]) Tryz.func54 ⟨rfl, trivial⟩ ?_
 obtain rfl := oi b6
 exact ⟨_, _, rfl, Z3, hS, rfl⟩
 intro g8
 refine Z0 (Y2 R4 rfl rfl ?_)
 refine Y3 (s0) M9 rfl (hS.get mL) rfl rfl ?_
 obtain ⟨c8, g7, q0⟩ := bind_some q0
 refine X6 Tryz.call120 (S2 rfl) rfl (Ys5 g7 a6 hS) ?_
 rintro _ f3 _ d4 hS rfl
 have Z3 := Z3.trans d4
 have a6 := a6.mono d4
 have a7 := a7.mono d4
 refine K9 (b := c8) rfl rfl (Z4 (vB (!c8)) rfl rfl ?_)
 obtain ⟨a5, q0⟩ | ⟨a5, q0⟩ := ic q0
 refine Y4 rfl rfl (Eq.trans rfl (congrArg (fun b => vB (!b)) a5)) (Y2 P2 rfl rfl ?_)
 refine Y4 rfl rfl (Eq.trans rfl (congrArg (fun b => vB (!b)) a5)) ?_
 refine Y3 (s1) Zd6 rfl (hS.get mL) rfl rfl ?_
 have j3 := a7.bound
 refine Y4 rfl rfl (Eq.trans rfl (congrArg (fun b => vB (!b)) a5)) ?_
 refine W7 P6 rfl a7 rfl ?_
 refine Y4 rfl rfl (Eq.trans rfl (congrArg (fun b => vB (!b)) a5)) (Y2 R4 rfl rfl ?_)
 refine Y4 rfl rfl (Eq.trans rfl (congrArg (fun b => vB (!b)) a5)) ?_
 refine Y3 (s0) M9 rfl (hS.get mL) rfl rfl ?_
 have j4 := a6.bound
 refine Y4 rfl rfl (Eq.trans rfl (congrArg (fun b => vB (!b)) a5)) ?_
 refine W7 Q0 rfl a6 rfl ?_
 refine Y4 rfl rfl (Eq.trans rfl (congrArg (fun b => vB (!b)) a5)) ?_
 refine L7 (k := .i64) (a := (a0.2.length : Int)) (b := (a0.1.length : Int)) rfl rfl rfl ?_
 refine V0 (t := false) (vB (!decide ((a0.2.length : Int) = (a0.1.length : Int)))) (Eq.trans rfl (congrArg (fun b => vB (!b)) a5)) ((if_neg Bool.false_ne_true).trans rfl) rfl (Z1 ?_)
 exact g8 _ _ ⟨(!decide ((a0.2.length : Int) = (a0.1.length : Int))), f3, q0, Z3, hS, a6, a7, rfl, rfl⟩
 refine Y1 rfl rfl (Eq.trans rfl (congrArg (fun b => vB (!b)) (X8 a5))) rfl rfl rfl (Y1 rfl rfl (Eq.trans rfl (congrArg (fun b => vB (!b)) (X8 a5))) rfl rfl rfl (Y1 rfl rfl (Eq.trans rfl (congrArg (fun b => vB (!b)) (X8 a5))) rfl rfl rfl (Y1 rfl rfl (Eq.trans rfl (congrArg (fun b => vB (!b)) (X8 a5))) rfl rfl rfl (Y1 rfl rfl (Eq.trans rfl (congrArg (fun b => vB (!b)) (X8 a5))) rfl rfl rfl (Y1 rfl rfl (Eq.trans rfl (congrArg (fun b => vB (!b)) (X8 a5))) rfl rfl rfl (Y1 rfl rfl (Eq.trans rfl (congrArg (fun b => vB (!b)) (X8 a5))) rfl rfl rfl ?_))))))
 refine V0 (t := true) (vB true) (Eq.trans rfl (congrArg (fun b => vB (!b)) (X8 a5))) ((if_pos rfl).trans rfl) rfl (Z1 ?_)
 exact g8 _ _ ⟨true, f3, q0, Z3, hS, a6, a7, rfl, rfl⟩
def I5 (K : Nat) (a2 : (List Int)) : Nat → Int → (List MpT) → Option (Ex MpT ((List MpT)))
 | 0, _, _ => none
 | k + 1, a5, a6 => (if a5 < (a2.length : Int) then (if (rd a2 a5) < 0 then (if a6.length + ([([] : MpT)]).length ≤ 1099511627776 then I5 K a2 k (a5 + 1) (a6 ++ [([] : MpT)]) else none) else ((G8 K (rd a2 a5)).bind fun d3 => (if a6.length + ([(F6 ([] : MpT) d3 1)]).length ≤ 1099511627776 then I5 K a2 k (a5 + 1) (a6 ++ [(F6 ([] : MpT) d3 1)]) else none))) else some (.go a6))
def Zj9 (K : Nat) (a0 : (List Int)) (a1 : MpT) (a2 : (List Int)) (a3 : (List Int)) : Option MpT := ((I5 K a2 K 0 ([] : List MpT)).bind (Ex.elim (fun r => some r) (fun s => (fun (b4 : (List MpT)) => ((M4 K (a0, a3, b4) a1).bind fun g8 => some g8)) s)))
theorem Yt6 {a0 : (List Int)} {a1 : MpT} {a2 : (List Int)} {a3 : (List Int)} {r : MpT} (q0 : Zj9 K a0 a1 a2 a3 = some r) (a8 : Z9 (Y6 .i64) H s0 a0) (b0 : Q9 .i64 H s1 a1) (b3 : Z9 (Y6 .i64) H s2 a2) (a9 : Z9 (Y6 .i64) H s3 a3) (hS : St H w L) :
 Calls Tryz.prog 255 #[s0, s1, s2, s3] w (Yt8 .i64 r H L) := by
 have Z3 := Sub.refl H
 refine X3 Tryz.func255 rfl Tryz.ntmps255 rfl ?_
 unfold Zj9 at q0
 refine Z2 (Z0 (Z5 (Value.map none) rfl rfl (Z1 (Z2 (Z0 ?_)))))
 refine Zq2 (τ := (Ze6 .i64)) Yj5 Xa8 rfl hS rfl ?_
 intro u1 _ C3 g9 hS
 refine Z5 (u1) rfl rfl (Z1 (Z2 (Z2 (Z0 (Z4 (s2) rfl rfl ?_)))))
 have h9 := b3.bound
 refine W7 Zs6 rfl b3 rfl (Z4 (vI 0) rfl rfl (Z1 (Y7 ?_)))
 obtain ⟨e3, a7, d4⟩ := bind_some q0
 refine W1 (id := 0) (fun k f w => ∃ (a5 : Int) (a6 : (List MpT)) (H1 : FH) (b5 : OL) (b2 : Value), I5 K a2 k a5 a6 = some e3 ∧ Sub H H1 ∧ St H1 w (b5 ++ L) ∧ 0 ≤ a5 ∧ W3 (Ze6 .i64) 107 H1 b2 a6 b5 ∧ Z9 (Y6 .i64) H1 s0 a0 ∧ Q9 .i64 H1 s1 a1 ∧ Z9 (Y6 .i64) H1 s2 a2 ∧ Z9 (Y6 .i64) H1 s3 a3 ∧ tv f 0 = s0 ∧ tv f 1 = s1 ∧ tv f 3 = s3 ∧ tv f 9 = b2 ∧ tv f 14 = s2 ∧ tv f 15 = vI (a2.length : Int) ∧ tv f 16 = vI a5) (fun f w => ∃ (b4 : (List MpT)) (H1 : FH) (b7 : OL) (b1 : Value), e3 = .go b4 ∧ Sub H H1 ∧ St H1 w (b7 ++ L) ∧ W3 (Ze6 .i64) 107 H1 b1 b4 b7 ∧ Z9 (Y6 .i64) H1 s0 a0 ∧ Q9 .i64 H1 s1 a1 ∧ Z9 (Y6 .i64) H1 s3 a3 ∧ tv f 0 = s0 ∧ tv f 1 = s1 ∧ tv f 3 = s3 ∧ tv f 9 = b1) rfl ?_ ?_ K ?_ ?_
 rintro f w ⟨a5, a6, H1, b5, b2, a7, _⟩
 rw [I5] at a7; cases a7
 rintro k _ _ e6 h0 ⟨a5, a6, f2, b5, b2, a7, Z3, hS, _, a4, a8, b0, b3, a9, c1, c2, c3, c4, b8, b9, b6⟩
 rw [I5] at a7
 refine Z2 (Z0 ?_)
 refine V5 (k := .i64) (a := a5) (b := (a2.length : Int)) (by exact b6) (by exact b9) rfl (Z1 (Z2 ?_))
 obtain ⟨e4, a7⟩ | ⟨e4, a7⟩ := ic a7
 refine Y0 (bT e4 rfl) (Y8 (Z2 (Y7 (Z2 (Z0 ?_)))))
 obtain ⟨_, _, _, _, _, h1, h2, rfl, h3⟩ := b3.elem (i := a5) (by omega) (by omega)
 refine X9 Zs6 rfl (by exact b8) h1 (by exact b6) (by omega) (by omega) rfl ?_
 refine Y3 (vI (rd a2 a5)) ty3 rfl (hS.froz _ _ h2) (h3 0 (show 0 < 1 by decide)) rfl (Z5 (vI (rd a2 a5)) rfl rfl (Z1 (Z2 (Z0 (Z4 (vI (rd a2 a5)) rfl rfl ?_)))))
 refine V5 (k := .i64) (a := (rd a2 a5)) (b := 0) rfl rfl rfl (Z1 ?_)
 obtain ⟨e5, a7⟩ | ⟨e5, a7⟩ := ic a7
 refine Y0 (bT e5 rfl) (Z0 (Z4 (b2) (by exact c4) rfl ?_))
 refine Zk3 (k := .i64) hS rfl ?_
 intro h4 _ _ f3 hS
 obtain ⟨_, c5, hS, f4⟩ := f3.freeze hS
 have Z3 := Z3.trans c5
 have a8 := a8.mono c5
 have b0 := b0.mono c5
 have a9 := a9.mono c5
 have b3 := b3.mono c5
 have a4 := a4.mono c5
 refine D9 (τ := (Ze6 .i64)) Yj5 Xa8 rfl [h4] [([] : MpT)] rfl rfl (K6 rfl) (Zi6 f4.relv) (by decide) (by decide) hS rfl ?_
 intro _ h5 _ c6 hS f5
 have Z3 := Z3.trans c6
 have a8 := a8.mono c6
 have b0 := b0.mono c6
 have a9 := a9.mono c6
 have b3 := b3.mono c6
 have a4 := a4.mono c6
 obtain ⟨f6, a7⟩ := gd a7
 refine N5 (τ := (Ze6 .i64)) Xr4 rfl rfl rfl a4 hS f5 f6 rfl ?_
 intro e7 _ h6 f7 hS
 refine Z5 (e7) rfl rfl (Z1 (X4 (Z0 ?_)))
 refine W8 (a5 + 1) (by exact b6) rfl (IntWalk.i64_in _ (by omega)) rfl (Z4 (vI (a5 + 1)) rfl rfl (Z1 ?_))
 exact e6 _ _ ⟨(a5 + 1), (a6 ++ [([] : MpT)]), h5, h6, e7, a7, Z3, hS, (by omega), f7, a8, b0, b3, a9, c1, c2, c3, rfl, b8, b9, rfl⟩
 refine Z8 (bF e5 rfl) (Z0 (Z4 (b2) (by exact c4) rfl ?_))
 refine Zk3 (k := .i64) hS rfl ?_
 intro e8 _ _ d7 hS
 refine Z4 (vI (rd a2 a5)) rfl rfl ?_
 obtain ⟨d3, f8, a7⟩ := bind_some a7
 refine X6 Tryz.call251 (S2 rfl) rfl (Zd8 f8  hS) ?_
 rintro _ _ _ c0 hS ⟨_, rfl, rfl⟩
 have Z3 := Z3.trans c0
 have a8 := a8.mono c0
 have b0 := b0.mono c0
 have a9 := a9.mono c0
 have b3 := b3.mono c0
 have a4 := a4.mono c0
 have d7 := d7.mono c0
 refine Yb9 (a := d3) (m := 1) Zi9 rfl rfl rfl d7 hS ?_
 intro _ _ f9 hS
 refine Z4 (e8) rfl rfl ?_
 obtain ⟨_, c7, hS, g0⟩ := f9.freeze hS
 have Z3 := Z3.trans c7
 have a8 := a8.mono c7
 have b0 := b0.mono c7
 have a9 := a9.mono c7
 have b3 := b3.mono c7
 have a4 := a4.mono c7
 refine D9 (τ := (Ze6 .i64)) Yj5 Xa8 rfl [e8] [(F6 ([] : MpT) d3 1)] rfl rfl (K6 rfl) (Zi6 g0.relv) (by decide) (by decide) hS rfl ?_
 intro _ h7 _ c8 hS g1
 have Z3 := Z3.trans c8
 have a8 := a8.mono c8
 have b0 := b0.mono c8
 have a9 := a9.mono c8
 have b3 := b3.mono c8
 have a4 := a4.mono c8
 obtain ⟨g2, a7⟩ := gd a7
 refine N5 (τ := (Ze6 .i64)) Xr4 rfl rfl rfl a4 hS g1 g2 rfl ?_
 intro e9 _ h8 g3 hS
 refine Z5 (e9) rfl rfl (Z1 (X4 (Z0 ?_)))
 refine W8 (a5 + 1) (by exact b6) rfl (IntWalk.i64_in _ (by omega)) rfl (Z4 (vI (a5 + 1)) rfl rfl (Z1 ?_))
 exact e6 _ _ ⟨(a5 + 1), (a6 ++ [(F6 ([] : MpT) d3 1)]), h7, h8, e9, a7, Z3, hS, (by omega), g3, a8, b0, b3, a9, c1, c2, c3, rfl, b8, b9, rfl⟩
 refine Z8 (bF e4 rfl) ?_
 refine W0 rfl ?_
 obtain rfl := oi a7
 exact h0 _ _ ⟨a6, f2, b5, b2, rfl, Z3, hS, a4, a8, b0, a9, c1, c2, c3, c4⟩
 exact ⟨0, ([] : List MpT), H, C3, u1, a7, Z3, hS, (by omega), g9, a8, b0, b3, a9, rfl, rfl, rfl, rfl, rfl, rfl, rfl⟩
 rintro _ _ ⟨b4, _, b7, b1, rfl, Z3, hS, d0, a8, b0, a9, d9, e0, e1, e2⟩
 dsimp only [Ex.elim] at d4
 refine Z2 (Z0 (Z4 (s0) (by exact d9) rfl (Z4 (s3) (by exact e1) rfl (Z4 (b1) (by exact e2) rfl ?_))))
 refine Ye0 hS rfl ?_
 intro d5 _ hS
 refine Zl9 ([s0] ++ ([s3] ++ ([b1] ++ [(Value.map (some d5))]))) We2 (Wi8 rfl rfl rfl rfl) (Q5 rfl a8.cellsL rfl (nl rfl) (Q5 rfl a9.cellsL rfl (nl rfl) (Q5 rfl d0.cellsL rfl (nl rfl) (Q5 rfl rfl rfl (nl rfl) (Zh6 rfl))))) rfl ?_
 refine S3 (v := vA ([s0] ++ ([s3] ++ ([b1] ++ [(Value.map (some d5))])))) ([s0] ++ ([s3] ++ ([b1] ++ [(Value.map (some d5))]))).toArray rfl rfl hS rfl ?_
 intro f0 _ hS
 refine Z5 (vP f0) rfl rfl (Z1 (Z2 (Z0 (Z4 (vP f0) rfl rfl (Z4 (s1) (by exact e0) rfl ?_)))))
 have hS := hS.perm Q8
 obtain ⟨_, d6, hS, d1⟩ := d0.freeze hS
 have Z3 := Z3.trans d6
 have b0 := b0.mono d6
 have a8 := a8.mono d6
 have a9 := a9.mono d6
 have hS := hS.perm V1
 obtain ⟨_, d2, hS, d8⟩ := St.toMemo hS K (a0, a3, b4)
 have Z3 := Z3.trans d2
 have b0 := b0.mono d2
 have a8 := a8.mono d2
 have a9 := a9.mono d2
 have d1 := d1.mono d2
 obtain ⟨_, c9, hS, g4⟩ := St.freezeBox hS
 have Z3 := Z3.trans c9
 have b0 := b0.mono c9
 have a8 := a8.mono c9
 have a9 := a9.mono c9
 have d1 := d1.mono c9
 have d8 := d8.mono c9
 obtain ⟨_, g5, d4⟩ := bind_some d4
 refine T5 Tryz.call227 (U9 rfl rfl) rfl (Zu6 g5 ⟨_, _, _, _, _, rfl, g4, ⟨_, _, _, _, rfl, a8, a9, d1, d8⟩, (Zc3 ([s0] ++ ([s3] ++ ([b1] ++ [(Value.map (some d5))]))) 4)⟩ b0 hS) ?_
 rintro _ _ ⟨f1, _, _, rfl, g6, hS, g7⟩
 refine ⟨_, rfl, ?_⟩
 have Z3 := Z3.trans g6
 refine Z5 (f1) rfl rfl (Z1 ?_)
 refine X0 (vs := [f1]) Tryz.func255 ⟨rfl, trivial⟩ ?_
 obtain rfl := oi d4
 exact ⟨_, _, _, rfl, Z3, hS, g7⟩
def Zc5 (K : Nat) (a0 : (List Int)) (a1 : MpT) (a2 : (List MpT)) : Option MpT := ((M4 K (a0, a0, a2) a1).bind fun b6 => some b6)
theorem Yc9 {a0 : (List Int)} {a1 : MpT} {a2 : (List MpT)} {r : MpT} (q0 : Zc5 K a0 a1 a2 = some r) (a3 : Z9 (Y6 .i64) H s0 a0) (a6 : Q9 .i64 H s1 a1) (a5 : Z9 (Ze6 .i64) H s2 a2) (hS : St H w L) :
 Calls Tryz.prog 252 #[s0, s1, s2] w (Yt8 .i64 r H L) := by
 have Z3 := Sub.refl H
 refine X3 Tryz.func252 rfl Tryz.ntmps252 rfl ?_
 unfold Zc5 at q0
 refine Z2 (Z0 (Z5 (Value.map none) rfl rfl (Z1 (Z2 (Z0 (Z4 (s0) rfl rfl (Z4 (s0) rfl rfl (Z4 (s2) rfl rfl ?_))))))))
 refine Ye0 hS rfl ?_
 intro a7 _ hS
 refine Zl9 ([s0] ++ ([s0] ++ ([s2] ++ [(Value.map (some a7))]))) We2 (Wi8 rfl rfl rfl rfl) (Q5 rfl a3.cellsL rfl (nl rfl) (Q5 rfl a3.cellsL rfl (nl rfl) (Q5 rfl a5.cellsL rfl (nl rfl) (Q5 rfl rfl rfl (nl rfl) (Zh6 rfl))))) rfl ?_
 refine S3 (v := vA ([s0] ++ ([s0] ++ ([s2] ++ [(Value.map (some a7))])))) ([s0] ++ ([s0] ++ ([s2] ++ [(Value.map (some a7))]))).toArray rfl rfl hS rfl ?_
 intro b4 _ hS
 refine Z5 (vP b4) rfl rfl (Z1 (Z2 (Z0 (Z4 (vP b4) rfl rfl (Z4 (s1) rfl rfl ?_)))))
 have hS := hS.perm V1
 obtain ⟨_, a8, hS, a9⟩ := St.toMemo hS K (a0, a0, a2)
 have Z3 := Z3.trans a8
 have a6 := a6.mono a8
 have a3 := a3.mono a8
 have a5 := a5.mono a8
 obtain ⟨_, a4, hS, b1⟩ := St.freezeBox hS
 have Z3 := Z3.trans a4
 have a6 := a6.mono a4
 have a3 := a3.mono a4
 have a5 := a5.mono a4
 have a9 := a9.mono a4
 obtain ⟨_, b2, q0⟩ := bind_some q0
 refine T5 Tryz.call227 (U9 rfl rfl) rfl (Zu6 b2 ⟨_, _, _, _, _, rfl, b1, ⟨_, _, _, _, rfl, a3, a3, a5, a9⟩, (Zc3 ([s0] ++ ([s0] ++ ([s2] ++ [(Value.map (some a7))]))) 4)⟩ a6 hS) ?_
 rintro _ _ ⟨b0, _, _, rfl, b3, hS, b5⟩
 refine ⟨_, rfl, ?_⟩
 have Z3 := Z3.trans b3
 refine Z5 (b0) rfl rfl (Z1 ?_)
 refine X0 (vs := [b0]) Tryz.func252 ⟨rfl, trivial⟩ ?_
 obtain rfl := oi q0
 exact ⟨_, _, _, rfl, Z3, hS, b5⟩
def K8 (K : Nat) (a0 : LdT) (a1 : (List MpT)) : Nat → Int → (List MpT) → Option (Ex ((List MpT) × Int) ((List MpT)))
 | 0, _, _ => none
 | k + 1, b0, a9 => (if b0 < (a1.length : Int) then ((Ze5 K (rd a1 b0)).bind fun g3 => ((M4 K (a0.1, a0.2.1, a0.2.2) g3).bind fun g4 => ((A9 K g4).bind fun b5 => (if b5.2 = 0 then (if a9.length + ([b5.1]).length ≤ 1099511627776 then K8 K a0 a1 k (b0 + 1) (a9 ++ [b5.1]) else none) else some (.ret (([] : List MpT), b5.2)))))) else some (.go a9))
def Zh9 (K : Nat) (a0 : LdT) (a1 : (List MpT)) : Option ((List MpT) × Int) := ((K8 K a0 a1 K 0 ([] : List MpT)).bind (Ex.elim (fun r => some r) (fun s => (fun (b6 : (List MpT)) => some (b6, 0)) s)))
end Go.Proofs.YtabofnehiclkiaaGreat
