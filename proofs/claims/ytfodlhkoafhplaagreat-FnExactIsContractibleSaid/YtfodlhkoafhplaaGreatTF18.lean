/- Walks of functions: each computes its pure function, if that gives a value. -/
import Derived.Test.YtfodlhkoafhplaaGreatTTy
import Derived.Test.YtfodlhkoafhplaaGreatTF12
import Derived.Test.YtfodlhkoafhplaaGreatTF14
import Derived.Test.YtfodlhkoafhplaaGreatTF7
import Derived.Test.YtfodlhkoafhplaaGreatTF9
import Derived.Test.YtfodlhkoafhplaaGreatTF17
import Derived.Test.YtfodlhkoafhplaaGreatTF10
import Derived.Test.YtfodlhkoafhplaaGreatTF1
namespace Go.Proofs.YtfodlhkoafhplaaGreat
open Go
set_option linter.unusedSimpArgs false
set_option linter.unusedVariables false
set_option maxRecDepth 100000
set_option maxHeartbeats 8000000
def D8 (K : Nat) (b2 : (((List Int) × (List MpT)) × (List MpT) × Int)) (c7 : (List MpT)) : Nat → Int → (List MpT) → Option (Ex (((List Int) × (List MpT)) × (List MpT) × Int) ((List MpT)))
 | 0, _, _ => none
 | k + 1, b5, b6 => (if b5 < (c7.length : Int) then ((Zh5 K b2.1.1 b2.2.1 (rd c7 b5)).bind fun e3 => (if b6.length + ([e3]).length ≤ 1099511627776 then D8 K b2 c7 k (b5 + 1) (b6 ++ [e3]) else none)) else some (.go b6))
def D6 (K : Nat) : Nat → (List MpT) → (List Int) → (List MpT) → Option (Ex (((List Int) × (List MpT)) × (List MpT) × Int) (Unit))
 | 0, _, _, _ => none
 | k + 1, c7, a8, a9 => ((Zr7 K (a8, a9)).bind fun c2 => (if c2.2.2 = true then ((Zk1 K (a8, a9) c2.1 c2.2.1).bind fun b2 => (if b2.2.2 = 0 then ((D8 K b2 c7 K 0 ([] : List MpT)).bind (Ex.elim (fun r => some (.ret r)) (fun s => (fun (c3 : (List MpT)) => ((Zd7 K b2.1.1 c3).bind fun d2 => (if d2.2 = 0 then D6 K k c3 b2.1.1 b2.1.2 else some (.ret ((([] : List Int), ([] : List MpT)), ([] : List MpT), d2.2))))) s))) else some (.ret ((([] : List Int), ([] : List MpT)), ([] : List MpT), b2.2.2)))) else some (.ret ((a8, a9), c7, 0))))
def Zn9 (K : Nat) (a0 : ((List Int) × (List MpT))) : Option (((List Int) × (List MpT)) × (List MpT) × Int) := ((Zu6 K (a0.1, a0.2)).bind fun d6 => ((Zk8 K (a0.1.length : Int) ([] : (List Int))).bind fun h9 => ((D6 K K h9 ((d6.1, d6.2).1) ((d6.1, d6.2).2)).bind (Ex.elim (fun r => some r) (fun s => none)))))
theorem Ys3 {K : Nat} {a0 : ((List Int) × (List MpT))} {r : (((List Int) × (List MpT)) × (List MpT) × Int)} (q0 : Zn9 K a0 = some r) {H : FH} {w : World} {L : OL} {s0 : Value} {s1 : Value} (b7 : Z9 (Y6 .i64) H s0 a0.1) (b8 : Z9 (Y9 yT) H s1 a0.2) (hM : ∀ b, H.memo b = none) (hS : St H w L) :
 Calls Tryz.prog 161 #[vA ([s0] ++ [s1])] w (T3 (fun v G => (R.t3 (R.agg (Zl2 (Y9 (Y6 .i64)) (Y9 (Y9 yT)))) (R.sl (Y9 yT)) (R.int .i64)).p G v r) H L) := by
 have Z2 := Sub.refl H
 refine X6 Tryz.func161 rfl Tryz.ntmps161 rfl ?_
 unfold Zn9 at q0
 refine Z3 (Z1 ?_)
 refine S4 (v := vA ([s0] ++ [s1])) ([s0] ++ [s1]).toArray rfl rfl hS rfl ?_
 intro b1 w2 hS
 refine V0 (z := vA ([vN] ++ [vN])) ([vN] ++ [vN]).toArray Zu2.zero rfl hS rfl ?_
 intro b4 w5 hS
 refine Z5 (vN) rfl rfl (Z5 (vI 0) rfl rfl (Z0 (Z3 ?_)))
 obtain ⟨d6, m7, q0⟩ := bind_some q0
 have u4 := b7.bound
 obtain ⟨h9, m8, q0⟩ := bind_some q0
 refine Xi2 7 (fun t C => Q6 [(17, MP.eq (vA ([s0] ++ [s1]))), (18, MP.rep (R.agg (Zl2 (Y9 (Y6 .i64)) (Y9 (Y9 yT)))) ((d6.1, d6.2))), (19, MP.eq (vP b1)), (20, MP.eq (s0)), (21, MP.eq (vI (a0.1.length : Int))), (22, MP.own (Y9 yT) 47 (h9) C), (5, MP.box (cA ([vN] ++ [vN]) 29))] t) [] mixed rfl rfl rfl hS (Zf0 rfl ?_ (Zf0 rfl ?_ (Zf0 rfl ?_ (Zf0 rfl ?_ (Zf0 rfl ?_ (Zf0 rfl ?_ (Zf0 rfl ?_ U8))))))) ?_
 intro G1 f7 w8 H9 X10 u5 hS m9 u6 hcq
 have Z2 := Sub.refl H9
 have p7 : ev f7 (.tmp 1) = vP b1 := Eq.trans (m9 1 rfl) rfl
 refine W1 Q8 p7 (hS.get (mR (mR mL))) rfl rfl ?_
 exact Z0 ⟨17, _, _, [], rfl, rfl, Z2, hS, rfl⟩
 intro G1 f16 w17 p8 X19 i8 hS u7 n0 hcq
 have Z2 := Sub.refl p8
 have b7 := b7.mono i8
 have b8 := b8.mono i8
 refine X0 Tryz.call142 (S1 (eM (n0 0 17 rfl rfl))) rfl (Xb6 m7 b7 b8 hS) ?_
 rintro e26 w27 ⟨d26, m26, H26, C26, rfl, n1, hS, i2, n2⟩
 refine ⟨_, rfl, ?_⟩
 have Z2 := Z2.trans n1
 obtain ⟨H29, i9, hS, n3⟩ := n2.freeze hS
 have Z2 := Z2.trans i9
 have i2 := i2.mono i9
 exact Z0 ⟨18, _, _, [], rfl, rfl, Z2, hS, ⟨_, rfl, ⟨_, _, rfl, ⟨_, rfl, i2⟩, ⟨_, rfl, n3⟩⟩⟩⟩
 intro G1 p9 w32 q1 X34 u8 hS n4 u9 hcq
 have Z2 := Sub.refl q1
 have q2 : ev p9 (.tmp 1) = vP b1 := Eq.trans (n4 1 rfl) rfl
 refine Y2 R2 q2 rfl ?_
 exact Z0 ⟨19, _, _, [], rfl, rfl, Z2, hS, rfl⟩
 intro G1 f40 w41 q3 X43 v0 hS v1 n5 hcq
 have Z2 := Sub.refl q3
 refine Y3 (s0) M0 (eM (n5 2 19 rfl rfl)) (hS.get (mR (mR mL))) rfl rfl ?_
 exact Z0 ⟨20, _, _, [], rfl, rfl, Z2, hS, rfl⟩
 intro G1 f49 w50 q4 X52 n6 hS v2 n7 hcq
 have Z2 := Sub.refl q4
 have b7 := b7.mono n6
 refine W6 Q1 (eM (n7 3 20 rfl rfl)) b7 rfl ?_
 exact Z0 ⟨21, _, _, [], rfl, rfl, Z2, hS, rfl⟩
 intro G1 f59 w60 q5 X62 v3 hS v4 n8 hcq
 have Z2 := Sub.refl q5
 refine X0 Tryz.call80 (S5 (eM (n8 4 21 rfl rfl)) rfl) rfl (Yd6 m8 Z9.nil hS) ?_
 rintro e69 w70 ⟨m69, H69, q6, rfl, n9, hS, o0⟩
 refine ⟨_, rfl, ?_⟩
 have Z2 := Z2.trans n9
 exact Z0 ⟨22, _, _, q6, rfl, rfl, Z2, hS, o0⟩
 intro G1 f72 w73 q7 X75 v5 hS v6 v7 hcq
 have Z2 := Sub.refl q7
 refine V0 (z := vA ([vN] ++ [vN])) ([vN] ++ [vN]).toArray Zu2.zero rfl hS rfl ?_
 intro b80 w81 hS
 exact Z0 ⟨5, _, _, [], rfl, rfl, Z2, hS, ⟨_, rfl⟩⟩
 intro j0 i0 m5 j1 i3 hS o1 i4 hcq
 have hS : St j1 m5 ((j0 22 ++ (Zi5 (cA ([vN] ++ [vN]) 29) (i0 5) ++ ([]))) ++ ([(b4, cA ([vN] ++ [vN]) 29)] ++ ([(b1, cA ([s0] ++ [s1]) 29)] ++ L))) := hS
 have Z2 := Z2.trans i3
 have b7 := b7.mono i3
 have b8 := b8.mono i3
 have q8 : ev i0 (.tmp 2) = vP b4 := Eq.trans (o1 2 rfl) rfl
 obtain ⟨v92, q9, ⟨_, rfl, ⟨_, _, rfl, ⟨h4, rfl, e8⟩, ⟨h5, rfl, e9⟩⟩⟩⟩ := gvR (i4 1 18 (by decide) rfl)
 obtain ⟨j2, m6⟩ : ∃ v, ev i0 (.tmp 22) = v := ⟨_, rfl⟩
 have j3 : W3 (Y9 yT) 47 j1 j2 (h9) (j0 22) := m6 ▸ (i4 5 22 (by decide) rfl)
 obtain ⟨r0, o2⟩ : ∃ C, j0 22 = C := ⟨_, rfl⟩
 rw [o2] at hS j3
 obtain ⟨f0, g3⟩ := i4 6 5 (by decide) rfl
 have g3 : i0 5 = vP f0 := g3
 rw [g3] at hS
 have g3 : ev i0 (.tmp 5) = _ := g3
 have hS : St j1 m5 (r0 ++ ([(f0, cA ([vN] ++ [vN]) 29)] ++ ([(b4, cA ([vN] ++ [vN]) 29)] ++ ([(b1, cA ([s0] ++ [s1]) 29)] ++ L)))) := by have h := hS; simp only [List.append_assoc, List.nil_append, List.append_nil] at h; exact h
 have hS := hS.perm V3
 refine W0 (v := vA ([h4] ++ [h5])) (vs := ([h4] ++ [h5]).toArray) (cs := ([vN] ++ [vN]).toArray) Q8 (by exact g3) (by exact q9) rfl hS rfl (P4 (U9 e8.isOne) (U9 e9.isOne)) rfl ?_
 intro w99 hS
 have hS := hS.perm V3.symm
 refine Z5 (j2) (by exact m6) rfl (Z0 (Y7 ?_))
 obtain ⟨k0, d7, hS, j4⟩ := j3.freeze hS
 have Z2 := Z2.trans d7
 have b7 := b7.mono d7
 have b8 := b8.mono d7
 have e8 := e8.mono d7
 have e9 := e9.mono d7
 obtain ⟨o3, c4, f2⟩ := bind_some q0
 refine W7 (id := 0) (fun k f w => ∃ (c7 : (List MpT)) (a8 : (List Int)) (a9 : (List MpT)) (H1 : FH) (c5 : Value) (a4 : Value) (a5 : Value), D6 K k c7 a8 a9 = some o3 ∧ Sub H H1 ∧ St H1 w ([(f0, cA ([a4] ++ [a5]) 29)] ++ ([(b4, cA ([vN] ++ [vN]) 29)] ++ ([(b1, cA ([s0] ++ [s1]) 29)] ++ L))) ∧ Z9 (Y9 yT) H1 c5 c7 ∧ Z9 (Y6 .i64) H1 a4 a8 ∧ Z9 (Y9 yT) H1 a5 a9 ∧ Z9 (Y6 .i64) H1 s0 a0.1 ∧ Z9 (Y9 yT) H1 s1 a0.2 ∧ ev f (.tmp 2) = vP b4 ∧ ev f (.tmp 5) = vP f0 ∧ ev f (.tmp 6) = c5) (fun f w => False) rfl ?_ ?_ K ?_ ?_
 rintro f w ⟨c7, a8, a9, H1, c5, a4, a5, c4, _⟩
 rw [D6] at c4; cases c4
 rintro k v8 v9 r1 hx0 ⟨c7, a8, a9, w0, c5, a4, a5, c4, Z2, hS, b9, a1, a3, b7, b8, d4, d8, h0⟩
 rw [D6] at c4
 refine Y7 (Z3 (Z1 ?_))
 refine W1 Q8 (by exact d8) (hS.get mL) rfl rfl ?_
 obtain ⟨c2, k1, c4⟩ := bind_some c4
 refine X0 Tryz.call157 (S1 rfl) rfl (Yx6 k1 a1 a3 hS) ?_
 rintro w1 w3 ⟨_, e4, rfl, d9, hS, ⟨r2, r3, r4, rfl, rfl, rfl, rfl⟩⟩
 refine ⟨_, rfl, ?_⟩
 have Z2 := Z2.trans d9
 have b9 := b9.mono d9
 have a1 := a1.mono d9
 have a3 := a3.mono d9
 have b7 := b7.mono d9
 have b8 := b8.mono d9
 refine Z4 (Value.tuple #[vI c2.1, vI c2.2.1, Value.bool c2.2.2]) rfl rfl (W9 (vI c2.1) rfl rfl rfl (W9 (vI c2.2.1) rfl rfl rfl (W9 (Value.bool c2.2.2) rfl rfl rfl (Z5 (vI c2.1) rfl rfl (Z5 (vI c2.2.1) rfl rfl (Z5 (Value.bool c2.2.2) rfl rfl (Z0 (Z3 (Z3 (Z1 (Z4 (Value.bool c2.2.2) rfl rfl (G5 (b := c2.2.2) rfl rfl (Z0 ?_)))))))))))))
 by_cases f8 : c2.2.2 = true
 rw [if_pos f8] at c4
 refine Z8 (Eq.trans rfl (congrArg (fun b => Value.bool (!b)) f8)) (Y8 (Z3 (Z1 ?_)))
 refine W1 Q8 (by exact d8) (hS.get mL) rfl rfl (Z4 (vI c2.1) rfl rfl (Z4 (vI c2.2.1) rfl rfl ?_))
 obtain ⟨b2, k2, c4⟩ := bind_some c4
 have hS := hS.noM
 have Z2 := Sub.nomT hM Z2
 have b9 : Z9 (Y9 yT) e4.noM c5 c7 := b9
 have a1 : Z9 (Y6 .i64) e4.noM a4 a8 := a1
 have a3 : Z9 (Y9 yT) e4.noM a5 a9 := a3
 have b7 : Z9 (Y6 .i64) e4.noM s0 a0.1 := b7
 have b8 : Z9 (Y9 yT) e4.noM s1 a0.2 := b8
 have a1 : Z9 (Y6 .i64) e4.noM a4 a8 := a1
 have a3 : Z9 (Y9 yT) e4.noM a5 a9 := a3
 refine X0 Tryz.call158 (I1 rfl rfl rfl) rfl (Ym6 k2 a1 a3 (fun _ => rfl) hS) ?_
 rintro w4 w6 ⟨_, o4, rfl, e0, hS, ⟨r5, d3, r6, rfl, ⟨_, rfl, ⟨_, _, rfl, ⟨b0, rfl, a6⟩, ⟨b3, rfl, a7⟩⟩⟩, c8, rfl⟩⟩
 refine ⟨_, rfl, ?_⟩
 have Z2 := Z2.trans e0
 have b9 := b9.mono e0
 have a1 := a1.mono e0
 have a3 := a3.mono e0
 have b7 := b7.mono e0
 have b8 := b8.mono e0
 refine Z4 (Value.tuple #[vA ([b0] ++ [b3]), d3, vI b2.2.2]) rfl rfl (W9 (vA ([b0] ++ [b3])) rfl rfl rfl (W9 (d3) rfl rfl rfl (W9 (vI b2.2.2) rfl rfl rfl ?_)))
 refine V0 (z := vA ([vN] ++ [vN])) ([vN] ++ [vN]).toArray Zu2.zero rfl hS rfl ?_
 intro f3 w7 hS
 refine W0 (v := vA ([b0] ++ [b3])) (vs := ([b0] ++ [b3]).toArray) (cs := ([vN] ++ [vN]).toArray) Q8 rfl rfl rfl hS rfl (P4 (U9 a6.isOne) (U9 a7.isOne)) rfl ?_
 intro w9 hS
 refine Z5 (d3) rfl rfl (Z5 (vI b2.2.2) rfl rfl (Z0 (Z3 (Z3 (Z1 (Z4 (vI b2.2.2) rfl rfl ?_))))))
 refine G4 (k := .i64) (a := b2.2.2) (b := 0) rfl rfl rfl (Z0 ?_)
 by_cases f9 : b2.2.2 = 0
 rw [if_pos f9] at c4
 refine Z8 (bN f9 rfl) (Y8 (Z3 (Z1 ?_)))
 refine Zn2 (τ := (Y9 yT)) N1 K7 rfl hS rfl ?_
 intro j5 x0 o5 k3 hS
 refine Z5 (j5) rfl rfl (Z0 (Z3 (Z3 (Z1 (Z5 (vI 0) rfl rfl (Z0 (Y7 ?_)))))))
 obtain ⟨j6, c9, e5⟩ := bind_some c4
 refine W7 (id := 2) (fun k f w => ∃ (b5 : Int) (b6 : (List MpT)) (H1 : FH) (c6 : OL) (c0 : Value), D8 K b2 c7 k b5 b6 = some j6 ∧ Sub H H1 ∧ St H1 w (c6 ++ ([(f3, cA ([b0] ++ [b3]) 29)] ++ ([(f0, cA ([a4] ++ [a5]) 29)] ++ ([(b4, cA ([vN] ++ [vN]) 29)] ++ ([(b1, cA ([s0] ++ [s1]) 29)] ++ L))))) ∧ 0 ≤ b5 ∧ W3 (Y9 yT) 47 H1 c0 b6 c6 ∧ Z9 (Y6 .i64) H1 s0 a0.1 ∧ Z9 (Y9 yT) H1 s1 a0.2 ∧ Z9 (Y6 .i64) H1 b0 b2.1.1 ∧ Z9 (Y9 yT) H1 b3 b2.1.2 ∧ Z9 (Y9 yT) H1 d3 b2.2.1 ∧ Z9 (Y9 yT) H1 c5 c7 ∧ Z9 (Y6 .i64) H1 a4 a8 ∧ Z9 (Y9 yT) H1 a5 a9 ∧ ev f (.tmp 2) = vP b4 ∧ ev f (.tmp 5) = vP f0 ∧ ev f (.tmp 6) = c5 ∧ ev f (.tmp 10) = vP f3 ∧ ev f (.tmp 11) = d3 ∧ ev f (.tmp 13) = c0 ∧ ev f (.tmp 14) = vI b5) (fun f w => ∃ (c3 : (List MpT)) (H1 : FH) (d5 : OL) (c1 : Value), j6 = .go c3 ∧ Sub H H1 ∧ St H1 w (d5 ++ ([(f3, cA ([b0] ++ [b3]) 29)] ++ ([(f0, cA ([a4] ++ [a5]) 29)] ++ ([(b4, cA ([vN] ++ [vN]) 29)] ++ ([(b1, cA ([s0] ++ [s1]) 29)] ++ L))))) ∧ W3 (Y9 yT) 47 H1 c1 c3 d5 ∧ Z9 (Y6 .i64) H1 s0 a0.1 ∧ Z9 (Y9 yT) H1 s1 a0.2 ∧ Z9 (Y6 .i64) H1 b0 b2.1.1 ∧ Z9 (Y9 yT) H1 b3 b2.1.2 ∧ Z9 (Y6 .i64) H1 a4 a8 ∧ Z9 (Y9 yT) H1 a5 a9 ∧ ev f (.tmp 2) = vP b4 ∧ ev f (.tmp 5) = vP f0 ∧ ev f (.tmp 10) = vP f3 ∧ ev f (.tmp 13) = c1) rfl ?_ ?_ K ?_ ?_
 rintro f w ⟨b5, b6, H1, c6, c0, c9, _⟩
 rw [D8] at c9; cases c9
 rintro k x1 x2 r7 r8 ⟨b5, b6, o6, c6, c0, c9, Z2, hS, p5, d0, b7, b8, a6, a7, c8, b9, a1, a3, h1, h2, f4, e6, g4, g5, e7⟩
 rw [D8] at c9
 refine Z3 (Z3 (Z1 (Z4 (vI b5) (by exact e7) rfl (Z4 (c5) (by exact f4) rfl ?_))))
 have s2 := b9.bound
 refine W6 N1 rfl b9 rfl ?_
 refine U7 (k := .i64) (a := b5) (b := (c7.length : Int)) rfl rfl rfl (Z0 ?_)
 by_cases g0 : b5 < (c7.length : Int)
 rw [if_pos g0] at c9
 refine Y0 (bT g0 rfl) (Y8 (Z3 (Y7 ?_)))
 obtain ⟨o7, o8, s3, x3, _, k4, h6, ⟨i1, rfl, f5⟩, k5⟩ := b9.elem (i := b5) (by omega) (by omega)
 obtain ⟨e3, k6, c9⟩ := bind_some c9
 refine U0 10 (Q6 [(52, MP.eq (c0)), (53, MP.eq (vP f3)), (54, MP.eq (b0)), (55, MP.eq (d3)), (56, MP.eq (c5)), (57, MP.eq (vI b5)), (58, MP.eq (Value.pointer (some ⟨o7, o8, none⟩))), (59, MP.eq (vA ([i1]))), (60, MP.rep (R.agg (Y9 yT)) (e3)), (61, MP.sl (Y9 yT) ([e3]))]) [] mixed rfl rfl rfl hS (Z6 rfl ?_ (Z6 rfl ?_ (Z6 rfl ?_ (Z6 rfl ?_ (Z6 rfl ?_ (Z6 rfl ?_ (Z6 rfl ?_ (Z6 rfl ?_ (Z6 rfl ?_ (Z6 rfl ?_ U8)))))))))) ?_
 intro x4 x5 x6 x7 s4 hS k7 s5 hcq
 refine Z4 (c0) (evT (k7 13 rfl) g5) rfl ?_
 exact qn (.refl _) rfl hS rfl
 intro x8 x9 y0 y1 s6 hS k8 s7 hcq
 refine Y2 R2 (evT (k8 10 rfl) e6) rfl ?_
 exact qn (.refl _) rfl hS rfl
 intro y2 y3 y4 y5 s8 hS s9 k9 hcq
 refine Y3 (b0) M0 (eM (k9 1 53 rfl rfl)) (hS.get (mR (mR mL))) rfl rfl ?_
 exact qn (.refl _) rfl hS rfl
 intro y6 y7 y8 y9 t0 hS l0 t1 hcq
 refine Z4 (d3) (evT (l0 11 rfl) g4) rfl ?_
 exact qn (.refl _) rfl hS rfl
 intro z0 z1 z2 z3 t4 hS l1 t5 hcq
 refine Z4 (c5) (evT (l1 6 rfl) f4) rfl ?_
 exact qn (.refl _) rfl hS rfl
 intro z4 z5 z6 z7 t6 hS l2 t7 hcq
 refine Z4 (vI b5) (evT (l2 14 rfl) e7) rfl ?_
 exact qn (.refl _) rfl hS rfl
 intro z8 z9 a00 a01 t8 hS t9 i5 hcq
 refine W2 N1 rfl (eM (i5 4 56 rfl rfl)) k4 (eM (i5 5 57 rfl rfl)) (by omega) (by omega) rfl ?_
 exact qn (.refl _) rfl hS rfl
 intro a02 a03 a04 a05 l3 hS u0 l4 hcq
 have h6 := l3.1 _ _ h6
 refine V2 ([i1]) U3 (eM (l4 6 58 rfl rfl)) (hS.froz _ _ h6) rfl k5 rfl ?_
 exact qn (.refl _) rfl hS rfl
 intro a06 a07 a08 a09 h7 hS u1 h8 hcq
 have c8 := c8.mono h7
 have a6 := a6.mono h7
 have f5 := f5.mono h7
 refine X0 Tryz.call81 (I1 (eM (h8 2 54 rfl rfl)) (eM (h8 3 55 rfl rfl)) (eM (h8 7 59 rfl rfl))) rfl (Zw6 k6 a6 c8 f5 hS) ?_
 rintro a10 a11 ⟨o9, a12, rfl, l5, hS, l6⟩
 refine ⟨o9, rfl, ?_⟩
 exact qn l5 rfl hS l6
 intro a13 a14 a15 a16 u2 hS u3 l7 hcq
 obtain ⟨a17, p0, ⟨_, rfl, ⟨j7, rfl, i7⟩⟩⟩ := gvR (l7 8 60 rfl rfl)
 refine D1 (τ := (Y9 yT)) N1 K7 rfl [vA ([j7])] [e3] rfl rfl (L4 p0) (Zg7 ⟨_, rfl, i7⟩) (by decide) (by decide) hS rfl ?_
 intro a18 a19 a20 l9 hS m0
 exact qn l9 rfl hS m0
 intro a21 p1 j8 d1 hS e1 i6 hcq
 have hS : St j8 p1 (c6 ++ ([(f3, cA ([b0] ++ [b3]) 29)] ++ ([(f0, cA ([a4] ++ [a5]) 29)] ++ ([(b4, cA ([vN] ++ [vN]) 29)] ++ ([(b1, cA ([s0] ++ [s1]) 29)] ++ L))))) := hS
 have Z2 := Z2.trans d1
 have b9 := b9.mono d1
 have c8 := c8.mono d1
 have b7 := b7.mono d1
 have b8 := b8.mono d1
 have a1 := a1.mono d1
 have a3 := a3.mono d1
 have a6 := a6.mono d1
 have a7 := a7.mono d1
 have d0 := d0.mono d1
 obtain ⟨a22, p2, m1⟩ := gvS (i6 9 61 (by decide) rfl)
 obtain ⟨m2, c9⟩ := gd c9
 refine P5 (τ := (Y9 yT)) Yi7 rfl (by exact (eM (i6 0 52 (by decide) rfl))) (by exact p2) d0 hS m1 m2 rfl ?_
 intro j9 a23 p3 m3 hS
 refine Z5 (j9) rfl rfl (Z0 (X5 (Z1 (Z4 (vI b5) (by exact (evT (e1 14 rfl) e7)) rfl ?_))))
 refine V1 (b5 + 1) rfl rfl (IntWalk.i64_in _ (by omega)) rfl (Z5 (vI (b5 + 1)) rfl rfl (Z0 ?_))
 exact r7 _ _ ⟨(b5 + 1), (b6 ++ [e3]), j8, p3, j9, c9, Z2, hS, (by omega), m3, b7, b8, a6, a7, c8, b9, a1, a3, (evT (e1 2 rfl) h1), (evT (e1 5 rfl) h2), (evT (e1 6 rfl) f4), (evT (e1 10 rfl) e6), (evT (e1 11 rfl) g4), rfl, rfl⟩
 rw [if_neg g0] at c9
 refine Z8 (bF g0 rfl) ?_
 refine W4 rfl ?_
 have hz := Option.some.inj c9
 subst hz
 exact r8 _ _ ⟨b6, o6, c6, c0, rfl, Z2, hS, d0, b7, b8, a6, a7, a1, a3, h1, h2, e6, g5⟩
 exact ⟨0, ([] : List MpT), o4, o5, j5, c9, Z2, hS, (by omega), k3, b7, b8, a6, a7, c8, b9, a1, a3, d4, d8, h0, rfl, rfl, rfl, rfl⟩
 rintro a24 a25 ⟨c3, a26, d5, c1, rfl, Z2, hS, g9, b7, b8, a6, a7, a1, a3, f6, h3, g6, g7⟩
 dsimp only [Ex.elim] at e5
 refine Z3 (Z3 (Z1 (Y2 R2 (by exact g6) rfl ?_)))
 refine Y3 (b0) M0 rfl (hS.get (mR mL)) rfl rfl (Z4 (c1) (by exact g7) rfl ?_)
 obtain ⟨a27, f1, hS, g1⟩ := g9.freeze hS
 have Z2 := Z2.trans f1
 have a6 := a6.mono f1
 have b7 := b7.mono f1
 have b8 := b8.mono f1
 have a7 := a7.mono f1
 obtain ⟨d2, m4, e5⟩ := bind_some e5
 refine X0 Tryz.call173 (S5 rfl rfl) rfl (Zy5 m4 a6 g1 hS) ?_
 rintro a28 a29 ⟨_, p4, rfl, e2, hS, ⟨g8, r9, rfl, p6, rfl⟩⟩
 refine ⟨_, rfl, ?_⟩
 have Z2 := Z2.trans e2
 have g1 := g1.mono e2
 have a6 := a6.mono e2
 have b7 := b7.mono e2
 have b8 := b8.mono e2
 have a7 := a7.mono e2
 refine Z4 (Value.tuple #[g8, vI d2.2]) rfl rfl (W9 (g8) rfl rfl rfl (W9 (vI d2.2) rfl rfl rfl (Z5 (g8) rfl rfl (Z5 (vI d2.2) rfl rfl (Z0 (Z3 (Z1 (Z4 (vI d2.2) rfl rfl ?_))))))))
 refine G4 (k := .i64) (a := d2.2) (b := 0) rfl rfl rfl (Z0 ?_)
 by_cases g2 : d2.2 = 0
 rw [if_pos g2] at e5
 refine Z8 (bN g2 rfl) (Y8 (Z3 (Z1 ?_)))
 refine W1 Q8 (by exact g6) (hS.get mL) rfl rfl ?_
 have hS := hS.perm V3
 refine W0 (v := vA ([b0] ++ [b3])) (vs := ([b0] ++ [b3]).toArray) (cs := ([a4] ++ [a5]).toArray) Q8 (by exact h3) rfl rfl hS rfl (P4 (U9 a6.isOne) (U9 a7.isOne)) rfl ?_
 intro a30 hS
 have hS := hS.perm V3.symm
 refine Z0 (Z1 (Z4 (c1) (by exact g7) rfl (Z5 (c1) rfl rfl (Z0 (X5 ?_)))))
 have hS := St.dropA hS
 exact r1 _ _ ⟨c3, b2.1.1, b2.1.2, p4, c1, b0, b3, e5, Z2, hS, g1, a6, a7, b7, b8, f6, h3, rfl⟩
 rw [if_neg g2] at e5
 refine Y0 (bO g2 rfl) (Z3 (Z1 ?_))
 refine R4 (vA ([vN] ++ [vN])) Yp0 rfl (Z4 (vI d2.2) rfl rfl ?_)
 have hS := hS.perm Q5
 refine W0 (v := vA ([vN] ++ [vN])) (vs := ([vN] ++ [vN]).toArray) (cs := ([vN] ++ [vN]).toArray) Q8 (by exact f6) rfl rfl hS rfl (P4 (U9 rfl) (U9 rfl)) rfl ?_
 intro a31 hS
 have hS := hS.perm Q5.symm
 refine Z5 (vN) rfl rfl (Z5 (vI d2.2) rfl rfl (Z0 ?_))
 refine X3 (vs := [vA ([vN] ++ [vN]), vN, vI d2.2]) Tryz.func161 ⟨⟨_, (by exact f6), U1 Q8 (hS.get (mR (mR mL))) rfl⟩, rfl, rfl, trivial⟩ ?_
 have hz := Option.some.inj e5
 subst hz
 dsimp only [Ex.elim] at f2
 have hz := Option.some.inj f2
 subst hz
 exact ⟨_, _, rfl, Z2, (St.dropA (St.dropA (St.dropA (St.dropA hS)))), ⟨_, _, _, rfl, ⟨_, rfl, ⟨_, _, rfl, ⟨_, rfl, Z9.nil⟩, ⟨_, rfl, Z9.nil⟩⟩⟩, Z9.nil, rfl⟩⟩
 rw [if_neg f9] at c4
 refine Y0 (bO f9 rfl) (Z3 (Z1 ?_))
 refine R4 (vA ([vN] ++ [vN])) Yp0 rfl (Z4 (vI b2.2.2) rfl rfl ?_)
 have hS := hS.perm Q5
 refine W0 (v := vA ([vN] ++ [vN])) (vs := ([vN] ++ [vN]).toArray) (cs := ([vN] ++ [vN]).toArray) Q8 (by exact d4) rfl rfl hS rfl (P4 (U9 rfl) (U9 rfl)) rfl ?_
 intro a32 hS
 have hS := hS.perm Q5.symm
 refine Z5 (vN) rfl rfl (Z5 (vI b2.2.2) rfl rfl (Z0 ?_))
 refine X3 (vs := [vA ([vN] ++ [vN]), vN, vI b2.2.2]) Tryz.func161 ⟨⟨_, (by exact d4), U1 Q8 (hS.get (mR (mR mL))) rfl⟩, rfl, rfl, trivial⟩ ?_
 have hz := Option.some.inj c4
 subst hz
 dsimp only [Ex.elim] at f2
 have hz := Option.some.inj f2
 subst hz
 exact ⟨_, _, rfl, Z2, (St.dropA (St.dropA (St.dropA (St.dropA hS)))), ⟨_, _, _, rfl, ⟨_, rfl, ⟨_, _, rfl, ⟨_, rfl, Z9.nil⟩, ⟨_, rfl, Z9.nil⟩⟩⟩, Z9.nil, rfl⟩⟩
 rw [if_neg f8] at c4
 refine Y0 (Eq.trans rfl (congrArg (fun b => Value.bool (!b)) (W5 f8))) (Z3 (Z1 ?_))
 refine W1 Q8 (by exact d8) (hS.get mL) rfl rfl (Z4 (c5) (by exact h0) rfl ?_)
 have hS := hS.perm V3
 refine W0 (v := vA ([a4] ++ [a5])) (vs := ([a4] ++ [a5]).toArray) (cs := ([vN] ++ [vN]).toArray) Q8 (by exact d4) rfl rfl hS rfl (P4 (U9 a1.isOne) (U9 a3.isOne)) rfl ?_
 intro a33 hS
 have hS := hS.perm V3.symm
 refine Z5 (c5) rfl rfl (Z5 (vI 0) rfl rfl (Z0 ?_))
 refine X3 (vs := [vA ([a4] ++ [a5]), c5, vI 0]) Tryz.func161 ⟨⟨_, (by exact d4), U1 Q8 (hS.get (mR mL)) rfl⟩, rfl, rfl, trivial⟩ ?_
 have hz := Option.some.inj c4
 subst hz
 dsimp only [Ex.elim] at f2
 have hz := Option.some.inj f2
 subst hz
 exact ⟨_, _, rfl, Z2, (St.dropA (St.dropA (St.dropA hS))), ⟨_, _, _, rfl, ⟨_, rfl, ⟨_, _, rfl, ⟨_, rfl, a1⟩, ⟨_, rfl, a3⟩⟩⟩, b9, rfl⟩⟩
 exact ⟨h9, ((d6.1, d6.2).1), ((d6.1, d6.2).2), k0, j2, h4, h5, c4, Z2, hS, j4, e8, e9, b7, b8, q8, g3, rfl⟩
 intro _ _ h
 exact h.elim
def L5 (K : Nat) (a0 : LdT) (a1 : (List MpT)) : Nat → Int → (List MpT) → Option (Ex ((List MpT) × Int) ((List MpT)))
 | 0, _, _ => none
 | k + 1, a9, b0 => (if a9 < (a1.length : Int) then ((Zd3 K (rd a1 a9)).bind fun e8 => ((N7 K (a0.1, a0.2.1, a0.2.2) e8).bind fun e9 => ((B5 K e9).bind fun b5 => (if b5.2 = 0 then (if b0.length + ([b5.1]).length ≤ 1099511627776 then L5 K a0 a1 k (a9 + 1) (b0 ++ [b5.1]) else none) else some (.ret (([] : List MpT), b5.2)))))) else some (.go b0))
def Zg4 (K : Nat) (a0 : LdT) (a1 : (List MpT)) : Option ((List MpT) × Int) := ((L5 K a0 a1 K 0 ([] : List MpT)).bind (Ex.elim (fun r => some r) (fun s => (fun (b6 : (List MpT)) => some (b6, 0)) s)))
theorem Yh3 {K : Nat} {a0 : LdT} {a1 : (List MpT)} {r : ((List MpT) × Int)} (q0 : Zg4 K a0 a1 = some r) {H : FH} {w : World} {L : OL} {s0 : Value} {s1 : Value} (g8 : Zl1 (Xm8 K) H s0 a0) (b3 : Z9 (Y9 yT) H s1 a1) (hS : St H w L) :
 Calls Tryz.prog 245 #[s0, s1] w (T3 (fun v G => (R.t2 (R.sl (Y9 yT)) (R.int .i64)).p (G.new H) v r) H L) := by
 obtain ⟨e2, f0, f2, g9, _, rfl, b1, ⟨e3, e4, e5, e7, rfl, a4, a5, a6, a8⟩, f3⟩ := g8
 have Z2 := Sub.refl H
 refine X6 Tryz.func245 rfl Tryz.ntmps245 rfl ?_
 unfold Zg4 at q0
 refine Z3 (Z1 (Z5 (vN) rfl rfl (Z5 (vI 0) rfl rfl (Z0 (Z3 (Z1 ?_))))))
 refine Zn2 (τ := (Zc5 H (Y9 yT))) N1 K7 rfl hS rfl ?_
 intro u1 w2 C3 h0 hS
 refine Z5 (u1) rfl rfl (Z0 (Z3 (Z3 (Z1 (Z4 (s1) rfl rfl ?_)))))
 have i9 := b3.bound
 refine W6 N1 rfl b3 rfl (Z4 (vI 0) rfl rfl (Z0 (Y7 ?_)))
 obtain ⟨e6, a7, d4⟩ := bind_some q0
 refine W7 (id := 0) (fun k f w => ∃ (a9 : Int) (b0 : (List MpT)) (H1 : FH) (c0 : OL) (b4 : Value), L5 K a0 a1 k a9 b0 = some e6 ∧ Sub H H1 ∧ St H1 w (c0 ++ L) ∧ 0 ≤ a9 ∧ W3 (Zc5 H (Y9 yT)) 47 H1 b4 b0 c0 ∧ Zu8 H1 e7 (Yg6 K a0) ∧ Z9 (Y9 yT) H1 s1 a1 ∧ Z9 (Y6 .i64) H1 e3 a0.1 ∧ Z9 (Y6 .i64) H1 e4 a0.2.1 ∧ Z9 (Zd4 .i64) H1 e5 a0.2.2 ∧ H1 e2 = some (.cells f2 g9) ∧ ev f (.tmp 0) = Value.pointer (some ⟨e2, f0, none⟩) ∧ ev f (.tmp 6) = b4 ∧ ev f (.tmp 12) = s1 ∧ ev f (.tmp 13) = vI (a1.length : Int) ∧ ev f (.tmp 14) = vI a9) (fun f w => ∃ (b6 : (List MpT)) (H1 : FH) (c8 : OL) (b2 : Value), e6 = .go b6 ∧ Sub H H1 ∧ St H1 w (c8 ++ L) ∧ W3 (Zc5 H (Y9 yT)) 47 H1 b2 b6 c8 ∧ ev f (.tmp 6) = b2) rfl ?_ ?_ K ?_ ?_
 rintro f w ⟨a9, b0, H1, c0, b4, a7, _⟩
 rw [L5] at a7; cases a7
 rintro k i2 i3 h1 h2 ⟨a9, b0, f4, c0, b4, a7, Z2, hS, g7, a3, a8, b3, a4, a5, a6, b1, d2, d3, d0, d1, c9⟩
 rw [L5] at a7
 refine Z3 (Z1 ?_)
 refine U7 (k := .i64) (a := a9) (b := (a1.length : Int)) (by exact c9) (by exact d1) rfl (Z0 (Z3 ?_))
 by_cases d9 : a9 < (a1.length : Int)
 rw [if_pos d9] at a7
 refine Y0 (bT d9 rfl) (Y8 (Z3 (Y7 (Z3 (Z1 ?_)))))
 obtain ⟨b8, o8, j0, E8, _, h3, h4, ⟨d8, rfl, e0⟩, h5⟩ := b3.elem (i := a9) (by omega) (by omega)
 refine W2 N1 rfl (by exact d0) h3 (by exact c9) (by omega) (by omega) rfl ?_
 refine V2 ([d8]) U3 rfl (hS.froz _ _ h4) rfl h5 rfl ?_
 refine V0 (z := vA ([vN])) ([vN]).toArray K7.zero rfl hS rfl ?_
 intro b9 j1 hS
 refine W0 (v := vA ([d8])) (vs := ([d8]).toArray) (cs := ([vN]).toArray) U3 rfl rfl rfl hS rfl (U9 e0.isOne) rfl ?_
 intro j2 hS
 refine Z0 (Z3 (Z1 (Z4 (Value.pointer (some ⟨e2, f0, none⟩)) (by exact d2) rfl ?_)))
 refine W1 U3 rfl (hS.get mL) rfl rfl ?_
 obtain ⟨e8, f5, a7⟩ := bind_some a7
 refine X0 Tryz.call90 (S1 rfl) rfl (Zh0 f5 e0 hS) ?_
 rintro j3 j4 ⟨j5, j6, j7, rfl, c2, hS, f6⟩
 refine ⟨_, rfl, ?_⟩
 have Z2 := Z2.trans c2
 have a4 := a4.mono c2
 have a5 := a5.mono c2
 have a6 := a6.mono c2
 have a8 := a8.mono c2
 have b3 := b3.mono c2
 have a3 := a3.mono c2
 have b1 := c2.1 _ _ b1
 obtain ⟨j8, c3, hS, f7⟩ := f6.freeze hS
 have Z2 := Z2.trans c3
 have a4 := a4.mono c3
 have a5 := a5.mono c3
 have a6 := a6.mono c3
 have a8 := a8.mono c3
 have b3 := b3.mono c3
 have a3 := a3.mono c3
 have b1 := c3.1 _ _ b1
 obtain ⟨e9, f8, a7⟩ := bind_some a7
 refine X0 Tryz.call117 (S5 rfl rfl) rfl (Zs3 f8 ⟨_, _, _, _, _, rfl, b1, ⟨_, _, _, _, rfl, a4, a5, a6, a8⟩, f3⟩ f7 hS) ?_
 rintro j9 k0 ⟨k1, k2, k3, rfl, c4, hS, f9⟩
 refine ⟨_, rfl, ?_⟩
 have Z2 := Z2.trans c4
 have a4 := a4.mono c4
 have a5 := a5.mono c4
 have a6 := a6.mono c4
 have a8 := a8.mono c4
 have b3 := b3.mono c4
 have a3 := a3.mono c4
 have b1 := c4.1 _ _ b1
 obtain ⟨k4, c5, hS, g0⟩ := f9.freeze hS
 have Z2 := Z2.trans c5
 have a4 := a4.mono c5
 have a5 := a5.mono c5
 have a6 := a6.mono c5
 have a8 := a8.mono c5
 have b3 := b3.mono c5
 have a3 := a3.mono c5
 have b1 := c5.1 _ _ b1
 obtain ⟨b5, g1, a7⟩ := bind_some a7
 refine X0 Tryz.call91 (S1 rfl) rfl (Zw7 g1 g0 hS) ?_
 rintro k5 k6 ⟨_, h6, rfl, c6, hS, ⟨i0, i1, rfl, ⟨_, rfl, ⟨b7, rfl, c1⟩⟩, rfl⟩⟩
 refine ⟨_, rfl, ?_⟩
 have i4 := c1
 have g2 : RdF yT H h6 b7 b5.1 := Z9.mono (N2 Z2) c1
 have c1 := Z9.old c1
 have Z2 := Z2.trans c6
 have a4 := a4.mono c6
 have a5 := a5.mono c6
 have a6 := a6.mono c6
 have a8 := a8.mono c6
 have b3 := b3.mono c6
 have a3 := a3.mono c6
 have b1 := c6.1 _ _ b1
 refine Z4 (Value.tuple #[vA ([b7]), vI b5.2]) rfl rfl (W9 (vA ([b7])) rfl rfl rfl (W9 (vI b5.2) rfl rfl rfl ?_))
 refine V0 (z := vA ([vN])) ([vN]).toArray K7.zero rfl hS rfl ?_
 intro k7 k8 hS
 refine W0 (v := vA ([b7])) (vs := ([b7]).toArray) (cs := ([vN]).toArray) U3 rfl rfl rfl hS rfl (U9 c1.isOne) rfl ?_
 intro k9 hS
 refine Z5 (vI b5.2) rfl rfl (Z0 (Z3 (Z3 (Z1 (Z4 (vI b5.2) rfl rfl ?_)))))
 refine G4 (k := .i64) (a := b5.2) (b := 0) rfl rfl rfl (Z0 ?_)
 by_cases d5 : b5.2 = 0
 rw [if_pos d5] at a7
 refine Z8 (bN d5 rfl) (Y8 (Z1 (Z4 (b4) (by exact d3) rfl ?_)))
 refine W1 U3 rfl (hS.get mL) rfl rfl ?_
 refine D1 (τ := (Zc5 H (Y9 yT))) N1 K7 rfl [vA ([b7])] [b5.1] rfl rfl (L4 rfl) (Zg7 ⟨_, rfl, g2⟩) (by decide) (by decide) hS rfl ?_
 intro l0 h7 l1 c7 hS g3
 have Z2 := Z2.trans c7
 have a4 := a4.mono c7
 have a5 := a5.mono c7
 have a6 := a6.mono c7
 have a8 := a8.mono c7
 have b3 := b3.mono c7
 have a3 := a3.mono c7
 have b1 := c7.1 _ _ b1
 obtain ⟨g4, a7⟩ := gd a7
 have hS := hS.perm Q5
 refine P5 (τ := (Zc5 H (Y9 yT))) Yi7 rfl rfl rfl a3 hS g3 g4 rfl ?_
 intro f1 l2 h8 g5 hS
 have hS := hS.perm Q5.symm
 refine Z5 (f1) rfl rfl (Z0 (X5 (Z1 ?_)))
 refine V1 (a9 + 1) (by exact c9) rfl (IntWalk.i64_in _ (by omega)) rfl (Z4 (vI (a9 + 1)) rfl rfl (Z0 ?_))
 have hS := St.dropA hS
 have hS := St.dropA hS
 exact h1 _ _ ⟨(a9 + 1), (b0 ++ [b5.1]), h7, h8, f1, a7, Z2, hS, (by omega), g5, a8, b3, a4, a5, a6, b1, d2, rfl, d0, d1, rfl⟩
 rw [if_neg d5] at a7
 refine Y0 (bO d5 rfl) (Z3 (Z1 (Z4 (vI b5.2) rfl rfl (Z5 (vN) rfl rfl (Z5 (vI b5.2) rfl rfl (Z0 ?_))))))
 refine X3 (vs := [vN, vI b5.2]) Tryz.func245 ⟨rfl, rfl, trivial⟩ ?_
 have hz := Option.some.inj a7
 subst hz
 dsimp only [Ex.elim] at d4
 have hz := Option.some.inj d4
 subst hz
 exact ⟨_, _, rfl, Z2, (St.dropA (St.dropA (St.dropA hS))), ⟨_, _, rfl, Z9.nil, rfl⟩⟩
 rw [if_neg d9] at a7
 refine Z8 (bF d9 rfl) ?_
 refine W4 rfl ?_
 have hz := Option.some.inj a7
 subst hz
 exact h2 _ _ ⟨b0, f4, c0, b4, rfl, Z2, hS, a3, d3⟩
 exact ⟨0, ([] : List MpT), H, C3, u1, a7, Z2, hS, (by omega), h0, a8, b3, a4, a5, a6, b1, rfl, rfl, rfl, rfl, rfl⟩
 rintro i5 i6 ⟨b6, i7, c8, b2, rfl, Z2, hS, d7, e1⟩
 dsimp only [Ex.elim] at d4
 refine Z3 (Z1 (Z4 (b2) (by exact e1) rfl (Z5 (b2) rfl rfl (Z5 (vI 0) rfl rfl (Z0 ?_)))))
 refine X3 (vs := [b2, vI 0]) Tryz.func245 ⟨rfl, rfl, trivial⟩ ?_
 obtain ⟨h9, g6, hS, d6⟩ := W3.freezeF (τ := (Y9 yT)) (H0 := H) d7 hS Z2
 have i8 := Z9.old d6
 have d6 : RdF (Y9 yT) H h9 b2 b6 := d6
 have Z2 := Z2.trans g6
 have hz := Option.some.inj d4
 subst hz
 exact ⟨_, _, rfl, Z2, hS, ⟨_, _, rfl, d6, rfl⟩⟩
end Go.Proofs.YtfodlhkoafhplaaGreat
