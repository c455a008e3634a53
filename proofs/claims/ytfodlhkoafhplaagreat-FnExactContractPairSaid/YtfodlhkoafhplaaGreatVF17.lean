/- Walks of functions: each computes its pure function, if that gives a value. -/
import Derived.Test.YtfodlhkoafhplaaGreatVTy
import Derived.Test.YtfodlhkoafhplaaGreatVF8
import Derived.Test.YtfodlhkoafhplaaGreatVF6
import Derived.Test.YtfodlhkoafhplaaGreatVF16
import Derived.Test.YtfodlhkoafhplaaGreatVF2
import Derived.Test.YtfodlhkoafhplaaGreatVF12
namespace Go.Proofs.YtfodlhkoafhplaaGreat
open Go
set_option linter.unusedSimpArgs false
set_option linter.unusedVariables false
set_option maxRecDepth 100000
set_option maxHeartbeats 8000000
def M9 (K : Nat) (a0 : ((List Int) × (List MpT))) : Nat → Int → Option (Ex Bool (Unit))
 | 0, _ => none
 | k + 1, a1 => (if a1 < (a0.2.length : Int) then ((Zo0 K a0.1 (rd a0.2 a1)).bind fun a9 => (if a9 = true then (if a1 < (a0.1.length : Int) then ((Zk9 K a0.1 (rd a0.2 a1) (IntKind.i64.wrap ((rd a0.1 a1) + 1))).bind fun b4 => (if b4 = true then M9 K a0 k (a1 + 1) else some (.ret false))) else none) else some (.ret false))) else some (.go ()))
def Zi1 (K : Nat) (a0 : ((List Int) × (List MpT))) (b0 : Bool) : Option Bool := (if b0 = true then some false else ((M9 K a0 K 0).bind (Ex.elim (fun r => some r) (fun s => ((S0 K a0.2 (fun x => Zh8 K x (a0.1, a0.2))).bind fun c2 => some (!c2))))))
def Zm4 (K : Nat) (a0 : ((List Int) × (List MpT))) : Option Bool := ((Zl3 K a0.1).bind fun c3 => (if c3 = true then Zi1 K a0 (!decide ((a0.2.length : Int) = (a0.1.length : Int))) else Zi1 K a0 true))
theorem Yq7 {K : Nat} {a0 : ((List Int) × (List MpT))} {r : Bool} (q0 : Zm4 K a0 = some r) {H : FH} {w : World} {L : OL} {s0 : Value} {s1 : Value} (a6 : Y1 (Y6 .i64) H s0 a0.1) (a7 : Y1 (X6 yT) H s1 a0.2) (hS : St H w L) :
 Calls Tryz.prog 45 #[vA ([s0] ++ [s1])] w (T2 (fun v G => R.bool.p G v r) H L) := by
 have Z2 := Sub.refl H
 refine X3 Tryz.func45 rfl Tryz.ntmps45 rfl ?_
 unfold Zm4 at q0
 refine Z3 (Z0 ?_)
 refine S4 (v := vA ([s0] ++ [s1])) ([s0] ++ [s1]).toArray rfl rfl hS rfl ?_
 intro b1 w2 hS
 refine Z5 (Value.bool false) rfl rfl (Z1 (Z3 (Z3 ?_)))
 refine B6 (fun f w => ∃ (b0 : Bool) (H1 : FH), Zi1 K a0 b0 = some r ∧ Sub H H1 ∧ St H1 w ([(b1, cA ([s0] ++ [s1]) 29)] ++ L) ∧ Y1 (Y6 .i64) H1 s0 a0.1 ∧ Y1 (X6 yT) H1 s1 a0.2 ∧ ev f (.tmp 1) = vP b1 ∧ ev f (.tmp 17) = Value.bool b0) ?_ ?_
 rintro fj1 q1 ⟨b0, h1, d5, Z2, hS, a6, a7, d6, c8⟩
 unfold Zi1 at d5
 by_cases e4 : b0 = true
 rw [if_pos e4] at d5
 refine Y0 (Eq.trans (by exact c8) (congrArg Value.bool e4)) (Z3 (Z0 (Z5 (Value.bool false) rfl rfl (Z1 ?_))))
 refine X0 (vs := [Value.bool false]) Tryz.func45 ⟨rfl, trivial⟩ ?_
 have hz := Option.some.inj d5
 subst hz
 exact ⟨_, _, rfl, Z2, (St.dropA hS), rfl⟩
 rw [if_neg e4] at d5
 refine Z8 (Eq.trans (by exact c8) (congrArg Value.bool (W1 e4))) (Y7 (Z3 (Z3 (Z0 (Y3 N8 (by exact d6) rfl ?_)))))
 refine Y4 (s1) Zf9 rfl (hS.get mL) rfl rfl ?_
 have bl5 := a7.bound
 refine W7 I1 rfl a7 rfl (Z4 (vI 0) rfl rfl (Z1 (Y8 ?_)))
 obtain ⟨f4, a5, b6⟩ := bind_some d5
 refine W5 (id := 0) (fun k f w => ∃ (a1 : Int) (H1 : FH), M9 K a0 k a1 = some f4 ∧ Sub H H1 ∧ St H1 w ([(b1, cA ([s0] ++ [s1]) 29)] ++ L) ∧ 0 ≤ a1 ∧ Y1 (Y6 .i64) H1 s0 a0.1 ∧ Y1 (X6 yT) H1 s1 a0.2 ∧ ev f (.tmp 1) = vP b1 ∧ ev f (.tmp 19) = s1 ∧ ev f (.tmp 20) = vI (a0.2.length : Int) ∧ ev f (.tmp 21) = vI a1) (fun f w => ∃ (H1 : FH), f4 = .go () ∧ Sub H H1 ∧ St H1 w ([(b1, cA ([s0] ++ [s1]) 29)] ++ L) ∧ Y1 (Y6 .i64) H1 s0 a0.1 ∧ Y1 (X6 yT) H1 s1 a0.2 ∧ ev f (.tmp 1) = vP b1) rfl ?_ ?_ K ?_ ?_
 rintro f w ⟨a1, H1, a5, _⟩
 rw [M9] at a5; cases a5
 rintro k v0 v1 m7 m8 ⟨a1, k2, a5, Z2, hS, m6, a6, a7, b2, c4, c5, b5⟩
 rw [M9] at a5
 refine Z3 (Z0 ?_)
 refine V7 (k := .i64) (a := a1) (b := (a0.2.length : Int)) (by exact b5) (by exact c5) rfl (Z1 (Z3 ?_))
 by_cases e5 : a1 < (a0.2.length : Int)
 rw [if_pos e5] at a5
 refine Y0 (bT e5 rfl) (Y7 (Z3 (Y8 (Z3 (Z0 (Z4 (vI a1) (by exact b5) rfl ?_))))))
 obtain ⟨b7, o7, cs7, E7, _, m9, n0, ⟨b3, rfl, a8⟩, n1⟩ := a7.elem (i := a1) (by omega) (by omega)
 refine W3 I1 rfl (by exact c4) m9 (by exact b5) (by omega) (by omega) rfl ?_
 refine V6 ([b3]) T1 rfl (hS.froz _ _ n0) rfl n1 rfl ?_
 refine V1 (z := vA ([vN])) ([vN]).toArray Zd2.zero rfl hS rfl ?_
 intro b8 w9 hS
 refine Z5 (vI a1) rfl rfl ?_
 refine W0 (v := vA ([b3])) (vs := ([b3]).toArray) (cs := ([vN]).toArray) T1 rfl rfl rfl hS rfl (T8 a8.isOne) rfl ?_
 intro w11 hS
 refine Z1 (Z3 ?_)
 obtain ⟨a9, f5, a5⟩ := bind_some a5
 by_cases a3 : a9 = true
 rw [if_pos a3] at a5
 obtain ⟨q2, a5⟩ := gd a5
 obtain ⟨k3, k4, q3, v2, _, h2, d0, rfl, h3⟩ := a6.elem (i := a1) (by omega) (by omega)
 obtain ⟨b4, h4, a5⟩ := bind_some a5
 refine U6 18 (P9 [(26, MP.eq (vP b1)), (27, MP.eq (s0)), (28, MP.eq (vA ([b3]))), (29, MP.eq (Value.bool a9)), (30, MP.eq (Value.bool (!a9))), (31, MP.eq (Value.bool (!a9))), (32, MP.eq (vP b1)), (33, MP.eq (s0)), (34, MP.eq (vA ([b3]))), (35, MP.eq (vP b1)), (36, MP.eq (s0)), (37, MP.eq (vI a1)), (38, MP.eq (Value.pointer (some ⟨k3, k4, none⟩))), (39, MP.eq (vI (rd a0.1 a1))), (40, MP.eq (vI (IntKind.i64.wrap ((rd a0.1 a1) + 1)))), (41, MP.eq (Value.bool b4)), (42, MP.eq (Value.bool (!b4))), (43, MP.eq (Value.bool (!b4)))]) [] mixed rfl rfl rfl hS (Z6 rfl ?_ (Z6 rfl ?_ (Z6 rfl ?_ (Z6 rfl ?_ (Z6 rfl ?_ (Z6 rfl ?_ (Z6 rfl ?_ (Z6 rfl ?_ (Z6 rfl ?_ (Z6 rfl ?_ (Z6 rfl ?_ (Z6 rfl ?_ (Z6 rfl ?_ (Z6 rfl ?_ (Z6 rfl ?_ (Z6 rfl ?_ (Z6 rfl ?_ (Z6 rfl ?_ U8)))))))))))))))))) ?_
 intro n2 n3 n4 n5 k5 hS d8 k6 hcq
 have f6 := evT (d8 1 rfl) b2
 refine Y3 R8 f6 rfl ?_
 exact qn (.refl _) rfl hS rfl
 intro f7 n6 n7 n8 k7 hS k8 d9 hcq
 have f8 : ev f7 (.tmp 26) = vP b1 := d9 0 26 rfl rfl
 refine Y4 (s0) K9 f8 (hS.get (mR (mR mL))) rfl rfl ?_
 exact qn (.refl _) rfl hS rfl
 intro f9 n9 o0 o1 k9 hS e0 l0 hcq
 have g0 : ev f9 (.tmp 4) = vP b8 := Eq.trans (e0 4 rfl) rfl
 refine W2 T1 g0 (hS.get (mR mL)) rfl rfl ?_
 exact qn (.refl _) rfl hS rfl
 intro d7 o2 o3 o4 c6 hS l1 c7 hcq
 have a6 := a6.mono c6
 have a8 := a8.mono c6
 have g1 : ev d7 (.tmp 27) = s0 := c7 1 27 rfl rfl
 have g2 : ev d7 (.tmp 28) = vA ([b3]) := c7 2 28 rfl rfl
 refine Y9 Tryz.call125 (U7 g1 g2) rfl (Zx9 f5 a6 a8 hS) ?_
 rintro o5 o6 ⟨_, o8, rfl, e1, hS, rfl⟩
 refine ⟨_, rfl, ?_⟩
 exact qn e1 rfl hS rfl
 intro g3 o9 p0 p1 l2 hS l3 e2 hcq
 have g4 : ev g3 (.tmp 29) = Value.bool a9 := e2 3 29 rfl rfl
 refine M4 (b := a9) g4 rfl ?_
 exact qn (.refl _) rfl hS rfl
 intro g5 p2 p3 p4 l4 hS l5 e3 hcq
 have g6 : ev g5 (.tmp 30) = Value.bool (!a9) := e3 4 30 rfl rfl
 refine Z4 (Value.bool (!a9)) g6 rfl ?_
 exact qn (.refl _) rfl hS rfl
 intro f79 w80 H81 X82 v3 hS l6 l7 hcq
 refine Y2 rfl rfl (Eq.trans (eM (l7 5 31 rfl rfl)) (congrArg (fun b => Value.bool (!b)) a3)) (Y3 R8 (evT (l6 1 rfl) b2) rfl ?_)
 exact qn (.refl _) rfl hS rfl
 intro f89 w90 H91 X92 v4 hS v5 g7 hcq
 refine Y2 rfl rfl (Eq.trans (eM (g7 5 31 rfl rfl)) (congrArg (fun b => Value.bool (!b)) a3)) ?_
 refine Y4 (s0) K9 (eM (g7 6 32 rfl rfl)) (hS.get (mR (mR mL))) rfl rfl ?_
 exact qn (.refl _) rfl hS rfl
 intro p5 v6 v7 v8 q4 hS h5 h6 hcq
 have l9 : ev p5 (.tmp 4) = vP b8 := Eq.trans (h5 4 rfl) rfl
 refine Y2 rfl rfl (Eq.trans (eM (h6 5 31 rfl rfl)) (congrArg (fun b => Value.bool (!b)) a3)) ?_
 refine W2 T1 l9 (hS.get (mR mL)) rfl rfl ?_
 exact qn (.refl _) rfl hS rfl
 intro v9 w0 w1 w3 q5 hS h7 h8 hcq
 refine Y2 rfl rfl (Eq.trans (eM (h8 5 31 rfl rfl)) (congrArg (fun b => Value.bool (!b)) a3)) (Y3 R8 (evT (h7 1 rfl) b2) rfl ?_)
 exact qn (.refl _) rfl hS rfl
 intro w4 w5 w6 w7 q6 hS q7 e6 hcq
 refine Y2 rfl rfl (Eq.trans (eM (e6 5 31 rfl rfl)) (congrArg (fun b => Value.bool (!b)) a3)) ?_
 refine Y4 (s0) K9 (eM (e6 9 35 rfl rfl)) (hS.get (mR (mR mL))) rfl rfl ?_
 exact qn (.refl _) rfl hS rfl
 intro m0 w8 x0 x1 q8 hS h9 i0 hcq
 have m1 : ev m0 (.tmp 3) = vI a1 := Eq.trans (h9 3 rfl) rfl
 refine Y2 rfl rfl (Eq.trans (eM (i0 5 31 rfl rfl)) (congrArg (fun b => Value.bool (!b)) a3)) (Z4 (vI a1) m1 rfl ?_)
 exact qn (.refl _) rfl hS rfl
 intro x2 x3 x4 x5 q9 hS r0 d1 hcq
 refine Y2 rfl rfl (Eq.trans (eM (d1 5 31 rfl rfl)) (congrArg (fun b => Value.bool (!b)) a3)) ?_
 refine W3 Q2 rfl (eM (d1 10 36 rfl rfl)) h2 (eM (d1 11 37 rfl rfl)) (by omega) (by omega) rfl ?_
 exact qn (.refl _) rfl hS rfl
 intro x6 x7 x8 x9 i1 hS r1 e7 hcq
 have d0 := i1.1 _ _ d0
 refine Y2 rfl rfl (Eq.trans (eM (e7 5 31 rfl rfl)) (congrArg (fun b => Value.bool (!b)) a3)) ?_
 refine Y4 (vI (rd a0.1 a1)) ty2 (eM (e7 12 38 rfl rfl)) (hS.froz _ _ d0) (h3 0 (show 0 < 1 by decide)) rfl ?_
 exact qn (.refl _) rfl hS rfl
 intro y0 y1 y2 y3 r2 hS r3 e8 hcq
 refine Y2 rfl rfl (Eq.trans (eM (e8 5 31 rfl rfl)) (congrArg (fun b => Value.bool (!b)) a3)) ?_
 refine W8 (IntKind.i64.wrap ((rd a0.1 a1) + 1)) (eM (e8 13 39 rfl rfl)) rfl rfl rfl ?_
 exact qn (.refl _) rfl hS rfl
 intro y4 y5 y6 y7 e9 hS r4 b9 hcq
 have a6 := a6.mono e9
 have a8 := a8.mono e9
 refine Y2 rfl rfl (Eq.trans (eM (b9 5 31 rfl rfl)) (congrArg (fun b => Value.bool (!b)) a3)) ?_
 refine Y9 Tryz.call126 (I6 (eM (b9 7 33 rfl rfl)) (eM (b9 8 34 rfl rfl)) (eM (b9 14 40 rfl rfl))) rfl (Yo7 h4 a6 a8 hS) ?_
 rintro y8 y9 ⟨_, z0, rfl, i2, hS, rfl⟩
 refine ⟨_, rfl, ?_⟩
 exact qn i2 rfl hS rfl
 intro z1 z2 z3 z4 r5 hS r6 f0 hcq
 refine Y2 rfl rfl (Eq.trans (eM (f0 5 31 rfl rfl)) (congrArg (fun b => Value.bool (!b)) a3)) (M4 (b := b4) (eM (f0 15 41 rfl rfl)) rfl ?_)
 exact qn (.refl _) rfl hS rfl
 intro z5 z6 z7 z8 r7 hS r8 f1 hcq
 refine V2 (t := false) (Value.bool (!b4)) (Eq.trans (eM (f1 5 31 rfl rfl)) (congrArg (fun b => Value.bool (!b)) a3)) ((if_neg Bool.false_ne_true).trans (eM (f1 16 42 rfl rfl))) rfl ?_
 exact qn (.refl _) rfl hS rfl
 intro m2 m3 g8 d2 hS c0 i3 hcq
 have hS : St g8 m3 ([(b8, cA ([b3]) 47)] ++ ([(b1, cA ([s0] ++ [s1]) 29)] ++ L)) := hS
 have Z2 := Z2.trans d2
 have a7 := a7.mono d2
 have a6 := a6.mono d2
 have g9 : ev m2 (.tmp 43) = Value.bool (!b4) := i3 17 43 (by decide) rfl
 refine Z1 ?_
 by_cases c1 : b4 = true
 rw [if_pos c1] at a5
 refine Z8 (Eq.trans (by exact g9) (congrArg (fun b => Value.bool (!b)) c1)) (Y7 (X2 (Z0 ?_)))
 refine W8 (a1 + 1) (by exact (evT (c0 21 rfl) b5)) rfl (IntWalk.i64_in _ (by omega)) rfl (Z4 (vI (a1 + 1)) rfl rfl (Z1 ?_))
 have hS := St.dropA hS
 exact m7 _ _ ⟨(a1 + 1), g8, a5, Z2, hS, (by omega), a6, a7, (evT (c0 1 rfl) b2), (evT (c0 19 rfl) c4), (evT (c0 20 rfl) c5), rfl⟩
 rw [if_neg c1] at a5
 refine Y0 (Eq.trans (by exact g9) (congrArg (fun b => Value.bool (!b)) (W1 c1))) (Z3 (Z0 (Z5 (Value.bool false) rfl rfl (Z1 ?_))))
 refine X0 (vs := [Value.bool false]) Tryz.func45 ⟨rfl, trivial⟩ ?_
 have hz := Option.some.inj a5
 subst hz
 dsimp only [Ex.elim] at b6
 have hz := Option.some.inj b6
 subst hz
 exact ⟨_, _, rfl, Z2, (St.dropA (St.dropA hS)), rfl⟩
 rw [if_neg a3] at a5
 refine U6 18 (P9 [(26, MP.eq (vP b1)), (27, MP.eq (s0)), (28, MP.eq (vA ([b3]))), (29, MP.eq (Value.bool a9)), (30, MP.eq (Value.bool (!a9))), (31, MP.eq (Value.bool (!a9))), (32, MP.eq (undef)), (33, MP.eq (undef)), (34, MP.eq (undef)), (35, MP.eq (undef)), (36, MP.eq (undef)), (37, MP.eq (undef)), (38, MP.eq (undef)), (39, MP.eq (undef)), (40, MP.eq (undef)), (41, MP.eq (undef)), (42, MP.eq (undef)), (43, MP.eq (Value.bool true))]) [] mixed rfl rfl rfl hS (Z6 rfl ?_ (Z6 rfl ?_ (Z6 rfl ?_ (Z6 rfl ?_ (Z6 rfl ?_ (Z6 rfl ?_ (Z6 rfl ?_ (Z6 rfl ?_ (Z6 rfl ?_ (Z6 rfl ?_ (Z6 rfl ?_ (Z6 rfl ?_ (Z6 rfl ?_ (Z6 rfl ?_ (Z6 rfl ?_ (Z6 rfl ?_ (Z6 rfl ?_ (Z6 rfl ?_ U8)))))))))))))))))) ?_
 intro n2 n3 n4 n5 k5 hS d8 k6 hcq
 have f6 := evT (d8 1 rfl) b2
 refine Y3 R8 f6 rfl ?_
 exact qn (.refl _) rfl hS rfl
 intro f7 n6 n7 n8 k7 hS k8 d9 hcq
 have f8 : ev f7 (.tmp 26) = vP b1 := d9 0 26 rfl rfl
 refine Y4 (s0) K9 f8 (hS.get (mR (mR mL))) rfl rfl ?_
 exact qn (.refl _) rfl hS rfl
 intro f9 n9 o0 o1 k9 hS e0 l0 hcq
 have g0 : ev f9 (.tmp 4) = vP b8 := Eq.trans (e0 4 rfl) rfl
 refine W2 T1 g0 (hS.get (mR mL)) rfl rfl ?_
 exact qn (.refl _) rfl hS rfl
 intro d7 o2 o3 o4 c6 hS l1 c7 hcq
 have a6 := a6.mono c6
 have a8 := a8.mono c6
 have g1 : ev d7 (.tmp 27) = s0 := c7 1 27 rfl rfl
 have g2 : ev d7 (.tmp 28) = vA ([b3]) := c7 2 28 rfl rfl
 refine Y9 Tryz.call125 (U7 g1 g2) rfl (Zx9 f5 a6 a8 hS) ?_
 rintro o5 o6 ⟨_, o8, rfl, e1, hS, rfl⟩
 refine ⟨_, rfl, ?_⟩
 exact qn e1 rfl hS rfl
 intro g3 o9 p0 p1 l2 hS l3 e2 hcq
 have g4 : ev g3 (.tmp 29) = Value.bool a9 := e2 3 29 rfl rfl
 refine M4 (b := a9) g4 rfl ?_
 exact qn (.refl _) rfl hS rfl
 intro g5 p2 p3 p4 l4 hS l5 e3 hcq
 have g6 : ev g5 (.tmp 30) = Value.bool (!a9) := e3 4 30 rfl rfl
 refine Z4 (Value.bool (!a9)) g6 rfl ?_
 exact qn (.refl _) rfl hS rfl
 intro z9 a00 a01 a02 r9 hS s2 i4 hcq
 refine Z9 rfl rfl (Eq.trans (eM (i4 5 31 rfl rfl)) (congrArg (fun b => Value.bool (!b)) (W1 a3))) rfl rfl rfl ?_
 exact qn (.refl _) rfl hS rfl
 intro a03 a04 a05 a06 s3 hS s4 i5 hcq
 refine Z9 rfl rfl (Eq.trans (eM (i5 5 31 rfl rfl)) (congrArg (fun b => Value.bool (!b)) (W1 a3))) rfl rfl rfl ?_
 exact qn (.refl _) rfl hS rfl
 intro a07 a08 a09 a10 s5 hS s6 i6 hcq
 refine Z9 rfl rfl (Eq.trans (eM (i6 5 31 rfl rfl)) (congrArg (fun b => Value.bool (!b)) (W1 a3))) rfl rfl rfl ?_
 exact qn (.refl _) rfl hS rfl
 intro a11 a12 a13 a14 s7 hS s8 i7 hcq
 refine Z9 rfl rfl (Eq.trans (eM (i7 5 31 rfl rfl)) (congrArg (fun b => Value.bool (!b)) (W1 a3))) rfl rfl rfl ?_
 exact qn (.refl _) rfl hS rfl
 intro a15 a16 a17 a18 s9 hS t0 i8 hcq
 refine Z9 rfl rfl (Eq.trans (eM (i8 5 31 rfl rfl)) (congrArg (fun b => Value.bool (!b)) (W1 a3))) rfl rfl rfl ?_
 exact qn (.refl _) rfl hS rfl
 intro a19 a20 a21 a22 t1 hS t4 i9 hcq
 refine Z9 rfl rfl (Eq.trans (eM (i9 5 31 rfl rfl)) (congrArg (fun b => Value.bool (!b)) (W1 a3))) rfl rfl rfl ?_
 exact qn (.refl _) rfl hS rfl
 intro a23 a24 a25 a26 t5 hS t6 j0 hcq
 refine Z9 rfl rfl (Eq.trans (eM (j0 5 31 rfl rfl)) (congrArg (fun b => Value.bool (!b)) (W1 a3))) rfl rfl rfl ?_
 exact qn (.refl _) rfl hS rfl
 intro a27 a28 a29 a30 t7 hS t8 j1 hcq
 refine Z9 rfl rfl (Eq.trans (eM (j1 5 31 rfl rfl)) (congrArg (fun b => Value.bool (!b)) (W1 a3))) rfl rfl rfl ?_
 exact qn (.refl _) rfl hS rfl
 intro a31 a32 a33 a34 t9 hS u0 j2 hcq
 refine Z9 rfl rfl (Eq.trans (eM (j2 5 31 rfl rfl)) (congrArg (fun b => Value.bool (!b)) (W1 a3))) rfl rfl rfl ?_
 exact qn (.refl _) rfl hS rfl
 intro a35 a36 a37 a38 u1 hS u2 j3 hcq
 refine Z9 rfl rfl (Eq.trans (eM (j3 5 31 rfl rfl)) (congrArg (fun b => Value.bool (!b)) (W1 a3))) rfl rfl rfl ?_
 exact qn (.refl _) rfl hS rfl
 intro a39 a40 a41 a42 u3 hS u4 j4 hcq
 refine Z9 rfl rfl (Eq.trans (eM (j4 5 31 rfl rfl)) (congrArg (fun b => Value.bool (!b)) (W1 a3))) rfl rfl rfl ?_
 exact qn (.refl _) rfl hS rfl
 intro a43 a44 a45 a46 u5 hS u6 j5 hcq
 refine V2 (t := true) (Value.bool true) (Eq.trans (eM (j5 5 31 rfl rfl)) (congrArg (fun b => Value.bool (!b)) (W1 a3))) ((if_pos rfl).trans rfl) rfl ?_
 exact qn (.refl _) rfl hS rfl
 intro a47 m4 m5 j6 hS u7 j7 hcq
 have hS : St m5 m4 ([(b8, cA ([b3]) 47)] ++ ([(b1, cA ([s0] ++ [s1]) 29)] ++ L)) := hS
 have Z2 := Z2.trans j6
 refine Z1 (Y0 (by exact (eM (j7 17 43 (by decide) rfl))) (Z3 (Z0 (Z5 (Value.bool false) rfl rfl (Z1 ?_)))))
 refine X0 (vs := [Value.bool false]) Tryz.func45 ⟨rfl, trivial⟩ ?_
 have hz := Option.some.inj a5
 subst hz
 dsimp only [Ex.elim] at b6
 have hz := Option.some.inj b6
 subst hz
 exact ⟨_, _, rfl, Z2, (St.dropA (St.dropA hS)), rfl⟩
 rw [if_neg e5] at a5
 refine Z8 (bF e5 rfl) ?_
 refine W4 rfl ?_
 have hz := Option.some.inj a5
 subst hz
 exact m8 _ _ ⟨k2, rfl, Z2, hS, a6, a7, b2⟩
 exact ⟨0, h1, a5, Z2, hS, (by omega), a6, a7, d6, rfl, rfl, rfl⟩
 rintro a48 a49 ⟨a50, rfl, Z2, hS, a6, a7, c9⟩
 dsimp only [Ex.elim] at b6
 refine Z3 ?_
 obtain ⟨a51, d3, hS, f2⟩ := St.freezeBox hS
 have Z2 := Z2.trans d3
 have a6 := a6.mono d3
 have a7 := a7.mono d3
 refine Z0 (Y3 N8 (by exact c9) rfl ?_)
 refine Y4 (s1) Zf9 rfl (hS.froz _ _ f2) ((Zc9 ([s0] ++ [s1]) 2) 1 (show 1 < 2 by decide)) rfl ?_
 refine Yx8 (by exact c9) rfl ?_
 obtain ⟨c2, j8, b6⟩ := bind_some b6
 refine Y9 Tryz.call127 (U7 rfl rfl) rfl (Zd6 j8 a7 ⟨128, #[vP b1], rfl, Tryz.call128, fun H2 w2 L2 v x b p6 p7 hv p8 => by obtain ⟨_, rfl, ⟨p9, rfl, f3⟩⟩ := hv; exact Yj8 p8 f3 (Zn8.mono p6 ⟨_, _, _, _, _, rfl, f2, ⟨_, _, rfl, ⟨_, rfl, a6⟩, ⟨_, rfl, a7⟩⟩, (Zc9 ([s0] ++ [s1]) 2)⟩) p7⟩ hS) ?_
 rintro a52 a53 ⟨_, a54, rfl, j9, hS, rfl⟩
 refine ⟨_, rfl, ?_⟩
 have Z2 := Z2.trans j9
 refine M4 (b := c2) rfl rfl (Z5 (Value.bool (!c2)) rfl rfl (Z1 ?_))
 refine X0 (vs := [Value.bool (!c2)]) Tryz.func45 ⟨rfl, trivial⟩ ?_
 have hz := Option.some.inj b6
 subst hz
 exact ⟨_, _, rfl, Z2, hS, rfl⟩
 intro k1
 refine Z0 (Y3 R8 rfl rfl ?_)
 refine Y4 (s0) K9 rfl (hS.get mL) rfl rfl ?_
 obtain ⟨c3, k0, q0⟩ := bind_some q0
 refine Y9 Tryz.call124 (R0 rfl) rfl (Yp6 k0 a6 hS) ?_
 rintro a55 a56 ⟨_, h0, rfl, d4, hS, rfl⟩
 refine ⟨_, rfl, ?_⟩
 have Z2 := Z2.trans d4
 have a6 := a6.mono d4
 have a7 := a7.mono d4
 refine M4 (b := c3) rfl rfl (Z4 (Value.bool (!c3)) rfl rfl ?_)
 by_cases a4 : c3 = true
 rw [if_pos a4] at q0
 refine Y2 rfl rfl (Eq.trans rfl (congrArg (fun b => Value.bool (!b)) a4)) (Y3 N8 rfl rfl ?_)
 refine Y2 rfl rfl (Eq.trans rfl (congrArg (fun b => Value.bool (!b)) a4)) ?_
 refine Y4 (s1) Zf9 rfl (hS.get mL) rfl rfl ?_
 have u8 := a7.bound
 refine Y2 rfl rfl (Eq.trans rfl (congrArg (fun b => Value.bool (!b)) a4)) ?_
 refine W7 I1 rfl a7 rfl ?_
 refine Y2 rfl rfl (Eq.trans rfl (congrArg (fun b => Value.bool (!b)) a4)) (Y3 R8 rfl rfl ?_)
 refine Y2 rfl rfl (Eq.trans rfl (congrArg (fun b => Value.bool (!b)) a4)) ?_
 refine Y4 (s0) K9 rfl (hS.get mL) rfl rfl ?_
 have u9 := a6.bound
 refine Y2 rfl rfl (Eq.trans rfl (congrArg (fun b => Value.bool (!b)) a4)) ?_
 refine W7 Q2 rfl a6 rfl ?_
 refine Y2 rfl rfl (Eq.trans rfl (congrArg (fun b => Value.bool (!b)) a4)) ?_
 refine J2 (k := .i64) (a := (a0.2.length : Int)) (b := (a0.1.length : Int)) rfl rfl rfl ?_
 refine V2 (t := false) (Value.bool (!decide ((a0.2.length : Int) = (a0.1.length : Int)))) (Eq.trans rfl (congrArg (fun b => Value.bool (!b)) a4)) ((if_neg Bool.false_ne_true).trans rfl) rfl (Z1 ?_)
 exact k1 _ _ ⟨(!decide ((a0.2.length : Int) = (a0.1.length : Int))), h0, q0, Z2, hS, a6, a7, rfl, rfl⟩
 rw [if_neg a4] at q0
 refine Z9 rfl rfl (Eq.trans rfl (congrArg (fun b => Value.bool (!b)) (W1 a4))) rfl rfl rfl (Z9 rfl rfl (Eq.trans rfl (congrArg (fun b => Value.bool (!b)) (W1 a4))) rfl rfl rfl (Z9 rfl rfl (Eq.trans rfl (congrArg (fun b => Value.bool (!b)) (W1 a4))) rfl rfl rfl (Z9 rfl rfl (Eq.trans rfl (congrArg (fun b => Value.bool (!b)) (W1 a4))) rfl rfl rfl (Z9 rfl rfl (Eq.trans rfl (congrArg (fun b => Value.bool (!b)) (W1 a4))) rfl rfl rfl (Z9 rfl rfl (Eq.trans rfl (congrArg (fun b => Value.bool (!b)) (W1 a4))) rfl rfl rfl (Z9 rfl rfl (Eq.trans rfl (congrArg (fun b => Value.bool (!b)) (W1 a4))) rfl rfl rfl ?_))))))
 refine V2 (t := true) (Value.bool true) (Eq.trans rfl (congrArg (fun b => Value.bool (!b)) (W1 a4))) ((if_pos rfl).trans rfl) rfl (Z1 ?_)
 exact k1 _ _ ⟨true, h0, q0, Z2, hS, a6, a7, rfl, rfl⟩
def K2 (K : Nat) (a2 : (List Int)) : Nat → Int → (List MpT) → Option (Ex MpT ((List MpT)))
 | 0, _, _ => none
 | k + 1, a4, a6 => (if a4 < (a2.length : Int) then (if (rd a2 a4) < 0 then (if a6.length + ([([] : MpT)]).length ≤ 1099511627776 then K2 K a2 k (a4 + 1) (a6 ++ [([] : MpT)]) else none) else ((F6 K (rd a2 a4)).bind fun d4 => (if a6.length + ([(G0 ([] : MpT) d4 1)]).length ≤ 1099511627776 then K2 K a2 k (a4 + 1) (a6 ++ [(G0 ([] : MpT) d4 1)]) else none))) else some (.go a6))
def Zg7 (K : Nat) (a0 : (List Int)) (a1 : MpT) (a2 : (List Int)) (a3 : (List Int)) : Option MpT := ((K2 K a2 K 0 ([] : List MpT)).bind (Ex.elim (fun r => some r) (fun s => (fun (b4 : (List MpT)) => ((M1 K (a0, a3, b4) a1).bind fun e7 => some e7)) s)))
theorem Yo0 {K : Nat} {a0 : (List Int)} {a1 : MpT} {a2 : (List Int)} {a3 : (List Int)} {r : MpT} (q0 : Zg7 K a0 a1 a2 a3 = some r) {H : FH} {w : World} {L : OL} {s0 : Value} {s1 : Value} {s2 : Value} {s3 : Value} (a8 : Y1 (Y6 .i64) H s0 a0) (b0 : Q0 .i64 H s1 a1) (b3 : Y1 (Y6 .i64) H s2 a2) (a9 : Y1 (Y6 .i64) H s3 a3) (hS : St H w L) :
 Calls Tryz.prog 89 #[s0, s1, s2, s3] w (Yp4 .i64 r H L) := by
 have Z2 := Sub.refl H
 refine X3 Tryz.func89 rfl Tryz.ntmps89 rfl ?_
 unfold Zg7 at q0
 refine Z3 (Z0 (Z5 (Value.map none) rfl rfl (Z1 (Z3 (Z0 ?_)))))
 refine Zx2 (τ := (Zk1 .i64)) Yj1 Xf1 rfl hS rfl ?_
 intro u1 w2 C3 h1 hS
 refine Z5 (u1) rfl rfl (Z1 (Z3 (Z3 (Z0 (Z4 (s2) rfl rfl ?_)))))
 have i6 := b3.bound
 refine W7 Zo3 rfl b3 rfl (Z4 (vI 0) rfl rfl (Z1 (Y8 ?_)))
 obtain ⟨e6, a7, d5⟩ := bind_some q0
 refine W5 (id := 0) (fun k f w => ∃ (a4 : Int) (a6 : (List MpT)) (H1 : FH) (b5 : OL) (b2 : Value), K2 K a2 k a4 a6 = some e6 ∧ Sub H H1 ∧ St H1 w (b5 ++ L) ∧ 0 ≤ a4 ∧ V0 (Zk1 .i64) 109 H1 b2 a6 b5 ∧ Y1 (Y6 .i64) H1 s0 a0 ∧ Q0 .i64 H1 s1 a1 ∧ Y1 (Y6 .i64) H1 s2 a2 ∧ Y1 (Y6 .i64) H1 s3 a3 ∧ ev f (.tmp 0) = s0 ∧ ev f (.tmp 1) = s1 ∧ ev f (.tmp 3) = s3 ∧ ev f (.tmp 9) = b2 ∧ ev f (.tmp 14) = s2 ∧ ev f (.tmp 15) = vI (a2.length : Int) ∧ ev f (.tmp 16) = vI a4) (fun f w => ∃ (b4 : (List MpT)) (H1 : FH) (b7 : OL) (b1 : Value), e6 = .go b4 ∧ Sub H H1 ∧ St H1 w (b7 ++ L) ∧ V0 (Zk1 .i64) 109 H1 b1 b4 b7 ∧ Y1 (Y6 .i64) H1 s0 a0 ∧ Q0 .i64 H1 s1 a1 ∧ Y1 (Y6 .i64) H1 s3 a3 ∧ ev f (.tmp 0) = s0 ∧ ev f (.tmp 1) = s1 ∧ ev f (.tmp 3) = s3 ∧ ev f (.tmp 9) = b1) rfl ?_ ?_ K ?_ ?_
 rintro f w ⟨a4, a6, H1, b5, b2, a7, _⟩
 rw [K2] at a7; cases a7
 rintro k i1 i2 e8 h2 ⟨a4, a6, f4, b5, b2, a7, Z2, hS, h0, a5, a8, b0, b3, a9, c2, c3, c4, c5, b9, c0, b6⟩
 rw [K2] at a7
 refine Z3 (Z0 ?_)
 refine V7 (k := .i64) (a := a4) (b := (a2.length : Int)) (by exact b6) (by exact c0) rfl (Z1 (Z3 ?_))
 by_cases e0 : a4 < (a2.length : Int)
 rw [if_pos e0] at a7
 refine Y0 (bT e0 rfl) (Y7 (Z3 (Y8 (Z3 (Z0 ?_)))))
 obtain ⟨b8, o8, i7, E8, _, h3, h4, rfl, h5⟩ := b3.elem (i := a4) (by omega) (by omega)
 refine W3 Zo3 rfl (by exact b9) h3 (by exact b6) (by omega) (by omega) rfl ?_
 refine Y4 (vI (rd a2 a4)) ty3 rfl (hS.froz _ _ h4) (h5 0 (show 0 < 1 by decide)) rfl (Z5 (vI (rd a2 a4)) rfl rfl (Z1 (Z3 (Z0 (Z4 (vI (rd a2 a4)) rfl rfl ?_)))))
 refine V7 (k := .i64) (a := (rd a2 a4)) (b := 0) rfl rfl rfl (Z1 ?_)
 by_cases e1 : (rd a2 a4) < 0
 rw [if_pos e1] at a7
 refine Y0 (bT e1 rfl) (Z0 (Z4 (b2) (by exact c5) rfl ?_))
 refine Zj4 (k := .i64) hS rfl ?_
 intro h6 i8 i9 f5 hS
 obtain ⟨j0, c6, hS, f6⟩ := f5.freeze hS
 have Z2 := Z2.trans c6
 have a8 := a8.mono c6
 have b0 := b0.mono c6
 have a9 := a9.mono c6
 have b3 := b3.mono c6
 have a5 := a5.mono c6
 refine Zd8 (τ := (Zk1 .i64)) Yj1 Xf1 rfl [h6] [([] : MpT)] rfl rfl (Za3 rfl) (Zn7 f6.relv) (by decide) (by decide) hS rfl ?_
 intro j1 h7 j2 c7 hS f7
 have Z2 := Z2.trans c7
 have a8 := a8.mono c7
 have b0 := b0.mono c7
 have a9 := a9.mono c7
 have b3 := b3.mono c7
 have a5 := a5.mono c7
 obtain ⟨f8, a7⟩ := gd a7
 refine F4 (τ := (Zk1 .i64)) Xy2 rfl rfl rfl a5 hS f7 f8 rfl ?_
 intro e9 j3 h8 f9 hS
 refine Z5 (e9) rfl rfl (Z1 (X2 (Z0 ?_)))
 refine W8 (a4 + 1) (by exact b6) rfl (IntWalk.i64_in _ (by omega)) rfl (Z4 (vI (a4 + 1)) rfl rfl (Z1 ?_))
 exact e8 _ _ ⟨(a4 + 1), (a6 ++ [([] : MpT)]), h7, h8, e9, a7, Z2, hS, (by omega), f9, a8, b0, b3, a9, c2, c3, c4, rfl, b9, c0, rfl⟩
 rw [if_neg e1] at a7
 refine Z8 (bF e1 rfl) (Z0 (Z4 (b2) (by exact c5) rfl ?_))
 refine Zj4 (k := .i64) hS rfl ?_
 intro f0 j4 j5 d8 hS
 refine Z4 (vI (rd a2 a4)) rfl rfl ?_
 obtain ⟨d4, g0, a7⟩ := bind_some a7
 refine Y9 Tryz.call151 (R0 rfl) rfl (Ze0 g0  hS) ?_
 rintro j6 j7 ⟨j8, j9, rfl, c1, hS, ⟨_, rfl, rfl⟩⟩
 refine ⟨_, rfl, ?_⟩
 have Z2 := Z2.trans c1
 have a8 := a8.mono c1
 have b0 := b0.mono c1
 have a9 := a9.mono c1
 have b3 := b3.mono c1
 have a5 := a5.mono c1
 have d8 := d8.mono c1
 refine Yb2 (a := d4) (m := 1) Zh5 rfl rfl rfl d8 hS ?_
 intro k0 k1 g1 hS
 refine Z4 (f0) rfl rfl ?_
 obtain ⟨k2, c8, hS, g2⟩ := g1.freeze hS
 have Z2 := Z2.trans c8
 have a8 := a8.mono c8
 have b0 := b0.mono c8
 have a9 := a9.mono c8
 have b3 := b3.mono c8
 have a5 := a5.mono c8
 refine Zd8 (τ := (Zk1 .i64)) Yj1 Xf1 rfl [f0] [(G0 ([] : MpT) d4 1)] rfl rfl (Za3 rfl) (Zn7 g2.relv) (by decide) (by decide) hS rfl ?_
 intro k3 h9 k4 c9 hS g3
 have Z2 := Z2.trans c9
 have a8 := a8.mono c9
 have b0 := b0.mono c9
 have a9 := a9.mono c9
 have b3 := b3.mono c9
 have a5 := a5.mono c9
 obtain ⟨g4, a7⟩ := gd a7
 refine F4 (τ := (Zk1 .i64)) Xy2 rfl rfl rfl a5 hS g3 g4 rfl ?_
 intro f1 k5 i0 g5 hS
 refine Z5 (f1) rfl rfl (Z1 (X2 (Z0 ?_)))
 refine W8 (a4 + 1) (by exact b6) rfl (IntWalk.i64_in _ (by omega)) rfl (Z4 (vI (a4 + 1)) rfl rfl (Z1 ?_))
 exact e8 _ _ ⟨(a4 + 1), (a6 ++ [(G0 ([] : MpT) d4 1)]), h9, i0, f1, a7, Z2, hS, (by omega), g5, a8, b0, b3, a9, c2, c3, c4, rfl, b9, c0, rfl⟩
 rw [if_neg e0] at a7
 refine Z8 (bF e0 rfl) ?_
 refine W4 rfl ?_
 have hz := Option.some.inj a7
 subst hz
 exact h2 _ _ ⟨a6, f4, b5, b2, rfl, Z2, hS, a5, a8, b0, a9, c2, c3, c4, c5⟩
 exact ⟨0, ([] : List MpT), H, C3, u1, a7, Z2, hS, (by omega), h1, a8, b0, b3, a9, rfl, rfl, rfl, rfl, rfl, rfl, rfl⟩
 rintro i3 i4 ⟨b4, i5, b7, b1, rfl, Z2, hS, d1, a8, b0, a9, e2, e3, e4, e5⟩
 dsimp only [Ex.elim] at d5
 refine Z3 (Z0 (Z4 (s0) (by exact e2) rfl (Z4 (s3) (by exact e4) rfl (Z4 (b1) (by exact e5) rfl ?_))))
 refine Yf2 hS rfl ?_
 intro d6 k6 hS
 refine Zt9 ([s0] ++ ([s3] ++ ([b1] ++ [(Value.map (some d6))]))) Wm8 (Wf2 rfl rfl rfl rfl) (K5 rfl a8.cellsL rfl (Nat.le_of_ble_eq_true rfl) (K5 rfl a9.cellsL rfl (Nat.le_of_ble_eq_true rfl) (K5 rfl d1.cellsL rfl (Nat.le_of_ble_eq_true rfl) (K5 rfl rfl rfl (Nat.le_of_ble_eq_true rfl) (Zp6 rfl))))) rfl ?_
 refine S4 (v := vA ([s0] ++ ([s3] ++ ([b1] ++ [(Value.map (some d6))])))) ([s0] ++ ([s3] ++ ([b1] ++ [(Value.map (some d6))]))).toArray rfl rfl hS rfl ?_
 intro f2 k7 hS
 refine Z5 (vP f2) rfl rfl (Z1 (Z3 (Z0 (Z4 (vP f2) rfl rfl (Z4 (s1) (by exact e3) rfl ?_)))))
 have hS := hS.perm Zb7
 obtain ⟨k8, d7, hS, d2⟩ := d1.freeze hS
 have Z2 := Z2.trans d7
 have b0 := b0.mono d7
 have a8 := a8.mono d7
 have a9 := a9.mono d7
 have hS := hS.perm U1
 obtain ⟨k9, d3, hS, d9⟩ := St.toMemo hS K (a0, a3, b4)
 have Z2 := Z2.trans d3
 have b0 := b0.mono d3
 have a8 := a8.mono d3
 have a9 := a9.mono d3
 have d2 := d2.mono d3
 obtain ⟨l0, d0, hS, g6⟩ := St.freezeBox hS
 have Z2 := Z2.trans d0
 have b0 := b0.mono d0
 have a8 := a8.mono d0
 have a9 := a9.mono d0
 have d2 := d2.mono d0
 have d9 := d9.mono d0
 obtain ⟨e7, g7, d5⟩ := bind_some d5
 refine Y9 Tryz.call117 (U7 rfl rfl) rfl (Zy3 g7 ⟨_, _, _, _, _, rfl, g6, ⟨_, _, _, _, rfl, a8, a9, d2, d9⟩, (Zc9 ([s0] ++ ([s3] ++ ([b1] ++ [(Value.map (some d6))]))) 4)⟩ b0 hS) ?_
 rintro l1 l2 ⟨f3, l3, l4, rfl, g8, hS, g9⟩
 refine ⟨_, rfl, ?_⟩
 have Z2 := Z2.trans g8
 refine Z5 (f3) rfl rfl (Z1 ?_)
 refine X0 (vs := [f3]) Tryz.func89 ⟨rfl, trivial⟩ ?_
 have hz := Option.some.inj d5
 subst hz
 exact ⟨_, _, _, rfl, Z2, hS, g9⟩
def Zh9 (K : Nat) (a0 : ((List Int) × (List MpT))) : Option (((List Int) × (List MpT)) × (List MpT) × Int) := ((Zv4 K (a0.1, a0.2)).bind fun r7 => (if r7 = true then ((Zq7 K (a0.1, a0.2)).bind fun a1 => (if a1.2.2 = true then ((Zj2 K (a0.1, a0.2) a1.1 a1.2.1).bind fun a7 => some ((a7.1.1, a7.1.2), a7.2.1, a7.2.2)) else some ((([] : List Int), ([] : List MpT)), ([] : List MpT), 4))) else some ((([] : List Int), ([] : List MpT)), ([] : List MpT), 1)))
theorem Yk5 {K : Nat} {a0 : ((List Int) × (List MpT))} {r : (((List Int) × (List MpT)) × (List MpT) × Int)} (q0 : Zh9 K a0 = some r) {H : FH} {w : World} {L : OL} {s0 : Value} {s1 : Value} (a3 : Y1 (Y6 .i64) H s0 a0.1) (a4 : Y1 (X6 yT) H s1 a0.2) (hM : ∀ b, H.memo b = none) (hS : St H w L) :
 Calls Tryz.prog 70 #[vA ([s0] ++ [s1])] w (T2 (fun v G => (R.t3 (R.agg (Zs6 (X6 (Y6 .i64)) (X6 (X6 yT)))) (R.sl (X6 yT)) (R.int .i64)).p G v r) H L) := by
 have Z2 := Sub.refl H
 refine X3 Tryz.func70 rfl Tryz.ntmps70 rfl ?_
 unfold Zh9 at q0
 refine Z3 (Z0 ?_)
 refine S4 (v := vA ([s0] ++ [s1])) ([s0] ++ [s1]).toArray rfl rfl hS rfl ?_
 intro b1 w2 hS
 refine V1 (z := vA ([vN] ++ [vN])) ([vN] ++ [vN]).toArray Zz0.zero rfl hS rfl ?_
 intro b4 w5 hS
 refine Z5 (vN) rfl rfl (Z5 (vI 0) rfl rfl (Z1 (Z3 (Z3 (Z0 ?_)))))
 refine W2 Q9 rfl (hS.get (mR mL)) rfl rfl ?_
 obtain ⟨r7, c2, q0⟩ := bind_some q0
 refine Y9 Tryz.call92 (R0 rfl) rfl (Xc5 c2 a3 a4 hS) ?_
 rintro e7 w8 ⟨_, H7, rfl, b7, hS, rfl⟩
 refine ⟨_, rfl, ?_⟩
 have Z2 := Z2.trans b7
 have a3 := a3.mono b7
 have a4 := a4.mono b7
 refine M4 (b := r7) rfl rfl (Z1 ?_)
 by_cases b5 : r7 = true
 rw [if_pos b5] at q0
 refine Z8 (Eq.trans rfl (congrArg (fun b => Value.bool (!b)) b5)) (Y7 (Z3 (Z0 ?_)))
 refine W2 Q9 rfl (hS.get (mR mL)) rfl rfl ?_
 obtain ⟨a1, b9, q0⟩ := bind_some q0
 refine Y9 Tryz.call157 (R0 rfl) rfl (Yx1 b9 a3 a4 hS) ?_
 rintro c8 c9 ⟨_, b6, rfl, b3, hS, ⟨c3, c4, c5, rfl, rfl, rfl, rfl⟩⟩
 refine ⟨_, rfl, ?_⟩
 have Z2 := Z2.trans b3
 have a3 := a3.mono b3
 have a4 := a4.mono b3
 refine Z4 (Value.tuple #[vI a1.1, vI a1.2.1, Value.bool a1.2.2]) rfl rfl (W9 (vI a1.1) rfl rfl rfl (W9 (vI a1.2.1) rfl rfl rfl (W9 (Value.bool a1.2.2) rfl rfl rfl (Z5 (vI a1.1) rfl rfl (Z5 (vI a1.2.1) rfl rfl (Z5 (Value.bool a1.2.2) rfl rfl (Z1 (Z3 (Z3 (Z0 (Z4 (Value.bool a1.2.2) rfl rfl (M4 (b := a1.2.2) rfl rfl (Z1 ?_)))))))))))))
 by_cases b0 : a1.2.2 = true
 rw [if_pos b0] at q0
 refine Z8 (Eq.trans rfl (congrArg (fun b => Value.bool (!b)) b0)) (Y7 (Z3 (Z0 ?_)))
 refine W2 Q9 rfl (hS.get (mR mL)) rfl rfl (Z4 (vI a1.1) rfl rfl (Z4 (vI a1.2.1) rfl rfl ?_))
 obtain ⟨a7, c0, q0⟩ := bind_some q0
 have hS := hS.noM
 have Z2 := Sub.nomT hM Z2
 have a3 : Y1 (Y6 .i64) b6.noM s0 a0.1 := a3
 have a4 : Y1 (X6 yT) b6.noM s1 a0.2 := a4
 have a3 : Y1 (Y6 .i64) b6.noM s0 a0.1 := a3
 have a4 : Y1 (X6 yT) b6.noM s1 a0.2 := a4
 refine Y9 Tryz.call158 (I6 rfl rfl rfl) rfl (Yl6 c0 a3 a4 (fun _ => rfl) hS) ?_
 rintro d0 d1 ⟨_, d2, rfl, c1, hS, ⟨c6, b2, c7, rfl, ⟨_, rfl, ⟨_, _, rfl, ⟨a5, rfl, a8⟩, ⟨a6, rfl, a9⟩⟩⟩, b8, rfl⟩⟩
 refine ⟨_, rfl, ?_⟩
 have Z2 := Z2.trans c1
 refine W9 (vA ([a5] ++ [a6])) rfl rfl rfl (W9 (b2) rfl rfl rfl (W9 (vI a7.2.2) rfl rfl rfl ?_))
 refine W0 (v := vA ([a5] ++ [a6])) (vs := ([a5] ++ [a6]).toArray) (cs := ([vN] ++ [vN]).toArray) Q9 rfl rfl rfl hS rfl (L9 (T8 a8.isOne) (T8 a9.isOne)) rfl ?_
 intro d3 hS
 refine Z5 (b2) rfl rfl (Z5 (vI a7.2.2) rfl rfl (Z1 ?_))
 refine X0 (vs := [vA ([a5] ++ [a6]), b2, vI a7.2.2]) Tryz.func70 ⟨⟨_, rfl, U5 Q9 (hS.get mL) rfl⟩, rfl, rfl, trivial⟩ ?_
 have hz := Option.some.inj q0
 subst hz
 exact ⟨_, _, rfl, Z2, (St.dropA (St.dropA hS)), ⟨_, _, _, rfl, ⟨_, rfl, ⟨_, _, rfl, ⟨_, rfl, a8⟩, ⟨_, rfl, a9⟩⟩⟩, b8, rfl⟩⟩
 rw [if_neg b0] at q0
 refine Y0 (Eq.trans rfl (congrArg (fun b => Value.bool (!b)) (W1 b0))) (Z3 (Z0 ?_))
 refine Q1 (vA ([vN] ++ [vN])) Yo6 rfl ?_
 refine W0 (v := vA ([vN] ++ [vN])) (vs := ([vN] ++ [vN]).toArray) (cs := ([vN] ++ [vN]).toArray) Q9 rfl rfl rfl hS rfl (L9 (T8 rfl) (T8 rfl)) rfl ?_
 intro d4 hS
 refine Z5 (vN) rfl rfl (Z5 (vI 4) rfl rfl (Z1 ?_))
 refine X0 (vs := [vA ([vN] ++ [vN]), vN, vI 4]) Tryz.func70 ⟨⟨_, rfl, U5 Q9 (hS.get mL) rfl⟩, rfl, rfl, trivial⟩ ?_
 have hz := Option.some.inj q0
 subst hz
 exact ⟨_, _, rfl, Z2, (St.dropA (St.dropA hS)), ⟨_, _, _, rfl, ⟨_, rfl, ⟨_, _, rfl, ⟨_, rfl, Y1.nil⟩, ⟨_, rfl, Y1.nil⟩⟩⟩, Y1.nil, rfl⟩⟩
 rw [if_neg b5] at q0
 refine Y0 (Eq.trans rfl (congrArg (fun b => Value.bool (!b)) (W1 b5))) (Z3 (Z0 ?_))
 refine Q1 (vA ([vN] ++ [vN])) Yo6 rfl ?_
 refine W0 (v := vA ([vN] ++ [vN])) (vs := ([vN] ++ [vN]).toArray) (cs := ([vN] ++ [vN]).toArray) Q9 rfl rfl rfl hS rfl (L9 (T8 rfl) (T8 rfl)) rfl ?_
 intro d5 hS
 refine Z5 (vN) rfl rfl (Z5 (vI 1) rfl rfl (Z1 ?_))
 refine X0 (vs := [vA ([vN] ++ [vN]), vN, vI 1]) Tryz.func70 ⟨⟨_, rfl, U5 Q9 (hS.get mL) rfl⟩, rfl, rfl, trivial⟩ ?_
 have hz := Option.some.inj q0
 subst hz
 exact ⟨_, _, rfl, Z2, (St.dropA (St.dropA hS)), ⟨_, _, _, rfl, ⟨_, rfl, ⟨_, _, rfl, ⟨_, rfl, Y1.nil⟩, ⟨_, rfl, Y1.nil⟩⟩⟩, Y1.nil, rfl⟩⟩
def Zb2 (K : Nat) (a0 : (List Int)) (a1 : MpT) (a2 : (List MpT)) : Option MpT := ((M1 K (a0, a0, a2) a1).bind fun b0 => some b0)
theorem Ya5 {K : Nat} {a0 : (List Int)} {a1 : MpT} {a2 : (List MpT)} {r : MpT} (q0 : Zb2 K a0 a1 a2 = some r) {H : FH} {w : World} {L : OL} {s0 : Value} {s1 : Value} {s2 : Value} (a3 : Y1 (Y6 .i64) H s0 a0) (a6 : Q0 .i64 H s1 a1) (a5 : Y1 (Zk1 .i64) H s2 a2) (hS : St H w L) :
 Calls Tryz.prog 238 #[s0, s1, s2] w (Yp4 .i64 r H L) := by
 have Z2 := Sub.refl H
 refine X3 Tryz.func238 rfl Tryz.ntmps238 rfl ?_
 unfold Zb2 at q0
 refine Z3 (Z0 (Z5 (Value.map none) rfl rfl (Z1 (Z3 (Z0 (Z4 (s0) rfl rfl (Z4 (s0) rfl rfl (Z4 (s2) rfl rfl ?_))))))))
 refine Yf2 hS rfl ?_
 intro a7 w2 hS
 refine Zt9 ([s0] ++ ([s0] ++ ([s2] ++ [(Value.map (some a7))]))) Wm8 (Wf2 rfl rfl rfl rfl) (K5 rfl a3.cellsL rfl (Nat.le_of_ble_eq_true rfl) (K5 rfl a3.cellsL rfl (Nat.le_of_ble_eq_true rfl) (K5 rfl a5.cellsL rfl (Nat.le_of_ble_eq_true rfl) (K5 rfl rfl rfl (Nat.le_of_ble_eq_true rfl) (Zp6 rfl))))) rfl ?_
 refine S4 (v := vA ([s0] ++ ([s0] ++ ([s2] ++ [(Value.map (some a7))])))) ([s0] ++ ([s0] ++ ([s2] ++ [(Value.map (some a7))]))).toArray rfl rfl hS rfl ?_
 intro b4 w5 hS
 refine Z5 (vP b4) rfl rfl (Z1 (Z3 (Z0 (Z4 (vP b4) rfl rfl (Z4 (s1) rfl rfl ?_)))))
 have hS := hS.perm U1
 obtain ⟨H7, a8, hS, a9⟩ := St.toMemo hS K (a0, a0, a2)
 have Z2 := Z2.trans a8
 have a6 := a6.mono a8
 have a3 := a3.mono a8
 have a5 := a5.mono a8
 obtain ⟨b7, a4, hS, b2⟩ := St.freezeBox hS
 have Z2 := Z2.trans a4
 have a6 := a6.mono a4
 have a3 := a3.mono a4
 have a5 := a5.mono a4
 have a9 := a9.mono a4
 obtain ⟨b0, b3, q0⟩ := bind_some q0
 refine Y9 Tryz.call117 (U7 rfl rfl) rfl (Zy3 b3 ⟨_, _, _, _, _, rfl, b2, ⟨_, _, _, _, rfl, a3, a3, a5, a9⟩, (Zc9 ([s0] ++ ([s0] ++ ([s2] ++ [(Value.map (some a7))]))) 4)⟩ a6 hS) ?_
 rintro b8 b9 ⟨b1, c0, c1, rfl, b5, hS, b6⟩
 refine ⟨_, rfl, ?_⟩
 have Z2 := Z2.trans b5
 refine Z5 (b1) rfl rfl (Z1 ?_)
 refine X0 (vs := [b1]) Tryz.func238 ⟨rfl, trivial⟩ ?_
 have hz := Option.some.inj q0
 subst hz
 exact ⟨_, _, _, rfl, Z2, hS, b6⟩
end Go.Proofs.YtfodlhkoafhplaaGreat
