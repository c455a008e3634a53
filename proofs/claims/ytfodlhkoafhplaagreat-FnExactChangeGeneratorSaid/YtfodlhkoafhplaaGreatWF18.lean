/- Walks of functions: each computes its pure function, if that gives a value. -/
import Derived.Test.YtfodlhkoafhplaaGreatWTy
import Derived.Test.YtfodlhkoafhplaaGreatWF9
import Derived.Test.YtfodlhkoafhplaaGreatWF10
import Derived.Test.YtfodlhkoafhplaaGreatWF8
import Derived.Test.YtfodlhkoafhplaaGreatWF17
namespace Go.Proofs.YtfodlhkoafhplaaGreat
open Go
set_option linter.unusedSimpArgs false
set_option linter.unusedVariables false
set_option maxRecDepth 100000
set_option maxHeartbeats 8000000
def M0 (K : Nat) (a0 : ((List Int) × (List MpT))) : Nat → Int → Option (Ex Bool (Unit))
 | 0, _ => none
 | k + 1, a1 => (if a1 < (a0.2.length : Int) then ((Zl6 K a0.1 (rd a0.2 a1)).bind fun a9 => (if a9 = true then (if a1 < (a0.1.length : Int) then ((Zb4 K a0.1 (rd a0.2 a1) (IntKind.i64.wrap ((rd a0.1 a1) + 1))).bind fun b4 => (if b4 = true then M0 K a0 k (a1 + 1) else some (.ret false))) else none) else some (.ret false))) else some (.go ()))
def Zf8 (K : Nat) (a0 : ((List Int) × (List MpT))) (b0 : Bool) : Option Bool := (if b0 = true then some false else ((M0 K a0 K 0).bind (Ex.elim (fun r => some r) (fun s => ((S1 K a0.2 (fun x => Zf4 K x (a0.1, a0.2))).bind fun c2 => some (!c2))))))
def Zk8 (K : Nat) (a0 : ((List Int) × (List MpT))) : Option Bool := ((Zi1 K a0.1).bind fun c3 => (if c3 = true then Zf8 K a0 (!decide ((a0.2.length : Int) = (a0.1.length : Int))) else Zf8 K a0 true))
theorem Yl2 {K : Nat} {a0 : ((List Int) × (List MpT))} {r : Bool} (q0 : Zk8 K a0 = some r) {H : FH} {w : World} {L : OL} {s0 : Value} {s1 : Value} (a6 : Y3 (X3 .i64) H s0 a0.1) (a7 : Y3 (X6 yT) H s1 a0.2) (hS : St H w L) :
 Calls Tryz.prog 45 #[vA ([s0] ++ [s1])] w (T6 (fun v G => R.bool.p G v r) H L) := by
 have Z2 := Sub.refl H
 refine X0 Tryz.func45 rfl Tryz.ntmps45 rfl ?_
 unfold Zk8 at q0
 refine Z3 (Z1 ?_)
 refine T7 (v := vA ([s0] ++ [s1])) ([s0] ++ [s1]).toArray rfl rfl hS rfl ?_
 intro b1 w2 hS
 refine Z6 (Value.bool false) rfl rfl (Z0 (Z3 (Z3 ?_)))
 refine E9 (fun f w => ∃ (b0 : Bool) (H1 : FH), Zf8 K a0 b0 = some r ∧ Sub H H1 ∧ St H1 w ([(b1, cA ([s0] ++ [s1]) 29)] ++ L) ∧ Y3 (X3 .i64) H1 s0 a0.1 ∧ Y3 (X6 yT) H1 s1 a0.2 ∧ ev f (.tmp 1) = vP b1 ∧ ev f (.tmp 17) = Value.bool b0) ?_ ?_
 rintro fj1 q1 ⟨b0, h1, d5, Z2, hS, a6, a7, d6, c8⟩
 unfold Zf8 at d5
 by_cases e4 : b0 = true
 rw [if_pos e4] at d5
 refine Y0 (Eq.trans (by exact c8) (congrArg Value.bool e4)) (Z3 (Z1 (Z6 (Value.bool false) rfl rfl (Z0 ?_))))
 refine Y9 (vs := [Value.bool false]) Tryz.func45 ⟨rfl, trivial⟩ ?_
 have hz := Option.some.inj d5
 subst hz
 exact ⟨_, _, rfl, Z2, (St.dropA hS), rfl⟩
 rw [if_neg e4] at d5
 refine Z9 (Eq.trans (by exact c8) (congrArg Value.bool (W2 e4))) (Y6 (Z3 (Z3 (Z1 (Y2 N5 (by exact d6) rfl ?_)))))
 refine Y4 (s1) Zd8 rfl (hS.get mL) rfl rfl ?_
 have bl5 := a7.bound
 refine W6 J2 rfl a7 rfl (Z4 (vI 0) rfl rfl (Z0 (Y7 ?_)))
 obtain ⟨f4, a5, b6⟩ := bind_some d5
 refine W7 (id := 0) (fun k f w => ∃ (a1 : Int) (H1 : FH), M0 K a0 k a1 = some f4 ∧ Sub H H1 ∧ St H1 w ([(b1, cA ([s0] ++ [s1]) 29)] ++ L) ∧ 0 ≤ a1 ∧ Y3 (X3 .i64) H1 s0 a0.1 ∧ Y3 (X6 yT) H1 s1 a0.2 ∧ ev f (.tmp 1) = vP b1 ∧ ev f (.tmp 19) = s1 ∧ ev f (.tmp 20) = vI (a0.2.length : Int) ∧ ev f (.tmp 21) = vI a1) (fun f w => ∃ (H1 : FH), f4 = .go () ∧ Sub H H1 ∧ St H1 w ([(b1, cA ([s0] ++ [s1]) 29)] ++ L) ∧ Y3 (X3 .i64) H1 s0 a0.1 ∧ Y3 (X6 yT) H1 s1 a0.2 ∧ ev f (.tmp 1) = vP b1) rfl ?_ ?_ K ?_ ?_
 rintro f w ⟨a1, H1, a5, _⟩
 rw [M0] at a5; cases a5
 rintro k v0 v1 m7 m8 ⟨a1, k2, a5, Z2, hS, m6, a6, a7, b2, c4, c5, b5⟩
 rw [M0] at a5
 refine Z3 (Z1 ?_)
 refine U5 (k := .i64) (a := a1) (b := (a0.2.length : Int)) (by exact b5) (by exact c5) rfl (Z0 (Z3 ?_))
 by_cases e5 : a1 < (a0.2.length : Int)
 rw [if_pos e5] at a5
 refine Y0 (bT e5 rfl) (Y6 (Z3 (Y7 (Z3 (Z1 (Z4 (vI a1) (by exact b5) rfl ?_))))))
 obtain ⟨b7, o7, cs7, E7, _, m9, n0, ⟨b3, rfl, a8⟩, n1⟩ := a7.elem (i := a1) (by omega) (by omega)
 refine W3 J2 rfl (by exact c4) m9 (by exact b5) (by omega) (by omega) rfl ?_
 refine V5 ([b3]) U7 rfl (hS.froz _ _ n0) rfl n1 rfl ?_
 refine W9 (z := vA ([vN])) ([vN]).toArray Zb2.zero rfl hS rfl ?_
 intro b8 w9 hS
 refine Z6 (vI a1) rfl rfl ?_
 refine W1 (v := vA ([b3])) (vs := ([b3]).toArray) (cs := ([vN]).toArray) U7 rfl rfl rfl hS rfl (S2 a8.isOne) rfl ?_
 intro w11 hS
 refine Z0 (Z3 ?_)
 obtain ⟨a9, f5, a5⟩ := bind_some a5
 by_cases a3 : a9 = true
 rw [if_pos a3] at a5
 obtain ⟨q2, a5⟩ := gd a5
 obtain ⟨k3, k4, q3, v2, _, h2, d0, rfl, h3⟩ := a6.elem (i := a1) (by omega) (by omega)
 obtain ⟨b4, h4, a5⟩ := bind_some a5
 refine V4 18 (R9 [(26, MP.eq (vP b1)), (27, MP.eq (s0)), (28, MP.eq (vA ([b3]))), (29, MP.eq (Value.bool a9)), (30, MP.eq (Value.bool (!a9))), (31, MP.eq (Value.bool (!a9))), (32, MP.eq (vP b1)), (33, MP.eq (s0)), (34, MP.eq (vA ([b3]))), (35, MP.eq (vP b1)), (36, MP.eq (s0)), (37, MP.eq (vI a1)), (38, MP.eq (Value.pointer (some ⟨k3, k4, none⟩))), (39, MP.eq (vI (rd a0.1 a1))), (40, MP.eq (vI (IntKind.i64.wrap ((rd a0.1 a1) + 1)))), (41, MP.eq (Value.bool b4)), (42, MP.eq (Value.bool (!b4))), (43, MP.eq (Value.bool (!b4)))]) [] mixed rfl rfl rfl hS (Z5 rfl ?_ (Z5 rfl ?_ (Z5 rfl ?_ (Z5 rfl ?_ (Z5 rfl ?_ (Z5 rfl ?_ (Z5 rfl ?_ (Z5 rfl ?_ (Z5 rfl ?_ (Z5 rfl ?_ (Z5 rfl ?_ (Z5 rfl ?_ (Z5 rfl ?_ (Z5 rfl ?_ (Z5 rfl ?_ (Z5 rfl ?_ (Z5 rfl ?_ (Z5 rfl ?_ V9)))))))))))))))))) ?_
 intro n2 n3 n4 n5 k5 hS d8 k6 hcq
 have f6 := evT (d8 1 rfl) b2
 refine Y2 R4 f6 rfl ?_
 exact qn (.refl _) rfl hS rfl
 intro f7 n6 n7 n8 k7 hS k8 d9 hcq
 have f8 : ev f7 (.tmp 26) = vP b1 := d9 0 26 rfl rfl
 refine Y4 (s0) J3 f8 (hS.get (mR (mR mL))) rfl rfl ?_
 exact qn (.refl _) rfl hS rfl
 intro f9 n9 o0 o1 k9 hS e0 l0 hcq
 have g0 : ev f9 (.tmp 4) = vP b8 := Eq.trans (e0 4 rfl) rfl
 refine X8 U7 g0 (hS.get (mR mL)) rfl rfl ?_
 exact qn (.refl _) rfl hS rfl
 intro d7 o2 o3 o4 c6 hS l1 c7 hcq
 have a6 := a6.mono c6
 have a8 := a8.mono c6
 have g1 : ev d7 (.tmp 27) = s0 := c7 1 27 rfl rfl
 have g2 : ev d7 (.tmp 28) = vA ([b3]) := c7 2 28 rfl rfl
 refine Y8 Tryz.call125 (T0 g1 g2) rfl (Zv1 f5 a6 a8 hS) ?_
 rintro o5 o6 ⟨_, o8, rfl, e1, hS, rfl⟩
 refine ⟨_, rfl, ?_⟩
 exact qn e1 rfl hS rfl
 intro g3 o9 p0 p1 l2 hS l3 e2 hcq
 have g4 : ev g3 (.tmp 29) = Value.bool a9 := e2 3 29 rfl rfl
 refine N7 (b := a9) g4 rfl ?_
 exact qn (.refl _) rfl hS rfl
 intro g5 p2 p3 p4 l4 hS l5 e3 hcq
 have g6 : ev g5 (.tmp 30) = Value.bool (!a9) := e3 4 30 rfl rfl
 refine Z4 (Value.bool (!a9)) g6 rfl ?_
 exact qn (.refl _) rfl hS rfl
 intro f79 w80 H81 X82 v3 hS l6 l7 hcq
 refine Y1 rfl rfl (Eq.trans (eM (l7 5 31 rfl rfl)) (congrArg (fun b => Value.bool (!b)) a3)) (Y2 R4 (evT (l6 1 rfl) b2) rfl ?_)
 exact qn (.refl _) rfl hS rfl
 intro f89 w90 H91 X92 v4 hS v5 g7 hcq
 refine Y1 rfl rfl (Eq.trans (eM (g7 5 31 rfl rfl)) (congrArg (fun b => Value.bool (!b)) a3)) ?_
 refine Y4 (s0) J3 (eM (g7 6 32 rfl rfl)) (hS.get (mR (mR mL))) rfl rfl ?_
 exact qn (.refl _) rfl hS rfl
 intro p5 v6 v7 v8 q4 hS h5 h6 hcq
 have l9 : ev p5 (.tmp 4) = vP b8 := Eq.trans (h5 4 rfl) rfl
 refine Y1 rfl rfl (Eq.trans (eM (h6 5 31 rfl rfl)) (congrArg (fun b => Value.bool (!b)) a3)) ?_
 refine X8 U7 l9 (hS.get (mR mL)) rfl rfl ?_
 exact qn (.refl _) rfl hS rfl
 intro v9 w0 w1 w3 q5 hS h7 h8 hcq
 refine Y1 rfl rfl (Eq.trans (eM (h8 5 31 rfl rfl)) (congrArg (fun b => Value.bool (!b)) a3)) (Y2 R4 (evT (h7 1 rfl) b2) rfl ?_)
 exact qn (.refl _) rfl hS rfl
 intro w4 w5 w6 w7 q6 hS q7 e6 hcq
 refine Y1 rfl rfl (Eq.trans (eM (e6 5 31 rfl rfl)) (congrArg (fun b => Value.bool (!b)) a3)) ?_
 refine Y4 (s0) J3 (eM (e6 9 35 rfl rfl)) (hS.get (mR (mR mL))) rfl rfl ?_
 exact qn (.refl _) rfl hS rfl
 intro m0 w8 x0 x1 q8 hS h9 i0 hcq
 have m1 : ev m0 (.tmp 3) = vI a1 := Eq.trans (h9 3 rfl) rfl
 refine Y1 rfl rfl (Eq.trans (eM (i0 5 31 rfl rfl)) (congrArg (fun b => Value.bool (!b)) a3)) (Z4 (vI a1) m1 rfl ?_)
 exact qn (.refl _) rfl hS rfl
 intro x2 x3 x4 x5 q9 hS r0 d1 hcq
 refine Y1 rfl rfl (Eq.trans (eM (d1 5 31 rfl rfl)) (congrArg (fun b => Value.bool (!b)) a3)) ?_
 refine W3 Q9 rfl (eM (d1 10 36 rfl rfl)) h2 (eM (d1 11 37 rfl rfl)) (by omega) (by omega) rfl ?_
 exact qn (.refl _) rfl hS rfl
 intro x6 x7 x8 x9 i1 hS r1 e7 hcq
 have d0 := i1.1 _ _ d0
 refine Y1 rfl rfl (Eq.trans (eM (e7 5 31 rfl rfl)) (congrArg (fun b => Value.bool (!b)) a3)) ?_
 refine Y4 (vI (rd a0.1 a1)) ty2 (eM (e7 12 38 rfl rfl)) (hS.froz _ _ d0) (h3 0 (show 0 < 1 by decide)) rfl ?_
 exact qn (.refl _) rfl hS rfl
 intro y0 y1 y2 y3 r2 hS r3 e8 hcq
 refine Y1 rfl rfl (Eq.trans (eM (e8 5 31 rfl rfl)) (congrArg (fun b => Value.bool (!b)) a3)) ?_
 refine V0 (IntKind.i64.wrap ((rd a0.1 a1) + 1)) (eM (e8 13 39 rfl rfl)) rfl rfl rfl ?_
 exact qn (.refl _) rfl hS rfl
 intro y4 y5 y6 y7 e9 hS r4 b9 hcq
 have a6 := a6.mono e9
 have a8 := a8.mono e9
 refine Y1 rfl rfl (Eq.trans (eM (b9 5 31 rfl rfl)) (congrArg (fun b => Value.bool (!b)) a3)) ?_
 refine Y8 Tryz.call126 (N8 (eM (b9 7 33 rfl rfl)) (eM (b9 8 34 rfl rfl)) (eM (b9 14 40 rfl rfl))) rfl (Zx1 h4 a6 a8 hS) ?_
 rintro y8 y9 ⟨_, z0, rfl, i2, hS, rfl⟩
 refine ⟨_, rfl, ?_⟩
 exact qn i2 rfl hS rfl
 intro z1 z2 z3 z4 r5 hS r6 f0 hcq
 refine Y1 rfl rfl (Eq.trans (eM (f0 5 31 rfl rfl)) (congrArg (fun b => Value.bool (!b)) a3)) (N7 (b := b4) (eM (f0 15 41 rfl rfl)) rfl ?_)
 exact qn (.refl _) rfl hS rfl
 intro z5 z6 z7 z8 r7 hS r8 f1 hcq
 refine V1 (t := false) (Value.bool (!b4)) (Eq.trans (eM (f1 5 31 rfl rfl)) (congrArg (fun b => Value.bool (!b)) a3)) ((if_neg Bool.false_ne_true).trans (eM (f1 16 42 rfl rfl))) rfl ?_
 exact qn (.refl _) rfl hS rfl
 intro m2 m3 g8 d2 hS c0 i3 hcq
 have hS : St g8 m3 ([(b8, cA ([b3]) 47)] ++ ([(b1, cA ([s0] ++ [s1]) 29)] ++ L)) := hS
 have Z2 := Z2.trans d2
 have a7 := a7.mono d2
 have a6 := a6.mono d2
 have g9 : ev m2 (.tmp 43) = Value.bool (!b4) := i3 17 43 (by decide) rfl
 refine Z0 ?_
 by_cases c1 : b4 = true
 rw [if_pos c1] at a5
 refine Z9 (Eq.trans (by exact g9) (congrArg (fun b => Value.bool (!b)) c1)) (Y6 (X2 (Z1 ?_)))
 refine V0 (a1 + 1) (by exact (evT (c0 21 rfl) b5)) rfl (IntWalk.i64_in _ (by omega)) rfl (Z4 (vI (a1 + 1)) rfl rfl (Z0 ?_))
 have hS := St.dropA hS
 exact m7 _ _ ⟨(a1 + 1), g8, a5, Z2, hS, (by omega), a6, a7, (evT (c0 1 rfl) b2), (evT (c0 19 rfl) c4), (evT (c0 20 rfl) c5), rfl⟩
 rw [if_neg c1] at a5
 refine Y0 (Eq.trans (by exact g9) (congrArg (fun b => Value.bool (!b)) (W2 c1))) (Z3 (Z1 (Z6 (Value.bool false) rfl rfl (Z0 ?_))))
 refine Y9 (vs := [Value.bool false]) Tryz.func45 ⟨rfl, trivial⟩ ?_
 have hz := Option.some.inj a5
 subst hz
 dsimp only [Ex.elim] at b6
 have hz := Option.some.inj b6
 subst hz
 exact ⟨_, _, rfl, Z2, (St.dropA (St.dropA hS)), rfl⟩
 rw [if_neg a3] at a5
 refine V4 18 (R9 [(26, MP.eq (vP b1)), (27, MP.eq (s0)), (28, MP.eq (vA ([b3]))), (29, MP.eq (Value.bool a9)), (30, MP.eq (Value.bool (!a9))), (31, MP.eq (Value.bool (!a9))), (32, MP.eq (undef)), (33, MP.eq (undef)), (34, MP.eq (undef)), (35, MP.eq (undef)), (36, MP.eq (undef)), (37, MP.eq (undef)), (38, MP.eq (undef)), (39, MP.eq (undef)), (40, MP.eq (undef)), (41, MP.eq (undef)), (42, MP.eq (undef)), (43, MP.eq (Value.bool true))]) [] mixed rfl rfl rfl hS (Z5 rfl ?_ (Z5 rfl ?_ (Z5 rfl ?_ (Z5 rfl ?_ (Z5 rfl ?_ (Z5 rfl ?_ (Z5 rfl ?_ (Z5 rfl ?_ (Z5 rfl ?_ (Z5 rfl ?_ (Z5 rfl ?_ (Z5 rfl ?_ (Z5 rfl ?_ (Z5 rfl ?_ (Z5 rfl ?_ (Z5 rfl ?_ (Z5 rfl ?_ (Z5 rfl ?_ V9)))))))))))))))))) ?_
 intro n2 n3 n4 n5 k5 hS d8 k6 hcq
 have f6 := evT (d8 1 rfl) b2
 refine Y2 R4 f6 rfl ?_
 exact qn (.refl _) rfl hS rfl
 intro f7 n6 n7 n8 k7 hS k8 d9 hcq
 have f8 : ev f7 (.tmp 26) = vP b1 := d9 0 26 rfl rfl
 refine Y4 (s0) J3 f8 (hS.get (mR (mR mL))) rfl rfl ?_
 exact qn (.refl _) rfl hS rfl
 intro f9 n9 o0 o1 k9 hS e0 l0 hcq
 have g0 : ev f9 (.tmp 4) = vP b8 := Eq.trans (e0 4 rfl) rfl
 refine X8 U7 g0 (hS.get (mR mL)) rfl rfl ?_
 exact qn (.refl _) rfl hS rfl
 intro d7 o2 o3 o4 c6 hS l1 c7 hcq
 have a6 := a6.mono c6
 have a8 := a8.mono c6
 have g1 : ev d7 (.tmp 27) = s0 := c7 1 27 rfl rfl
 have g2 : ev d7 (.tmp 28) = vA ([b3]) := c7 2 28 rfl rfl
 refine Y8 Tryz.call125 (T0 g1 g2) rfl (Zv1 f5 a6 a8 hS) ?_
 rintro o5 o6 ⟨_, o8, rfl, e1, hS, rfl⟩
 refine ⟨_, rfl, ?_⟩
 exact qn e1 rfl hS rfl
 intro g3 o9 p0 p1 l2 hS l3 e2 hcq
 have g4 : ev g3 (.tmp 29) = Value.bool a9 := e2 3 29 rfl rfl
 refine N7 (b := a9) g4 rfl ?_
 exact qn (.refl _) rfl hS rfl
 intro g5 p2 p3 p4 l4 hS l5 e3 hcq
 have g6 : ev g5 (.tmp 30) = Value.bool (!a9) := e3 4 30 rfl rfl
 refine Z4 (Value.bool (!a9)) g6 rfl ?_
 exact qn (.refl _) rfl hS rfl
 intro z9 a00 a01 a02 r9 hS s2 i4 hcq
 refine Z8 rfl rfl (Eq.trans (eM (i4 5 31 rfl rfl)) (congrArg (fun b => Value.bool (!b)) (W2 a3))) rfl rfl rfl ?_
 exact qn (.refl _) rfl hS rfl
 intro a03 a04 a05 a06 s3 hS s4 i5 hcq
 refine Z8 rfl rfl (Eq.trans (eM (i5 5 31 rfl rfl)) (congrArg (fun b => Value.bool (!b)) (W2 a3))) rfl rfl rfl ?_
 exact qn (.refl _) rfl hS rfl
 intro a07 a08 a09 a10 s5 hS s6 i6 hcq
 refine Z8 rfl rfl (Eq.trans (eM (i6 5 31 rfl rfl)) (congrArg (fun b => Value.bool (!b)) (W2 a3))) rfl rfl rfl ?_
 exact qn (.refl _) rfl hS rfl
 intro a11 a12 a13 a14 s7 hS s8 i7 hcq
 refine Z8 rfl rfl (Eq.trans (eM (i7 5 31 rfl rfl)) (congrArg (fun b => Value.bool (!b)) (W2 a3))) rfl rfl rfl ?_
 exact qn (.refl _) rfl hS rfl
 intro a15 a16 a17 a18 s9 hS t0 i8 hcq
 refine Z8 rfl rfl (Eq.trans (eM (i8 5 31 rfl rfl)) (congrArg (fun b => Value.bool (!b)) (W2 a3))) rfl rfl rfl ?_
 exact qn (.refl _) rfl hS rfl
 intro a19 a20 a21 a22 t1 hS t4 i9 hcq
 refine Z8 rfl rfl (Eq.trans (eM (i9 5 31 rfl rfl)) (congrArg (fun b => Value.bool (!b)) (W2 a3))) rfl rfl rfl ?_
 exact qn (.refl _) rfl hS rfl
 intro a23 a24 a25 a26 t5 hS t6 j0 hcq
 refine Z8 rfl rfl (Eq.trans (eM (j0 5 31 rfl rfl)) (congrArg (fun b => Value.bool (!b)) (W2 a3))) rfl rfl rfl ?_
 exact qn (.refl _) rfl hS rfl
 intro a27 a28 a29 a30 t7 hS t8 j1 hcq
 refine Z8 rfl rfl (Eq.trans (eM (j1 5 31 rfl rfl)) (congrArg (fun b => Value.bool (!b)) (W2 a3))) rfl rfl rfl ?_
 exact qn (.refl _) rfl hS rfl
 intro a31 a32 a33 a34 t9 hS u0 j2 hcq
 refine Z8 rfl rfl (Eq.trans (eM (j2 5 31 rfl rfl)) (congrArg (fun b => Value.bool (!b)) (W2 a3))) rfl rfl rfl ?_
 exact qn (.refl _) rfl hS rfl
 intro a35 a36 a37 a38 u1 hS u2 j3 hcq
 refine Z8 rfl rfl (Eq.trans (eM (j3 5 31 rfl rfl)) (congrArg (fun b => Value.bool (!b)) (W2 a3))) rfl rfl rfl ?_
 exact qn (.refl _) rfl hS rfl
 intro a39 a40 a41 a42 u3 hS u4 j4 hcq
 refine Z8 rfl rfl (Eq.trans (eM (j4 5 31 rfl rfl)) (congrArg (fun b => Value.bool (!b)) (W2 a3))) rfl rfl rfl ?_
 exact qn (.refl _) rfl hS rfl
 intro a43 a44 a45 a46 u5 hS u6 j5 hcq
 refine V1 (t := true) (Value.bool true) (Eq.trans (eM (j5 5 31 rfl rfl)) (congrArg (fun b => Value.bool (!b)) (W2 a3))) ((if_pos rfl).trans rfl) rfl ?_
 exact qn (.refl _) rfl hS rfl
 intro a47 m4 m5 j6 hS u7 j7 hcq
 have hS : St m5 m4 ([(b8, cA ([b3]) 47)] ++ ([(b1, cA ([s0] ++ [s1]) 29)] ++ L)) := hS
 have Z2 := Z2.trans j6
 refine Z0 (Y0 (by exact (eM (j7 17 43 (by decide) rfl))) (Z3 (Z1 (Z6 (Value.bool false) rfl rfl (Z0 ?_)))))
 refine Y9 (vs := [Value.bool false]) Tryz.func45 ⟨rfl, trivial⟩ ?_
 have hz := Option.some.inj a5
 subst hz
 dsimp only [Ex.elim] at b6
 have hz := Option.some.inj b6
 subst hz
 exact ⟨_, _, rfl, Z2, (St.dropA (St.dropA hS)), rfl⟩
 rw [if_neg e5] at a5
 refine Z9 (bF e5 rfl) ?_
 refine W4 rfl ?_
 have hz := Option.some.inj a5
 subst hz
 exact m8 _ _ ⟨k2, rfl, Z2, hS, a6, a7, b2⟩
 exact ⟨0, h1, a5, Z2, hS, (by omega), a6, a7, d6, rfl, rfl, rfl⟩
 rintro a48 a49 ⟨a50, rfl, Z2, hS, a6, a7, c9⟩
 dsimp only [Ex.elim] at b6
 refine Z3 ?_
 obtain ⟨a51, d3, hS, f2⟩ := St.freezeBox hS
 have Z2 := Z2.trans d3
 have a6 := a6.mono d3
 have a7 := a7.mono d3
 refine Z1 (Y2 N5 (by exact c9) rfl ?_)
 refine Y4 (s1) Zd8 rfl (hS.froz _ _ f2) ((Zd2 ([s0] ++ [s1]) 2) 1 (show 1 < 2 by decide)) rfl ?_
 refine Yg2 (by exact c9) rfl ?_
 obtain ⟨c2, j8, b6⟩ := bind_some b6
 refine Y8 Tryz.call127 (T0 rfl rfl) rfl (Zb8 j8 a7 ⟨128, #[vP b1], rfl, Tryz.call128, fun H2 w2 L2 v x b p6 p7 hv p8 => by obtain ⟨_, rfl, ⟨p9, rfl, f3⟩⟩ := hv; exact Yf4 p8 f3 (Zq0.mono p6 ⟨_, _, _, _, _, rfl, f2, ⟨_, _, rfl, ⟨_, rfl, a6⟩, ⟨_, rfl, a7⟩⟩, (Zd2 ([s0] ++ [s1]) 2)⟩) p7⟩ hS) ?_
 rintro a52 a53 ⟨_, a54, rfl, j9, hS, rfl⟩
 refine ⟨_, rfl, ?_⟩
 have Z2 := Z2.trans j9
 refine N7 (b := c2) rfl rfl (Z6 (Value.bool (!c2)) rfl rfl (Z0 ?_))
 refine Y9 (vs := [Value.bool (!c2)]) Tryz.func45 ⟨rfl, trivial⟩ ?_
 have hz := Option.some.inj b6
 subst hz
 exact ⟨_, _, rfl, Z2, hS, rfl⟩
 intro k1
 refine Z1 (Y2 R4 rfl rfl ?_)
 refine Y4 (s0) J3 rfl (hS.get mL) rfl rfl ?_
 obtain ⟨c3, k0, q0⟩ := bind_some q0
 refine Y8 Tryz.call124 (Q8 rfl) rfl (Yk5 k0 a6 hS) ?_
 rintro a55 a56 ⟨_, h0, rfl, d4, hS, rfl⟩
 refine ⟨_, rfl, ?_⟩
 have Z2 := Z2.trans d4
 have a6 := a6.mono d4
 have a7 := a7.mono d4
 refine N7 (b := c3) rfl rfl (Z4 (Value.bool (!c3)) rfl rfl ?_)
 by_cases a4 : c3 = true
 rw [if_pos a4] at q0
 refine Y1 rfl rfl (Eq.trans rfl (congrArg (fun b => Value.bool (!b)) a4)) (Y2 N5 rfl rfl ?_)
 refine Y1 rfl rfl (Eq.trans rfl (congrArg (fun b => Value.bool (!b)) a4)) ?_
 refine Y4 (s1) Zd8 rfl (hS.get mL) rfl rfl ?_
 have u8 := a7.bound
 refine Y1 rfl rfl (Eq.trans rfl (congrArg (fun b => Value.bool (!b)) a4)) ?_
 refine W6 J2 rfl a7 rfl ?_
 refine Y1 rfl rfl (Eq.trans rfl (congrArg (fun b => Value.bool (!b)) a4)) (Y2 R4 rfl rfl ?_)
 refine Y1 rfl rfl (Eq.trans rfl (congrArg (fun b => Value.bool (!b)) a4)) ?_
 refine Y4 (s0) J3 rfl (hS.get mL) rfl rfl ?_
 have u9 := a6.bound
 refine Y1 rfl rfl (Eq.trans rfl (congrArg (fun b => Value.bool (!b)) a4)) ?_
 refine W6 Q9 rfl a6 rfl ?_
 refine Y1 rfl rfl (Eq.trans rfl (congrArg (fun b => Value.bool (!b)) a4)) ?_
 refine L9 (k := .i64) (a := (a0.2.length : Int)) (b := (a0.1.length : Int)) rfl rfl rfl ?_
 refine V1 (t := false) (Value.bool (!decide ((a0.2.length : Int) = (a0.1.length : Int)))) (Eq.trans rfl (congrArg (fun b => Value.bool (!b)) a4)) ((if_neg Bool.false_ne_true).trans rfl) rfl (Z0 ?_)
 exact k1 _ _ ⟨(!decide ((a0.2.length : Int) = (a0.1.length : Int))), h0, q0, Z2, hS, a6, a7, rfl, rfl⟩
 rw [if_neg a4] at q0
 refine Z8 rfl rfl (Eq.trans rfl (congrArg (fun b => Value.bool (!b)) (W2 a4))) rfl rfl rfl (Z8 rfl rfl (Eq.trans rfl (congrArg (fun b => Value.bool (!b)) (W2 a4))) rfl rfl rfl (Z8 rfl rfl (Eq.trans rfl (congrArg (fun b => Value.bool (!b)) (W2 a4))) rfl rfl rfl (Z8 rfl rfl (Eq.trans rfl (congrArg (fun b => Value.bool (!b)) (W2 a4))) rfl rfl rfl (Z8 rfl rfl (Eq.trans rfl (congrArg (fun b => Value.bool (!b)) (W2 a4))) rfl rfl rfl (Z8 rfl rfl (Eq.trans rfl (congrArg (fun b => Value.bool (!b)) (W2 a4))) rfl rfl rfl (Z8 rfl rfl (Eq.trans rfl (congrArg (fun b => Value.bool (!b)) (W2 a4))) rfl rfl rfl ?_))))))
 refine V1 (t := true) (Value.bool true) (Eq.trans rfl (congrArg (fun b => Value.bool (!b)) (W2 a4))) ((if_pos rfl).trans rfl) rfl (Z0 ?_)
 exact k1 _ _ ⟨true, h0, q0, Z2, hS, a6, a7, rfl, rfl⟩
def Zi4 (K : Nat) (a0 : (List Int)) (a1 : MpT) (a2 : (List MpT)) : Option MpT := ((Zg6 K (a0, a0, a2) a1).bind fun b0 => some b0)
theorem Yl0 {K : Nat} {a0 : (List Int)} {a1 : MpT} {a2 : (List MpT)} {r : MpT} (q0 : Zi4 K a0 a1 a2 = some r) {H : FH} {w : World} {L : OL} {s0 : Value} {s1 : Value} {s2 : Value} (a3 : Y3 (X3 .i64) H s0 a0) (a6 : Q1 .i64 H s1 a1) (a5 : Y3 (Yf6 .i64) H s2 a2) (hS : St H w L) :
 Calls Tryz.prog 238 #[s0, s1, s2] w (Yq8 .i64 r H L) := by
 have Z2 := Sub.refl H
 refine X0 Tryz.func238 rfl Tryz.ntmps238 rfl ?_
 unfold Zi4 at q0
 refine Z3 (Z1 (Z6 (Value.map none) rfl rfl (Z0 (Z3 (Z1 (Z4 (s0) rfl rfl (Z4 (s0) rfl rfl (Z4 (s2) rfl rfl ?_))))))))
 refine Yi2 hS rfl ?_
 intro a7 w2 hS
 refine Zo9 ([s0] ++ ([s0] ++ ([s2] ++ [(Value.map (some a7))]))) Wj6 (Wg3 rfl rfl rfl rfl) (K5 rfl a3.cellsL rfl (Nat.le_of_ble_eq_true rfl) (K5 rfl a3.cellsL rfl (Nat.le_of_ble_eq_true rfl) (K5 rfl a5.cellsL rfl (Nat.le_of_ble_eq_true rfl) (K5 rfl rfl rfl (Nat.le_of_ble_eq_true rfl) (Zk3 rfl))))) rfl ?_
 refine T7 (v := vA ([s0] ++ ([s0] ++ ([s2] ++ [(Value.map (some a7))])))) ([s0] ++ ([s0] ++ ([s2] ++ [(Value.map (some a7))]))).toArray rfl rfl hS rfl ?_
 intro b4 w5 hS
 refine Z6 (vP b4) rfl rfl (Z0 (Z3 (Z1 (Z4 (vP b4) rfl rfl (Z4 (s1) rfl rfl ?_)))))
 have hS := hS.perm U4
 obtain ⟨H7, a8, hS, a9⟩ := St.toMemo hS K (a0, a0, a2)
 have Z2 := Z2.trans a8
 have a6 := a6.mono a8
 have a3 := a3.mono a8
 have a5 := a5.mono a8
 obtain ⟨b7, a4, hS, b2⟩ := St.freezeBox hS
 have Z2 := Z2.trans a4
 have a6 := a6.mono a4
 have a3 := a3.mono a4
 have a5 := a5.mono a4
 have a9 := a9.mono a4
 obtain ⟨b0, b3, q0⟩ := bind_some q0
 refine Y8 Tryz.call117 (T0 rfl rfl) rfl (Yh4 b3 ⟨_, _, _, _, _, rfl, b2, ⟨_, _, _, _, rfl, a3, a3, a5, a9⟩, (Zd2 ([s0] ++ ([s0] ++ ([s2] ++ [(Value.map (some a7))]))) 4)⟩ a6 hS) ?_
 rintro b8 b9 ⟨b1, c0, c1, rfl, b5, hS, b6⟩
 refine ⟨_, rfl, ?_⟩
 have Z2 := Z2.trans b5
 refine Z6 (b1) rfl rfl (Z0 ?_)
 refine Y9 (vs := [b1]) Tryz.func238 ⟨rfl, trivial⟩ ?_
 have hz := Option.some.inj q0
 subst hz
 exact ⟨_, _, _, rfl, Z2, hS, b6⟩
end Go.Proofs.YtfodlhkoafhplaaGreat
