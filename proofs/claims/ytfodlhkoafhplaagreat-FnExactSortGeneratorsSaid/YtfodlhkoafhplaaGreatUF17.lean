/- Walks of functions: each computes its pure function, if that gives a value. -/
import Derived.Test.YtfodlhkoafhplaaGreatUTy
import Derived.Test.YtfodlhkoafhplaaGreatUF9
import Derived.Test.YtfodlhkoafhplaaGreatUF8
import Derived.Test.YtfodlhkoafhplaaGreatUF6
import Derived.Test.YtfodlhkoafhplaaGreatUF16
import Derived.Test.YtfodlhkoafhplaaGreatUF12
import Derived.Test.YtfodlhkoafhplaaGreatUF1
namespace Go.Proofs.YtfodlhkoafhplaaGreat
open Go
set_option linter.unusedSimpArgs false
set_option linter.unusedVariables false
set_option maxRecDepth 100000
set_option maxHeartbeats 8000000
def N5 (K : Nat) (a0 : ((List Int) × (List MpT))) : Nat → Int → Option (Ex Bool (Unit))
 | 0, _ => none
 | k + 1, a1 => (if a1 < (a0.2.length : Int) then ((Zi7 K a0.1 (rd a0.2 a1)).bind fun a9 => (if a9 = true then (if a1 < (a0.1.length : Int) then ((Zg1 K a0.1 (rd a0.2 a1) (IntKind.i64.wrap ((rd a0.1 a1) + 1))).bind fun b4 => (if b4 = true then N5 K a0 k (a1 + 1) else some (.ret false))) else none) else some (.ret false))) else some (.go ()))
def Zd6 (K : Nat) (a0 : ((List Int) × (List MpT))) (b0 : Bool) : Option Bool := (if b0 = true then some false else ((N5 K a0 K 0).bind (Ex.elim (fun r => some r) (fun s => ((T6 K a0.2 (fun x => Zd7 K x (a0.1, a0.2))).bind fun c2 => some (!c2))))))
def Zg9 (K : Nat) (a0 : ((List Int) × (List MpT))) : Option Bool := ((Zg0 K a0.1).bind fun c3 => (if c3 = true then Zd6 K a0 (!decide ((a0.2.length : Int) = (a0.1.length : Int))) else Zd6 K a0 true))
theorem Yh6 {K : Nat} {a0 : ((List Int) × (List MpT))} {r : Bool} (q0 : Zg9 K a0 = some r) {H : FH} {w : World} {L : OL} {s0 : Value} {s1 : Value} (a6 : Y2 (Y8 .i64) H s0 a0.1) (a7 : Y2 (W0 yT) H s1 a0.2) (hS : St H w L) :
 Calls Tryz.prog 45 #[vA ([s0] ++ [s1])] w (S3 (fun v G => R.bool.p G v r) H L) := by
 have Z2 := Sub.refl H
 refine X2 Tryz.func45 rfl Tryz.ntmps45 rfl ?_
 unfold Zg9 at q0
 refine Z3 (Z1 ?_)
 refine S5 (v := vA ([s0] ++ [s1])) ([s0] ++ [s1]).toArray rfl rfl hS rfl ?_
 intro b1 w2 hS
 refine Z5 (Value.bool false) rfl rfl (Z0 (Z3 (Z3 ?_)))
 refine Za3 (fun f w => ∃ (b0 : Bool) (H1 : FH), Zd6 K a0 b0 = some r ∧ Sub H H1 ∧ St H1 w ([(b1, cA ([s0] ++ [s1]) 29)] ++ L) ∧ Y2 (Y8 .i64) H1 s0 a0.1 ∧ Y2 (W0 yT) H1 s1 a0.2 ∧ ev f (.tmp 1) = vP b1 ∧ ev f (.tmp 17) = Value.bool b0) ?_ ?_
 rintro fj1 q1 ⟨b0, h1, d5, Z2, hS, a6, a7, d6, c8⟩
 unfold Zd6 at d5
 by_cases e4 : b0 = true
 rw [if_pos e4] at d5
 refine Y0 (Eq.trans (by exact c8) (congrArg Value.bool e4)) (Z3 (Z1 (Z5 (Value.bool false) rfl rfl (Z0 ?_))))
 refine Y9 (vs := [Value.bool false]) Tryz.func45 ⟨rfl, trivial⟩ ?_
 have hz := Option.some.inj d5
 subst hz
 exact ⟨_, _, rfl, Z2, (St.dropA hS), rfl⟩
 rw [if_neg e4] at d5
 refine Z9 (Eq.trans (by exact c8) (congrArg Value.bool (W2 e4))) (Y6 (Z3 (Z3 (Z1 (Y3 M7 (by exact d6) rfl ?_)))))
 refine Y4 (s1) Ze3 rfl (hS.get mL) rfl rfl ?_
 have bl5 := a7.bound
 refine W6 D7 rfl a7 rfl (Z4 (vI 0) rfl rfl (Z0 (Y7 ?_)))
 obtain ⟨f4, a5, b6⟩ := bind_some d5
 refine W7 (id := 0) (fun k f w => ∃ (a1 : Int) (H1 : FH), N5 K a0 k a1 = some f4 ∧ Sub H H1 ∧ St H1 w ([(b1, cA ([s0] ++ [s1]) 29)] ++ L) ∧ 0 ≤ a1 ∧ Y2 (Y8 .i64) H1 s0 a0.1 ∧ Y2 (W0 yT) H1 s1 a0.2 ∧ ev f (.tmp 1) = vP b1 ∧ ev f (.tmp 19) = s1 ∧ ev f (.tmp 20) = vI (a0.2.length : Int) ∧ ev f (.tmp 21) = vI a1) (fun f w => ∃ (H1 : FH), f4 = .go () ∧ Sub H H1 ∧ St H1 w ([(b1, cA ([s0] ++ [s1]) 29)] ++ L) ∧ Y2 (Y8 .i64) H1 s0 a0.1 ∧ Y2 (W0 yT) H1 s1 a0.2 ∧ ev f (.tmp 1) = vP b1) rfl ?_ ?_ K ?_ ?_
 rintro f w ⟨a1, H1, a5, _⟩
 rw [N5] at a5; cases a5
 rintro k v0 v1 m7 m8 ⟨a1, k2, a5, Z2, hS, m6, a6, a7, b2, c4, c5, b5⟩
 rw [N5] at a5
 refine Z3 (Z1 ?_)
 refine U2 (k := .i64) (a := a1) (b := (a0.2.length : Int)) (by exact b5) (by exact c5) rfl (Z0 (Z3 ?_))
 by_cases e5 : a1 < (a0.2.length : Int)
 rw [if_pos e5] at a5
 refine Y0 (bT e5 rfl) (Y6 (Z3 (Y7 (Z3 (Z1 (Z4 (vI a1) (by exact b5) rfl ?_))))))
 obtain ⟨b7, o7, cs7, E7, _, m9, n0, ⟨b3, rfl, a8⟩, n1⟩ := a7.elem (i := a1) (by omega) (by omega)
 refine W3 D7 rfl (by exact c4) m9 (by exact b5) (by omega) (by omega) rfl ?_
 refine V4 ([b3]) T3 rfl (hS.froz _ _ n0) rfl n1 rfl ?_
 refine V0 (z := vA ([vN])) ([vN]).toArray Ze9.zero rfl hS rfl ?_
 intro b8 w9 hS
 refine Z5 (vI a1) rfl rfl ?_
 refine X8 (v := vA ([b3])) (vs := ([b3]).toArray) (cs := ([vN]).toArray) T3 rfl rfl rfl hS rfl (S2 a8.isOne) rfl ?_
 intro w11 hS
 refine Z0 (Z3 ?_)
 obtain ⟨a9, f5, a5⟩ := bind_some a5
 by_cases a3 : a9 = true
 rw [if_pos a3] at a5
 obtain ⟨q2, a5⟩ := gd a5
 obtain ⟨k3, k4, q3, v2, _, h2, d0, rfl, h3⟩ := a6.elem (i := a1) (by omega) (by omega)
 obtain ⟨b4, h4, a5⟩ := bind_some a5
 refine U0 18 (Q5 [(26, MP.eq (vP b1)), (27, MP.eq (s0)), (28, MP.eq (vA ([b3]))), (29, MP.eq (Value.bool a9)), (30, MP.eq (Value.bool (!a9))), (31, MP.eq (Value.bool (!a9))), (32, MP.eq (vP b1)), (33, MP.eq (s0)), (34, MP.eq (vA ([b3]))), (35, MP.eq (vP b1)), (36, MP.eq (s0)), (37, MP.eq (vI a1)), (38, MP.eq (Value.pointer (some ⟨k3, k4, none⟩))), (39, MP.eq (vI (rd a0.1 a1))), (40, MP.eq (vI (IntKind.i64.wrap ((rd a0.1 a1) + 1)))), (41, MP.eq (Value.bool b4)), (42, MP.eq (Value.bool (!b4))), (43, MP.eq (Value.bool (!b4)))]) [] mixed rfl rfl rfl hS (Z6 rfl ?_ (Z6 rfl ?_ (Z6 rfl ?_ (Z6 rfl ?_ (Z6 rfl ?_ (Z6 rfl ?_ (Z6 rfl ?_ (Z6 rfl ?_ (Z6 rfl ?_ (Z6 rfl ?_ (Z6 rfl ?_ (Z6 rfl ?_ (Z6 rfl ?_ (Z6 rfl ?_ (Z6 rfl ?_ (Z6 rfl ?_ (Z6 rfl ?_ (Z6 rfl ?_ U5)))))))))))))))))) ?_
 intro n2 n3 n4 n5 k5 hS d8 k6 hcq
 have f6 := evT (d8 1 rfl) b2
 refine Y3 R5 f6 rfl ?_
 exact qn (.refl _) rfl hS rfl
 intro f7 n6 n7 n8 k7 hS k8 d9 hcq
 have f8 : ev f7 (.tmp 26) = vP b1 := d9 0 26 rfl rfl
 refine Y4 (s0) J7 f8 (hS.get (mR (mR mL))) rfl rfl ?_
 exact qn (.refl _) rfl hS rfl
 intro f9 n9 o0 o1 k9 hS e0 l0 hcq
 have g0 : ev f9 (.tmp 4) = vP b8 := Eq.trans (e0 4 rfl) rfl
 refine W1 T3 g0 (hS.get (mR mL)) rfl rfl ?_
 exact qn (.refl _) rfl hS rfl
 intro d7 o2 o3 o4 c6 hS l1 c7 hcq
 have a6 := a6.mono c6
 have a8 := a8.mono c6
 have g1 : ev d7 (.tmp 27) = s0 := c7 1 27 rfl rfl
 have g2 : ev d7 (.tmp 28) = vA ([b3]) := c7 2 28 rfl rfl
 refine X0 Tryz.call125 (T0 g1 g2) rfl (Zr2 f5 a6 a8 hS) ?_
 rintro o5 o6 ⟨_, o8, rfl, e1, hS, rfl⟩
 refine ⟨_, rfl, ?_⟩
 exact qn e1 rfl hS rfl
 intro g3 o9 p0 p1 l2 hS l3 e2 hcq
 have g4 : ev g3 (.tmp 29) = Value.bool a9 := e2 3 29 rfl rfl
 refine M1 (b := a9) g4 rfl ?_
 exact qn (.refl _) rfl hS rfl
 intro g5 p2 p3 p4 l4 hS l5 e3 hcq
 have g6 : ev g5 (.tmp 30) = Value.bool (!a9) := e3 4 30 rfl rfl
 refine Z4 (Value.bool (!a9)) g6 rfl ?_
 exact qn (.refl _) rfl hS rfl
 intro f79 w80 H81 X82 v3 hS l6 l7 hcq
 refine Y1 rfl rfl (Eq.trans (eM (l7 5 31 rfl rfl)) (congrArg (fun b => Value.bool (!b)) a3)) (Y3 R5 (evT (l6 1 rfl) b2) rfl ?_)
 exact qn (.refl _) rfl hS rfl
 intro f89 w90 H91 X92 v4 hS v5 g7 hcq
 refine Y1 rfl rfl (Eq.trans (eM (g7 5 31 rfl rfl)) (congrArg (fun b => Value.bool (!b)) a3)) ?_
 refine Y4 (s0) J7 (eM (g7 6 32 rfl rfl)) (hS.get (mR (mR mL))) rfl rfl ?_
 exact qn (.refl _) rfl hS rfl
 intro p5 v6 v7 v8 q4 hS h5 h6 hcq
 have l9 : ev p5 (.tmp 4) = vP b8 := Eq.trans (h5 4 rfl) rfl
 refine Y1 rfl rfl (Eq.trans (eM (h6 5 31 rfl rfl)) (congrArg (fun b => Value.bool (!b)) a3)) ?_
 refine W1 T3 l9 (hS.get (mR mL)) rfl rfl ?_
 exact qn (.refl _) rfl hS rfl
 intro v9 w0 w1 w3 q5 hS h7 h8 hcq
 refine Y1 rfl rfl (Eq.trans (eM (h8 5 31 rfl rfl)) (congrArg (fun b => Value.bool (!b)) a3)) (Y3 R5 (evT (h7 1 rfl) b2) rfl ?_)
 exact qn (.refl _) rfl hS rfl
 intro w4 w5 w6 w7 q6 hS q7 e6 hcq
 refine Y1 rfl rfl (Eq.trans (eM (e6 5 31 rfl rfl)) (congrArg (fun b => Value.bool (!b)) a3)) ?_
 refine Y4 (s0) J7 (eM (e6 9 35 rfl rfl)) (hS.get (mR (mR mL))) rfl rfl ?_
 exact qn (.refl _) rfl hS rfl
 intro m0 w8 x0 x1 q8 hS h9 i0 hcq
 have m1 : ev m0 (.tmp 3) = vI a1 := Eq.trans (h9 3 rfl) rfl
 refine Y1 rfl rfl (Eq.trans (eM (i0 5 31 rfl rfl)) (congrArg (fun b => Value.bool (!b)) a3)) (Z4 (vI a1) m1 rfl ?_)
 exact qn (.refl _) rfl hS rfl
 intro x2 x3 x4 x5 q9 hS r0 d1 hcq
 refine Y1 rfl rfl (Eq.trans (eM (d1 5 31 rfl rfl)) (congrArg (fun b => Value.bool (!b)) a3)) ?_
 refine W3 S9 rfl (eM (d1 10 36 rfl rfl)) h2 (eM (d1 11 37 rfl rfl)) (by omega) (by omega) rfl ?_
 exact qn (.refl _) rfl hS rfl
 intro x6 x7 x8 x9 i1 hS r1 e7 hcq
 have d0 := i1.1 _ _ d0
 refine Y1 rfl rfl (Eq.trans (eM (e7 5 31 rfl rfl)) (congrArg (fun b => Value.bool (!b)) a3)) ?_
 refine Y4 (vI (rd a0.1 a1)) ty2 (eM (e7 12 38 rfl rfl)) (hS.froz _ _ d0) (h3 0 (show 0 < 1 by decide)) rfl ?_
 exact qn (.refl _) rfl hS rfl
 intro y0 y1 y2 y3 r2 hS r3 e8 hcq
 refine Y1 rfl rfl (Eq.trans (eM (e8 5 31 rfl rfl)) (congrArg (fun b => Value.bool (!b)) a3)) ?_
 refine W8 (IntKind.i64.wrap ((rd a0.1 a1) + 1)) (eM (e8 13 39 rfl rfl)) rfl rfl rfl ?_
 exact qn (.refl _) rfl hS rfl
 intro y4 y5 y6 y7 e9 hS r4 b9 hcq
 have a6 := a6.mono e9
 have a8 := a8.mono e9
 refine Y1 rfl rfl (Eq.trans (eM (b9 5 31 rfl rfl)) (congrArg (fun b => Value.bool (!b)) a3)) ?_
 refine X0 Tryz.call126 (F9 (eM (b9 7 33 rfl rfl)) (eM (b9 8 34 rfl rfl)) (eM (b9 14 40 rfl rfl))) rfl (Yg7 h4 a6 a8 hS) ?_
 rintro y8 y9 ⟨_, z0, rfl, i2, hS, rfl⟩
 refine ⟨_, rfl, ?_⟩
 exact qn i2 rfl hS rfl
 intro z1 z2 z3 z4 r5 hS r6 f0 hcq
 refine Y1 rfl rfl (Eq.trans (eM (f0 5 31 rfl rfl)) (congrArg (fun b => Value.bool (!b)) a3)) (M1 (b := b4) (eM (f0 15 41 rfl rfl)) rfl ?_)
 exact qn (.refl _) rfl hS rfl
 intro z5 z6 z7 z8 r7 hS r8 f1 hcq
 refine V2 (t := false) (Value.bool (!b4)) (Eq.trans (eM (f1 5 31 rfl rfl)) (congrArg (fun b => Value.bool (!b)) a3)) ((if_neg Bool.false_ne_true).trans (eM (f1 16 42 rfl rfl))) rfl ?_
 exact qn (.refl _) rfl hS rfl
 intro m2 m3 g8 d2 hS c0 i3 hcq
 have hS : St g8 m3 ([(b8, cA ([b3]) 47)] ++ ([(b1, cA ([s0] ++ [s1]) 29)] ++ L)) := hS
 have Z2 := Z2.trans d2
 have a7 := a7.mono d2
 have a6 := a6.mono d2
 have g9 : ev m2 (.tmp 43) = Value.bool (!b4) := i3 17 43 (by decide) rfl
 refine Z0 ?_
 by_cases c1 : b4 = true
 rw [if_pos c1] at a5
 refine Z9 (Eq.trans (by exact g9) (congrArg (fun b => Value.bool (!b)) c1)) (Y6 (X3 (Z1 ?_)))
 refine W8 (a1 + 1) (by exact (evT (c0 21 rfl) b5)) rfl (IntWalk.i64_in _ (by omega)) rfl (Z4 (vI (a1 + 1)) rfl rfl (Z0 ?_))
 have hS := St.dropA hS
 exact m7 _ _ ⟨(a1 + 1), g8, a5, Z2, hS, (by omega), a6, a7, (evT (c0 1 rfl) b2), (evT (c0 19 rfl) c4), (evT (c0 20 rfl) c5), rfl⟩
 rw [if_neg c1] at a5
 refine Y0 (Eq.trans (by exact g9) (congrArg (fun b => Value.bool (!b)) (W2 c1))) (Z3 (Z1 (Z5 (Value.bool false) rfl rfl (Z0 ?_))))
 refine Y9 (vs := [Value.bool false]) Tryz.func45 ⟨rfl, trivial⟩ ?_
 have hz := Option.some.inj a5
 subst hz
 dsimp only [Ex.elim] at b6
 have hz := Option.some.inj b6
 subst hz
 exact ⟨_, _, rfl, Z2, (St.dropA (St.dropA hS)), rfl⟩
 rw [if_neg a3] at a5
 refine U0 18 (Q5 [(26, MP.eq (vP b1)), (27, MP.eq (s0)), (28, MP.eq (vA ([b3]))), (29, MP.eq (Value.bool a9)), (30, MP.eq (Value.bool (!a9))), (31, MP.eq (Value.bool (!a9))), (32, MP.eq (undef)), (33, MP.eq (undef)), (34, MP.eq (undef)), (35, MP.eq (undef)), (36, MP.eq (undef)), (37, MP.eq (undef)), (38, MP.eq (undef)), (39, MP.eq (undef)), (40, MP.eq (undef)), (41, MP.eq (undef)), (42, MP.eq (undef)), (43, MP.eq (Value.bool true))]) [] mixed rfl rfl rfl hS (Z6 rfl ?_ (Z6 rfl ?_ (Z6 rfl ?_ (Z6 rfl ?_ (Z6 rfl ?_ (Z6 rfl ?_ (Z6 rfl ?_ (Z6 rfl ?_ (Z6 rfl ?_ (Z6 rfl ?_ (Z6 rfl ?_ (Z6 rfl ?_ (Z6 rfl ?_ (Z6 rfl ?_ (Z6 rfl ?_ (Z6 rfl ?_ (Z6 rfl ?_ (Z6 rfl ?_ U5)))))))))))))))))) ?_
 intro n2 n3 n4 n5 k5 hS d8 k6 hcq
 have f6 := evT (d8 1 rfl) b2
 refine Y3 R5 f6 rfl ?_
 exact qn (.refl _) rfl hS rfl
 intro f7 n6 n7 n8 k7 hS k8 d9 hcq
 have f8 : ev f7 (.tmp 26) = vP b1 := d9 0 26 rfl rfl
 refine Y4 (s0) J7 f8 (hS.get (mR (mR mL))) rfl rfl ?_
 exact qn (.refl _) rfl hS rfl
 intro f9 n9 o0 o1 k9 hS e0 l0 hcq
 have g0 : ev f9 (.tmp 4) = vP b8 := Eq.trans (e0 4 rfl) rfl
 refine W1 T3 g0 (hS.get (mR mL)) rfl rfl ?_
 exact qn (.refl _) rfl hS rfl
 intro d7 o2 o3 o4 c6 hS l1 c7 hcq
 have a6 := a6.mono c6
 have a8 := a8.mono c6
 have g1 : ev d7 (.tmp 27) = s0 := c7 1 27 rfl rfl
 have g2 : ev d7 (.tmp 28) = vA ([b3]) := c7 2 28 rfl rfl
 refine X0 Tryz.call125 (T0 g1 g2) rfl (Zr2 f5 a6 a8 hS) ?_
 rintro o5 o6 ⟨_, o8, rfl, e1, hS, rfl⟩
 refine ⟨_, rfl, ?_⟩
 exact qn e1 rfl hS rfl
 intro g3 o9 p0 p1 l2 hS l3 e2 hcq
 have g4 : ev g3 (.tmp 29) = Value.bool a9 := e2 3 29 rfl rfl
 refine M1 (b := a9) g4 rfl ?_
 exact qn (.refl _) rfl hS rfl
 intro g5 p2 p3 p4 l4 hS l5 e3 hcq
 have g6 : ev g5 (.tmp 30) = Value.bool (!a9) := e3 4 30 rfl rfl
 refine Z4 (Value.bool (!a9)) g6 rfl ?_
 exact qn (.refl _) rfl hS rfl
 intro z9 a00 a01 a02 r9 hS s2 i4 hcq
 refine Z8 rfl rfl (Eq.trans (eM (i4 5 31 rfl rfl)) (congrArg (fun b => Value.bool (!b)) (W2 a3))) rfl rfl rfl ?_
 exact qn (.refl _) rfl hS rfl
 intro a03 a04 a05 a06 s3 hS s4 i5 hcq
 refine Z8 rfl rfl (Eq.trans (eM (i5 5 31 rfl rfl)) (congrArg (fun b => Value.bool (!b)) (W2 a3))) rfl rfl rfl ?_
 exact qn (.refl _) rfl hS rfl
 intro a07 a08 a09 a10 s5 hS s6 i6 hcq
 refine Z8 rfl rfl (Eq.trans (eM (i6 5 31 rfl rfl)) (congrArg (fun b => Value.bool (!b)) (W2 a3))) rfl rfl rfl ?_
 exact qn (.refl _) rfl hS rfl
 intro a11 a12 a13 a14 s7 hS s8 i7 hcq
 refine Z8 rfl rfl (Eq.trans (eM (i7 5 31 rfl rfl)) (congrArg (fun b => Value.bool (!b)) (W2 a3))) rfl rfl rfl ?_
 exact qn (.refl _) rfl hS rfl
 intro a15 a16 a17 a18 s9 hS t0 i8 hcq
 refine Z8 rfl rfl (Eq.trans (eM (i8 5 31 rfl rfl)) (congrArg (fun b => Value.bool (!b)) (W2 a3))) rfl rfl rfl ?_
 exact qn (.refl _) rfl hS rfl
 intro a19 a20 a21 a22 t1 hS t4 i9 hcq
 refine Z8 rfl rfl (Eq.trans (eM (i9 5 31 rfl rfl)) (congrArg (fun b => Value.bool (!b)) (W2 a3))) rfl rfl rfl ?_
 exact qn (.refl _) rfl hS rfl
 intro a23 a24 a25 a26 t5 hS t6 j0 hcq
 refine Z8 rfl rfl (Eq.trans (eM (j0 5 31 rfl rfl)) (congrArg (fun b => Value.bool (!b)) (W2 a3))) rfl rfl rfl ?_
 exact qn (.refl _) rfl hS rfl
 intro a27 a28 a29 a30 t7 hS t8 j1 hcq
 refine Z8 rfl rfl (Eq.trans (eM (j1 5 31 rfl rfl)) (congrArg (fun b => Value.bool (!b)) (W2 a3))) rfl rfl rfl ?_
 exact qn (.refl _) rfl hS rfl
 intro a31 a32 a33 a34 t9 hS u0 j2 hcq
 refine Z8 rfl rfl (Eq.trans (eM (j2 5 31 rfl rfl)) (congrArg (fun b => Value.bool (!b)) (W2 a3))) rfl rfl rfl ?_
 exact qn (.refl _) rfl hS rfl
 intro a35 a36 a37 a38 u1 hS u2 j3 hcq
 refine Z8 rfl rfl (Eq.trans (eM (j3 5 31 rfl rfl)) (congrArg (fun b => Value.bool (!b)) (W2 a3))) rfl rfl rfl ?_
 exact qn (.refl _) rfl hS rfl
 intro a39 a40 a41 a42 u3 hS u4 j4 hcq
 refine Z8 rfl rfl (Eq.trans (eM (j4 5 31 rfl rfl)) (congrArg (fun b => Value.bool (!b)) (W2 a3))) rfl rfl rfl ?_
 exact qn (.refl _) rfl hS rfl
 intro a43 a44 a45 a46 u5 hS u6 j5 hcq
 refine V2 (t := true) (Value.bool true) (Eq.trans (eM (j5 5 31 rfl rfl)) (congrArg (fun b => Value.bool (!b)) (W2 a3))) ((if_pos rfl).trans rfl) rfl ?_
 exact qn (.refl _) rfl hS rfl
 intro a47 m4 m5 j6 hS u7 j7 hcq
 have hS : St m5 m4 ([(b8, cA ([b3]) 47)] ++ ([(b1, cA ([s0] ++ [s1]) 29)] ++ L)) := hS
 have Z2 := Z2.trans j6
 refine Z0 (Y0 (by exact (eM (j7 17 43 (by decide) rfl))) (Z3 (Z1 (Z5 (Value.bool false) rfl rfl (Z0 ?_)))))
 refine Y9 (vs := [Value.bool false]) Tryz.func45 ⟨rfl, trivial⟩ ?_
 have hz := Option.some.inj a5
 subst hz
 dsimp only [Ex.elim] at b6
 have hz := Option.some.inj b6
 subst hz
 exact ⟨_, _, rfl, Z2, (St.dropA (St.dropA hS)), rfl⟩
 rw [if_neg e5] at a5
 refine Z9 (bF e5 rfl) ?_
 refine W4 rfl ?_
 have hz := Option.some.inj a5
 subst hz
 exact m8 _ _ ⟨k2, rfl, Z2, hS, a6, a7, b2⟩
 exact ⟨0, h1, a5, Z2, hS, (by omega), a6, a7, d6, rfl, rfl, rfl⟩
 rintro a48 a49 ⟨a50, rfl, Z2, hS, a6, a7, c9⟩
 dsimp only [Ex.elim] at b6
 refine Z3 ?_
 obtain ⟨a51, d3, hS, f2⟩ := St.freezeBox hS
 have Z2 := Z2.trans d3
 have a6 := a6.mono d3
 have a7 := a7.mono d3
 refine Z1 (Y3 M7 (by exact c9) rfl ?_)
 refine Y4 (s1) Ze3 rfl (hS.froz _ _ f2) ((Zq1 ([s0] ++ [s1]) 2) 1 (show 1 < 2 by decide)) rfl ?_
 refine Yc0 (by exact c9) rfl ?_
 obtain ⟨c2, j8, b6⟩ := bind_some b6
 refine X0 Tryz.call127 (T0 rfl rfl) rfl (A9 j8 a7 ⟨128, #[vP b1], rfl, Tryz.call128, fun H2 w2 L2 v x b p6 p7 hv p8 => by obtain ⟨_, rfl, ⟨p9, rfl, f3⟩⟩ := hv; exact Yc5 p8 f3 (Zh2.mono p6 ⟨_, _, _, _, _, rfl, f2, ⟨_, _, rfl, ⟨_, rfl, a6⟩, ⟨_, rfl, a7⟩⟩, (Zq1 ([s0] ++ [s1]) 2)⟩) p7⟩ hS) ?_
 rintro a52 a53 ⟨_, a54, rfl, j9, hS, rfl⟩
 refine ⟨_, rfl, ?_⟩
 have Z2 := Z2.trans j9
 refine M1 (b := c2) rfl rfl (Z5 (Value.bool (!c2)) rfl rfl (Z0 ?_))
 refine Y9 (vs := [Value.bool (!c2)]) Tryz.func45 ⟨rfl, trivial⟩ ?_
 have hz := Option.some.inj b6
 subst hz
 exact ⟨_, _, rfl, Z2, hS, rfl⟩
 intro k1
 refine Z1 (Y3 R5 rfl rfl ?_)
 refine Y4 (s0) J7 rfl (hS.get mL) rfl rfl ?_
 obtain ⟨c3, k0, q0⟩ := bind_some q0
 refine X0 Tryz.call124 (M0 rfl) rfl (Ye1 k0 a6 hS) ?_
 rintro a55 a56 ⟨_, h0, rfl, d4, hS, rfl⟩
 refine ⟨_, rfl, ?_⟩
 have Z2 := Z2.trans d4
 have a6 := a6.mono d4
 have a7 := a7.mono d4
 refine M1 (b := c3) rfl rfl (Z4 (Value.bool (!c3)) rfl rfl ?_)
 by_cases a4 : c3 = true
 rw [if_pos a4] at q0
 refine Y1 rfl rfl (Eq.trans rfl (congrArg (fun b => Value.bool (!b)) a4)) (Y3 M7 rfl rfl ?_)
 refine Y1 rfl rfl (Eq.trans rfl (congrArg (fun b => Value.bool (!b)) a4)) ?_
 refine Y4 (s1) Ze3 rfl (hS.get mL) rfl rfl ?_
 have u8 := a7.bound
 refine Y1 rfl rfl (Eq.trans rfl (congrArg (fun b => Value.bool (!b)) a4)) ?_
 refine W6 D7 rfl a7 rfl ?_
 refine Y1 rfl rfl (Eq.trans rfl (congrArg (fun b => Value.bool (!b)) a4)) (Y3 R5 rfl rfl ?_)
 refine Y1 rfl rfl (Eq.trans rfl (congrArg (fun b => Value.bool (!b)) a4)) ?_
 refine Y4 (s0) J7 rfl (hS.get mL) rfl rfl ?_
 have u9 := a6.bound
 refine Y1 rfl rfl (Eq.trans rfl (congrArg (fun b => Value.bool (!b)) a4)) ?_
 refine W6 S9 rfl a6 rfl ?_
 refine Y1 rfl rfl (Eq.trans rfl (congrArg (fun b => Value.bool (!b)) a4)) ?_
 refine K9 (k := .i64) (a := (a0.2.length : Int)) (b := (a0.1.length : Int)) rfl rfl rfl ?_
 refine V2 (t := false) (Value.bool (!decide ((a0.2.length : Int) = (a0.1.length : Int)))) (Eq.trans rfl (congrArg (fun b => Value.bool (!b)) a4)) ((if_neg Bool.false_ne_true).trans rfl) rfl (Z0 ?_)
 exact k1 _ _ ⟨(!decide ((a0.2.length : Int) = (a0.1.length : Int))), h0, q0, Z2, hS, a6, a7, rfl, rfl⟩
 rw [if_neg a4] at q0
 refine Z8 rfl rfl (Eq.trans rfl (congrArg (fun b => Value.bool (!b)) (W2 a4))) rfl rfl rfl (Z8 rfl rfl (Eq.trans rfl (congrArg (fun b => Value.bool (!b)) (W2 a4))) rfl rfl rfl (Z8 rfl rfl (Eq.trans rfl (congrArg (fun b => Value.bool (!b)) (W2 a4))) rfl rfl rfl (Z8 rfl rfl (Eq.trans rfl (congrArg (fun b => Value.bool (!b)) (W2 a4))) rfl rfl rfl (Z8 rfl rfl (Eq.trans rfl (congrArg (fun b => Value.bool (!b)) (W2 a4))) rfl rfl rfl (Z8 rfl rfl (Eq.trans rfl (congrArg (fun b => Value.bool (!b)) (W2 a4))) rfl rfl rfl (Z8 rfl rfl (Eq.trans rfl (congrArg (fun b => Value.bool (!b)) (W2 a4))) rfl rfl rfl ?_))))))
 refine V2 (t := true) (Value.bool true) (Eq.trans rfl (congrArg (fun b => Value.bool (!b)) (W2 a4))) ((if_pos rfl).trans rfl) rfl (Z0 ?_)
 exact k1 _ _ ⟨true, h0, q0, Z2, hS, a6, a7, rfl, rfl⟩
def Q4 (K : Nat) (a0 : ((List Int) × (List MpT))) (a3 : Int) : Nat → Int → (List Int) → Option (Ex (((List Int) × (List MpT)) × (List Int) × Int) ((List Int)))
 | 0, _, _ => none
 | k + 1, a1, a4 => (if a1 < (a0.1.length : Int) then (if (rd a0.1 a1) = a3 then (if a4.length + ([a1]).length ≤ 1099511627776 then Q4 K a0 a3 k (a1 + 1) (a4 ++ [a1]) else none) else Q4 K a0 a3 k (a1 + 1) a4) else some (.go a4))
def Q3 (K : Nat) (a0 : ((List Int) × (List MpT))) : Nat → Int → (List Int) → Option (Ex (((List Int) × (List MpT)) × (List Int) × Int) ((List Int)))
 | 0, _, _ => none
 | k + 1, a3, a5 => (if a3 ≤ 12 then ((Q4 K a0 a3 K 0 a5).bind (Ex.elim (fun r => some (.ret r)) (fun s => (fun (b7 : (List Int)) => Q3 K a0 k (IntKind.i64.wrap (a3 + 1)) b7) s))) else some (.go a5))
def Zb8 (K : Nat) (a0 : ((List Int) × (List MpT))) : Option (((List Int) × (List MpT)) × (List Int) × Int) := ((Zo4 K (a0.1, a0.2)).bind fun r7 => (if r7 = true then ((Q3 K a0 K 1 ([] : List Int)).bind (Ex.elim (fun r => some r) (fun s => (fun (b8 : (List Int)) => ((Zb1 K (a0.1, a0.2) b8).bind fun c1 => (if c1.2 = 0 then some ((c1.1.1, c1.1.2), b8, 0) else some ((([] : List Int), ([] : List MpT)), ([] : List Int), c1.2)))) s))) else some ((([] : List Int), ([] : List MpT)), ([] : List Int), 1)))
theorem Zz7 {K : Nat} {a0 : ((List Int) × (List MpT))} {r : (((List Int) × (List MpT)) × (List Int) × Int)} (q0 : Zb8 K a0 = some r) {H : FH} {w : World} {L : OL} {s0 : Value} {s1 : Value} (a8 : Y2 (Y8 .i64) H s0 a0.1) (b5 : Y2 (W0 yT) H s1 a0.2) (hS : St H w L) :
 Calls Tryz.prog 68 #[vA ([s0] ++ [s1])] w (S3 (fun v G => (R.t3 (R.agg (Zo8 (W0 (Y8 .i64)) (W0 (W0 yT)))) (R.sl (Y8 .i64)) (R.int .i64)).p G v r) H L) := by
 have Z2 := Sub.refl H
 refine X2 Tryz.func68 rfl Tryz.ntmps68 rfl ?_
 unfold Zb8 at q0
 refine Z3 (Z1 ?_)
 refine S5 (v := vA ([s0] ++ [s1])) ([s0] ++ [s1]).toArray rfl rfl hS rfl ?_
 intro b1 w2 hS
 refine V0 (z := vA ([vN] ++ [vN])) ([vN] ++ [vN]).toArray Zq3.zero rfl hS rfl ?_
 intro b4 w5 hS
 refine Z5 (vN) rfl rfl (Z5 (vI 0) rfl rfl (Z0 (Z3 (Z3 (Z1 ?_)))))
 refine W1 Q9 rfl (hS.get (mR mL)) rfl rfl ?_
 obtain ⟨r7, h6, q0⟩ := bind_some q0
 refine X0 Tryz.call92 (M0 rfl) rfl (Yq4 h6 a8 b5 hS) ?_
 rintro e7 w8 ⟨_, H7, rfl, f7, hS, rfl⟩
 refine ⟨_, rfl, ?_⟩
 have Z2 := Z2.trans f7
 have a8 := a8.mono f7
 have b5 := b5.mono f7
 refine M1 (b := r7) rfl rfl (Z0 ?_)
 by_cases f1 : r7 = true
 rw [if_pos f1] at q0
 refine Z9 (Eq.trans rfl (congrArg (fun b => Value.bool (!b)) f1)) (Y6 (Z3 (Z1 ?_)))
 refine Ys9 (τ := (Y8 .i64)) S9 ze2 rfl hS rfl ?_
 intro g4 j7 h7 g7 hS
 refine Z5 (g4) rfl rfl (Z0 (Z3 (Z3 (Z1 (Z5 (vI 1) rfl rfl (Z0 (Y7 ?_)))))))
 obtain ⟨f8, c4, d0⟩ := bind_some q0
 refine W7 (id := 0) (fun k f w => ∃ (a3 : Int) (a5 : (List Int)) (H1 : FH) (b0 : OL) (b2 : Value), Q3 K a0 k a3 a5 = some f8 ∧ Sub H H1 ∧ St H1 w (b0 ++ ([(b4, cA ([vN] ++ [vN]) 29)] ++ ([(b1, cA ([s0] ++ [s1]) 29)] ++ L))) ∧ V1 (Y8 .i64) 2 H1 b2 a5 b0 ∧ Y2 (Y8 .i64) H1 s0 a0.1 ∧ Y2 (W0 yT) H1 s1 a0.2 ∧ ev f (.tmp 1) = vP b1 ∧ ev f (.tmp 2) = vP b4 ∧ ev f (.tmp 5) = b2 ∧ ev f (.tmp 6) = vI a3) (fun f w => ∃ (b8 : (List Int)) (H1 : FH) (c7 : OL) (a6 : Value), f8 = .go b8 ∧ Sub H H1 ∧ St H1 w (c7 ++ ([(b4, cA ([vN] ++ [vN]) 29)] ++ ([(b1, cA ([s0] ++ [s1]) 29)] ++ L))) ∧ V1 (Y8 .i64) 2 H1 a6 b8 c7 ∧ Y2 (Y8 .i64) H1 s0 a0.1 ∧ Y2 (W0 yT) H1 s1 a0.2 ∧ ev f (.tmp 1) = vP b1 ∧ ev f (.tmp 2) = vP b4 ∧ ev f (.tmp 5) = a6) rfl ?_ ?_ K ?_ ?_
 rintro f w ⟨a3, a5, H1, b0, b2, c4, _⟩
 rw [Q3] at c4; cases c4
 rintro k i6 i7 h8 h9 ⟨a3, a5, f9, b0, b2, c4, Z2, hS, d3, a8, b5, d6, d7, d8, d9⟩
 rw [Q3] at c4
 refine Z3 (Z3 (Z1 (Z4 (vI a3) (by exact d9) rfl ?_)))
 refine Yb3 (k := .i64) (a := a3) (b := 12) rfl rfl rfl (Z0 ?_)
 by_cases e1 : a3 ≤ 12
 rw [if_pos e1] at c4
 refine Y0 (bT e1 rfl) (Y6 (Z3 (Y7 (Z3 (Z1 (Z5 (vI 0) rfl rfl (Z0 (Y7 ?_))))))))
 obtain ⟨g0, a9, g1⟩ := bind_some c4
 refine W7 (id := 2) (fun k f w => ∃ (a1 : Int) (a4 : (List Int)) (H1 : FH) (b3 : OL) (a7 : Value), Q4 K a0 a3 k a1 a4 = some g0 ∧ Sub H H1 ∧ St H1 w (b3 ++ ([(b4, cA ([vN] ++ [vN]) 29)] ++ ([(b1, cA ([s0] ++ [s1]) 29)] ++ L))) ∧ 0 ≤ a1 ∧ V1 (Y8 .i64) 2 H1 a7 a4 b3 ∧ Y2 (Y8 .i64) H1 s0 a0.1 ∧ Y2 (W0 yT) H1 s1 a0.2 ∧ ev f (.tmp 1) = vP b1 ∧ ev f (.tmp 2) = vP b4 ∧ ev f (.tmp 5) = a7 ∧ ev f (.tmp 6) = vI a3 ∧ ev f (.tmp 7) = vI a1) (fun f w => ∃ (b7 : (List Int)) (H1 : FH) (c2 : OL) (c3 : Value), g0 = .go b7 ∧ Sub H H1 ∧ St H1 w (c2 ++ ([(b4, cA ([vN] ++ [vN]) 29)] ++ ([(b1, cA ([s0] ++ [s1]) 29)] ++ L))) ∧ V1 (Y8 .i64) 2 H1 c3 b7 c2 ∧ Y2 (Y8 .i64) H1 s0 a0.1 ∧ Y2 (W0 yT) H1 s1 a0.2 ∧ ev f (.tmp 1) = vP b1 ∧ ev f (.tmp 2) = vP b4 ∧ ev f (.tmp 5) = c3 ∧ ev f (.tmp 6) = vI a3) rfl ?_ ?_ K ?_ ?_
 rintro f w ⟨a1, a4, H1, b3, a7, a9, _⟩
 rw [Q4] at a9; cases a9
 rintro k i8 i9 g5 i0 ⟨a1, a4, g2, b3, a7, a9, Z2, hS, i1, b6, a8, b5, c5, d4, d5, c8, c6⟩
 rw [Q4] at a9
 refine Z3 (Z3 (Z1 (Z4 (vI a1) (by exact c6) rfl (Y3 R5 (by exact c5) rfl ?_))))
 refine Y4 (s0) J7 rfl (hS.get (mR (mR mL))) rfl rfl ?_
 have j0 := a8.bound
 refine W6 S9 rfl a8 rfl ?_
 refine U2 (k := .i64) (a := a1) (b := (a0.1.length : Int)) rfl rfl rfl (Z0 ?_)
 by_cases e2 : a1 < (a0.1.length : Int)
 rw [if_pos e2] at a9
 refine Y0 (bT e2 rfl) (Y6 (Z3 (Y7 (Z3 (Z1 (Y3 R5 (by exact c5) rfl ?_))))))
 refine Y4 (s0) J7 rfl (hS.get (mR (mR mL))) rfl rfl (Z4 (vI a1) (by exact c6) rfl ?_)
 obtain ⟨j8, j9, j1, k0, _, g8, g9, rfl, h0⟩ := a8.elem (i := a1) (by omega) (by omega)
 refine W3 S9 rfl rfl g8 rfl (by omega) (by omega) rfl ?_
 refine Y4 (vI (rd a0.1 a1)) ty2 rfl (hS.froz _ _ g9) (h0 0 (show 0 < 1 by decide)) rfl (Z4 (vI a3) (by exact c8) rfl ?_)
 refine Zd3 (k := .i64) (a := (rd a0.1 a1)) (b := a3) rfl rfl rfl (Z0 ?_)
 by_cases e3 : (rd a0.1 a1) = a3
 rw [if_pos e3] at a9
 refine Y0 (bT e3 rfl) (Z1 (Z4 (a7) (by exact d5) rfl (Z4 (vI a1) (by exact c6) rfl ?_)))
 refine Zk6 (τ := (Y8 .i64)) S9 ze2 rfl [vI a1] [a1] rfl rfl (Zc3 rfl) (Zq5 rfl) (by decide) (by decide) hS rfl ?_
 intro k1 i2 k2 e4 hS h1
 have Z2 := Z2.trans e4
 have a8 := a8.mono e4
 have b5 := b5.mono e4
 have b6 := b6.mono e4
 obtain ⟨h2, a9⟩ := gd a9
 refine Za8 (τ := (Y8 .i64)) Xa3 rfl rfl rfl b6 hS h1 h2 rfl ?_
 intro g6 k3 i3 h3 hS
 refine Z5 (g6) rfl rfl (Z0 (X3 (Z1 (Z4 (vI a1) (by exact c6) rfl ?_))))
 refine W8 (a1 + 1) rfl rfl (IntWalk.i64_in _ (by omega)) rfl (Z5 (vI (a1 + 1)) rfl rfl (Z0 ?_))
 exact g5 _ _ ⟨(a1 + 1), (a4 ++ [a1]), i2, i3, g6, a9, Z2, hS, (by omega), h3, a8, b5, c5, d4, rfl, c8, rfl⟩
 rw [if_neg e3] at a9
 refine Z9 (bF e3 rfl) (Y6 (X3 (Z1 (Z4 (vI a1) (by exact c6) rfl ?_))))
 refine W8 (a1 + 1) rfl rfl (IntWalk.i64_in _ (by omega)) rfl (Z5 (vI (a1 + 1)) rfl rfl (Z0 ?_))
 exact g5 _ _ ⟨(a1 + 1), a4, g2, b3, a7, a9, Z2, hS, (by omega), b6, a8, b5, c5, d4, d5, c8, rfl⟩
 rw [if_neg e2] at a9
 refine Z9 (bF e2 rfl) ?_
 refine W4 rfl ?_
 have hz := Option.some.inj a9
 subst hz
 exact i0 _ _ ⟨a4, g2, b3, a7, rfl, Z2, hS, b6, a8, b5, c5, d4, d5, c8⟩
 exact ⟨0, a5, f9, b0, b2, a9, Z2, hS, (by omega), d3, a8, b5, d6, d7, d8, d9, rfl⟩
 rintro j2 j3 ⟨b7, h4, c2, c3, rfl, Z2, hS, e5, a8, b5, f2, f3, f4, f5⟩
 dsimp only [Ex.elim] at g1
 refine X3 (Z1 (Z4 (vI a3) (by exact f5) rfl ?_))
 refine W8 (IntKind.i64.wrap (a3 + 1)) rfl rfl rfl rfl (Z5 (vI (IntKind.i64.wrap (a3 + 1))) rfl rfl (Z0 ?_))
 exact h8 _ _ ⟨(IntKind.i64.wrap (a3 + 1)), b7, h4, c2, c3, g1, Z2, hS, e5, a8, b5, f2, f3, f4, rfl⟩
 rw [if_neg e1] at c4
 refine Z9 (bF e1 rfl) ?_
 refine W4 rfl ?_
 have hz := Option.some.inj c4
 subst hz
 exact h9 _ _ ⟨a5, f9, b0, b2, rfl, Z2, hS, d3, a8, b5, d6, d7, d8⟩
 exact ⟨1, ([] : List Int), H7, h7, g4, c4, Z2, hS, g7, a8, b5, rfl, rfl, rfl, rfl⟩
 rintro j4 j5 ⟨b8, j6, c7, a6, rfl, Z2, hS, e6, a8, b5, f6, c9, e0⟩
 dsimp only [Ex.elim] at d0
 refine Z3 (Z1 ?_)
 refine W1 Q9 (by exact f6) (hS.get (mR (mR mL))) rfl rfl (Z4 (a6) (by exact e0) rfl ?_)
 obtain ⟨k4, f0, hS, e8⟩ := e6.freeze hS
 have Z2 := Z2.trans f0
 have a8 := a8.mono f0
 have b5 := b5.mono f0
 obtain ⟨c1, h5, d0⟩ := bind_some d0
 refine X0 Tryz.call153 (T0 rfl rfl) rfl (Yd3 h5 a8 b5 e8 hS) ?_
 rintro k5 k6 ⟨_, k7, rfl, g3, hS, ⟨i4, i5, rfl, ⟨_, rfl, ⟨_, _, rfl, ⟨b9, rfl, d1⟩, ⟨c0, rfl, d2⟩⟩⟩, rfl⟩⟩
 refine ⟨_, rfl, ?_⟩
 have Z2 := Z2.trans g3
 have e8 := e8.mono g3
 refine Z4 (Value.tuple #[vA ([b9] ++ [c0]), vI c1.2]) rfl rfl (V5 (vA ([b9] ++ [c0])) rfl rfl rfl (V5 (vI c1.2) rfl rfl rfl ?_))
 refine V0 (z := vA ([vN] ++ [vN])) ([vN] ++ [vN]).toArray Zq3.zero rfl hS rfl ?_
 intro k8 k9 hS
 refine X8 (v := vA ([b9] ++ [c0])) (vs := ([b9] ++ [c0]).toArray) (cs := ([vN] ++ [vN]).toArray) Q9 rfl rfl rfl hS rfl (L8 (S2 d1.isOne) (S2 d2.isOne)) rfl ?_
 intro l0 hS
 refine Z5 (vI c1.2) rfl rfl (Z0 (Z3 (Z3 (Z1 (Z4 (vI c1.2) rfl rfl ?_)))))
 refine K9 (k := .i64) (a := c1.2) (b := 0) rfl rfl rfl (Z0 ?_)
 by_cases e9 : c1.2 = 0
 rw [if_pos e9] at d0
 refine Z9 (bN e9 rfl) (Y6 (Z3 (Z1 ?_)))
 refine W1 Q9 rfl (hS.get mL) rfl rfl (Z4 (a6) (by exact e0) rfl ?_)
 have hS := hS.perm U1
 refine X8 (v := vA ([b9] ++ [c0])) (vs := ([b9] ++ [c0]).toArray) (cs := ([vN] ++ [vN]).toArray) Q9 (by exact c9) rfl rfl hS rfl (L8 (S2 d1.isOne) (S2 d2.isOne)) rfl ?_
 intro l1 hS
 have hS := hS.perm U1.symm
 refine Z5 (a6) rfl rfl (Z5 (vI 0) rfl rfl (Z0 ?_))
 refine Y9 (vs := [vA ([b9] ++ [c0]), a6, vI 0]) Tryz.func68 ⟨⟨_, (by exact c9), U6 Q9 (hS.get (mR mL)) rfl⟩, rfl, rfl, trivial⟩ ?_
 have hz := Option.some.inj d0
 subst hz
 exact ⟨_, _, rfl, Z2, (St.dropA (St.dropA (St.dropA hS))), ⟨_, _, _, rfl, ⟨_, rfl, ⟨_, _, rfl, ⟨_, rfl, d1⟩, ⟨_, rfl, d2⟩⟩⟩, e8, rfl⟩⟩
 rw [if_neg e9] at d0
 refine Y0 (bO e9 rfl) (Z3 (Z1 ?_))
 refine Q6 (vA ([vN] ++ [vN])) Yp6 rfl (Z4 (vI c1.2) rfl rfl ?_)
 have hS := hS.perm U1
 refine X8 (v := vA ([vN] ++ [vN])) (vs := ([vN] ++ [vN]).toArray) (cs := ([vN] ++ [vN]).toArray) Q9 (by exact c9) rfl rfl hS rfl (L8 (S2 rfl) (S2 rfl)) rfl ?_
 intro l2 hS
 have hS := hS.perm U1.symm
 refine Z5 (vN) rfl rfl (Z5 (vI c1.2) rfl rfl (Z0 ?_))
 refine Y9 (vs := [vA ([vN] ++ [vN]), vN, vI c1.2]) Tryz.func68 ⟨⟨_, (by exact c9), U6 Q9 (hS.get (mR mL)) rfl⟩, rfl, rfl, trivial⟩ ?_
 have hz := Option.some.inj d0
 subst hz
 exact ⟨_, _, rfl, Z2, (St.dropA (St.dropA (St.dropA hS))), ⟨_, _, _, rfl, ⟨_, rfl, ⟨_, _, rfl, ⟨_, rfl, Y2.nil⟩, ⟨_, rfl, Y2.nil⟩⟩⟩, Y2.nil, rfl⟩⟩
 rw [if_neg f1] at q0
 refine Y0 (Eq.trans rfl (congrArg (fun b => Value.bool (!b)) (W2 f1))) (Z3 (Z1 ?_))
 refine Q6 (vA ([vN] ++ [vN])) Yp6 rfl ?_
 refine X8 (v := vA ([vN] ++ [vN])) (vs := ([vN] ++ [vN]).toArray) (cs := ([vN] ++ [vN]).toArray) Q9 rfl rfl rfl hS rfl (L8 (S2 rfl) (S2 rfl)) rfl ?_
 intro l3 hS
 refine Z5 (vN) rfl rfl (Z5 (vI 1) rfl rfl (Z0 ?_))
 refine Y9 (vs := [vA ([vN] ++ [vN]), vN, vI 1]) Tryz.func68 ⟨⟨_, rfl, U6 Q9 (hS.get mL) rfl⟩, rfl, rfl, trivial⟩ ?_
 have hz := Option.some.inj q0
 subst hz
 exact ⟨_, _, rfl, Z2, (St.dropA (St.dropA hS)), ⟨_, _, _, rfl, ⟨_, rfl, ⟨_, _, rfl, ⟨_, rfl, Y2.nil⟩, ⟨_, rfl, Y2.nil⟩⟩⟩, Y2.nil, rfl⟩⟩
def M2 (K : Nat) (a2 : (List Int)) : Nat → Int → (List MpT) → Option (Ex MpT ((List MpT)))
 | 0, _, _ => none
 | k + 1, a4, a6 => (if a4 < (a2.length : Int) then (if (rd a2 a4) < 0 then (if a6.length + ([([] : MpT)]).length ≤ 1099511627776 then M2 K a2 k (a4 + 1) (a6 ++ [([] : MpT)]) else none) else ((Zh5 K (rd a2 a4)).bind fun d4 => (if a6.length + ([(D5 ([] : MpT) d4 1)]).length ≤ 1099511627776 then M2 K a2 k (a4 + 1) (a6 ++ [(D5 ([] : MpT) d4 1)]) else none))) else some (.go a6))
def Zf8 (K : Nat) (a0 : (List Int)) (a1 : MpT) (a2 : (List Int)) (a3 : (List Int)) : Option MpT := ((M2 K a2 K 0 ([] : List MpT)).bind (Ex.elim (fun r => some r) (fun s => (fun (b4 : (List MpT)) => ((G5 K (a0, a3, b4) a1).bind fun e7 => some e7)) s)))
theorem Yg8 {K : Nat} {a0 : (List Int)} {a1 : MpT} {a2 : (List Int)} {a3 : (List Int)} {r : MpT} (q0 : Zf8 K a0 a1 a2 a3 = some r) {H : FH} {w : World} {L : OL} {s0 : Value} {s1 : Value} {s2 : Value} {s3 : Value} (a8 : Y2 (Y8 .i64) H s0 a0) (b0 : R8 .i64 H s1 a1) (b3 : Y2 (Y8 .i64) H s2 a2) (a9 : Y2 (Y8 .i64) H s3 a3) (hS : St H w L) :
 Calls Tryz.prog 89 #[s0, s1, s2, s3] w (Yl2 .i64 r H L) := by
 have Z2 := Sub.refl H
 refine X2 Tryz.func89 rfl Tryz.ntmps89 rfl ?_
 unfold Zf8 at q0
 refine Z3 (Z1 (Z5 (Value.map none) rfl rfl (Z0 (Z3 (Z1 ?_)))))
 refine Ys9 (τ := (Zw9 .i64)) Yy5 Xm3 rfl hS rfl ?_
 intro u1 w2 C3 h1 hS
 refine Z5 (u1) rfl rfl (Z0 (Z3 (Z3 (Z1 (Z4 (s2) rfl rfl ?_)))))
 have i6 := b3.bound
 refine W6 Yr5 rfl b3 rfl (Z4 (vI 0) rfl rfl (Z0 (Y7 ?_)))
 obtain ⟨e6, a7, d5⟩ := bind_some q0
 refine W7 (id := 0) (fun k f w => ∃ (a4 : Int) (a6 : (List MpT)) (H1 : FH) (b5 : OL) (b2 : Value), M2 K a2 k a4 a6 = some e6 ∧ Sub H H1 ∧ St H1 w (b5 ++ L) ∧ 0 ≤ a4 ∧ V1 (Zw9 .i64) 109 H1 b2 a6 b5 ∧ Y2 (Y8 .i64) H1 s0 a0 ∧ R8 .i64 H1 s1 a1 ∧ Y2 (Y8 .i64) H1 s2 a2 ∧ Y2 (Y8 .i64) H1 s3 a3 ∧ ev f (.tmp 0) = s0 ∧ ev f (.tmp 1) = s1 ∧ ev f (.tmp 3) = s3 ∧ ev f (.tmp 9) = b2 ∧ ev f (.tmp 14) = s2 ∧ ev f (.tmp 15) = vI (a2.length : Int) ∧ ev f (.tmp 16) = vI a4) (fun f w => ∃ (b4 : (List MpT)) (H1 : FH) (b7 : OL) (b1 : Value), e6 = .go b4 ∧ Sub H H1 ∧ St H1 w (b7 ++ L) ∧ V1 (Zw9 .i64) 109 H1 b1 b4 b7 ∧ Y2 (Y8 .i64) H1 s0 a0 ∧ R8 .i64 H1 s1 a1 ∧ Y2 (Y8 .i64) H1 s3 a3 ∧ ev f (.tmp 0) = s0 ∧ ev f (.tmp 1) = s1 ∧ ev f (.tmp 3) = s3 ∧ ev f (.tmp 9) = b1) rfl ?_ ?_ K ?_ ?_
 rintro f w ⟨a4, a6, H1, b5, b2, a7, _⟩
 rw [M2] at a7; cases a7
 rintro k i1 i2 e8 h2 ⟨a4, a6, f4, b5, b2, a7, Z2, hS, h0, a5, a8, b0, b3, a9, c2, c3, c4, c5, b9, c0, b6⟩
 rw [M2] at a7
 refine Z3 (Z1 ?_)
 refine U2 (k := .i64) (a := a4) (b := (a2.length : Int)) (by exact b6) (by exact c0) rfl (Z0 (Z3 ?_))
 by_cases e0 : a4 < (a2.length : Int)
 rw [if_pos e0] at a7
 refine Y0 (bT e0 rfl) (Y6 (Z3 (Y7 (Z3 (Z1 ?_)))))
 obtain ⟨b8, o8, i7, E8, _, h3, h4, rfl, h5⟩ := b3.elem (i := a4) (by omega) (by omega)
 refine W3 Yr5 rfl (by exact b9) h3 (by exact b6) (by omega) (by omega) rfl ?_
 refine Y4 (vI (rd a2 a4)) ty3 rfl (hS.froz _ _ h4) (h5 0 (show 0 < 1 by decide)) rfl (Z5 (vI (rd a2 a4)) rfl rfl (Z0 (Z3 (Z1 (Z4 (vI (rd a2 a4)) rfl rfl ?_)))))
 refine U2 (k := .i64) (a := (rd a2 a4)) (b := 0) rfl rfl rfl (Z0 ?_)
 by_cases e1 : (rd a2 a4) < 0
 rw [if_pos e1] at a7
 refine Y0 (bT e1 rfl) (Z1 (Z4 (b2) (by exact c5) rfl ?_))
 refine Zo6 (k := .i64) hS rfl ?_
 intro h6 i8 i9 f5 hS
 obtain ⟨j0, c6, hS, f6⟩ := f5.freeze hS
 have Z2 := Z2.trans c6
 have a8 := a8.mono c6
 have b0 := b0.mono c6
 have a9 := a9.mono c6
 have b3 := b3.mono c6
 have a5 := a5.mono c6
 refine Zk6 (τ := (Zw9 .i64)) Yy5 Xm3 rfl [h6] [([] : MpT)] rfl rfl (Zc3 rfl) (Zq5 f6.relv) (by decide) (by decide) hS rfl ?_
 intro j1 h7 j2 c7 hS f7
 have Z2 := Z2.trans c7
 have a8 := a8.mono c7
 have b0 := b0.mono c7
 have a9 := a9.mono c7
 have b3 := b3.mono c7
 have a5 := a5.mono c7
 obtain ⟨f8, a7⟩ := gd a7
 refine Za8 (τ := (Zw9 .i64)) Xx3 rfl rfl rfl a5 hS f7 f8 rfl ?_
 intro e9 j3 h8 f9 hS
 refine Z5 (e9) rfl rfl (Z0 (X3 (Z1 ?_)))
 refine W8 (a4 + 1) (by exact b6) rfl (IntWalk.i64_in _ (by omega)) rfl (Z4 (vI (a4 + 1)) rfl rfl (Z0 ?_))
 exact e8 _ _ ⟨(a4 + 1), (a6 ++ [([] : MpT)]), h7, h8, e9, a7, Z2, hS, (by omega), f9, a8, b0, b3, a9, c2, c3, c4, rfl, b9, c0, rfl⟩
 rw [if_neg e1] at a7
 refine Z9 (bF e1 rfl) (Z1 (Z4 (b2) (by exact c5) rfl ?_))
 refine Zo6 (k := .i64) hS rfl ?_
 intro f0 j4 j5 d8 hS
 refine Z4 (vI (rd a2 a4)) rfl rfl ?_
 obtain ⟨d4, g0, a7⟩ := bind_some a7
 refine X0 Tryz.call151 (M0 rfl) rfl (Yh8 g0  hS) ?_
 rintro j6 j7 ⟨j8, j9, rfl, c1, hS, ⟨_, rfl, rfl⟩⟩
 refine ⟨_, rfl, ?_⟩
 have Z2 := Z2.trans c1
 have a8 := a8.mono c1
 have b0 := b0.mono c1
 have a9 := a9.mono c1
 have b3 := b3.mono c1
 have a5 := a5.mono c1
 have d8 := d8.mono c1
 refine Ye5 (a := d4) (m := 1) Zj6 rfl rfl rfl d8 hS ?_
 intro k0 k1 g1 hS
 refine Z4 (f0) rfl rfl ?_
 obtain ⟨k2, c8, hS, g2⟩ := g1.freeze hS
 have Z2 := Z2.trans c8
 have a8 := a8.mono c8
 have b0 := b0.mono c8
 have a9 := a9.mono c8
 have b3 := b3.mono c8
 have a5 := a5.mono c8
 refine Zk6 (τ := (Zw9 .i64)) Yy5 Xm3 rfl [f0] [(D5 ([] : MpT) d4 1)] rfl rfl (Zc3 rfl) (Zq5 g2.relv) (by decide) (by decide) hS rfl ?_
 intro k3 h9 k4 c9 hS g3
 have Z2 := Z2.trans c9
 have a8 := a8.mono c9
 have b0 := b0.mono c9
 have a9 := a9.mono c9
 have b3 := b3.mono c9
 have a5 := a5.mono c9
 obtain ⟨g4, a7⟩ := gd a7
 refine Za8 (τ := (Zw9 .i64)) Xx3 rfl rfl rfl a5 hS g3 g4 rfl ?_
 intro f1 k5 i0 g5 hS
 refine Z5 (f1) rfl rfl (Z0 (X3 (Z1 ?_)))
 refine W8 (a4 + 1) (by exact b6) rfl (IntWalk.i64_in _ (by omega)) rfl (Z4 (vI (a4 + 1)) rfl rfl (Z0 ?_))
 exact e8 _ _ ⟨(a4 + 1), (a6 ++ [(D5 ([] : MpT) d4 1)]), h9, i0, f1, a7, Z2, hS, (by omega), g5, a8, b0, b3, a9, c2, c3, c4, rfl, b9, c0, rfl⟩
 rw [if_neg e0] at a7
 refine Z9 (bF e0 rfl) ?_
 refine W4 rfl ?_
 have hz := Option.some.inj a7
 subst hz
 exact h2 _ _ ⟨a6, f4, b5, b2, rfl, Z2, hS, a5, a8, b0, a9, c2, c3, c4, c5⟩
 exact ⟨0, ([] : List MpT), H, C3, u1, a7, Z2, hS, (by omega), h1, a8, b0, b3, a9, rfl, rfl, rfl, rfl, rfl, rfl, rfl⟩
 rintro i3 i4 ⟨b4, i5, b7, b1, rfl, Z2, hS, d1, a8, b0, a9, e2, e3, e4, e5⟩
 dsimp only [Ex.elim] at d5
 refine Z3 (Z1 (Z4 (s0) (by exact e2) rfl (Z4 (s3) (by exact e4) rfl (Z4 (b1) (by exact e5) rfl ?_))))
 refine Yg2 hS rfl ?_
 intro d6 k6 hS
 refine Zp8 ([s0] ++ ([s3] ++ ([b1] ++ [(Value.map (some d6))]))) Wh9 (Wc6 rfl rfl rfl rfl) (G9 rfl a8.cellsL rfl (Nat.le_of_ble_eq_true rfl) (G9 rfl a9.cellsL rfl (Nat.le_of_ble_eq_true rfl) (G9 rfl d1.cellsL rfl (Nat.le_of_ble_eq_true rfl) (G9 rfl rfl rfl (Nat.le_of_ble_eq_true rfl) (Zm1 rfl))))) rfl ?_
 refine S5 (v := vA ([s0] ++ ([s3] ++ ([b1] ++ [(Value.map (some d6))])))) ([s0] ++ ([s3] ++ ([b1] ++ [(Value.map (some d6))]))).toArray rfl rfl hS rfl ?_
 intro f2 k7 hS
 refine Z5 (vP f2) rfl rfl (Z0 (Z3 (Z1 (Z4 (vP f2) rfl rfl (Z4 (s1) (by exact e3) rfl ?_)))))
 have hS := hS.perm C2
 obtain ⟨k8, d7, hS, d2⟩ := d1.freeze hS
 have Z2 := Z2.trans d7
 have b0 := b0.mono d7
 have a8 := a8.mono d7
 have a9 := a9.mono d7
 have hS := hS.perm U1
 obtain ⟨k9, d3, hS, d9⟩ := St.toMemo hS K (a0, a3, b4)
 have Z2 := Z2.trans d3
 have b0 := b0.mono d3
 have a8 := a8.mono d3
 have a9 := a9.mono d3
 have d2 := d2.mono d3
 obtain ⟨l0, d0, hS, g6⟩ := St.freezeBox hS
 have Z2 := Z2.trans d0
 have b0 := b0.mono d0
 have a8 := a8.mono d0
 have a9 := a9.mono d0
 have d2 := d2.mono d0
 have d9 := d9.mono d0
 obtain ⟨e7, g7, d5⟩ := bind_some d5
 refine X0 Tryz.call117 (T0 rfl rfl) rfl (Yd4 g7 ⟨_, _, _, _, _, rfl, g6, ⟨_, _, _, _, rfl, a8, a9, d2, d9⟩, (Zq1 ([s0] ++ ([s3] ++ ([b1] ++ [(Value.map (some d6))]))) 4)⟩ b0 hS) ?_
 rintro l1 l2 ⟨f3, l3, l4, rfl, g8, hS, g9⟩
 refine ⟨_, rfl, ?_⟩
 have Z2 := Z2.trans g8
 refine Z5 (f3) rfl rfl (Z0 ?_)
 refine Y9 (vs := [f3]) Tryz.func89 ⟨rfl, trivial⟩ ?_
 have hz := Option.some.inj d5
 subst hz
 exact ⟨_, _, _, rfl, Z2, hS, g9⟩
end Go.Proofs.YtfodlhkoafhplaaGreat
