/- Walks of functions: each computes its pure function, if that gives a value. -/
import Derived.Test.YtfodlhkoafhplaaGreatWTy
import Derived.Test.YtfodlhkoafhplaaGreatWF6
import Derived.Test.YtfodlhkoafhplaaGreatWF11
import Derived.Test.YtfodlhkoafhplaaGreatWF8
import Derived.Test.YtfodlhkoafhplaaGreatWF7
import Derived.Test.YtfodlhkoafhplaaGreatWF12
namespace Go.Proofs.YtfodlhkoafhplaaGreat
open Go
set_option linter.unusedSimpArgs false
set_option linter.unusedVariables false
set_option maxRecDepth 100000
set_option maxHeartbeats 8000000
def J8 (K : Nat) (a0 : ((List Int) × (List MpT))) : Nat → Int → Option (Ex Bool (Unit))
 | 0, _ => none
 | k + 1, b0 => (if b0 < (a0.2.length : Int) then ((Zq5 K (a0.1, a0.2) (rd a0.2 b0)).bind fun b5 => (if 0 < (b5.length : Int) then some (.ret false) else J8 K a0 k (b0 + 1))) else some (.go ()))
def I4 (K : Nat) (a0 : ((List Int) × (List MpT))) : Nat → Int → Option (Ex Bool (Unit))
 | 0, _ => none
 | k + 1, a1 => (if a1 < (a0.2.length : Int) then ((Zg8 K a0.1 (rd a0.2 a1)).bind fun c6 => (if c6 = true then ((Zg1 K a0.1 (rd a0.2 a1)).bind fun a5 => (if a5.2 = true then (if 0 < ((rd a0.2 a1).length : Int) then (if a1 < (a0.1.length : Int) then (if a5.1 = (IntKind.i64.wrap ((rd a0.1 a1) + 1)) then I4 K a0 k (a1 + 1) else some (.ret false)) else none) else I4 K a0 k (a1 + 1)) else some (.ret false))) else some (.ret false))) else some (.go ()))
def Zl8 (K : Nat) (a0 : ((List Int) × (List MpT))) (b3 : Bool) : Option Bool := (if b3 = true then some false else ((I4 K a0 K 0).bind (Ex.elim (fun r => some r) (fun s => ((J8 K a0 K 0).bind (Ex.elim (fun r => some r) (fun s => some true)))))))
def Zs5 (K : Nat) (a0 : ((List Int) × (List MpT))) : Option Bool := ((Zh9 K a0.1).bind fun c7 => (if c7 = true then Zl8 K a0 (!decide ((a0.2.length : Int) = (a0.1.length : Int))) else Zl8 K a0 true))
theorem Yv7 {K : Nat} {a0 : ((List Int) × (List MpT))} {r : Bool} (q0 : Zs5 K a0 = some r) {H : FH} {w : World} {L : OL} {s0 : Value} {s1 : Value} (a6 : Y3 (X3 .i64) H s0 a0.1) (a7 : Y3 (X6 yT) H s1 a0.2) (hS : St H w L) :
 Calls Tryz.prog 92 #[vA ([s0] ++ [s1])] w (T6 (fun v G => R.bool.p G v r) H L) := by
 have Z2 := Sub.refl H
 refine X0 Tryz.func92 rfl Tryz.ntmps92 rfl ?_
 unfold Zs5 at q0
 refine Z3 (Z1 ?_)
 refine T7 (v := vA ([s0] ++ [s1])) ([s0] ++ [s1]).toArray rfl rfl hS rfl ?_
 intro b1 w2 hS
 refine Z6 (Value.bool false) rfl rfl (Z0 (Z3 (Z3 ?_)))
 refine E9 (fun f w => ∃ (b3 : Bool) (H1 : FH), Zl8 K a0 b3 = some r ∧ Sub H H1 ∧ St H1 w ([(b1, cA ([s0] ++ [s1]) 29)] ++ L) ∧ Y3 (X3 .i64) H1 s0 a0.1 ∧ Y3 (X6 yT) H1 s1 a0.2 ∧ ev f (.tmp 1) = vP b1 ∧ ev f (.tmp 19) = Value.bool b3) ?_ ?_
 rintro fj1 p6 ⟨b3, h5, e0, Z2, hS, a6, a7, g0, c9⟩
 unfold Zl8 at e0
 by_cases e6 : b3 = true
 rw [if_pos e6] at e0
 refine Y0 (Eq.trans (by exact c9) (congrArg Value.bool e6)) (Z3 (Z1 (Z6 (Value.bool false) rfl rfl (Z0 ?_))))
 refine Y9 (vs := [Value.bool false]) Tryz.func92 ⟨rfl, trivial⟩ ?_
 have hz := Option.some.inj e0
 subst hz
 exact ⟨_, _, rfl, Z2, (St.dropA hS), rfl⟩
 rw [if_neg e6] at e0
 refine Z9 (Eq.trans (by exact c9) (congrArg Value.bool (W2 e6))) (Y6 (Z3 (Z3 (Z1 (Z6 (vI 0) rfl rfl (Z0 (Y7 ?_)))))))
 obtain ⟨g1, a4, b6⟩ := bind_some e0
 refine W7 (id := 0) (fun k f w => ∃ (a1 : Int) (H1 : FH), I4 K a0 k a1 = some g1 ∧ Sub H H1 ∧ St H1 w ([(b1, cA ([s0] ++ [s1]) 29)] ++ L) ∧ 0 ≤ a1 ∧ Y3 (X3 .i64) H1 s0 a0.1 ∧ Y3 (X6 yT) H1 s1 a0.2 ∧ ev f (.tmp 1) = vP b1 ∧ ev f (.tmp 3) = vI a1) (fun f w => ∃ (H1 : FH), g1 = .go () ∧ Sub H H1 ∧ St H1 w ([(b1, cA ([s0] ++ [s1]) 29)] ++ L) ∧ Y3 (X3 .i64) H1 s0 a0.1 ∧ Y3 (X6 yT) H1 s1 a0.2 ∧ ev f (.tmp 1) = vP b1) rfl ?_ ?_ K ?_ ?_
 rintro f w ⟨a1, H1, a4, _⟩
 rw [I4] at a4; cases a4
 rintro k v3 v4 l5 o4 ⟨a1, l7, a4, Z2, hS, o5, a6, a7, b4, b8⟩
 rw [I4] at a4
 refine Z3 (Z3 (Z1 (Z4 (vI a1) (by exact b8) rfl (Y2 N5 (by exact b4) rfl ?_))))
 refine Y4 (s1) Zd8 rfl (hS.get mL) rfl rfl ?_
 have bl5 := a7.bound
 refine W6 J2 rfl a7 rfl ?_
 refine U5 (k := .i64) (a := a1) (b := (a0.2.length : Int)) rfl rfl rfl (Z0 ?_)
 by_cases e7 : a1 < (a0.2.length : Int)
 rw [if_pos e7] at a4
 refine Y0 (bT e7 rfl) (Y6 (Z3 (Y7 (Z3 (Z3 ?_)))))
 obtain ⟨o6, o7, v5, E62, _, l9, e3, ⟨e8, rfl, c8⟩, m0⟩ := a7.elem (i := a1) (by omega) (by omega)
 obtain ⟨c6, m1, a4⟩ := bind_some a4
 refine V4 9 (R9 [(27, MP.eq (vP b1)), (28, MP.eq (s0)), (29, MP.eq (vQ b1 1)), (30, MP.eq (s1)), (31, MP.eq (vI a1)), (32, MP.eq (Value.pointer (some ⟨o6, o7, none⟩))), (33, MP.eq (vA ([e8]))), (34, MP.eq (Value.bool c6)), (35, MP.eq (Value.bool (!c6)))]) [] mixed rfl rfl rfl hS (Z5 rfl ?_ (Z5 rfl ?_ (Z5 rfl ?_ (Z5 rfl ?_ (Z5 rfl ?_ (Z5 rfl ?_ (Z5 rfl ?_ (Z5 rfl ?_ (Z5 rfl ?_ V9))))))))) ?_
 intro f7 w8 H9 X10 v6 hS m2 v7 hcq
 refine Y2 R4 (evT (m2 1 rfl) b4) rfl ?_
 exact qn (.refl _) rfl hS rfl
 intro f16 w17 H18 X19 v8 hS v9 m3 hcq
 refine Y4 (s0) J3 (eM (m3 0 27 rfl rfl)) (hS.get (mR mL)) rfl rfl ?_
 exact qn (.refl _) rfl hS rfl
 intro f25 w26 H27 X28 w0 hS m4 w1 hcq
 refine Y2 N5 (evT (m4 1 rfl) b4) rfl ?_
 exact qn (.refl _) rfl hS rfl
 intro f34 w35 H36 X37 w3 hS w4 m5 hcq
 refine Y4 (s1) Zd8 (eM (m5 2 29 rfl rfl)) (hS.get (mR mL)) rfl rfl ?_
 exact qn (.refl _) rfl hS rfl
 intro f43 w44 H45 X46 w5 hS m6 w6 hcq
 refine Z4 (vI a1) (evT (m6 3 rfl) b8) rfl ?_
 exact qn (.refl _) rfl hS rfl
 intro f52 w53 H54 X55 w7 hS w9 g2 hcq
 refine W3 J2 rfl (eM (g2 3 30 rfl rfl)) l9 (eM (g2 4 31 rfl rfl)) (by omega) (by omega) rfl ?_
 exact qn (.refl _) rfl hS rfl
 intro f63 w64 H65 X66 m7 hS x0 m8 hcq
 have e3 := m7.1 _ _ e3
 refine V5 ([e8]) U7 (eM (m8 5 32 rfl rfl)) (hS.froz _ _ e3) rfl m0 rfl ?_
 exact qn (.refl _) rfl hS rfl
 intro f72 w73 H74 X75 g3 hS x1 g4 hcq
 have a6 := a6.mono g3
 have c8 := c8.mono g3
 refine Y8 Tryz.call113 (T0 (eM (g4 1 28 rfl rfl)) (eM (g4 6 33 rfl rfl))) rfl (Zw3 m1 a6 c8 hS) ?_
 rintro e82 w83 ⟨_, H82, rfl, m9, hS, rfl⟩
 refine ⟨_, rfl, ?_⟩
 exact qn m9 rfl hS rfl
 intro f84 w85 H86 X87 x2 hS x3 n0 hcq
 refine N7 (b := c6) (eM (n0 7 34 rfl rfl)) rfl ?_
 exact qn (.refl _) rfl hS rfl
 intro o8 o9 p0 e4 hS g5 n1 hcq
 have hS : St p0 o9 ([(b1, cA ([s0] ++ [s1]) 29)] ++ L) := hS
 have Z2 := Z2.trans e4
 have a6 := a6.mono e4
 have a7 := a7.mono e4
 have g6 := evT (g5 1 rfl) b4
 have g7 := evT (g5 3 rfl) b8
 have g8 : ev o8 (.tmp 35) = Value.bool (!c6) := n1 8 35 (by decide) rfl
 refine Z0 ?_
 by_cases c2 : c6 = true
 rw [if_pos c2] at a4
 refine Z9 (Eq.trans (by exact g8) (congrArg (fun b => Value.bool (!b)) c2)) (Y6 (Z3 ?_))
 obtain ⟨n2, n3, p7, x4, _, h6, d1, ⟨e1, rfl, b9⟩, h7⟩ := a7.elem (i := a1) (by omega) (by omega)
 obtain ⟨a5, h8, a4⟩ := bind_some a4
 refine V4 13 (R9 [(37, MP.eq (vP b1)), (38, MP.eq (s0)), (39, MP.eq (vQ b1 1)), (40, MP.eq (s1)), (41, MP.eq (vI a1)), (42, MP.eq (Value.pointer (some ⟨n2, n3, none⟩))), (43, MP.eq (vA ([e1]))), (44, MP.eq (Value.tuple #[vI a5.1, Value.bool a5.2])), (36, MP.eq (Value.tuple #[vI a5.1, Value.bool a5.2])), (45, MP.eq (vI a5.1)), (46, MP.eq (Value.bool a5.2)), (4, MP.eq (vI a5.1)), (5, MP.eq (Value.bool a5.2))]) [] mixed rfl rfl rfl hS (Z5 rfl ?_ (Z5 rfl ?_ (Z5 rfl ?_ (Z5 rfl ?_ (Z5 rfl ?_ (Z5 rfl ?_ (Z5 rfl ?_ (Z5 rfl ?_ (Z5 rfl ?_ (Z5 rfl ?_ (Z5 rfl ?_ (Z5 rfl ?_ (Z5 rfl ?_ V9))))))))))))) ?_
 intro x5 x6 x7 x8 p8 hS h9 p9 hcq
 refine Y2 R4 (evT (h9 1 rfl) g6) rfl ?_
 exact qn (.refl _) rfl hS rfl
 intro x9 y0 y1 y2 q1 hS q2 i0 hcq
 refine Y4 (s0) J3 (eM (i0 0 37 rfl rfl)) (hS.get (mR mL)) rfl rfl ?_
 exact qn (.refl _) rfl hS rfl
 intro y3 y4 y5 y6 q3 hS i1 q4 hcq
 refine Y2 N5 (evT (i1 1 rfl) g6) rfl ?_
 exact qn (.refl _) rfl hS rfl
 intro y7 y8 y9 z0 q5 hS q6 i2 hcq
 refine Y4 (s1) Zd8 (eM (i2 2 39 rfl rfl)) (hS.get (mR mL)) rfl rfl ?_
 exact qn (.refl _) rfl hS rfl
 intro z1 z2 z3 z4 q7 hS i3 q8 hcq
 refine Z4 (vI a1) (evT (i3 3 rfl) g7) rfl ?_
 exact qn (.refl _) rfl hS rfl
 intro z5 z6 z7 z8 q9 hS r0 e9 hcq
 refine W3 J2 rfl (eM (e9 3 40 rfl rfl)) h6 (eM (e9 4 41 rfl rfl)) (by omega) (by omega) rfl ?_
 exact qn (.refl _) rfl hS rfl
 intro z9 a00 a01 a02 i4 hS r1 i5 hcq
 have d1 := i4.1 _ _ d1
 refine V5 ([e1]) U7 (eM (i5 5 42 rfl rfl)) (hS.froz _ _ d1) rfl h7 rfl ?_
 exact qn (.refl _) rfl hS rfl
 intro a03 a04 a05 a06 f0 hS r2 f1 hcq
 have a6 := a6.mono f0
 have b9 := b9.mono f0
 refine Y8 Tryz.call140 (T0 (eM (f1 1 38 rfl rfl)) (eM (f1 6 43 rfl rfl))) rfl (Zx5 h8 a6 b9 hS) ?_
 rintro a07 a08 ⟨_, a09, rfl, i6, hS, ⟨p1, p2, rfl, rfl, rfl⟩⟩
 refine ⟨_, rfl, ?_⟩
 exact qn i6 rfl hS rfl
 intro a10 a11 a12 a13 r3 hS r4 i7 hcq
 refine Z4 (Value.tuple #[vI a5.1, Value.bool a5.2]) (eM (i7 7 44 rfl rfl)) rfl ?_
 exact qn (.refl _) rfl hS rfl
 intro a14 a15 a16 a17 r5 hS r6 i8 hcq
 refine U3 (vI a5.1) (eM (i8 8 36 rfl rfl)) rfl rfl ?_
 exact qn (.refl _) rfl hS rfl
 intro a18 a19 a20 a21 r7 hS r8 i9 hcq
 refine U3 (Value.bool a5.2) (eM (i9 8 36 rfl rfl)) rfl rfl ?_
 exact qn (.refl _) rfl hS rfl
 intro a22 a23 a24 a25 r9 hS s2 j0 hcq
 refine Z6 (vI a5.1) (eM (j0 9 45 rfl rfl)) rfl ?_
 exact qn (.refl _) rfl hS rfl
 intro a26 a27 a28 a29 s3 hS s4 j1 hcq
 refine Z6 (Value.bool a5.2) (eM (j1 10 46 rfl rfl)) rfl ?_
 exact qn (.refl _) rfl hS rfl
 intro a30 n4 e5 d2 hS f2 f3 hcq
 have hS : St e5 n4 ([(b1, cA ([s0] ++ [s1]) 29)] ++ L) := hS
 have Z2 := Z2.trans d2
 have a6 := a6.mono d2
 have a7 := a7.mono d2
 have d3 := evT (f2 1 rfl) g6
 have d4 := evT (f2 3 rfl) g7
 refine Z0 (Z3 (Z1 (Z4 (Value.bool a5.2) (by exact (eM (f3 12 5 (by decide) rfl))) rfl (N7 (b := a5.2) rfl rfl (Z4 (Value.bool (!a5.2)) rfl rfl ?_)))))
 by_cases a3 : a5.2 = true
 rw [if_pos a3] at a4
 refine Y1 rfl rfl (Eq.trans rfl (congrArg (fun b => Value.bool (!b)) a3)) (Y2 N5 (by exact d3) rfl ?_)
 refine Y1 rfl rfl (Eq.trans rfl (congrArg (fun b => Value.bool (!b)) a3)) ?_
 refine Y4 (s1) Zd8 rfl (hS.get mL) rfl rfl ?_
 refine Y1 rfl rfl (Eq.trans rfl (congrArg (fun b => Value.bool (!b)) a3)) (Z4 (vI a1) (by exact d4) rfl ?_)
 obtain ⟨a31, a32, s5, a33, _, j2, j3, ⟨g9, rfl, d0⟩, j4⟩ := a7.elem (i := a1) (by omega) (by omega)
 refine Y1 rfl rfl (Eq.trans rfl (congrArg (fun b => Value.bool (!b)) a3)) ?_
 refine W3 J2 rfl rfl j2 rfl (by omega) (by omega) rfl ?_
 refine Y1 rfl rfl (Eq.trans rfl (congrArg (fun b => Value.bool (!b)) a3)) (Y2 V6 rfl rfl ?_)
 refine Y1 rfl rfl (Eq.trans rfl (congrArg (fun b => Value.bool (!b)) a3)) ?_
 refine Y4 (g9) R7 rfl (hS.froz _ _ j3) (j4 0 (show 0 < 1 by decide)) rfl ?_
 have s6 := d0.bound
 refine Y1 rfl rfl (Eq.trans rfl (congrArg (fun b => Value.bool (!b)) a3)) ?_
 refine W6 S9 rfl d0 rfl ?_
 refine Y1 rfl rfl (Eq.trans rfl (congrArg (fun b => Value.bool (!b)) a3)) ?_
 refine Zc5 (k := .i64) (a := ((rd a0.2 a1).length : Int)) (b := 0) rfl rfl rfl ?_
 refine Y1 rfl rfl (Eq.trans rfl (congrArg (fun b => Value.bool (!b)) a3)) (Z4 (Value.bool (decide (0 < ((rd a0.2 a1).length : Int)))) rfl rfl ?_)
 by_cases a8 : 0 < ((rd a0.2 a1).length : Int)
 rw [if_pos a8] at a4
 refine Y1 rfl rfl (bT a8 rfl) (Z4 (vI a5.1) (by exact (eM (f3 11 4 (by decide) rfl))) rfl ?_)
 refine Y1 rfl rfl (bT a8 rfl) (Y2 R4 (by exact d3) rfl ?_)
 refine Y1 rfl rfl (bT a8 rfl) ?_
 refine Y4 (s0) J3 rfl (hS.get mL) rfl rfl ?_
 refine Y1 rfl rfl (bT a8 rfl) (Z4 (vI a1) (by exact d4) rfl ?_)
 refine Y1 rfl rfl (bT a8 rfl) ?_
 obtain ⟨s7, a4⟩ := gd a4
 obtain ⟨a34, a35, s8, a36, _, j5, j6, rfl, j7⟩ := a6.elem (i := a1) (by omega) (by omega)
 refine W3 Q9 rfl rfl j5 rfl (by omega) (by omega) rfl ?_
 refine Y1 rfl rfl (bT a8 rfl) ?_
 refine Y4 (vI (rd a0.1 a1)) ty2 rfl (hS.froz _ _ j6) (j7 0 (show 0 < 1 by decide)) rfl ?_
 refine Y1 rfl rfl (bT a8 rfl) ?_
 refine V0 (IntKind.i64.wrap ((rd a0.1 a1) + 1)) rfl rfl rfl rfl ?_
 refine Y1 rfl rfl (bT a8 rfl) ?_
 refine L9 (k := .i64) (a := a5.1) (b := (IntKind.i64.wrap ((rd a0.1 a1) + 1))) rfl rfl rfl ?_
 refine Y1 rfl rfl (Eq.trans rfl (congrArg (fun b => Value.bool (!b)) a3)) ?_
 refine V1 (t := true) (Value.bool (!decide (a5.1 = (IntKind.i64.wrap ((rd a0.1 a1) + 1))))) (bT a8 rfl) ((if_pos rfl).trans rfl) rfl ?_
 refine V1 (t := false) (Value.bool (!decide (a5.1 = (IntKind.i64.wrap ((rd a0.1 a1) + 1))))) (Eq.trans rfl (congrArg (fun b => Value.bool (!b)) a3)) ((if_neg Bool.false_ne_true).trans rfl) rfl (Z0 ?_)
 by_cases c3 : a5.1 = (IntKind.i64.wrap ((rd a0.1 a1) + 1))
 rw [if_pos c3] at a4
 refine Z9 (bN c3 rfl) (Y6 (X2 (Z1 (Z4 (vI a1) (by exact d4) rfl ?_))))
 refine V0 (a1 + 1) rfl rfl (IntWalk.i64_in _ (by omega)) rfl (Z6 (vI (a1 + 1)) rfl rfl (Z0 ?_))
 exact l5 _ _ ⟨(a1 + 1), e5, a4, Z2, hS, (by omega), a6, a7, d3, rfl⟩
 rw [if_neg c3] at a4
 refine Y0 (bO c3 rfl) (Z3 (Z1 (Z6 (Value.bool false) rfl rfl (Z0 ?_))))
 refine Y9 (vs := [Value.bool false]) Tryz.func92 ⟨rfl, trivial⟩ ?_
 have hz := Option.some.inj a4
 subst hz
 dsimp only [Ex.elim] at b6
 have hz := Option.some.inj b6
 subst hz
 exact ⟨_, _, rfl, Z2, (St.dropA hS), rfl⟩
 rw [if_neg a8] at a4
 refine Z8 rfl rfl (bF a8 rfl) rfl rfl rfl (Z8 rfl rfl (bF a8 rfl) rfl rfl rfl (Z8 rfl rfl (bF a8 rfl) rfl rfl rfl (Z8 rfl rfl (bF a8 rfl) rfl rfl rfl (Z8 rfl rfl (bF a8 rfl) rfl rfl rfl (Z8 rfl rfl (bF a8 rfl) rfl rfl rfl (Z8 rfl rfl (bF a8 rfl) rfl rfl rfl (Z8 rfl rfl (bF a8 rfl) rfl rfl rfl ?_)))))))
 refine Y1 rfl rfl (Eq.trans rfl (congrArg (fun b => Value.bool (!b)) a3)) ?_
 refine V1 (t := false) (Value.bool false) (bF a8 rfl) ((if_neg Bool.false_ne_true).trans rfl) rfl ?_
 refine V1 (t := false) (Value.bool false) (Eq.trans rfl (congrArg (fun b => Value.bool (!b)) a3)) ((if_neg Bool.false_ne_true).trans rfl) rfl (Z0 (Z9 rfl (Y6 (X2 (Z1 (Z4 (vI a1) (by exact d4) rfl ?_))))))
 refine V0 (a1 + 1) rfl rfl (IntWalk.i64_in _ (by omega)) rfl (Z6 (vI (a1 + 1)) rfl rfl (Z0 ?_))
 exact l5 _ _ ⟨(a1 + 1), e5, a4, Z2, hS, (by omega), a6, a7, d3, rfl⟩
 rw [if_neg a3] at a4
 refine Z8 rfl rfl (Eq.trans rfl (congrArg (fun b => Value.bool (!b)) (W2 a3))) rfl rfl rfl (Z8 rfl rfl (Eq.trans rfl (congrArg (fun b => Value.bool (!b)) (W2 a3))) rfl rfl rfl (Z8 rfl rfl (Eq.trans rfl (congrArg (fun b => Value.bool (!b)) (W2 a3))) rfl rfl rfl (Z8 rfl rfl (Eq.trans rfl (congrArg (fun b => Value.bool (!b)) (W2 a3))) rfl rfl rfl (Z8 rfl rfl (Eq.trans rfl (congrArg (fun b => Value.bool (!b)) (W2 a3))) rfl rfl rfl (Z8 rfl rfl (Eq.trans rfl (congrArg (fun b => Value.bool (!b)) (W2 a3))) rfl rfl rfl (Z8 rfl rfl (Eq.trans rfl (congrArg (fun b => Value.bool (!b)) (W2 a3))) rfl rfl rfl (Z8 rfl rfl (Eq.trans rfl (congrArg (fun b => Value.bool (!b)) (W2 a3))) rfl rfl rfl (Z8 rfl rfl (Eq.trans rfl (congrArg (fun b => Value.bool (!b)) (W2 a3))) rfl rfl rfl ?_))))))))
 refine V3 rfl rfl rfl rfl rfl ?_
 refine V3 rfl rfl rfl rfl rfl ?_
 refine V3 rfl rfl rfl rfl rfl ?_
 refine V3 rfl rfl rfl rfl rfl ?_
 refine V3 rfl rfl rfl rfl rfl ?_
 refine V3 rfl rfl rfl rfl rfl ?_
 refine V3 rfl rfl rfl rfl rfl ?_
 refine V3 rfl rfl rfl rfl rfl (Z8 rfl rfl (Eq.trans rfl (congrArg (fun b => Value.bool (!b)) (W2 a3))) rfl rfl rfl ?_)
 refine V1 (t := true) (Value.bool true) (Eq.trans rfl (congrArg (fun b => Value.bool (!b)) (W2 a3))) ((if_pos rfl).trans rfl) rfl (Z0 (Y0 rfl (Z3 (Z1 (Z6 (Value.bool false) rfl rfl (Z0 ?_))))))
 refine Y9 (vs := [Value.bool false]) Tryz.func92 ⟨rfl, trivial⟩ ?_
 have hz := Option.some.inj a4
 subst hz
 dsimp only [Ex.elim] at b6
 have hz := Option.some.inj b6
 subst hz
 exact ⟨_, _, rfl, Z2, (St.dropA hS), rfl⟩
 rw [if_neg c2] at a4
 refine Y0 (Eq.trans (by exact g8) (congrArg (fun b => Value.bool (!b)) (W2 c2))) (Z3 (Z1 (Z6 (Value.bool false) rfl rfl (Z0 ?_))))
 refine Y9 (vs := [Value.bool false]) Tryz.func92 ⟨rfl, trivial⟩ ?_
 have hz := Option.some.inj a4
 subst hz
 dsimp only [Ex.elim] at b6
 have hz := Option.some.inj b6
 subst hz
 exact ⟨_, _, rfl, Z2, (St.dropA hS), rfl⟩
 rw [if_neg e7] at a4
 refine Z9 (bF e7 rfl) ?_
 refine W4 rfl ?_
 have hz := Option.some.inj a4
 subst hz
 exact o4 _ _ ⟨l7, rfl, Z2, hS, a6, a7, b4⟩
 exact ⟨0, h5, a4, Z2, hS, (by omega), a6, a7, g0, rfl⟩
 rintro a37 a38 ⟨n5, rfl, Z2, hS, a6, a7, f8⟩
 dsimp only [Ex.elim] at b6
 refine Z3 (Z3 (Z1 (Z6 (vI 0) rfl rfl (Z0 (Y7 ?_)))))
 obtain ⟨h0, b2, d5⟩ := bind_some b6
 refine W7 (id := 2) (fun k f w => ∃ (b0 : Int) (H1 : FH), J8 K a0 k b0 = some h0 ∧ Sub H H1 ∧ St H1 w ([(b1, cA ([s0] ++ [s1]) 29)] ++ L) ∧ 0 ≤ b0 ∧ Y3 (X3 .i64) H1 s0 a0.1 ∧ Y3 (X6 yT) H1 s1 a0.2 ∧ ev f (.tmp 1) = vP b1 ∧ ev f (.tmp 6) = vI b0) (fun f w => ∃ (H1 : FH), h0 = .go () ∧ Sub H H1 ∧ St H1 w ([(b1, cA ([s0] ++ [s1]) 29)] ++ L) ∧ Y3 (X3 .i64) H1 s0 a0.1 ∧ Y3 (X6 yT) H1 s1 a0.2) rfl ?_ ?_ K ?_ ?_
 rintro f w ⟨b0, H1, b2, _⟩
 rw [J8] at b2; cases b2
 rintro k a39 a40 p3 p4 ⟨b0, n6, b2, Z2, hS, p5, a6, a7, b7, c0⟩
 rw [J8] at b2
 refine Z3 (Z3 (Z1 (Z4 (vI b0) (by exact c0) rfl (Y2 N5 (by exact b7) rfl ?_))))
 refine Y4 (s1) Zd8 rfl (hS.get mL) rfl rfl ?_
 have s9 := a7.bound
 refine W6 J2 rfl a7 rfl ?_
 refine U5 (k := .i64) (a := b0) (b := (a0.2.length : Int)) rfl rfl rfl (Z0 ?_)
 by_cases c4 : b0 < (a0.2.length : Int)
 rw [if_pos c4] at b2
 refine Y0 (bT c4 rfl) (Y6 (Z3 (Y7 (Z3 ?_))))
 obtain ⟨n7, n8, t0, a41, _, j8, d6, ⟨e2, rfl, c1⟩, j9⟩ := a7.elem (i := b0) (by omega) (by omega)
 obtain ⟨b5, k0, b2⟩ := bind_some b2
 refine V4 10 (R9 [(76, MP.eq (vA ([s0] ++ [s1]))), (77, MP.eq (vQ b1 1)), (78, MP.eq (s1)), (79, MP.eq (vI b0)), (80, MP.eq (Value.pointer (some ⟨n7, n8, none⟩))), (81, MP.eq (vA ([e2]))), (82, MP.rep (R.agg (X6 yT)) (b5)), (83, MP.sl yT (b5)), (84, MP.eq (vI (b5.length : Int))), (85, MP.eq (Value.bool (decide (0 < (b5.length : Int)))))]) [] mixed rfl rfl rfl hS (Z5 rfl ?_ (Z5 rfl ?_ (Z5 rfl ?_ (Z5 rfl ?_ (Z5 rfl ?_ (Z5 rfl ?_ (Z5 rfl ?_ (Z5 rfl ?_ (Z5 rfl ?_ (Z5 rfl ?_ V9)))))))))) ?_
 intro a42 a43 a44 a45 t1 hS k1 t4 hcq
 refine X8 P9 (evT (k1 1 rfl) b7) (hS.get (mR mL)) rfl rfl ?_
 exact qn (.refl _) rfl hS rfl
 intro a46 a47 a48 a49 t5 hS k2 t6 hcq
 refine Y2 N5 (evT (k2 1 rfl) b7) rfl ?_
 exact qn (.refl _) rfl hS rfl
 intro a50 a51 a52 a53 t7 hS t8 k3 hcq
 refine Y4 (s1) Zd8 (eM (k3 1 77 rfl rfl)) (hS.get (mR mL)) rfl rfl ?_
 exact qn (.refl _) rfl hS rfl
 intro a54 a55 a56 a57 t9 hS k4 u0 hcq
 refine Z4 (vI b0) (evT (k4 6 rfl) c0) rfl ?_
 exact qn (.refl _) rfl hS rfl
 intro a58 a59 a60 a61 u1 hS u2 f4 hcq
 refine W3 J2 rfl (eM (f4 2 78 rfl rfl)) j8 (eM (f4 3 79 rfl rfl)) (by omega) (by omega) rfl ?_
 exact qn (.refl _) rfl hS rfl
 intro a62 a63 a64 a65 k5 hS u3 k6 hcq
 have d6 := k5.1 _ _ d6
 refine V5 ([e2]) U7 (eM (k6 4 80 rfl rfl)) (hS.froz _ _ d6) rfl j9 rfl ?_
 exact qn (.refl _) rfl hS rfl
 intro a66 a67 a68 a69 d7 hS u4 f5 hcq
 have a6 := a6.mono d7
 have a7 := a7.mono d7
 have c1 := c1.mono d7
 refine Y8 Tryz.call123 (T0 (eM (f5 0 76 rfl rfl)) (eM (f5 5 81 rfl rfl))) rfl (Yh9 k0 a6 a7 c1 hS) ?_
 rintro a70 a71 ⟨n9, a72, rfl, k7, hS, k8⟩
 refine ⟨n9, rfl, ?_⟩
 exact qn k7 rfl hS k8
 intro a73 a74 a75 a76 u5 hS u6 k9 hcq
 obtain ⟨a77, o0, ⟨_, rfl, ⟨h1, rfl, f9⟩⟩⟩ := gvR (k9 6 82 rfl rfl)
 refine Xq4 (h1) We5 o0 rfl rfl ?_
 exact qn (.refl _) rfl hS f9
 intro a78 a79 a80 a81 u7 hS u8 l0 hcq
 obtain ⟨a82, o1, l1⟩ := gvS (l0 7 83 rfl rfl)
 refine W6 S9 o1 l1 rfl ?_
 exact qn (.refl _) rfl hS rfl
 intro a83 a84 a85 a86 u9 hS v0 l2 hcq
 refine Zc5 (k := .i64) (a := (b5.length : Int)) (b := 0) (eM (l2 8 84 rfl rfl)) rfl rfl ?_
 exact qn (.refl _) rfl hS rfl
 intro o2 o3 h2 d8 hS f6 l3 hcq
 have hS : St h2 o3 ([(b1, cA ([s0] ++ [s1]) 29)] ++ L) := hS
 have Z2 := Z2.trans d8
 have a6 := a6.mono d8
 have a7 := a7.mono d8
 have h3 : ev o2 (.tmp 85) = Value.bool (decide (0 < (b5.length : Int))) := l3 9 85 (by decide) rfl
 refine Z0 ?_
 by_cases c5 : 0 < (b5.length : Int)
 rw [if_pos c5] at b2
 refine Y0 (bT c5 (by exact h3)) (Z3 (Z1 (Z6 (Value.bool false) rfl rfl (Z0 ?_))))
 refine Y9 (vs := [Value.bool false]) Tryz.func92 ⟨rfl, trivial⟩ ?_
 have hz := Option.some.inj b2
 subst hz
 dsimp only [Ex.elim] at d5
 have hz := Option.some.inj d5
 subst hz
 exact ⟨_, _, rfl, Z2, (St.dropA hS), rfl⟩
 rw [if_neg c5] at b2
 refine Z9 (bF c5 (by exact h3)) (Y6 (X2 (Z1 (Z4 (vI b0) (by exact (evT (f6 6 rfl) c0)) rfl ?_))))
 refine V0 (b0 + 1) rfl rfl (IntWalk.i64_in _ (by omega)) rfl (Z6 (vI (b0 + 1)) rfl rfl (Z0 ?_))
 exact p3 _ _ ⟨(b0 + 1), h2, b2, Z2, hS, (by omega), a6, a7, (evT (f6 1 rfl) b7), rfl⟩
 rw [if_neg c4] at b2
 refine Z9 (bF c4 rfl) ?_
 refine W4 rfl ?_
 have hz := Option.some.inj b2
 subst hz
 exact p4 _ _ ⟨n6, rfl, Z2, hS, a6, a7⟩
 exact ⟨0, n5, b2, Z2, hS, (by omega), a6, a7, f8, rfl⟩
 rintro a87 a88 ⟨a89, rfl, Z2, hS, a6, a7⟩
 dsimp only [Ex.elim] at d5
 refine Z3 (Z1 (Z6 (Value.bool true) rfl rfl (Z0 ?_)))
 refine Y9 (vs := [Value.bool true]) Tryz.func92 ⟨rfl, trivial⟩ ?_
 have hz := Option.some.inj d5
 subst hz
 exact ⟨_, _, rfl, Z2, (St.dropA hS), rfl⟩
 intro l6
 refine Z1 (Y2 R4 rfl rfl ?_)
 refine Y4 (s0) J3 rfl (hS.get mL) rfl rfl ?_
 obtain ⟨c7, l4, q0⟩ := bind_some q0
 refine Y8 Tryz.call178 (Q8 rfl) rfl (Yj1 l4 a6 hS) ?_
 rintro a90 a91 ⟨_, h4, rfl, d9, hS, rfl⟩
 refine ⟨_, rfl, ?_⟩
 have Z2 := Z2.trans d9
 have a6 := a6.mono d9
 have a7 := a7.mono d9
 refine N7 (b := c7) rfl rfl (Z4 (Value.bool (!c7)) rfl rfl ?_)
 by_cases a9 : c7 = true
 rw [if_pos a9] at q0
 refine Y1 rfl rfl (Eq.trans rfl (congrArg (fun b => Value.bool (!b)) a9)) (Y2 N5 rfl rfl ?_)
 refine Y1 rfl rfl (Eq.trans rfl (congrArg (fun b => Value.bool (!b)) a9)) ?_
 refine Y4 (s1) Zd8 rfl (hS.get mL) rfl rfl ?_
 have v1 := a7.bound
 refine Y1 rfl rfl (Eq.trans rfl (congrArg (fun b => Value.bool (!b)) a9)) ?_
 refine W6 J2 rfl a7 rfl ?_
 refine Y1 rfl rfl (Eq.trans rfl (congrArg (fun b => Value.bool (!b)) a9)) (Y2 R4 rfl rfl ?_)
 refine Y1 rfl rfl (Eq.trans rfl (congrArg (fun b => Value.bool (!b)) a9)) ?_
 refine Y4 (s0) J3 rfl (hS.get mL) rfl rfl ?_
 have v2 := a6.bound
 refine Y1 rfl rfl (Eq.trans rfl (congrArg (fun b => Value.bool (!b)) a9)) ?_
 refine W6 Q9 rfl a6 rfl ?_
 refine Y1 rfl rfl (Eq.trans rfl (congrArg (fun b => Value.bool (!b)) a9)) ?_
 refine L9 (k := .i64) (a := (a0.2.length : Int)) (b := (a0.1.length : Int)) rfl rfl rfl ?_
 refine V1 (t := false) (Value.bool (!decide ((a0.2.length : Int) = (a0.1.length : Int)))) (Eq.trans rfl (congrArg (fun b => Value.bool (!b)) a9)) ((if_neg Bool.false_ne_true).trans rfl) rfl (Z0 ?_)
 exact l6 _ _ ⟨(!decide ((a0.2.length : Int) = (a0.1.length : Int))), h4, q0, Z2, hS, a6, a7, rfl, rfl⟩
 rw [if_neg a9] at q0
 refine Z8 rfl rfl (Eq.trans rfl (congrArg (fun b => Value.bool (!b)) (W2 a9))) rfl rfl rfl (Z8 rfl rfl (Eq.trans rfl (congrArg (fun b => Value.bool (!b)) (W2 a9))) rfl rfl rfl (Z8 rfl rfl (Eq.trans rfl (congrArg (fun b => Value.bool (!b)) (W2 a9))) rfl rfl rfl (Z8 rfl rfl (Eq.trans rfl (congrArg (fun b => Value.bool (!b)) (W2 a9))) rfl rfl rfl (Z8 rfl rfl (Eq.trans rfl (congrArg (fun b => Value.bool (!b)) (W2 a9))) rfl rfl rfl (Z8 rfl rfl (Eq.trans rfl (congrArg (fun b => Value.bool (!b)) (W2 a9))) rfl rfl rfl (Z8 rfl rfl (Eq.trans rfl (congrArg (fun b => Value.bool (!b)) (W2 a9))) rfl rfl rfl ?_))))))
 refine V1 (t := true) (Value.bool true) (Eq.trans rfl (congrArg (fun b => Value.bool (!b)) (W2 a9))) ((if_pos rfl).trans rfl) rfl (Z0 ?_)
 exact l6 _ _ ⟨true, h4, q0, Z2, hS, a6, a7, rfl, rfl⟩
def K8 (K : Nat) (a0 : (List MpT)) (a1 : (List MpT)) : Nat → Int → Option (Ex Bool (Unit))
 | 0, _ => none
 | k + 1, a3 => (if a3 < (a0.length : Int) then (if a3 < (a1.length : Int) then ((Ze9 K (rd a0 a3) (rd a1 a3)).bind fun a7 => (if a7 = true then K8 K a0 a1 k (a3 + 1) else some (.ret false))) else none) else some (.go ()))
def Zo7 (K : Nat) (a0 : (List MpT)) (a1 : (List MpT)) : Option Bool := (if (a0.length : Int) = (a1.length : Int) then ((K8 K a0 a1 K 0).bind (Ex.elim (fun r => some r) (fun s => some true))) else some false)
theorem Yr3 {K : Nat} {a0 : (List MpT)} {a1 : (List MpT)} {r : Bool} (q0 : Zo7 K a0 a1 = some r) {H : FH} {w : World} {L : OL} {s0 : Value} {s1 : Value} (a6 : Y3 (X6 yT) H s0 a0) (a9 : Y3 (X6 yT) H s1 a1) (hS : St H w L) :
 Calls Tryz.prog 37 #[s0, s1] w (T6 (fun v G => R.bool.p G v r) H L) := by
 have Z2 := Sub.refl H
 refine X0 Tryz.func37 rfl Tryz.ntmps37 rfl ?_
 unfold Zo7 at q0
 refine Z3 (Z1 (Z6 (Value.bool false) rfl rfl (Z0 (Z3 (Z3 (Z1 (Z4 (s0) rfl rfl ?_)))))))
 have i9 := a6.bound
 refine W6 J2 rfl a6 rfl (Z4 (s1) rfl rfl ?_)
 have j0 := a9.bound
 refine W6 J2 rfl a9 rfl ?_
 refine L9 (k := .i64) (a := (a0.length : Int)) (b := (a1.length : Int)) rfl rfl rfl (Z0 ?_)
 by_cases b9 : (a0.length : Int) = (a1.length : Int)
 rw [if_pos b9] at q0
 refine Z9 (bN b9 rfl) (Y6 (Z3 (Z3 (Z1 (Z6 (vI 0) rfl rfl (Z0 (Y7 ?_)))))))
 obtain ⟨c3, a4, b4⟩ := bind_some q0
 refine W7 (id := 0) (fun k f w => ∃ (a3 : Int) (H1 : FH), K8 K a0 a1 k a3 = some c3 ∧ Sub H H1 ∧ St H1 w (L) ∧ 0 ≤ a3 ∧ Y3 (X6 yT) H1 s0 a0 ∧ Y3 (X6 yT) H1 s1 a1 ∧ ev f (.tmp 0) = s0 ∧ ev f (.tmp 1) = s1 ∧ ev f (.tmp 5) = vI a3) (fun f w => ∃ (H1 : FH), c3 = .go () ∧ Sub H H1 ∧ St H1 w (L)) rfl ?_ ?_ K ?_ ?_
 rintro f w ⟨a3, H1, a4, _⟩
 rw [K8] at a4; cases a4
 rintro k f9 g0 e9 f0 ⟨a3, d4, a4, Z2, hS, f1, a6, a9, a8, b3, a5⟩
 rw [K8] at a4
 refine Z3 (Z3 (Z1 (Z4 (vI a3) (by exact a5) rfl (Z4 (s0) (by exact a8) rfl ?_))))
 have j1 := a6.bound
 refine W6 J2 rfl a6 rfl ?_
 refine U5 (k := .i64) (a := a3) (b := (a0.length : Int)) rfl rfl rfl (Z0 ?_)
 by_cases c0 : a3 < (a0.length : Int)
 rw [if_pos c0] at a4
 refine Y0 (bT c0 rfl) (Y6 (Z3 (Y7 (Z3 ?_))))
 obtain ⟨f2, f3, g1, j2, _, d5, b7, ⟨c1, rfl, b1⟩, d6⟩ := a6.elem (i := a3) (by omega) (by omega)
 obtain ⟨g2, a4⟩ := gd a4
 obtain ⟨f4, f5, g3, j3, _, d7, b8, ⟨c2, rfl, b2⟩, d8⟩ := a9.elem (i := a3) (by omega) (by omega)
 obtain ⟨a7, d0, a4⟩ := bind_some a4
 refine V4 10 (R9 [(17, MP.eq (s0)), (18, MP.eq (vI a3)), (19, MP.eq (Value.pointer (some ⟨f2, f3, none⟩))), (20, MP.eq (vA ([c1]))), (21, MP.eq (s1)), (22, MP.eq (vI a3)), (23, MP.eq (Value.pointer (some ⟨f4, f5, none⟩))), (24, MP.eq (vA ([c2]))), (25, MP.eq (Value.bool a7)), (26, MP.eq (Value.bool (!a7)))]) [] mixed rfl rfl rfl hS (Z5 rfl ?_ (Z5 rfl ?_ (Z5 rfl ?_ (Z5 rfl ?_ (Z5 rfl ?_ (Z5 rfl ?_ (Z5 rfl ?_ (Z5 rfl ?_ (Z5 rfl ?_ (Z5 rfl ?_ V9)))))))))) ?_
 intro f6 w7 H8 X9 g4 hS d9 g5 hcq
 refine Z4 (s0) (evT (d9 0 rfl) a8) rfl ?_
 exact qn (.refl _) rfl hS rfl
 intro j4 j5 j6 j7 g6 hS e0 g7 hcq
 refine Z4 (vI a3) (evT (e0 5 rfl) a5) rfl ?_
 exact qn (.refl _) rfl hS rfl
 intro j8 j9 k0 k1 g8 hS g9 c4 hcq
 refine W3 J2 rfl (eM (c4 0 17 rfl rfl)) d5 (eM (c4 1 18 rfl rfl)) (by omega) (by omega) rfl ?_
 exact qn (.refl _) rfl hS rfl
 intro k2 k3 k4 k5 e1 hS h0 e2 hcq
 have b7 := e1.1 _ _ b7
 refine V5 ([c1]) U7 (eM (e2 2 19 rfl rfl)) (hS.froz _ _ b7) rfl d6 rfl ?_
 exact qn (.refl _) rfl hS rfl
 intro k6 k7 k8 k9 h1 hS e3 h2 hcq
 refine Z4 (s1) (evT (e3 1 rfl) b3) rfl ?_
 exact qn (.refl _) rfl hS rfl
 intro l0 l1 l2 l3 h3 hS e4 h4 hcq
 refine Z4 (vI a3) (evT (e4 5 rfl) a5) rfl ?_
 exact qn (.refl _) rfl hS rfl
 intro l4 l5 l6 l7 h5 hS h6 c5 hcq
 refine W3 J2 rfl (eM (c5 4 21 rfl rfl)) d7 (eM (c5 5 22 rfl rfl)) (by omega) (by omega) rfl ?_
 exact qn (.refl _) rfl hS rfl
 intro l9 m0 m1 m2 e5 hS h7 e6 hcq
 have b8 := e5.1 _ _ b8
 refine V5 ([c2]) U7 (eM (e6 6 23 rfl rfl)) (hS.froz _ _ b8) rfl d8 rfl ?_
 exact qn (.refl _) rfl hS rfl
 intro m3 m4 m5 m6 c6 hS h8 c7 hcq
 have b1 := b1.mono c6
 have b2 := b2.mono c6
 refine Y8 Tryz.call31 (T0 (eM (c7 3 20 rfl rfl)) (eM (c7 7 24 rfl rfl))) rfl (Ye1 d0 b1 b2 hS) ?_
 rintro h9 i0 ⟨_, i1, rfl, d1, hS, rfl⟩
 refine ⟨_, rfl, ?_⟩
 exact qn d1 rfl hS rfl
 intro i2 i3 i4 i5 f7 hS f8 d2 hcq
 refine N7 (b := a7) (eM (d2 8 25 rfl rfl)) rfl ?_
 exact qn (.refl _) rfl hS rfl
 intro e7 e8 c8 b5 hS b6 d3 hcq
 have hS : St c8 e8 (L) := hS
 have Z2 := Z2.trans b5
 have a6 := a6.mono b5
 have a9 := a9.mono b5
 have c9 : ev e7 (.tmp 26) = Value.bool (!a7) := d3 9 26 (by decide) rfl
 refine Z0 ?_
 by_cases b0 : a7 = true
 rw [if_pos b0] at a4
 refine Z9 (Eq.trans (by exact c9) (congrArg (fun b => Value.bool (!b)) b0)) (Y6 (X2 (Z1 (Z4 (vI a3) (by exact (evT (b6 5 rfl) a5)) rfl ?_))))
 refine V0 (a3 + 1) rfl rfl (IntWalk.i64_in _ (by omega)) rfl (Z6 (vI (a3 + 1)) rfl rfl (Z0 ?_))
 exact e9 _ _ ⟨(a3 + 1), c8, a4, Z2, hS, (by omega), a6, a9, (evT (b6 0 rfl) a8), (evT (b6 1 rfl) b3), rfl⟩
 rw [if_neg b0] at a4
 refine Y0 (Eq.trans (by exact c9) (congrArg (fun b => Value.bool (!b)) (W2 b0))) (Z3 (Z1 (Z6 (Value.bool false) rfl rfl (Z0 ?_))))
 refine Y9 (vs := [Value.bool false]) Tryz.func37 ⟨rfl, trivial⟩ ?_
 have hz := Option.some.inj a4
 subst hz
 dsimp only [Ex.elim] at b4
 have hz := Option.some.inj b4
 subst hz
 exact ⟨_, _, rfl, Z2, hS, rfl⟩
 rw [if_neg c0] at a4
 refine Z9 (bF c0 rfl) ?_
 refine W4 rfl ?_
 have hz := Option.some.inj a4
 subst hz
 exact f0 _ _ ⟨d4, rfl, Z2, hS⟩
 exact ⟨0, H, a4, Z2, hS, (by omega), a6, a9, rfl, rfl, rfl⟩
 rintro i6 i7 ⟨i8, rfl, Z2, hS⟩
 dsimp only [Ex.elim] at b4
 refine Z3 (Z1 (Z6 (Value.bool true) rfl rfl (Z0 ?_)))
 refine Y9 (vs := [Value.bool true]) Tryz.func37 ⟨rfl, trivial⟩ ?_
 have hz := Option.some.inj b4
 subst hz
 exact ⟨_, _, rfl, Z2, hS, rfl⟩
 rw [if_neg b9] at q0
 refine Y0 (bO b9 rfl) (Z3 (Z1 (Z6 (Value.bool false) rfl rfl (Z0 ?_))))
 refine Y9 (vs := [Value.bool false]) Tryz.func37 ⟨rfl, trivial⟩ ?_
 have hz := Option.some.inj q0
 subst hz
 exact ⟨_, _, rfl, Z2, hS, rfl⟩
def MP.ownV8 (n : Nat) (r : M8) (C : OL) : MP := ⟨fun _ v => ∃ x, v = vA (U2 x) ∧ Zf3 n x r C, fun _ h => h, fun _ => C⟩
def MP.ownMs (r : List MpT) (C : OL) : MP := ⟨fun H v => ∃ vs, Y3 Zr3 H v vs ∧ Zb5 vs r C, fun hs ⟨vs, h, ho⟩ => ⟨vs, h.mono hs, ho⟩, fun _ => C⟩
theorem Zb5.takeI {vs : List Value} {xs : List MpT} {C : OL} (h : Zb5 vs xs C) {i : Int} (h0 : 0 ≤ i) (hi : i < xs.length) :
 ∃ c R, C.Perm (c ++ R) ∧ R1 .i64 (rd vs i) (rd xs i) c ∧ ∀ m' c', R1 .i64 (rd vs i) m' c' → Zb5 vs (xs.set i.toNat m') (c' ++ R) := by
 obtain ⟨v, c, R, h1, h2, h3, h4⟩ := h.take (j := i.toNat) (by omega)
 have e1 : rd vs i = v := by unfold rd; rw [List.getD_eq_getElem?_getD, h1]; rfl
 have e2 : rd xs i = xs[i.toNat]'(by omega) := by unfold rd; rw [List.getD_eq_getElem?_getD, List.getElem?_eq_getElem (by omega)]; rfl
 rw [e1, e2]
 exact ⟨c, R, h2, h3, h4⟩
theorem Wg4 (A B D h k L : OL) : (A ++ (B ++ (D ++ (h ++ (k ++ L))))).Perm (h ++ (k ++ (A ++ (B ++ (D ++ L))))) := by
 have e : ∀ (X Y : OL), (A ++ (B ++ (D ++ (X ++ Y)))).Perm (X ++ (A ++ (B ++ (D ++ Y)))) := fun X Y =>
  (List.Perm.append_left _ ((List.Perm.append_left _ (psw _ _ _)).trans (psw _ _ _))).trans (psw _ _ _)
 exact (e h (k ++ L)).trans (List.Perm.append_left _ (e k L))
theorem pmT (A B D L : OL) {C c R : OL} (hp : C.Perm (c ++ R)) : (c ++ (A ++ (B ++ (D ++ (R ++ L))))).Perm (A ++ (B ++ (D ++ (C ++ L)))) :=
 (Wa1 A B D c R L).symm.trans (List.Perm.append_left _ (List.Perm.append_left _ (List.Perm.append_left _ (List.Perm.append_right _ hp.symm))))
theorem Wm2 (A B D Q L : OL) {C c R : OL} (hp : C.Perm (c ++ R)) : (c ++ (A ++ (B ++ (D ++ (Q ++ (R ++ L)))))).Perm (A ++ (B ++ (D ++ (Q ++ (C ++ L))))) := by
 refine List.Perm.trans ?_ (List.Perm.append_left _ (List.Perm.append_left _ (List.Perm.append_left _ (List.Perm.append_left _ (List.Perm.append_right _ hp.symm)))))
 rw [List.append_assoc]
 exact (psw _ _ _).trans (List.Perm.append_left _ ((psw _ _ _).trans (List.Perm.append_left _ ((psw _ _ _).trans (List.Perm.append_left _ (psw _ _ _))))))
/-- behind a call: what it has given back, and all of these to the front -/
theorem pmF (A B D Q h R L : OL) : (Q ++ ((h ++ R) ++ (A ++ (B ++ (D ++ L))))).Perm (h ++ (A ++ (B ++ (D ++ (Q ++ (R ++ L)))))) := by
 refine (Wg4 A B D Q (h ++ R) L).symm.trans ?_
 rw [List.append_assoc]
 exact ((List.Perm.append_left _ ((List.Perm.append_left _ ((List.Perm.append_left _ (psw _ _ _)).trans (psw _ _ _))).trans (psw _ _ _))).trans (psw _ _ _))
theorem Xw5 {H : FH} {v : Value} {vs : List Value} {xs : List MpT} (hl : vs.length = xs.length) (h : Y3 Zr3 H v vs) (hr : ∀ (j : Nat) v m, vs[j]? = some v → xs[j]? = some m → Q1 .i64 H v m) : Y3 (Yf6 .i64) H v xs := by
 obtain ⟨a, c, ⟨hv, hb⟩, h⟩ := h
 refine ⟨a, c, ⟨by rw [hv, hl], by rw [← hl]; exact hb⟩, ?_⟩
 rcases h with h | ⟨b, o, cs, E, h1, h2, h3⟩
 subst h
 exact .inl (List.eq_nil_of_length_eq_zero hl.symm)
 refine .inr ⟨b, o, cs, E, h1, h2, fun i m hm => ?_⟩
 have hi : i < vs.length := by have := (List.getElem?_eq_some_iff.1 hm).1; omega
 obtain ⟨ecs, ⟨e1, e2⟩, hj⟩ := h3 i _ (List.getElem?_eq_getElem hi)
 have hmp := hr i _ m (List.getElem?_eq_getElem hi) hm
 refine ⟨ecs, ?_, hj⟩
 have := hmp.relv
 rw [hmp.cellsL] at this
 rw [e1]; exact this
end Go.Proofs.YtfodlhkoafhplaaGreat
