/- Walks of functions: each computes its pure function, if that gives a value. -/
import Derived.Test.YtfodlhkoafhplaaGreatWTy
import Derived.Test.YtfodlhkoafhplaaGreatWF3
import Derived.Test.YtfodlhkoafhplaaGreatWF4
import Derived.Test.YtfodlhkoafhplaaGreatWF2
namespace Go.Proofs.YtfodlhkoafhplaaGreat
open Go
set_option linter.unusedSimpArgs false
set_option linter.unusedVariables false
set_option maxRecDepth 100000
set_option maxHeartbeats 8000000
def I6 (K : Nat) (a0 : (List Int)) (a1 : MpT) : Nat → Int → Option (Ex Bool (Unit))
 | 0, _ => none
 | k + 1, a3 => (if a3 < (a1.length : Int) then ((Zp0 K a0 ((rd a1 a3).1)).bind fun a5 => (if a5 = true then ((Zj6 K ((rd a1 a3).2) 1 10006).bind fun a4 => (if a4 = true then (if 0 < a3 then (if 0 ≤ (IntKind.i64.wrap (a3 - 1)) then (if (IntKind.i64.wrap (a3 - 1)) < (a1.length : Int) then ((Zc9 K ((rd a1 (IntKind.i64.wrap (a3 - 1))).1) ((rd a1 a3).1)).bind fun b8 => (if b8 = true then I6 K a0 a1 k (a3 + 1) else some (.ret false))) else none) else none) else I6 K a0 a1 k (a3 + 1)) else some (.ret false))) else some (.ret false))) else some (.go ()))
def Zg8 (K : Nat) (a0 : (List Int)) (a1 : MpT) : Option Bool := ((I6 K a0 a1 K 0).bind (Ex.elim (fun r => some r) (fun s => some (decide ((a1.length : Int) ≤ 400)))))
theorem Zw3 {K : Nat} {a0 : (List Int)} {a1 : MpT} {r : Bool} (q0 : Zg8 K a0 a1 = some r) {H : FH} {w : World} {L : OL} {s0 : Value} {s1 : Value} (b0 : Y3 (X3 .i64) H s0 a0) (b3 : Y3 yT H s1 a1) (hS : St H w L) :
 Calls Tryz.prog 113 #[s0, vA ([s1])] w (T6 (fun v G => R.bool.p G v r) H L) := by
 have Z2 := Sub.refl H
 refine X0 Tryz.func113 rfl Tryz.ntmps113 rfl ?_
 unfold Zg8 at q0
 refine Z3 (Z1 ?_)
 refine T7 (v := vA ([s1])) ([s1]).toArray rfl rfl hS rfl ?_
 intro b1 w2 hS
 refine Z6 (Value.bool false) rfl rfl (Z0 (Z3 (Z3 (Z1 (Z6 (vI 0) rfl rfl (Z0 (Y7 ?_)))))))
 obtain ⟨m0, a7, c3⟩ := bind_some q0
 refine W7 (id := 0) (fun k f w => ∃ (a3 : Int) (H1 : FH), I6 K a0 a1 k a3 = some m0 ∧ Sub H H1 ∧ St H1 w ([(b1, cA ([s1]) 47)] ++ L) ∧ 0 ≤ a3 ∧ Y3 (X3 .i64) H1 s0 a0 ∧ Y3 yT H1 s1 a1 ∧ ev f (.tmp 0) = s0 ∧ ev f (.tmp 3) = vP b1 ∧ ev f (.tmp 5) = vI a3) (fun f w => ∃ (H1 : FH), m0 = .go () ∧ Sub H H1 ∧ St H1 w ([(b1, cA ([s1]) 47)] ++ L) ∧ Y3 yT H1 s1 a1 ∧ ev f (.tmp 3) = vP b1) rfl ?_ ?_ K ?_ ?_
 rintro f w ⟨a3, H1, a7, _⟩
 rw [I6] at a7; cases a7
 rintro k ae6 ae7 y4 hx0 ⟨a3, z2, a7, Z2, hS, a12, b0, b3, b4, b5, b2⟩
 rw [I6] at a7
 refine Z3 (Z3 (Z1 (Z4 (vI a3) (by exact b2) rfl (Y2 V6 (by exact b5) rfl ?_))))
 refine Y4 (s1) R7 rfl (hS.get mL) rfl rfl ?_
 have bl4 := b3.bound
 refine W6 S9 rfl b3 rfl ?_
 refine U5 (k := .i64) (a := a3) (b := (a1.length : Int)) rfl rfl rfl (Z0 ?_)
 by_cases k0 : a3 < (a1.length : Int)
 rw [if_pos k0] at a7
 refine Y0 (bT k0 rfl) (Y6 (Z3 (Y7 (Z3 (Z1 (Y2 V6 (by exact b5) rfl ?_))))))
 refine Y4 (s1) R7 rfl (hS.get mL) rfl rfl (Z4 (vI a3) (by exact b2) rfl ?_)
 obtain ⟨b6, o6, cs6, E6, _, hp6, hb6, ⟨_, _, rfl, rfl, rfl⟩, hc6⟩ := b3.elem (i := a3) (by omega) (by omega)
 refine W3 S9 rfl rfl hp6 rfl (by omega) (by omega) rfl ?_
 refine V5 (Z7 .u8 ((rd a1 a3).1) ++ [vI ((rd a1 a3).2)]) Zs8 rfl (hS.froz _ _ hb6) rfl hc6 rfl ?_
 refine W9 (z := vA (Z7 .u8 (fun _ => 0) ++ [vI 0])) (Z7 .u8 (fun _ => 0) ++ [vI 0]).toArray Zy1.zero rfl hS rfl ?_
 intro b7 w8 hS
 refine W1 (v := vA (Z7 .u8 ((rd a1 a3).1) ++ [vI ((rd a1 a3).2)])) (vs := (Z7 .u8 ((rd a1 a3).1) ++ [vI ((rd a1 a3).2)]).toArray) (cs := (Z7 .u8 (fun _ => 0) ++ [vI 0]).toArray) Zs8 rfl rfl rfl hS rfl (J6 (S8 .u8 ((rd a1 a3).1)) (S2 rfl)) rfl ?_
 intro w10 hS
 refine Z0 (Z3 ?_)
 obtain ⟨a5, g6, a7⟩ := bind_some a7
 by_cases a8 : a5 = true
 rw [if_pos a8] at a7
 obtain ⟨a4, g7, a7⟩ := bind_some a7
 by_cases a9 : a4 = true
 rw [if_pos a9] at a7
 by_cases a6 : 0 < a3
 rw [if_pos a6] at a7
 obtain ⟨a16, a7⟩ := gd a7
 obtain ⟨a17, a7⟩ := gd a7
 obtain ⟨m1, m2, a18, ae8, _, q7, g8, ⟨_, _, rfl, rfl, rfl⟩, q8⟩ := b3.elem (i := (IntKind.i64.wrap (a3 - 1))) (by omega) (by omega)
 obtain ⟨b8, q9, a7⟩ := bind_some a7
 refine V4 28 (R9 [(19, MP.eq (s0)), (20, MP.eq (vP b7)), (21, MP.eq (vA (Z7 .u8 ((rd a1 a3).1)))), (22, MP.eq (Value.bool a5)), (23, MP.eq (Value.bool (!a5))), (24, MP.eq (Value.bool (!a5))), (25, MP.eq (vQ b7 8)), (26, MP.eq (vI ((rd a1 a3).2))), (27, MP.eq (Value.bool a4)), (28, MP.eq (Value.bool (!a4))), (29, MP.eq (Value.bool (!a4))), (30, MP.eq (Value.bool (!a4))), (31, MP.eq (vI a3)), (32, MP.eq (Value.bool (decide (0 < a3)))), (33, MP.eq (Value.bool (decide (0 < a3)))), (34, MP.eq (vP b1)), (35, MP.eq (s1)), (36, MP.eq (vI a3)), (37, MP.eq (vI (IntKind.i64.wrap (a3 - 1)))), (38, MP.eq (Value.pointer (some ⟨m1, m2, none⟩))), (39, MP.eq (Value.pointer (some ⟨m1, m2 + 0, none⟩))), (40, MP.eq (vA (Z7 .u8 ((rd a1 (IntKind.i64.wrap (a3 - 1))).1)))), (41, MP.eq (vP b7)), (42, MP.eq (vA (Z7 .u8 ((rd a1 a3).1)))), (43, MP.eq (Value.bool b8)), (44, MP.eq (Value.bool (!b8))), (45, MP.eq (Value.bool (!b8))), (46, MP.eq (Value.bool (!b8)))]) [] mixed rfl rfl rfl hS (Z5 rfl ?_ (Z5 rfl ?_ (Z5 rfl ?_ (Z5 rfl ?_ (Z5 rfl ?_ (Z5 rfl ?_ (Z5 rfl ?_ (Z5 rfl ?_ (Z5 rfl ?_ (Z5 rfl ?_ (Z5 rfl ?_ (Z5 rfl ?_ (Z5 rfl ?_ (Z5 rfl ?_ (Z5 rfl ?_ (Z5 rfl ?_ (Z5 rfl ?_ (Z5 rfl ?_ (Z5 rfl ?_ (Z5 rfl ?_ (Z5 rfl ?_ (Z5 rfl ?_ (Z5 rfl ?_ (Z5 rfl ?_ (Z5 rfl ?_ (Z5 rfl ?_ (Z5 rfl ?_ (Z5 rfl ?_ V9)))))))))))))))))))))))))))) ?_
 intro m3 m4 m5 m6 i2 hS c8 i3 hcq
 have e3 := evT (c8 0 rfl) b4
 refine Z4 (s0) e3 rfl ?_
 exact qn (.refl _) rfl hS rfl
 intro e4 m7 m8 m9 i4 hS c9 i5 hcq
 have e5 : ev e4 (.tmp 6) = vP b7 := Eq.trans (c9 6 rfl) rfl
 refine Y2 P0 e5 rfl ?_
 exact qn (.refl _) rfl hS rfl
 intro e6 n0 n1 n2 i6 hS i7 d0 hcq
 have e7 : ev e6 (.tmp 20) = vP b7 := d0 1 20 rfl rfl
 refine V5 (Z7 .u8 ((rd a1 a3).1)) N0 e7 (hS.get (o := cA (Z7 .u8 ((rd a1 a3).1) ++ [vI ((rd a1 a3).2)]) 76) (mR mL)) rfl (fun j hj => Zj5 ([]) (Z7 .u8 ((rd a1 a3).1)) (([vI ((rd a1 a3).2)])) j hj) rfl ?_
 exact qn (.refl _) rfl hS rfl
 intro c4 n3 n4 n5 d1 hS i8 b9 hcq
 have b0 := b0.mono d1
 have e8 : ev c4 (.tmp 19) = s0 := b9 0 19 rfl rfl
 have e9 : ev c4 (.tmp 21) = vA (Z7 .u8 ((rd a1 a3).1)) := b9 2 21 rfl rfl
 refine Y8 Tryz.call202 (T0 e8 e9) rfl (Zn6 g6 b0 hS) ?_
 rintro n6 n7 ⟨_, n8, rfl, d2, hS, rfl⟩
 refine ⟨_, rfl, ?_⟩
 exact qn d2 rfl hS rfl
 intro f0 n9 o0 o1 i9 hS j0 d3 hcq
 have f1 : ev f0 (.tmp 22) = Value.bool a5 := d3 3 22 rfl rfl
 refine N7 (b := a5) f1 rfl ?_
 exact qn (.refl _) rfl hS rfl
 intro f2 o2 o3 o4 j1 hS j2 d4 hcq
 have f3 : ev f2 (.tmp 23) = Value.bool (!a5) := d4 4 23 rfl rfl
 refine Z4 (Value.bool (!a5)) f3 rfl ?_
 exact qn (.refl _) rfl hS rfl
 intro d9 y5 y6 y7 o5 hS f4 f5 hcq
 have h8 : ev d9 (.tmp 24) = Value.bool (!a5) := f5 5 24 rfl rfl
 have h9 : ev d9 (.tmp 6) = vP b7 := Eq.trans (f4 6 rfl) rfl
 refine Y1 rfl rfl (Eq.trans h8 (congrArg (fun b => Value.bool (!b)) a8)) (Y2 Zc0 h9 rfl ?_)
 exact qn (.refl _) rfl hS rfl
 intro e0 y8 y9 z0 o7 hS o8 c5 hcq
 have i0 : ev e0 (.tmp 24) = Value.bool (!a5) := c5 5 24 rfl rfl
 have i1 : ev e0 (.tmp 25) = vQ b7 8 := c5 6 25 rfl rfl
 refine Y1 rfl rfl (Eq.trans i0 (congrArg (fun b => Value.bool (!b)) a8)) ?_
 refine Y4 (vI ((rd a1 a3).2)) ty2 i1 (hS.get (mR mL)) rfl rfl ?_
 exact qn (.refl _) rfl hS rfl
 intro e1 z1 o9 p0 k1 hS k2 c0 hcq
 have f6 : ev e1 (.tmp 24) = Value.bool (!a5) := c0 5 24 rfl rfl
 have f7 : ev e1 (.tmp 26) = vI ((rd a1 a3).2) := c0 7 26 rfl rfl
 refine Y1 rfl rfl (Eq.trans f6 (congrArg (fun b => Value.bool (!b)) a8)) ?_
 refine Y8 Tryz.call93 (N8 f7 rfl rfl) rfl (Zm7 g7  hS) ?_
 rintro p1 p2 ⟨_, p3, rfl, d5, hS, rfl⟩
 refine ⟨_, rfl, ?_⟩
 exact qn d5 rfl hS rfl
 intro c6 p4 p5 p6 k3 hS k4 c1 hcq
 have f8 : ev c6 (.tmp 24) = Value.bool (!a5) := c1 5 24 rfl rfl
 have f9 : ev c6 (.tmp 27) = Value.bool a4 := c1 8 27 rfl rfl
 refine Y1 rfl rfl (Eq.trans f8 (congrArg (fun b => Value.bool (!b)) a8)) (N7 (b := a4) f9 rfl ?_)
 exact qn (.refl _) rfl hS rfl
 intro c7 p7 p8 p9 k5 hS k6 c2 hcq
 have g0 : ev c7 (.tmp 24) = Value.bool (!a5) := c2 5 24 rfl rfl
 have g1 : ev c7 (.tmp 28) = Value.bool (!a4) := c2 9 28 rfl rfl
 refine V1 (t := false) (Value.bool (!a4)) (Eq.trans g0 (congrArg (fun b => Value.bool (!b)) a8)) ((if_neg Bool.false_ne_true).trans g1) rfl ?_
 exact qn (.refl _) rfl hS rfl
 intro g2 q1 q2 q3 k7 hS k8 d6 hcq
 have g3 : ev g2 (.tmp 29) = Value.bool (!a4) := d6 10 29 rfl rfl
 refine Z4 (Value.bool (!a4)) g3 rfl ?_
 exact qn (.refl _) rfl hS rfl
 intro j3 z3 z4 z5 r0 hS g9 h0 hcq
 have j4 : ev j3 (.tmp 30) = Value.bool (!a4) := h0 11 30 rfl rfl
 have j5 := evT (g9 5 rfl) b2
 refine Y1 rfl rfl (Eq.trans j4 (congrArg (fun b => Value.bool (!b)) a9)) (Z4 (vI a3) j5 rfl ?_)
 exact qn (.refl _) rfl hS rfl
 intro g4 z6 z7 z8 r1 hS r2 d7 hcq
 have j6 : ev g4 (.tmp 30) = Value.bool (!a4) := d7 11 30 rfl rfl
 have j7 : ev g4 (.tmp 31) = vI a3 := d7 12 31 rfl rfl
 refine Y1 rfl rfl (Eq.trans j6 (congrArg (fun b => Value.bool (!b)) a9)) ?_
 refine Zc5 (k := .i64) (a := a3) (b := 0) j7 rfl rfl ?_
 exact qn (.refl _) rfl hS rfl
 intro g5 z9 a00 a01 r3 hS r4 d8 hcq
 have j8 : ev g5 (.tmp 30) = Value.bool (!a4) := d8 11 30 rfl rfl
 have j9 : ev g5 (.tmp 32) = Value.bool (decide (0 < a3)) := d8 13 32 rfl rfl
 refine Y1 rfl rfl (Eq.trans j8 (congrArg (fun b => Value.bool (!b)) a9)) (Z4 (Value.bool (decide (0 < a3))) j9 rfl ?_)
 exact qn (.refl _) rfl hS rfl
 intro ae9 af0 af1 af2 a19 hS r5 r6 hcq
 refine Y1 rfl rfl (bT a6 (eM (r6 14 33 rfl rfl))) (Y2 V6 (evT (r5 3 rfl) b5) rfl ?_)
 exact qn (.refl _) rfl hS rfl
 intro af3 af4 af5 af6 a20 hS a21 k9 hcq
 refine Y1 rfl rfl (bT a6 (eM (k9 14 33 rfl rfl))) ?_
 refine Y4 (s1) R7 (eM (k9 15 34 rfl rfl)) (hS.get (mR (mR mL))) rfl rfl ?_
 exact qn (.refl _) rfl hS rfl
 intro af7 af8 af9 ag0 a22 hS r7 r8 hcq
 refine Y1 rfl rfl (bT a6 (eM (r8 14 33 rfl rfl))) (Z4 (vI a3) (evT (r7 5 rfl) b2) rfl ?_)
 exact qn (.refl _) rfl hS rfl
 intro ag1 ag2 ag3 ag4 a23 hS a24 l0 hcq
 refine Y1 rfl rfl (bT a6 (eM (l0 14 33 rfl rfl))) ?_
 refine Zu4 (IntKind.i64.wrap (a3 - 1)) (eM (l0 17 36 rfl rfl)) rfl rfl rfl ?_
 exact qn (.refl _) rfl hS rfl
 intro ag5 ag6 ag7 ag8 a25 hS a26 h1 hcq
 refine Y1 rfl rfl (bT a6 (eM (h1 14 33 rfl rfl))) ?_
 refine W3 S9 rfl (eM (h1 16 35 rfl rfl)) q7 (eM (h1 18 37 rfl rfl)) (by omega) (by omega) rfl ?_
 exact qn (.refl _) rfl hS rfl
 intro ag9 ah0 ah1 ah2 a27 hS a28 l1 hcq
 refine Y1 rfl rfl (bT a6 (eM (l1 14 33 rfl rfl))) (Y2 P0 (eM (l1 19 38 rfl rfl)) rfl ?_)
 exact qn (.refl _) rfl hS rfl
 intro ah3 ah4 ah5 ah6 r9 hS a29 l2 hcq
 have g8 := r9.1 _ _ g8
 refine Y1 rfl rfl (bT a6 (eM (l2 14 33 rfl rfl))) ?_
 refine V5 (Z7 .u8 ((rd a1 (IntKind.i64.wrap (a3 - 1))).1)) N0 (eM (l2 20 39 rfl rfl)) (hS.froz _ _ g8) rfl (Zf0 ([]) (Z7 .u8 ((rd a1 (IntKind.i64.wrap (a3 - 1))).1)) (([vI ((rd a1 (IntKind.i64.wrap (a3 - 1))).2)])) q8 (Nat.le_of_ble_eq_true rfl)) rfl ?_
 exact qn (.refl _) rfl hS rfl
 intro a02 ah7 ah8 ah9 a30 hS s2 s3 hcq
 have a03 : ev a02 (.tmp 6) = vP b7 := Eq.trans (s2 6 rfl) rfl
 refine Y1 rfl rfl (bT a6 (eM (s3 14 33 rfl rfl))) (Y2 P0 a03 rfl ?_)
 exact qn (.refl _) rfl hS rfl
 intro ai0 ai1 ai2 ai3 a31 hS a32 l3 hcq
 refine Y1 rfl rfl (bT a6 (eM (l3 14 33 rfl rfl))) ?_
 refine V5 (Z7 .u8 ((rd a1 a3).1)) N0 (eM (l3 22 41 rfl rfl)) (hS.get (o := cA (Z7 .u8 ((rd a1 a3).1) ++ [vI ((rd a1 a3).2)]) 76) (mR mL)) rfl (fun j hj => Zj5 ([]) (Z7 .u8 ((rd a1 a3).1)) (([vI ((rd a1 a3).2)])) j hj) rfl ?_
 exact qn (.refl _) rfl hS rfl
 intro ai4 ai5 ai6 ai7 a33 hS a34 h2 hcq
 refine Y1 rfl rfl (bT a6 (eM (h2 14 33 rfl rfl))) ?_
 refine Y8 Tryz.call203 (T0 (eM (h2 21 40 rfl rfl)) (eM (h2 23 42 rfl rfl))) rfl (Zr2 q9  hS) ?_
 rintro ai8 ai9 ⟨_, aj0, rfl, s4, hS, rfl⟩
 refine ⟨_, rfl, ?_⟩
 exact qn s4 rfl hS rfl
 intro aj1 aj2 aj3 aj4 a35 hS a36 l4 hcq
 refine Y1 rfl rfl (bT a6 (eM (l4 14 33 rfl rfl))) (N7 (b := b8) (eM (l4 24 43 rfl rfl)) rfl ?_)
 exact qn (.refl _) rfl hS rfl
 intro aj5 aj6 aj7 aj8 a37 hS a38 h3 hcq
 refine Y1 rfl rfl (Eq.trans (eM (h3 11 30 rfl rfl)) (congrArg (fun b => Value.bool (!b)) a9)) ?_
 refine V1 (t := true) (Value.bool (!b8)) (bT a6 (eM (h3 14 33 rfl rfl))) ((if_pos rfl).trans (eM (h3 25 44 rfl rfl))) rfl ?_
 exact qn (.refl _) rfl hS rfl
 intro aj9 ak0 ak1 ak2 a39 hS a40 l5 hcq
 refine V1 (t := false) (Value.bool (!b8)) (Eq.trans (eM (l5 11 30 rfl rfl)) (congrArg (fun b => Value.bool (!b)) a9)) ((if_neg Bool.false_ne_true).trans (eM (l5 26 45 rfl rfl))) rfl ?_
 exact qn (.refl _) rfl hS rfl
 intro a04 a05 q4 h4 hS h5 s5 hcq
 have hS : St q4 a05 ([(b7, cA (Z7 .u8 ((rd a1 a3).1) ++ [vI ((rd a1 a3).2)]) 76)] ++ ([(b1, cA ([s1]) 47)] ++ L)) := hS
 have Z2 := Z2.trans h4
 have b0 := b0.mono h4
 have b3 := b3.mono h4
 have q5 : ev a04 (.tmp 46) = Value.bool (!b8) := s5 27 46 (by decide) rfl
 refine Z0 ?_
 by_cases e2 : b8 = true
 rw [if_pos e2] at a7
 refine Z9 (Eq.trans (by exact q5) (congrArg (fun b => Value.bool (!b)) e2)) (Y6 (X2 (Z1 (Z4 (vI a3) (by exact (evT (h5 5 rfl) b2)) rfl ?_))))
 refine V0 (a3 + 1) rfl rfl (IntWalk.i64_in _ (by omega)) rfl (Z6 (vI (a3 + 1)) rfl rfl (Z0 ?_))
 have hS := St.dropA hS
 exact y4 _ _ ⟨(a3 + 1), q4, a7, Z2, hS, (by omega), b0, b3, (evT (h5 0 rfl) b4), (evT (h5 3 rfl) b5), rfl⟩
 rw [if_neg e2] at a7
 refine Y0 (Eq.trans (by exact q5) (congrArg (fun b => Value.bool (!b)) (W2 e2))) (Z3 (Z1 (Z6 (Value.bool false) rfl rfl (Z0 ?_))))
 refine Y9 (vs := [Value.bool false]) Tryz.func113 ⟨rfl, trivial⟩ ?_
 have hz := Option.some.inj a7
 subst hz
 dsimp only [Ex.elim] at c3
 have hz := Option.some.inj c3
 subst hz
 exact ⟨_, _, rfl, Z2, (St.dropA (St.dropA hS)), rfl⟩
 rw [if_neg a6] at a7
 refine V4 28 (R9 [(19, MP.eq (s0)), (20, MP.eq (vP b7)), (21, MP.eq (vA (Z7 .u8 ((rd a1 a3).1)))), (22, MP.eq (Value.bool a5)), (23, MP.eq (Value.bool (!a5))), (24, MP.eq (Value.bool (!a5))), (25, MP.eq (vQ b7 8)), (26, MP.eq (vI ((rd a1 a3).2))), (27, MP.eq (Value.bool a4)), (28, MP.eq (Value.bool (!a4))), (29, MP.eq (Value.bool (!a4))), (30, MP.eq (Value.bool (!a4))), (31, MP.eq (vI a3)), (32, MP.eq (Value.bool (decide (0 < a3)))), (33, MP.eq (Value.bool (decide (0 < a3)))), (34, MP.eq (undef)), (35, MP.eq (undef)), (36, MP.eq (undef)), (37, MP.eq (undef)), (38, MP.eq (undef)), (39, MP.eq (undef)), (40, MP.eq (undef)), (41, MP.eq (undef)), (42, MP.eq (undef)), (43, MP.eq (undef)), (44, MP.eq (undef)), (45, MP.eq (Value.bool false)), (46, MP.eq (Value.bool false))]) [] mixed rfl rfl rfl hS (Z5 rfl ?_ (Z5 rfl ?_ (Z5 rfl ?_ (Z5 rfl ?_ (Z5 rfl ?_ (Z5 rfl ?_ (Z5 rfl ?_ (Z5 rfl ?_ (Z5 rfl ?_ (Z5 rfl ?_ (Z5 rfl ?_ (Z5 rfl ?_ (Z5 rfl ?_ (Z5 rfl ?_ (Z5 rfl ?_ (Z5 rfl ?_ (Z5 rfl ?_ (Z5 rfl ?_ (Z5 rfl ?_ (Z5 rfl ?_ (Z5 rfl ?_ (Z5 rfl ?_ (Z5 rfl ?_ (Z5 rfl ?_ (Z5 rfl ?_ (Z5 rfl ?_ (Z5 rfl ?_ (Z5 rfl ?_ V9)))))))))))))))))))))))))))) ?_
 intro m3 m4 m5 m6 i2 hS c8 i3 hcq
 have e3 := evT (c8 0 rfl) b4
 refine Z4 (s0) e3 rfl ?_
 exact qn (.refl _) rfl hS rfl
 intro e4 m7 m8 m9 i4 hS c9 i5 hcq
 have e5 : ev e4 (.tmp 6) = vP b7 := Eq.trans (c9 6 rfl) rfl
 refine Y2 P0 e5 rfl ?_
 exact qn (.refl _) rfl hS rfl
 intro e6 n0 n1 n2 i6 hS i7 d0 hcq
 have e7 : ev e6 (.tmp 20) = vP b7 := d0 1 20 rfl rfl
 refine V5 (Z7 .u8 ((rd a1 a3).1)) N0 e7 (hS.get (o := cA (Z7 .u8 ((rd a1 a3).1) ++ [vI ((rd a1 a3).2)]) 76) (mR mL)) rfl (fun j hj => Zj5 ([]) (Z7 .u8 ((rd a1 a3).1)) (([vI ((rd a1 a3).2)])) j hj) rfl ?_
 exact qn (.refl _) rfl hS rfl
 intro c4 n3 n4 n5 d1 hS i8 b9 hcq
 have b0 := b0.mono d1
 have e8 : ev c4 (.tmp 19) = s0 := b9 0 19 rfl rfl
 have e9 : ev c4 (.tmp 21) = vA (Z7 .u8 ((rd a1 a3).1)) := b9 2 21 rfl rfl
 refine Y8 Tryz.call202 (T0 e8 e9) rfl (Zn6 g6 b0 hS) ?_
 rintro n6 n7 ⟨_, n8, rfl, d2, hS, rfl⟩
 refine ⟨_, rfl, ?_⟩
 exact qn d2 rfl hS rfl
 intro f0 n9 o0 o1 i9 hS j0 d3 hcq
 have f1 : ev f0 (.tmp 22) = Value.bool a5 := d3 3 22 rfl rfl
 refine N7 (b := a5) f1 rfl ?_
 exact qn (.refl _) rfl hS rfl
 intro f2 o2 o3 o4 j1 hS j2 d4 hcq
 have f3 : ev f2 (.tmp 23) = Value.bool (!a5) := d4 4 23 rfl rfl
 refine Z4 (Value.bool (!a5)) f3 rfl ?_
 exact qn (.refl _) rfl hS rfl
 intro d9 y5 y6 y7 o5 hS f4 f5 hcq
 have h8 : ev d9 (.tmp 24) = Value.bool (!a5) := f5 5 24 rfl rfl
 have h9 : ev d9 (.tmp 6) = vP b7 := Eq.trans (f4 6 rfl) rfl
 refine Y1 rfl rfl (Eq.trans h8 (congrArg (fun b => Value.bool (!b)) a8)) (Y2 Zc0 h9 rfl ?_)
 exact qn (.refl _) rfl hS rfl
 intro e0 y8 y9 z0 o7 hS o8 c5 hcq
 have i0 : ev e0 (.tmp 24) = Value.bool (!a5) := c5 5 24 rfl rfl
 have i1 : ev e0 (.tmp 25) = vQ b7 8 := c5 6 25 rfl rfl
 refine Y1 rfl rfl (Eq.trans i0 (congrArg (fun b => Value.bool (!b)) a8)) ?_
 refine Y4 (vI ((rd a1 a3).2)) ty2 i1 (hS.get (mR mL)) rfl rfl ?_
 exact qn (.refl _) rfl hS rfl
 intro e1 z1 o9 p0 k1 hS k2 c0 hcq
 have f6 : ev e1 (.tmp 24) = Value.bool (!a5) := c0 5 24 rfl rfl
 have f7 : ev e1 (.tmp 26) = vI ((rd a1 a3).2) := c0 7 26 rfl rfl
 refine Y1 rfl rfl (Eq.trans f6 (congrArg (fun b => Value.bool (!b)) a8)) ?_
 refine Y8 Tryz.call93 (N8 f7 rfl rfl) rfl (Zm7 g7  hS) ?_
 rintro p1 p2 ⟨_, p3, rfl, d5, hS, rfl⟩
 refine ⟨_, rfl, ?_⟩
 exact qn d5 rfl hS rfl
 intro c6 p4 p5 p6 k3 hS k4 c1 hcq
 have f8 : ev c6 (.tmp 24) = Value.bool (!a5) := c1 5 24 rfl rfl
 have f9 : ev c6 (.tmp 27) = Value.bool a4 := c1 8 27 rfl rfl
 refine Y1 rfl rfl (Eq.trans f8 (congrArg (fun b => Value.bool (!b)) a8)) (N7 (b := a4) f9 rfl ?_)
 exact qn (.refl _) rfl hS rfl
 intro c7 p7 p8 p9 k5 hS k6 c2 hcq
 have g0 : ev c7 (.tmp 24) = Value.bool (!a5) := c2 5 24 rfl rfl
 have g1 : ev c7 (.tmp 28) = Value.bool (!a4) := c2 9 28 rfl rfl
 refine V1 (t := false) (Value.bool (!a4)) (Eq.trans g0 (congrArg (fun b => Value.bool (!b)) a8)) ((if_neg Bool.false_ne_true).trans g1) rfl ?_
 exact qn (.refl _) rfl hS rfl
 intro g2 q1 q2 q3 k7 hS k8 d6 hcq
 have g3 : ev g2 (.tmp 29) = Value.bool (!a4) := d6 10 29 rfl rfl
 refine Z4 (Value.bool (!a4)) g3 rfl ?_
 exact qn (.refl _) rfl hS rfl
 intro j3 z3 z4 z5 r0 hS g9 h0 hcq
 have j4 : ev j3 (.tmp 30) = Value.bool (!a4) := h0 11 30 rfl rfl
 have j5 := evT (g9 5 rfl) b2
 refine Y1 rfl rfl (Eq.trans j4 (congrArg (fun b => Value.bool (!b)) a9)) (Z4 (vI a3) j5 rfl ?_)
 exact qn (.refl _) rfl hS rfl
 intro g4 z6 z7 z8 r1 hS r2 d7 hcq
 have j6 : ev g4 (.tmp 30) = Value.bool (!a4) := d7 11 30 rfl rfl
 have j7 : ev g4 (.tmp 31) = vI a3 := d7 12 31 rfl rfl
 refine Y1 rfl rfl (Eq.trans j6 (congrArg (fun b => Value.bool (!b)) a9)) ?_
 refine Zc5 (k := .i64) (a := a3) (b := 0) j7 rfl rfl ?_
 exact qn (.refl _) rfl hS rfl
 intro g5 z9 a00 a01 r3 hS r4 d8 hcq
 have j8 : ev g5 (.tmp 30) = Value.bool (!a4) := d8 11 30 rfl rfl
 have j9 : ev g5 (.tmp 32) = Value.bool (decide (0 < a3)) := d8 13 32 rfl rfl
 refine Y1 rfl rfl (Eq.trans j8 (congrArg (fun b => Value.bool (!b)) a9)) (Z4 (Value.bool (decide (0 < a3))) j9 rfl ?_)
 exact qn (.refl _) rfl hS rfl
 intro ak3 ak4 ak5 ak6 a41 hS a42 s6 hcq
 refine Z8 rfl rfl (bF a6 (eM (s6 14 33 rfl rfl))) rfl rfl rfl ?_
 exact qn (.refl _) rfl hS rfl
 intro ak7 ak8 ak9 al0 a43 hS a44 s7 hcq
 refine Z8 rfl rfl (bF a6 (eM (s7 14 33 rfl rfl))) rfl rfl rfl ?_
 exact qn (.refl _) rfl hS rfl
 intro al1 al2 al3 al4 a45 hS a46 s8 hcq
 refine Z8 rfl rfl (bF a6 (eM (s8 14 33 rfl rfl))) rfl rfl rfl ?_
 exact qn (.refl _) rfl hS rfl
 intro al5 al6 al7 al8 a47 hS a48 s9 hcq
 refine Z8 rfl rfl (bF a6 (eM (s9 14 33 rfl rfl))) rfl rfl rfl ?_
 exact qn (.refl _) rfl hS rfl
 intro al9 am0 am1 am2 a49 hS a50 t0 hcq
 refine Z8 rfl rfl (bF a6 (eM (t0 14 33 rfl rfl))) rfl rfl rfl ?_
 exact qn (.refl _) rfl hS rfl
 intro am3 am4 am5 am6 a51 hS a52 t1 hcq
 refine Z8 rfl rfl (bF a6 (eM (t1 14 33 rfl rfl))) rfl rfl rfl ?_
 exact qn (.refl _) rfl hS rfl
 intro am7 am8 am9 an0 a53 hS a54 t4 hcq
 refine Z8 rfl rfl (bF a6 (eM (t4 14 33 rfl rfl))) rfl rfl rfl ?_
 exact qn (.refl _) rfl hS rfl
 intro an1 an2 an3 an4 a55 hS a56 t5 hcq
 refine Z8 rfl rfl (bF a6 (eM (t5 14 33 rfl rfl))) rfl rfl rfl ?_
 exact qn (.refl _) rfl hS rfl
 intro an5 an6 an7 an8 a57 hS a58 t6 hcq
 refine Z8 rfl rfl (bF a6 (eM (t6 14 33 rfl rfl))) rfl rfl rfl ?_
 exact qn (.refl _) rfl hS rfl
 intro an9 ao0 ao1 ao2 a59 hS a60 t7 hcq
 refine Z8 rfl rfl (bF a6 (eM (t7 14 33 rfl rfl))) rfl rfl rfl ?_
 exact qn (.refl _) rfl hS rfl
 intro ao3 ao4 ao5 ao6 a61 hS a62 t8 hcq
 refine Z8 rfl rfl (bF a6 (eM (t8 14 33 rfl rfl))) rfl rfl rfl ?_
 exact qn (.refl _) rfl hS rfl
 intro ao7 ao8 ao9 ap0 a63 hS a64 l6 hcq
 refine Y1 rfl rfl (Eq.trans (eM (l6 11 30 rfl rfl)) (congrArg (fun b => Value.bool (!b)) a9)) ?_
 refine V1 (t := false) (Value.bool false) (bF a6 (eM (l6 14 33 rfl rfl))) ((if_neg Bool.false_ne_true).trans rfl) rfl ?_
 exact qn (.refl _) rfl hS rfl
 intro ap1 ap2 ap3 ap4 a65 hS a66 l7 hcq
 refine V1 (t := false) (Value.bool false) (Eq.trans (eM (l7 11 30 rfl rfl)) (congrArg (fun b => Value.bool (!b)) a9)) ((if_neg Bool.false_ne_true).trans (eM (l7 26 45 rfl rfl))) rfl ?_
 exact qn (.refl _) rfl hS rfl
 intro ap5 a06 q6 h6 hS h7 t9 hcq
 have hS : St q6 a06 ([(b7, cA (Z7 .u8 ((rd a1 a3).1) ++ [vI ((rd a1 a3).2)]) 76)] ++ ([(b1, cA ([s1]) 47)] ++ L)) := hS
 have Z2 := Z2.trans h6
 have b0 := b0.mono h6
 have b3 := b3.mono h6
 refine Z0 (Z9 (by exact (eM (t9 27 46 (by decide) rfl))) (Y6 (X2 (Z1 (Z4 (vI a3) (by exact (evT (h7 5 rfl) b2)) rfl ?_)))))
 refine V0 (a3 + 1) rfl rfl (IntWalk.i64_in _ (by omega)) rfl (Z6 (vI (a3 + 1)) rfl rfl (Z0 ?_))
 have hS := St.dropA hS
 exact y4 _ _ ⟨(a3 + 1), q6, a7, Z2, hS, (by omega), b0, b3, (evT (h7 0 rfl) b4), (evT (h7 3 rfl) b5), rfl⟩
 rw [if_neg a9] at a7
 refine V4 28 (R9 [(19, MP.eq (s0)), (20, MP.eq (vP b7)), (21, MP.eq (vA (Z7 .u8 ((rd a1 a3).1)))), (22, MP.eq (Value.bool a5)), (23, MP.eq (Value.bool (!a5))), (24, MP.eq (Value.bool (!a5))), (25, MP.eq (vQ b7 8)), (26, MP.eq (vI ((rd a1 a3).2))), (27, MP.eq (Value.bool a4)), (28, MP.eq (Value.bool (!a4))), (29, MP.eq (Value.bool (!a4))), (30, MP.eq (Value.bool (!a4))), (31, MP.eq (undef)), (32, MP.eq (undef)), (33, MP.eq (undef)), (34, MP.eq (undef)), (35, MP.eq (undef)), (36, MP.eq (undef)), (37, MP.eq (undef)), (38, MP.eq (undef)), (39, MP.eq (undef)), (40, MP.eq (undef)), (41, MP.eq (undef)), (42, MP.eq (undef)), (43, MP.eq (undef)), (44, MP.eq (undef)), (45, MP.eq (undef)), (46, MP.eq (Value.bool true))]) [] mixed rfl rfl rfl hS (Z5 rfl ?_ (Z5 rfl ?_ (Z5 rfl ?_ (Z5 rfl ?_ (Z5 rfl ?_ (Z5 rfl ?_ (Z5 rfl ?_ (Z5 rfl ?_ (Z5 rfl ?_ (Z5 rfl ?_ (Z5 rfl ?_ (Z5 rfl ?_ (Z5 rfl ?_ (Z5 rfl ?_ (Z5 rfl ?_ (Z5 rfl ?_ (Z5 rfl ?_ (Z5 rfl ?_ (Z5 rfl ?_ (Z5 rfl ?_ (Z5 rfl ?_ (Z5 rfl ?_ (Z5 rfl ?_ (Z5 rfl ?_ (Z5 rfl ?_ (Z5 rfl ?_ (Z5 rfl ?_ (Z5 rfl ?_ V9)))))))))))))))))))))))))))) ?_
 intro m3 m4 m5 m6 i2 hS c8 i3 hcq
 have e3 := evT (c8 0 rfl) b4
 refine Z4 (s0) e3 rfl ?_
 exact qn (.refl _) rfl hS rfl
 intro e4 m7 m8 m9 i4 hS c9 i5 hcq
 have e5 : ev e4 (.tmp 6) = vP b7 := Eq.trans (c9 6 rfl) rfl
 refine Y2 P0 e5 rfl ?_
 exact qn (.refl _) rfl hS rfl
 intro e6 n0 n1 n2 i6 hS i7 d0 hcq
 have e7 : ev e6 (.tmp 20) = vP b7 := d0 1 20 rfl rfl
 refine V5 (Z7 .u8 ((rd a1 a3).1)) N0 e7 (hS.get (o := cA (Z7 .u8 ((rd a1 a3).1) ++ [vI ((rd a1 a3).2)]) 76) (mR mL)) rfl (fun j hj => Zj5 ([]) (Z7 .u8 ((rd a1 a3).1)) (([vI ((rd a1 a3).2)])) j hj) rfl ?_
 exact qn (.refl _) rfl hS rfl
 intro c4 n3 n4 n5 d1 hS i8 b9 hcq
 have b0 := b0.mono d1
 have e8 : ev c4 (.tmp 19) = s0 := b9 0 19 rfl rfl
 have e9 : ev c4 (.tmp 21) = vA (Z7 .u8 ((rd a1 a3).1)) := b9 2 21 rfl rfl
 refine Y8 Tryz.call202 (T0 e8 e9) rfl (Zn6 g6 b0 hS) ?_
 rintro n6 n7 ⟨_, n8, rfl, d2, hS, rfl⟩
 refine ⟨_, rfl, ?_⟩
 exact qn d2 rfl hS rfl
 intro f0 n9 o0 o1 i9 hS j0 d3 hcq
 have f1 : ev f0 (.tmp 22) = Value.bool a5 := d3 3 22 rfl rfl
 refine N7 (b := a5) f1 rfl ?_
 exact qn (.refl _) rfl hS rfl
 intro f2 o2 o3 o4 j1 hS j2 d4 hcq
 have f3 : ev f2 (.tmp 23) = Value.bool (!a5) := d4 4 23 rfl rfl
 refine Z4 (Value.bool (!a5)) f3 rfl ?_
 exact qn (.refl _) rfl hS rfl
 intro d9 y5 y6 y7 o5 hS f4 f5 hcq
 have h8 : ev d9 (.tmp 24) = Value.bool (!a5) := f5 5 24 rfl rfl
 have h9 : ev d9 (.tmp 6) = vP b7 := Eq.trans (f4 6 rfl) rfl
 refine Y1 rfl rfl (Eq.trans h8 (congrArg (fun b => Value.bool (!b)) a8)) (Y2 Zc0 h9 rfl ?_)
 exact qn (.refl _) rfl hS rfl
 intro e0 y8 y9 z0 o7 hS o8 c5 hcq
 have i0 : ev e0 (.tmp 24) = Value.bool (!a5) := c5 5 24 rfl rfl
 have i1 : ev e0 (.tmp 25) = vQ b7 8 := c5 6 25 rfl rfl
 refine Y1 rfl rfl (Eq.trans i0 (congrArg (fun b => Value.bool (!b)) a8)) ?_
 refine Y4 (vI ((rd a1 a3).2)) ty2 i1 (hS.get (mR mL)) rfl rfl ?_
 exact qn (.refl _) rfl hS rfl
 intro e1 z1 o9 p0 k1 hS k2 c0 hcq
 have f6 : ev e1 (.tmp 24) = Value.bool (!a5) := c0 5 24 rfl rfl
 have f7 : ev e1 (.tmp 26) = vI ((rd a1 a3).2) := c0 7 26 rfl rfl
 refine Y1 rfl rfl (Eq.trans f6 (congrArg (fun b => Value.bool (!b)) a8)) ?_
 refine Y8 Tryz.call93 (N8 f7 rfl rfl) rfl (Zm7 g7  hS) ?_
 rintro p1 p2 ⟨_, p3, rfl, d5, hS, rfl⟩
 refine ⟨_, rfl, ?_⟩
 exact qn d5 rfl hS rfl
 intro c6 p4 p5 p6 k3 hS k4 c1 hcq
 have f8 : ev c6 (.tmp 24) = Value.bool (!a5) := c1 5 24 rfl rfl
 have f9 : ev c6 (.tmp 27) = Value.bool a4 := c1 8 27 rfl rfl
 refine Y1 rfl rfl (Eq.trans f8 (congrArg (fun b => Value.bool (!b)) a8)) (N7 (b := a4) f9 rfl ?_)
 exact qn (.refl _) rfl hS rfl
 intro c7 p7 p8 p9 k5 hS k6 c2 hcq
 have g0 : ev c7 (.tmp 24) = Value.bool (!a5) := c2 5 24 rfl rfl
 have g1 : ev c7 (.tmp 28) = Value.bool (!a4) := c2 9 28 rfl rfl
 refine V1 (t := false) (Value.bool (!a4)) (Eq.trans g0 (congrArg (fun b => Value.bool (!b)) a8)) ((if_neg Bool.false_ne_true).trans g1) rfl ?_
 exact qn (.refl _) rfl hS rfl
 intro g2 q1 q2 q3 k7 hS k8 d6 hcq
 have g3 : ev g2 (.tmp 29) = Value.bool (!a4) := d6 10 29 rfl rfl
 refine Z4 (Value.bool (!a4)) g3 rfl ?_
 exact qn (.refl _) rfl hS rfl
 intro ap6 ap7 ap8 ap9 a67 hS a68 u0 hcq
 refine Z8 rfl rfl (Eq.trans (eM (u0 11 30 rfl rfl)) (congrArg (fun b => Value.bool (!b)) (W2 a9))) rfl rfl rfl ?_
 exact qn (.refl _) rfl hS rfl
 intro aq0 aq1 aq2 aq3 a69 hS a70 u1 hcq
 refine Z8 rfl rfl (Eq.trans (eM (u1 11 30 rfl rfl)) (congrArg (fun b => Value.bool (!b)) (W2 a9))) rfl rfl rfl ?_
 exact qn (.refl _) rfl hS rfl
 intro aq4 aq5 aq6 aq7 a71 hS a72 u2 hcq
 refine Z8 rfl rfl (Eq.trans (eM (u2 11 30 rfl rfl)) (congrArg (fun b => Value.bool (!b)) (W2 a9))) rfl rfl rfl ?_
 exact qn (.refl _) rfl hS rfl
 intro aq8 aq9 ar0 ar1 a73 hS a74 u3 hcq
 refine V3 rfl rfl (eM (u3 14 33 rfl rfl)) rfl rfl ?_
 exact qn (.refl _) rfl hS rfl
 intro ar2 ar3 ar4 ar5 a75 hS a76 u4 hcq
 refine V3 rfl rfl (eM (u4 14 33 rfl rfl)) rfl rfl ?_
 exact qn (.refl _) rfl hS rfl
 intro ar6 ar7 ar8 ar9 a77 hS a78 u5 hcq
 refine V3 rfl rfl (eM (u5 14 33 rfl rfl)) rfl rfl ?_
 exact qn (.refl _) rfl hS rfl
 intro as0 as1 as2 as3 a79 hS a80 u6 hcq
 refine V3 rfl rfl (eM (u6 14 33 rfl rfl)) rfl rfl ?_
 exact qn (.refl _) rfl hS rfl
 intro as4 as5 as6 as7 a81 hS a82 u7 hcq
 refine V3 rfl rfl (eM (u7 14 33 rfl rfl)) rfl rfl ?_
 exact qn (.refl _) rfl hS rfl
 intro as8 as9 at0 at1 a83 hS a84 u8 hcq
 refine V3 rfl rfl (eM (u8 14 33 rfl rfl)) rfl rfl ?_
 exact qn (.refl _) rfl hS rfl
 intro at2 at3 at4 at5 a85 hS a86 u9 hcq
 refine V3 rfl rfl (eM (u9 14 33 rfl rfl)) rfl rfl ?_
 exact qn (.refl _) rfl hS rfl
 intro at6 at7 at8 at9 a87 hS a88 v0 hcq
 refine V3 rfl rfl (eM (v0 14 33 rfl rfl)) rfl rfl ?_
 exact qn (.refl _) rfl hS rfl
 intro au0 au1 au2 au3 a89 hS a90 v1 hcq
 refine V3 rfl rfl (eM (v1 14 33 rfl rfl)) rfl rfl ?_
 exact qn (.refl _) rfl hS rfl
 intro au4 au5 au6 au7 a91 hS a92 v2 hcq
 refine V3 rfl rfl (eM (v2 14 33 rfl rfl)) rfl rfl ?_
 exact qn (.refl _) rfl hS rfl
 intro au8 au9 av0 av1 a93 hS a94 v3 hcq
 refine V3 rfl rfl (eM (v3 14 33 rfl rfl)) rfl rfl ?_
 exact qn (.refl _) rfl hS rfl
 intro av2 av3 av4 av5 a95 hS a96 v4 hcq
 refine Z8 rfl rfl (Eq.trans (eM (v4 11 30 rfl rfl)) (congrArg (fun b => Value.bool (!b)) (W2 a9))) rfl rfl rfl ?_
 exact qn (.refl _) rfl hS rfl
 intro av6 av7 av8 av9 a97 hS a98 v5 hcq
 refine V1 (t := true) (Value.bool true) (Eq.trans (eM (v5 11 30 rfl rfl)) (congrArg (fun b => Value.bool (!b)) (W2 a9))) ((if_pos rfl).trans rfl) rfl ?_
 exact qn (.refl _) rfl hS rfl
 intro aw0 a07 a08 v6 hS a99 v7 hcq
 have hS : St a08 a07 ([(b7, cA (Z7 .u8 ((rd a1 a3).1) ++ [vI ((rd a1 a3).2)]) 76)] ++ ([(b1, cA ([s1]) 47)] ++ L)) := hS
 have Z2 := Z2.trans v6
 refine Z0 (Y0 (by exact (eM (v7 27 46 (by decide) rfl))) (Z3 (Z1 (Z6 (Value.bool false) rfl rfl (Z0 ?_)))))
 refine Y9 (vs := [Value.bool false]) Tryz.func113 ⟨rfl, trivial⟩ ?_
 have hz := Option.some.inj a7
 subst hz
 dsimp only [Ex.elim] at c3
 have hz := Option.some.inj c3
 subst hz
 exact ⟨_, _, rfl, Z2, (St.dropA (St.dropA hS)), rfl⟩
 rw [if_neg a8] at a7
 refine V4 28 (R9 [(19, MP.eq (s0)), (20, MP.eq (vP b7)), (21, MP.eq (vA (Z7 .u8 ((rd a1 a3).1)))), (22, MP.eq (Value.bool a5)), (23, MP.eq (Value.bool (!a5))), (24, MP.eq (Value.bool (!a5))), (25, MP.eq (undef)), (26, MP.eq (undef)), (27, MP.eq (undef)), (28, MP.eq (undef)), (29, MP.eq (Value.bool true)), (30, MP.eq (Value.bool true)), (31, MP.eq (undef)), (32, MP.eq (undef)), (33, MP.eq (undef)), (34, MP.eq (undef)), (35, MP.eq (undef)), (36, MP.eq (undef)), (37, MP.eq (undef)), (38, MP.eq (undef)), (39, MP.eq (undef)), (40, MP.eq (undef)), (41, MP.eq (undef)), (42, MP.eq (undef)), (43, MP.eq (undef)), (44, MP.eq (undef)), (45, MP.eq (undef)), (46, MP.eq (Value.bool true))]) [] mixed rfl rfl rfl hS (Z5 rfl ?_ (Z5 rfl ?_ (Z5 rfl ?_ (Z5 rfl ?_ (Z5 rfl ?_ (Z5 rfl ?_ (Z5 rfl ?_ (Z5 rfl ?_ (Z5 rfl ?_ (Z5 rfl ?_ (Z5 rfl ?_ (Z5 rfl ?_ (Z5 rfl ?_ (Z5 rfl ?_ (Z5 rfl ?_ (Z5 rfl ?_ (Z5 rfl ?_ (Z5 rfl ?_ (Z5 rfl ?_ (Z5 rfl ?_ (Z5 rfl ?_ (Z5 rfl ?_ (Z5 rfl ?_ (Z5 rfl ?_ (Z5 rfl ?_ (Z5 rfl ?_ (Z5 rfl ?_ (Z5 rfl ?_ V9)))))))))))))))))))))))))))) ?_
 intro m3 m4 m5 m6 i2 hS c8 i3 hcq
 have e3 := evT (c8 0 rfl) b4
 refine Z4 (s0) e3 rfl ?_
 exact qn (.refl _) rfl hS rfl
 intro e4 m7 m8 m9 i4 hS c9 i5 hcq
 have e5 : ev e4 (.tmp 6) = vP b7 := Eq.trans (c9 6 rfl) rfl
 refine Y2 P0 e5 rfl ?_
 exact qn (.refl _) rfl hS rfl
 intro e6 n0 n1 n2 i6 hS i7 d0 hcq
 have e7 : ev e6 (.tmp 20) = vP b7 := d0 1 20 rfl rfl
 refine V5 (Z7 .u8 ((rd a1 a3).1)) N0 e7 (hS.get (o := cA (Z7 .u8 ((rd a1 a3).1) ++ [vI ((rd a1 a3).2)]) 76) (mR mL)) rfl (fun j hj => Zj5 ([]) (Z7 .u8 ((rd a1 a3).1)) (([vI ((rd a1 a3).2)])) j hj) rfl ?_
 exact qn (.refl _) rfl hS rfl
 intro c4 n3 n4 n5 d1 hS i8 b9 hcq
 have b0 := b0.mono d1
 have e8 : ev c4 (.tmp 19) = s0 := b9 0 19 rfl rfl
 have e9 : ev c4 (.tmp 21) = vA (Z7 .u8 ((rd a1 a3).1)) := b9 2 21 rfl rfl
 refine Y8 Tryz.call202 (T0 e8 e9) rfl (Zn6 g6 b0 hS) ?_
 rintro n6 n7 ⟨_, n8, rfl, d2, hS, rfl⟩
 refine ⟨_, rfl, ?_⟩
 exact qn d2 rfl hS rfl
 intro f0 n9 o0 o1 i9 hS j0 d3 hcq
 have f1 : ev f0 (.tmp 22) = Value.bool a5 := d3 3 22 rfl rfl
 refine N7 (b := a5) f1 rfl ?_
 exact qn (.refl _) rfl hS rfl
 intro f2 o2 o3 o4 j1 hS j2 d4 hcq
 have f3 : ev f2 (.tmp 23) = Value.bool (!a5) := d4 4 23 rfl rfl
 refine Z4 (Value.bool (!a5)) f3 rfl ?_
 exact qn (.refl _) rfl hS rfl
 intro aw1 aw2 aw3 aw4 aa0 hS aa1 v8 hcq
 refine Z8 rfl rfl (Eq.trans (eM (v8 5 24 rfl rfl)) (congrArg (fun b => Value.bool (!b)) (W2 a8))) rfl rfl rfl ?_
 exact qn (.refl _) rfl hS rfl
 intro aw5 aw6 aw7 aw8 aa2 hS aa3 v9 hcq
 refine Z8 rfl rfl (Eq.trans (eM (v9 5 24 rfl rfl)) (congrArg (fun b => Value.bool (!b)) (W2 a8))) rfl rfl rfl ?_
 exact qn (.refl _) rfl hS rfl
 intro aw9 ax0 ax1 ax2 aa4 hS aa5 w0 hcq
 refine Z8 rfl rfl (Eq.trans (eM (w0 5 24 rfl rfl)) (congrArg (fun b => Value.bool (!b)) (W2 a8))) rfl rfl rfl ?_
 exact qn (.refl _) rfl hS rfl
 intro ax3 ax4 ax5 ax6 aa6 hS aa7 w1 hcq
 refine Z8 rfl rfl (Eq.trans (eM (w1 5 24 rfl rfl)) (congrArg (fun b => Value.bool (!b)) (W2 a8))) rfl rfl rfl ?_
 exact qn (.refl _) rfl hS rfl
 intro ax7 ax8 ax9 ay0 aa8 hS aa9 w3 hcq
 refine V1 (t := true) (Value.bool true) (Eq.trans (eM (w3 5 24 rfl rfl)) (congrArg (fun b => Value.bool (!b)) (W2 a8))) ((if_pos rfl).trans rfl) rfl ?_
 exact qn (.refl _) rfl hS rfl
 intro ay1 ay2 ay3 ay4 ab0 hS ab1 w4 hcq
 refine Z4 (Value.bool true) (eM (w4 10 29 rfl rfl)) rfl ?_
 exact qn (.refl _) rfl hS rfl
 intro ay5 ay6 ay7 ay8 ab2 hS ab3 w5 hcq
 refine Z8 rfl rfl (eM (w5 11 30 rfl rfl)) rfl rfl rfl ?_
 exact qn (.refl _) rfl hS rfl
 intro ay9 az0 az1 az2 ab4 hS ab5 w6 hcq
 refine Z8 rfl rfl (eM (w6 11 30 rfl rfl)) rfl rfl rfl ?_
 exact qn (.refl _) rfl hS rfl
 intro az3 az4 az5 az6 ab6 hS ab7 w7 hcq
 refine Z8 rfl rfl (eM (w7 11 30 rfl rfl)) rfl rfl rfl ?_
 exact qn (.refl _) rfl hS rfl
 intro az7 az8 az9 b00 ab8 hS ab9 w9 hcq
 refine V3 rfl rfl (eM (w9 14 33 rfl rfl)) rfl rfl ?_
 exact qn (.refl _) rfl hS rfl
 intro b01 b02 b03 b04 ac0 hS ac1 x0 hcq
 refine V3 rfl rfl (eM (x0 14 33 rfl rfl)) rfl rfl ?_
 exact qn (.refl _) rfl hS rfl
 intro b05 b06 b07 b08 ac2 hS ac3 x1 hcq
 refine V3 rfl rfl (eM (x1 14 33 rfl rfl)) rfl rfl ?_
 exact qn (.refl _) rfl hS rfl
 intro b09 b10 b11 b12 ac4 hS ac5 x2 hcq
 refine V3 rfl rfl (eM (x2 14 33 rfl rfl)) rfl rfl ?_
 exact qn (.refl _) rfl hS rfl
 intro b13 b14 b15 b16 ac6 hS ac7 x3 hcq
 refine V3 rfl rfl (eM (x3 14 33 rfl rfl)) rfl rfl ?_
 exact qn (.refl _) rfl hS rfl
 intro b17 b18 b19 b20 ac8 hS ac9 x4 hcq
 refine V3 rfl rfl (eM (x4 14 33 rfl rfl)) rfl rfl ?_
 exact qn (.refl _) rfl hS rfl
 intro b21 b22 b23 b24 ad0 hS ad1 x5 hcq
 refine V3 rfl rfl (eM (x5 14 33 rfl rfl)) rfl rfl ?_
 exact qn (.refl _) rfl hS rfl
 intro b25 b26 b27 b28 ad2 hS ad3 x6 hcq
 refine V3 rfl rfl (eM (x6 14 33 rfl rfl)) rfl rfl ?_
 exact qn (.refl _) rfl hS rfl
 intro b29 b30 b31 b32 ad4 hS ad5 x7 hcq
 refine V3 rfl rfl (eM (x7 14 33 rfl rfl)) rfl rfl ?_
 exact qn (.refl _) rfl hS rfl
 intro b33 b34 b35 b36 ad6 hS ad7 x8 hcq
 refine V3 rfl rfl (eM (x8 14 33 rfl rfl)) rfl rfl ?_
 exact qn (.refl _) rfl hS rfl
 intro b37 b38 b39 b40 ad8 hS ad9 x9 hcq
 refine V3 rfl rfl (eM (x9 14 33 rfl rfl)) rfl rfl ?_
 exact qn (.refl _) rfl hS rfl
 intro b41 b42 b43 b44 ae0 hS ae1 y0 hcq
 refine Z8 rfl rfl (eM (y0 11 30 rfl rfl)) rfl rfl rfl ?_
 exact qn (.refl _) rfl hS rfl
 intro b45 b46 b47 b48 ae2 hS ae3 y1 hcq
 refine V1 (t := true) (Value.bool true) (eM (y1 11 30 rfl rfl)) ((if_pos rfl).trans rfl) rfl ?_
 exact qn (.refl _) rfl hS rfl
 intro b49 a09 a10 y2 hS ae4 y3 hcq
 have hS : St a10 a09 ([(b7, cA (Z7 .u8 ((rd a1 a3).1) ++ [vI ((rd a1 a3).2)]) 76)] ++ ([(b1, cA ([s1]) 47)] ++ L)) := hS
 have Z2 := Z2.trans y2
 refine Z0 (Y0 (by exact (eM (y3 27 46 (by decide) rfl))) (Z3 (Z1 (Z6 (Value.bool false) rfl rfl (Z0 ?_)))))
 refine Y9 (vs := [Value.bool false]) Tryz.func113 ⟨rfl, trivial⟩ ?_
 have hz := Option.some.inj a7
 subst hz
 dsimp only [Ex.elim] at c3
 have hz := Option.some.inj c3
 subst hz
 exact ⟨_, _, rfl, Z2, (St.dropA (St.dropA hS)), rfl⟩
 rw [if_neg k0] at a7
 refine Z9 (bF k0 rfl) ?_
 refine W4 rfl ?_
 have hz := Option.some.inj a7
 subst hz
 exact hx0 _ _ ⟨z2, rfl, Z2, hS, b3, b5⟩
 exact ⟨0, H, a7, Z2, hS, (by omega), b0, b3, rfl, rfl, rfl⟩
 rintro b50 b51 ⟨b52, rfl, Z2, hS, b3, l9⟩
 dsimp only [Ex.elim] at c3
 refine Z3 (Z1 (Y2 V6 (by exact l9) rfl ?_))
 refine Y4 (s1) R7 rfl (hS.get mL) rfl rfl ?_
 have ae5 := b3.bound
 refine W6 S9 rfl b3 rfl ?_
 refine Yp5 (k := .i64) (a := (a1.length : Int)) (b := 400) rfl rfl rfl (Z6 (Value.bool (decide ((a1.length : Int) ≤ 400))) rfl rfl (Z0 ?_))
 refine Y9 (vs := [Value.bool (decide ((a1.length : Int) ≤ 400))]) Tryz.func113 ⟨rfl, trivial⟩ ?_
 have hz := Option.some.inj c3
 subst hz
 exact ⟨_, _, rfl, Z2, (St.dropA hS), rfl⟩
def T4 (K : Nat) (a0 : MpT) (a1 : A8) (a2 : Int) : Option MpT := (if nfm a0 = true ∧ -4611686018427387904 ≤ a2 ∧ a2 ≤ 4611686018427387904 then ((Zk5 K (IntKind.i64.wrap ((M5 a0 a1) + a2))).bind fun r4 => (if r4 = 0 then some (Zq8 a0 a1) else some (A9 a0 a1 r4))) else none)
theorem Ya9 {K : Nat} {a0 : MpT} {a1 : A8} {a2 : Int} {r : MpT} (q0 : T4 K a0 a1 a2 = some r) {H : FH} {w : World} {L C0 : OL} {s0 : Value} (a3 : R1 .i64 s0 a0 C0) (hS : St H w (C0 ++ L)) :
 Calls Tryz.prog 225 #[s0, vA (Z7 .i64 a1), vI a2] w (Wb2 .i64 s0 r H L) := by
 have Z2 := Sub.refl H
 refine X0 Tryz.func225 rfl Tryz.ntmps225 rfl ?_
 unfold T4 at q0
 obtain ⟨hG, q0⟩ := gd q0
 refine Z3 (Z1 ?_)
 refine T7 (v := vA (Z7 .i64 a1)) (Z7 .i64 a1).toArray rfl rfl hS rfl ?_
 intro b1 w2 hS
 refine Z0 (Z3 (Z1 (Z4 (s0) rfl rfl ?_)))
 refine X8 N2 rfl (hS.get mL) rfl rfl ?_
 have hS := hS.perm U4
 refine Xu5 (a := a1) Zm8 rfl rfl a3 hS rfl ?_
 have hS := hS.perm U4.symm
 refine Z4 (vI a2) rfl rfl ?_
 refine V0 (IntKind.i64.wrap ((M5 a0 a1) + a2)) rfl rfl rfl rfl ?_
 obtain ⟨r4, a7, q0⟩ := bind_some q0
 refine Y8 Tryz.call215 (Q8 rfl) rfl (Ye7 a7  hS) ?_
 rintro e4 w5 ⟨_, H4, rfl, a5, hS, rfl⟩
 refine ⟨_, rfl, ?_⟩
 have Z2 := Z2.trans a5
 have a3 := a3.mono a5
 refine Z6 (vI r4) rfl rfl (Z0 (Z3 (Z1 (Z4 (vI r4) rfl rfl ?_))))
 refine L9 (k := .i64) (a := r4) (b := 0) rfl rfl rfl (Z0 ?_)
 by_cases a4 : r4 = 0
 rw [if_pos a4] at q0
 refine Z9 (bN a4 rfl) (Z1 (Z4 (s0) rfl rfl ?_))
 refine X8 N2 rfl (hS.get mL) rfl rfl ?_
 have hS := hS.perm U4
 refine Xz5 (a := a1) Zm8 rfl rfl a3 hS ?_
 intro w7 C8 a8 hS
 have hS := hS.perm U4.symm
 refine Z0 ?_
 refine Yz7 (vs := []) Tryz.func225 trivial ?_
 have hS := hS.perm U4
 have hS := St.dropMid hS
 have hz := Option.some.inj q0
 subst hz
 exact ⟨_, _, rfl, Z2, hS, a8⟩
 rw [if_neg a4] at q0
 refine Y0 (bO a4 rfl) (Z1 (Z4 (s0) rfl rfl ?_))
 refine X8 N2 rfl (hS.get mL) rfl rfl (Z4 (vI r4) rfl rfl ?_)
 have hS := hS.perm U4
 refine Yr7 (a := a1) (m := r4) Zm8 rfl rfl rfl a3 hS ?_
 intro a9 b0 a6 hS
 have hS := hS.perm U4.symm
 refine Z0 ?_
 refine Yz7 (vs := []) Tryz.func225 trivial ?_
 have hS := hS.perm U4
 have hS := St.dropMid hS
 have hz := Option.some.inj q0
 subst hz
 exact ⟨_, _, rfl, Z2, hS, a6⟩
def Q5 (K : Nat) (a0 : MpT) (a1 : ((A8 × Int) → Option Bool)) : Option Bool := ((L0 K a0 a1).bind fun r1 => some (decide (0 ≤ r1)))
theorem Zm9 {K : Nat} {a0 : MpT} {a1 : ((A8 × Int) → Option Bool)} {r : Bool} (q0 : Q5 K a0 a1 = some r) {H : FH} {w : World} {L : OL} {s0 : Value} {s1 : Value} (a3 : Y3 yT H s0 a0) (a4 : FnQ Tryz.prog s1 (R.agg yT) a1 H) (hS : St H w L) :
 Calls Tryz.prog 144 #[s0, s1] w (T6 (fun v G => R.bool.p G v r) H L) := by
 have Z2 := Sub.refl H
 refine X0 Tryz.func144 rfl Tryz.ntmps144 rfl ?_
 unfold Q5 at q0
 refine Z3 (Z1 (Z6 (Value.bool false) rfl rfl (Z0 (Z3 (Z1 (Z4 (s0) rfl rfl (Z4 (s1) rfl rfl ?_)))))))
 obtain ⟨r1, a5, q0⟩ := bind_some q0
 refine Y8 Tryz.call236 (T0 rfl rfl) rfl (Zo5 a5 a3 a4 hS) ?_
 rintro e1 w2 ⟨_, H1, rfl, a6, hS, rfl⟩
 refine ⟨_, rfl, ?_⟩
 have Z2 := Z2.trans a6
 refine Yb5 (k := .i64) (a := r1) (b := 0) rfl rfl rfl (Z6 (Value.bool (decide (0 ≤ r1))) rfl rfl (Z0 ?_))
 refine Y9 (vs := [Value.bool (decide (0 ≤ r1))]) Tryz.func144 ⟨rfl, trivial⟩ ?_
 have hz := Option.some.inj q0
 subst hz
 exact ⟨_, _, rfl, Z2, hS, rfl⟩
def Zr4 (K : Nat) (a0 : Int) : Option Bool := ((Zh8 K a0 1 10006).bind fun r1 => some r1)
theorem Ym6 {K : Nat} {a0 : Int} {r : Bool} (q0 : Zr4 K a0 = some r) {H : FH} {w : World} {L : OL} (hS : St H w L) :
 Calls Tryz.prog 150 #[vI a0] w (T6 (fun v G => R.bool.p G v r) H L) := by
 have Z2 := Sub.refl H
 refine X0 Tryz.func150 rfl Tryz.ntmps150 rfl ?_
 unfold Zr4 at q0
 refine Z3 (Z1 (Z6 (Value.bool false) rfl rfl (Z0 (Z3 (Z1 (Z4 (vI a0) rfl rfl ?_))))))
 obtain ⟨r1, a1, q0⟩ := bind_some q0
 refine Y8 Tryz.call97 (N8 rfl rfl rfl) rfl (Zu6 a1  hS) ?_
 rintro e1 w2 ⟨_, H1, rfl, a3, hS, rfl⟩
 refine ⟨_, rfl, ?_⟩
 have Z2 := Z2.trans a3
 refine Z6 (Value.bool r1) rfl rfl (Z0 ?_)
 refine Y9 (vs := [Value.bool r1]) Tryz.func150 ⟨rfl, trivial⟩ ?_
 have hz := Option.some.inj q0
 subst hz
 exact ⟨_, _, rfl, Z2, hS, rfl⟩
end Go.Proofs.YtfodlhkoafhplaaGreat
