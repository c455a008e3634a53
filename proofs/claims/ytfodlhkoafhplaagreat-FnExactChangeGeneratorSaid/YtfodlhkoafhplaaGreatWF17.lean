/- Walks of functions: each computes its pure function, if that gives a value. -/
import Derived.Test.YtfodlhkoafhplaaGreatWTy
import Derived.Test.YtfodlhkoafhplaaGreatWF15
import Derived.Test.YtfodlhkoafhplaaGreatWF11
import Derived.Test.YtfodlhkoafhplaaGreatWF16
import Derived.Test.YtfodlhkoafhplaaGreatWF6
import Derived.Test.YtfodlhkoafhplaaGreatWF8
import Derived.Test.YtfodlhkoafhplaaGreatWF4
import Derived.Test.YtfodlhkoafhplaaGreatWF5
import Derived.Test.YtfodlhkoafhplaaGreatWF12
import Derived.Test.YtfodlhkoafhplaaGreatWF3
import Derived.Test.YtfodlhkoafhplaaGreatWF14
import Derived.Test.YtfodlhkoafhplaaGreatWF10
import Derived.Test.YtfodlhkoafhplaaGreatWF7
namespace Go.Proofs.YtfodlhkoafhplaaGreat
open Go
set_option linter.unusedSimpArgs false
set_option linter.unusedVariables false
set_option maxRecDepth 100000
set_option maxHeartbeats 8000000
def P6 (K : Nat) (a0 : ((List Int) × (List MpT))) (a1 : Int) (a2 : MpT) (b9 : Bool) : Option (((List Int) × (List MpT)) × Int) := (if b9 = true then some ((([] : List Int), ([] : List MpT)), 5) else ((Zq2 K (a0.1, a0.2)).bind fun g9 => (if 0 ≤ a1 then (if a1 < (a0.2.length : Int) then ((Zq5 K (a0.1, a0.2) a2).bind fun i0 => ((Zb0 K (rd a0.2 a1) i0 1).bind fun f1 => (if a1 < (g9.2.length : Int) then ((Zl9 K (a0.1.length : Int) ([] : (List Int))).bind fun e3 => (if a1 < (e3.length : Int) then ((Zb0 K (rd e3 a1) a2 10006).bind fun f2 => ((Zg3 K (g9.1, (g9.2.set (a1).toNat f1)) g9.1 (e3.set (a1).toNat f2) ([] : (List Int))).bind fun c9 => some ((c9.1.1, c9.1.2), c9.2))) else none)) else none))) else none) else none)))
def P3 (K : Nat) (a0 : ((List Int) × (List MpT))) (a1 : Int) (a2 : MpT) (b0 : Int) : Option (((List Int) × (List MpT)) × Int) := (if b0 = 0 then ((Zg1 K a0.1 a2).bind fun b3 => (if b3.2 = true then (if 0 < (a2.length : Int) then (if 0 ≤ a1 then (if a1 < (a0.1.length : Int) then (if b3.1 = (rd a0.1 a1) then ((Zl3 K a2 a1).bind fun f3 => P6 K a0 a1 a2 f3) else P6 K a0 a1 a2 true) else none) else none) else ((Zl3 K a2 a1).bind fun f4 => P6 K a0 a1 a2 f4)) else P6 K a0 a1 a2 true)) else some ((([] : List Int), ([] : List MpT)), b0))
def Q7 (K : Nat) (a0 : ((List Int) × (List MpT))) (a1 : Int) (a2 : MpT) (c2 : Int) (c0 : Bool) : Option (((List Int) × (List MpT)) × Int) := (if c0 = true then P3 K a0 a1 a2 1 else P3 K a0 a1 a2 c2)
def Zc3 (K : Nat) (a0 : ((List Int) × (List MpT))) (a1 : Int) (a2 : MpT) : Option (((List Int) × (List MpT)) × Int) := ((Zm1 K (a0.1, a0.2) a1).bind fun c2 => (if c2 = 1 then Q7 K a0 a1 a2 c2 false else ((Zg8 K a0.1 a2).bind fun e4 => Q7 K a0 a1 a2 c2 (!e4))))
theorem Yb8 {K : Nat} {a0 : ((List Int) × (List MpT))} {a1 : Int} {a2 : MpT} {r : (((List Int) × (List MpT)) × Int)} (q0 : Zc3 K a0 a1 a2 = some r) {H : FH} {w : World} {L : OL} {s0 : Value} {s1 : Value} {s2 : Value} (a5 : Y3 (X3 .i64) H s0 a0.1) (a9 : Y3 (X6 yT) H s1 a0.2) (a4 : Y3 yT H s2 a2) (hS : St H w L) :
 Calls Tryz.prog 64 #[vA ([s0] ++ [s1]), vI a1, vA ([s2])] w (T6 (fun v G => (R.t2 (R.agg (Zh7 (X6 (X3 .i64)) (X6 (X6 yT)))) (R.int .i64)).p G v r) H L) := by
 have Z2 := Sub.refl H
 refine X0 Tryz.func64 rfl Tryz.ntmps64 rfl ?_
 unfold Zc3 at q0
 refine Z3 (Z1 ?_)
 refine T7 (v := vA ([s0] ++ [s1])) ([s0] ++ [s1]).toArray rfl rfl hS rfl ?_
 intro b1 w2 hS
 refine T7 (v := vA ([s2])) ([s2]).toArray rfl rfl hS rfl ?_
 intro b4 w5 hS
 refine W9 (z := vA ([vN] ++ [vN])) ([vN] ++ [vN]).toArray Zu9.zero rfl hS rfl ?_
 intro b7 w8 hS
 refine Z6 (vI 0) rfl rfl (Z0 (Z3 (Z1 ?_)))
 refine X8 P9 rfl (hS.get (mR (mR mL))) rfl rfl (Z4 (vI a1) rfl rfl ?_)
 obtain ⟨c2, o2, q0⟩ := bind_some q0
 refine Y8 Tryz.call78 (T0 rfl rfl) rfl (Yo5 o2 a5 a9 hS) ?_
 rintro e10 w11 ⟨_, s5, rfl, f5, hS, rfl⟩
 refine ⟨_, rfl, ?_⟩
 have Z2 := Z2.trans f5
 have a5 := a5.mono f5
 have a9 := a9.mono f5
 have a4 := a4.mono f5
 refine Z6 (vI c2) rfl rfl (Z0 (Z3 (Z3 ?_)))
 refine E9 (fun f w => ∃ (c0 : Bool) (H1 : FH), Q7 K a0 a1 a2 c2 c0 = some r ∧ Sub H H1 ∧ St H1 w ([(b7, cA ([vN] ++ [vN]) 29)] ++ ([(b4, cA ([s2]) 47)] ++ ([(b1, cA ([s0] ++ [s1]) 29)] ++ L))) ∧ Y3 (X3 .i64) H1 s0 a0.1 ∧ Y3 (X6 yT) H1 s1 a0.2 ∧ Y3 yT H1 s2 a2 ∧ ev f (.tmp 1) = vI a1 ∧ ev f (.tmp 3) = vP b1 ∧ ev f (.tmp 5) = vP b4 ∧ ev f (.tmp 6) = vP b7 ∧ ev f (.tmp 8) = vI c2 ∧ ev f (.tmp 24) = Value.bool c0) ?_ ?_
 rintro fj1 t6 ⟨c0, i1, h0, Z2, hS, a5, a9, a4, h1, h2, h3, h4, k0, e9⟩
 unfold Q7 at h0
 refine E9 (fun f w => ∃ (b0 : Int) (H1 : FH), P3 K a0 a1 a2 b0 = some r ∧ Sub H H1 ∧ St H1 w ([(b7, cA ([vN] ++ [vN]) 29)] ++ ([(b4, cA ([s2]) 47)] ++ ([(b1, cA ([s0] ++ [s1]) 29)] ++ L))) ∧ Y3 (X3 .i64) H1 s0 a0.1 ∧ Y3 (X6 yT) H1 s1 a0.2 ∧ Y3 yT H1 s2 a2 ∧ ev f (.tmp 1) = vI a1 ∧ ev f (.tmp 3) = vP b1 ∧ ev f (.tmp 5) = vP b4 ∧ ev f (.tmp 6) = vP b7 ∧ ev f (.tmp 8) = vI b0) ?_ ?_
 rintro fj2 t7 ⟨b0, t8, a6, Z2, hS, a5, a9, a4, c1, c5, b8, c6, h5⟩
 unfold P3 at a6
 refine Z3 (Z3 (Z1 (Z4 (vI b0) (by exact h5) rfl ?_)))
 refine L9 (k := .i64) (a := b0) (b := 0) rfl rfl rfl (Z0 ?_)
 by_cases f6 : b0 = 0
 rw [if_pos f6] at a6
 refine Z9 (bN f6 rfl) (Y6 (Z3 (Z1 (Y2 R4 (by exact c5) rfl ?_))))
 refine Y4 (s0) J3 rfl (hS.get (mR (mR mL))) rfl rfl ?_
 refine X8 U7 (by exact b8) (hS.get (mR mL)) rfl rfl ?_
 obtain ⟨b3, o3, a6⟩ := bind_some a6
 refine Y8 Tryz.call140 (T0 rfl rfl) rfl (Zx5 o3 a5 a4 hS) ?_
 rintro e13 w14 ⟨_, n9, rfl, f7, hS, ⟨t9, u0, rfl, rfl, rfl⟩⟩
 refine ⟨_, rfl, ?_⟩
 have Z2 := Z2.trans f7
 have a5 := a5.mono f7
 have a4 := a4.mono f7
 have a9 := a9.mono f7
 refine Z4 (Value.tuple #[vI b3.1, Value.bool b3.2]) rfl rfl (U3 (vI b3.1) rfl rfl rfl (U3 (Value.bool b3.2) rfl rfl rfl (Z6 (vI b3.1) rfl rfl (Z6 (Value.bool b3.2) rfl rfl (Z0 (Z3 (Z3 ?_)))))))
 refine E9 (fun f w => ∃ (b9 : Bool) (H1 : FH), P6 K a0 a1 a2 b9 = some r ∧ Sub H H1 ∧ St H1 w ([(b7, cA ([vN] ++ [vN]) 29)] ++ ([(b4, cA ([s2]) 47)] ++ ([(b1, cA ([s0] ++ [s1]) 29)] ++ L))) ∧ Y3 (X3 .i64) H1 s0 a0.1 ∧ Y3 (X6 yT) H1 s1 a0.2 ∧ Y3 yT H1 s2 a2 ∧ ev f (.tmp 1) = vI a1 ∧ ev f (.tmp 3) = vP b1 ∧ ev f (.tmp 5) = vP b4 ∧ ev f (.tmp 6) = vP b7 ∧ ev f (.tmp 57) = Value.bool b9) ?_ ?_
 rintro fj3 u1 ⟨b9, u2, a3, Z2, hS, a5, a9, a4, e5, d0, h6, e6, f0⟩
 unfold P6 at a3
 by_cases f8 : b9 = true
 rw [if_pos f8] at a3
 refine Y0 (Eq.trans (by exact f0) (congrArg Value.bool f8)) (Z3 (Z1 ?_))
 refine Q2 (vA ([vN] ++ [vN])) Yy7 rfl ?_
 refine W1 (v := vA ([vN] ++ [vN])) (vs := ([vN] ++ [vN]).toArray) (cs := ([vN] ++ [vN]).toArray) P9 (by exact e6) rfl rfl hS rfl (J6 (S2 rfl) (S2 rfl)) rfl ?_
 intro w16 hS
 refine Z6 (vI 5) rfl rfl (Z0 ?_)
 refine Y9 (vs := [vA ([vN] ++ [vN]), vI 5]) Tryz.func64 ⟨⟨_, (by exact e6), U8 P9 (hS.get mL) rfl⟩, rfl, trivial⟩ ?_
 have hz := Option.some.inj a3
 subst hz
 exact ⟨_, _, rfl, Z2, (St.dropA (St.dropA (St.dropA hS))), ⟨_, _, rfl, ⟨_, rfl, ⟨_, _, rfl, ⟨_, rfl, Y3.nil⟩, ⟨_, rfl, Y3.nil⟩⟩⟩, rfl⟩⟩
 rw [if_neg f8] at a3
 refine Z9 (Eq.trans (by exact f0) (congrArg Value.bool (W2 f8))) (Y6 (Z3 (Z1 ?_)))
 refine X8 P9 (by exact d0) (hS.get (mR (mR mL))) rfl rfl ?_
 obtain ⟨g9, o4, a3⟩ := bind_some a3
 refine Y8 Tryz.call142 (Q8 rfl) rfl (Yu2 o4 a5 a9 hS) ?_
 rintro e18 w19 ⟨h7, e7, H18, s6, rfl, f9, hS, b5, e8⟩
 refine ⟨_, rfl, ?_⟩
 have Z2 := Z2.trans f9
 have a5 := a5.mono f9
 have a9 := a9.mono f9
 have a4 := a4.mono f9
 refine W9 (z := vA ([vN] ++ [vN])) ([vN] ++ [vN]).toArray Zu9.zero rfl hS rfl ?_
 intro h8 w22 hS
 refine W1 (v := vA ([h7] ++ [e7])) (vs := ([h7] ++ [e7]).toArray) (cs := ([vN] ++ [vN]).toArray) P9 rfl rfl rfl hS rfl (J6 (S2 b5.isOne) (S2 e8.isOne)) rfl ?_
 intro w24 hS
 refine Z0 (Z3 ?_)
 obtain ⟨y3, a3⟩ := gd a3
 obtain ⟨u3, a3⟩ := gd a3
 obtain ⟨o5, o6, u4, y4, _, k6, g0, ⟨h9, rfl, d4⟩, k7⟩ := a9.elem (i := a1) (by omega) (by omega)
 obtain ⟨i0, k8, a3⟩ := bind_some a3
 obtain ⟨f1, k9, a3⟩ := bind_some a3
 obtain ⟨u5, a3⟩ := gd a3
 obtain ⟨o7, y5, i2⟩ := e8.some (i := a1) (by omega) (by omega)
 refine V4 13 (R9 [(61, MP.eq (vQ h8 1)), (62, MP.eq (e7)), (63, MP.eq (vI a1)), (64, MP.eq (vQ b1 1)), (65, MP.eq (s1)), (66, MP.eq (vI a1)), (67, MP.eq (Value.pointer (some ⟨o5, o6, none⟩))), (68, MP.eq (vA ([h9]))), (69, MP.eq (vA ([s0] ++ [s1]))), (70, MP.eq (vA ([s2]))), (71, MP.rep (R.agg (X6 yT)) (i0)), (72, MP.rep (R.agg (X6 yT)) (f1)), (73, MP.eq (Value.pointer (some ⟨o7, (a1).toNat * 1, none⟩)))]) [] mixed rfl rfl rfl hS (Z5 rfl ?_ (Z5 rfl ?_ (Z5 rfl ?_ (Z5 rfl ?_ (Z5 rfl ?_ (Z5 rfl ?_ (Z5 rfl ?_ (Z5 rfl ?_ (Z5 rfl ?_ (Z5 rfl ?_ (Z5 rfl ?_ (Z5 rfl ?_ (Z5 rfl ?_ V9))))))))))))) ?_
 intro s7 w26 H27 X28 y6 hS o8 y7 hcq
 have s8 : ev s7 (.tmp 11) = vP h8 := Eq.trans (o8 11 rfl) rfl
 refine Y2 N5 s8 rfl ?_
 exact qn (.refl _) rfl hS rfl
 intro f34 w35 H36 X37 y8 hS y9 o9 hcq
 refine Y4 (e7) Zd8 (eM (o9 0 61 rfl rfl)) (hS.get (mR mL)) rfl rfl ?_
 exact qn (.refl _) rfl hS rfl
 intro f43 w44 H45 X46 z0 hS p0 z1 hcq
 refine Z4 (vI a1) (evT (p0 1 rfl) e5) rfl ?_
 exact qn (.refl _) rfl hS rfl
 intro f52 w53 H54 X55 z2 hS p1 z3 hcq
 refine Y2 N5 (evT (p1 3 rfl) d0) rfl ?_
 exact qn (.refl _) rfl hS rfl
 intro f61 w62 H63 X64 z4 hS z5 p2 hcq
 refine Y4 (s1) Zd8 (eM (p2 3 64 rfl rfl)) (hS.get (mR (mR (mR (mR (mR mL)))))) rfl rfl ?_
 exact qn (.refl _) rfl hS rfl
 intro f70 w71 H72 X73 z6 hS p3 z7 hcq
 refine Z4 (vI a1) (evT (p3 1 rfl) e5) rfl ?_
 exact qn (.refl _) rfl hS rfl
 intro z8 z9 a00 a01 u6 hS u7 i3 hcq
 refine W3 J2 rfl (eM (i3 4 65 rfl rfl)) k6 (eM (i3 5 66 rfl rfl)) (by omega) (by omega) rfl ?_
 exact qn (.refl _) rfl hS rfl
 intro a02 a03 a04 a05 l0 hS u8 l1 hcq
 have g0 := l0.1 _ _ g0
 refine V5 ([h9]) U7 (eM (l1 6 67 rfl rfl)) (hS.froz _ _ g0) rfl k7 rfl ?_
 exact qn (.refl _) rfl hS rfl
 intro a06 a07 a08 a09 u9 hS l2 v0 hcq
 refine X8 P9 (evT (l2 3 rfl) d0) (hS.get (mR (mR (mR (mR (mR mL)))))) rfl rfl ?_
 exact qn (.refl _) rfl hS rfl
 intro a10 a11 a12 a13 v1 hS l3 v2 hcq
 refine X8 U7 (evT (l3 5 rfl) h6) (hS.get (mR (mR (mR (mR mL))))) rfl rfl ?_
 exact qn (.refl _) rfl hS rfl
 intro a14 a15 a16 a17 g1 hS v3 i4 hcq
 have a4 := a4.mono g1
 have a5 := a5.mono g1
 have a9 := a9.mono g1
 refine Y8 Tryz.call123 (T0 (eM (i4 8 69 rfl rfl)) (eM (i4 9 70 rfl rfl))) rfl (Yh9 k8 a5 a9 a4 hS) ?_
 rintro a18 a19 ⟨p4, a20, rfl, l4, hS, l5⟩
 refine ⟨p4, rfl, ?_⟩
 exact qn l4 rfl hS l5
 intro a21 a22 a23 a24 l6 hS v4 i5 hcq
 have d4 := d4.mono l6
 obtain ⟨a25, p5, ⟨_, rfl, ⟨s9, rfl, j5⟩⟩⟩ := gvR (i5 10 71 rfl rfl)
 refine Y8 Tryz.call143 (N8 (eM (i5 7 68 rfl rfl)) p5 rfl) rfl (Zk2 k9 d4 j5 hS) ?_
 rintro a26 a27 ⟨p6, a28, rfl, l7, hS, g2⟩
 refine ⟨p6, rfl, ?_⟩
 have g2 := ((R.agg (X6 yT))).mono (Zl4 _ _) g2
 exact qn l7 rfl hS g2
 intro a29 a30 a31 a32 v5 hS v6 i6 hcq
 refine Zt3 J2 (Eq.trans (eM (i6 1 62 rfl rfl)) i2) (eM (i6 2 63 rfl rfl)) (by omega) (by omega) rfl ?_
 exact qn (.refl _) rfl hS rfl
 intro p7 p8 p9 d1 hS d2 i7 hcq
 have hS : St p9 p8 ([(h8, cA ([h7] ++ [e7]) 29)] ++ (s6 ++ ([(b7, cA ([vN] ++ [vN]) 29)] ++ ([(b4, cA ([s2]) 47)] ++ ([(b1, cA ([s0] ++ [s1]) 29)] ++ L))))) := hS
 have Z2 := Z2.trans d1
 have a4 := a4.mono d1
 have a5 := a5.mono d1
 have b5 := b5.mono d1
 have e8 := e8.mono d1
 have k1 := evT (d2 1 rfl) e5
 have q1 : ev p7 (.tmp 11) = vP h8 := Eq.trans (d2 11 rfl) rfl
 obtain ⟨a33, q2, ⟨_, rfl, ⟨k2, rfl, j6⟩⟩⟩ := gvR (i7 11 72 (by decide) rfl)
 have hS := hS.perm U4
 refine Zw4 (τ := (X6 yT)) (v := e7) (u := vA ([k2])) f1 (i := a1) rfl U7 i2 e8 hS (by exact (eM (i7 12 73 (by decide) rfl))) (by exact q2) (by omega) (by omega) ⟨_, rfl, j6⟩ ?_
 intro a34 q3 d3 hS
 have hS := hS.perm U4.symm
 refine Z0 (Z3 (Z1 (Y2 R4 (by exact (evT (d2 3 rfl) d0)) rfl ?_)))
 refine Y4 (s0) J3 rfl (hS.get (mR (mR (mR (mR mL))))) rfl rfl ?_
 have v7 := a5.bound
 refine W6 Q9 rfl a5 rfl ?_
 obtain ⟨e3, l9, a3⟩ := bind_some a3
 refine Y8 Tryz.call80 (T0 rfl rfl) rfl (Yo9 l9 Y3.nil hS) ?_
 rintro a35 a36 ⟨c4, a37, q4, rfl, d7, hS, c3⟩
 refine ⟨_, rfl, ?_⟩
 have Z2 := Z2.trans d7
 have a4 := a4.mono d7
 have b5 := b5.mono d7
 have d3 := d3.mono d7
 refine Z6 (c4) rfl rfl (Z0 (Z3 ?_))
 obtain ⟨v8, a3⟩ := gd a3
 obtain ⟨q5, a38, i8⟩ := c3.some (i := a1) (by omega) (by omega)
 obtain ⟨f2, m0, a3⟩ := bind_some a3
 obtain ⟨q6, a39, i9⟩ := c3.some (i := a1) (by omega) (by omega)
 refine V4 9 (R9 [(78, MP.eq (c4)), (79, MP.eq (vI a1)), (80, MP.eq (c4)), (81, MP.eq (vI a1)), (82, MP.eq (Value.pointer (some ⟨q5, (a1).toNat * 1, none⟩))), (83, MP.rep (R.agg (X6 yT)) ((rd e3 a1))), (84, MP.eq (vA ([s2]))), (85, MP.rep (R.agg (X6 yT)) (f2)), (86, MP.eq (Value.pointer (some ⟨q6, (a1).toNat * 1, none⟩)))]) [] mixed rfl rfl rfl hS (Z5 rfl ?_ (Z5 rfl ?_ (Z5 rfl ?_ (Z5 rfl ?_ (Z5 rfl ?_ (Z5 rfl ?_ (Z5 rfl ?_ (Z5 rfl ?_ (Z5 rfl ?_ V9))))))))) ?_
 intro q7 a40 a41 a42 v9 hS m1 w0 hcq
 have q8 : ev q7 (.tmp 12) = c4 := Eq.trans (m1 12 rfl) rfl
 refine Z4 (c4) q8 rfl ?_
 exact qn (.refl _) rfl hS rfl
 intro a43 a44 a45 a46 w1 hS m2 w3 hcq
 refine Z4 (vI a1) (evT (m2 1 rfl) k1) rfl ?_
 exact qn (.refl _) rfl hS rfl
 intro q9 a47 a48 a49 w4 hS m3 w6 hcq
 have r0 : ev q9 (.tmp 12) = c4 := Eq.trans (m3 12 rfl) rfl
 refine Z4 (c4) r0 rfl ?_
 exact qn (.refl _) rfl hS rfl
 intro a50 a51 a52 a53 w7 hS m4 w9 hcq
 refine Z4 (vI a1) (evT (m4 1 rfl) k1) rfl ?_
 exact qn (.refl _) rfl hS rfl
 intro a54 a55 a56 a57 x0 hS x1 j0 hcq
 refine Zt3 J2 (Eq.trans (eM (j0 2 80 rfl rfl)) i8) (eM (j0 3 81 rfl rfl)) (by omega) (by omega) rfl ?_
 exact qn (.refl _) rfl hS rfl
 intro a58 a59 a60 a61 m5 hS x2 m6 hcq
 have c3 := c3.mono m5
 have hS := hS.perm U4
 refine Xp4 rfl U7 i8 c3 hS (eM (m6 4 82 rfl rfl)) (by omega) (by omega) rfl ?_
 intro x3 r1
 obtain ⟨t0, rfl, j7⟩ := r1
 have hS := hS.perm U4.symm
 exact qn (.refl _) rfl hS ⟨_, rfl, ⟨_, rfl, j7⟩⟩
 intro a62 a63 a64 a65 x4 hS m7 x5 hcq
 refine X8 U7 (evT (m7 5 rfl) (evT (d2 5 rfl) h6)) (hS.get (mR (mR (mR (mR (mR mL)))))) rfl rfl ?_
 exact qn (.refl _) rfl hS rfl
 intro a66 a67 a68 a69 m8 hS x6 j1 hcq
 have a4 := a4.mono m8
 obtain ⟨a70, r2, ⟨_, rfl, ⟨t1, rfl, j8⟩⟩⟩ := gvR (j1 5 83 rfl rfl)
 refine Y8 Tryz.call143 (N8 r2 (eM (j1 6 84 rfl rfl)) rfl) rfl (Zk2 m0 j8 a4 hS) ?_
 rintro a71 a72 ⟨r3, a73, rfl, m9, hS, g3⟩
 refine ⟨r3, rfl, ?_⟩
 have g3 := ((R.agg (X6 yT))).mono (Zl4 _ _) g3
 exact qn m9 rfl hS g3
 intro a74 a75 a76 a77 x7 hS x8 j2 hcq
 refine Zt3 J2 (Eq.trans (eM (j2 0 78 rfl rfl)) i9) (eM (j2 1 79 rfl rfl)) (by omega) (by omega) rfl ?_
 exact qn (.refl _) rfl hS rfl
 intro r4 r5 r6 d8 hS g4 j3 hcq
 have hS : St r6 r5 (q4 ++ ([(h8, cA ([h7] ++ [e7]) 29)] ++ (q3 ++ ([(b7, cA ([vN] ++ [vN]) 29)] ++ ([(b4, cA ([s2]) 47)] ++ ([(b1, cA ([s0] ++ [s1]) 29)] ++ L)))))) := hS
 have Z2 := Z2.trans d8
 have b5 := b5.mono d8
 have d3 := d3.mono d8
 have c3 := c3.mono d8
 have k3 := evT (g4 6 rfl) (evT (d2 6 rfl) e6)
 have k4 := evT (g4 11 rfl) q1
 have r7 : ev r4 (.tmp 12) = c4 := Eq.trans (g4 12 rfl) rfl
 obtain ⟨a78, r8, ⟨_, rfl, ⟨k5, rfl, j9⟩⟩⟩ := gvR (j3 7 85 (by decide) rfl)
 refine Zw4 (τ := (X6 yT)) (v := c4) (u := vA ([k5])) f2 (i := a1) rfl U7 i9 c3 hS (by exact (eM (j3 8 86 (by decide) rfl))) (by exact r8) (by omega) (by omega) ⟨_, rfl, j9⟩ ?_
 intro a79 a80 g5 hS
 refine Z0 (Z3 (Z1 ?_))
 refine X8 P9 (by exact k4) (hS.get (mR mL)) rfl rfl (Y2 R4 (by exact k4) rfl ?_)
 refine Y4 (h7) J3 rfl (hS.get (mR mL)) rfl rfl (Z4 (c4) (by exact r7) rfl ?_)
 have hS := hS.perm F3
 obtain ⟨a81, g6, hS, g7⟩ := d3.freeze hS
 have Z2 := Z2.trans g6
 have b5 := b5.mono g6
 have g5 := g5.mono g6
 obtain ⟨a82, g8, hS, n0⟩ := g5.freeze hS
 have Z2 := Z2.trans g8
 have b5 := b5.mono g8
 have g7 := g7.mono g8
 obtain ⟨c9, n1, a3⟩ := bind_some a3
 refine Y8 Tryz.call82 (Wl7 rfl rfl rfl rfl) rfl (Yl8 n1 b5 g7 b5 n0 Y3.nil hS) ?_
 rintro a83 a84 ⟨_, a85, rfl, n2, hS, ⟨t4, t5, rfl, ⟨_, rfl, ⟨_, _, rfl, ⟨c7, rfl, d5⟩, ⟨c8, rfl, d6⟩⟩⟩, rfl⟩⟩
 refine ⟨_, rfl, ?_⟩
 have Z2 := Z2.trans n2
 refine U3 (vA ([c7] ++ [c8])) rfl rfl rfl (U3 (vI c9.2) rfl rfl rfl ?_)
 have hS := hS.perm U4
 refine W1 (v := vA ([c7] ++ [c8])) (vs := ([c7] ++ [c8]).toArray) (cs := ([vN] ++ [vN]).toArray) P9 (by exact k3) rfl rfl hS rfl (J6 (S2 d5.isOne) (S2 d6.isOne)) rfl ?_
 intro a86 hS
 have hS := hS.perm U4.symm
 refine Z6 (vI c9.2) rfl rfl (Z0 ?_)
 refine Y9 (vs := [vA ([c7] ++ [c8]), vI c9.2]) Tryz.func64 ⟨⟨_, (by exact k3), U8 P9 (hS.get (mR mL)) rfl⟩, rfl, trivial⟩ ?_
 have hz := Option.some.inj a3
 subst hz
 exact ⟨_, _, rfl, Z2, (St.dropA (St.dropA (St.dropA (St.dropA hS)))), ⟨_, _, rfl, ⟨_, rfl, ⟨_, _, rfl, ⟨_, rfl, d5⟩, ⟨_, rfl, d6⟩⟩⟩, rfl⟩⟩
 intro j4
 refine Z1 (Z4 (Value.bool b3.2) rfl rfl (N7 (b := b3.2) rfl rfl (Z4 (Value.bool (!b3.2)) rfl rfl ?_)))
 by_cases a7 : b3.2 = true
 rw [if_pos a7] at a6
 refine Y1 rfl rfl (Eq.trans rfl (congrArg (fun b => Value.bool (!b)) a7)) (Y2 V6 (by exact b8) rfl ?_)
 refine Y1 rfl rfl (Eq.trans rfl (congrArg (fun b => Value.bool (!b)) a7)) ?_
 refine Y4 (s2) R7 rfl (hS.get (mR mL)) rfl rfl ?_
 have x9 := a4.bound
 refine Y1 rfl rfl (Eq.trans rfl (congrArg (fun b => Value.bool (!b)) a7)) ?_
 refine W6 S9 rfl a4 rfl ?_
 refine Y1 rfl rfl (Eq.trans rfl (congrArg (fun b => Value.bool (!b)) a7)) ?_
 refine Zc5 (k := .i64) (a := (a2.length : Int)) (b := 0) rfl rfl rfl ?_
 refine Y1 rfl rfl (Eq.trans rfl (congrArg (fun b => Value.bool (!b)) a7)) (Z4 (Value.bool (decide (0 < (a2.length : Int)))) rfl rfl ?_)
 by_cases a8 : 0 < (a2.length : Int)
 rw [if_pos a8] at a6
 refine Y1 rfl rfl (bT a8 rfl) (Z4 (vI b3.1) rfl rfl ?_)
 refine Y1 rfl rfl (bT a8 rfl) (Y2 R4 (by exact c5) rfl ?_)
 refine Y1 rfl rfl (bT a8 rfl) ?_
 refine Y4 (s0) J3 rfl (hS.get (mR (mR mL))) rfl rfl ?_
 refine Y1 rfl rfl (bT a8 rfl) (Z4 (vI a1) (by exact c1) rfl ?_)
 refine Y1 rfl rfl (bT a8 rfl) ?_
 obtain ⟨y0, a6⟩ := gd a6
 obtain ⟨y1, a6⟩ := gd a6
 obtain ⟨a87, a88, y2, a89, _, n3, n4, rfl, n5⟩ := a5.elem (i := a1) (by omega) (by omega)
 refine W3 Q9 rfl rfl n3 rfl (by omega) (by omega) rfl ?_
 refine Y1 rfl rfl (bT a8 rfl) ?_
 refine Y4 (vI (rd a0.1 a1)) ty2 rfl (hS.froz _ _ n4) (n5 0 (show 0 < 1 by decide)) rfl ?_
 refine Y1 rfl rfl (bT a8 rfl) ?_
 refine L9 (k := .i64) (a := b3.1) (b := (rd a0.1 a1)) rfl rfl rfl ?_
 refine Y1 rfl rfl (Eq.trans rfl (congrArg (fun b => Value.bool (!b)) a7)) ?_
 refine V1 (t := true) (Value.bool (!decide (b3.1 = (rd a0.1 a1)))) (bT a8 rfl) ((if_pos rfl).trans rfl) rfl ?_
 refine V1 (t := false) (Value.bool (!decide (b3.1 = (rd a0.1 a1)))) (Eq.trans rfl (congrArg (fun b => Value.bool (!b)) a7)) ((if_neg Bool.false_ne_true).trans rfl) rfl (Z4 (Value.bool (!decide (b3.1 = (rd a0.1 a1)))) rfl rfl ?_)
 by_cases b6 : b3.1 = (rd a0.1 a1)
 rw [if_pos b6] at a6
 refine Y1 rfl rfl (bN b6 rfl) ?_
 refine X8 U7 (by exact b8) (hS.get (mR mL)) rfl rfl ?_
 refine Y1 rfl rfl (bN b6 rfl) (Z4 (vI a1) (by exact c1) rfl ?_)
 obtain ⟨f3, n6, a6⟩ := bind_some a6
 refine Y1 rfl rfl (bN b6 rfl) ?_
 refine Y8 Tryz.call141 (T0 rfl rfl) rfl (Yc5 n6 a4 hS) ?_
 rintro a90 a91 ⟨_, r9, rfl, d9, hS, rfl⟩
 refine ⟨_, rfl, ?_⟩
 have Z2 := Z2.trans d9
 have a4 := a4.mono d9
 have a5 := a5.mono d9
 have a9 := a9.mono d9
 refine V1 (t := false) (Value.bool f3) (bN b6 rfl) ((if_neg Bool.false_ne_true).trans rfl) rfl (Z0 ?_)
 exact j4 _ _ ⟨f3, r9, a6, Z2, hS, a5, a9, a4, c1, c5, b8, c6, rfl⟩
 rw [if_neg b6] at a6
 refine Z8 rfl rfl (bO b6 rfl) rfl rfl rfl (Z8 rfl rfl (bO b6 rfl) rfl rfl rfl (Z8 rfl rfl (bO b6 rfl) rfl rfl rfl ?_))
 refine V1 (t := true) (Value.bool true) (bO b6 rfl) ((if_pos rfl).trans rfl) rfl (Z0 ?_)
 exact j4 _ _ ⟨true, n9, a6, Z2, hS, a5, a9, a4, c1, c5, b8, c6, rfl⟩
 rw [if_neg a8] at a6
 refine Z8 rfl rfl (bF a8 rfl) rfl rfl rfl (Z8 rfl rfl (bF a8 rfl) rfl rfl rfl (Z8 rfl rfl (bF a8 rfl) rfl rfl rfl (Z8 rfl rfl (bF a8 rfl) rfl rfl rfl (Z8 rfl rfl (bF a8 rfl) rfl rfl rfl (Z8 rfl rfl (bF a8 rfl) rfl rfl rfl (Z8 rfl rfl (bF a8 rfl) rfl rfl rfl ?_))))))
 refine Y1 rfl rfl (Eq.trans rfl (congrArg (fun b => Value.bool (!b)) a7)) ?_
 refine V1 (t := false) (Value.bool false) (bF a8 rfl) ((if_neg Bool.false_ne_true).trans rfl) rfl ?_
 refine V1 (t := false) (Value.bool false) (Eq.trans rfl (congrArg (fun b => Value.bool (!b)) a7)) ((if_neg Bool.false_ne_true).trans rfl) rfl (Z4 (Value.bool false) rfl rfl ?_)
 refine Y1 rfl rfl rfl ?_
 refine X8 U7 (by exact b8) (hS.get (mR mL)) rfl rfl ?_
 refine Y1 rfl rfl rfl (Z4 (vI a1) (by exact c1) rfl ?_)
 obtain ⟨f4, n7, a6⟩ := bind_some a6
 refine Y1 rfl rfl rfl ?_
 refine Y8 Tryz.call141 (T0 rfl rfl) rfl (Yc5 n7 a4 hS) ?_
 rintro a92 a93 ⟨_, s3, rfl, e0, hS, rfl⟩
 refine ⟨_, rfl, ?_⟩
 have Z2 := Z2.trans e0
 have a4 := a4.mono e0
 have a5 := a5.mono e0
 have a9 := a9.mono e0
 refine V1 (t := false) (Value.bool f4) rfl ((if_neg Bool.false_ne_true).trans rfl) rfl (Z0 ?_)
 exact j4 _ _ ⟨f4, s3, a6, Z2, hS, a5, a9, a4, c1, c5, b8, c6, rfl⟩
 rw [if_neg a7] at a6
 refine Z8 rfl rfl (Eq.trans rfl (congrArg (fun b => Value.bool (!b)) (W2 a7))) rfl rfl rfl (Z8 rfl rfl (Eq.trans rfl (congrArg (fun b => Value.bool (!b)) (W2 a7))) rfl rfl rfl (Z8 rfl rfl (Eq.trans rfl (congrArg (fun b => Value.bool (!b)) (W2 a7))) rfl rfl rfl (Z8 rfl rfl (Eq.trans rfl (congrArg (fun b => Value.bool (!b)) (W2 a7))) rfl rfl rfl (Z8 rfl rfl (Eq.trans rfl (congrArg (fun b => Value.bool (!b)) (W2 a7))) rfl rfl rfl ?_))))
 refine V3 rfl rfl rfl rfl rfl ?_
 refine V3 rfl rfl rfl rfl rfl ?_
 refine V3 rfl rfl rfl rfl rfl ?_
 refine V3 rfl rfl rfl rfl rfl ?_
 refine V3 rfl rfl rfl rfl rfl ?_
 refine V3 rfl rfl rfl rfl rfl ?_
 refine V3 rfl rfl rfl rfl rfl (Z8 rfl rfl (Eq.trans rfl (congrArg (fun b => Value.bool (!b)) (W2 a7))) rfl rfl rfl ?_)
 refine V1 (t := true) (Value.bool true) (Eq.trans rfl (congrArg (fun b => Value.bool (!b)) (W2 a7))) ((if_pos rfl).trans rfl) rfl (Z4 (Value.bool true) rfl rfl (Z8 rfl rfl rfl rfl rfl rfl (Z8 rfl rfl rfl rfl rfl rfl (Z8 rfl rfl rfl rfl rfl rfl ?_))))
 refine V1 (t := true) (Value.bool true) rfl ((if_pos rfl).trans rfl) rfl (Z0 ?_)
 exact j4 _ _ ⟨true, n9, a6, Z2, hS, a5, a9, a4, c1, c5, b8, c6, rfl⟩
 rw [if_neg f6] at a6
 refine Y0 (bO f6 rfl) (Z3 (Z1 ?_))
 refine Q2 (vA ([vN] ++ [vN])) Yy7 rfl (Z4 (vI b0) (by exact h5) rfl ?_)
 refine W1 (v := vA ([vN] ++ [vN])) (vs := ([vN] ++ [vN]).toArray) (cs := ([vN] ++ [vN]).toArray) P9 (by exact c6) rfl rfl hS rfl (J6 (S2 rfl) (S2 rfl)) rfl ?_
 intro a94 hS
 refine Z6 (vI b0) rfl rfl (Z0 ?_)
 refine Y9 (vs := [vA ([vN] ++ [vN]), vI b0]) Tryz.func64 ⟨⟨_, (by exact c6), U8 P9 (hS.get mL) rfl⟩, rfl, trivial⟩ ?_
 have hz := Option.some.inj a6
 subst hz
 exact ⟨_, _, rfl, Z2, (St.dropA (St.dropA (St.dropA hS))), ⟨_, _, rfl, ⟨_, rfl, ⟨_, _, rfl, ⟨_, rfl, Y3.nil⟩, ⟨_, rfl, Y3.nil⟩⟩⟩, rfl⟩⟩
 intro o0
 by_cases e1 : c0 = true
 rw [if_pos e1] at h0
 refine Y0 (Eq.trans (by exact e9) (congrArg Value.bool e1)) (Z1 (Z6 (vI 1) rfl rfl (Z0 ?_)))
 exact o0 _ _ ⟨1, i1, h0, Z2, hS, a5, a9, a4, h1, h2, h3, h4, rfl⟩
 rw [if_neg e1] at h0
 refine Z9 (Eq.trans (by exact e9) (congrArg Value.bool (W2 e1))) (Y6 ?_)
 exact o0 _ _ ⟨c2, i1, h0, Z2, hS, a5, a9, a4, h1, h2, h3, h4, k0⟩
 intro o1
 refine Z1 (Z4 (vI c2) rfl rfl ?_)
 refine L9 (k := .i64) (a := c2) (b := 1) rfl rfl rfl (Z4 (Value.bool (!decide (c2 = 1))) rfl rfl ?_)
 by_cases b2 : c2 = 1
 rw [if_pos b2] at q0
 refine Z8 rfl rfl (bN b2 rfl) rfl rfl rfl (Z8 rfl rfl (bN b2 rfl) rfl rfl rfl (Z8 rfl rfl (bN b2 rfl) rfl rfl rfl (Z8 rfl rfl (bN b2 rfl) rfl rfl rfl (Z8 rfl rfl (bN b2 rfl) rfl rfl rfl ?_))))
 refine V1 (t := false) (Value.bool false) (bN b2 rfl) ((if_neg Bool.false_ne_true).trans rfl) rfl (Z0 ?_)
 exact o1 _ _ ⟨false, s5, q0, Z2, hS, a5, a9, a4, rfl, rfl, rfl, rfl, rfl, rfl⟩
 rw [if_neg b2] at q0
 refine Y1 rfl rfl (bO b2 rfl) (Y2 R4 rfl rfl ?_)
 refine Y1 rfl rfl (bO b2 rfl) ?_
 refine Y4 (s0) J3 rfl (hS.get (mR (mR mL))) rfl rfl ?_
 refine Y1 rfl rfl (bO b2 rfl) ?_
 refine X8 U7 rfl (hS.get (mR mL)) rfl rfl ?_
 obtain ⟨e4, n8, q0⟩ := bind_some q0
 refine Y1 rfl rfl (bO b2 rfl) ?_
 refine Y8 Tryz.call113 (T0 rfl rfl) rfl (Zw3 n8 a5 a4 hS) ?_
 rintro a95 a96 ⟨_, s4, rfl, e2, hS, rfl⟩
 refine ⟨_, rfl, ?_⟩
 have Z2 := Z2.trans e2
 have a5 := a5.mono e2
 have a4 := a4.mono e2
 have a9 := a9.mono e2
 refine Y1 rfl rfl (bO b2 rfl) (N7 (b := e4) rfl rfl ?_)
 refine V1 (t := true) (Value.bool (!e4)) (bO b2 rfl) ((if_pos rfl).trans rfl) rfl (Z0 ?_)
 exact o1 _ _ ⟨(!e4), s4, q0, Z2, hS, a5, a9, a4, rfl, rfl, rfl, rfl, rfl, rfl⟩
def T5 (K : Nat) (a0 : LdT) (b1 : (A8 × Int)) : Nat → MpT → Int → Option (Ex MpT (MpT))
 | 0, _, _ => none
 | k + 1, c0, a3 => (if a3 < (a0.1.length : Int) then (if a3 < 8 then (if 0 < (Y5 b1.1 a3) then ((P2 K (a0.1, a0.2.1, a0.2.2) a3 (Y5 b1.1 a3)).bind fun g2 => ((M2 K c0 a0.2.1 g2).bind fun f3 => T5 K a0 b1 k f3 (a3 + 1))) else T5 K a0 b1 k c0 (a3 + 1)) else none) else some (.go c0))
def T9 (K : Nat) (a0 : LdT) : Nat → MpT → MpT → Option (Ex MpT (MpT))
 | 0, _, _ => none
 | k + 1, [], a8 => some (.go a8)
 | k + 1, b1 :: e5, a8 => ((Zh5 K).bind fun h2 => ((T5 K a0 b1 K h2 0).bind (Ex.elim (fun r => some (.ret r)) (fun s => (fun (e6 : MpT) => ((Q3 K a8 e6 b1.2).bind fun g3 => T9 K a0 k e5 g3)) s))))
theorem Ya7 {K : Nat} {a0 : LdT} {a8 : MpT} {k : Nat} {zp zq : MpT} {o : Ex MpT (MpT)} (hp : zp.Perm zq) (q : T9 K a0 k zp a8 = some o) : T9 K a0 k zq a8 = some o := by
 exact (Zz4 (K := K) (fun k zs s => T9 K a0 k zs s) (by intros; rw [T9])
  (fun z => by
   refine ⟨fun s => (Zh5 K).bind fun r => (T5 K a0 z K r 0).bind fun e => (match e with | .ret _ => none | .go y => Q3 K s y z.2), .const fun r => ?_, fun k zs s => ?_⟩
   cases T5 K a0 z K r 0 with
   | none => exact .fail
   | some e => cases e with
    | ret _ => exact .fail
    | go y => exact Yv6 _ _
   rw [T9]
   cases Zh5 K with
   | none => rfl
   | some r =>
    simp only [Option.bind_some]
    cases hq : T5 K a0 z K r 0 with
    | none => rfl
    | some e => cases e with
     | go y => rfl
     | ret y =>
      have : ∀ (k : Nat) (t : MpT) (i : Int) e, T5 K a0 z k t i = some e → ∃ y, e = .go y := by
       intro k
       induction k with
       | zero => intro t i e h; rw [T5] at h; cases h
       | succ k ih =>
        intro t i e h
        rw [T5] at h
        split at h
        split at h
        split at h
        obtain ⟨_, _, h⟩ := bind_some h
        obtain ⟨_, _, h⟩ := bind_some h
        exact ih _ _ _ h
        exact ih _ _ _ h
        cases h
        cases h; exact ⟨_, rfl⟩
      obtain ⟨y', h⟩ := this _ _ _ _ hq
      cases h) hp k a8).symm.trans q
def Zg6 (K : Nat) (a0 : LdT) (a1 : MpT) : Option MpT := ((T9 K a0 K a1 ([] : MpT)).bind (Ex.elim (fun r => some r) (fun s => (fun (c1 : MpT) => some c1) s)))
theorem Yh4 {K : Nat} {a0 : LdT} {a1 : MpT} {r : MpT} (q0 : Zg6 K a0 a1 = some r) {H : FH} {w : World} {L : OL} {s0 : Value} {s1 : Value} (m7 : Zq0 (Xy8 K) H s0 a0) (m8 : Q1 .i64 H s1 a1) (hS : St H w L) :
 Calls Tryz.prog 117 #[s0, s1] w (Yq8 .i64 r H L) := by
 obtain ⟨c2, d2, g4, h3, _, rfl, b0, ⟨d7, c8, e7, f4, rfl, a5, a4, a6, a9⟩, g5⟩ := m7
 have Z2 := Sub.refl H
 refine X0 Tryz.func117 rfl Tryz.ntmps117 rfl ?_
 unfold Zg6 at q0
 refine Z3 (Z1 (Z6 (Value.map none) rfl rfl (Z0 (Z3 (Z1 ?_)))))
 refine Zv6 (k := .i64) hS rfl ?_
 intro m1 w2 C3 m9 hS
 refine Z6 (m1) rfl rfl (Z0 (Z3 (Z3 (Z1 (Z4 (s1) rfl rfl ?_)))))
 refine Yc1 Zm8 rfl m8 hS rfl ?_
 intro e8 w7 C8 n0 hS
 refine Z0 (Y7 ?_)
 obtain ⟨h4, b5, h5⟩ := bind_some q0
 refine W7 (id := 0) (fun k f w => ∃ (c4 : MpT) (a8 : MpT) (H1 : FH) (b6 : OL) (b2 : OL), T9 K a0 k c4 a8 = some h4 ∧ Sub H H1 ∧ St H1 w (b6 ++ (b2 ++ L)) ∧ Zc7 .i64 H1 e8 c4 none b6 ∧ R1 .i64 m1 a8 b2 ∧ Zs0 H1 f4 (Ye8 K a0) ∧ Y3 (X3 .i64) H1 d7 a0.1 ∧ Y3 (X3 .i64) H1 c8 a0.2.1 ∧ Y3 (Yf6 .i64) H1 e7 a0.2.2 ∧ H1 c2 = some (.cells g4 h3) ∧ ev f (.tmp 0) = Value.pointer (some ⟨c2, d2, none⟩) ∧ ev f (.tmp 5) = m1 ∧ ev f (.tmp 12) = e8) (fun f w => ∃ (c1 : MpT) (H1 : FH) (c9 : OL) (d3 : OL), h4 = .go c1 ∧ Sub H H1 ∧ St H1 w (c9 ++ (d3 ++ L)) ∧ Zc7 .i64 H1 e8 ([] : MpT) none c9 ∧ R1 .i64 m1 c1 d3 ∧ ev f (.tmp 5) = m1) rfl ?_ ?_ K ?_ ?_
 rintro f w ⟨c4, a8, H1, b6, b2, b5, _⟩
 rw [T9] at b5; cases b5
 rintro k o2 o3 n1 n2 ⟨c4, a8, k2, b6, b2, b5, Z2, hS, d8, a7, a9, a5, a4, a6, b0, e9, f0, d4⟩
 refine Z3 (Z1 ?_)
 refine Yh0 (by exact d4) d8 hS rfl ?_ ?_
 intro k3; subst k3
 rw [T9] at b5
 refine U3 (Value.bool false) rfl rfl rfl (Z0 (Z3 (Z9 rfl ?_)))
 refine W4 rfl ?_
 have hz := Option.some.inj b5
 subst hz
 exact n2 _ _ ⟨a8, k2, b6, b2, rfl, Z2, hS, d8, a7, f0⟩
 intro b1 e5 u2 f1 k4 b4 hS
 replace b5 := Ya7 k4 b5
 rw [T9] at b5
 refine U3 (Value.bool true) rfl rfl rfl (Z0 (Z3 (Y0 rfl (Y6 (Y7 (Z3 (Z1 ?_)))))))
 refine Yc3 (by exact d4) b4 hS rfl (U3 (vA (Z7 .i64 b1.1)) rfl rfl rfl (U3 (vI b1.2) rfl rfl rfl ?_))
 refine W9 (z := vA (Z7 .i64 (fun _ => 0))) (Z7 .i64 (fun _ => 0)).toArray Zl0.zero rfl hS rfl ?_
 intro g0 u3 hS
 refine W1 (v := vA (Z7 .i64 b1.1)) (vs := (Z7 .i64 b1.1).toArray) (cs := (Z7 .i64 (fun _ => 0)).toArray) N2 rfl rfl rfl hS rfl (S8 .i64 b1.1) rfl ?_
 intro u4 hS
 refine Z6 (vI b1.2) rfl rfl (Z0 (Z3 (Z1 ?_)))
 obtain ⟨h2, k5, b5⟩ := bind_some b5
 refine Y8 Tryz.call207 Wa8 rfl (Yd0 k5  hS) ?_
 rintro u5 u6 ⟨k0, u7, u8, rfl, d0, hS, k6⟩
 refine ⟨_, rfl, ?_⟩
 have Z2 := Z2.trans d0
 have a5 := a5.mono d0
 have a4 := a4.mono d0
 have a6 := a6.mono d0
 have a9 := a9.mono d0
 have a7 := a7.mono d0
 have b4 := b4.mono d0
 have b0 := d0.1 _ _ b0
 refine Z6 (k0) rfl rfl (Z0 (Z3 (Z3 (Z1 (Z4 (Value.pointer (some ⟨c2, d2, none⟩)) (by exact e9) rfl (K3 rfl rfl (Y2 Xx1 rfl rfl ?_)))))))
 refine Y4 (d7) J3 rfl (hS.froz _ _ b0) (g5 0 (show 0 < 4 by decide)) rfl ?_
 have o4 := a5.bound
 refine W6 Q9 rfl a5 rfl (Z4 (vI 0) rfl rfl (Z0 (Y7 ?_)))
 obtain ⟨i1, b7, hS, h6⟩ := k6.freeze hS
 have Z2 := Z2.trans b7
 have a5 := a5.mono b7
 have a4 := a4.mono b7
 have a6 := a6.mono b7
 have a9 := a9.mono b7
 have a7 := a7.mono b7
 have b4 := b4.mono b7
 have b0 := b7.1 _ _ b0
 obtain ⟨h7, b3, f5⟩ := bind_some b5
 refine W7 (id := 2) (fun k f w => ∃ (c0 : MpT) (a3 : Int) (H1 : FH) (b8 : Value), T5 K a0 b1 k c0 a3 = some h7 ∧ Sub H H1 ∧ St H1 w ([(g0, cA (Z7 .i64 b1.1) 188)] ++ (f1 ++ (b2 ++ L))) ∧ 0 ≤ a3 ∧ Q1 .i64 H1 b8 c0 ∧ Zs0 H1 f4 (Ye8 K a0) ∧ Y3 (X3 .i64) H1 d7 a0.1 ∧ Y3 (X3 .i64) H1 c8 a0.2.1 ∧ Y3 (Yf6 .i64) H1 e7 a0.2.2 ∧ R1 .i64 m1 a8 b2 ∧ Zc7 .i64 H1 e8 e5 (some b1) f1 ∧ H1 c2 = some (.cells g4 h3) ∧ ev f (.tmp 0) = Value.pointer (some ⟨c2, d2, none⟩) ∧ ev f (.tmp 5) = m1 ∧ ev f (.tmp 6) = vP g0 ∧ ev f (.tmp 7) = vI b1.2 ∧ ev f (.tmp 8) = b8 ∧ ev f (.tmp 12) = e8 ∧ ev f (.tmp 23) = vI (a0.1.length : Int) ∧ ev f (.tmp 24) = vI a3) (fun f w => ∃ (e6 : MpT) (H1 : FH) (e4 : Value), h7 = .go e6 ∧ Sub H H1 ∧ St H1 w ([(g0, cA (Z7 .i64 b1.1) 188)] ++ (f1 ++ (b2 ++ L))) ∧ Q1 .i64 H1 e4 e6 ∧ Zs0 H1 f4 (Ye8 K a0) ∧ Y3 (X3 .i64) H1 d7 a0.1 ∧ Y3 (X3 .i64) H1 c8 a0.2.1 ∧ Y3 (Yf6 .i64) H1 e7 a0.2.2 ∧ R1 .i64 m1 a8 b2 ∧ Zc7 .i64 H1 e8 e5 (some b1) f1 ∧ H1 c2 = some (.cells g4 h3) ∧ ev f (.tmp 0) = Value.pointer (some ⟨c2, d2, none⟩) ∧ ev f (.tmp 5) = m1 ∧ ev f (.tmp 7) = vI b1.2 ∧ ev f (.tmp 8) = e4 ∧ ev f (.tmp 12) = e8) rfl ?_ ?_ K ?_ ?_
 rintro f w ⟨c0, a3, H1, b8, b3, _⟩
 rw [T5] at b3; cases b3
 rintro k o5 o6 k1 n3 ⟨c0, a3, h8, b8, b3, Z2, hS, m6, d9, a9, a5, a4, a6, a7, b4, b0, c3, e1, d1, e2, e3, d5, d6, c5⟩
 rw [T5] at b3
 refine Z3 (Z1 ?_)
 refine U5 (k := .i64) (a := a3) (b := (a0.1.length : Int)) (by exact c5) (by exact d6) rfl (Z0 (Z3 ?_))
 by_cases f6 : a3 < (a0.1.length : Int)
 rw [if_pos f6] at b3
 refine Y0 (bT f6 rfl) (Y6 (Z3 (Y7 (Z3 (Z1 (Z4 (vI a3) (by exact c5) rfl (Z6 (vI a3) rfl rfl (Z0 (Z3 (Z1 (Z4 (vI a3) rfl rfl ?_)))))))))))
 obtain ⟨o7, b3⟩ := gd b3
 refine W8 Zg4 (by exact d1) rfl (by omega) (by omega) rfl ?_
 refine Y4 (vI (Y5 b1.1 a3)) ty3 rfl (hS.get (o := cA (Z7 .i64 b1.1) 188) mL) (M3 ([]) ([]) (by omega) (by omega)) rfl ?_
 refine Zc5 (k := .i64) (a := (Y5 b1.1 a3)) (b := 0) rfl rfl rfl (Z0 ?_)
 by_cases f7 : 0 < (Y5 b1.1 a3)
 rw [if_pos f7] at b3
 refine Y0 (bT f7 rfl) ?_
 obtain ⟨g2, i2, b3⟩ := bind_some b3
 obtain ⟨f3, i3, b3⟩ := bind_some b3
 refine V4 12 (R9 [(31, MP.eq (b8)), (32, MP.eq (Value.pointer (some ⟨c2, d2, none⟩))), (33, MP.eq (Value.pointer (some ⟨c2, d2, none⟩))), (34, MP.eq (Value.pointer (some ⟨c2, d2 + 1, none⟩))), (35, MP.eq (c8)), (36, MP.eq (Value.pointer (some ⟨c2, d2, none⟩))), (37, MP.eq (vI a3)), (38, MP.eq (vI a3)), (39, MP.eq (Value.pointer (some ⟨g0, 0 + (a3).toNat * 1, none⟩))), (40, MP.eq (vI (Y5 b1.1 a3))), (41, MP.rep (R.mp .i64) (g2)), (42, MP.mp .i64 (f3))]) [] mixed rfl rfl rfl hS (Z5 rfl ?_ (Z5 rfl ?_ (Z5 rfl ?_ (Z5 rfl ?_ (Z5 rfl ?_ (Z5 rfl ?_ (Z5 rfl ?_ (Z5 rfl ?_ (Z5 rfl ?_ (Z5 rfl ?_ (Z5 rfl ?_ (Z5 rfl ?_ V9)))))))))))) ?_
 intro u9 v0 v1 v2 o8 hS k7 o9 hcq
 refine Z4 (b8) (evT (k7 8 rfl) e3) rfl ?_
 exact qn (.refl _) rfl hS rfl
 intro v3 v4 v5 v6 p0 hS k8 p1 hcq
 refine Z4 (Value.pointer (some ⟨c2, d2, none⟩)) (evT (k8 0 rfl) c3) rfl ?_
 exact qn (.refl _) rfl hS rfl
 intro v7 v8 v9 w0 p2 hS p3 k9 hcq
 refine K3 (eM (k9 1 32 rfl rfl)) rfl ?_
 exact qn (.refl _) rfl hS rfl
 intro w1 w3 w4 w5 p4 hS p5 l0 hcq
 refine Y2 Xh4 (eM (l0 2 33 rfl rfl)) rfl ?_
 exact qn (.refl _) rfl hS rfl
 intro w6 w8 w9 x0 l1 hS p6 l2 hcq
 have b0 := l1.1 _ _ b0
 refine Y4 (c8) J3 (eM (l2 3 34 rfl rfl)) (hS.froz _ _ b0) (g5 1 (show 1 < 4 by decide)) rfl ?_
 exact qn (.refl _) rfl hS rfl
 intro x1 x2 x3 x4 p7 hS l3 p8 hcq
 refine Z4 (Value.pointer (some ⟨c2, d2, none⟩)) (evT (l3 0 rfl) c3) rfl ?_
 exact qn (.refl _) rfl hS rfl
 intro n4 x5 x6 x7 p9 hS l4 q1 hcq
 have n5 : ev n4 (.tmp 9) = vI a3 := Eq.trans (l4 9 rfl) rfl
 refine Z4 (vI a3) n5 rfl ?_
 exact qn (.refl _) rfl hS rfl
 intro n6 x8 x9 y0 q2 hS l5 q3 hcq
 have l6 : ev n6 (.tmp 9) = vI a3 := Eq.trans (l5 9 rfl) rfl
 refine Z4 (vI a3) l6 rfl ?_
 exact qn (.refl _) rfl hS rfl
 intro q4 q5 q6 q7 n7 hS i4 i5 hcq
 refine W8 Zg4 (evT (i4 6 rfl) d1) (eM (i5 7 38 rfl rfl)) (by omega) (by omega) rfl ?_
 exact qn (.refl _) rfl hS rfl
 intro q8 q9 r0 r1 n8 hS n9 i6 hcq
 refine Y4 (vI (Y5 b1.1 a3)) ty3 (eM (i6 8 39 rfl rfl)) (hS.get (o := cA (Z7 .i64 b1.1) 188) (mR mL)) (M3 ([]) ([]) (by omega) (by omega)) rfl ?_
 exact qn (.refl _) rfl hS rfl
 intro r2 r3 r4 r5 e0 hS o0 f8 hcq
 have a5 := a5.mono e0
 have a4 := a4.mono e0
 have a6 := a6.mono e0
 have a9 := a9.mono e0
 have b0 := e0.1 _ _ b0
 refine Y8 Tryz.call208 (N8 (eM (f8 5 36 rfl rfl)) (eM (f8 6 37 rfl rfl)) (eM (f8 9 40 rfl rfl))) rfl (Yg5 i2 ⟨_, _, _, _, _, rfl, b0, ⟨_, _, _, _, rfl, a5, a4, a6, a9⟩, g5⟩ hS) ?_
 rintro r6 r7 ⟨l7, r8, rfl, i7, hS, i8⟩
 refine ⟨l7, rfl, ?_⟩
 exact qn i7 rfl hS i8
 intro r9 s2 l9 s3 g7 hS o1 f9 hcq
 have Z2 := Sub.refl l9
 have a4 := a4.mono g7
 have d9 := d9.mono g7
 obtain ⟨s4, m0, i9⟩ := gvR (f9 10 41 rfl rfl)
 refine Y8 Tryz.call131 (N8 (eM (f9 0 31 rfl rfl)) (eM (f9 4 35 rfl rfl)) m0) rfl (Zl1 i3 d9 a4 i9 hS) ?_
 rintro s5 s6 ⟨s7, s8, s9, rfl, j0, hS, j1⟩
 refine ⟨_, rfl, ?_⟩
 have Z2 := Z2.trans j0
 obtain ⟨t0, j2, hS, j3⟩ := j1.freeze hS
 have Z2 := Z2.trans j2
 exact Z0 ⟨42, _, _, rfl, rfl, Z2, hS, j3⟩
 intro t1 m2 h9 b9 hS c6 j4 hcq
 have hS : St h9 m2 ([(g0, cA (Z7 .i64 b1.1) 188)] ++ (f1 ++ (b2 ++ L))) := hS
 have Z2 := Z2.trans b9
 have a5 := a5.mono b9
 have a4 := a4.mono b9
 have a6 := a6.mono b9
 have a9 := a9.mono b9
 have a7 := a7.mono b9
 have b4 := b4.mono b9
 have b0 := b9.1 _ _ b0
 obtain ⟨i0, m3, j5⟩ := gvM (j4 11 42 (by decide) rfl)
 refine Z6 (i0) (by exact m3) rfl (Z0 (X2 (Z1 ?_)))
 refine V0 (a3 + 1) (by exact (evT (c6 24 rfl) c5)) rfl (IntWalk.i64_in _ (by omega)) rfl (Z4 (vI (a3 + 1)) rfl rfl (Z0 ?_))
 exact k1 _ _ ⟨f3, (a3 + 1), h9, i0, b3, Z2, hS, (by omega), j5, a9, a5, a4, a6, a7, b4, b0, (evT (c6 0 rfl) c3), (evT (c6 5 rfl) e1), (evT (c6 6 rfl) d1), (evT (c6 7 rfl) e2), rfl, (evT (c6 12 rfl) d5), (evT (c6 23 rfl) d6), rfl⟩
 rw [if_neg f7] at b3
 refine Z9 (bF f7 rfl) (Y6 (X2 (Z1 ?_)))
 refine V0 (a3 + 1) (by exact c5) rfl (IntWalk.i64_in _ (by omega)) rfl (Z4 (vI (a3 + 1)) rfl rfl (Z0 ?_))
 exact k1 _ _ ⟨c0, (a3 + 1), h8, b8, b3, Z2, hS, (by omega), d9, a9, a5, a4, a6, a7, b4, b0, c3, e1, d1, e2, e3, d5, d6, rfl⟩
 rw [if_neg f6] at b3
 refine Z9 (bF f6 rfl) ?_
 refine W4 rfl ?_
 have hz := Option.some.inj b3
 subst hz
 exact n3 _ _ ⟨c0, h8, b8, rfl, Z2, hS, d9, a9, a5, a4, a6, a7, b4, b0, c3, e1, e2, e3, d5⟩
 exact ⟨h2, 0, i1, k0, b3, Z2, hS, (by omega), h6, a9, a5, a4, a6, a7, b4, b0, e9, f0, rfl, rfl, rfl, d4, rfl, rfl⟩
 rintro t4 t5 ⟨e6, t6, e4, rfl, Z2, hS, j6, a9, a5, a4, a6, a7, b4, b0, g8, f2, g9, h0, g6⟩
 dsimp only [Ex.elim] at f5
 refine Z1 (Z4 (m1) (by exact f2) rfl (Z4 (e4) (by exact h0) rfl (Z4 (vI b1.2) (by exact g9) rfl ?_)))
 obtain ⟨g3, j7, f5⟩ := bind_some f5
 have hS := hS.perm F3
 refine Y8 Tryz.call132 (N8 rfl rfl rfl) rfl (Zj1 j7 a7 j6 hS) ?_
 rintro t7 t8 ⟨m4, m5, rfl, c7, hS, j8⟩
 refine ⟨_, rfl, ?_⟩
 have Z2 := Z2.trans c7
 have a5 := a5.mono c7
 have a4 := a4.mono c7
 have a6 := a6.mono c7
 have a9 := a9.mono c7
 have b4 := b4.mono c7
 have b0 := c7.1 _ _ b0
 have hS := hS.perm F3.symm
 refine Z0 (X2 ?_)
 have hS := St.dropA hS
 exact n1 _ _ ⟨e5, g3, m4, f1, m5, f5, Z2, hS, b4.drop, j8, a9, a5, a4, a6, b0, g8, f2, g6⟩
 exact ⟨a1, ([] : MpT), H, C8, C3, b5, Z2, hS, n0, m9, a9, a5, a4, a6, b0, rfl, rfl, rfl⟩
 rintro t9 u0 ⟨c1, u1, c9, d3, rfl, Z2, hS, j9, g1, h1⟩
 dsimp only [Ex.elim] at h5
 refine Z3 (Z1 (Z4 (m1) (by exact h1) rfl (Z6 (m1) rfl rfl (Z0 ?_))))
 refine Y9 (vs := [m1]) Tryz.func117 ⟨rfl, trivial⟩ ?_
 have hS := hS.perm U4
 have hS := St.dropMid hS
 have hz := Option.some.inj h5
 subst hz
 exact ⟨_, _, _, rfl, Z2, hS, g1⟩
def Zf4 (K : Nat) (a0 : MpT) (a1 : ((List Int) × (List MpT))) : Option Bool := ((Zg7 K a0).bind fun r5 => ((Zd0 K (a1.1, a1.2) r5).bind fun a6 => some (decide (0 < (a6.length : Int)))))
theorem Yf4 {K : Nat} {a0 : MpT} {a1 : ((List Int) × (List MpT))} {r : Bool} (q0 : Zf4 K a0 a1 = some r) {H : FH} {w : World} {L : OL} {s0 : Value} {s1 : Value} (b5 : Y3 yT H s0 a0) (b6 : Zq0 (Zh7 (X6 (X3 .i64)) (X6 (X6 yT))) H s1 a1) (hS : St H w L) :
 Calls Tryz.prog 128 #[vA ([s0]), s1] w (T6 (fun v G => R.bool.p G v r) H L) := by
 obtain ⟨c2, c3, c1, c4, _, rfl, a5, ⟨_, _, rfl, ⟨b7, rfl, a3⟩, ⟨b8, rfl, a4⟩⟩, a9⟩ := b6
 have Z2 := Sub.refl H
 refine X0 Tryz.func128 rfl Tryz.ntmps128 rfl ?_
 unfold Zf4 at q0
 refine Z3 (Z1 ?_)
 refine T7 (v := vA ([s0])) ([s0]).toArray rfl rfl hS rfl ?_
 intro b1 w2 hS
 refine Z6 (Value.bool false) rfl rfl (Z0 (Z3 (Z1 ?_)))
 refine X8 U7 rfl (hS.get mL) rfl rfl ?_
 obtain ⟨r5, b9, q0⟩ := bind_some q0
 refine Y8 Tryz.call90 (Q8 rfl) rfl (Zn1 b9 b5 hS) ?_
 rintro e5 w6 ⟨m5, H5, C5, rfl, a7, hS, c0⟩
 refine ⟨_, rfl, ?_⟩
 have Z2 := Z2.trans a7
 have a3 := a3.mono a7
 have a4 := a4.mono a7
 have a5 := a7.1 _ _ a5
 obtain ⟨H8, a8, hS, b0⟩ := c0.freeze hS
 have Z2 := Z2.trans a8
 have a3 := a3.mono a8
 have a4 := a4.mono a8
 have a5 := a8.1 _ _ a5
 obtain ⟨a6, b2, q0⟩ := bind_some q0
 refine Y8 Tryz.call120 (T0 rfl rfl) rfl (Zx6 b2 ⟨_, _, _, _, _, rfl, a5, ⟨_, _, rfl, ⟨_, rfl, a3⟩, ⟨_, rfl, a4⟩⟩, a9⟩ b0 hS) ?_
 rintro c5 c6 ⟨c7, c8, c9, rfl, b3, hS, b4⟩
 refine ⟨_, rfl, ?_⟩
 have Z2 := Z2.trans b3
 refine Xu4 Zm8 rfl b4 hS rfl ?_
 refine Zc5 (k := .i64) (a := (a6.length : Int)) (b := 0) rfl rfl rfl (Z6 (Value.bool (decide (0 < (a6.length : Int)))) rfl rfl (Z0 ?_))
 refine Y9 (vs := [Value.bool (decide (0 < (a6.length : Int)))]) Tryz.func128 ⟨rfl, trivial⟩ ?_
 have hz := Option.some.inj q0
 subst hz
 exact ⟨_, _, rfl, Z2, (St.dropA (St.dropA hS)), rfl⟩
end Go.Proofs.YtfodlhkoafhplaaGreat
