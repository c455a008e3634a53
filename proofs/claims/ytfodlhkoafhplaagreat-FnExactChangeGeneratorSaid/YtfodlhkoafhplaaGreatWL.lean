/- The walk of the law. -/
import Derived.Test.YtfodlhkoafhplaaGreatWF17
import Derived.Test.YtfodlhkoafhplaaGreatWF20
import Derived.Test.YtfodlhkoafhplaaGreatWF11
import Derived.Test.YtfodlhkoafhplaaGreatWF15
import Derived.Test.YtfodlhkoafhplaaGreatWF10
import Derived.Test.YtfodlhkoafhplaaGreatWF7
import Derived.Test.YtfodlhkoafhplaaGreatWF12
import Derived.Test.YtfodlhkoafhplaaGreatWX
import Derived.Test.YtfodlhkoafhplaaGreatWX2
import Derived.Test.YtfodlhkoafhplaaGreatWTy
namespace Go.Proofs.YtfodlhkoafhplaaGreat
open Go
set_option linter.unusedSimpArgs false
set_option linter.unusedVariables false
set_option maxRecDepth 100000
set_option maxHeartbeats 8000000
def L5 (K : Nat) (a7 : (((List Int) × (List MpT)) × Int)) (e2 : Bool) : Option Bool := (if e2 = true then some false else ((Zd7 K ((mkA a7.1 1).1, (mkA a7.1 1).2) 1).bind fun f7 => (if f7 < 0 then some false else (if f7 = (1 + D6 a7.1) then some true else some false))))
def P8 (K : Nat) (a0 : ((List Int) × (List MpT))) (a1 : Int) (a2 : MpT) (a7 : (((List Int) × (List MpT)) × Int)) (a3 : (((List Int) × (List MpT)) × Int)) (f3 : Bool) : Option Bool := (if f3 = true then some false else (if D6 a7.1 ≤ 1000000000000 ∧ 0 ≤ (1 : Int) ∧ (1 : Int) ≤ 1000000 then ((Zd7 K ((mkA a7.1 1).1, (mkA a7.1 1).2) 1).bind fun f8 => (if f8 < 0 then some false else (if f8 = (1 + D6 a7.1) then ((Za5 K (a0.1, a0.2)).bind fun l4 => ((D7 K a2).bind fun o3 => ((D9 K (l4.1, l4.2) a1 o3).bind fun a6 => ((Za1 K (((((a6.1.1, a6.1.2), a6.2).1).1, (((a6.1.1, a6.1.2), a6.2).1).2).1, ((((a6.1.1, a6.1.2), a6.2).1).1, (((a6.1.1, a6.1.2), a6.2).1).2).2) (((((a3.1.1, a3.1.2), a3.2).1).1, (((a3.1.1, a3.1.2), a3.2).1).2).1, ((((a3.1.1, a3.1.2), a3.2).1).1, (((a3.1.1, a3.1.2), a3.2).1).2).2)).bind fun j3 => (if j3 = true then L5 K a7 (!decide (((a6.1.1, a6.1.2), a6.2).2 = ((a3.1.1, a3.1.2), a3.2).2)) else L5 K a7 true))))) else some false))) else none))
def L4 (K : Nat) (a0 : ((List Int) × (List MpT))) (a1 : Int) (a2 : MpT) (b8 : ((List Int) × (List MpT))) (d4 : MpT) (a7 : (((List Int) × (List MpT)) × Int)) (a3 : (((List Int) × (List MpT)) × Int)) (f4 : Bool) : Option Bool := (if f4 = true then some false else ((Za5 K (a0.1, a0.2)).bind fun l5 => ((Za1 K (b8.1, b8.2) (l5.1, l5.2)).bind fun h0 => (if h0 = true then ((D7 K a2).bind fun o4 => ((Ze9 K d4 o4).bind fun h4 => (if h4 = true then (if D6 b8 ≤ 1000000000000 ∧ 0 ≤ (1 : Int) ∧ (1 : Int) ≤ 1000000 then (if d4.length ≤ 1000000000000 ∧ 0 ≤ ((1 + D6 b8) : Int) ∧ ((1 + D6 b8) : Int) ≤ 1000000000000000 then (if ((1 + D6 b8) + 9 * (d4.length : Int)) < 0 then P8 K a0 a1 a2 a7 a3 true else ((Za1 K (a7.1.1, a7.1.2) (((((a3.1.1, a3.1.2), a3.2).1).1, (((a3.1.1, a3.1.2), a3.2).1).2).1, ((((a3.1.1, a3.1.2), a3.2).1).1, (((a3.1.1, a3.1.2), a3.2).1).2).2)).bind fun h6 => (if h6 = true then P8 K a0 a1 a2 a7 a3 (!decide (a7.2 = ((a3.1.1, a3.1.2), a3.2).2)) else P8 K a0 a1 a2 a7 a3 true))) else none) else none) else some false))) else some false))))
def Za0 (K : Nat) (a0 : ((List Int) × (List MpT))) (a1 : Int) (a2 : MpT) : Option Bool := ((Zk1 K (a0.1, a0.2) 1048576).bind fun r7 => (if r7 < 0 then some true else ((Zl5 K a2 r7).bind fun k7 => (if k7 < 0 then some true else ((Za5 K (a0.1, a0.2)).bind fun q6 => ((D7 K a2).bind fun u3 => ((Zc3 K (q6.1, q6.2) a1 u3).bind fun a3 => ((Za5 K (a0.1, a0.2)).bind fun b8 => ((D7 K a2).bind fun d4 => ((D9 K (b8.1, b8.2) a1 d4).bind fun a7 => ((Za1 K (a7.1.1, a7.1.2) (((((a3.1.1, a3.1.2), a3.2).1).1, (((a3.1.1, a3.1.2), a3.2).1).2).1, ((((a3.1.1, a3.1.2), a3.2).1).1, (((a3.1.1, a3.1.2), a3.2).1).2).2)).bind fun j4 => (if j4 = true then L4 K a0 a1 a2 b8 d4 a7 a3 (!decide (a7.2 = ((a3.1.1, a3.1.2), a3.2).2)) else L4 K a0 a1 a2 b8 d4 a7 a3 true))))))))))))
theorem Zv0 {K : Nat} {a0 : ((List Int) × (List MpT))} {a1 : Int} {a2 : MpT} {r : Bool} (q0 : Za0 K a0 a1 a2 = some r) {H : FH} {w : World} {L : OL} {s0 : Value} {s1 : Value} {s2 : Value} (a8 : Y3 (X3 .i64) H s0 a0.1) (a9 : Y3 (X6 yT) H s1 a0.2) (b0 : Y3 yT H s2 a2) (hM : ∀ b, H.memo b = none) (hL : ∀ b, b < H.lim → H b ≠ none) (hS : St H w L) :
 Calls Tryz.prog 9 #[vA ([s0] ++ [s1]), vI a1, vA ([s2])] w (T6 (fun v G => R.bool.p G v r) H L) := by
 have Z2 := Sub.refl H
 refine X0 Tryz.func9 rfl Tryz.ntmps9 rfl ?_
 unfold Za0 at q0
 refine Z3 (Z1 ?_)
 refine T7 (v := vA ([s0] ++ [s1])) ([s0] ++ [s1]).toArray rfl rfl hS rfl ?_
 intro b1 w2 hS
 refine T7 (v := vA ([s2])) ([s2]).toArray rfl rfl hS rfl ?_
 intro b4 w5 hS
 refine Z6 (Value.bool false) rfl rfl (Z0 (Z3 (Z1 (Z6 (vI 1048576) rfl rfl (Z0 (Z3 (Z1 ?_)))))))
 refine X8 Xg7 rfl (hS.get (mR mL)) rfl rfl (Z4 (vI 1048576) rfl rfl ?_)
 obtain ⟨r7, hr7, q0⟩ := bind_some q0
 refine Y8 Tryz.call15 (T0 rfl rfl) rfl (Yl5 hr7 a8 a9 hS) ?_
 rintro e7 w8 ⟨_, H7, rfl, q7, hS, rfl⟩
 refine ⟨_, rfl, ?_⟩
 have Z2 := Z2.trans q7
 have a8 := a8.mono q7
 have a9 := a9.mono q7
 have b0 := b0.mono q7
 refine Z6 (vI r7) rfl rfl (Z0 (Z3 (Z3 (Z1 (Z4 (vI r7) rfl rfl ?_)))))
 refine U5 (k := .i64) (a := r7) (b := 0) rfl rfl rfl (Z0 ?_)
 by_cases q8 : r7 < 0
 rw [if_pos q8] at q0
 refine Y0 (bT q8 rfl) (Z3 (Z1 (Z6 (Value.bool true) rfl rfl (Z0 ?_))))
 refine Y9 (vs := [Value.bool true]) Tryz.func9 ⟨rfl, trivial⟩ ?_
 have hz := Option.some.inj q0
 subst hz
 exact ⟨_, _, rfl, Z2, (St.dropA (St.dropA hS)), rfl⟩
 rw [if_neg q8] at q0
 refine Z9 (bF q8 rfl) (Y6 (Z3 (Z1 ?_)))
 refine X8 Yu7 rfl (hS.get mL) rfl rfl (Z4 (vI r7) rfl rfl ?_)
 obtain ⟨k7, a37, q0⟩ := bind_some q0
 refine Y8 Tryz.call27 (T0 rfl rfl) rfl (Yd2 a37 b0 hS) ?_
 rintro e10 w11 ⟨_, H10, rfl, l6, hS, rfl⟩
 refine ⟨_, rfl, ?_⟩
 have Z2 := Z2.trans l6
 have b0 := b0.mono l6
 have a8 := a8.mono l6
 have a9 := a9.mono l6
 refine Z6 (vI k7) rfl rfl (Z0 (Z3 (Z3 (Z1 (Z4 (vI k7) rfl rfl ?_)))))
 refine U5 (k := .i64) (a := k7) (b := 0) rfl rfl rfl (Z0 ?_)
 by_cases l7 : k7 < 0
 rw [if_pos l7] at q0
 refine Y0 (bT l7 rfl) (Z3 (Z1 (Z6 (Value.bool true) rfl rfl (Z0 ?_))))
 refine Y9 (vs := [Value.bool true]) Tryz.func9 ⟨rfl, trivial⟩ ?_
 have hz := Option.some.inj q0
 subst hz
 exact ⟨_, _, rfl, Z2, (St.dropA (St.dropA hS)), rfl⟩
 rw [if_neg l7] at q0
 refine Z9 (bF l7 rfl) (Y6 (Z3 ?_))
 obtain ⟨q6, a38, q0⟩ := bind_some q0
 obtain ⟨u3, a39, q0⟩ := bind_some q0
 obtain ⟨a3, a40, q0⟩ := bind_some q0
 refine V4 12 (R9 [(30, MP.eq (vA ([s0] ++ [s1]))), (31, MP.rep (R.agg (Zh7 (X6 (X3 .i64)) (X6 (X6 yT)))) (q6)), (32, MP.eq (vI a1)), (33, MP.eq (vA ([s2]))), (34, MP.rep (R.agg (X6 yT)) (u3)), (35, MP.rep (R.t2 (R.agg (Zh7 (X6 (X3 .i64)) (X6 (X6 yT)))) (R.int .i64)) (a3)), (29, MP.rep (R.t2 (R.agg (Zh7 (X6 (X3 .i64)) (X6 (X6 yT)))) (R.int .i64)) (((a3.1.1, a3.1.2), a3.2))), (36, MP.rep (R.agg (Zh7 (X6 (X3 .i64)) (X6 (X6 yT)))) (((((a3.1.1, a3.1.2), a3.2).1).1, (((a3.1.1, a3.1.2), a3.2).1).2))), (37, MP.eq (vI (((a3.1.1, a3.1.2), a3.2).2))), (8, MP.box (cA ([vN] ++ [vN]) 29)), (9, MP.eq (vI (((a3.1.1, a3.1.2), a3.2).2)))]) [Co.st 9 8 10 7 36 (Zi8 29)] mixed rfl (Zp5 (ns := [(9, 8, 10, 7, 36)]) rfl rfl) rfl hS (Z5 rfl ?_ (Z5 rfl ?_ (Z5 rfl ?_ (Z5 rfl ?_ (Z5 rfl ?_ (Z5 rfl ?_ (Z5 rfl ?_ (Z5 rfl ?_ (Z5 rfl ?_ (Z5 rfl ?_ (Yb1 rfl ?_ (Z5 rfl ?_ V9)))))))))))) ?_
 intro f13 w14 H15 X16 ai5 hS a41 ai6 hcq
 have q21 : ev f13 (.tmp 3) = vP b1 := Eq.trans (a41 3 rfl) rfl
 refine X8 Xg7 q21 (hS.get (mR (mR mL))) rfl rfl ?_
 exact qn (.refl _) rfl hS rfl
 intro f22 w23 H24 X25 u4 hS ai7 a42 hcq
 have a8 := a8.mono u4
 have a9 := a9.mono u4
 refine Y8 Tryz.call17 (Q8 (eM (a42 0 30 rfl rfl))) rfl (Zl2 a38 a8 a9 hS) ?_
 rintro e31 w32 ⟨v31, H31, rfl, a43, hS, o5⟩
 refine ⟨v31, rfl, ?_⟩
 have o5 := Zg5.rep o5
 exact qn a43 rfl hS o5
 intro f33 w34 H35 X36 ai8 hS a44 ai9 hcq
 have q41 : ev f33 (.tmp 1) = vI a1 := Eq.trans (a44 1 rfl) rfl
 refine Z4 (vI a1) q41 rfl ?_
 exact qn (.refl _) rfl hS rfl
 intro f42 w43 H44 X45 aj0 hS a45 aj1 hcq
 have q50 : ev f42 (.tmp 5) = vP b4 := Eq.trans (a45 5 rfl) rfl
 refine X8 Yu7 q50 (hS.get (mR mL)) rfl rfl ?_
 exact qn (.refl _) rfl hS rfl
 intro f51 w52 H53 X54 a46 hS aj2 a47 hcq
 have b0 := b0.mono a46
 refine Y8 Tryz.call29 (Q8 (eM (a47 3 33 rfl rfl))) rfl (Zk4 a39 b0 hS) ?_
 rintro e60 w61 ⟨v60, H60, rfl, a48, hS, o6⟩
 refine ⟨v60, rfl, ?_⟩
 have o6 := ((R.agg (X6 yT))).mono (Zl4 _ _) o6
 exact qn a48 rfl hS o6
 intro f62 w63 H64 X65 aj3 hS aj4 o7 hcq
 obtain ⟨v71, q70, ⟨_, rfl, ⟨_, _, rfl, ⟨ac2, rfl, u5⟩, ⟨ac3, rfl, u6⟩⟩⟩⟩ := gvR (o7 1 31 rfl rfl)
 obtain ⟨v74, q73, ⟨_, rfl, ⟨ac4, rfl, u7⟩⟩⟩ := gvR (o7 4 34 rfl rfl)
 refine Y8 Tryz.call64 (N8 q70 (eM (o7 2 32 rfl rfl)) q73) rfl (Yb8 a40 u5 u6 u7 hS) ?_
 rintro e75 w76 ⟨v75, H75, rfl, a49, hS, a50⟩
 refine ⟨v75, rfl, ?_⟩
 exact qn a49 rfl hS a50
 intro f77 w78 H79 X80 aj5 hS aj6 a51 hcq
 obtain ⟨v86, q85, ⟨ac5, ac6, rfl, ⟨_, rfl, ⟨_, _, rfl, ⟨r9, rfl, o8⟩, ⟨s3, rfl, o9⟩⟩⟩, rfl⟩⟩ := gvR (a51 5 35 rfl rfl)
 refine Z4 (Value.tuple #[vA ([r9] ++ [s3]), vI a3.2]) q85 rfl ?_
 exact qn (.refl _) rfl hS ⟨_, _, rfl, ⟨_, rfl, ⟨_, _, rfl, ⟨_, rfl, o8⟩, ⟨_, rfl, o9⟩⟩⟩, rfl⟩
 intro f87 w88 H89 X90 aj7 hS aj8 a52 hcq
 obtain ⟨v96, q95, ⟨ac7, ac8, rfl, ⟨_, rfl, ⟨_, _, rfl, ⟨s4, rfl, p0⟩, ⟨s5, rfl, p1⟩⟩⟩, rfl⟩⟩ := gvR (a52 6 29 rfl rfl)
 refine U3 (vA ([s4] ++ [s5])) q95 rfl rfl ?_
 exact qn (.refl _) rfl hS ⟨_, rfl, ⟨_, _, rfl, ⟨_, rfl, p0⟩, ⟨_, rfl, p1⟩⟩⟩
 intro f97 w98 H99 aj9 ac9 hS ad0 x9 hcq
 obtain ⟨ak0, a53, ⟨aa6, aa7, rfl, ⟨_, rfl, ⟨_, _, rfl, ⟨a54, rfl, a31⟩, ⟨a55, rfl, a32⟩⟩⟩, rfl⟩⟩ := gvR (x9 6 29 rfl rfl)
 refine U3 (vI (((a3.1.1, a3.1.2), a3.2).2)) a53 rfl rfl ?_
 exact qn (.refl _) rfl hS rfl
 intro ak1 ak2 ak3 ak4 ad1 hS ad2 ad3 hcq
 refine W9 (z := vA ([vN] ++ [vN])) ([vN] ++ [vN]).toArray Zu9.zero rfl hS rfl ?_
 intro ak5 ak6 hS
 exact qn (.refl _) rfl hS ⟨_, rfl⟩
 intro h7 a56 u8 a57 ad4 hS ad5 q9 hcq
 have Z2 := Sub.refl u8
 obtain ⟨u9, j5⟩ := q9 9 8 rfl rfl
 have j5 : h7 8 = vP u9 := j5
 have hS : St u8 a56 (F6 (cA ([vN] ++ [vN]) 29) (h7 8) ++ (a57 ++ ([(b4, cA ([s2]) 42)] ++ ([(b1, cA ([s0] ++ [s1]) 25)] ++ L)))) := hS
 rw [j5] at hS
 have a58 : ev h7 (.tmp 8) = vP u9 := j5
 obtain ⟨ak7, v0, ⟨_, rfl, ⟨_, _, rfl, ⟨j6, rfl, s6⟩, ⟨j7, rfl, s7⟩⟩⟩⟩ := gvR (q9 7 36 rfl rfl)
 refine W1 (v := vA ([j6] ++ [j7])) (vs := ([j6] ++ [j7]).toArray) (cs := ([vN] ++ [vN]).toArray) P9 a58 v0 rfl hS rfl (J6 (S2 s6.isOne) (S2 s7.isOne)) rfl ?_
 intro ak8 hS
 have a59 : h7 36 = vA ([j6] ++ [j7]) := v0
 exact Z0 ⟨_, rfl, rfl, Z2, by show St _ _ (F6 (Zi8 29 (h7 36)) (h7 8) ++ _); rw [j5, a59]; exact hS, trivial⟩
 intro ak9 al0 al1 al2 ad6 hS ad7 y0 hcq
 refine Z6 (vI (((a3.1.1, a3.1.2), a3.2).2)) (eM (y0 8 37 rfl rfl)) rfl ?_
 exact qn (.refl _) rfl hS rfl
 intro g2 a60 j8 i2 hS l9 m0 hcq
 have hS : St j8 a60 ((F6 (Zi8 29 (g2 36)) (g2 8) ++ ([])) ++ ([(b4, cA ([s2]) 42)] ++ ([(b1, cA ([s0] ++ [s1]) 25)] ++ L))) := hS
 have Z2 := Z2.trans i2
 have a8 := a8.mono i2
 have a9 := a9.mono i2
 have b0 := b0.mono i2
 have p2 : ev g2 (.tmp 1) = vI a1 := Eq.trans (l9 1 rfl) rfl
 have p3 : ev g2 (.tmp 3) = vP b1 := Eq.trans (l9 3 rfl) rfl
 have p4 : ev g2 (.tmp 5) = vP b4 := Eq.trans (l9 5 rfl) rfl
 obtain ⟨al3, a61, ⟨_, rfl, ⟨_, _, rfl, ⟨c7, rfl, a4⟩, ⟨c8, rfl, a5⟩⟩⟩⟩ := gvR (m0 7 36 (by decide) rfl)
 have p5 : ev g2 (.tmp 9) = vI (((a3.1.1, a3.1.2), a3.2).2) := m0 11 9 (by decide) rfl
 obtain ⟨f9, g4⟩ := m0 9 8 (by decide) rfl
 have g4 : g2 8 = vP f9 := g4
 rw [g4] at hS
 have g4 : ev g2 (.tmp 8) = _ := g4
 have a62 : g2 36 = vA ([c7] ++ [c8]) := a61
 rw [a62] at hS
 refine Z0 (Z3 (Z1 ?_))
 refine X8 Xg7 (by exact p3) (hS.get (mR (mR mL))) rfl rfl ?_
 have m1 := Y3.noMI a8
 have m2 := Y3.noMF a9
 have m3 := Y3.noMT b0
 have g5 := Y3.noMI a4
 have g6 := Y3.noMF a5
 have sB := Wd5 j8
 have k8 := Z2
 have y1 := sB
 obtain ⟨b8, y2, q0⟩ := bind_some q0
 refine Y8 Tryz.call17 (Q8 rfl) rfl (Zl2 y2 a8 a9 hS) ?_
 rintro al4 al5 ⟨ad8, j9, rfl, g3, hS, r0⟩
 obtain ⟨d8, d9, rfl, c1, c2⟩ := id r0.old
 have c1 := Y3.old c1
 have c2 := Y3.old c2
 refine ⟨_, rfl, ?_⟩
 have Z2 := Z2.trans g3
 have a8 := a8.mono g3
 have a9 := a9.mono g3
 have b0 := b0.mono g3
 have a4 := a4.mono g3
 have a5 := a5.mono g3
 have sB := sB.trans g3
 have c3 := Sub.refl j9
 refine W9 (z := vA ([vN] ++ [vN])) ([vN] ++ [vN]).toArray Zu9.zero rfl hS rfl ?_
 intro g7 al6 hS
 refine W1 (v := vA ([d8] ++ [d9])) (vs := ([d8] ++ [d9]).toArray) (cs := ([vN] ++ [vN]).toArray) P9 rfl rfl rfl hS rfl (J6 (S2 c1.isOne) (S2 c2.isOne)) rfl ?_
 intro al7 hS
 refine Z0 (Z3 (Z1 ?_))
 refine X8 Yu7 (by exact p4) (hS.get (mR (mR mL))) rfl rfl ?_
 have k9 := Z2
 have y3 := sB
 have n5 := c3
 obtain ⟨d4, y4, q0⟩ := bind_some q0
 refine Y8 Tryz.call29 (Q8 rfl) rfl (Zk4 y4 b0 hS) ?_
 rintro al8 al9 ⟨_, p6, rfl, e3, hS, ⟨_, rfl, ⟨d5, rfl, g8⟩⟩⟩
 refine ⟨_, rfl, ?_⟩
 have Z2 := Z2.trans e3
 have b0 := b0.mono e3
 have a8 := a8.mono e3
 have a9 := a9.mono e3
 have a4 := a4.mono e3
 have a5 := a5.mono e3
 have c1 := c1.mono e3
 have c2 := c2.mono e3
 have sB := sB.trans e3
 have c3 := c3.trans e3
 have b7 := Zl4 p6 j9
 have c0 := Y3.old g8
 have g8 := Y3.mono (Yp3 (Sub.refl (p6.new j9))) g8
 refine W9 (z := vA ([vN])) ([vN]).toArray Zb2.zero rfl hS rfl ?_
 intro g9 am0 hS
 refine W1 (v := vA ([d5])) (vs := ([d5]).toArray) (cs := ([vN]).toArray) U7 rfl rfl rfl hS rfl (S2 c0.isOne) rfl ?_
 intro am1 hS
 refine Z0 (Z3 (Z1 ?_))
 refine X8 P9 rfl (hS.get (mR mL)) rfl rfl (Z4 (vI a1) (by exact p2) rfl ?_)
 refine X8 U7 rfl (hS.get mL) rfl rfl ?_
 have l0 := Z2
 have y5 := sB
 have n6 := c3
 have m4 := b7
 obtain ⟨a7, y6, q0⟩ := bind_some q0
 refine Y8 Tryz.call65 (N8 rfl rfl rfl) rfl (Zr6 y6 c1 c2 c0 hS) ?_
 rintro am2 am3 ⟨_, v1, rfl, d6, hS, ad9, _, rfl, e4, rfl⟩
 obtain ⟨c5, c6, rfl, b2, b3⟩ := id e4.old
 have b2 := Y3.old b2
 have b3 := Y3.old b3
 refine ⟨_, rfl, ?_⟩
 have Z2 := Z2.trans d6
 have c1 := c1.mono d6
 have c2 := c2.mono d6
 have c0 := c0.mono d6
 have a8 := a8.mono d6
 have a9 := a9.mono d6
 have b0 := b0.mono d6
 have a4 := a4.mono d6
 have a5 := a5.mono d6
 have sB := sB.trans d6
 have c3 := c3.trans d6
 have b7 := b7.trans d6
 have b6 := Sub.refl v1
 refine Z4 (Value.tuple #[vA ([c5] ++ [c6]), vI a7.2]) rfl rfl (U3 (vA ([c5] ++ [c6])) rfl rfl rfl (U3 (vI a7.2) rfl rfl rfl ?_))
 refine W9 (z := vA ([vN] ++ [vN])) ([vN] ++ [vN]).toArray Zu9.zero rfl hS rfl ?_
 intro g0 am4 hS
 refine W1 (v := vA ([c5] ++ [c6])) (vs := ([c5] ++ [c6]).toArray) (cs := ([vN] ++ [vN]).toArray) P9 rfl rfl rfl hS rfl (J6 (S2 b2.isOne) (S2 b3.isOne)) rfl ?_
 intro am5 hS
 refine Z6 (vI a7.2) rfl rfl (Z0 (Z3 (Z3 ?_)))
 refine E9 (fun f w => ∃ (f4 : Bool) (H1 : FH), L4 K a0 a1 a2 b8 d4 a7 a3 f4 = some r ∧ Sub H H1 ∧ St H1 w ([(g0, cA ([c5] ++ [c6]) 29)] ++ ([(g9, cA ([d5]) 47)] ++ ([(g7, cA ([d8] ++ [d9]) 29)] ++ ([(f9, cA ([c7] ++ [c8]) 29)] ++ ([(b4, cA ([s2]) 42)] ++ ([(b1, cA ([s0] ++ [s1]) 25)] ++ L)))))) ∧ Y3 (X3 .i64) H1 d8 b8.1 ∧ Y3 (X3 .i64) H1 c5 a7.1.1 ∧ Y3 yT H1 d5 d4 ∧ Y3 (X6 yT) H1 d9 b8.2 ∧ Y3 (X6 yT) H1 c6 a7.1.2 ∧ Y3 (X3 .i64) H1 s0 a0.1 ∧ Y3 (X6 yT) H1 s1 a0.2 ∧ Y3 yT H1 s2 a2 ∧ Y3 (X3 .i64) H1 c7 (((((a3.1.1, a3.1.2), a3.2).1).1, (((a3.1.1, a3.1.2), a3.2).1).2).1) ∧ Y3 (X6 yT) H1 c8 (((((a3.1.1, a3.1.2), a3.2).1).1, (((a3.1.1, a3.1.2), a3.2).1).2).2) ∧ ev f (.tmp 1) = vI a1 ∧ ev f (.tmp 3) = vP b1 ∧ ev f (.tmp 5) = vP b4 ∧ ev f (.tmp 8) = vP f9 ∧ ev f (.tmp 9) = vI (((a3.1.1, a3.1.2), a3.2).2) ∧ ev f (.tmp 10) = vP g7 ∧ ev f (.tmp 11) = vP g9 ∧ ev f (.tmp 12) = vP g0 ∧ ev f (.tmp 13) = vI a7.2 ∧ ev f (.tmp 57) = Value.bool f4 ∧ Sub j8.noM H1 ∧ Sub j9 H1 ∧ Sub (p6.new j9) H1 ∧ Sub v1 H1) ?_ ?_
 rintro fj1 ae0 ⟨f4, ae1, b9, Z2, hS, c1, b2, c0, c2, b3, a8, a9, b0, a4, a5, v2, n7, v3, v4, v5, l1, s8, s9, t0, l2, sB, c3, b7, b6⟩
 unfold L4 at b9
 by_cases i3 : f4 = true
 rw [if_pos i3] at b9
 refine Y0 (Eq.trans (by exact l2) (congrArg Value.bool i3)) (Z3 (Z1 (Z6 (Value.bool false) rfl rfl (Z0 ?_))))
 refine Y9 (vs := [Value.bool false]) Tryz.func9 ⟨rfl, trivial⟩ ?_
 have hz := Option.some.inj b9
 subst hz
 exact ⟨_, _, rfl, Z2, (St.dropA (St.dropA (St.dropA (St.dropA (St.dropA (St.dropA hS)))))), rfl⟩
 rw [if_neg i3] at b9
 refine Z9 (Eq.trans (by exact l2) (congrArg Value.bool (W2 i3))) (Y6 (Z3 (Z3 ?_)))
 obtain ⟨l5, y7, b9⟩ := bind_some b9
 obtain ⟨h0, y8, b9⟩ := bind_some b9
 refine V4 5 (R9 [(58, MP.eq (vA ([d8] ++ [d9]))), (59, MP.eq (vA ([s0] ++ [s1]))), (60, MP.rep (R.agg (Zh7 (X6 (X3 .i64)) (X6 (X6 yT)))) (l5)), (61, MP.eq (Value.bool h0)), (62, MP.eq (Value.bool (!h0)))]) [] mixed rfl rfl rfl hS (Z5 rfl ?_ (Z5 rfl ?_ (Z5 rfl ?_ (Z5 rfl ?_ (Z5 rfl ?_ V9))))) ?_
 intro am6 am7 am8 am9 ae2 hS y9 ae3 hcq
 refine X8 P9 (evT (y9 10 rfl) l1) (hS.get (mR (mR (mR mL)))) rfl rfl ?_
 exact qn (.refl _) rfl hS rfl
 intro an0 an1 an2 an3 ae4 hS z0 ae5 hcq
 refine X8 Xg7 (evT (z0 3 rfl) n7) (hS.get (mR (mR (mR (mR (mR (mR mL))))))) rfl rfl ?_
 exact qn (.refl _) rfl hS rfl
 intro an4 an5 an6 an7 r1 hS ae6 z1 hcq
 have a8 := a8.mono r1
 have a9 := a9.mono r1
 refine Y8 Tryz.call17 (Q8 (eM (z1 1 59 rfl rfl))) rfl (Zl2 y7 a8 a9 hS) ?_
 rintro an8 an9 ⟨a63, ao0, rfl, z2, hS, m5⟩
 refine ⟨a63, rfl, ?_⟩
 have m5 := Zg5.rep m5
 exact qn z2 rfl hS m5
 intro ao1 ao2 ao3 ao4 r2 hS ae7 r3 hcq
 have c1 := c1.mono r2
 have c2 := c2.mono r2
 obtain ⟨ao5, a64, ⟨_, rfl, ⟨_, _, rfl, ⟨aa8, rfl, t1⟩, ⟨aa9, rfl, t4⟩⟩⟩⟩ := gvR (r3 2 60 rfl rfl)
 refine Y8 Tryz.call19 (T0 (eM (r3 0 58 rfl rfl)) a64) rfl (Zk9 y8 c1 c2 t1 t4 hS) ?_
 rintro ao6 ao7 ⟨_, ao8, rfl, z3, hS, rfl⟩
 refine ⟨_, rfl, ?_⟩
 exact qn z3 rfl hS rfl
 intro ao9 ap0 ap1 ap2 ae8 hS ae9 z4 hcq
 refine N7 (b := h0) (eM (z4 3 61 rfl rfl)) rfl ?_
 exact qn (.refl _) rfl hS rfl
 intro a65 a66 a67 d1 hS e9 z5 hcq
 have hS : St a67 a66 ([(g0, cA ([c5] ++ [c6]) 29)] ++ ([(g9, cA ([d5]) 47)] ++ ([(g7, cA ([d8] ++ [d9]) 29)] ++ ([(f9, cA ([c7] ++ [c8]) 29)] ++ ([(b4, cA ([s2]) 42)] ++ ([(b1, cA ([s0] ++ [s1]) 25)] ++ L)))))) := hS
 have Z2 := Z2.trans d1
 have b2 := b2.mono d1
 have b3 := b3.mono d1
 have c0 := c0.mono d1
 have a4 := a4.mono d1
 have a5 := a5.mono d1
 have b0 := b0.mono d1
 have a8 := a8.mono d1
 have a9 := a9.mono d1
 have sB := sB.trans d1
 have c3 := c3.trans d1
 have b7 := b7.trans d1
 have b6 := b6.trans d1
 have v6 := evT (e9 5 rfl) v3
 have v7 := evT (e9 11 rfl) s8
 have v8 : ev a65 (.tmp 62) = Value.bool (!h0) := z5 4 62 (by decide) rfl
 refine Z0 ?_
 by_cases i4 : h0 = true
 rw [if_pos i4] at b9
 refine Z9 (Eq.trans (by exact v8) (congrArg (fun b => Value.bool (!b)) i4)) (Y6 (Z3 (Z3 ?_)))
 obtain ⟨o4, z6, b9⟩ := bind_some b9
 obtain ⟨h4, z7, b9⟩ := bind_some b9
 refine V4 5 (R9 [(63, MP.eq (vA ([d5]))), (64, MP.eq (vA ([s2]))), (65, MP.rep (R.agg (X6 yT)) (o4)), (66, MP.eq (Value.bool h4)), (67, MP.eq (Value.bool (!h4)))]) [] mixed rfl rfl rfl hS (Z5 rfl ?_ (Z5 rfl ?_ (Z5 rfl ?_ (Z5 rfl ?_ (Z5 rfl ?_ V9))))) ?_
 intro ap3 ap4 ap5 ap6 af0 hS z8 af1 hcq
 refine X8 U7 (evT (z8 11 rfl) v7) (hS.get (mR (mR mL))) rfl rfl ?_
 exact qn (.refl _) rfl hS rfl
 intro ap7 ap8 ap9 aq0 af2 hS z9 af3 hcq
 refine X8 Yu7 (evT (z9 5 rfl) v6) (hS.get (mR (mR (mR (mR (mR mL)))))) rfl rfl ?_
 exact qn (.refl _) rfl hS rfl
 intro aq1 aq2 aq3 aq4 a00 hS af4 a01 hcq
 have b0 := b0.mono a00
 refine Y8 Tryz.call29 (Q8 (eM (a01 1 64 rfl rfl))) rfl (Zk4 z6 b0 hS) ?_
 rintro aq5 aq6 ⟨a68, aq7, rfl, a02, hS, m6⟩
 refine ⟨a68, rfl, ?_⟩
 have m6 := ((R.agg (X6 yT))).mono (Zl4 _ _) m6
 exact qn a02 rfl hS m6
 intro aq8 aq9 ar0 ar1 a03 hS af5 r4 hcq
 have c0 := c0.mono a03
 obtain ⟨ar2, a69, ⟨_, rfl, ⟨ab0, rfl, t5⟩⟩⟩ := gvR (r4 2 65 rfl rfl)
 refine Y8 Tryz.call31 (T0 (eM (r4 0 63 rfl rfl)) a69) rfl (Ye1 z7 c0 t5 hS) ?_
 rintro ar3 ar4 ⟨_, ar5, rfl, a04, hS, rfl⟩
 refine ⟨_, rfl, ?_⟩
 exact qn a04 rfl hS rfl
 intro ar6 ar7 ar8 ar9 af6 hS af7 a05 hcq
 refine N7 (b := h4) (eM (a05 3 66 rfl rfl)) rfl ?_
 exact qn (.refl _) rfl hS rfl
 intro a70 a71 a72 d2 hS f0 a06 hcq
 have hS : St a72 a71 ([(g0, cA ([c5] ++ [c6]) 29)] ++ ([(g9, cA ([d5]) 47)] ++ ([(g7, cA ([d8] ++ [d9]) 29)] ++ ([(f9, cA ([c7] ++ [c8]) 29)] ++ ([(b4, cA ([s2]) 42)] ++ ([(b1, cA ([s0] ++ [s1]) 25)] ++ L)))))) := hS
 have Z2 := Z2.trans d2
 have b2 := b2.mono d2
 have b3 := b3.mono d2
 have c0 := c0.mono d2
 have a4 := a4.mono d2
 have a5 := a5.mono d2
 have b0 := b0.mono d2
 have a8 := a8.mono d2
 have a9 := a9.mono d2
 have sB := sB.trans d2
 have c3 := c3.trans d2
 have b7 := b7.trans d2
 have b6 := b6.trans d2
 have p7 := evT (f0 1 rfl) (evT (e9 1 rfl) v2)
 have p8 := evT (f0 3 rfl) (evT (e9 3 rfl) n7)
 have p9 := evT (f0 5 rfl) v6
 have m7 := evT (f0 8 rfl) (evT (e9 8 rfl) v4)
 have m8 := evT (f0 9 rfl) (evT (e9 9 rfl) v5)
 have m9 := evT (f0 12 rfl) (evT (e9 12 rfl) s9)
 have v9 : ev a70 (.tmp 67) = Value.bool (!h4) := a06 4 67 (by decide) rfl
 refine Z0 ?_
 by_cases i5 : h4 = true
 rw [if_pos i5] at b9
 refine Z9 (Eq.trans (by exact v9) (congrArg (fun b => Value.bool (!b)) i5)) (Y6 (Z3 (Z1 (Z6 (vI 1) rfl rfl (Z0 (Z3 (Z1 ?_)))))))
 refine X8 P9 (by exact (evT (f0 10 rfl) (evT (e9 10 rfl) l1))) (hS.get (mR (mR mL))) rfl rfl (Z4 (vI 1) rfl rfl ?_)
 obtain ⟨a07, b9⟩ := gd b9
 refine Y8 Tryz.call20 (T0 rfl rfl) rfl (Yv8 r0 c3 a07 (Xh8 hL k8 Z2) hS) ?_
 rintro as0 as1 ⟨a73, rfl, hS, ab1, ab2, h5⟩
 refine ⟨_, rfl, ?_⟩
 have Z2 := h5 H Z2 hM (fun b h => .inl (Yg8 k8 b h))
 have e4 := Zg5.tr (e4.mono b6) (h5 _ (Zl4 _ _) (fun _ => rfl) (Yn9 n6))
 have b7 := h5 _ b7 (fun _ => rfl) (Yn9 n5)
 have c0 := Y3.mono b7 (Y3.old g8)
 have sB := h5 _ sB (fun _ => rfl) (fun b h => .inl (Yg8 y1 b h))
 have b6 := Sub.refl a73
 have b2 := (Zg5.rd e4).1
 have b3 := (Zg5.rd e4).2
 have a8 := m1.mono sB
 have a9 := m2.mono sB
 have b0 := m3.mono sB
 have a4 := g5.mono sB
 have a5 := g6.mono sB
 refine Z6 (vI (1 + D6 b8)) rfl rfl (Z0 (Z3 (Z1 ?_)))
 refine X8 U7 (by exact (evT (f0 11 rfl) v7)) (hS.get (mR mL)) rfl rfl (Z4 (vI (1 + D6 b8)) rfl rfl ?_)
 obtain ⟨a08, b9⟩ := gd b9
 refine Y8 Tryz.call32 (T0 rfl rfl) rfl (Xl2 g8 b7 a08 (Xh8 hL k9 Z2) hS) ?_
 rintro as2 as3 ⟨q1, rfl, hS, g1, k0⟩
 refine ⟨_, rfl, ?_⟩
 have Z2 := k0 H Z2 hM (fun b h => .inl (Yg8 k9 b h))
 have e4 := Zg5.tr (e4.mono b6) (k0 _ (Zl4 _ _) (fun _ => rfl) (Yn9 m4))
 have b6 := Sub.refl q1
 have b2 := (Zg5.rd e4).1
 have b3 := (Zg5.rd e4).2
 have sB := k0 _ sB (fun _ => rfl) (fun b h => .inl (Yg8 y3 b h))
 have a8 := m1.mono sB
 have a9 := m2.mono sB
 have b0 := m3.mono sB
 have a4 := g5.mono sB
 have a5 := g6.mono sB
 refine Z6 (vI ((1 + D6 b8) + 9 * (d4.length : Int))) rfl rfl (Z0 (Z3 (Z3 ?_)))
 refine E9 (fun f w => ∃ (f3 : Bool) (H1 : FH), P8 K a0 a1 a2 a7 a3 f3 = some r ∧ Sub H H1 ∧ St H1 w ([(g0, cA ([c5] ++ [c6]) 29)] ++ ([(g9, cA ([d5]) 47)] ++ ([(g7, cA ([d8] ++ [d9]) 29)] ++ ([(f9, cA ([c7] ++ [c8]) 29)] ++ ([(b4, cA ([s2]) 42)] ++ ([(b1, cA ([s0] ++ [s1]) 25)] ++ L)))))) ∧ Y3 (X3 .i64) H1 c5 a7.1.1 ∧ Y3 (X6 yT) H1 c6 a7.1.2 ∧ Y3 yT H1 d5 (mkT (1 + D6 b8) d4.length) ∧ Y3 (X3 .i64) H1 s0 a0.1 ∧ Y3 (X6 yT) H1 s1 a0.2 ∧ Y3 yT H1 s2 a2 ∧ Y3 (X3 .i64) H1 c7 (((((a3.1.1, a3.1.2), a3.2).1).1, (((a3.1.1, a3.1.2), a3.2).1).2).1) ∧ Y3 (X6 yT) H1 c8 (((((a3.1.1, a3.1.2), a3.2).1).1, (((a3.1.1, a3.1.2), a3.2).1).2).2) ∧ ev f (.tmp 1) = vI a1 ∧ ev f (.tmp 3) = vP b1 ∧ ev f (.tmp 5) = vP b4 ∧ ev f (.tmp 8) = vP f9 ∧ ev f (.tmp 9) = vI (((a3.1.1, a3.1.2), a3.2).2) ∧ ev f (.tmp 12) = vP g0 ∧ ev f (.tmp 86) = Value.bool f3 ∧ Sub j8.noM H1 ∧ Sub q1 H1) ?_ ?_
 rintro fj2 af8 ⟨f3, af9, b5, Z2, hS, b2, b3, g1, a8, a9, b0, a4, a5, w0, w1, w3, w4, w6, h8, l3, sB, b6⟩
 unfold P8 at b5
 by_cases i6 : f3 = true
 rw [if_pos i6] at b5
 refine Y0 (Eq.trans (by exact l3) (congrArg Value.bool i6)) (Z3 (Z1 (Z6 (Value.bool false) rfl rfl (Z0 ?_))))
 refine Y9 (vs := [Value.bool false]) Tryz.func9 ⟨rfl, trivial⟩ ?_
 have hz := Option.some.inj b5
 subst hz
 exact ⟨_, _, rfl, Z2, (St.dropA (St.dropA (St.dropA (St.dropA (St.dropA (St.dropA hS)))))), rfl⟩
 rw [if_neg i6] at b5
 refine Z9 (Eq.trans (by exact l3) (congrArg Value.bool (W2 i6))) (Y6 (Z3 (Z1 (Z6 (vI 1) rfl rfl (Z0 (Z3 (Z1 ?_)))))))
 refine X8 P9 (by exact h8) (hS.get mL) rfl rfl (Z4 (vI 1) rfl rfl ?_)
 obtain ⟨a09, b5⟩ := gd b5
 refine Y8 Tryz.call20 (T0 rfl rfl) rfl (Yv8 e4 b6 a09 (Xh8 hL l0 Z2) hS) ?_
 rintro as4 as5 ⟨as6, rfl, hS, c9, d0, n8⟩
 refine ⟨_, rfl, ?_⟩
 have Z2 := n8 H Z2 hM (fun b h => .inl (Yg8 l0 b h))
 have sB := n8 _ sB (fun _ => rfl) (fun b h => .inl (Yg8 y5 b h))
 have a8 := m1.mono sB
 have a9 := m2.mono sB
 have b0 := m3.mono sB
 have a4 := g5.mono sB
 have a5 := g6.mono sB
 refine Z6 (vI (1 + D6 a7.1)) rfl rfl (Z0 (Z3 (Z1 (Z6 (vI 1) rfl rfl (Z0 (Z3 (Z1 ?_)))))))
 refine X8 P9 (by exact h8) (hS.get mL) rfl rfl (Z4 (vI 1) rfl rfl ?_)
 obtain ⟨f8, a10, b5⟩ := bind_some b5
 refine Y8 Tryz.call21 (T0 rfl rfl) rfl (Zv3 a10 c9 d0 hS) ?_
 rintro as7 as8 ⟨_, as9, rfl, f1, hS, rfl⟩
 refine ⟨_, rfl, ?_⟩
 have Z2 := Z2.trans f1
 have c9 := c9.mono f1
 have d0 := d0.mono f1
 have a4 := a4.mono f1
 have a5 := a5.mono f1
 have b0 := b0.mono f1
 have a8 := a8.mono f1
 have a9 := a9.mono f1
 have sB := sB.trans f1
 refine Z6 (vI f8) rfl rfl (Z0 (Z3 (Z3 (Z1 (Z4 (vI f8) rfl rfl ?_)))))
 refine U5 (k := .i64) (a := f8) (b := 0) rfl rfl rfl (Z0 ?_)
 by_cases i7 : f8 < 0
 rw [if_pos i7] at b5
 refine Y0 (bT i7 rfl) (Z3 (Z1 (Z6 (Value.bool false) rfl rfl (Z0 ?_))))
 refine Y9 (vs := [Value.bool false]) Tryz.func9 ⟨rfl, trivial⟩ ?_
 have hz := Option.some.inj b5
 subst hz
 exact ⟨_, _, rfl, Z2, (St.dropA (St.dropA (St.dropA (St.dropA (St.dropA (St.dropA hS)))))), rfl⟩
 rw [if_neg i7] at b5
 refine Z9 (bF i7 rfl) (Y6 (Z3 (Z3 (Z1 (Z4 (vI f8) rfl rfl (Z4 (vI (1 + D6 a7.1)) rfl rfl ?_))))))
 refine L9 (k := .i64) (a := f8) (b := (1 + D6 a7.1)) rfl rfl rfl (Z0 ?_)
 by_cases i8 : f8 = (1 + D6 a7.1)
 rw [if_pos i8] at b5
 refine Z9 (bN i8 rfl) (Y6 (Z3 ?_))
 obtain ⟨l4, a11, b5⟩ := bind_some b5
 obtain ⟨o3, a12, b5⟩ := bind_some b5
 obtain ⟨a6, a13, b5⟩ := bind_some b5
 refine V4 12 (R9 [(99, MP.eq (vA ([s0] ++ [s1]))), (100, MP.rep (R.agg (Zh7 (X6 (X3 .i64)) (X6 (X6 yT)))) (l4)), (101, MP.eq (vI a1)), (102, MP.eq (vA ([s2]))), (103, MP.rep (R.agg (X6 yT)) (o3)), (104, MP.rep (R.t2 (R.agg (Zh7 (X6 (X3 .i64)) (X6 (X6 yT)))) (R.int .i64)) (a6)), (98, MP.rep (R.t2 (R.agg (Zh7 (X6 (X3 .i64)) (X6 (X6 yT)))) (R.int .i64)) (((a6.1.1, a6.1.2), a6.2))), (105, MP.rep (R.agg (Zh7 (X6 (X3 .i64)) (X6 (X6 yT)))) (((((a6.1.1, a6.1.2), a6.2).1).1, (((a6.1.1, a6.1.2), a6.2).1).2))), (106, MP.eq (vI (((a6.1.1, a6.1.2), a6.2).2))), (17, MP.box (cA ([vN] ++ [vN]) 29)), (18, MP.eq (vI (((a6.1.1, a6.1.2), a6.2).2)))]) [Co.st 9 17 10 7 105 (Zi8 29)] mixed rfl (Zp5 (ns := [(9, 17, 10, 7, 105)]) rfl rfl) rfl hS (Z5 rfl ?_ (Z5 rfl ?_ (Z5 rfl ?_ (Z5 rfl ?_ (Z5 rfl ?_ (Z5 rfl ?_ (Z5 rfl ?_ (Z5 rfl ?_ (Z5 rfl ?_ (Z5 rfl ?_ (Yb1 rfl ?_ (Z5 rfl ?_ V9)))))))))))) ?_
 intro at0 at1 at2 at3 ag0 hS a14 ag1 hcq
 refine X8 Xg7 (evT (a14 3 rfl) w1) (hS.get (mR (mR (mR (mR (mR (mR mL))))))) rfl rfl ?_
 exact qn (.refl _) rfl hS rfl
 intro at4 at5 at6 at7 r5 hS ag2 a15 hcq
 have a8 := a8.mono r5
 have a9 := a9.mono r5
 refine Y8 Tryz.call17 (Q8 (eM (a15 0 99 rfl rfl))) rfl (Zl2 a11 a8 a9 hS) ?_
 rintro at8 at9 ⟨a74, au0, rfl, a16, hS, n0⟩
 refine ⟨a74, rfl, ?_⟩
 have n0 := Zg5.rep n0
 exact qn a16 rfl hS n0
 intro au1 au2 au3 au4 ag3 hS a17 ag4 hcq
 refine Z4 (vI a1) (evT (a17 1 rfl) w0) rfl ?_
 exact qn (.refl _) rfl hS rfl
 intro au5 au6 au7 au8 ag5 hS a18 ag6 hcq
 refine X8 Yu7 (evT (a18 5 rfl) w3) (hS.get (mR (mR (mR (mR (mR mL)))))) rfl rfl ?_
 exact qn (.refl _) rfl hS rfl
 intro au9 av0 av1 av2 a19 hS ag7 a20 hcq
 have b0 := b0.mono a19
 refine Y8 Tryz.call29 (Q8 (eM (a20 3 102 rfl rfl))) rfl (Zk4 a12 b0 hS) ?_
 rintro av3 av4 ⟨a75, av5, rfl, a21, hS, n1⟩
 refine ⟨a75, rfl, ?_⟩
 have n1 := ((R.agg (X6 yT))).mono (Zl4 _ _) n1
 exact qn a21 rfl hS n1
 intro av6 av7 av8 av9 ag8 hS ag9 n2 hcq
 obtain ⟨aw0, a76, ⟨_, rfl, ⟨_, _, rfl, ⟨ab3, rfl, t6⟩, ⟨ab4, rfl, t7⟩⟩⟩⟩ := gvR (n2 1 100 rfl rfl)
 obtain ⟨aw1, a77, ⟨_, rfl, ⟨ab5, rfl, t8⟩⟩⟩ := gvR (n2 4 103 rfl rfl)
 refine Y8 Tryz.call65 (N8 a76 (eM (n2 2 101 rfl rfl)) a77) rfl (Zr6 a13 t6 t7 t8 hS) ?_
 rintro aw2 aw3 ⟨w7, a78, rfl, a22, hS, n3⟩
 refine ⟨w7, rfl, ?_⟩
 have n3 : ((R.t2 (R.agg (Zh7 (X6 (X3 .i64)) (X6 (X6 yT)))) (R.int .i64))).p a78 w7 a6 := (fun ⟨va, vb, h1, h2, h3⟩ => ⟨va, vb, h1, Zg5.rep h2, h3⟩) n3
 exact qn a22 rfl hS n3
 intro aw4 aw5 aw6 aw7 ah0 hS ah1 a23 hcq
 obtain ⟨aw8, a79, ⟨ab6, ab7, rfl, ⟨_, rfl, ⟨_, _, rfl, ⟨q2, rfl, n9⟩, ⟨q3, rfl, o0⟩⟩⟩, rfl⟩⟩ := gvR (a23 5 104 rfl rfl)
 refine Z4 (Value.tuple #[vA ([q2] ++ [q3]), vI a6.2]) a79 rfl ?_
 exact qn (.refl _) rfl hS ⟨_, _, rfl, ⟨_, rfl, ⟨_, _, rfl, ⟨_, rfl, n9⟩, ⟨_, rfl, o0⟩⟩⟩, rfl⟩
 intro aw9 ax0 ax1 ax2 ah2 hS ah3 a24 hcq
 obtain ⟨ax3, a80, ⟨ab8, ab9, rfl, ⟨_, rfl, ⟨_, _, rfl, ⟨q4, rfl, o1⟩, ⟨q5, rfl, o2⟩⟩⟩, rfl⟩⟩ := gvR (a24 6 98 rfl rfl)
 refine U3 (vA ([q4] ++ [q5])) a80 rfl rfl ?_
 exact qn (.refl _) rfl hS ⟨_, rfl, ⟨_, _, rfl, ⟨_, rfl, o1⟩, ⟨_, rfl, o2⟩⟩⟩
 intro ax4 ax5 ax6 ax7 ah4 hS ah5 a25 hcq
 obtain ⟨ax8, a81, ⟨ac0, ac1, rfl, ⟨_, rfl, ⟨_, _, rfl, ⟨a82, rfl, a33⟩, ⟨a83, rfl, a34⟩⟩⟩, rfl⟩⟩ := gvR (a25 6 98 rfl rfl)
 refine U3 (vI (((a6.1.1, a6.1.2), a6.2).2)) a81 rfl rfl ?_
 exact qn (.refl _) rfl hS rfl
 intro ax9 ay0 ay1 ay2 ah6 hS ah7 ah8 hcq
 refine W9 (z := vA ([vN] ++ [vN])) ([vN] ++ [vN]).toArray Zu9.zero rfl hS rfl ?_
 intro ay3 ay4 hS
 exact qn (.refl _) rfl hS ⟨_, rfl⟩
 intro h9 a84 w9 a85 ah9 hS ai0 r6 hcq
 have Z2 := Sub.refl w9
 obtain ⟨x0, k1⟩ := r6 9 17 rfl rfl
 have k1 : h9 17 = vP x0 := k1
 have hS : St w9 a84 (F6 (cA ([vN] ++ [vN]) 29) (h9 17) ++ (a85 ++ ([(g0, cA ([c5] ++ [c6]) 29)] ++ ([(g9, cA ([d5]) 47)] ++ ([(g7, cA ([d8] ++ [d9]) 29)] ++ ([(f9, cA ([c7] ++ [c8]) 29)] ++ ([(b4, cA ([s2]) 42)] ++ ([(b1, cA ([s0] ++ [s1]) 25)] ++ L)))))))) := hS
 rw [k1] at hS
 have a86 : ev h9 (.tmp 17) = vP x0 := k1
 obtain ⟨ay5, x1, ⟨_, rfl, ⟨_, _, rfl, ⟨k2, rfl, t9⟩, ⟨k3, rfl, u0⟩⟩⟩⟩ := gvR (r6 7 105 rfl rfl)
 refine W1 (v := vA ([k2] ++ [k3])) (vs := ([k2] ++ [k3]).toArray) (cs := ([vN] ++ [vN]).toArray) P9 a86 x1 rfl hS rfl (J6 (S2 t9.isOne) (S2 u0.isOne)) rfl ?_
 intro ay6 hS
 have a87 : h9 105 = vA ([k2] ++ [k3]) := x1
 exact Z0 ⟨_, rfl, rfl, Z2, by show St _ _ (F6 (Zi8 29 (h9 105)) (h9 17) ++ _); rw [k1, a87]; exact hS, trivial⟩
 intro ay7 ay8 ay9 az0 ai1 hS ai2 a26 hcq
 refine Z6 (vI (((a6.1.1, a6.1.2), a6.2).2)) (eM (a26 8 106 rfl rfl)) rfl ?_
 exact qn (.refl _) rfl hS rfl
 intro i0 a88 a89 f2 hS i9 n4 hcq
 have hS : St a89 a88 ((F6 (Zi8 29 (i0 105)) (i0 17) ++ ([])) ++ ([(g0, cA ([c5] ++ [c6]) 29)] ++ ([(g9, cA ([d5]) 47)] ++ ([(g7, cA ([d8] ++ [d9]) 29)] ++ ([(f9, cA ([c7] ++ [c8]) 29)] ++ ([(b4, cA ([s2]) 42)] ++ ([(b1, cA ([s0] ++ [s1]) 25)] ++ L))))))) := hS
 have Z2 := Z2.trans f2
 have c9 := c9.mono f2
 have d0 := d0.mono f2
 have a4 := a4.mono f2
 have a5 := a5.mono f2
 have b0 := b0.mono f2
 have a8 := a8.mono f2
 have a9 := a9.mono f2
 have sB := sB.trans f2
 have x2 := evT (i9 12 rfl) h8
 have x3 : ev i0 (.tmp 15) = vI (1 + D6 a7.1) := Eq.trans (i9 15 rfl) rfl
 obtain ⟨az1, a90, ⟨_, rfl, ⟨_, _, rfl, ⟨k4, rfl, f5⟩, ⟨k5, rfl, f6⟩⟩⟩⟩ := gvR (n4 7 105 (by decide) rfl)
 obtain ⟨x4, i1⟩ := n4 9 17 (by decide) rfl
 have i1 : i0 17 = vP x4 := i1
 rw [i1] at hS
 have i1 : ev i0 (.tmp 17) = _ := i1
 have a91 : i0 105 = vA ([k4] ++ [k5]) := a90
 rw [a91] at hS
 refine Z0 (Z3 (Z3 ?_))
 refine E9 (fun f w => ∃ (e2 : Bool) (H1 : FH), L5 K a7 e2 = some r ∧ Sub H H1 ∧ St H1 w ([(x4, cA ([k4] ++ [k5]) 29)] ++ ([(g0, cA ([c5] ++ [c6]) 29)] ++ ([(g9, cA ([d5]) 47)] ++ ([(g7, cA ([d8] ++ [d9]) 29)] ++ ([(f9, cA ([c7] ++ [c8]) 29)] ++ ([(b4, cA ([s2]) 42)] ++ ([(b1, cA ([s0] ++ [s1]) 25)] ++ L))))))) ∧ Y3 (X3 .i64) H1 c5 ((mkA a7.1 1).1) ∧ Y3 (X6 yT) H1 c6 ((mkA a7.1 1).2) ∧ Y3 (X3 .i64) H1 s0 a0.1 ∧ Y3 (X6 yT) H1 s1 a0.2 ∧ Y3 yT H1 s2 a2 ∧ Y3 (X3 .i64) H1 c7 (((((a3.1.1, a3.1.2), a3.2).1).1, (((a3.1.1, a3.1.2), a3.2).1).2).1) ∧ Y3 (X6 yT) H1 c8 (((((a3.1.1, a3.1.2), a3.2).1).1, (((a3.1.1, a3.1.2), a3.2).1).2).2) ∧ Y3 (X3 .i64) H1 k4 (((((a6.1.1, a6.1.2), a6.2).1).1, (((a6.1.1, a6.1.2), a6.2).1).2).1) ∧ Y3 (X6 yT) H1 k5 (((((a6.1.1, a6.1.2), a6.2).1).1, (((a6.1.1, a6.1.2), a6.2).1).2).2) ∧ ev f (.tmp 12) = vP g0 ∧ ev f (.tmp 15) = vI (1 + D6 a7.1) ∧ ev f (.tmp 115) = Value.bool e2 ∧ Sub j8.noM H1) ?_ ?_
 rintro fj3 ai3 ⟨e2, ai4, d3, Z2, hS, c9, d0, a8, a9, b0, a4, a5, f5, f6, u1, u2, k6, sB⟩
 unfold L5 at d3
 by_cases j0 : e2 = true
 rw [if_pos j0] at d3
 refine Y0 (Eq.trans (by exact k6) (congrArg Value.bool j0)) (Z3 (Z1 (Z6 (Value.bool false) rfl rfl (Z0 ?_))))
 refine Y9 (vs := [Value.bool false]) Tryz.func9 ⟨rfl, trivial⟩ ?_
 have hz := Option.some.inj d3
 subst hz
 exact ⟨_, _, rfl, Z2, (St.dropA (St.dropA (St.dropA (St.dropA (St.dropA (St.dropA (St.dropA hS))))))), rfl⟩
 rw [if_neg j0] at d3
 refine Z9 (Eq.trans (by exact k6) (congrArg Value.bool (W2 j0))) (Y6 (Z3 (Z1 (Z6 (vI 1) rfl rfl (Z0 (Z3 (Z1 ?_)))))))
 refine X8 P9 (by exact u1) (hS.get (mR mL)) rfl rfl (Z4 (vI 1) rfl rfl ?_)
 obtain ⟨f7, a27, d3⟩ := bind_some d3
 refine Y8 Tryz.call21 (T0 rfl rfl) rfl (Zv3 a27 c9 d0 hS) ?_
 rintro az2 az3 ⟨_, az4, rfl, r8, hS, rfl⟩
 refine ⟨_, rfl, ?_⟩
 have Z2 := Z2.trans r8
 have sB := sB.trans r8
 refine Z6 (vI f7) rfl rfl (Z0 (Z3 (Z3 (Z1 (Z4 (vI f7) rfl rfl ?_)))))
 refine U5 (k := .i64) (a := f7) (b := 0) rfl rfl rfl (Z0 ?_)
 by_cases j1 : f7 < 0
 rw [if_pos j1] at d3
 refine Y0 (bT j1 rfl) (Z3 (Z1 (Z6 (Value.bool false) rfl rfl (Z0 ?_))))
 refine Y9 (vs := [Value.bool false]) Tryz.func9 ⟨rfl, trivial⟩ ?_
 have hz := Option.some.inj d3
 subst hz
 exact ⟨_, _, rfl, Z2, (St.dropA (St.dropA (St.dropA (St.dropA (St.dropA (St.dropA (St.dropA hS))))))), rfl⟩
 rw [if_neg j1] at d3
 refine Z9 (bF j1 rfl) (Y6 (Z3 (Z3 (Z1 (Z4 (vI f7) rfl rfl (Z4 (vI (1 + D6 a7.1)) (by exact u2) rfl ?_))))))
 refine L9 (k := .i64) (a := f7) (b := (1 + D6 a7.1)) rfl rfl rfl (Z0 ?_)
 by_cases j2 : f7 = (1 + D6 a7.1)
 rw [if_pos j2] at d3
 refine Z9 (bN j2 rfl) (Y6 (Z3 (Z1 (Z6 (Value.bool true) rfl rfl (Z0 ?_)))))
 refine Y9 (vs := [Value.bool true]) Tryz.func9 ⟨rfl, trivial⟩ ?_
 have hz := Option.some.inj d3
 subst hz
 exact ⟨_, _, rfl, Z2, (St.dropA (St.dropA (St.dropA (St.dropA (St.dropA (St.dropA (St.dropA hS))))))), rfl⟩
 rw [if_neg j2] at d3
 refine Y0 (bO j2 rfl) (Z3 (Z1 (Z6 (Value.bool false) rfl rfl (Z0 ?_))))
 refine Y9 (vs := [Value.bool false]) Tryz.func9 ⟨rfl, trivial⟩ ?_
 have hz := Option.some.inj d3
 subst hz
 exact ⟨_, _, rfl, Z2, (St.dropA (St.dropA (St.dropA (St.dropA (St.dropA (St.dropA (St.dropA hS))))))), rfl⟩
 intro hj3
 refine Z1 ?_
 refine X8 P9 (by exact i1) (hS.get mL) rfl rfl ?_
 refine X8 P9 (by exact (evT (i9 8 rfl) w4)) (hS.get (mR (mR (mR (mR mL))))) rfl rfl ?_
 obtain ⟨j3, a28, b5⟩ := bind_some b5
 refine Y8 Tryz.call19 (T0 rfl rfl) rfl (Zk9 a28 f5 f6 a4 a5 hS) ?_
 rintro az5 az6 ⟨_, x5, rfl, e0, hS, rfl⟩
 refine ⟨_, rfl, ?_⟩
 have Z2 := Z2.trans e0
 have f5 := f5.mono e0
 have f6 := f6.mono e0
 have a4 := a4.mono e0
 have a5 := a5.mono e0
 have c9 := c9.mono e0
 have d0 := d0.mono e0
 have b0 := b0.mono e0
 have a8 := a8.mono e0
 have a9 := a9.mono e0
 have sB := sB.trans e0
 refine N7 (b := j3) rfl rfl (Z4 (Value.bool (!j3)) rfl rfl ?_)
 by_cases e5 : j3 = true
 rw [if_pos e5] at b5
 refine Y1 rfl rfl (Eq.trans rfl (congrArg (fun b => Value.bool (!b)) e5)) (Z4 (vI (((a6.1.1, a6.1.2), a6.2).2)) (by exact (eM (n4 11 18 (by decide) rfl))) rfl ?_)
 refine Y1 rfl rfl (Eq.trans rfl (congrArg (fun b => Value.bool (!b)) e5)) (Z4 (vI (((a3.1.1, a3.1.2), a3.2).2)) (by exact (evT (i9 9 rfl) w6)) rfl ?_)
 refine Y1 rfl rfl (Eq.trans rfl (congrArg (fun b => Value.bool (!b)) e5)) ?_
 refine L9 (k := .i64) (a := ((a6.1.1, a6.1.2), a6.2).2) (b := ((a3.1.1, a3.1.2), a3.2).2) rfl rfl rfl ?_
 refine V1 (t := false) (Value.bool (!decide (((a6.1.1, a6.1.2), a6.2).2 = ((a3.1.1, a3.1.2), a3.2).2))) (Eq.trans rfl (congrArg (fun b => Value.bool (!b)) e5)) ((if_neg Bool.false_ne_true).trans rfl) rfl (Z0 ?_)
 exact hj3 _ _ ⟨(!decide (((a6.1.1, a6.1.2), a6.2).2 = ((a3.1.1, a3.1.2), a3.2).2)), x5, b5, Z2, hS, c9, d0, a8, a9, b0, a4, a5, f5, f6, x2, x3, rfl, sB⟩
 rw [if_neg e5] at b5
 refine Z8 rfl rfl (Eq.trans rfl (congrArg (fun b => Value.bool (!b)) (W2 e5))) rfl rfl rfl (Z8 rfl rfl (Eq.trans rfl (congrArg (fun b => Value.bool (!b)) (W2 e5))) rfl rfl rfl (Z8 rfl rfl (Eq.trans rfl (congrArg (fun b => Value.bool (!b)) (W2 e5))) rfl rfl rfl ?_))
 refine V1 (t := true) (Value.bool true) (Eq.trans rfl (congrArg (fun b => Value.bool (!b)) (W2 e5))) ((if_pos rfl).trans rfl) rfl (Z0 ?_)
 exact hj3 _ _ ⟨true, x5, b5, Z2, hS, c9, d0, a8, a9, b0, a4, a5, f5, f6, x2, x3, rfl, sB⟩
 rw [if_neg i8] at b5
 refine Y0 (bO i8 rfl) (Z3 (Z1 (Z6 (Value.bool false) rfl rfl (Z0 ?_))))
 refine Y9 (vs := [Value.bool false]) Tryz.func9 ⟨rfl, trivial⟩ ?_
 have hz := Option.some.inj b5
 subst hz
 exact ⟨_, _, rfl, Z2, (St.dropA (St.dropA (St.dropA (St.dropA (St.dropA (St.dropA hS)))))), rfl⟩
 intro x6
 refine Z1 (Z4 (vI ((1 + D6 b8) + 9 * (d4.length : Int))) rfl rfl ?_)
 refine U5 (k := .i64) (a := ((1 + D6 b8) + 9 * (d4.length : Int))) (b := 0) rfl rfl rfl (Z4 (Value.bool (decide (((1 + D6 b8) + 9 * (d4.length : Int)) < 0))) rfl rfl ?_)
 by_cases d7 : ((1 + D6 b8) + 9 * (d4.length : Int)) < 0
 rw [if_pos d7] at b9
 refine Z8 rfl rfl (bT d7 rfl) rfl rfl rfl (Z8 rfl rfl (bT d7 rfl) rfl rfl rfl (Z8 rfl rfl (bT d7 rfl) rfl rfl rfl (Z8 rfl rfl (bT d7 rfl) rfl rfl rfl ?_)))
 refine V1 (t := true) (Value.bool true) (bT d7 rfl) ((if_pos rfl).trans rfl) rfl (Z4 (Value.bool true) rfl rfl (Z8 rfl rfl rfl rfl rfl rfl (Z8 rfl rfl rfl rfl rfl rfl (Z8 rfl rfl rfl rfl rfl rfl ?_))))
 refine V1 (t := true) (Value.bool true) rfl ((if_pos rfl).trans rfl) rfl (Z0 ?_)
 exact x6 _ _ ⟨true, q1, b9, Z2, hS, b2, b3, g1, a8, a9, b0, a4, a5, p7, p8, p9, m7, m8, m9, rfl, sB, b6⟩
 rw [if_neg d7] at b9
 refine Y1 rfl rfl (bF d7 rfl) ?_
 refine X8 P9 (by exact m9) (hS.get mL) rfl rfl ?_
 refine Y1 rfl rfl (bF d7 rfl) ?_
 refine X8 P9 (by exact m7) (hS.get (mR (mR (mR mL)))) rfl rfl ?_
 obtain ⟨h6, a29, b9⟩ := bind_some b9
 refine Y1 rfl rfl (bF d7 rfl) ?_
 refine Y8 Tryz.call19 (T0 rfl rfl) rfl (Zk9 a29 b2 b3 a4 a5 hS) ?_
 rintro az7 az8 ⟨_, x7, rfl, e1, hS, rfl⟩
 refine ⟨_, rfl, ?_⟩
 have Z2 := Z2.trans e1
 have b2 := b2.mono e1
 have b3 := b3.mono e1
 have a4 := a4.mono e1
 have a5 := a5.mono e1
 have g1 := g1.mono e1
 have b0 := b0.mono e1
 have a8 := a8.mono e1
 have a9 := a9.mono e1
 have sB := sB.trans e1
 have b6 := b6.trans e1
 refine Y1 rfl rfl (bF d7 rfl) (N7 (b := h6) rfl rfl ?_)
 refine V1 (t := false) (Value.bool (!h6)) (bF d7 rfl) ((if_neg Bool.false_ne_true).trans rfl) rfl (Z4 (Value.bool (!h6)) rfl rfl ?_)
 by_cases e6 : h6 = true
 rw [if_pos e6] at b9
 refine Y1 rfl rfl (Eq.trans rfl (congrArg (fun b => Value.bool (!b)) e6)) (Z4 (vI a7.2) (by exact (evT (f0 13 rfl) (evT (e9 13 rfl) t0))) rfl ?_)
 refine Y1 rfl rfl (Eq.trans rfl (congrArg (fun b => Value.bool (!b)) e6)) (Z4 (vI (((a3.1.1, a3.1.2), a3.2).2)) (by exact m8) rfl ?_)
 refine Y1 rfl rfl (Eq.trans rfl (congrArg (fun b => Value.bool (!b)) e6)) ?_
 refine L9 (k := .i64) (a := a7.2) (b := ((a3.1.1, a3.1.2), a3.2).2) rfl rfl rfl ?_
 refine V1 (t := false) (Value.bool (!decide (a7.2 = ((a3.1.1, a3.1.2), a3.2).2))) (Eq.trans rfl (congrArg (fun b => Value.bool (!b)) e6)) ((if_neg Bool.false_ne_true).trans rfl) rfl (Z0 ?_)
 exact x6 _ _ ⟨(!decide (a7.2 = ((a3.1.1, a3.1.2), a3.2).2)), x7, b9, Z2, hS, b2, b3, g1, a8, a9, b0, a4, a5, p7, p8, p9, m7, m8, m9, rfl, sB, b6⟩
 rw [if_neg e6] at b9
 refine Z8 rfl rfl (Eq.trans rfl (congrArg (fun b => Value.bool (!b)) (W2 e6))) rfl rfl rfl (Z8 rfl rfl (Eq.trans rfl (congrArg (fun b => Value.bool (!b)) (W2 e6))) rfl rfl rfl (Z8 rfl rfl (Eq.trans rfl (congrArg (fun b => Value.bool (!b)) (W2 e6))) rfl rfl rfl ?_))
 refine V1 (t := true) (Value.bool true) (Eq.trans rfl (congrArg (fun b => Value.bool (!b)) (W2 e6))) ((if_pos rfl).trans rfl) rfl (Z0 ?_)
 exact x6 _ _ ⟨true, x7, b9, Z2, hS, b2, b3, g1, a8, a9, b0, a4, a5, p7, p8, p9, m7, m8, m9, rfl, sB, b6⟩
 rw [if_neg i5] at b9
 refine Y0 (Eq.trans (by exact v9) (congrArg (fun b => Value.bool (!b)) (W2 i5))) (Z3 (Z1 (Z6 (Value.bool false) rfl rfl (Z0 ?_))))
 refine Y9 (vs := [Value.bool false]) Tryz.func9 ⟨rfl, trivial⟩ ?_
 have hz := Option.some.inj b9
 subst hz
 exact ⟨_, _, rfl, Z2, (St.dropA (St.dropA (St.dropA (St.dropA (St.dropA (St.dropA hS)))))), rfl⟩
 rw [if_neg i4] at b9
 refine Y0 (Eq.trans (by exact v8) (congrArg (fun b => Value.bool (!b)) (W2 i4))) (Z3 (Z1 (Z6 (Value.bool false) rfl rfl (Z0 ?_))))
 refine Y9 (vs := [Value.bool false]) Tryz.func9 ⟨rfl, trivial⟩ ?_
 have hz := Option.some.inj b9
 subst hz
 exact ⟨_, _, rfl, Z2, (St.dropA (St.dropA (St.dropA (St.dropA (St.dropA (St.dropA hS)))))), rfl⟩
 intro hj1
 refine Z1 ?_
 refine X8 P9 rfl (hS.get mL) rfl rfl ?_
 refine X8 P9 (by exact g4) (hS.get (mR (mR (mR mL)))) rfl rfl ?_
 obtain ⟨j4, a30, q0⟩ := bind_some q0
 refine Y8 Tryz.call19 (T0 rfl rfl) rfl (Zk9 a30 b2 b3 a4 a5 hS) ?_
 rintro az9 b00 ⟨_, x8, rfl, c4, hS, rfl⟩
 refine ⟨_, rfl, ?_⟩
 have Z2 := Z2.trans c4
 have b2 := b2.mono c4
 have b3 := b3.mono c4
 have a4 := a4.mono c4
 have a5 := a5.mono c4
 have a8 := a8.mono c4
 have a9 := a9.mono c4
 have b0 := b0.mono c4
 have c1 := c1.mono c4
 have c2 := c2.mono c4
 have c0 := c0.mono c4
 have sB := sB.trans c4
 have c3 := c3.trans c4
 have b7 := b7.trans c4
 have b6 := b6.trans c4
 refine N7 (b := j4) rfl rfl (Z4 (Value.bool (!j4)) rfl rfl ?_)
 by_cases e8 : j4 = true
 rw [if_pos e8] at q0
 refine Y1 rfl rfl (Eq.trans rfl (congrArg (fun b => Value.bool (!b)) e8)) (Z4 (vI a7.2) rfl rfl ?_)
 refine Y1 rfl rfl (Eq.trans rfl (congrArg (fun b => Value.bool (!b)) e8)) (Z4 (vI (((a3.1.1, a3.1.2), a3.2).2)) (by exact p5) rfl ?_)
 refine Y1 rfl rfl (Eq.trans rfl (congrArg (fun b => Value.bool (!b)) e8)) ?_
 refine L9 (k := .i64) (a := a7.2) (b := ((a3.1.1, a3.1.2), a3.2).2) rfl rfl rfl ?_
 refine V1 (t := false) (Value.bool (!decide (a7.2 = ((a3.1.1, a3.1.2), a3.2).2))) (Eq.trans rfl (congrArg (fun b => Value.bool (!b)) e8)) ((if_neg Bool.false_ne_true).trans rfl) rfl (Z0 ?_)
 exact hj1 _ _ ⟨(!decide (a7.2 = ((a3.1.1, a3.1.2), a3.2).2)), x8, q0, Z2, hS, c1, b2, c0, c2, b3, a8, a9, b0, a4, a5, p2, p3, p4, g4, p5, rfl, rfl, rfl, rfl, rfl, sB, c3, b7, b6⟩
 rw [if_neg e8] at q0
 refine Z8 rfl rfl (Eq.trans rfl (congrArg (fun b => Value.bool (!b)) (W2 e8))) rfl rfl rfl (Z8 rfl rfl (Eq.trans rfl (congrArg (fun b => Value.bool (!b)) (W2 e8))) rfl rfl rfl (Z8 rfl rfl (Eq.trans rfl (congrArg (fun b => Value.bool (!b)) (W2 e8))) rfl rfl rfl ?_))
 refine V1 (t := true) (Value.bool true) (Eq.trans rfl (congrArg (fun b => Value.bool (!b)) (W2 e8))) ((if_pos rfl).trans rfl) rfl (Z0 ?_)
 exact hj1 _ _ ⟨true, x8, q0, Z2, hS, c1, b2, c0, c2, b3, a8, a9, b0, a4, a5, p2, p3, p4, g4, p5, rfl, rfl, rfl, rfl, rfl, sB, c3, b7, b6⟩
end Go.Proofs.YtfodlhkoafhplaaGreat
