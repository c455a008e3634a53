/- The walk of the law. -/
import Derived.Test.YtfodlhkoafhplaaGreatVF12
import Derived.Test.YtfodlhkoafhplaaGreatVF17
import Derived.Test.YtfodlhkoafhplaaGreatVF21
import Derived.Test.YtfodlhkoafhplaaGreatVF5
import Derived.Test.YtfodlhkoafhplaaGreatVF11
import Derived.Test.YtfodlhkoafhplaaGreatVF14
import Derived.Test.YtfodlhkoafhplaaGreatVF8
import Derived.Test.YtfodlhkoafhplaaGreatVX
import Derived.Test.YtfodlhkoafhplaaGreatVTy
namespace Go.Proofs.YtfodlhkoafhplaaGreat
open Go
set_option linter.unusedSimpArgs false
set_option linter.unusedVariables false
set_option maxRecDepth 100000
set_option maxHeartbeats 8000000
def L7 (K : Nat) (a4 : (((List Int) × (List MpT)) × (List MpT) × Int)) (e6 : Bool) : Option Bool := (if e6 = true then some false else ((Zf2 K ((mkA a4.1 1).1, (mkA a4.1 1).2) 1).bind fun h2 => (if h2 < 0 then some false else ((Ze7 K (Zv7 (1 + D3 a4.1) a4.2.1) h2).bind fun g7 => (if g7 < 0 then some false else (if g7 = ((1 + D3 a4.1) + M5 a4.2.1) then some true else some false))))))
def P5 (K : Nat) (a0 : ((List Int) × (List MpT))) (a4 : (((List Int) × (List MpT)) × (List MpT) × Int)) (r9 : (((List Int) × (List MpT)) × (List MpT) × Int)) (g2 : Bool) : Option Bool := (if g2 = true then some false else (if D3 a4.1 ≤ 1000000000000 ∧ 0 ≤ (1 : Int) ∧ (1 : Int) ≤ 1000000 then (if M5 a4.2.1 ≤ 1000000000000 ∧ 0 ≤ ((1 + D3 a4.1) : Int) ∧ ((1 + D3 a4.1) : Int) ≤ 100000000000000 then ((Zf2 K ((mkA a4.1 1).1, (mkA a4.1 1).2) 1).bind fun h3 => (if h3 < 0 then some false else ((Ze7 K (Zv7 (1 + D3 a4.1) a4.2.1) h3).bind fun g8 => (if g8 < 0 then some false else (if g8 = ((1 + D3 a4.1) + M5 a4.2.1) then ((Zc1 K (a0.1, a0.2)).bind fun i3 => ((Ze1 K (i3.1, i3.2)).bind fun e3 => ((Zc4 K (e3.1.1, e3.1.2) (r9.1.1, r9.1.2)).bind fun k3 => (if k3 = true then ((Zf3 K e3.2.1 r9.2.1).bind fun i7 => (if i7 = true then L7 K a4 (!decide (e3.2.2 = r9.2.2)) else L7 K a4 true)) else L7 K a4 true)))) else some false))))) else none) else none))
def L8 (K : Nat) (a0 : ((List Int) × (List MpT))) (c9 : ((List Int) × (List MpT))) (a4 : (((List Int) × (List MpT)) × (List MpT) × Int)) (r9 : (((List Int) × (List MpT)) × (List MpT) × Int)) (g3 : Bool) : Option Bool := (if g3 = true then some false else ((Zc1 K (a0.1, a0.2)).bind fun n6 => ((Zc4 K (c9.1, c9.2) (n6.1, n6.2)).bind fun k4 => (if k4 = true then (if D3 c9 ≤ 1000000000000 ∧ 0 ≤ (1 : Int) ∧ (1 : Int) ≤ 1000000 then (if (1 + D3 c9) < 0 then P5 K a0 a4 r9 true else ((Zc4 K (a4.1.1, a4.1.2) (r9.1.1, r9.1.2)).bind fun i8 => (if i8 = true then ((Zf3 K a4.2.1 r9.2.1).bind fun i9 => (if i9 = true then P5 K a0 a4 r9 (!decide (a4.2.2 = r9.2.2)) else P5 K a0 a4 r9 true)) else P5 K a0 a4 r9 true))) else none) else some false))))
def Ze5 (K : Nat) (a0 : ((List Int) × (List MpT))) : Option Bool := ((Zm5 K (a0.1, a0.2) 1048576).bind fun r4 => (if r4 < 0 then some true else ((Zc1 K (a0.1, a0.2)).bind fun r7 => ((Zh9 K (r7.1, r7.2)).bind fun r9 => ((Zc1 K (a0.1, a0.2)).bind fun c9 => ((Ze1 K (c9.1, c9.2)).bind fun a4 => ((Zc4 K (a4.1.1, a4.1.2) (r9.1.1, r9.1.2)).bind fun k5 => (if k5 = true then ((Zf3 K a4.2.1 r9.2.1).bind fun j0 => (if j0 = true then L8 K a0 c9 a4 r9 (!decide (a4.2.2 = r9.2.2)) else L8 K a0 c9 a4 r9 true)) else L8 K a0 c9 a4 r9 true))))))))
theorem Ya7 {K : Nat} {a0 : ((List Int) × (List MpT))} {r : Bool} (q0 : Ze5 K a0 = some r) {H : FH} {w : World} {L : OL} {s0 : Value} {s1 : Value} (a6 : Y1 (Y6 .i64) H s0 a0.1) (a7 : Y1 (X6 yT) H s1 a0.2) (hM : ∀ b, H.memo b = none) (hL : ∀ b, b < H.lim → H b ≠ none) (hS : St H w L) :
 Calls Tryz.prog 12 #[vA ([s0] ++ [s1])] w (T2 (fun v G => R.bool.p G v r) H L) := by
 have Z2 := Sub.refl H
 refine X3 Tryz.func12 rfl Tryz.ntmps12 rfl ?_
 unfold Ze5 at q0
 refine Z3 (Z0 ?_)
 refine S4 (v := vA ([s0] ++ [s1])) ([s0] ++ [s1]).toArray rfl rfl hS rfl ?_
 intro b1 w2 hS
 refine Z5 (Value.bool false) rfl rfl (Z1 (Z3 (Z0 (Z5 (vI 1048576) rfl rfl (Z1 (Z3 (Z0 ?_)))))))
 refine W2 Xm1 rfl (hS.get mL) rfl rfl (Z4 (vI 1048576) rfl rfl ?_)
 obtain ⟨r4, x6, q0⟩ := bind_some q0
 refine Y9 Tryz.call15 (U7 rfl rfl) rfl (Yr0 x6 a6 a7 hS) ?_
 rintro e4 w5 ⟨_, H4, rfl, p2, hS, rfl⟩
 refine ⟨_, rfl, ?_⟩
 have Z2 := Z2.trans p2
 have a6 := a6.mono p2
 have a7 := a7.mono p2
 refine Z5 (vI r4) rfl rfl (Z1 (Z3 (Z3 (Z0 (Z4 (vI r4) rfl rfl ?_)))))
 refine V7 (k := .i64) (a := r4) (b := 0) rfl rfl rfl (Z1 ?_)
 by_cases n7 : r4 < 0
 rw [if_pos n7] at q0
 refine Y0 (bT n7 rfl) (Z3 (Z0 (Z5 (Value.bool true) rfl rfl (Z1 ?_))))
 refine X0 (vs := [Value.bool true]) Tryz.func12 ⟨rfl, trivial⟩ ?_
 have hz := Option.some.inj q0
 subst hz
 exact ⟨_, _, rfl, Z2, (St.dropA hS), rfl⟩
 rw [if_neg n7] at q0
 refine Z8 (bF n7 rfl) (Y7 (Z3 (Z0 ?_)))
 refine W2 Xm1 rfl (hS.get mL) rfl rfl ?_
 have y5 := Z2
 obtain ⟨r7, x7, q0⟩ := bind_some q0
 refine Y9 Tryz.call17 (R0 rfl) rfl (Zn4 x7 a6 a7 hS) ?_
 rintro e7 w8 ⟨va7, H7, rfl, p3, hS, x8⟩
 obtain ⟨u9, v0, rfl, k6, k7⟩ := id x8.old
 have k6 := Y1.old k6
 have k7 := Y1.old k7
 refine ⟨_, rfl, ?_⟩
 have Z2 := Z2.trans p3
 have a6 := a6.mono p3
 have a7 := a7.mono p3
 have hc7 := Sub.refl H7
 obtain ⟨r9, x9, q0⟩ := bind_some q0
 have hS := hS.noM
 have Z2 := Sub.nomT hM Z2
 have a6 : Y1 (Y6 .i64) H7.noM s0 a0.1 := a6
 have a7 : Y1 (X6 yT) H7.noM s1 a0.2 := a7
 have k6 : Y1 (Y6 .i64) H7.noM u9 r7.1 := k6
 have k7 : Y1 (X6 yT) H7.noM v0 r7.2 := k7
 have k6 : Y1 (Y6 .i64) H7.noM u9 r7.1 := k6
 have k7 : Y1 (X6 yT) H7.noM v0 r7.2 := k7
 refine Y9 Tryz.call70 (R0 rfl) rfl (Yk5 x9 k6 k7 (fun _ => rfl) hS) ?_
 rintro e9 w10 ⟨_, H9, rfl, p4, hS, ⟨z9, f6, a00, rfl, ⟨_, rfl, ⟨_, _, rfl, ⟨c3, rfl, a1⟩, ⟨c4, rfl, a3⟩⟩⟩, a5, rfl⟩⟩
 refine ⟨_, rfl, ?_⟩
 have Z2 := Z2.trans p4
 have a6 := a6.mono p4
 have a7 := a7.mono p4
 refine Z4 (Value.tuple #[vA ([c3] ++ [c4]), f6, vI r9.2.2]) rfl rfl (W9 (vA ([c3] ++ [c4])) rfl rfl rfl (W9 (f6) rfl rfl rfl (W9 (vI r9.2.2) rfl rfl rfl ?_)))
 refine V1 (z := vA ([vN] ++ [vN])) ([vN] ++ [vN]).toArray Zz0.zero rfl hS rfl ?_
 intro l3 w12 hS
 refine W0 (v := vA ([c3] ++ [c4])) (vs := ([c3] ++ [c4]).toArray) (cs := ([vN] ++ [vN]).toArray) Q9 rfl rfl rfl hS rfl (L9 (T8 a1.isOne) (T8 a3.isOne)) rfl ?_
 intro w14 hS
 refine Z5 (f6) rfl rfl (Z5 (vI r9.2.2) rfl rfl (Z1 (Z3 (Z0 ?_))))
 refine W2 Xm1 rfl (hS.get (mR mL)) rfl rfl ?_
 have n8 := Y1.noMI a6
 have n9 := Y1.noMF a7
 have j1 := Y1.noMI a1
 have j2 := Y1.noMF a3
 have l4 := Y1.noMF a5
 have sB := Wt8 H9
 have m4 := Z2
 have v3 := sB
 obtain ⟨c9, v4, q0⟩ := bind_some q0
 refine Y9 Tryz.call17 (R0 rfl) rfl (Zn4 v4 a6 a7 hS) ?_
 rintro e15 w16 ⟨a01, g6, rfl, i4, hS, l7⟩
 obtain ⟨g4, g5, rfl, c0, c1⟩ := id l7.old
 have c0 := Y1.old c0
 have c1 := Y1.old c1
 refine ⟨_, rfl, ?_⟩
 have Z2 := Z2.trans i4
 have a5 := a5.mono i4
 have a6 := a6.mono i4
 have a7 := a7.mono i4
 have a1 := a1.mono i4
 have a3 := a3.mono i4
 have sB := sB.trans i4
 have d3 := Sub.refl g6
 refine V1 (z := vA ([vN] ++ [vN])) ([vN] ++ [vN]).toArray Zz0.zero rfl hS rfl ?_
 intro m5 w18 hS
 refine W0 (v := vA ([g4] ++ [g5])) (vs := ([g4] ++ [g5]).toArray) (cs := ([vN] ++ [vN]).toArray) Q9 rfl rfl rfl hS rfl (L9 (T8 c0.isOne) (T8 c1.isOne)) rfl ?_
 intro w20 hS
 refine Z1 (Z3 (Z0 ?_))
 refine W2 Q9 rfl (hS.get mL) rfl rfl ?_
 have hS := hS.noM
 have Z2 := Sub.nomT hM Z2
 have a5 : Y1 (X6 yT) g6.noM f6 r9.2.1 := a5
 have c0 : Y1 (Y6 .i64) g6.noM g4 c9.1 := c0
 have c1 : Y1 (X6 yT) g6.noM g5 c9.2 := c1
 have a6 : Y1 (Y6 .i64) g6.noM s0 a0.1 := a6
 have a7 : Y1 (X6 yT) g6.noM s1 a0.2 := a7
 have a1 : Y1 (Y6 .i64) g6.noM c3 r9.1.1 := a1
 have a3 : Y1 (X6 yT) g6.noM c4 r9.1.2 := a3
 have sB := Sub.nomT (fun _ => rfl) sB
 have d3 := Sub.nomB d3
 have l7 := Zk3.nom l7
 have c0 : Y1 (Y6 .i64) g6.noM g4 c9.1 := c0
 have c1 : Y1 (X6 yT) g6.noM g5 c9.2 := c1
 have i5 := Z2
 have p5 := sB
 have h9 := d3
 obtain ⟨a4, v5, q0⟩ := bind_some q0
 refine Y9 Tryz.call71 (R0 rfl) rfl (Zx6 v5 c0 c1 (fun _ => rfl) hS) ?_
 rintro e21 w22 ⟨_, p6, rfl, g9, hS, a02, e2, _, rfl, ⟨n3, j3, t1, o0, h4⟩, rfl⟩
 have o1 := RdN.old o0
 have b3 : Sub (n3.new g6.noM) p6 := (Zy9 _ _).trans t1
 have b8 := Y1.mono b3 o1
 have o8 := h9
 have h9 := h9.trans j3
 obtain ⟨f7, f8, rfl, b4, b5⟩ := id h4.old
 have b4 := Y1.old b4
 have b5 := Y1.old b5
 refine ⟨_, rfl, ?_⟩
 have Z2 := Z2.trans g9
 have a5 := a5.mono g9
 have c0 := c0.mono g9
 have c1 := c1.mono g9
 have a6 := a6.mono g9
 have a7 := a7.mono g9
 have a1 := a1.mono g9
 have a3 := a3.mono g9
 have sB := sB.trans g9
 have d3 := d3.trans g9
 have b6 := Sub.refl p6
 refine Z4 (Value.tuple #[vA ([f7] ++ [f8]), e2, vI a4.2.2]) rfl rfl (W9 (vA ([f7] ++ [f8])) rfl rfl rfl (W9 (e2) rfl rfl rfl (W9 (vI a4.2.2) rfl rfl rfl ?_)))
 refine V1 (z := vA ([vN] ++ [vN])) ([vN] ++ [vN]).toArray Zz0.zero rfl hS rfl ?_
 intro k8 w24 hS
 refine W0 (v := vA ([f7] ++ [f8])) (vs := ([f7] ++ [f8]).toArray) (cs := ([vN] ++ [vN]).toArray) Q9 rfl rfl rfl hS rfl (L9 (T8 b4.isOne) (T8 b5.isOne)) rfl ?_
 intro w26 hS
 refine Z5 (e2) rfl rfl (Z5 (vI a4.2.2) rfl rfl (Z1 (Z3 (Z3 ?_))))
 refine B6 (fun f w => ∃ (g3 : Bool) (H1 : FH), L8 K a0 c9 a4 r9 g3 = some r ∧ Sub H H1 ∧ St H1 w ([(k8, cA ([f7] ++ [f8]) 29)] ++ ([(m5, cA ([g4] ++ [g5]) 29)] ++ ([(l3, cA ([c3] ++ [c4]) 29)] ++ ([(b1, cA ([s0] ++ [s1]) 25)] ++ L)))) ∧ Y1 (Y6 .i64) H1 g4 c9.1 ∧ Y1 (Y6 .i64) H1 f7 a4.1.1 ∧ Y1 (X6 yT) H1 g5 c9.2 ∧ Y1 (X6 yT) H1 f8 a4.1.2 ∧ Y1 (X6 yT) H1 e2 a4.2.1 ∧ Y1 (Y6 .i64) H1 s0 a0.1 ∧ Y1 (X6 yT) H1 s1 a0.2 ∧ Y1 (Y6 .i64) H1 c3 r9.1.1 ∧ Y1 (X6 yT) H1 c4 r9.1.2 ∧ Y1 (X6 yT) H1 f6 r9.2.1 ∧ ev f (.tmp 1) = vP b1 ∧ ev f (.tmp 4) = vP l3 ∧ ev f (.tmp 5) = f6 ∧ ev f (.tmp 6) = vI r9.2.2 ∧ ev f (.tmp 7) = vP m5 ∧ ev f (.tmp 8) = vP k8 ∧ ev f (.tmp 9) = e2 ∧ ev f (.tmp 10) = vI a4.2.2 ∧ ev f (.tmp 51) = Value.bool g3 ∧ Sub H9.noM H1 ∧ Sub g6.noM H1 ∧ Sub p6 H1 ∧ Sub (n3.new g6.noM) H1) ?_ ?_
 rintro fj1 y6 ⟨g3, y7, c5, Z2, hS, c0, b4, c1, b5, b8, a6, a7, a1, a3, a5, m6, p7, p8, p9, m7, q1, q2, o9, l5, sB, d3, b6, b3⟩
 unfold L8 at c5
 by_cases l9 : g3 = true
 rw [if_pos l9] at c5
 refine Y0 (Eq.trans (by exact l5) (congrArg Value.bool l9)) (Z3 (Z0 (Z5 (Value.bool false) rfl rfl (Z1 ?_))))
 refine X0 (vs := [Value.bool false]) Tryz.func12 ⟨rfl, trivial⟩ ?_
 have hz := Option.some.inj c5
 subst hz
 exact ⟨_, _, rfl, Z2, (St.dropA (St.dropA (St.dropA (St.dropA hS)))), rfl⟩
 rw [if_neg l9] at c5
 refine Z8 (Eq.trans (by exact l5) (congrArg Value.bool (W1 l9))) (Y7 (Z3 (Z3 ?_)))
 obtain ⟨n6, v6, c5⟩ := bind_some c5
 obtain ⟨k4, v7, c5⟩ := bind_some c5
 refine U6 5 (P9 [(52, MP.eq (vA ([g4] ++ [g5]))), (53, MP.eq (vA ([s0] ++ [s1]))), (54, MP.rep (R.agg (Zs6 (X6 (Y6 .i64)) (X6 (X6 yT)))) (n6)), (55, MP.eq (Value.bool k4)), (56, MP.eq (Value.bool (!k4)))]) [] mixed rfl rfl rfl hS (Z6 rfl ?_ (Z6 rfl ?_ (Z6 rfl ?_ (Z6 rfl ?_ (Z6 rfl ?_ U8))))) ?_
 intro f28 w29 H30 X31 a03 hS v8 a04 hcq
 refine W2 Q9 (evT (v8 7 rfl) m7) (hS.get (mR (mR mL))) rfl rfl ?_
 exact qn (.refl _) rfl hS rfl
 intro f37 w38 H39 X40 a05 hS v9 a06 hcq
 refine W2 Xm1 (evT (v9 1 rfl) m6) (hS.get (mR (mR (mR (mR mL))))) rfl rfl ?_
 exact qn (.refl _) rfl hS rfl
 intro f46 w47 H48 X49 q3 hS a07 w0 hcq
 have a6 := a6.mono q3
 have a7 := a7.mono q3
 refine Y9 Tryz.call17 (R0 (eM (w0 1 53 rfl rfl))) rfl (Zn4 v6 a6 a7 hS) ?_
 rintro e55 w56 ⟨y0, H55, rfl, w1, hS, n4⟩
 refine ⟨y0, rfl, ?_⟩
 have n4 := Zk3.rep n4
 exact qn w1 rfl hS n4
 intro f57 w58 H59 X60 q4 hS a08 q5 hcq
 have c0 := c0.mono q4
 have c1 := c1.mono q4
 obtain ⟨v67, y1, ⟨_, rfl, ⟨_, _, rfl, ⟨y8, rfl, q6⟩, ⟨y9, rfl, q7⟩⟩⟩⟩ := gvR (q5 2 54 rfl rfl)
 refine Y9 Tryz.call19 (U7 (eM (q5 0 52 rfl rfl)) y1) rfl (Zn2 v7 c0 c1 q6 q7 hS) ?_
 rintro e68 w69 ⟨_, H68, rfl, w3, hS, rfl⟩
 refine ⟨_, rfl, ?_⟩
 exact qn w3 rfl hS rfl
 intro f70 w71 H72 X73 a09 hS a10 w4 hcq
 refine M4 (b := k4) (eM (w4 3 55 rfl rfl)) rfl ?_
 exact qn (.refl _) rfl hS rfl
 intro y2 y3 y4 e8 hS h5 w6 hcq
 have hS : St y4 y3 ([(k8, cA ([f7] ++ [f8]) 29)] ++ ([(m5, cA ([g4] ++ [g5]) 29)] ++ ([(l3, cA ([c3] ++ [c4]) 29)] ++ ([(b1, cA ([s0] ++ [s1]) 25)] ++ L)))) := hS
 have Z2 := Z2.trans e8
 have a5 := a5.mono e8
 have b8 := b8.mono e8
 have b4 := b4.mono e8
 have b5 := b5.mono e8
 have a1 := a1.mono e8
 have a3 := a3.mono e8
 have a6 := a6.mono e8
 have a7 := a7.mono e8
 have sB := sB.trans e8
 have d3 := d3.trans e8
 have b6 := b6.trans e8
 have b3 := b3.trans e8
 have o2 := evT (h5 1 rfl) m6
 have m8 := evT (h5 4 rfl) p7
 have m9 := evT (h5 5 rfl) p8
 have n0 := evT (h5 6 rfl) p9
 have n1 := evT (h5 8 rfl) q1
 have n2 := evT (h5 9 rfl) q2
 have v1 : ev y2 (.tmp 56) = Value.bool (!k4) := w6 4 56 (by decide) rfl
 refine Z1 ?_
 by_cases m0 : k4 = true
 rw [if_pos m0] at c5
 refine Z8 (Eq.trans (by exact v1) (congrArg (fun b => Value.bool (!b)) m0)) (Y7 (Z3 (Z0 (Z5 (vI 1) rfl rfl (Z1 (Z3 (Z0 ?_)))))))
 refine W2 Q9 (by exact (evT (h5 7 rfl) m7)) (hS.get (mR mL)) rfl rfl (Z4 (vI 1) rfl rfl ?_)
 obtain ⟨w7, c5⟩ := gd c5
 refine Y9 Tryz.call20 (U7 rfl rfl) rfl (Xc3 l7 d3 w7 (Xo8 hL m4 Z2) hS) ?_
 rintro e96 w97 ⟨q8, rfl, hS, f9, g0, j4⟩
 refine ⟨_, rfl, ?_⟩
 have Z2 := j4 H Z2 hM (fun b h => .inl (Ym9 m4 b h))
 have h4 := Zk3.tr (h4.mono b6) (j4 _ (Zy9 _ _) (fun _ => rfl) (Xi5 h9))
 have b3 := j4 _ b3 (fun _ => rfl) (Xi5 o8)
 have b8 := Y1.mono b3 o1
 have sB := j4 _ sB (fun _ => rfl) (fun b h => .inl (Ym9 v3 b h))
 have b6 := Sub.refl q8
 have b4 := (Zk3.rd h4).1
 have b5 := (Zk3.rd h4).2
 have a6 := n8.mono sB
 have a7 := n9.mono sB
 have a1 := j1.mono sB
 have a3 := j2.mono sB
 have a5 := l4.mono sB
 refine Z5 (vI (1 + D3 c9)) rfl rfl (Z1 (Z3 (Z3 ?_)))
 refine B6 (fun f w => ∃ (g2 : Bool) (H1 : FH), P5 K a0 a4 r9 g2 = some r ∧ Sub H H1 ∧ St H1 w ([(k8, cA ([f7] ++ [f8]) 29)] ++ ([(m5, cA ([g4] ++ [g5]) 29)] ++ ([(l3, cA ([c3] ++ [c4]) 29)] ++ ([(b1, cA ([s0] ++ [s1]) 25)] ++ L)))) ∧ Y1 (Y6 .i64) H1 f7 a4.1.1 ∧ Y1 (X6 yT) H1 f8 a4.1.2 ∧ Y1 (X6 yT) H1 e2 a4.2.1 ∧ Y1 (Y6 .i64) H1 g4 ((mkA c9 1).1) ∧ Y1 (X6 yT) H1 g5 ((mkA c9 1).2) ∧ Y1 (Y6 .i64) H1 s0 a0.1 ∧ Y1 (X6 yT) H1 s1 a0.2 ∧ Y1 (Y6 .i64) H1 c3 r9.1.1 ∧ Y1 (X6 yT) H1 c4 r9.1.2 ∧ Y1 (X6 yT) H1 f6 r9.2.1 ∧ ev f (.tmp 1) = vP b1 ∧ ev f (.tmp 4) = vP l3 ∧ ev f (.tmp 5) = f6 ∧ ev f (.tmp 6) = vI r9.2.2 ∧ ev f (.tmp 8) = vP k8 ∧ ev f (.tmp 9) = e2 ∧ ev f (.tmp 78) = Value.bool g2 ∧ Sub H9.noM H1 ∧ Sub q8 H1 ∧ Sub (n3.new g6.noM) H1) ?_ ?_
 rintro fj2 z0 ⟨g2, z1, a8, Z2, hS, b4, b5, b8, f9, g0, a6, a7, a1, a3, a5, q9, r0, r1, r2, h6, h7, l6, sB, b6, b3⟩
 unfold P5 at a8
 by_cases m1 : g2 = true
 rw [if_pos m1] at a8
 refine Y0 (Eq.trans (by exact l6) (congrArg Value.bool m1)) (Z3 (Z0 (Z5 (Value.bool false) rfl rfl (Z1 ?_))))
 refine X0 (vs := [Value.bool false]) Tryz.func12 ⟨rfl, trivial⟩ ?_
 have hz := Option.some.inj a8
 subst hz
 exact ⟨_, _, rfl, Z2, (St.dropA (St.dropA (St.dropA (St.dropA hS)))), rfl⟩
 rw [if_neg m1] at a8
 refine Z8 (Eq.trans (by exact l6) (congrArg Value.bool (W1 m1))) (Y7 (Z3 (Z0 (Z5 (vI 1) rfl rfl (Z1 (Z3 (Z0 ?_)))))))
 refine W2 Q9 (by exact h6) (hS.get mL) rfl rfl (Z4 (vI 1) rfl rfl ?_)
 obtain ⟨w9, a8⟩ := gd a8
 obtain ⟨z2, t4, a11, t5, p0, k9, r3, r5, hS, l0⟩ := Wk1 o0 b3 (Xo8 hL i5 Z2) hS
 have h4 := Zk3.tr (h4.mono b6) (l0 _ (Zy9 _ _) (fun _ => rfl) Wb1)
 have b6 := Sub.refl t4
 have Z2 := l0 H Z2 hM (fun b h => .inl (Ym9 i5 b h))
 have sB := l0 _ sB (fun _ => rfl) (fun b h => .inl (Ym9 p5 b h))
 refine Y9 Tryz.call20 (U7 rfl rfl) rfl (Xc3 h4 b6 w9 (Xo8 hL (i5.trans j3) Z2) hS) ?_
 rintro a12 a13 ⟨a14, rfl, hS, a9, b0, l1⟩
 refine ⟨_, rfl, ?_⟩
 have Z2 := l1 H Z2 hM (fun b h => .inl (Ym9 (i5.trans j3) b h))
 have sB := l1 _ sB (fun _ => rfl) (fun b h => .inl (Ym9 (p5.trans j3) b h))
 have k9 := l1 _ k9 r3 (fun b h => .inl (r5 b h))
 have a6 := n8.mono sB
 have a7 := n9.mono sB
 have a1 := j1.mono sB
 have a3 := j2.mono sB
 have a5 := l4.mono sB
 refine Z5 (vI (1 + D3 a4.1)) rfl rfl (Z1 (Z3 (Z0 (Z4 (e2) (by exact h7) rfl (Z4 (vI (1 + D3 a4.1)) rfl rfl ?_)))))
 obtain ⟨o3, a8⟩ := gd a8
 refine Y9 Tryz.call38 (U7 rfl rfl) rfl (Ys9 (Y1.mono k9 p0) t5 o3.1 o3.2 hS) ?_
 rintro a15 a16 ⟨a17, rfl, g1, hS, b2⟩
 refine ⟨_, rfl, ?_⟩
 have Z2 := Z2.trans g1
 have a5 := a5.mono g1
 have a9 := a9.mono g1
 have b0 := b0.mono g1
 have a1 := a1.mono g1
 have a3 := a3.mono g1
 have a6 := a6.mono g1
 have a7 := a7.mono g1
 have sB := sB.trans g1
 refine Z5 (vI ((1 + D3 a4.1) + M5 a4.2.1)) rfl rfl (Z1 (Z3 (Z0 (Z5 (vI 1) rfl rfl (Z1 (Z3 (Z0 ?_)))))))
 refine W2 Q9 (by exact h6) (hS.get mL) rfl rfl (Z4 (vI 1) rfl rfl ?_)
 obtain ⟨h3, t6, a8⟩ := bind_some a8
 refine Y9 Tryz.call21 (U7 rfl rfl) rfl (Zy5 t6 a9 b0 hS) ?_
 rintro a18 a19 ⟨_, a20, rfl, f0, hS, rfl⟩
 refine ⟨_, rfl, ?_⟩
 have Z2 := Z2.trans f0
 have a5 := a5.mono f0
 have b2 := b2.mono f0
 have a9 := a9.mono f0
 have b0 := b0.mono f0
 have a1 := a1.mono f0
 have a3 := a3.mono f0
 have a6 := a6.mono f0
 have a7 := a7.mono f0
 have sB := sB.trans f0
 refine Z5 (vI h3) rfl rfl (Z1 (Z3 (Z3 (Z0 (Z4 (vI h3) rfl rfl ?_)))))
 refine V7 (k := .i64) (a := h3) (b := 0) rfl rfl rfl (Z1 ?_)
 by_cases j5 : h3 < 0
 rw [if_pos j5] at a8
 refine Y0 (bT j5 rfl) (Z3 (Z0 (Z5 (Value.bool false) rfl rfl (Z1 ?_))))
 refine X0 (vs := [Value.bool false]) Tryz.func12 ⟨rfl, trivial⟩ ?_
 have hz := Option.some.inj a8
 subst hz
 exact ⟨_, _, rfl, Z2, (St.dropA (St.dropA (St.dropA (St.dropA hS)))), rfl⟩
 rw [if_neg j5] at a8
 refine Z8 (bF j5 rfl) (Y7 (Z3 (Z0 (Z4 (e2) (by exact h7) rfl (Z4 (vI h3) rfl rfl ?_)))))
 obtain ⟨g8, t7, a8⟩ := bind_some a8
 refine Y9 Tryz.call72 (U7 rfl rfl) rfl (Zu0 t7 b2 hS) ?_
 rintro a21 a22 ⟨_, a23, rfl, f1, hS, rfl⟩
 refine ⟨_, rfl, ?_⟩
 have Z2 := Z2.trans f1
 have a5 := a5.mono f1
 have b2 := b2.mono f1
 have a9 := a9.mono f1
 have b0 := b0.mono f1
 have a1 := a1.mono f1
 have a3 := a3.mono f1
 have a6 := a6.mono f1
 have a7 := a7.mono f1
 have sB := sB.trans f1
 refine Z5 (vI g8) rfl rfl (Z1 (Z3 (Z3 (Z0 (Z4 (vI g8) rfl rfl ?_)))))
 refine V7 (k := .i64) (a := g8) (b := 0) rfl rfl rfl (Z1 ?_)
 by_cases j6 : g8 < 0
 rw [if_pos j6] at a8
 refine Y0 (bT j6 rfl) (Z3 (Z0 (Z5 (Value.bool false) rfl rfl (Z1 ?_))))
 refine X0 (vs := [Value.bool false]) Tryz.func12 ⟨rfl, trivial⟩ ?_
 have hz := Option.some.inj a8
 subst hz
 exact ⟨_, _, rfl, Z2, (St.dropA (St.dropA (St.dropA (St.dropA hS)))), rfl⟩
 rw [if_neg j6] at a8
 refine Z8 (bF j6 rfl) (Y7 (Z3 (Z3 (Z0 (Z4 (vI g8) rfl rfl (Z4 (vI ((1 + D3 a4.1) + M5 a4.2.1)) rfl rfl ?_))))))
 refine J2 (k := .i64) (a := g8) (b := ((1 + D3 a4.1) + M5 a4.2.1)) rfl rfl rfl (Z1 ?_)
 by_cases j7 : g8 = ((1 + D3 a4.1) + M5 a4.2.1)
 rw [if_pos j7] at a8
 refine Z8 (bN j7 rfl) (Y7 (Z3 (Z0 ?_)))
 refine W2 Xm1 (by exact q9) (hS.get (mR (mR (mR mL)))) rfl rfl ?_
 have x4 := Z2
 have z3 := sB
 obtain ⟨i3, t8, a8⟩ := bind_some a8
 refine Y9 Tryz.call17 (R0 rfl) rfl (Zn4 t8 a6 a7 hS) ?_
 rintro a24 a25 ⟨z4, d4, rfl, f2, hS, m2⟩
 obtain ⟨o4, o5, rfl, h0, h1⟩ := id m2.old
 have h0 := Y1.old h0
 have h1 := Y1.old h1
 refine ⟨_, rfl, ?_⟩
 have Z2 := Z2.trans f2
 have a5 := a5.mono f2
 have b2 := b2.mono f2
 have a6 := a6.mono f2
 have a7 := a7.mono f2
 have a9 := a9.mono f2
 have b0 := b0.mono f2
 have a1 := a1.mono f2
 have a3 := a3.mono f2
 have sB := sB.trans f2
 have b9 := Sub.refl d4
 have hS := hS.noM
 have Z2 := Sub.nomT hM Z2
 have a5 : Y1 (X6 yT) d4.noM f6 r9.2.1 := a5
 have b2 : Y1 (X6 yT) d4.noM e2 (Zv7 (1 + D3 a4.1) a4.2.1) := b2
 have a6 : Y1 (Y6 .i64) d4.noM s0 a0.1 := a6
 have a7 : Y1 (X6 yT) d4.noM s1 a0.2 := a7
 have h0 : Y1 (Y6 .i64) d4.noM o4 i3.1 := h0
 have h1 : Y1 (X6 yT) d4.noM o5 i3.2 := h1
 have a9 : Y1 (Y6 .i64) d4.noM f7 ((mkA a4.1 1).1) := a9
 have b0 : Y1 (X6 yT) d4.noM f8 ((mkA a4.1 1).2) := b0
 have a1 : Y1 (Y6 .i64) d4.noM c3 r9.1.1 := a1
 have a3 : Y1 (X6 yT) d4.noM c4 r9.1.2 := a3
 have sB := Sub.nomT (fun _ => rfl) sB
 have b9 := Sub.nomB b9
 have m2 := Zk3.nom m2
 have h0 : Y1 (Y6 .i64) d4.noM o4 i3.1 := h0
 have h1 : Y1 (X6 yT) d4.noM o5 i3.2 := h1
 have x5 := Z2
 have z5 := sB
 have h8 := b9
 obtain ⟨e3, t9, a8⟩ := bind_some a8
 refine Y9 Tryz.call71 (R0 rfl) rfl (Zx6 t9 h0 h1 (fun _ => rfl) hS) ?_
 rintro a26 a27 ⟨_, n5, rfl, e5, hS, z6, j8, _, rfl, ⟨o6, r6, r8, s2, u0⟩, rfl⟩
 have s3 := RdN.old s2
 have c6 : Sub (o6.new d4.noM) n5 := (Zy9 _ _).trans r8
 have m3 := Y1.mono c6 s3
 have v2 := h8
 have h8 := h8.trans r6
 obtain ⟨i0, i1, rfl, d5, d6⟩ := id u0.old
 have d5 := Y1.old d5
 have d6 := Y1.old d6
 refine ⟨_, rfl, ?_⟩
 have Z2 := Z2.trans e5
 have a5 := a5.mono e5
 have b2 := b2.mono e5
 have a6 := a6.mono e5
 have a7 := a7.mono e5
 have a9 := a9.mono e5
 have b0 := b0.mono e5
 have a1 := a1.mono e5
 have a3 := a3.mono e5
 have sB := sB.trans e5
 have b9 := b9.trans e5
 have d7 := Sub.refl n5
 refine Z4 (Value.tuple #[vA ([i0] ++ [i1]), j8, vI e3.2.2]) rfl rfl (W9 (vA ([i0] ++ [i1])) rfl rfl rfl (W9 (j8) rfl rfl rfl (W9 (vI e3.2.2) rfl rfl rfl ?_)))
 refine V1 (z := vA ([vN] ++ [vN])) ([vN] ++ [vN]).toArray Zz0.zero rfl hS rfl ?_
 intro x0 a28 hS
 refine W0 (v := vA ([i0] ++ [i1])) (vs := ([i0] ++ [i1]).toArray) (cs := ([vN] ++ [vN]).toArray) Q9 rfl rfl rfl hS rfl (L9 (T8 d5.isOne) (T8 d6.isOne)) rfl ?_
 intro a29 hS
 refine Z5 (j8) rfl rfl (Z5 (vI e3.2.2) rfl rfl (Z1 (Z3 (Z3 ?_))))
 refine B6 (fun f w => ∃ (e6 : Bool) (H1 : FH), L7 K a4 e6 = some r ∧ Sub H H1 ∧ St H1 w ([(x0, cA ([i0] ++ [i1]) 29)] ++ ([(k8, cA ([f7] ++ [f8]) 29)] ++ ([(m5, cA ([g4] ++ [g5]) 29)] ++ ([(l3, cA ([c3] ++ [c4]) 29)] ++ ([(b1, cA ([s0] ++ [s1]) 25)] ++ L))))) ∧ Y1 (Y6 .i64) H1 i0 e3.1.1 ∧ Y1 (X6 yT) H1 i1 e3.1.2 ∧ Y1 (X6 yT) H1 e2 (Zv7 (1 + D3 a4.1) a4.2.1) ∧ Y1 (Y6 .i64) H1 f7 ((mkA a4.1 1).1) ∧ Y1 (X6 yT) H1 f8 ((mkA a4.1 1).2) ∧ Y1 (Y6 .i64) H1 s0 a0.1 ∧ Y1 (X6 yT) H1 s1 a0.2 ∧ Y1 (Y6 .i64) H1 c3 r9.1.1 ∧ Y1 (X6 yT) H1 c4 r9.1.2 ∧ ev f (.tmp 8) = vP k8 ∧ ev f (.tmp 9) = e2 ∧ ev f (.tmp 12) = vI ((1 + D3 a4.1) + M5 a4.2.1) ∧ ev f (.tmp 119) = Value.bool e6 ∧ Sub H9.noM H1 ∧ Sub d4.noM H1 ∧ Sub n5 H1 ∧ Sub (o6.new d4.noM) H1) ?_ ?_
 rintro fj3 z7 ⟨e6, z8, b7, Z2, hS, d5, d6, b2, a9, b0, a6, a7, a1, a3, s4, s5, p1, l2, sB, b9, d7, c6⟩
 unfold L7 at b7
 by_cases j9 : e6 = true
 rw [if_pos j9] at b7
 refine Y0 (Eq.trans (by exact l2) (congrArg Value.bool j9)) (Z3 (Z0 (Z5 (Value.bool false) rfl rfl (Z1 ?_))))
 refine X0 (vs := [Value.bool false]) Tryz.func12 ⟨rfl, trivial⟩ ?_
 have hz := Option.some.inj b7
 subst hz
 exact ⟨_, _, rfl, Z2, (St.dropA (St.dropA (St.dropA (St.dropA (St.dropA hS))))), rfl⟩
 rw [if_neg j9] at b7
 refine Z8 (Eq.trans (by exact l2) (congrArg Value.bool (W1 j9))) (Y7 (Z3 (Z0 (Z5 (vI 1) rfl rfl (Z1 (Z3 (Z0 ?_)))))))
 refine W2 Q9 (by exact s4) (hS.get (mR mL)) rfl rfl (Z4 (vI 1) rfl rfl ?_)
 obtain ⟨h2, u1, b7⟩ := bind_some b7
 refine Y9 Tryz.call21 (U7 rfl rfl) rfl (Zy5 u1 a9 b0 hS) ?_
 rintro a30 a31 ⟨_, a32, rfl, i2, hS, rfl⟩
 refine ⟨_, rfl, ?_⟩
 have Z2 := Z2.trans i2
 have b2 := b2.mono i2
 have sB := sB.trans i2
 have b9 := b9.trans i2
 have d7 := d7.trans i2
 have c6 := c6.trans i2
 refine Z5 (vI h2) rfl rfl (Z1 (Z3 (Z3 (Z0 (Z4 (vI h2) rfl rfl ?_)))))
 refine V7 (k := .i64) (a := h2) (b := 0) rfl rfl rfl (Z1 ?_)
 by_cases k0 : h2 < 0
 rw [if_pos k0] at b7
 refine Y0 (bT k0 rfl) (Z3 (Z0 (Z5 (Value.bool false) rfl rfl (Z1 ?_))))
 refine X0 (vs := [Value.bool false]) Tryz.func12 ⟨rfl, trivial⟩ ?_
 have hz := Option.some.inj b7
 subst hz
 exact ⟨_, _, rfl, Z2, (St.dropA (St.dropA (St.dropA (St.dropA (St.dropA hS))))), rfl⟩
 rw [if_neg k0] at b7
 refine Z8 (bF k0 rfl) (Y7 (Z3 (Z0 (Z4 (e2) (by exact s5) rfl (Z4 (vI h2) rfl rfl ?_)))))
 obtain ⟨g7, u2, b7⟩ := bind_some b7
 refine Y9 Tryz.call72 (U7 rfl rfl) rfl (Zu0 u2 b2 hS) ?_
 rintro a33 a34 ⟨_, a35, rfl, i6, hS, rfl⟩
 refine ⟨_, rfl, ?_⟩
 have Z2 := Z2.trans i6
 have sB := sB.trans i6
 have b9 := b9.trans i6
 have d7 := d7.trans i6
 have c6 := c6.trans i6
 refine Z5 (vI g7) rfl rfl (Z1 (Z3 (Z3 (Z0 (Z4 (vI g7) rfl rfl ?_)))))
 refine V7 (k := .i64) (a := g7) (b := 0) rfl rfl rfl (Z1 ?_)
 by_cases k1 : g7 < 0
 rw [if_pos k1] at b7
 refine Y0 (bT k1 rfl) (Z3 (Z0 (Z5 (Value.bool false) rfl rfl (Z1 ?_))))
 refine X0 (vs := [Value.bool false]) Tryz.func12 ⟨rfl, trivial⟩ ?_
 have hz := Option.some.inj b7
 subst hz
 exact ⟨_, _, rfl, Z2, (St.dropA (St.dropA (St.dropA (St.dropA (St.dropA hS))))), rfl⟩
 rw [if_neg k1] at b7
 refine Z8 (bF k1 rfl) (Y7 (Z3 (Z3 (Z0 (Z4 (vI g7) rfl rfl (Z4 (vI ((1 + D3 a4.1) + M5 a4.2.1)) (by exact p1) rfl ?_))))))
 refine J2 (k := .i64) (a := g7) (b := ((1 + D3 a4.1) + M5 a4.2.1)) rfl rfl rfl (Z1 ?_)
 by_cases k2 : g7 = ((1 + D3 a4.1) + M5 a4.2.1)
 rw [if_pos k2] at b7
 refine Z8 (bN k2 rfl) (Y7 (Z3 (Z0 (Z5 (Value.bool true) rfl rfl (Z1 ?_)))))
 refine X0 (vs := [Value.bool true]) Tryz.func12 ⟨rfl, trivial⟩ ?_
 have hz := Option.some.inj b7
 subst hz
 exact ⟨_, _, rfl, Z2, (St.dropA (St.dropA (St.dropA (St.dropA (St.dropA hS))))), rfl⟩
 rw [if_neg k2] at b7
 refine Y0 (bO k2 rfl) (Z3 (Z0 (Z5 (Value.bool false) rfl rfl (Z1 ?_))))
 refine X0 (vs := [Value.bool false]) Tryz.func12 ⟨rfl, trivial⟩ ?_
 have hz := Option.some.inj b7
 subst hz
 exact ⟨_, _, rfl, Z2, (St.dropA (St.dropA (St.dropA (St.dropA (St.dropA hS))))), rfl⟩
 intro s6
 refine Z0 ?_
 refine W2 Q9 rfl (hS.get mL) rfl rfl ?_
 refine W2 Q9 (by exact r0) (hS.get (mR (mR (mR mL)))) rfl rfl ?_
 obtain ⟨k3, u3, a8⟩ := bind_some a8
 refine Y9 Tryz.call19 (U7 rfl rfl) rfl (Zn2 u3 d5 d6 a1 a3 hS) ?_
 rintro a36 a37 ⟨_, x1, rfl, c2, hS, rfl⟩
 refine ⟨_, rfl, ?_⟩
 have Z2 := Z2.trans c2
 have a5 := a5.mono c2
 have b2 := b2.mono c2
 have m3 := m3.mono c2
 have d5 := d5.mono c2
 have d6 := d6.mono c2
 have a1 := a1.mono c2
 have a3 := a3.mono c2
 have a9 := a9.mono c2
 have b0 := b0.mono c2
 have a6 := a6.mono c2
 have a7 := a7.mono c2
 have sB := sB.trans c2
 have b9 := b9.trans c2
 have d7 := d7.trans c2
 have c6 := c6.trans c2
 refine M4 (b := k3) rfl rfl (Z4 (Value.bool (!k3)) rfl rfl ?_)
 by_cases d8 : k3 = true
 rw [if_pos d8] at a8
 refine Y2 rfl rfl (Eq.trans rfl (congrArg (fun b => Value.bool (!b)) d8)) (Z4 (j8) rfl rfl ?_)
 refine Y2 rfl rfl (Eq.trans rfl (congrArg (fun b => Value.bool (!b)) d8)) (Z4 (f6) (by exact r1) rfl ?_)
 obtain ⟨i7, u4, a8⟩ := bind_some a8
 refine Y2 rfl rfl (Eq.trans rfl (congrArg (fun b => Value.bool (!b)) d8)) ?_
 refine Y9 Tryz.call37 (U7 rfl rfl) rfl (Zq2 u4 m3 a5 hS) ?_
 rintro a38 a39 ⟨_, s7, rfl, d0, hS, rfl⟩
 refine ⟨_, rfl, ?_⟩
 have Z2 := Z2.trans d0
 have b2 := b2.mono d0
 have d5 := d5.mono d0
 have d6 := d6.mono d0
 have a1 := a1.mono d0
 have a3 := a3.mono d0
 have a9 := a9.mono d0
 have b0 := b0.mono d0
 have a6 := a6.mono d0
 have a7 := a7.mono d0
 have sB := sB.trans d0
 have b9 := b9.trans d0
 have d7 := d7.trans d0
 have c6 := c6.trans d0
 refine Y2 rfl rfl (Eq.trans rfl (congrArg (fun b => Value.bool (!b)) d8)) (M4 (b := i7) rfl rfl ?_)
 refine V2 (t := false) (Value.bool (!i7)) (Eq.trans rfl (congrArg (fun b => Value.bool (!b)) d8)) ((if_neg Bool.false_ne_true).trans rfl) rfl (Z4 (Value.bool (!i7)) rfl rfl ?_)
 by_cases f3 : i7 = true
 rw [if_pos f3] at a8
 refine Y2 rfl rfl (Eq.trans rfl (congrArg (fun b => Value.bool (!b)) f3)) (Z4 (vI e3.2.2) rfl rfl ?_)
 refine Y2 rfl rfl (Eq.trans rfl (congrArg (fun b => Value.bool (!b)) f3)) (Z4 (vI r9.2.2) (by exact r2) rfl ?_)
 refine Y2 rfl rfl (Eq.trans rfl (congrArg (fun b => Value.bool (!b)) f3)) ?_
 refine J2 (k := .i64) (a := e3.2.2) (b := r9.2.2) rfl rfl rfl ?_
 refine V2 (t := false) (Value.bool (!decide (e3.2.2 = r9.2.2))) (Eq.trans rfl (congrArg (fun b => Value.bool (!b)) f3)) ((if_neg Bool.false_ne_true).trans rfl) rfl (Z1 ?_)
 exact s6 _ _ ⟨(!decide (e3.2.2 = r9.2.2)), s7, a8, Z2, hS, d5, d6, b2, a9, b0, a6, a7, a1, a3, h6, h7, rfl, rfl, sB, b9, d7, c6⟩
 rw [if_neg f3] at a8
 refine Z9 rfl rfl (Eq.trans rfl (congrArg (fun b => Value.bool (!b)) (W1 f3))) rfl rfl rfl (Z9 rfl rfl (Eq.trans rfl (congrArg (fun b => Value.bool (!b)) (W1 f3))) rfl rfl rfl (Z9 rfl rfl (Eq.trans rfl (congrArg (fun b => Value.bool (!b)) (W1 f3))) rfl rfl rfl ?_))
 refine V2 (t := true) (Value.bool true) (Eq.trans rfl (congrArg (fun b => Value.bool (!b)) (W1 f3))) ((if_pos rfl).trans rfl) rfl (Z1 ?_)
 exact s6 _ _ ⟨true, s7, a8, Z2, hS, d5, d6, b2, a9, b0, a6, a7, a1, a3, h6, h7, rfl, rfl, sB, b9, d7, c6⟩
 rw [if_neg d8] at a8
 refine Z9 rfl rfl (Eq.trans rfl (congrArg (fun b => Value.bool (!b)) (W1 d8))) rfl rfl rfl (Z9 rfl rfl (Eq.trans rfl (congrArg (fun b => Value.bool (!b)) (W1 d8))) rfl rfl rfl (Z9 rfl rfl (Eq.trans rfl (congrArg (fun b => Value.bool (!b)) (W1 d8))) rfl rfl rfl (Z9 rfl rfl (Eq.trans rfl (congrArg (fun b => Value.bool (!b)) (W1 d8))) rfl rfl rfl ?_)))
 refine V2 (t := true) (Value.bool true) (Eq.trans rfl (congrArg (fun b => Value.bool (!b)) (W1 d8))) ((if_pos rfl).trans rfl) rfl (Z4 (Value.bool true) rfl rfl (Z9 rfl rfl rfl rfl rfl rfl (Z9 rfl rfl rfl rfl rfl rfl (Z9 rfl rfl rfl rfl rfl rfl ?_))))
 refine V2 (t := true) (Value.bool true) rfl ((if_pos rfl).trans rfl) rfl (Z1 ?_)
 exact s6 _ _ ⟨true, x1, a8, Z2, hS, d5, d6, b2, a9, b0, a6, a7, a1, a3, h6, h7, rfl, rfl, sB, b9, d7, c6⟩
 rw [if_neg j7] at a8
 refine Y0 (bO j7 rfl) (Z3 (Z0 (Z5 (Value.bool false) rfl rfl (Z1 ?_))))
 refine X0 (vs := [Value.bool false]) Tryz.func12 ⟨rfl, trivial⟩ ?_
 have hz := Option.some.inj a8
 subst hz
 exact ⟨_, _, rfl, Z2, (St.dropA (St.dropA (St.dropA (St.dropA hS)))), rfl⟩
 intro o7
 refine Z0 (Z4 (vI (1 + D3 c9)) rfl rfl ?_)
 refine V7 (k := .i64) (a := (1 + D3 c9)) (b := 0) rfl rfl rfl (Z4 (Value.bool (decide ((1 + D3 c9) < 0))) rfl rfl ?_)
 by_cases d9 : (1 + D3 c9) < 0
 rw [if_pos d9] at c5
 refine Z9 rfl rfl (bT d9 rfl) rfl rfl rfl (Z9 rfl rfl (bT d9 rfl) rfl rfl rfl (Z9 rfl rfl (bT d9 rfl) rfl rfl rfl (Z9 rfl rfl (bT d9 rfl) rfl rfl rfl ?_)))
 refine V2 (t := true) (Value.bool true) (bT d9 rfl) ((if_pos rfl).trans rfl) rfl (Z4 (Value.bool true) rfl rfl (Z9 rfl rfl rfl rfl rfl rfl (Z9 rfl rfl rfl rfl rfl rfl (Z9 rfl rfl rfl rfl rfl rfl (Z9 rfl rfl rfl rfl rfl rfl ?_)))))
 refine V2 (t := true) (Value.bool true) rfl ((if_pos rfl).trans rfl) rfl (Z4 (Value.bool true) rfl rfl (Z9 rfl rfl rfl rfl rfl rfl (Z9 rfl rfl rfl rfl rfl rfl (Z9 rfl rfl rfl rfl rfl rfl ?_))))
 refine V2 (t := true) (Value.bool true) rfl ((if_pos rfl).trans rfl) rfl (Z1 ?_)
 exact o7 _ _ ⟨true, q8, c5, Z2, hS, b4, b5, b8, f9, g0, a6, a7, a1, a3, a5, o2, m8, m9, n0, n1, n2, rfl, sB, b6, b3⟩
 rw [if_neg d9] at c5
 refine Y2 rfl rfl (bF d9 rfl) ?_
 refine W2 Q9 (by exact n1) (hS.get mL) rfl rfl ?_
 refine Y2 rfl rfl (bF d9 rfl) ?_
 refine W2 Q9 (by exact m8) (hS.get (mR (mR mL))) rfl rfl ?_
 obtain ⟨i8, u5, c5⟩ := bind_some c5
 refine Y2 rfl rfl (bF d9 rfl) ?_
 refine Y9 Tryz.call19 (U7 rfl rfl) rfl (Zn2 u5 b4 b5 a1 a3 hS) ?_
 rintro a40 a41 ⟨_, x2, rfl, d1, hS, rfl⟩
 refine ⟨_, rfl, ?_⟩
 have Z2 := Z2.trans d1
 have a5 := a5.mono d1
 have b8 := b8.mono d1
 have b4 := b4.mono d1
 have b5 := b5.mono d1
 have a1 := a1.mono d1
 have a3 := a3.mono d1
 have f9 := f9.mono d1
 have g0 := g0.mono d1
 have a6 := a6.mono d1
 have a7 := a7.mono d1
 have sB := sB.trans d1
 have b6 := b6.trans d1
 have b3 := b3.trans d1
 refine Y2 rfl rfl (bF d9 rfl) (M4 (b := i8) rfl rfl ?_)
 refine V2 (t := false) (Value.bool (!i8)) (bF d9 rfl) ((if_neg Bool.false_ne_true).trans rfl) rfl (Z4 (Value.bool (!i8)) rfl rfl ?_)
 by_cases e0 : i8 = true
 rw [if_pos e0] at c5
 refine Y2 rfl rfl (Eq.trans rfl (congrArg (fun b => Value.bool (!b)) e0)) (Z4 (e2) (by exact n2) rfl ?_)
 refine Y2 rfl rfl (Eq.trans rfl (congrArg (fun b => Value.bool (!b)) e0)) (Z4 (f6) (by exact m9) rfl ?_)
 obtain ⟨i9, u6, c5⟩ := bind_some c5
 refine Y2 rfl rfl (Eq.trans rfl (congrArg (fun b => Value.bool (!b)) e0)) ?_
 refine Y9 Tryz.call37 (U7 rfl rfl) rfl (Zq2 u6 b8 a5 hS) ?_
 rintro a42 a43 ⟨_, s8, rfl, d2, hS, rfl⟩
 refine ⟨_, rfl, ?_⟩
 have Z2 := Z2.trans d2
 have a5 := a5.mono d2
 have b8 := b8.mono d2
 have b4 := b4.mono d2
 have b5 := b5.mono d2
 have a1 := a1.mono d2
 have a3 := a3.mono d2
 have f9 := f9.mono d2
 have g0 := g0.mono d2
 have a6 := a6.mono d2
 have a7 := a7.mono d2
 have sB := sB.trans d2
 have b6 := b6.trans d2
 have b3 := b3.trans d2
 refine Y2 rfl rfl (Eq.trans rfl (congrArg (fun b => Value.bool (!b)) e0)) (M4 (b := i9) rfl rfl ?_)
 refine V2 (t := false) (Value.bool (!i9)) (Eq.trans rfl (congrArg (fun b => Value.bool (!b)) e0)) ((if_neg Bool.false_ne_true).trans rfl) rfl (Z4 (Value.bool (!i9)) rfl rfl ?_)
 by_cases f4 : i9 = true
 rw [if_pos f4] at c5
 refine Y2 rfl rfl (Eq.trans rfl (congrArg (fun b => Value.bool (!b)) f4)) (Z4 (vI a4.2.2) (by exact (evT (h5 10 rfl) o9)) rfl ?_)
 refine Y2 rfl rfl (Eq.trans rfl (congrArg (fun b => Value.bool (!b)) f4)) (Z4 (vI r9.2.2) (by exact n0) rfl ?_)
 refine Y2 rfl rfl (Eq.trans rfl (congrArg (fun b => Value.bool (!b)) f4)) ?_
 refine J2 (k := .i64) (a := a4.2.2) (b := r9.2.2) rfl rfl rfl ?_
 refine V2 (t := false) (Value.bool (!decide (a4.2.2 = r9.2.2))) (Eq.trans rfl (congrArg (fun b => Value.bool (!b)) f4)) ((if_neg Bool.false_ne_true).trans rfl) rfl (Z1 ?_)
 exact o7 _ _ ⟨(!decide (a4.2.2 = r9.2.2)), s8, c5, Z2, hS, b4, b5, b8, f9, g0, a6, a7, a1, a3, a5, o2, m8, m9, n0, n1, n2, rfl, sB, b6, b3⟩
 rw [if_neg f4] at c5
 refine Z9 rfl rfl (Eq.trans rfl (congrArg (fun b => Value.bool (!b)) (W1 f4))) rfl rfl rfl (Z9 rfl rfl (Eq.trans rfl (congrArg (fun b => Value.bool (!b)) (W1 f4))) rfl rfl rfl (Z9 rfl rfl (Eq.trans rfl (congrArg (fun b => Value.bool (!b)) (W1 f4))) rfl rfl rfl ?_))
 refine V2 (t := true) (Value.bool true) (Eq.trans rfl (congrArg (fun b => Value.bool (!b)) (W1 f4))) ((if_pos rfl).trans rfl) rfl (Z1 ?_)
 exact o7 _ _ ⟨true, s8, c5, Z2, hS, b4, b5, b8, f9, g0, a6, a7, a1, a3, a5, o2, m8, m9, n0, n1, n2, rfl, sB, b6, b3⟩
 rw [if_neg e0] at c5
 refine Z9 rfl rfl (Eq.trans rfl (congrArg (fun b => Value.bool (!b)) (W1 e0))) rfl rfl rfl (Z9 rfl rfl (Eq.trans rfl (congrArg (fun b => Value.bool (!b)) (W1 e0))) rfl rfl rfl (Z9 rfl rfl (Eq.trans rfl (congrArg (fun b => Value.bool (!b)) (W1 e0))) rfl rfl rfl (Z9 rfl rfl (Eq.trans rfl (congrArg (fun b => Value.bool (!b)) (W1 e0))) rfl rfl rfl ?_)))
 refine V2 (t := true) (Value.bool true) (Eq.trans rfl (congrArg (fun b => Value.bool (!b)) (W1 e0))) ((if_pos rfl).trans rfl) rfl (Z4 (Value.bool true) rfl rfl (Z9 rfl rfl rfl rfl rfl rfl (Z9 rfl rfl rfl rfl rfl rfl (Z9 rfl rfl rfl rfl rfl rfl ?_))))
 refine V2 (t := true) (Value.bool true) rfl ((if_pos rfl).trans rfl) rfl (Z1 ?_)
 exact o7 _ _ ⟨true, x2, c5, Z2, hS, b4, b5, b8, f9, g0, a6, a7, a1, a3, a5, o2, m8, m9, n0, n1, n2, rfl, sB, b6, b3⟩
 rw [if_neg m0] at c5
 refine Y0 (Eq.trans (by exact v1) (congrArg (fun b => Value.bool (!b)) (W1 m0))) (Z3 (Z0 (Z5 (Value.bool false) rfl rfl (Z1 ?_))))
 refine X0 (vs := [Value.bool false]) Tryz.func12 ⟨rfl, trivial⟩ ?_
 have hz := Option.some.inj c5
 subst hz
 exact ⟨_, _, rfl, Z2, (St.dropA (St.dropA (St.dropA (St.dropA hS)))), rfl⟩
 intro s9
 refine Z0 ?_
 refine W2 Q9 rfl (hS.get mL) rfl rfl ?_
 refine W2 Q9 rfl (hS.get (mR (mR mL))) rfl rfl ?_
 obtain ⟨k5, u7, q0⟩ := bind_some q0
 refine Y9 Tryz.call19 (U7 rfl rfl) rfl (Zn2 u7 b4 b5 a1 a3 hS) ?_
 rintro a44 a45 ⟨_, x3, rfl, c7, hS, rfl⟩
 refine ⟨_, rfl, ?_⟩
 have Z2 := Z2.trans c7
 have a5 := a5.mono c7
 have b8 := b8.mono c7
 have b4 := b4.mono c7
 have b5 := b5.mono c7
 have a1 := a1.mono c7
 have a3 := a3.mono c7
 have a6 := a6.mono c7
 have a7 := a7.mono c7
 have c0 := c0.mono c7
 have c1 := c1.mono c7
 have sB := sB.trans c7
 have d3 := d3.trans c7
 have b6 := b6.trans c7
 have b3 := b3.trans c7
 refine M4 (b := k5) rfl rfl (Z4 (Value.bool (!k5)) rfl rfl ?_)
 by_cases e1 : k5 = true
 rw [if_pos e1] at q0
 refine Y2 rfl rfl (Eq.trans rfl (congrArg (fun b => Value.bool (!b)) e1)) (Z4 (e2) rfl rfl ?_)
 refine Y2 rfl rfl (Eq.trans rfl (congrArg (fun b => Value.bool (!b)) e1)) (Z4 (f6) rfl rfl ?_)
 obtain ⟨j0, u8, q0⟩ := bind_some q0
 refine Y2 rfl rfl (Eq.trans rfl (congrArg (fun b => Value.bool (!b)) e1)) ?_
 refine Y9 Tryz.call37 (U7 rfl rfl) rfl (Zq2 u8 b8 a5 hS) ?_
 rintro a46 a47 ⟨_, t0, rfl, c8, hS, rfl⟩
 refine ⟨_, rfl, ?_⟩
 have Z2 := Z2.trans c8
 have a5 := a5.mono c8
 have b8 := b8.mono c8
 have b4 := b4.mono c8
 have b5 := b5.mono c8
 have a1 := a1.mono c8
 have a3 := a3.mono c8
 have a6 := a6.mono c8
 have a7 := a7.mono c8
 have c0 := c0.mono c8
 have c1 := c1.mono c8
 have sB := sB.trans c8
 have d3 := d3.trans c8
 have b6 := b6.trans c8
 have b3 := b3.trans c8
 refine Y2 rfl rfl (Eq.trans rfl (congrArg (fun b => Value.bool (!b)) e1)) (M4 (b := j0) rfl rfl ?_)
 refine V2 (t := false) (Value.bool (!j0)) (Eq.trans rfl (congrArg (fun b => Value.bool (!b)) e1)) ((if_neg Bool.false_ne_true).trans rfl) rfl (Z4 (Value.bool (!j0)) rfl rfl ?_)
 by_cases f5 : j0 = true
 rw [if_pos f5] at q0
 refine Y2 rfl rfl (Eq.trans rfl (congrArg (fun b => Value.bool (!b)) f5)) (Z4 (vI a4.2.2) rfl rfl ?_)
 refine Y2 rfl rfl (Eq.trans rfl (congrArg (fun b => Value.bool (!b)) f5)) (Z4 (vI r9.2.2) rfl rfl ?_)
 refine Y2 rfl rfl (Eq.trans rfl (congrArg (fun b => Value.bool (!b)) f5)) ?_
 refine J2 (k := .i64) (a := a4.2.2) (b := r9.2.2) rfl rfl rfl ?_
 refine V2 (t := false) (Value.bool (!decide (a4.2.2 = r9.2.2))) (Eq.trans rfl (congrArg (fun b => Value.bool (!b)) f5)) ((if_neg Bool.false_ne_true).trans rfl) rfl (Z1 ?_)
 exact s9 _ _ ⟨(!decide (a4.2.2 = r9.2.2)), t0, q0, Z2, hS, c0, b4, c1, b5, b8, a6, a7, a1, a3, a5, rfl, rfl, rfl, rfl, rfl, rfl, rfl, rfl, rfl, sB, d3, b6, b3⟩
 rw [if_neg f5] at q0
 refine Z9 rfl rfl (Eq.trans rfl (congrArg (fun b => Value.bool (!b)) (W1 f5))) rfl rfl rfl (Z9 rfl rfl (Eq.trans rfl (congrArg (fun b => Value.bool (!b)) (W1 f5))) rfl rfl rfl (Z9 rfl rfl (Eq.trans rfl (congrArg (fun b => Value.bool (!b)) (W1 f5))) rfl rfl rfl ?_))
 refine V2 (t := true) (Value.bool true) (Eq.trans rfl (congrArg (fun b => Value.bool (!b)) (W1 f5))) ((if_pos rfl).trans rfl) rfl (Z1 ?_)
 exact s9 _ _ ⟨true, t0, q0, Z2, hS, c0, b4, c1, b5, b8, a6, a7, a1, a3, a5, rfl, rfl, rfl, rfl, rfl, rfl, rfl, rfl, rfl, sB, d3, b6, b3⟩
 rw [if_neg e1] at q0
 refine Z9 rfl rfl (Eq.trans rfl (congrArg (fun b => Value.bool (!b)) (W1 e1))) rfl rfl rfl (Z9 rfl rfl (Eq.trans rfl (congrArg (fun b => Value.bool (!b)) (W1 e1))) rfl rfl rfl (Z9 rfl rfl (Eq.trans rfl (congrArg (fun b => Value.bool (!b)) (W1 e1))) rfl rfl rfl (Z9 rfl rfl (Eq.trans rfl (congrArg (fun b => Value.bool (!b)) (W1 e1))) rfl rfl rfl ?_)))
 refine V2 (t := true) (Value.bool true) (Eq.trans rfl (congrArg (fun b => Value.bool (!b)) (W1 e1))) ((if_pos rfl).trans rfl) rfl (Z4 (Value.bool true) rfl rfl (Z9 rfl rfl rfl rfl rfl rfl (Z9 rfl rfl rfl rfl rfl rfl (Z9 rfl rfl rfl rfl rfl rfl ?_))))
 refine V2 (t := true) (Value.bool true) rfl ((if_pos rfl).trans rfl) rfl (Z1 ?_)
 exact s9 _ _ ⟨true, x3, q0, Z2, hS, c0, b4, c1, b5, b8, a6, a7, a1, a3, a5, rfl, rfl, rfl, rfl, rfl, rfl, rfl, rfl, rfl, sB, d3, b6, b3⟩
end Go.Proofs.YtfodlhkoafhplaaGreat
