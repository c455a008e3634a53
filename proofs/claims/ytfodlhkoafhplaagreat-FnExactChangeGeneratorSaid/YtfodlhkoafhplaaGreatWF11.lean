/- Walks of functions: each computes its pure function, if that gives a value. -/
import Derived.Test.YtfodlhkoafhplaaGreatWTy
import Derived.Test.YtfodlhkoafhplaaGreatWF5
import Derived.Test.YtfodlhkoafhplaaGreatWF8
import Derived.Test.YtfodlhkoafhplaaGreatWF9
import Derived.Test.YtfodlhkoafhplaaGreatWF1
import Derived.Test.YtfodlhkoafhplaaGreatWF4
import Derived.Test.YtfodlhkoafhplaaGreatWF10
import Derived.Test.YtfodlhkoafhplaaGreatWF3
namespace Go.Proofs.YtfodlhkoafhplaaGreat
open Go
set_option linter.unusedSimpArgs false
set_option linter.unusedVariables false
set_option maxRecDepth 100000
set_option maxHeartbeats 8000000
def Zh3 (K : Nat) (z7 : Int → A8 → A8 → Option (Ex MpT (A8 × A8))) (a4 : Int) (a8 : Int) (b0 : A8) (b8 : A8) : Option (Ex MpT (A8 × A8)) := (if a8 ≤ a4 then z7 (a8 + 1) b8 (T8 b0 a8 0) else z7 (a8 + 1) b8 b0)
def Zh4 (K : Nat) (lk1 : Int → MpT → Option (Ex MpT (MpT))) (a0 : ((List Int) × (List MpT))) (a1 : MpT) (a3 : Int) (a4 : Int) (a9 : MpT) (a7 : A8) (b2 : A8) (c6 : Int) : Option (Ex MpT (MpT)) := ((L3 K (T8 a7 a4 (IntKind.u8.wrap ((Y5 ((rd a1 a3).1) a4) - 1))) 1).bind fun m5 => (if a4 < (a0.2.length : Int) then ((F2 K a0.1 m5 (rd a0.2 a4)).bind fun m6 => ((L3 K b2 1).bind fun m7 => ((F2 K a0.1 m6 m7).bind fun m8 => ((Za9 K c6).bind fun m9 => ((Zb0 K a9 m8 m9).bind fun l0 => lk1 (a4 + 1) l0))))) else none))
def G7 (K : Nat) (a4 : Int) : Nat → Int → A8 → A8 → Option (Ex MpT (A8 × A8))
 | 0, _, _, _ => none
 | k + 1, a8, b5, b0 => (if a8 < 8 then (if a4 ≤ a8 then Zh3 K (G7 K a4 k) a4 a8 b0 (T8 b5 a8 0) else Zh3 K (G7 K a4 k) a4 a8 b0 b5) else some (.go (b5, b0)))
def J5 (K : Nat) (a0 : ((List Int) × (List MpT))) (a1 : MpT) (a3 : Int) : Nat → Int → MpT → Option (Ex MpT (MpT))
 | 0, _, _ => none
 | k + 1, a4, a9 => (if a4 < (a0.1.length : Int) then (if a4 < 8 then (if (Y5 ((rd a1 a3).1) a4) = 0 then J5 K a0 a1 a3 k (a4 + 1) a9 else ((G7 K a4 K 0 ((rd a1 a3).1) ((rd a1 a3).1)).bind (Ex.elim (fun r => some (.ret r)) (fun s => (fun (a7 : A8) (b2 : A8) => ((Za6 K a0.1 a7).bind fun i5 => (if ((i5).tmod 2) = 0 then Zh4 K (J5 K a0 a1 a3 k) a0 a1 a3 a4 a9 a7 b2 (IntKind.i64.wrap ((rd a1 a3).2 * (IntKind.i64.wrap (Y5 ((rd a1 a3).1) a4)))) else Zh4 K (J5 K a0 a1 a3 k) a0 a1 a3 a4 a9 a7 b2 (IntKind.i64.wrap (0 - (IntKind.i64.wrap ((rd a1 a3).2 * (IntKind.i64.wrap (Y5 ((rd a1 a3).1) a4))))))))) s.1 s.2)))) else none) else some (.go a9))
def Zd4 (K : Nat) (a0 : ((List Int) × (List MpT))) (a1 : MpT) : Nat → Int → MpT → Option (Ex MpT (MpT))
 | 0, _, _ => none
 | k + 1, a3, c0 => (if a3 < (a1.length : Int) then ((J5 K a0 a1 a3 K 0 c0).bind (Ex.elim (fun r => some (.ret r)) (fun s => (fun (c5 : MpT) => Zd4 K a0 a1 k (a3 + 1) c5) s))) else some (.go c0))
def Zq5 (K : Nat) (a0 : ((List Int) × (List MpT))) (a1 : MpT) : Option MpT := ((Zd4 K a0 a1 K 0 ([] : List (A8 × Int))).bind (Ex.elim (fun r => some r) (fun s => (fun (c8 : MpT) => some c8) s)))
theorem Yh9 {K : Nat} {a0 : ((List Int) × (List MpT))} {a1 : MpT} {r : MpT} (q0 : Zq5 K a0 a1 = some r) {H : FH} {w : World} {L : OL} {s0 : Value} {s1 : Value} {s2 : Value} (b3 : Y3 (X3 .i64) H s0 a0.1) (b9 : Y3 (X6 yT) H s1 a0.2) (b6 : Y3 yT H s2 a1) (hS : St H w L) :
 Calls Tryz.prog 123 #[vA ([s0] ++ [s1]), vA ([s2])] w (T6 (fun v G => (R.agg (X6 yT)).p G v r) H L) := by
 have Z2 := Sub.refl H
 refine X0 Tryz.func123 rfl Tryz.ntmps123 rfl ?_
 unfold Zq5 at q0
 refine Z3 (Z1 ?_)
 refine T7 (v := vA ([s0] ++ [s1])) ([s0] ++ [s1]).toArray rfl rfl hS rfl ?_
 intro b1 w2 hS
 refine T7 (v := vA ([s2])) ([s2]).toArray rfl rfl hS rfl ?_
 intro b4 w5 hS
 refine W9 (z := vA ([vN])) ([vN]).toArray Zb2.zero rfl hS rfl ?_
 intro b7 w8 hS
 refine Z0 (Z3 (Z1 ?_))
 refine Q2 (vA ([vN])) Yc4 rfl ?_
 refine W9 (z := vA ([vN])) ([vN]).toArray Zb2.zero rfl hS rfl ?_
 intro c4 w11 hS
 refine W1 (v := vA ([vN])) (vs := ([vN]).toArray) (cs := ([vN]).toArray) U7 rfl rfl rfl hS rfl (S2 rfl) rfl ?_
 intro w13 hS
 refine Z0 (Z3 (Z3 (Z1 (Z6 (vI 0) rfl rfl (Z0 (Y7 ?_))))))
 have q5 : Y3 yT H (.slice none 0 0) ([] : List (A8 × Int)) := Y3.nil
 obtain ⟨q6, d7, q7⟩ := bind_some q0
 refine W7 (id := 0) (fun k f w => ∃ (a3 : Int) (c0 : MpT) (H1 : FH) (c2 : Value), Zd4 K a0 a1 k a3 c0 = some q6 ∧ Sub H H1 ∧ St H1 w ([(c4, cA ([c2]) 47)] ++ ([(b7, cA ([vN]) 47)] ++ ([(b4, cA ([s2]) 47)] ++ ([(b1, cA ([s0] ++ [s1]) 29)] ++ L)))) ∧ 0 ≤ a3 ∧ Y3 yT H1 c2 c0 ∧ Y3 (X3 .i64) H1 s0 a0.1 ∧ Y3 (X6 yT) H1 s1 a0.2 ∧ Y3 yT H1 s2 a1 ∧ ev f (.tmp 2) = vP b1 ∧ ev f (.tmp 3) = vP b4 ∧ ev f (.tmp 4) = vP b7 ∧ ev f (.tmp 5) = vP c4 ∧ ev f (.tmp 6) = vI a3) (fun f w => ∃ (c8 : MpT) (H1 : FH) (c3 : Value), q6 = .go c8 ∧ Sub H H1 ∧ St H1 w ([(c4, cA ([c3]) 47)] ++ ([(b7, cA ([vN]) 47)] ++ ([(b4, cA ([s2]) 47)] ++ ([(b1, cA ([s0] ++ [s1]) 29)] ++ L)))) ∧ Y3 yT H1 c3 c8 ∧ Y3 (X3 .i64) H1 s0 a0.1 ∧ Y3 (X6 yT) H1 s1 a0.2 ∧ Y3 yT H1 s2 a1 ∧ ev f (.tmp 4) = vP b7 ∧ ev f (.tmp 5) = vP c4) rfl ?_ ?_ K ?_ ?_
 rintro f w ⟨a3, c0, H1, c2, d7, _⟩
 rw [Zd4] at d7; cases d7
 rintro k ac6 ac7 ih0 hx0 ⟨a3, c0, q8, c2, d7, Z2, hS, a41, e6, b3, b9, b6, o5, f8, j5, j6, f9⟩
 rw [Zd4] at d7
 refine Z3 (Z3 (Z1 (Z4 (vI a3) (by exact f9) rfl (Y2 V6 (by exact f8) rfl ?_))))
 refine Y4 (s2) R7 rfl (hS.get (mR (mR mL))) rfl rfl ?_
 have ac8 := b6.bound
 refine W6 S9 rfl b6 rfl ?_
 refine U5 (k := .i64) (a := a3) (b := (a1.length : Int)) rfl rfl rfl (Z0 ?_)
 by_cases l1 : a3 < (a1.length : Int)
 rw [if_pos l1] at d7
 refine Y0 (bT l1 rfl) (Y6 (Z3 (Y7 (Z3 (Z1 (Y2 V6 (by exact f8) rfl ?_))))))
 refine Y4 (s2) R7 rfl (hS.get (mR (mR mL))) rfl rfl (Z4 (vI a3) (by exact f9) rfl ?_)
 obtain ⟨b16, o16, ac9, E16, _, a07, a08, ⟨_, _, rfl, rfl, rfl⟩, a09⟩ := b6.elem (i := a3) (by omega) (by omega)
 refine W3 S9 rfl rfl a07 rfl (by omega) (by omega) rfl (Y2 P0 rfl rfl ?_)
 refine V5 (Z7 .u8 ((rd a1 a3).1)) N0 rfl (hS.froz _ _ a08) rfl (Zf0 ([]) (Z7 .u8 ((rd a1 a3).1)) (([vI ((rd a1 a3).2)])) a09 (Nat.le_of_ble_eq_true rfl)) rfl ?_
 refine W9 (z := vA (Z7 .u8 (fun _ => 0))) (Z7 .u8 (fun _ => 0)).toArray Ya8.zero rfl hS rfl ?_
 intro c9 w18 hS
 refine W1 (v := vA (Z7 .u8 ((rd a1 a3).1))) (vs := (Z7 .u8 ((rd a1 a3).1)).toArray) (cs := (Z7 .u8 (fun _ => 0)).toArray) N0 rfl rfl rfl hS rfl (S8 .u8 ((rd a1 a3).1)) rfl ?_
 intro w20 hS
 refine Z0 (Z3 (Z1 (Z6 (vI 0) rfl rfl (Z0 (Y7 ?_)))))
 obtain ⟨n0, c7, q9⟩ := bind_some d7
 refine W7 (id := 2) (fun k f w => ∃ (a4 : Int) (a9 : MpT) (H1 : FH) (a6 : Value), J5 K a0 a1 a3 k a4 a9 = some n0 ∧ Sub H H1 ∧ St H1 w ([(c9, cA (Z7 .u8 ((rd a1 a3).1)) 70)] ++ ([(c4, cA ([a6]) 47)] ++ ([(b7, cA ([vN]) 47)] ++ ([(b4, cA ([s2]) 47)] ++ ([(b1, cA ([s0] ++ [s1]) 29)] ++ L))))) ∧ 0 ≤ a4 ∧ Y3 yT H1 a6 a9 ∧ Y3 (X3 .i64) H1 s0 a0.1 ∧ Y3 (X6 yT) H1 s1 a0.2 ∧ Y3 yT H1 s2 a1 ∧ ev f (.tmp 2) = vP b1 ∧ ev f (.tmp 3) = vP b4 ∧ ev f (.tmp 4) = vP b7 ∧ ev f (.tmp 5) = vP c4 ∧ ev f (.tmp 6) = vI a3 ∧ ev f (.tmp 7) = vP c9 ∧ ev f (.tmp 8) = vI a4) (fun f w => ∃ (c5 : MpT) (H1 : FH) (d2 : Value), n0 = .go c5 ∧ Sub H H1 ∧ St H1 w ([(c9, cA (Z7 .u8 ((rd a1 a3).1)) 70)] ++ ([(c4, cA ([d2]) 47)] ++ ([(b7, cA ([vN]) 47)] ++ ([(b4, cA ([s2]) 47)] ++ ([(b1, cA ([s0] ++ [s1]) 29)] ++ L))))) ∧ Y3 yT H1 d2 c5 ∧ Y3 (X3 .i64) H1 s0 a0.1 ∧ Y3 (X6 yT) H1 s1 a0.2 ∧ Y3 yT H1 s2 a1 ∧ ev f (.tmp 2) = vP b1 ∧ ev f (.tmp 3) = vP b4 ∧ ev f (.tmp 4) = vP b7 ∧ ev f (.tmp 5) = vP c4 ∧ ev f (.tmp 6) = vI a3) rfl ?_ ?_ K ?_ ?_
 rintro f w ⟨a4, a9, H1, a6, c7, _⟩
 rw [J5] at c7; cases c7
 rintro k ad0 ad1 z8 hx1 ⟨a4, a9, r0, a6, c7, Z2, hS, a43, a5, b3, b9, b6, e1, g0, g1, g2, g3, d8, e2⟩
 rw [J5] at c7
 refine Z3 (Z3 (Z1 (Z4 (vI a4) (by exact e2) rfl (Y2 R4 (by exact e1) rfl ?_))))
 refine Y4 (s0) J3 rfl (hS.get (mR (mR (mR (mR mL))))) rfl rfl ?_
 have ad2 := b3.bound
 refine W6 Q9 rfl b3 rfl ?_
 refine U5 (k := .i64) (a := a4) (b := (a0.1.length : Int)) rfl rfl rfl (Z0 ?_)
 by_cases l2 : a4 < (a0.1.length : Int)
 rw [if_pos l2] at c7
 refine Y0 (bT l2 rfl) (Y6 (Z3 (Y7 (Z3 (Z3 (Z1 (Z4 (vI a4) (by exact e2) rfl ?_)))))))
 obtain ⟨ad3, c7⟩ := gd c7
 refine W8 Za7 (by exact d8) rfl (by omega) (by omega) rfl ?_
 refine Y4 (Value.int .u8 (Y5 ((rd a1 a3).1) a4)) ty5 rfl (hS.get (o := cA (Z7 .u8 ((rd a1 a3).1)) 70) mL) (M3 ([]) ([]) (by omega) (by omega)) rfl ?_
 refine Zf2 (k := .u8) (a := (Y5 ((rd a1 a3).1) a4)) (b := 0) rfl rfl rfl (Z0 ?_)
 by_cases l3 : (Y5 ((rd a1 a3).1) a4) = 0
 rw [if_pos l3] at c7
 refine Y0 (bT l3 rfl) ?_
 refine W4 rfl (Z1 (Z4 (vI a4) (by exact e2) rfl ?_))
 refine V0 (a4 + 1) rfl rfl (IntWalk.i64_in _ (by omega)) rfl (Z6 (vI (a4 + 1)) rfl rfl (Z0 ?_))
 exact z8 _ _ ⟨(a4 + 1), a9, r0, a6, c7, Z2, hS, (by omega), a5, b3, b9, b6, e1, g0, g1, g2, g3, d8, rfl⟩
 rw [if_neg l3] at c7
 refine Z9 (bF l3 rfl) (Y6 (Z3 ?_))
 refine V4 6 (R9 [(40, MP.eq (vA (Z7 .u8 ((rd a1 a3).1)))), (41, MP.eq (vA (Z7 .u8 ((rd a1 a3).1)))), (9, MP.box (cA (Z7 .u8 (fun _ => 0)) 70)), (10, MP.box (cA (Z7 .u8 (fun _ => 0)) 70))]) [Co.st 2 9 4 0 40 (Zi8 70), Co.st 3 10 5 1 41 (Zi8 70)] mixed rfl (Zp5 (ns := [(2, 9, 4, 0, 40), (3, 10, 5, 1, 41)]) rfl rfl) rfl hS (Z5 rfl ?_ (Z5 rfl ?_ (Z5 rfl ?_ (Z5 rfl ?_ (Yb1 rfl ?_ (Yb1 rfl ?_ V9)))))) ?_
 intro f25 w26 H27 X28 ad4 hS a10 ad5 hcq
 refine X8 N0 (evT (a10 7 rfl) d8) (hS.get (mR mL)) rfl rfl ?_
 exact qn (.refl _) rfl hS rfl
 intro f34 w35 H36 X37 ad6 hS a11 ad7 hcq
 refine X8 N0 (evT (a11 7 rfl) d8) (hS.get (mR mL)) rfl rfl ?_
 exact qn (.refl _) rfl hS rfl
 intro f43 w44 H45 X46 ad8 hS ad9 ae0 hcq
 refine W9 (z := vA (Z7 .u8 (fun _ => 0))) (Z7 .u8 (fun _ => 0)).toArray Ya8.zero rfl hS rfl ?_
 intro b51 w52 hS
 exact qn (.refl _) rfl hS ⟨_, rfl⟩
 intro f54 w55 H56 X57 ae1 hS ae2 ae3 hcq
 refine W9 (z := vA (Z7 .u8 (fun _ => 0))) (Z7 .u8 (fun _ => 0)).toArray Ya8.zero rfl hS rfl ?_
 intro b62 w63 hS
 exact qn (.refl _) rfl hS ⟨_, rfl⟩
 intro i6 w66 z9 X68 ae4 hS ae5 r1 hcq
 have Z2 := Sub.refl z9
 obtain ⟨b73, m1⟩ := r1 2 9 rfl rfl
 have m1 : i6 9 = vP b73 := m1
 have hS : St z9 w66 (F6 (cA (Z7 .u8 (fun _ => 0)) 70) (i6 9) ++ (X68 ++ ([(c9, cA (Z7 .u8 ((rd a1 a3).1)) 70)] ++ ([(c4, cA ([a6]) 47)] ++ ([(b7, cA ([vN]) 47)] ++ ([(b4, cA ([s2]) 47)] ++ ([(b1, cA ([s0] ++ [s1]) 29)] ++ L))))))) := hS
 rw [m1] at hS
 have q76 : ev i6 (.tmp 9) = vP b73 := m1
 have q77 : ev i6 (.tmp 40) = vA (Z7 .u8 ((rd a1 a3).1)) := r1 0 40 rfl rfl
 refine W1 (v := vA (Z7 .u8 ((rd a1 a3).1))) (vs := (Z7 .u8 ((rd a1 a3).1)).toArray) (cs := (Z7 .u8 (fun _ => 0)).toArray) N0 q76 q77 rfl hS rfl (S8 .u8 ((rd a1 a3).1)) rfl ?_
 intro w78 hS
 have g79 : i6 40 = vA (Z7 .u8 ((rd a1 a3).1)) := q77
 exact Z0 ⟨_, rfl, rfl, Z2, by show St _ _ (F6 (Zi8 70 (i6 40)) (i6 9) ++ _); rw [m1, g79]; exact hS, trivial⟩
 intro i7 w81 H82 X83 ae6 hS ae7 r2 hcq
 have Z2 := Sub.refl H82
 obtain ⟨b88, m2⟩ := r2 3 10 rfl rfl
 have m2 : i7 10 = vP b88 := m2
 have hS : St H82 w81 (F6 (cA (Z7 .u8 (fun _ => 0)) 70) (i7 10) ++ (X83 ++ ([(c9, cA (Z7 .u8 ((rd a1 a3).1)) 70)] ++ ([(c4, cA ([a6]) 47)] ++ ([(b7, cA ([vN]) 47)] ++ ([(b4, cA ([s2]) 47)] ++ ([(b1, cA ([s0] ++ [s1]) 29)] ++ L))))))) := hS
 rw [m2] at hS
 have q91 : ev i7 (.tmp 10) = vP b88 := m2
 have q92 : ev i7 (.tmp 41) = vA (Z7 .u8 ((rd a1 a3).1)) := r2 1 41 rfl rfl
 refine W1 (v := vA (Z7 .u8 ((rd a1 a3).1))) (vs := (Z7 .u8 ((rd a1 a3).1)).toArray) (cs := (Z7 .u8 (fun _ => 0)).toArray) N0 q91 q92 rfl hS rfl (S8 .u8 ((rd a1 a3).1)) rfl ?_
 intro w93 hS
 have g94 : i7 41 = vA (Z7 .u8 ((rd a1 a3).1)) := q92
 exact Z0 ⟨_, rfl, rfl, Z2, by show St _ _ (F6 (Zi8 70 (i7 41)) (i7 10) ++ _); rw [m2, g94]; exact hS, trivial⟩
 intro e7 w96 H97 i8 hS e9 h9 hcq
 have hS : St H97 w96 ((F6 (Zi8 70 (e7 40)) (e7 9) ++ (F6 (Zi8 70 (e7 41)) (e7 10) ++ ([]))) ++ ([(c9, cA (Z7 .u8 ((rd a1 a3).1)) 70)] ++ ([(c4, cA ([a6]) 47)] ++ ([(b7, cA ([vN]) 47)] ++ ([(b4, cA ([s2]) 47)] ++ ([(b1, cA ([s0] ++ [s1]) 29)] ++ L)))))) := hS
 have Z2 := Z2.trans i8
 have b3 := b3.mono i8
 have b9 := b9.mono i8
 have b6 := b6.mono i8
 have a5 := a5.mono i8
 obtain ⟨d4, g4⟩ := h9 2 9 (by decide) rfl
 have g4 : e7 9 = vP d4 := g4
 rw [g4] at hS
 have g4 : ev e7 (.tmp 9) = _ := g4
 have a12 : e7 40 = vA (Z7 .u8 ((rd a1 a3).1)) := (eM (h9 0 40 (by decide) rfl))
 rw [a12] at hS
 obtain ⟨d0, g5⟩ := h9 3 10 (by decide) rfl
 have g5 : e7 10 = vP d0 := g5
 rw [g5] at hS
 have g5 : ev e7 (.tmp 10) = _ := g5
 have a13 : e7 41 = vA (Z7 .u8 ((rd a1 a3).1)) := (eM (h9 1 41 (by decide) rfl))
 rw [a13] at hS
 refine Z0 (Z3 (Z3 (Z1 (Z6 (vI 0) rfl rfl (Z0 (Y7 ?_))))))
 obtain ⟨n1, d1, f0⟩ := bind_some c7
 refine W7 (id := 4) (fun k f w => ∃ (a8 : Int) (b5 : A8) (b0 : A8) (H1 : FH), G7 K a4 k a8 b5 b0 = some n1 ∧ Sub H H1 ∧ St H1 w ([(d4, cA (Z7 .u8 b5) 70)] ++ ([(d0, cA (Z7 .u8 b0) 70)] ++ ([(c9, cA (Z7 .u8 ((rd a1 a3).1)) 70)] ++ ([(c4, cA ([a6]) 47)] ++ ([(b7, cA ([vN]) 47)] ++ ([(b4, cA ([s2]) 47)] ++ ([(b1, cA ([s0] ++ [s1]) 29)] ++ L))))))) ∧ 0 ≤ a8 ∧ Y3 (X3 .i64) H1 s0 a0.1 ∧ Y3 (X6 yT) H1 s1 a0.2 ∧ Y3 yT H1 s2 a1 ∧ Y3 yT H1 a6 a9 ∧ ev f (.tmp 2) = vP b1 ∧ ev f (.tmp 3) = vP b4 ∧ ev f (.tmp 4) = vP b7 ∧ ev f (.tmp 5) = vP c4 ∧ ev f (.tmp 6) = vI a3 ∧ ev f (.tmp 7) = vP c9 ∧ ev f (.tmp 8) = vI a4 ∧ ev f (.tmp 9) = vP d4 ∧ ev f (.tmp 10) = vP d0 ∧ ev f (.tmp 11) = vI a8) (fun f w => ∃ (a7 : A8) (b2 : A8) (H1 : FH), n1 = .go (a7, b2) ∧ Sub H H1 ∧ St H1 w ([(d4, cA (Z7 .u8 a7) 70)] ++ ([(d0, cA (Z7 .u8 b2) 70)] ++ ([(c9, cA (Z7 .u8 ((rd a1 a3).1)) 70)] ++ ([(c4, cA ([a6]) 47)] ++ ([(b7, cA ([vN]) 47)] ++ ([(b4, cA ([s2]) 47)] ++ ([(b1, cA ([s0] ++ [s1]) 29)] ++ L))))))) ∧ Y3 (X3 .i64) H1 s0 a0.1 ∧ Y3 (X6 yT) H1 s1 a0.2 ∧ Y3 yT H1 s2 a1 ∧ Y3 yT H1 a6 a9 ∧ ev f (.tmp 2) = vP b1 ∧ ev f (.tmp 3) = vP b4 ∧ ev f (.tmp 4) = vP b7 ∧ ev f (.tmp 5) = vP c4 ∧ ev f (.tmp 6) = vI a3 ∧ ev f (.tmp 7) = vP c9 ∧ ev f (.tmp 8) = vI a4 ∧ ev f (.tmp 9) = vP d4 ∧ ev f (.tmp 10) = vP d0) rfl ?_ ?_ K ?_ ?_
 rintro f w ⟨a8, b5, b0, H1, d1, _⟩
 rw [G7] at d1; cases d1
 rintro k ae8 ae9 ih2 hx2 ⟨a8, b5, b0, n2, d1, Z2, hS, a37, b3, b9, b6, a5, g6, g7, g8, g9, h0, h1, e3, e4, f1, d6⟩
 rw [G7] at d1
 refine Z3 (Z3 (Z1 (Z4 (vI a8) (by exact d6) rfl ?_)))
 refine U5 (k := .i64) (a := a8) (b := 8) rfl rfl rfl (Z0 ?_)
 by_cases i0 : a8 < 8
 rw [if_pos i0] at d1
 refine Y0 (bT i0 rfl) (Y6 (Z3 (Y7 (Z3 (Z3 (Z1 (Z4 (vI a8) (by exact d6) rfl (Z4 (vI a4) (by exact e3) rfl ?_))))))))
 refine Yb5 (k := .i64) (a := a8) (b := a4) rfl rfl rfl (Z0 ?_)
 refine E9 (fun f w => ∃ (b8 : A8) (H1 : FH), Zh3 K (G7 K a4 k) a4 a8 b0 b8 = some n1 ∧ Sub H H1 ∧ St H1 w ([(d4, cA (Z7 .u8 b8) 70)] ++ ([(d0, cA (Z7 .u8 b0) 70)] ++ ([(c9, cA (Z7 .u8 ((rd a1 a3).1)) 70)] ++ ([(c4, cA ([a6]) 47)] ++ ([(b7, cA ([vN]) 47)] ++ ([(b4, cA ([s2]) 47)] ++ ([(b1, cA ([s0] ++ [s1]) 29)] ++ L))))))) ∧ Y3 (X3 .i64) H1 s0 a0.1 ∧ Y3 (X6 yT) H1 s1 a0.2 ∧ Y3 yT H1 s2 a1 ∧ Y3 yT H1 a6 a9 ∧ ev f (.tmp 2) = vP b1 ∧ ev f (.tmp 3) = vP b4 ∧ ev f (.tmp 4) = vP b7 ∧ ev f (.tmp 5) = vP c4 ∧ ev f (.tmp 6) = vI a3 ∧ ev f (.tmp 7) = vP c9 ∧ ev f (.tmp 8) = vI a4 ∧ ev f (.tmp 9) = vP d4 ∧ ev f (.tmp 10) = vP d0 ∧ ev f (.tmp 11) = vI a8) ?_ ?_
 rintro af0 a54 ⟨b8, m3, f4, Z2, hS, b3, b9, b6, a5, j7, j8, j9, k0, k1, k2, h2, k3, f2, d9⟩
 unfold Zh3 at f4
 refine Z3 (Z1 (Z4 (vI a8) (by exact d9) rfl (Z4 (vI a4) (by exact h2) rfl ?_)))
 refine Yp5 (k := .i64) (a := a8) (b := a4) rfl rfl rfl (Z0 ?_)
 by_cases i1 : a8 ≤ a4
 rw [if_pos i1] at f4
 refine Y0 (bT i1 rfl) (Z1 (Z4 (vI a8) (by exact d9) rfl ?_))
 refine W8 Za7 (by exact f2) rfl (by omega) (by omega) rfl ?_
 have hS := hS.perm U4
 refine D0 (v := Value.int .u8 0) (cs := (Z7 .u8 b0).toArray) (cs' := (Z7 .u8 (T8 b0 a8 0)).toArray) ty5 rfl rfl hS rfl (Zu7 rfl) (by simp [Z7, U2]; omega) (Ze5 (by omega) (by omega)) ?_
 intro af1 hS
 have hS := hS.perm U4.symm
 refine Z0 (X2 (Z1 (Z4 (vI a8) (by exact d9) rfl ?_)))
 refine V0 (a8 + 1) rfl rfl (IntWalk.i64_in _ (by omega)) rfl (Z6 (vI (a8 + 1)) rfl rfl (Z0 ?_))
 exact ih2 _ _ ⟨(a8 + 1), b8, (T8 b0 a8 0), m3, f4, Z2, hS, (by omega), b3, b9, b6, a5, j7, j8, j9, k0, k1, k2, h2, k3, f2, rfl⟩
 rw [if_neg i1] at f4
 refine Z9 (bF i1 rfl) (Y6 (X2 (Z1 (Z4 (vI a8) (by exact d9) rfl ?_))))
 refine V0 (a8 + 1) rfl rfl (IntWalk.i64_in _ (by omega)) rfl (Z6 (vI (a8 + 1)) rfl rfl (Z0 ?_))
 exact ih2 _ _ ⟨(a8 + 1), b8, b0, m3, f4, Z2, hS, (by omega), b3, b9, b6, a5, j7, j8, j9, k0, k1, k2, h2, k3, f2, rfl⟩
 intro r3
 by_cases i2 : a4 ≤ a8
 rw [if_pos i2] at d1
 refine Y0 (bT i2 rfl) (Z1 (Z4 (vI a8) (by exact d6) rfl ?_))
 refine W8 Za7 (by exact e4) rfl (by omega) (by omega) rfl ?_
 refine D0 (v := Value.int .u8 0) (cs := (Z7 .u8 b5).toArray) (cs' := (Z7 .u8 (T8 b5 a8 0)).toArray) ty5 rfl rfl hS rfl (Zu7 rfl) (by simp [Z7, U2]; omega) (Ze5 (by omega) (by omega)) ?_
 intro af2 hS
 refine Z0 ?_
 exact r3 _ _ ⟨(T8 b5 a8 0), n2, d1, Z2, hS, b3, b9, b6, a5, g6, g7, g8, g9, h0, h1, e3, e4, f1, d6⟩
 rw [if_neg i2] at d1
 refine Z9 (bF i2 rfl) (Y6 ?_)
 exact r3 _ _ ⟨b5, n2, d1, Z2, hS, b3, b9, b6, a5, g6, g7, g8, g9, h0, h1, e3, e4, f1, d6⟩
 rw [if_neg i0] at d1
 refine Z9 (bF i0 rfl) ?_
 refine W4 rfl ?_
 have hz := Option.some.inj d1
 subst hz
 exact hx2 _ _ ⟨b5, b0, n2, rfl, Z2, hS, b3, b9, b6, a5, g6, g7, g8, g9, h0, h1, e3, e4, f1⟩
 exact ⟨0, ((rd a1 a3).1), ((rd a1 a3).1), H97, d1, Z2, hS, (by omega), b3, b9, b6, a5, (evT (e9 2 rfl) e1), (evT (e9 3 rfl) g0), (evT (e9 4 rfl) g1), (evT (e9 5 rfl) g2), (evT (e9 6 rfl) g3), (evT (e9 7 rfl) d8), (evT (e9 8 rfl) e2), g4, g5, rfl⟩
 rintro af3 af4 ⟨a7, b2, af5, rfl, Z2, hS, b3, b9, b6, a5, o6, k4, o7, o8, k5, h3, e5, k6, n3⟩
 dsimp only [Ex.elim] at f0
 refine Z3 (Z1 ?_)
 refine X8 N0 (by exact k6) (hS.get mL) rfl rfl ?_
 refine W9 (z := vA (Z7 .u8 (fun _ => 0))) (Z7 .u8 (fun _ => 0)).toArray Ya8.zero rfl hS rfl ?_
 intro f3 af6 hS
 refine W1 (v := vA (Z7 .u8 a7)) (vs := (Z7 .u8 a7).toArray) (cs := (Z7 .u8 (fun _ => 0)).toArray) N0 rfl rfl rfl hS rfl (S8 .u8 a7) rfl ?_
 intro af7 hS
 refine Z0 (Z3 (Z1 (Z4 (vI a4) (by exact e5) rfl (Z4 (vI a4) (by exact e5) rfl ?_))))
 refine W8 Za7 (by exact h3) rfl (by omega) (by omega) rfl ?_
 refine Y4 (Value.int .u8 (Y5 ((rd a1 a3).1) a4)) ty5 rfl (hS.get (o := cA (Z7 .u8 ((rd a1 a3).1)) 70) (mR (mR (mR mL)))) (M3 ([]) ([]) (by omega) (by omega)) rfl ?_
 refine Zu4 (IntKind.u8.wrap ((Y5 ((rd a1 a3).1) a4) - 1)) rfl rfl rfl rfl ?_
 refine W8 Za7 rfl rfl (by omega) (by omega) rfl ?_
 refine D0 (v := Value.int .u8 (IntKind.u8.wrap ((Y5 ((rd a1 a3).1) a4) - 1))) (cs := (Z7 .u8 a7).toArray) (cs' := (Z7 .u8 (T8 a7 a4 (IntKind.u8.wrap ((Y5 ((rd a1 a3).1) a4) - 1)))).toArray) ty5 rfl rfl hS rfl (Zu7 rfl) (by simp [Z7, U2]; omega) (Ze5 (by omega) (by omega)) ?_
 intro af8 hS
 refine Z0 (Z3 ?_)
 obtain ⟨r4, r5, a60, af9, _, u1, l4, ⟨_, _, rfl, rfl, rfl⟩, u2⟩ := b6.elem (i := a3) (by omega) (by omega)
 refine V4 12 (R9 [(63, MP.eq (vP b4)), (64, MP.eq (s2)), (65, MP.eq (vI a3)), (66, MP.eq (Value.pointer (some ⟨r4, r5, none⟩))), (67, MP.eq (Value.pointer (some ⟨r4, r5 + 8, none⟩))), (68, MP.eq (vI ((rd a1 a3).2))), (69, MP.eq (vI a4)), (70, MP.eq (Value.pointer (some ⟨c9, 0 + (a4).toNat * 1, none⟩))), (71, MP.eq (Value.int .u8 (Y5 ((rd a1 a3).1) a4))), (72, MP.eq (vI (IntKind.i64.wrap (Y5 ((rd a1 a3).1) a4)))), (73, MP.eq (vI (IntKind.i64.wrap ((rd a1 a3).2 * (IntKind.i64.wrap (Y5 ((rd a1 a3).1) a4)))))), (13, MP.eq (vI (IntKind.i64.wrap ((rd a1 a3).2 * (IntKind.i64.wrap (Y5 ((rd a1 a3).1) a4))))))]) [] mixed rfl rfl rfl hS (Z5 rfl ?_ (Z5 rfl ?_ (Z5 rfl ?_ (Z5 rfl ?_ (Z5 rfl ?_ (Z5 rfl ?_ (Z5 rfl ?_ (Z5 rfl ?_ (Z5 rfl ?_ (Z5 rfl ?_ (Z5 rfl ?_ (Z5 rfl ?_ V9)))))))))))) ?_
 intro ag0 ag1 ag2 ag3 a61 hS u3 a62 hcq
 refine Y2 V6 (evT (u3 3 rfl) k4) rfl ?_
 exact qn (.refl _) rfl hS rfl
 intro ag4 ag5 ag6 ag7 a63 hS a64 u4 hcq
 refine Y4 (s2) R7 (eM (u4 0 63 rfl rfl)) (hS.get (mR (mR (mR (mR (mR (mR (mR mL)))))))) rfl rfl ?_
 exact qn (.refl _) rfl hS rfl
 intro ag8 ag9 ah0 ah1 a65 hS u5 a66 hcq
 refine Z4 (vI a3) (evT (u5 6 rfl) k5) rfl ?_
 exact qn (.refl _) rfl hS rfl
 intro ah2 ah3 ah4 ah5 a67 hS a68 n8 hcq
 refine W3 S9 rfl (eM (n8 1 64 rfl rfl)) u1 (eM (n8 2 65 rfl rfl)) (by omega) (by omega) rfl ?_
 exact qn (.refl _) rfl hS rfl
 intro ah6 ah7 ah8 ah9 a69 hS a70 u6 hcq
 refine Y2 Zc0 (eM (u6 3 66 rfl rfl)) rfl ?_
 exact qn (.refl _) rfl hS rfl
 intro ai0 ai1 ai2 ai3 u7 hS a71 u8 hcq
 have l4 := u7.1 _ _ l4
 refine Y4 (vI ((rd a1 a3).2)) ty2 (eM (u8 4 67 rfl rfl)) (hS.froz _ _ l4) (u2 8 (show 8 < 9 by decide)) rfl ?_
 exact qn (.refl _) rfl hS rfl
 intro ai4 ai5 ai6 ai7 a72 hS u9 a73 hcq
 refine Z4 (vI a4) (evT (u9 8 rfl) e5) rfl ?_
 exact qn (.refl _) rfl hS rfl
 intro ai8 ai9 aj0 aj1 a74 hS v0 v1 hcq
 refine W8 Za7 (evT (v0 7 rfl) h3) (eM (v1 6 69 rfl rfl)) (by omega) (by omega) rfl ?_
 exact qn (.refl _) rfl hS rfl
 intro aj2 aj3 aj4 aj5 a75 hS a76 v2 hcq
 refine Y4 (Value.int .u8 (Y5 ((rd a1 a3).1) a4)) ty5 (eM (v2 7 70 rfl rfl)) (hS.get (o := cA (Z7 .u8 ((rd a1 a3).1)) 70) (mR (mR (mR (mR mL))))) (M3 ([]) ([]) (by omega) (by omega)) rfl ?_
 exact qn (.refl _) rfl hS rfl
 intro aj6 aj7 aj8 aj9 a77 hS a78 v3 hcq
 refine Yg7 (s := .u8) ((IntKind.i64.wrap (Y5 ((rd a1 a3).1) a4))) Wb0 (eM (v3 8 71 rfl rfl)) rfl rfl ?_
 exact qn (.refl _) rfl hS rfl
 intro ak0 ak1 ak2 ak3 a79 hS a80 n9 hcq
 refine Zt0 (IntKind.i64.wrap ((rd a1 a3).2 * (IntKind.i64.wrap (Y5 ((rd a1 a3).1) a4)))) (eM (n9 5 68 rfl rfl)) (eM (n9 9 72 rfl rfl)) rfl rfl ?_
 exact qn (.refl _) rfl hS rfl
 intro ak4 ak5 ak6 ak7 a81 hS a82 v4 hcq
 refine Z6 (vI (IntKind.i64.wrap ((rd a1 a3).2 * (IntKind.i64.wrap (Y5 ((rd a1 a3).1) a4))))) (eM (v4 10 73 rfl rfl)) rfl ?_
 exact qn (.refl _) rfl hS rfl
 intro r6 a14 a15 f5 hS d3 v5 hcq
 have hS : St a15 a14 ([(f3, cA (Z7 .u8 (T8 a7 a4 (IntKind.u8.wrap ((Y5 ((rd a1 a3).1) a4) - 1)))) 70)] ++ ([(d4, cA (Z7 .u8 a7) 70)] ++ ([(d0, cA (Z7 .u8 b2) 70)] ++ ([(c9, cA (Z7 .u8 ((rd a1 a3).1)) 70)] ++ ([(c4, cA ([a6]) 47)] ++ ([(b7, cA ([vN]) 47)] ++ ([(b4, cA ([s2]) 47)] ++ ([(b1, cA ([s0] ++ [s1]) 29)] ++ L)))))))) := hS
 have Z2 := Z2.trans f5
 have b3 := b3.mono f5
 have b9 := b9.mono f5
 have b6 := b6.mono f5
 have a5 := a5.mono f5
 have n4 := evT (d3 2 rfl) o6
 have r7 := evT (d3 3 rfl) k4
 have r8 := evT (d3 4 rfl) o7
 have r9 := evT (d3 5 rfl) o8
 have s3 := evT (d3 6 rfl) k5
 have s4 := evT (d3 7 rfl) h3
 have s5 := evT (d3 8 rfl) e5
 have s6 := evT (d3 10 rfl) n3
 have s7 : ev r6 (.tmp 12) = vP f3 := Eq.trans (d3 12 rfl) rfl
 have s8 : ev r6 (.tmp 13) = vI (IntKind.i64.wrap ((rd a1 a3).2 * (IntKind.i64.wrap (Y5 ((rd a1 a3).1) a4)))) := v5 11 13 (by decide) rfl
 refine Z0 (Z3 (Z3 (Z1 (Y2 R4 (by exact n4) rfl ?_))))
 refine Y4 (s0) J3 rfl (hS.get (mR (mR (mR (mR (mR (mR (mR mL)))))))) rfl rfl ?_
 refine X8 N0 (by exact (evT (d3 9 rfl) k6)) (hS.get (mR mL)) rfl rfl ?_
 obtain ⟨i5, v6, f0⟩ := bind_some f0
 refine Y8 Tryz.call216 (T0 rfl rfl) rfl (Zq9 v6 b3 hS) ?_
 rintro ak8 ak9 ⟨_, s9, rfl, f6, hS, rfl⟩
 refine ⟨_, rfl, ?_⟩
 have Z2 := Z2.trans f6
 have b3 := b3.mono f6
 have b9 := b9.mono f6
 have b6 := b6.mono f6
 have a5 := a5.mono f6
 refine Zo0 ((i5).tmod 2) rfl rfl (by decide) rfl rfl ?_
 refine L9 (k := .i64) (a := ((i5).tmod 2)) (b := 0) rfl rfl rfl (Z0 ?_)
 refine E9 (fun f w => ∃ (c6 : Int) (H1 : FH), Zh4 K (J5 K a0 a1 a3 k) a0 a1 a3 a4 a9 a7 b2 c6 = some n0 ∧ Sub H H1 ∧ St H1 w ([(f3, cA (Z7 .u8 (T8 a7 a4 (IntKind.u8.wrap ((Y5 ((rd a1 a3).1) a4) - 1)))) 70)] ++ ([(d4, cA (Z7 .u8 a7) 70)] ++ ([(d0, cA (Z7 .u8 b2) 70)] ++ ([(c9, cA (Z7 .u8 ((rd a1 a3).1)) 70)] ++ ([(c4, cA ([a6]) 47)] ++ ([(b7, cA ([vN]) 47)] ++ ([(b4, cA ([s2]) 47)] ++ ([(b1, cA ([s0] ++ [s1]) 29)] ++ L)))))))) ∧ Y3 (X3 .i64) H1 s0 a0.1 ∧ Y3 (X6 yT) H1 s1 a0.2 ∧ Y3 yT H1 s2 a1 ∧ Y3 yT H1 a6 a9 ∧ ev f (.tmp 2) = vP b1 ∧ ev f (.tmp 3) = vP b4 ∧ ev f (.tmp 4) = vP b7 ∧ ev f (.tmp 5) = vP c4 ∧ ev f (.tmp 6) = vI a3 ∧ ev f (.tmp 7) = vP c9 ∧ ev f (.tmp 8) = vI a4 ∧ ev f (.tmp 10) = vP d0 ∧ ev f (.tmp 12) = vP f3 ∧ ev f (.tmp 13) = vI c6) ?_ ?_
 rintro al0 a55 ⟨c6, a56, c1, Z2, hS, b3, b9, b6, a5, h4, o9, p0, p1, p2, p3, k7, n5, n6, n7⟩
 unfold Zh4 at c1
 refine Z3 ?_
 obtain ⟨m5, v7, c1⟩ := bind_some c1
 obtain ⟨a83, c1⟩ := gd c1
 obtain ⟨a16, a17, a84, al1, _, v8, l5, ⟨m4, rfl, h5⟩, v9⟩ := b9.elem (i := a4) (by omega) (by omega)
 obtain ⟨m6, w0, c1⟩ := bind_some c1
 refine V4 12 (R9 [(82, MP.eq (vP b1)), (83, MP.eq (s0)), (84, MP.eq (vA (Z7 .u8 (T8 a7 a4 (IntKind.u8.wrap ((Y5 ((rd a1 a3).1) a4) - 1)))))), (85, MP.rep (R.agg (X6 yT)) (m5)), (86, MP.eq (vQ b1 1)), (87, MP.eq (s1)), (88, MP.eq (vI a4)), (89, MP.eq (Value.pointer (some ⟨a16, a17, none⟩))), (90, MP.eq (vA ([m4]))), (91, MP.rep (R.agg (X6 yT)) (m6)), (14, MP.box (cA ([vN]) 47))]) [Co.st 10 14 11 9 91 (Zi8 47)] mixed rfl (Zp5 (ns := [(10, 14, 11, 9, 91)]) rfl rfl) rfl hS (Z5 rfl ?_ (Z5 rfl ?_ (Z5 rfl ?_ (Z5 rfl ?_ (Z5 rfl ?_ (Z5 rfl ?_ (Z5 rfl ?_ (Z5 rfl ?_ (Z5 rfl ?_ (Z5 rfl ?_ (Z5 rfl ?_ (Yb1 rfl ?_ V9)))))))))))) ?_
 intro al2 al3 al4 al5 a85 hS w1 a86 hcq
 refine Y2 R4 (evT (w1 2 rfl) h4) rfl ?_
 exact qn (.refl _) rfl hS rfl
 intro al6 al7 al8 al9 a87 hS a88 w3 hcq
 refine Y4 (s0) J3 (eM (w3 0 82 rfl rfl)) (hS.get (mR (mR (mR (mR (mR (mR (mR (mR mL))))))))) rfl rfl ?_
 exact qn (.refl _) rfl hS rfl
 intro am0 am1 am2 am3 a89 hS w4 a90 hcq
 refine X8 N0 (evT (w4 12 rfl) n6) (hS.get (mR mL)) rfl rfl ?_
 exact qn (.refl _) rfl hS rfl
 intro am4 am5 am6 am7 a91 hS a92 w6 hcq
 refine Y8 Tryz.call170 (T0 (eM (w6 2 84 rfl rfl)) rfl) rfl (Zf5 v7  hS) ?_
 rintro am8 am9 ⟨a18, an0, rfl, w7, hS, w9⟩
 refine ⟨a18, rfl, ?_⟩
 exact qn w7 rfl hS w9
 intro an1 an2 an3 an4 a93 hS x0 a94 hcq
 refine Y2 N5 (evT (x0 2 rfl) h4) rfl ?_
 exact qn (.refl _) rfl hS rfl
 intro an5 an6 an7 an8 a95 hS a96 x1 hcq
 refine Y4 (s1) Zd8 (eM (x1 4 86 rfl rfl)) (hS.get (mR (mR (mR (mR (mR (mR (mR (mR mL))))))))) rfl rfl ?_
 exact qn (.refl _) rfl hS rfl
 intro an9 ao0 ao1 ao2 a97 hS x2 a98 hcq
 refine Z4 (vI a4) (evT (x2 8 rfl) k7) rfl ?_
 exact qn (.refl _) rfl hS rfl
 intro ao3 ao4 ao5 ao6 a99 hS aa0 o0 hcq
 refine W3 J2 rfl (eM (o0 5 87 rfl rfl)) v8 (eM (o0 6 88 rfl rfl)) (by omega) (by omega) rfl ?_
 exact qn (.refl _) rfl hS rfl
 intro ao7 ao8 ao9 ap0 x3 hS aa1 x4 hcq
 have l5 := x3.1 _ _ l5
 refine V5 ([m4]) U7 (eM (x4 7 89 rfl rfl)) (hS.froz _ _ l5) rfl v9 rfl ?_
 exact qn (.refl _) rfl hS rfl
 intro ap1 ap2 ap3 ap4 o1 hS aa2 l6 hcq
 have b3 := b3.mono o1
 have h5 := h5.mono o1
 obtain ⟨ap5, a19, ⟨_, rfl, ⟨a57, rfl, p4⟩⟩⟩ := gvR (l6 3 85 rfl rfl)
 refine Y8 Tryz.call171 (N8 (eM (l6 1 83 rfl rfl)) a19 (eM (l6 8 90 rfl rfl))) rfl (Zm3 w0 b3 p4 h5 hS) ?_
 rintro ap6 ap7 ⟨a20, ap8, rfl, x5, hS, x6⟩
 refine ⟨a20, rfl, ?_⟩
 exact qn x5 rfl hS x6
 intro ap9 aq0 aq1 aq2 aa3 hS aa4 aa5 hcq
 refine W9 (z := vA ([vN])) ([vN]).toArray Zb2.zero rfl hS rfl ?_
 intro aq3 aq4 hS
 exact qn (.refl _) rfl hS ⟨_, rfl⟩
 intro h6 a21 t0 a22 aa6 hS aa7 o2 hcq
 have Z2 := Sub.refl t0
 obtain ⟨t1, i9⟩ := o2 10 14 rfl rfl
 have i9 : h6 14 = vP t1 := i9
 have hS : St t0 a21 (F6 (cA ([vN]) 47) (h6 14) ++ (a22 ++ ([(f3, cA (Z7 .u8 (T8 a7 a4 (IntKind.u8.wrap ((Y5 ((rd a1 a3).1) a4) - 1)))) 70)] ++ ([(d4, cA (Z7 .u8 a7) 70)] ++ ([(d0, cA (Z7 .u8 b2) 70)] ++ ([(c9, cA (Z7 .u8 ((rd a1 a3).1)) 70)] ++ ([(c4, cA ([a6]) 47)] ++ ([(b7, cA ([vN]) 47)] ++ ([(b4, cA ([s2]) 47)] ++ ([(b1, cA ([s0] ++ [s1]) 29)] ++ L)))))))))) := hS
 rw [i9] at hS
 have a23 : ev h6 (.tmp 14) = vP t1 := i9
 obtain ⟨aq5, t4, ⟨_, rfl, ⟨j0, rfl, p5⟩⟩⟩ := gvR (o2 9 91 rfl rfl)
 refine W1 (v := vA ([j0])) (vs := ([j0]).toArray) (cs := ([vN]).toArray) U7 a23 t4 rfl hS rfl (S2 p5.isOne) rfl ?_
 intro aq6 hS
 have a24 : h6 91 = vA ([j0]) := t4
 exact Z0 ⟨_, rfl, rfl, Z2, by show St _ _ (F6 (Zi8 47 (h6 91)) (h6 14) ++ _); rw [i9, a24]; exact hS, trivial⟩
 intro j1 a25 a26 f7 hS d5 o3 hcq
 have hS : St a26 a25 ((F6 (Zi8 47 (j1 91)) (j1 14) ++ ([])) ++ ([(f3, cA (Z7 .u8 (T8 a7 a4 (IntKind.u8.wrap ((Y5 ((rd a1 a3).1) a4) - 1)))) 70)] ++ ([(d4, cA (Z7 .u8 a7) 70)] ++ ([(d0, cA (Z7 .u8 b2) 70)] ++ ([(c9, cA (Z7 .u8 ((rd a1 a3).1)) 70)] ++ ([(c4, cA ([a6]) 47)] ++ ([(b7, cA ([vN]) 47)] ++ ([(b4, cA ([s2]) 47)] ++ ([(b1, cA ([s0] ++ [s1]) 29)] ++ L))))))))) := hS
 have Z2 := Z2.trans f7
 have a5 := a5.mono f7
 have b6 := b6.mono f7
 have b3 := b3.mono f7
 have b9 := b9.mono f7
 have t5 := evT (d5 2 rfl) h4
 have t6 := evT (d5 5 rfl) p1
 obtain ⟨aq7, a27, ⟨_, rfl, ⟨j2, rfl, h7⟩⟩⟩ := gvR (o3 9 91 (by decide) rfl)
 obtain ⟨t7, h8⟩ := o3 10 14 (by decide) rfl
 have h8 : j1 14 = vP t7 := h8
 rw [h8] at hS
 have h8 : ev j1 (.tmp 14) = _ := h8
 have a28 : j1 91 = vA ([j2]) := a27
 rw [a28] at hS
 refine Z0 ?_
 obtain ⟨m7, x7, c1⟩ := bind_some c1
 obtain ⟨m8, x8, c1⟩ := bind_some c1
 obtain ⟨m9, x9, c1⟩ := bind_some c1
 obtain ⟨l0, y0, c1⟩ := bind_some c1
 refine V4 10 (R9 [(92, MP.eq (vA ([a6]))), (93, MP.eq (vP b1)), (94, MP.eq (s0)), (95, MP.eq (vA ([j2]))), (96, MP.eq (vA (Z7 .u8 b2))), (97, MP.rep (R.agg (X6 yT)) (m7)), (98, MP.rep (R.agg (X6 yT)) (m8)), (99, MP.eq (vI c6)), (100, MP.eq (vI m9)), (101, MP.rep (R.agg (X6 yT)) (l0))]) [] mixed rfl rfl rfl hS (Z5 rfl ?_ (Z5 rfl ?_ (Z5 rfl ?_ (Z5 rfl ?_ (Z5 rfl ?_ (Z5 rfl ?_ (Z5 rfl ?_ (Z5 rfl ?_ (Z5 rfl ?_ (Z5 rfl ?_ V9)))))))))) ?_
 intro aq8 aq9 ar0 ar1 aa8 hS y1 aa9 hcq
 refine X8 U7 (evT (y1 5 rfl) t6) (hS.get (mR (mR (mR (mR (mR (mR mL))))))) rfl rfl ?_
 exact qn (.refl _) rfl hS rfl
 intro ar2 ar3 ar4 ar5 ab0 hS y2 ab1 hcq
 refine Y2 R4 (evT (y2 2 rfl) t5) rfl ?_
 exact qn (.refl _) rfl hS rfl
 intro ar6 ar7 ar8 ar9 ab2 hS ab3 y3 hcq
 refine Y4 (s0) J3 (eM (y3 1 93 rfl rfl)) (hS.get (mR (mR (mR (mR (mR (mR (mR (mR (mR mL)))))))))) rfl rfl ?_
 exact qn (.refl _) rfl hS rfl
 intro as0 as1 as2 as3 ab4 hS y4 ab5 hcq
 refine X8 U7 (evT (y4 14 rfl) h8) (hS.get (mR mL)) rfl rfl ?_
 exact qn (.refl _) rfl hS rfl
 intro as4 as5 as6 as7 ab6 hS y5 ab7 hcq
 refine X8 N0 (evT (y5 10 rfl) (evT (d5 10 rfl) n5)) (hS.get (mR (mR (mR (mR mL))))) rfl rfl ?_
 exact qn (.refl _) rfl hS rfl
 intro as8 as9 at0 at1 ab8 hS ab9 y6 hcq
 refine Y8 Tryz.call170 (T0 (eM (y6 4 96 rfl rfl)) rfl) rfl (Zf5 x7  hS) ?_
 rintro at2 at3 ⟨a29, at4, rfl, y7, hS, y8⟩
 refine ⟨a29, rfl, ?_⟩
 exact qn y7 rfl hS y8
 intro at5 at6 at7 at8 o4 hS ac0 l7 hcq
 have b3 := b3.mono o4
 have h7 := h7.mono o4
 obtain ⟨at9, a30, ⟨_, rfl, ⟨a58, rfl, p6⟩⟩⟩ := gvR (l7 5 97 rfl rfl)
 refine Y8 Tryz.call171 (N8 (eM (l7 2 94 rfl rfl)) (eM (l7 3 95 rfl rfl)) a30) rfl (Zm3 x8 b3 h7 p6 hS) ?_
 rintro au0 au1 ⟨a31, au2, rfl, y9, hS, z0⟩
 refine ⟨a31, rfl, ?_⟩
 exact qn y9 rfl hS z0
 intro au3 au4 au5 au6 ac1 hS z1 ac2 hcq
 refine Z4 (vI c6) (evT (z1 13 rfl) (evT (d5 13 rfl) n7)) rfl ?_
 exact qn (.refl _) rfl hS rfl
 intro au7 au8 au9 av0 ac3 hS ac4 z2 hcq
 refine Y8 Tryz.call217 (Q8 (eM (z2 7 99 rfl rfl))) rfl (Zc8 x9  hS) ?_
 rintro av1 av2 ⟨_, av3, rfl, z3, hS, rfl⟩
 refine ⟨_, rfl, ?_⟩
 exact qn z3 rfl hS rfl
 intro av4 av5 av6 av7 z4 hS ac5 l9 hcq
 have a5 := a5.mono z4
 obtain ⟨av8, a32, ⟨_, rfl, ⟨a59, rfl, p7⟩⟩⟩ := gvR (l9 6 98 rfl rfl)
 refine Y8 Tryz.call143 (N8 (eM (l9 0 92 rfl rfl)) a32 (eM (l9 8 100 rfl rfl))) rfl (Zk2 y0 a5 p7 hS) ?_
 rintro av9 aw0 ⟨a33, aw1, rfl, z5, hS, m0⟩
 refine ⟨a33, rfl, ?_⟩
 have m0 := ((R.agg (X6 yT))).mono (Zl4 _ _) m0
 exact qn z5 rfl hS m0
 intro aw2 a34 t8 i3 hS e0 z6 hcq
 have hS : St t8 a34 ([(t7, cA ([j2]) 47)] ++ ([(f3, cA (Z7 .u8 (T8 a7 a4 (IntKind.u8.wrap ((Y5 ((rd a1 a3).1) a4) - 1)))) 70)] ++ ([(d4, cA (Z7 .u8 a7) 70)] ++ ([(d0, cA (Z7 .u8 b2) 70)] ++ ([(c9, cA (Z7 .u8 ((rd a1 a3).1)) 70)] ++ ([(c4, cA ([a6]) 47)] ++ ([(b7, cA ([vN]) 47)] ++ ([(b4, cA ([s2]) 47)] ++ ([(b1, cA ([s0] ++ [s1]) 29)] ++ L))))))))) := hS
 have Z2 := Z2.trans i3
 have b6 := b6.mono i3
 have b3 := b3.mono i3
 have b9 := b9.mono i3
 have t9 := evT (e0 5 rfl) t6
 obtain ⟨aw3, a35, ⟨_, rfl, ⟨j3, rfl, k8⟩⟩⟩ := gvR (z6 9 101 (by decide) rfl)
 have hS := hS.perm Yx7
 refine W1 (v := vA ([j3])) (vs := ([j3]).toArray) (cs := ([a6]).toArray) U7 (by exact t9) (by exact a35) rfl hS rfl (S2 k8.isOne) rfl ?_
 intro aw4 hS
 have hS := hS.perm Yx7.symm
 refine Z0 (X2 (Z1 (Z4 (vI a4) (by exact (evT (e0 8 rfl) (evT (d5 8 rfl) k7))) rfl ?_)))
 refine V0 (a4 + 1) rfl rfl (IntWalk.i64_in _ (by omega)) rfl (Z6 (vI (a4 + 1)) rfl rfl (Z0 ?_))
 have hS := St.dropA hS
 have hS := St.dropA hS
 have hS := St.dropA hS
 have hS := St.dropA hS
 exact z8 _ _ ⟨(a4 + 1), l0, t8, j3, c1, Z2, hS, (by omega), k8, b3, b9, b6, (evT (e0 2 rfl) t5), (evT (e0 3 rfl) (evT (d5 3 rfl) o9)), (evT (e0 4 rfl) (evT (d5 4 rfl) p0)), t9, (evT (e0 6 rfl) (evT (d5 6 rfl) p2)), (evT (e0 7 rfl) (evT (d5 7 rfl) p3)), rfl⟩
 intro u0
 by_cases i4 : ((i5).tmod 2) = 0
 rw [if_pos i4] at f0
 refine Z9 (bN i4 rfl) (Y6 ?_)
 exact u0 _ _ ⟨(IntKind.i64.wrap ((rd a1 a3).2 * (IntKind.i64.wrap (Y5 ((rd a1 a3).1) a4)))), s9, f0, Z2, hS, b3, b9, b6, a5, n4, r7, r8, r9, s3, s4, s5, s6, s7, s8⟩
 rw [if_neg i4] at f0
 refine Y0 (bO i4 rfl) (Z1 (Z4 (vI (IntKind.i64.wrap ((rd a1 a3).2 * (IntKind.i64.wrap (Y5 ((rd a1 a3).1) a4))))) (by exact s8) rfl ?_))
 refine Xq0 (IntKind.i64.wrap (0 - (IntKind.i64.wrap ((rd a1 a3).2 * (IntKind.i64.wrap (Y5 ((rd a1 a3).1) a4)))))) rfl rfl rfl (Z6 (vI (IntKind.i64.wrap (0 - (IntKind.i64.wrap ((rd a1 a3).2 * (IntKind.i64.wrap (Y5 ((rd a1 a3).1) a4))))))) rfl rfl (Z0 ?_))
 exact u0 _ _ ⟨(IntKind.i64.wrap (0 - (IntKind.i64.wrap ((rd a1 a3).2 * (IntKind.i64.wrap (Y5 ((rd a1 a3).1) a4)))))), s9, f0, Z2, hS, b3, b9, b6, a5, n4, r7, r8, r9, s3, s4, s5, s6, s7, rfl⟩
 rw [if_neg l2] at c7
 refine Z9 (bF l2 rfl) ?_
 refine W4 rfl ?_
 have hz := Option.some.inj c7
 subst hz
 exact hx1 _ _ ⟨a9, r0, a6, rfl, Z2, hS, a5, b3, b9, b6, e1, g0, g1, g2, g3⟩
 exact ⟨0, c0, q8, c2, c7, Z2, hS, (by omega), e6, b3, b9, b6, o5, f8, j5, j6, f9, rfl, rfl⟩
 rintro aw5 aw6 ⟨c5, a36, d2, rfl, Z2, hS, j4, b3, b9, b6, p8, p9, q1, q2, q3⟩
 dsimp only [Ex.elim] at q9
 refine X2 (Z1 (Z4 (vI a3) (by exact q3) rfl ?_))
 refine V0 (a3 + 1) rfl rfl (IntWalk.i64_in _ (by omega)) rfl (Z6 (vI (a3 + 1)) rfl rfl (Z0 ?_))
 have hS := St.dropA hS
 exact ih0 _ _ ⟨(a3 + 1), c5, a36, d2, q9, Z2, hS, (by omega), j4, b3, b9, b6, p8, p9, q1, q2, rfl⟩
 rw [if_neg l1] at d7
 refine Z9 (bF l1 rfl) ?_
 refine W4 rfl ?_
 have hz := Option.some.inj d7
 subst hz
 exact hx0 _ _ ⟨c0, q8, c2, rfl, Z2, hS, e6, b3, b9, b6, j5, j6⟩
 exact ⟨0, ([] : List (A8 × Int)), H, (vN), d7, Z2, hS, (by omega), q5, b3, b9, b6, rfl, rfl, rfl, rfl, rfl⟩
 rintro aw7 aw8 ⟨c8, aw9, c3, rfl, Z2, hS, e8, b3, b9, b6, k9, q4⟩
 dsimp only [Ex.elim] at q7
 refine Z3 (Z1 ?_)
 refine X8 U7 (by exact q4) (hS.get mL) rfl rfl ?_
 have hS := hS.perm U4
 refine W1 (v := vA ([c3])) (vs := ([c3]).toArray) (cs := ([vN]).toArray) U7 (by exact k9) rfl rfl hS rfl (S2 e8.isOne) rfl ?_
 intro ax0 hS
 have hS := hS.perm U4.symm
 refine Z0 ?_
 refine Y9 (vs := [vA ([c3])]) Tryz.func123 ⟨⟨_, (by exact k9), U8 U7 (hS.get (mR mL)) rfl⟩, trivial⟩ ?_
 have hz := Option.some.inj q7
 subst hz
 exact ⟨_, _, rfl, Z2, (St.dropA (St.dropA (St.dropA (St.dropA hS)))), ⟨_, rfl, ⟨_, rfl, e8⟩⟩⟩
def I0 (K : Nat) (a1 : (List Int)) (a4 : Int) : Nat → Bool → Int → Option (Ex (List MpT) (Bool))
 | 0, _, _ => none
 | k + 1, b4, a5 => (if a5 < (a1.length : Int) then (if b4 = true then I0 K a1 a4 k true (a5 + 1) else I0 K a1 a4 k (decide ((rd a1 a5) = a4)) (a5 + 1)) else some (.go b4))
def I2 (K : Nat) (a0 : Int) (a1 : (List Int)) : Nat → Int → (List MpT) → Int → Option (Ex (List MpT) ((List MpT)))
 | 0, _, _, _ => none
 | k + 1, a4, a6, a9 => (if a4 < a0 then ((I0 K a1 a4 K false 0).bind (Ex.elim (fun r => some (.ret r)) (fun s => (fun (c1 : Bool) => (if c1 = true then (if a6.length + ([([] : List (A8 × Int))]).length ≤ 1099511627776 then I2 K a0 a1 k (IntKind.i64.wrap (a4 + 1)) (a6 ++ [([] : List (A8 × Int))]) a9 else none) else ((Zf7 K a9).bind fun d6 => (if a6.length + ([d6]).length ≤ 1099511627776 then I2 K a0 a1 k (IntKind.i64.wrap (a4 + 1)) (a6 ++ [d6]) (IntKind.i64.wrap (a9 + 1)) else none)))) s))) else some (.go a6))
def Zl9 (K : Nat) (a0 : Int) (a1 : (List Int)) : Option (List MpT) := ((I2 K a0 a1 K 0 ([] : List MpT) 0).bind (Ex.elim (fun r => some r) (fun s => (fun (b7 : (List MpT)) => some b7) s)))
theorem Yo9 {K : Nat} {a0 : Int} {a1 : (List Int)} {r : (List MpT)} (q0 : Zl9 K a0 a1 = some r) {H : FH} {w : World} {L : OL} {s0 : Value} (b0 : Y3 (X3 .i64) H s0 a1) (hS : St H w L) :
 Calls Tryz.prog 80 #[vI a0, s0] w (Wl0 (X6 yT) 47 r H L) := by
 have Z2 := Sub.refl H
 refine X0 Tryz.func80 rfl Tryz.ntmps80 rfl ?_
 unfold Zl9 at q0
 refine Z3 (Z1 (Z6 (vN) rfl rfl (Z0 (Z3 (Z1 ?_)))))
 refine Yw3 (τ := (X6 yT)) J2 Zb2 rfl hS rfl ?_
 intro u1 w2 C3 g8 hS
 refine Z6 (u1) rfl rfl (Z6 (vI 0) rfl rfl (Z0 (Z3 (Z3 (Z1 (Z6 (vI 0) rfl rfl (Z0 (Y7 ?_))))))))
 obtain ⟨e8, b6, e9⟩ := bind_some q0
 refine W7 (id := 0) (fun k f w => ∃ (a4 : Int) (a6 : (List MpT)) (a9 : Int) (H1 : FH) (a8 : OL) (a7 : Value), I2 K a0 a1 k a4 a6 a9 = some e8 ∧ Sub H H1 ∧ St H1 w (a8 ++ L) ∧ U1 (X6 yT) 47 H1 a7 a6 a8 ∧ Y3 (X3 .i64) H1 s0 a1 ∧ ev f (.tmp 0) = vI a0 ∧ ev f (.tmp 1) = s0 ∧ ev f (.tmp 5) = a7 ∧ ev f (.tmp 6) = vI a9 ∧ ev f (.tmp 7) = vI a4) (fun f w => ∃ (b7 : (List MpT)) (H1 : FH) (c2 : OL) (b1 : Value), e8 = .go b7 ∧ Sub H H1 ∧ St H1 w (c2 ++ L) ∧ U1 (X6 yT) 47 H1 b1 b7 c2 ∧ ev f (.tmp 5) = b1) rfl ?_ ?_ K ?_ ?_
 rintro f w ⟨a4, a6, a9, H1, a8, a7, b6, _⟩
 rw [I2] at b6; cases b6
 rintro k h6 h7 f4 g9 ⟨a4, a6, a9, f0, a8, a7, b6, Z2, hS, a3, b0, c7, e4, c8, e5, c9⟩
 rw [I2] at b6
 refine Z3 (Z3 (Z1 (Z4 (vI a4) (by exact c9) rfl (Z4 (vI a0) (by exact c7) rfl ?_))))
 refine U5 (k := .i64) (a := a4) (b := a0) rfl rfl rfl (Z0 ?_)
 by_cases e2 : a4 < a0
 rw [if_pos e2] at b6
 refine Y0 (bT e2 rfl) (Y6 (Z3 (Y7 (Z3 (Z1 (Z6 (Value.bool false) rfl rfl (Z0 (Z3 (Z3 (Z1 (Z6 (vI 0) rfl rfl (Z0 (Y7 ?_)))))))))))))
 obtain ⟨f1, b2, b5⟩ := bind_some b6
 refine W7 (id := 2) (fun k f w => ∃ (b4 : Bool) (a5 : Int) (H1 : FH), I0 K a1 a4 k b4 a5 = some f1 ∧ Sub H H1 ∧ St H1 w (a8 ++ L) ∧ 0 ≤ a5 ∧ Y3 (X3 .i64) H1 s0 a1 ∧ U1 (X6 yT) 47 H1 a7 a6 a8 ∧ ev f (.tmp 0) = vI a0 ∧ ev f (.tmp 1) = s0 ∧ ev f (.tmp 5) = a7 ∧ ev f (.tmp 6) = vI a9 ∧ ev f (.tmp 7) = vI a4 ∧ ev f (.tmp 8) = Value.bool b4 ∧ ev f (.tmp 9) = vI a5) (fun f w => ∃ (c1 : Bool) (H1 : FH), f1 = .go c1 ∧ Sub H H1 ∧ St H1 w (a8 ++ L) ∧ Y3 (X3 .i64) H1 s0 a1 ∧ U1 (X6 yT) 47 H1 a7 a6 a8 ∧ ev f (.tmp 0) = vI a0 ∧ ev f (.tmp 1) = s0 ∧ ev f (.tmp 5) = a7 ∧ ev f (.tmp 6) = vI a9 ∧ ev f (.tmp 7) = vI a4 ∧ ev f (.tmp 8) = Value.bool c1) rfl ?_ ?_ K ?_ ?_
 rintro f w ⟨b4, a5, H1, b2, _⟩
 rw [I0] at b2; cases b2
 rintro k h8 h9 f5 h0 ⟨b4, a5, d8, b2, Z2, hS, h1, b0, a3, c3, b8, c4, c5, b9, d0, c0⟩
 rw [I0] at b2
 refine Z3 (Z3 (Z1 (Z4 (vI a5) (by exact c0) rfl (Z4 (s0) (by exact b8) rfl ?_))))
 have i7 := b0.bound
 refine W6 Xd8 rfl b0 rfl ?_
 refine U5 (k := .i64) (a := a5) (b := (a1.length : Int)) rfl rfl rfl (Z0 ?_)
 by_cases e3 : a5 < (a1.length : Int)
 rw [if_pos e3] at b2
 refine Y0 (bT e3 rfl) (Y6 (Z3 (Y7 (Z1 (Z4 (Value.bool b4) (by exact d0) rfl (Z4 (Value.bool b4) rfl rfl ?_))))))
 by_cases b3 : b4 = true
 rw [if_pos b3] at b2
 refine Z8 rfl rfl (Eq.trans rfl (congrArg Value.bool b3)) rfl rfl rfl (Z8 rfl rfl (Eq.trans rfl (congrArg Value.bool b3)) rfl rfl rfl (Z8 rfl rfl (Eq.trans rfl (congrArg Value.bool b3)) rfl rfl rfl (Z8 rfl rfl (Eq.trans rfl (congrArg Value.bool b3)) rfl rfl rfl (Z8 rfl rfl (Eq.trans rfl (congrArg Value.bool b3)) rfl rfl rfl (Z8 rfl rfl (Eq.trans rfl (congrArg Value.bool b3)) rfl rfl rfl ?_)))))
 refine V1 (t := true) (Value.bool true) (Eq.trans rfl (congrArg Value.bool b3)) ((if_pos rfl).trans rfl) rfl (Z6 (Value.bool true) rfl rfl (Z0 (X2 (Z1 (Z4 (vI a5) (by exact c0) rfl ?_)))))
 refine V0 (a5 + 1) rfl rfl (IntWalk.i64_in _ (by omega)) rfl (Z6 (vI (a5 + 1)) rfl rfl (Z0 ?_))
 exact f5 _ _ ⟨true, (a5 + 1), d8, b2, Z2, hS, (by omega), b0, a3, c3, b8, c4, c5, b9, rfl, rfl⟩
 rw [if_neg b3] at b2
 refine Y1 rfl rfl (Eq.trans rfl (congrArg Value.bool (W2 b3))) (Z4 (s0) (by exact b8) rfl ?_)
 refine Y1 rfl rfl (Eq.trans rfl (congrArg Value.bool (W2 b3))) (Z4 (vI a5) (by exact c0) rfl ?_)
 obtain ⟨i8, i9, i0, j0, _, f8, f9, rfl, g0⟩ := b0.elem (i := a5) (by omega) (by omega)
 refine Y1 rfl rfl (Eq.trans rfl (congrArg Value.bool (W2 b3))) ?_
 refine W3 Xd8 rfl rfl f8 rfl (by omega) (by omega) rfl ?_
 refine Y1 rfl rfl (Eq.trans rfl (congrArg Value.bool (W2 b3))) ?_
 refine Y4 (vI (rd a1 a5)) ty3 rfl (hS.froz _ _ f9) (g0 0 (show 0 < 1 by decide)) rfl ?_
 refine Y1 rfl rfl (Eq.trans rfl (congrArg Value.bool (W2 b3))) (Z4 (vI a4) (by exact b9) rfl ?_)
 refine Y1 rfl rfl (Eq.trans rfl (congrArg Value.bool (W2 b3))) ?_
 refine Zf2 (k := .i64) (a := (rd a1 a5)) (b := a4) rfl rfl rfl ?_
 refine V1 (t := false) (Value.bool (decide ((rd a1 a5) = a4))) (Eq.trans rfl (congrArg Value.bool (W2 b3))) ((if_neg Bool.false_ne_true).trans rfl) rfl (Z6 (Value.bool (decide ((rd a1 a5) = a4))) rfl rfl (Z0 (X2 (Z1 (Z4 (vI a5) (by exact c0) rfl ?_)))))
 refine V0 (a5 + 1) rfl rfl (IntWalk.i64_in _ (by omega)) rfl (Z6 (vI (a5 + 1)) rfl rfl (Z0 ?_))
 exact f5 _ _ ⟨(decide ((rd a1 a5) = a4)), (a5 + 1), d8, b2, Z2, hS, (by omega), b0, a3, c3, b8, c4, c5, b9, rfl, rfl⟩
 rw [if_neg e3] at b2
 refine Z9 (bF e3 rfl) ?_
 refine W4 rfl ?_
 have hz := Option.some.inj b2
 subst hz
 exact h0 _ _ ⟨b4, d8, rfl, Z2, hS, b0, a3, c3, b8, c4, c5, b9, d0⟩
 exact ⟨false, 0, f0, b2, Z2, hS, (by omega), b0, a3, c7, e4, c8, e5, c9, rfl, rfl⟩
 rintro i1 i2 ⟨c1, i3, rfl, Z2, hS, b0, a3, d1, d2, d3, c6, d4, e6⟩
 dsimp only [Ex.elim] at b5
 refine Z3 (Z3 (Z1 (Z4 (Value.bool c1) (by exact e6) rfl (Z0 ?_))))
 by_cases d5 : c1 = true
 rw [if_pos d5] at b5
 refine Y0 (Eq.trans rfl (congrArg Value.bool d5)) (Z3 (Z1 (Z4 (a7) (by exact d3) rfl ?_)))
 refine Q2 (vA ([vN])) Yc4 rfl ?_
 refine Zn7 (τ := (X6 yT)) J2 Zb2 rfl [vA ([vN])] [([] : List (A8 × Int))] rfl rfl (Ze0 rfl) (Zu5 ⟨_, rfl, Y3.nil⟩) (by decide) (by decide) hS rfl ?_
 intro j1 h2 j2 d9 hS g1
 have Z2 := Z2.trans d9
 have b0 := b0.mono d9
 have a3 := a3.mono d9
 obtain ⟨g2, b5⟩ := gd b5
 refine Zd1 (τ := (X6 yT)) Yy4 rfl rfl rfl a3 hS g1 g2 rfl ?_
 intro f6 j3 h3 g3 hS
 refine Z6 (f6) rfl rfl (Z0 ?_)
 refine W4 rfl (Z1 (Z4 (vI a4) (by exact d4) rfl ?_))
 refine V0 (IntKind.i64.wrap (a4 + 1)) rfl rfl rfl rfl (Z6 (vI (IntKind.i64.wrap (a4 + 1))) rfl rfl (Z0 ?_))
 exact f4 _ _ ⟨(IntKind.i64.wrap (a4 + 1)), (a6 ++ [([] : List (A8 × Int))]), a9, h2, h3, f6, b5, Z2, hS, g3, b0, d1, d2, rfl, c6, rfl⟩
 rw [if_neg d5] at b5
 refine Z9 (Eq.trans rfl (congrArg Value.bool (W2 d5))) (Y6 (Z3 (Z1 (Z4 (a7) (by exact d3) rfl (Z4 (vI a9) (by exact c6) rfl ?_)))))
 obtain ⟨d6, g4, b5⟩ := bind_some b5
 refine Y8 Tryz.call169 (Q8 rfl) rfl (Yg1 g4  hS) ?_
 rintro j4 j5 ⟨j6, j7, rfl, e0, hS, ⟨_, rfl, ⟨f3, rfl, f2⟩⟩⟩
 refine ⟨_, rfl, ?_⟩
 have Z2 := Z2.trans e0
 have b0 := b0.mono e0
 have a3 := a3.mono e0
 refine Zn7 (τ := (X6 yT)) J2 Zb2 rfl [vA ([f3])] [d6] rfl rfl (Ze0 rfl) (Zu5 ⟨_, rfl, f2⟩) (by decide) (by decide) hS rfl ?_
 intro j8 h4 j9 e1 hS g5
 have Z2 := Z2.trans e1
 have b0 := b0.mono e1
 have a3 := a3.mono e1
 obtain ⟨g6, b5⟩ := gd b5
 refine Zd1 (τ := (X6 yT)) Yy4 rfl rfl rfl a3 hS g5 g6 rfl ?_
 intro f7 k0 h5 g7 hS
 refine Z6 (f7) rfl rfl (Z0 (Z1 (Z4 (vI a9) (by exact c6) rfl ?_)))
 refine V0 (IntKind.i64.wrap (a9 + 1)) rfl rfl rfl rfl (Z6 (vI (IntKind.i64.wrap (a9 + 1))) rfl rfl (Z0 (X2 (Z1 (Z4 (vI a4) (by exact d4) rfl ?_)))))
 refine V0 (IntKind.i64.wrap (a4 + 1)) rfl rfl rfl rfl (Z6 (vI (IntKind.i64.wrap (a4 + 1))) rfl rfl (Z0 ?_))
 exact f4 _ _ ⟨(IntKind.i64.wrap (a4 + 1)), (a6 ++ [d6]), (IntKind.i64.wrap (a9 + 1)), h4, h5, f7, b5, Z2, hS, g7, b0, d1, d2, rfl, rfl, rfl⟩
 rw [if_neg e2] at b6
 refine Z9 (bF e2 rfl) ?_
 refine W4 rfl ?_
 have hz := Option.some.inj b6
 subst hz
 exact g9 _ _ ⟨a6, f0, a8, a7, rfl, Z2, hS, a3, c8⟩
 exact ⟨0, ([] : List MpT), 0, H, C3, u1, b6, Z2, hS, g8, b0, rfl, rfl, rfl, rfl, rfl⟩
 rintro i4 i5 ⟨b7, i6, c2, b1, rfl, Z2, hS, d7, e7⟩
 dsimp only [Ex.elim] at e9
 refine Z3 (Z1 (Z4 (b1) (by exact e7) rfl (Z6 (b1) rfl rfl (Z0 ?_))))
 refine Y9 (vs := [b1]) Tryz.func80 ⟨rfl, trivial⟩ ?_
 have hz := Option.some.inj e9
 subst hz
 exact ⟨_, _, _, rfl, Z2, hS, d7⟩
def Zk1 (K : Nat) (a0 : ((List Int) × (List MpT))) (a1 : Int) : Option Int := ((Zr7 K a0.1 a1).bind fun r4 => (if r4 < 0 then some (-1) else ((Zt8 K a0.2 r4).bind fun r7 => (if r7 < 0 then some (-1) else some r7))))
theorem Yl5 {K : Nat} {a0 : ((List Int) × (List MpT))} {a1 : Int} {r : Int} (q0 : Zk1 K a0 a1 = some r) {H : FH} {w : World} {L : OL} {s0 : Value} {s1 : Value} (a7 : Y3 (X3 .i64) H s0 a0.1) (a5 : Y3 (X6 yT) H s1 a0.2) (hS : St H w L) :
 Calls Tryz.prog 15 #[vA ([s0] ++ [s1]), vI a1] w (T6 (fun v G => (R.int .i64).p G v r) H L) := by
 have Z2 := Sub.refl H
 refine X0 Tryz.func15 rfl Tryz.ntmps15 rfl ?_
 unfold Zk1 at q0
 refine Z3 (Z1 ?_)
 refine T7 (v := vA ([s0] ++ [s1])) ([s0] ++ [s1]).toArray rfl rfl hS rfl ?_
 intro b1 w2 hS
 refine Z6 (vI 0) rfl rfl (Z0 (Z3 (Z1 (Y2 Xo5 rfl rfl ?_))))
 refine Y4 (s0) J3 rfl (hS.get mL) rfl rfl (Z4 (vI a1) rfl rfl ?_)
 obtain ⟨r4, a8, q0⟩ := bind_some q0
 refine Y8 Tryz.call77 (T0 rfl rfl) rfl (Yp1 a8 a7 hS) ?_
 rintro e4 w5 ⟨_, H4, rfl, a6, hS, rfl⟩
 refine ⟨_, rfl, ?_⟩
 have Z2 := Z2.trans a6
 have a5 := a5.mono a6
 refine Z6 (vI r4) rfl rfl (Z0 (Z3 (Z3 (Z1 (Z4 (vI r4) rfl rfl ?_)))))
 refine U5 (k := .i64) (a := r4) (b := 0) rfl rfl rfl (Z0 ?_)
 by_cases a3 : r4 < 0
 rw [if_pos a3] at q0
 refine Y0 (bT a3 rfl) (Z3 (Z1 (Z6 (vI (-1)) rfl rfl (Z0 ?_))))
 refine Y9 (vs := [vI (-1)]) Tryz.func15 ⟨rfl, trivial⟩ ?_
 have hz := Option.some.inj q0
 subst hz
 exact ⟨_, _, rfl, Z2, (St.dropA hS), rfl⟩
 rw [if_neg a3] at q0
 refine Z9 (bF a3 rfl) (Y6 (Z3 (Z1 (Y2 Xn2 rfl rfl ?_))))
 refine Y4 (s1) Wi5 rfl (hS.get mL) rfl rfl (Z4 (vI r4) rfl rfl ?_)
 obtain ⟨r7, a9, q0⟩ := bind_some q0
 refine Y8 Tryz.call33 (T0 rfl rfl) rfl (Yr4 a9 a5 hS) ?_
 rintro e7 w8 ⟨_, H7, rfl, b0, hS, rfl⟩
 refine ⟨_, rfl, ?_⟩
 have Z2 := Z2.trans b0
 refine Z6 (vI r7) rfl rfl (Z0 (Z3 (Z3 (Z1 (Z4 (vI r7) rfl rfl ?_)))))
 refine U5 (k := .i64) (a := r7) (b := 0) rfl rfl rfl (Z0 ?_)
 by_cases a4 : r7 < 0
 rw [if_pos a4] at q0
 refine Y0 (bT a4 rfl) (Z3 (Z1 (Z6 (vI (-1)) rfl rfl (Z0 ?_))))
 refine Y9 (vs := [vI (-1)]) Tryz.func15 ⟨rfl, trivial⟩ ?_
 have hz := Option.some.inj q0
 subst hz
 exact ⟨_, _, rfl, Z2, (St.dropA hS), rfl⟩
 rw [if_neg a4] at q0
 refine Z9 (bF a4 rfl) (Y6 (Z3 (Z1 (Z4 (vI r7) rfl rfl (Z6 (vI r7) rfl rfl (Z0 ?_))))))
 refine Y9 (vs := [vI r7]) Tryz.func15 ⟨rfl, trivial⟩ ?_
 have hz := Option.some.inj q0
 subst hz
 exact ⟨_, _, rfl, Z2, (St.dropA hS), rfl⟩
def D7 (K : Nat) (a0 : MpT) : Option MpT := ((Zo4 K a0).bind fun a4 => some a4)
theorem Zk4 {K : Nat} {a0 : MpT} {r : MpT} (q0 : D7 K a0 = some r) {H : FH} {w : World} {L : OL} {s0 : Value} (a8 : Y3 yT H s0 a0) (hS : St H w L) :
 Calls Tryz.prog 29 #[vA ([s0])] w (T6 (fun v G => (R.agg (X6 yT)).p (G.new H) v r) H L) := by
 have Z2 := Sub.refl H
 refine X0 Tryz.func29 rfl Tryz.ntmps29 rfl ?_
 unfold D7 at q0
 refine Z3 (Z1 ?_)
 refine T7 (v := vA ([s0])) ([s0]).toArray rfl rfl hS rfl ?_
 intro b1 w2 hS
 refine W9 (z := vA ([vN])) ([vN]).toArray Zb2.zero rfl hS rfl ?_
 intro b4 w5 hS
 refine Z0 (Z3 (Z1 ?_))
 refine W9 (z := vA ([vN])) ([vN]).toArray Zb2.zero rfl hS rfl ?_
 intro b7 w8 hS
 refine Z0 (Z3 (Z1 (Y2 Xn3 rfl rfl ?_)))
 refine Y4 (s0) Wj5 rfl (hS.get (mR (mR mL))) rfl rfl ?_
 obtain ⟨a4, a5, q0⟩ := bind_some q0
 refine Y8 Tryz.call108 (Q8 rfl) rfl (Yr0 a5 a8 hS) ?_
 rintro b2 b3 ⟨a3, a9, rfl, a6, hS, a1⟩
 refine ⟨_, rfl, ?_⟩
 have b0 := a1
 have a7 : RdF yT H a9 a3 a4 := Y3.mono (Zg0 Z2) a1
 have a1 := Y3.old a1
 have Z2 := Z2.trans a6
 refine Y2 V6 rfl rfl ?_
 refine Ze1 (v := a3) (cs := ([vN]).toArray) (cs' := ([a3]).toArray) R7 rfl rfl hS a1.isOne rfl (Nat.le_of_ble_eq_true rfl) rfl ?_
 intro b5 hS
 refine Z0 (Z3 (Z1 ?_))
 refine X8 U7 rfl (hS.get mL) rfl rfl ?_
 have hS := hS.perm U4
 refine W1 (v := vA ([a3])) (vs := ([a3]).toArray) (cs := ([vN]).toArray) U7 rfl rfl rfl hS rfl (S2 a1.isOne) rfl ?_
 intro b6 hS
 have hS := hS.perm U4.symm
 refine Z0 ?_
 refine Y9 (vs := [vA ([a3])]) Tryz.func29 ⟨⟨_, rfl, U8 U7 (hS.get (mR mL)) rfl⟩, trivial⟩ ?_
 have hz := Option.some.inj q0
 subst hz
 exact ⟨_, _, rfl, Z2, (St.dropA (St.dropA (St.dropA hS))), ⟨_, rfl, ⟨_, rfl, a7⟩⟩⟩
end Go.Proofs.YtfodlhkoafhplaaGreat
