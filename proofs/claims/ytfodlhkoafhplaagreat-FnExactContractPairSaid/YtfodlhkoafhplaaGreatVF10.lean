/- Walks of functions: each computes its pure function, if that gives a value. -/
import Derived.Test.YtfodlhkoafhplaaGreatVTy
import Derived.Test.YtfodlhkoafhplaaGreatVF4
import Derived.Test.YtfodlhkoafhplaaGreatVF6
import Derived.Test.YtfodlhkoafhplaaGreatVF9
import Derived.Test.YtfodlhkoafhplaaGreatVF2
import Derived.Test.YtfodlhkoafhplaaGreatVF3
import Derived.Test.YtfodlhkoafhplaaGreatVF8
namespace Go.Proofs.YtfodlhkoafhplaaGreat
open Go
set_option linter.unusedSimpArgs false
set_option linter.unusedVariables false
set_option maxRecDepth 100000
set_option maxHeartbeats 8000000
def Zj6 (K : Nat) (z7 : Int → A8 → A8 → Option (Ex MpT (A8 × A8))) (a4 : Int) (a8 : Int) (b0 : A8) (b8 : A8) : Option (Ex MpT (A8 × A8)) := (if a8 ≤ a4 then z7 (a8 + 1) b8 (S3 b0 a8 0) else z7 (a8 + 1) b8 b0)
def Zj7 (K : Nat) (lk1 : Int → MpT → Option (Ex MpT (MpT))) (a0 : ((List Int) × (List MpT))) (a1 : MpT) (a3 : Int) (a4 : Int) (a9 : MpT) (a7 : A8) (b2 : A8) (c6 : Int) : Option (Ex MpT (MpT)) := ((J5 K (S3 a7 a4 (IntKind.u8.wrap ((Y5 ((rd a1 a3).1) a4) - 1))) 1).bind fun m5 => (if a4 < (a0.2.length : Int) then ((D9 K a0.1 m5 (rd a0.2 a4)).bind fun m6 => ((J5 K b2 1).bind fun m7 => ((D9 K a0.1 m6 m7).bind fun m8 => ((Za1 K c6).bind fun m9 => ((Zc6 K a9 m8 m9).bind fun l0 => lk1 (a4 + 1) l0))))) else none))
def D4 (K : Nat) (a4 : Int) : Nat → Int → A8 → A8 → Option (Ex MpT (A8 × A8))
 | 0, _, _, _ => none
 | k + 1, a8, b5, b0 => (if a8 < 8 then (if a4 ≤ a8 then Zj6 K (D4 K a4 k) a4 a8 b0 (S3 b5 a8 0) else Zj6 K (D4 K a4 k) a4 a8 b0 b5) else some (.go (b5, b0)))
def I7 (K : Nat) (a0 : ((List Int) × (List MpT))) (a1 : MpT) (a3 : Int) : Nat → Int → MpT → Option (Ex MpT (MpT))
 | 0, _, _ => none
 | k + 1, a4, a9 => (if a4 < (a0.1.length : Int) then (if a4 < 8 then (if (Y5 ((rd a1 a3).1) a4) = 0 then I7 K a0 a1 a3 k (a4 + 1) a9 else ((D4 K a4 K 0 ((rd a1 a3).1) ((rd a1 a3).1)).bind (Ex.elim (fun r => some (.ret r)) (fun s => (fun (a7 : A8) (b2 : A8) => ((Zc3 K a0.1 a7).bind fun i5 => (if ((i5).tmod 2) = 0 then Zj7 K (I7 K a0 a1 a3 k) a0 a1 a3 a4 a9 a7 b2 (IntKind.i64.wrap ((rd a1 a3).2 * (IntKind.i64.wrap (Y5 ((rd a1 a3).1) a4)))) else Zj7 K (I7 K a0 a1 a3 k) a0 a1 a3 a4 a9 a7 b2 (IntKind.i64.wrap (0 - (IntKind.i64.wrap ((rd a1 a3).2 * (IntKind.i64.wrap (Y5 ((rd a1 a3).1) a4))))))))) s.1 s.2)))) else none) else some (.go a9))
def Zf6 (K : Nat) (a0 : ((List Int) × (List MpT))) (a1 : MpT) : Nat → Int → MpT → Option (Ex MpT (MpT))
 | 0, _, _ => none
 | k + 1, a3, c0 => (if a3 < (a1.length : Int) then ((I7 K a0 a1 a3 K 0 c0).bind (Ex.elim (fun r => some (.ret r)) (fun s => (fun (c5 : MpT) => Zf6 K a0 a1 k (a3 + 1) c5) s))) else some (.go c0))
def Zx5 (K : Nat) (a0 : ((List Int) × (List MpT))) (a1 : MpT) : Option MpT := ((Zf6 K a0 a1 K 0 ([] : List (A8 × Int))).bind (Ex.elim (fun r => some r) (fun s => (fun (c8 : MpT) => some c8) s)))
theorem Xh1 {K : Nat} {a0 : ((List Int) × (List MpT))} {a1 : MpT} {r : MpT} (q0 : Zx5 K a0 a1 = some r) {H : FH} {w : World} {L : OL} {s0 : Value} {s1 : Value} {s2 : Value} (b3 : Y1 (Y6 .i64) H s0 a0.1) (b9 : Y1 (X6 yT) H s1 a0.2) (b6 : Y1 yT H s2 a1) (hS : St H w L) :
 Calls Tryz.prog 123 #[vA ([s0] ++ [s1]), vA ([s2])] w (T2 (fun v G => (R.agg (X6 yT)).p G v r) H L) := by
 have Z2 := Sub.refl H
 refine X3 Tryz.func123 rfl Tryz.ntmps123 rfl ?_
 unfold Zx5 at q0
 refine Z3 (Z0 ?_)
 refine S4 (v := vA ([s0] ++ [s1])) ([s0] ++ [s1]).toArray rfl rfl hS rfl ?_
 intro b1 w2 hS
 refine S4 (v := vA ([s2])) ([s2]).toArray rfl rfl hS rfl ?_
 intro b4 w5 hS
 refine V1 (z := vA ([vN])) ([vN]).toArray Zd2.zero rfl hS rfl ?_
 intro b7 w8 hS
 refine Z1 (Z3 (Z0 ?_))
 refine Q1 (vA ([vN])) Yi3 rfl ?_
 refine V1 (z := vA ([vN])) ([vN]).toArray Zd2.zero rfl hS rfl ?_
 intro c4 w11 hS
 refine W0 (v := vA ([vN])) (vs := ([vN]).toArray) (cs := ([vN]).toArray) T1 rfl rfl rfl hS rfl (T8 rfl) rfl ?_
 intro w13 hS
 refine Z1 (Z3 (Z3 (Z0 (Z5 (vI 0) rfl rfl (Z1 (Y8 ?_))))))
 have q5 : Y1 yT H (.slice none 0 0) ([] : List (A8 × Int)) := Y1.nil
 obtain ⟨q6, d7, q7⟩ := bind_some q0
 refine W5 (id := 0) (fun k f w => ∃ (a3 : Int) (c0 : MpT) (H1 : FH) (c2 : Value), Zf6 K a0 a1 k a3 c0 = some q6 ∧ Sub H H1 ∧ St H1 w ([(c4, cA ([c2]) 47)] ++ ([(b7, cA ([vN]) 47)] ++ ([(b4, cA ([s2]) 47)] ++ ([(b1, cA ([s0] ++ [s1]) 29)] ++ L)))) ∧ 0 ≤ a3 ∧ Y1 yT H1 c2 c0 ∧ Y1 (Y6 .i64) H1 s0 a0.1 ∧ Y1 (X6 yT) H1 s1 a0.2 ∧ Y1 yT H1 s2 a1 ∧ ev f (.tmp 2) = vP b1 ∧ ev f (.tmp 3) = vP b4 ∧ ev f (.tmp 4) = vP b7 ∧ ev f (.tmp 5) = vP c4 ∧ ev f (.tmp 6) = vI a3) (fun f w => ∃ (c8 : MpT) (H1 : FH) (c3 : Value), q6 = .go c8 ∧ Sub H H1 ∧ St H1 w ([(c4, cA ([c3]) 47)] ++ ([(b7, cA ([vN]) 47)] ++ ([(b4, cA ([s2]) 47)] ++ ([(b1, cA ([s0] ++ [s1]) 29)] ++ L)))) ∧ Y1 yT H1 c3 c8 ∧ Y1 (Y6 .i64) H1 s0 a0.1 ∧ Y1 (X6 yT) H1 s1 a0.2 ∧ Y1 yT H1 s2 a1 ∧ ev f (.tmp 4) = vP b7 ∧ ev f (.tmp 5) = vP c4) rfl ?_ ?_ K ?_ ?_
 rintro f w ⟨a3, c0, H1, c2, d7, _⟩
 rw [Zf6] at d7; cases d7
 rintro k ac6 ac7 ih0 hx0 ⟨a3, c0, q8, c2, d7, Z2, hS, a41, e6, b3, b9, b6, o5, f8, j5, j6, f9⟩
 rw [Zf6] at d7
 refine Z3 (Z3 (Z0 (Z4 (vI a3) (by exact f9) rfl (Y3 U4 (by exact f8) rfl ?_))))
 refine Y4 (s2) Q7 rfl (hS.get (mR (mR mL))) rfl rfl ?_
 have ac8 := b6.bound
 refine W7 R5 rfl b6 rfl ?_
 refine V7 (k := .i64) (a := a3) (b := (a1.length : Int)) rfl rfl rfl (Z1 ?_)
 by_cases l1 : a3 < (a1.length : Int)
 rw [if_pos l1] at d7
 refine Y0 (bT l1 rfl) (Y7 (Z3 (Y8 (Z3 (Z0 (Y3 U4 (by exact f8) rfl ?_))))))
 refine Y4 (s2) Q7 rfl (hS.get (mR (mR mL))) rfl rfl (Z4 (vI a3) (by exact f9) rfl ?_)
 obtain ⟨b16, o16, ac9, E16, _, a07, a08, ⟨_, _, rfl, rfl, rfl⟩, a09⟩ := b6.elem (i := a3) (by omega) (by omega)
 refine W3 R5 rfl rfl a07 rfl (by omega) (by omega) rfl (Y3 N1 rfl rfl ?_)
 refine V6 (Z7 .u8 ((rd a1 a3).1)) N6 rfl (hS.froz _ _ a08) rfl (Zh1 ([]) (Z7 .u8 ((rd a1 a3).1)) (([vI ((rd a1 a3).2)])) a09 (Nat.le_of_ble_eq_true rfl)) rfl ?_
 refine V1 (z := vA (Z7 .u8 (fun _ => 0))) (Z7 .u8 (fun _ => 0)).toArray Yi6.zero rfl hS rfl ?_
 intro c9 w18 hS
 refine W0 (v := vA (Z7 .u8 ((rd a1 a3).1))) (vs := (Z7 .u8 ((rd a1 a3).1)).toArray) (cs := (Z7 .u8 (fun _ => 0)).toArray) N6 rfl rfl rfl hS rfl (S9 .u8 ((rd a1 a3).1)) rfl ?_
 intro w20 hS
 refine Z1 (Z3 (Z0 (Z5 (vI 0) rfl rfl (Z1 (Y8 ?_)))))
 obtain ⟨n0, c7, q9⟩ := bind_some d7
 refine W5 (id := 2) (fun k f w => ∃ (a4 : Int) (a9 : MpT) (H1 : FH) (a6 : Value), I7 K a0 a1 a3 k a4 a9 = some n0 ∧ Sub H H1 ∧ St H1 w ([(c9, cA (Z7 .u8 ((rd a1 a3).1)) 70)] ++ ([(c4, cA ([a6]) 47)] ++ ([(b7, cA ([vN]) 47)] ++ ([(b4, cA ([s2]) 47)] ++ ([(b1, cA ([s0] ++ [s1]) 29)] ++ L))))) ∧ 0 ≤ a4 ∧ Y1 yT H1 a6 a9 ∧ Y1 (Y6 .i64) H1 s0 a0.1 ∧ Y1 (X6 yT) H1 s1 a0.2 ∧ Y1 yT H1 s2 a1 ∧ ev f (.tmp 2) = vP b1 ∧ ev f (.tmp 3) = vP b4 ∧ ev f (.tmp 4) = vP b7 ∧ ev f (.tmp 5) = vP c4 ∧ ev f (.tmp 6) = vI a3 ∧ ev f (.tmp 7) = vP c9 ∧ ev f (.tmp 8) = vI a4) (fun f w => ∃ (c5 : MpT) (H1 : FH) (d2 : Value), n0 = .go c5 ∧ Sub H H1 ∧ St H1 w ([(c9, cA (Z7 .u8 ((rd a1 a3).1)) 70)] ++ ([(c4, cA ([d2]) 47)] ++ ([(b7, cA ([vN]) 47)] ++ ([(b4, cA ([s2]) 47)] ++ ([(b1, cA ([s0] ++ [s1]) 29)] ++ L))))) ∧ Y1 yT H1 d2 c5 ∧ Y1 (Y6 .i64) H1 s0 a0.1 ∧ Y1 (X6 yT) H1 s1 a0.2 ∧ Y1 yT H1 s2 a1 ∧ ev f (.tmp 2) = vP b1 ∧ ev f (.tmp 3) = vP b4 ∧ ev f (.tmp 4) = vP b7 ∧ ev f (.tmp 5) = vP c4 ∧ ev f (.tmp 6) = vI a3) rfl ?_ ?_ K ?_ ?_
 rintro f w ⟨a4, a9, H1, a6, c7, _⟩
 rw [I7] at c7; cases c7
 rintro k ad0 ad1 z8 hx1 ⟨a4, a9, r0, a6, c7, Z2, hS, a43, a5, b3, b9, b6, e1, g0, g1, g2, g3, d8, e2⟩
 rw [I7] at c7
 refine Z3 (Z3 (Z0 (Z4 (vI a4) (by exact e2) rfl (Y3 R8 (by exact e1) rfl ?_))))
 refine Y4 (s0) K9 rfl (hS.get (mR (mR (mR (mR mL))))) rfl rfl ?_
 have ad2 := b3.bound
 refine W7 Q2 rfl b3 rfl ?_
 refine V7 (k := .i64) (a := a4) (b := (a0.1.length : Int)) rfl rfl rfl (Z1 ?_)
 by_cases l2 : a4 < (a0.1.length : Int)
 rw [if_pos l2] at c7
 refine Y0 (bT l2 rfl) (Y7 (Z3 (Y8 (Z3 (Z3 (Z0 (Z4 (vI a4) (by exact e2) rfl ?_)))))))
 obtain ⟨ad3, c7⟩ := gd c7
 refine V5 Zd3 (by exact d8) rfl (by omega) (by omega) rfl ?_
 refine Y4 (Value.int .u8 (Y5 ((rd a1 a3).1) a4)) ty5 rfl (hS.get (o := cA (Z7 .u8 ((rd a1 a3).1)) 70) mL) (M7 ([]) ([]) (by omega) (by omega)) rfl ?_
 refine Za4 (k := .u8) (a := (Y5 ((rd a1 a3).1) a4)) (b := 0) rfl rfl rfl (Z1 ?_)
 by_cases l3 : (Y5 ((rd a1 a3).1) a4) = 0
 rw [if_pos l3] at c7
 refine Y0 (bT l3 rfl) ?_
 refine W4 rfl (Z0 (Z4 (vI a4) (by exact e2) rfl ?_))
 refine W8 (a4 + 1) rfl rfl (IntWalk.i64_in _ (by omega)) rfl (Z5 (vI (a4 + 1)) rfl rfl (Z1 ?_))
 exact z8 _ _ ⟨(a4 + 1), a9, r0, a6, c7, Z2, hS, (by omega), a5, b3, b9, b6, e1, g0, g1, g2, g3, d8, rfl⟩
 rw [if_neg l3] at c7
 refine Z8 (bF l3 rfl) (Y7 (Z3 ?_))
 refine U6 6 (P9 [(40, MP.eq (vA (Z7 .u8 ((rd a1 a3).1)))), (41, MP.eq (vA (Z7 .u8 ((rd a1 a3).1)))), (9, MP.box (cA (Z7 .u8 (fun _ => 0)) 70)), (10, MP.box (cA (Z7 .u8 (fun _ => 0)) 70))]) [Co.st 2 9 4 0 40 (Ye7 70), Co.st 3 10 5 1 41 (Ye7 70)] mixed rfl (Yj3 (ns := [(2, 9, 4, 0, 40), (3, 10, 5, 1, 41)]) rfl rfl) rfl hS (Z6 rfl ?_ (Z6 rfl ?_ (Z6 rfl ?_ (Z6 rfl ?_ (Yv4 rfl ?_ (Yv4 rfl ?_ U8)))))) ?_
 intro f25 w26 H27 X28 ad4 hS a10 ad5 hcq
 refine W2 N6 (evT (a10 7 rfl) d8) (hS.get (mR mL)) rfl rfl ?_
 exact qn (.refl _) rfl hS rfl
 intro f34 w35 H36 X37 ad6 hS a11 ad7 hcq
 refine W2 N6 (evT (a11 7 rfl) d8) (hS.get (mR mL)) rfl rfl ?_
 exact qn (.refl _) rfl hS rfl
 intro f43 w44 H45 X46 ad8 hS ad9 ae0 hcq
 refine V1 (z := vA (Z7 .u8 (fun _ => 0))) (Z7 .u8 (fun _ => 0)).toArray Yi6.zero rfl hS rfl ?_
 intro b51 w52 hS
 exact qn (.refl _) rfl hS ⟨_, rfl⟩
 intro f54 w55 H56 X57 ae1 hS ae2 ae3 hcq
 refine V1 (z := vA (Z7 .u8 (fun _ => 0))) (Z7 .u8 (fun _ => 0)).toArray Yi6.zero rfl hS rfl ?_
 intro b62 w63 hS
 exact qn (.refl _) rfl hS ⟨_, rfl⟩
 intro i6 w66 z9 X68 ae4 hS ae5 r1 hcq
 have Z2 := Sub.refl z9
 obtain ⟨b73, m1⟩ := r1 2 9 rfl rfl
 have m1 : i6 9 = vP b73 := m1
 have hS : St z9 w66 (Zo8 (cA (Z7 .u8 (fun _ => 0)) 70) (i6 9) ++ (X68 ++ ([(c9, cA (Z7 .u8 ((rd a1 a3).1)) 70)] ++ ([(c4, cA ([a6]) 47)] ++ ([(b7, cA ([vN]) 47)] ++ ([(b4, cA ([s2]) 47)] ++ ([(b1, cA ([s0] ++ [s1]) 29)] ++ L))))))) := hS
 rw [m1] at hS
 have q76 : ev i6 (.tmp 9) = vP b73 := m1
 have q77 : ev i6 (.tmp 40) = vA (Z7 .u8 ((rd a1 a3).1)) := r1 0 40 rfl rfl
 refine W0 (v := vA (Z7 .u8 ((rd a1 a3).1))) (vs := (Z7 .u8 ((rd a1 a3).1)).toArray) (cs := (Z7 .u8 (fun _ => 0)).toArray) N6 q76 q77 rfl hS rfl (S9 .u8 ((rd a1 a3).1)) rfl ?_
 intro w78 hS
 have g79 : i6 40 = vA (Z7 .u8 ((rd a1 a3).1)) := q77
 exact Z1 ⟨_, rfl, rfl, Z2, by show St _ _ (Zo8 (Ye7 70 (i6 40)) (i6 9) ++ _); rw [m1, g79]; exact hS, trivial⟩
 intro i7 w81 H82 X83 ae6 hS ae7 r2 hcq
 have Z2 := Sub.refl H82
 obtain ⟨b88, m2⟩ := r2 3 10 rfl rfl
 have m2 : i7 10 = vP b88 := m2
 have hS : St H82 w81 (Zo8 (cA (Z7 .u8 (fun _ => 0)) 70) (i7 10) ++ (X83 ++ ([(c9, cA (Z7 .u8 ((rd a1 a3).1)) 70)] ++ ([(c4, cA ([a6]) 47)] ++ ([(b7, cA ([vN]) 47)] ++ ([(b4, cA ([s2]) 47)] ++ ([(b1, cA ([s0] ++ [s1]) 29)] ++ L))))))) := hS
 rw [m2] at hS
 have q91 : ev i7 (.tmp 10) = vP b88 := m2
 have q92 : ev i7 (.tmp 41) = vA (Z7 .u8 ((rd a1 a3).1)) := r2 1 41 rfl rfl
 refine W0 (v := vA (Z7 .u8 ((rd a1 a3).1))) (vs := (Z7 .u8 ((rd a1 a3).1)).toArray) (cs := (Z7 .u8 (fun _ => 0)).toArray) N6 q91 q92 rfl hS rfl (S9 .u8 ((rd a1 a3).1)) rfl ?_
 intro w93 hS
 have g94 : i7 41 = vA (Z7 .u8 ((rd a1 a3).1)) := q92
 exact Z1 ⟨_, rfl, rfl, Z2, by show St _ _ (Zo8 (Ye7 70 (i7 41)) (i7 10) ++ _); rw [m2, g94]; exact hS, trivial⟩
 intro e7 w96 H97 i8 hS e9 h9 hcq
 have hS : St H97 w96 ((Zo8 (Ye7 70 (e7 40)) (e7 9) ++ (Zo8 (Ye7 70 (e7 41)) (e7 10) ++ ([]))) ++ ([(c9, cA (Z7 .u8 ((rd a1 a3).1)) 70)] ++ ([(c4, cA ([a6]) 47)] ++ ([(b7, cA ([vN]) 47)] ++ ([(b4, cA ([s2]) 47)] ++ ([(b1, cA ([s0] ++ [s1]) 29)] ++ L)))))) := hS
 have Z2 := Z2.trans i8
 have b3 := b3.mono i8
 have b9 := b9.mono i8
 have b6 := b6.mono i8
 have a5 := a5.mono i8
 obtain ⟨d4, g4⟩ := h9 2 9 (by decide) rfl
 have g4 : e7 9 = vP d4 := g4
 rw [g4] at hS
 have g4 : ev e7 (.tmp 9) = _ := g4
 have a12 : e7 40 = vA (Z7 .u8 ((rd a1 a3).1)) := (eM (h9 0 40 (by decide) rfl))
 rw [a12] at hS
 obtain ⟨d0, g5⟩ := h9 3 10 (by decide) rfl
 have g5 : e7 10 = vP d0 := g5
 rw [g5] at hS
 have g5 : ev e7 (.tmp 10) = _ := g5
 have a13 : e7 41 = vA (Z7 .u8 ((rd a1 a3).1)) := (eM (h9 1 41 (by decide) rfl))
 rw [a13] at hS
 refine Z1 (Z3 (Z3 (Z0 (Z5 (vI 0) rfl rfl (Z1 (Y8 ?_))))))
 obtain ⟨n1, d1, f0⟩ := bind_some c7
 refine W5 (id := 4) (fun k f w => ∃ (a8 : Int) (b5 : A8) (b0 : A8) (H1 : FH), D4 K a4 k a8 b5 b0 = some n1 ∧ Sub H H1 ∧ St H1 w ([(d4, cA (Z7 .u8 b5) 70)] ++ ([(d0, cA (Z7 .u8 b0) 70)] ++ ([(c9, cA (Z7 .u8 ((rd a1 a3).1)) 70)] ++ ([(c4, cA ([a6]) 47)] ++ ([(b7, cA ([vN]) 47)] ++ ([(b4, cA ([s2]) 47)] ++ ([(b1, cA ([s0] ++ [s1]) 29)] ++ L))))))) ∧ 0 ≤ a8 ∧ Y1 (Y6 .i64) H1 s0 a0.1 ∧ Y1 (X6 yT) H1 s1 a0.2 ∧ Y1 yT H1 s2 a1 ∧ Y1 yT H1 a6 a9 ∧ ev f (.tmp 2) = vP b1 ∧ ev f (.tmp 3) = vP b4 ∧ ev f (.tmp 4) = vP b7 ∧ ev f (.tmp 5) = vP c4 ∧ ev f (.tmp 6) = vI a3 ∧ ev f (.tmp 7) = vP c9 ∧ ev f (.tmp 8) = vI a4 ∧ ev f (.tmp 9) = vP d4 ∧ ev f (.tmp 10) = vP d0 ∧ ev f (.tmp 11) = vI a8) (fun f w => ∃ (a7 : A8) (b2 : A8) (H1 : FH), n1 = .go (a7, b2) ∧ Sub H H1 ∧ St H1 w ([(d4, cA (Z7 .u8 a7) 70)] ++ ([(d0, cA (Z7 .u8 b2) 70)] ++ ([(c9, cA (Z7 .u8 ((rd a1 a3).1)) 70)] ++ ([(c4, cA ([a6]) 47)] ++ ([(b7, cA ([vN]) 47)] ++ ([(b4, cA ([s2]) 47)] ++ ([(b1, cA ([s0] ++ [s1]) 29)] ++ L))))))) ∧ Y1 (Y6 .i64) H1 s0 a0.1 ∧ Y1 (X6 yT) H1 s1 a0.2 ∧ Y1 yT H1 s2 a1 ∧ Y1 yT H1 a6 a9 ∧ ev f (.tmp 2) = vP b1 ∧ ev f (.tmp 3) = vP b4 ∧ ev f (.tmp 4) = vP b7 ∧ ev f (.tmp 5) = vP c4 ∧ ev f (.tmp 6) = vI a3 ∧ ev f (.tmp 7) = vP c9 ∧ ev f (.tmp 8) = vI a4 ∧ ev f (.tmp 9) = vP d4 ∧ ev f (.tmp 10) = vP d0) rfl ?_ ?_ K ?_ ?_
 rintro f w ⟨a8, b5, b0, H1, d1, _⟩
 rw [D4] at d1; cases d1
 rintro k ae8 ae9 ih2 hx2 ⟨a8, b5, b0, n2, d1, Z2, hS, a37, b3, b9, b6, a5, g6, g7, g8, g9, h0, h1, e3, e4, f1, d6⟩
 rw [D4] at d1
 refine Z3 (Z3 (Z0 (Z4 (vI a8) (by exact d6) rfl ?_)))
 refine V7 (k := .i64) (a := a8) (b := 8) rfl rfl rfl (Z1 ?_)
 by_cases i0 : a8 < 8
 rw [if_pos i0] at d1
 refine Y0 (bT i0 rfl) (Y7 (Z3 (Y8 (Z3 (Z3 (Z0 (Z4 (vI a8) (by exact d6) rfl (Z4 (vI a4) (by exact e3) rfl ?_))))))))
 refine Yc2 (k := .i64) (a := a8) (b := a4) rfl rfl rfl (Z1 ?_)
 refine B6 (fun f w => ∃ (b8 : A8) (H1 : FH), Zj6 K (D4 K a4 k) a4 a8 b0 b8 = some n1 ∧ Sub H H1 ∧ St H1 w ([(d4, cA (Z7 .u8 b8) 70)] ++ ([(d0, cA (Z7 .u8 b0) 70)] ++ ([(c9, cA (Z7 .u8 ((rd a1 a3).1)) 70)] ++ ([(c4, cA ([a6]) 47)] ++ ([(b7, cA ([vN]) 47)] ++ ([(b4, cA ([s2]) 47)] ++ ([(b1, cA ([s0] ++ [s1]) 29)] ++ L))))))) ∧ Y1 (Y6 .i64) H1 s0 a0.1 ∧ Y1 (X6 yT) H1 s1 a0.2 ∧ Y1 yT H1 s2 a1 ∧ Y1 yT H1 a6 a9 ∧ ev f (.tmp 2) = vP b1 ∧ ev f (.tmp 3) = vP b4 ∧ ev f (.tmp 4) = vP b7 ∧ ev f (.tmp 5) = vP c4 ∧ ev f (.tmp 6) = vI a3 ∧ ev f (.tmp 7) = vP c9 ∧ ev f (.tmp 8) = vI a4 ∧ ev f (.tmp 9) = vP d4 ∧ ev f (.tmp 10) = vP d0 ∧ ev f (.tmp 11) = vI a8) ?_ ?_
 rintro af0 a54 ⟨b8, m3, f4, Z2, hS, b3, b9, b6, a5, j7, j8, j9, k0, k1, k2, h2, k3, f2, d9⟩
 unfold Zj6 at f4
 refine Z3 (Z0 (Z4 (vI a8) (by exact d9) rfl (Z4 (vI a4) (by exact h2) rfl ?_)))
 refine Yv7 (k := .i64) (a := a8) (b := a4) rfl rfl rfl (Z1 ?_)
 by_cases i1 : a8 ≤ a4
 rw [if_pos i1] at f4
 refine Y0 (bT i1 rfl) (Z0 (Z4 (vI a8) (by exact d9) rfl ?_))
 refine V5 Zd3 (by exact f2) rfl (by omega) (by omega) rfl ?_
 have hS := hS.perm U1
 refine Za5 (v := Value.int .u8 0) (cs := (Z7 .u8 b0).toArray) (cs' := (Z7 .u8 (S3 b0 a8 0)).toArray) ty5 rfl rfl hS rfl (Zz4 rfl) (by simp [Z7, N7]; omega) (Zi5 (by omega) (by omega)) ?_
 intro af1 hS
 have hS := hS.perm U1.symm
 refine Z1 (X2 (Z0 (Z4 (vI a8) (by exact d9) rfl ?_)))
 refine W8 (a8 + 1) rfl rfl (IntWalk.i64_in _ (by omega)) rfl (Z5 (vI (a8 + 1)) rfl rfl (Z1 ?_))
 exact ih2 _ _ ⟨(a8 + 1), b8, (S3 b0 a8 0), m3, f4, Z2, hS, (by omega), b3, b9, b6, a5, j7, j8, j9, k0, k1, k2, h2, k3, f2, rfl⟩
 rw [if_neg i1] at f4
 refine Z8 (bF i1 rfl) (Y7 (X2 (Z0 (Z4 (vI a8) (by exact d9) rfl ?_))))
 refine W8 (a8 + 1) rfl rfl (IntWalk.i64_in _ (by omega)) rfl (Z5 (vI (a8 + 1)) rfl rfl (Z1 ?_))
 exact ih2 _ _ ⟨(a8 + 1), b8, b0, m3, f4, Z2, hS, (by omega), b3, b9, b6, a5, j7, j8, j9, k0, k1, k2, h2, k3, f2, rfl⟩
 intro r3
 by_cases i2 : a4 ≤ a8
 rw [if_pos i2] at d1
 refine Y0 (bT i2 rfl) (Z0 (Z4 (vI a8) (by exact d6) rfl ?_))
 refine V5 Zd3 (by exact e4) rfl (by omega) (by omega) rfl ?_
 refine Za5 (v := Value.int .u8 0) (cs := (Z7 .u8 b5).toArray) (cs' := (Z7 .u8 (S3 b5 a8 0)).toArray) ty5 rfl rfl hS rfl (Zz4 rfl) (by simp [Z7, N7]; omega) (Zi5 (by omega) (by omega)) ?_
 intro af2 hS
 refine Z1 ?_
 exact r3 _ _ ⟨(S3 b5 a8 0), n2, d1, Z2, hS, b3, b9, b6, a5, g6, g7, g8, g9, h0, h1, e3, e4, f1, d6⟩
 rw [if_neg i2] at d1
 refine Z8 (bF i2 rfl) (Y7 ?_)
 exact r3 _ _ ⟨b5, n2, d1, Z2, hS, b3, b9, b6, a5, g6, g7, g8, g9, h0, h1, e3, e4, f1, d6⟩
 rw [if_neg i0] at d1
 refine Z8 (bF i0 rfl) ?_
 refine W4 rfl ?_
 have hz := Option.some.inj d1
 subst hz
 exact hx2 _ _ ⟨b5, b0, n2, rfl, Z2, hS, b3, b9, b6, a5, g6, g7, g8, g9, h0, h1, e3, e4, f1⟩
 exact ⟨0, ((rd a1 a3).1), ((rd a1 a3).1), H97, d1, Z2, hS, (by omega), b3, b9, b6, a5, (evT (e9 2 rfl) e1), (evT (e9 3 rfl) g0), (evT (e9 4 rfl) g1), (evT (e9 5 rfl) g2), (evT (e9 6 rfl) g3), (evT (e9 7 rfl) d8), (evT (e9 8 rfl) e2), g4, g5, rfl⟩
 rintro af3 af4 ⟨a7, b2, af5, rfl, Z2, hS, b3, b9, b6, a5, o6, k4, o7, o8, k5, h3, e5, k6, n3⟩
 dsimp only [Ex.elim] at f0
 refine Z3 (Z0 ?_)
 refine W2 N6 (by exact k6) (hS.get mL) rfl rfl ?_
 refine V1 (z := vA (Z7 .u8 (fun _ => 0))) (Z7 .u8 (fun _ => 0)).toArray Yi6.zero rfl hS rfl ?_
 intro f3 af6 hS
 refine W0 (v := vA (Z7 .u8 a7)) (vs := (Z7 .u8 a7).toArray) (cs := (Z7 .u8 (fun _ => 0)).toArray) N6 rfl rfl rfl hS rfl (S9 .u8 a7) rfl ?_
 intro af7 hS
 refine Z1 (Z3 (Z0 (Z4 (vI a4) (by exact e5) rfl (Z4 (vI a4) (by exact e5) rfl ?_))))
 refine V5 Zd3 (by exact h3) rfl (by omega) (by omega) rfl ?_
 refine Y4 (Value.int .u8 (Y5 ((rd a1 a3).1) a4)) ty5 rfl (hS.get (o := cA (Z7 .u8 ((rd a1 a3).1)) 70) (mR (mR (mR mL)))) (M7 ([]) ([]) (by omega) (by omega)) rfl ?_
 refine Yc4 (IntKind.u8.wrap ((Y5 ((rd a1 a3).1) a4) - 1)) rfl rfl rfl rfl ?_
 refine V5 Zd3 rfl rfl (by omega) (by omega) rfl ?_
 refine Za5 (v := Value.int .u8 (IntKind.u8.wrap ((Y5 ((rd a1 a3).1) a4) - 1))) (cs := (Z7 .u8 a7).toArray) (cs' := (Z7 .u8 (S3 a7 a4 (IntKind.u8.wrap ((Y5 ((rd a1 a3).1) a4) - 1)))).toArray) ty5 rfl rfl hS rfl (Zz4 rfl) (by simp [Z7, N7]; omega) (Zi5 (by omega) (by omega)) ?_
 intro af8 hS
 refine Z1 (Z3 ?_)
 obtain ⟨r4, r5, a60, af9, _, u1, l4, ⟨_, _, rfl, rfl, rfl⟩, u2⟩ := b6.elem (i := a3) (by omega) (by omega)
 refine U6 12 (P9 [(63, MP.eq (vP b4)), (64, MP.eq (s2)), (65, MP.eq (vI a3)), (66, MP.eq (Value.pointer (some ⟨r4, r5, none⟩))), (67, MP.eq (Value.pointer (some ⟨r4, r5 + 8, none⟩))), (68, MP.eq (vI ((rd a1 a3).2))), (69, MP.eq (vI a4)), (70, MP.eq (Value.pointer (some ⟨c9, 0 + (a4).toNat * 1, none⟩))), (71, MP.eq (Value.int .u8 (Y5 ((rd a1 a3).1) a4))), (72, MP.eq (vI (IntKind.i64.wrap (Y5 ((rd a1 a3).1) a4)))), (73, MP.eq (vI (IntKind.i64.wrap ((rd a1 a3).2 * (IntKind.i64.wrap (Y5 ((rd a1 a3).1) a4)))))), (13, MP.eq (vI (IntKind.i64.wrap ((rd a1 a3).2 * (IntKind.i64.wrap (Y5 ((rd a1 a3).1) a4))))))]) [] mixed rfl rfl rfl hS (Z6 rfl ?_ (Z6 rfl ?_ (Z6 rfl ?_ (Z6 rfl ?_ (Z6 rfl ?_ (Z6 rfl ?_ (Z6 rfl ?_ (Z6 rfl ?_ (Z6 rfl ?_ (Z6 rfl ?_ (Z6 rfl ?_ (Z6 rfl ?_ U8)))))))))))) ?_
 intro ag0 ag1 ag2 ag3 a61 hS u3 a62 hcq
 refine Y3 U4 (evT (u3 3 rfl) k4) rfl ?_
 exact qn (.refl _) rfl hS rfl
 intro ag4 ag5 ag6 ag7 a63 hS a64 u4 hcq
 refine Y4 (s2) Q7 (eM (u4 0 63 rfl rfl)) (hS.get (mR (mR (mR (mR (mR (mR (mR mL)))))))) rfl rfl ?_
 exact qn (.refl _) rfl hS rfl
 intro ag8 ag9 ah0 ah1 a65 hS u5 a66 hcq
 refine Z4 (vI a3) (evT (u5 6 rfl) k5) rfl ?_
 exact qn (.refl _) rfl hS rfl
 intro ah2 ah3 ah4 ah5 a67 hS a68 n8 hcq
 refine W3 R5 rfl (eM (n8 1 64 rfl rfl)) u1 (eM (n8 2 65 rfl rfl)) (by omega) (by omega) rfl ?_
 exact qn (.refl _) rfl hS rfl
 intro ah6 ah7 ah8 ah9 a69 hS a70 u6 hcq
 refine Y3 Zd9 (eM (u6 3 66 rfl rfl)) rfl ?_
 exact qn (.refl _) rfl hS rfl
 intro ai0 ai1 ai2 ai3 u7 hS a71 u8 hcq
 have l4 := u7.1 _ _ l4
 refine Y4 (vI ((rd a1 a3).2)) ty2 (eM (u8 4 67 rfl rfl)) (hS.froz _ _ l4) (u2 8 (show 8 < 9 by decide)) rfl ?_
 exact qn (.refl _) rfl hS rfl
 intro ai4 ai5 ai6 ai7 a72 hS u9 a73 hcq
 refine Z4 (vI a4) (evT (u9 8 rfl) e5) rfl ?_
 exact qn (.refl _) rfl hS rfl
 intro ai8 ai9 aj0 aj1 a74 hS v0 v1 hcq
 refine V5 Zd3 (evT (v0 7 rfl) h3) (eM (v1 6 69 rfl rfl)) (by omega) (by omega) rfl ?_
 exact qn (.refl _) rfl hS rfl
 intro aj2 aj3 aj4 aj5 a75 hS a76 v2 hcq
 refine Y4 (Value.int .u8 (Y5 ((rd a1 a3).1) a4)) ty5 (eM (v2 7 70 rfl rfl)) (hS.get (o := cA (Z7 .u8 ((rd a1 a3).1)) 70) (mR (mR (mR (mR mL))))) (M7 ([]) ([]) (by omega) (by omega)) rfl ?_
 exact qn (.refl _) rfl hS rfl
 intro aj6 aj7 aj8 aj9 a77 hS a78 v3 hcq
 refine Yh0 (s := .u8) ((IntKind.i64.wrap (Y5 ((rd a1 a3).1) a4))) Xz2 (eM (v3 8 71 rfl rfl)) rfl rfl ?_
 exact qn (.refl _) rfl hS rfl
 intro ak0 ak1 ak2 ak3 a79 hS a80 n9 hcq
 refine Zo2 (IntKind.i64.wrap ((rd a1 a3).2 * (IntKind.i64.wrap (Y5 ((rd a1 a3).1) a4)))) (eM (n9 5 68 rfl rfl)) (eM (n9 9 72 rfl rfl)) rfl rfl ?_
 exact qn (.refl _) rfl hS rfl
 intro ak4 ak5 ak6 ak7 a81 hS a82 v4 hcq
 refine Z5 (vI (IntKind.i64.wrap ((rd a1 a3).2 * (IntKind.i64.wrap (Y5 ((rd a1 a3).1) a4))))) (eM (v4 10 73 rfl rfl)) rfl ?_
 exact qn (.refl _) rfl hS rfl
 intro r6 a14 a15 f5 hS d3 v5 hcq
 have hS : St a15 a14 ([(f3, cA (Z7 .u8 (S3 a7 a4 (IntKind.u8.wrap ((Y5 ((rd a1 a3).1) a4) - 1)))) 70)] ++ ([(d4, cA (Z7 .u8 a7) 70)] ++ ([(d0, cA (Z7 .u8 b2) 70)] ++ ([(c9, cA (Z7 .u8 ((rd a1 a3).1)) 70)] ++ ([(c4, cA ([a6]) 47)] ++ ([(b7, cA ([vN]) 47)] ++ ([(b4, cA ([s2]) 47)] ++ ([(b1, cA ([s0] ++ [s1]) 29)] ++ L)))))))) := hS
 have Z2 := Z2.trans f5
 have b3 := b3.mono f5
 have b9 := b9.mono f5
 have b6 := b6.mono f5
 have a5 := a5.mono f5
 have n4 := evT (d3 2 rfl) o6
 have r7 := evT (d3 3 rfl) k4
 have r8 := evT (d3 4 rfl) o7
 have r9 := evT (d3 5 rfl) o8
 have s3 := evT (d3 6 rfl) k5
 have s4 := evT (d3 7 rfl) h3
 have s5 := evT (d3 8 rfl) e5
 have s6 := evT (d3 10 rfl) n3
 have s7 : ev r6 (.tmp 12) = vP f3 := Eq.trans (d3 12 rfl) rfl
 have s8 : ev r6 (.tmp 13) = vI (IntKind.i64.wrap ((rd a1 a3).2 * (IntKind.i64.wrap (Y5 ((rd a1 a3).1) a4)))) := v5 11 13 (by decide) rfl
 refine Z1 (Z3 (Z3 (Z0 (Y3 R8 (by exact n4) rfl ?_))))
 refine Y4 (s0) K9 rfl (hS.get (mR (mR (mR (mR (mR (mR (mR mL)))))))) rfl rfl ?_
 refine W2 N6 (by exact (evT (d3 9 rfl) k6)) (hS.get (mR mL)) rfl rfl ?_
 obtain ⟨i5, v6, f0⟩ := bind_some f0
 refine Y9 Tryz.call216 (U7 rfl rfl) rfl (Zu4 v6 b3 hS) ?_
 rintro ak8 ak9 ⟨_, s9, rfl, f6, hS, rfl⟩
 refine ⟨_, rfl, ?_⟩
 have Z2 := Z2.trans f6
 have b3 := b3.mono f6
 have b9 := b9.mono f6
 have b6 := b6.mono f6
 have a5 := a5.mono f6
 refine Zh4 ((i5).tmod 2) rfl rfl (by decide) rfl rfl ?_
 refine J2 (k := .i64) (a := ((i5).tmod 2)) (b := 0) rfl rfl rfl (Z1 ?_)
 refine B6 (fun f w => ∃ (c6 : Int) (H1 : FH), Zj7 K (I7 K a0 a1 a3 k) a0 a1 a3 a4 a9 a7 b2 c6 = some n0 ∧ Sub H H1 ∧ St H1 w ([(f3, cA (Z7 .u8 (S3 a7 a4 (IntKind.u8.wrap ((Y5 ((rd a1 a3).1) a4) - 1)))) 70)] ++ ([(d4, cA (Z7 .u8 a7) 70)] ++ ([(d0, cA (Z7 .u8 b2) 70)] ++ ([(c9, cA (Z7 .u8 ((rd a1 a3).1)) 70)] ++ ([(c4, cA ([a6]) 47)] ++ ([(b7, cA ([vN]) 47)] ++ ([(b4, cA ([s2]) 47)] ++ ([(b1, cA ([s0] ++ [s1]) 29)] ++ L)))))))) ∧ Y1 (Y6 .i64) H1 s0 a0.1 ∧ Y1 (X6 yT) H1 s1 a0.2 ∧ Y1 yT H1 s2 a1 ∧ Y1 yT H1 a6 a9 ∧ ev f (.tmp 2) = vP b1 ∧ ev f (.tmp 3) = vP b4 ∧ ev f (.tmp 4) = vP b7 ∧ ev f (.tmp 5) = vP c4 ∧ ev f (.tmp 6) = vI a3 ∧ ev f (.tmp 7) = vP c9 ∧ ev f (.tmp 8) = vI a4 ∧ ev f (.tmp 10) = vP d0 ∧ ev f (.tmp 12) = vP f3 ∧ ev f (.tmp 13) = vI c6) ?_ ?_
 rintro al0 a55 ⟨c6, a56, c1, Z2, hS, b3, b9, b6, a5, h4, o9, p0, p1, p2, p3, k7, n5, n6, n7⟩
 unfold Zj7 at c1
 refine Z3 ?_
 obtain ⟨m5, v7, c1⟩ := bind_some c1
 obtain ⟨a83, c1⟩ := gd c1
 obtain ⟨a16, a17, a84, al1, _, v8, l5, ⟨m4, rfl, h5⟩, v9⟩ := b9.elem (i := a4) (by omega) (by omega)
 obtain ⟨m6, w0, c1⟩ := bind_some c1
 refine U6 12 (P9 [(82, MP.eq (vP b1)), (83, MP.eq (s0)), (84, MP.eq (vA (Z7 .u8 (S3 a7 a4 (IntKind.u8.wrap ((Y5 ((rd a1 a3).1) a4) - 1)))))), (85, MP.rep (R.agg (X6 yT)) (m5)), (86, MP.eq (vQ b1 1)), (87, MP.eq (s1)), (88, MP.eq (vI a4)), (89, MP.eq (Value.pointer (some ⟨a16, a17, none⟩))), (90, MP.eq (vA ([m4]))), (91, MP.rep (R.agg (X6 yT)) (m6)), (14, MP.box (cA ([vN]) 47))]) [Co.st 10 14 11 9 91 (Ye7 47)] mixed rfl (Yj3 (ns := [(10, 14, 11, 9, 91)]) rfl rfl) rfl hS (Z6 rfl ?_ (Z6 rfl ?_ (Z6 rfl ?_ (Z6 rfl ?_ (Z6 rfl ?_ (Z6 rfl ?_ (Z6 rfl ?_ (Z6 rfl ?_ (Z6 rfl ?_ (Z6 rfl ?_ (Z6 rfl ?_ (Yv4 rfl ?_ U8)))))))))))) ?_
 intro al2 al3 al4 al5 a85 hS w1 a86 hcq
 refine Y3 R8 (evT (w1 2 rfl) h4) rfl ?_
 exact qn (.refl _) rfl hS rfl
 intro al6 al7 al8 al9 a87 hS a88 w3 hcq
 refine Y4 (s0) K9 (eM (w3 0 82 rfl rfl)) (hS.get (mR (mR (mR (mR (mR (mR (mR (mR mL))))))))) rfl rfl ?_
 exact qn (.refl _) rfl hS rfl
 intro am0 am1 am2 am3 a89 hS w4 a90 hcq
 refine W2 N6 (evT (w4 12 rfl) n6) (hS.get (mR mL)) rfl rfl ?_
 exact qn (.refl _) rfl hS rfl
 intro am4 am5 am6 am7 a91 hS a92 w6 hcq
 refine Y9 Tryz.call170 (U7 (eM (w6 2 84 rfl rfl)) rfl) rfl (Zi2 v7  hS) ?_
 rintro am8 am9 ⟨a18, an0, rfl, w7, hS, w9⟩
 refine ⟨a18, rfl, ?_⟩
 exact qn w7 rfl hS w9
 intro an1 an2 an3 an4 a93 hS x0 a94 hcq
 refine Y3 N8 (evT (x0 2 rfl) h4) rfl ?_
 exact qn (.refl _) rfl hS rfl
 intro an5 an6 an7 an8 a95 hS a96 x1 hcq
 refine Y4 (s1) Zf9 (eM (x1 4 86 rfl rfl)) (hS.get (mR (mR (mR (mR (mR (mR (mR (mR mL))))))))) rfl rfl ?_
 exact qn (.refl _) rfl hS rfl
 intro an9 ao0 ao1 ao2 a97 hS x2 a98 hcq
 refine Z4 (vI a4) (evT (x2 8 rfl) k7) rfl ?_
 exact qn (.refl _) rfl hS rfl
 intro ao3 ao4 ao5 ao6 a99 hS aa0 o0 hcq
 refine W3 I1 rfl (eM (o0 5 87 rfl rfl)) v8 (eM (o0 6 88 rfl rfl)) (by omega) (by omega) rfl ?_
 exact qn (.refl _) rfl hS rfl
 intro ao7 ao8 ao9 ap0 x3 hS aa1 x4 hcq
 have l5 := x3.1 _ _ l5
 refine V6 ([m4]) T1 (eM (x4 7 89 rfl rfl)) (hS.froz _ _ l5) rfl v9 rfl ?_
 exact qn (.refl _) rfl hS rfl
 intro ap1 ap2 ap3 ap4 o1 hS aa2 l6 hcq
 have b3 := b3.mono o1
 have h5 := h5.mono o1
 obtain ⟨ap5, a19, ⟨_, rfl, ⟨a57, rfl, p4⟩⟩⟩ := gvR (l6 3 85 rfl rfl)
 refine Y9 Tryz.call171 (I6 (eM (l6 1 83 rfl rfl)) a19 (eM (l6 8 90 rfl rfl))) rfl (Zo4 w0 b3 p4 h5 hS) ?_
 rintro ap6 ap7 ⟨a20, ap8, rfl, x5, hS, x6⟩
 refine ⟨a20, rfl, ?_⟩
 exact qn x5 rfl hS x6
 intro ap9 aq0 aq1 aq2 aa3 hS aa4 aa5 hcq
 refine V1 (z := vA ([vN])) ([vN]).toArray Zd2.zero rfl hS rfl ?_
 intro aq3 aq4 hS
 exact qn (.refl _) rfl hS ⟨_, rfl⟩
 intro h6 a21 t0 a22 aa6 hS aa7 o2 hcq
 have Z2 := Sub.refl t0
 obtain ⟨t1, i9⟩ := o2 10 14 rfl rfl
 have i9 : h6 14 = vP t1 := i9
 have hS : St t0 a21 (Zo8 (cA ([vN]) 47) (h6 14) ++ (a22 ++ ([(f3, cA (Z7 .u8 (S3 a7 a4 (IntKind.u8.wrap ((Y5 ((rd a1 a3).1) a4) - 1)))) 70)] ++ ([(d4, cA (Z7 .u8 a7) 70)] ++ ([(d0, cA (Z7 .u8 b2) 70)] ++ ([(c9, cA (Z7 .u8 ((rd a1 a3).1)) 70)] ++ ([(c4, cA ([a6]) 47)] ++ ([(b7, cA ([vN]) 47)] ++ ([(b4, cA ([s2]) 47)] ++ ([(b1, cA ([s0] ++ [s1]) 29)] ++ L)))))))))) := hS
 rw [i9] at hS
 have a23 : ev h6 (.tmp 14) = vP t1 := i9
 obtain ⟨aq5, t4, ⟨_, rfl, ⟨j0, rfl, p5⟩⟩⟩ := gvR (o2 9 91 rfl rfl)
 refine W0 (v := vA ([j0])) (vs := ([j0]).toArray) (cs := ([vN]).toArray) T1 a23 t4 rfl hS rfl (T8 p5.isOne) rfl ?_
 intro aq6 hS
 have a24 : h6 91 = vA ([j0]) := t4
 exact Z1 ⟨_, rfl, rfl, Z2, by show St _ _ (Zo8 (Ye7 47 (h6 91)) (h6 14) ++ _); rw [i9, a24]; exact hS, trivial⟩
 intro j1 a25 a26 f7 hS d5 o3 hcq
 have hS : St a26 a25 ((Zo8 (Ye7 47 (j1 91)) (j1 14) ++ ([])) ++ ([(f3, cA (Z7 .u8 (S3 a7 a4 (IntKind.u8.wrap ((Y5 ((rd a1 a3).1) a4) - 1)))) 70)] ++ ([(d4, cA (Z7 .u8 a7) 70)] ++ ([(d0, cA (Z7 .u8 b2) 70)] ++ ([(c9, cA (Z7 .u8 ((rd a1 a3).1)) 70)] ++ ([(c4, cA ([a6]) 47)] ++ ([(b7, cA ([vN]) 47)] ++ ([(b4, cA ([s2]) 47)] ++ ([(b1, cA ([s0] ++ [s1]) 29)] ++ L))))))))) := hS
 have Z2 := Z2.trans f7
 have a5 := a5.mono f7
 have b6 := b6.mono f7
 have b3 := b3.mono f7
 have b9 := b9.mono f7
 have t5 := evT (d5 2 rfl) h4
 have t6 := evT (d5 5 rfl) p1
 obtain ⟨aq7, a27, ⟨_, rfl, ⟨j2, rfl, h7⟩⟩⟩ := gvR (o3 9 91 (by decide) rfl)
 obtain ⟨t7, h8⟩ := o3 10 14 (by decide) rfl
 have h8 : j1 14 = vP t7 := h8
 rw [h8] at hS
 have h8 : ev j1 (.tmp 14) = _ := h8
 have a28 : j1 91 = vA ([j2]) := a27
 rw [a28] at hS
 refine Z1 ?_
 obtain ⟨m7, x7, c1⟩ := bind_some c1
 obtain ⟨m8, x8, c1⟩ := bind_some c1
 obtain ⟨m9, x9, c1⟩ := bind_some c1
 obtain ⟨l0, y0, c1⟩ := bind_some c1
 refine U6 10 (P9 [(92, MP.eq (vA ([a6]))), (93, MP.eq (vP b1)), (94, MP.eq (s0)), (95, MP.eq (vA ([j2]))), (96, MP.eq (vA (Z7 .u8 b2))), (97, MP.rep (R.agg (X6 yT)) (m7)), (98, MP.rep (R.agg (X6 yT)) (m8)), (99, MP.eq (vI c6)), (100, MP.eq (vI m9)), (101, MP.rep (R.agg (X6 yT)) (l0))]) [] mixed rfl rfl rfl hS (Z6 rfl ?_ (Z6 rfl ?_ (Z6 rfl ?_ (Z6 rfl ?_ (Z6 rfl ?_ (Z6 rfl ?_ (Z6 rfl ?_ (Z6 rfl ?_ (Z6 rfl ?_ (Z6 rfl ?_ U8)))))))))) ?_
 intro aq8 aq9 ar0 ar1 aa8 hS y1 aa9 hcq
 refine W2 T1 (evT (y1 5 rfl) t6) (hS.get (mR (mR (mR (mR (mR (mR mL))))))) rfl rfl ?_
 exact qn (.refl _) rfl hS rfl
 intro ar2 ar3 ar4 ar5 ab0 hS y2 ab1 hcq
 refine Y3 R8 (evT (y2 2 rfl) t5) rfl ?_
 exact qn (.refl _) rfl hS rfl
 intro ar6 ar7 ar8 ar9 ab2 hS ab3 y3 hcq
 refine Y4 (s0) K9 (eM (y3 1 93 rfl rfl)) (hS.get (mR (mR (mR (mR (mR (mR (mR (mR (mR mL)))))))))) rfl rfl ?_
 exact qn (.refl _) rfl hS rfl
 intro as0 as1 as2 as3 ab4 hS y4 ab5 hcq
 refine W2 T1 (evT (y4 14 rfl) h8) (hS.get (mR mL)) rfl rfl ?_
 exact qn (.refl _) rfl hS rfl
 intro as4 as5 as6 as7 ab6 hS y5 ab7 hcq
 refine W2 N6 (evT (y5 10 rfl) (evT (d5 10 rfl) n5)) (hS.get (mR (mR (mR (mR mL))))) rfl rfl ?_
 exact qn (.refl _) rfl hS rfl
 intro as8 as9 at0 at1 ab8 hS ab9 y6 hcq
 refine Y9 Tryz.call170 (U7 (eM (y6 4 96 rfl rfl)) rfl) rfl (Zi2 x7  hS) ?_
 rintro at2 at3 ⟨a29, at4, rfl, y7, hS, y8⟩
 refine ⟨a29, rfl, ?_⟩
 exact qn y7 rfl hS y8
 intro at5 at6 at7 at8 o4 hS ac0 l7 hcq
 have b3 := b3.mono o4
 have h7 := h7.mono o4
 obtain ⟨at9, a30, ⟨_, rfl, ⟨a58, rfl, p6⟩⟩⟩ := gvR (l7 5 97 rfl rfl)
 refine Y9 Tryz.call171 (I6 (eM (l7 2 94 rfl rfl)) (eM (l7 3 95 rfl rfl)) a30) rfl (Zo4 x8 b3 h7 p6 hS) ?_
 rintro au0 au1 ⟨a31, au2, rfl, y9, hS, z0⟩
 refine ⟨a31, rfl, ?_⟩
 exact qn y9 rfl hS z0
 intro au3 au4 au5 au6 ac1 hS z1 ac2 hcq
 refine Z4 (vI c6) (evT (z1 13 rfl) (evT (d5 13 rfl) n7)) rfl ?_
 exact qn (.refl _) rfl hS rfl
 intro au7 au8 au9 av0 ac3 hS ac4 z2 hcq
 refine Y9 Tryz.call217 (R0 (eM (z2 7 99 rfl rfl))) rfl (Zc2 x9  hS) ?_
 rintro av1 av2 ⟨_, av3, rfl, z3, hS, rfl⟩
 refine ⟨_, rfl, ?_⟩
 exact qn z3 rfl hS rfl
 intro av4 av5 av6 av7 z4 hS ac5 l9 hcq
 have a5 := a5.mono z4
 obtain ⟨av8, a32, ⟨_, rfl, ⟨a59, rfl, p7⟩⟩⟩ := gvR (l9 6 98 rfl rfl)
 refine Y9 Tryz.call143 (I6 (eM (l9 0 92 rfl rfl)) a32 (eM (l9 8 100 rfl rfl))) rfl (Zt1 y0 a5 p7 hS) ?_
 rintro av9 aw0 ⟨a33, aw1, rfl, z5, hS, m0⟩
 refine ⟨a33, rfl, ?_⟩
 have m0 := ((R.agg (X6 yT))).mono (Zy9 _ _) m0
 exact qn z5 rfl hS m0
 intro aw2 a34 t8 i3 hS e0 z6 hcq
 have hS : St t8 a34 ([(t7, cA ([j2]) 47)] ++ ([(f3, cA (Z7 .u8 (S3 a7 a4 (IntKind.u8.wrap ((Y5 ((rd a1 a3).1) a4) - 1)))) 70)] ++ ([(d4, cA (Z7 .u8 a7) 70)] ++ ([(d0, cA (Z7 .u8 b2) 70)] ++ ([(c9, cA (Z7 .u8 ((rd a1 a3).1)) 70)] ++ ([(c4, cA ([a6]) 47)] ++ ([(b7, cA ([vN]) 47)] ++ ([(b4, cA ([s2]) 47)] ++ ([(b1, cA ([s0] ++ [s1]) 29)] ++ L))))))))) := hS
 have Z2 := Z2.trans i3
 have b6 := b6.mono i3
 have b3 := b3.mono i3
 have b9 := b9.mono i3
 have t9 := evT (e0 5 rfl) t6
 obtain ⟨aw3, a35, ⟨_, rfl, ⟨j3, rfl, k8⟩⟩⟩ := gvR (z6 9 101 (by decide) rfl)
 have hS := hS.perm Yj0
 refine W0 (v := vA ([j3])) (vs := ([j3]).toArray) (cs := ([a6]).toArray) T1 (by exact t9) (by exact a35) rfl hS rfl (T8 k8.isOne) rfl ?_
 intro aw4 hS
 have hS := hS.perm Yj0.symm
 refine Z1 (X2 (Z0 (Z4 (vI a4) (by exact (evT (e0 8 rfl) (evT (d5 8 rfl) k7))) rfl ?_)))
 refine W8 (a4 + 1) rfl rfl (IntWalk.i64_in _ (by omega)) rfl (Z5 (vI (a4 + 1)) rfl rfl (Z1 ?_))
 have hS := St.dropA hS
 have hS := St.dropA hS
 have hS := St.dropA hS
 have hS := St.dropA hS
 exact z8 _ _ ⟨(a4 + 1), l0, t8, j3, c1, Z2, hS, (by omega), k8, b3, b9, b6, (evT (e0 2 rfl) t5), (evT (e0 3 rfl) (evT (d5 3 rfl) o9)), (evT (e0 4 rfl) (evT (d5 4 rfl) p0)), t9, (evT (e0 6 rfl) (evT (d5 6 rfl) p2)), (evT (e0 7 rfl) (evT (d5 7 rfl) p3)), rfl⟩
 intro u0
 by_cases i4 : ((i5).tmod 2) = 0
 rw [if_pos i4] at f0
 refine Z8 (bN i4 rfl) (Y7 ?_)
 exact u0 _ _ ⟨(IntKind.i64.wrap ((rd a1 a3).2 * (IntKind.i64.wrap (Y5 ((rd a1 a3).1) a4)))), s9, f0, Z2, hS, b3, b9, b6, a5, n4, r7, r8, r9, s3, s4, s5, s6, s7, s8⟩
 rw [if_neg i4] at f0
 refine Y0 (bO i4 rfl) (Z0 (Z4 (vI (IntKind.i64.wrap ((rd a1 a3).2 * (IntKind.i64.wrap (Y5 ((rd a1 a3).1) a4))))) (by exact s8) rfl ?_))
 refine Xc4 (IntKind.i64.wrap (0 - (IntKind.i64.wrap ((rd a1 a3).2 * (IntKind.i64.wrap (Y5 ((rd a1 a3).1) a4)))))) rfl rfl rfl (Z5 (vI (IntKind.i64.wrap (0 - (IntKind.i64.wrap ((rd a1 a3).2 * (IntKind.i64.wrap (Y5 ((rd a1 a3).1) a4))))))) rfl rfl (Z1 ?_))
 exact u0 _ _ ⟨(IntKind.i64.wrap (0 - (IntKind.i64.wrap ((rd a1 a3).2 * (IntKind.i64.wrap (Y5 ((rd a1 a3).1) a4)))))), s9, f0, Z2, hS, b3, b9, b6, a5, n4, r7, r8, r9, s3, s4, s5, s6, s7, rfl⟩
 rw [if_neg l2] at c7
 refine Z8 (bF l2 rfl) ?_
 refine W4 rfl ?_
 have hz := Option.some.inj c7
 subst hz
 exact hx1 _ _ ⟨a9, r0, a6, rfl, Z2, hS, a5, b3, b9, b6, e1, g0, g1, g2, g3⟩
 exact ⟨0, c0, q8, c2, c7, Z2, hS, (by omega), e6, b3, b9, b6, o5, f8, j5, j6, f9, rfl, rfl⟩
 rintro aw5 aw6 ⟨c5, a36, d2, rfl, Z2, hS, j4, b3, b9, b6, p8, p9, q1, q2, q3⟩
 dsimp only [Ex.elim] at q9
 refine X2 (Z0 (Z4 (vI a3) (by exact q3) rfl ?_))
 refine W8 (a3 + 1) rfl rfl (IntWalk.i64_in _ (by omega)) rfl (Z5 (vI (a3 + 1)) rfl rfl (Z1 ?_))
 have hS := St.dropA hS
 exact ih0 _ _ ⟨(a3 + 1), c5, a36, d2, q9, Z2, hS, (by omega), j4, b3, b9, b6, p8, p9, q1, q2, rfl⟩
 rw [if_neg l1] at d7
 refine Z8 (bF l1 rfl) ?_
 refine W4 rfl ?_
 have hz := Option.some.inj d7
 subst hz
 exact hx0 _ _ ⟨c0, q8, c2, rfl, Z2, hS, e6, b3, b9, b6, j5, j6⟩
 exact ⟨0, ([] : List (A8 × Int)), H, (vN), d7, Z2, hS, (by omega), q5, b3, b9, b6, rfl, rfl, rfl, rfl, rfl⟩
 rintro aw7 aw8 ⟨c8, aw9, c3, rfl, Z2, hS, e8, b3, b9, b6, k9, q4⟩
 dsimp only [Ex.elim] at q7
 refine Z3 (Z0 ?_)
 refine W2 T1 (by exact q4) (hS.get mL) rfl rfl ?_
 have hS := hS.perm U1
 refine W0 (v := vA ([c3])) (vs := ([c3]).toArray) (cs := ([vN]).toArray) T1 (by exact k9) rfl rfl hS rfl (T8 e8.isOne) rfl ?_
 intro ax0 hS
 have hS := hS.perm U1.symm
 refine Z1 ?_
 refine X0 (vs := [vA ([c3])]) Tryz.func123 ⟨⟨_, (by exact k9), U5 T1 (hS.get (mR mL)) rfl⟩, trivial⟩ ?_
 have hz := Option.some.inj q7
 subst hz
 exact ⟨_, _, rfl, Z2, (St.dropA (St.dropA (St.dropA (St.dropA hS)))), ⟨_, rfl, ⟨_, rfl, e8⟩⟩⟩
def Q3 (K : Nat) (a0 : ((List Int) × (List MpT))) : Nat → Int → (List (List Int)) → Option (Ex (List (List Int)) ((List (List Int))))
 | 0, _, _ => none
 | k + 1, a1, a3 => (if a1 < (a0.2.length : Int) then ((Zm6 K a0.1 (rd a0.2 a1)).bind fun b6 => (if a3.length + ([b6]).length ≤ 1099511627776 then Q3 K a0 k (a1 + 1) (a3 ++ [b6]) else none)) else some (.go a3))
def Za0 (K : Nat) (a0 : ((List Int) × (List MpT))) : Option (List (List Int)) := ((Q3 K a0 K 0 ([] : List (List Int))).bind (Ex.elim (fun r => some r) (fun s => (fun (b1 : (List (List Int))) => some b1) s)))
theorem Ya8 {K : Nat} {a0 : ((List Int) × (List MpT))} {r : (List (List Int))} (q0 : Za0 K a0 = some r) {H : FH} {w : World} {L : OL} {s0 : Value} (g5 : Zn8 (Zs6 (X6 (Y6 .i64)) (X6 (X6 yT))) H s0 a0) (hS : St H w L) :
 Calls Tryz.prog 241 #[s0] w (T2 (fun v G => (R.sl (X6 (Y6 .i64))).p G v r) H L) := by
 obtain ⟨b7, c6, e6, g6, _, rfl, b2, ⟨_, _, rfl, ⟨c0, rfl, a5⟩, ⟨c1, rfl, a6⟩⟩, d3⟩ := g5
 have Z2 := Sub.refl H
 refine X3 Tryz.func241 rfl Tryz.ntmps241 rfl ?_
 unfold Za0 at q0
 refine Z3 (Z0 (Z5 (vN) rfl rfl (Z1 (Z3 (Z0 ?_)))))
 refine Zx2 (τ := (X6 (Y6 .i64))) Yc6 Xm2 rfl hS rfl ?_
 intro u1 w2 C3 g7 hS
 refine Z5 (u1) rfl rfl (Z1 (Z3 (Z3 (Z0 (Z4 (Value.pointer (some ⟨b7, c6, none⟩)) rfl rfl (P4 rfl rfl (Y3 N8 rfl rfl ?_)))))))
 refine Y4 (c1) Zf9 rfl (hS.froz _ _ b2) (d3 1 (show 1 < 2 by decide)) rfl ?_
 have k1 := a6.bound
 refine W7 I1 rfl a6 rfl (Z4 (vI 0) rfl rfl (Z1 (Y8 ?_)))
 obtain ⟨d4, a7, d5⟩ := bind_some q0
 refine W5 (id := 0) (fun k f w => ∃ (a1 : Int) (a3 : (List (List Int))) (H1 : FH) (a8 : OL) (a4 : Value), Q3 K a0 k a1 a3 = some d4 ∧ Sub H H1 ∧ St H1 w (a8 ++ L) ∧ 0 ≤ a1 ∧ V0 (X6 (Y6 .i64)) 22 H1 a4 a3 a8 ∧ Y1 (Y6 .i64) H1 c0 a0.1 ∧ Y1 (X6 yT) H1 c1 a0.2 ∧ H1 b7 = some (.cells e6 g6) ∧ ev f (.tmp 0) = Value.pointer (some ⟨b7, c6, none⟩) ∧ ev f (.tmp 3) = a4 ∧ ev f (.tmp 10) = c1 ∧ ev f (.tmp 11) = vI (a0.2.length : Int) ∧ ev f (.tmp 12) = vI a1) (fun f w => ∃ (b1 : (List (List Int))) (H1 : FH) (b3 : OL) (a9 : Value), d4 = .go b1 ∧ Sub H H1 ∧ St H1 w (b3 ++ L) ∧ V0 (X6 (Y6 .i64)) 22 H1 a9 b1 b3 ∧ ev f (.tmp 3) = a9) rfl ?_ ?_ K ?_ ?_
 rintro f w ⟨a1, a3, H1, a8, a4, a7, _⟩
 rw [Q3] at a7; cases a7
 rintro k h9 i0 g8 g9 ⟨a1, a3, e7, a8, a4, a7, Z2, hS, g4, b0, a5, a6, b2, c7, c8, c2, c3, b4⟩
 rw [Q3] at a7
 refine Z3 (Z0 ?_)
 refine V7 (k := .i64) (a := a1) (b := (a0.2.length : Int)) (by exact b4) (by exact c3) rfl (Z1 (Z3 ?_))
 by_cases d1 : a1 < (a0.2.length : Int)
 rw [if_pos d1] at a7
 refine Y0 (bT d1 rfl) (Y7 (Z3 (Y8 (Z3 (Z0 ?_)))))
 obtain ⟨b8, o8, k2, E8, _, h0, h1, ⟨c4, rfl, b5⟩, h2⟩ := a6.elem (i := a1) (by omega) (by omega)
 refine W3 I1 rfl (by exact c2) h0 (by exact b4) (by omega) (by omega) rfl ?_
 refine V6 ([c4]) T1 rfl (hS.froz _ _ h1) rfl h2 rfl ?_
 refine V1 (z := vA ([vN])) ([vN]).toArray Zd2.zero rfl hS rfl ?_
 intro b9 k3 hS
 refine W0 (v := vA ([c4])) (vs := ([c4]).toArray) (cs := ([vN]).toArray) T1 rfl rfl rfl hS rfl (T8 b5.isOne) rfl ?_
 intro k4 hS
 refine Z1 ?_
 obtain ⟨b6, e8, a7⟩ := bind_some a7
 refine U6 8 (P9 [(16, MP.eq (a4)), (17, MP.eq (Value.pointer (some ⟨b7, c6, none⟩))), (18, MP.eq (Value.pointer (some ⟨b7, c6, none⟩))), (19, MP.eq (Value.pointer (some ⟨b7, c6 + 0, none⟩))), (20, MP.eq (c0)), (21, MP.eq (vA ([c4]))), (22, MP.rep (R.sl (Y6 .i64)) (b6)), (23, MP.sl (X6 (Y6 .i64)) ([b6]))]) [] mixed rfl rfl rfl hS (Z6 rfl ?_ (Z6 rfl ?_ (Z6 rfl ?_ (Z6 rfl ?_ (Z6 rfl ?_ (Z6 rfl ?_ (Z6 rfl ?_ (Z6 rfl ?_ U8)))))))) ?_
 intro k5 k6 k7 k8 i1 hS e9 i2 hcq
 refine Z4 (a4) (evT (e9 3 rfl) c8) rfl ?_
 exact qn (.refl _) rfl hS rfl
 intro k9 l0 l1 l2 i3 hS f0 i4 hcq
 refine Z4 (Value.pointer (some ⟨b7, c6, none⟩)) (evT (f0 0 rfl) c7) rfl ?_
 exact qn (.refl _) rfl hS rfl
 intro l3 l4 l5 l6 i5 hS i6 f1 hcq
 refine P4 (eM (f1 1 17 rfl rfl)) rfl ?_
 exact qn (.refl _) rfl hS rfl
 intro l7 l9 m0 m1 i7 hS i8 f2 hcq
 refine Y3 R8 (eM (f2 2 18 rfl rfl)) rfl ?_
 exact qn (.refl _) rfl hS rfl
 intro m2 m3 m4 m5 f3 hS i9 f4 hcq
 have b2 := f3.1 _ _ b2
 refine Y4 (c0) K9 (eM (f4 3 19 rfl rfl)) (hS.froz _ _ b2) (d3 0 (show 0 < 2 by decide)) rfl ?_
 exact qn (.refl _) rfl hS rfl
 intro h3 m6 m7 m8 j0 hS f5 j1 hcq
 have h4 : ev h3 (.tmp 5) = vP b9 := Eq.trans (f5 5 rfl) rfl
 refine W2 T1 h4 (hS.get (mR mL)) rfl rfl ?_
 exact qn (.refl _) rfl hS rfl
 intro m9 n0 n1 n2 d6 hS j2 d7 hcq
 have a5 := a5.mono d6
 have b5 := b5.mono d6
 refine Y9 Tryz.call280 (U7 (eM (d7 4 20 rfl rfl)) (eM (d7 5 21 rfl rfl))) rfl (Yq6 e8 a5 b5 hS) ?_
 rintro n3 n4 ⟨h5, n5, rfl, f6, hS, f7⟩
 refine ⟨h5, rfl, ?_⟩
 exact qn f6 rfl hS f7
 intro n6 n7 n8 n9 j3 hS j4 f8 hcq
 obtain ⟨h6, h7, f9⟩ := gvR (f8 6 22 rfl rfl)
 refine Zd8 (τ := (X6 (Y6 .i64))) Yc6 Xm2 rfl [h6] [b6] rfl rfl (Za3 h7) (Zn7 f9.relv) (by decide) (by decide) hS rfl ?_
 intro o0 o1 o2 g0 hS g1
 exact qn g0 rfl hS g1
 intro o3 h8 e5 c5 hS c9 d8 hcq
 have hS : St e5 h8 ([(b9, cA ([c4]) 47)] ++ (a8 ++ L)) := hS
 have Z2 := Z2.trans c5
 have a5 := a5.mono c5
 have a6 := a6.mono c5
 have b0 := b0.mono c5
 have b2 := c5.1 _ _ b2
 obtain ⟨j5, g2, e0⟩ := gvS (d8 7 23 (by decide) rfl)
 obtain ⟨e1, a7⟩ := gd a7
 have hS := hS.perm U1
 refine F4 (τ := (X6 (Y6 .i64))) Wo3 rfl (by exact (eM (d8 0 16 (by decide) rfl))) (by exact g2) b0 hS e0 e1 rfl ?_
 intro d9 j6 g3 e2 hS
 have hS := hS.perm U1.symm
 refine Z5 (d9) rfl rfl (Z1 (X2 (Z0 ?_)))
 refine W8 (a1 + 1) (by exact (evT (c9 12 rfl) b4)) rfl (IntWalk.i64_in _ (by omega)) rfl (Z4 (vI (a1 + 1)) rfl rfl (Z1 ?_))
 have hS := St.dropA hS
 exact g8 _ _ ⟨(a1 + 1), (a3 ++ [b6]), e5, g3, d9, a7, Z2, hS, (by omega), e2, a5, a6, b2, (evT (c9 0 rfl) c7), rfl, (evT (c9 10 rfl) c2), (evT (c9 11 rfl) c3), rfl⟩
 rw [if_neg d1] at a7
 refine Z8 (bF d1 rfl) ?_
 refine W4 rfl ?_
 have hz := Option.some.inj a7
 subst hz
 exact g9 _ _ ⟨a3, e7, a8, a4, rfl, Z2, hS, b0, c8⟩
 exact ⟨0, ([] : List (List Int)), H, C3, u1, a7, Z2, hS, (by omega), g7, a5, a6, b2, rfl, rfl, rfl, rfl, rfl⟩
 rintro j7 j8 ⟨b1, j9, b3, a9, rfl, Z2, hS, d0, d2⟩
 dsimp only [Ex.elim] at d5
 refine Z3 (Z0 (Z4 (a9) (by exact d2) rfl (Z5 (a9) rfl rfl (Z1 ?_))))
 refine X0 (vs := [a9]) Tryz.func241 ⟨rfl, trivial⟩ ?_
 obtain ⟨k0, e3, hS, e4⟩ := d0.freeze hS
 have Z2 := Z2.trans e3
 have hz := Option.some.inj d5
 subst hz
 exact ⟨_, _, rfl, Z2, hS, e4⟩
def Zr6 (K : Nat) (a0 : MpT) (a1 : ((List Int) × (List MpT))) : Option Bool := ((Zo0 K a1.1 a0).bind fun a4 => some (!a4))
theorem Yh9 {K : Nat} {a0 : MpT} {a1 : ((List Int) × (List MpT))} {r : Bool} (q0 : Zr6 K a0 a1 = some r) {H : FH} {w : World} {L : OL} {s0 : Value} {s1 : Value} (b0 : Y1 yT H s0 a0) (c9 : Zn8 (Wn5 (Zs6 (X6 (Y6 .i64)) (X6 (X6 yT)))) H s1 a1) (hS : St H w L) :
 Calls Tryz.prog 174 #[vA ([s0]), s1] w (T2 (fun v G => R.bool.p G v r) H L) := by
 obtain ⟨d0, d1, e0, f7, _, rfl, a9, ⟨_, rfl, ⟨a6, a7, d9, e1, _, rfl, a8, ⟨_, _, rfl, ⟨a5, rfl, a3⟩, ⟨c8, rfl, b5⟩⟩, b4⟩⟩, b6⟩ := c9
 have Z2 := Sub.refl H
 refine X3 Tryz.func174 rfl Tryz.ntmps174 rfl ?_
 unfold Zr6 at q0
 refine Z3 (Z0 ?_)
 refine S4 (v := vA ([s0])) ([s0]).toArray rfl rfl hS rfl ?_
 intro b1 w2 hS
 refine Z5 (Value.bool false) rfl rfl (Z1 (Z3 ?_))
 obtain ⟨a4, b7, q0⟩ := bind_some q0
 refine U6 8 (P9 [(4, MP.eq (Value.pointer (some ⟨a6, a7, none⟩))), (5, MP.eq (Value.pointer (some ⟨a6, a7, none⟩))), (6, MP.eq (Value.pointer (some ⟨a6, a7 + 0, none⟩))), (7, MP.eq (a5)), (8, MP.eq (vA ([s0]))), (9, MP.eq (Value.bool a4)), (10, MP.eq (Value.bool (!a4))), (3, MP.eq (Value.bool (!a4)))]) [] mixed rfl rfl rfl hS (Z6 rfl ?_ (Z6 rfl ?_ (Z6 rfl ?_ (Z6 rfl ?_ (Z6 rfl ?_ (Z6 rfl ?_ (Z6 rfl ?_ (Z6 rfl ?_ U8)))))))) ?_
 intro f4 w5 H6 X7 d2 hS d3 e2 hcq
 have a9 := d2.1 _ _ a9
 have d4 : ev f4 (.tmp 1) = Value.pointer (some ⟨d0, d1, none⟩) := Eq.trans (d3 1 rfl) rfl
 refine Y4 (Value.pointer (some ⟨a6, a7, none⟩)) Yc9 d4 (hS.froz _ _ a9) (b6 0 (show 0 < 1 by decide)) rfl ?_
 exact qn (.refl _) rfl hS rfl
 intro f8 f9 g0 g1 e3 hS e4 b8 hcq
 refine P4 (eM (b8 0 4 rfl rfl)) rfl ?_
 exact qn (.refl _) rfl hS rfl
 intro g2 g3 g4 g5 e5 hS e6 b9 hcq
 refine Y3 R8 (eM (b9 1 5 rfl rfl)) rfl ?_
 exact qn (.refl _) rfl hS rfl
 intro g6 g7 g8 g9 c0 hS e7 c1 hcq
 have a8 := c0.1 _ _ a8
 refine Y4 (a5) K9 (eM (c1 2 6 rfl rfl)) (hS.froz _ _ a8) (b4 0 (show 0 < 2 by decide)) rfl ?_
 exact qn (.refl _) rfl hS rfl
 intro d5 h0 h1 h2 e8 hS c2 e9 hcq
 have d6 : ev d5 (.tmp 2) = vP b1 := Eq.trans (c2 2 rfl) rfl
 refine W2 T1 d6 (hS.get (mR mL)) rfl rfl ?_
 exact qn (.refl _) rfl hS rfl
 intro h3 h4 h5 h6 b2 hS f0 b3 hcq
 have a3 := a3.mono b2
 have b0 := b0.mono b2
 refine Y9 Tryz.call125 (U7 (eM (b3 3 7 rfl rfl)) (eM (b3 4 8 rfl rfl))) rfl (Zx9 b7 a3 b0 hS) ?_
 rintro h7 h8 ⟨_, h9, rfl, c3, hS, rfl⟩
 refine ⟨_, rfl, ?_⟩
 exact qn c3 rfl hS rfl
 intro i0 i1 i2 i3 f1 hS f2 c4 hcq
 refine M4 (b := a4) (eM (c4 5 9 rfl rfl)) rfl ?_
 exact qn (.refl _) rfl hS rfl
 intro i4 i5 i6 i7 f3 hS f5 c5 hcq
 refine Z5 (Value.bool (!a4)) (eM (c5 6 10 rfl rfl)) rfl ?_
 exact qn (.refl _) rfl hS rfl
 intro i8 d7 d8 c6 hS f6 c7 hcq
 have hS : St d8 d7 ([(b1, cA ([s0]) 47)] ++ L) := hS
 have Z2 := Z2.trans c6
 refine Z1 ?_
 refine X0 (vs := [Value.bool (!a4)]) Tryz.func174 ⟨(by exact (eM (c7 7 3 (by decide) rfl))), trivial⟩ ?_
 have hz := Option.some.inj q0
 subst hz
 exact ⟨_, _, rfl, Z2, (St.dropA hS), rfl⟩
def Zt2 (K : Nat) (a0 : MpT) (a1 : MpT) : Option Bool := ((Zq9 K a0 a1).bind fun r7 => (if r7 = true then some true else some false))
theorem Yz7 {K : Nat} {a0 : MpT} {a1 : MpT} {r : Bool} (q0 : Zt2 K a0 a1 = some r) {H : FH} {w : World} {L : OL} {s0 : Value} {s1 : Value} (a4 : Y1 yT H s0 a0) (a5 : Y1 yT H s1 a1) (hS : St H w L) :
 Calls Tryz.prog 31 #[vA ([s0]), vA ([s1])] w (T2 (fun v G => R.bool.p G v r) H L) := by
 have Z2 := Sub.refl H
 refine X3 Tryz.func31 rfl Tryz.ntmps31 rfl ?_
 unfold Zt2 at q0
 refine Z3 (Z0 ?_)
 refine S4 (v := vA ([s0])) ([s0]).toArray rfl rfl hS rfl ?_
 intro b1 w2 hS
 refine S4 (v := vA ([s1])) ([s1]).toArray rfl rfl hS rfl ?_
 intro b4 w5 hS
 refine Z5 (Value.bool false) rfl rfl (Z1 (Z3 (Z3 (Z0 (Y3 U4 rfl rfl ?_)))))
 refine Y4 (s0) Q7 rfl (hS.get (mR mL)) rfl rfl (Y3 U4 rfl rfl ?_)
 refine Y4 (s1) Q7 rfl (hS.get mL) rfl rfl ?_
 obtain ⟨r7, a6, q0⟩ := bind_some q0
 refine Y9 Tryz.call110 (U7 rfl rfl) rfl (Yx4 a6 a4 a5 hS) ?_
 rintro e7 w8 ⟨_, H7, rfl, a7, hS, rfl⟩
 refine ⟨_, rfl, ?_⟩
 have Z2 := Z2.trans a7
 refine M4 (b := r7) rfl rfl (Z1 ?_)
 by_cases a3 : r7 = true
 rw [if_pos a3] at q0
 refine Z8 (Eq.trans rfl (congrArg (fun b => Value.bool (!b)) a3)) (Y7 (Z3 (Z0 (Z5 (Value.bool true) rfl rfl (Z1 ?_)))))
 refine X0 (vs := [Value.bool true]) Tryz.func31 ⟨rfl, trivial⟩ ?_
 have hz := Option.some.inj q0
 subst hz
 exact ⟨_, _, rfl, Z2, (St.dropA (St.dropA hS)), rfl⟩
 rw [if_neg a3] at q0
 refine Y0 (Eq.trans rfl (congrArg (fun b => Value.bool (!b)) (W1 a3))) (Z3 (Z0 (Z5 (Value.bool false) rfl rfl (Z1 ?_))))
 refine X0 (vs := [Value.bool false]) Tryz.func31 ⟨rfl, trivial⟩ ?_
 have hz := Option.some.inj q0
 subst hz
 exact ⟨_, _, rfl, Z2, (St.dropA (St.dropA hS)), rfl⟩
def Zt3 (K : Nat) (a0 : MpT) : Option MpT := ((Zs0 K a0).bind fun a4 => some a4)
theorem Yz2 {K : Nat} {a0 : MpT} {r : MpT} (q0 : Zt3 K a0 = some r) {H : FH} {w : World} {L : OL} {s0 : Value} (a8 : Y1 yT H s0 a0) (hS : St H w L) :
 Calls Tryz.prog 29 #[vA ([s0])] w (T2 (fun v G => (R.agg (X6 yT)).p (G.new H) v r) H L) := by
 have Z2 := Sub.refl H
 refine X3 Tryz.func29 rfl Tryz.ntmps29 rfl ?_
 unfold Zt3 at q0
 refine Z3 (Z0 ?_)
 refine S4 (v := vA ([s0])) ([s0]).toArray rfl rfl hS rfl ?_
 intro b1 w2 hS
 refine V1 (z := vA ([vN])) ([vN]).toArray Zd2.zero rfl hS rfl ?_
 intro b4 w5 hS
 refine Z1 (Z3 (Z0 ?_))
 refine V1 (z := vA ([vN])) ([vN]).toArray Zd2.zero rfl hS rfl ?_
 intro b7 w8 hS
 refine Z1 (Z3 (Z0 (Y3 Xv6 rfl rfl ?_)))
 refine Y4 (s0) Ww6 rfl (hS.get (mR (mR mL))) rfl rfl ?_
 obtain ⟨a4, a5, q0⟩ := bind_some q0
 refine Y9 Tryz.call108 (R0 rfl) rfl (Yx0 a5 a8 hS) ?_
 rintro b2 b3 ⟨a3, a9, rfl, a6, hS, a1⟩
 refine ⟨_, rfl, ?_⟩
 have b0 := a1
 have a7 : RdF yT H a9 a3 a4 := Y1.mono (Zg1 Z2) a1
 have a1 := Y1.old a1
 have Z2 := Z2.trans a6
 refine Y3 U4 rfl rfl ?_
 refine Zg5 (v := a3) (cs := ([vN]).toArray) (cs' := ([a3]).toArray) Q7 rfl rfl hS a1.isOne rfl (Nat.le_of_ble_eq_true rfl) rfl ?_
 intro b5 hS
 refine Z1 (Z3 (Z0 ?_))
 refine W2 T1 rfl (hS.get mL) rfl rfl ?_
 have hS := hS.perm U1
 refine W0 (v := vA ([a3])) (vs := ([a3]).toArray) (cs := ([vN]).toArray) T1 rfl rfl rfl hS rfl (T8 a1.isOne) rfl ?_
 intro b6 hS
 have hS := hS.perm U1.symm
 refine Z1 ?_
 refine X0 (vs := [vA ([a3])]) Tryz.func29 ⟨⟨_, rfl, U5 T1 (hS.get (mR mL)) rfl⟩, trivial⟩ ?_
 have hz := Option.some.inj q0
 subst hz
 exact ⟨_, _, rfl, Z2, (St.dropA (St.dropA (St.dropA hS))), ⟨_, rfl, ⟨_, rfl, a7⟩⟩⟩
end Go.Proofs.YtfodlhkoafhplaaGreat
