/- Walks of functions: each computes its pure function, if that gives a value. -/
import Derived.Test.YtabofnehiclkiaaGreatZF9
import Derived.Test.YtabofnehiclkiaaGreatZF10
namespace Go.Proofs.YtabofnehiclkiaaGreat
open Go Go.Proofs.Tryz
set_option linter.unusedSimpArgs false
set_option linter.unusedVariables false
set_option maxRecDepth 100000
set_option maxHeartbeats 8000000
variable {K : Nat} {H : FH} {w : World} {L : OL} {s0 s1 s2 s3 s4 s5 s6 : Value}
def Zi8 (K : Nat) (w6 : Int → A8 → A8 → Option (Ex MpT (A8 × A8))) (a4 : Int) (a8 : Int) (b0 : A8) (b8 : A8) : Option (Ex MpT (A8 × A8)) := (if a8 ≤ a4 then w6 (a8 + 1) b8 (U8 b0 a8 0) else w6 (a8 + 1) b8 b0)
def Zi7 (K : Nat) (z9 : Int → MpT → Option (Ex MpT (MpT))) (a0 : ((List Int) × (List MpT))) (a1 : MpT) (a3 : Int) (a4 : Int) (a9 : MpT) (a7 : A8) (b2 : A8) (c7 : Int) : Option (Ex MpT (MpT)) := ((Zd2 K (U8 a7 a4 (IntKind.u8.wrap ((Y4 ((rd a1 a3).1) a4) - 1))) 1).bind fun m0 => (if a4 < (a0.2.length : Int) then ((Zi5 K a0.1 m0 (rd a0.2 a4)).bind fun m2 => ((Zd2 K b2 1).bind fun m3 => ((Zi5 K a0.1 m2 m3).bind fun m4 => ((F5 K c7).bind fun m5 => ((Zo1 K a9 m4 m5).bind fun k5 => z9 (a4 + 1) k5))))) else none))
def E0 (K : Nat) (a4 : Int) : Nat → Int → A8 → A8 → Option (Ex MpT (A8 × A8))
 | 0, _, _, _ => none
 | k + 1, a8, b5, b0 => (if a8 < 8 then (if a4 ≤ a8 then Zi8 K (E0 K a4 k) a4 a8 b0 (U8 b5 a8 0) else Zi8 K (E0 K a4 k) a4 a8 b0 b5) else some (.go (b5, b0)))
def J4 (K : Nat) (a0 : ((List Int) × (List MpT))) (a1 : MpT) (a3 : Int) : Nat → Int → MpT → Option (Ex MpT (MpT))
 | 0, _, _ => none
 | k + 1, a4, a9 => (if a4 < (a0.1.length : Int) then (if a4 < 8 then (if (Y4 ((rd a1 a3).1) a4) = 0 then J4 K a0 a1 a3 k (a4 + 1) a9 else ((E0 K a4 K 0 ((rd a1 a3).1) ((rd a1 a3).1)).bind (Ex.elim (fun r => some (.ret r)) (fun s => (fun (a7 : A8) (b2 : A8) => ((Za1 K a0.1 a7).bind fun k6 => (if ((k6).tmod 2) = 0 then Zi7 K (J4 K a0 a1 a3 k) a0 a1 a3 a4 a9 a7 b2 (IntKind.i64.wrap ((rd a1 a3).2 * (IntKind.i64.wrap (Y4 ((rd a1 a3).1) a4)))) else Zi7 K (J4 K a0 a1 a3 k) a0 a1 a3 a4 a9 a7 b2 (IntKind.i64.wrap (0 - (IntKind.i64.wrap ((rd a1 a3).2 * (IntKind.i64.wrap (Y4 ((rd a1 a3).1) a4))))))))) s.1 s.2)))) else none) else some (.go a9))
def Zd9 (K : Nat) (a0 : ((List Int) × (List MpT))) (a1 : MpT) : Nat → Int → MpT → Option (Ex MpT (MpT))
 | 0, _, _ => none
 | k + 1, a3, c0 => (if a3 < (a1.length : Int) then ((J4 K a0 a1 a3 K 0 c0).bind (Ex.elim (fun r => some (.ret r)) (fun s => (fun (c6 : MpT) => Zd9 K a0 a1 k (a3 + 1) c6) s))) else some (.go c0))
def Zq3 (K : Nat) (a0 : ((List Int) × (List MpT))) (a1 : MpT) : Option MpT := ((Zd9 K a0 a1 K 0 ([] : List (A8 × Int))).bind (Ex.elim (fun r => some r) (fun s => (fun (c9 : MpT) => some c9) s)))
theorem Yn6 {a0 : ((List Int) × (List MpT))} {a1 : MpT} {r : MpT} (q0 : Zq3 K a0 a1 = some r) (b3 : Y3 (Y5 .i64) H s0 a0.1) (b9 : Y3 (X2 yT) H s1 a0.2) (b6 : Y3 yT H s2 a1) (hS : St H w L) :
 Calls prog 119 #[vA ([s0] ++ [s1]), vA ([s2])] w (U7 (fun v G => (R.agg (X2 yT)).p G v r) H L) := by
 have Z4 := Sub.refl H
 refine X0 func119 rfl ntmps119 rfl ?_
 unfold Zq3 at q0
 refine Z1 (Z0 ?_)
 refine T7 (v := vA ([s0] ++ [s1])) ([s0] ++ [s1]).toArray rfl rfl hS rfl ?_
 intro b1 _ hS
 refine T7 (v := vA ([s2])) ([s2]).toArray rfl rfl hS rfl ?_
 intro b4 _ hS
 refine U4 (z := vA ([vN])) ([vN]).toArray Zl9.zero rfl hS rfl ?_
 intro b7 _ hS
 refine Z2 (Z1 (Z0 ?_))
 refine B5 (vA ([vN])) Yr1 rfl ?_
 refine U4 (z := vA ([vN])) ([vN]).toArray Zl9.zero rfl hS rfl ?_
 intro c4 _ hS
 refine W4 (v := vA ([vN])) (vs := ([vN]).toArray) (cs := ([vN]).toArray) Q4 rfl rfl rfl hS rfl (Zb5 rfl) rfl ?_
 intro _ hS
 refine Z2 (Z1 (Z1 (Z0 (Z5 (vI 0) rfl rfl (Z2 (Y8 ?_))))))
 have q1 : Y3 yT H (.slice none 0 0) ([] : List (A8 × Int)) := Y3.nil
 obtain ⟨q2, d6, q3⟩ := bind_some q0
 refine W0 (id := 0) (fun k f w => ∃ (a3 : Int) (c0 : MpT) (H1 : FH) (c2 : Value), Zd9 K a0 a1 k a3 c0 = some q2 ∧ Sub H H1 ∧ St H1 w ([(c4, cA ([c2]) 45)] ++ ([(b7, cA ([vN]) 45)] ++ ([(b4, cA ([s2]) 45)] ++ ([(b1, cA ([s0] ++ [s1]) 31)] ++ L)))) ∧ 0 ≤ a3 ∧ Y3 yT H1 c2 c0 ∧ Y3 (Y5 .i64) H1 s0 a0.1 ∧ Y3 (X2 yT) H1 s1 a0.2 ∧ Y3 yT H1 s2 a1 ∧ tv f 2 = vP b1 ∧ tv f 3 = vP b4 ∧ tv f 4 = vP b7 ∧ tv f 5 = vP c4 ∧ tv f 6 = vI a3) (fun f w => ∃ (c9 : MpT) (H1 : FH) (c3 : Value), q2 = .go c9 ∧ Sub H H1 ∧ St H1 w ([(c4, cA ([c3]) 45)] ++ ([(b7, cA ([vN]) 45)] ++ ([(b4, cA ([s2]) 45)] ++ ([(b1, cA ([s0] ++ [s1]) 31)] ++ L)))) ∧ Y3 yT H1 c3 c9 ∧ Y3 (Y5 .i64) H1 s0 a0.1 ∧ Y3 (X2 yT) H1 s1 a0.2 ∧ Y3 yT H1 s2 a1 ∧ tv f 4 = vP b7 ∧ tv f 5 = vP c4) rfl ?_ ?_ K ?_ ?_
 rintro f w ⟨a3, c0, H1, c2, d6, _⟩
 rw [Zd9] at d6; cases d6
 rintro k _ _ ih0 hx0 ⟨a3, c0, q4, c2, d6, Z4, hS, _, e8, b3, b9, b6, o1, f8, j0, j1, f9⟩
 rw [Zd9] at d6
 refine Z1 (Z1 (Z0 (Z3 (vI a3) (by exact f9) rfl (Y2 U3 (by exact f8) rfl ?_))))
 refine Y0 (s2) Q7 rfl (hS.get (mR (mR mL))) rfl rfl ?_
 have a13 := b6.bound
 refine X9 R9 rfl b6 rfl ?_
 refine W8 (k := .i64) (a := a3) (b := (a1.length : Int)) rfl rfl rfl (Z2 ?_)
 obtain ⟨m6, d6⟩ | ⟨m6, d6⟩ := ic d6
 refine Z8 (bT m6 rfl) (Y6 (Z1 (Y8 (Z1 (Z0 (Y2 U3 (by exact f8) rfl ?_))))))
 refine Y0 (s2) Q7 rfl (hS.get (mR (mR mL))) rfl rfl (Z3 (vI a3) (by exact f9) rfl ?_)
 obtain ⟨_, _, _, _, _, x6, x7, ⟨_, _, rfl, rfl, rfl⟩, x8⟩ := b6.elem (i := a3) (by omega) (by omega)
 refine X5 R9 rfl rfl x6 rfl (by omega) (by omega) rfl (Y2 M9 rfl rfl ?_)
 refine V0 (Z6 .u8 ((rd a1 a3).1)) P5 rfl (hS.froz _ _ x7) rfl (Zd6 ([]) (Z6 .u8 ((rd a1 a3).1)) (([vI ((rd a1 a3).2)])) x8 (nl rfl)) rfl ?_
 refine U4 (z := vA (Z6 .u8 (fun _ => 0))) (Z6 .u8 (fun _ => 0)).toArray Yl0.zero rfl hS rfl ?_
 intro d0 _ hS
 refine W4 (v := vA (Z6 .u8 ((rd a1 a3).1))) (vs := (Z6 .u8 ((rd a1 a3).1)).toArray) (cs := (Z6 .u8 (fun _ => 0)).toArray) P5 rfl rfl rfl hS rfl (S8 .u8 ((rd a1 a3).1)) rfl ?_
 intro _ hS
 refine Z2 (Z1 (Z0 (Z5 (vI 0) rfl rfl (Z2 (Y8 ?_)))))
 obtain ⟨m7, c5, q5⟩ := bind_some d6
 refine W0 (id := 2) (fun k f w => ∃ (a4 : Int) (a9 : MpT) (H1 : FH) (a6 : Value), J4 K a0 a1 a3 k a4 a9 = some m7 ∧ Sub H H1 ∧ St H1 w ([(d0, cA (Z6 .u8 ((rd a1 a3).1)) 72)] ++ ([(c4, cA ([a6]) 45)] ++ ([(b7, cA ([vN]) 45)] ++ ([(b4, cA ([s2]) 45)] ++ ([(b1, cA ([s0] ++ [s1]) 31)] ++ L))))) ∧ 0 ≤ a4 ∧ Y3 yT H1 a6 a9 ∧ Y3 (Y5 .i64) H1 s0 a0.1 ∧ Y3 (X2 yT) H1 s1 a0.2 ∧ Y3 yT H1 s2 a1 ∧ tv f 2 = vP b1 ∧ tv f 3 = vP b4 ∧ tv f 4 = vP b7 ∧ tv f 5 = vP c4 ∧ tv f 6 = vI a3 ∧ tv f 7 = vP d0 ∧ tv f 8 = vI a4) (fun f w => ∃ (c6 : MpT) (H1 : FH) (d2 : Value), m7 = .go c6 ∧ Sub H H1 ∧ St H1 w ([(d0, cA (Z6 .u8 ((rd a1 a3).1)) 72)] ++ ([(c4, cA ([d2]) 45)] ++ ([(b7, cA ([vN]) 45)] ++ ([(b4, cA ([s2]) 45)] ++ ([(b1, cA ([s0] ++ [s1]) 31)] ++ L))))) ∧ Y3 yT H1 d2 c6 ∧ Y3 (Y5 .i64) H1 s0 a0.1 ∧ Y3 (X2 yT) H1 s1 a0.2 ∧ Y3 yT H1 s2 a1 ∧ tv f 2 = vP b1 ∧ tv f 3 = vP b4 ∧ tv f 4 = vP b7 ∧ tv f 5 = vP c4 ∧ tv f 6 = vI a3) rfl ?_ ?_ K ?_ ?_
 rintro f w ⟨a4, a9, H1, a6, c5, _⟩
 rw [J4] at c5; cases c5
 rintro k _ _ w7 hx1 ⟨a4, a9, q6, a6, c5, Z4, hS, _, a5, b3, b9, b6, e2, g0, g1, g2, g3, d8, e3⟩
 rw [J4] at c5
 refine Z1 (Z1 (Z0 (Z3 (vI a4) (by exact e3) rfl (Y2 L6 (by exact e2) rfl ?_))))
 refine Y0 (s0) P4 rfl (hS.get (mR (mR (mR (mR mL))))) rfl rfl ?_
 have a14 := b3.bound
 refine X9 U5 rfl b3 rfl ?_
 refine W8 (k := .i64) (a := a4) (b := (a0.1.length : Int)) rfl rfl rfl (Z2 ?_)
 obtain ⟨m8, c5⟩ | ⟨m8, c5⟩ := ic c5
 refine Z8 (bT m8 rfl) (Y6 (Z1 (Y8 (Z1 (Z1 (Z0 (Z3 (vI a4) (by exact e3) rfl ?_)))))))
 obtain ⟨_, c5⟩ := gd c5
 refine V5 Ze8 (by exact d8) rfl (by omega) (by omega) rfl ?_
 refine Y0 (Value.int .u8 (Y4 ((rd a1 a3).1) a4)) ty5 rfl (hS.get (o := cA (Z6 .u8 ((rd a1 a3).1)) 72) mL) (J3 ([]) ([]) (by omega) (by omega)) rfl ?_
 refine Za0 (k := .u8) (a := (Y4 ((rd a1 a3).1) a4)) (b := 0) rfl rfl rfl (Z2 ?_)
 obtain ⟨m9, c5⟩ | ⟨m9, c5⟩ := ic c5
 refine Z8 (bT m9 rfl) ?_
 refine X7 rfl (Z0 (Z3 (vI a4) (by exact e3) rfl ?_))
 refine W2 (a4 + 1) rfl rfl (IntWalk.i64_in _ (by omega)) rfl (Z5 (vI (a4 + 1)) rfl rfl (Z2 ?_))
 exact w7 _ _ ⟨(a4 + 1), a9, q6, a6, c5, Z4, hS, (by omega), a5, b3, b9, b6, e2, g0, g1, g2, g3, d8, rfl⟩
 refine Z7 (bF m9 rfl) (Y6 (Z1 ?_))
 refine W7 6 (S9 [mE 40 (vA (Z6 .u8 ((rd a1 a3).1))), mE 41 (vA (Z6 .u8 ((rd a1 a3).1))), (9, MP.box (cA (Z6 .u8 (fun _ => 0)) 72)), (10, MP.box (cA (Z6 .u8 (fun _ => 0)) 72))]) [Co.st 2 9 4 0 40 (Yh2 72), Co.st 3 10 5 1 41 (Yh2 72)] mixed rfl (Yg5 (ns := [(2, 9, 4, 0, 40), (3, 10, 5, 1, 41)]) rfl rfl) rfl hS (U1 rfl ?_ (U1 rfl ?_ (U1 rfl ?_ (U1 rfl ?_ (Yp0 rfl ?_ (Yp0 rfl ?_ V1)))))) ?_
 exact X4 fun S B => W3 P5 (evT (B 7 rfl) d8) (S.get (mR mL)) rfl rfl (qz S)
 exact X4 fun S B => W3 P5 (evT (B 7 rfl) d8) (S.get (mR mL)) rfl rfl (qz S)
 intro _ _ _ _ _ hS _ _ hcq
 refine U4 (z := vA (Z6 .u8 (fun _ => 0))) (Z6 .u8 (fun _ => 0)).toArray Yl0.zero rfl hS rfl ?_
 intro _ _ hS
 exact qn (.refl _) rfl hS ⟨_, rfl⟩
 intro _ _ _ _ _ hS _ _ hcq
 refine U4 (z := vA (Z6 .u8 (fun _ => 0))) (Z6 .u8 (fun _ => 0)).toArray Yl0.zero rfl hS rfl ?_
 intro _ _ hS
 exact qn (.refl _) rfl hS ⟨_, rfl⟩
 intro i1 w66 w8 X68 _ hS _ q7 hcq
 have Z4 := Sub.refl w8
 obtain ⟨w9, l5⟩ := q7 2 9 rfl rfl
 have l5 : i1 9 = vP w9 := l5
 have hS : St w8 w66 (Zo7 (cA (Z6 .u8 (fun _ => 0)) 72) (i1 9) ++ (X68 ++ ([(d0, cA (Z6 .u8 ((rd a1 a3).1)) 72)] ++ ([(c4, cA ([a6]) 45)] ++ ([(b7, cA ([vN]) 45)] ++ ([(b4, cA ([s2]) 45)] ++ ([(b1, cA ([s0] ++ [s1]) 31)] ++ L))))))) := hS
 rw [l5] at hS
 have q76 : tv i1 9 = vP w9 := l5
 have x0 : tv i1 40 = vA (Z6 .u8 ((rd a1 a3).1)) := q7 0 40 rfl rfl
 refine W4 (v := vA (Z6 .u8 ((rd a1 a3).1))) (vs := (Z6 .u8 ((rd a1 a3).1)).toArray) (cs := (Z6 .u8 (fun _ => 0)).toArray) P5 q76 x0 rfl hS rfl (S8 .u8 ((rd a1 a3).1)) rfl ?_
 intro _ hS
 have g79 : i1 40 = vA (Z6 .u8 ((rd a1 a3).1)) := x0
 exact Z2 ⟨_, rfl, rfl, Z4, by show St _ _ (Zo7 (Yh2 72 (i1 40)) (i1 9) ++ _); rw [l5, g79]; exact hS, trivial⟩
 intro i2 w81 x1 X83 _ hS _ q8 hcq
 have Z4 := Sub.refl x1
 obtain ⟨x2, l6⟩ := q8 3 10 rfl rfl
 have l6 : i2 10 = vP x2 := l6
 have hS : St x1 w81 (Zo7 (cA (Z6 .u8 (fun _ => 0)) 72) (i2 10) ++ (X83 ++ ([(d0, cA (Z6 .u8 ((rd a1 a3).1)) 72)] ++ ([(c4, cA ([a6]) 45)] ++ ([(b7, cA ([vN]) 45)] ++ ([(b4, cA ([s2]) 45)] ++ ([(b1, cA ([s0] ++ [s1]) 31)] ++ L))))))) := hS
 rw [l6] at hS
 have q91 : tv i2 10 = vP x2 := l6
 have x3 : tv i2 41 = vA (Z6 .u8 ((rd a1 a3).1)) := q8 1 41 rfl rfl
 refine W4 (v := vA (Z6 .u8 ((rd a1 a3).1))) (vs := (Z6 .u8 ((rd a1 a3).1)).toArray) (cs := (Z6 .u8 (fun _ => 0)).toArray) P5 q91 x3 rfl hS rfl (S8 .u8 ((rd a1 a3).1)) rfl ?_
 intro _ hS
 have g94 : i2 41 = vA (Z6 .u8 ((rd a1 a3).1)) := x3
 exact Z2 ⟨_, rfl, rfl, Z4, by show St _ _ (Zo7 (Yh2 72 (i2 41)) (i2 10) ++ _); rw [l6, g94]; exact hS, trivial⟩
 intro e9 w96 x4 i3 hS f1 h9 hcq
 have hS : St x4 w96 ((Zo7 (Yh2 72 (e9 40)) (e9 9) ++ (Zo7 (Yh2 72 (e9 41)) (e9 10) ++ ([]))) ++ ([(d0, cA (Z6 .u8 ((rd a1 a3).1)) 72)] ++ ([(c4, cA ([a6]) 45)] ++ ([(b7, cA ([vN]) 45)] ++ ([(b4, cA ([s2]) 45)] ++ ([(b1, cA ([s0] ++ [s1]) 31)] ++ L)))))) := hS
 have Z4 := Z4.trans i3
 have b3 := b3.mono i3
 have b9 := b9.mono i3
 have b6 := b6.mono i3
 have a5 := a5.mono i3
 obtain ⟨d4, g4⟩ := h9 2 9 (by decide) rfl
 have g4 : e9 9 = vP d4 := g4
 rw [g4] at hS
 have g4 : tv e9 9 = _ := g4
 have x9 : e9 40 = vA (Z6 .u8 ((rd a1 a3).1)) := (eM (h9 0 40 (by decide) rfl))
 rw [x9] at hS
 obtain ⟨d1, g5⟩ := h9 3 10 (by decide) rfl
 have g5 : e9 10 = vP d1 := g5
 rw [g5] at hS
 have g5 : tv e9 10 = _ := g5
 have y0 : e9 41 = vA (Z6 .u8 ((rd a1 a3).1)) := (eM (h9 1 41 (by decide) rfl))
 rw [y0] at hS
 refine Z2 (Z1 (Z1 (Z0 (Z5 (vI 0) rfl rfl (Z2 (Y8 ?_))))))
 obtain ⟨n0, c8, e1⟩ := bind_some c5
 refine W0 (id := 4) (fun k f w => ∃ (a8 : Int) (b5 : A8) (b0 : A8) (H1 : FH), E0 K a4 k a8 b5 b0 = some n0 ∧ Sub H H1 ∧ St H1 w ([(d4, cA (Z6 .u8 b5) 72)] ++ ([(d1, cA (Z6 .u8 b0) 72)] ++ ([(d0, cA (Z6 .u8 ((rd a1 a3).1)) 72)] ++ ([(c4, cA ([a6]) 45)] ++ ([(b7, cA ([vN]) 45)] ++ ([(b4, cA ([s2]) 45)] ++ ([(b1, cA ([s0] ++ [s1]) 31)] ++ L))))))) ∧ 0 ≤ a8 ∧ Y3 (Y5 .i64) H1 s0 a0.1 ∧ Y3 (X2 yT) H1 s1 a0.2 ∧ Y3 yT H1 s2 a1 ∧ Y3 yT H1 a6 a9 ∧ tv f 2 = vP b1 ∧ tv f 3 = vP b4 ∧ tv f 4 = vP b7 ∧ tv f 5 = vP c4 ∧ tv f 6 = vI a3 ∧ tv f 7 = vP d0 ∧ tv f 8 = vI a4 ∧ tv f 9 = vP d4 ∧ tv f 10 = vP d1 ∧ tv f 11 = vI a8) (fun f w => ∃ (a7 : A8) (b2 : A8) (H1 : FH), n0 = .go (a7, b2) ∧ Sub H H1 ∧ St H1 w ([(d4, cA (Z6 .u8 a7) 72)] ++ ([(d1, cA (Z6 .u8 b2) 72)] ++ ([(d0, cA (Z6 .u8 ((rd a1 a3).1)) 72)] ++ ([(c4, cA ([a6]) 45)] ++ ([(b7, cA ([vN]) 45)] ++ ([(b4, cA ([s2]) 45)] ++ ([(b1, cA ([s0] ++ [s1]) 31)] ++ L))))))) ∧ Y3 (Y5 .i64) H1 s0 a0.1 ∧ Y3 (X2 yT) H1 s1 a0.2 ∧ Y3 yT H1 s2 a1 ∧ Y3 yT H1 a6 a9 ∧ tv f 2 = vP b1 ∧ tv f 3 = vP b4 ∧ tv f 4 = vP b7 ∧ tv f 5 = vP c4 ∧ tv f 6 = vI a3 ∧ tv f 7 = vP d0 ∧ tv f 8 = vI a4 ∧ tv f 9 = vP d4 ∧ tv f 10 = vP d1) rfl ?_ ?_ K ?_ ?_
 rintro f w ⟨a8, b5, b0, H1, c8, _⟩
 rw [E0] at c8; cases c8
 rintro k _ _ x5 hx2 ⟨a8, b5, b0, n1, c8, Z4, hS, _, b3, b9, b6, a5, g6, g7, g8, g9, h0, h1, e4, e5, f2, d7⟩
 rw [E0] at c8
 refine Z1 (Z1 (Z0 (Z3 (vI a8) (by exact d7) rfl ?_)))
 refine W8 (k := .i64) (a := a8) (b := 8) rfl rfl rfl (Z2 ?_)
 obtain ⟨k7, c8⟩ | ⟨k7, c8⟩ := ic c8
 refine Z8 (bT k7 rfl) (Y6 (Z1 (Y8 (Z1 (Z1 (Z0 (Z3 (vI a8) (by exact d7) rfl (Z3 (vI a4) (by exact e4) rfl ?_))))))))
 refine Ya0 (k := .i64) (a := a8) (b := a4) rfl rfl rfl (Z2 ?_)
 refine N4 (fun f w => ∃ (b8 : A8) (H1 : FH), Zi8 K (E0 K a4 k) a4 a8 b0 b8 = some n0 ∧ Sub H H1 ∧ St H1 w ([(d4, cA (Z6 .u8 b8) 72)] ++ ([(d1, cA (Z6 .u8 b0) 72)] ++ ([(d0, cA (Z6 .u8 ((rd a1 a3).1)) 72)] ++ ([(c4, cA ([a6]) 45)] ++ ([(b7, cA ([vN]) 45)] ++ ([(b4, cA ([s2]) 45)] ++ ([(b1, cA ([s0] ++ [s1]) 31)] ++ L))))))) ∧ Y3 (Y5 .i64) H1 s0 a0.1 ∧ Y3 (X2 yT) H1 s1 a0.2 ∧ Y3 yT H1 s2 a1 ∧ Y3 yT H1 a6 a9 ∧ tv f 2 = vP b1 ∧ tv f 3 = vP b4 ∧ tv f 4 = vP b7 ∧ tv f 5 = vP c4 ∧ tv f 6 = vI a3 ∧ tv f 7 = vP d0 ∧ tv f 8 = vI a4 ∧ tv f 9 = vP d4 ∧ tv f 10 = vP d1 ∧ tv f 11 = vI a8) ?_ ?_
 rintro _ _ ⟨b8, l7, e6, Z4, hS, b3, b9, b6, a5, j2, j3, j4, j5, j6, j7, h2, j8, f3, d9⟩
 unfold Zi8 at e6
 refine Z1 (Z0 (Z3 (vI a8) (by exact d9) rfl (Z3 (vI a4) (by exact h2) rfl ?_)))
 refine Yh6 (k := .i64) (a := a8) (b := a4) rfl rfl rfl (Z2 ?_)
 obtain ⟨k8, e6⟩ | ⟨k8, e6⟩ := ic e6
 refine Z8 (bT k8 rfl) (Z0 (Z3 (vI a8) (by exact d9) rfl ?_))
 refine V5 Ze8 (by exact f3) rfl (by omega) (by omega) rfl ?_
 have hS := hS.perm R6
 refine K6 (v := Value.int .u8 0) (cs := (Z6 .u8 b0).toArray) (cs' := (Z6 .u8 (U8 b0 a8 0)).toArray) ty5 rfl rfl hS rfl (Zs5 rfl) (by simp [Z6, N9]; omega) (Zh7 (by omega) (by omega)) ?_
 intro _ hS
 have hS := hS.perm R6.symm
 refine Z2 (X1 (Z0 (Z3 (vI a8) (by exact d9) rfl ?_)))
 refine W2 (a8 + 1) rfl rfl (IntWalk.i64_in _ (by omega)) rfl (Z5 (vI (a8 + 1)) rfl rfl (Z2 ?_))
 exact x5 _ _ ⟨(a8 + 1), b8, (U8 b0 a8 0), l7, e6, Z4, hS, (by omega), b3, b9, b6, a5, j2, j3, j4, j5, j6, j7, h2, j8, f3, rfl⟩
 refine Z7 (bF k8 rfl) (Y6 (X1 (Z0 (Z3 (vI a8) (by exact d9) rfl ?_))))
 refine W2 (a8 + 1) rfl rfl (IntWalk.i64_in _ (by omega)) rfl (Z5 (vI (a8 + 1)) rfl rfl (Z2 ?_))
 exact x5 _ _ ⟨(a8 + 1), b8, b0, l7, e6, Z4, hS, (by omega), b3, b9, b6, a5, j2, j3, j4, j5, j6, j7, h2, j8, f3, rfl⟩
 intro q9
 obtain ⟨k9, c8⟩ | ⟨k9, c8⟩ := ic c8
 refine Z8 (bT k9 rfl) (Z0 (Z3 (vI a8) (by exact d7) rfl ?_))
 refine V5 Ze8 (by exact e5) rfl (by omega) (by omega) rfl ?_
 refine K6 (v := Value.int .u8 0) (cs := (Z6 .u8 b5).toArray) (cs' := (Z6 .u8 (U8 b5 a8 0)).toArray) ty5 rfl rfl hS rfl (Zs5 rfl) (by simp [Z6, N9]; omega) (Zh7 (by omega) (by omega)) ?_
 intro _ hS
 refine Z2 ?_
 exact q9 _ _ ⟨(U8 b5 a8 0), n1, c8, Z4, hS, b3, b9, b6, a5, g6, g7, g8, g9, h0, h1, e4, e5, f2, d7⟩
 refine Z7 (bF k9 rfl) (Y6 ?_)
 exact q9 _ _ ⟨b5, n1, c8, Z4, hS, b3, b9, b6, a5, g6, g7, g8, g9, h0, h1, e4, e5, f2, d7⟩
 refine Z7 (bF k7 rfl) ?_
 refine X7 rfl ?_
 obtain rfl := oi c8
 exact hx2 _ _ ⟨b5, b0, n1, rfl, Z4, hS, b3, b9, b6, a5, g6, g7, g8, g9, h0, h1, e4, e5, f2⟩
 exact ⟨0, ((rd a1 a3).1), ((rd a1 a3).1), x4, c8, Z4, hS, (by omega), b3, b9, b6, a5, (evT (f1 2 rfl) e2), (evT (f1 3 rfl) g0), (evT (f1 4 rfl) g1), (evT (f1 5 rfl) g2), (evT (f1 6 rfl) g3), (evT (f1 7 rfl) d8), (evT (f1 8 rfl) e3), g4, g5, rfl⟩
 rintro _ _ ⟨a7, b2, _, rfl, Z4, hS, b3, b9, b6, a5, o2, j9, o3, o4, k0, h3, e7, k1, n2⟩
 dsimp only [Ex.elim] at e1
 refine Z1 (Z0 ?_)
 refine W3 P5 (by exact k1) (hS.get mL) rfl rfl ?_
 refine U4 (z := vA (Z6 .u8 (fun _ => 0))) (Z6 .u8 (fun _ => 0)).toArray Yl0.zero rfl hS rfl ?_
 intro f4 _ hS
 refine W4 (v := vA (Z6 .u8 a7)) (vs := (Z6 .u8 a7).toArray) (cs := (Z6 .u8 (fun _ => 0)).toArray) P5 rfl rfl rfl hS rfl (S8 .u8 a7) rfl ?_
 intro _ hS
 refine Z2 (Z1 (Z0 (Z3 (vI a4) (by exact e7) rfl (Z3 (vI a4) (by exact e7) rfl ?_))))
 refine V5 Ze8 (by exact h3) rfl (by omega) (by omega) rfl ?_
 refine Y0 (Value.int .u8 (Y4 ((rd a1 a3).1) a4)) ty5 rfl (hS.get (o := cA (Z6 .u8 ((rd a1 a3).1)) 72) (mR (mR (mR mL)))) (J3 ([]) ([]) (by omega) (by omega)) rfl ?_
 refine Zk8 (IntKind.u8.wrap ((Y4 ((rd a1 a3).1) a4) - 1)) rfl rfl rfl rfl ?_
 refine V5 Ze8 rfl rfl (by omega) (by omega) rfl ?_
 refine K6 (v := Value.int .u8 (IntKind.u8.wrap ((Y4 ((rd a1 a3).1) a4) - 1))) (cs := (Z6 .u8 a7).toArray) (cs' := (Z6 .u8 (U8 a7 a4 (IntKind.u8.wrap ((Y4 ((rd a1 a3).1) a4) - 1)))).toArray) ty5 rfl rfl hS rfl (Zs5 rfl) (by simp [Z6, N9]; omega) (Zh7 (by omega) (by omega)) ?_
 intro _ hS
 refine Z2 (Z1 ?_)
 obtain ⟨r0, r1, _, _, _, t7, t8, ⟨_, _, rfl, rfl, rfl⟩, t9⟩ := b6.elem (i := a3) (by omega) (by omega)
 refine W7 12 (S9 [mE 63 (vP b4), mE 64 (s2), mE 65 (vI a3), mE 66 (vQ r0 r1), mE 67 (vQ r0 (r1 + 8)), mE 68 (vI ((rd a1 a3).2)), mE 69 (vI a4), mE 70 (vQ d0 (0 + (a4).toNat * 1)), mE 71 (Value.int .u8 (Y4 ((rd a1 a3).1) a4)), mE 72 (vI (IntKind.i64.wrap (Y4 ((rd a1 a3).1) a4))), mE 73 (vI (IntKind.i64.wrap ((rd a1 a3).2 * (IntKind.i64.wrap (Y4 ((rd a1 a3).1) a4))))), mE 13 (vI (IntKind.i64.wrap ((rd a1 a3).2 * (IntKind.i64.wrap (Y4 ((rd a1 a3).1) a4)))))]) [] mixed rfl rfl rfl hS (V9 ?_ ?_ ?_ ?_ ?_ ?_ ?_ ?_ (J9 ?_ ?_ ?_ ?_ V1)) ?_
 exact X4 fun S B => Y2 U3 (evT (B 3 rfl) j9) rfl (qz S)
 exact Y7 fun S V => Y0 (s2) Q7 (eM (V 0 63 rfl rfl)) (S.get (mR (mR (mR (mR (mR (mR (mR mL)))))))) rfl rfl (qz S)
 exact X4 fun S B => Z3 (vI a3) (evT (B 6 rfl) k0) rfl (qz S)
 exact Y7 fun S V => X5 R9 rfl (eM (V 1 64 rfl rfl)) t7 (eM (V 2 65 rfl rfl)) (by omega) (by omega) rfl (qz S)
 exact Y7 fun S V => Y2 Ze3 (eM (V 3 66 rfl rfl)) rfl (qz S)
 exact P0 fun s S V => Y0 (vI ((rd a1 a3).2)) ty2 (eM (V 4 67 rfl rfl)) (S.froz _ _ (s.1 _ _ t8)) (t9 8 (show 8 < 9 by decide)) rfl (qz S)
 exact X4 fun S B => Z3 (vI a4) (evT (B 8 rfl) e7) rfl (qz S)
 exact L3 fun S B V => V5 Ze8 (evT (B 7 rfl) h3) (eM (V 6 69 rfl rfl)) (by omega) (by omega) rfl (qz S)
 exact Y7 fun S V => Y0 (Value.int .u8 (Y4 ((rd a1 a3).1) a4)) ty5 (eM (V 7 70 rfl rfl)) (S.get (o := cA (Z6 .u8 ((rd a1 a3).1)) 72) (mR (mR (mR (mR mL))))) (J3 ([]) ([]) (by omega) (by omega)) rfl (qz S)
 exact Y7 fun S V => Yk5 (s := .u8) ((IntKind.i64.wrap (Y4 ((rd a1 a3).1) a4))) Ww6 (eM (V 8 71 rfl rfl)) rfl rfl (qz S)
 exact Y7 fun S V => Zg4 (IntKind.i64.wrap ((rd a1 a3).2 * (IntKind.i64.wrap (Y4 ((rd a1 a3).1) a4)))) (eM (V 5 68 rfl rfl)) (eM (V 9 72 rfl rfl)) rfl rfl (qz S)
 exact Y7 fun S V => Z5 (vI (IntKind.i64.wrap ((rd a1 a3).2 * (IntKind.i64.wrap (Y4 ((rd a1 a3).1) a4))))) (eM (V 10 73 rfl rfl)) rfl (qz S)
 intro r2 y1 y2 f5 hS d3 u0 hcq
 have hS : St y2 y1 ([(f4, cA (Z6 .u8 (U8 a7 a4 (IntKind.u8.wrap ((Y4 ((rd a1 a3).1) a4) - 1)))) 72)] ++ ([(d4, cA (Z6 .u8 a7) 72)] ++ ([(d1, cA (Z6 .u8 b2) 72)] ++ ([(d0, cA (Z6 .u8 ((rd a1 a3).1)) 72)] ++ ([(c4, cA ([a6]) 45)] ++ ([(b7, cA ([vN]) 45)] ++ ([(b4, cA ([s2]) 45)] ++ ([(b1, cA ([s0] ++ [s1]) 31)] ++ L)))))))) := hS
 have Z4 := Z4.trans f5
 have b3 := b3.mono f5
 have b9 := b9.mono f5
 have b6 := b6.mono f5
 have a5 := a5.mono f5
 have n3 := evT (d3 2 rfl) o2
 have r3 := evT (d3 3 rfl) j9
 have r4 := evT (d3 4 rfl) o3
 have r5 := evT (d3 5 rfl) o4
 have r6 := evT (d3 6 rfl) k0
 have r7 := evT (d3 7 rfl) h3
 have r8 := evT (d3 8 rfl) e7
 have r9 := evT (d3 10 rfl) n2
 have s3 : tv r2 12 = vP f4 := Eq.trans (d3 12 rfl) rfl
 have s4 : tv r2 13 = vI (IntKind.i64.wrap ((rd a1 a3).2 * (IntKind.i64.wrap (Y4 ((rd a1 a3).1) a4)))) := u0 11 13 (by decide) rfl
 refine Z2 (Z1 (Z1 (Z0 (Y2 L6 (by exact n3) rfl ?_))))
 refine Y0 (s0) P4 rfl (hS.get (mR (mR (mR (mR (mR (mR (mR mL)))))))) rfl rfl ?_
 refine W3 P5 (by exact (evT (d3 9 rfl) k1)) (hS.get (mR mL)) rfl rfl ?_
 obtain ⟨k6, u1, e1⟩ := bind_some e1
 refine X3 call207 (V2 rfl rfl) rfl (Zu6 u1 b3 hS) ?_
 rintro _ s5 _ f6 hS rfl
 have Z4 := Z4.trans f6
 have b3 := b3.mono f6
 have b9 := b9.mono f6
 have b6 := b6.mono f6
 have a5 := a5.mono f6
 refine Zc1 ((k6).tmod 2) rfl rfl (by decide) rfl rfl ?_
 refine M0 (k := .i64) (a := ((k6).tmod 2)) (b := 0) rfl rfl rfl (Z2 ?_)
 refine N4 (fun f w => ∃ (c7 : Int) (H1 : FH), Zi7 K (J4 K a0 a1 a3 k) a0 a1 a3 a4 a9 a7 b2 c7 = some m7 ∧ Sub H H1 ∧ St H1 w ([(f4, cA (Z6 .u8 (U8 a7 a4 (IntKind.u8.wrap ((Y4 ((rd a1 a3).1) a4) - 1)))) 72)] ++ ([(d4, cA (Z6 .u8 a7) 72)] ++ ([(d1, cA (Z6 .u8 b2) 72)] ++ ([(d0, cA (Z6 .u8 ((rd a1 a3).1)) 72)] ++ ([(c4, cA ([a6]) 45)] ++ ([(b7, cA ([vN]) 45)] ++ ([(b4, cA ([s2]) 45)] ++ ([(b1, cA ([s0] ++ [s1]) 31)] ++ L)))))))) ∧ Y3 (Y5 .i64) H1 s0 a0.1 ∧ Y3 (X2 yT) H1 s1 a0.2 ∧ Y3 yT H1 s2 a1 ∧ Y3 yT H1 a6 a9 ∧ tv f 2 = vP b1 ∧ tv f 3 = vP b4 ∧ tv f 4 = vP b7 ∧ tv f 5 = vP c4 ∧ tv f 6 = vI a3 ∧ tv f 7 = vP d0 ∧ tv f 8 = vI a4 ∧ tv f 10 = vP d1 ∧ tv f 12 = vP f4 ∧ tv f 13 = vI c7) ?_ ?_
 rintro _ _ ⟨c7, _, c1, Z4, hS, b3, b9, b6, a5, h4, o5, o6, o7, o8, o9, k2, n4, n5, n6⟩
 unfold Zi7 at c1
 refine Z1 ?_
 obtain ⟨m0, u2, c1⟩ := bind_some c1
 obtain ⟨_, c1⟩ := gd c1
 obtain ⟨y3, y4, _, _, _, u3, u4, ⟨l9, rfl, h5⟩, u5⟩ := b9.elem (i := a4) (by omega) (by omega)
 obtain ⟨m2, u6, c1⟩ := bind_some c1
 refine W7 12 (S9 [mE 82 (vP b1), mE 83 (s0), mE 84 (vA (Z6 .u8 (U8 a7 a4 (IntKind.u8.wrap ((Y4 ((rd a1 a3).1) a4) - 1))))), (85, MP.rep (R.agg (X2 yT)) (m0)), mE 86 (vQ b1 1), mE 87 (s1), mE 88 (vI a4), mE 89 (vQ y3 y4), mE 90 (vA ([l9])), (91, MP.rep (R.agg (X2 yT)) (m2)), (14, MP.box (cA ([vN]) 45))]) [Co.st 10 14 11 9 91 (Yh2 45)] mixed rfl (Yg5 (ns := [(10, 14, 11, 9, 91)]) rfl rfl) rfl hS (U1 rfl ?_ (U1 rfl ?_ (U1 rfl ?_ (U1 rfl ?_ (U1 rfl ?_ (U1 rfl ?_ (U1 rfl ?_ (U1 rfl ?_ (U1 rfl ?_ (U1 rfl ?_ (U1 rfl ?_ (Yp0 rfl ?_ V1)))))))))))) ?_
 exact X4 fun S B => Y2 L6 (evT (B 2 rfl) h4) rfl (qz S)
 exact Y7 fun S V => Y0 (s0) P4 (eM (V 0 82 rfl rfl)) (S.get (mR (mR (mR (mR (mR (mR (mR (mR mL))))))))) rfl rfl (qz S)
 exact X4 fun S B => W3 P5 (evT (B 12 rfl) n5) (S.get (mR mL)) rfl rfl (qz S)
 intro _ _ _ _ _ hS _ u7 hcq
 refine X3 call208 (V2 (eM (u7 2 84 rfl rfl)) rfl) rfl (Zu7 u2  hS) ?_
 rintro _ _ _ u8 hS u9
 exact qn u8 rfl hS u9
 exact X4 fun S B => Y2 Zf5 (evT (B 2 rfl) h4) rfl (qz S)
 exact Y7 fun S V => Y0 (s1) Zy9 (eM (V 4 86 rfl rfl)) (S.get (mR (mR (mR (mR (mR (mR (mR (mR mL))))))))) rfl rfl (qz S)
 exact X4 fun S B => Z3 (vI a4) (evT (B 8 rfl) k2) rfl (qz S)
 exact Y7 fun S V => X5 Zf1 rfl (eM (V 5 87 rfl rfl)) u3 (eM (V 6 88 rfl rfl)) (by omega) (by omega) rfl (qz S)
 exact P0 fun s S V => V0 ([l9]) Q4 (eM (V 7 89 rfl rfl)) (S.froz _ _ (s.1 _ _ u4)) rfl u5 rfl (qz S)
 intro _ _ _ _ n7 hS _ l0 hcq
 have b3 := b3.mono n7
 have h5 := h5.mono n7
 obtain ⟨_, y5, ⟨_, rfl, ⟨_, rfl, p0⟩⟩⟩ := gvR (l0 3 85 rfl rfl)
 refine X3 call197 (D8 (eM (l0 1 83 rfl rfl)) y5 (eM (l0 8 90 rfl rfl))) rfl (Yg7 u6 b3 p0 h5 hS) ?_
 rintro _ _ _ v0 hS v1
 exact qn v0 rfl hS v1
 intro _ _ _ _ _ hS _ _ hcq
 refine U4 (z := vA ([vN])) ([vN]).toArray Zl9.zero rfl hS rfl ?_
 intro _ _ hS
 exact qn (.refl _) rfl hS ⟨_, rfl⟩
 intro h6 y6 s6 y7 _ hS _ n8 hcq
 have Z4 := Sub.refl s6
 obtain ⟨s7, i4⟩ := n8 10 14 rfl rfl
 have i4 : h6 14 = vP s7 := i4
 have hS : St s6 y6 (Zo7 (cA ([vN]) 45) (h6 14) ++ (y7 ++ ([(f4, cA (Z6 .u8 (U8 a7 a4 (IntKind.u8.wrap ((Y4 ((rd a1 a3).1) a4) - 1)))) 72)] ++ ([(d4, cA (Z6 .u8 a7) 72)] ++ ([(d1, cA (Z6 .u8 b2) 72)] ++ ([(d0, cA (Z6 .u8 ((rd a1 a3).1)) 72)] ++ ([(c4, cA ([a6]) 45)] ++ ([(b7, cA ([vN]) 45)] ++ ([(b4, cA ([s2]) 45)] ++ ([(b1, cA ([s0] ++ [s1]) 31)] ++ L)))))))))) := hS
 rw [i4] at hS
 have y8 : tv h6 14 = vP s7 := i4
 obtain ⟨_, s8, ⟨_, rfl, ⟨i5, rfl, p1⟩⟩⟩ := gvR (n8 9 91 rfl rfl)
 refine W4 (v := vA ([i5])) (vs := ([i5]).toArray) (cs := ([vN]).toArray) Q4 y8 s8 rfl hS rfl (Zb5 p1.isOne) rfl ?_
 intro _ hS
 have y9 : h6 91 = vA ([i5]) := s8
 exact Z2 ⟨_, rfl, rfl, Z4, by show St _ _ (Zo7 (Yh2 45 (h6 91)) (h6 14) ++ _); rw [i4, y9]; exact hS, trivial⟩
 intro i6 z0 z1 f7 hS d5 n9 hcq
 have hS : St z1 z0 ((Zo7 (Yh2 45 (i6 91)) (i6 14) ++ ([])) ++ ([(f4, cA (Z6 .u8 (U8 a7 a4 (IntKind.u8.wrap ((Y4 ((rd a1 a3).1) a4) - 1)))) 72)] ++ ([(d4, cA (Z6 .u8 a7) 72)] ++ ([(d1, cA (Z6 .u8 b2) 72)] ++ ([(d0, cA (Z6 .u8 ((rd a1 a3).1)) 72)] ++ ([(c4, cA ([a6]) 45)] ++ ([(b7, cA ([vN]) 45)] ++ ([(b4, cA ([s2]) 45)] ++ ([(b1, cA ([s0] ++ [s1]) 31)] ++ L))))))))) := hS
 have Z4 := Z4.trans f7
 have a5 := a5.mono f7
 have b6 := b6.mono f7
 have b3 := b3.mono f7
 have b9 := b9.mono f7
 have s9 := evT (d5 2 rfl) h4
 have t0 := evT (d5 5 rfl) o7
 obtain ⟨_, z2, ⟨_, rfl, ⟨i7, rfl, h7⟩⟩⟩ := gvR (n9 9 91 (by decide) rfl)
 obtain ⟨t1, h8⟩ := n9 10 14 (by decide) rfl
 have h8 : i6 14 = vP t1 := h8
 rw [h8] at hS
 have h8 : tv i6 14 = _ := h8
 have z3 : i6 91 = vA ([i7]) := z2
 rw [z3] at hS
 refine Z2 ?_
 obtain ⟨m3, v2, c1⟩ := bind_some c1
 obtain ⟨m4, v3, c1⟩ := bind_some c1
 obtain ⟨m5, v4, c1⟩ := bind_some c1
 obtain ⟨k5, v5, c1⟩ := bind_some c1
 refine W7 10 (S9 [mE 92 (vA ([a6])), mE 93 (vP b1), mE 94 (s0), mE 95 (vA ([i7])), mE 96 (vA (Z6 .u8 b2)), (97, MP.rep (R.agg (X2 yT)) (m3)), (98, MP.rep (R.agg (X2 yT)) (m4)), mE 99 (vI c7), mE 100 (vI m5), (101, MP.rep (R.agg (X2 yT)) (k5))]) [] mixed rfl rfl rfl hS (V9 ?_ ?_ ?_ ?_ ?_ ?_ ?_ ?_ (J2 ?_ ?_ V1)) ?_
 exact X4 fun S B => W3 Q4 (evT (B 5 rfl) t0) (S.get (mR (mR (mR (mR (mR (mR mL))))))) rfl rfl (qz S)
 exact X4 fun S B => Y2 L6 (evT (B 2 rfl) s9) rfl (qz S)
 exact Y7 fun S V => Y0 (s0) P4 (eM (V 1 93 rfl rfl)) (S.get (mR (mR (mR (mR (mR (mR (mR (mR (mR mL)))))))))) rfl rfl (qz S)
 exact X4 fun S B => W3 Q4 (evT (B 14 rfl) h8) (S.get (mR mL)) rfl rfl (qz S)
 exact X4 fun S B => W3 P5 (evT (B 10 rfl) (evT (d5 10 rfl) n4)) (S.get (mR (mR (mR (mR mL))))) rfl rfl (qz S)
 intro _ _ _ _ _ hS _ v6 hcq
 refine X3 call208 (V2 (eM (v6 4 96 rfl rfl)) rfl) rfl (Zu7 v2  hS) ?_
 rintro _ _ _ v7 hS v8
 exact qn v7 rfl hS v8
 intro _ _ _ _ o0 hS _ l1 hcq
 have b3 := b3.mono o0
 have h7 := h7.mono o0
 obtain ⟨_, z4, ⟨_, rfl, ⟨_, rfl, p2⟩⟩⟩ := gvR (l1 5 97 rfl rfl)
 refine X3 call197 (D8 (eM (l1 2 94 rfl rfl)) (eM (l1 3 95 rfl rfl)) z4) rfl (Yg7 v3 b3 h7 p2 hS) ?_
 rintro _ _ _ v9 hS w0
 exact qn v9 rfl hS w0
 exact X4 fun S B => Z3 (vI c7) (evT (B 13 rfl) (evT (d5 13 rfl) n6)) rfl (qz S)
 intro _ _ _ _ _ hS _ w1 hcq
 refine X3 call209 (R3 (eM (w1 7 99 rfl rfl))) rfl (D2 v4  hS) ?_
 rintro _ _ _ w2 hS rfl
 exact qn w2 rfl hS rfl
 intro _ _ _ _ w3 hS _ l2 hcq
 have a5 := a5.mono w3
 obtain ⟨_, z5, ⟨_, rfl, ⟨_, rfl, p3⟩⟩⟩ := gvR (l2 6 98 rfl rfl)
 refine X3 call196 (D8 (eM (l2 0 92 rfl rfl)) z5 (eM (l2 8 100 rfl rfl))) rfl (Yj2 v5 a5 p3 hS) ?_
 rintro _ _ _ w4 hS l3
 have l3 := ((R.agg (X2 yT))).mono (Yi2 _ _) l3
 exact qn w4 rfl hS l3
 intro _ z6 t4 i0 hS e0 w5 hcq
 have hS : St t4 z6 ([(t1, cA ([i7]) 45)] ++ ([(f4, cA (Z6 .u8 (U8 a7 a4 (IntKind.u8.wrap ((Y4 ((rd a1 a3).1) a4) - 1)))) 72)] ++ ([(d4, cA (Z6 .u8 a7) 72)] ++ ([(d1, cA (Z6 .u8 b2) 72)] ++ ([(d0, cA (Z6 .u8 ((rd a1 a3).1)) 72)] ++ ([(c4, cA ([a6]) 45)] ++ ([(b7, cA ([vN]) 45)] ++ ([(b4, cA ([s2]) 45)] ++ ([(b1, cA ([s0] ++ [s1]) 31)] ++ L))))))))) := hS
 have Z4 := Z4.trans i0
 have b6 := b6.mono i0
 have b3 := b3.mono i0
 have b9 := b9.mono i0
 have t5 := evT (e0 5 rfl) t0
 obtain ⟨_, z7, ⟨_, rfl, ⟨i8, rfl, k3⟩⟩⟩ := gvR (w5 9 101 (by decide) rfl)
 have hS := hS.perm Xg7
 refine W4 (v := vA ([i8])) (vs := ([i8]).toArray) (cs := ([a6]).toArray) Q4 (by exact t5) (by exact z7) rfl hS rfl (Zb5 k3.isOne) rfl ?_
 intro _ hS
 have hS := hS.perm Xg7.symm
 refine Z2 (X1 (Z0 (Z3 (vI a4) (by exact (evT (e0 8 rfl) (evT (d5 8 rfl) k2))) rfl ?_)))
 refine W2 (a4 + 1) rfl rfl (IntWalk.i64_in _ (by omega)) rfl (Z5 (vI (a4 + 1)) rfl rfl (Z2 ?_))
 have hS := St.dropA hS
 have hS := St.dropA hS
 have hS := St.dropA hS
 have hS := St.dropA hS
 exact w7 _ _ ⟨(a4 + 1), k5, t4, i8, c1, Z4, hS, (by omega), k3, b3, b9, b6, (evT (e0 2 rfl) s9), (evT (e0 3 rfl) (evT (d5 3 rfl) o5)), (evT (e0 4 rfl) (evT (d5 4 rfl) o6)), t5, (evT (e0 6 rfl) (evT (d5 6 rfl) o8)), (evT (e0 7 rfl) (evT (d5 7 rfl) o9)), rfl⟩
 intro t6
 obtain ⟨l4, e1⟩ | ⟨l4, e1⟩ := ic e1
 refine Z7 (bN l4 rfl) (Y6 ?_)
 exact t6 _ _ ⟨(IntKind.i64.wrap ((rd a1 a3).2 * (IntKind.i64.wrap (Y4 ((rd a1 a3).1) a4)))), s5, e1, Z4, hS, b3, b9, b6, a5, n3, r3, r4, r5, r6, r7, r8, r9, s3, s4⟩
 refine Z8 (bO l4 rfl) (Z0 (Z3 (vI (IntKind.i64.wrap ((rd a1 a3).2 * (IntKind.i64.wrap (Y4 ((rd a1 a3).1) a4))))) (by exact s4) rfl ?_))
 refine Xq6 (IntKind.i64.wrap (0 - (IntKind.i64.wrap ((rd a1 a3).2 * (IntKind.i64.wrap (Y4 ((rd a1 a3).1) a4)))))) rfl rfl rfl (Z5 (vI (IntKind.i64.wrap (0 - (IntKind.i64.wrap ((rd a1 a3).2 * (IntKind.i64.wrap (Y4 ((rd a1 a3).1) a4))))))) rfl rfl (Z2 ?_))
 exact t6 _ _ ⟨(IntKind.i64.wrap (0 - (IntKind.i64.wrap ((rd a1 a3).2 * (IntKind.i64.wrap (Y4 ((rd a1 a3).1) a4)))))), s5, e1, Z4, hS, b3, b9, b6, a5, n3, r3, r4, r5, r6, r7, r8, r9, s3, rfl⟩
 refine Z7 (bF m8 rfl) ?_
 refine X7 rfl ?_
 obtain rfl := oi c5
 exact hx1 _ _ ⟨a9, q6, a6, rfl, Z4, hS, a5, b3, b9, b6, e2, g0, g1, g2, g3⟩
 exact ⟨0, c0, q4, c2, c5, Z4, hS, (by omega), e8, b3, b9, b6, o1, f8, j0, j1, f9, rfl, rfl⟩
 rintro _ _ ⟨c6, z8, d2, rfl, Z4, hS, i9, b3, b9, b6, p4, p5, p6, p7, p8⟩
 dsimp only [Ex.elim] at q5
 refine X1 (Z0 (Z3 (vI a3) (by exact p8) rfl ?_))
 refine W2 (a3 + 1) rfl rfl (IntWalk.i64_in _ (by omega)) rfl (Z5 (vI (a3 + 1)) rfl rfl (Z2 ?_))
 have hS := St.dropA hS
 exact ih0 _ _ ⟨(a3 + 1), c6, z8, d2, q5, Z4, hS, (by omega), i9, b3, b9, b6, p4, p5, p6, p7, rfl⟩
 refine Z7 (bF m6 rfl) ?_
 refine X7 rfl ?_
 obtain rfl := oi d6
 exact hx0 _ _ ⟨c0, q4, c2, rfl, Z4, hS, e8, b3, b9, b6, j0, j1⟩
 exact ⟨0, ([] : List (A8 × Int)), H, (vN), d6, Z4, hS, (by omega), q1, b3, b9, b6, rfl, rfl, rfl, rfl, rfl⟩
 rintro _ _ ⟨c9, _, c3, rfl, Z4, hS, f0, b3, b9, b6, k4, p9⟩
 dsimp only [Ex.elim] at q3
 refine Z1 (Z0 ?_)
 refine W3 Q4 (by exact p9) (hS.get mL) rfl rfl ?_
 have hS := hS.perm R6
 refine W4 (v := vA ([c3])) (vs := ([c3]).toArray) (cs := ([vN]).toArray) Q4 (by exact k4) rfl rfl hS rfl (Zb5 f0.isOne) rfl ?_
 intro _ hS
 have hS := hS.perm R6.symm
 refine Z2 ?_
 refine Y9 (vs := [vA ([c3])]) func119 ⟨⟨_, (by exact k4), P1 Q4 (hS.get (mR mL)) rfl⟩, trivial⟩ ?_
 obtain rfl := oi q3
 exact ⟨_, _, rfl, Z4, (St.dropA (St.dropA (St.dropA (St.dropA hS)))), ⟨_, rfl, ⟨_, rfl, f0⟩⟩⟩
def U0 (K : Nat) (a2 : Int) : Nat → MpT → MpT → Option (Ex MpT (MpT))
 | 0, _, _ => none
 | k + 1, [], a3 => some (.go a3)
 | k + 1, z7 :: b8, a3 => ((T3 K a3 z7.1 (((IntKind.i64.wrap (z7.2 * a2))).tmod 10007)).bind fun b9 => U0 K a2 k b8 b9)
theorem Yh9 {a2 : Int} {a3 : MpT} {k : Nat} {zp zq : MpT} {o : Ex MpT (MpT)} (hp : zp.Perm zq) (q : U0 K a2 k zp a3 = some o) : U0 K a2 k zq a3 = some o := by
 exact (Yl8 (K := K) (fun k zs s => U0 K a2 k zs s) (by intros; rw [U0])
  (fun z => ⟨fun s => T3 K s z.1 (((IntKind.i64.wrap (z.2 * a2))).tmod 10007), .add _ _, by intros; rw [U0]⟩) hp k a3).symm.trans q
def F4 (K : Nat) (a0 : MpT) (a1 : MpT) (a2 : Int) : Option MpT := ((U0 K a2 K a1 a0).bind (Ex.elim (fun r => some r) (fun s => (fun (a7 : MpT) => some a7) s)))
theorem Yq4 {a0 : MpT} {a1 : MpT} {a2 : Int} {r : MpT} (q0 : F4 K a0 a1 a2 = some r) {L C0 : OL} (c8 : Q2 .i64 s0 a0 C0) (c9 : N1 .i64 H s1 a1) (hS : St H w (C0 ++ L)) :
 Calls prog 129 #[s0, s1, vI a2] w (Wv3 .i64 s0 r H L) := by
 have Z4 := Sub.refl H
 refine X0 func129 rfl ntmps129 rfl ?_
 unfold F4 at q0
 refine Z1 (Z0 (Z3 (s1) rfl rfl ?_))
 refine Yi4 Zq8 rfl c9 hS rfl ?_
 intro c0 _ C3 d0 hS
 refine Z2 (Y8 ?_)
 obtain ⟨c1, a4, c2⟩ := bind_some q0
 refine W0 (id := 0) (fun k f w => ∃ (a8 : MpT) (a3 : MpT) (H1 : FH) (a5 : OL) (a6 : OL), U0 K a2 k a8 a3 = some c1 ∧ Sub H H1 ∧ St H1 w (a5 ++ (a6 ++ L)) ∧ Zg2 .i64 H1 c0 a8 none a5 ∧ Q2 .i64 s0 a3 a6 ∧ tv f 0 = s0 ∧ tv f 2 = vI a2 ∧ tv f 9 = c0) (fun f w => ∃ (a7 : MpT) (H1 : FH) (a9 : OL) (b0 : OL), c1 = .go a7 ∧ Sub H H1 ∧ St H1 w (a9 ++ (b0 ++ L)) ∧ Zg2 .i64 H1 c0 ([] : MpT) none a9 ∧ Q2 .i64 s0 a7 b0) rfl ?_ ?_ K ?_ ?_
 rintro f w ⟨a8, a3, H1, a5, a6, a4, _⟩
 rw [U0] at a4; cases a4
 rintro k _ _ d1 d2 ⟨a8, a3, c4, a5, a6, a4, Z4, hS, b2, b3, b4, b5, b1⟩
 refine Z1 (Z0 ?_)
 refine Yo0 (by exact b1) b2 hS rfl ?_ ?_
 intro d3; subst d3
 rw [U0] at a4
 refine V3 (vB false) rfl rfl rfl (Z2 (Z1 (Z7 rfl ?_)))
 refine X7 rfl ?_
 obtain rfl := oi a4
 exact d2 _ _ ⟨a3, c4, a5, a6, rfl, Z4, hS, b2, b3⟩
 intro z7 b8 _ d4 c5 b6 hS
 replace a4 := Yh9 c5 a4
 rw [U0] at a4
 refine V3 (vB true) rfl rfl rfl (Z2 (Z1 (Z8 rfl (Y6 (Y8 (Z1 (Z0 ?_)))))))
 refine Yi5 (by exact b1) b6 hS rfl (V3 (vA (Z6 .i64 z7.1)) rfl rfl rfl (V3 (vI z7.2) rfl rfl rfl ?_))
 refine U4 (z := vA (Z6 .i64 (fun _ => 0))) (Z6 .i64 (fun _ => 0)).toArray Zk4.zero rfl hS rfl ?_
 intro _ _ hS
 refine W4 (v := vA (Z6 .i64 z7.1)) (vs := (Z6 .i64 z7.1).toArray) (cs := (Z6 .i64 (fun _ => 0)).toArray) Q6 rfl rfl rfl hS rfl (S8 .i64 z7.1) rfl ?_
 intro _ hS
 refine Z5 (vI z7.2) rfl rfl (Z2 (Z0 (Z3 (s0) (by exact b4) rfl ?_)))
 refine W3 Q6 rfl (hS.get mL) rfl rfl (Z3 (vI z7.2) rfl rfl (Z3 (vI a2) (by exact b5) rfl ?_))
 refine Zg4 (IntKind.i64.wrap (z7.2 * a2)) rfl rfl rfl rfl ?_
 refine Zc1 (((IntKind.i64.wrap (z7.2 * a2))).tmod 10007) rfl rfl (by decide) rfl rfl ?_
 obtain ⟨b9, c6, a4⟩ := bind_some a4
 have hS := hS.perm Zb1
 refine U9 call217 (D8 rfl rfl rfl) rfl (Zy8 c6 b3 hS) ?_
 rintro _ _ ⟨d5, d6, rfl, c3, hS, c7⟩
 refine ⟨_, rfl, ?_⟩
 have Z4 := Z4.trans c3
 have b6 := b6.mono c3
 have hS := hS.perm Zb1.symm
 refine Z2 (X1 ?_)
 have hS := St.dropA hS
 exact d1 _ _ ⟨b8, b9, d5, d4, d6, a4, Z4, hS, b6.drop, c7, b4, b5, b1⟩
 exact ⟨a1, a0, H, C3, C0, a4, Z4, hS, d0, c8, rfl, rfl, rfl⟩
 rintro _ _ ⟨a7, _, a9, b0, rfl, Z4, hS, _, b7⟩
 dsimp only [Ex.elim] at c2
 refine Yo7 (vs := []) func129 trivial ?_
 have hS := hS.perm R6
 have hS := St.dropMid hS
 obtain rfl := oi c2
 exact ⟨_, _, rfl, Z4, hS, b7⟩
def I8 (K : Nat) (a0 : ((List Int) × (List MpT))) (a2 : Int) : Nat → Int → Option (Ex Bool (Unit))
 | 0, _ => none
 | k + 1, a4 => (if a4 ≤ a2 then ((P7 K a0.1 a4).bind fun r5 => (if 120 < (r5.length : Int) then some (.ret false) else I8 K a0 a2 k (IntKind.i64.wrap (a4 + 1)))) else some (.go ()))
def Zl6 (K : Nat) (a0 : ((List Int) × (List MpT))) (a1 : Int) (a2 : Int) : Option Bool := ((I8 K a0 a2 K (if a1 < 0 then 0 else a1)).bind (Ex.elim (fun r => some r) (fun s => some true)))
theorem Ys7 {a0 : ((List Int) × (List MpT))} {a1 : Int} {a2 : Int} {r : Bool} (q0 : Zl6 K a0 a1 a2 = some r) (a6 : Y3 (Y5 .i64) H s0 a0.1) (a7 : Y3 (X2 yT) H s1 a0.2) (hS : St H w L) :
 Calls prog 74 #[vA ([s0] ++ [s1]), vI a1, vI a2] w (U7 (fun v G => R.bool.p G v r) H L) := by
 have Z4 := Sub.refl H
 refine X0 func74 rfl ntmps74 rfl ?_
 unfold Zl6 at q0
 refine Z1 (Z0 ?_)
 refine T7 (v := vA ([s0] ++ [s1])) ([s0] ++ [s1]).toArray rfl rfl hS rfl ?_
 intro b1 _ hS
 refine Z5 (vB false) rfl rfl (Z2 (Z1 (Z1 (Z0 (Z3 (vI a1) rfl rfl ?_)))))
 refine Vi6 rfl rfl rfl (Z5 (vI (if a1 < 0 then 0 else a1)) rfl rfl (Z2 (Y8 ?_)))
 obtain ⟨b2, a3, b0⟩ := bind_some q0
 refine W0 (id := 0) (fun k f w => ∃ (a4 : Int) (H1 : FH), I8 K a0 a2 k a4 = some b2 ∧ Sub H H1 ∧ St H1 w ([(b1, cA ([s0] ++ [s1]) 31)] ++ L) ∧ Y3 (Y5 .i64) H1 s0 a0.1 ∧ Y3 (X2 yT) H1 s1 a0.2 ∧ tv f 2 = vI a2 ∧ tv f 3 = vP b1 ∧ tv f 7 = vI a4) (fun f w => ∃ (H1 : FH), b2 = .go () ∧ Sub H H1 ∧ St H1 w ([(b1, cA ([s0] ++ [s1]) 31)] ++ L) ∧ Y3 (Y5 .i64) H1 s0 a0.1 ∧ Y3 (X2 yT) H1 s1 a0.2) rfl ?_ ?_ K ?_ ?_
 rintro f w ⟨a4, H1, a3, _⟩
 rw [I8] at a3; cases a3
 rintro k _ _ b8 b9 ⟨a4, b7, a3, Z4, hS, a6, a7, a8, a9, a5⟩
 rw [I8] at a3
 refine Z1 (Z1 (Z0 (Z3 (vI a4) (by exact a5) rfl (Z3 (vI a2) (by exact a8) rfl ?_))))
 refine Yh6 (k := .i64) (a := a4) (b := a2) rfl rfl rfl (Z2 ?_)
 obtain ⟨b3, a3⟩ | ⟨b3, a3⟩ := ic a3
 refine Z8 (bT b3 rfl) (Y6 (Z1 (Y8 (Z1 (Z0 (Y2 L6 (by exact a9) rfl ?_))))))
 refine Y0 (s0) P4 rfl (hS.get mL) rfl rfl (Z3 (vI a4) (by exact a5) rfl ?_)
 obtain ⟨r5, c0, a3⟩ := bind_some a3
 refine X3 call99 (V2 rfl rfl) rfl (Zc6 c0 a6 hS) ?_
 rintro _ H5 _ b4 hS b6
 have Z4 := Z4.trans b4
 have a6 := a6.mono b4
 have a7 := a7.mono b4
 have c1 := b6.bound
 refine X9 Yb1 rfl b6 rfl ?_
 refine Za9 (k := .i64) (a := (r5.length : Int)) (b := 120) rfl rfl rfl (Z2 ?_)
 obtain ⟨b5, a3⟩ | ⟨b5, a3⟩ := ic a3
 refine Z8 (bT b5 rfl) (Z1 (Z0 (Z5 (vB false) rfl rfl (Z2 ?_))))
 refine Y9 (vs := [vB false]) func74 ⟨rfl, trivial⟩ ?_
 obtain rfl := oi a3
 dsimp only [Ex.elim] at b0
 obtain rfl := oi b0
 exact ⟨_, _, rfl, Z4, (St.dropA hS), rfl⟩
 refine Z7 (bF b5 rfl) (Y6 (X1 (Z0 (Z3 (vI a4) (by exact a5) rfl ?_))))
 refine W2 (IntKind.i64.wrap (a4 + 1)) rfl rfl rfl rfl (Z5 (vI (IntKind.i64.wrap (a4 + 1))) rfl rfl (Z2 ?_))
 exact b8 _ _ ⟨(IntKind.i64.wrap (a4 + 1)), H5, a3, Z4, hS, a6, a7, a8, a9, rfl⟩
 refine Z7 (bF b3 rfl) ?_
 refine X7 rfl ?_
 obtain rfl := oi a3
 exact b9 _ _ ⟨b7, rfl, Z4, hS, a6, a7⟩
 exact ⟨(if a1 < 0 then 0 else a1), H, a3, Z4, hS, a6, a7, rfl, rfl, rfl⟩
 rintro _ _ ⟨_, rfl, Z4, hS, a6, a7⟩
 dsimp only [Ex.elim] at b0
 refine Z1 (Z0 (Z5 (vB true) rfl rfl (Z2 ?_)))
 refine Y9 (vs := [vB true]) func74 ⟨rfl, trivial⟩ ?_
 obtain rfl := oi b0
 exact ⟨_, _, rfl, Z4, (St.dropA hS), rfl⟩
def Zn3 (K : Nat) (a0 : ((List Int) × (List MpT))) (a1 : Int) : Option Int := ((Zv2 K a0.1 a1).bind fun r4 => (if r4 < 0 then some (-1) else ((Zx7 K a0.2 r4).bind fun r7 => (if r7 < 0 then some (-1) else some r7))))
theorem Yt4 {a0 : ((List Int) × (List MpT))} {a1 : Int} {r : Int} (q0 : Zn3 K a0 a1 = some r) (a7 : Y3 (Y5 .i64) H s0 a0.1) (a3 : Y3 (X2 yT) H s1 a0.2) (hS : St H w L) :
 Calls prog 15 #[vA ([s0] ++ [s1]), vI a1] w (U7 (fun v G => (R.int .i64).p G v r) H L) := by
 have Z4 := Sub.refl H
 refine X0 func15 rfl ntmps15 rfl ?_
 unfold Zn3 at q0
 refine Z1 (Z0 ?_)
 refine T7 (v := vA ([s0] ++ [s1])) ([s0] ++ [s1]).toArray rfl rfl hS rfl ?_
 intro _ _ hS
 refine Z5 (vI 0) rfl rfl (Z2 (Z1 (Z0 (Y2 Wc3 rfl rfl ?_))))
 refine Y0 (s0) P4 rfl (hS.get mL) rfl rfl (Z3 (vI a1) rfl rfl ?_)
 obtain ⟨r4, a8, q0⟩ := bind_some q0
 refine X3 call71 (V2 rfl rfl) rfl (Yu4 a8 a7 hS) ?_
 rintro _ _ _ a6 hS rfl
 have Z4 := Z4.trans a6
 have a3 := a3.mono a6
 refine Z5 (vI r4) rfl rfl (Z2 (Z1 (Z1 (Z0 (Z3 (vI r4) rfl rfl ?_)))))
 refine W8 (k := .i64) (a := r4) (b := 0) rfl rfl rfl (Z2 ?_)
 obtain ⟨a4, q0⟩ | ⟨a4, q0⟩ := ic q0
 refine Z8 (bT a4 rfl) (Z1 (Z0 (Z5 (vI (-1)) rfl rfl (Z2 ?_))))
 refine Y9 (vs := [vI (-1)]) func15 ⟨rfl, trivial⟩ ?_
 obtain rfl := oi q0
 exact ⟨_, _, rfl, Z4, (St.dropA hS), rfl⟩
 refine Z7 (bF a4 rfl) (Y6 (Z1 (Z0 (Y2 Wb9 rfl rfl ?_))))
 refine Y0 (s1) Vc9 rfl (hS.get mL) rfl rfl (Z3 (vI r4) rfl rfl ?_)
 obtain ⟨r7, a9, q0⟩ := bind_some q0
 refine X3 call67 (V2 rfl rfl) rfl (Yy9 a9 a3 hS) ?_
 rintro _ _ _ b0 hS rfl
 have Z4 := Z4.trans b0
 refine Z5 (vI r7) rfl rfl (Z2 (Z1 (Z1 (Z0 (Z3 (vI r7) rfl rfl ?_)))))
 refine W8 (k := .i64) (a := r7) (b := 0) rfl rfl rfl (Z2 ?_)
 obtain ⟨a5, q0⟩ | ⟨a5, q0⟩ := ic q0
 refine Z8 (bT a5 rfl) (Z1 (Z0 (Z5 (vI (-1)) rfl rfl (Z2 ?_))))
 refine Y9 (vs := [vI (-1)]) func15 ⟨rfl, trivial⟩ ?_
 obtain rfl := oi q0
 exact ⟨_, _, rfl, Z4, (St.dropA hS), rfl⟩
 refine Z7 (bF a5 rfl) (Y6 (Z1 (Z0 (Z3 (vI r7) rfl rfl (Z5 (vI r7) rfl rfl (Z2 ?_))))))
 refine Y9 (vs := [vI r7]) func15 ⟨rfl, trivial⟩ ?_
 obtain rfl := oi q0
 exact ⟨_, _, rfl, Z4, (St.dropA hS), rfl⟩
theorem Xo5 {K : Nat} {a0 : (List Int)} {r : (List Int)} (q0 : Zb8 K a0 = some r) {H : FH} {w : World} {L : OL} {s0 : Value} (hs0 : Y3 (Y5 .i64) H s0 a0) (hS : St H w L) :
 Calls prog 183 #[s0] w (Yf9 (Y5 .i64) 2 r H L) := by
 have Z4 := Sub.refl H
 refine X0 func183 rfl ntmps183 rfl ?_
 unfold Zb8 at q0
 refine Z1 ?_
 refine Z0 ?_
 refine Z5 (Value.slice none 0 0) rfl rfl ?_
 refine Z2 ?_
 refine Z1 ?_
 refine Z1 ?_
 refine Z0 ?_
 refine Z3 (s0) rfl rfl ?_
 obtain ⟨ad, cu, ⟨hv0, hl0⟩, hx0⟩ := id hs0
 cases ad with
 | none =>
  have ha : a0 = [] := by
   rcases hx0 with h | ⟨b2, o2, cs2, E2, h, _⟩
   exact h
   cases h
  refine Xb3 U5 hv0 rfl rfl ?_
  refine Z2 ?_
  refine Z8 rfl ?_
  refine Z1 ?_
  refine Z0 ?_
  refine Z5 (Value.slice none 0 0) rfl rfl ?_
  refine Z2 ?_
  refine Y9 (vs := [Value.slice none 0 0]) func183 ⟨rfl, trivial⟩ ?_
  subst ha
  rw [if_pos (by decide)] at q0
  have hz := Option.some.inj q0
  subst hz
  exact ⟨_, _, [], rfl, Z4, hS, X8.nil _ _ _⟩
 | some p =>
 refine Xb3 U5 hv0 rfl rfl ?_
 refine Z2 ?_
 refine Z7 rfl ?_
 refine Y6 ?_
 refine Z1 ?_
 refine Z0 ?_
 refine Yb8 (τ := (Y5 .i64)) U5 ze2 rfl hS rfl ?_
 intro u1 w2 C3 ho4 hS
 have hS : St H w2 (C3 ++ L) := hS
 refine Z3 (s0) rfl rfl ?_
 by_cases hg6 : ([] : List Int).length + a0.length ≤ 1099511627776
 case neg => rw [if_neg hg6] at q0; cases q0
 rw [if_pos hg6] at q0
 refine N6 (τ := (Y5 .i64)) Yb7 rfl rfl rfl ho4 hS hs0 hg6 rfl ?_
 intro u7 w8 C9 ho10 hS
 have hS : St H w8 (C9 ++ L) := hS
 refine Z5 (u7) rfl rfl ?_
 refine Z2 ?_
 refine Y9 (vs := [u7]) func183 ⟨rfl, trivial⟩ ?_
 have hz := Option.some.inj q0
 subst hz
 exact ⟨_, _, _, rfl, Z4, hS, ho10⟩
def Zt9 (K : Nat) (a0 : MpT) : Option MpT := ((Zr2 K a0).bind fun a4 => some a4)
theorem Xb7 {a0 : MpT} {r : MpT} (q0 : Zt9 K a0 = some r) (a8 : Y3 yT H s0 a0) (hS : St H w L) :
 Calls prog 26 #[vA ([s0])] w (U7 (fun v G => (R.agg (X2 yT)).p (G.new H) v r) H L) := by
 have Z4 := Sub.refl H
 refine X0 func26 rfl ntmps26 rfl ?_
 unfold Zt9 at q0
 refine Z1 (Z0 ?_)
 refine T7 (v := vA ([s0])) ([s0]).toArray rfl rfl hS rfl ?_
 intro _ _ hS
 refine U4 (z := vA ([vN])) ([vN]).toArray Zl9.zero rfl hS rfl ?_
 intro _ _ hS
 refine Z2 (Z1 (Z0 ?_))
 refine U4 (z := vA ([vN])) ([vN]).toArray Zl9.zero rfl hS rfl ?_
 intro _ _ hS
 refine Z2 (Z1 (Z0 (Y2 We0 rfl rfl ?_)))
 refine Y0 (s0) Vd9 rfl (hS.get (mR (mR mL))) rfl rfl ?_
 obtain ⟨a4, a5, q0⟩ := bind_some q0
 refine X3 call92 (R3 rfl) rfl (Yy7 a5 a8 hS) ?_
 rintro a3 a9 _ a6 hS a1
 have b0 := a1
 have a7 : RdF yT H a9 a3 a4 := Y3.mono (Ye9 Z4) a1
 have a1 := Y3.old a1
 have Z4 := Z4.trans a6
 refine Y2 U3 rfl rfl ?_
 refine Zd3 (v := a3) (cs := ([vN]).toArray) (cs' := ([a3]).toArray) Q7 rfl rfl hS a1.isOne rfl (nl rfl) rfl ?_
 intro _ hS
 refine Z2 (Z1 (Z0 ?_))
 refine W3 Q4 rfl (hS.get mL) rfl rfl ?_
 have hS := hS.perm R6
 refine W4 (v := vA ([a3])) (vs := ([a3]).toArray) (cs := ([vN]).toArray) Q4 rfl rfl rfl hS rfl (Zb5 a1.isOne) rfl ?_
 intro _ hS
 have hS := hS.perm R6.symm
 refine Z2 ?_
 refine Y9 (vs := [vA ([a3])]) func26 ⟨⟨_, rfl, P1 Q4 (hS.get (mR mL)) rfl⟩, trivial⟩ ?_
 obtain rfl := oi q0
 exact ⟨_, _, rfl, Z4, (St.dropA (St.dropA (St.dropA hS))), ⟨_, rfl, ⟨_, rfl, a7⟩⟩⟩
end Go.Proofs.YtabofnehiclkiaaGreat
