/- Walks of functions: each computes its pure function, if that gives a value. -/
import Derived.Test.YtabofnehiclkiaaGreatXTy
import Derived.Test.YtabofnehiclkiaaGreatXF5
import Derived.Test.YtabofnehiclkiaaGreatXF10
import Derived.Test.YtabofnehiclkiaaGreatXF2
import Derived.Test.YtabofnehiclkiaaGreatXF7
import Derived.Test.YtabofnehiclkiaaGreatXF3
import Derived.Test.YtabofnehiclkiaaGreatXF9
import Derived.Test.YtabofnehiclkiaaGreatXF1
namespace Go.Proofs.YtabofnehiclkiaaGreat
open Go
set_option linter.unusedSimpArgs false
set_option linter.unusedVariables false
set_option maxRecDepth 100000
set_option maxHeartbeats 8000000
variable {K : Nat} {H : FH} {w : World} {L : OL} {s0 s1 s2 s3 s4 s5 s6 : Value}
def Zm9 (K : Nat) (w5 : Int → A8 → A8 → Option (Ex MpT (A8 × A8))) (a4 : Int) (a8 : Int) (b0 : A8) (b8 : A8) : Option (Ex MpT (A8 × A8)) := (if a8 ≤ a4 then w5 (a8 + 1) b8 (S6 b0 a8 0) else w5 (a8 + 1) b8 b0)
def Zn1 (K : Nat) (z8 : Int → MpT → Option (Ex MpT (MpT))) (a0 : ((List Int) × (List MpT))) (a1 : MpT) (a3 : Int) (a4 : Int) (a9 : MpT) (a7 : A8) (b2 : A8) (c7 : Int) : Option (Ex MpT (MpT)) := ((F0 K (S6 a7 a4 (IntKind.u8.wrap ((Y5 ((rd a1 a3).1) a4) - 1))) 1).bind fun m0 => (if a4 < (a0.2.length : Int) then ((A0 K a0.1 m0 (rd a0.2 a4)).bind fun m1 => ((F0 K b2 1).bind fun m2 => ((A0 K a0.1 m1 m2).bind fun m3 => ((Zc0 K c7).bind fun m4 => ((Zf6 K a9 m3 m4).bind fun k5 => z8 (a4 + 1) k5))))) else none))
def B7 (K : Nat) (a4 : Int) : Nat → Int → A8 → A8 → Option (Ex MpT (A8 × A8))
 | 0, _, _, _ => none
 | k + 1, a8, b5, b0 => (if a8 < 8 then (if a4 ≤ a8 then Zm9 K (B7 K a4 k) a4 a8 b0 (S6 b5 a8 0) else Zm9 K (B7 K a4 k) a4 a8 b0 b5) else some (.go (b5, b0)))
def F9 (K : Nat) (a0 : ((List Int) × (List MpT))) (a1 : MpT) (a3 : Int) : Nat → Int → MpT → Option (Ex MpT (MpT))
 | 0, _, _ => none
 | k + 1, a4, a9 => (if a4 < (a0.1.length : Int) then (if a4 < 8 then (if (Y5 ((rd a1 a3).1) a4) = 0 then F9 K a0 a1 a3 k (a4 + 1) a9 else ((B7 K a4 K 0 ((rd a1 a3).1) ((rd a1 a3).1)).bind (Ex.elim (fun r => some (.ret r)) (fun s => (fun (a7 : A8) (b2 : A8) => ((Zf1 K a0.1 a7).bind fun k6 => (if ((k6).tmod 2) = 0 then Zn1 K (F9 K a0 a1 a3 k) a0 a1 a3 a4 a9 a7 b2 (IntKind.i64.wrap ((rd a1 a3).2 * (IntKind.i64.wrap (Y5 ((rd a1 a3).1) a4)))) else Zn1 K (F9 K a0 a1 a3 k) a0 a1 a3 a4 a9 a7 b2 (IntKind.i64.wrap (0 - (IntKind.i64.wrap ((rd a1 a3).2 * (IntKind.i64.wrap (Y5 ((rd a1 a3).1) a4))))))))) s.1 s.2)))) else none) else some (.go a9))
def Zi3 (K : Nat) (a0 : ((List Int) × (List MpT))) (a1 : MpT) : Nat → Int → MpT → Option (Ex MpT (MpT))
 | 0, _, _ => none
 | k + 1, a3, c0 => (if a3 < (a1.length : Int) then ((F9 K a0 a1 a3 K 0 c0).bind (Ex.elim (fun r => some (.ret r)) (fun s => (fun (c6 : MpT) => Zi3 K a0 a1 k (a3 + 1) c6) s))) else some (.go c0))
def Ya7 (K : Nat) (a0 : ((List Int) × (List MpT))) (a1 : MpT) : Option MpT := ((Zi3 K a0 a1 K 0 ([] : List (A8 × Int))).bind (Ex.elim (fun r => some r) (fun s => (fun (c9 : MpT) => some c9) s)))
theorem Xl5 {a0 : ((List Int) × (List MpT))} {a1 : MpT} {r : MpT} (q0 : Ya7 K a0 a1 = some r) (b3 : Z9 (Y6 .i64) H s0 a0.1) (b9 : Z9 (Y9 yT) H s1 a0.2) (b6 : Z9 yT H s2 a1) (hS : St H w L) :
 Calls Tryz.prog 119 #[vA ([s0] ++ [s1]), vA ([s2])] w (T2 (fun v G => (R.agg (Y9 yT)).p G v r) H L) := by
 have Z3 := Sub.refl H
 refine X3 Tryz.func119 rfl Tryz.ntmps119 rfl ?_
 unfold Ya7 at q0
 refine Z2 (Z0 ?_)
 refine S3 (v := vA ([s0] ++ [s1])) ([s0] ++ [s1]).toArray rfl rfl hS rfl ?_
 intro b1 _ hS
 refine S3 (v := vA ([s2])) ([s2]).toArray rfl rfl hS rfl ?_
 intro b4 _ hS
 refine W6 (z := vA ([vN])) ([vN]).toArray I0.zero rfl hS rfl ?_
 intro b7 _ hS
 refine Z1 (Z2 (Z0 ?_))
 refine R6 (vA ([vN])) Yf8 rfl ?_
 refine W6 (z := vA ([vN])) ([vN]).toArray I0.zero rfl hS rfl ?_
 intro c4 _ hS
 refine X5 (v := vA ([vN])) (vs := ([vN]).toArray) (cs := ([vN]).toArray) U2 rfl rfl rfl hS rfl (U0 rfl) rfl ?_
 intro _ hS
 refine Z1 (Z2 (Z2 (Z0 (Z5 (vI 0) rfl rfl (Z1 (Y7 ?_))))))
 have p9 : Z9 yT H (.slice none 0 0) ([] : List (A8 × Int)) := Z9.nil
 obtain ⟨q1, d6, q2⟩ := bind_some q0
 refine W1 (id := 0) (fun k f w => ∃ (a3 : Int) (c0 : MpT) (H1 : FH) (c2 : Value), Zi3 K a0 a1 k a3 c0 = some q1 ∧ Sub H H1 ∧ St H1 w ([(c4, cA ([c2]) 45)] ++ ([(b7, cA ([vN]) 45)] ++ ([(b4, cA ([s2]) 45)] ++ ([(b1, cA ([s0] ++ [s1]) 31)] ++ L)))) ∧ 0 ≤ a3 ∧ Z9 yT H1 c2 c0 ∧ Z9 (Y6 .i64) H1 s0 a0.1 ∧ Z9 (Y9 yT) H1 s1 a0.2 ∧ Z9 yT H1 s2 a1 ∧ tv f 2 = vP b1 ∧ tv f 3 = vP b4 ∧ tv f 4 = vP b7 ∧ tv f 5 = vP c4 ∧ tv f 6 = vI a3) (fun f w => ∃ (c9 : MpT) (H1 : FH) (c3 : Value), q1 = .go c9 ∧ Sub H H1 ∧ St H1 w ([(c4, cA ([c3]) 45)] ++ ([(b7, cA ([vN]) 45)] ++ ([(b4, cA ([s2]) 45)] ++ ([(b1, cA ([s0] ++ [s1]) 31)] ++ L)))) ∧ Z9 yT H1 c3 c9 ∧ Z9 (Y6 .i64) H1 s0 a0.1 ∧ Z9 (Y9 yT) H1 s1 a0.2 ∧ Z9 yT H1 s2 a1 ∧ tv f 4 = vP b7 ∧ tv f 5 = vP c4) rfl ?_ ?_ K ?_ ?_
 rintro f w ⟨a3, c0, H1, c2, d6, _⟩
 rw [Zi3] at d6; cases d6
 rintro k _ _ z9 hx0 ⟨a3, c0, q3, c2, d6, Z3, hS, _, e8, b3, b9, b6, o0, f8, j0, j1, f9⟩
 rw [Zi3] at d6
 refine Z2 (Z2 (Z0 (Z4 (vI a3) (by exact f9) rfl (Y2 V9 (by exact f8) rfl ?_))))
 refine Y3 (s2) Q4 rfl (hS.get (mR (mR mL))) rfl rfl ?_
 have a12 := b6.bound
 refine W7 R7 rfl b6 rfl ?_
 refine V5 (k := .i64) (a := a3) (b := (a1.length : Int)) rfl rfl rfl (Z1 ?_)
 obtain ⟨m5, d6⟩ | ⟨m5, d6⟩ := ic d6
 refine Y0 (bT m5 rfl) (Y8 (Z2 (Y7 (Z2 (Z0 (Y2 V9 (by exact f8) rfl ?_))))))
 refine Y3 (s2) Q4 rfl (hS.get (mR (mR mL))) rfl rfl (Z4 (vI a3) (by exact f9) rfl ?_)
 obtain ⟨_, _, _, _, _, x5, x6, ⟨_, _, rfl, rfl, rfl⟩, x7⟩ := b6.elem (i := a3) (by omega) (by omega)
 refine X9 R7 rfl rfl x5 rfl (by omega) (by omega) rfl (Y2 M1 rfl rfl ?_)
 refine W9 (Z7 .u8 ((rd a1 a3).1)) M2 rfl (hS.froz _ _ x6) rfl (Zk1 ([]) (Z7 .u8 ((rd a1 a3).1)) (([vI ((rd a1 a3).2)])) x7 (nl rfl)) rfl ?_
 refine W6 (z := vA (Z7 .u8 (fun _ => 0))) (Z7 .u8 (fun _ => 0)).toArray Yf9.zero rfl hS rfl ?_
 intro d0 _ hS
 refine X5 (v := vA (Z7 .u8 ((rd a1 a3).1))) (vs := (Z7 .u8 ((rd a1 a3).1)).toArray) (cs := (Z7 .u8 (fun _ => 0)).toArray) M2 rfl rfl rfl hS rfl (S4 .u8 ((rd a1 a3).1)) rfl ?_
 intro _ hS
 refine Z1 (Z2 (Z0 (Z5 (vI 0) rfl rfl (Z1 (Y7 ?_)))))
 obtain ⟨m6, c5, q4⟩ := bind_some d6
 refine W1 (id := 2) (fun k f w => ∃ (a4 : Int) (a9 : MpT) (H1 : FH) (a6 : Value), F9 K a0 a1 a3 k a4 a9 = some m6 ∧ Sub H H1 ∧ St H1 w ([(d0, cA (Z7 .u8 ((rd a1 a3).1)) 72)] ++ ([(c4, cA ([a6]) 45)] ++ ([(b7, cA ([vN]) 45)] ++ ([(b4, cA ([s2]) 45)] ++ ([(b1, cA ([s0] ++ [s1]) 31)] ++ L))))) ∧ 0 ≤ a4 ∧ Z9 yT H1 a6 a9 ∧ Z9 (Y6 .i64) H1 s0 a0.1 ∧ Z9 (Y9 yT) H1 s1 a0.2 ∧ Z9 yT H1 s2 a1 ∧ tv f 2 = vP b1 ∧ tv f 3 = vP b4 ∧ tv f 4 = vP b7 ∧ tv f 5 = vP c4 ∧ tv f 6 = vI a3 ∧ tv f 7 = vP d0 ∧ tv f 8 = vI a4) (fun f w => ∃ (c6 : MpT) (H1 : FH) (d2 : Value), m6 = .go c6 ∧ Sub H H1 ∧ St H1 w ([(d0, cA (Z7 .u8 ((rd a1 a3).1)) 72)] ++ ([(c4, cA ([d2]) 45)] ++ ([(b7, cA ([vN]) 45)] ++ ([(b4, cA ([s2]) 45)] ++ ([(b1, cA ([s0] ++ [s1]) 31)] ++ L))))) ∧ Z9 yT H1 d2 c6 ∧ Z9 (Y6 .i64) H1 s0 a0.1 ∧ Z9 (Y9 yT) H1 s1 a0.2 ∧ Z9 yT H1 s2 a1 ∧ tv f 2 = vP b1 ∧ tv f 3 = vP b4 ∧ tv f 4 = vP b7 ∧ tv f 5 = vP c4 ∧ tv f 6 = vI a3) rfl ?_ ?_ K ?_ ?_
 rintro f w ⟨a4, a9, H1, a6, c5, _⟩
 rw [F9] at c5; cases c5
 rintro k _ _ w6 hx1 ⟨a4, a9, q5, a6, c5, Z3, hS, _, a5, b3, b9, b6, e2, g0, g1, g2, g3, d8, e3⟩
 rw [F9] at c5
 refine Z2 (Z2 (Z0 (Z4 (vI a4) (by exact e3) rfl (Y2 R4 (by exact e2) rfl ?_))))
 refine Y3 (s0) M9 rfl (hS.get (mR (mR (mR (mR mL))))) rfl rfl ?_
 have a13 := b3.bound
 refine W7 Q0 rfl b3 rfl ?_
 refine V5 (k := .i64) (a := a4) (b := (a0.1.length : Int)) rfl rfl rfl (Z1 ?_)
 obtain ⟨m7, c5⟩ | ⟨m7, c5⟩ := ic c5
 refine Y0 (bT m7 rfl) (Y8 (Z2 (Y7 (Z2 (Z2 (Z0 (Z4 (vI a4) (by exact e3) rfl ?_)))))))
 obtain ⟨_, c5⟩ := gd c5
 refine V2 Zd9 (by exact d8) rfl (by omega) (by omega) rfl ?_
 refine Y3 (Value.int .u8 (Y5 ((rd a1 a3).1) a4)) ty5 rfl (hS.get (o := cA (Z7 .u8 ((rd a1 a3).1)) 72) mL) (J2 ([]) ([]) (by omega) (by omega)) rfl ?_
 refine Zc2 (k := .u8) (a := (Y5 ((rd a1 a3).1) a4)) (b := 0) rfl rfl rfl (Z1 ?_)
 obtain ⟨m8, c5⟩ | ⟨m8, c5⟩ := ic c5
 refine Y0 (bT m8 rfl) ?_
 refine W0 rfl (Z0 (Z4 (vI a4) (by exact e3) rfl ?_))
 refine W8 (a4 + 1) rfl rfl (IntWalk.i64_in _ (by omega)) rfl (Z5 (vI (a4 + 1)) rfl rfl (Z1 ?_))
 exact w6 _ _ ⟨(a4 + 1), a9, q5, a6, c5, Z3, hS, (by omega), a5, b3, b9, b6, e2, g0, g1, g2, g3, d8, rfl⟩
 refine Z8 (bF m8 rfl) (Y8 (Z2 ?_))
 refine U1 6 (P0 [mE 40 (vA (Z7 .u8 ((rd a1 a3).1))), mE 41 (vA (Z7 .u8 ((rd a1 a3).1))), (9, MP.box (cA (Z7 .u8 (fun _ => 0)) 72)), (10, MP.box (cA (Z7 .u8 (fun _ => 0)) 72))]) [Co.st 2 9 4 0 40 (Yb5 72), Co.st 3 10 5 1 41 (Yb5 72)] mixed rfl (Yh3 (ns := [(2, 9, 4, 0, 40), (3, 10, 5, 1, 41)]) rfl rfl) rfl hS (Z6 rfl ?_ (Z6 rfl ?_ (Z6 rfl ?_ (Z6 rfl ?_ (Xa6 rfl ?_ (Xa6 rfl ?_ U7)))))) ?_
 exact W5 fun S B => X7 M2 (evT (B 7 rfl) d8) (S.get (mR mL)) rfl rfl (qz S)
 exact W5 fun S B => X7 M2 (evT (B 7 rfl) d8) (S.get (mR mL)) rfl rfl (qz S)
 intro _ _ _ _ _ hS _ _ hcq
 refine W6 (z := vA (Z7 .u8 (fun _ => 0))) (Z7 .u8 (fun _ => 0)).toArray Yf9.zero rfl hS rfl ?_
 intro _ _ hS
 exact qn (.refl _) rfl hS ⟨_, rfl⟩
 intro _ _ _ _ _ hS _ _ hcq
 refine W6 (z := vA (Z7 .u8 (fun _ => 0))) (Z7 .u8 (fun _ => 0)).toArray Yf9.zero rfl hS rfl ?_
 intro _ _ hS
 exact qn (.refl _) rfl hS ⟨_, rfl⟩
 intro i1 w66 w7 X68 _ hS _ q6 hcq
 have Z3 := Sub.refl w7
 obtain ⟨w8, l5⟩ := q6 2 9 rfl rfl
 have l5 : i1 9 = vP w8 := l5
 have hS : St w7 w66 (Zk9 (cA (Z7 .u8 (fun _ => 0)) 72) (i1 9) ++ (X68 ++ ([(d0, cA (Z7 .u8 ((rd a1 a3).1)) 72)] ++ ([(c4, cA ([a6]) 45)] ++ ([(b7, cA ([vN]) 45)] ++ ([(b4, cA ([s2]) 45)] ++ ([(b1, cA ([s0] ++ [s1]) 31)] ++ L))))))) := hS
 rw [l5] at hS
 have q76 : tv i1 9 = vP w8 := l5
 have w9 : tv i1 40 = vA (Z7 .u8 ((rd a1 a3).1)) := q6 0 40 rfl rfl
 refine X5 (v := vA (Z7 .u8 ((rd a1 a3).1))) (vs := (Z7 .u8 ((rd a1 a3).1)).toArray) (cs := (Z7 .u8 (fun _ => 0)).toArray) M2 q76 w9 rfl hS rfl (S4 .u8 ((rd a1 a3).1)) rfl ?_
 intro _ hS
 have g79 : i1 40 = vA (Z7 .u8 ((rd a1 a3).1)) := w9
 exact Z1 ⟨_, rfl, rfl, Z3, by show St _ _ (Zk9 (Yb5 72 (i1 40)) (i1 9) ++ _); rw [l5, g79]; exact hS, trivial⟩
 intro i2 w81 x0 X83 _ hS _ q7 hcq
 have Z3 := Sub.refl x0
 obtain ⟨x1, l6⟩ := q7 3 10 rfl rfl
 have l6 : i2 10 = vP x1 := l6
 have hS : St x0 w81 (Zk9 (cA (Z7 .u8 (fun _ => 0)) 72) (i2 10) ++ (X83 ++ ([(d0, cA (Z7 .u8 ((rd a1 a3).1)) 72)] ++ ([(c4, cA ([a6]) 45)] ++ ([(b7, cA ([vN]) 45)] ++ ([(b4, cA ([s2]) 45)] ++ ([(b1, cA ([s0] ++ [s1]) 31)] ++ L))))))) := hS
 rw [l6] at hS
 have q91 : tv i2 10 = vP x1 := l6
 have x2 : tv i2 41 = vA (Z7 .u8 ((rd a1 a3).1)) := q7 1 41 rfl rfl
 refine X5 (v := vA (Z7 .u8 ((rd a1 a3).1))) (vs := (Z7 .u8 ((rd a1 a3).1)).toArray) (cs := (Z7 .u8 (fun _ => 0)).toArray) M2 q91 x2 rfl hS rfl (S4 .u8 ((rd a1 a3).1)) rfl ?_
 intro _ hS
 have g94 : i2 41 = vA (Z7 .u8 ((rd a1 a3).1)) := x2
 exact Z1 ⟨_, rfl, rfl, Z3, by show St _ _ (Zk9 (Yb5 72 (i2 41)) (i2 10) ++ _); rw [l6, g94]; exact hS, trivial⟩
 intro e9 w96 x3 i3 hS f1 h9 hcq
 have hS : St x3 w96 ((Zk9 (Yb5 72 (e9 40)) (e9 9) ++ (Zk9 (Yb5 72 (e9 41)) (e9 10) ++ ([]))) ++ ([(d0, cA (Z7 .u8 ((rd a1 a3).1)) 72)] ++ ([(c4, cA ([a6]) 45)] ++ ([(b7, cA ([vN]) 45)] ++ ([(b4, cA ([s2]) 45)] ++ ([(b1, cA ([s0] ++ [s1]) 31)] ++ L)))))) := hS
 have Z3 := Z3.trans i3
 have b3 := b3.mono i3
 have b9 := b9.mono i3
 have b6 := b6.mono i3
 have a5 := a5.mono i3
 obtain ⟨d4, g4⟩ := h9 2 9 (by decide) rfl
 have g4 : e9 9 = vP d4 := g4
 rw [g4] at hS
 have g4 : tv e9 9 = _ := g4
 have x8 : e9 40 = vA (Z7 .u8 ((rd a1 a3).1)) := (eM (h9 0 40 (by decide) rfl))
 rw [x8] at hS
 obtain ⟨d1, g5⟩ := h9 3 10 (by decide) rfl
 have g5 : e9 10 = vP d1 := g5
 rw [g5] at hS
 have g5 : tv e9 10 = _ := g5
 have x9 : e9 41 = vA (Z7 .u8 ((rd a1 a3).1)) := (eM (h9 1 41 (by decide) rfl))
 rw [x9] at hS
 refine Z1 (Z2 (Z2 (Z0 (Z5 (vI 0) rfl rfl (Z1 (Y7 ?_))))))
 obtain ⟨m9, c8, e1⟩ := bind_some c5
 refine W1 (id := 4) (fun k f w => ∃ (a8 : Int) (b5 : A8) (b0 : A8) (H1 : FH), B7 K a4 k a8 b5 b0 = some m9 ∧ Sub H H1 ∧ St H1 w ([(d4, cA (Z7 .u8 b5) 72)] ++ ([(d1, cA (Z7 .u8 b0) 72)] ++ ([(d0, cA (Z7 .u8 ((rd a1 a3).1)) 72)] ++ ([(c4, cA ([a6]) 45)] ++ ([(b7, cA ([vN]) 45)] ++ ([(b4, cA ([s2]) 45)] ++ ([(b1, cA ([s0] ++ [s1]) 31)] ++ L))))))) ∧ 0 ≤ a8 ∧ Z9 (Y6 .i64) H1 s0 a0.1 ∧ Z9 (Y9 yT) H1 s1 a0.2 ∧ Z9 yT H1 s2 a1 ∧ Z9 yT H1 a6 a9 ∧ tv f 2 = vP b1 ∧ tv f 3 = vP b4 ∧ tv f 4 = vP b7 ∧ tv f 5 = vP c4 ∧ tv f 6 = vI a3 ∧ tv f 7 = vP d0 ∧ tv f 8 = vI a4 ∧ tv f 9 = vP d4 ∧ tv f 10 = vP d1 ∧ tv f 11 = vI a8) (fun f w => ∃ (a7 : A8) (b2 : A8) (H1 : FH), m9 = .go (a7, b2) ∧ Sub H H1 ∧ St H1 w ([(d4, cA (Z7 .u8 a7) 72)] ++ ([(d1, cA (Z7 .u8 b2) 72)] ++ ([(d0, cA (Z7 .u8 ((rd a1 a3).1)) 72)] ++ ([(c4, cA ([a6]) 45)] ++ ([(b7, cA ([vN]) 45)] ++ ([(b4, cA ([s2]) 45)] ++ ([(b1, cA ([s0] ++ [s1]) 31)] ++ L))))))) ∧ Z9 (Y6 .i64) H1 s0 a0.1 ∧ Z9 (Y9 yT) H1 s1 a0.2 ∧ Z9 yT H1 s2 a1 ∧ Z9 yT H1 a6 a9 ∧ tv f 2 = vP b1 ∧ tv f 3 = vP b4 ∧ tv f 4 = vP b7 ∧ tv f 5 = vP c4 ∧ tv f 6 = vI a3 ∧ tv f 7 = vP d0 ∧ tv f 8 = vI a4 ∧ tv f 9 = vP d4 ∧ tv f 10 = vP d1) rfl ?_ ?_ K ?_ ?_
 rintro f w ⟨a8, b5, b0, H1, c8, _⟩
 rw [B7] at c8; cases c8
 rintro k _ _ x4 hx2 ⟨a8, b5, b0, n0, c8, Z3, hS, _, b3, b9, b6, a5, g6, g7, g8, g9, h0, h1, e4, e5, f2, d7⟩
 rw [B7] at c8
 refine Z2 (Z2 (Z0 (Z4 (vI a8) (by exact d7) rfl ?_)))
 refine V5 (k := .i64) (a := a8) (b := 8) rfl rfl rfl (Z1 ?_)
 obtain ⟨k7, c8⟩ | ⟨k7, c8⟩ := ic c8
 refine Y0 (bT k7 rfl) (Y8 (Z2 (Y7 (Z2 (Z2 (Z0 (Z4 (vI a8) (by exact d7) rfl (Z4 (vI a4) (by exact e4) rfl ?_))))))))
 refine Yg8 (k := .i64) (a := a8) (b := a4) rfl rfl rfl (Z1 ?_)
 refine Zb0 (fun f w => ∃ (b8 : A8) (H1 : FH), Zm9 K (B7 K a4 k) a4 a8 b0 b8 = some m9 ∧ Sub H H1 ∧ St H1 w ([(d4, cA (Z7 .u8 b8) 72)] ++ ([(d1, cA (Z7 .u8 b0) 72)] ++ ([(d0, cA (Z7 .u8 ((rd a1 a3).1)) 72)] ++ ([(c4, cA ([a6]) 45)] ++ ([(b7, cA ([vN]) 45)] ++ ([(b4, cA ([s2]) 45)] ++ ([(b1, cA ([s0] ++ [s1]) 31)] ++ L))))))) ∧ Z9 (Y6 .i64) H1 s0 a0.1 ∧ Z9 (Y9 yT) H1 s1 a0.2 ∧ Z9 yT H1 s2 a1 ∧ Z9 yT H1 a6 a9 ∧ tv f 2 = vP b1 ∧ tv f 3 = vP b4 ∧ tv f 4 = vP b7 ∧ tv f 5 = vP c4 ∧ tv f 6 = vI a3 ∧ tv f 7 = vP d0 ∧ tv f 8 = vI a4 ∧ tv f 9 = vP d4 ∧ tv f 10 = vP d1 ∧ tv f 11 = vI a8) ?_ ?_
 rintro _ _ ⟨b8, l7, e6, Z3, hS, b3, b9, b6, a5, j2, j3, j4, j5, j6, j7, h2, j8, f3, d9⟩
 unfold Zm9 at e6
 refine Z2 (Z0 (Z4 (vI a8) (by exact d9) rfl (Z4 (vI a4) (by exact h2) rfl ?_)))
 refine Xb0 (k := .i64) (a := a8) (b := a4) rfl rfl rfl (Z1 ?_)
 obtain ⟨k8, e6⟩ | ⟨k8, e6⟩ := ic e6
 refine Y0 (bT k8 rfl) (Z0 (Z4 (vI a8) (by exact d9) rfl ?_))
 refine V2 Zd9 (by exact f3) rfl (by omega) (by omega) rfl ?_
 have hS := hS.perm V1
 refine Zb1 (v := Value.int .u8 0) (cs := (Z7 .u8 b0).toArray) (cs' := (Z7 .u8 (S6 b0 a8 0)).toArray) ty5 rfl rfl hS rfl (Yb6 rfl) (by simp [Z7, L5]; omega) (Zj1 (by omega) (by omega)) ?_
 intro _ hS
 have hS := hS.perm V1.symm
 refine Z1 (X4 (Z0 (Z4 (vI a8) (by exact d9) rfl ?_)))
 refine W8 (a8 + 1) rfl rfl (IntWalk.i64_in _ (by omega)) rfl (Z5 (vI (a8 + 1)) rfl rfl (Z1 ?_))
 exact x4 _ _ ⟨(a8 + 1), b8, (S6 b0 a8 0), l7, e6, Z3, hS, (by omega), b3, b9, b6, a5, j2, j3, j4, j5, j6, j7, h2, j8, f3, rfl⟩
 refine Z8 (bF k8 rfl) (Y8 (X4 (Z0 (Z4 (vI a8) (by exact d9) rfl ?_))))
 refine W8 (a8 + 1) rfl rfl (IntWalk.i64_in _ (by omega)) rfl (Z5 (vI (a8 + 1)) rfl rfl (Z1 ?_))
 exact x4 _ _ ⟨(a8 + 1), b8, b0, l7, e6, Z3, hS, (by omega), b3, b9, b6, a5, j2, j3, j4, j5, j6, j7, h2, j8, f3, rfl⟩
 intro q8
 obtain ⟨k9, c8⟩ | ⟨k9, c8⟩ := ic c8
 refine Y0 (bT k9 rfl) (Z0 (Z4 (vI a8) (by exact d7) rfl ?_))
 refine V2 Zd9 (by exact e5) rfl (by omega) (by omega) rfl ?_
 refine Zb1 (v := Value.int .u8 0) (cs := (Z7 .u8 b5).toArray) (cs' := (Z7 .u8 (S6 b5 a8 0)).toArray) ty5 rfl rfl hS rfl (Yb6 rfl) (by simp [Z7, L5]; omega) (Zj1 (by omega) (by omega)) ?_
 intro _ hS
 refine Z1 ?_
 exact q8 _ _ ⟨(S6 b5 a8 0), n0, c8, Z3, hS, b3, b9, b6, a5, g6, g7, g8, g9, h0, h1, e4, e5, f2, d7⟩
 refine Z8 (bF k9 rfl) (Y8 ?_)
 exact q8 _ _ ⟨b5, n0, c8, Z3, hS, b3, b9, b6, a5, g6, g7, g8, g9, h0, h1, e4, e5, f2, d7⟩
 refine Z8 (bF k7 rfl) ?_
 refine W0 rfl ?_
 obtain rfl := oi c8
 exact hx2 _ _ ⟨b5, b0, n0, rfl, Z3, hS, b3, b9, b6, a5, g6, g7, g8, g9, h0, h1, e4, e5, f2⟩
 exact ⟨0, ((rd a1 a3).1), ((rd a1 a3).1), x3, c8, Z3, hS, (by omega), b3, b9, b6, a5, (evT (f1 2 rfl) e2), (evT (f1 3 rfl) g0), (evT (f1 4 rfl) g1), (evT (f1 5 rfl) g2), (evT (f1 6 rfl) g3), (evT (f1 7 rfl) d8), (evT (f1 8 rfl) e3), g4, g5, rfl⟩
 rintro _ _ ⟨a7, b2, _, rfl, Z3, hS, b3, b9, b6, a5, o1, j9, o2, o3, k0, h3, e7, k1, n1⟩
 dsimp only [Ex.elim] at e1
 refine Z2 (Z0 ?_)
 refine X7 M2 (by exact k1) (hS.get mL) rfl rfl ?_
 refine W6 (z := vA (Z7 .u8 (fun _ => 0))) (Z7 .u8 (fun _ => 0)).toArray Yf9.zero rfl hS rfl ?_
 intro f4 _ hS
 refine X5 (v := vA (Z7 .u8 a7)) (vs := (Z7 .u8 a7).toArray) (cs := (Z7 .u8 (fun _ => 0)).toArray) M2 rfl rfl rfl hS rfl (S4 .u8 a7) rfl ?_
 intro _ hS
 refine Z1 (Z2 (Z0 (Z4 (vI a4) (by exact e7) rfl (Z4 (vI a4) (by exact e7) rfl ?_))))
 refine V2 Zd9 (by exact h3) rfl (by omega) (by omega) rfl ?_
 refine Y3 (Value.int .u8 (Y5 ((rd a1 a3).1) a4)) ty5 rfl (hS.get (o := cA (Z7 .u8 ((rd a1 a3).1)) 72) (mR (mR (mR mL)))) (J2 ([]) ([]) (by omega) (by omega)) rfl ?_
 refine Yg5 (IntKind.u8.wrap ((Y5 ((rd a1 a3).1) a4) - 1)) rfl rfl rfl rfl ?_
 refine V2 Zd9 rfl rfl (by omega) (by omega) rfl ?_
 refine Zb1 (v := Value.int .u8 (IntKind.u8.wrap ((Y5 ((rd a1 a3).1) a4) - 1))) (cs := (Z7 .u8 a7).toArray) (cs' := (Z7 .u8 (S6 a7 a4 (IntKind.u8.wrap ((Y5 ((rd a1 a3).1) a4) - 1)))).toArray) ty5 rfl rfl hS rfl (Yb6 rfl) (by simp [Z7, L5]; omega) (Zj1 (by omega) (by omega)) ?_
 intro _ hS
 refine Z1 (Z2 ?_)
 obtain ⟨q9, r0, _, _, _, t6, t7, ⟨_, _, rfl, rfl, rfl⟩, t8⟩ := b6.elem (i := a3) (by omega) (by omega)
 refine U1 12 (P0 [mE 63 (vP b4), mE 64 (s2), mE 65 (vI a3), mE 66 (vQ q9 r0), mE 67 (vQ q9 (r0 + 8)), mE 68 (vI ((rd a1 a3).2)), mE 69 (vI a4), mE 70 (vQ d0 (0 + (a4).toNat * 1)), mE 71 (Value.int .u8 (Y5 ((rd a1 a3).1) a4)), mE 72 (vI (IntKind.i64.wrap (Y5 ((rd a1 a3).1) a4))), mE 73 (vI (IntKind.i64.wrap ((rd a1 a3).2 * (IntKind.i64.wrap (Y5 ((rd a1 a3).1) a4))))), mE 13 (vI (IntKind.i64.wrap ((rd a1 a3).2 * (IntKind.i64.wrap (Y5 ((rd a1 a3).1) a4)))))]) [] mixed rfl rfl rfl hS (Z6 rfl ?_ (Z6 rfl ?_ (Z6 rfl ?_ (Z6 rfl ?_ (Z6 rfl ?_ (Z6 rfl ?_ (Z6 rfl ?_ (Z6 rfl ?_ (Z6 rfl ?_ (Z6 rfl ?_ (Z6 rfl ?_ (Z6 rfl ?_ U7)))))))))))) ?_
 exact W5 fun S B => Y2 V9 (evT (B 3 rfl) j9) rfl (qz S)
 exact X2 fun S V => Y3 (s2) Q4 (eM (V 0 63 rfl rfl)) (S.get (mR (mR (mR (mR (mR (mR (mR mL)))))))) rfl rfl (qz S)
 exact W5 fun S B => Z4 (vI a3) (evT (B 6 rfl) k0) rfl (qz S)
 exact X2 fun S V => X9 R7 rfl (eM (V 1 64 rfl rfl)) t6 (eM (V 2 65 rfl rfl)) (by omega) (by omega) rfl (qz S)
 exact X2 fun S V => Y2 Ze2 (eM (V 3 66 rfl rfl)) rfl (qz S)
 exact E6 fun s S V => Y3 (vI ((rd a1 a3).2)) ty2 (eM (V 4 67 rfl rfl)) (S.froz _ _ (s.1 _ _ t7)) (t8 8 (show 8 < 9 by decide)) rfl (qz S)
 exact W5 fun S B => Z4 (vI a4) (evT (B 8 rfl) e7) rfl (qz S)
 exact G4 fun S B V => V2 Zd9 (evT (B 7 rfl) h3) (eM (V 6 69 rfl rfl)) (by omega) (by omega) rfl (qz S)
 exact X2 fun S V => Y3 (Value.int .u8 (Y5 ((rd a1 a3).1) a4)) ty5 (eM (V 7 70 rfl rfl)) (S.get (o := cA (Z7 .u8 ((rd a1 a3).1)) 72) (mR (mR (mR (mR mL))))) (J2 ([]) ([]) (by omega) (by omega)) rfl (qz S)
 exact X2 fun S V => Ym6 (s := .u8) ((IntKind.i64.wrap (Y5 ((rd a1 a3).1) a4))) Wg5 (eM (V 8 71 rfl rfl)) rfl rfl (qz S)
 exact X2 fun S V => Zt1 (IntKind.i64.wrap ((rd a1 a3).2 * (IntKind.i64.wrap (Y5 ((rd a1 a3).1) a4)))) (eM (V 5 68 rfl rfl)) (eM (V 9 72 rfl rfl)) rfl rfl (qz S)
 exact X2 fun S V => Z5 (vI (IntKind.i64.wrap ((rd a1 a3).2 * (IntKind.i64.wrap (Y5 ((rd a1 a3).1) a4))))) (eM (V 10 73 rfl rfl)) rfl (qz S)
 intro r1 y0 y1 f5 hS d3 t9 hcq
 have hS : St y1 y0 ([(f4, cA (Z7 .u8 (S6 a7 a4 (IntKind.u8.wrap ((Y5 ((rd a1 a3).1) a4) - 1)))) 72)] ++ ([(d4, cA (Z7 .u8 a7) 72)] ++ ([(d1, cA (Z7 .u8 b2) 72)] ++ ([(d0, cA (Z7 .u8 ((rd a1 a3).1)) 72)] ++ ([(c4, cA ([a6]) 45)] ++ ([(b7, cA ([vN]) 45)] ++ ([(b4, cA ([s2]) 45)] ++ ([(b1, cA ([s0] ++ [s1]) 31)] ++ L)))))))) := hS
 have Z3 := Z3.trans f5
 have b3 := b3.mono f5
 have b9 := b9.mono f5
 have b6 := b6.mono f5
 have a5 := a5.mono f5
 have n2 := evT (d3 2 rfl) o1
 have r2 := evT (d3 3 rfl) j9
 have r3 := evT (d3 4 rfl) o2
 have r4 := evT (d3 5 rfl) o3
 have r5 := evT (d3 6 rfl) k0
 have r6 := evT (d3 7 rfl) h3
 have r7 := evT (d3 8 rfl) e7
 have r8 := evT (d3 10 rfl) n1
 have r9 : tv r1 12 = vP f4 := Eq.trans (d3 12 rfl) rfl
 have s3 : tv r1 13 = vI (IntKind.i64.wrap ((rd a1 a3).2 * (IntKind.i64.wrap (Y5 ((rd a1 a3).1) a4)))) := t9 11 13 (by decide) rfl
 refine Z1 (Z2 (Z2 (Z0 (Y2 R4 (by exact n2) rfl ?_))))
 refine Y3 (s0) M9 rfl (hS.get (mR (mR (mR (mR (mR (mR (mR mL)))))))) rfl rfl ?_
 refine X7 M2 (by exact (evT (d3 9 rfl) k1)) (hS.get (mR mL)) rfl rfl ?_
 obtain ⟨k6, u0, e1⟩ := bind_some e1
 refine X6 Tryz.call207 (U9 rfl rfl) rfl (Zx8 u0 b3 hS) ?_
 rintro _ s4 _ f6 hS rfl
 have Z3 := Z3.trans f6
 have b3 := b3.mono f6
 have b9 := b9.mono f6
 have b6 := b6.mono f6
 have a5 := a5.mono f6
 refine Zk7 ((k6).tmod 2) rfl rfl (by decide) rfl rfl ?_
 refine L7 (k := .i64) (a := ((k6).tmod 2)) (b := 0) rfl rfl rfl (Z1 ?_)
 refine Zb0 (fun f w => ∃ (c7 : Int) (H1 : FH), Zn1 K (F9 K a0 a1 a3 k) a0 a1 a3 a4 a9 a7 b2 c7 = some m6 ∧ Sub H H1 ∧ St H1 w ([(f4, cA (Z7 .u8 (S6 a7 a4 (IntKind.u8.wrap ((Y5 ((rd a1 a3).1) a4) - 1)))) 72)] ++ ([(d4, cA (Z7 .u8 a7) 72)] ++ ([(d1, cA (Z7 .u8 b2) 72)] ++ ([(d0, cA (Z7 .u8 ((rd a1 a3).1)) 72)] ++ ([(c4, cA ([a6]) 45)] ++ ([(b7, cA ([vN]) 45)] ++ ([(b4, cA ([s2]) 45)] ++ ([(b1, cA ([s0] ++ [s1]) 31)] ++ L)))))))) ∧ Z9 (Y6 .i64) H1 s0 a0.1 ∧ Z9 (Y9 yT) H1 s1 a0.2 ∧ Z9 yT H1 s2 a1 ∧ Z9 yT H1 a6 a9 ∧ tv f 2 = vP b1 ∧ tv f 3 = vP b4 ∧ tv f 4 = vP b7 ∧ tv f 5 = vP c4 ∧ tv f 6 = vI a3 ∧ tv f 7 = vP d0 ∧ tv f 8 = vI a4 ∧ tv f 10 = vP d1 ∧ tv f 12 = vP f4 ∧ tv f 13 = vI c7) ?_ ?_
 rintro _ _ ⟨c7, _, c1, Z3, hS, b3, b9, b6, a5, h4, o4, o5, o6, o7, o8, k2, n3, n4, n5⟩
 unfold Zn1 at c1
 refine Z2 ?_
 obtain ⟨m0, u1, c1⟩ := bind_some c1
 obtain ⟨_, c1⟩ := gd c1
 obtain ⟨y2, y3, _, _, _, u2, u3, ⟨l9, rfl, h5⟩, u4⟩ := b9.elem (i := a4) (by omega) (by omega)
 obtain ⟨m1, u5, c1⟩ := bind_some c1
 refine U1 12 (P0 [mE 82 (vP b1), mE 83 (s0), mE 84 (vA (Z7 .u8 (S6 a7 a4 (IntKind.u8.wrap ((Y5 ((rd a1 a3).1) a4) - 1))))), (85, MP.rep (R.agg (Y9 yT)) (m0)), mE 86 (vQ b1 1), mE 87 (s1), mE 88 (vI a4), mE 89 (vQ y2 y3), mE 90 (vA ([l9])), (91, MP.rep (R.agg (Y9 yT)) (m1)), (14, MP.box (cA ([vN]) 45))]) [Co.st 10 14 11 9 91 (Yb5 45)] mixed rfl (Yh3 (ns := [(10, 14, 11, 9, 91)]) rfl rfl) rfl hS (Z6 rfl ?_ (Z6 rfl ?_ (Z6 rfl ?_ (Z6 rfl ?_ (Z6 rfl ?_ (Z6 rfl ?_ (Z6 rfl ?_ (Z6 rfl ?_ (Z6 rfl ?_ (Z6 rfl ?_ (Z6 rfl ?_ (Xa6 rfl ?_ U7)))))))))))) ?_
 exact W5 fun S B => Y2 R4 (evT (B 2 rfl) h4) rfl (qz S)
 exact X2 fun S V => Y3 (s0) M9 (eM (V 0 82 rfl rfl)) (S.get (mR (mR (mR (mR (mR (mR (mR (mR mL))))))))) rfl rfl (qz S)
 exact W5 fun S B => X7 M2 (evT (B 12 rfl) n4) (S.get (mR mL)) rfl rfl (qz S)
 intro _ _ _ _ _ hS _ u6 hcq
 refine X6 Tryz.call208 (U9 (eM (u6 2 84 rfl rfl)) rfl) rfl (Zl2 u1  hS) ?_
 rintro _ _ _ u7 hS u8
 exact qn u7 rfl hS u8
 exact W5 fun S B => Y2 P2 (evT (B 2 rfl) h4) rfl (qz S)
 exact X2 fun S V => Y3 (s1) Zd6 (eM (V 4 86 rfl rfl)) (S.get (mR (mR (mR (mR (mR (mR (mR (mR mL))))))))) rfl rfl (qz S)
 exact W5 fun S B => Z4 (vI a4) (evT (B 8 rfl) k2) rfl (qz S)
 exact X2 fun S V => X9 P6 rfl (eM (V 5 87 rfl rfl)) u2 (eM (V 6 88 rfl rfl)) (by omega) (by omega) rfl (qz S)
 exact E6 fun s S V => W9 ([l9]) U2 (eM (V 7 89 rfl rfl)) (S.froz _ _ (s.1 _ _ u3)) rfl u4 rfl (qz S)
 intro _ _ _ _ n6 hS _ l0 hcq
 have b3 := b3.mono n6
 have h5 := h5.mono n6
 obtain ⟨_, y4, ⟨_, rfl, ⟨_, rfl, o9⟩⟩⟩ := gvR (l0 3 85 rfl rfl)
 refine X6 Tryz.call197 (G7 (eM (l0 1 83 rfl rfl)) y4 (eM (l0 8 90 rfl rfl))) rfl (Zs7 u5 b3 o9 h5 hS) ?_
 rintro _ _ _ u9 hS v0
 exact qn u9 rfl hS v0
 intro _ _ _ _ _ hS _ _ hcq
 refine W6 (z := vA ([vN])) ([vN]).toArray I0.zero rfl hS rfl ?_
 intro _ _ hS
 exact qn (.refl _) rfl hS ⟨_, rfl⟩
 intro h6 y5 s5 y6 _ hS _ n7 hcq
 have Z3 := Sub.refl s5
 obtain ⟨s6, i4⟩ := n7 10 14 rfl rfl
 have i4 : h6 14 = vP s6 := i4
 have hS : St s5 y5 (Zk9 (cA ([vN]) 45) (h6 14) ++ (y6 ++ ([(f4, cA (Z7 .u8 (S6 a7 a4 (IntKind.u8.wrap ((Y5 ((rd a1 a3).1) a4) - 1)))) 72)] ++ ([(d4, cA (Z7 .u8 a7) 72)] ++ ([(d1, cA (Z7 .u8 b2) 72)] ++ ([(d0, cA (Z7 .u8 ((rd a1 a3).1)) 72)] ++ ([(c4, cA ([a6]) 45)] ++ ([(b7, cA ([vN]) 45)] ++ ([(b4, cA ([s2]) 45)] ++ ([(b1, cA ([s0] ++ [s1]) 31)] ++ L)))))))))) := hS
 rw [i4] at hS
 have y7 : tv h6 14 = vP s6 := i4
 obtain ⟨_, s7, ⟨_, rfl, ⟨i5, rfl, p0⟩⟩⟩ := gvR (n7 9 91 rfl rfl)
 refine X5 (v := vA ([i5])) (vs := ([i5]).toArray) (cs := ([vN]).toArray) U2 y7 s7 rfl hS rfl (U0 p0.isOne) rfl ?_
 intro _ hS
 have y8 : h6 91 = vA ([i5]) := s7
 exact Z1 ⟨_, rfl, rfl, Z3, by show St _ _ (Zk9 (Yb5 45 (h6 91)) (h6 14) ++ _); rw [i4, y8]; exact hS, trivial⟩
 intro i6 y9 z0 f7 hS d5 n8 hcq
 have hS : St z0 y9 ((Zk9 (Yb5 45 (i6 91)) (i6 14) ++ ([])) ++ ([(f4, cA (Z7 .u8 (S6 a7 a4 (IntKind.u8.wrap ((Y5 ((rd a1 a3).1) a4) - 1)))) 72)] ++ ([(d4, cA (Z7 .u8 a7) 72)] ++ ([(d1, cA (Z7 .u8 b2) 72)] ++ ([(d0, cA (Z7 .u8 ((rd a1 a3).1)) 72)] ++ ([(c4, cA ([a6]) 45)] ++ ([(b7, cA ([vN]) 45)] ++ ([(b4, cA ([s2]) 45)] ++ ([(b1, cA ([s0] ++ [s1]) 31)] ++ L))))))))) := hS
 have Z3 := Z3.trans f7
 have a5 := a5.mono f7
 have b6 := b6.mono f7
 have b3 := b3.mono f7
 have b9 := b9.mono f7
 have s8 := evT (d5 2 rfl) h4
 have s9 := evT (d5 5 rfl) o6
 obtain ⟨_, z1, ⟨_, rfl, ⟨i7, rfl, h7⟩⟩⟩ := gvR (n8 9 91 (by decide) rfl)
 obtain ⟨t0, h8⟩ := n8 10 14 (by decide) rfl
 have h8 : i6 14 = vP t0 := h8
 rw [h8] at hS
 have h8 : tv i6 14 = _ := h8
 have z2 : i6 91 = vA ([i7]) := z1
 rw [z2] at hS
 refine Z1 ?_
 obtain ⟨m2, v1, c1⟩ := bind_some c1
 obtain ⟨m3, v2, c1⟩ := bind_some c1
 obtain ⟨m4, v3, c1⟩ := bind_some c1
 obtain ⟨k5, v4, c1⟩ := bind_some c1
 refine U1 10 (P0 [mE 92 (vA ([a6])), mE 93 (vP b1), mE 94 (s0), mE 95 (vA ([i7])), mE 96 (vA (Z7 .u8 b2)), (97, MP.rep (R.agg (Y9 yT)) (m2)), (98, MP.rep (R.agg (Y9 yT)) (m3)), mE 99 (vI c7), mE 100 (vI m4), (101, MP.rep (R.agg (Y9 yT)) (k5))]) [] mixed rfl rfl rfl hS (Z6 rfl ?_ (Z6 rfl ?_ (Z6 rfl ?_ (Z6 rfl ?_ (Z6 rfl ?_ (Z6 rfl ?_ (Z6 rfl ?_ (Z6 rfl ?_ (Z6 rfl ?_ (Z6 rfl ?_ U7)))))))))) ?_
 exact W5 fun S B => X7 U2 (evT (B 5 rfl) s9) (S.get (mR (mR (mR (mR (mR (mR mL))))))) rfl rfl (qz S)
 exact W5 fun S B => Y2 R4 (evT (B 2 rfl) s8) rfl (qz S)
 exact X2 fun S V => Y3 (s0) M9 (eM (V 1 93 rfl rfl)) (S.get (mR (mR (mR (mR (mR (mR (mR (mR (mR mL)))))))))) rfl rfl (qz S)
 exact W5 fun S B => X7 U2 (evT (B 14 rfl) h8) (S.get (mR mL)) rfl rfl (qz S)
 exact W5 fun S B => X7 M2 (evT (B 10 rfl) (evT (d5 10 rfl) n3)) (S.get (mR (mR (mR (mR mL))))) rfl rfl (qz S)
 intro _ _ _ _ _ hS _ v5 hcq
 refine X6 Tryz.call208 (U9 (eM (v5 4 96 rfl rfl)) rfl) rfl (Zl2 v1  hS) ?_
 rintro _ _ _ v6 hS v7
 exact qn v6 rfl hS v7
 intro _ _ _ _ n9 hS _ l1 hcq
 have b3 := b3.mono n9
 have h7 := h7.mono n9
 obtain ⟨_, z3, ⟨_, rfl, ⟨_, rfl, p1⟩⟩⟩ := gvR (l1 5 97 rfl rfl)
 refine X6 Tryz.call197 (G7 (eM (l1 2 94 rfl rfl)) (eM (l1 3 95 rfl rfl)) z3) rfl (Zs7 v2 b3 h7 p1 hS) ?_
 rintro _ _ _ v8 hS v9
 exact qn v8 rfl hS v9
 exact W5 fun S B => Z4 (vI c7) (evT (B 13 rfl) (evT (d5 13 rfl) n5)) rfl (qz S)
 intro _ _ _ _ _ hS _ w0 hcq
 refine X6 Tryz.call209 (S2 (eM (w0 7 99 rfl rfl))) rfl (Zf2 v3  hS) ?_
 rintro _ _ _ w1 hS rfl
 exact qn w1 rfl hS rfl
 intro _ _ _ _ w2 hS _ l2 hcq
 have a5 := a5.mono w2
 obtain ⟨_, z4, ⟨_, rfl, ⟨_, rfl, p2⟩⟩⟩ := gvR (l2 6 98 rfl rfl)
 refine X6 Tryz.call196 (G7 (eM (l2 0 92 rfl rfl)) z4 (eM (l2 8 100 rfl rfl))) rfl (Zw7 v4 a5 p2 hS) ?_
 rintro _ _ _ w3 hS l3
 have l3 := ((R.agg (Y9 yT))).mono (Yc2 _ _) l3
 exact qn w3 rfl hS l3
 intro _ z5 t1 i0 hS e0 w4 hcq
 have hS : St t1 z5 ([(t0, cA ([i7]) 45)] ++ ([(f4, cA (Z7 .u8 (S6 a7 a4 (IntKind.u8.wrap ((Y5 ((rd a1 a3).1) a4) - 1)))) 72)] ++ ([(d4, cA (Z7 .u8 a7) 72)] ++ ([(d1, cA (Z7 .u8 b2) 72)] ++ ([(d0, cA (Z7 .u8 ((rd a1 a3).1)) 72)] ++ ([(c4, cA ([a6]) 45)] ++ ([(b7, cA ([vN]) 45)] ++ ([(b4, cA ([s2]) 45)] ++ ([(b1, cA ([s0] ++ [s1]) 31)] ++ L))))))))) := hS
 have Z3 := Z3.trans i0
 have b6 := b6.mono i0
 have b3 := b3.mono i0
 have b9 := b9.mono i0
 have t4 := evT (e0 5 rfl) s9
 obtain ⟨_, z6, ⟨_, rfl, ⟨i8, rfl, k3⟩⟩⟩ := gvR (w4 9 101 (by decide) rfl)
 have hS := hS.perm Yn6
 refine X5 (v := vA ([i8])) (vs := ([i8]).toArray) (cs := ([a6]).toArray) U2 (by exact t4) (by exact z6) rfl hS rfl (U0 k3.isOne) rfl ?_
 intro _ hS
 have hS := hS.perm Yn6.symm
 refine Z1 (X4 (Z0 (Z4 (vI a4) (by exact (evT (e0 8 rfl) (evT (d5 8 rfl) k2))) rfl ?_)))
 refine W8 (a4 + 1) rfl rfl (IntWalk.i64_in _ (by omega)) rfl (Z5 (vI (a4 + 1)) rfl rfl (Z1 ?_))
 have hS := St.dropA hS
 have hS := St.dropA hS
 have hS := St.dropA hS
 have hS := St.dropA hS
 exact w6 _ _ ⟨(a4 + 1), k5, t1, i8, c1, Z3, hS, (by omega), k3, b3, b9, b6, (evT (e0 2 rfl) s8), (evT (e0 3 rfl) (evT (d5 3 rfl) o4)), (evT (e0 4 rfl) (evT (d5 4 rfl) o5)), t4, (evT (e0 6 rfl) (evT (d5 6 rfl) o7)), (evT (e0 7 rfl) (evT (d5 7 rfl) o8)), rfl⟩
 intro t5
 obtain ⟨l4, e1⟩ | ⟨l4, e1⟩ := ic e1
 refine Z8 (bN l4 rfl) (Y8 ?_)
 exact t5 _ _ ⟨(IntKind.i64.wrap ((rd a1 a3).2 * (IntKind.i64.wrap (Y5 ((rd a1 a3).1) a4)))), s4, e1, Z3, hS, b3, b9, b6, a5, n2, r2, r3, r4, r5, r6, r7, r8, r9, s3⟩
 refine Y0 (bO l4 rfl) (Z0 (Z4 (vI (IntKind.i64.wrap ((rd a1 a3).2 * (IntKind.i64.wrap (Y5 ((rd a1 a3).1) a4))))) (by exact s3) rfl ?_))
 refine Xj6 (IntKind.i64.wrap (0 - (IntKind.i64.wrap ((rd a1 a3).2 * (IntKind.i64.wrap (Y5 ((rd a1 a3).1) a4)))))) rfl rfl rfl (Z5 (vI (IntKind.i64.wrap (0 - (IntKind.i64.wrap ((rd a1 a3).2 * (IntKind.i64.wrap (Y5 ((rd a1 a3).1) a4))))))) rfl rfl (Z1 ?_))
 exact t5 _ _ ⟨(IntKind.i64.wrap (0 - (IntKind.i64.wrap ((rd a1 a3).2 * (IntKind.i64.wrap (Y5 ((rd a1 a3).1) a4)))))), s4, e1, Z3, hS, b3, b9, b6, a5, n2, r2, r3, r4, r5, r6, r7, r8, r9, rfl⟩
 refine Z8 (bF m7 rfl) ?_
 refine W0 rfl ?_
 obtain rfl := oi c5
 exact hx1 _ _ ⟨a9, q5, a6, rfl, Z3, hS, a5, b3, b9, b6, e2, g0, g1, g2, g3⟩
 exact ⟨0, c0, q3, c2, c5, Z3, hS, (by omega), e8, b3, b9, b6, o0, f8, j0, j1, f9, rfl, rfl⟩
 rintro _ _ ⟨c6, z7, d2, rfl, Z3, hS, i9, b3, b9, b6, p3, p4, p5, p6, p7⟩
 dsimp only [Ex.elim] at q4
 refine X4 (Z0 (Z4 (vI a3) (by exact p7) rfl ?_))
 refine W8 (a3 + 1) rfl rfl (IntWalk.i64_in _ (by omega)) rfl (Z5 (vI (a3 + 1)) rfl rfl (Z1 ?_))
 have hS := St.dropA hS
 exact z9 _ _ ⟨(a3 + 1), c6, z7, d2, q4, Z3, hS, (by omega), i9, b3, b9, b6, p3, p4, p5, p6, rfl⟩
 refine Z8 (bF m5 rfl) ?_
 refine W0 rfl ?_
 obtain rfl := oi d6
 exact hx0 _ _ ⟨c0, q3, c2, rfl, Z3, hS, e8, b3, b9, b6, j0, j1⟩
 exact ⟨0, ([] : List (A8 × Int)), H, (vN), d6, Z3, hS, (by omega), p9, b3, b9, b6, rfl, rfl, rfl, rfl, rfl⟩
 rintro _ _ ⟨c9, _, c3, rfl, Z3, hS, f0, b3, b9, b6, k4, p8⟩
 dsimp only [Ex.elim] at q2
 refine Z2 (Z0 ?_)
 refine X7 U2 (by exact p8) (hS.get mL) rfl rfl ?_
 have hS := hS.perm V1
 refine X5 (v := vA ([c3])) (vs := ([c3]).toArray) (cs := ([vN]).toArray) U2 (by exact k4) rfl rfl hS rfl (U0 f0.isOne) rfl ?_
 intro _ hS
 have hS := hS.perm V1.symm
 refine Z1 ?_
 refine X0 (vs := [vA ([c3])]) Tryz.func119 ⟨⟨_, (by exact k4), V6 U2 (hS.get (mR mL)) rfl⟩, trivial⟩ ?_
 obtain rfl := oi q2
 exact ⟨_, _, rfl, Z3, (St.dropA (St.dropA (St.dropA (St.dropA hS)))), ⟨_, rfl, ⟨_, rfl, f0⟩⟩⟩
def P4 (K : Nat) (a0 : ((List Int) × (List MpT))) : Nat → Int → (List (List Int)) → Option (Ex (List (List Int)) ((List (List Int))))
 | 0, _, _ => none
 | k + 1, a3, a1 => (if a3 < (a0.2.length : Int) then ((Zq3 K a0.1 (rd a0.2 a3)).bind fun b6 => (if a1.length + ([b6]).length ≤ 1099511627776 then P4 K a0 k (a3 + 1) (a1 ++ [b6]) else none)) else some (.go a1))
def Zb6 (K : Nat) (a0 : ((List Int) × (List MpT))) : Option (List (List Int)) := ((P4 K a0 K 0 ([] : List (List Int))).bind (Ex.elim (fun r => some r) (fun s => (fun (b1 : (List (List Int))) => some b1) s)))
theorem Yf0 {a0 : ((List Int) × (List MpT))} {r : (List (List Int))} (q0 : Zb6 K a0 = some r) (f6 : Zn2 (Zp1 (Y9 (Y6 .i64)) (Y9 (Y9 yT))) H s0 a0) (hS : St H w L) :
 Calls Tryz.prog 249 #[s0] w (T2 (fun v G => (R.sl (Y9 (Y6 .i64))).p G v r) H L) := by
 obtain ⟨b7, c5, e5, f7, _, rfl, b2, ⟨_, _, rfl, ⟨b8, rfl, a6⟩, ⟨c0, rfl, a7⟩⟩, d1⟩ := f6
 have Z3 := Sub.refl H
 refine X3 Tryz.func249 rfl Tryz.ntmps249 rfl ?_
 unfold Zb6 at q0
 refine Z2 (Z0 (Z5 (vN) rfl rfl (Z1 (Z2 (Z0 ?_)))))
 refine Zq2 (τ := (Y9 (Y6 .i64))) Yg7 Xv4 rfl hS rfl ?_
 intro u1 _ C3 f8 hS
 refine Z5 (u1) rfl rfl (Z1 (Z2 (Z2 (Z0 (Z4 (vQ b7 c5) rfl rfl (R9 rfl rfl (Y2 P2 rfl rfl ?_)))))))
 refine Y3 (c0) Zd6 rfl (hS.froz _ _ b2) (d1 1 (show 1 < 2 by decide)) rfl ?_
 have g7 := a7.bound
 refine W7 P6 rfl a7 rfl (Z4 (vI 0) rfl rfl (Z1 (Y7 ?_)))
 obtain ⟨d2, a4, d3⟩ := bind_some q0
 refine W1 (id := 0) (fun k f w => ∃ (a3 : Int) (a1 : (List (List Int))) (H1 : FH) (a8 : OL) (a5 : Value), P4 K a0 k a3 a1 = some d2 ∧ Sub H H1 ∧ St H1 w (a8 ++ L) ∧ 0 ≤ a3 ∧ W3 (Y9 (Y6 .i64)) 22 H1 a5 a1 a8 ∧ Z9 (Y6 .i64) H1 b8 a0.1 ∧ Z9 (Y9 yT) H1 c0 a0.2 ∧ H1 b7 = some (.cells e5 f7) ∧ tv f 0 = vQ b7 c5 ∧ tv f 3 = a5 ∧ tv f 10 = c0 ∧ tv f 11 = vI (a0.2.length : Int) ∧ tv f 12 = vI a3) (fun f w => ∃ (b1 : (List (List Int))) (H1 : FH) (b3 : OL) (a9 : Value), d2 = .go b1 ∧ Sub H H1 ∧ St H1 w (b3 ++ L) ∧ W3 (Y9 (Y6 .i64)) 22 H1 a9 b1 b3 ∧ tv f 3 = a9) rfl ?_ ?_ K ?_ ?_
 rintro f w ⟨a3, a1, H1, a8, a5, a4, _⟩
 rw [P4] at a4; cases a4
 rintro k _ _ f9 g0 ⟨a3, a1, e6, a8, a5, a4, Z3, hS, _, b0, a6, a7, b2, c6, c7, c1, c2, b4⟩
 rw [P4] at a4
 refine Z2 (Z0 ?_)
 refine V5 (k := .i64) (a := a3) (b := (a0.2.length : Int)) (by exact b4) (by exact c2) rfl (Z1 (Z2 ?_))
 obtain ⟨d4, a4⟩ | ⟨d4, a4⟩ := ic a4
 refine Y0 (bT d4 rfl) (Y8 (Z2 (Y7 (Z2 (Z0 ?_)))))
 obtain ⟨_, _, _, _, _, g1, g2, ⟨c3, rfl, b5⟩, g3⟩ := a7.elem (i := a3) (by omega) (by omega)
 refine X9 P6 rfl (by exact c1) g1 (by exact b4) (by omega) (by omega) rfl ?_
 refine W9 ([c3]) U2 rfl (hS.froz _ _ g2) rfl g3 rfl ?_
 refine W6 (z := vA ([vN])) ([vN]).toArray I0.zero rfl hS rfl ?_
 intro b9 _ hS
 refine X5 (v := vA ([c3])) (vs := ([c3]).toArray) (cs := ([vN]).toArray) U2 rfl rfl rfl hS rfl (U0 b5.isOne) rfl ?_
 intro _ hS
 refine Z1 ?_
 obtain ⟨b6, e7, a4⟩ := bind_some a4
 refine U1 8 (P0 [mE 16 (a5), mE 17 (vQ b7 c5), mE 18 (vQ b7 c5), mE 19 (vQ b7 (c5 + 0)), mE 20 (b8), mE 21 (vA ([c3])), (22, MP.rep (R.sl (Y6 .i64)) (b6)), (23, MP.sl (Y9 (Y6 .i64)) ([b6]))]) [] mixed rfl rfl rfl hS (Z6 rfl ?_ (Z6 rfl ?_ (Z6 rfl ?_ (Z6 rfl ?_ (Z6 rfl ?_ (Z6 rfl ?_ (Z6 rfl ?_ (Z6 rfl ?_ U7)))))))) ?_
 exact W5 fun S B => Z4 (a5) (evT (B 3 rfl) c7) rfl (qz S)
 exact W5 fun S B => Z4 (vQ b7 c5) (evT (B 0 rfl) c6) rfl (qz S)
 exact X2 fun S V => R9 (eM (V 1 17 rfl rfl)) rfl (qz S)
 exact X2 fun S V => Y2 R4 (eM (V 2 18 rfl rfl)) rfl (qz S)
 exact E6 fun s S V => Y3 (b8) M9 (eM (V 3 19 rfl rfl)) (S.froz _ _ (s.1 _ _ b2)) (d1 0 (show 0 < 2 by decide)) rfl (qz S)
 exact W5 fun S B => X7 U2 (evT (B 5 rfl) rfl) (S.get (mR mL)) rfl rfl (qz S)
 intro _ _ _ _ d5 hS _ d6 hcq
 have a6 := a6.mono d5
 have b5 := b5.mono d5
 refine X6 Tryz.call274 (U9 (eM (d6 4 20 rfl rfl)) (eM (d6 5 21 rfl rfl))) rfl (Yw0 e7 a6 b5 hS) ?_
 rintro _ _ _ e8 hS e9
 exact qn e8 rfl hS e9
 intro _ _ _ _ _ hS _ f0 hcq
 obtain ⟨g4, g5, f1⟩ := gvR (f0 6 22 rfl rfl)
 refine D9 (τ := (Y9 (Y6 .i64))) Yg7 Xv4 rfl [g4] [b6] rfl rfl (K6 g5) (Zi6 f1.relv) (by decide) (by decide) hS rfl ?_
 intro _ _ _ f2 hS f3
 exact qn f2 rfl hS f3
 intro _ g6 e4 c4 hS c8 d7 hcq
 have hS : St e4 g6 ([(b9, cA ([c3]) 45)] ++ (a8 ++ L)) := hS
 have Z3 := Z3.trans c4
 have a6 := a6.mono c4
 have a7 := a7.mono c4
 have b0 := b0.mono c4
 have b2 := c4.1 _ _ b2
 obtain ⟨_, f4, d9⟩ := gvS (d7 7 23 (by decide) rfl)
 obtain ⟨e0, a4⟩ := gd a4
 have hS := hS.perm V1
 refine N5 (τ := (Y9 (Y6 .i64))) Wu0 rfl (by exact (eM (d7 0 16 (by decide) rfl))) (by exact f4) b0 hS d9 e0 rfl ?_
 intro d8 _ f5 e1 hS
 have hS := hS.perm V1.symm
 refine Z5 (d8) rfl rfl (Z1 (X4 (Z0 ?_)))
 refine W8 (a3 + 1) (by exact (evT (c8 12 rfl) b4)) rfl (IntWalk.i64_in _ (by omega)) rfl (Z4 (vI (a3 + 1)) rfl rfl (Z1 ?_))
 have hS := St.dropA hS
 exact f9 _ _ ⟨(a3 + 1), (a1 ++ [b6]), e4, f5, d8, a4, Z3, hS, (by omega), e1, a6, a7, b2, (evT (c8 0 rfl) c6), rfl, (evT (c8 10 rfl) c1), (evT (c8 11 rfl) c2), rfl⟩
 refine Z8 (bF d4 rfl) ?_
 refine W0 rfl ?_
 obtain rfl := oi a4
 exact g0 _ _ ⟨a1, e6, a8, a5, rfl, Z3, hS, b0, c7⟩
 exact ⟨0, ([] : List (List Int)), H, C3, u1, a4, Z3, hS, (by omega), f8, a6, a7, b2, rfl, rfl, rfl, rfl, rfl⟩
 rintro _ _ ⟨b1, _, b3, a9, rfl, Z3, hS, c9, d0⟩
 dsimp only [Ex.elim] at d3
 refine Z2 (Z0 (Z4 (a9) (by exact d0) rfl (Z5 (a9) rfl rfl (Z1 ?_))))
 refine X0 (vs := [a9]) Tryz.func249 ⟨rfl, trivial⟩ ?_
 obtain ⟨_, e2, hS, e3⟩ := c9.freeze hS
 have Z3 := Z3.trans e2
 obtain rfl := oi d3
 exact ⟨_, _, rfl, Z3, hS, e3⟩
def Zq6 (K : Nat) (a0 : ((List Int) × (List MpT))) (a1 : Int) : Option Int := ((Zy3 K a0.1 a1).bind fun r4 => (if r4 < 0 then some (-1) else ((Zz8 K a0.2 r4).bind fun r7 => (if r7 < 0 then some (-1) else some r7))))
theorem Yv4 {a0 : ((List Int) × (List MpT))} {a1 : Int} {r : Int} (q0 : Zq6 K a0 a1 = some r) (a7 : Z9 (Y6 .i64) H s0 a0.1) (a3 : Z9 (Y9 yT) H s1 a0.2) (hS : St H w L) :
 Calls Tryz.prog 15 #[vA ([s0] ++ [s1]), vI a1] w (T2 (fun v G => (R.int .i64).p G v r) H L) := by
 have Z3 := Sub.refl H
 refine X3 Tryz.func15 rfl Tryz.ntmps15 rfl ?_
 unfold Zq6 at q0
 refine Z2 (Z0 ?_)
 refine S3 (v := vA ([s0] ++ [s1])) ([s0] ++ [s1]).toArray rfl rfl hS rfl ?_
 intro _ _ hS
 refine Z5 (vI 0) rfl rfl (Z1 (Z2 (Z0 (Y2 Wc1 rfl rfl ?_))))
 refine Y3 (s0) M9 rfl (hS.get mL) rfl rfl (Z4 (vI a1) rfl rfl ?_)
 obtain ⟨r4, a8, q0⟩ := bind_some q0
 refine X6 Tryz.call71 (U9 rfl rfl) rfl (Yw6 a8 a7 hS) ?_
 rintro _ _ _ a6 hS rfl
 have Z3 := Z3.trans a6
 have a3 := a3.mono a6
 refine Z5 (vI r4) rfl rfl (Z1 (Z2 (Z2 (Z0 (Z4 (vI r4) rfl rfl ?_)))))
 refine V5 (k := .i64) (a := r4) (b := 0) rfl rfl rfl (Z1 ?_)
 obtain ⟨a4, q0⟩ | ⟨a4, q0⟩ := ic q0
 refine Y0 (bT a4 rfl) (Z2 (Z0 (Z5 (vI (-1)) rfl rfl (Z1 ?_))))
 refine X0 (vs := [vI (-1)]) Tryz.func15 ⟨rfl, trivial⟩ ?_
 obtain rfl := oi q0
 exact ⟨_, _, rfl, Z3, (St.dropA hS), rfl⟩
 refine Z8 (bF a4 rfl) (Y8 (Z2 (Z0 (Y2 Wc5 rfl rfl ?_))))
 refine Y3 (s1) Vc5 rfl (hS.get mL) rfl rfl (Z4 (vI r4) rfl rfl ?_)
 obtain ⟨r7, a9, q0⟩ := bind_some q0
 refine X6 Tryz.call67 (U9 rfl rfl) rfl (Xb8 a9 a3 hS) ?_
 rintro _ _ _ b0 hS rfl
 have Z3 := Z3.trans b0
 refine Z5 (vI r7) rfl rfl (Z1 (Z2 (Z2 (Z0 (Z4 (vI r7) rfl rfl ?_)))))
 refine V5 (k := .i64) (a := r7) (b := 0) rfl rfl rfl (Z1 ?_)
 obtain ⟨a5, q0⟩ | ⟨a5, q0⟩ := ic q0
 refine Y0 (bT a5 rfl) (Z2 (Z0 (Z5 (vI (-1)) rfl rfl (Z1 ?_))))
 refine X0 (vs := [vI (-1)]) Tryz.func15 ⟨rfl, trivial⟩ ?_
 obtain rfl := oi q0
 exact ⟨_, _, rfl, Z3, (St.dropA hS), rfl⟩
 refine Z8 (bF a5 rfl) (Y8 (Z2 (Z0 (Z4 (vI r7) rfl rfl (Z5 (vI r7) rfl rfl (Z1 ?_))))))
 refine X0 (vs := [vI r7]) Tryz.func15 ⟨rfl, trivial⟩ ?_
 obtain rfl := oi q0
 exact ⟨_, _, rfl, Z3, (St.dropA hS), rfl⟩
def Zu8 (K : Nat) (a0 : MpT) (a1 : ((List Int) × (List MpT))) : Option Bool := ((Zr8 K a1.1 a0).bind fun a4 => some (!a4))
theorem Ym4 {a0 : MpT} {a1 : ((List Int) × (List MpT))} {r : Bool} (q0 : Zu8 K a0 a1 = some r) (a8 : Z9 yT H s0 a0) (c0 : Zn2 (Wu1 (Zp1 (Y9 (Y6 .i64)) (Y9 (Y9 yT)))) H s1 a1) (hS : St H w L) :
 Calls Tryz.prog 149 #[vA ([s0]), s1] w (T2 (fun v G => R.bool.p G v r) H L) := by
 obtain ⟨_, _, _, _, _, rfl, b4, ⟨_, rfl, ⟨a6, a7, _, _, _, rfl, b2, ⟨_, _, rfl, ⟨a5, rfl, a3⟩, ⟨_, rfl, _⟩⟩, b3⟩⟩, b5⟩ := c0
 have Z3 := Sub.refl H
 refine X3 Tryz.func149 rfl Tryz.ntmps149 rfl ?_
 unfold Zu8 at q0
 refine Z2 (Z0 ?_)
 refine S3 (v := vA ([s0])) ([s0]).toArray rfl rfl hS rfl ?_
 intro b1 _ hS
 refine Z5 (vB false) rfl rfl (Z1 (Z2 ?_))
 obtain ⟨a4, b6, q0⟩ := bind_some q0
 refine U1 8 (P0 [mE 4 (vQ a6 a7), mE 5 (vQ a6 a7), mE 6 (vQ a6 (a7 + 0)), mE 7 (a5), mE 8 (vA ([s0])), mE 9 (vB a4), mE 10 (vB (!a4)), mE 3 (vB (!a4))]) [] mixed rfl rfl rfl hS (Z6 rfl ?_ (Z6 rfl ?_ (Z6 rfl ?_ (Z6 rfl ?_ (Z6 rfl ?_ (Z6 rfl ?_ (Z6 rfl ?_ (Z6 rfl ?_ U7)))))))) ?_
 exact Xm2 fun s S B => Y3 (vQ a6 a7) Yo5 (evT (B 1 rfl) rfl) (S.froz _ _ (s.1 _ _ b4)) (b5 0 (show 0 < 1 by decide)) rfl (qz S)
 exact X2 fun S V => R9 (eM (V 0 4 rfl rfl)) rfl (qz S)
 exact X2 fun S V => Y2 R4 (eM (V 1 5 rfl rfl)) rfl (qz S)
 exact E6 fun s S V => Y3 (a5) M9 (eM (V 2 6 rfl rfl)) (S.froz _ _ (s.1 _ _ b2)) (b3 0 (show 0 < 2 by decide)) rfl (qz S)
 exact W5 fun S B => X7 U2 (evT (B 2 rfl) rfl) (S.get (mR mL)) rfl rfl (qz S)
 intro _ _ _ _ a9 hS _ b0 hcq
 have a3 := a3.mono a9
 have a8 := a8.mono a9
 refine X6 Tryz.call121 (U9 (eM (b0 3 7 rfl rfl)) (eM (b0 4 8 rfl rfl))) rfl (Yb4 b6 a3 a8 hS) ?_
 rintro _ _ _ b7 hS rfl
 exact qn b7 rfl hS rfl
 exact X2 fun S V => K9 (b := a4) (eM (V 5 9 rfl rfl)) rfl (qz S)
 exact X2 fun S V => Z5 (vB (!a4)) (eM (V 6 10 rfl rfl)) rfl (qz S)
 intro _ c1 c2 b8 hS _ b9 hcq
 have hS : St c2 c1 ([(b1, cA ([s0]) 45)] ++ L) := hS
 have Z3 := Z3.trans b8
 refine Z1 ?_
 refine X0 (vs := [vB (!a4)]) Tryz.func149 ⟨(by exact (eM (b9 7 3 (by decide) rfl))), trivial⟩ ?_
 obtain rfl := oi q0
 exact ⟨_, _, rfl, Z3, (St.dropA hS), rfl⟩
def Zx3 (K : Nat) (a0 : MpT) (a1 : MpT) : Option Bool := ((Zu2 K a0 a1).bind fun r7 => (if r7 = true then some true else some false))
theorem Xe9 {a0 : MpT} {a1 : MpT} {r : Bool} (q0 : Zx3 K a0 a1 = some r) (a4 : Z9 yT H s0 a0) (a5 : Z9 yT H s1 a1) (hS : St H w L) :
 Calls Tryz.prog 28 #[vA ([s0]), vA ([s1])] w (T2 (fun v G => R.bool.p G v r) H L) := by
 have Z3 := Sub.refl H
 refine X3 Tryz.func28 rfl Tryz.ntmps28 rfl ?_
 unfold Zx3 at q0
 refine Z2 (Z0 ?_)
 refine S3 (v := vA ([s0])) ([s0]).toArray rfl rfl hS rfl ?_
 intro _ _ hS
 refine S3 (v := vA ([s1])) ([s1]).toArray rfl rfl hS rfl ?_
 intro _ _ hS
 refine Z5 (vB false) rfl rfl (Z1 (Z2 (Z2 (Z0 (Y2 V9 rfl rfl ?_)))))
 refine Y3 (s0) Q4 rfl (hS.get (mR mL)) rfl rfl (Y2 V9 rfl rfl ?_)
 refine Y3 (s1) Q4 rfl (hS.get mL) rfl rfl ?_
 obtain ⟨r7, a6, q0⟩ := bind_some q0
 refine X6 Tryz.call94 (U9 rfl rfl) rfl (Xb7 a6 a4 a5 hS) ?_
 rintro _ _ _ a7 hS rfl
 have Z3 := Z3.trans a7
 refine K9 (b := r7) rfl rfl (Z1 ?_)
 obtain ⟨a3, q0⟩ | ⟨a3, q0⟩ := ic q0
 refine Z8 (Eq.trans rfl (congrArg (fun b => vB (!b)) a3)) (Y8 (Z2 (Z0 (Z5 (vB true) rfl rfl (Z1 ?_)))))
 refine X0 (vs := [vB true]) Tryz.func28 ⟨rfl, trivial⟩ ?_
 obtain rfl := oi q0
 exact ⟨_, _, rfl, Z3, (St.dropA (St.dropA hS)), rfl⟩
 refine Y0 (Eq.trans rfl (congrArg (fun b => vB (!b)) (X8 a3))) (Z2 (Z0 (Z5 (vB false) rfl rfl (Z1 ?_))))
 refine X0 (vs := [vB false]) Tryz.func28 ⟨rfl, trivial⟩ ?_
 obtain rfl := oi q0
 exact ⟨_, _, rfl, Z3, (St.dropA (St.dropA hS)), rfl⟩
end Go.Proofs.YtabofnehiclkiaaGreat
