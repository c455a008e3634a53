/- Walks of functions: each computes its pure function, if that gives a value. -/
import Derived.Test.YtabofnehiclkiaaGreatZTy
namespace Go.Proofs.YtabofnehiclkiaaGreat
open Go Go.Proofs.Tryz
set_option linter.unusedSimpArgs false
set_option linter.unusedVariables false
set_option maxRecDepth 100000
set_option maxHeartbeats 8000000
variable {K : Nat} {H : FH} {w : World} {L : OL} {s0 s1 s2 s3 s4 s5 s6 : Value}
def Zb0 (K : Nat) (g8 : Int → Int → Option (Ex (A8 × Int) (Int))) (a4 : Int) (a6 : Int) (b5 : Bool) : Option (Ex (A8 × Int) (Int)) := (if b5 = true then g8 (IntKind.i64.wrap (0 - a6)) (IntKind.i64.wrap (a4 + 1)) else g8 a6 (IntKind.i64.wrap (a4 + 1)))
def D3 (K : Nat) (g8 : Int → Int → Option (Ex (A8 × Int) (Int))) (a0 : (List Int)) (a1 : A8) (a4 : Int) (a6 : Int) (b6 : Bool) : Option (Ex (A8 × Int) (Int)) := (if b6 = true then (if 0 ≤ a4 then (if a4 < (a0.length : Int) then (if (((rd a0 a4)).tmod 2) = 0 then Zb0 K (g8) a4 a6 false else (if a4 < 8 then Zb0 K (g8) a4 a6 (decide ((Y4 a1 a4) = 1)) else none)) else none) else none) else some (.go a6))
def R5 (K : Nat) (a0 : (List Int)) (a1 : A8) (a2 : A8) (a3 : Int) : Nat → Int → Int → Option (Ex (A8 × Int) (Int))
 | 0, _, _ => none
 | k + 1, a6, a4 => (if a4 < (a0.length : Int) then D3 K (R5 K a0 a1 a2 a3 k) a0 a1 a4 a6 (decide ((Y4 a2 a3) = 1)) else D3 K (R5 K a0 a1 a2 a3 k) a0 a1 a4 a6 false)
def Q1 (K : Nat) (a0 : (List Int)) (a1 : A8) (a2 : A8) : Nat → Int → A8 → Int → Option (Ex (A8 × Int) (Int × A8))
 | 0, _, _, _ => none
 | k + 1, a3, a5, b8 => (if a3 < (a0.length : Int) then (if a3 < 8 then (if (((rd a0 a3)).tmod 2) = 0 then Q1 K a0 a1 a2 k (a3 + 1) (U8 a5 a3 (IntKind.u8.wrap ((Y4 a1 a3) + (Y4 a2 a3)))) b8 else (if 1 < (Y4 (U8 a5 a3 (IntKind.u8.wrap ((Y4 a1 a3) + (Y4 a2 a3)))) a3) then some (.ret ((fun _ => 0), 0)) else ((R5 K a0 a1 a2 a3 K b8 (a3 + 1)).bind (Ex.elim (fun r => some (.ret r)) (fun s => (fun (d1 : Int) => Q1 K a0 a1 a2 k (a3 + 1) (U8 a5 a3 (IntKind.u8.wrap ((Y4 a1 a3) + (Y4 a2 a3)))) d1) s))))) else none) else some (.go (b8, a5)))
def Zm8 (K : Nat) (a0 : (List Int)) (a1 : A8) (a2 : A8) : Option (A8 × Int) := ((Q1 K a0 a1 a2 K 0 (fun _ => 0) 1).bind (Ex.elim (fun r => some r) (fun s => (fun (c5 : Int) (a9 : A8) => some (a9, c5)) s.1 s.2)))
theorem Yt3 {a0 : (List Int)} {a1 : A8} {a2 : A8} {r : (A8 × Int)} (q0 : Zm8 K a0 a1 a2 = some r) (b0 : Y3 (Y5 .i64) H s0 a0) (hS : St H w L) :
 Calls prog 278 #[s0, vA (Z6 .u8 a1), vA (Z6 .u8 a2)] w (U7 (fun v G => (R.t2 (R.agg (Q9 .u8)) (R.int .i64)).p G v r) H L) := by
 have Z4 := Sub.refl H
 refine X0 func278 rfl ntmps278 rfl ?_
 unfold Zm8 at q0
 refine Z1 (Z0 ?_)
 refine T7 (v := vA (Z6 .u8 a1)) (Z6 .u8 a1).toArray rfl rfl hS rfl ?_
 intro b1 _ hS
 refine T7 (v := vA (Z6 .u8 a2)) (Z6 .u8 a2).toArray rfl rfl hS rfl ?_
 intro b4 _ hS
 refine U4 (z := vA (Z6 .u8 (fun _ => 0))) (Z6 .u8 (fun _ => 0)).toArray Yl0.zero rfl hS rfl ?_
 intro b7 _ hS
 refine Z5 (vI 0) rfl rfl (Z2 (Z1 (Z0 ?_)))
 refine B5 (vA (Z6 .u8 (fun _ => 0))) Wf1 rfl ?_
 refine U4 (z := vA (Z6 .u8 (fun _ => 0))) (Z6 .u8 (fun _ => 0)).toArray Yl0.zero rfl hS rfl ?_
 intro c1 _ hS
 refine W4 (v := vA (Z6 .u8 (fun _ => 0))) (vs := (Z6 .u8 (fun _ => 0)).toArray) (cs := (Z6 .u8 (fun _ => 0)).toArray) P5 rfl rfl rfl hS rfl (S8 .u8 (fun _ => 0)) rfl ?_
 intro _ hS
 refine Z5 (vI 1) rfl rfl (Z2 (Z1 (Z1 (Z0 (Z5 (vI 0) rfl rfl (Z2 (Y8 ?_)))))))
 obtain ⟨i5, a7, g1⟩ := bind_some q0
 refine W0 (id := 0) (fun k f w => ∃ (a3 : Int) (a5 : A8) (b8 : Int) (H1 : FH), Q1 K a0 a1 a2 k a3 a5 b8 = some i5 ∧ Sub H H1 ∧ St H1 w ([(c1, cA (Z6 .u8 a5) 72)] ++ ([(b7, cA (Z6 .u8 (fun _ => 0)) 72)] ++ ([(b4, cA (Z6 .u8 a2) 72)] ++ ([(b1, cA (Z6 .u8 a1) 72)] ++ L)))) ∧ 0 ≤ a3 ∧ Y3 (Y5 .i64) H1 s0 a0 ∧ tv f 0 = s0 ∧ tv f 4 = vP b1 ∧ tv f 5 = vP b4 ∧ tv f 6 = vP b7 ∧ tv f 8 = vP c1 ∧ tv f 9 = vI b8 ∧ tv f 10 = vI a3) (fun f w => ∃ (c5 : Int) (a9 : A8) (H1 : FH), i5 = .go (c5, a9) ∧ Sub H H1 ∧ St H1 w ([(c1, cA (Z6 .u8 a9) 72)] ++ ([(b7, cA (Z6 .u8 (fun _ => 0)) 72)] ++ ([(b4, cA (Z6 .u8 a2) 72)] ++ ([(b1, cA (Z6 .u8 a1) 72)] ++ L)))) ∧ tv f 6 = vP b7 ∧ tv f 8 = vP c1 ∧ tv f 9 = vI c5) rfl ?_ ?_ K ?_ ?_
 rintro f w ⟨a3, a5, b8, H1, a7, _⟩
 rw [Q1] at a7; cases a7
 rintro k _ _ j9 k4 ⟨a3, a5, b8, k1, a7, Z4, hS, _, b0, e5, e6, e7, e8, d2, e9, b9⟩
 rw [Q1] at a7
 refine Z1 (Z1 (Z0 (Z3 (vI a3) (by exact b9) rfl (Z3 (s0) (by exact e5) rfl ?_))))
 have k7 := b0.bound
 refine X9 U5 rfl b0 rfl ?_
 refine W8 (k := .i64) (a := a3) (b := (a0.length : Int)) rfl rfl rfl (Z2 ?_)
 obtain ⟨h0, a7⟩ | ⟨h0, a7⟩ := ic a7
 refine Z8 (bT h0 rfl) (Y6 (Z1 (Y8 (Z1 ?_))))
 obtain ⟨_, a7⟩ := gd a7
 refine W7 9 (S9 [mE 19 (vI a3), mE 20 (vI a3), mE 21 (vQ b1 (0 + (a3).toNat * 1)), mE 22 (Value.int .u8 (Y4 a1 a3)), mE 23 (vI a3), mE 24 (vQ b4 (0 + (a3).toNat * 1)), mE 25 (Value.int .u8 (Y4 a2 a3)), mE 26 (Value.int .u8 (IntKind.u8.wrap ((Y4 a1 a3) + (Y4 a2 a3)))), mE 27 (vQ c1 (0 + (a3).toNat * 1))]) [] mixed rfl rfl rfl hS (V9 ?_ ?_ ?_ ?_ ?_ ?_ ?_ ?_ (E8 ?_ V1)) ?_
 exact X4 fun S B => Z3 (vI a3) (evT (B 10 rfl) b9) rfl (qz S)
 exact X4 fun S B => Z3 (vI a3) (evT (B 10 rfl) b9) rfl (qz S)
 exact L3 fun S B V => V5 Ze8 (evT (B 4 rfl) e6) (eM (V 1 20 rfl rfl)) (by omega) (by omega) rfl (qz S)
 exact Y7 fun S V => Y0 (Value.int .u8 (Y4 a1 a3)) ty5 (eM (V 2 21 rfl rfl)) (S.get (o := cA (Z6 .u8 a1) 72) (mR (mR (mR (mR mL))))) (J3 ([]) ([]) (by omega) (by omega)) rfl (qz S)
 exact X4 fun S B => Z3 (vI a3) (evT (B 10 rfl) b9) rfl (qz S)
 exact L3 fun S B V => V5 Ze8 (evT (B 5 rfl) e7) (eM (V 4 23 rfl rfl)) (by omega) (by omega) rfl (qz S)
 exact Y7 fun S V => Y0 (Value.int .u8 (Y4 a2 a3)) ty5 (eM (V 5 24 rfl rfl)) (S.get (o := cA (Z6 .u8 a2) 72) (mR (mR (mR mL)))) (J3 ([]) ([]) (by omega) (by omega)) rfl (qz S)
 exact Y7 fun S V => W2 (IntKind.u8.wrap ((Y4 a1 a3) + (Y4 a2 a3))) (eM (V 3 22 rfl rfl)) (eM (V 6 25 rfl rfl)) rfl rfl (qz S)
 exact L3 fun S B V => V5 Ze8 (evT (B 8 rfl) d2) (eM (V 0 19 rfl rfl)) (by omega) (by omega) rfl (qz S)
 intro _ k2 h1 h5 hS c3 h6 hcq
 have hS : St h1 k2 ([(c1, cA (Z6 .u8 a5) 72)] ++ ([(b7, cA (Z6 .u8 (fun _ => 0)) 72)] ++ ([(b4, cA (Z6 .u8 a2) 72)] ++ ([(b1, cA (Z6 .u8 a1) 72)] ++ L)))) := hS
 have Z4 := Z4.trans h5
 have b0 := b0.mono h5
 have h2 := evT (c3 0 rfl) e5
 have i6 := evT (c3 4 rfl) e6
 have i7 := evT (c3 5 rfl) e7
 have g2 := evT (c3 6 rfl) e8
 have h3 := evT (c3 8 rfl) d2
 have i8 := evT (c3 9 rfl) e9
 have d9 := evT (c3 10 rfl) b9
 refine K6 (v := Value.int .u8 (IntKind.u8.wrap ((Y4 a1 a3) + (Y4 a2 a3)))) (cs := (Z6 .u8 a5).toArray) (cs' := (Z6 .u8 (U8 a5 a3 (IntKind.u8.wrap ((Y4 a1 a3) + (Y4 a2 a3))))).toArray) ty5 (by exact (eM (h6 8 27 (by decide) rfl))) (by exact (eM (h6 7 26 (by decide) rfl))) hS rfl (Zs5 rfl) (by simp [Z6, N9]; omega) (Zh7 (by omega) (by omega)) ?_
 intro _ hS
 refine Z2 (Z1 (Z1 (Z0 (Z3 (s0) (by exact h2) rfl (Z3 (vI a3) (by exact d9) rfl ?_)))))
 obtain ⟨_, _, _, _, _, j3, j4, rfl, j5⟩ := b0.elem (i := a3) (by omega) (by omega)
 refine X5 U5 rfl rfl j3 rfl (by omega) (by omega) rfl ?_
 refine Y0 (vI (rd a0 a3)) ty2 rfl (hS.froz _ _ j4) (j5 0 (show 0 < 1 by decide)) rfl ?_
 refine Zc1 (((rd a0 a3)).tmod 2) rfl rfl (by decide) rfl rfl ?_
 refine Za0 (k := .i64) (a := (((rd a0 a3)).tmod 2)) (b := 0) rfl rfl rfl (Z2 ?_)
 obtain ⟨g3, a7⟩ | ⟨g3, a7⟩ := ic a7
 refine Z8 (bT g3 rfl) ?_
 refine X7 rfl (Z0 (Z3 (vI a3) (by exact d9) rfl ?_))
 refine W2 (a3 + 1) rfl rfl (IntWalk.i64_in _ (by omega)) rfl (Z5 (vI (a3 + 1)) rfl rfl (Z2 ?_))
 exact j9 _ _ ⟨(a3 + 1), (U8 a5 a3 (IntKind.u8.wrap ((Y4 a1 a3) + (Y4 a2 a3)))), b8, h1, a7, Z4, hS, (by omega), b0, h2, i6, i7, g2, h3, i8, rfl⟩
 refine Z7 (bF g3 rfl) (Y6 (Z1 (Z1 (Z0 (Z3 (vI a3) (by exact d9) rfl ?_)))))
 refine V5 Ze8 (by exact h3) rfl (by omega) (by omega) rfl ?_
 refine Y0 (Value.int .u8 (Y4 (U8 a5 a3 (IntKind.u8.wrap ((Y4 a1 a3) + (Y4 a2 a3)))) a3)) ty5 rfl (hS.get (o := cA (Z6 .u8 (U8 a5 a3 (IntKind.u8.wrap ((Y4 a1 a3) + (Y4 a2 a3))))) 72) mL) (J3 ([]) ([]) (by omega) (by omega)) rfl ?_
 refine Za9 (k := .u8) (a := (Y4 (U8 a5 a3 (IntKind.u8.wrap ((Y4 a1 a3) + (Y4 a2 a3)))) a3)) (b := 1) rfl rfl rfl (Z2 ?_)
 obtain ⟨g4, a7⟩ | ⟨g4, a7⟩ := ic a7
 refine Z8 (bT g4 rfl) (Z1 (Z0 ?_))
 refine B5 (vA (Z6 .u8 (fun _ => 0))) Wf1 rfl ?_
 have hS := hS.perm R6
 refine W4 (v := vA (Z6 .u8 (fun _ => 0))) (vs := (Z6 .u8 (fun _ => 0)).toArray) (cs := (Z6 .u8 (fun _ => 0)).toArray) P5 (by exact g2) rfl rfl hS rfl (S8 .u8 (fun _ => 0)) rfl ?_
 intro _ hS
 have hS := hS.perm R6.symm
 refine Z5 (vI 0) rfl rfl (Z2 ?_)
 refine Y9 (vs := [vA (Z6 .u8 (fun _ => 0)), vI 0]) func278 ⟨⟨_, (by exact g2), P1 P5 (hS.get (mR mL)) rfl⟩, rfl, trivial⟩ ?_
 obtain rfl := oi a7
 dsimp only [Ex.elim] at g1
 obtain rfl := oi g1
 exact ⟨_, _, rfl, Z4, (St.dropA (St.dropA (St.dropA (St.dropA hS)))), ⟨_, _, rfl, ⟨_, rfl, rfl⟩, rfl⟩⟩
 refine Z7 (bF g4 rfl) (Y6 (Z1 (Z0 (Z3 (vI a3) (by exact d9) rfl ?_))))
 refine W2 (a3 + 1) rfl rfl (IntWalk.i64_in _ (by omega)) rfl (Z5 (vI (a3 + 1)) rfl rfl (Z2 (Y8 ?_)))
 obtain ⟨g5, c0, i9⟩ := bind_some a7
 refine W0 (id := 2) (fun k f w => ∃ (a6 : Int) (a4 : Int) (H1 : FH), R5 K a0 a1 a2 a3 k a6 a4 = some g5 ∧ Sub H H1 ∧ St H1 w ([(c1, cA (Z6 .u8 (U8 a5 a3 (IntKind.u8.wrap ((Y4 a1 a3) + (Y4 a2 a3))))) 72)] ++ ([(b7, cA (Z6 .u8 (fun _ => 0)) 72)] ++ ([(b4, cA (Z6 .u8 a2) 72)] ++ ([(b1, cA (Z6 .u8 a1) 72)] ++ L)))) ∧ Y3 (Y5 .i64) H1 s0 a0 ∧ tv f 0 = s0 ∧ tv f 4 = vP b1 ∧ tv f 5 = vP b4 ∧ tv f 6 = vP b7 ∧ tv f 8 = vP c1 ∧ tv f 9 = vI a6 ∧ tv f 10 = vI a3 ∧ tv f 11 = vI a4) (fun f w => ∃ (d1 : Int) (H1 : FH), g5 = .go d1 ∧ Sub H H1 ∧ St H1 w ([(c1, cA (Z6 .u8 (U8 a5 a3 (IntKind.u8.wrap ((Y4 a1 a3) + (Y4 a2 a3))))) 72)] ++ ([(b7, cA (Z6 .u8 (fun _ => 0)) 72)] ++ ([(b4, cA (Z6 .u8 a2) 72)] ++ ([(b1, cA (Z6 .u8 a1) 72)] ++ L)))) ∧ Y3 (Y5 .i64) H1 s0 a0 ∧ tv f 0 = s0 ∧ tv f 4 = vP b1 ∧ tv f 5 = vP b4 ∧ tv f 6 = vP b7 ∧ tv f 8 = vP c1 ∧ tv f 9 = vI d1 ∧ tv f 10 = vI a3) rfl ?_ ?_ K ?_ ?_
 rintro f w ⟨a6, a4, H1, c0, _⟩
 rw [R5] at c0; cases c0
 rintro k _ _ k0 k5 ⟨a6, a4, j0, c0, Z4, hS, b0, d3, f0, d4, f1, f2, f3, c8, c9⟩
 rw [R5] at c0
 refine Z1 (Z1 ?_)
 refine N4 (fun f w => ∃ (b6 : Bool) (H1 : FH), D3 K (R5 K a0 a1 a2 a3 k) a0 a1 a4 a6 b6 = some g5 ∧ Sub H H1 ∧ St H1 w ([(c1, cA (Z6 .u8 (U8 a5 a3 (IntKind.u8.wrap ((Y4 a1 a3) + (Y4 a2 a3))))) 72)] ++ ([(b7, cA (Z6 .u8 (fun _ => 0)) 72)] ++ ([(b4, cA (Z6 .u8 a2) 72)] ++ ([(b1, cA (Z6 .u8 a1) 72)] ++ L)))) ∧ Y3 (Y5 .i64) H1 s0 a0 ∧ tv f 0 = s0 ∧ tv f 4 = vP b1 ∧ tv f 5 = vP b4 ∧ tv f 6 = vP b7 ∧ tv f 8 = vP c1 ∧ tv f 9 = vI a6 ∧ tv f 10 = vI a3 ∧ tv f 11 = vI a4 ∧ tv f 50 = vB b6) ?_ ?_
 rintro _ _ ⟨b6, e0, a8, Z4, hS, b0, c6, c7, d5, d6, d7, d8, d0, c4, e1⟩
 unfold D3 at a8
 obtain ⟨g6, a8⟩ | ⟨g6, a8⟩ := ic a8
 refine Z8 (Eq.trans (by exact e1) (congrArg vB g6)) (Y6 (Z1 (Y8 (Z1 ?_))))
 refine N4 (fun f w => ∃ (b5 : Bool) (H1 : FH), Zb0 K (R5 K a0 a1 a2 a3 k) a4 a6 b5 = some g5 ∧ Sub H H1 ∧ St H1 w ([(c1, cA (Z6 .u8 (U8 a5 a3 (IntKind.u8.wrap ((Y4 a1 a3) + (Y4 a2 a3))))) 72)] ++ ([(b7, cA (Z6 .u8 (fun _ => 0)) 72)] ++ ([(b4, cA (Z6 .u8 a2) 72)] ++ ([(b1, cA (Z6 .u8 a1) 72)] ++ L)))) ∧ Y3 (Y5 .i64) H1 s0 a0 ∧ tv f 0 = s0 ∧ tv f 4 = vP b1 ∧ tv f 5 = vP b4 ∧ tv f 6 = vP b7 ∧ tv f 8 = vP c1 ∧ tv f 9 = vI a6 ∧ tv f 10 = vI a3 ∧ tv f 11 = vI a4 ∧ tv f 64 = vB b5) ?_ ?_
 rintro _ _ ⟨b5, g9, c2, Z4, hS, b0, f4, f5, f6, f7, f8, f9, e2, e3, e4⟩
 unfold Zb0 at c2
 obtain ⟨g7, c2⟩ | ⟨g7, c2⟩ := ic c2
 refine Z8 (Eq.trans (by exact e4) (congrArg vB g7)) (Z0 (Z3 (vI a6) (by exact f9) rfl ?_))
 refine Xq6 (IntKind.i64.wrap (0 - a6)) rfl rfl rfl (Z5 (vI (IntKind.i64.wrap (0 - a6))) rfl rfl (Z2 (X1 (Z0 (Z3 (vI a4) (by exact e3) rfl ?_)))))
 refine W2 (IntKind.i64.wrap (a4 + 1)) rfl rfl rfl rfl (Z5 (vI (IntKind.i64.wrap (a4 + 1))) rfl rfl (Z2 ?_))
 exact k0 _ _ ⟨(IntKind.i64.wrap (0 - a6)), (IntKind.i64.wrap (a4 + 1)), g9, c2, Z4, hS, b0, f4, f5, f6, f7, f8, rfl, e2, rfl⟩
 refine Z7 (Eq.trans (by exact e4) (congrArg vB (W1 g7))) (Y6 (X1 (Z0 (Z3 (vI a4) (by exact e3) rfl ?_))))
 refine W2 (IntKind.i64.wrap (a4 + 1)) rfl rfl rfl rfl (Z5 (vI (IntKind.i64.wrap (a4 + 1))) rfl rfl (Z2 ?_))
 exact k0 _ _ ⟨a6, (IntKind.i64.wrap (a4 + 1)), g9, c2, Z4, hS, b0, f4, f5, f6, f7, f8, f9, e2, rfl⟩
 intro j1
 refine Z0 (Z3 (s0) (by exact c6) rfl (Z3 (vI a4) (by exact c4) rfl ?_))
 obtain ⟨_, a8⟩ := gd a8
 obtain ⟨_, a8⟩ := gd a8
 obtain ⟨_, _, _, _, _, j6, j7, rfl, j8⟩ := b0.elem (i := a4) (by omega) (by omega)
 refine X5 U5 rfl rfl j6 rfl (by omega) (by omega) rfl ?_
 refine Y0 (vI (rd a0 a4)) ty2 rfl (hS.froz _ _ j7) (j8 0 (show 0 < 1 by decide)) rfl ?_
 refine Zc1 (((rd a0 a4)).tmod 2) rfl rfl (by decide) rfl rfl ?_
 refine M0 (k := .i64) (a := (((rd a0 a4)).tmod 2)) (b := 0) rfl rfl rfl (Z3 (vB (!decide ((((rd a0 a4)).tmod 2) = 0))) rfl rfl ?_)
 obtain ⟨b2, a8⟩ | ⟨b2, a8⟩ := ic a8
 refine Z9 rfl rfl (bN b2 rfl) rfl rfl rfl (Z9 rfl rfl (bN b2 rfl) rfl rfl rfl (Z9 rfl rfl (bN b2 rfl) rfl rfl rfl (Z9 rfl rfl (bN b2 rfl) rfl rfl rfl ?_)))
 refine W6 (t := false) (vB false) (bN b2 rfl) ((if_neg Bool.false_ne_true).trans rfl) rfl (Z2 ?_)
 exact j1 _ _ ⟨false, e0, a8, Z4, hS, b0, c6, c7, d5, d6, d7, d8, d0, c4, rfl⟩
 refine Y1 rfl rfl (bO b2 rfl) (Z3 (vI a4) (by exact c4) rfl ?_)
 refine Y1 rfl rfl (bO b2 rfl) ?_
 obtain ⟨_, a8⟩ := gd a8
 refine V5 Ze8 (by exact c7) rfl (by omega) (by omega) rfl ?_
 refine Y1 rfl rfl (bO b2 rfl) ?_
 refine Y0 (Value.int .u8 (Y4 a1 a4)) ty5 rfl (hS.get (o := cA (Z6 .u8 a1) 72) (mR (mR (mR mL)))) (J3 ([]) ([]) (by omega) (by omega)) rfl ?_
 refine Y1 rfl rfl (bO b2 rfl) ?_
 refine Za0 (k := .u8) (a := (Y4 a1 a4)) (b := 1) rfl rfl rfl ?_
 refine W6 (t := true) (vB (decide ((Y4 a1 a4) = 1))) (bO b2 rfl) ((if_pos rfl).trans rfl) rfl (Z2 ?_)
 exact j1 _ _ ⟨(decide ((Y4 a1 a4) = 1)), e0, a8, Z4, hS, b0, c6, c7, d5, d6, d7, d8, d0, c4, rfl⟩
 refine Z7 (Eq.trans (by exact e1) (congrArg vB (W1 g6))) ?_
 refine X7 rfl ?_
 obtain rfl := oi a8
 exact k5 _ _ ⟨a6, e0, rfl, Z4, hS, b0, c6, c7, d5, d6, d7, d8, d0⟩
 intro j2
 refine Z0 (Z3 (vI a4) (by exact c9) rfl (Z3 (s0) (by exact d3) rfl ?_))
 have k6 := b0.bound
 refine X9 U5 rfl b0 rfl ?_
 refine W8 (k := .i64) (a := a4) (b := (a0.length : Int)) rfl rfl rfl (Z3 (vB (decide (a4 < (a0.length : Int)))) rfl rfl ?_)
 obtain ⟨b3, c0⟩ | ⟨b3, c0⟩ := ic c0
 refine Y1 rfl rfl (bT b3 rfl) (Z3 (vI a3) (by exact c8) rfl ?_)
 refine Y1 rfl rfl (bT b3 rfl) ?_
 refine V5 Ze8 (by exact d4) rfl (by omega) (by omega) rfl ?_
 refine Y1 rfl rfl (bT b3 rfl) ?_
 refine Y0 (Value.int .u8 (Y4 a2 a3)) ty5 rfl (hS.get (o := cA (Z6 .u8 a2) 72) (mR (mR mL))) (J3 ([]) ([]) (by omega) (by omega)) rfl ?_
 refine Y1 rfl rfl (bT b3 rfl) ?_
 refine Za0 (k := .u8) (a := (Y4 a2 a3)) (b := 1) rfl rfl rfl ?_
 refine W6 (t := true) (vB (decide ((Y4 a2 a3) = 1))) (bT b3 rfl) ((if_pos rfl).trans rfl) rfl (Z2 ?_)
 exact j2 _ _ ⟨(decide ((Y4 a2 a3) = 1)), j0, c0, Z4, hS, b0, d3, f0, d4, f1, f2, f3, c8, c9, rfl⟩
 refine Z9 rfl rfl (bF b3 rfl) rfl rfl rfl (Z9 rfl rfl (bF b3 rfl) rfl rfl rfl (Z9 rfl rfl (bF b3 rfl) rfl rfl rfl (Z9 rfl rfl (bF b3 rfl) rfl rfl rfl ?_)))
 refine W6 (t := false) (vB false) (bF b3 rfl) ((if_neg Bool.false_ne_true).trans rfl) rfl (Z2 ?_)
 exact j2 _ _ ⟨false, j0, c0, Z4, hS, b0, d3, f0, d4, f1, f2, f3, c8, c9, rfl⟩
 exact ⟨b8, (a3 + 1), h1, c0, Z4, hS, b0, h2, i6, i7, g2, h3, i8, d9, rfl⟩
 rintro _ _ ⟨d1, k3, rfl, Z4, hS, b0, h7, h8, h9, i0, i1, i2, h4⟩
 dsimp only [Ex.elim] at i9
 refine X1 (Z0 (Z3 (vI a3) (by exact h4) rfl ?_))
 refine W2 (a3 + 1) rfl rfl (IntWalk.i64_in _ (by omega)) rfl (Z5 (vI (a3 + 1)) rfl rfl (Z2 ?_))
 exact j9 _ _ ⟨(a3 + 1), (U8 a5 a3 (IntKind.u8.wrap ((Y4 a1 a3) + (Y4 a2 a3)))), d1, k3, i9, Z4, hS, (by omega), b0, h7, h8, h9, i0, i1, i2, rfl⟩
 refine Z7 (bF h0 rfl) ?_
 refine X7 rfl ?_
 obtain rfl := oi a7
 exact k4 _ _ ⟨b8, a5, k1, rfl, Z4, hS, e8, d2, e9⟩
 exact ⟨0, (fun _ => 0), 1, H, a7, Z4, hS, (by omega), b0, rfl, rfl, rfl, rfl, rfl, rfl, rfl⟩
 rintro _ _ ⟨c5, a9, _, rfl, Z4, hS, g0, i3, i4⟩
 dsimp only [Ex.elim] at g1
 refine Z1 (Z0 ?_)
 refine W3 P5 (by exact i3) (hS.get mL) rfl rfl (Z3 (vI c5) (by exact i4) rfl ?_)
 have hS := hS.perm R6
 refine W4 (v := vA (Z6 .u8 a9)) (vs := (Z6 .u8 a9).toArray) (cs := (Z6 .u8 (fun _ => 0)).toArray) P5 (by exact g0) rfl rfl hS rfl (S8 .u8 a9) rfl ?_
 intro _ hS
 have hS := hS.perm R6.symm
 refine Z5 (vI c5) rfl rfl (Z2 ?_)
 refine Y9 (vs := [vA (Z6 .u8 a9), vI c5]) func278 ⟨⟨_, (by exact g0), P1 P5 (hS.get (mR mL)) rfl⟩, rfl, trivial⟩ ?_
 obtain rfl := oi g1
 exact ⟨_, _, rfl, Z4, (St.dropA (St.dropA (St.dropA (St.dropA hS)))), ⟨_, _, rfl, ⟨_, rfl, rfl⟩, rfl⟩⟩
section
variable {P : Program} {n : Nat} {l : List Oper} {m : Nat} {tab : Nat → MP} {H : FH} {L : OL} {f0 : Fr} {J : Fr → World → Prop} {B : FH → World → Prop} {late : Nat → Bool}
theorem Wu5 (hres : ∀ d v, (tab d).res v = []) (hok : Zg8 l (m + 1) = true) (hml : m + 1 ≤ l.length)
 (hdm : (l[m]?).bind (·.dst) = none) (hmid : ∀ i, i < m → late i = false → ((Q5 l []).getD m 0).testBit i = true) (hnm : ∀ i, i < m → late i = true → ((Q5 l []).getD i 0).testBit m = false)
 (hla : ∀ i o, i < m → late i = true → l[i]? = some o → ∃ d, o.dst = some d ∧ ∀ f w H', Sub H H' → (∀ t, inD (l.take (m + 1)) t = false → f t = f0 t) → (∀ i' d', i' < m → ((Q5 l []).getD i 0).testBit i' = true → (l[i']?).bind (·.dst) = some d' → (tab d').p H' (f d')) →
  X6 P n l.toArray (fun f' w' => ∃ v, f' = upd f d v ∧ w' = w ∧ (tab d).p H' v) [o] f w)
 (hq : J0 (Zc9 P n l m tab [] H L f0) (l.take m) 0)
 (hm : ∀ o f w H', l[m]? = some o → Sub H H' → St H' w L → (∀ t, inD (l.take m) t = false → f t = f0 t) → (∀ i d, i < m → late i = false → (l[i]?).bind (·.dst) = some d → (tab d).p H' (f d)) →
  X6 P n l.toArray (fun f' w' => ∃ H'', f' = f ∧ Sub H' H'' ∧ B H'' w') [o] f w)
 (ht : ∀ f w H', Sub H H' → B H' w → (∀ t, inD (l.take (m + 1)) t = false → f t = f0 t) → (∀ i d, i < m → (l[i]?).bind (·.dst) = some d → (tab d).p H' (f d)) → X6 P n l.toArray J (l.drop (m + 1)) f w) :
 ∀ (fuel : Nat) (listed : Array Bool) (a : Act) (w : World) (f : Fr) (H' : FH), listed.size = l.length → listed.toList.countP id + fuel = l.length →
  (∀ i, listed.getD i false = true → i < m + 1) → Yc1 l listed → Zg5 n a f → Sub H H' →
  (listed.getD m false = false → St H' w L ∧ ∀ t, inD (l.take m) t = false → f t = f0 t) → (listed.getD m false = true → B H' w) → (∀ t, inD (l.take (m + 1)) t = false → f t = f0 t) →
  (∀ i d, i < m → listed.getD i false = true → (l[i]?).bind (·.dst) = some d → (tab d).p H' (f d)) → wpAny P .any l.toArray (Yc2 n J) fuel listed a w := by
 have hdd : ∀ i j d d', i ≠ j → i < m → j < m → (l[i]?).bind (·.dst) = some d → (l[j]?).bind (·.dst) = some d' → d ≠ d' := fun i j d d' hij hi hj hd hd' =>
  Za5 (E1 hok) (i := i) (j := j) hij (by rw [List.getElem?_take, if_pos (by omega)]; exact hd) (by rw [List.getElem?_take, if_pos (by omega)]; exact hd')
 intro fuel
 induction fuel with
 | zero =>
  intro listed a w f H' hs hcnt hlt hc ha Z4 hA hB hb hv
  have hall := Zw2 (xs := listed.toList) (by have := Array.length_toList (xs := listed); omega)
  have hget : ∀ i, i < l.length → listed.getD i false = true := fun i hi => by
   have := hall i (by simp; omega)
   rw [List.getD_eq_getElem?_getD] at this
   rw [Array.getD_eq_getD_getElem?]
   simpa using this
  have hme : m + 1 = l.length := by
   rcases Nat.lt_or_ge (m + 1) l.length with h | h
   have := hlt (m + 1) (hget (m + 1) h); omega
   omega
  refine ⟨?_, ?_⟩
  cases hr : Region.ready .any l.toArray listed with
  | nil => rfl
  | cons j r =>
   obtain ⟨o, ho, hj, hf, _⟩ := Zg1 hs (by rw [hr]; exact List.mem_cons_self ..)
   rw [hget j (by omega)] at hf; cases hf
  have := ht f w H' Z4 (hB (hget m (by omega))) hb (fun i d hi hd => hv i d hi (hget i (by omega)) hd) a ha
  rw [hme, List.drop_length] at this
  exact this
 | succ fuel ih =>
  intro listed a w f H' hs hcnt hlt hc ha Z4 hA hB hb hv
  by_cases hall : ∀ i, i < m + 1 → listed.getD i false = true
  have hk : ∀ i, listed.getD i false = decide (i < m + 1) := by
   intro i
   by_cases h : i < m + 1
   rw [hall i h]; exact (decide_eq_true h).symm
   cases hg : listed.getD i false with
   | false => exact (decide_eq_false h).symm
   | true => exact absurd (hlt i hg) h
  have hcm : listed.toList.countP id = m + 1 := by
   refine Yw1 _ (m + 1) (by simp; omega) (fun i => ?_)
   rw [← hk i, List.getD_eq_getElem?_getD, Array.getD_eq_getD_getElem?]
   simp
  exact Ye7 hok (fuel + 1) (m + 1) listed a w hs (by omega) (Nat.le_refl _) hk (ht f w H' Z4 (hB (hall m (by omega))) hb (fun i d hi hd => hv i d hi (hall i (by omega)) hd) a ha)
  refine ⟨fun hr => ?_, fun j hj => ?_⟩
  exact absurd (fun i hi => Yb0 hs (Zp7 hok) hr i (by omega)) hall
  obtain ⟨o, ho, hjs, hf, he⟩ := Zg1 hs hj
  obtain ⟨hmk, hc'⟩ := Zy2 ho hc hjs he
  have hjl : j < l.length := by omega
  have hjm : j < m + 1 := by
   rcases Nat.lt_or_ge j (m + 1) with h | h
   exact h
   exact absurd (fun i hi => hmk i (Zu3 hok j h hjl i (by omega))) hall
  have hset : ∀ i, i ≠ j → (listed.setIfInBounds j true).getD i false = listed.getD i false := fun i hij => by
   rw [Array.getD_eq_getD_getElem?, Array.getD_eq_getD_getElem?, Array.getElem?_setIfInBounds, if_neg (fun h => hij h.symm)]
  have hsj : (listed.setIfInBounds j true).getD j false = true := by rw [Array.getD_eq_getD_getElem?, Array.getElem?_setIfInBounds]; simp [hjs]
  have hx : listed.toList[j]? = some false := by
   rw [Array.getD_eq_getD_getElem?] at hf
   simpa [hjs] using hf
  have hcnt' : (listed.setIfInBounds j true).toList.countP id + fuel = l.length := by
   have := Zx4 listed.toList j hx
   rw [Array.toList_setIfInBounds]; rw [this]; omega
  have hlt' : ∀ i, (listed.setIfInBounds j true).getD i false = true → i < m + 1 := by
   intro i hi
   rcases Zb6 hi with rfl | h
   exact hjm
   exact hlt i h
  by_cases ejm : j = m
  subst ejm
  obtain ⟨hS, hbA⟩ := hA hf
  refine J7 ho ha (hm o f w H' ho Z4 hS hbA (fun i d hi hij hd => hv i d hi (hmk i (hmid i hi hij)) hd)) ?_
  rintro f' a' w' ha' ⟨H'', rfl, hs2, hB2⟩
  refine ih (listed.setIfInBounds j true) a' w' f' H'' (by simpa using hs) hcnt' hlt' hc' ha' (Z4.trans hs2) (fun h => by rw [hsj] at h; cases h) (fun _ => hB2) hb ?_
  intro i d hi hil hd
  rw [hset i (by omega)] at hil
  exact (tab d).mono hs2 (hv i d hi hil hd)
  have hjm' : j < m := by omega
  by_cases hlm : listed.getD m false = true
  have hl : late j = true := by
   cases e : late j with
   | true => rfl
   | false =>
    have := hc m hlm j (hmid j hjm' e)
    rw [hf] at this; cases this
  obtain ⟨d, hd, hstep⟩ := hla j o hjm' hl ho
  have hB1 := hB hlm
  have hdj : (l[j]?).bind (·.dst) = some d := by rw [ho]; exact hd
  refine J7 ho ha (hstep f w H' Z4 hb (fun i' d' hi' hb' hd' => hv i' d' hi' (hmk i' hb') hd')) ?_
  rintro f' a' w' ha' ⟨v, rfl, rfl, hp⟩
  refine ih (listed.setIfInBounds j true) a' w' (upd f d v) H' (by simpa using hs) hcnt' hlt' hc' ha' Z4 (fun h => by rw [hset m (by omega), hlm] at h; cases h) (fun _ => hB1) ?_ ?_
  intro t ht'
  rw [Zd5, if_neg, hb t ht']
  rintro rfl
  rw [Zy4 ho (by omega) hd] at ht'; cases ht'
  intro i d' hi hil hd'
  rw [Zd5]
  by_cases e : d' = d
  subst e; rw [if_pos rfl]; exact hp
  rw [if_neg e]
  rcases Zb6 hil with rfl | h
  rw [hdj] at hd'; exact absurd (Option.some.inj hd').symm e
  exact hv i d' hi h hd'
  have hlm : listed.getD m false = false := by simpa using hlm
  obtain ⟨hS, hbA⟩ := hA hlm
  have hstep := hq.at (j := j) (o := o) (by rw [List.getElem?_take, if_pos hjm']; exact ho)
  rw [Nat.zero_add] at hstep
  have hstep : Zc8 P n l m tab [] H L f0 j o := hstep
  refine J7 ho ha (hstep f w H' [] Z4 hS hbA (fun i d hi hd => hv i d (by
   have hil := hmk i hi
   rcases Nat.lt_or_ge i m with h | h
   exact h
   have := hlt i hil
   have : i = m := by omega
   rw [this, hlm] at hil; cases hil) (hmk i hi) hd) (fun k c hk _ => by cases hk)) ?_
  rintro f' a' w' ha' ⟨d, v, H'', hd, rfl, hs2, hS2, hp⟩
  rw [hres, List.nil_append, List.nil_append] at hS2
  have hdj : (l[j]?).bind (·.dst) = some d := by rw [ho]; exact hd
  refine ih (listed.setIfInBounds j true) a' w' (upd f d v) H'' (by simpa using hs) hcnt' hlt' hc' ha' (Z4.trans hs2) (fun _ => ⟨hS2, fun t ht' => ?_⟩) (fun h => by rw [hset m (by omega), hlm] at h; cases h) ?_ ?_
  rw [Zd5, if_neg, hbA t ht']
  rintro rfl
  rw [Zy4 ho hjm' hd] at ht'; cases ht'
  intro t ht'
  rw [Zd5, if_neg, hb t ht']
  rintro rfl
  rw [Zy4 ho (by omega) hd] at ht'; cases ht'
  intro i d' hi hil hd'
  rw [Zd5]
  by_cases e : d' = d
  subst e; rw [if_pos rfl]; exact hp
  rw [if_neg e]
  rcases Zb6 hil with rfl | h
  rw [hdj] at hd'; exact absurd (Option.some.inj hd').symm e
  exact (tab d').mono hs2 (hv i d' hi h hd')
end
theorem Wq3 {P : Program} {n : Nat} {g : FuncId} {R : Ending → World → Prop} {K : List Item} {l : List Oper} {id : Nat} {H : FH} {L : OL} {f0 : Fr} {w : World}
 (m : Nat) (tab : Nat → MP) (late : Nat → Bool) (B : FH → World → Prop) (hmix : P.follows .mixedOrders = true) (hres : ∀ d v, (tab d).res v = []) (hok : Zg8 l (m + 1) = true) (hml : Nat.ble (m + 1) l.length = true)
 {om : Oper} (hom : l[m]? = some om) (hdm : (l[m]?).bind (·.dst) = none) (hmid : ((List.range m).all fun i => late i || ((Q5 l []).getD m 0).testBit i) = true) (hnm : ((List.range m).all fun i => !late i || !((Q5 l []).getD i 0).testBit m) = true)
 (hla : ∀ i o, i < m → late i = true → l[i]? = some o → ∃ d, o.dst = some d ∧ ∀ f w H', Sub H H' → (∀ t, inD (l.take (m + 1)) t = false → f t = f0 t) → (∀ i' d', i' < m → ((Q5 l []).getD i 0).testBit i' = true → (l[i']?).bind (·.dst) = some d' → (tab d').p H' (f d')) →
  X6 P n l.toArray (fun f' w' => ∃ v, f' = upd f d v ∧ w' = w ∧ (tab d).p H' v) [o] f w)
 (hS : St H w L)
 (hq : J0 (Zc9 P n l m tab [] H L f0) (l.take m) 0)
 (hm : ∀ f w H', Sub H H' → St H' w L → (∀ t, inD (l.take m) t = false → f t = f0 t) → (∀ i d, i < m → late i = false → (l[i]?).bind (·.dst) = some d → (tab d).p H' (f d)) →
  X6 P n l.toArray (fun f' w' => ∃ H'', f' = f ∧ Sub H' H'' ∧ B H'' w') [om] f w)
 (ht : ∀ f w H', Sub H H' → B H' w → (∀ t, inD (l.take (m + 1)) t = false → f t = f0 t) → (∀ i d, i < m → (l[i]?).bind (·.dst) = some d → (tab d).p H' (f d)) → X6 P n l.toArray (fun f' w' => Run P n g R K f' w') (l.drop (m + 1)) f w) :
 Run P n g R (.code (.region id l.toArray true) :: K) f0 w := by
 intro a ha b cs hb hk
 have hml' : m + 1 ≤ l.length := by simpa [Nat.ble_eq] using hml
 have hz : ∀ i, (Array.replicate l.length false).getD i false = false := fun i => by rw [Array.getD_eq_getD_getElem?, Array.getElem?_replicate]; split <;> rfl
 have hwp : (Code.region id l.toArray true).wp P (Yc2 n (fun f' w' => Run P n g R K f' w')) a w := by
  refine wp_region_any hmix ?_
  have := Wu5 (P := P) (J := fun f' w' => Run P n g R K f' w') hres hok hml' hdm (fun i hi hne => by
   have h := List.all_eq_true.1 hmid i (List.mem_range.2 hi)
   rw [hne, Bool.false_or] at h; exact h) (fun i hi hl => by
   have h := List.all_eq_true.1 hnm i (List.mem_range.2 hi)
   rw [hl] at h; simpa using h) hla hq (fun o f w H' ho => by rw [hom] at ho; cases ho; exact hm f w H') ht l.length (Array.replicate l.length false) a w.drew f0 H (by simp) (by simp [List.countP_replicate]) (fun i hi => by rw [hz] at hi; cases hi)
   (fun i hi => by rw [hz] at hi; cases hi) ha (Sub.refl _) (fun _ => ⟨hS.drew, fun _ _ => rfl⟩) (fun h => by rw [hz] at h; cases h) (fun _ _ => rfl) (fun i d _ hi => by rw [hz] at hi; cases hi)
  simpa using this
 obtain ⟨e, a', w', ⟨rfl, f', ha', hJ⟩, harr⟩ := hwp b K cs
 obtain ⟨e, w'', fr, hR, hc, hf, hl⟩ := hJ a' ha' b cs hb hk
 exact ⟨e, w'', fr, hR, .of_steps harr hc, hf, hl⟩
def G9 (K : Nat) (a0 : A8) (a1 : A8) : Nat → Int → Option (Ex Bool (Unit))
 | 0, _ => none
 | k + 1, a3 => (if a3 < 8 then (if (Y4 a0 a3) = (Y4 a1 a3) then G9 K a0 a1 k (a3 + 1) else some (.ret (decide ((Y4 a1 a3) < (Y4 a0 a3))))) else some (.go ()))
def Zd1 (K : Nat) (a0 : A8) (a1 : A8) : Option Bool := ((G9 K a0 a1 K 0).bind (Ex.elim (fun r => some r) (fun s => some false)))
theorem Zu8 {a0 : A8} {a1 : A8} {r : Bool} (q0 : Zd1 K a0 a1 = some r) (hS : St H w L) :
 Calls prog 229 #[vA (Z6 .u8 a0), vA (Z6 .u8 a1)] w (U7 (fun v G => R.bool.p G v r) H L) := by
 have Z4 := Sub.refl H
 refine X0 func229 rfl ntmps229 rfl ?_
 unfold Zd1 at q0
 refine Z1 (Z0 ?_)
 refine T7 (v := vA (Z6 .u8 a0)) (Z6 .u8 a0).toArray rfl rfl hS rfl ?_
 intro b1 _ hS
 refine T7 (v := vA (Z6 .u8 a1)) (Z6 .u8 a1).toArray rfl rfl hS rfl ?_
 intro b4 _ hS
 refine Z5 (vB false) rfl rfl (Z2 (Z1 (Z1 (Z0 (Z5 (vI 0) rfl rfl (Z2 (Y8 ?_)))))))
 obtain ⟨b2, a4, a8⟩ := bind_some q0
 refine W0 (id := 0) (fun k f w => ∃ (a3 : Int) (H1 : FH), G9 K a0 a1 k a3 = some b2 ∧ Sub H H1 ∧ St H1 w ([(b4, cA (Z6 .u8 a1) 72)] ++ ([(b1, cA (Z6 .u8 a0) 72)] ++ L)) ∧ 0 ≤ a3 ∧ tv f 2 = vP b1 ∧ tv f 3 = vP b4 ∧ tv f 5 = vI a3) (fun f w => ∃ (H1 : FH), b2 = .go () ∧ Sub H H1 ∧ St H1 w ([(b4, cA (Z6 .u8 a1) 72)] ++ ([(b1, cA (Z6 .u8 a0) 72)] ++ L))) rfl ?_ ?_ K ?_ ?_
 rintro f w ⟨a3, H1, a4, _⟩
 rw [G9] at a4; cases a4
 rintro k _ _ c7 c8 ⟨a3, c2, a4, Z4, hS, _, a6, a7, a5⟩
 rw [G9] at a4
 refine Z1 (Z1 (Z0 (Z3 (vI a3) (by exact a5) rfl ?_)))
 refine W8 (k := .i64) (a := a3) (b := 8) rfl rfl rfl (Z2 ?_)
 obtain ⟨b3, a4⟩ | ⟨b3, a4⟩ := ic a4
 refine Z8 (bT b3 rfl) (Y6 (Z1 (Y8 (Z1 ?_))))
 refine W7 7 (S9 [mE 10 (vI a3), mE 11 (vQ b1 (0 + (a3).toNat * 1)), mE 12 (Value.int .u8 (Y4 a0 a3)), mE 13 (vI a3), mE 14 (vQ b4 (0 + (a3).toNat * 1)), mE 15 (Value.int .u8 (Y4 a1 a3)), mE 16 (vB (!decide ((Y4 a0 a3) = (Y4 a1 a3))))]) [] mixed rfl rfl rfl hS (J9 ?_ ?_ ?_ ?_ (J2 ?_ ?_ (E8 ?_ V1))) ?_
 exact X4 fun S B => Z3 (vI a3) (evT (B 5 rfl) a5) rfl (qz S)
 exact L3 fun S B V => V5 Ze8 (evT (B 2 rfl) a6) (eM (V 0 10 rfl rfl)) (by omega) (by omega) rfl (qz S)
 exact Y7 fun S V => Y0 (Value.int .u8 (Y4 a0 a3)) ty5 (eM (V 1 11 rfl rfl)) (S.get (o := cA (Z6 .u8 a0) 72) (mR (mR mL))) (J3 ([]) ([]) (by omega) (by omega)) rfl (qz S)
 exact X4 fun S B => Z3 (vI a3) (evT (B 5 rfl) a5) rfl (qz S)
 exact L3 fun S B V => V5 Ze8 (evT (B 3 rfl) a7) (eM (V 3 13 rfl rfl)) (by omega) (by omega) rfl (qz S)
 exact Y7 fun S V => Y0 (Value.int .u8 (Y4 a1 a3)) ty5 (eM (V 4 14 rfl rfl)) (S.get (o := cA (Z6 .u8 a1) 72) (mR mL)) (J3 ([]) ([]) (by omega) (by omega)) rfl (qz S)
 exact Y7 fun S V => M0 (k := .u8) (a := (Y4 a0 a3)) (b := (Y4 a1 a3)) (eM (V 2 12 rfl rfl)) (eM (V 5 15 rfl rfl)) rfl (qz S)
 intro c9 d0 b8 c3 hS a9 c4 hcq
 have hS : St b8 d0 ([(b4, cA (Z6 .u8 a1) 72)] ++ ([(b1, cA (Z6 .u8 a0) 72)] ++ L)) := hS
 have Z4 := Z4.trans c3
 have b9 := evT (a9 2 rfl) a6
 have c0 := evT (a9 3 rfl) a7
 have b5 := evT (a9 5 rfl) a5
 have c1 : tv c9 16 = vB (!decide ((Y4 a0 a3) = (Y4 a1 a3))) := c4 6 16 (by decide) rfl
 refine Z2 ?_
 obtain ⟨b0, a4⟩ | ⟨b0, a4⟩ := ic a4
 refine Z7 (bN b0 (by exact c1)) (Y6 (X1 (Z0 (Z3 (vI a3) (by exact b5) rfl ?_))))
 refine W2 (a3 + 1) rfl rfl (IntWalk.i64_in _ (by omega)) rfl (Z5 (vI (a3 + 1)) rfl rfl (Z2 ?_))
 exact c7 _ _ ⟨(a3 + 1), b8, a4, Z4, hS, (by omega), b9, c0, rfl⟩
 refine Z8 (bO b0 (by exact c1)) (Z1 ?_)
 refine W7 8 (S9 [mE 17 (vI a3), mE 18 (vQ b1 (0 + (a3).toNat * 1)), mE 19 (Value.int .u8 (Y4 a0 a3)), mE 20 (vI a3), mE 21 (vQ b4 (0 + (a3).toNat * 1)), mE 22 (Value.int .u8 (Y4 a1 a3)), mE 23 (vB (decide ((Y4 a1 a3) < (Y4 a0 a3)))), mE 4 (vB (decide ((Y4 a1 a3) < (Y4 a0 a3))))]) [] mixed rfl rfl rfl hS (V9 ?_ ?_ ?_ ?_ ?_ ?_ ?_ ?_ V1) ?_
 exact X4 fun S B => Z3 (vI a3) (evT (B 5 rfl) b5) rfl (qz S)
 exact L3 fun S B V => V5 Ze8 (evT (B 2 rfl) b9) (eM (V 0 17 rfl rfl)) (by omega) (by omega) rfl (qz S)
 exact Y7 fun S V => Y0 (Value.int .u8 (Y4 a0 a3)) ty5 (eM (V 1 18 rfl rfl)) (S.get (o := cA (Z6 .u8 a0) 72) (mR (mR mL))) (J3 ([]) ([]) (by omega) (by omega)) rfl (qz S)
 exact X4 fun S B => Z3 (vI a3) (evT (B 5 rfl) b5) rfl (qz S)
 exact L3 fun S B V => V5 Ze8 (evT (B 3 rfl) c0) (eM (V 3 20 rfl rfl)) (by omega) (by omega) rfl (qz S)
 exact Y7 fun S V => Y0 (Value.int .u8 (Y4 a1 a3)) ty5 (eM (V 4 21 rfl rfl)) (S.get (o := cA (Z6 .u8 a1) 72) (mR mL)) (J3 ([]) ([]) (by omega) (by omega)) rfl (qz S)
 exact Y7 fun S V => Za9 (k := .u8) (a := (Y4 a0 a3)) (b := (Y4 a1 a3)) (eM (V 2 19 rfl rfl)) (eM (V 5 22 rfl rfl)) rfl (qz S)
 exact Y7 fun S V => Z5 (vB (decide ((Y4 a1 a3) < (Y4 a0 a3)))) (eM (V 6 23 rfl rfl)) rfl (qz S)
 intro _ c5 c6 b6 hS _ b7 hcq
 have hS : St c6 c5 ([(b4, cA (Z6 .u8 a1) 72)] ++ ([(b1, cA (Z6 .u8 a0) 72)] ++ L)) := hS
 have Z4 := Z4.trans b6
 refine Z2 ?_
 refine Y9 (vs := [vB (decide ((Y4 a1 a3) < (Y4 a0 a3)))]) func229 ⟨(by exact (eM (b7 7 4 (by decide) rfl))), trivial⟩ ?_
 obtain rfl := oi a4
 dsimp only [Ex.elim] at a8
 obtain rfl := oi a8
 exact ⟨_, _, rfl, Z4, (St.dropA (St.dropA hS)), rfl⟩
 refine Z7 (bF b3 rfl) ?_
 refine X7 rfl ?_
 obtain rfl := oi a4
 exact c8 _ _ ⟨c2, rfl, Z4, hS⟩
 exact ⟨0, H, a4, Z4, hS, (by omega), rfl, rfl, rfl⟩
 rintro _ _ ⟨_, rfl, Z4, hS⟩
 dsimp only [Ex.elim] at a8
 refine Z1 (Z0 (Z5 (vB false) rfl rfl (Z2 ?_)))
 refine Y9 (vs := [vB false]) func229 ⟨rfl, trivial⟩ ?_
 obtain rfl := oi a8
 exact ⟨_, _, rfl, Z4, (St.dropA (St.dropA hS)), rfl⟩
def C7 (K : Nat) (a0 : A8) : Nat → Int → A8 → Option (Ex A8 (A8))
 | 0, _, _ => none
 | k + 1, a1, a3 => (if a1 < 8 then C7 K a0 k (a1 + 1) (U8 a3 a1 (IntKind.i64.wrap (Y4 a0 a1))) else some (.go a3))
def Zd4 (K : Nat) (a0 : A8) : Option A8 := ((C7 K a0 K 0 (fun _ => 0)).bind (Ex.elim (fun r => some r) (fun s => (fun (a4 : A8) => some a4) s)))
theorem Zq4 {a0 : A8} {r : A8} (q0 : Zd4 K a0 = some r) (hS : St H w L) :
 Calls prog 192 #[vA (Z6 .u8 a0)] w (U7 (fun v G => (R.agg (Q9 .i64)).p G v r) H L) := by
 have Z4 := Sub.refl H
 refine X0 func192 rfl ntmps192 rfl ?_
 unfold Zd4 at q0
 refine Z1 (Z0 ?_)
 refine T7 (v := vA (Z6 .u8 a0)) (Z6 .u8 a0).toArray rfl rfl hS rfl ?_
 intro b1 _ hS
 refine U4 (z := vA (Z6 .i64 (fun _ => 0))) (Z6 .i64 (fun _ => 0)).toArray Zk4.zero rfl hS rfl ?_
 intro b4 _ hS
 refine Z2 (Z1 (Z0 ?_))
 refine B5 (vA (Z6 .i64 (fun _ => 0))) Xq3 rfl ?_
 refine U4 (z := vA (Z6 .i64 (fun _ => 0))) (Z6 .i64 (fun _ => 0)).toArray Zk4.zero rfl hS rfl ?_
 intro b7 _ hS
 refine W4 (v := vA (Z6 .i64 (fun _ => 0))) (vs := (Z6 .i64 (fun _ => 0)).toArray) (cs := (Z6 .i64 (fun _ => 0)).toArray) Q6 rfl rfl rfl hS rfl (S8 .i64 (fun _ => 0)) rfl ?_
 intro _ hS
 refine Z2 (Z1 (Z1 (Z0 ?_)))
 refine W3 P5 rfl (hS.get (mR (mR mL))) rfl rfl (Z3 (vI 0) rfl rfl (Z2 (Y8 ?_)))
 obtain ⟨b5, a5, b6⟩ := bind_some q0
 refine W0 (id := 0) (fun k f w => ∃ (a1 : Int) (a3 : A8) (H1 : FH), C7 K a0 k a1 a3 = some b5 ∧ Sub H H1 ∧ St H1 w ([(b7, cA (Z6 .i64 a3) 222)] ++ ([(b4, cA (Z6 .i64 (fun _ => 0)) 222)] ++ ([(b1, cA (Z6 .u8 a0) 72)] ++ L))) ∧ 0 ≤ a1 ∧ tv f 2 = vP b4 ∧ tv f 3 = vP b7 ∧ tv f 7 = vA (Z6 .u8 a0) ∧ tv f 8 = vI a1) (fun f w => ∃ (a4 : A8) (H1 : FH), b5 = .go a4 ∧ Sub H H1 ∧ St H1 w ([(b7, cA (Z6 .i64 a4) 222)] ++ ([(b4, cA (Z6 .i64 (fun _ => 0)) 222)] ++ ([(b1, cA (Z6 .u8 a0) 72)] ++ L))) ∧ tv f 2 = vP b4 ∧ tv f 3 = vP b7) rfl ?_ ?_ K ?_ ?_
 rintro f w ⟨a1, a3, H1, a5, _⟩
 rw [C7] at a5; cases a5
 rintro k _ _ b9 c0 ⟨a1, a3, b8, a5, Z4, hS, _, a8, a7, a9, a6⟩
 rw [C7] at a5
 refine Z1 (Z0 ?_)
 refine W8 (k := .i64) (a := a1) (b := 8) (by exact a6) rfl rfl (Z2 (Z1 ?_))
 obtain ⟨b2, a5⟩ | ⟨b2, a5⟩ := ic a5
 refine Z8 (bT b2 rfl) (Y6 (Z1 (Y8 (Z1 (Z0 (Z3 (vI a1) (by exact a6) rfl ?_))))))
 refine Yl9 (Value.int .u8 (Y4 a0 a1)) Ze8 (by exact a9) (by exact a6) (by omega) (by omega) (Yk2 (by omega) (by omega)) rfl (Z5 (vI a1) rfl rfl (Z5 (Value.int .u8 (Y4 a0 a1)) rfl rfl (Z2 (Z0 (Z3 (vI a1) rfl rfl (Z3 (Value.int .u8 (Y4 a0 a1)) rfl rfl ?_))))))
 refine Yk5 (s := .u8) ((IntKind.i64.wrap (Y4 a0 a1))) Vi1 rfl rfl rfl ?_
 refine V5 Zk7 (by exact a7) rfl (by omega) (by omega) rfl ?_
 refine K6 (v := vI (IntKind.i64.wrap (Y4 a0 a1))) (cs := (Z6 .i64 a3).toArray) (cs' := (Z6 .i64 (U8 a3 a1 (IntKind.i64.wrap (Y4 a0 a1)))).toArray) ty3 rfl rfl hS rfl (Zs5 rfl) (by simp [Z6, N9]; omega) (Zh7 (by omega) (by omega)) ?_
 intro _ hS
 refine Z2 (X1 (Z0 ?_))
 refine W2 (a1 + 1) (by exact a6) rfl (IntWalk.i64_in _ (by omega)) rfl (Z3 (vI (a1 + 1)) rfl rfl (Z2 ?_))
 exact b9 _ _ ⟨(a1 + 1), (U8 a3 a1 (IntKind.i64.wrap (Y4 a0 a1))), b8, a5, Z4, hS, (by omega), a8, a7, a9, rfl⟩
 refine Z7 (bF b2 rfl) ?_
 refine X7 rfl ?_
 obtain rfl := oi a5
 exact c0 _ _ ⟨a3, b8, rfl, Z4, hS, a8, a7⟩
 exact ⟨0, (fun _ => 0), H, a5, Z4, hS, (by omega), rfl, rfl, rfl, rfl⟩
 rintro _ _ ⟨a4, _, rfl, Z4, hS, b0, b3⟩
 dsimp only [Ex.elim] at b6
 refine Z1 (Z0 ?_)
 refine W3 Q6 (by exact b3) (hS.get mL) rfl rfl ?_
 have hS := hS.perm R6
 refine W4 (v := vA (Z6 .i64 a4)) (vs := (Z6 .i64 a4).toArray) (cs := (Z6 .i64 (fun _ => 0)).toArray) Q6 (by exact b0) rfl rfl hS rfl (S8 .i64 a4) rfl ?_
 intro _ hS
 have hS := hS.perm R6.symm
 refine Z2 ?_
 refine Y9 (vs := [vA (Z6 .i64 a4)]) func192 ⟨⟨_, (by exact b0), P1 Q6 (hS.get (mR mL)) rfl⟩, trivial⟩ ?_
 obtain rfl := oi b6
 exact ⟨_, _, rfl, Z4, (St.dropA (St.dropA (St.dropA hS))), ⟨_, rfl, rfl⟩⟩
def E4 (K : Nat) (a0 : (List Int)) : Nat → Int → (List Int) → Option (Ex (List Int) ((List Int)))
 | 0, _, _ => none
 | k + 1, a1, a3 => (if a1 < (a0.length : Int) then (if a1 < (a3.length : Int) then E4 K a0 k (a1 + 1) (a3.set (a1).toNat (rd a0 a1)) else none) else some (.go a3))
def Zo5 (K : Nat) (a0 : (List Int)) : Option (List Int) := (if (a0.length : Int) ≤ 1099511627776 then ((E4 K a0 K 0 (List.replicate ((a0.length : Int)).toNat (0 : Int))).bind (Ex.elim (fun r => some r) (fun s => (fun (a7 : (List Int)) => some a7) s))) else none)
theorem Yw7 {a0 : (List Int)} {r : (List Int)} (q0 : Zo5 K a0 = some r) (b4 : Y3 (Y5 .i64) H s0 a0) (hS : St H w L) :
 Calls prog 77 #[s0] w (U7 (fun v G => (R.sl (Y5 .i64)).p (G.new H) v r) H L) := by
 have Z4 := Sub.refl H
 refine X0 func77 rfl ntmps77 rfl ?_
 unfold Zo5 at q0
 refine Z1 (Z0 (Z5 (vN) rfl rfl (Z2 (Z1 (Z0 (Z3 (s0) rfl rfl ?_))))))
 have d4 := b4.bound
 refine X9 U5 rfl b4 rfl ?_
 obtain ⟨_, q0⟩ := gd q0
 refine Yg0 (τ := (Y5 .i64)) (0 : Int) Yb7 rfl rfl rfl (fun _ => rfl) (by omega) (by omega) hS rfl ?_
 intro u3 _ C5 c8 hS
 refine Z5 (u3) rfl rfl (Z2 (Z1 (Z1 (Z0 (Z5 (vI 0) rfl rfl (Z2 (Y8 ?_)))))))
 obtain ⟨b8, a6, b9⟩ := bind_some q0
 refine W0 (id := 0) (fun k f w => ∃ (a1 : Int) (a3 : (List Int)) (H1 : FH) (a8 : OL) (a4 : Value), E4 K a0 k a1 a3 = some b8 ∧ Sub H H1 ∧ St H1 w (a8 ++ L) ∧ 0 ≤ a1 ∧ X8 (Y5 .i64) 2 H1 a4 a3 a8 ∧ Y3 (Y5 .i64) H1 s0 a0 ∧ tv f 0 = s0 ∧ tv f 3 = a4 ∧ tv f 4 = vI a1) (fun f w => ∃ (a7 : (List Int)) (H1 : FH) (b1 : OL) (a5 : Value), b8 = .go a7 ∧ Sub H H1 ∧ St H1 w (b1 ++ L) ∧ X8 (Y5 .i64) 2 H1 a5 a7 b1 ∧ tv f 3 = a5) rfl ?_ ?_ K ?_ ?_
 rintro f w ⟨a1, a3, H1, a8, a4, a6, _⟩
 rw [E4] at a6; cases a6
 rintro k _ _ c9 d0 ⟨a1, a3, c0, a8, a4, a6, Z4, hS, _, a9, b4, b2, b3, b0⟩
 rw [E4] at a6
 refine Z1 (Z1 (Z0 (Z3 (vI a1) (by exact b0) rfl (Z3 (s0) (by exact b2) rfl ?_))))
 have d5 := b4.bound
 refine X9 U5 rfl b4 rfl ?_
 refine W8 (k := .i64) (a := a1) (b := (a0.length : Int)) rfl rfl rfl (Z2 ?_)
 obtain ⟨c1, a6⟩ | ⟨c1, a6⟩ := ic a6
 refine Z8 (bT c1 rfl) (Y6 (Z1 (Y8 (Z0 (Z3 (a4) (by exact b3) rfl (Z3 (vI a1) (by exact b0) rfl (Z3 (s0) (by exact b2) rfl (Z3 (vI a1) (by exact b0) rfl ?_))))))))
 obtain ⟨_, _, _, _, _, c3, c4, rfl, c5⟩ := b4.elem (i := a1) (by omega) (by omega)
 refine X5 U5 rfl rfl c3 rfl (by omega) (by omega) rfl ?_
 refine Y0 (vI (rd a0 a1)) ty2 rfl (hS.froz _ _ c4) (c5 0 (show 0 < 1 by decide)) rfl ?_
 obtain ⟨_, a6⟩ := gd a6
 obtain ⟨_, _, c2⟩ := a9.some (i := a1) (by omega) (by omega)
 refine P3 U5 (Eq.trans rfl c2) rfl (by omega) (by omega) rfl ?_
 refine Zd0 (τ := (Y5 .i64)) (v := a4) (u := vI (rd a0 a1)) (rd a0 a1) (i := a1) rfl ty2 c2 a9 hS rfl rfl (by omega) (by omega) rfl ?_
 intro _ d1 c6 hS
 refine Z2 (X1 (Z0 (Z3 (vI a1) (by exact b0) rfl ?_)))
 refine W2 (a1 + 1) rfl rfl (IntWalk.i64_in _ (by omega)) rfl (Z5 (vI (a1 + 1)) rfl rfl (Z2 ?_))
 exact c9 _ _ ⟨(a1 + 1), (a3.set (a1).toNat (rd a0 a1)), c0, d1, a4, a6, Z4, hS, (by omega), c6, b4, b2, b3, rfl⟩
 refine Z7 (bF c1 rfl) ?_
 refine X7 rfl ?_
 obtain rfl := oi a6
 exact d0 _ _ ⟨a3, c0, a8, a4, rfl, Z4, hS, a9, b3⟩
 exact ⟨0, (List.replicate ((a0.length : Int)).toNat (0 : Int)), H, C5, u3, a6, Z4, hS, (by omega), c8, b4, rfl, rfl, rfl⟩
 rintro _ _ ⟨a7, _, b1, a5, rfl, Z4, hS, b6, b7⟩
 dsimp only [Ex.elim] at b9
 refine Z1 (Z0 (Z3 (a5) (by exact b7) rfl (Z5 (a5) rfl rfl (Z2 ?_))))
 refine Y9 (vs := [a5]) func77 ⟨rfl, trivial⟩ ?_
 obtain ⟨d2, c7, hS, b5⟩ := X8.freezeF (τ := (Y5 .i64)) (H0 := H) b6 hS Z4
 have d3 := Y3.old b5
 have b5 : RdF (Y5 .i64) H d2 a5 a7 := b5
 have Z4 := Z4.trans c7
 obtain rfl := oi b9
 exact ⟨_, _, rfl, Z4, hS, b5⟩
def W5 (K : Nat) (a0 : (List MpT)) (a1 : (MpT → Option Bool)) : Nat → Int → Option (Ex Int (Unit))
 | 0, _ => none
 | k + 1, a3 => (if a3 < (a0.length : Int) then ((a1 (rd a0 a3)).bind fun r4 => (if r4 = true then some (.ret a3) else W5 K a0 a1 k (a3 + 1))) else some (.go ()))
def L7 (K : Nat) (a0 : (List MpT)) (a1 : (MpT → Option Bool)) : Option Int := ((W5 K a0 a1 K 0).bind (Ex.elim (fun r => some r) (fun s => some (-1))))
theorem Zs0 {a0 : (List MpT)} {a1 : (MpT → Option Bool)} {r : Int} (q0 : L7 K a0 a1 = some r) (a6 : Y3 (X2 yT) H s0 a0) (a7 : FnQ prog s1 (R.agg (X2 yT)) a1 H) (hS : St H w L) :
 Calls prog 214 #[s0, s1] w (U7 (fun v G => (R.int .i64).p G v r) H L) := by
 have Z4 := Sub.refl H
 refine X0 func214 rfl ntmps214 rfl ?_
 unfold L7 at q0
 refine Z1 (Z0 (Z5 (vI 0) rfl rfl (Z2 (Z1 (Z1 (Z0 (Z3 (s0) rfl rfl ?_)))))))
 have c5 := a6.bound
 refine X9 Zf1 rfl a6 rfl (Z3 (vI 0) rfl rfl (Z2 (Y8 ?_)))
 obtain ⟨b2, a4, b1⟩ := bind_some q0
 refine W0 (id := 0) (fun k f w => ∃ (a3 : Int) (H1 : FH), W5 K a0 a1 k a3 = some b2 ∧ Sub H H1 ∧ St H1 w (L) ∧ 0 ≤ a3 ∧ Y3 (X2 yT) H1 s0 a0 ∧ FnQ prog s1 (R.agg (X2 yT)) a1 H1 ∧ tv f 0 = s0 ∧ tv f 1 = s1 ∧ tv f 7 = vI (a0.length : Int) ∧ tv f 8 = vI a3) (fun f w => ∃ (H1 : FH), b2 = .go () ∧ Sub H H1 ∧ St H1 w (L)) rfl ?_ ?_ K ?_ ?_
 rintro f w ⟨a3, H1, a4, _⟩
 rw [W5] at a4; cases a4
 rintro k _ _ b9 c0 ⟨a3, b7, a4, Z4, hS, _, a6, a7, a8, a9, b0, a5⟩
 rw [W5] at a4
 refine Z1 (Z0 ?_)
 refine W8 (k := .i64) (a := a3) (b := (a0.length : Int)) (by exact a5) (by exact b0) rfl (Z2 (Z1 ?_))
 obtain ⟨b3, a4⟩ | ⟨b3, a4⟩ := ic a4
 refine Z8 (bT b3 rfl) (Y6 (Z1 (Y8 (Z1 (Z0 (Z3 (vI a3) (by exact a5) rfl (Z5 (vI a3) rfl rfl (Z2 (Z1 (Z0 (Z3 (s1) (by exact a9) rfl (Z3 (s0) (by exact a8) rfl (Z3 (vI a3) rfl rfl ?_)))))))))))))
 obtain ⟨_, _, _, _, _, c1, c2, ⟨b8, rfl, b6⟩, c3⟩ := a6.elem (i := a3) (by omega) (by omega)
 refine X5 Zf1 rfl rfl c1 rfl (by omega) (by omega) rfl ?_
 refine V0 ([b8]) Q4 rfl (hS.froz _ _ c2) rfl c3 rfl ?_
 obtain ⟨_, c4, a4⟩ := bind_some a4
 refine Wa2 a7 rfl rfl hS ⟨_, rfl, ⟨_, rfl, b6⟩⟩ c4 rfl ?_
 intro H4 _ b4 hS
 have Z4 := Z4.trans b4
 have a6 := a6.mono b4
 have a7 := a7.mono b4
 refine Z2 ?_
 obtain ⟨b5, a4⟩ | ⟨b5, a4⟩ := ic a4
 refine Z8 (Eq.trans rfl (congrArg vB b5)) (Z1 (Z0 (Z3 (vI a3) rfl rfl (Z5 (vI a3) rfl rfl (Z2 ?_)))))
 refine Y9 (vs := [vI a3]) func214 ⟨rfl, trivial⟩ ?_
 obtain rfl := oi a4
 dsimp only [Ex.elim] at b1
 obtain rfl := oi b1
 exact ⟨_, _, rfl, Z4, hS, rfl⟩
 refine Z7 (Eq.trans rfl (congrArg vB (W1 b5))) (Y6 (X1 (Z0 ?_)))
 refine W2 (a3 + 1) (by exact a5) rfl (IntWalk.i64_in _ (by omega)) rfl (Z3 (vI (a3 + 1)) rfl rfl (Z2 ?_))
 exact b9 _ _ ⟨(a3 + 1), H4, a4, Z4, hS, (by omega), a6, a7, a8, a9, b0, rfl⟩
 refine Z7 (bF b3 rfl) ?_
 refine X7 rfl ?_
 obtain rfl := oi a4
 exact c0 _ _ ⟨b7, rfl, Z4, hS⟩
 exact ⟨0, H, a4, Z4, hS, (by omega), a6, a7, rfl, rfl, rfl, rfl⟩
 rintro _ _ ⟨_, rfl, Z4, hS⟩
 dsimp only [Ex.elim] at b1
 refine Z1 (Z0 (Z5 (vI (-1)) rfl rfl (Z2 ?_)))
 refine Y9 (vs := [vI (-1)]) func214 ⟨rfl, trivial⟩ ?_
 obtain rfl := oi b1
 exact ⟨_, _, rfl, Z4, hS, rfl⟩
def Zv2 (K : Nat) (a0 : (List Int)) (a1 : Int) : Option Int := (if (IntKind.i64.wrap (a1 - (a0.length : Int))) < 0 then some (-1) else some (IntKind.i64.wrap (a1 - (a0.length : Int))))
theorem Yu4 {a0 : (List Int)} {a1 : Int} {r : Int} (q0 : Zv2 K a0 a1 = some r) (a4 : Y3 (Y5 .i64) H s0 a0) (hS : St H w L) :
 Calls prog 71 #[s0, vI a1] w (U7 (fun v G => (R.int .i64).p G v r) H L) := by
 have Z4 := Sub.refl H
 refine X0 func71 rfl ntmps71 rfl ?_
 unfold Zv2 at q0
 refine Z1 (Z0 (Z5 (vI 0) rfl rfl (Z2 (Z1 (Z0 (Z3 (vI a1) rfl rfl (Z3 (s0) rfl rfl ?_)))))))
 have a5 := a4.bound
 refine X9 U5 rfl a4 rfl ?_
 refine Zk8 (IntKind.i64.wrap (a1 - (a0.length : Int))) rfl rfl rfl rfl (Z5 (vI (IntKind.i64.wrap (a1 - (a0.length : Int)))) rfl rfl (Z2 (Z1 (Z1 (Z0 (Z3 (vI (IntKind.i64.wrap (a1 - (a0.length : Int)))) rfl rfl ?_))))))
 refine W8 (k := .i64) (a := (IntKind.i64.wrap (a1 - (a0.length : Int)))) (b := 0) rfl rfl rfl (Z2 ?_)
 obtain ⟨a3, q0⟩ | ⟨a3, q0⟩ := ic q0
 refine Z8 (bT a3 rfl) (Z1 (Z0 (Z5 (vI (-1)) rfl rfl (Z2 ?_))))
 refine Y9 (vs := [vI (-1)]) func71 ⟨rfl, trivial⟩ ?_
 obtain rfl := oi q0
 exact ⟨_, _, rfl, Z4, hS, rfl⟩
 refine Z7 (bF a3 rfl) (Y6 (Z1 (Z0 (Z3 (vI (IntKind.i64.wrap (a1 - (a0.length : Int)))) rfl rfl (Z5 (vI (IntKind.i64.wrap (a1 - (a0.length : Int)))) rfl rfl (Z2 ?_))))))
 refine Y9 (vs := [vI (IntKind.i64.wrap (a1 - (a0.length : Int)))]) func71 ⟨rfl, trivial⟩ ?_
 obtain rfl := oi q0
 exact ⟨_, _, rfl, Z4, hS, rfl⟩
def Zj2 (K : Nat) (a0 : Int) (a1 : Int) (a2 : Int) : Option Bool := (if a1 ≤ a0 then some (decide (a0 ≤ a2)) else some false)
theorem Ya3 {a0 : Int} {a1 : Int} {a2 : Int} {r : Bool} (q0 : Zj2 K a0 a1 a2 = some r) (hS : St H w L) :
 Calls prog 81 #[vI a0, vI a1, vI a2] w (U7 (fun v G => R.bool.p G v r) H L) := by
 have Z4 := Sub.refl H
 refine X0 func81 rfl ntmps81 rfl ?_
 unfold Zj2 at q0
 refine Z1 (Z0 (Z5 (vB false) rfl rfl (Z2 (Z1 (Z0 (Z3 (vI a0) rfl rfl (Z3 (vI a1) rfl rfl ?_)))))))
 refine Ya0 (k := .i64) (a := a0) (b := a1) rfl rfl rfl (Z3 (vB (decide (a1 ≤ a0))) rfl rfl ?_)
 obtain ⟨a3, q0⟩ | ⟨a3, q0⟩ := ic q0
 refine Y1 rfl rfl (bT a3 rfl) (Z3 (vI a0) rfl rfl ?_)
 refine Y1 rfl rfl (bT a3 rfl) (Z3 (vI a2) rfl rfl ?_)
 refine Y1 rfl rfl (bT a3 rfl) ?_
 refine Yh6 (k := .i64) (a := a0) (b := a2) rfl rfl rfl ?_
 refine W6 (t := true) (vB (decide (a0 ≤ a2))) (bT a3 rfl) ((if_pos rfl).trans rfl) rfl (Z5 (vB (decide (a0 ≤ a2))) rfl rfl (Z2 ?_))
 refine Y9 (vs := [vB (decide (a0 ≤ a2))]) func81 ⟨rfl, trivial⟩ ?_
 obtain rfl := oi q0
 exact ⟨_, _, rfl, Z4, hS, rfl⟩
 refine Z9 rfl rfl (bF a3 rfl) rfl rfl rfl (Z9 rfl rfl (bF a3 rfl) rfl rfl rfl (Z9 rfl rfl (bF a3 rfl) rfl rfl rfl ?_))
 refine W6 (t := false) (vB false) (bF a3 rfl) ((if_neg Bool.false_ne_true).trans rfl) rfl (Z5 (vB false) rfl rfl (Z2 ?_))
 refine Y9 (vs := [vB false]) func81 ⟨rfl, trivial⟩ ?_
 obtain rfl := oi q0
 exact ⟨_, _, rfl, Z4, hS, rfl⟩
def Zm4 (K : Nat) (a0 : Int) : Option Int := some (((IntKind.i64.wrap (((a0).tmod 10007) + 10007))).tmod 10007)
theorem Yc4 {a0 : Int} {r : Int} (q0 : Zm4 K a0 = some r) (hS : St H w L) :
 Calls prog 206 #[vI a0] w (U7 (fun v G => (R.int .i64).p G v r) H L) := by
 have Z4 := Sub.refl H
 refine X0 func206 rfl ntmps206 rfl ?_
 unfold Zm4 at q0
 refine Z1 (Z0 (Z5 (vI 0) rfl rfl (Z2 (Z1 (Z0 (Z3 (vI a0) rfl rfl ?_))))))
 refine Zc1 ((a0).tmod 10007) rfl rfl (by decide) rfl rfl ?_
 refine W2 (IntKind.i64.wrap (((a0).tmod 10007) + 10007)) rfl rfl rfl rfl ?_
 refine Zc1 (((IntKind.i64.wrap (((a0).tmod 10007) + 10007))).tmod 10007) rfl rfl (by decide) rfl rfl (Z5 (vI (((IntKind.i64.wrap (((a0).tmod 10007) + 10007))).tmod 10007)) rfl rfl (Z2 ?_))
 refine Y9 (vs := [vI (((IntKind.i64.wrap (((a0).tmod 10007) + 10007))).tmod 10007)]) func206 ⟨rfl, trivial⟩ ?_
 obtain rfl := oi q0
 exact ⟨_, _, rfl, Z4, hS, rfl⟩
end Go.Proofs.YtabofnehiclkiaaGreat
