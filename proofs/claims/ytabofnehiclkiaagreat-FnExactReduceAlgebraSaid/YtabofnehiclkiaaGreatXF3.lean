/- Walks of functions: each computes its pure function, if that gives a value. -/
import Derived.Test.YtabofnehiclkiaaGreatXTy
namespace Go.Proofs.YtabofnehiclkiaaGreat
open Go
set_option linter.unusedSimpArgs false
set_option linter.unusedVariables false
set_option maxRecDepth 100000
set_option maxHeartbeats 8000000
variable {K : Nat} {H : FH} {w : World} {L : OL} {s0 s1 s2 s3 s4 s5 s6 : Value}
def Zf7 (K : Nat) (g8 : Int → Int → Option (Ex (A8 × Int) (Int))) (a4 : Int) (a6 : Int) (b5 : Bool) : Option (Ex (A8 × Int) (Int)) := (if b5 = true then g8 (IntKind.i64.wrap (0 - a6)) (IntKind.i64.wrap (a4 + 1)) else g8 a6 (IntKind.i64.wrap (a4 + 1)))
def Zb4 (K : Nat) (g8 : Int → Int → Option (Ex (A8 × Int) (Int))) (a0 : (List Int)) (a1 : A8) (a4 : Int) (a6 : Int) (b6 : Bool) : Option (Ex (A8 × Int) (Int)) := (if b6 = true then (if 0 ≤ a4 then (if a4 < (a0.length : Int) then (if (((rd a0 a4)).tmod 2) = 0 then Zf7 K (g8) a4 a6 false else (if a4 < 8 then Zf7 K (g8) a4 a6 (decide ((Y5 a1 a4) = 1)) else none)) else none) else none) else some (.go a6))
def Q3 (K : Nat) (a0 : (List Int)) (a1 : A8) (a2 : A8) (a3 : Int) : Nat → Int → Int → Option (Ex (A8 × Int) (Int))
 | 0, _, _ => none
 | k + 1, a6, a4 => (if a4 < (a0.length : Int) then Zb4 K (Q3 K a0 a1 a2 a3 k) a0 a1 a4 a6 (decide ((Y5 a2 a3) = 1)) else Zb4 K (Q3 K a0 a1 a2 a3 k) a0 a1 a4 a6 false)
def P3 (K : Nat) (a0 : (List Int)) (a1 : A8) (a2 : A8) : Nat → Int → A8 → Int → Option (Ex (A8 × Int) (Int × A8))
 | 0, _, _, _ => none
 | k + 1, a3, a5, b8 => (if a3 < (a0.length : Int) then (if a3 < 8 then (if (((rd a0 a3)).tmod 2) = 0 then P3 K a0 a1 a2 k (a3 + 1) (S6 a5 a3 (IntKind.u8.wrap ((Y5 a1 a3) + (Y5 a2 a3)))) b8 else (if 1 < (Y5 (S6 a5 a3 (IntKind.u8.wrap ((Y5 a1 a3) + (Y5 a2 a3)))) a3) then some (.ret ((fun _ => 0), 0)) else ((Q3 K a0 a1 a2 a3 K b8 (a3 + 1)).bind (Ex.elim (fun r => some (.ret r)) (fun s => (fun (d1 : Int) => P3 K a0 a1 a2 k (a3 + 1) (S6 a5 a3 (IntKind.u8.wrap ((Y5 a1 a3) + (Y5 a2 a3)))) d1) s))))) else none) else some (.go (b8, a5)))
def Zp9 (K : Nat) (a0 : (List Int)) (a1 : A8) (a2 : A8) : Option (A8 × Int) := ((P3 K a0 a1 a2 K 0 (fun _ => 0) 1).bind (Ex.elim (fun r => some r) (fun s => (fun (c5 : Int) (a9 : A8) => some (a9, c5)) s.1 s.2)))
theorem Yv2 {a0 : (List Int)} {a1 : A8} {a2 : A8} {r : (A8 × Int)} (q0 : Zp9 K a0 a1 a2 = some r) (b0 : Z9 (Y6 .i64) H s0 a0) (hS : St H w L) :
 Calls Tryz.prog 278 #[s0, vA (Z7 .u8 a1), vA (Z7 .u8 a2)] w (T2 (fun v G => (R.t2 (R.agg (Zr3 .u8)) (R.int .i64)).p G v r) H L) := by
 have Z3 := Sub.refl H
 refine X3 Tryz.func278 rfl Tryz.ntmps278 rfl ?_
 unfold Zp9 at q0
 refine Z2 (Z0 ?_)
 refine S3 (v := vA (Z7 .u8 a1)) (Z7 .u8 a1).toArray rfl rfl hS rfl ?_
 intro b1 _ hS
 refine S3 (v := vA (Z7 .u8 a2)) (Z7 .u8 a2).toArray rfl rfl hS rfl ?_
 intro b4 _ hS
 refine W6 (z := vA (Z7 .u8 (fun _ => 0))) (Z7 .u8 (fun _ => 0)).toArray Yf9.zero rfl hS rfl ?_
 intro b7 _ hS
 refine Z5 (vI 0) rfl rfl (Z1 (Z2 (Z0 ?_)))
 refine R6 (vA (Z7 .u8 (fun _ => 0))) Yx8 rfl ?_
 refine W6 (z := vA (Z7 .u8 (fun _ => 0))) (Z7 .u8 (fun _ => 0)).toArray Yf9.zero rfl hS rfl ?_
 intro c1 _ hS
 refine X5 (v := vA (Z7 .u8 (fun _ => 0))) (vs := (Z7 .u8 (fun _ => 0)).toArray) (cs := (Z7 .u8 (fun _ => 0)).toArray) M2 rfl rfl rfl hS rfl (S4 .u8 (fun _ => 0)) rfl ?_
 intro _ hS
 refine Z5 (vI 1) rfl rfl (Z1 (Z2 (Z2 (Z0 (Z5 (vI 0) rfl rfl (Z1 (Y7 ?_)))))))
 obtain ⟨i5, a7, g1⟩ := bind_some q0
 refine W1 (id := 0) (fun k f w => ∃ (a3 : Int) (a5 : A8) (b8 : Int) (H1 : FH), P3 K a0 a1 a2 k a3 a5 b8 = some i5 ∧ Sub H H1 ∧ St H1 w ([(c1, cA (Z7 .u8 a5) 72)] ++ ([(b7, cA (Z7 .u8 (fun _ => 0)) 72)] ++ ([(b4, cA (Z7 .u8 a2) 72)] ++ ([(b1, cA (Z7 .u8 a1) 72)] ++ L)))) ∧ 0 ≤ a3 ∧ Z9 (Y6 .i64) H1 s0 a0 ∧ tv f 0 = s0 ∧ tv f 4 = vP b1 ∧ tv f 5 = vP b4 ∧ tv f 6 = vP b7 ∧ tv f 8 = vP c1 ∧ tv f 9 = vI b8 ∧ tv f 10 = vI a3) (fun f w => ∃ (c5 : Int) (a9 : A8) (H1 : FH), i5 = .go (c5, a9) ∧ Sub H H1 ∧ St H1 w ([(c1, cA (Z7 .u8 a9) 72)] ++ ([(b7, cA (Z7 .u8 (fun _ => 0)) 72)] ++ ([(b4, cA (Z7 .u8 a2) 72)] ++ ([(b1, cA (Z7 .u8 a1) 72)] ++ L)))) ∧ tv f 6 = vP b7 ∧ tv f 8 = vP c1 ∧ tv f 9 = vI c5) rfl ?_ ?_ K ?_ ?_
 rintro f w ⟨a3, a5, b8, H1, a7, _⟩
 rw [P3] at a7; cases a7
 rintro k _ _ j9 k4 ⟨a3, a5, b8, k1, a7, Z3, hS, _, b0, e5, e6, e7, e8, d2, e9, b9⟩
 rw [P3] at a7
 refine Z2 (Z2 (Z0 (Z4 (vI a3) (by exact b9) rfl (Z4 (s0) (by exact e5) rfl ?_))))
 have k7 := b0.bound
 refine W7 Q0 rfl b0 rfl ?_
 refine V5 (k := .i64) (a := a3) (b := (a0.length : Int)) rfl rfl rfl (Z1 ?_)
 obtain ⟨h0, a7⟩ | ⟨h0, a7⟩ := ic a7
 refine Y0 (bT h0 rfl) (Y8 (Z2 (Y7 (Z2 ?_))))
 obtain ⟨_, a7⟩ := gd a7
 refine U1 9 (P0 [mE 19 (vI a3), mE 20 (vI a3), mE 21 (vQ b1 (0 + (a3).toNat * 1)), mE 22 (Value.int .u8 (Y5 a1 a3)), mE 23 (vI a3), mE 24 (vQ b4 (0 + (a3).toNat * 1)), mE 25 (Value.int .u8 (Y5 a2 a3)), mE 26 (Value.int .u8 (IntKind.u8.wrap ((Y5 a1 a3) + (Y5 a2 a3)))), mE 27 (vQ c1 (0 + (a3).toNat * 1))]) [] mixed rfl rfl rfl hS (Z6 rfl ?_ (Z6 rfl ?_ (Z6 rfl ?_ (Z6 rfl ?_ (Z6 rfl ?_ (Z6 rfl ?_ (Z6 rfl ?_ (Z6 rfl ?_ (Z6 rfl ?_ U7))))))))) ?_
 exact W5 fun S B => Z4 (vI a3) (evT (B 10 rfl) b9) rfl (qz S)
 exact W5 fun S B => Z4 (vI a3) (evT (B 10 rfl) b9) rfl (qz S)
 exact G4 fun S B V => V2 Zd9 (evT (B 4 rfl) e6) (eM (V 1 20 rfl rfl)) (by omega) (by omega) rfl (qz S)
 exact X2 fun S V => Y3 (Value.int .u8 (Y5 a1 a3)) ty5 (eM (V 2 21 rfl rfl)) (S.get (o := cA (Z7 .u8 a1) 72) (mR (mR (mR (mR mL))))) (J2 ([]) ([]) (by omega) (by omega)) rfl (qz S)
 exact W5 fun S B => Z4 (vI a3) (evT (B 10 rfl) b9) rfl (qz S)
 exact G4 fun S B V => V2 Zd9 (evT (B 5 rfl) e7) (eM (V 4 23 rfl rfl)) (by omega) (by omega) rfl (qz S)
 exact X2 fun S V => Y3 (Value.int .u8 (Y5 a2 a3)) ty5 (eM (V 5 24 rfl rfl)) (S.get (o := cA (Z7 .u8 a2) 72) (mR (mR (mR mL)))) (J2 ([]) ([]) (by omega) (by omega)) rfl (qz S)
 exact X2 fun S V => W8 (IntKind.u8.wrap ((Y5 a1 a3) + (Y5 a2 a3))) (eM (V 3 22 rfl rfl)) (eM (V 6 25 rfl rfl)) rfl rfl (qz S)
 exact G4 fun S B V => V2 Zd9 (evT (B 8 rfl) d2) (eM (V 0 19 rfl rfl)) (by omega) (by omega) rfl (qz S)
 intro _ k2 h1 h5 hS c3 h6 hcq
 have hS : St h1 k2 ([(c1, cA (Z7 .u8 a5) 72)] ++ ([(b7, cA (Z7 .u8 (fun _ => 0)) 72)] ++ ([(b4, cA (Z7 .u8 a2) 72)] ++ ([(b1, cA (Z7 .u8 a1) 72)] ++ L)))) := hS
 have Z3 := Z3.trans h5
 have b0 := b0.mono h5
 have h2 := evT (c3 0 rfl) e5
 have i6 := evT (c3 4 rfl) e6
 have i7 := evT (c3 5 rfl) e7
 have g2 := evT (c3 6 rfl) e8
 have h3 := evT (c3 8 rfl) d2
 have i8 := evT (c3 9 rfl) e9
 have d9 := evT (c3 10 rfl) b9
 refine Zb1 (v := Value.int .u8 (IntKind.u8.wrap ((Y5 a1 a3) + (Y5 a2 a3)))) (cs := (Z7 .u8 a5).toArray) (cs' := (Z7 .u8 (S6 a5 a3 (IntKind.u8.wrap ((Y5 a1 a3) + (Y5 a2 a3))))).toArray) ty5 (by exact (eM (h6 8 27 (by decide) rfl))) (by exact (eM (h6 7 26 (by decide) rfl))) hS rfl (Yb6 rfl) (by simp [Z7, L5]; omega) (Zj1 (by omega) (by omega)) ?_
 intro _ hS
 refine Z1 (Z2 (Z2 (Z0 (Z4 (s0) (by exact h2) rfl (Z4 (vI a3) (by exact d9) rfl ?_)))))
 obtain ⟨_, _, _, _, _, j3, j4, rfl, j5⟩ := b0.elem (i := a3) (by omega) (by omega)
 refine X9 Q0 rfl rfl j3 rfl (by omega) (by omega) rfl ?_
 refine Y3 (vI (rd a0 a3)) ty2 rfl (hS.froz _ _ j4) (j5 0 (show 0 < 1 by decide)) rfl ?_
 refine Zk7 (((rd a0 a3)).tmod 2) rfl rfl (by decide) rfl rfl ?_
 refine Zc2 (k := .i64) (a := (((rd a0 a3)).tmod 2)) (b := 0) rfl rfl rfl (Z1 ?_)
 obtain ⟨g3, a7⟩ | ⟨g3, a7⟩ := ic a7
 refine Y0 (bT g3 rfl) ?_
 refine W0 rfl (Z0 (Z4 (vI a3) (by exact d9) rfl ?_))
 refine W8 (a3 + 1) rfl rfl (IntWalk.i64_in _ (by omega)) rfl (Z5 (vI (a3 + 1)) rfl rfl (Z1 ?_))
 exact j9 _ _ ⟨(a3 + 1), (S6 a5 a3 (IntKind.u8.wrap ((Y5 a1 a3) + (Y5 a2 a3)))), b8, h1, a7, Z3, hS, (by omega), b0, h2, i6, i7, g2, h3, i8, rfl⟩
 refine Z8 (bF g3 rfl) (Y8 (Z2 (Z2 (Z0 (Z4 (vI a3) (by exact d9) rfl ?_)))))
 refine V2 Zd9 (by exact h3) rfl (by omega) (by omega) rfl ?_
 refine Y3 (Value.int .u8 (Y5 (S6 a5 a3 (IntKind.u8.wrap ((Y5 a1 a3) + (Y5 a2 a3)))) a3)) ty5 rfl (hS.get (o := cA (Z7 .u8 (S6 a5 a3 (IntKind.u8.wrap ((Y5 a1 a3) + (Y5 a2 a3))))) 72) mL) (J2 ([]) ([]) (by omega) (by omega)) rfl ?_
 refine Zi5 (k := .u8) (a := (Y5 (S6 a5 a3 (IntKind.u8.wrap ((Y5 a1 a3) + (Y5 a2 a3)))) a3)) (b := 1) rfl rfl rfl (Z1 ?_)
 obtain ⟨g4, a7⟩ | ⟨g4, a7⟩ := ic a7
 refine Y0 (bT g4 rfl) (Z2 (Z0 ?_))
 refine R6 (vA (Z7 .u8 (fun _ => 0))) Yx8 rfl ?_
 have hS := hS.perm V1
 refine X5 (v := vA (Z7 .u8 (fun _ => 0))) (vs := (Z7 .u8 (fun _ => 0)).toArray) (cs := (Z7 .u8 (fun _ => 0)).toArray) M2 (by exact g2) rfl rfl hS rfl (S4 .u8 (fun _ => 0)) rfl ?_
 intro _ hS
 have hS := hS.perm V1.symm
 refine Z5 (vI 0) rfl rfl (Z1 ?_)
 refine X0 (vs := [vA (Z7 .u8 (fun _ => 0)), vI 0]) Tryz.func278 ⟨⟨_, (by exact g2), V6 M2 (hS.get (mR mL)) rfl⟩, rfl, trivial⟩ ?_
 obtain rfl := oi a7
 dsimp only [Ex.elim] at g1
 obtain rfl := oi g1
 exact ⟨_, _, rfl, Z3, (St.dropA (St.dropA (St.dropA (St.dropA hS)))), ⟨_, _, rfl, ⟨_, rfl, rfl⟩, rfl⟩⟩
 refine Z8 (bF g4 rfl) (Y8 (Z2 (Z0 (Z4 (vI a3) (by exact d9) rfl ?_))))
 refine W8 (a3 + 1) rfl rfl (IntWalk.i64_in _ (by omega)) rfl (Z5 (vI (a3 + 1)) rfl rfl (Z1 (Y7 ?_)))
 obtain ⟨g5, c0, i9⟩ := bind_some a7
 refine W1 (id := 2) (fun k f w => ∃ (a6 : Int) (a4 : Int) (H1 : FH), Q3 K a0 a1 a2 a3 k a6 a4 = some g5 ∧ Sub H H1 ∧ St H1 w ([(c1, cA (Z7 .u8 (S6 a5 a3 (IntKind.u8.wrap ((Y5 a1 a3) + (Y5 a2 a3))))) 72)] ++ ([(b7, cA (Z7 .u8 (fun _ => 0)) 72)] ++ ([(b4, cA (Z7 .u8 a2) 72)] ++ ([(b1, cA (Z7 .u8 a1) 72)] ++ L)))) ∧ Z9 (Y6 .i64) H1 s0 a0 ∧ tv f 0 = s0 ∧ tv f 4 = vP b1 ∧ tv f 5 = vP b4 ∧ tv f 6 = vP b7 ∧ tv f 8 = vP c1 ∧ tv f 9 = vI a6 ∧ tv f 10 = vI a3 ∧ tv f 11 = vI a4) (fun f w => ∃ (d1 : Int) (H1 : FH), g5 = .go d1 ∧ Sub H H1 ∧ St H1 w ([(c1, cA (Z7 .u8 (S6 a5 a3 (IntKind.u8.wrap ((Y5 a1 a3) + (Y5 a2 a3))))) 72)] ++ ([(b7, cA (Z7 .u8 (fun _ => 0)) 72)] ++ ([(b4, cA (Z7 .u8 a2) 72)] ++ ([(b1, cA (Z7 .u8 a1) 72)] ++ L)))) ∧ Z9 (Y6 .i64) H1 s0 a0 ∧ tv f 0 = s0 ∧ tv f 4 = vP b1 ∧ tv f 5 = vP b4 ∧ tv f 6 = vP b7 ∧ tv f 8 = vP c1 ∧ tv f 9 = vI d1 ∧ tv f 10 = vI a3) rfl ?_ ?_ K ?_ ?_
 rintro f w ⟨a6, a4, H1, c0, _⟩
 rw [Q3] at c0; cases c0
 rintro k _ _ k0 k5 ⟨a6, a4, j0, c0, Z3, hS, b0, d3, f0, d4, f1, f2, f3, c8, c9⟩
 rw [Q3] at c0
 refine Z2 (Z2 ?_)
 refine Zb0 (fun f w => ∃ (b6 : Bool) (H1 : FH), Zb4 K (Q3 K a0 a1 a2 a3 k) a0 a1 a4 a6 b6 = some g5 ∧ Sub H H1 ∧ St H1 w ([(c1, cA (Z7 .u8 (S6 a5 a3 (IntKind.u8.wrap ((Y5 a1 a3) + (Y5 a2 a3))))) 72)] ++ ([(b7, cA (Z7 .u8 (fun _ => 0)) 72)] ++ ([(b4, cA (Z7 .u8 a2) 72)] ++ ([(b1, cA (Z7 .u8 a1) 72)] ++ L)))) ∧ Z9 (Y6 .i64) H1 s0 a0 ∧ tv f 0 = s0 ∧ tv f 4 = vP b1 ∧ tv f 5 = vP b4 ∧ tv f 6 = vP b7 ∧ tv f 8 = vP c1 ∧ tv f 9 = vI a6 ∧ tv f 10 = vI a3 ∧ tv f 11 = vI a4 ∧ tv f 50 = vB b6) ?_ ?_
 rintro _ _ ⟨b6, e0, a8, Z3, hS, b0, c6, c7, d5, d6, d7, d8, d0, c4, e1⟩
 unfold Zb4 at a8
 obtain ⟨g6, a8⟩ | ⟨g6, a8⟩ := ic a8
 refine Y0 (Eq.trans (by exact e1) (congrArg vB g6)) (Y8 (Z2 (Y7 (Z2 ?_))))
 refine Zb0 (fun f w => ∃ (b5 : Bool) (H1 : FH), Zf7 K (Q3 K a0 a1 a2 a3 k) a4 a6 b5 = some g5 ∧ Sub H H1 ∧ St H1 w ([(c1, cA (Z7 .u8 (S6 a5 a3 (IntKind.u8.wrap ((Y5 a1 a3) + (Y5 a2 a3))))) 72)] ++ ([(b7, cA (Z7 .u8 (fun _ => 0)) 72)] ++ ([(b4, cA (Z7 .u8 a2) 72)] ++ ([(b1, cA (Z7 .u8 a1) 72)] ++ L)))) ∧ Z9 (Y6 .i64) H1 s0 a0 ∧ tv f 0 = s0 ∧ tv f 4 = vP b1 ∧ tv f 5 = vP b4 ∧ tv f 6 = vP b7 ∧ tv f 8 = vP c1 ∧ tv f 9 = vI a6 ∧ tv f 10 = vI a3 ∧ tv f 11 = vI a4 ∧ tv f 64 = vB b5) ?_ ?_
 rintro _ _ ⟨b5, g9, c2, Z3, hS, b0, f4, f5, f6, f7, f8, f9, e2, e3, e4⟩
 unfold Zf7 at c2
 obtain ⟨g7, c2⟩ | ⟨g7, c2⟩ := ic c2
 refine Y0 (Eq.trans (by exact e4) (congrArg vB g7)) (Z0 (Z4 (vI a6) (by exact f9) rfl ?_))
 refine Xj6 (IntKind.i64.wrap (0 - a6)) rfl rfl rfl (Z5 (vI (IntKind.i64.wrap (0 - a6))) rfl rfl (Z1 (X4 (Z0 (Z4 (vI a4) (by exact e3) rfl ?_)))))
 refine W8 (IntKind.i64.wrap (a4 + 1)) rfl rfl rfl rfl (Z5 (vI (IntKind.i64.wrap (a4 + 1))) rfl rfl (Z1 ?_))
 exact k0 _ _ ⟨(IntKind.i64.wrap (0 - a6)), (IntKind.i64.wrap (a4 + 1)), g9, c2, Z3, hS, b0, f4, f5, f6, f7, f8, rfl, e2, rfl⟩
 refine Z8 (Eq.trans (by exact e4) (congrArg vB (X8 g7))) (Y8 (X4 (Z0 (Z4 (vI a4) (by exact e3) rfl ?_))))
 refine W8 (IntKind.i64.wrap (a4 + 1)) rfl rfl rfl rfl (Z5 (vI (IntKind.i64.wrap (a4 + 1))) rfl rfl (Z1 ?_))
 exact k0 _ _ ⟨a6, (IntKind.i64.wrap (a4 + 1)), g9, c2, Z3, hS, b0, f4, f5, f6, f7, f8, f9, e2, rfl⟩
 intro j1
 refine Z0 (Z4 (s0) (by exact c6) rfl (Z4 (vI a4) (by exact c4) rfl ?_))
 obtain ⟨_, a8⟩ := gd a8
 obtain ⟨_, a8⟩ := gd a8
 obtain ⟨_, _, _, _, _, j6, j7, rfl, j8⟩ := b0.elem (i := a4) (by omega) (by omega)
 refine X9 Q0 rfl rfl j6 rfl (by omega) (by omega) rfl ?_
 refine Y3 (vI (rd a0 a4)) ty2 rfl (hS.froz _ _ j7) (j8 0 (show 0 < 1 by decide)) rfl ?_
 refine Zk7 (((rd a0 a4)).tmod 2) rfl rfl (by decide) rfl rfl ?_
 refine L7 (k := .i64) (a := (((rd a0 a4)).tmod 2)) (b := 0) rfl rfl rfl (Z4 (vB (!decide ((((rd a0 a4)).tmod 2) = 0))) rfl rfl ?_)
 obtain ⟨b2, a8⟩ | ⟨b2, a8⟩ := ic a8
 refine Y1 rfl rfl (bN b2 rfl) rfl rfl rfl (Y1 rfl rfl (bN b2 rfl) rfl rfl rfl (Y1 rfl rfl (bN b2 rfl) rfl rfl rfl (Y1 rfl rfl (bN b2 rfl) rfl rfl rfl ?_)))
 refine V0 (t := false) (vB false) (bN b2 rfl) ((if_neg Bool.false_ne_true).trans rfl) rfl (Z1 ?_)
 exact j1 _ _ ⟨false, e0, a8, Z3, hS, b0, c6, c7, d5, d6, d7, d8, d0, c4, rfl⟩
 refine Y4 rfl rfl (bO b2 rfl) (Z4 (vI a4) (by exact c4) rfl ?_)
 refine Y4 rfl rfl (bO b2 rfl) ?_
 obtain ⟨_, a8⟩ := gd a8
 refine V2 Zd9 (by exact c7) rfl (by omega) (by omega) rfl ?_
 refine Y4 rfl rfl (bO b2 rfl) ?_
 refine Y3 (Value.int .u8 (Y5 a1 a4)) ty5 rfl (hS.get (o := cA (Z7 .u8 a1) 72) (mR (mR (mR mL)))) (J2 ([]) ([]) (by omega) (by omega)) rfl ?_
 refine Y4 rfl rfl (bO b2 rfl) ?_
 refine Zc2 (k := .u8) (a := (Y5 a1 a4)) (b := 1) rfl rfl rfl ?_
 refine V0 (t := true) (vB (decide ((Y5 a1 a4) = 1))) (bO b2 rfl) ((if_pos rfl).trans rfl) rfl (Z1 ?_)
 exact j1 _ _ ⟨(decide ((Y5 a1 a4) = 1)), e0, a8, Z3, hS, b0, c6, c7, d5, d6, d7, d8, d0, c4, rfl⟩
 refine Z8 (Eq.trans (by exact e1) (congrArg vB (X8 g6))) ?_
 refine W0 rfl ?_
 obtain rfl := oi a8
 exact k5 _ _ ⟨a6, e0, rfl, Z3, hS, b0, c6, c7, d5, d6, d7, d8, d0⟩
 intro j2
 refine Z0 (Z4 (vI a4) (by exact c9) rfl (Z4 (s0) (by exact d3) rfl ?_))
 have k6 := b0.bound
 refine W7 Q0 rfl b0 rfl ?_
 refine V5 (k := .i64) (a := a4) (b := (a0.length : Int)) rfl rfl rfl (Z4 (vB (decide (a4 < (a0.length : Int)))) rfl rfl ?_)
 obtain ⟨b3, c0⟩ | ⟨b3, c0⟩ := ic c0
 refine Y4 rfl rfl (bT b3 rfl) (Z4 (vI a3) (by exact c8) rfl ?_)
 refine Y4 rfl rfl (bT b3 rfl) ?_
 refine V2 Zd9 (by exact d4) rfl (by omega) (by omega) rfl ?_
 refine Y4 rfl rfl (bT b3 rfl) ?_
 refine Y3 (Value.int .u8 (Y5 a2 a3)) ty5 rfl (hS.get (o := cA (Z7 .u8 a2) 72) (mR (mR mL))) (J2 ([]) ([]) (by omega) (by omega)) rfl ?_
 refine Y4 rfl rfl (bT b3 rfl) ?_
 refine Zc2 (k := .u8) (a := (Y5 a2 a3)) (b := 1) rfl rfl rfl ?_
 refine V0 (t := true) (vB (decide ((Y5 a2 a3) = 1))) (bT b3 rfl) ((if_pos rfl).trans rfl) rfl (Z1 ?_)
 exact j2 _ _ ⟨(decide ((Y5 a2 a3) = 1)), j0, c0, Z3, hS, b0, d3, f0, d4, f1, f2, f3, c8, c9, rfl⟩
 refine Y1 rfl rfl (bF b3 rfl) rfl rfl rfl (Y1 rfl rfl (bF b3 rfl) rfl rfl rfl (Y1 rfl rfl (bF b3 rfl) rfl rfl rfl (Y1 rfl rfl (bF b3 rfl) rfl rfl rfl ?_)))
 refine V0 (t := false) (vB false) (bF b3 rfl) ((if_neg Bool.false_ne_true).trans rfl) rfl (Z1 ?_)
 exact j2 _ _ ⟨false, j0, c0, Z3, hS, b0, d3, f0, d4, f1, f2, f3, c8, c9, rfl⟩
 exact ⟨b8, (a3 + 1), h1, c0, Z3, hS, b0, h2, i6, i7, g2, h3, i8, d9, rfl⟩
 rintro _ _ ⟨d1, k3, rfl, Z3, hS, b0, h7, h8, h9, i0, i1, i2, h4⟩
 dsimp only [Ex.elim] at i9
 refine X4 (Z0 (Z4 (vI a3) (by exact h4) rfl ?_))
 refine W8 (a3 + 1) rfl rfl (IntWalk.i64_in _ (by omega)) rfl (Z5 (vI (a3 + 1)) rfl rfl (Z1 ?_))
 exact j9 _ _ ⟨(a3 + 1), (S6 a5 a3 (IntKind.u8.wrap ((Y5 a1 a3) + (Y5 a2 a3)))), d1, k3, i9, Z3, hS, (by omega), b0, h7, h8, h9, i0, i1, i2, rfl⟩
 refine Z8 (bF h0 rfl) ?_
 refine W0 rfl ?_
 obtain rfl := oi a7
 exact k4 _ _ ⟨b8, a5, k1, rfl, Z3, hS, e8, d2, e9⟩
 exact ⟨0, (fun _ => 0), 1, H, a7, Z3, hS, (by omega), b0, rfl, rfl, rfl, rfl, rfl, rfl, rfl⟩
 rintro _ _ ⟨c5, a9, _, rfl, Z3, hS, g0, i3, i4⟩
 dsimp only [Ex.elim] at g1
 refine Z2 (Z0 ?_)
 refine X7 M2 (by exact i3) (hS.get mL) rfl rfl (Z4 (vI c5) (by exact i4) rfl ?_)
 have hS := hS.perm V1
 refine X5 (v := vA (Z7 .u8 a9)) (vs := (Z7 .u8 a9).toArray) (cs := (Z7 .u8 (fun _ => 0)).toArray) M2 (by exact g0) rfl rfl hS rfl (S4 .u8 a9) rfl ?_
 intro _ hS
 have hS := hS.perm V1.symm
 refine Z5 (vI c5) rfl rfl (Z1 ?_)
 refine X0 (vs := [vA (Z7 .u8 a9), vI c5]) Tryz.func278 ⟨⟨_, (by exact g0), V6 M2 (hS.get (mR mL)) rfl⟩, rfl, trivial⟩ ?_
 obtain rfl := oi g1
 exact ⟨_, _, rfl, Z3, (St.dropA (St.dropA (St.dropA (St.dropA hS)))), ⟨_, _, rfl, ⟨_, rfl, rfl⟩, rfl⟩⟩
def L6 (K : Nat) (a0 : (List Int)) (a1 : A8) : Nat → Int → Option (Ex Bool (Unit))
 | 0, _ => none
 | k + 1, a3 => (if a3 < 8 then (if (a0.length : Int) ≤ a3 then (if (Y5 a1 a3) = 0 then L6 K a0 a1 k (a3 + 1) else some (.ret false)) else (if 20 < (Y5 a1 a3) then some (.ret false) else (if a3 < (a0.length : Int) then (if (((rd a0 a3)).tmod 2) = 0 then L6 K a0 a1 k (a3 + 1) else (if 1 < (Y5 a1 a3) then some (.ret false) else L6 K a0 a1 k (a3 + 1))) else none))) else some (.go ()))
def Zv2 (K : Nat) (a0 : (List Int)) (a1 : A8) : Option Bool := ((L6 K a0 a1 K 0).bind (Ex.elim (fun r => some r) (fun s => some true)))
theorem Zt7 {a0 : (List Int)} {a1 : A8} {r : Bool} (q0 : Zv2 K a0 a1 = some r) (b2 : Z9 (Y6 .i64) H s0 a0) (hS : St H w L) :
 Calls Tryz.prog 228 #[s0, vA (Z7 .u8 a1)] w (T2 (fun v G => R.bool.p G v r) H L) := by
 have Z3 := Sub.refl H
 refine X3 Tryz.func228 rfl Tryz.ntmps228 rfl ?_
 unfold Zv2 at q0
 refine Z2 (Z0 ?_)
 refine S3 (v := vA (Z7 .u8 a1)) (Z7 .u8 a1).toArray rfl rfl hS rfl ?_
 intro b1 _ hS
 refine Z5 (vB false) rfl rfl (Z1 (Z2 (Z2 (Z0 (Z5 (vI 0) rfl rfl (Z1 (Y7 ?_)))))))
 obtain ⟨b5, a4, b0⟩ := bind_some q0
 refine W1 (id := 0) (fun k f w => ∃ (a3 : Int) (H1 : FH), L6 K a0 a1 k a3 = some b5 ∧ Sub H H1 ∧ St H1 w ([(b1, cA (Z7 .u8 a1) 72)] ++ L) ∧ 0 ≤ a3 ∧ Z9 (Y6 .i64) H1 s0 a0 ∧ tv f 0 = s0 ∧ tv f 3 = vP b1 ∧ tv f 5 = vI a3) (fun f w => ∃ (H1 : FH), b5 = .go () ∧ Sub H H1 ∧ St H1 w ([(b1, cA (Z7 .u8 a1) 72)] ++ L)) rfl ?_ ?_ K ?_ ?_
 rintro f w ⟨a3, H1, a4, _⟩
 rw [L6] at a4; cases a4
 rintro k _ _ b6 c3 ⟨a3, b3, a4, Z3, hS, _, b2, a9, a7, a5⟩
 rw [L6] at a4
 refine Z2 (Z2 (Z0 (Z4 (vI a3) (by exact a5) rfl ?_)))
 refine V5 (k := .i64) (a := a3) (b := 8) rfl rfl rfl (Z1 ?_)
 obtain ⟨b7, a4⟩ | ⟨b7, a4⟩ := ic a4
 refine Y0 (bT b7 rfl) (Y8 (Z2 (Y7 (Y7 (Z2 (Z0 (Z4 (vI a3) (by exact a5) rfl (Z4 (s0) (by exact a9) rfl ?_))))))))
 have c4 := b2.bound
 refine W7 Q0 rfl b2 rfl ?_
 refine Yg8 (k := .i64) (a := a3) (b := (a0.length : Int)) rfl rfl rfl (Z5 (vB (decide ((a0.length : Int) ≤ a3))) rfl rfl (Z1 ?_))
 obtain ⟨b8, a4⟩ | ⟨b8, a4⟩ := ic a4
 refine Y0 (bT b8 rfl) (Z2 (Z0 (Z4 (vI a3) (by exact a5) rfl ?_)))
 refine V2 Zd9 (by exact a7) rfl (by omega) (by omega) rfl ?_
 refine Y3 (Value.int .u8 (Y5 a1 a3)) ty5 rfl (hS.get (o := cA (Z7 .u8 a1) 72) mL) (J2 ([]) ([]) (by omega) (by omega)) rfl ?_
 refine L7 (k := .u8) (a := (Y5 a1 a3)) (b := 0) rfl rfl rfl (Z1 ?_)
 obtain ⟨b9, a4⟩ | ⟨b9, a4⟩ := ic a4
 refine Z8 (bN b9 rfl) (Y8 (X4 (X4 (Z0 (Z4 (vI a3) (by exact a5) rfl ?_)))))
 refine W8 (a3 + 1) rfl rfl (IntWalk.i64_in _ (by omega)) rfl (Z5 (vI (a3 + 1)) rfl rfl (Z1 ?_))
 exact b6 _ _ ⟨(a3 + 1), b3, a4, Z3, hS, (by omega), b2, a9, a7, rfl⟩
 refine Y0 (bO b9 rfl) (Z2 (Z0 (Z5 (vB false) rfl rfl (Z1 ?_))))
 refine X0 (vs := [vB false]) Tryz.func228 ⟨rfl, trivial⟩ ?_
 obtain rfl := oi a4
 dsimp only [Ex.elim] at b0
 obtain rfl := oi b0
 exact ⟨_, _, rfl, Z3, (St.dropA hS), rfl⟩
 refine Z8 (bF b8 rfl) (Z2 (Z0 (Z4 (vI a3) (by exact a5) rfl ?_)))
 refine V2 Zd9 (by exact a7) rfl (by omega) (by omega) rfl ?_
 refine Y3 (Value.int .u8 (Y5 a1 a3)) ty5 rfl (hS.get (o := cA (Z7 .u8 a1) 72) mL) (J2 ([]) ([]) (by omega) (by omega)) rfl ?_
 refine Zi5 (k := .u8) (a := (Y5 a1 a3)) (b := 20) rfl rfl rfl (Z4 (vB (decide (20 < (Y5 a1 a3)))) rfl rfl ?_)
 obtain ⟨a6, a4⟩ | ⟨a6, a4⟩ := ic a4
 refine Y1 rfl rfl (bT a6 rfl) rfl rfl rfl (Y1 rfl rfl (bT a6 rfl) rfl rfl rfl (Y1 rfl rfl (bT a6 rfl) rfl rfl rfl (Y1 rfl rfl (bT a6 rfl) rfl rfl rfl (Y1 rfl rfl (bT a6 rfl) rfl rfl rfl (Y1 rfl rfl (bT a6 rfl) rfl rfl rfl (Y1 rfl rfl (bT a6 rfl) rfl rfl rfl ?_))))))
 refine U6 rfl rfl rfl rfl rfl ?_
 refine U6 rfl rfl rfl rfl rfl ?_
 refine U6 rfl rfl rfl rfl rfl ?_
 refine U6 rfl rfl rfl rfl rfl (Y1 rfl rfl (bT a6 rfl) rfl rfl rfl ?_)
 refine V0 (t := true) (vB true) (bT a6 rfl) ((if_pos rfl).trans rfl) rfl (Z5 (vB true) rfl rfl (Z1 (Y0 rfl (Z2 (Z0 (Z5 (vB false) rfl rfl (Z1 ?_)))))))
 refine X0 (vs := [vB false]) Tryz.func228 ⟨rfl, trivial⟩ ?_
 obtain rfl := oi a4
 dsimp only [Ex.elim] at b0
 obtain rfl := oi b0
 exact ⟨_, _, rfl, Z3, (St.dropA hS), rfl⟩
 refine Y4 rfl rfl (bF a6 rfl) (Z4 (s0) (by exact a9) rfl ?_)
 refine Y4 rfl rfl (bF a6 rfl) (Z4 (vI a3) (by exact a5) rfl ?_)
 refine Y4 rfl rfl (bF a6 rfl) ?_
 obtain ⟨_, a4⟩ := gd a4
 obtain ⟨_, _, _, _, _, c0, c1, rfl, c2⟩ := b2.elem (i := a3) (by omega) (by omega)
 refine X9 Q0 rfl rfl c0 rfl (by omega) (by omega) rfl ?_
 refine Y4 rfl rfl (bF a6 rfl) ?_
 refine Y3 (vI (rd a0 a3)) ty2 rfl (hS.froz _ _ c1) (c2 0 (show 0 < 1 by decide)) rfl ?_
 refine Y4 rfl rfl (bF a6 rfl) ?_
 refine Zk7 (((rd a0 a3)).tmod 2) rfl rfl (by decide) rfl rfl ?_
 refine Y4 rfl rfl (bF a6 rfl) ?_
 refine L7 (k := .i64) (a := (((rd a0 a3)).tmod 2)) (b := 0) rfl rfl rfl ?_
 refine Y4 rfl rfl (bF a6 rfl) (Z4 (vB (!decide ((((rd a0 a3)).tmod 2) = 0))) rfl rfl ?_)
 obtain ⟨a8, a4⟩ | ⟨a8, a4⟩ := ic a4
 refine Y1 rfl rfl (bN a8 rfl) rfl rfl rfl (Y1 rfl rfl (bN a8 rfl) rfl rfl rfl (Y1 rfl rfl (bN a8 rfl) rfl rfl rfl (Y1 rfl rfl (bN a8 rfl) rfl rfl rfl ?_)))
 refine Y4 rfl rfl (bF a6 rfl) ?_
 refine V0 (t := false) (vB false) (bN a8 rfl) ((if_neg Bool.false_ne_true).trans rfl) rfl ?_
 refine V0 (t := false) (vB false) (bF a6 rfl) ((if_neg Bool.false_ne_true).trans rfl) rfl (Z5 (vB false) rfl rfl (Z1 (Z8 rfl (Y8 (X4 (X4 (Z0 (Z4 (vI a3) (by exact a5) rfl ?_))))))))
 refine W8 (a3 + 1) rfl rfl (IntWalk.i64_in _ (by omega)) rfl (Z5 (vI (a3 + 1)) rfl rfl (Z1 ?_))
 exact b6 _ _ ⟨(a3 + 1), b3, a4, Z3, hS, (by omega), b2, a9, a7, rfl⟩
 refine Y4 rfl rfl (bO a8 rfl) (Z4 (vI a3) (by exact a5) rfl ?_)
 refine Y4 rfl rfl (bO a8 rfl) ?_
 refine V2 Zd9 (by exact a7) rfl (by omega) (by omega) rfl ?_
 refine Y4 rfl rfl (bO a8 rfl) ?_
 refine Y3 (Value.int .u8 (Y5 a1 a3)) ty5 rfl (hS.get (o := cA (Z7 .u8 a1) 72) mL) (J2 ([]) ([]) (by omega) (by omega)) rfl ?_
 refine Y4 rfl rfl (bO a8 rfl) ?_
 refine Zi5 (k := .u8) (a := (Y5 a1 a3)) (b := 1) rfl rfl rfl ?_
 refine Y4 rfl rfl (bF a6 rfl) ?_
 refine V0 (t := true) (vB (decide (1 < (Y5 a1 a3)))) (bO a8 rfl) ((if_pos rfl).trans rfl) rfl ?_
 refine V0 (t := false) (vB (decide (1 < (Y5 a1 a3)))) (bF a6 rfl) ((if_neg Bool.false_ne_true).trans rfl) rfl (Z5 (vB (decide (1 < (Y5 a1 a3)))) rfl rfl (Z1 ?_))
 obtain ⟨b4, a4⟩ | ⟨b4, a4⟩ := ic a4
 refine Y0 (bT b4 rfl) (Z2 (Z0 (Z5 (vB false) rfl rfl (Z1 ?_))))
 refine X0 (vs := [vB false]) Tryz.func228 ⟨rfl, trivial⟩ ?_
 obtain rfl := oi a4
 dsimp only [Ex.elim] at b0
 obtain rfl := oi b0
 exact ⟨_, _, rfl, Z3, (St.dropA hS), rfl⟩
 refine Z8 (bF b4 rfl) (Y8 (X4 (X4 (Z0 (Z4 (vI a3) (by exact a5) rfl ?_)))))
 refine W8 (a3 + 1) rfl rfl (IntWalk.i64_in _ (by omega)) rfl (Z5 (vI (a3 + 1)) rfl rfl (Z1 ?_))
 exact b6 _ _ ⟨(a3 + 1), b3, a4, Z3, hS, (by omega), b2, a9, a7, rfl⟩
 refine Z8 (bF b7 rfl) ?_
 refine W0 rfl ?_
 obtain rfl := oi a4
 exact c3 _ _ ⟨b3, rfl, Z3, hS⟩
 exact ⟨0, H, a4, Z3, hS, (by omega), b2, rfl, rfl, rfl⟩
 rintro _ _ ⟨_, rfl, Z3, hS⟩
 dsimp only [Ex.elim] at b0
 refine Z2 (Z0 (Z5 (vB true) rfl rfl (Z1 ?_)))
 refine X0 (vs := [vB true]) Tryz.func228 ⟨rfl, trivial⟩ ?_
 obtain rfl := oi b0
 exact ⟨_, _, rfl, Z3, (St.dropA hS), rfl⟩
def B3 (K : Nat) (a0 : A8) (a1 : A8) : Nat → Int → Option (Ex Bool (Unit))
 | 0, _ => none
 | k + 1, a3 => (if a3 < 8 then (if (Y5 a0 a3) = (Y5 a1 a3) then B3 K a0 a1 k (a3 + 1) else some (.ret (decide ((Y5 a1 a3) < (Y5 a0 a3))))) else some (.go ()))
def Zh7 (K : Nat) (a0 : A8) (a1 : A8) : Option Bool := ((B3 K a0 a1 K 0).bind (Ex.elim (fun r => some r) (fun s => some false)))
theorem Zy0 {a0 : A8} {a1 : A8} {r : Bool} (q0 : Zh7 K a0 a1 = some r) (hS : St H w L) :
 Calls Tryz.prog 229 #[vA (Z7 .u8 a0), vA (Z7 .u8 a1)] w (T2 (fun v G => R.bool.p G v r) H L) := by
 have Z3 := Sub.refl H
 refine X3 Tryz.func229 rfl Tryz.ntmps229 rfl ?_
 unfold Zh7 at q0
 refine Z2 (Z0 ?_)
 refine S3 (v := vA (Z7 .u8 a0)) (Z7 .u8 a0).toArray rfl rfl hS rfl ?_
 intro b1 _ hS
 refine S3 (v := vA (Z7 .u8 a1)) (Z7 .u8 a1).toArray rfl rfl hS rfl ?_
 intro b4 _ hS
 refine Z5 (vB false) rfl rfl (Z1 (Z2 (Z2 (Z0 (Z5 (vI 0) rfl rfl (Z1 (Y7 ?_)))))))
 obtain ⟨b2, a4, a8⟩ := bind_some q0
 refine W1 (id := 0) (fun k f w => ∃ (a3 : Int) (H1 : FH), B3 K a0 a1 k a3 = some b2 ∧ Sub H H1 ∧ St H1 w ([(b4, cA (Z7 .u8 a1) 72)] ++ ([(b1, cA (Z7 .u8 a0) 72)] ++ L)) ∧ 0 ≤ a3 ∧ tv f 2 = vP b1 ∧ tv f 3 = vP b4 ∧ tv f 5 = vI a3) (fun f w => ∃ (H1 : FH), b2 = .go () ∧ Sub H H1 ∧ St H1 w ([(b4, cA (Z7 .u8 a1) 72)] ++ ([(b1, cA (Z7 .u8 a0) 72)] ++ L))) rfl ?_ ?_ K ?_ ?_
 rintro f w ⟨a3, H1, a4, _⟩
 rw [B3] at a4; cases a4
 rintro k _ _ c7 c8 ⟨a3, c2, a4, Z3, hS, _, a6, a7, a5⟩
 rw [B3] at a4
 refine Z2 (Z2 (Z0 (Z4 (vI a3) (by exact a5) rfl ?_)))
 refine V5 (k := .i64) (a := a3) (b := 8) rfl rfl rfl (Z1 ?_)
 obtain ⟨b3, a4⟩ | ⟨b3, a4⟩ := ic a4
 refine Y0 (bT b3 rfl) (Y8 (Z2 (Y7 (Z2 ?_))))
 refine U1 7 (P0 [mE 10 (vI a3), mE 11 (vQ b1 (0 + (a3).toNat * 1)), mE 12 (Value.int .u8 (Y5 a0 a3)), mE 13 (vI a3), mE 14 (vQ b4 (0 + (a3).toNat * 1)), mE 15 (Value.int .u8 (Y5 a1 a3)), mE 16 (vB (!decide ((Y5 a0 a3) = (Y5 a1 a3))))]) [] mixed rfl rfl rfl hS (Z6 rfl ?_ (Z6 rfl ?_ (Z6 rfl ?_ (Z6 rfl ?_ (Z6 rfl ?_ (Z6 rfl ?_ (Z6 rfl ?_ U7))))))) ?_
 exact W5 fun S B => Z4 (vI a3) (evT (B 5 rfl) a5) rfl (qz S)
 exact G4 fun S B V => V2 Zd9 (evT (B 2 rfl) a6) (eM (V 0 10 rfl rfl)) (by omega) (by omega) rfl (qz S)
 exact X2 fun S V => Y3 (Value.int .u8 (Y5 a0 a3)) ty5 (eM (V 1 11 rfl rfl)) (S.get (o := cA (Z7 .u8 a0) 72) (mR (mR mL))) (J2 ([]) ([]) (by omega) (by omega)) rfl (qz S)
 exact W5 fun S B => Z4 (vI a3) (evT (B 5 rfl) a5) rfl (qz S)
 exact G4 fun S B V => V2 Zd9 (evT (B 3 rfl) a7) (eM (V 3 13 rfl rfl)) (by omega) (by omega) rfl (qz S)
 exact X2 fun S V => Y3 (Value.int .u8 (Y5 a1 a3)) ty5 (eM (V 4 14 rfl rfl)) (S.get (o := cA (Z7 .u8 a1) 72) (mR mL)) (J2 ([]) ([]) (by omega) (by omega)) rfl (qz S)
 exact X2 fun S V => L7 (k := .u8) (a := (Y5 a0 a3)) (b := (Y5 a1 a3)) (eM (V 2 12 rfl rfl)) (eM (V 5 15 rfl rfl)) rfl (qz S)
 intro c9 d0 b8 c3 hS a9 c4 hcq
 have hS : St b8 d0 ([(b4, cA (Z7 .u8 a1) 72)] ++ ([(b1, cA (Z7 .u8 a0) 72)] ++ L)) := hS
 have Z3 := Z3.trans c3
 have b9 := evT (a9 2 rfl) a6
 have c0 := evT (a9 3 rfl) a7
 have b5 := evT (a9 5 rfl) a5
 have c1 : tv c9 16 = vB (!decide ((Y5 a0 a3) = (Y5 a1 a3))) := c4 6 16 (by decide) rfl
 refine Z1 ?_
 obtain ⟨b0, a4⟩ | ⟨b0, a4⟩ := ic a4
 refine Z8 (bN b0 (by exact c1)) (Y8 (X4 (Z0 (Z4 (vI a3) (by exact b5) rfl ?_))))
 refine W8 (a3 + 1) rfl rfl (IntWalk.i64_in _ (by omega)) rfl (Z5 (vI (a3 + 1)) rfl rfl (Z1 ?_))
 exact c7 _ _ ⟨(a3 + 1), b8, a4, Z3, hS, (by omega), b9, c0, rfl⟩
 refine Y0 (bO b0 (by exact c1)) (Z2 ?_)
 refine U1 8 (P0 [mE 17 (vI a3), mE 18 (vQ b1 (0 + (a3).toNat * 1)), mE 19 (Value.int .u8 (Y5 a0 a3)), mE 20 (vI a3), mE 21 (vQ b4 (0 + (a3).toNat * 1)), mE 22 (Value.int .u8 (Y5 a1 a3)), mE 23 (vB (decide ((Y5 a1 a3) < (Y5 a0 a3)))), mE 4 (vB (decide ((Y5 a1 a3) < (Y5 a0 a3))))]) [] mixed rfl rfl rfl hS (Z6 rfl ?_ (Z6 rfl ?_ (Z6 rfl ?_ (Z6 rfl ?_ (Z6 rfl ?_ (Z6 rfl ?_ (Z6 rfl ?_ (Z6 rfl ?_ U7)))))))) ?_
 exact W5 fun S B => Z4 (vI a3) (evT (B 5 rfl) b5) rfl (qz S)
 exact G4 fun S B V => V2 Zd9 (evT (B 2 rfl) b9) (eM (V 0 17 rfl rfl)) (by omega) (by omega) rfl (qz S)
 exact X2 fun S V => Y3 (Value.int .u8 (Y5 a0 a3)) ty5 (eM (V 1 18 rfl rfl)) (S.get (o := cA (Z7 .u8 a0) 72) (mR (mR mL))) (J2 ([]) ([]) (by omega) (by omega)) rfl (qz S)
 exact W5 fun S B => Z4 (vI a3) (evT (B 5 rfl) b5) rfl (qz S)
 exact G4 fun S B V => V2 Zd9 (evT (B 3 rfl) c0) (eM (V 3 20 rfl rfl)) (by omega) (by omega) rfl (qz S)
 exact X2 fun S V => Y3 (Value.int .u8 (Y5 a1 a3)) ty5 (eM (V 4 21 rfl rfl)) (S.get (o := cA (Z7 .u8 a1) 72) (mR mL)) (J2 ([]) ([]) (by omega) (by omega)) rfl (qz S)
 exact X2 fun S V => Zi5 (k := .u8) (a := (Y5 a0 a3)) (b := (Y5 a1 a3)) (eM (V 2 19 rfl rfl)) (eM (V 5 22 rfl rfl)) rfl (qz S)
 exact X2 fun S V => Z5 (vB (decide ((Y5 a1 a3) < (Y5 a0 a3)))) (eM (V 6 23 rfl rfl)) rfl (qz S)
 intro _ c5 c6 b6 hS _ b7 hcq
 have hS : St c6 c5 ([(b4, cA (Z7 .u8 a1) 72)] ++ ([(b1, cA (Z7 .u8 a0) 72)] ++ L)) := hS
 have Z3 := Z3.trans b6
 refine Z1 ?_
 refine X0 (vs := [vB (decide ((Y5 a1 a3) < (Y5 a0 a3)))]) Tryz.func229 ⟨(by exact (eM (b7 7 4 (by decide) rfl))), trivial⟩ ?_
 obtain rfl := oi a4
 dsimp only [Ex.elim] at a8
 obtain rfl := oi a8
 exact ⟨_, _, rfl, Z3, (St.dropA (St.dropA hS)), rfl⟩
 refine Z8 (bF b3 rfl) ?_
 refine W0 rfl ?_
 obtain rfl := oi a4
 exact c8 _ _ ⟨c2, rfl, Z3, hS⟩
 exact ⟨0, H, a4, Z3, hS, (by omega), rfl, rfl, rfl⟩
 rintro _ _ ⟨_, rfl, Z3, hS⟩
 dsimp only [Ex.elim] at a8
 refine Z2 (Z0 (Z5 (vB false) rfl rfl (Z1 ?_)))
 refine X0 (vs := [vB false]) Tryz.func229 ⟨rfl, trivial⟩ ?_
 obtain rfl := oi a8
 exact ⟨_, _, rfl, Z3, (St.dropA (St.dropA hS)), rfl⟩
def Zj4 (K : Nat) (c3 : Int → Int → Int → Option (Ex Int (Int))) (a1 : Int) (a3 : Int) (a6 : Int) : Option (Ex Int (Int)) := c3 a6 (((IntKind.i64.wrap (a1 * a1))).tmod 10007) (IntKind.i64.wrap ((a3).tdiv 2))
def N9 (K : Nat) : Nat → Int → Int → Int → Option (Ex Int (Int))
 | 0, _, _, _ => none
 | k + 1, a4, a1, a3 => (if 0 < a3 then (if ((a3).tmod 2) = 1 then Zj4 K (N9 K k) a1 a3 (((IntKind.i64.wrap (a4 * a1))).tmod 10007) else Zj4 K (N9 K k) a1 a3 a4) else some (.go a4))
def Zo3 (K : Nat) (a0 : Int) : Option Int := ((N9 K K 1 a0 10005).bind (Ex.elim (fun r => some r) (fun s => (fun (a7 : Int) => some a7) s)))
theorem Ys8 {a0 : Int} {r : Int} (q0 : Zo3 K a0 = some r) (hS : St H w L) :
 Calls Tryz.prog 245 #[vI a0] w (T2 (fun v G => (R.int .i64).p G v r) H L) := by
 have Z3 := Sub.refl H
 refine X3 Tryz.func245 rfl Tryz.ntmps245 rfl ?_
 unfold Zo3 at q0
 refine Z2 (Z0 (Z5 (vI 0) rfl rfl (Z1 (Z2 (Z0 (Z4 (vI a0) rfl rfl (Z5 (vI 1) rfl rfl (Z5 (vI a0) rfl rfl (Z1 (Z2 (Z2 (Z0 (Z5 (vI 10005) rfl rfl (Z1 (Y7 ?_)))))))))))))))
 obtain ⟨b2, a5, b6⟩ := bind_some q0
 refine W1 (id := 0) (fun k f w => ∃ (a4 : Int) (a1 : Int) (a3 : Int) (H1 : FH), N9 K k a4 a1 a3 = some b2 ∧ Sub H H1 ∧ St H1 w (L) ∧ tv f 3 = vI a4 ∧ tv f 4 = vI a1 ∧ tv f 5 = vI a3) (fun f w => ∃ (a7 : Int) (H1 : FH), b2 = .go a7 ∧ Sub H H1 ∧ St H1 w (L) ∧ tv f 3 = vI a7) rfl ?_ ?_ K ?_ ?_
 rintro f w ⟨a4, a1, a3, H1, a5, _⟩
 rw [N9] at a5; cases a5
 rintro k _ _ c4 c5 ⟨a4, a1, a3, b3, a5, Z3, hS, a9, b0, a8⟩
 rw [N9] at a5
 refine Z2 (Z2 (Z0 (Z4 (vI a3) (by exact a8) rfl ?_)))
 refine Zi5 (k := .i64) (a := a3) (b := 0) rfl rfl rfl (Z1 ?_)
 obtain ⟨b7, a5⟩ | ⟨b7, a5⟩ := ic a5
 refine Y0 (bT b7 rfl) (Y8 (Z2 (Y7 (Z2 (Z2 (Z0 (Z4 (vI a3) (by exact a8) rfl ?_)))))))
 refine Zk7 ((a3).tmod 2) rfl rfl (by decide) rfl rfl ?_
 refine Zc2 (k := .i64) (a := ((a3).tmod 2)) (b := 1) rfl rfl rfl (Z1 ?_)
 refine Zb0 (fun f w => ∃ (a6 : Int) (H1 : FH), Zj4 K (N9 K k) a1 a3 a6 = some b2 ∧ Sub H H1 ∧ St H1 w (L) ∧ tv f 3 = vI a6 ∧ tv f 4 = vI a1 ∧ tv f 5 = vI a3) ?_ ?_
 rintro _ _ ⟨a6, c1, b4, Z3, hS, b8, b1, b9⟩
 unfold Zj4 at b4
 refine Z0 (Z4 (vI a1) (by exact b1) rfl (Z4 (vI a1) (by exact b1) rfl ?_))
 refine Zt1 (IntKind.i64.wrap (a1 * a1)) rfl rfl rfl rfl ?_
 refine Zk7 (((IntKind.i64.wrap (a1 * a1))).tmod 10007) rfl rfl (by decide) rfl rfl (Z5 (vI (((IntKind.i64.wrap (a1 * a1))).tmod 10007)) rfl rfl (Z1 (X4 (Z0 (Z4 (vI a3) (by exact b9) rfl ?_)))))
 refine Wt5 (IntKind.i64.wrap ((a3).tdiv 2)) rfl rfl (by decide) rfl rfl (Z5 (vI (IntKind.i64.wrap ((a3).tdiv 2))) rfl rfl (Z1 ?_))
 exact c4 _ _ ⟨a6, (((IntKind.i64.wrap (a1 * a1))).tmod 10007), (IntKind.i64.wrap ((a3).tdiv 2)), c1, b4, Z3, hS, b8, rfl, rfl⟩
 intro c2
 obtain ⟨c0, a5⟩ | ⟨c0, a5⟩ := ic a5
 refine Y0 (bT c0 rfl) (Z0 (Z4 (vI a4) (by exact a9) rfl (Z4 (vI a1) (by exact b0) rfl ?_)))
 refine Zt1 (IntKind.i64.wrap (a4 * a1)) rfl rfl rfl rfl ?_
 refine Zk7 (((IntKind.i64.wrap (a4 * a1))).tmod 10007) rfl rfl (by decide) rfl rfl (Z5 (vI (((IntKind.i64.wrap (a4 * a1))).tmod 10007)) rfl rfl (Z1 ?_))
 exact c2 _ _ ⟨(((IntKind.i64.wrap (a4 * a1))).tmod 10007), b3, a5, Z3, hS, rfl, b0, a8⟩
 refine Z8 (bF c0 rfl) (Y8 ?_)
 exact c2 _ _ ⟨a4, b3, a5, Z3, hS, a9, b0, a8⟩
 refine Z8 (bF b7 rfl) ?_
 refine W0 rfl ?_
 obtain rfl := oi a5
 exact c5 _ _ ⟨a4, b3, rfl, Z3, hS, a9⟩
 exact ⟨1, a0, 10005, H, a5, Z3, hS, rfl, rfl, rfl⟩
 rintro _ _ ⟨a7, _, rfl, Z3, hS, b5⟩
 dsimp only [Ex.elim] at b6
 refine Z2 (Z0 (Z4 (vI a7) (by exact b5) rfl (Z5 (vI a7) rfl rfl (Z1 ?_))))
 refine X0 (vs := [vI a7]) Tryz.func245 ⟨rfl, trivial⟩ ?_
 obtain rfl := oi b6
 exact ⟨_, _, rfl, Z3, hS, rfl⟩
def E4 (K : Nat) (a0 : A8) : Nat → Int → A8 → Option (Ex A8 (A8))
 | 0, _, _ => none
 | k + 1, a1, a3 => (if a1 < 8 then E4 K a0 k (a1 + 1) (S6 a3 a1 (Y5 a0 a1)) else some (.go a3))
def Zo9 (K : Nat) (a0 : A8) : Option A8 := ((E4 K a0 K 0 (fun _ => 0)).bind (Ex.elim (fun r => some r) (fun s => (fun (a4 : A8) => some a4) s)))
theorem Yt7 {a0 : A8} {r : A8} (q0 : Zo9 K a0 = some r) (hS : St H w L) :
 Calls Tryz.prog 238 #[vA (Z7 .u8 a0)] w (T2 (fun v G => (R.agg (Zr3 .u8)).p G v r) H L) := by
 have Z3 := Sub.refl H
 refine X3 Tryz.func238 rfl Tryz.ntmps238 rfl ?_
 unfold Zo9 at q0
 refine Z2 (Z0 ?_)
 refine S3 (v := vA (Z7 .u8 a0)) (Z7 .u8 a0).toArray rfl rfl hS rfl ?_
 intro b1 _ hS
 refine W6 (z := vA (Z7 .u8 (fun _ => 0))) (Z7 .u8 (fun _ => 0)).toArray Yf9.zero rfl hS rfl ?_
 intro b4 _ hS
 refine Z1 (Z2 (Z0 ?_))
 refine W6 (z := vA (Z7 .u8 (fun _ => 0))) (Z7 .u8 (fun _ => 0)).toArray Yf9.zero rfl hS rfl ?_
 intro b7 _ hS
 refine Z1 (Z2 (Z2 (Z0 (Z5 (vI 0) rfl rfl (Z1 (Y7 ?_))))))
 obtain ⟨b5, a5, b6⟩ := bind_some q0
 refine W1 (id := 0) (fun k f w => ∃ (a1 : Int) (a3 : A8) (H1 : FH), E4 K a0 k a1 a3 = some b5 ∧ Sub H H1 ∧ St H1 w ([(b7, cA (Z7 .u8 a3) 72)] ++ ([(b4, cA (Z7 .u8 (fun _ => 0)) 72)] ++ ([(b1, cA (Z7 .u8 a0) 71)] ++ L))) ∧ 0 ≤ a1 ∧ tv f 1 = vP b1 ∧ tv f 2 = vP b4 ∧ tv f 3 = vP b7 ∧ tv f 4 = vI a1) (fun f w => ∃ (a4 : A8) (H1 : FH), b5 = .go a4 ∧ Sub H H1 ∧ St H1 w ([(b7, cA (Z7 .u8 a4) 72)] ++ ([(b4, cA (Z7 .u8 (fun _ => 0)) 72)] ++ ([(b1, cA (Z7 .u8 a0) 71)] ++ L))) ∧ tv f 2 = vP b4 ∧ tv f 3 = vP b7) rfl ?_ ?_ K ?_ ?_
 rintro f w ⟨a1, a3, H1, a5, _⟩
 rw [E4] at a5; cases a5
 rintro k _ _ b9 c0 ⟨a1, a3, b8, a5, Z3, hS, _, a8, a9, a7, a6⟩
 rw [E4] at a5
 refine Z2 (Z2 (Z0 (Z4 (vI a1) (by exact a6) rfl ?_)))
 refine V5 (k := .i64) (a := a1) (b := 8) rfl rfl rfl (Z1 ?_)
 obtain ⟨b2, a5⟩ | ⟨b2, a5⟩ := ic a5
 refine Y0 (bT b2 rfl) (Y8 (Z2 (Y7 (Z0 (Z4 (vI a1) (by exact a6) rfl (Z4 (vI a1) (by exact a6) rfl ?_))))))
 refine V2 Vj0 (by exact a8) rfl (by omega) (by omega) rfl ?_
 refine Y3 (Value.int .u8 (Y5 a0 a1)) ty5 rfl (hS.get (o := cA (Z7 .u8 a0) 71) (mR (mR mL))) (J2 ([]) ([]) (by omega) (by omega)) rfl ?_
 refine V2 Zd9 (by exact a7) rfl (by omega) (by omega) rfl ?_
 refine Zb1 (v := Value.int .u8 (Y5 a0 a1)) (cs := (Z7 .u8 a3).toArray) (cs' := (Z7 .u8 (S6 a3 a1 (Y5 a0 a1))).toArray) ty5 rfl rfl hS rfl (Yb6 rfl) (by simp [Z7, L5]; omega) (Zj1 (by omega) (by omega)) ?_
 intro _ hS
 refine Z1 (X4 (Z0 (Z4 (vI a1) (by exact a6) rfl ?_)))
 refine W8 (a1 + 1) rfl rfl (IntWalk.i64_in _ (by omega)) rfl (Z5 (vI (a1 + 1)) rfl rfl (Z1 ?_))
 exact b9 _ _ ⟨(a1 + 1), (S6 a3 a1 (Y5 a0 a1)), b8, a5, Z3, hS, (by omega), a8, a9, a7, rfl⟩
 refine Z8 (bF b2 rfl) ?_
 refine W0 rfl ?_
 obtain rfl := oi a5
 exact c0 _ _ ⟨a3, b8, rfl, Z3, hS, a9, a7⟩
 exact ⟨0, (fun _ => 0), H, a5, Z3, hS, (by omega), rfl, rfl, rfl, rfl⟩
 rintro _ _ ⟨a4, _, rfl, Z3, hS, b0, b3⟩
 dsimp only [Ex.elim] at b6
 refine Z2 (Z0 ?_)
 refine X7 M2 (by exact b3) (hS.get mL) rfl rfl ?_
 have hS := hS.perm V1
 refine X5 (v := vA (Z7 .u8 a4)) (vs := (Z7 .u8 a4).toArray) (cs := (Z7 .u8 (fun _ => 0)).toArray) M2 (by exact b0) rfl rfl hS rfl (S4 .u8 a4) rfl ?_
 intro _ hS
 have hS := hS.perm V1.symm
 refine Z1 ?_
 refine X0 (vs := [vA (Z7 .u8 a4)]) Tryz.func238 ⟨⟨_, (by exact b0), V6 M2 (hS.get (mR mL)) rfl⟩, trivial⟩ ?_
 obtain rfl := oi b6
 exact ⟨_, _, rfl, Z3, (St.dropA (St.dropA (St.dropA hS))), ⟨_, rfl, rfl⟩⟩
def J9 (K : Nat) (a0 : (List Int)) (a1 : Int) : Nat → Int → Option (Ex Int (Unit))
 | 0, _ => none
 | k + 1, a3 => (if a3 < (a0.length : Int) then (if a1 = (rd a0 a3) then some (.ret a3) else J9 K a0 a1 k (a3 + 1)) else some (.go ()))
def Zr6 (K : Nat) (a0 : (List Int)) (a1 : Int) : Option Int := ((J9 K a0 a1 K 0).bind (Ex.elim (fun r => some r) (fun s => some (-1))))
theorem Yj1 {a0 : (List Int)} {a1 : Int} {r : Int} (q0 : Zr6 K a0 a1 = some r) (a6 : Z9 (Y6 .i64) H s0 a0) (hS : St H w L) :
 Calls Tryz.prog 286 #[s0, vI a1] w (T2 (fun v G => (R.int .i64).p G v r) H L) := by
 have Z3 := Sub.refl H
 refine X3 Tryz.func286 rfl Tryz.ntmps286 rfl ?_
 unfold Zr6 at q0
 refine Z2 (Z0 (Z5 (vI 0) rfl rfl (Z1 (Z2 (Z2 (Z0 (Z4 (s0) rfl rfl ?_)))))))
 have c0 := a6.bound
 refine W7 Zs6 rfl a6 rfl (Z4 (vI 0) rfl rfl (Z1 (Y7 ?_)))
 obtain ⟨b1, a4, b0⟩ := bind_some q0
 refine W1 (id := 0) (fun k f w => ∃ (a3 : Int) (H1 : FH), J9 K a0 a1 k a3 = some b1 ∧ Sub H H1 ∧ St H1 w (L) ∧ 0 ≤ a3 ∧ Z9 (Y6 .i64) H1 s0 a0 ∧ tv f 0 = s0 ∧ tv f 1 = vI a1 ∧ tv f 7 = vI (a0.length : Int) ∧ tv f 8 = vI a3) (fun f w => ∃ (H1 : FH), b1 = .go () ∧ Sub H H1 ∧ St H1 w (L)) rfl ?_ ?_ K ?_ ?_
 rintro f w ⟨a3, H1, a4, _⟩
 rw [J9] at a4; cases a4
 rintro k _ _ b5 b6 ⟨a3, b2, a4, Z3, hS, _, a6, a7, a8, a9, a5⟩
 rw [J9] at a4
 refine Z2 (Z0 ?_)
 refine V5 (k := .i64) (a := a3) (b := (a0.length : Int)) (by exact a5) (by exact a9) rfl (Z1 (Z2 ?_))
 obtain ⟨b3, a4⟩ | ⟨b3, a4⟩ := ic a4
 refine Y0 (bT b3 rfl) (Y8 (Z2 (Y7 (Z2 (Z0 (Z4 (vI a3) (by exact a5) rfl (Z5 (vI a3) rfl rfl (Z1 (Z2 (Z0 (Z4 (vI a1) (by exact a8) rfl (Z4 (s0) (by exact a7) rfl (Z4 (vI a3) rfl rfl ?_)))))))))))))
 obtain ⟨_, _, _, _, _, b7, b8, rfl, b9⟩ := a6.elem (i := a3) (by omega) (by omega)
 refine X9 Zs6 rfl rfl b7 rfl (by omega) (by omega) rfl ?_
 refine Y3 (vI (rd a0 a3)) ty3 rfl (hS.froz _ _ b8) (b9 0 (show 0 < 1 by decide)) rfl ?_
 refine Zc2 (k := .i64) (a := a1) (b := (rd a0 a3)) rfl rfl rfl (Z1 ?_)
 obtain ⟨b4, a4⟩ | ⟨b4, a4⟩ := ic a4
 refine Y0 (bT b4 rfl) (Z2 (Z0 (Z4 (vI a3) rfl rfl (Z5 (vI a3) rfl rfl (Z1 ?_)))))
 refine X0 (vs := [vI a3]) Tryz.func286 ⟨rfl, trivial⟩ ?_
 obtain rfl := oi a4
 dsimp only [Ex.elim] at b0
 obtain rfl := oi b0
 exact ⟨_, _, rfl, Z3, hS, rfl⟩
 refine Z8 (bF b4 rfl) (Y8 (X4 (Z0 ?_)))
 refine W8 (a3 + 1) (by exact a5) rfl (IntWalk.i64_in _ (by omega)) rfl (Z4 (vI (a3 + 1)) rfl rfl (Z1 ?_))
 exact b5 _ _ ⟨(a3 + 1), b2, a4, Z3, hS, (by omega), a6, a7, a8, a9, rfl⟩
 refine Z8 (bF b3 rfl) ?_
 refine W0 rfl ?_
 obtain rfl := oi a4
 exact b6 _ _ ⟨b2, rfl, Z3, hS⟩
 exact ⟨0, H, a4, Z3, hS, (by omega), a6, rfl, rfl, rfl, rfl⟩
 rintro _ _ ⟨_, rfl, Z3, hS⟩
 dsimp only [Ex.elim] at b0
 refine Z2 (Z0 (Z5 (vI (-1)) rfl rfl (Z1 ?_)))
 refine X0 (vs := [vI (-1)]) Tryz.func286 ⟨rfl, trivial⟩ ?_
 obtain rfl := oi b0
 exact ⟨_, _, rfl, Z3, hS, rfl⟩
def G8 (K : Nat) (a0 : Int) : Option A8 := (if 0 ≤ a0 then (if a0 < 8 then some (S6 (fun _ => 0) a0 1) else none) else none)
theorem Zd8 {a0 : Int} {r : A8} (q0 : G8 K a0 = some r) (hS : St H w L) :
 Calls Tryz.prog 251 #[vI a0] w (T2 (fun v G => (R.agg (Zr3 .i64)).p G v r) H L) := by
 have Z3 := Sub.refl H
 refine X3 Tryz.func251 rfl Tryz.ntmps251 rfl ?_
 unfold G8 at q0
 refine Z2 (Z0 ?_)
 refine W6 (z := vA (Z7 .i64 (fun _ => 0))) (Z7 .i64 (fun _ => 0)).toArray Zr2.zero rfl hS rfl ?_
 intro _ _ hS
 refine Z1 (Z2 (Z0 ?_))
 refine R6 (vA (Z7 .i64 (fun _ => 0))) Xh3 rfl ?_
 refine W6 (z := vA (Z7 .i64 (fun _ => 0))) (Z7 .i64 (fun _ => 0)).toArray Zr2.zero rfl hS rfl ?_
 intro _ _ hS
 refine X5 (v := vA (Z7 .i64 (fun _ => 0))) (vs := (Z7 .i64 (fun _ => 0)).toArray) (cs := (Z7 .i64 (fun _ => 0)).toArray) K2 rfl rfl rfl hS rfl (S4 .i64 (fun _ => 0)) rfl ?_
 intro _ hS
 refine Z1 (Z2 (Z0 (Z4 (vI a0) rfl rfl ?_)))
 obtain ⟨_, q0⟩ := gd q0
 obtain ⟨_, q0⟩ := gd q0
 refine V2 Zm2 rfl rfl (by omega) (by omega) rfl ?_
 refine Zb1 (v := vI 1) (cs := (Z7 .i64 (fun _ => 0)).toArray) (cs' := (Z7 .i64 (S6 (fun _ => 0) a0 1)).toArray) ty3 rfl rfl hS rfl (Yb6 rfl) (by simp [Z7, L5]; omega) (Zj1 (by omega) (by omega)) ?_
 intro _ hS
 refine Z1 (Z2 (Z0 ?_))
 refine X7 K2 rfl (hS.get mL) rfl rfl ?_
 have hS := hS.perm V1
 refine X5 (v := vA (Z7 .i64 (S6 (fun _ => 0) a0 1))) (vs := (Z7 .i64 (S6 (fun _ => 0) a0 1)).toArray) (cs := (Z7 .i64 (fun _ => 0)).toArray) K2 rfl rfl rfl hS rfl (S4 .i64 (S6 (fun _ => 0) a0 1)) rfl ?_
 intro _ hS
 have hS := hS.perm V1.symm
 refine Z1 ?_
 refine X0 (vs := [vA (Z7 .i64 (S6 (fun _ => 0) a0 1))]) Tryz.func251 ⟨⟨_, rfl, V6 K2 (hS.get (mR mL)) rfl⟩, trivial⟩ ?_
 obtain rfl := oi q0
 exact ⟨_, _, rfl, Z3, (St.dropA (St.dropA hS)), ⟨_, rfl, rfl⟩⟩
def Zx6 (K : Nat) (a0 : Bool) (a1 : Int) : Option Int := (if a0 = true then some a1 else some 0)
theorem Yr6 {a0 : Bool} {a1 : Int} {r : Int} (q0 : Zx6 K a0 a1 = some r) (hS : St H w L) :
 Calls Tryz.prog 80 #[vB a0, vI a1] w (T2 (fun v G => (R.int .i64).p G v r) H L) := by
 have Z3 := Sub.refl H
 refine X3 Tryz.func80 rfl Tryz.ntmps80 rfl ?_
 unfold Zx6 at q0
 refine Z2 (Z0 (Z5 (vI 0) rfl rfl (Z1 (Z2 (Z2 (Z0 (Z4 (vB a0) rfl rfl (Z1 ?_))))))))
 obtain ⟨a3, q0⟩ | ⟨a3, q0⟩ := ic q0
 refine Y0 (Eq.trans rfl (congrArg vB a3)) (Z2 (Z0 (Z4 (vI a1) rfl rfl (Z5 (vI a1) rfl rfl (Z1 ?_)))))
 refine X0 (vs := [vI a1]) Tryz.func80 ⟨rfl, trivial⟩ ?_
 obtain rfl := oi q0
 exact ⟨_, _, rfl, Z3, hS, rfl⟩
 refine Z8 (Eq.trans rfl (congrArg vB (X8 a3))) (Y8 (Z2 (Z0 (Z5 (vI 0) rfl rfl (Z1 ?_)))))
 refine X0 (vs := [vI 0]) Tryz.func80 ⟨rfl, trivial⟩ ?_
 obtain rfl := oi q0
 exact ⟨_, _, rfl, Z3, hS, rfl⟩
def Zc0 (K : Nat) (a0 : Int) : Option Int := some (((IntKind.i64.wrap (((a0).tmod 10007) + 10007))).tmod 10007)
theorem Zf2 {a0 : Int} {r : Int} (q0 : Zc0 K a0 = some r) (hS : St H w L) :
 Calls Tryz.prog 209 #[vI a0] w (T2 (fun v G => (R.int .i64).p G v r) H L) := by
 have Z3 := Sub.refl H
 refine X3 Tryz.func209 rfl Tryz.ntmps209 rfl ?_
 unfold Zc0 at q0
 refine Z2 (Z0 (Z5 (vI 0) rfl rfl (Z1 (Z2 (Z0 (Z4 (vI a0) rfl rfl ?_))))))
 refine Zk7 ((a0).tmod 10007) rfl rfl (by decide) rfl rfl ?_
 refine W8 (IntKind.i64.wrap (((a0).tmod 10007) + 10007)) rfl rfl rfl rfl ?_
 refine Zk7 (((IntKind.i64.wrap (((a0).tmod 10007) + 10007))).tmod 10007) rfl rfl (by decide) rfl rfl (Z5 (vI (((IntKind.i64.wrap (((a0).tmod 10007) + 10007))).tmod 10007)) rfl rfl (Z1 ?_))
 refine X0 (vs := [vI (((IntKind.i64.wrap (((a0).tmod 10007) + 10007))).tmod 10007)]) Tryz.func209 ⟨rfl, trivial⟩ ?_
 obtain rfl := oi q0
 exact ⟨_, _, rfl, Z3, hS, rfl⟩
end Go.Proofs.YtabofnehiclkiaaGreat
