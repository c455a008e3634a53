/- Walks of functions: each computes its pure function, if that gives a value. -/
import Derived.Test.YtabofnehiclkiaaGreatXTy
namespace Go.Proofs.YtabofnehiclkiaaGreat
open Go
set_option linter.unusedSimpArgs false
set_option linter.unusedVariables false
set_option maxRecDepth 100000
set_option maxHeartbeats 8000000
variable {K : Nat} {H : FH} {w : World} {L : OL} {s0 s1 s2 s3 s4 s5 s6 : Value}
def F5 (K : Nat) (a0 : A8) (a1 : (List Int)) : Nat → Int → Int → Option (Ex (A8 × Int) (Int))
 | 0, _, _ => none
 | k + 1, b3, a4 => (if a4 < (a1.length : Int) then (if a4 < 8 then F5 K a0 a1 k (IntKind.i64.wrap (b3 + (IntKind.i64.wrap ((((rd a1 a4)).tmod 2) * (Y5 a0 a4))))) (a4 + 1) else none) else some (.go b3))
def B9 (K : Nat) (j3 : Int → Int → Option (Ex (A8 × Int) (Int))) (a0 : A8) (a1 : (List Int)) (a2 : A8) (a3 : Int) (a9 : Int) (c2 : Bool) : Option (Ex (A8 × Int) (Int)) := (if c2 = true then some (.ret ((fun _ => 0), 0)) else (if a3 < 8 then (if 0 < (Y5 a2 a3) then ((F5 K a0 a1 K a9 (a3 + 1)).bind (Ex.elim (fun r => some (.ret r)) (fun s => (fun (d6 : Int) => j3 (a3 + 1) d6) s))) else j3 (a3 + 1) a9) else none))
def J0 (K : Nat) (a2 : A8) : Nat → Int → A8 → Option (Ex (A8 × Int) (A8))
 | 0, _, _ => none
 | k + 1, a5, a6 => (if a5 < 8 then J0 K a2 k (a5 + 1) (S6 a6 a5 (IntKind.i64.wrap ((Y5 a6 a5) + (Y5 a2 a5)))) else some (.go a6))
def S9 (K : Nat) (a0 : A8) (a1 : (List Int)) (a2 : A8) : Nat → Int → Int → Option (Ex (A8 × Int) (Int))
 | 0, _, _ => none
 | k + 1, a3, a9 => (if a3 < (a1.length : Int) then (if (((rd a1 a3)).tmod 2) = 0 then S9 K a0 a1 a2 k (a3 + 1) a9 else (if a3 < 8 then (if 0 < (Y5 a0 a3) then B9 K (S9 K a0 a1 a2 k) a0 a1 a2 a3 a9 (decide (0 < (Y5 a2 a3))) else B9 K (S9 K a0 a1 a2 k) a0 a1 a2 a3 a9 false) else none)) else some (.go a9))
def Za6 (K : Nat) (a0 : A8) (a1 : (List Int)) (a2 : A8) : Option (A8 × Int) := ((S9 K a0 a1 a2 K 0 0).bind (Ex.elim (fun r => some r) (fun s => (fun (c1 : Int) => ((J0 K a2 K 0 a0).bind (Ex.elim (fun r => some r) (fun s => (fun (a7 : A8) => (if ((c1).tmod 2) = 1 then some (a7, (-1)) else some (a7, 1))) s)))) s)))
theorem Yq7 {a0 : A8} {a1 : (List Int)} {a2 : A8} {r : (A8 × Int)} (q0 : Za6 K a0 a1 a2 = some r) (b0 : Z9 (Y6 .i64) H s0 a1) (hS : St H w L) :
 Calls Tryz.prog 216 #[vA (Z7 .i64 a0), s0, vA (Z7 .i64 a2)] w (T2 (fun v G => (R.t2 (R.agg (Zr3 .i64)) (R.int .i64)).p G v r) H L) := by
 have Z3 := Sub.refl H
 refine X3 Tryz.func216 rfl Tryz.ntmps216 rfl ?_
 unfold Za6 at q0
 refine Z2 (Z0 ?_)
 refine S3 (v := vA (Z7 .i64 a0)) (Z7 .i64 a0).toArray rfl rfl hS rfl ?_
 intro b1 _ hS
 refine S3 (v := vA (Z7 .i64 a2)) (Z7 .i64 a2).toArray rfl rfl hS rfl ?_
 intro b4 _ hS
 refine W6 (z := vA (Z7 .i64 (fun _ => 0))) (Z7 .i64 (fun _ => 0)).toArray Zr2.zero rfl hS rfl ?_
 intro b7 _ hS
 refine Z5 (vI 0) rfl rfl (Z1 (Z2 (Z0 (Z5 (vI 0) rfl rfl (Z1 (Z2 (Z2 (Z0 (Z4 (s0) rfl rfl ?_)))))))))
 have l4 := b0.bound
 refine W7 Q0 rfl b0 rfl (Z4 (vI 0) rfl rfl (Z1 (Y7 ?_)))
 obtain ⟨g3, a8, f5⟩ := bind_some q0
 refine W1 (id := 0) (fun k f w => ∃ (a3 : Int) (a9 : Int) (H1 : FH), S9 K a0 a1 a2 k a3 a9 = some g3 ∧ Sub H H1 ∧ St H1 w ([(b7, cA (Z7 .i64 (fun _ => 0)) 222)] ++ ([(b4, cA (Z7 .i64 a2) 222)] ++ ([(b1, cA (Z7 .i64 a0) 222)] ++ L))) ∧ 0 ≤ a3 ∧ Z9 (Y6 .i64) H1 s0 a1 ∧ tv f 1 = s0 ∧ tv f 3 = vP b1 ∧ tv f 5 = vP b4 ∧ tv f 6 = vP b7 ∧ tv f 8 = vI a9 ∧ tv f 13 = s0 ∧ tv f 14 = vI (a1.length : Int) ∧ tv f 15 = vI a3) (fun f w => ∃ (c1 : Int) (H1 : FH), g3 = .go c1 ∧ Sub H H1 ∧ St H1 w ([(b7, cA (Z7 .i64 (fun _ => 0)) 222)] ++ ([(b4, cA (Z7 .i64 a2) 222)] ++ ([(b1, cA (Z7 .i64 a0) 222)] ++ L))) ∧ tv f 3 = vP b1 ∧ tv f 5 = vP b4 ∧ tv f 6 = vP b7 ∧ tv f 8 = vI c1) rfl ?_ ?_ K ?_ ?_
 rintro f w ⟨a3, a9, H1, a8, _⟩
 rw [S9] at a8; cases a8
 rintro k _ _ i5 k7 ⟨a3, a9, f6, a8, Z3, hS, _, b0, d7, c3, c4, c8, c9, c5, c6, b6⟩
 rw [S9] at a8
 refine Z2 (Z0 ?_)
 refine V5 (k := .i64) (a := a3) (b := (a1.length : Int)) (by exact b6) (by exact c6) rfl (Z1 (Z2 ?_))
 obtain ⟨g4, a8⟩ | ⟨g4, a8⟩ := ic a8
 refine Y0 (bT g4 rfl) (Y8 (Z2 (Y7 (Z2 (Z0 (Z4 (vI a3) (by exact b6) rfl ?_))))))
 obtain ⟨_, _, _, _, _, j5, j6, rfl, j7⟩ := b0.elem (i := a3) (by omega) (by omega)
 refine X9 Q0 rfl (by exact c5) j5 (by exact b6) (by omega) (by omega) rfl ?_
 refine Y3 (vI (rd a1 a3)) ty2 rfl (hS.froz _ _ j6) (j7 0 (show 0 < 1 by decide)) rfl (Z5 (vI a3) rfl rfl (Z5 (vI (rd a1 a3)) rfl rfl (Z1 (Z2 (Z2 (Z0 (Z4 (vI (rd a1 a3)) rfl rfl ?_)))))))
 refine Zk7 (((rd a1 a3)).tmod 2) rfl rfl (by decide) rfl rfl ?_
 refine Zc2 (k := .i64) (a := (((rd a1 a3)).tmod 2)) (b := 0) rfl rfl rfl (Z1 ?_)
 obtain ⟨g5, a8⟩ | ⟨g5, a8⟩ := ic a8
 refine Y0 (bT g5 rfl) ?_
 refine W0 rfl (Z0 ?_)
 refine W8 (a3 + 1) (by exact b6) rfl (IntWalk.i64_in _ (by omega)) rfl (Z4 (vI (a3 + 1)) rfl rfl (Z1 ?_))
 exact i5 _ _ ⟨(a3 + 1), a9, f6, a8, Z3, hS, (by omega), b0, d7, c3, c4, c8, c9, c5, c6, rfl⟩
 refine Z8 (bF g5 rfl) (Y8 (Z2 (Z2 ?_)))
 refine Zb0 (fun f w => ∃ (c2 : Bool) (H1 : FH), B9 K (S9 K a0 a1 a2 k) a0 a1 a2 a3 a9 c2 = some g3 ∧ Sub H H1 ∧ St H1 w ([(b7, cA (Z7 .i64 (fun _ => 0)) 222)] ++ ([(b4, cA (Z7 .i64 a2) 222)] ++ ([(b1, cA (Z7 .i64 a0) 222)] ++ L))) ∧ Z9 (Y6 .i64) H1 s0 a1 ∧ tv f 1 = s0 ∧ tv f 3 = vP b1 ∧ tv f 5 = vP b4 ∧ tv f 6 = vP b7 ∧ tv f 8 = vI a9 ∧ tv f 9 = vI a3 ∧ tv f 13 = s0 ∧ tv f 14 = vI (a1.length : Int) ∧ tv f 15 = vI a3 ∧ tv f 32 = vB c2) ?_ ?_
 rintro _ _ ⟨c2, h2, b2, Z3, hS, b0, f9, g0, e0, d4, g1, g2, e4, e5, e6, e7⟩
 unfold B9 at b2
 obtain ⟨g6, b2⟩ | ⟨g6, b2⟩ := ic b2
 refine Y0 (Eq.trans (by exact e7) (congrArg vB g6)) (Z2 (Z0 ?_))
 refine R6 (vA (Z7 .i64 (fun _ => 0))) Xh3 rfl ?_
 refine X5 (v := vA (Z7 .i64 (fun _ => 0))) (vs := (Z7 .i64 (fun _ => 0)).toArray) (cs := (Z7 .i64 (fun _ => 0)).toArray) K2 (by exact d4) rfl rfl hS rfl (S4 .i64 (fun _ => 0)) rfl ?_
 intro _ hS
 refine Z5 (vI 0) rfl rfl (Z1 ?_)
 refine X0 (vs := [vA (Z7 .i64 (fun _ => 0)), vI 0]) Tryz.func216 ⟨⟨_, (by exact d4), V6 K2 (hS.get mL) rfl⟩, rfl, trivial⟩ ?_
 obtain rfl := oi b2
 dsimp only [Ex.elim] at f5
 obtain rfl := oi f5
 exact ⟨_, _, rfl, Z3, (St.dropA (St.dropA (St.dropA hS))), ⟨_, _, rfl, ⟨_, rfl, rfl⟩, rfl⟩⟩
 refine Z8 (Eq.trans (by exact e7) (congrArg vB (X8 g6))) (Y8 (Z2 (Z0 (Z4 (vI a3) (by exact g2) rfl ?_))))
 obtain ⟨_, b2⟩ := gd b2
 refine V2 Zm2 (by exact e0) rfl (by omega) (by omega) rfl ?_
 refine Y3 (vI (Y5 a2 a3)) ty3 rfl (hS.get (o := cA (Z7 .i64 a2) 222) (mR mL)) (J2 ([]) ([]) (by omega) (by omega)) rfl ?_
 refine Zi5 (k := .i64) (a := (Y5 a2 a3)) (b := 0) rfl rfl rfl (Z1 ?_)
 obtain ⟨g7, b2⟩ | ⟨g7, b2⟩ := ic b2
 refine Y0 (bT g7 rfl) (Z2 (Z0 (Z4 (vI a3) (by exact g2) rfl ?_)))
 refine W8 (a3 + 1) rfl rfl (IntWalk.i64_in _ (by omega)) rfl (Z5 (vI (a3 + 1)) rfl rfl (Z1 (Y7 ?_)))
 obtain ⟨i6, b8, i7⟩ := bind_some b2
 refine W1 (id := 2) (fun k f w => ∃ (b3 : Int) (a4 : Int) (H1 : FH), F5 K a0 a1 k b3 a4 = some i6 ∧ Sub H H1 ∧ St H1 w ([(b7, cA (Z7 .i64 (fun _ => 0)) 222)] ++ ([(b4, cA (Z7 .i64 a2) 222)] ++ ([(b1, cA (Z7 .i64 a0) 222)] ++ L))) ∧ 0 ≤ a4 ∧ Z9 (Y6 .i64) H1 s0 a1 ∧ tv f 1 = s0 ∧ tv f 3 = vP b1 ∧ tv f 5 = vP b4 ∧ tv f 6 = vP b7 ∧ tv f 8 = vI b3 ∧ tv f 11 = vI a4 ∧ tv f 13 = s0 ∧ tv f 14 = vI (a1.length : Int) ∧ tv f 15 = vI a3) (fun f w => ∃ (d6 : Int) (H1 : FH), i6 = .go d6 ∧ Sub H H1 ∧ St H1 w ([(b7, cA (Z7 .i64 (fun _ => 0)) 222)] ++ ([(b4, cA (Z7 .i64 a2) 222)] ++ ([(b1, cA (Z7 .i64 a0) 222)] ++ L))) ∧ Z9 (Y6 .i64) H1 s0 a1 ∧ tv f 1 = s0 ∧ tv f 3 = vP b1 ∧ tv f 5 = vP b4 ∧ tv f 6 = vP b7 ∧ tv f 8 = vI d6 ∧ tv f 13 = s0 ∧ tv f 14 = vI (a1.length : Int) ∧ tv f 15 = vI a3) rfl ?_ ?_ K ?_ ?_
 rintro f w ⟨b3, a4, H1, b8, _⟩
 rw [F5] at b8; cases b8
 rintro k _ _ k8 k9 ⟨b3, a4, j8, b8, Z3, hS, _, b0, d0, d8, e8, e9, f0, c7, e1, e2, e3⟩
 rw [F5] at b8
 refine Z2 (Z2 (Z0 (Z4 (vI a4) (by exact c7) rfl (Z4 (s0) (by exact d0) rfl ?_))))
 have l5 := b0.bound
 refine W7 Q0 rfl b0 rfl ?_
 refine V5 (k := .i64) (a := a4) (b := (a1.length : Int)) rfl rfl rfl (Z1 ?_)
 obtain ⟨g8, b8⟩ | ⟨g8, b8⟩ := ic b8
 refine Y0 (bT g8 rfl) (Y8 (Z2 (Y7 ?_)))
 obtain ⟨l0, l1, _, _, _, j9, k0, rfl, k1⟩ := b0.elem (i := a4) (by omega) (by omega)
 obtain ⟨_, b8⟩ := gd b8
 refine U1 11 (P0 [mE 46 (vI b3), mE 47 (s0), mE 48 (vI a4), mE 49 (vQ l0 l1), mE 50 (vI (rd a1 a4)), mE 51 (vI (((rd a1 a4)).tmod 2)), mE 52 (vI a4), mE 53 (vQ b1 (0 + (a4).toNat * 1)), mE 54 (vI (Y5 a0 a4)), mE 55 (vI (IntKind.i64.wrap ((((rd a1 a4)).tmod 2) * (Y5 a0 a4)))), mE 56 (vI (IntKind.i64.wrap (b3 + (IntKind.i64.wrap ((((rd a1 a4)).tmod 2) * (Y5 a0 a4))))))]) [] mixed rfl rfl rfl hS (Z6 rfl ?_ (Z6 rfl ?_ (Z6 rfl ?_ (Z6 rfl ?_ (Z6 rfl ?_ (Z6 rfl ?_ (Z6 rfl ?_ (Z6 rfl ?_ (Z6 rfl ?_ (Z6 rfl ?_ (Z6 rfl ?_ U7))))))))))) ?_
 exact W5 fun S B => Z4 (vI b3) (evT (B 8 rfl) f0) rfl (qz S)
 exact W5 fun S B => Z4 (s0) (evT (B 1 rfl) d0) rfl (qz S)
 exact W5 fun S B => Z4 (vI a4) (evT (B 11 rfl) c7) rfl (qz S)
 exact X2 fun S V => X9 Q0 rfl (eM (V 1 47 rfl rfl)) j9 (eM (V 2 48 rfl rfl)) (by omega) (by omega) rfl (qz S)
 exact E6 fun s S V => Y3 (vI (rd a1 a4)) ty2 (eM (V 3 49 rfl rfl)) (S.froz _ _ (s.1 _ _ k0)) (k1 0 (show 0 < 1 by decide)) rfl (qz S)
 exact X2 fun S V => Zk7 (((rd a1 a4)).tmod 2) (eM (V 4 50 rfl rfl)) rfl (by decide) rfl rfl (qz S)
 exact W5 fun S B => Z4 (vI a4) (evT (B 11 rfl) c7) rfl (qz S)
 exact G4 fun S B V => V2 Zm2 (evT (B 3 rfl) d8) (eM (V 6 52 rfl rfl)) (by omega) (by omega) rfl (qz S)
 exact X2 fun S V => Y3 (vI (Y5 a0 a4)) ty3 (eM (V 7 53 rfl rfl)) (S.get (o := cA (Z7 .i64 a0) 222) (mR (mR (mR mL)))) (J2 ([]) ([]) (by omega) (by omega)) rfl (qz S)
 exact X2 fun S V => Zt1 (IntKind.i64.wrap ((((rd a1 a4)).tmod 2) * (Y5 a0 a4))) (eM (V 5 51 rfl rfl)) (eM (V 8 54 rfl rfl)) rfl rfl (qz S)
 exact X2 fun S V => W8 (IntKind.i64.wrap (b3 + (IntKind.i64.wrap ((((rd a1 a4)).tmod 2) * (Y5 a0 a4))))) (eM (V 0 46 rfl rfl)) (eM (V 9 55 rfl rfl)) rfl rfl (qz S)
 intro _ k2 i8 h3 hS c0 j1 hcq
 have hS : St i8 k2 ([(b7, cA (Z7 .i64 (fun _ => 0)) 222)] ++ ([(b4, cA (Z7 .i64 a2) 222)] ++ ([(b1, cA (Z7 .i64 a0) 222)] ++ L))) := hS
 have Z3 := Z3.trans h3
 have b0 := b0.mono h3
 refine Z5 (vI (IntKind.i64.wrap (b3 + (IntKind.i64.wrap ((((rd a1 a4)).tmod 2) * (Y5 a0 a4)))))) (by exact (eM (j1 10 56 (by decide) rfl))) rfl (Z1 (X4 (Z0 (Z4 (vI a4) (by exact (evT (c0 11 rfl) c7)) rfl ?_))))
 refine W8 (a4 + 1) rfl rfl (IntWalk.i64_in _ (by omega)) rfl (Z5 (vI (a4 + 1)) rfl rfl (Z1 ?_))
 exact k8 _ _ ⟨(IntKind.i64.wrap (b3 + (IntKind.i64.wrap ((((rd a1 a4)).tmod 2) * (Y5 a0 a4))))), (a4 + 1), i8, b8, Z3, hS, (by omega), b0, (evT (c0 1 rfl) d0), (evT (c0 3 rfl) d8), (evT (c0 5 rfl) e8), (evT (c0 6 rfl) e9), rfl, rfl, (evT (c0 13 rfl) e1), (evT (c0 14 rfl) e2), (evT (c0 15 rfl) e3)⟩
 refine Z8 (bF g8 rfl) ?_
 refine W0 rfl ?_
 obtain rfl := oi b8
 exact k9 _ _ ⟨b3, j8, rfl, Z3, hS, b0, d0, d8, e8, e9, f0, e1, e2, e3⟩
 exact ⟨a9, (a3 + 1), h2, b8, Z3, hS, (by omega), b0, f9, g0, e0, d4, g1, rfl, e4, e5, e6⟩
 rintro _ _ ⟨d6, k3, rfl, Z3, hS, b0, h5, h6, h7, h8, h9, g9, h0, h1⟩
 dsimp only [Ex.elim] at i7
 refine X4 (Z0 ?_)
 refine W8 (a3 + 1) (by exact h1) rfl (IntWalk.i64_in _ (by omega)) rfl (Z4 (vI (a3 + 1)) rfl rfl (Z1 ?_))
 exact i5 _ _ ⟨(a3 + 1), d6, k3, i7, Z3, hS, (by omega), b0, h5, h6, h7, h8, h9, g9, h0, rfl⟩
 refine Z8 (bF g7 rfl) (Y8 (X4 (Z0 ?_)))
 refine W8 (a3 + 1) (by exact e6) rfl (IntWalk.i64_in _ (by omega)) rfl (Z4 (vI (a3 + 1)) rfl rfl (Z1 ?_))
 exact i5 _ _ ⟨(a3 + 1), a9, h2, b2, Z3, hS, (by omega), b0, f9, g0, e0, d4, g1, e4, e5, rfl⟩
 intro j4
 refine Z0 (Z4 (vI a3) rfl rfl ?_)
 obtain ⟨_, a8⟩ := gd a8
 refine V2 Zm2 (by exact c3) rfl (by omega) (by omega) rfl ?_
 refine Y3 (vI (Y5 a0 a3)) ty3 rfl (hS.get (o := cA (Z7 .i64 a0) 222) (mR (mR mL))) (J2 ([]) ([]) (by omega) (by omega)) rfl ?_
 refine Zi5 (k := .i64) (a := (Y5 a0 a3)) (b := 0) rfl rfl rfl (Z4 (vB (decide (0 < (Y5 a0 a3)))) rfl rfl ?_)
 obtain ⟨b5, a8⟩ | ⟨b5, a8⟩ := ic a8
 refine Y4 rfl rfl (bT b5 rfl) (Z4 (vI a3) rfl rfl ?_)
 refine Y4 rfl rfl (bT b5 rfl) ?_
 refine V2 Zm2 (by exact c4) rfl (by omega) (by omega) rfl ?_
 refine Y4 rfl rfl (bT b5 rfl) ?_
 refine Y3 (vI (Y5 a2 a3)) ty3 rfl (hS.get (o := cA (Z7 .i64 a2) 222) (mR mL)) (J2 ([]) ([]) (by omega) (by omega)) rfl ?_
 refine Y4 rfl rfl (bT b5 rfl) ?_
 refine Zi5 (k := .i64) (a := (Y5 a2 a3)) (b := 0) rfl rfl rfl ?_
 refine V0 (t := true) (vB (decide (0 < (Y5 a2 a3)))) (bT b5 rfl) ((if_pos rfl).trans rfl) rfl (Z1 ?_)
 exact j4 _ _ ⟨(decide (0 < (Y5 a2 a3))), f6, a8, Z3, hS, b0, d7, c3, c4, c8, c9, rfl, c5, c6, b6, rfl⟩
 refine Y1 rfl rfl (bF b5 rfl) rfl rfl rfl (Y1 rfl rfl (bF b5 rfl) rfl rfl rfl (Y1 rfl rfl (bF b5 rfl) rfl rfl rfl (Y1 rfl rfl (bF b5 rfl) rfl rfl rfl ?_)))
 refine V0 (t := false) (vB false) (bF b5 rfl) ((if_neg Bool.false_ne_true).trans rfl) rfl (Z1 ?_)
 exact j4 _ _ ⟨false, f6, a8, Z3, hS, b0, d7, c3, c4, c8, c9, rfl, c5, c6, b6, rfl⟩
 refine Z8 (bF g4 rfl) ?_
 refine W0 rfl ?_
 obtain rfl := oi a8
 exact k7 _ _ ⟨a9, f6, rfl, Z3, hS, c3, c4, c8, c9⟩
 exact ⟨0, 0, H, a8, Z3, hS, (by omega), b0, rfl, rfl, rfl, rfl, rfl, rfl, rfl, rfl⟩
 rintro _ _ ⟨c1, k4, rfl, Z3, hS, i0, i1, i2, i3⟩
 dsimp only [Ex.elim] at f5
 refine Z2 (Z2 (Z0 (Z4 (vI 0) rfl rfl (Z1 (Y7 ?_)))))
 obtain ⟨i9, b9, d9⟩ := bind_some f5
 refine W1 (id := 4) (fun k f w => ∃ (a5 : Int) (a6 : A8) (H1 : FH), J0 K a2 k a5 a6 = some i9 ∧ Sub H H1 ∧ St H1 w ([(b7, cA (Z7 .i64 (fun _ => 0)) 222)] ++ ([(b4, cA (Z7 .i64 a2) 222)] ++ ([(b1, cA (Z7 .i64 a6) 222)] ++ L))) ∧ 0 ≤ a5 ∧ tv f 3 = vP b1 ∧ tv f 5 = vP b4 ∧ tv f 6 = vP b7 ∧ tv f 8 = vI c1 ∧ tv f 58 = vI a5) (fun f w => ∃ (a7 : A8) (H1 : FH), i9 = .go a7 ∧ Sub H H1 ∧ St H1 w ([(b7, cA (Z7 .i64 (fun _ => 0)) 222)] ++ ([(b4, cA (Z7 .i64 a2) 222)] ++ ([(b1, cA (Z7 .i64 a7) 222)] ++ L))) ∧ tv f 3 = vP b1 ∧ tv f 6 = vP b7 ∧ tv f 8 = vI c1) rfl ?_ ?_ K ?_ ?_
 rintro f w ⟨a5, a6, H1, b9, _⟩
 rw [J0] at b9; cases b9
 rintro k _ _ l2 l3 ⟨a5, a6, k5, b9, Z3, hS, _, d1, f1, f2, f3, d3⟩
 rw [J0] at b9
 refine Z2 (Z0 ?_)
 refine V5 (k := .i64) (a := a5) (b := 8) (by exact d3) rfl rfl (Z1 (Z2 ?_))
 obtain ⟨f7, b9⟩ | ⟨f7, b9⟩ := ic b9
 refine Y0 (bT f7 rfl) (Y8 (Z2 (Y7 (Z2 (Z0 (Z4 (vI a5) (by exact d3) rfl (Z5 (vI a5) rfl rfl (Z1 ?_))))))))
 refine U1 8 (P0 [mE 61 (vI a5), mE 62 (vQ b1 (0 + (a5).toNat * 1)), mE 63 (vI (Y5 a6 a5)), mE 64 (vI a5), mE 65 (vQ b4 (0 + (a5).toNat * 1)), mE 66 (vI (Y5 a2 a5)), mE 67 (vI (IntKind.i64.wrap ((Y5 a6 a5) + (Y5 a2 a5)))), mE 68 (vQ b1 (0 + (a5).toNat * 1))]) [] mixed rfl rfl rfl hS (Z6 rfl ?_ (Z6 rfl ?_ (Z6 rfl ?_ (Z6 rfl ?_ (Z6 rfl ?_ (Z6 rfl ?_ (Z6 rfl ?_ (Z6 rfl ?_ U7)))))))) ?_
 exact W5 fun S B => Z4 (vI a5) (evT (B 12 rfl) rfl) rfl (qz S)
 exact G4 fun S B V => V2 Zm2 (evT (B 3 rfl) d1) (eM (V 0 61 rfl rfl)) (by omega) (by omega) rfl (qz S)
 exact X2 fun S V => Y3 (vI (Y5 a6 a5)) ty3 (eM (V 1 62 rfl rfl)) (S.get (o := cA (Z7 .i64 a6) 222) (mR (mR (mR mL)))) (J2 ([]) ([]) (by omega) (by omega)) rfl (qz S)
 exact W5 fun S B => Z4 (vI a5) (evT (B 12 rfl) rfl) rfl (qz S)
 exact G4 fun S B V => V2 Zm2 (evT (B 5 rfl) f1) (eM (V 3 64 rfl rfl)) (by omega) (by omega) rfl (qz S)
 exact X2 fun S V => Y3 (vI (Y5 a2 a5)) ty3 (eM (V 4 65 rfl rfl)) (S.get (o := cA (Z7 .i64 a2) 222) (mR (mR mL))) (J2 ([]) ([]) (by omega) (by omega)) rfl (qz S)
 exact X2 fun S V => W8 (IntKind.i64.wrap ((Y5 a6 a5) + (Y5 a2 a5))) (eM (V 2 63 rfl rfl)) (eM (V 5 66 rfl rfl)) rfl rfl (qz S)
 exact G4 fun S B V => V2 Zm2 (evT (B 3 rfl) d1) (eM (V 0 61 rfl rfl)) (by omega) (by omega) rfl (qz S)
 intro _ k6 j0 j2 hS d5 h4 hcq
 have hS : St j0 k6 ([(b7, cA (Z7 .i64 (fun _ => 0)) 222)] ++ ([(b4, cA (Z7 .i64 a2) 222)] ++ ([(b1, cA (Z7 .i64 a6) 222)] ++ L))) := hS
 have Z3 := Z3.trans j2
 have hS := hS.perm Q8
 refine Zb1 (v := vI (IntKind.i64.wrap ((Y5 a6 a5) + (Y5 a2 a5)))) (cs := (Z7 .i64 a6).toArray) (cs' := (Z7 .i64 (S6 a6 a5 (IntKind.i64.wrap ((Y5 a6 a5) + (Y5 a2 a5))))).toArray) ty3 (by exact (eM (h4 7 68 (by decide) rfl))) (by exact (eM (h4 6 67 (by decide) rfl))) hS rfl (Yb6 rfl) (by simp [Z7, L5]; omega) (Zj1 (by omega) (by omega)) ?_
 intro _ hS
 have hS := hS.perm Q8.symm
 refine Z1 (X4 (Z0 ?_))
 refine W8 (a5 + 1) (by exact (evT (d5 58 rfl) d3)) rfl (IntWalk.i64_in _ (by omega)) rfl (Z4 (vI (a5 + 1)) rfl rfl (Z1 ?_))
 exact l2 _ _ ⟨(a5 + 1), (S6 a6 a5 (IntKind.i64.wrap ((Y5 a6 a5) + (Y5 a2 a5)))), j0, b9, Z3, hS, (by omega), (evT (d5 3 rfl) d1), (evT (d5 5 rfl) f1), (evT (d5 6 rfl) f2), (evT (d5 8 rfl) f3), rfl⟩
 refine Z8 (bF f7 rfl) ?_
 refine W0 rfl ?_
 obtain rfl := oi b9
 exact l3 _ _ ⟨a6, k5, rfl, Z3, hS, d1, f2, f3⟩
 exact ⟨0, a0, k4, b9, Z3, hS, (by omega), i0, i1, i2, i3, rfl⟩
 rintro _ _ ⟨a7, _, rfl, Z3, hS, f4, d2, i4⟩
 dsimp only [Ex.elim] at d9
 refine Z2 (Z2 (Z0 (Z4 (vI c1) (by exact i4) rfl ?_)))
 refine Zk7 ((c1).tmod 2) rfl rfl (by decide) rfl rfl ?_
 refine Zc2 (k := .i64) (a := ((c1).tmod 2)) (b := 1) rfl rfl rfl (Z1 ?_)
 obtain ⟨f8, d9⟩ | ⟨f8, d9⟩ := ic d9
 refine Y0 (bT f8 rfl) (Z2 (Z0 ?_))
 refine X7 K2 (by exact f4) (hS.get (mR (mR mL))) rfl rfl ?_
 refine X5 (v := vA (Z7 .i64 a7)) (vs := (Z7 .i64 a7).toArray) (cs := (Z7 .i64 (fun _ => 0)).toArray) K2 (by exact d2) rfl rfl hS rfl (S4 .i64 a7) rfl ?_
 intro _ hS
 refine Z5 (vI (-1)) rfl rfl (Z1 ?_)
 refine X0 (vs := [vA (Z7 .i64 a7), vI (-1)]) Tryz.func216 ⟨⟨_, (by exact d2), V6 K2 (hS.get mL) rfl⟩, rfl, trivial⟩ ?_
 obtain rfl := oi d9
 exact ⟨_, _, rfl, Z3, (St.dropA (St.dropA (St.dropA hS))), ⟨_, _, rfl, ⟨_, rfl, rfl⟩, rfl⟩⟩
 refine Z8 (bF f8 rfl) (Y8 (Z2 (Z0 ?_)))
 refine X7 K2 (by exact f4) (hS.get (mR (mR mL))) rfl rfl ?_
 refine X5 (v := vA (Z7 .i64 a7)) (vs := (Z7 .i64 a7).toArray) (cs := (Z7 .i64 (fun _ => 0)).toArray) K2 (by exact d2) rfl rfl hS rfl (S4 .i64 a7) rfl ?_
 intro _ hS
 refine Z5 (vI 1) rfl rfl (Z1 ?_)
 refine X0 (vs := [vA (Z7 .i64 a7), vI 1]) Tryz.func216 ⟨⟨_, (by exact d2), V6 K2 (hS.get mL) rfl⟩, rfl, trivial⟩ ?_
 obtain rfl := oi d9
 exact ⟨_, _, rfl, Z3, (St.dropA (St.dropA (St.dropA hS))), ⟨_, _, rfl, ⟨_, rfl, rfl⟩, rfl⟩⟩
def B0 (K : Nat) (a0 : MpT) (a3 : Int) : Nat → Int → Int → Option (Ex Int (Int))
 | 0, _, _ => none
 | k + 1, a5, a4 => (if a4 < 8 then (if (Y5 ((rd a0 a3).1) a4) = (IntKind.u8.wrap a5) then B0 K a0 a3 k (IntKind.i64.wrap (a5 + 1)) (a4 + 1) else some (.ret (-1))) else some (.go a5))
def F1 (K : Nat) (a0 : MpT) : Nat → Int → Int → Option (Ex Int (Int))
 | 0, _, _ => none
 | k + 1, a9, a3 => (if a3 < (a0.length : Int) then ((B0 K a0 a3 K a9 0).bind (Ex.elim (fun r => some (.ret r)) (fun s => (fun (a7 : Int) => (if (rd a0 a3).2 = a7 then F1 K a0 k (IntKind.i64.wrap (a7 + 1)) (a3 + 1) else some (.ret (-1)))) s))) else some (.go a9))
def Zq0 (K : Nat) (a0 : MpT) (a1 : Int) : Option Int := ((F1 K a0 K a1 0).bind (Ex.elim (fun r => some r) (fun s => (fun (b1 : Int) => some b1) s)))
theorem Yv3 {a0 : MpT} {a1 : Int} {r : Int} (q0 : Zq0 K a0 a1 = some r) (b0 : Z9 yT H s0 a0) (hS : St H w L) :
 Calls Tryz.prog 102 #[s0, vI a1] w (T2 (fun v G => (R.int .i64).p G v r) H L) := by
 have Z3 := Sub.refl H
 refine X3 Tryz.func102 rfl Tryz.ntmps102 rfl ?_
 unfold Zq0 at q0
 refine Z2 (Z0 (Z5 (vI 0) rfl rfl (Z1 (Z2 (Z2 (Z0 (Z5 (vI 0) rfl rfl (Z1 (Y7 ?_)))))))))
 obtain ⟨c5, a8, b3⟩ := bind_some q0
 refine W1 (id := 0) (fun k f w => ∃ (a9 : Int) (a3 : Int) (H1 : FH), F1 K a0 k a9 a3 = some c5 ∧ Sub H H1 ∧ St H1 w (L) ∧ 0 ≤ a3 ∧ Z9 yT H1 s0 a0 ∧ tv f 0 = s0 ∧ tv f 1 = vI a9 ∧ tv f 5 = vI a3) (fun f w => ∃ (b1 : Int) (H1 : FH), c5 = .go b1 ∧ Sub H H1 ∧ St H1 w (L) ∧ tv f 1 = vI b1) rfl ?_ ?_ K ?_ ?_
 rintro f w ⟨a9, a3, H1, a8, _⟩
 rw [F1] at a8; cases a8
 rintro k _ _ d4 d5 ⟨a9, a3, c6, a8, Z3, hS, _, b0, b8, b9, c0⟩
 rw [F1] at a8
 refine Z2 (Z2 (Z0 (Z4 (vI a3) (by exact c0) rfl (Z4 (s0) (by exact b8) rfl ?_))))
 have e4 := b0.bound
 refine W7 R7 rfl b0 rfl ?_
 refine V5 (k := .i64) (a := a3) (b := (a0.length : Int)) rfl rfl rfl (Z1 ?_)
 obtain ⟨c7, a8⟩ | ⟨c7, a8⟩ := ic a8
 refine Y0 (bT c7 rfl) (Y8 (Z2 (Y7 (Z2 (Z2 (Z0 (Z5 (vI 0) rfl rfl (Z1 (Y7 ?_)))))))))
 obtain ⟨c8, a6, b2⟩ := bind_some a8
 refine W1 (id := 2) (fun k f w => ∃ (a5 : Int) (a4 : Int) (H1 : FH), B0 K a0 a3 k a5 a4 = some c8 ∧ Sub H H1 ∧ St H1 w (L) ∧ 0 ≤ a4 ∧ Z9 yT H1 s0 a0 ∧ tv f 0 = s0 ∧ tv f 1 = vI a5 ∧ tv f 5 = vI a3 ∧ tv f 6 = vI a4) (fun f w => ∃ (a7 : Int) (H1 : FH), c8 = .go a7 ∧ Sub H H1 ∧ St H1 w (L) ∧ Z9 yT H1 s0 a0 ∧ tv f 0 = s0 ∧ tv f 1 = vI a7 ∧ tv f 5 = vI a3) rfl ?_ ?_ K ?_ ?_
 rintro f w ⟨a5, a4, H1, a6, _⟩
 rw [B0] at a6; cases a6
 rintro k _ _ d6 d7 ⟨a5, a4, c9, a6, Z3, hS, _, b0, b4, b5, b6, b7⟩
 rw [B0] at a6
 refine Z2 (Z2 (Z0 (Z4 (vI a4) (by exact b7) rfl ?_)))
 refine V5 (k := .i64) (a := a4) (b := 8) rfl rfl rfl (Z1 ?_)
 obtain ⟨d0, a6⟩ | ⟨d0, a6⟩ := ic a6
 refine Y0 (bT d0 rfl) (Y8 (Z2 (Y7 (Z2 (Z2 (Z0 (Z4 (s0) (by exact b4) rfl (Z4 (vI a3) (by exact b6) rfl (Z4 (vI a4) (by exact b7) rfl ?_)))))))))
 obtain ⟨_, _, _, _, _, d8, d9, ⟨_, _, rfl, rfl, rfl⟩, e0⟩ := b0.elem (i := a3) (by omega) (by omega)
 refine X9 R7 rfl rfl d8 rfl (by omega) (by omega) rfl (Y2 M1 rfl rfl ?_)
 refine V2 Zd9 rfl rfl (by omega) (by omega) rfl ?_
 refine Y3 (Value.int .u8 (Y5 ((rd a0 a3).1) a4)) ty5 rfl (hS.froz _ _ d9) (Xh0 ([]) (([vI ((rd a0 a3).2)])) e0 (nl rfl) (by omega) (by omega)) rfl (Z4 (vI a5) (by exact b5) rfl ?_)
 refine Ym6 (s := .i64) ((IntKind.u8.wrap a5)) Wd8 rfl rfl rfl ?_
 refine L7 (k := .u8) (a := (Y5 ((rd a0 a3).1) a4)) (b := (IntKind.u8.wrap a5)) rfl rfl rfl (Z1 ?_)
 obtain ⟨d1, a6⟩ | ⟨d1, a6⟩ := ic a6
 refine Z8 (bN d1 rfl) (Y8 (Z0 (Z4 (vI a5) (by exact b5) rfl ?_)))
 refine W8 (IntKind.i64.wrap (a5 + 1)) rfl rfl rfl rfl (Z5 (vI (IntKind.i64.wrap (a5 + 1))) rfl rfl (Z1 (X4 (Z0 (Z4 (vI a4) (by exact b7) rfl ?_)))))
 refine W8 (a4 + 1) rfl rfl (IntWalk.i64_in _ (by omega)) rfl (Z5 (vI (a4 + 1)) rfl rfl (Z1 ?_))
 exact d6 _ _ ⟨(IntKind.i64.wrap (a5 + 1)), (a4 + 1), c9, a6, Z3, hS, (by omega), b0, b4, rfl, b6, rfl⟩
 refine Y0 (bO d1 rfl) (Z2 (Z0 (Z5 (vI (-1)) rfl rfl (Z1 ?_))))
 refine X0 (vs := [vI (-1)]) Tryz.func102 ⟨rfl, trivial⟩ ?_
 obtain rfl := oi a6
 dsimp only [Ex.elim] at b2
 obtain rfl := oi b2
 dsimp only [Ex.elim] at b3
 obtain rfl := oi b3
 exact ⟨_, _, rfl, Z3, hS, rfl⟩
 refine Z8 (bF d0 rfl) ?_
 refine W0 rfl ?_
 obtain rfl := oi a6
 exact d7 _ _ ⟨a5, c9, rfl, Z3, hS, b0, b4, b5, b6⟩
 exact ⟨a9, 0, c6, a6, Z3, hS, (by omega), b0, b8, b9, c0, rfl⟩
 rintro _ _ ⟨a7, d3, rfl, Z3, hS, b0, c1, c2, c3⟩
 dsimp only [Ex.elim] at b2
 refine Z2 (Z2 (Z0 (Z4 (s0) (by exact c1) rfl (Z4 (vI a3) (by exact c3) rfl ?_))))
 obtain ⟨_, _, _, _, _, e1, e2, ⟨_, _, rfl, rfl, rfl⟩, e3⟩ := b0.elem (i := a3) (by omega) (by omega)
 refine X9 R7 rfl rfl e1 rfl (by omega) (by omega) rfl (Y2 Ze2 rfl rfl ?_)
 refine Y3 (vI ((rd a0 a3).2)) ty2 rfl (hS.froz _ _ e2) (e3 8 (show 8 < 9 by decide)) rfl (Z4 (vI a7) (by exact c2) rfl ?_)
 refine L7 (k := .i64) (a := (rd a0 a3).2) (b := a7) rfl rfl rfl (Z1 ?_)
 obtain ⟨d2, b2⟩ | ⟨d2, b2⟩ := ic b2
 refine Z8 (bN d2 rfl) (Y8 (Z0 (Z4 (vI a7) (by exact c2) rfl ?_)))
 refine W8 (IntKind.i64.wrap (a7 + 1)) rfl rfl rfl rfl (Z5 (vI (IntKind.i64.wrap (a7 + 1))) rfl rfl (Z1 (X4 (Z0 (Z4 (vI a3) (by exact c3) rfl ?_)))))
 refine W8 (a3 + 1) rfl rfl (IntWalk.i64_in _ (by omega)) rfl (Z5 (vI (a3 + 1)) rfl rfl (Z1 ?_))
 exact d4 _ _ ⟨(IntKind.i64.wrap (a7 + 1)), (a3 + 1), d3, b2, Z3, hS, (by omega), b0, c1, rfl, rfl⟩
 refine Y0 (bO d2 rfl) (Z2 (Z0 (Z5 (vI (-1)) rfl rfl (Z1 ?_))))
 refine X0 (vs := [vI (-1)]) Tryz.func102 ⟨rfl, trivial⟩ ?_
 obtain rfl := oi b2
 dsimp only [Ex.elim] at b3
 obtain rfl := oi b3
 exact ⟨_, _, rfl, Z3, hS, rfl⟩
 refine Z8 (bF c7 rfl) ?_
 refine W0 rfl ?_
 obtain rfl := oi a8
 exact d5 _ _ ⟨a9, c6, rfl, Z3, hS, b9⟩
 exact ⟨a1, 0, H, a8, Z3, hS, (by omega), b0, rfl, rfl, rfl⟩
 rintro _ _ ⟨b1, _, rfl, Z3, hS, c4⟩
 dsimp only [Ex.elim] at b3
 refine Z2 (Z0 (Z4 (vI b1) (by exact c4) rfl (Z5 (vI b1) rfl rfl (Z1 ?_))))
 refine X0 (vs := [vI b1]) Tryz.func102 ⟨rfl, trivial⟩ ?_
 obtain rfl := oi b3
 exact ⟨_, _, rfl, Z3, hS, rfl⟩
def Zb5 (K : Nat) (c6 : Int → Option (Ex Bool (Unit))) (a1 : A8) (a3 : Int) (a6 : Int) : Option (Ex Bool (Unit)) := (if a6 < (Y5 a1 a3) then some (.ret false) else c6 (a3 + 1))
def R5 (K : Nat) (a0 : (List Int)) (a1 : A8) : Nat → Int → Option (Ex Bool (Unit))
 | 0, _ => none
 | k + 1, a3 => (if a3 < 8 then (if a3 < (a0.length : Int) then (if (((rd a0 a3)).tmod 2) = 1 then Zb5 K (R5 K a0 a1 k) a1 a3 1 else Zb5 K (R5 K a0 a1 k) a1 a3 20) else Zb5 K (R5 K a0 a1 k) a1 a3 0) else some (.go ()))
def Zo4 (K : Nat) (a0 : (List Int)) (a1 : A8) : Option Bool := ((R5 K a0 a1 K 0).bind (Ex.elim (fun r => some r) (fun s => some true)))
theorem Yt1 {a0 : (List Int)} {a1 : A8} {r : Bool} (q0 : Zo4 K a0 a1 = some r) (b0 : Z9 (Y6 .i64) H s0 a0) (hS : St H w L) :
 Calls Tryz.prog 211 #[s0, vA (Z7 .u8 a1)] w (T2 (fun v G => R.bool.p G v r) H L) := by
 have Z3 := Sub.refl H
 refine X3 Tryz.func211 rfl Tryz.ntmps211 rfl ?_
 unfold Zo4 at q0
 refine Z2 (Z0 ?_)
 refine S3 (v := vA (Z7 .u8 a1)) (Z7 .u8 a1).toArray rfl rfl hS rfl ?_
 intro b1 _ hS
 refine Z5 (vB false) rfl rfl (Z1 (Z2 (Z2 (Z0 ?_))))
 refine X7 M2 rfl (hS.get mL) rfl rfl (Z4 (vI 0) rfl rfl (Z1 (Y7 ?_)))
 obtain ⟨b4, a4, b2⟩ := bind_some q0
 refine W1 (id := 0) (fun k f w => ∃ (a3 : Int) (H1 : FH), R5 K a0 a1 k a3 = some b4 ∧ Sub H H1 ∧ St H1 w ([(b1, cA (Z7 .u8 a1) 72)] ++ L) ∧ 0 ≤ a3 ∧ Z9 (Y6 .i64) H1 s0 a0 ∧ tv f 0 = s0 ∧ tv f 8 = vA (Z7 .u8 a1) ∧ tv f 9 = vI a3) (fun f w => ∃ (H1 : FH), b4 = .go () ∧ Sub H H1 ∧ St H1 w ([(b1, cA (Z7 .u8 a1) 72)] ++ L)) rfl ?_ ?_ K ?_ ?_
 rintro f w ⟨a3, H1, a4, _⟩
 rw [R5] at a4; cases a4
 rintro k _ _ c7 c8 ⟨a3, b3, a4, Z3, hS, _, b0, a7, a8, a5⟩
 rw [R5] at a4
 refine Z2 (Z0 ?_)
 refine V5 (k := .i64) (a := a3) (b := 8) (by exact a5) rfl rfl (Z1 (Z2 ?_))
 obtain ⟨b5, a4⟩ | ⟨b5, a4⟩ := ic a4
 refine Y0 (bT b5 rfl) (Y8 (Z2 (Y7 (Z2 (Z0 (Z4 (vI a3) (by exact a5) rfl ?_))))))
 refine Yo1 (Value.int .u8 (Y5 a1 a3)) Zd9 (by exact a8) (by exact a5) (by omega) (by omega) (Ym2 (by omega) (by omega)) rfl (Z5 (vI a3) rfl rfl (Z5 (Value.int .u8 (Y5 a1 a3)) rfl rfl (Z1 (Z2 (Z0 (Z5 (Value.int .u8 0) rfl rfl (Z1 (Z2 (Z2 (Z0 (Z4 (vI a3) rfl rfl (Z4 (s0) (by exact a7) rfl ?_))))))))))))
 have d2 := b0.bound
 refine W7 Q0 rfl b0 rfl ?_
 refine V5 (k := .i64) (a := a3) (b := (a0.length : Int)) rfl rfl rfl (Z1 ?_)
 refine Zb0 (fun f w => ∃ (a6 : Int) (H1 : FH), Zb5 K (R5 K a0 a1 k) a1 a3 a6 = some b4 ∧ Sub H H1 ∧ St H1 w ([(b1, cA (Z7 .u8 a1) 72)] ++ L) ∧ Z9 (Y6 .i64) H1 s0 a0 ∧ tv f 0 = s0 ∧ tv f 6 = Value.int .u8 (Y5 a1 a3) ∧ tv f 7 = Value.int .u8 a6 ∧ tv f 8 = vA (Z7 .u8 a1) ∧ tv f 9 = vI a3) ?_ ?_
 rintro _ _ ⟨a6, c5, a9, Z3, hS, b0, b6, b7, b8, b9, c0⟩
 unfold Zb5 at a9
 refine Z2 (Z0 (Z4 (Value.int .u8 (Y5 a1 a3)) (by exact b7) rfl (Z4 (Value.int .u8 a6) (by exact b8) rfl ?_)))
 refine Zi5 (k := .u8) (a := (Y5 a1 a3)) (b := a6) rfl rfl rfl (Z1 ?_)
 obtain ⟨c1, a9⟩ | ⟨c1, a9⟩ := ic a9
 refine Y0 (bT c1 rfl) (Z2 (Z0 (Z5 (vB false) rfl rfl (Z1 ?_))))
 refine X0 (vs := [vB false]) Tryz.func211 ⟨rfl, trivial⟩ ?_
 obtain rfl := oi a9
 dsimp only [Ex.elim] at b2
 obtain rfl := oi b2
 exact ⟨_, _, rfl, Z3, (St.dropA hS), rfl⟩
 refine Z8 (bF c1 rfl) (Y8 (X4 (Z0 ?_)))
 refine W8 (a3 + 1) (by exact c0) rfl (IntWalk.i64_in _ (by omega)) rfl (Z4 (vI (a3 + 1)) rfl rfl (Z1 ?_))
 exact c7 _ _ ⟨(a3 + 1), c5, a9, Z3, hS, (by omega), b0, b6, b9, rfl⟩
 intro c2
 obtain ⟨c3, a4⟩ | ⟨c3, a4⟩ := ic a4
 refine Y0 (bT c3 rfl) (Z2 (Z0 (Z5 (Value.int .u8 20) rfl rfl (Z1 (Z2 (Z0 (Z4 (s0) (by exact a7) rfl (Z4 (vI a3) rfl rfl ?_))))))))
 obtain ⟨_, _, _, _, _, c9, d0, rfl, d1⟩ := b0.elem (i := a3) (by omega) (by omega)
 refine X9 Q0 rfl rfl c9 rfl (by omega) (by omega) rfl ?_
 refine Y3 (vI (rd a0 a3)) ty2 rfl (hS.froz _ _ d0) (d1 0 (show 0 < 1 by decide)) rfl ?_
 refine Zk7 (((rd a0 a3)).tmod 2) rfl rfl (by decide) rfl rfl ?_
 refine Zc2 (k := .i64) (a := (((rd a0 a3)).tmod 2)) (b := 1) rfl rfl rfl (Z1 ?_)
 obtain ⟨c4, a4⟩ | ⟨c4, a4⟩ := ic a4
 refine Y0 (bT c4 rfl) (Z0 (Z5 (Value.int .u8 1) rfl rfl (Z1 ?_)))
 exact c2 _ _ ⟨1, b3, a4, Z3, hS, b0, a7, rfl, rfl, a8, a5⟩
 refine Z8 (bF c4 rfl) (Y8 ?_)
 exact c2 _ _ ⟨20, b3, a4, Z3, hS, b0, a7, rfl, rfl, a8, a5⟩
 refine Z8 (bF c3 rfl) (Y8 ?_)
 exact c2 _ _ ⟨0, b3, a4, Z3, hS, b0, a7, rfl, rfl, a8, a5⟩
 refine Z8 (bF b5 rfl) ?_
 refine W0 rfl ?_
 obtain rfl := oi a4
 exact c8 _ _ ⟨b3, rfl, Z3, hS⟩
 exact ⟨0, H, a4, Z3, hS, (by omega), b0, rfl, rfl, rfl⟩
 rintro _ _ ⟨_, rfl, Z3, hS⟩
 dsimp only [Ex.elim] at b2
 refine Z2 (Z0 (Z5 (vB true) rfl rfl (Z1 ?_)))
 refine X0 (vs := [vB true]) Tryz.func211 ⟨rfl, trivial⟩ ?_
 obtain rfl := oi b2
 exact ⟨_, _, rfl, Z3, (St.dropA hS), rfl⟩
def Zd0 (K : Nat) (a0 : A8) : Nat → Int → A8 → Option (Ex A8 (A8))
 | 0, _, _ => none
 | k + 1, a1, a3 => (if a1 < 8 then Zd0 K a0 k (a1 + 1) (S6 a3 a1 (IntKind.i64.wrap (Y5 a0 a1))) else some (.go a3))
def Zi2 (K : Nat) (a0 : A8) : Option A8 := ((Zd0 K a0 K 0 (fun _ => 0)).bind (Ex.elim (fun r => some r) (fun s => (fun (a4 : A8) => some a4) s)))
theorem Zt5 {a0 : A8} {r : A8} (q0 : Zi2 K a0 = some r) (hS : St H w L) :
 Calls Tryz.prog 192 #[vA (Z7 .u8 a0)] w (T2 (fun v G => (R.agg (Zr3 .i64)).p G v r) H L) := by
 have Z3 := Sub.refl H
 refine X3 Tryz.func192 rfl Tryz.ntmps192 rfl ?_
 unfold Zi2 at q0
 refine Z2 (Z0 ?_)
 refine S3 (v := vA (Z7 .u8 a0)) (Z7 .u8 a0).toArray rfl rfl hS rfl ?_
 intro b1 _ hS
 refine W6 (z := vA (Z7 .i64 (fun _ => 0))) (Z7 .i64 (fun _ => 0)).toArray Zr2.zero rfl hS rfl ?_
 intro b4 _ hS
 refine Z1 (Z2 (Z0 ?_))
 refine R6 (vA (Z7 .i64 (fun _ => 0))) Xh3 rfl ?_
 refine W6 (z := vA (Z7 .i64 (fun _ => 0))) (Z7 .i64 (fun _ => 0)).toArray Zr2.zero rfl hS rfl ?_
 intro b7 _ hS
 refine X5 (v := vA (Z7 .i64 (fun _ => 0))) (vs := (Z7 .i64 (fun _ => 0)).toArray) (cs := (Z7 .i64 (fun _ => 0)).toArray) K2 rfl rfl rfl hS rfl (S4 .i64 (fun _ => 0)) rfl ?_
 intro _ hS
 refine Z1 (Z2 (Z2 (Z0 ?_)))
 refine X7 M2 rfl (hS.get (mR (mR mL))) rfl rfl (Z4 (vI 0) rfl rfl (Z1 (Y7 ?_)))
 obtain ⟨b5, a5, b6⟩ := bind_some q0
 refine W1 (id := 0) (fun k f w => ∃ (a1 : Int) (a3 : A8) (H1 : FH), Zd0 K a0 k a1 a3 = some b5 ∧ Sub H H1 ∧ St H1 w ([(b7, cA (Z7 .i64 a3) 222)] ++ ([(b4, cA (Z7 .i64 (fun _ => 0)) 222)] ++ ([(b1, cA (Z7 .u8 a0) 72)] ++ L))) ∧ 0 ≤ a1 ∧ tv f 2 = vP b4 ∧ tv f 3 = vP b7 ∧ tv f 7 = vA (Z7 .u8 a0) ∧ tv f 8 = vI a1) (fun f w => ∃ (a4 : A8) (H1 : FH), b5 = .go a4 ∧ Sub H H1 ∧ St H1 w ([(b7, cA (Z7 .i64 a4) 222)] ++ ([(b4, cA (Z7 .i64 (fun _ => 0)) 222)] ++ ([(b1, cA (Z7 .u8 a0) 72)] ++ L))) ∧ tv f 2 = vP b4 ∧ tv f 3 = vP b7) rfl ?_ ?_ K ?_ ?_
 rintro f w ⟨a1, a3, H1, a5, _⟩
 rw [Zd0] at a5; cases a5
 rintro k _ _ b9 c0 ⟨a1, a3, b8, a5, Z3, hS, _, a8, a7, a9, a6⟩
 rw [Zd0] at a5
 refine Z2 (Z0 ?_)
 refine V5 (k := .i64) (a := a1) (b := 8) (by exact a6) rfl rfl (Z1 (Z2 ?_))
 obtain ⟨b2, a5⟩ | ⟨b2, a5⟩ := ic a5
 refine Y0 (bT b2 rfl) (Y8 (Z2 (Y7 (Z2 (Z0 (Z4 (vI a1) (by exact a6) rfl ?_))))))
 refine Yo1 (Value.int .u8 (Y5 a0 a1)) Zd9 (by exact a9) (by exact a6) (by omega) (by omega) (Ym2 (by omega) (by omega)) rfl (Z5 (vI a1) rfl rfl (Z5 (Value.int .u8 (Y5 a0 a1)) rfl rfl (Z1 (Z0 (Z4 (vI a1) rfl rfl (Z4 (Value.int .u8 (Y5 a0 a1)) rfl rfl ?_))))))
 refine Ym6 (s := .u8) ((IntKind.i64.wrap (Y5 a0 a1))) Vg5 rfl rfl rfl ?_
 refine V2 Zm2 (by exact a7) rfl (by omega) (by omega) rfl ?_
 refine Zb1 (v := vI (IntKind.i64.wrap (Y5 a0 a1))) (cs := (Z7 .i64 a3).toArray) (cs' := (Z7 .i64 (S6 a3 a1 (IntKind.i64.wrap (Y5 a0 a1)))).toArray) ty3 rfl rfl hS rfl (Yb6 rfl) (by simp [Z7, L5]; omega) (Zj1 (by omega) (by omega)) ?_
 intro _ hS
 refine Z1 (X4 (Z0 ?_))
 refine W8 (a1 + 1) (by exact a6) rfl (IntWalk.i64_in _ (by omega)) rfl (Z4 (vI (a1 + 1)) rfl rfl (Z1 ?_))
 exact b9 _ _ ⟨(a1 + 1), (S6 a3 a1 (IntKind.i64.wrap (Y5 a0 a1))), b8, a5, Z3, hS, (by omega), a8, a7, a9, rfl⟩
 refine Z8 (bF b2 rfl) ?_
 refine W0 rfl ?_
 obtain rfl := oi a5
 exact c0 _ _ ⟨a3, b8, rfl, Z3, hS, a8, a7⟩
 exact ⟨0, (fun _ => 0), H, a5, Z3, hS, (by omega), rfl, rfl, rfl, rfl⟩
 rintro _ _ ⟨a4, _, rfl, Z3, hS, b0, b3⟩
 dsimp only [Ex.elim] at b6
 refine Z2 (Z0 ?_)
 refine X7 K2 (by exact b3) (hS.get mL) rfl rfl ?_
 have hS := hS.perm V1
 refine X5 (v := vA (Z7 .i64 a4)) (vs := (Z7 .i64 a4).toArray) (cs := (Z7 .i64 (fun _ => 0)).toArray) K2 (by exact b0) rfl rfl hS rfl (S4 .i64 a4) rfl ?_
 intro _ hS
 have hS := hS.perm V1.symm
 refine Z1 ?_
 refine X0 (vs := [vA (Z7 .i64 a4)]) Tryz.func192 ⟨⟨_, (by exact b0), V6 K2 (hS.get (mR mL)) rfl⟩, trivial⟩ ?_
 obtain rfl := oi b6
 exact ⟨_, _, rfl, Z3, (St.dropA (St.dropA (St.dropA hS))), ⟨_, rfl, rfl⟩⟩
def Zo2 (K : Nat) (c3 : Int → Int → Int → Option (Ex Int (Int))) (a1 : Int) (a3 : Int) (a6 : Int) : Option (Ex Int (Int)) := c3 (((IntKind.i64.wrap (a1 * a1))).tmod 10007) a6 (IntKind.i64.wrap ((a3).tdiv 2))
def I3 (K : Nat) : Nat → Int → Int → Int → Option (Ex Int (Int))
 | 0, _, _, _ => none
 | k + 1, a1, a4, a3 => (if 0 < a3 then (if ((a3).tmod 2) = 1 then Zo2 K (I3 K k) a1 a3 (((IntKind.i64.wrap (a4 * a1))).tmod 10007) else Zo2 K (I3 K k) a1 a3 a4) else some (.go a4))
def Zu5 (K : Nat) (a0 : Int) : Option Int := ((I3 K K a0 1 10005).bind (Ex.elim (fun r => some r) (fun s => (fun (a7 : Int) => some a7) s)))
theorem Xc2 {a0 : Int} {r : Int} (q0 : Zu5 K a0 = some r) (hS : St H w L) :
 Calls Tryz.prog 234 #[vI a0] w (T2 (fun v G => (R.int .i64).p G v r) H L) := by
 have Z3 := Sub.refl H
 refine X3 Tryz.func234 rfl Tryz.ntmps234 rfl ?_
 unfold Zu5 at q0
 refine Z2 (Z0 (Z5 (vI 0) rfl rfl (Z1 (Z2 (Z0 (Z5 (vI 1) rfl rfl (Z1 (Z2 (Z2 (Z0 (Z5 (vI 10005) rfl rfl (Z1 (Y7 ?_)))))))))))))
 obtain ⟨b2, a5, b6⟩ := bind_some q0
 refine W1 (id := 0) (fun k f w => ∃ (a1 : Int) (a4 : Int) (a3 : Int) (H1 : FH), I3 K k a1 a4 a3 = some b2 ∧ Sub H H1 ∧ St H1 w (L) ∧ tv f 0 = vI a1 ∧ tv f 3 = vI a4 ∧ tv f 4 = vI a3) (fun f w => ∃ (a7 : Int) (H1 : FH), b2 = .go a7 ∧ Sub H H1 ∧ St H1 w (L) ∧ tv f 3 = vI a7) rfl ?_ ?_ K ?_ ?_
 rintro f w ⟨a1, a4, a3, H1, a5, _⟩
 rw [I3] at a5; cases a5
 rintro k _ _ c4 c5 ⟨a1, a4, a3, b3, a5, Z3, hS, a9, b0, a8⟩
 rw [I3] at a5
 refine Z2 (Z2 (Z0 (Z4 (vI a3) (by exact a8) rfl ?_)))
 refine Zi5 (k := .i64) (a := a3) (b := 0) rfl rfl rfl (Z1 ?_)
 obtain ⟨b7, a5⟩ | ⟨b7, a5⟩ := ic a5
 refine Y0 (bT b7 rfl) (Y8 (Z2 (Y7 (Z2 (Z2 (Z0 (Z4 (vI a3) (by exact a8) rfl ?_)))))))
 refine Zk7 ((a3).tmod 2) rfl rfl (by decide) rfl rfl ?_
 refine Zc2 (k := .i64) (a := ((a3).tmod 2)) (b := 1) rfl rfl rfl (Z1 ?_)
 refine Zb0 (fun f w => ∃ (a6 : Int) (H1 : FH), Zo2 K (I3 K k) a1 a3 a6 = some b2 ∧ Sub H H1 ∧ St H1 w (L) ∧ tv f 0 = vI a1 ∧ tv f 3 = vI a6 ∧ tv f 4 = vI a3) ?_ ?_
 rintro _ _ ⟨a6, c1, b4, Z3, hS, b1, b8, b9⟩
 unfold Zo2 at b4
 refine Z0 (Z4 (vI a1) (by exact b1) rfl (Z4 (vI a1) (by exact b1) rfl ?_))
 refine Zt1 (IntKind.i64.wrap (a1 * a1)) rfl rfl rfl rfl ?_
 refine Zk7 (((IntKind.i64.wrap (a1 * a1))).tmod 10007) rfl rfl (by decide) rfl rfl (Z5 (vI (((IntKind.i64.wrap (a1 * a1))).tmod 10007)) rfl rfl (Z1 (X4 (Z0 (Z4 (vI a3) (by exact b9) rfl ?_)))))
 refine Wt5 (IntKind.i64.wrap ((a3).tdiv 2)) rfl rfl (by decide) rfl rfl (Z5 (vI (IntKind.i64.wrap ((a3).tdiv 2))) rfl rfl (Z1 ?_))
 exact c4 _ _ ⟨(((IntKind.i64.wrap (a1 * a1))).tmod 10007), a6, (IntKind.i64.wrap ((a3).tdiv 2)), c1, b4, Z3, hS, rfl, b8, rfl⟩
 intro c2
 obtain ⟨c0, a5⟩ | ⟨c0, a5⟩ := ic a5
 refine Y0 (bT c0 rfl) (Z0 (Z4 (vI a4) (by exact b0) rfl (Z4 (vI a1) (by exact a9) rfl ?_)))
 refine Zt1 (IntKind.i64.wrap (a4 * a1)) rfl rfl rfl rfl ?_
 refine Zk7 (((IntKind.i64.wrap (a4 * a1))).tmod 10007) rfl rfl (by decide) rfl rfl (Z5 (vI (((IntKind.i64.wrap (a4 * a1))).tmod 10007)) rfl rfl (Z1 ?_))
 exact c2 _ _ ⟨(((IntKind.i64.wrap (a4 * a1))).tmod 10007), b3, a5, Z3, hS, a9, rfl, a8⟩
 refine Z8 (bF c0 rfl) (Y8 ?_)
 exact c2 _ _ ⟨a4, b3, a5, Z3, hS, a9, b0, a8⟩
 refine Z8 (bF b7 rfl) ?_
 refine W0 rfl ?_
 obtain rfl := oi a5
 exact c5 _ _ ⟨a4, b3, rfl, Z3, hS, b0⟩
 exact ⟨a0, 1, 10005, H, a5, Z3, hS, rfl, rfl, rfl⟩
 rintro _ _ ⟨a7, _, rfl, Z3, hS, b5⟩
 dsimp only [Ex.elim] at b6
 refine Z2 (Z0 (Z4 (vI a7) (by exact b5) rfl (Z5 (vI a7) rfl rfl (Z1 ?_))))
 refine X0 (vs := [vI a7]) Tryz.func234 ⟨rfl, trivial⟩ ?_
 obtain rfl := oi b6
 exact ⟨_, _, rfl, Z3, hS, rfl⟩
def D2 (K : Nat) (a0 : (List Int)) : Nat → Int → Int → Option (Ex Int (Int))
 | 0, _, _ => none
 | k + 1, a4, a3 => (if a3 < (a0.length : Int) then (if (rd a0 a3) = a4 then D2 K a0 k (IntKind.i64.wrap (a4 + 1)) (a3 + 1) else some (.ret (-1))) else some (.go a4))
def Zo0 (K : Nat) (a0 : (List Int)) (a1 : Int) : Option Int := ((D2 K a0 K a1 0).bind (Ex.elim (fun r => some r) (fun s => (fun (a6 : Int) => some a6) s)))
theorem Yu4 {a0 : (List Int)} {a1 : Int} {r : Int} (q0 : Zo0 K a0 a1 = some r) (b0 : Z9 (Y6 .i64) H s0 a0) (hS : St H w L) :
 Calls Tryz.prog 23 #[s0, vI a1] w (T2 (fun v G => (R.int .i64).p G v r) H L) := by
 have Z3 := Sub.refl H
 refine X3 Tryz.func23 rfl Tryz.ntmps23 rfl ?_
 unfold Zo0 at q0
 refine Z2 (Z0 (Z5 (vI 0) rfl rfl (Z1 (Z2 (Z2 (Z0 (Z5 (vI 0) rfl rfl (Z1 (Y7 ?_)))))))))
 obtain ⟨b3, a5, b1⟩ := bind_some q0
 refine W1 (id := 0) (fun k f w => ∃ (a4 : Int) (a3 : Int) (H1 : FH), D2 K a0 k a4 a3 = some b3 ∧ Sub H H1 ∧ St H1 w (L) ∧ 0 ≤ a3 ∧ Z9 (Y6 .i64) H1 s0 a0 ∧ tv f 0 = s0 ∧ tv f 1 = vI a4 ∧ tv f 5 = vI a3) (fun f w => ∃ (a6 : Int) (H1 : FH), b3 = .go a6 ∧ Sub H H1 ∧ St H1 w (L) ∧ tv f 1 = vI a6) rfl ?_ ?_ K ?_ ?_
 rintro f w ⟨a4, a3, H1, a5, _⟩
 rw [D2] at a5; cases a5
 rintro k _ _ b7 b8 ⟨a4, a3, b4, a5, Z3, hS, _, b0, a7, a8, a9⟩
 rw [D2] at a5
 refine Z2 (Z2 (Z0 (Z4 (vI a3) (by exact a9) rfl (Z4 (s0) (by exact a7) rfl ?_))))
 have c2 := b0.bound
 refine W7 Q0 rfl b0 rfl ?_
 refine V5 (k := .i64) (a := a3) (b := (a0.length : Int)) rfl rfl rfl (Z1 ?_)
 obtain ⟨b5, a5⟩ | ⟨b5, a5⟩ := ic a5
 refine Y0 (bT b5 rfl) (Y8 (Z2 (Y7 (Z2 (Z2 (Z0 (Z4 (s0) (by exact a7) rfl (Z4 (vI a3) (by exact a9) rfl ?_))))))))
 obtain ⟨_, _, _, _, _, b9, c0, rfl, c1⟩ := b0.elem (i := a3) (by omega) (by omega)
 refine X9 Q0 rfl rfl b9 rfl (by omega) (by omega) rfl ?_
 refine Y3 (vI (rd a0 a3)) ty2 rfl (hS.froz _ _ c0) (c1 0 (show 0 < 1 by decide)) rfl (Z4 (vI a4) (by exact a8) rfl ?_)
 refine L7 (k := .i64) (a := (rd a0 a3)) (b := a4) rfl rfl rfl (Z1 ?_)
 obtain ⟨b6, a5⟩ | ⟨b6, a5⟩ := ic a5
 refine Z8 (bN b6 rfl) (Y8 (Z0 (Z4 (vI a4) (by exact a8) rfl ?_)))
 refine W8 (IntKind.i64.wrap (a4 + 1)) rfl rfl rfl rfl (Z5 (vI (IntKind.i64.wrap (a4 + 1))) rfl rfl (Z1 (X4 (Z0 (Z4 (vI a3) (by exact a9) rfl ?_)))))
 refine W8 (a3 + 1) rfl rfl (IntWalk.i64_in _ (by omega)) rfl (Z5 (vI (a3 + 1)) rfl rfl (Z1 ?_))
 exact b7 _ _ ⟨(IntKind.i64.wrap (a4 + 1)), (a3 + 1), b4, a5, Z3, hS, (by omega), b0, a7, rfl, rfl⟩
 refine Y0 (bO b6 rfl) (Z2 (Z0 (Z5 (vI (-1)) rfl rfl (Z1 ?_))))
 refine X0 (vs := [vI (-1)]) Tryz.func23 ⟨rfl, trivial⟩ ?_
 obtain rfl := oi a5
 dsimp only [Ex.elim] at b1
 obtain rfl := oi b1
 exact ⟨_, _, rfl, Z3, hS, rfl⟩
 refine Z8 (bF b5 rfl) ?_
 refine W0 rfl ?_
 obtain rfl := oi a5
 exact b8 _ _ ⟨a4, b4, rfl, Z3, hS, a8⟩
 exact ⟨a1, 0, H, a5, Z3, hS, (by omega), b0, rfl, rfl, rfl⟩
 rintro _ _ ⟨a6, _, rfl, Z3, hS, b2⟩
 dsimp only [Ex.elim] at b1
 refine Z2 (Z0 (Z4 (vI a6) (by exact b2) rfl (Z5 (vI a6) rfl rfl (Z1 ?_))))
 refine X0 (vs := [vI a6]) Tryz.func23 ⟨rfl, trivial⟩ ?_
 obtain rfl := oi b1
 exact ⟨_, _, rfl, Z3, hS, rfl⟩
def Zy3 (K : Nat) (a0 : (List Int)) (a1 : Int) : Option Int := (if (IntKind.i64.wrap (a1 - (a0.length : Int))) < 0 then some (-1) else some (IntKind.i64.wrap (a1 - (a0.length : Int))))
theorem Yw6 {a0 : (List Int)} {a1 : Int} {r : Int} (q0 : Zy3 K a0 a1 = some r) (a4 : Z9 (Y6 .i64) H s0 a0) (hS : St H w L) :
 Calls Tryz.prog 71 #[s0, vI a1] w (T2 (fun v G => (R.int .i64).p G v r) H L) := by
 have Z3 := Sub.refl H
 refine X3 Tryz.func71 rfl Tryz.ntmps71 rfl ?_
 unfold Zy3 at q0
 refine Z2 (Z0 (Z5 (vI 0) rfl rfl (Z1 (Z2 (Z0 (Z4 (vI a1) rfl rfl (Z4 (s0) rfl rfl ?_)))))))
 have a5 := a4.bound
 refine W7 Q0 rfl a4 rfl ?_
 refine Yg5 (IntKind.i64.wrap (a1 - (a0.length : Int))) rfl rfl rfl rfl (Z5 (vI (IntKind.i64.wrap (a1 - (a0.length : Int)))) rfl rfl (Z1 (Z2 (Z2 (Z0 (Z4 (vI (IntKind.i64.wrap (a1 - (a0.length : Int)))) rfl rfl ?_))))))
 refine V5 (k := .i64) (a := (IntKind.i64.wrap (a1 - (a0.length : Int)))) (b := 0) rfl rfl rfl (Z1 ?_)
 obtain ⟨a3, q0⟩ | ⟨a3, q0⟩ := ic q0
 refine Y0 (bT a3 rfl) (Z2 (Z0 (Z5 (vI (-1)) rfl rfl (Z1 ?_))))
 refine X0 (vs := [vI (-1)]) Tryz.func71 ⟨rfl, trivial⟩ ?_
 obtain rfl := oi q0
 exact ⟨_, _, rfl, Z3, hS, rfl⟩
 refine Z8 (bF a3 rfl) (Y8 (Z2 (Z0 (Z4 (vI (IntKind.i64.wrap (a1 - (a0.length : Int)))) rfl rfl (Z5 (vI (IntKind.i64.wrap (a1 - (a0.length : Int)))) rfl rfl (Z1 ?_))))))
 refine X0 (vs := [vI (IntKind.i64.wrap (a1 - (a0.length : Int)))]) Tryz.func71 ⟨rfl, trivial⟩ ?_
 obtain rfl := oi q0
 exact ⟨_, _, rfl, Z3, hS, rfl⟩
def Zr9 (K : Nat) (a0 : Int) (a1 : Int) (a2 : Int) : Option Bool := (if a1 ≤ a0 then some (decide (a0 ≤ a2)) else some false)
theorem Ym5 {a0 : Int} {a1 : Int} {a2 : Int} {r : Bool} (q0 : Zr9 K a0 a1 a2 = some r) (hS : St H w L) :
 Calls Tryz.prog 81 #[vI a0, vI a1, vI a2] w (T2 (fun v G => R.bool.p G v r) H L) := by
 have Z3 := Sub.refl H
 refine X3 Tryz.func81 rfl Tryz.ntmps81 rfl ?_
 unfold Zr9 at q0
 refine Z2 (Z0 (Z5 (vB false) rfl rfl (Z1 (Z2 (Z0 (Z4 (vI a0) rfl rfl (Z4 (vI a1) rfl rfl ?_)))))))
 refine Yg8 (k := .i64) (a := a0) (b := a1) rfl rfl rfl (Z4 (vB (decide (a1 ≤ a0))) rfl rfl ?_)
 obtain ⟨a3, q0⟩ | ⟨a3, q0⟩ := ic q0
 refine Y4 rfl rfl (bT a3 rfl) (Z4 (vI a0) rfl rfl ?_)
 refine Y4 rfl rfl (bT a3 rfl) (Z4 (vI a2) rfl rfl ?_)
 refine Y4 rfl rfl (bT a3 rfl) ?_
 refine Xb0 (k := .i64) (a := a0) (b := a2) rfl rfl rfl ?_
 refine V0 (t := true) (vB (decide (a0 ≤ a2))) (bT a3 rfl) ((if_pos rfl).trans rfl) rfl (Z5 (vB (decide (a0 ≤ a2))) rfl rfl (Z1 ?_))
 refine X0 (vs := [vB (decide (a0 ≤ a2))]) Tryz.func81 ⟨rfl, trivial⟩ ?_
 obtain rfl := oi q0
 exact ⟨_, _, rfl, Z3, hS, rfl⟩
 refine Y1 rfl rfl (bF a3 rfl) rfl rfl rfl (Y1 rfl rfl (bF a3 rfl) rfl rfl rfl (Y1 rfl rfl (bF a3 rfl) rfl rfl rfl ?_))
 refine V0 (t := false) (vB false) (bF a3 rfl) ((if_neg Bool.false_ne_true).trans rfl) rfl (Z5 (vB false) rfl rfl (Z1 ?_))
 refine X0 (vs := [vB false]) Tryz.func81 ⟨rfl, trivial⟩ ?_
 obtain rfl := oi q0
 exact ⟨_, _, rfl, Z3, hS, rfl⟩
def Zn3 (K : Nat) : Option MpT := some (F6 ([] : MpT) (fun _ => 0) 1)
theorem Yn0 {r : MpT} (q0 : Zn3 K = some r) (hS : St H w L) :
 Calls Tryz.prog 270 #[] w (Yt8 .i64 r H L) := by
 have Z3 := Sub.refl H
 refine X3 Tryz.func270 rfl Tryz.ntmps270 rfl ?_
 unfold Zn3 at q0
 refine Z2 (Z0 (Z5 (Value.map none) rfl rfl (Z1 (Z2 (Z0 ?_)))))
 refine Zk3 (k := .i64) hS rfl ?_
 intro m1 _ _ a0 hS
 refine R6 (vA (Z7 .i64 (fun _ => 0))) Xh3 rfl ?_
 refine Yb9 (a := (fun _ => 0)) (m := 1) Zi9 rfl rfl rfl a0 hS ?_
 intro _ _ a1 hS
 refine Z4 (m1) rfl rfl (Z5 (m1) rfl rfl (Z1 ?_))
 refine X0 (vs := [m1]) Tryz.func270 ⟨rfl, trivial⟩ ?_
 obtain rfl := oi q0
 exact ⟨_, _, _, rfl, Z3, hS, a1⟩
end Go.Proofs.YtabofnehiclkiaaGreat
