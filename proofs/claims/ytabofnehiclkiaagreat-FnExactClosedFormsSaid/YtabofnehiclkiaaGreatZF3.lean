/- Walks of functions: each computes its pure function, if that gives a value. -/
import Derived.Test.YtabofnehiclkiaaGreatZTy
namespace Go.Proofs.YtabofnehiclkiaaGreat
open Go Go.Proofs.Tryz
set_option linter.unusedSimpArgs false
set_option linter.unusedVariables false
set_option maxRecDepth 100000
set_option maxHeartbeats 8000000
variable {K : Nat} {H : FH} {w : World} {L : OL} {s0 s1 s2 s3 s4 s5 s6 : Value}
def K7 (K : Nat) (a0 : A8) (a1 : (List Int)) : Nat → Int → Int → Option (Ex (A8 × Int) (Int))
 | 0, _, _ => none
 | k + 1, b3, a4 => (if a4 < (a1.length : Int) then (if a4 < 8 then K7 K a0 a1 k (IntKind.i64.wrap (b3 + (IntKind.i64.wrap ((((rd a1 a4)).tmod 2) * (Y4 a0 a4))))) (a4 + 1) else none) else some (.go b3))
def F6 (K : Nat) (j3 : Int → Int → Option (Ex (A8 × Int) (Int))) (a0 : A8) (a1 : (List Int)) (a2 : A8) (a3 : Int) (a9 : Int) (c2 : Bool) : Option (Ex (A8 × Int) (Int)) := (if c2 = true then some (.ret ((fun _ => 0), 0)) else (if a3 < 8 then (if 0 < (Y4 a2 a3) then ((K7 K a0 a1 K a9 (a3 + 1)).bind (Ex.elim (fun r => some (.ret r)) (fun s => (fun (d6 : Int) => j3 (a3 + 1) d6) s))) else j3 (a3 + 1) a9) else none))
def M3 (K : Nat) (a2 : A8) : Nat → Int → A8 → Option (Ex (A8 × Int) (A8))
 | 0, _, _ => none
 | k + 1, a5, a6 => (if a5 < 8 then M3 K a2 k (a5 + 1) (U8 a6 a5 (IntKind.i64.wrap ((Y4 a6 a5) + (Y4 a2 a5)))) else some (.go a6))
def T6 (K : Nat) (a0 : A8) (a1 : (List Int)) (a2 : A8) : Nat → Int → Int → Option (Ex (A8 × Int) (Int))
 | 0, _, _ => none
 | k + 1, a3, a9 => (if a3 < (a1.length : Int) then (if (((rd a1 a3)).tmod 2) = 0 then T6 K a0 a1 a2 k (a3 + 1) a9 else (if a3 < 8 then (if 0 < (Y4 a0 a3) then F6 K (T6 K a0 a1 a2 k) a0 a1 a2 a3 a9 (decide (0 < (Y4 a2 a3))) else F6 K (T6 K a0 a1 a2 k) a0 a1 a2 a3 a9 false) else none)) else some (.go a9))
def E3 (K : Nat) (a0 : A8) (a1 : (List Int)) (a2 : A8) : Option (A8 × Int) := ((T6 K a0 a1 a2 K 0 0).bind (Ex.elim (fun r => some r) (fun s => (fun (c1 : Int) => ((M3 K a2 K 0 a0).bind (Ex.elim (fun r => some r) (fun s => (fun (a7 : A8) => (if ((c1).tmod 2) = 1 then some (a7, (-1)) else some (a7, 1))) s)))) s)))
theorem Yo6 {a0 : A8} {a1 : (List Int)} {a2 : A8} {r : (A8 × Int)} (q0 : E3 K a0 a1 a2 = some r) (b0 : Y3 (Y5 .i64) H s0 a1) (hS : St H w L) :
 Calls prog 216 #[vA (Z6 .i64 a0), s0, vA (Z6 .i64 a2)] w (U7 (fun v G => (R.t2 (R.agg (Q9 .i64)) (R.int .i64)).p G v r) H L) := by
 have Z4 := Sub.refl H
 refine X0 func216 rfl ntmps216 rfl ?_
 unfold E3 at q0
 refine Z1 (Z0 ?_)
 refine T7 (v := vA (Z6 .i64 a0)) (Z6 .i64 a0).toArray rfl rfl hS rfl ?_
 intro b1 _ hS
 refine T7 (v := vA (Z6 .i64 a2)) (Z6 .i64 a2).toArray rfl rfl hS rfl ?_
 intro b4 _ hS
 refine U4 (z := vA (Z6 .i64 (fun _ => 0))) (Z6 .i64 (fun _ => 0)).toArray Zk4.zero rfl hS rfl ?_
 intro b7 _ hS
 refine Z5 (vI 0) rfl rfl (Z2 (Z1 (Z0 (Z5 (vI 0) rfl rfl (Z2 (Z1 (Z1 (Z0 (Z3 (s0) rfl rfl ?_)))))))))
 have l4 := b0.bound
 refine X9 U5 rfl b0 rfl (Z3 (vI 0) rfl rfl (Z2 (Y8 ?_)))
 obtain ⟨g3, a8, f5⟩ := bind_some q0
 refine W0 (id := 0) (fun k f w => ∃ (a3 : Int) (a9 : Int) (H1 : FH), T6 K a0 a1 a2 k a3 a9 = some g3 ∧ Sub H H1 ∧ St H1 w ([(b7, cA (Z6 .i64 (fun _ => 0)) 222)] ++ ([(b4, cA (Z6 .i64 a2) 222)] ++ ([(b1, cA (Z6 .i64 a0) 222)] ++ L))) ∧ 0 ≤ a3 ∧ Y3 (Y5 .i64) H1 s0 a1 ∧ tv f 1 = s0 ∧ tv f 3 = vP b1 ∧ tv f 5 = vP b4 ∧ tv f 6 = vP b7 ∧ tv f 8 = vI a9 ∧ tv f 13 = s0 ∧ tv f 14 = vI (a1.length : Int) ∧ tv f 15 = vI a3) (fun f w => ∃ (c1 : Int) (H1 : FH), g3 = .go c1 ∧ Sub H H1 ∧ St H1 w ([(b7, cA (Z6 .i64 (fun _ => 0)) 222)] ++ ([(b4, cA (Z6 .i64 a2) 222)] ++ ([(b1, cA (Z6 .i64 a0) 222)] ++ L))) ∧ tv f 3 = vP b1 ∧ tv f 5 = vP b4 ∧ tv f 6 = vP b7 ∧ tv f 8 = vI c1) rfl ?_ ?_ K ?_ ?_
 rintro f w ⟨a3, a9, H1, a8, _⟩
 rw [T6] at a8; cases a8
 rintro k _ _ i5 k7 ⟨a3, a9, f6, a8, Z4, hS, _, b0, d7, c3, c4, c8, c9, c5, c6, b6⟩
 rw [T6] at a8
 refine Z1 (Z0 ?_)
 refine W8 (k := .i64) (a := a3) (b := (a1.length : Int)) (by exact b6) (by exact c6) rfl (Z2 (Z1 ?_))
 obtain ⟨g4, a8⟩ | ⟨g4, a8⟩ := ic a8
 refine Z8 (bT g4 rfl) (Y6 (Z1 (Y8 (Z1 (Z0 (Z3 (vI a3) (by exact b6) rfl ?_))))))
 obtain ⟨_, _, _, _, _, j5, j6, rfl, j7⟩ := b0.elem (i := a3) (by omega) (by omega)
 refine X5 U5 rfl (by exact c5) j5 (by exact b6) (by omega) (by omega) rfl ?_
 refine Y0 (vI (rd a1 a3)) ty2 rfl (hS.froz _ _ j6) (j7 0 (show 0 < 1 by decide)) rfl (Z5 (vI a3) rfl rfl (Z5 (vI (rd a1 a3)) rfl rfl (Z2 (Z1 (Z1 (Z0 (Z3 (vI (rd a1 a3)) rfl rfl ?_)))))))
 refine Zc1 (((rd a1 a3)).tmod 2) rfl rfl (by decide) rfl rfl ?_
 refine Za0 (k := .i64) (a := (((rd a1 a3)).tmod 2)) (b := 0) rfl rfl rfl (Z2 ?_)
 obtain ⟨g5, a8⟩ | ⟨g5, a8⟩ := ic a8
 refine Z8 (bT g5 rfl) ?_
 refine X7 rfl (Z0 ?_)
 refine W2 (a3 + 1) (by exact b6) rfl (IntWalk.i64_in _ (by omega)) rfl (Z3 (vI (a3 + 1)) rfl rfl (Z2 ?_))
 exact i5 _ _ ⟨(a3 + 1), a9, f6, a8, Z4, hS, (by omega), b0, d7, c3, c4, c8, c9, c5, c6, rfl⟩
 refine Z7 (bF g5 rfl) (Y6 (Z1 (Z1 ?_)))
 refine N4 (fun f w => ∃ (c2 : Bool) (H1 : FH), F6 K (T6 K a0 a1 a2 k) a0 a1 a2 a3 a9 c2 = some g3 ∧ Sub H H1 ∧ St H1 w ([(b7, cA (Z6 .i64 (fun _ => 0)) 222)] ++ ([(b4, cA (Z6 .i64 a2) 222)] ++ ([(b1, cA (Z6 .i64 a0) 222)] ++ L))) ∧ Y3 (Y5 .i64) H1 s0 a1 ∧ tv f 1 = s0 ∧ tv f 3 = vP b1 ∧ tv f 5 = vP b4 ∧ tv f 6 = vP b7 ∧ tv f 8 = vI a9 ∧ tv f 9 = vI a3 ∧ tv f 13 = s0 ∧ tv f 14 = vI (a1.length : Int) ∧ tv f 15 = vI a3 ∧ tv f 32 = vB c2) ?_ ?_
 rintro _ _ ⟨c2, h2, b2, Z4, hS, b0, f9, g0, e0, d4, g1, g2, e4, e5, e6, e7⟩
 unfold F6 at b2
 obtain ⟨g6, b2⟩ | ⟨g6, b2⟩ := ic b2
 refine Z8 (Eq.trans (by exact e7) (congrArg vB g6)) (Z1 (Z0 ?_))
 refine B5 (vA (Z6 .i64 (fun _ => 0))) Xq3 rfl ?_
 refine W4 (v := vA (Z6 .i64 (fun _ => 0))) (vs := (Z6 .i64 (fun _ => 0)).toArray) (cs := (Z6 .i64 (fun _ => 0)).toArray) Q6 (by exact d4) rfl rfl hS rfl (S8 .i64 (fun _ => 0)) rfl ?_
 intro _ hS
 refine Z5 (vI 0) rfl rfl (Z2 ?_)
 refine Y9 (vs := [vA (Z6 .i64 (fun _ => 0)), vI 0]) func216 ⟨⟨_, (by exact d4), P1 Q6 (hS.get mL) rfl⟩, rfl, trivial⟩ ?_
 obtain rfl := oi b2
 dsimp only [Ex.elim] at f5
 obtain rfl := oi f5
 exact ⟨_, _, rfl, Z4, (St.dropA (St.dropA (St.dropA hS))), ⟨_, _, rfl, ⟨_, rfl, rfl⟩, rfl⟩⟩
 refine Z7 (Eq.trans (by exact e7) (congrArg vB (W1 g6))) (Y6 (Z1 (Z0 (Z3 (vI a3) (by exact g2) rfl ?_))))
 obtain ⟨_, b2⟩ := gd b2
 refine V5 Zk7 (by exact e0) rfl (by omega) (by omega) rfl ?_
 refine Y0 (vI (Y4 a2 a3)) ty3 rfl (hS.get (o := cA (Z6 .i64 a2) 222) (mR mL)) (J3 ([]) ([]) (by omega) (by omega)) rfl ?_
 refine Za9 (k := .i64) (a := (Y4 a2 a3)) (b := 0) rfl rfl rfl (Z2 ?_)
 obtain ⟨g7, b2⟩ | ⟨g7, b2⟩ := ic b2
 refine Z8 (bT g7 rfl) (Z1 (Z0 (Z3 (vI a3) (by exact g2) rfl ?_)))
 refine W2 (a3 + 1) rfl rfl (IntWalk.i64_in _ (by omega)) rfl (Z5 (vI (a3 + 1)) rfl rfl (Z2 (Y8 ?_)))
 obtain ⟨i6, b8, i7⟩ := bind_some b2
 refine W0 (id := 2) (fun k f w => ∃ (b3 : Int) (a4 : Int) (H1 : FH), K7 K a0 a1 k b3 a4 = some i6 ∧ Sub H H1 ∧ St H1 w ([(b7, cA (Z6 .i64 (fun _ => 0)) 222)] ++ ([(b4, cA (Z6 .i64 a2) 222)] ++ ([(b1, cA (Z6 .i64 a0) 222)] ++ L))) ∧ 0 ≤ a4 ∧ Y3 (Y5 .i64) H1 s0 a1 ∧ tv f 1 = s0 ∧ tv f 3 = vP b1 ∧ tv f 5 = vP b4 ∧ tv f 6 = vP b7 ∧ tv f 8 = vI b3 ∧ tv f 11 = vI a4 ∧ tv f 13 = s0 ∧ tv f 14 = vI (a1.length : Int) ∧ tv f 15 = vI a3) (fun f w => ∃ (d6 : Int) (H1 : FH), i6 = .go d6 ∧ Sub H H1 ∧ St H1 w ([(b7, cA (Z6 .i64 (fun _ => 0)) 222)] ++ ([(b4, cA (Z6 .i64 a2) 222)] ++ ([(b1, cA (Z6 .i64 a0) 222)] ++ L))) ∧ Y3 (Y5 .i64) H1 s0 a1 ∧ tv f 1 = s0 ∧ tv f 3 = vP b1 ∧ tv f 5 = vP b4 ∧ tv f 6 = vP b7 ∧ tv f 8 = vI d6 ∧ tv f 13 = s0 ∧ tv f 14 = vI (a1.length : Int) ∧ tv f 15 = vI a3) rfl ?_ ?_ K ?_ ?_
 rintro f w ⟨b3, a4, H1, b8, _⟩
 rw [K7] at b8; cases b8
 rintro k _ _ k8 k9 ⟨b3, a4, j8, b8, Z4, hS, _, b0, d0, d8, e8, e9, f0, c7, e1, e2, e3⟩
 rw [K7] at b8
 refine Z1 (Z1 (Z0 (Z3 (vI a4) (by exact c7) rfl (Z3 (s0) (by exact d0) rfl ?_))))
 have l5 := b0.bound
 refine X9 U5 rfl b0 rfl ?_
 refine W8 (k := .i64) (a := a4) (b := (a1.length : Int)) rfl rfl rfl (Z2 ?_)
 obtain ⟨g8, b8⟩ | ⟨g8, b8⟩ := ic b8
 refine Z8 (bT g8 rfl) (Y6 (Z1 (Y8 ?_)))
 obtain ⟨l0, l1, _, _, _, j9, k0, rfl, k1⟩ := b0.elem (i := a4) (by omega) (by omega)
 obtain ⟨_, b8⟩ := gd b8
 refine W7 11 (S9 [mE 46 (vI b3), mE 47 (s0), mE 48 (vI a4), mE 49 (vQ l0 l1), mE 50 (vI (rd a1 a4)), mE 51 (vI (((rd a1 a4)).tmod 2)), mE 52 (vI a4), mE 53 (vQ b1 (0 + (a4).toNat * 1)), mE 54 (vI (Y4 a0 a4)), mE 55 (vI (IntKind.i64.wrap ((((rd a1 a4)).tmod 2) * (Y4 a0 a4)))), mE 56 (vI (IntKind.i64.wrap (b3 + (IntKind.i64.wrap ((((rd a1 a4)).tmod 2) * (Y4 a0 a4))))))]) [] mixed rfl rfl rfl hS (V9 ?_ ?_ ?_ ?_ ?_ ?_ ?_ ?_ (J2 ?_ ?_ (E8 ?_ V1))) ?_
 exact X4 fun S B => Z3 (vI b3) (evT (B 8 rfl) f0) rfl (qz S)
 exact X4 fun S B => Z3 (s0) (evT (B 1 rfl) d0) rfl (qz S)
 exact X4 fun S B => Z3 (vI a4) (evT (B 11 rfl) c7) rfl (qz S)
 exact Y7 fun S V => X5 U5 rfl (eM (V 1 47 rfl rfl)) j9 (eM (V 2 48 rfl rfl)) (by omega) (by omega) rfl (qz S)
 exact P0 fun s S V => Y0 (vI (rd a1 a4)) ty2 (eM (V 3 49 rfl rfl)) (S.froz _ _ (s.1 _ _ k0)) (k1 0 (show 0 < 1 by decide)) rfl (qz S)
 exact Y7 fun S V => Zc1 (((rd a1 a4)).tmod 2) (eM (V 4 50 rfl rfl)) rfl (by decide) rfl rfl (qz S)
 exact X4 fun S B => Z3 (vI a4) (evT (B 11 rfl) c7) rfl (qz S)
 exact L3 fun S B V => V5 Zk7 (evT (B 3 rfl) d8) (eM (V 6 52 rfl rfl)) (by omega) (by omega) rfl (qz S)
 exact Y7 fun S V => Y0 (vI (Y4 a0 a4)) ty3 (eM (V 7 53 rfl rfl)) (S.get (o := cA (Z6 .i64 a0) 222) (mR (mR (mR mL)))) (J3 ([]) ([]) (by omega) (by omega)) rfl (qz S)
 exact Y7 fun S V => Zg4 (IntKind.i64.wrap ((((rd a1 a4)).tmod 2) * (Y4 a0 a4))) (eM (V 5 51 rfl rfl)) (eM (V 8 54 rfl rfl)) rfl rfl (qz S)
 exact Y7 fun S V => W2 (IntKind.i64.wrap (b3 + (IntKind.i64.wrap ((((rd a1 a4)).tmod 2) * (Y4 a0 a4))))) (eM (V 0 46 rfl rfl)) (eM (V 9 55 rfl rfl)) rfl rfl (qz S)
 intro _ k2 i8 h3 hS c0 j1 hcq
 have hS : St i8 k2 ([(b7, cA (Z6 .i64 (fun _ => 0)) 222)] ++ ([(b4, cA (Z6 .i64 a2) 222)] ++ ([(b1, cA (Z6 .i64 a0) 222)] ++ L))) := hS
 have Z4 := Z4.trans h3
 have b0 := b0.mono h3
 refine Z5 (vI (IntKind.i64.wrap (b3 + (IntKind.i64.wrap ((((rd a1 a4)).tmod 2) * (Y4 a0 a4)))))) (by exact (eM (j1 10 56 (by decide) rfl))) rfl (Z2 (X1 (Z0 (Z3 (vI a4) (by exact (evT (c0 11 rfl) c7)) rfl ?_))))
 refine W2 (a4 + 1) rfl rfl (IntWalk.i64_in _ (by omega)) rfl (Z5 (vI (a4 + 1)) rfl rfl (Z2 ?_))
 exact k8 _ _ ⟨(IntKind.i64.wrap (b3 + (IntKind.i64.wrap ((((rd a1 a4)).tmod 2) * (Y4 a0 a4))))), (a4 + 1), i8, b8, Z4, hS, (by omega), b0, (evT (c0 1 rfl) d0), (evT (c0 3 rfl) d8), (evT (c0 5 rfl) e8), (evT (c0 6 rfl) e9), rfl, rfl, (evT (c0 13 rfl) e1), (evT (c0 14 rfl) e2), (evT (c0 15 rfl) e3)⟩
 refine Z7 (bF g8 rfl) ?_
 refine X7 rfl ?_
 obtain rfl := oi b8
 exact k9 _ _ ⟨b3, j8, rfl, Z4, hS, b0, d0, d8, e8, e9, f0, e1, e2, e3⟩
 exact ⟨a9, (a3 + 1), h2, b8, Z4, hS, (by omega), b0, f9, g0, e0, d4, g1, rfl, e4, e5, e6⟩
 rintro _ _ ⟨d6, k3, rfl, Z4, hS, b0, h5, h6, h7, h8, h9, g9, h0, h1⟩
 dsimp only [Ex.elim] at i7
 refine X1 (Z0 ?_)
 refine W2 (a3 + 1) (by exact h1) rfl (IntWalk.i64_in _ (by omega)) rfl (Z3 (vI (a3 + 1)) rfl rfl (Z2 ?_))
 exact i5 _ _ ⟨(a3 + 1), d6, k3, i7, Z4, hS, (by omega), b0, h5, h6, h7, h8, h9, g9, h0, rfl⟩
 refine Z7 (bF g7 rfl) (Y6 (X1 (Z0 ?_)))
 refine W2 (a3 + 1) (by exact e6) rfl (IntWalk.i64_in _ (by omega)) rfl (Z3 (vI (a3 + 1)) rfl rfl (Z2 ?_))
 exact i5 _ _ ⟨(a3 + 1), a9, h2, b2, Z4, hS, (by omega), b0, f9, g0, e0, d4, g1, e4, e5, rfl⟩
 intro j4
 refine Z0 (Z3 (vI a3) rfl rfl ?_)
 obtain ⟨_, a8⟩ := gd a8
 refine V5 Zk7 (by exact c3) rfl (by omega) (by omega) rfl ?_
 refine Y0 (vI (Y4 a0 a3)) ty3 rfl (hS.get (o := cA (Z6 .i64 a0) 222) (mR (mR mL))) (J3 ([]) ([]) (by omega) (by omega)) rfl ?_
 refine Za9 (k := .i64) (a := (Y4 a0 a3)) (b := 0) rfl rfl rfl (Z3 (vB (decide (0 < (Y4 a0 a3)))) rfl rfl ?_)
 obtain ⟨b5, a8⟩ | ⟨b5, a8⟩ := ic a8
 refine Y1 rfl rfl (bT b5 rfl) (Z3 (vI a3) rfl rfl ?_)
 refine Y1 rfl rfl (bT b5 rfl) ?_
 refine V5 Zk7 (by exact c4) rfl (by omega) (by omega) rfl ?_
 refine Y1 rfl rfl (bT b5 rfl) ?_
 refine Y0 (vI (Y4 a2 a3)) ty3 rfl (hS.get (o := cA (Z6 .i64 a2) 222) (mR mL)) (J3 ([]) ([]) (by omega) (by omega)) rfl ?_
 refine Y1 rfl rfl (bT b5 rfl) ?_
 refine Za9 (k := .i64) (a := (Y4 a2 a3)) (b := 0) rfl rfl rfl ?_
 refine W6 (t := true) (vB (decide (0 < (Y4 a2 a3)))) (bT b5 rfl) ((if_pos rfl).trans rfl) rfl (Z2 ?_)
 exact j4 _ _ ⟨(decide (0 < (Y4 a2 a3))), f6, a8, Z4, hS, b0, d7, c3, c4, c8, c9, rfl, c5, c6, b6, rfl⟩
 refine Z9 rfl rfl (bF b5 rfl) rfl rfl rfl (Z9 rfl rfl (bF b5 rfl) rfl rfl rfl (Z9 rfl rfl (bF b5 rfl) rfl rfl rfl (Z9 rfl rfl (bF b5 rfl) rfl rfl rfl ?_)))
 refine W6 (t := false) (vB false) (bF b5 rfl) ((if_neg Bool.false_ne_true).trans rfl) rfl (Z2 ?_)
 exact j4 _ _ ⟨false, f6, a8, Z4, hS, b0, d7, c3, c4, c8, c9, rfl, c5, c6, b6, rfl⟩
 refine Z7 (bF g4 rfl) ?_
 refine X7 rfl ?_
 obtain rfl := oi a8
 exact k7 _ _ ⟨a9, f6, rfl, Z4, hS, c3, c4, c8, c9⟩
 exact ⟨0, 0, H, a8, Z4, hS, (by omega), b0, rfl, rfl, rfl, rfl, rfl, rfl, rfl, rfl⟩
 rintro _ _ ⟨c1, k4, rfl, Z4, hS, i0, i1, i2, i3⟩
 dsimp only [Ex.elim] at f5
 refine Z1 (Z1 (Z0 (Z3 (vI 0) rfl rfl (Z2 (Y8 ?_)))))
 obtain ⟨i9, b9, d9⟩ := bind_some f5
 refine W0 (id := 4) (fun k f w => ∃ (a5 : Int) (a6 : A8) (H1 : FH), M3 K a2 k a5 a6 = some i9 ∧ Sub H H1 ∧ St H1 w ([(b7, cA (Z6 .i64 (fun _ => 0)) 222)] ++ ([(b4, cA (Z6 .i64 a2) 222)] ++ ([(b1, cA (Z6 .i64 a6) 222)] ++ L))) ∧ 0 ≤ a5 ∧ tv f 3 = vP b1 ∧ tv f 5 = vP b4 ∧ tv f 6 = vP b7 ∧ tv f 8 = vI c1 ∧ tv f 58 = vI a5) (fun f w => ∃ (a7 : A8) (H1 : FH), i9 = .go a7 ∧ Sub H H1 ∧ St H1 w ([(b7, cA (Z6 .i64 (fun _ => 0)) 222)] ++ ([(b4, cA (Z6 .i64 a2) 222)] ++ ([(b1, cA (Z6 .i64 a7) 222)] ++ L))) ∧ tv f 3 = vP b1 ∧ tv f 6 = vP b7 ∧ tv f 8 = vI c1) rfl ?_ ?_ K ?_ ?_
 rintro f w ⟨a5, a6, H1, b9, _⟩
 rw [M3] at b9; cases b9
 rintro k _ _ l2 l3 ⟨a5, a6, k5, b9, Z4, hS, _, d1, f1, f2, f3, d3⟩
 rw [M3] at b9
 refine Z1 (Z0 ?_)
 refine W8 (k := .i64) (a := a5) (b := 8) (by exact d3) rfl rfl (Z2 (Z1 ?_))
 obtain ⟨f7, b9⟩ | ⟨f7, b9⟩ := ic b9
 refine Z8 (bT f7 rfl) (Y6 (Z1 (Y8 (Z1 (Z0 (Z3 (vI a5) (by exact d3) rfl (Z5 (vI a5) rfl rfl (Z2 ?_))))))))
 refine W7 8 (S9 [mE 61 (vI a5), mE 62 (vQ b1 (0 + (a5).toNat * 1)), mE 63 (vI (Y4 a6 a5)), mE 64 (vI a5), mE 65 (vQ b4 (0 + (a5).toNat * 1)), mE 66 (vI (Y4 a2 a5)), mE 67 (vI (IntKind.i64.wrap ((Y4 a6 a5) + (Y4 a2 a5)))), mE 68 (vQ b1 (0 + (a5).toNat * 1))]) [] mixed rfl rfl rfl hS (V9 ?_ ?_ ?_ ?_ ?_ ?_ ?_ ?_ V1) ?_
 exact X4 fun S B => Z3 (vI a5) (evT (B 12 rfl) rfl) rfl (qz S)
 exact L3 fun S B V => V5 Zk7 (evT (B 3 rfl) d1) (eM (V 0 61 rfl rfl)) (by omega) (by omega) rfl (qz S)
 exact Y7 fun S V => Y0 (vI (Y4 a6 a5)) ty3 (eM (V 1 62 rfl rfl)) (S.get (o := cA (Z6 .i64 a6) 222) (mR (mR (mR mL)))) (J3 ([]) ([]) (by omega) (by omega)) rfl (qz S)
 exact X4 fun S B => Z3 (vI a5) (evT (B 12 rfl) rfl) rfl (qz S)
 exact L3 fun S B V => V5 Zk7 (evT (B 5 rfl) f1) (eM (V 3 64 rfl rfl)) (by omega) (by omega) rfl (qz S)
 exact Y7 fun S V => Y0 (vI (Y4 a2 a5)) ty3 (eM (V 4 65 rfl rfl)) (S.get (o := cA (Z6 .i64 a2) 222) (mR (mR mL))) (J3 ([]) ([]) (by omega) (by omega)) rfl (qz S)
 exact Y7 fun S V => W2 (IntKind.i64.wrap ((Y4 a6 a5) + (Y4 a2 a5))) (eM (V 2 63 rfl rfl)) (eM (V 5 66 rfl rfl)) rfl rfl (qz S)
 exact L3 fun S B V => V5 Zk7 (evT (B 3 rfl) d1) (eM (V 0 61 rfl rfl)) (by omega) (by omega) rfl (qz S)
 intro _ k6 j0 j2 hS d5 h4 hcq
 have hS : St j0 k6 ([(b7, cA (Z6 .i64 (fun _ => 0)) 222)] ++ ([(b4, cA (Z6 .i64 a2) 222)] ++ ([(b1, cA (Z6 .i64 a6) 222)] ++ L))) := hS
 have Z4 := Z4.trans j2
 have hS := hS.perm Zb1
 refine K6 (v := vI (IntKind.i64.wrap ((Y4 a6 a5) + (Y4 a2 a5)))) (cs := (Z6 .i64 a6).toArray) (cs' := (Z6 .i64 (U8 a6 a5 (IntKind.i64.wrap ((Y4 a6 a5) + (Y4 a2 a5))))).toArray) ty3 (by exact (eM (h4 7 68 (by decide) rfl))) (by exact (eM (h4 6 67 (by decide) rfl))) hS rfl (Zs5 rfl) (by simp [Z6, N9]; omega) (Zh7 (by omega) (by omega)) ?_
 intro _ hS
 have hS := hS.perm Zb1.symm
 refine Z2 (X1 (Z0 ?_))
 refine W2 (a5 + 1) (by exact (evT (d5 58 rfl) d3)) rfl (IntWalk.i64_in _ (by omega)) rfl (Z3 (vI (a5 + 1)) rfl rfl (Z2 ?_))
 exact l2 _ _ ⟨(a5 + 1), (U8 a6 a5 (IntKind.i64.wrap ((Y4 a6 a5) + (Y4 a2 a5)))), j0, b9, Z4, hS, (by omega), (evT (d5 3 rfl) d1), (evT (d5 5 rfl) f1), (evT (d5 6 rfl) f2), (evT (d5 8 rfl) f3), rfl⟩
 refine Z7 (bF f7 rfl) ?_
 refine X7 rfl ?_
 obtain rfl := oi b9
 exact l3 _ _ ⟨a6, k5, rfl, Z4, hS, d1, f2, f3⟩
 exact ⟨0, a0, k4, b9, Z4, hS, (by omega), i0, i1, i2, i3, rfl⟩
 rintro _ _ ⟨a7, _, rfl, Z4, hS, f4, d2, i4⟩
 dsimp only [Ex.elim] at d9
 refine Z1 (Z1 (Z0 (Z3 (vI c1) (by exact i4) rfl ?_)))
 refine Zc1 ((c1).tmod 2) rfl rfl (by decide) rfl rfl ?_
 refine Za0 (k := .i64) (a := ((c1).tmod 2)) (b := 1) rfl rfl rfl (Z2 ?_)
 obtain ⟨f8, d9⟩ | ⟨f8, d9⟩ := ic d9
 refine Z8 (bT f8 rfl) (Z1 (Z0 ?_))
 refine W3 Q6 (by exact f4) (hS.get (mR (mR mL))) rfl rfl ?_
 refine W4 (v := vA (Z6 .i64 a7)) (vs := (Z6 .i64 a7).toArray) (cs := (Z6 .i64 (fun _ => 0)).toArray) Q6 (by exact d2) rfl rfl hS rfl (S8 .i64 a7) rfl ?_
 intro _ hS
 refine Z5 (vI (-1)) rfl rfl (Z2 ?_)
 refine Y9 (vs := [vA (Z6 .i64 a7), vI (-1)]) func216 ⟨⟨_, (by exact d2), P1 Q6 (hS.get mL) rfl⟩, rfl, trivial⟩ ?_
 obtain rfl := oi d9
 exact ⟨_, _, rfl, Z4, (St.dropA (St.dropA (St.dropA hS))), ⟨_, _, rfl, ⟨_, rfl, rfl⟩, rfl⟩⟩
 refine Z7 (bF f8 rfl) (Y6 (Z1 (Z0 ?_)))
 refine W3 Q6 (by exact f4) (hS.get (mR (mR mL))) rfl rfl ?_
 refine W4 (v := vA (Z6 .i64 a7)) (vs := (Z6 .i64 a7).toArray) (cs := (Z6 .i64 (fun _ => 0)).toArray) Q6 (by exact d2) rfl rfl hS rfl (S8 .i64 a7) rfl ?_
 intro _ hS
 refine Z5 (vI 1) rfl rfl (Z2 ?_)
 refine Y9 (vs := [vA (Z6 .i64 a7), vI 1]) func216 ⟨⟨_, (by exact d2), P1 Q6 (hS.get mL) rfl⟩, rfl, trivial⟩ ?_
 obtain rfl := oi d9
 exact ⟨_, _, rfl, Z4, (St.dropA (St.dropA (St.dropA hS))), ⟨_, _, rfl, ⟨_, rfl, rfl⟩, rfl⟩⟩
def Zc5 (K : Nat) (f6 : Int → Int → (List Int) → Option (Ex (List Int) ((List Int)))) (a0 : MpT) (a1 : (List A8)) (a3 : Int) (a4 : Int) (a5 : (List Int)) (b7 : Bool) : Option (Ex (List Int) ((List Int))) := (if b7 = true then (if 0 ≤ a3 then (if a3 < (a0.length : Int) then (if a4 < (a1.length : Int) then (if (eq8 ((rd a0 a3).1) (rd a1 a4)) = true then (if a4 < (a5.length : Int) then f6 (IntKind.i64.wrap (a3 + 1)) (a4 + 1) (a5.set (a4).toNat ((rd a0 a3).2)) else none) else f6 a3 (a4 + 1) a5) else none) else none) else none) else some (.go a5))
def K3 (K : Nat) (a0 : MpT) (a1 : (List A8)) : Nat → Int → Int → (List Int) → Option (Ex (List Int) ((List Int)))
 | 0, _, _, _ => none
 | k + 1, a3, a4, a5 => (if a4 < (a1.length : Int) then Zc5 K (K3 K a0 a1 k) a0 a1 a3 a4 a5 (decide (a3 < (a0.length : Int))) else Zc5 K (K3 K a0 a1 k) a0 a1 a3 a4 a5 false)
def Zn1 (K : Nat) (a0 : MpT) (a1 : (List A8)) : Option (List Int) := (if (a1.length : Int) ≤ 1099511627776 then ((K3 K a0 a1 K 0 0 (List.replicate ((a1.length : Int)).toNat (0 : Int))).bind (Ex.elim (fun r => some r) (fun s => (fun (b3 : (List Int)) => some b3) s))) else none)
theorem Ys9 {a0 : MpT} {a1 : (List A8)} {r : (List Int)} (q0 : Zn1 K a0 a1 = some r) (b4 : Y3 yT H s0 a0) (b6 : Y3 (Q9 .u8) H s1 a1) (hS : St H w L) :
 Calls prog 189 #[vA ([s0]), s1] w (Yf9 (Y5 .i64) 2 r H L) := by
 have Z4 := Sub.refl H
 refine X0 func189 rfl ntmps189 rfl ?_
 unfold Zn1 at q0
 refine Z1 (Z0 ?_)
 refine T7 (v := vA ([s0])) ([s0]).toArray rfl rfl hS rfl ?_
 intro b1 _ hS
 refine Z5 (vN) rfl rfl (Z2 (Z1 (Z0 (Z3 (s1) rfl rfl ?_))))
 have h3 := b6.bound
 refine X9 Yb1 rfl b6 rfl ?_
 obtain ⟨_, q0⟩ := gd q0
 refine Yg0 (τ := (Y5 .i64)) (0 : Int) Yb7 rfl rfl rfl (fun _ => rfl) (by omega) (by omega) hS rfl ?_
 intro u6 _ C8 g9 hS
 refine Z5 (u6) rfl rfl (Z5 (vI 0) rfl rfl (Z2 (Z1 (Z1 (Z0 (Z5 (vI 0) rfl rfl (Z2 (Y8 ?_))))))))
 obtain ⟨d4, b5, e3⟩ := bind_some q0
 refine W0 (id := 0) (fun k f w => ∃ (a3 : Int) (a4 : Int) (a5 : (List Int)) (H1 : FH) (a9 : OL) (a6 : Value), K3 K a0 a1 k a3 a4 a5 = some d4 ∧ Sub H H1 ∧ St H1 w (a9 ++ ([(b1, cA ([s0]) 45)] ++ L)) ∧ 0 ≤ a4 ∧ X8 (Y5 .i64) 2 H1 a6 a5 a9 ∧ Y3 yT H1 s0 a0 ∧ Y3 (Q9 .u8) H1 s1 a1 ∧ tv f 1 = s1 ∧ tv f 2 = vP b1 ∧ tv f 5 = a6 ∧ tv f 6 = vI a3 ∧ tv f 7 = vI a4) (fun f w => ∃ (b3 : (List Int)) (H1 : FH) (b8 : OL) (b2 : Value), d4 = .go b3 ∧ Sub H H1 ∧ St H1 w (b8 ++ ([(b1, cA ([s0]) 45)] ++ L)) ∧ X8 (Y5 .i64) 2 H1 b2 b3 b8 ∧ Y3 yT H1 s0 a0 ∧ tv f 5 = b2) rfl ?_ ?_ K ?_ ?_
 rintro f w ⟨a3, a4, a5, H1, a9, a6, b5, _⟩
 rw [K3] at b5; cases b5
 rintro k _ _ f7 h0 ⟨a3, a4, a5, e4, a9, a6, b5, Z4, hS, _, a7, b4, b6, c0, c1, c5, c2, c3⟩
 rw [K3] at b5
 refine Z1 (Z1 ?_)
 refine N4 (fun f w => ∃ (b7 : Bool) (H1 : FH), Zc5 K (K3 K a0 a1 k) a0 a1 a3 a4 a5 b7 = some d4 ∧ Sub H H1 ∧ St H1 w (a9 ++ ([(b1, cA ([s0]) 45)] ++ L)) ∧ Y3 yT H1 s0 a0 ∧ Y3 (Q9 .u8) H1 s1 a1 ∧ X8 (Y5 .i64) 2 H1 a6 a5 a9 ∧ tv f 1 = s1 ∧ tv f 2 = vP b1 ∧ tv f 5 = a6 ∧ tv f 6 = vI a3 ∧ tv f 7 = vI a4 ∧ tv f 21 = vB b7) ?_ ?_
 rintro _ _ ⟨b7, e7, a8, Z4, hS, b4, b6, a7, c9, d0, d1, d2, d3, c6⟩
 unfold Zc5 at a8
 obtain ⟨d5, a8⟩ | ⟨d5, a8⟩ := ic a8
 refine Z8 (Eq.trans (by exact c6) (congrArg vB d5)) (Y6 (Z1 (Y8 (Z1 ?_))))
 obtain ⟨_, a8⟩ := gd a8
 obtain ⟨_, a8⟩ := gd a8
 obtain ⟨f8, f9, _, _, _, g1, g2, ⟨_, _, rfl, rfl, rfl⟩, g3⟩ := b4.elem (i := a3) (by omega) (by omega)
 obtain ⟨_, a8⟩ := gd a8
 obtain ⟨g4, g5, _, _, _, e8, e9, rfl, f0⟩ := b6.elem (i := a4) (by omega) (by omega)
 refine W7 11 (S9 [mE 24 (vP b1), mE 25 (s0), mE 26 (vI a3), mE 27 (vQ f8 f9), mE 28 (vQ f8 (f9 + 0)), mE 29 (vA (Z6 .u8 ((rd a0 a3).1))), mE 30 (s1), mE 31 (vI a4), mE 32 (vQ g4 g5), mE 33 (vA (Z6 .u8 (rd a1 a4))), mE 34 (vB (eq8 ((rd a0 a3).1) (rd a1 a4)))]) [] mixed rfl rfl rfl hS (V9 ?_ ?_ ?_ ?_ ?_ ?_ ?_ ?_ (J2 ?_ ?_ (E8 ?_ V1))) ?_
 exact X4 fun S B => Y2 U3 (evT (B 2 rfl) d0) rfl (qz S)
 exact Y7 fun S V => Y0 (s0) Q7 (eM (V 0 24 rfl rfl)) (S.get (mR (mR mL))) rfl rfl (qz S)
 exact X4 fun S B => Z3 (vI a3) (evT (B 6 rfl) d2) rfl (qz S)
 exact Y7 fun S V => X5 R9 rfl (eM (V 1 25 rfl rfl)) g1 (eM (V 2 26 rfl rfl)) (by omega) (by omega) rfl (qz S)
 exact Y7 fun S V => Y2 M9 (eM (V 3 27 rfl rfl)) rfl (qz S)
 exact P0 fun s S V => V0 (Z6 .u8 ((rd a0 a3).1)) P5 (eM (V 4 28 rfl rfl)) (S.froz _ _ (s.1 _ _ g2)) rfl (Zd6 ([]) (Z6 .u8 ((rd a0 a3).1)) (([vI ((rd a0 a3).2)])) g3 (nl rfl)) rfl (qz S)
 exact X4 fun S B => Z3 (s1) (evT (B 1 rfl) c9) rfl (qz S)
 exact X4 fun S B => Z3 (vI a4) (evT (B 7 rfl) d3) rfl (qz S)
 exact Y7 fun S V => X5 Yb1 rfl (eM (V 6 30 rfl rfl)) e8 (eM (V 7 31 rfl rfl)) (by omega) (by omega) rfl (qz S)
 exact P0 fun s S V => V0 (Z6 .u8 (rd a1 a4)) P5 (eM (V 8 32 rfl rfl)) (S.froz _ _ (s.1 _ _ e9)) rfl f0 rfl (qz S)
 exact Y7 fun S V => Vf6 (a := (rd a0 a3).1) (b := (rd a1 a4)) Vh7 (eM (V 5 29 rfl rfl)) (eM (V 9 33 rfl rfl)) rfl (qz S)
 intro g6 g7 d6 c4 hS b9 f1 hcq
 have hS : St d6 g7 (a9 ++ ([(b1, cA ([s0]) 45)] ++ L)) := hS
 have Z4 := Z4.trans c4
 have b6 := b6.mono c4
 have b4 := b4.mono c4
 have a7 := a7.mono c4
 have e5 := evT (b9 1 rfl) c9
 have d7 := evT (b9 2 rfl) d0
 have d8 := evT (b9 5 rfl) d1
 have d9 := evT (b9 6 rfl) d2
 have e0 := evT (b9 7 rfl) d3
 have e6 : tv g6 34 = vB (eq8 ((rd a0 a3).1) (rd a1 a4)) := f1 10 34 (by decide) rfl
 refine Z2 ?_
 obtain ⟨c7, a8⟩ | ⟨c7, a8⟩ := ic a8
 refine Z8 (Eq.trans (by exact e6) (congrArg vB c7)) (Z1 (Z0 (Z3 (a6) (by exact d8) rfl (Z3 (vI a4) (by exact e0) rfl (Y2 U3 (by exact d7) rfl ?_)))))
 refine Y0 (s0) Q7 rfl (hS.get (mR mL)) rfl rfl (Z3 (vI a3) (by exact d9) rfl ?_)
 obtain ⟨_, _, _, _, _, f2, f3, ⟨_, _, rfl, rfl, rfl⟩, f4⟩ := b4.elem (i := a3) (by omega) (by omega)
 refine X5 R9 rfl rfl f2 rfl (by omega) (by omega) rfl (Y2 Ze3 rfl rfl ?_)
 refine Y0 (vI ((rd a0 a3).2)) ty2 rfl (hS.froz _ _ f3) (f4 8 (show 8 < 9 by decide)) rfl ?_
 obtain ⟨_, a8⟩ := gd a8
 obtain ⟨_, _, e1⟩ := a7.some (i := a4) (by omega) (by omega)
 refine P3 U5 (Eq.trans rfl e1) rfl (by omega) (by omega) rfl ?_
 refine Zd0 (τ := (Y5 .i64)) (v := a6) (u := vI ((rd a0 a3).2)) ((rd a0 a3).2) (i := a4) rfl ty2 e1 a7 hS rfl rfl (by omega) (by omega) rfl ?_
 intro _ g8 f5 hS
 refine Z2 (Z0 (Z3 (vI a3) (by exact d9) rfl ?_))
 refine W2 (IntKind.i64.wrap (a3 + 1)) rfl rfl rfl rfl (Z5 (vI (IntKind.i64.wrap (a3 + 1))) rfl rfl (Z2 (X1 (Z0 (Z3 (vI a4) (by exact e0) rfl ?_)))))
 refine W2 (a4 + 1) rfl rfl (IntWalk.i64_in _ (by omega)) rfl (Z5 (vI (a4 + 1)) rfl rfl (Z2 ?_))
 exact f7 _ _ ⟨(IntKind.i64.wrap (a3 + 1)), (a4 + 1), (a5.set (a4).toNat ((rd a0 a3).2)), d6, g8, a6, a8, Z4, hS, (by omega), f5, b4, b6, e5, d7, d8, rfl, rfl⟩
 refine Z7 (Eq.trans (by exact e6) (congrArg vB (W1 c7))) (Y6 (X1 (Z0 (Z3 (vI a4) (by exact e0) rfl ?_))))
 refine W2 (a4 + 1) rfl rfl (IntWalk.i64_in _ (by omega)) rfl (Z5 (vI (a4 + 1)) rfl rfl (Z2 ?_))
 exact f7 _ _ ⟨a3, (a4 + 1), a5, d6, a9, a6, a8, Z4, hS, (by omega), a7, b4, b6, e5, d7, d8, d9, rfl⟩
 refine Z7 (Eq.trans (by exact c6) (congrArg vB (W1 d5))) ?_
 refine X7 rfl ?_
 obtain rfl := oi a8
 exact h0 _ _ ⟨a5, e7, a9, a6, rfl, Z4, hS, a7, b4, d1⟩
 intro g0
 refine Z0 (Z3 (vI a4) (by exact c3) rfl (Z3 (s1) (by exact c0) rfl ?_))
 have h1 := b6.bound
 refine X9 Yb1 rfl b6 rfl ?_
 refine W8 (k := .i64) (a := a4) (b := (a1.length : Int)) rfl rfl rfl (Z3 (vB (decide (a4 < (a1.length : Int)))) rfl rfl ?_)
 obtain ⟨b0, b5⟩ | ⟨b0, b5⟩ := ic b5
 refine Y1 rfl rfl (bT b0 rfl) (Z3 (vI a3) (by exact c2) rfl ?_)
 refine Y1 rfl rfl (bT b0 rfl) (Y2 U3 (by exact c1) rfl ?_)
 refine Y1 rfl rfl (bT b0 rfl) ?_
 refine Y0 (s0) Q7 rfl (hS.get (mR mL)) rfl rfl ?_
 have h2 := b4.bound
 refine Y1 rfl rfl (bT b0 rfl) ?_
 refine X9 R9 rfl b4 rfl ?_
 refine Y1 rfl rfl (bT b0 rfl) ?_
 refine W8 (k := .i64) (a := a3) (b := (a0.length : Int)) rfl rfl rfl ?_
 refine W6 (t := true) (vB (decide (a3 < (a0.length : Int)))) (bT b0 rfl) ((if_pos rfl).trans rfl) rfl (Z2 ?_)
 exact g0 _ _ ⟨(decide (a3 < (a0.length : Int))), e4, b5, Z4, hS, b4, b6, a7, c0, c1, c5, c2, c3, rfl⟩
 refine Z9 rfl rfl (bF b0 rfl) rfl rfl rfl (Z9 rfl rfl (bF b0 rfl) rfl rfl rfl (Z9 rfl rfl (bF b0 rfl) rfl rfl rfl (Z9 rfl rfl (bF b0 rfl) rfl rfl rfl (Z9 rfl rfl (bF b0 rfl) rfl rfl rfl ?_))))
 refine W6 (t := false) (vB false) (bF b0 rfl) ((if_neg Bool.false_ne_true).trans rfl) rfl (Z2 ?_)
 exact g0 _ _ ⟨false, e4, b5, Z4, hS, b4, b6, a7, c0, c1, c5, c2, c3, rfl⟩
 exact ⟨0, 0, (List.replicate ((a1.length : Int)).toNat (0 : Int)), H, C8, u6, b5, Z4, hS, (by omega), g9, b4, b6, rfl, rfl, rfl, rfl, rfl⟩
 rintro _ _ ⟨b3, _, b8, b2, rfl, Z4, hS, c8, b4, e2⟩
 dsimp only [Ex.elim] at e3
 refine Z1 (Z0 (Z3 (b2) (by exact e2) rfl (Z5 (b2) rfl rfl (Z2 ?_))))
 refine Y9 (vs := [b2]) func189 ⟨rfl, trivial⟩ ?_
 have hS := St.dropMid hS
 obtain rfl := oi e3
 exact ⟨_, _, _, rfl, Z4, hS, c8⟩
def D5 (K : Nat) (c6 : Int → Option (Ex Bool (Unit))) (a1 : A8) (a3 : Int) (a6 : Int) : Option (Ex Bool (Unit)) := (if a6 < (Y4 a1 a3) then some (.ret false) else c6 (a3 + 1))
def S7 (K : Nat) (a0 : (List Int)) (a1 : A8) : Nat → Int → Option (Ex Bool (Unit))
 | 0, _ => none
 | k + 1, a3 => (if a3 < 8 then (if a3 < (a0.length : Int) then (if (((rd a0 a3)).tmod 2) = 1 then D5 K (S7 K a0 a1 k) a1 a3 1 else D5 K (S7 K a0 a1 k) a1 a3 20) else D5 K (S7 K a0 a1 k) a1 a3 0) else some (.go ()))
def Zk0 (K : Nat) (a0 : (List Int)) (a1 : A8) : Option Bool := ((S7 K a0 a1 K 0).bind (Ex.elim (fun r => some r) (fun s => some true)))
theorem Yq5 {a0 : (List Int)} {a1 : A8} {r : Bool} (q0 : Zk0 K a0 a1 = some r) (b0 : Y3 (Y5 .i64) H s0 a0) (hS : St H w L) :
 Calls prog 211 #[s0, vA (Z6 .u8 a1)] w (U7 (fun v G => R.bool.p G v r) H L) := by
 have Z4 := Sub.refl H
 refine X0 func211 rfl ntmps211 rfl ?_
 unfold Zk0 at q0
 refine Z1 (Z0 ?_)
 refine T7 (v := vA (Z6 .u8 a1)) (Z6 .u8 a1).toArray rfl rfl hS rfl ?_
 intro b1 _ hS
 refine Z5 (vB false) rfl rfl (Z2 (Z1 (Z1 (Z0 ?_))))
 refine W3 P5 rfl (hS.get mL) rfl rfl (Z3 (vI 0) rfl rfl (Z2 (Y8 ?_)))
 obtain ⟨b4, a4, b2⟩ := bind_some q0
 refine W0 (id := 0) (fun k f w => ∃ (a3 : Int) (H1 : FH), S7 K a0 a1 k a3 = some b4 ∧ Sub H H1 ∧ St H1 w ([(b1, cA (Z6 .u8 a1) 72)] ++ L) ∧ 0 ≤ a3 ∧ Y3 (Y5 .i64) H1 s0 a0 ∧ tv f 0 = s0 ∧ tv f 8 = vA (Z6 .u8 a1) ∧ tv f 9 = vI a3) (fun f w => ∃ (H1 : FH), b4 = .go () ∧ Sub H H1 ∧ St H1 w ([(b1, cA (Z6 .u8 a1) 72)] ++ L)) rfl ?_ ?_ K ?_ ?_
 rintro f w ⟨a3, H1, a4, _⟩
 rw [S7] at a4; cases a4
 rintro k _ _ c7 c8 ⟨a3, b3, a4, Z4, hS, _, b0, a7, a8, a5⟩
 rw [S7] at a4
 refine Z1 (Z0 ?_)
 refine W8 (k := .i64) (a := a3) (b := 8) (by exact a5) rfl rfl (Z2 (Z1 ?_))
 obtain ⟨b5, a4⟩ | ⟨b5, a4⟩ := ic a4
 refine Z8 (bT b5 rfl) (Y6 (Z1 (Y8 (Z1 (Z0 (Z3 (vI a3) (by exact a5) rfl ?_))))))
 refine Yl9 (Value.int .u8 (Y4 a1 a3)) Ze8 (by exact a8) (by exact a5) (by omega) (by omega) (Yk2 (by omega) (by omega)) rfl (Z5 (vI a3) rfl rfl (Z5 (Value.int .u8 (Y4 a1 a3)) rfl rfl (Z2 (Z1 (Z0 (Z5 (Value.int .u8 0) rfl rfl (Z2 (Z1 (Z1 (Z0 (Z3 (vI a3) rfl rfl (Z3 (s0) (by exact a7) rfl ?_))))))))))))
 have d2 := b0.bound
 refine X9 U5 rfl b0 rfl ?_
 refine W8 (k := .i64) (a := a3) (b := (a0.length : Int)) rfl rfl rfl (Z2 ?_)
 refine N4 (fun f w => ∃ (a6 : Int) (H1 : FH), D5 K (S7 K a0 a1 k) a1 a3 a6 = some b4 ∧ Sub H H1 ∧ St H1 w ([(b1, cA (Z6 .u8 a1) 72)] ++ L) ∧ Y3 (Y5 .i64) H1 s0 a0 ∧ tv f 0 = s0 ∧ tv f 6 = Value.int .u8 (Y4 a1 a3) ∧ tv f 7 = Value.int .u8 a6 ∧ tv f 8 = vA (Z6 .u8 a1) ∧ tv f 9 = vI a3) ?_ ?_
 rintro _ _ ⟨a6, c5, a9, Z4, hS, b0, b6, b7, b8, b9, c0⟩
 unfold D5 at a9
 refine Z1 (Z0 (Z3 (Value.int .u8 (Y4 a1 a3)) (by exact b7) rfl (Z3 (Value.int .u8 a6) (by exact b8) rfl ?_)))
 refine Za9 (k := .u8) (a := (Y4 a1 a3)) (b := a6) rfl rfl rfl (Z2 ?_)
 obtain ⟨c1, a9⟩ | ⟨c1, a9⟩ := ic a9
 refine Z8 (bT c1 rfl) (Z1 (Z0 (Z5 (vB false) rfl rfl (Z2 ?_))))
 refine Y9 (vs := [vB false]) func211 ⟨rfl, trivial⟩ ?_
 obtain rfl := oi a9
 dsimp only [Ex.elim] at b2
 obtain rfl := oi b2
 exact ⟨_, _, rfl, Z4, (St.dropA hS), rfl⟩
 refine Z7 (bF c1 rfl) (Y6 (X1 (Z0 ?_)))
 refine W2 (a3 + 1) (by exact c0) rfl (IntWalk.i64_in _ (by omega)) rfl (Z3 (vI (a3 + 1)) rfl rfl (Z2 ?_))
 exact c7 _ _ ⟨(a3 + 1), c5, a9, Z4, hS, (by omega), b0, b6, b9, rfl⟩
 intro c2
 obtain ⟨c3, a4⟩ | ⟨c3, a4⟩ := ic a4
 refine Z8 (bT c3 rfl) (Z1 (Z0 (Z5 (Value.int .u8 20) rfl rfl (Z2 (Z1 (Z0 (Z3 (s0) (by exact a7) rfl (Z3 (vI a3) rfl rfl ?_))))))))
 obtain ⟨_, _, _, _, _, c9, d0, rfl, d1⟩ := b0.elem (i := a3) (by omega) (by omega)
 refine X5 U5 rfl rfl c9 rfl (by omega) (by omega) rfl ?_
 refine Y0 (vI (rd a0 a3)) ty2 rfl (hS.froz _ _ d0) (d1 0 (show 0 < 1 by decide)) rfl ?_
 refine Zc1 (((rd a0 a3)).tmod 2) rfl rfl (by decide) rfl rfl ?_
 refine Za0 (k := .i64) (a := (((rd a0 a3)).tmod 2)) (b := 1) rfl rfl rfl (Z2 ?_)
 obtain ⟨c4, a4⟩ | ⟨c4, a4⟩ := ic a4
 refine Z8 (bT c4 rfl) (Z0 (Z5 (Value.int .u8 1) rfl rfl (Z2 ?_)))
 exact c2 _ _ ⟨1, b3, a4, Z4, hS, b0, a7, rfl, rfl, a8, a5⟩
 refine Z7 (bF c4 rfl) (Y6 ?_)
 exact c2 _ _ ⟨20, b3, a4, Z4, hS, b0, a7, rfl, rfl, a8, a5⟩
 refine Z7 (bF c3 rfl) (Y6 ?_)
 exact c2 _ _ ⟨0, b3, a4, Z4, hS, b0, a7, rfl, rfl, a8, a5⟩
 refine Z7 (bF b5 rfl) ?_
 refine X7 rfl ?_
 obtain rfl := oi a4
 exact c8 _ _ ⟨b3, rfl, Z4, hS⟩
 exact ⟨0, H, a4, Z4, hS, (by omega), b0, rfl, rfl, rfl⟩
 rintro _ _ ⟨_, rfl, Z4, hS⟩
 dsimp only [Ex.elim] at b2
 refine Z1 (Z0 (Z5 (vB true) rfl rfl (Z2 ?_)))
 refine Y9 (vs := [vB true]) func211 ⟨rfl, trivial⟩ ?_
 obtain rfl := oi b2
 exact ⟨_, _, rfl, Z4, (St.dropA hS), rfl⟩
def N0 (K : Nat) (a0 : A8) (a1 : A8) : Nat → Int → Option (Ex Bool (Unit))
 | 0, _ => none
 | k + 1, a3 => (if a3 < 8 then (if (Y4 a0 a3) = (Y4 a1 a3) then N0 K a0 a1 k (a3 + 1) else some (.ret false)) else some (.go ()))
def Zk2 (K : Nat) (a0 : A8) (a1 : A8) : Option Bool := ((N0 K a0 a1 K 0).bind (Ex.elim (fun r => some r) (fun s => some true)))
theorem Yq7 {a0 : A8} {a1 : A8} {r : Bool} (q0 : Zk2 K a0 a1 = some r) (hS : St H w L) :
 Calls prog 239 #[vA (Z6 .u8 a0), vA (Z6 .u8 a1)] w (U7 (fun v G => R.bool.p G v r) H L) := by
 have Z4 := Sub.refl H
 refine X0 func239 rfl ntmps239 rfl ?_
 unfold Zk2 at q0
 refine Z1 (Z0 ?_)
 refine T7 (v := vA (Z6 .u8 a0)) (Z6 .u8 a0).toArray rfl rfl hS rfl ?_
 intro b1 _ hS
 refine T7 (v := vA (Z6 .u8 a1)) (Z6 .u8 a1).toArray rfl rfl hS rfl ?_
 intro b4 _ hS
 refine Z5 (vB false) rfl rfl (Z2 (Z1 (Z1 (Z0 (Z5 (vI 0) rfl rfl (Z2 (Y8 ?_)))))))
 obtain ⟨b2, a4, a8⟩ := bind_some q0
 refine W0 (id := 0) (fun k f w => ∃ (a3 : Int) (H1 : FH), N0 K a0 a1 k a3 = some b2 ∧ Sub H H1 ∧ St H1 w ([(b4, cA (Z6 .u8 a1) 72)] ++ ([(b1, cA (Z6 .u8 a0) 72)] ++ L)) ∧ 0 ≤ a3 ∧ tv f 2 = vP b1 ∧ tv f 3 = vP b4 ∧ tv f 5 = vI a3) (fun f w => ∃ (H1 : FH), b2 = .go () ∧ Sub H H1 ∧ St H1 w ([(b4, cA (Z6 .u8 a1) 72)] ++ ([(b1, cA (Z6 .u8 a0) 72)] ++ L))) rfl ?_ ?_ K ?_ ?_
 rintro f w ⟨a3, H1, a4, _⟩
 rw [N0] at a4; cases a4
 rintro k _ _ c0 c1 ⟨a3, b7, a4, Z4, hS, _, a6, a7, a5⟩
 rw [N0] at a4
 refine Z1 (Z1 (Z0 (Z3 (vI a3) (by exact a5) rfl ?_)))
 refine W8 (k := .i64) (a := a3) (b := 8) rfl rfl rfl (Z2 ?_)
 obtain ⟨b3, a4⟩ | ⟨b3, a4⟩ := ic a4
 refine Z8 (bT b3 rfl) (Y6 (Z1 (Y8 (Z1 ?_))))
 refine W7 7 (S9 [mE 10 (vI a3), mE 11 (vQ b1 (0 + (a3).toNat * 1)), mE 12 (Value.int .u8 (Y4 a0 a3)), mE 13 (vI a3), mE 14 (vQ b4 (0 + (a3).toNat * 1)), mE 15 (Value.int .u8 (Y4 a1 a3)), mE 16 (vB (!decide ((Y4 a0 a3) = (Y4 a1 a3))))]) [] mixed rfl rfl rfl hS (J9 ?_ ?_ ?_ ?_ (J2 ?_ ?_ (E8 ?_ V1))) ?_
 exact X4 fun S B => Z3 (vI a3) (evT (B 5 rfl) a5) rfl (qz S)
 exact L3 fun S B V => V5 Ze8 (evT (B 2 rfl) a6) (eM (V 0 10 rfl rfl)) (by omega) (by omega) rfl (qz S)
 exact Y7 fun S V => Y0 (Value.int .u8 (Y4 a0 a3)) ty5 (eM (V 1 11 rfl rfl)) (S.get (o := cA (Z6 .u8 a0) 72) (mR (mR mL))) (J3 ([]) ([]) (by omega) (by omega)) rfl (qz S)
 exact X4 fun S B => Z3 (vI a3) (evT (B 5 rfl) a5) rfl (qz S)
 exact L3 fun S B V => V5 Ze8 (evT (B 3 rfl) a7) (eM (V 3 13 rfl rfl)) (by omega) (by omega) rfl (qz S)
 exact Y7 fun S V => Y0 (Value.int .u8 (Y4 a1 a3)) ty5 (eM (V 4 14 rfl rfl)) (S.get (o := cA (Z6 .u8 a1) 72) (mR mL)) (J3 ([]) ([]) (by omega) (by omega)) rfl (qz S)
 exact Y7 fun S V => M0 (k := .u8) (a := (Y4 a0 a3)) (b := (Y4 a1 a3)) (eM (V 2 12 rfl rfl)) (eM (V 5 15 rfl rfl)) rfl (qz S)
 intro c2 c3 b5 b8 hS a9 b9 hcq
 have hS : St b5 c3 ([(b4, cA (Z6 .u8 a1) 72)] ++ ([(b1, cA (Z6 .u8 a0) 72)] ++ L)) := hS
 have Z4 := Z4.trans b8
 have b6 : tv c2 16 = vB (!decide ((Y4 a0 a3) = (Y4 a1 a3))) := b9 6 16 (by decide) rfl
 refine Z2 ?_
 obtain ⟨b0, a4⟩ | ⟨b0, a4⟩ := ic a4
 refine Z7 (bN b0 (by exact b6)) (Y6 (X1 (Z0 (Z3 (vI a3) (by exact (evT (a9 5 rfl) a5)) rfl ?_))))
 refine W2 (a3 + 1) rfl rfl (IntWalk.i64_in _ (by omega)) rfl (Z5 (vI (a3 + 1)) rfl rfl (Z2 ?_))
 exact c0 _ _ ⟨(a3 + 1), b5, a4, Z4, hS, (by omega), (evT (a9 2 rfl) a6), (evT (a9 3 rfl) a7), rfl⟩
 refine Z8 (bO b0 (by exact b6)) (Z1 (Z0 (Z5 (vB false) rfl rfl (Z2 ?_))))
 refine Y9 (vs := [vB false]) func239 ⟨rfl, trivial⟩ ?_
 obtain rfl := oi a4
 dsimp only [Ex.elim] at a8
 obtain rfl := oi a8
 exact ⟨_, _, rfl, Z4, (St.dropA (St.dropA hS)), rfl⟩
 refine Z7 (bF b3 rfl) ?_
 refine X7 rfl ?_
 obtain rfl := oi a4
 exact c1 _ _ ⟨b7, rfl, Z4, hS⟩
 exact ⟨0, H, a4, Z4, hS, (by omega), rfl, rfl, rfl⟩
 rintro _ _ ⟨_, rfl, Z4, hS⟩
 dsimp only [Ex.elim] at a8
 refine Z1 (Z0 (Z5 (vB true) rfl rfl (Z2 ?_)))
 refine Y9 (vs := [vB true]) func239 ⟨rfl, trivial⟩ ?_
 obtain rfl := oi a8
 exact ⟨_, _, rfl, Z4, (St.dropA (St.dropA hS)), rfl⟩
def Zf2 (K : Nat) (c3 : Int → Int → Int → Option (Ex Int (Int))) (a1 : Int) (a3 : Int) (a6 : Int) : Option (Ex Int (Int)) := c3 a6 (((IntKind.i64.wrap (a1 * a1))).tmod 10007) (IntKind.i64.wrap ((a3).tdiv 2))
def P2 (K : Nat) : Nat → Int → Int → Int → Option (Ex Int (Int))
 | 0, _, _, _ => none
 | k + 1, a4, a1, a3 => (if 0 < a3 then (if ((a3).tmod 2) = 1 then Zf2 K (P2 K k) a1 a3 (((IntKind.i64.wrap (a4 * a1))).tmod 10007) else Zf2 K (P2 K k) a1 a3 a4) else some (.go a4))
def Zk3 (K : Nat) (a0 : Int) : Option Int := ((P2 K K 1 a0 10005).bind (Ex.elim (fun r => some r) (fun s => (fun (a7 : Int) => some a7) s)))
theorem Yr0 {a0 : Int} {r : Int} (q0 : Zk3 K a0 = some r) (hS : St H w L) :
 Calls prog 245 #[vI a0] w (U7 (fun v G => (R.int .i64).p G v r) H L) := by
 have Z4 := Sub.refl H
 refine X0 func245 rfl ntmps245 rfl ?_
 unfold Zk3 at q0
 refine Z1 (Z0 (Z5 (vI 0) rfl rfl (Z2 (Z1 (Z0 (Z3 (vI a0) rfl rfl (Z5 (vI 1) rfl rfl (Z5 (vI a0) rfl rfl (Z2 (Z1 (Z1 (Z0 (Z5 (vI 10005) rfl rfl (Z2 (Y8 ?_)))))))))))))))
 obtain ⟨b2, a5, b6⟩ := bind_some q0
 refine W0 (id := 0) (fun k f w => ∃ (a4 : Int) (a1 : Int) (a3 : Int) (H1 : FH), P2 K k a4 a1 a3 = some b2 ∧ Sub H H1 ∧ St H1 w (L) ∧ tv f 3 = vI a4 ∧ tv f 4 = vI a1 ∧ tv f 5 = vI a3) (fun f w => ∃ (a7 : Int) (H1 : FH), b2 = .go a7 ∧ Sub H H1 ∧ St H1 w (L) ∧ tv f 3 = vI a7) rfl ?_ ?_ K ?_ ?_
 rintro f w ⟨a4, a1, a3, H1, a5, _⟩
 rw [P2] at a5; cases a5
 rintro k _ _ c4 c5 ⟨a4, a1, a3, b3, a5, Z4, hS, a9, b0, a8⟩
 rw [P2] at a5
 refine Z1 (Z1 (Z0 (Z3 (vI a3) (by exact a8) rfl ?_)))
 refine Za9 (k := .i64) (a := a3) (b := 0) rfl rfl rfl (Z2 ?_)
 obtain ⟨b7, a5⟩ | ⟨b7, a5⟩ := ic a5
 refine Z8 (bT b7 rfl) (Y6 (Z1 (Y8 (Z1 (Z1 (Z0 (Z3 (vI a3) (by exact a8) rfl ?_)))))))
 refine Zc1 ((a3).tmod 2) rfl rfl (by decide) rfl rfl ?_
 refine Za0 (k := .i64) (a := ((a3).tmod 2)) (b := 1) rfl rfl rfl (Z2 ?_)
 refine N4 (fun f w => ∃ (a6 : Int) (H1 : FH), Zf2 K (P2 K k) a1 a3 a6 = some b2 ∧ Sub H H1 ∧ St H1 w (L) ∧ tv f 3 = vI a6 ∧ tv f 4 = vI a1 ∧ tv f 5 = vI a3) ?_ ?_
 rintro _ _ ⟨a6, c1, b4, Z4, hS, b8, b1, b9⟩
 unfold Zf2 at b4
 refine Z0 (Z3 (vI a1) (by exact b1) rfl (Z3 (vI a1) (by exact b1) rfl ?_))
 refine Zg4 (IntKind.i64.wrap (a1 * a1)) rfl rfl rfl rfl ?_
 refine Zc1 (((IntKind.i64.wrap (a1 * a1))).tmod 10007) rfl rfl (by decide) rfl rfl (Z5 (vI (((IntKind.i64.wrap (a1 * a1))).tmod 10007)) rfl rfl (Z2 (X1 (Z0 (Z3 (vI a3) (by exact b9) rfl ?_)))))
 refine Xq0 (IntKind.i64.wrap ((a3).tdiv 2)) rfl rfl (by decide) rfl rfl (Z5 (vI (IntKind.i64.wrap ((a3).tdiv 2))) rfl rfl (Z2 ?_))
 exact c4 _ _ ⟨a6, (((IntKind.i64.wrap (a1 * a1))).tmod 10007), (IntKind.i64.wrap ((a3).tdiv 2)), c1, b4, Z4, hS, b8, rfl, rfl⟩
 intro c2
 obtain ⟨c0, a5⟩ | ⟨c0, a5⟩ := ic a5
 refine Z8 (bT c0 rfl) (Z0 (Z3 (vI a4) (by exact a9) rfl (Z3 (vI a1) (by exact b0) rfl ?_)))
 refine Zg4 (IntKind.i64.wrap (a4 * a1)) rfl rfl rfl rfl ?_
 refine Zc1 (((IntKind.i64.wrap (a4 * a1))).tmod 10007) rfl rfl (by decide) rfl rfl (Z5 (vI (((IntKind.i64.wrap (a4 * a1))).tmod 10007)) rfl rfl (Z2 ?_))
 exact c2 _ _ ⟨(((IntKind.i64.wrap (a4 * a1))).tmod 10007), b3, a5, Z4, hS, rfl, b0, a8⟩
 refine Z7 (bF c0 rfl) (Y6 ?_)
 exact c2 _ _ ⟨a4, b3, a5, Z4, hS, a9, b0, a8⟩
 refine Z7 (bF b7 rfl) ?_
 refine X7 rfl ?_
 obtain rfl := oi a5
 exact c5 _ _ ⟨a4, b3, rfl, Z4, hS, a9⟩
 exact ⟨1, a0, 10005, H, a5, Z4, hS, rfl, rfl, rfl⟩
 rintro _ _ ⟨a7, _, rfl, Z4, hS, b5⟩
 dsimp only [Ex.elim] at b6
 refine Z1 (Z0 (Z3 (vI a7) (by exact b5) rfl (Z5 (vI a7) rfl rfl (Z2 ?_))))
 refine Y9 (vs := [vI a7]) func245 ⟨rfl, trivial⟩ ?_
 obtain rfl := oi b6
 exact ⟨_, _, rfl, Z4, hS, rfl⟩
def I3 (K : Nat) (a0 : A8) : Nat → Int → A8 → Option (Ex A8 (A8))
 | 0, _, _ => none
 | k + 1, a1, a3 => (if a1 < 8 then I3 K a0 k (a1 + 1) (U8 a3 a1 (Y4 a0 a1)) else some (.go a3))
def Zj9 (K : Nat) (a0 : A8) : Option A8 := ((I3 K a0 K 0 (fun _ => 0)).bind (Ex.elim (fun r => some r) (fun s => (fun (a4 : A8) => some a4) s)))
theorem Yo9 {a0 : A8} {r : A8} (q0 : Zj9 K a0 = some r) (hS : St H w L) :
 Calls prog 238 #[vA (Z6 .u8 a0)] w (U7 (fun v G => (R.agg (Q9 .u8)).p G v r) H L) := by
 have Z4 := Sub.refl H
 refine X0 func238 rfl ntmps238 rfl ?_
 unfold Zj9 at q0
 refine Z1 (Z0 ?_)
 refine T7 (v := vA (Z6 .u8 a0)) (Z6 .u8 a0).toArray rfl rfl hS rfl ?_
 intro b1 _ hS
 refine U4 (z := vA (Z6 .u8 (fun _ => 0))) (Z6 .u8 (fun _ => 0)).toArray Yl0.zero rfl hS rfl ?_
 intro b4 _ hS
 refine Z2 (Z1 (Z0 ?_))
 refine U4 (z := vA (Z6 .u8 (fun _ => 0))) (Z6 .u8 (fun _ => 0)).toArray Yl0.zero rfl hS rfl ?_
 intro b7 _ hS
 refine Z2 (Z1 (Z1 (Z0 (Z5 (vI 0) rfl rfl (Z2 (Y8 ?_))))))
 obtain ⟨b5, a5, b6⟩ := bind_some q0
 refine W0 (id := 0) (fun k f w => ∃ (a1 : Int) (a3 : A8) (H1 : FH), I3 K a0 k a1 a3 = some b5 ∧ Sub H H1 ∧ St H1 w ([(b7, cA (Z6 .u8 a3) 72)] ++ ([(b4, cA (Z6 .u8 (fun _ => 0)) 72)] ++ ([(b1, cA (Z6 .u8 a0) 71)] ++ L))) ∧ 0 ≤ a1 ∧ tv f 1 = vP b1 ∧ tv f 2 = vP b4 ∧ tv f 3 = vP b7 ∧ tv f 4 = vI a1) (fun f w => ∃ (a4 : A8) (H1 : FH), b5 = .go a4 ∧ Sub H H1 ∧ St H1 w ([(b7, cA (Z6 .u8 a4) 72)] ++ ([(b4, cA (Z6 .u8 (fun _ => 0)) 72)] ++ ([(b1, cA (Z6 .u8 a0) 71)] ++ L))) ∧ tv f 2 = vP b4 ∧ tv f 3 = vP b7) rfl ?_ ?_ K ?_ ?_
 rintro f w ⟨a1, a3, H1, a5, _⟩
 rw [I3] at a5; cases a5
 rintro k _ _ b9 c0 ⟨a1, a3, b8, a5, Z4, hS, _, a8, a9, a7, a6⟩
 rw [I3] at a5
 refine Z1 (Z1 (Z0 (Z3 (vI a1) (by exact a6) rfl ?_)))
 refine W8 (k := .i64) (a := a1) (b := 8) rfl rfl rfl (Z2 ?_)
 obtain ⟨b2, a5⟩ | ⟨b2, a5⟩ := ic a5
 refine Z8 (bT b2 rfl) (Y6 (Z1 (Y8 (Z0 (Z3 (vI a1) (by exact a6) rfl (Z3 (vI a1) (by exact a6) rfl ?_))))))
 refine V5 Vj3 (by exact a8) rfl (by omega) (by omega) rfl ?_
 refine Y0 (Value.int .u8 (Y4 a0 a1)) ty5 rfl (hS.get (o := cA (Z6 .u8 a0) 71) (mR (mR mL))) (J3 ([]) ([]) (by omega) (by omega)) rfl ?_
 refine V5 Ze8 (by exact a7) rfl (by omega) (by omega) rfl ?_
 refine K6 (v := Value.int .u8 (Y4 a0 a1)) (cs := (Z6 .u8 a3).toArray) (cs' := (Z6 .u8 (U8 a3 a1 (Y4 a0 a1))).toArray) ty5 rfl rfl hS rfl (Zs5 rfl) (by simp [Z6, N9]; omega) (Zh7 (by omega) (by omega)) ?_
 intro _ hS
 refine Z2 (X1 (Z0 (Z3 (vI a1) (by exact a6) rfl ?_)))
 refine W2 (a1 + 1) rfl rfl (IntWalk.i64_in _ (by omega)) rfl (Z5 (vI (a1 + 1)) rfl rfl (Z2 ?_))
 exact b9 _ _ ⟨(a1 + 1), (U8 a3 a1 (Y4 a0 a1)), b8, a5, Z4, hS, (by omega), a8, a9, a7, rfl⟩
 refine Z7 (bF b2 rfl) ?_
 refine X7 rfl ?_
 obtain rfl := oi a5
 exact c0 _ _ ⟨a3, b8, rfl, Z4, hS, a9, a7⟩
 exact ⟨0, (fun _ => 0), H, a5, Z4, hS, (by omega), rfl, rfl, rfl, rfl⟩
 rintro _ _ ⟨a4, _, rfl, Z4, hS, b0, b3⟩
 dsimp only [Ex.elim] at b6
 refine Z1 (Z0 ?_)
 refine W3 P5 (by exact b3) (hS.get mL) rfl rfl ?_
 have hS := hS.perm R6
 refine W4 (v := vA (Z6 .u8 a4)) (vs := (Z6 .u8 a4).toArray) (cs := (Z6 .u8 (fun _ => 0)).toArray) P5 (by exact b0) rfl rfl hS rfl (S8 .u8 a4) rfl ?_
 intro _ hS
 have hS := hS.perm R6.symm
 refine Z2 ?_
 refine Y9 (vs := [vA (Z6 .u8 a4)]) func238 ⟨⟨_, (by exact b0), P1 P5 (hS.get (mR mL)) rfl⟩, trivial⟩ ?_
 obtain rfl := oi b6
 exact ⟨_, _, rfl, Z4, (St.dropA (St.dropA (St.dropA hS))), ⟨_, rfl, rfl⟩⟩
def Zc0 (K : Nat) (a0 : (List Int)) : Nat → Int → Option (Ex Int (Unit))
 | 0, _ => none
 | k + 1, a1 => (if a1 < (a0.length : Int) then (if (rd a0 a1) = 0 then Zc0 K a0 k (a1 + 1) else some (.ret (rd a0 a1))) else some (.go ()))
def Zv8 (K : Nat) (a0 : (List Int)) : Option Int := ((Zc0 K a0 K 0).bind (Ex.elim (fun r => some r) (fun s => some 0)))
theorem Xg5 {a0 : (List Int)} {r : Int} (q0 : Zv8 K a0 = some r) (a5 : Y3 (Y5 .i64) H s0 a0) (hS : St H w L) :
 Calls prog 78 #[s0] w (U7 (fun v G => (R.int .i64).p G v r) H L) := by
 have Z4 := Sub.refl H
 refine X0 func78 rfl ntmps78 rfl ?_
 unfold Zv8 at q0
 refine Z1 (Z0 (Z5 (vI 0) rfl rfl (Z2 (Z1 (Z1 (Z0 (Z3 (s0) rfl rfl ?_)))))))
 have b8 := a5.bound
 refine X9 U5 rfl a5 rfl (Z3 (vI 0) rfl rfl (Z2 (Y8 ?_)))
 obtain ⟨a9, a3, a8⟩ := bind_some q0
 refine W0 (id := 0) (fun k f w => ∃ (a1 : Int) (H1 : FH), Zc0 K a0 k a1 = some a9 ∧ Sub H H1 ∧ St H1 w (L) ∧ 0 ≤ a1 ∧ Y3 (Y5 .i64) H1 s0 a0 ∧ tv f 5 = s0 ∧ tv f 6 = vI (a0.length : Int) ∧ tv f 7 = vI a1) (fun f w => ∃ (H1 : FH), a9 = .go () ∧ Sub H H1 ∧ St H1 w (L)) rfl ?_ ?_ K ?_ ?_
 rintro f w ⟨a1, H1, a3, _⟩
 rw [Zc0] at a3; cases a3
 rintro k _ _ b3 b4 ⟨a1, b0, a3, Z4, hS, _, a5, a6, a7, a4⟩
 rw [Zc0] at a3
 refine Z1 (Z0 ?_)
 refine W8 (k := .i64) (a := a1) (b := (a0.length : Int)) (by exact a4) (by exact a7) rfl (Z2 (Z1 ?_))
 obtain ⟨b1, a3⟩ | ⟨b1, a3⟩ := ic a3
 refine Z8 (bT b1 rfl) (Y6 (Z1 (Y8 (Z1 (Z0 ?_)))))
 obtain ⟨_, _, _, _, _, b5, b6, rfl, b7⟩ := a5.elem (i := a1) (by omega) (by omega)
 refine X5 U5 rfl (by exact a6) b5 (by exact a4) (by omega) (by omega) rfl ?_
 refine Y0 (vI (rd a0 a1)) ty2 rfl (hS.froz _ _ b6) (b7 0 (show 0 < 1 by decide)) rfl (Z5 (vI (rd a0 a1)) rfl rfl (Z2 (Z1 (Z0 (Z3 (vI (rd a0 a1)) rfl rfl ?_)))))
 refine M0 (k := .i64) (a := (rd a0 a1)) (b := 0) rfl rfl rfl (Z2 ?_)
 obtain ⟨b2, a3⟩ | ⟨b2, a3⟩ := ic a3
 refine Z7 (bN b2 rfl) (Y6 (X1 (Z0 ?_)))
 refine W2 (a1 + 1) (by exact a4) rfl (IntWalk.i64_in _ (by omega)) rfl (Z3 (vI (a1 + 1)) rfl rfl (Z2 ?_))
 exact b3 _ _ ⟨(a1 + 1), b0, a3, Z4, hS, (by omega), a5, a6, a7, rfl⟩
 refine Z8 (bO b2 rfl) (Z1 (Z0 (Z3 (vI (rd a0 a1)) rfl rfl (Z5 (vI (rd a0 a1)) rfl rfl (Z2 ?_)))))
 refine Y9 (vs := [vI (rd a0 a1)]) func78 ⟨rfl, trivial⟩ ?_
 obtain rfl := oi a3
 dsimp only [Ex.elim] at a8
 obtain rfl := oi a8
 exact ⟨_, _, rfl, Z4, hS, rfl⟩
 refine Z7 (bF b1 rfl) ?_
 refine X7 rfl ?_
 obtain rfl := oi a3
 exact b4 _ _ ⟨b0, rfl, Z4, hS⟩
 exact ⟨0, H, a3, Z4, hS, (by omega), a5, rfl, rfl, rfl⟩
 rintro _ _ ⟨_, rfl, Z4, hS⟩
 dsimp only [Ex.elim] at a8
 refine Z1 (Z0 (Z5 (vI 0) rfl rfl (Z2 ?_)))
 refine Y9 (vs := [vI 0]) func78 ⟨rfl, trivial⟩ ?_
 obtain rfl := oi a8
 exact ⟨_, _, rfl, Z4, hS, rfl⟩
def Zq0 (K : Nat) (a0 : Bool) (a1 : Int) : Option Int := (if a0 = true then some a1 else some 0)
theorem Ye3 {a0 : Bool} {a1 : Int} {r : Int} (q0 : Zq0 K a0 a1 = some r) (hS : St H w L) :
 Calls prog 80 #[vB a0, vI a1] w (U7 (fun v G => (R.int .i64).p G v r) H L) := by
 have Z4 := Sub.refl H
 refine X0 func80 rfl ntmps80 rfl ?_
 unfold Zq0 at q0
 refine Z1 (Z0 (Z5 (vI 0) rfl rfl (Z2 (Z1 (Z1 (Z0 (Z3 (vB a0) rfl rfl (Z2 ?_))))))))
 obtain ⟨a3, q0⟩ | ⟨a3, q0⟩ := ic q0
 refine Z8 (Eq.trans rfl (congrArg vB a3)) (Z1 (Z0 (Z3 (vI a1) rfl rfl (Z5 (vI a1) rfl rfl (Z2 ?_)))))
 refine Y9 (vs := [vI a1]) func80 ⟨rfl, trivial⟩ ?_
 obtain rfl := oi q0
 exact ⟨_, _, rfl, Z4, hS, rfl⟩
 refine Z7 (Eq.trans rfl (congrArg vB (W1 a3))) (Y6 (Z1 (Z0 (Z5 (vI 0) rfl rfl (Z2 ?_)))))
 refine Y9 (vs := [vI 0]) func80 ⟨rfl, trivial⟩ ?_
 obtain rfl := oi q0
 exact ⟨_, _, rfl, Z4, hS, rfl⟩
end Go.Proofs.YtabofnehiclkiaaGreat
