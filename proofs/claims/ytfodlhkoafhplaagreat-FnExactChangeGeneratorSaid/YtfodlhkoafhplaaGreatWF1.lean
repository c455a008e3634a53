/- Walks of functions: each computes its pure function, if that gives a value. -/
import Derived.Test.YtfodlhkoafhplaaGreatWTy
namespace Go.Proofs.YtfodlhkoafhplaaGreat
open Go
set_option linter.unusedSimpArgs false
set_option linter.unusedVariables false
set_option maxRecDepth 100000
set_option maxHeartbeats 8000000
def K4 (K : Nat) (a0 : A8) (a1 : (List Int)) : Nat → Int → Int → Option (Ex (A8 × Int) (Int))
 | 0, _, _ => none
 | k + 1, b3, a5 => (if a5 < (a1.length : Int) then (if a5 < 8 then K4 K a0 a1 k (IntKind.i64.wrap (b3 + (IntKind.i64.wrap ((((rd a1 a5)).tmod 2) * (Y5 a0 a5))))) (a5 + 1) else none) else some (.go b3))
def G9 (K : Nat) (l1 : Int → Int → Option (Ex (A8 × Int) (Int))) (a0 : A8) (a1 : (List Int)) (a2 : A8) (a3 : Int) (a8 : Int) (b9 : Bool) : Option (Ex (A8 × Int) (Int)) := (if b9 = true then some (.ret ((fun _ => 0), 0)) else (if a3 < 8 then (if 0 < (Y5 a2 a3) then ((K4 K a0 a1 K a8 (a3 + 1)).bind (Ex.elim (fun r => some (.ret r)) (fun s => (fun (d6 : Int) => l1 (a3 + 1) d6) s))) else l1 (a3 + 1) a8) else none))
def N9 (K : Nat) (a2 : A8) : Nat → Int → A8 → Option (Ex (A8 × Int) (A8))
 | 0, _, _ => none
 | k + 1, a4, a6 => (if a4 < 8 then N9 K a2 k (a4 + 1) (T8 a6 a4 (IntKind.i64.wrap ((Y5 a6 a4) + (Y5 a2 a4)))) else some (.go a6))
def S0 (K : Nat) (a0 : A8) (a1 : (List Int)) (a2 : A8) : Nat → Int → Int → Option (Ex (A8 × Int) (Int))
 | 0, _, _ => none
 | k + 1, a3, a8 => (if a3 < (a1.length : Int) then (if (((rd a1 a3)).tmod 2) = 0 then S0 K a0 a1 a2 k (a3 + 1) a8 else (if a3 < 8 then (if 0 < (Y5 a0 a3) then G9 K (S0 K a0 a1 a2 k) a0 a1 a2 a3 a8 (decide (0 < (Y5 a2 a3))) else G9 K (S0 K a0 a1 a2 k) a0 a1 a2 a3 a8 false) else none)) else some (.go a8))
def F4 (K : Nat) (a0 : A8) (a1 : (List Int)) (a2 : A8) : Option (A8 × Int) := ((S0 K a0 a1 a2 K 0 0).bind (Ex.elim (fun r => some r) (fun s => (fun (c0 : Int) => ((N9 K a2 K 0 a0).bind (Ex.elim (fun r => some r) (fun s => (fun (a7 : A8) => (if ((c0).tmod 2) = 1 then some (a7, (-1)) else some (a7, 1))) s)))) s)))
theorem Yh6 {K : Nat} {a0 : A8} {a1 : (List Int)} {a2 : A8} {r : (A8 × Int)} (q0 : F4 K a0 a1 a2 = some r) {H : FH} {w : World} {L : OL} {s0 : Value} (b0 : Y3 (X3 .i64) H s0 a1) (hS : St H w L) :
 Calls Tryz.prog 224 #[vA (Z7 .i64 a0), s0, vA (Z7 .i64 a2)] w (T6 (fun v G => (R.t2 (R.agg (Zo6 .i64)) (R.int .i64)).p G v r) H L) := by
 have Z2 := Sub.refl H
 refine X0 Tryz.func224 rfl Tryz.ntmps224 rfl ?_
 unfold F4 at q0
 refine Z3 (Z1 ?_)
 refine T7 (v := vA (Z7 .i64 a0)) (Z7 .i64 a0).toArray rfl rfl hS rfl ?_
 intro b1 w2 hS
 refine T7 (v := vA (Z7 .i64 a2)) (Z7 .i64 a2).toArray rfl rfl hS rfl ?_
 intro b4 w5 hS
 refine W9 (z := vA (Z7 .i64 (fun _ => 0))) (Z7 .i64 (fun _ => 0)).toArray Zl0.zero rfl hS rfl ?_
 intro b7 w8 hS
 refine Z6 (vI 0) rfl rfl (Z0 (Z3 (Z1 (Z6 (vI 0) rfl rfl (Z0 (Z3 (Z3 (Z1 (Z4 (s0) rfl rfl ?_)))))))))
 have q9 := b0.bound
 refine W6 Q9 rfl b0 rfl (Z4 (vI 0) rfl rfl (Z0 (Y7 ?_)))
 obtain ⟨g8, a9, f7⟩ := bind_some q0
 refine W7 (id := 0) (fun k f w => ∃ (a3 : Int) (a8 : Int) (H1 : FH), S0 K a0 a1 a2 k a3 a8 = some g8 ∧ Sub H H1 ∧ St H1 w ([(b7, cA (Z7 .i64 (fun _ => 0)) 188)] ++ ([(b4, cA (Z7 .i64 a2) 188)] ++ ([(b1, cA (Z7 .i64 a0) 188)] ++ L))) ∧ 0 ≤ a3 ∧ Y3 (X3 .i64) H1 s0 a1 ∧ ev f (.tmp 1) = s0 ∧ ev f (.tmp 3) = vP b1 ∧ ev f (.tmp 5) = vP b4 ∧ ev f (.tmp 6) = vP b7 ∧ ev f (.tmp 8) = vI a8 ∧ ev f (.tmp 13) = s0 ∧ ev f (.tmp 14) = vI (a1.length : Int) ∧ ev f (.tmp 15) = vI a3) (fun f w => ∃ (c0 : Int) (H1 : FH), g8 = .go c0 ∧ Sub H H1 ∧ St H1 w ([(b7, cA (Z7 .i64 (fun _ => 0)) 188)] ++ ([(b4, cA (Z7 .i64 a2) 188)] ++ ([(b1, cA (Z7 .i64 a0) 188)] ++ L))) ∧ ev f (.tmp 3) = vP b1 ∧ ev f (.tmp 5) = vP b4 ∧ ev f (.tmp 6) = vP b7 ∧ ev f (.tmp 8) = vI c0) rfl ?_ ?_ K ?_ ?_
 rintro f w ⟨a3, a8, H1, a9, _⟩
 rw [S0] at a9; cases a9
 rintro k r0 r1 i9 n9 ⟨a3, a8, f8, a9, Z2, hS, n6, b0, d7, c3, c4, c8, c9, c5, c6, b5⟩
 rw [S0] at a9
 refine Z3 (Z1 ?_)
 refine U5 (k := .i64) (a := a3) (b := (a1.length : Int)) (by exact b5) (by exact c6) rfl (Z0 (Z3 ?_))
 by_cases f9 : a3 < (a1.length : Int)
 rw [if_pos f9] at a9
 refine Y0 (bT f9 rfl) (Y6 (Z3 (Y7 (Z3 (Z1 (Z4 (vI a3) (by exact b5) rfl ?_))))))
 obtain ⟨z4, z5, r2, z6, _, l3, l4, rfl, l5⟩ := b0.elem (i := a3) (by omega) (by omega)
 refine W3 Q9 rfl (by exact c5) l3 (by exact b5) (by omega) (by omega) rfl ?_
 refine Y4 (vI (rd a1 a3)) ty2 rfl (hS.froz _ _ l4) (l5 0 (show 0 < 1 by decide)) rfl (Z6 (vI a3) rfl rfl (Z6 (vI (rd a1 a3)) rfl rfl (Z0 (Z3 (Z3 (Z1 (Z4 (vI (rd a1 a3)) rfl rfl ?_)))))))
 refine Zo0 (((rd a1 a3)).tmod 2) rfl rfl (by decide) rfl rfl ?_
 refine Zf2 (k := .i64) (a := (((rd a1 a3)).tmod 2)) (b := 0) rfl rfl rfl (Z0 ?_)
 by_cases g0 : (((rd a1 a3)).tmod 2) = 0
 rw [if_pos g0] at a9
 refine Y0 (bT g0 rfl) ?_
 refine W4 rfl (Z1 ?_)
 refine V0 (a3 + 1) (by exact b5) rfl (IntWalk.i64_in _ (by omega)) rfl (Z4 (vI (a3 + 1)) rfl rfl (Z0 ?_))
 exact i9 _ _ ⟨(a3 + 1), a8, f8, a9, Z2, hS, (by omega), b0, d7, c3, c4, c8, c9, c5, c6, rfl⟩
 rw [if_neg g0] at a9
 refine Z9 (bF g0 rfl) (Y6 (Z3 (Z3 ?_)))
 refine E9 (fun f w => ∃ (b9 : Bool) (H1 : FH), G9 K (S0 K a0 a1 a2 k) a0 a1 a2 a3 a8 b9 = some g8 ∧ Sub H H1 ∧ St H1 w ([(b7, cA (Z7 .i64 (fun _ => 0)) 188)] ++ ([(b4, cA (Z7 .i64 a2) 188)] ++ ([(b1, cA (Z7 .i64 a0) 188)] ++ L))) ∧ Y3 (X3 .i64) H1 s0 a1 ∧ ev f (.tmp 1) = s0 ∧ ev f (.tmp 3) = vP b1 ∧ ev f (.tmp 5) = vP b4 ∧ ev f (.tmp 6) = vP b7 ∧ ev f (.tmp 8) = vI a8 ∧ ev f (.tmp 9) = vI a3 ∧ ev f (.tmp 13) = s0 ∧ ev f (.tmp 14) = vI (a1.length : Int) ∧ ev f (.tmp 15) = vI a3 ∧ ev f (.tmp 32) = Value.bool b9) ?_ ?_
 rintro z7 o6 ⟨b9, h3, b6, Z2, hS, b0, g4, g5, e1, d4, g6, g7, e6, e7, e8, e9⟩
 unfold G9 at b6
 by_cases g1 : b9 = true
 rw [if_pos g1] at b6
 refine Y0 (Eq.trans (by exact e9) (congrArg Value.bool g1)) (Z3 (Z1 ?_))
 refine Q2 (vA (Z7 .i64 (fun _ => 0))) Yx1 rfl ?_
 refine W1 (v := vA (Z7 .i64 (fun _ => 0))) (vs := (Z7 .i64 (fun _ => 0)).toArray) (cs := (Z7 .i64 (fun _ => 0)).toArray) N2 (by exact d4) rfl rfl hS rfl (S8 .i64 (fun _ => 0)) rfl ?_
 intro z8 hS
 refine Z6 (vI 0) rfl rfl (Z0 ?_)
 refine Y9 (vs := [vA (Z7 .i64 (fun _ => 0)), vI 0]) Tryz.func224 ⟨⟨_, (by exact d4), U8 N2 (hS.get mL) rfl⟩, rfl, trivial⟩ ?_
 have hz := Option.some.inj b6
 subst hz
 dsimp only [Ex.elim] at f7
 have hz := Option.some.inj f7
 subst hz
 exact ⟨_, _, rfl, Z2, (St.dropA (St.dropA (St.dropA hS))), ⟨_, _, rfl, ⟨_, rfl, rfl⟩, rfl⟩⟩
 rw [if_neg g1] at b6
 refine Z9 (Eq.trans (by exact e9) (congrArg Value.bool (W2 g1))) (Y6 (Z3 (Z1 (Z4 (vI a3) (by exact g7) rfl ?_))))
 obtain ⟨r3, b6⟩ := gd b6
 refine W8 Zg4 (by exact e1) rfl (by omega) (by omega) rfl ?_
 refine Y4 (vI (Y5 a2 a3)) ty3 rfl (hS.get (o := cA (Z7 .i64 a2) 188) (mR mL)) (M3 ([]) ([]) (by omega) (by omega)) rfl ?_
 refine Zc5 (k := .i64) (a := (Y5 a2 a3)) (b := 0) rfl rfl rfl (Z0 ?_)
 by_cases g2 : 0 < (Y5 a2 a3)
 rw [if_pos g2] at b6
 refine Y0 (bT g2 rfl) (Z3 (Z1 (Z4 (vI a3) (by exact g7) rfl ?_)))
 refine V0 (a3 + 1) rfl rfl (IntWalk.i64_in _ (by omega)) rfl (Z6 (vI (a3 + 1)) rfl rfl (Z0 (Y7 ?_)))
 obtain ⟨j0, b8, j1⟩ := bind_some b6
 refine W7 (id := 2) (fun k f w => ∃ (b3 : Int) (a5 : Int) (H1 : FH), K4 K a0 a1 k b3 a5 = some j0 ∧ Sub H H1 ∧ St H1 w ([(b7, cA (Z7 .i64 (fun _ => 0)) 188)] ++ ([(b4, cA (Z7 .i64 a2) 188)] ++ ([(b1, cA (Z7 .i64 a0) 188)] ++ L))) ∧ 0 ≤ a5 ∧ Y3 (X3 .i64) H1 s0 a1 ∧ ev f (.tmp 1) = s0 ∧ ev f (.tmp 3) = vP b1 ∧ ev f (.tmp 5) = vP b4 ∧ ev f (.tmp 6) = vP b7 ∧ ev f (.tmp 8) = vI b3 ∧ ev f (.tmp 11) = vI a5 ∧ ev f (.tmp 13) = s0 ∧ ev f (.tmp 14) = vI (a1.length : Int) ∧ ev f (.tmp 15) = vI a3) (fun f w => ∃ (d6 : Int) (H1 : FH), j0 = .go d6 ∧ Sub H H1 ∧ St H1 w ([(b7, cA (Z7 .i64 (fun _ => 0)) 188)] ++ ([(b4, cA (Z7 .i64 a2) 188)] ++ ([(b1, cA (Z7 .i64 a0) 188)] ++ L))) ∧ Y3 (X3 .i64) H1 s0 a1 ∧ ev f (.tmp 1) = s0 ∧ ev f (.tmp 3) = vP b1 ∧ ev f (.tmp 5) = vP b4 ∧ ev f (.tmp 6) = vP b7 ∧ ev f (.tmp 8) = vI d6 ∧ ev f (.tmp 13) = s0 ∧ ev f (.tmp 14) = vI (a1.length : Int) ∧ ev f (.tmp 15) = vI a3) rfl ?_ ?_ K ?_ ?_
 rintro f w ⟨b3, a5, H1, b8, _⟩
 rw [K4] at b8; cases b8
 rintro k r4 r5 o0 o1 ⟨b3, a5, l6, b8, Z2, hS, n7, b0, d0, d8, f0, f1, f2, c7, e2, e3, e4⟩
 rw [K4] at b8
 refine Z3 (Z3 (Z1 (Z4 (vI a5) (by exact c7) rfl (Z4 (s0) (by exact d0) rfl ?_))))
 have r6 := b0.bound
 refine W6 Q9 rfl b0 rfl ?_
 refine U5 (k := .i64) (a := a5) (b := (a1.length : Int)) rfl rfl rfl (Z0 ?_)
 by_cases g3 : a5 < (a1.length : Int)
 rw [if_pos g3] at b8
 refine Y0 (bT g3 rfl) (Y6 (Z3 (Y7 ?_)))
 obtain ⟨o2, o3, r7, z9, _, l7, g9, rfl, l9⟩ := b0.elem (i := a5) (by omega) (by omega)
 obtain ⟨r8, b8⟩ := gd b8
 refine V4 11 (R9 [(46, MP.eq (vI b3)), (47, MP.eq (s0)), (48, MP.eq (vI a5)), (49, MP.eq (Value.pointer (some ⟨o2, o3, none⟩))), (50, MP.eq (vI (rd a1 a5))), (51, MP.eq (vI (((rd a1 a5)).tmod 2))), (52, MP.eq (vI a5)), (53, MP.eq (Value.pointer (some ⟨b1, 0 + (a5).toNat * 1, none⟩))), (54, MP.eq (vI (Y5 a0 a5))), (55, MP.eq (vI (IntKind.i64.wrap ((((rd a1 a5)).tmod 2) * (Y5 a0 a5))))), (56, MP.eq (vI (IntKind.i64.wrap (b3 + (IntKind.i64.wrap ((((rd a1 a5)).tmod 2) * (Y5 a0 a5)))))))]) [] mixed rfl rfl rfl hS (Z5 rfl ?_ (Z5 rfl ?_ (Z5 rfl ?_ (Z5 rfl ?_ (Z5 rfl ?_ (Z5 rfl ?_ (Z5 rfl ?_ (Z5 rfl ?_ (Z5 rfl ?_ (Z5 rfl ?_ (Z5 rfl ?_ V9))))))))))) ?_
 intro f20 w21 H22 X23 r9 hS m0 s1 hcq
 refine Z4 (vI b3) (evT (m0 8 rfl) f2) rfl ?_
 exact qn (.refl _) rfl hS rfl
 intro f29 w30 H31 X32 s2 hS m1 s3 hcq
 refine Z4 (s0) (evT (m1 1 rfl) d0) rfl ?_
 exact qn (.refl _) rfl hS rfl
 intro f38 w39 H40 X41 s4 hS m2 s5 hcq
 refine Z4 (vI a5) (evT (m2 11 rfl) c7) rfl ?_
 exact qn (.refl _) rfl hS rfl
 intro f47 w48 H49 X50 s6 hS s7 j2 hcq
 refine W3 Q9 rfl (eM (j2 1 47 rfl rfl)) l7 (eM (j2 2 48 rfl rfl)) (by omega) (by omega) rfl ?_
 exact qn (.refl _) rfl hS rfl
 intro f58 w59 H60 X61 m3 hS s8 m4 hcq
 have g9 := m3.1 _ _ g9
 refine Y4 (vI (rd a1 a5)) ty2 (eM (m4 3 49 rfl rfl)) (hS.froz _ _ g9) (l9 0 (show 0 < 1 by decide)) rfl ?_
 exact qn (.refl _) rfl hS rfl
 intro f67 w68 H69 X70 s9 hS t0 m5 hcq
 refine Zo0 (((rd a1 a5)).tmod 2) (eM (m5 4 50 rfl rfl)) rfl (by decide) rfl rfl ?_
 exact qn (.refl _) rfl hS rfl
 intro f76 w77 H78 X79 t1 hS m6 t4 hcq
 refine Z4 (vI a5) (evT (m6 11 rfl) c7) rfl ?_
 exact qn (.refl _) rfl hS rfl
 intro f96 w97 H98 X99 o7 hS j6 j7 hcq
 refine W8 Zg4 (evT (j6 3 rfl) d8) (eM (j7 6 52 rfl rfl)) (by omega) (by omega) rfl ?_
 exact qn (.refl _) rfl hS rfl
 intro t5 t6 t7 t8 o8 hS o9 j8 hcq
 refine Y4 (vI (Y5 a0 a5)) ty3 (eM (j8 7 53 rfl rfl)) (hS.get (o := cA (Z7 .i64 a0) 188) (mR (mR (mR mL)))) (M3 ([]) ([]) (by omega) (by omega)) rfl ?_
 exact qn (.refl _) rfl hS rfl
 intro t9 u0 u1 u2 p0 hS p1 h4 hcq
 refine Zt0 (IntKind.i64.wrap ((((rd a1 a5)).tmod 2) * (Y5 a0 a5))) (eM (h4 5 51 rfl rfl)) (eM (h4 8 54 rfl rfl)) rfl rfl ?_
 exact qn (.refl _) rfl hS rfl
 intro u3 u4 u5 u6 p2 hS p3 h5 hcq
 refine V0 (IntKind.i64.wrap (b3 + (IntKind.i64.wrap ((((rd a1 a5)).tmod 2) * (Y5 a0 a5))))) (eM (h5 0 46 rfl rfl)) (eM (h5 9 55 rfl rfl)) rfl rfl ?_
 exact qn (.refl _) rfl hS rfl
 intro u7 m7 j3 h6 hS c1 j9 hcq
 have hS : St j3 m7 ([(b7, cA (Z7 .i64 (fun _ => 0)) 188)] ++ ([(b4, cA (Z7 .i64 a2) 188)] ++ ([(b1, cA (Z7 .i64 a0) 188)] ++ L))) := hS
 have Z2 := Z2.trans h6
 have b0 := b0.mono h6
 refine Z6 (vI (IntKind.i64.wrap (b3 + (IntKind.i64.wrap ((((rd a1 a5)).tmod 2) * (Y5 a0 a5)))))) (by exact (eM (j9 10 56 (by decide) rfl))) rfl (Z0 (X2 (Z1 (Z4 (vI a5) (by exact (evT (c1 11 rfl) c7)) rfl ?_))))
 refine V0 (a5 + 1) rfl rfl (IntWalk.i64_in _ (by omega)) rfl (Z6 (vI (a5 + 1)) rfl rfl (Z0 ?_))
 exact o0 _ _ ⟨(IntKind.i64.wrap (b3 + (IntKind.i64.wrap ((((rd a1 a5)).tmod 2) * (Y5 a0 a5))))), (a5 + 1), j3, b8, Z2, hS, (by omega), b0, (evT (c1 1 rfl) d0), (evT (c1 3 rfl) d8), (evT (c1 5 rfl) f0), (evT (c1 6 rfl) f1), rfl, rfl, (evT (c1 13 rfl) e2), (evT (c1 14 rfl) e3), (evT (c1 15 rfl) e4)⟩
 rw [if_neg g3] at b8
 refine Z9 (bF g3 rfl) ?_
 refine W4 rfl ?_
 have hz := Option.some.inj b8
 subst hz
 exact o1 _ _ ⟨b3, l6, rfl, Z2, hS, b0, d0, d8, f0, f1, f2, e2, e3, e4⟩
 exact ⟨a8, (a3 + 1), h3, b8, Z2, hS, (by omega), b0, g4, g5, e1, d4, g6, rfl, e6, e7, e8⟩
 rintro u8 u9 ⟨d6, m8, rfl, Z2, hS, b0, h9, i0, i1, i2, i3, h0, h1, h2⟩
 dsimp only [Ex.elim] at j1
 refine X2 (Z1 ?_)
 refine V0 (a3 + 1) (by exact h2) rfl (IntWalk.i64_in _ (by omega)) rfl (Z4 (vI (a3 + 1)) rfl rfl (Z0 ?_))
 exact i9 _ _ ⟨(a3 + 1), d6, m8, j1, Z2, hS, (by omega), b0, h9, i0, i1, i2, i3, h0, h1, rfl⟩
 rw [if_neg g2] at b6
 refine Z9 (bF g2 rfl) (Y6 (X2 (Z1 ?_)))
 refine V0 (a3 + 1) (by exact e8) rfl (IntWalk.i64_in _ (by omega)) rfl (Z4 (vI (a3 + 1)) rfl rfl (Z0 ?_))
 exact i9 _ _ ⟨(a3 + 1), a8, h3, b6, Z2, hS, (by omega), b0, g4, g5, e1, d4, g6, e6, e7, rfl⟩
 intro l2
 refine Z1 (Z4 (vI a3) rfl rfl ?_)
 obtain ⟨p4, a9⟩ := gd a9
 refine W8 Zg4 (by exact c3) rfl (by omega) (by omega) rfl ?_
 refine Y4 (vI (Y5 a0 a3)) ty3 rfl (hS.get (o := cA (Z7 .i64 a0) 188) (mR (mR mL))) (M3 ([]) ([]) (by omega) (by omega)) rfl ?_
 refine Zc5 (k := .i64) (a := (Y5 a0 a3)) (b := 0) rfl rfl rfl (Z4 (Value.bool (decide (0 < (Y5 a0 a3)))) rfl rfl ?_)
 by_cases b2 : 0 < (Y5 a0 a3)
 rw [if_pos b2] at a9
 refine Y1 rfl rfl (bT b2 rfl) (Z4 (vI a3) rfl rfl ?_)
 refine Y1 rfl rfl (bT b2 rfl) ?_
 refine W8 Zg4 (by exact c4) rfl (by omega) (by omega) rfl ?_
 refine Y1 rfl rfl (bT b2 rfl) ?_
 refine Y4 (vI (Y5 a2 a3)) ty3 rfl (hS.get (o := cA (Z7 .i64 a2) 188) (mR mL)) (M3 ([]) ([]) (by omega) (by omega)) rfl ?_
 refine Y1 rfl rfl (bT b2 rfl) ?_
 refine Zc5 (k := .i64) (a := (Y5 a2 a3)) (b := 0) rfl rfl rfl ?_
 refine V1 (t := true) (Value.bool (decide (0 < (Y5 a2 a3)))) (bT b2 rfl) ((if_pos rfl).trans rfl) rfl (Z0 ?_)
 exact l2 _ _ ⟨(decide (0 < (Y5 a2 a3))), f8, a9, Z2, hS, b0, d7, c3, c4, c8, c9, rfl, c5, c6, b5, rfl⟩
 rw [if_neg b2] at a9
 refine Z8 rfl rfl (bF b2 rfl) rfl rfl rfl (Z8 rfl rfl (bF b2 rfl) rfl rfl rfl (Z8 rfl rfl (bF b2 rfl) rfl rfl rfl (Z8 rfl rfl (bF b2 rfl) rfl rfl rfl ?_)))
 refine V1 (t := false) (Value.bool false) (bF b2 rfl) ((if_neg Bool.false_ne_true).trans rfl) rfl (Z0 ?_)
 exact l2 _ _ ⟨false, f8, a9, Z2, hS, b0, d7, c3, c4, c8, c9, rfl, c5, c6, b5, rfl⟩
 rw [if_neg f9] at a9
 refine Z9 (bF f9 rfl) ?_
 refine W4 rfl ?_
 have hz := Option.some.inj a9
 subst hz
 exact n9 _ _ ⟨a8, f8, rfl, Z2, hS, c3, c4, c8, c9⟩
 exact ⟨0, 0, H, a9, Z2, hS, (by omega), b0, rfl, rfl, rfl, rfl, rfl, rfl, rfl, rfl⟩
 rintro v0 v1 ⟨c0, m9, rfl, Z2, hS, i4, i5, i6, i7⟩
 dsimp only [Ex.elim] at f7
 refine Z3 (Z3 (Z1 (Z4 (vI 0) rfl rfl (Z0 (Y7 ?_)))))
 obtain ⟨j4, c2, e5⟩ := bind_some f7
 refine W7 (id := 4) (fun k f w => ∃ (a4 : Int) (a6 : A8) (H1 : FH), N9 K a2 k a4 a6 = some j4 ∧ Sub H H1 ∧ St H1 w ([(b7, cA (Z7 .i64 (fun _ => 0)) 188)] ++ ([(b4, cA (Z7 .i64 a2) 188)] ++ ([(b1, cA (Z7 .i64 a6) 188)] ++ L))) ∧ 0 ≤ a4 ∧ ev f (.tmp 3) = vP b1 ∧ ev f (.tmp 5) = vP b4 ∧ ev f (.tmp 6) = vP b7 ∧ ev f (.tmp 8) = vI c0 ∧ ev f (.tmp 58) = vI a4) (fun f w => ∃ (a7 : A8) (H1 : FH), j4 = .go a7 ∧ Sub H H1 ∧ St H1 w ([(b7, cA (Z7 .i64 (fun _ => 0)) 188)] ++ ([(b4, cA (Z7 .i64 a2) 188)] ++ ([(b1, cA (Z7 .i64 a7) 188)] ++ L))) ∧ ev f (.tmp 3) = vP b1 ∧ ev f (.tmp 6) = vP b7 ∧ ev f (.tmp 8) = vI c0) rfl ?_ ?_ K ?_ ?_
 rintro f w ⟨a4, a6, H1, c2, _⟩
 rw [N9] at c2; cases c2
 rintro k v2 v3 o4 o5 ⟨a4, a6, n0, c2, Z2, hS, n8, d1, f3, f4, f5, d3⟩
 rw [N9] at c2
 refine Z3 (Z1 ?_)
 refine U5 (k := .i64) (a := a4) (b := 8) (by exact d3) rfl rfl (Z0 (Z3 ?_))
 by_cases d9 : a4 < 8
 rw [if_pos d9] at c2
 refine Y0 (bT d9 rfl) (Y6 (Z3 (Y7 (Z3 (Z1 (Z4 (vI a4) (by exact d3) rfl (Z6 (vI a4) rfl rfl (Z0 ?_))))))))
 refine V4 8 (R9 [(61, MP.eq (vI a4)), (62, MP.eq (Value.pointer (some ⟨b1, 0 + (a4).toNat * 1, none⟩))), (63, MP.eq (vI (Y5 a6 a4))), (64, MP.eq (vI a4)), (65, MP.eq (Value.pointer (some ⟨b4, 0 + (a4).toNat * 1, none⟩))), (66, MP.eq (vI (Y5 a2 a4))), (67, MP.eq (vI (IntKind.i64.wrap ((Y5 a6 a4) + (Y5 a2 a4))))), (68, MP.eq (Value.pointer (some ⟨b1, 0 + (a4).toNat * 1, none⟩)))]) [] mixed rfl rfl rfl hS (Z5 rfl ?_ (Z5 rfl ?_ (Z5 rfl ?_ (Z5 rfl ?_ (Z5 rfl ?_ (Z5 rfl ?_ (Z5 rfl ?_ (Z5 rfl ?_ V9)))))))) ?_
 intro n1 v4 v5 v6 p5 hS k0 p6 hcq
 have n2 : ev n1 (.tmp 12) = vI a4 := Eq.trans (k0 12 rfl) rfl
 refine Z4 (vI a4) n2 rfl ?_
 exact qn (.refl _) rfl hS rfl
 intro v7 v8 v9 w0 p7 hS k1 k2 hcq
 refine W8 Zg4 (evT (k1 3 rfl) d1) (eM (k2 0 61 rfl rfl)) (by omega) (by omega) rfl ?_
 exact qn (.refl _) rfl hS rfl
 intro w1 w3 w4 w6 p8 hS p9 k3 hcq
 refine Y4 (vI (Y5 a6 a4)) ty3 (eM (k3 1 62 rfl rfl)) (hS.get (o := cA (Z7 .i64 a6) 188) (mR (mR (mR mL)))) (M3 ([]) ([]) (by omega) (by omega)) rfl ?_
 exact qn (.refl _) rfl hS rfl
 intro n3 w7 w9 x0 q1 hS k4 q2 hcq
 have n4 : ev n3 (.tmp 12) = vI a4 := Eq.trans (k4 12 rfl) rfl
 refine Z4 (vI a4) n4 rfl ?_
 exact qn (.refl _) rfl hS rfl
 intro x1 x2 x3 x4 q3 hS k5 k6 hcq
 refine W8 Zg4 (evT (k5 5 rfl) f3) (eM (k6 3 64 rfl rfl)) (by omega) (by omega) rfl ?_
 exact qn (.refl _) rfl hS rfl
 intro x5 x6 x7 x8 q4 hS q5 k7 hcq
 refine Y4 (vI (Y5 a2 a4)) ty3 (eM (k7 4 65 rfl rfl)) (hS.get (o := cA (Z7 .i64 a2) 188) (mR (mR mL))) (M3 ([]) ([]) (by omega) (by omega)) rfl ?_
 exact qn (.refl _) rfl hS rfl
 intro x9 y0 y1 y2 q6 hS q7 h7 hcq
 refine V0 (IntKind.i64.wrap ((Y5 a6 a4) + (Y5 a2 a4))) (eM (h7 2 63 rfl rfl)) (eM (h7 5 66 rfl rfl)) rfl rfl ?_
 exact qn (.refl _) rfl hS rfl
 intro y3 y4 y5 y6 q8 hS k8 k9 hcq
 refine W8 Zg4 (evT (k8 3 rfl) d1) (eM (k9 0 61 rfl rfl)) (by omega) (by omega) rfl ?_
 exact qn (.refl _) rfl hS rfl
 intro y7 n5 j5 l0 hS d5 h8 hcq
 have hS : St j5 n5 ([(b7, cA (Z7 .i64 (fun _ => 0)) 188)] ++ ([(b4, cA (Z7 .i64 a2) 188)] ++ ([(b1, cA (Z7 .i64 a6) 188)] ++ L))) := hS
 have Z2 := Z2.trans l0
 have hS := hS.perm F3
 refine D0 (v := vI (IntKind.i64.wrap ((Y5 a6 a4) + (Y5 a2 a4)))) (cs := (Z7 .i64 a6).toArray) (cs' := (Z7 .i64 (T8 a6 a4 (IntKind.i64.wrap ((Y5 a6 a4) + (Y5 a2 a4))))).toArray) ty3 (by exact (eM (h8 7 68 (by decide) rfl))) (by exact (eM (h8 6 67 (by decide) rfl))) hS rfl (Zu7 rfl) (by simp [Z7, U2]; omega) (Ze5 (by omega) (by omega)) ?_
 intro y8 hS
 have hS := hS.perm F3.symm
 refine Z0 (X2 (Z1 ?_))
 refine V0 (a4 + 1) (by exact (evT (d5 58 rfl) d3)) rfl (IntWalk.i64_in _ (by omega)) rfl (Z4 (vI (a4 + 1)) rfl rfl (Z0 ?_))
 exact o4 _ _ ⟨(a4 + 1), (T8 a6 a4 (IntKind.i64.wrap ((Y5 a6 a4) + (Y5 a2 a4)))), j5, c2, Z2, hS, (by omega), (evT (d5 3 rfl) d1), (evT (d5 5 rfl) f3), (evT (d5 6 rfl) f4), (evT (d5 8 rfl) f5), rfl⟩
 rw [if_neg d9] at c2
 refine Z9 (bF d9 rfl) ?_
 refine W4 rfl ?_
 have hz := Option.some.inj c2
 subst hz
 exact o5 _ _ ⟨a6, n0, rfl, Z2, hS, d1, f4, f5⟩
 exact ⟨0, a0, m9, c2, Z2, hS, (by omega), i4, i5, i6, i7, rfl⟩
 rintro y9 z0 ⟨a7, z1, rfl, Z2, hS, f6, d2, i8⟩
 dsimp only [Ex.elim] at e5
 refine Z3 (Z3 (Z1 (Z4 (vI c0) (by exact i8) rfl ?_)))
 refine Zo0 ((c0).tmod 2) rfl rfl (by decide) rfl rfl ?_
 refine Zf2 (k := .i64) (a := ((c0).tmod 2)) (b := 1) rfl rfl rfl (Z0 ?_)
 by_cases e0 : ((c0).tmod 2) = 1
 rw [if_pos e0] at e5
 refine Y0 (bT e0 rfl) (Z3 (Z1 ?_))
 refine X8 N2 (by exact f6) (hS.get (mR (mR mL))) rfl rfl ?_
 refine W1 (v := vA (Z7 .i64 a7)) (vs := (Z7 .i64 a7).toArray) (cs := (Z7 .i64 (fun _ => 0)).toArray) N2 (by exact d2) rfl rfl hS rfl (S8 .i64 a7) rfl ?_
 intro z2 hS
 refine Z6 (vI (-1)) rfl rfl (Z0 ?_)
 refine Y9 (vs := [vA (Z7 .i64 a7), vI (-1)]) Tryz.func224 ⟨⟨_, (by exact d2), U8 N2 (hS.get mL) rfl⟩, rfl, trivial⟩ ?_
 have hz := Option.some.inj e5
 subst hz
 exact ⟨_, _, rfl, Z2, (St.dropA (St.dropA (St.dropA hS))), ⟨_, _, rfl, ⟨_, rfl, rfl⟩, rfl⟩⟩
 rw [if_neg e0] at e5
 refine Z9 (bF e0 rfl) (Y6 (Z3 (Z1 ?_)))
 refine X8 N2 (by exact f6) (hS.get (mR (mR mL))) rfl rfl ?_
 refine W1 (v := vA (Z7 .i64 a7)) (vs := (Z7 .i64 a7).toArray) (cs := (Z7 .i64 (fun _ => 0)).toArray) N2 (by exact d2) rfl rfl hS rfl (S8 .i64 a7) rfl ?_
 intro z3 hS
 refine Z6 (vI 1) rfl rfl (Z0 ?_)
 refine Y9 (vs := [vA (Z7 .i64 a7), vI 1]) Tryz.func224 ⟨⟨_, (by exact d2), U8 N2 (hS.get mL) rfl⟩, rfl, trivial⟩ ?_
 have hz := Option.some.inj e5
 subst hz
 exact ⟨_, _, rfl, Z2, (St.dropA (St.dropA (St.dropA hS))), ⟨_, _, rfl, ⟨_, rfl, rfl⟩, rfl⟩⟩
def G0 (K : Nat) (a0 : (List Int)) (a1 : A8) : Nat → Int → Int → Option (Ex Int (Int))
 | 0, _, _ => none
 | k + 1, a4, a3 => (if a3 < (a0.length : Int) then (if a3 < 8 then G0 K a0 a1 k (IntKind.i64.wrap (a4 + (IntKind.i64.wrap ((rd a0 a3) * (IntKind.i64.wrap (Y5 a1 a3)))))) (a3 + 1) else none) else some (.go a4))
def Za6 (K : Nat) (a0 : (List Int)) (a1 : A8) : Option Int := ((G0 K a0 a1 K 0 0).bind (Ex.elim (fun r => some r) (fun s => (fun (a6 : Int) => some a6) s)))
theorem Zq9 {K : Nat} {a0 : (List Int)} {a1 : A8} {r : Int} (q0 : Za6 K a0 a1 = some r) {H : FH} {w : World} {L : OL} {s0 : Value} (a9 : Y3 (X3 .i64) H s0 a0) (hS : St H w L) :
 Calls Tryz.prog 216 #[s0, vA (Z7 .u8 a1)] w (T6 (fun v G => (R.int .i64).p G v r) H L) := by
 have Z2 := Sub.refl H
 refine X0 Tryz.func216 rfl Tryz.ntmps216 rfl ?_
 unfold Za6 at q0
 refine Z3 (Z1 ?_)
 refine T7 (v := vA (Z7 .u8 a1)) (Z7 .u8 a1).toArray rfl rfl hS rfl ?_
 intro b1 w2 hS
 refine Z6 (vI 0) rfl rfl (Z0 (Z3 (Z1 (Z6 (vI 0) rfl rfl (Z0 (Z3 (Z3 (Z1 (Z6 (vI 0) rfl rfl (Z0 (Y7 ?_)))))))))))
 obtain ⟨c0, a5, c1⟩ := bind_some q0
 refine W7 (id := 0) (fun k f w => ∃ (a4 : Int) (a3 : Int) (H1 : FH), G0 K a0 a1 k a4 a3 = some c0 ∧ Sub H H1 ∧ St H1 w ([(b1, cA (Z7 .u8 a1) 70)] ++ L) ∧ 0 ≤ a3 ∧ Y3 (X3 .i64) H1 s0 a0 ∧ ev f (.tmp 0) = s0 ∧ ev f (.tmp 3) = vP b1 ∧ ev f (.tmp 5) = vI a4 ∧ ev f (.tmp 6) = vI a3) (fun f w => ∃ (a6 : Int) (H1 : FH), c0 = .go a6 ∧ Sub H H1 ∧ St H1 w ([(b1, cA (Z7 .u8 a1) 70)] ++ L) ∧ ev f (.tmp 5) = vI a6) rfl ?_ ?_ K ?_ ?_
 rintro f w ⟨a4, a3, H1, a5, _⟩
 rw [G0] at a5; cases a5
 rintro k e8 e9 d9 e0 ⟨a4, a3, c5, a5, Z2, hS, e1, a9, a8, b0, b2, a7⟩
 rw [G0] at a5
 refine Z3 (Z3 (Z1 (Z4 (vI a3) (by exact a7) rfl (Z4 (s0) (by exact a8) rfl ?_))))
 have i1 := a9.bound
 refine W6 Q9 rfl a9 rfl ?_
 refine U5 (k := .i64) (a := a3) (b := (a0.length : Int)) rfl rfl rfl (Z0 ?_)
 by_cases b5 : a3 < (a0.length : Int)
 rw [if_pos b5] at a5
 refine Y0 (bT b5 rfl) (Y6 (Z3 (Y7 ?_)))
 obtain ⟨e2, e3, f0, i2, _, c6, b4, rfl, c7⟩ := a9.elem (i := a3) (by omega) (by omega)
 obtain ⟨f1, a5⟩ := gd a5
 refine V4 11 (R9 [(13, MP.eq (vI a4)), (14, MP.eq (s0)), (15, MP.eq (vI a3)), (16, MP.eq (Value.pointer (some ⟨e2, e3, none⟩))), (17, MP.eq (vI (rd a0 a3))), (18, MP.eq (vI a3)), (19, MP.eq (Value.pointer (some ⟨b1, 0 + (a3).toNat * 1, none⟩))), (20, MP.eq (Value.int .u8 (Y5 a1 a3))), (21, MP.eq (vI (IntKind.i64.wrap (Y5 a1 a3)))), (22, MP.eq (vI (IntKind.i64.wrap ((rd a0 a3) * (IntKind.i64.wrap (Y5 a1 a3)))))), (23, MP.eq (vI (IntKind.i64.wrap (a4 + (IntKind.i64.wrap ((rd a0 a3) * (IntKind.i64.wrap (Y5 a1 a3))))))))]) [] mixed rfl rfl rfl hS (Z5 rfl ?_ (Z5 rfl ?_ (Z5 rfl ?_ (Z5 rfl ?_ (Z5 rfl ?_ (Z5 rfl ?_ (Z5 rfl ?_ (Z5 rfl ?_ (Z5 rfl ?_ (Z5 rfl ?_ (Z5 rfl ?_ V9))))))))))) ?_
 intro f6 w7 H8 X9 f2 hS c8 f3 hcq
 refine Z4 (vI a4) (evT (c8 5 rfl) b2) rfl ?_
 exact qn (.refl _) rfl hS rfl
 intro i3 i4 i5 i6 f4 hS c9 f5 hcq
 refine Z4 (s0) (evT (c9 0 rfl) a8) rfl ?_
 exact qn (.refl _) rfl hS rfl
 intro i7 i8 i9 j0 f7 hS d0 f8 hcq
 refine Z4 (vI a3) (evT (d0 6 rfl) a7) rfl ?_
 exact qn (.refl _) rfl hS rfl
 intro j1 j2 j3 j4 f9 hS g0 c2 hcq
 refine W3 Q9 rfl (eM (c2 1 14 rfl rfl)) c6 (eM (c2 2 15 rfl rfl)) (by omega) (by omega) rfl ?_
 exact qn (.refl _) rfl hS rfl
 intro j5 j6 j7 j8 d1 hS g1 d2 hcq
 have b4 := d1.1 _ _ b4
 refine Y4 (vI (rd a0 a3)) ty2 (eM (d2 3 16 rfl rfl)) (hS.froz _ _ b4) (c7 0 (show 0 < 1 by decide)) rfl ?_
 exact qn (.refl _) rfl hS rfl
 intro j9 k0 k1 k2 g2 hS d3 g3 hcq
 refine Z4 (vI a3) (evT (d3 6 rfl) a7) rfl ?_
 exact qn (.refl _) rfl hS rfl
 intro k3 k4 k5 k6 g4 hS d4 d5 hcq
 refine W8 Za7 (evT (d4 3 rfl) b0) (eM (d5 5 18 rfl rfl)) (by omega) (by omega) rfl ?_
 exact qn (.refl _) rfl hS rfl
 intro k7 k8 k9 l0 g5 hS g6 d6 hcq
 refine Y4 (Value.int .u8 (Y5 a1 a3)) ty5 (eM (d6 6 19 rfl rfl)) (hS.get (o := cA (Z7 .u8 a1) 70) (mR mL)) (M3 ([]) ([]) (by omega) (by omega)) rfl ?_
 exact qn (.refl _) rfl hS rfl
 intro l1 l2 l3 l4 g7 hS g8 d7 hcq
 refine Yg7 (s := .u8) ((IntKind.i64.wrap (Y5 a1 a3))) Wb0 (eM (d7 7 20 rfl rfl)) rfl rfl ?_
 exact qn (.refl _) rfl hS rfl
 intro g9 h0 h1 h2 e4 hS e5 b6 hcq
 refine Zt0 (IntKind.i64.wrap ((rd a0 a3) * (IntKind.i64.wrap (Y5 a1 a3)))) (eM (b6 4 17 rfl rfl)) (eM (b6 8 21 rfl rfl)) rfl rfl ?_
 exact qn (.refl _) rfl hS rfl
 intro h3 h4 h5 h6 e6 hS e7 b7 hcq
 refine V0 (IntKind.i64.wrap (a4 + (IntKind.i64.wrap ((rd a0 a3) * (IntKind.i64.wrap (Y5 a1 a3)))))) (eM (b7 0 13 rfl rfl)) (eM (b7 9 22 rfl rfl)) rfl rfl ?_
 exact qn (.refl _) rfl hS rfl
 intro h7 d8 c3 b8 hS b3 c4 hcq
 have hS : St c3 d8 ([(b1, cA (Z7 .u8 a1) 70)] ++ L) := hS
 have Z2 := Z2.trans b8
 have a9 := a9.mono b8
 refine Z6 (vI (IntKind.i64.wrap (a4 + (IntKind.i64.wrap ((rd a0 a3) * (IntKind.i64.wrap (Y5 a1 a3))))))) (by exact (eM (c4 10 23 (by decide) rfl))) rfl (Z0 (X2 (Z1 (Z4 (vI a3) (by exact (evT (b3 6 rfl) a7)) rfl ?_))))
 refine V0 (a3 + 1) rfl rfl (IntWalk.i64_in _ (by omega)) rfl (Z6 (vI (a3 + 1)) rfl rfl (Z0 ?_))
 exact d9 _ _ ⟨(IntKind.i64.wrap (a4 + (IntKind.i64.wrap ((rd a0 a3) * (IntKind.i64.wrap (Y5 a1 a3)))))), (a3 + 1), c3, a5, Z2, hS, (by omega), a9, (evT (b3 0 rfl) a8), (evT (b3 3 rfl) b0), rfl, rfl⟩
 rw [if_neg b5] at a5
 refine Z9 (bF b5 rfl) ?_
 refine W4 rfl ?_
 have hz := Option.some.inj a5
 subst hz
 exact e0 _ _ ⟨a4, c5, rfl, Z2, hS, b2⟩
 exact ⟨0, 0, H, a5, Z2, hS, (by omega), a9, rfl, rfl, rfl, rfl⟩
 rintro h8 h9 ⟨a6, i0, rfl, Z2, hS, b9⟩
 dsimp only [Ex.elim] at c1
 refine Z3 (Z1 (Z4 (vI a6) (by exact b9) rfl (Z6 (vI a6) rfl rfl (Z0 ?_))))
 refine Y9 (vs := [vI a6]) Tryz.func216 ⟨rfl, trivial⟩ ?_
 have hz := Option.some.inj c1
 subst hz
 exact ⟨_, _, rfl, Z2, (St.dropA hS), rfl⟩
def E1 (K : Nat) (a0 : (List Int)) : Nat → Int → (List Int) → Option (Ex (List Int) ((List Int)))
 | 0, _, _ => none
 | k + 1, a1, a3 => (if a1 < (a0.length : Int) then (if a1 < (a3.length : Int) then E1 K a0 k (a1 + 1) (a3.set (a1).toNat (rd a0 a1)) else none) else some (.go a3))
def Zm5 (K : Nat) (a0 : (List Int)) : Option (List Int) := (if (a0.length : Int) ≤ 1099511627776 then ((E1 K a0 K 0 (List.replicate ((a0.length : Int)).toNat (0 : Int))).bind (Ex.elim (fun r => some r) (fun s => (fun (a7 : (List Int)) => some a7) s))) else none)
theorem Yn1 {K : Nat} {a0 : (List Int)} {r : (List Int)} (q0 : Zm5 K a0 = some r) {H : FH} {w : World} {L : OL} {s0 : Value} (b4 : Y3 (X3 .i64) H s0 a0) (hS : St H w L) :
 Calls Tryz.prog 83 #[s0] w (T6 (fun v G => (R.sl (X3 .i64)).p (G.new H) v r) H L) := by
 have Z2 := Sub.refl H
 refine X0 Tryz.func83 rfl Tryz.ntmps83 rfl ?_
 unfold Zm5 at q0
 refine Z3 (Z1 (Z6 (vN) rfl rfl (Z0 (Z3 (Z1 (Z4 (s0) rfl rfl ?_))))))
 have e2 := b4.bound
 refine W6 Q9 rfl b4 rfl ?_
 obtain ⟨e3, q0⟩ := gd q0
 refine Xh3 (τ := (X3 .i64)) (0 : Int) Xy6 rfl rfl rfl (fun _ => rfl) (by omega) (by omega) hS rfl ?_
 intro u3 w4 C5 c8 hS
 refine Z6 (u3) rfl rfl (Z0 (Z3 (Z3 (Z1 (Z6 (vI 0) rfl rfl (Z0 (Y7 ?_)))))))
 obtain ⟨b9, a6, c0⟩ := bind_some q0
 refine W7 (id := 0) (fun k f w => ∃ (a1 : Int) (a3 : (List Int)) (H1 : FH) (a8 : OL) (a4 : Value), E1 K a0 k a1 a3 = some b9 ∧ Sub H H1 ∧ St H1 w (a8 ++ L) ∧ 0 ≤ a1 ∧ U1 (X3 .i64) 2 H1 a4 a3 a8 ∧ Y3 (X3 .i64) H1 s0 a0 ∧ ev f (.tmp 0) = s0 ∧ ev f (.tmp 3) = a4 ∧ ev f (.tmp 4) = vI a1) (fun f w => ∃ (a7 : (List Int)) (H1 : FH) (b1 : OL) (a5 : Value), b9 = .go a7 ∧ Sub H H1 ∧ St H1 w (b1 ++ L) ∧ U1 (X3 .i64) 2 H1 a5 a7 b1 ∧ ev f (.tmp 3) = a5) rfl ?_ ?_ K ?_ ?_
 rintro f w ⟨a1, a3, H1, a8, a4, a6, _⟩
 rw [E1] at a6; cases a6
 rintro k d4 d5 c9 d0 ⟨a1, a3, c1, a8, a4, a6, Z2, hS, d1, a9, b4, b2, b3, b0⟩
 rw [E1] at a6
 refine Z3 (Z3 (Z1 (Z4 (vI a1) (by exact b0) rfl (Z4 (s0) (by exact b2) rfl ?_))))
 have e4 := b4.bound
 refine W6 Q9 rfl b4 rfl ?_
 refine U5 (k := .i64) (a := a1) (b := (a0.length : Int)) rfl rfl rfl (Z0 ?_)
 by_cases b7 : a1 < (a0.length : Int)
 rw [if_pos b7] at a6
 refine Y0 (bT b7 rfl) (Y6 (Z3 (Y7 (Z1 (Z4 (a4) (by exact b3) rfl (Z4 (vI a1) (by exact b0) rfl (Z4 (s0) (by exact b2) rfl (Z4 (vI a1) (by exact b0) rfl ?_))))))))
 obtain ⟨e5, e6, d6, e7, _, c3, c4, rfl, c5⟩ := b4.elem (i := a1) (by omega) (by omega)
 refine W3 Q9 rfl rfl c3 rfl (by omega) (by omega) rfl ?_
 refine Y4 (vI (rd a0 a1)) ty2 rfl (hS.froz _ _ c4) (c5 0 (show 0 < 1 by decide)) rfl ?_
 obtain ⟨d7, a6⟩ := gd a6
 obtain ⟨e8, e9, c2⟩ := a9.some (i := a1) (by omega) (by omega)
 refine Zt3 Q9 (Eq.trans rfl c2) rfl (by omega) (by omega) rfl ?_
 refine Zw4 (τ := (X3 .i64)) (v := a4) (u := vI (rd a0 a1)) (rd a0 a1) (i := a1) rfl ty2 c2 a9 hS rfl rfl (by omega) (by omega) rfl ?_
 intro f0 d2 c6 hS
 refine Z0 (X2 (Z1 (Z4 (vI a1) (by exact b0) rfl ?_)))
 refine V0 (a1 + 1) rfl rfl (IntWalk.i64_in _ (by omega)) rfl (Z6 (vI (a1 + 1)) rfl rfl (Z0 ?_))
 exact c9 _ _ ⟨(a1 + 1), (a3.set (a1).toNat (rd a0 a1)), c1, d2, a4, a6, Z2, hS, (by omega), c6, b4, b2, b3, rfl⟩
 rw [if_neg b7] at a6
 refine Z9 (bF b7 rfl) ?_
 refine W4 rfl ?_
 have hz := Option.some.inj a6
 subst hz
 exact d0 _ _ ⟨a3, c1, a8, a4, rfl, Z2, hS, a9, b3⟩
 exact ⟨0, (List.replicate ((a0.length : Int)).toNat (0 : Int)), H, C5, u3, a6, Z2, hS, (by omega), c8, b4, rfl, rfl, rfl⟩
 rintro d8 d9 ⟨a7, e0, b1, a5, rfl, Z2, hS, b6, b8⟩
 dsimp only [Ex.elim] at c0
 refine Z3 (Z1 (Z4 (a5) (by exact b8) rfl (Z6 (a5) rfl rfl (Z0 ?_))))
 refine Y9 (vs := [a5]) Tryz.func83 ⟨rfl, trivial⟩ ?_
 obtain ⟨d3, c7, hS, b5⟩ := U1.freezeF (τ := (X3 .i64)) (H0 := H) b6 hS Z2
 have e1 := Y3.old b5
 have b5 : RdF (X3 .i64) H d3 a5 a7 := b5
 have Z2 := Z2.trans c7
 have hz := Option.some.inj c0
 subst hz
 exact ⟨_, _, rfl, Z2, hS, b5⟩
def I5 (K : Nat) (a0 : A8) : Nat → Int → A8 → Option (Ex A8 (A8))
 | 0, _, _ => none
 | k + 1, a1, a3 => (if a1 < 8 then I5 K a0 k (a1 + 1) (T8 a3 a1 (Y5 a0 a1)) else some (.go a3))
def Zi5 (K : Nat) (a0 : A8) : Option A8 := ((I5 K a0 K 0 (fun _ => 0)).bind (Ex.elim (fun r => some r) (fun s => (fun (a4 : A8) => some a4) s)))
theorem Yk9 {K : Nat} {a0 : A8} {r : A8} (q0 : Zi5 K a0 = some r) {H : FH} {w : World} {L : OL} (hS : St H w L) :
 Calls Tryz.prog 267 #[vA (Z7 .u8 a0)] w (T6 (fun v G => (R.agg (Zo6 .u8)).p G v r) H L) := by
 have Z2 := Sub.refl H
 refine X0 Tryz.func267 rfl Tryz.ntmps267 rfl ?_
 unfold Zi5 at q0
 refine Z3 (Z1 ?_)
 refine T7 (v := vA (Z7 .u8 a0)) (Z7 .u8 a0).toArray rfl rfl hS rfl ?_
 intro b1 w2 hS
 refine W9 (z := vA (Z7 .u8 (fun _ => 0))) (Z7 .u8 (fun _ => 0)).toArray Ya8.zero rfl hS rfl ?_
 intro b4 w5 hS
 refine Z0 (Z3 (Z1 ?_))
 refine W9 (z := vA (Z7 .u8 (fun _ => 0))) (Z7 .u8 (fun _ => 0)).toArray Ya8.zero rfl hS rfl ?_
 intro b7 w8 hS
 refine Z0 (Z3 (Z3 (Z1 (Z6 (vI 0) rfl rfl (Z0 (Y7 ?_))))))
 obtain ⟨b5, a5, b6⟩ := bind_some q0
 refine W7 (id := 0) (fun k f w => ∃ (a1 : Int) (a3 : A8) (H1 : FH), I5 K a0 k a1 a3 = some b5 ∧ Sub H H1 ∧ St H1 w ([(b7, cA (Z7 .u8 a3) 70)] ++ ([(b4, cA (Z7 .u8 (fun _ => 0)) 70)] ++ ([(b1, cA (Z7 .u8 a0) 69)] ++ L))) ∧ 0 ≤ a1 ∧ ev f (.tmp 1) = vP b1 ∧ ev f (.tmp 2) = vP b4 ∧ ev f (.tmp 3) = vP b7 ∧ ev f (.tmp 4) = vI a1) (fun f w => ∃ (a4 : A8) (H1 : FH), b5 = .go a4 ∧ Sub H H1 ∧ St H1 w ([(b7, cA (Z7 .u8 a4) 70)] ++ ([(b4, cA (Z7 .u8 (fun _ => 0)) 70)] ++ ([(b1, cA (Z7 .u8 a0) 69)] ++ L))) ∧ ev f (.tmp 2) = vP b4 ∧ ev f (.tmp 3) = vP b7) rfl ?_ ?_ K ?_ ?_
 rintro f w ⟨a1, a3, H1, a5, _⟩
 rw [I5] at a5; cases a5
 rintro k c2 c3 b9 c0 ⟨a1, a3, b8, a5, Z2, hS, c1, a8, a9, a7, a6⟩
 rw [I5] at a5
 refine Z3 (Z3 (Z1 (Z4 (vI a1) (by exact a6) rfl ?_)))
 refine U5 (k := .i64) (a := a1) (b := 8) rfl rfl rfl (Z0 ?_)
 by_cases b2 : a1 < 8
 rw [if_pos b2] at a5
 refine Y0 (bT b2 rfl) (Y6 (Z3 (Y7 (Z1 (Z4 (vI a1) (by exact a6) rfl (Z4 (vI a1) (by exact a6) rfl ?_))))))
 refine W8 Wm3 (by exact a8) rfl (by omega) (by omega) rfl ?_
 refine Y4 (Value.int .u8 (Y5 a0 a1)) ty5 rfl (hS.get (o := cA (Z7 .u8 a0) 69) (mR (mR mL))) (M3 ([]) ([]) (by omega) (by omega)) rfl ?_
 refine W8 Za7 (by exact a7) rfl (by omega) (by omega) rfl ?_
 refine D0 (v := Value.int .u8 (Y5 a0 a1)) (cs := (Z7 .u8 a3).toArray) (cs' := (Z7 .u8 (T8 a3 a1 (Y5 a0 a1))).toArray) ty5 rfl rfl hS rfl (Zu7 rfl) (by simp [Z7, U2]; omega) (Ze5 (by omega) (by omega)) ?_
 intro c7 hS
 refine Z0 (X2 (Z1 (Z4 (vI a1) (by exact a6) rfl ?_)))
 refine V0 (a1 + 1) rfl rfl (IntWalk.i64_in _ (by omega)) rfl (Z6 (vI (a1 + 1)) rfl rfl (Z0 ?_))
 exact b9 _ _ ⟨(a1 + 1), (T8 a3 a1 (Y5 a0 a1)), b8, a5, Z2, hS, (by omega), a8, a9, a7, rfl⟩
 rw [if_neg b2] at a5
 refine Z9 (bF b2 rfl) ?_
 refine W4 rfl ?_
 have hz := Option.some.inj a5
 subst hz
 exact c0 _ _ ⟨a3, b8, rfl, Z2, hS, a9, a7⟩
 exact ⟨0, (fun _ => 0), H, a5, Z2, hS, (by omega), rfl, rfl, rfl, rfl⟩
 rintro c4 c5 ⟨a4, c6, rfl, Z2, hS, b0, b3⟩
 dsimp only [Ex.elim] at b6
 refine Z3 (Z1 ?_)
 refine X8 N0 (by exact b3) (hS.get mL) rfl rfl ?_
 have hS := hS.perm U4
 refine W1 (v := vA (Z7 .u8 a4)) (vs := (Z7 .u8 a4).toArray) (cs := (Z7 .u8 (fun _ => 0)).toArray) N0 (by exact b0) rfl rfl hS rfl (S8 .u8 a4) rfl ?_
 intro c8 hS
 have hS := hS.perm U4.symm
 refine Z0 ?_
 refine Y9 (vs := [vA (Z7 .u8 a4)]) Tryz.func267 ⟨⟨_, (by exact b0), U8 N0 (hS.get (mR mL)) rfl⟩, trivial⟩ ?_
 have hz := Option.some.inj b6
 subst hz
 exact ⟨_, _, rfl, Z2, (St.dropA (St.dropA (St.dropA hS))), ⟨_, rfl, rfl⟩⟩
def Zb9 (K : Nat) (a0 : (List Int)) : Nat → Int → Option (Ex Int (Unit))
 | 0, _ => none
 | k + 1, a1 => (if a1 < (a0.length : Int) then (if (rd a0 a1) = 0 then Zb9 K a0 k (a1 + 1) else some (.ret (rd a0 a1))) else some (.go ()))
def Zs6 (K : Nat) (a0 : (List Int)) : Option Int := ((Zb9 K a0 K 0).bind (Ex.elim (fun r => some r) (fun s => some 0)))
theorem Yx0 {K : Nat} {a0 : (List Int)} {r : Int} (q0 : Zs6 K a0 = some r) {H : FH} {w : World} {L : OL} {s0 : Value} (a5 : Y3 (X3 .i64) H s0 a0) (hS : St H w L) :
 Calls Tryz.prog 84 #[s0] w (T6 (fun v G => (R.int .i64).p G v r) H L) := by
 have Z2 := Sub.refl H
 refine X0 Tryz.func84 rfl Tryz.ntmps84 rfl ?_
 unfold Zs6 at q0
 refine Z3 (Z1 (Z6 (vI 0) rfl rfl (Z0 (Z3 (Z3 (Z1 (Z4 (s0) rfl rfl ?_)))))))
 have c5 := a5.bound
 refine W6 Q9 rfl a5 rfl (Z4 (vI 0) rfl rfl (Z0 (Y7 ?_)))
 obtain ⟨b1, a3, a8⟩ := bind_some q0
 refine W7 (id := 0) (fun k f w => ∃ (a1 : Int) (H1 : FH), Zb9 K a0 k a1 = some b1 ∧ Sub H H1 ∧ St H1 w (L) ∧ 0 ≤ a1 ∧ Y3 (X3 .i64) H1 s0 a0 ∧ ev f (.tmp 5) = s0 ∧ ev f (.tmp 6) = vI (a0.length : Int) ∧ ev f (.tmp 7) = vI a1) (fun f w => ∃ (H1 : FH), b1 = .go () ∧ Sub H H1 ∧ St H1 w (L)) rfl ?_ ?_ K ?_ ?_
 rintro f w ⟨a1, H1, a3, _⟩
 rw [Zb9] at a3; cases a3
 rintro k c0 c1 b4 b5 ⟨a1, b2, a3, Z2, hS, b6, a5, a6, a7, a4⟩
 rw [Zb9] at a3
 refine Z3 (Z1 ?_)
 refine U5 (k := .i64) (a := a1) (b := (a0.length : Int)) (by exact a4) (by exact a7) rfl (Z0 (Z3 ?_))
 by_cases a9 : a1 < (a0.length : Int)
 rw [if_pos a9] at a3
 refine Y0 (Eq.trans rfl (congrArg Value.bool (decide_eq_true a9))) (Y6 (Z3 (Y7 (Z3 (Z1 ?_)))))
 obtain ⟨b3, o3, c6, E3, _, b7, b8, rfl, b9⟩ := a5.elem (i := a1) (by omega) (by omega)
 refine W3 Q9 rfl (by exact a6) b7 (by exact a4) (by omega) (by omega) rfl ?_
 refine Y4 (vI (rd a0 a1)) ty2 rfl (hS.froz _ _ b8) (b9 0 (show 0 < 1 by decide)) rfl (Z6 (vI (rd a0 a1)) rfl rfl (Z0 (Z3 (Z1 (Z4 (vI (rd a0 a1)) rfl rfl ?_)))))
 refine L9 (k := .i64) (a := (rd a0 a1)) (b := 0) rfl rfl rfl (Z0 ?_)
 by_cases b0 : (rd a0 a1) = 0
 rw [if_pos b0] at a3
 refine Z9 (Eq.trans rfl (congrArg (fun b => Value.bool (!b)) (decide_eq_true b0))) (Y6 (X2 (Z1 ?_)))
 refine V0 (a1 + 1) (by exact a4) rfl (IntWalk.i64_in _ (by omega)) rfl (Z4 (vI (a1 + 1)) rfl rfl (Z0 ?_))
 exact b4 _ _ ⟨(a1 + 1), b2, a3, Z2, hS, (by omega), a5, a6, a7, rfl⟩
 rw [if_neg b0] at a3
 refine Y0 (Eq.trans rfl (congrArg (fun b => Value.bool (!b)) (decide_eq_false b0))) (Z3 (Z1 (Z4 (vI (rd a0 a1)) rfl rfl (Z6 (vI (rd a0 a1)) rfl rfl (Z0 ?_)))))
 refine Y9 (vs := [vI (rd a0 a1)]) Tryz.func84 ⟨rfl, trivial⟩ ?_
 have hz := Option.some.inj a3
 subst hz
 dsimp only [Ex.elim] at a8
 have hz := Option.some.inj a8
 subst hz
 exact ⟨_, _, rfl, Z2, hS, rfl⟩
 rw [if_neg a9] at a3
 refine Z9 (Eq.trans rfl (congrArg Value.bool (decide_eq_false a9))) ?_
 refine W4 rfl ?_
 have hz := Option.some.inj a3
 subst hz
 exact b5 _ _ ⟨b2, rfl, Z2, hS⟩
 exact ⟨0, H, a3, Z2, hS, (by omega), a5, rfl, rfl, rfl⟩
 rintro c2 c3 ⟨c4, rfl, Z2, hS⟩
 dsimp only [Ex.elim] at a8
 refine Z3 (Z1 (Z6 (vI 0) rfl rfl (Z0 ?_)))
 refine Y9 (vs := [vI 0]) Tryz.func84 ⟨rfl, trivial⟩ ?_
 have hz := Option.some.inj a8
 subst hz
 exact ⟨_, _, rfl, Z2, hS, rfl⟩
def Zt4 (K : Nat) (a0 : MpT) (a1 : Int) : Option Int := (if (IntKind.i64.wrap (a1 - (a0.length : Int))) < 0 then some (-1) else some (IntKind.i64.wrap (a1 - (a0.length : Int))))
theorem Yr5 {K : Nat} {a0 : MpT} {a1 : Int} {r : Int} (q0 : Zt4 K a0 a1 = some r) {H : FH} {w : World} {L : OL} {s0 : Value} (a4 : Y3 yT H s0 a0) (hS : St H w L) :
 Calls Tryz.prog 105 #[s0, vI a1] w (T6 (fun v G => (R.int .i64).p G v r) H L) := by
 have Z2 := Sub.refl H
 refine X0 Tryz.func105 rfl Tryz.ntmps105 rfl ?_
 unfold Zt4 at q0
 refine Z3 (Z1 (Z6 (vI 0) rfl rfl (Z0 (Z3 (Z1 (Z4 (vI a1) rfl rfl (Z4 (s0) rfl rfl ?_)))))))
 have a5 := a4.bound
 refine W6 Xq7 rfl a4 rfl ?_
 refine Zu4 (IntKind.i64.wrap (a1 - (a0.length : Int))) rfl rfl rfl rfl (Z6 (vI (IntKind.i64.wrap (a1 - (a0.length : Int)))) rfl rfl (Z0 (Z3 (Z3 (Z1 (Z4 (vI (IntKind.i64.wrap (a1 - (a0.length : Int)))) rfl rfl ?_))))))
 refine U5 (k := .i64) (a := (IntKind.i64.wrap (a1 - (a0.length : Int)))) (b := 0) rfl rfl rfl (Z0 ?_)
 by_cases a3 : (IntKind.i64.wrap (a1 - (a0.length : Int))) < 0
 rw [if_pos a3] at q0
 refine Y0 (bT a3 rfl) (Z3 (Z1 (Z6 (vI (-1)) rfl rfl (Z0 ?_))))
 refine Y9 (vs := [vI (-1)]) Tryz.func105 ⟨rfl, trivial⟩ ?_
 have hz := Option.some.inj q0
 subst hz
 exact ⟨_, _, rfl, Z2, hS, rfl⟩
 rw [if_neg a3] at q0
 refine Z9 (bF a3 rfl) (Y6 (Z3 (Z1 (Z4 (vI (IntKind.i64.wrap (a1 - (a0.length : Int)))) rfl rfl (Z6 (vI (IntKind.i64.wrap (a1 - (a0.length : Int)))) rfl rfl (Z0 ?_))))))
 refine Y9 (vs := [vI (IntKind.i64.wrap (a1 - (a0.length : Int)))]) Tryz.func105 ⟨rfl, trivial⟩ ?_
 have hz := Option.some.inj q0
 subst hz
 exact ⟨_, _, rfl, Z2, hS, rfl⟩
def Zn4 (K : Nat) (a0 : Bool) (a1 : Int) : Option Int := (if a0 = true then some a1 else some 0)
theorem Zx8 {K : Nat} {a0 : Bool} {a1 : Int} {r : Int} (q0 : Zn4 K a0 a1 = some r) {H : FH} {w : World} {L : OL} (hS : St H w L) :
 Calls Tryz.prog 86 #[Value.bool a0, vI a1] w (T6 (fun v G => (R.int .i64).p G v r) H L) := by
 have Z2 := Sub.refl H
 refine X0 Tryz.func86 rfl Tryz.ntmps86 rfl ?_
 unfold Zn4 at q0
 refine Z3 (Z1 (Z6 (vI 0) rfl rfl (Z0 (Z3 (Z3 (Z1 (Z4 (Value.bool a0) rfl rfl (Z0 ?_))))))))
 by_cases a3 : a0 = true
 rw [if_pos a3] at q0
 refine Y0 (Eq.trans rfl (congrArg Value.bool a3)) (Z3 (Z1 (Z4 (vI a1) rfl rfl (Z6 (vI a1) rfl rfl (Z0 ?_)))))
 refine Y9 (vs := [vI a1]) Tryz.func86 ⟨rfl, trivial⟩ ?_
 have hz := Option.some.inj q0
 subst hz
 exact ⟨_, _, rfl, Z2, hS, rfl⟩
 rw [if_neg a3] at q0
 refine Z9 (Eq.trans rfl (congrArg Value.bool (W2 a3))) (Y6 (Z3 (Z1 (Z6 (vI 0) rfl rfl (Z0 ?_)))))
 refine Y9 (vs := [vI 0]) Tryz.func86 ⟨rfl, trivial⟩ ?_
 have hz := Option.some.inj q0
 subst hz
 exact ⟨_, _, rfl, Z2, hS, rfl⟩
def Zu3 (K : Nat) (a0 : (List Int)) : Option (List Int) := (if ([] : List Int).length + a0.length ≤ 1099511627776 then some (([] : List Int) ++ a0) else none)
theorem Yu4 {K : Nat} {a0 : (List Int)} {r : (List Int)} (q0 : Zu3 K a0 = some r) {H : FH} {w : World} {L : OL} {s0 : Value} (a5 : Y3 (X3 .i64) H s0 a0) (hS : St H w L) :
 Calls Tryz.prog 234 #[s0] w (T6 (fun v G => (R.sl (X3 .i64)).p G v r) H L) := by
 have Z2 := Sub.refl H
 refine X0 Tryz.func234 rfl Tryz.ntmps234 rfl ?_
 unfold Zu3 at q0
 refine Z3 (Z1 (Z6 (vN) rfl rfl (Z0 (Z3 (Z1 ?_)))))
 refine Yw3 (τ := (X3 .i64)) Q9 ze2 rfl hS rfl ?_
 intro u1 w2 C3 a6 hS
 refine Z4 (s0) rfl rfl ?_
 obtain ⟨a7, q0⟩ := gd q0
 refine Zd1 (τ := (X3 .i64)) Xy6 rfl rfl rfl a6 hS a5 a7 rfl ?_
 intro u7 w8 C9 a1 hS
 refine Z6 (u7) rfl rfl (Z0 ?_)
 refine Y9 (vs := [u7]) Tryz.func234 ⟨rfl, trivial⟩ ?_
 obtain ⟨a8, a3, hS, a4⟩ := a1.freeze hS
 have Z2 := Z2.trans a3
 have hz := Option.some.inj q0
 subst hz
 exact ⟨_, _, rfl, Z2, hS, a4⟩
end Go.Proofs.YtfodlhkoafhplaaGreat
