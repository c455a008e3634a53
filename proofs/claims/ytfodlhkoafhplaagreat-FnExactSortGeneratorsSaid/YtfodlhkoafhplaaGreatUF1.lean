/- Walks of functions: each computes its pure function, if that gives a value. -/
import Derived.Test.YtfodlhkoafhplaaGreatUTy
namespace Go.Proofs.YtfodlhkoafhplaaGreat
open Go
set_option linter.unusedSimpArgs false
set_option linter.unusedVariables false
set_option maxRecDepth 100000
set_option maxHeartbeats 8000000
def L6 (K : Nat) (a0 : A8) (a1 : (List Int)) : Nat → Int → Int → Option (Ex (A8 × Int) (Int))
 | 0, _, _ => none
 | k + 1, b3, a5 => (if a5 < (a1.length : Int) then (if a5 < 8 then L6 K a0 a1 k (IntKind.i64.wrap (b3 + (IntKind.i64.wrap ((((rd a1 a5)).tmod 2) * (Y5 a0 a5))))) (a5 + 1) else none) else some (.go b3))
def I7 (K : Nat) (l1 : Int → Int → Option (Ex (A8 × Int) (Int))) (a0 : A8) (a1 : (List Int)) (a2 : A8) (a3 : Int) (a8 : Int) (b9 : Bool) : Option (Ex (A8 × Int) (Int)) := (if b9 = true then some (.ret ((fun _ => 0), 0)) else (if a3 < 8 then (if 0 < (Y5 a2 a3) then ((L6 K a0 a1 K a8 (a3 + 1)).bind (Ex.elim (fun r => some (.ret r)) (fun s => (fun (d6 : Int) => l1 (a3 + 1) d6) s))) else l1 (a3 + 1) a8) else none))
def N3 (K : Nat) (a2 : A8) : Nat → Int → A8 → Option (Ex (A8 × Int) (A8))
 | 0, _, _ => none
 | k + 1, a4, a6 => (if a4 < 8 then N3 K a2 k (a4 + 1) (T7 a6 a4 (IntKind.i64.wrap ((Y5 a6 a4) + (Y5 a2 a4)))) else some (.go a6))
def T4 (K : Nat) (a0 : A8) (a1 : (List Int)) (a2 : A8) : Nat → Int → Int → Option (Ex (A8 × Int) (Int))
 | 0, _, _ => none
 | k + 1, a3, a8 => (if a3 < (a1.length : Int) then (if (((rd a1 a3)).tmod 2) = 0 then T4 K a0 a1 a2 k (a3 + 1) a8 else (if a3 < 8 then (if 0 < (Y5 a0 a3) then I7 K (T4 K a0 a1 a2 k) a0 a1 a2 a3 a8 (decide (0 < (Y5 a2 a3))) else I7 K (T4 K a0 a1 a2 k) a0 a1 a2 a3 a8 false) else none)) else some (.go a8))
def G4 (K : Nat) (a0 : A8) (a1 : (List Int)) (a2 : A8) : Option (A8 × Int) := ((T4 K a0 a1 a2 K 0 0).bind (Ex.elim (fun r => some r) (fun s => (fun (c0 : Int) => ((N3 K a2 K 0 a0).bind (Ex.elim (fun r => some r) (fun s => (fun (a7 : A8) => (if ((c0).tmod 2) = 1 then some (a7, (-1)) else some (a7, 1))) s)))) s)))
theorem Yd2 {K : Nat} {a0 : A8} {a1 : (List Int)} {a2 : A8} {r : (A8 × Int)} (q0 : G4 K a0 a1 a2 = some r) {H : FH} {w : World} {L : OL} {s0 : Value} (b0 : Y2 (Y8 .i64) H s0 a1) (hS : St H w L) :
 Calls Tryz.prog 224 #[vA (Z7 .i64 a0), s0, vA (Z7 .i64 a2)] w (S3 (fun v G => (R.t2 (R.agg (Zl2 .i64)) (R.int .i64)).p G v r) H L) := by
 have Z2 := Sub.refl H
 refine X2 Tryz.func224 rfl Tryz.ntmps224 rfl ?_
 unfold G4 at q0
 refine Z3 (Z1 ?_)
 refine S5 (v := vA (Z7 .i64 a0)) (Z7 .i64 a0).toArray rfl rfl hS rfl ?_
 intro b1 w2 hS
 refine S5 (v := vA (Z7 .i64 a2)) (Z7 .i64 a2).toArray rfl rfl hS rfl ?_
 intro b4 w5 hS
 refine V0 (z := vA (Z7 .i64 (fun _ => 0))) (Z7 .i64 (fun _ => 0)).toArray Zi1.zero rfl hS rfl ?_
 intro b7 w8 hS
 refine Z5 (vI 0) rfl rfl (Z0 (Z3 (Z1 (Z5 (vI 0) rfl rfl (Z0 (Z3 (Z3 (Z1 (Z4 (s0) rfl rfl ?_)))))))))
 have q9 := b0.bound
 refine W6 S9 rfl b0 rfl (Z4 (vI 0) rfl rfl (Z0 (Y7 ?_)))
 obtain ⟨g8, a9, f7⟩ := bind_some q0
 refine W7 (id := 0) (fun k f w => ∃ (a3 : Int) (a8 : Int) (H1 : FH), T4 K a0 a1 a2 k a3 a8 = some g8 ∧ Sub H H1 ∧ St H1 w ([(b7, cA (Z7 .i64 (fun _ => 0)) 188)] ++ ([(b4, cA (Z7 .i64 a2) 188)] ++ ([(b1, cA (Z7 .i64 a0) 188)] ++ L))) ∧ 0 ≤ a3 ∧ Y2 (Y8 .i64) H1 s0 a1 ∧ ev f (.tmp 1) = s0 ∧ ev f (.tmp 3) = vP b1 ∧ ev f (.tmp 5) = vP b4 ∧ ev f (.tmp 6) = vP b7 ∧ ev f (.tmp 8) = vI a8 ∧ ev f (.tmp 13) = s0 ∧ ev f (.tmp 14) = vI (a1.length : Int) ∧ ev f (.tmp 15) = vI a3) (fun f w => ∃ (c0 : Int) (H1 : FH), g8 = .go c0 ∧ Sub H H1 ∧ St H1 w ([(b7, cA (Z7 .i64 (fun _ => 0)) 188)] ++ ([(b4, cA (Z7 .i64 a2) 188)] ++ ([(b1, cA (Z7 .i64 a0) 188)] ++ L))) ∧ ev f (.tmp 3) = vP b1 ∧ ev f (.tmp 5) = vP b4 ∧ ev f (.tmp 6) = vP b7 ∧ ev f (.tmp 8) = vI c0) rfl ?_ ?_ K ?_ ?_
 rintro f w ⟨a3, a8, H1, a9, _⟩
 rw [T4] at a9; cases a9
 rintro k r0 r1 i9 n9 ⟨a3, a8, f8, a9, Z2, hS, n6, b0, d7, c3, c4, c8, c9, c5, c6, b5⟩
 rw [T4] at a9
 refine Z3 (Z1 ?_)
 refine U2 (k := .i64) (a := a3) (b := (a1.length : Int)) (by exact b5) (by exact c6) rfl (Z0 (Z3 ?_))
 by_cases f9 : a3 < (a1.length : Int)
 rw [if_pos f9] at a9
 refine Y0 (bT f9 rfl) (Y6 (Z3 (Y7 (Z3 (Z1 (Z4 (vI a3) (by exact b5) rfl ?_))))))
 obtain ⟨z4, z5, r2, z6, _, l3, l4, rfl, l5⟩ := b0.elem (i := a3) (by omega) (by omega)
 refine W3 S9 rfl (by exact c5) l3 (by exact b5) (by omega) (by omega) rfl ?_
 refine Y4 (vI (rd a1 a3)) ty2 rfl (hS.froz _ _ l4) (l5 0 (show 0 < 1 by decide)) rfl (Z5 (vI a3) rfl rfl (Z5 (vI (rd a1 a3)) rfl rfl (Z0 (Z3 (Z3 (Z1 (Z4 (vI (rd a1 a3)) rfl rfl ?_)))))))
 refine Zk3 (((rd a1 a3)).tmod 2) rfl rfl (by decide) rfl rfl ?_
 refine Zd3 (k := .i64) (a := (((rd a1 a3)).tmod 2)) (b := 0) rfl rfl rfl (Z0 ?_)
 by_cases g0 : (((rd a1 a3)).tmod 2) = 0
 rw [if_pos g0] at a9
 refine Y0 (bT g0 rfl) ?_
 refine W4 rfl (Z1 ?_)
 refine W8 (a3 + 1) (by exact b5) rfl (IntWalk.i64_in _ (by omega)) rfl (Z4 (vI (a3 + 1)) rfl rfl (Z0 ?_))
 exact i9 _ _ ⟨(a3 + 1), a8, f8, a9, Z2, hS, (by omega), b0, d7, c3, c4, c8, c9, c5, c6, rfl⟩
 rw [if_neg g0] at a9
 refine Z9 (bF g0 rfl) (Y6 (Z3 (Z3 ?_)))
 refine Za3 (fun f w => ∃ (b9 : Bool) (H1 : FH), I7 K (T4 K a0 a1 a2 k) a0 a1 a2 a3 a8 b9 = some g8 ∧ Sub H H1 ∧ St H1 w ([(b7, cA (Z7 .i64 (fun _ => 0)) 188)] ++ ([(b4, cA (Z7 .i64 a2) 188)] ++ ([(b1, cA (Z7 .i64 a0) 188)] ++ L))) ∧ Y2 (Y8 .i64) H1 s0 a1 ∧ ev f (.tmp 1) = s0 ∧ ev f (.tmp 3) = vP b1 ∧ ev f (.tmp 5) = vP b4 ∧ ev f (.tmp 6) = vP b7 ∧ ev f (.tmp 8) = vI a8 ∧ ev f (.tmp 9) = vI a3 ∧ ev f (.tmp 13) = s0 ∧ ev f (.tmp 14) = vI (a1.length : Int) ∧ ev f (.tmp 15) = vI a3 ∧ ev f (.tmp 32) = Value.bool b9) ?_ ?_
 rintro z7 o6 ⟨b9, h3, b6, Z2, hS, b0, g4, g5, e1, d4, g6, g7, e6, e7, e8, e9⟩
 unfold I7 at b6
 by_cases g1 : b9 = true
 rw [if_pos g1] at b6
 refine Y0 (Eq.trans (by exact e9) (congrArg Value.bool g1)) (Z3 (Z1 ?_))
 refine Q6 (vA (Z7 .i64 (fun _ => 0))) Ys3 rfl ?_
 refine X8 (v := vA (Z7 .i64 (fun _ => 0))) (vs := (Z7 .i64 (fun _ => 0)).toArray) (cs := (Z7 .i64 (fun _ => 0)).toArray) P4 (by exact d4) rfl rfl hS rfl (S4 .i64 (fun _ => 0)) rfl ?_
 intro z8 hS
 refine Z5 (vI 0) rfl rfl (Z0 ?_)
 refine Y9 (vs := [vA (Z7 .i64 (fun _ => 0)), vI 0]) Tryz.func224 ⟨⟨_, (by exact d4), U6 P4 (hS.get mL) rfl⟩, rfl, trivial⟩ ?_
 have hz := Option.some.inj b6
 subst hz
 dsimp only [Ex.elim] at f7
 have hz := Option.some.inj f7
 subst hz
 exact ⟨_, _, rfl, Z2, (St.dropA (St.dropA (St.dropA hS))), ⟨_, _, rfl, ⟨_, rfl, rfl⟩, rfl⟩⟩
 rw [if_neg g1] at b6
 refine Z9 (Eq.trans (by exact e9) (congrArg Value.bool (W2 g1))) (Y6 (Z3 (Z1 (Z4 (vI a3) (by exact g7) rfl ?_))))
 obtain ⟨r3, b6⟩ := gd b6
 refine V3 Ze5 (by exact e1) rfl (by omega) (by omega) rfl ?_
 refine Y4 (vI (Y5 a2 a3)) ty3 rfl (hS.get (o := cA (Z7 .i64 a2) 188) (mR mL)) (M5 ([]) ([]) (by omega) (by omega)) rfl ?_
 refine Zd2 (k := .i64) (a := (Y5 a2 a3)) (b := 0) rfl rfl rfl (Z0 ?_)
 by_cases g2 : 0 < (Y5 a2 a3)
 rw [if_pos g2] at b6
 refine Y0 (bT g2 rfl) (Z3 (Z1 (Z4 (vI a3) (by exact g7) rfl ?_)))
 refine W8 (a3 + 1) rfl rfl (IntWalk.i64_in _ (by omega)) rfl (Z5 (vI (a3 + 1)) rfl rfl (Z0 (Y7 ?_)))
 obtain ⟨j0, b8, j1⟩ := bind_some b6
 refine W7 (id := 2) (fun k f w => ∃ (b3 : Int) (a5 : Int) (H1 : FH), L6 K a0 a1 k b3 a5 = some j0 ∧ Sub H H1 ∧ St H1 w ([(b7, cA (Z7 .i64 (fun _ => 0)) 188)] ++ ([(b4, cA (Z7 .i64 a2) 188)] ++ ([(b1, cA (Z7 .i64 a0) 188)] ++ L))) ∧ 0 ≤ a5 ∧ Y2 (Y8 .i64) H1 s0 a1 ∧ ev f (.tmp 1) = s0 ∧ ev f (.tmp 3) = vP b1 ∧ ev f (.tmp 5) = vP b4 ∧ ev f (.tmp 6) = vP b7 ∧ ev f (.tmp 8) = vI b3 ∧ ev f (.tmp 11) = vI a5 ∧ ev f (.tmp 13) = s0 ∧ ev f (.tmp 14) = vI (a1.length : Int) ∧ ev f (.tmp 15) = vI a3) (fun f w => ∃ (d6 : Int) (H1 : FH), j0 = .go d6 ∧ Sub H H1 ∧ St H1 w ([(b7, cA (Z7 .i64 (fun _ => 0)) 188)] ++ ([(b4, cA (Z7 .i64 a2) 188)] ++ ([(b1, cA (Z7 .i64 a0) 188)] ++ L))) ∧ Y2 (Y8 .i64) H1 s0 a1 ∧ ev f (.tmp 1) = s0 ∧ ev f (.tmp 3) = vP b1 ∧ ev f (.tmp 5) = vP b4 ∧ ev f (.tmp 6) = vP b7 ∧ ev f (.tmp 8) = vI d6 ∧ ev f (.tmp 13) = s0 ∧ ev f (.tmp 14) = vI (a1.length : Int) ∧ ev f (.tmp 15) = vI a3) rfl ?_ ?_ K ?_ ?_
 rintro f w ⟨b3, a5, H1, b8, _⟩
 rw [L6] at b8; cases b8
 rintro k r4 r5 o0 o1 ⟨b3, a5, l6, b8, Z2, hS, n7, b0, d0, d8, f0, f1, f2, c7, e2, e3, e4⟩
 rw [L6] at b8
 refine Z3 (Z3 (Z1 (Z4 (vI a5) (by exact c7) rfl (Z4 (s0) (by exact d0) rfl ?_))))
 have r6 := b0.bound
 refine W6 S9 rfl b0 rfl ?_
 refine U2 (k := .i64) (a := a5) (b := (a1.length : Int)) rfl rfl rfl (Z0 ?_)
 by_cases g3 : a5 < (a1.length : Int)
 rw [if_pos g3] at b8
 refine Y0 (bT g3 rfl) (Y6 (Z3 (Y7 ?_)))
 obtain ⟨o2, o3, r7, z9, _, l7, g9, rfl, l9⟩ := b0.elem (i := a5) (by omega) (by omega)
 obtain ⟨r8, b8⟩ := gd b8
 refine U0 11 (Q5 [(46, MP.eq (vI b3)), (47, MP.eq (s0)), (48, MP.eq (vI a5)), (49, MP.eq (Value.pointer (some ⟨o2, o3, none⟩))), (50, MP.eq (vI (rd a1 a5))), (51, MP.eq (vI (((rd a1 a5)).tmod 2))), (52, MP.eq (vI a5)), (53, MP.eq (Value.pointer (some ⟨b1, 0 + (a5).toNat * 1, none⟩))), (54, MP.eq (vI (Y5 a0 a5))), (55, MP.eq (vI (IntKind.i64.wrap ((((rd a1 a5)).tmod 2) * (Y5 a0 a5))))), (56, MP.eq (vI (IntKind.i64.wrap (b3 + (IntKind.i64.wrap ((((rd a1 a5)).tmod 2) * (Y5 a0 a5)))))))]) [] mixed rfl rfl rfl hS (Z6 rfl ?_ (Z6 rfl ?_ (Z6 rfl ?_ (Z6 rfl ?_ (Z6 rfl ?_ (Z6 rfl ?_ (Z6 rfl ?_ (Z6 rfl ?_ (Z6 rfl ?_ (Z6 rfl ?_ (Z6 rfl ?_ U5))))))))))) ?_
 intro f20 w21 H22 X23 r9 hS m0 s1 hcq
 refine Z4 (vI b3) (evT (m0 8 rfl) f2) rfl ?_
 exact qn (.refl _) rfl hS rfl
 intro f29 w30 H31 X32 s2 hS m1 s3 hcq
 refine Z4 (s0) (evT (m1 1 rfl) d0) rfl ?_
 exact qn (.refl _) rfl hS rfl
 intro f38 w39 H40 X41 s4 hS m2 s5 hcq
 refine Z4 (vI a5) (evT (m2 11 rfl) c7) rfl ?_
 exact qn (.refl _) rfl hS rfl
 intro f47 w48 H49 X50 s6 hS s7 j2 hcq
 refine W3 S9 rfl (eM (j2 1 47 rfl rfl)) l7 (eM (j2 2 48 rfl rfl)) (by omega) (by omega) rfl ?_
 exact qn (.refl _) rfl hS rfl
 intro f58 w59 H60 X61 m3 hS s8 m4 hcq
 have g9 := m3.1 _ _ g9
 refine Y4 (vI (rd a1 a5)) ty2 (eM (m4 3 49 rfl rfl)) (hS.froz _ _ g9) (l9 0 (show 0 < 1 by decide)) rfl ?_
 exact qn (.refl _) rfl hS rfl
 intro f67 w68 H69 X70 s9 hS t0 m5 hcq
 refine Zk3 (((rd a1 a5)).tmod 2) (eM (m5 4 50 rfl rfl)) rfl (by decide) rfl rfl ?_
 exact qn (.refl _) rfl hS rfl
 intro f76 w77 H78 X79 t1 hS m6 t4 hcq
 refine Z4 (vI a5) (evT (m6 11 rfl) c7) rfl ?_
 exact qn (.refl _) rfl hS rfl
 intro f96 w97 H98 X99 o7 hS j6 j7 hcq
 refine V3 Ze5 (evT (j6 3 rfl) d8) (eM (j7 6 52 rfl rfl)) (by omega) (by omega) rfl ?_
 exact qn (.refl _) rfl hS rfl
 intro t5 t6 t7 t8 o8 hS o9 j8 hcq
 refine Y4 (vI (Y5 a0 a5)) ty3 (eM (j8 7 53 rfl rfl)) (hS.get (o := cA (Z7 .i64 a0) 188) (mR (mR (mR mL)))) (M5 ([]) ([]) (by omega) (by omega)) rfl ?_
 exact qn (.refl _) rfl hS rfl
 intro t9 u0 u1 u2 p0 hS p1 h4 hcq
 refine Zq0 (IntKind.i64.wrap ((((rd a1 a5)).tmod 2) * (Y5 a0 a5))) (eM (h4 5 51 rfl rfl)) (eM (h4 8 54 rfl rfl)) rfl rfl ?_
 exact qn (.refl _) rfl hS rfl
 intro u3 u4 u5 u6 p2 hS p3 h5 hcq
 refine W8 (IntKind.i64.wrap (b3 + (IntKind.i64.wrap ((((rd a1 a5)).tmod 2) * (Y5 a0 a5))))) (eM (h5 0 46 rfl rfl)) (eM (h5 9 55 rfl rfl)) rfl rfl ?_
 exact qn (.refl _) rfl hS rfl
 intro u7 m7 j3 h6 hS c1 j9 hcq
 have hS : St j3 m7 ([(b7, cA (Z7 .i64 (fun _ => 0)) 188)] ++ ([(b4, cA (Z7 .i64 a2) 188)] ++ ([(b1, cA (Z7 .i64 a0) 188)] ++ L))) := hS
 have Z2 := Z2.trans h6
 have b0 := b0.mono h6
 refine Z5 (vI (IntKind.i64.wrap (b3 + (IntKind.i64.wrap ((((rd a1 a5)).tmod 2) * (Y5 a0 a5)))))) (by exact (eM (j9 10 56 (by decide) rfl))) rfl (Z0 (X3 (Z1 (Z4 (vI a5) (by exact (evT (c1 11 rfl) c7)) rfl ?_))))
 refine W8 (a5 + 1) rfl rfl (IntWalk.i64_in _ (by omega)) rfl (Z5 (vI (a5 + 1)) rfl rfl (Z0 ?_))
 exact o0 _ _ ⟨(IntKind.i64.wrap (b3 + (IntKind.i64.wrap ((((rd a1 a5)).tmod 2) * (Y5 a0 a5))))), (a5 + 1), j3, b8, Z2, hS, (by omega), b0, (evT (c1 1 rfl) d0), (evT (c1 3 rfl) d8), (evT (c1 5 rfl) f0), (evT (c1 6 rfl) f1), rfl, rfl, (evT (c1 13 rfl) e2), (evT (c1 14 rfl) e3), (evT (c1 15 rfl) e4)⟩
 rw [if_neg g3] at b8
 refine Z9 (bF g3 rfl) ?_
 refine W4 rfl ?_
 have hz := Option.some.inj b8
 subst hz
 exact o1 _ _ ⟨b3, l6, rfl, Z2, hS, b0, d0, d8, f0, f1, f2, e2, e3, e4⟩
 exact ⟨a8, (a3 + 1), h3, b8, Z2, hS, (by omega), b0, g4, g5, e1, d4, g6, rfl, e6, e7, e8⟩
 rintro u8 u9 ⟨d6, m8, rfl, Z2, hS, b0, h9, i0, i1, i2, i3, h0, h1, h2⟩
 dsimp only [Ex.elim] at j1
 refine X3 (Z1 ?_)
 refine W8 (a3 + 1) (by exact h2) rfl (IntWalk.i64_in _ (by omega)) rfl (Z4 (vI (a3 + 1)) rfl rfl (Z0 ?_))
 exact i9 _ _ ⟨(a3 + 1), d6, m8, j1, Z2, hS, (by omega), b0, h9, i0, i1, i2, i3, h0, h1, rfl⟩
 rw [if_neg g2] at b6
 refine Z9 (bF g2 rfl) (Y6 (X3 (Z1 ?_)))
 refine W8 (a3 + 1) (by exact e8) rfl (IntWalk.i64_in _ (by omega)) rfl (Z4 (vI (a3 + 1)) rfl rfl (Z0 ?_))
 exact i9 _ _ ⟨(a3 + 1), a8, h3, b6, Z2, hS, (by omega), b0, g4, g5, e1, d4, g6, e6, e7, rfl⟩
 intro l2
 refine Z1 (Z4 (vI a3) rfl rfl ?_)
 obtain ⟨p4, a9⟩ := gd a9
 refine V3 Ze5 (by exact c3) rfl (by omega) (by omega) rfl ?_
 refine Y4 (vI (Y5 a0 a3)) ty3 rfl (hS.get (o := cA (Z7 .i64 a0) 188) (mR (mR mL))) (M5 ([]) ([]) (by omega) (by omega)) rfl ?_
 refine Zd2 (k := .i64) (a := (Y5 a0 a3)) (b := 0) rfl rfl rfl (Z4 (Value.bool (decide (0 < (Y5 a0 a3)))) rfl rfl ?_)
 by_cases b2 : 0 < (Y5 a0 a3)
 rw [if_pos b2] at a9
 refine Y1 rfl rfl (bT b2 rfl) (Z4 (vI a3) rfl rfl ?_)
 refine Y1 rfl rfl (bT b2 rfl) ?_
 refine V3 Ze5 (by exact c4) rfl (by omega) (by omega) rfl ?_
 refine Y1 rfl rfl (bT b2 rfl) ?_
 refine Y4 (vI (Y5 a2 a3)) ty3 rfl (hS.get (o := cA (Z7 .i64 a2) 188) (mR mL)) (M5 ([]) ([]) (by omega) (by omega)) rfl ?_
 refine Y1 rfl rfl (bT b2 rfl) ?_
 refine Zd2 (k := .i64) (a := (Y5 a2 a3)) (b := 0) rfl rfl rfl ?_
 refine V2 (t := true) (Value.bool (decide (0 < (Y5 a2 a3)))) (bT b2 rfl) ((if_pos rfl).trans rfl) rfl (Z0 ?_)
 exact l2 _ _ ⟨(decide (0 < (Y5 a2 a3))), f8, a9, Z2, hS, b0, d7, c3, c4, c8, c9, rfl, c5, c6, b5, rfl⟩
 rw [if_neg b2] at a9
 refine Z8 rfl rfl (bF b2 rfl) rfl rfl rfl (Z8 rfl rfl (bF b2 rfl) rfl rfl rfl (Z8 rfl rfl (bF b2 rfl) rfl rfl rfl (Z8 rfl rfl (bF b2 rfl) rfl rfl rfl ?_)))
 refine V2 (t := false) (Value.bool false) (bF b2 rfl) ((if_neg Bool.false_ne_true).trans rfl) rfl (Z0 ?_)
 exact l2 _ _ ⟨false, f8, a9, Z2, hS, b0, d7, c3, c4, c8, c9, rfl, c5, c6, b5, rfl⟩
 rw [if_neg f9] at a9
 refine Z9 (bF f9 rfl) ?_
 refine W4 rfl ?_
 have hz := Option.some.inj a9
 subst hz
 exact n9 _ _ ⟨a8, f8, rfl, Z2, hS, c3, c4, c8, c9⟩
 exact ⟨0, 0, H, a9, Z2, hS, (by omega), b0, rfl, rfl, rfl, rfl, rfl, rfl, rfl, rfl⟩
 rintro v0 v1 ⟨c0, m9, rfl, Z2, hS, i4, i5, i6, i7⟩
 dsimp only [Ex.elim] at f7
 refine Z3 (Z3 (Z1 (Z4 (vI 0) rfl rfl (Z0 (Y7 ?_)))))
 obtain ⟨j4, c2, e5⟩ := bind_some f7
 refine W7 (id := 4) (fun k f w => ∃ (a4 : Int) (a6 : A8) (H1 : FH), N3 K a2 k a4 a6 = some j4 ∧ Sub H H1 ∧ St H1 w ([(b7, cA (Z7 .i64 (fun _ => 0)) 188)] ++ ([(b4, cA (Z7 .i64 a2) 188)] ++ ([(b1, cA (Z7 .i64 a6) 188)] ++ L))) ∧ 0 ≤ a4 ∧ ev f (.tmp 3) = vP b1 ∧ ev f (.tmp 5) = vP b4 ∧ ev f (.tmp 6) = vP b7 ∧ ev f (.tmp 8) = vI c0 ∧ ev f (.tmp 58) = vI a4) (fun f w => ∃ (a7 : A8) (H1 : FH), j4 = .go a7 ∧ Sub H H1 ∧ St H1 w ([(b7, cA (Z7 .i64 (fun _ => 0)) 188)] ++ ([(b4, cA (Z7 .i64 a2) 188)] ++ ([(b1, cA (Z7 .i64 a7) 188)] ++ L))) ∧ ev f (.tmp 3) = vP b1 ∧ ev f (.tmp 6) = vP b7 ∧ ev f (.tmp 8) = vI c0) rfl ?_ ?_ K ?_ ?_
 rintro f w ⟨a4, a6, H1, c2, _⟩
 rw [N3] at c2; cases c2
 rintro k v2 v3 o4 o5 ⟨a4, a6, n0, c2, Z2, hS, n8, d1, f3, f4, f5, d3⟩
 rw [N3] at c2
 refine Z3 (Z1 ?_)
 refine U2 (k := .i64) (a := a4) (b := 8) (by exact d3) rfl rfl (Z0 (Z3 ?_))
 by_cases d9 : a4 < 8
 rw [if_pos d9] at c2
 refine Y0 (bT d9 rfl) (Y6 (Z3 (Y7 (Z3 (Z1 (Z4 (vI a4) (by exact d3) rfl (Z5 (vI a4) rfl rfl (Z0 ?_))))))))
 refine U0 8 (Q5 [(61, MP.eq (vI a4)), (62, MP.eq (Value.pointer (some ⟨b1, 0 + (a4).toNat * 1, none⟩))), (63, MP.eq (vI (Y5 a6 a4))), (64, MP.eq (vI a4)), (65, MP.eq (Value.pointer (some ⟨b4, 0 + (a4).toNat * 1, none⟩))), (66, MP.eq (vI (Y5 a2 a4))), (67, MP.eq (vI (IntKind.i64.wrap ((Y5 a6 a4) + (Y5 a2 a4))))), (68, MP.eq (Value.pointer (some ⟨b1, 0 + (a4).toNat * 1, none⟩)))]) [] mixed rfl rfl rfl hS (Z6 rfl ?_ (Z6 rfl ?_ (Z6 rfl ?_ (Z6 rfl ?_ (Z6 rfl ?_ (Z6 rfl ?_ (Z6 rfl ?_ (Z6 rfl ?_ U5)))))))) ?_
 intro n1 v4 v5 v6 p5 hS k0 p6 hcq
 have n2 : ev n1 (.tmp 12) = vI a4 := Eq.trans (k0 12 rfl) rfl
 refine Z4 (vI a4) n2 rfl ?_
 exact qn (.refl _) rfl hS rfl
 intro v7 v8 v9 w0 p7 hS k1 k2 hcq
 refine V3 Ze5 (evT (k1 3 rfl) d1) (eM (k2 0 61 rfl rfl)) (by omega) (by omega) rfl ?_
 exact qn (.refl _) rfl hS rfl
 intro w1 w3 w4 w6 p8 hS p9 k3 hcq
 refine Y4 (vI (Y5 a6 a4)) ty3 (eM (k3 1 62 rfl rfl)) (hS.get (o := cA (Z7 .i64 a6) 188) (mR (mR (mR mL)))) (M5 ([]) ([]) (by omega) (by omega)) rfl ?_
 exact qn (.refl _) rfl hS rfl
 intro n3 w7 w9 x0 q1 hS k4 q2 hcq
 have n4 : ev n3 (.tmp 12) = vI a4 := Eq.trans (k4 12 rfl) rfl
 refine Z4 (vI a4) n4 rfl ?_
 exact qn (.refl _) rfl hS rfl
 intro x1 x2 x3 x4 q3 hS k5 k6 hcq
 refine V3 Ze5 (evT (k5 5 rfl) f3) (eM (k6 3 64 rfl rfl)) (by omega) (by omega) rfl ?_
 exact qn (.refl _) rfl hS rfl
 intro x5 x6 x7 x8 q4 hS q5 k7 hcq
 refine Y4 (vI (Y5 a2 a4)) ty3 (eM (k7 4 65 rfl rfl)) (hS.get (o := cA (Z7 .i64 a2) 188) (mR (mR mL))) (M5 ([]) ([]) (by omega) (by omega)) rfl ?_
 exact qn (.refl _) rfl hS rfl
 intro x9 y0 y1 y2 q6 hS q7 h7 hcq
 refine W8 (IntKind.i64.wrap ((Y5 a6 a4) + (Y5 a2 a4))) (eM (h7 2 63 rfl rfl)) (eM (h7 5 66 rfl rfl)) rfl rfl ?_
 exact qn (.refl _) rfl hS rfl
 intro y3 y4 y5 y6 q8 hS k8 k9 hcq
 refine V3 Ze5 (evT (k8 3 rfl) d1) (eM (k9 0 61 rfl rfl)) (by omega) (by omega) rfl ?_
 exact qn (.refl _) rfl hS rfl
 intro y7 n5 j5 l0 hS d5 h8 hcq
 have hS : St j5 n5 ([(b7, cA (Z7 .i64 (fun _ => 0)) 188)] ++ ([(b4, cA (Z7 .i64 a2) 188)] ++ ([(b1, cA (Z7 .i64 a6) 188)] ++ L))) := hS
 have Z2 := Z2.trans l0
 have hS := hS.perm C2
 refine E0 (v := vI (IntKind.i64.wrap ((Y5 a6 a4) + (Y5 a2 a4)))) (cs := (Z7 .i64 a6).toArray) (cs' := (Z7 .i64 (T7 a6 a4 (IntKind.i64.wrap ((Y5 a6 a4) + (Y5 a2 a4))))).toArray) ty3 (by exact (eM (h8 7 68 (by decide) rfl))) (by exact (eM (h8 6 67 (by decide) rfl))) hS rfl (Zs8 rfl) (by simp [Z7, P2]; omega) (Ze1 (by omega) (by omega)) ?_
 intro y8 hS
 have hS := hS.perm C2.symm
 refine Z0 (X3 (Z1 ?_))
 refine W8 (a4 + 1) (by exact (evT (d5 58 rfl) d3)) rfl (IntWalk.i64_in _ (by omega)) rfl (Z4 (vI (a4 + 1)) rfl rfl (Z0 ?_))
 exact o4 _ _ ⟨(a4 + 1), (T7 a6 a4 (IntKind.i64.wrap ((Y5 a6 a4) + (Y5 a2 a4)))), j5, c2, Z2, hS, (by omega), (evT (d5 3 rfl) d1), (evT (d5 5 rfl) f3), (evT (d5 6 rfl) f4), (evT (d5 8 rfl) f5), rfl⟩
 rw [if_neg d9] at c2
 refine Z9 (bF d9 rfl) ?_
 refine W4 rfl ?_
 have hz := Option.some.inj c2
 subst hz
 exact o5 _ _ ⟨a6, n0, rfl, Z2, hS, d1, f4, f5⟩
 exact ⟨0, a0, m9, c2, Z2, hS, (by omega), i4, i5, i6, i7, rfl⟩
 rintro y9 z0 ⟨a7, z1, rfl, Z2, hS, f6, d2, i8⟩
 dsimp only [Ex.elim] at e5
 refine Z3 (Z3 (Z1 (Z4 (vI c0) (by exact i8) rfl ?_)))
 refine Zk3 ((c0).tmod 2) rfl rfl (by decide) rfl rfl ?_
 refine Zd3 (k := .i64) (a := ((c0).tmod 2)) (b := 1) rfl rfl rfl (Z0 ?_)
 by_cases e0 : ((c0).tmod 2) = 1
 rw [if_pos e0] at e5
 refine Y0 (bT e0 rfl) (Z3 (Z1 ?_))
 refine W1 P4 (by exact f6) (hS.get (mR (mR mL))) rfl rfl ?_
 refine X8 (v := vA (Z7 .i64 a7)) (vs := (Z7 .i64 a7).toArray) (cs := (Z7 .i64 (fun _ => 0)).toArray) P4 (by exact d2) rfl rfl hS rfl (S4 .i64 a7) rfl ?_
 intro z2 hS
 refine Z5 (vI (-1)) rfl rfl (Z0 ?_)
 refine Y9 (vs := [vA (Z7 .i64 a7), vI (-1)]) Tryz.func224 ⟨⟨_, (by exact d2), U6 P4 (hS.get mL) rfl⟩, rfl, trivial⟩ ?_
 have hz := Option.some.inj e5
 subst hz
 exact ⟨_, _, rfl, Z2, (St.dropA (St.dropA (St.dropA hS))), ⟨_, _, rfl, ⟨_, rfl, rfl⟩, rfl⟩⟩
 rw [if_neg e0] at e5
 refine Z9 (bF e0 rfl) (Y6 (Z3 (Z1 ?_)))
 refine W1 P4 (by exact f6) (hS.get (mR (mR mL))) rfl rfl ?_
 refine X8 (v := vA (Z7 .i64 a7)) (vs := (Z7 .i64 a7).toArray) (cs := (Z7 .i64 (fun _ => 0)).toArray) P4 (by exact d2) rfl rfl hS rfl (S4 .i64 a7) rfl ?_
 intro z3 hS
 refine Z5 (vI 1) rfl rfl (Z0 ?_)
 refine Y9 (vs := [vA (Z7 .i64 a7), vI 1]) Tryz.func224 ⟨⟨_, (by exact d2), U6 P4 (hS.get mL) rfl⟩, rfl, trivial⟩ ?_
 have hz := Option.some.inj e5
 subst hz
 exact ⟨_, _, rfl, Z2, (St.dropA (St.dropA (St.dropA hS))), ⟨_, _, rfl, ⟨_, rfl, rfl⟩, rfl⟩⟩
def M4 (K : Nat) (a0 : (List Int)) (a1 : (List Int)) : Nat → Int → Option (Ex Bool (Unit))
 | 0, _ => none
 | k + 1, a3 => (if a3 < (a0.length : Int) then (if a3 < (a1.length : Int) then (if (rd a0 a3) = (rd a1 a3) then M4 K a0 a1 k (a3 + 1) else some (.ret false)) else none) else some (.go ()))
def Za1 (K : Nat) (a0 : (List Int)) (a1 : (List Int)) : Option Bool := (if (a0.length : Int) = (a1.length : Int) then ((M4 K a0 a1 K 0).bind (Ex.elim (fun r => some r) (fun s => some true))) else some false)
theorem Zj2 {K : Nat} {a0 : (List Int)} {a1 : (List Int)} {r : Bool} (q0 : Za1 K a0 a1 = some r) {H : FH} {w : World} {L : OL} {s0 : Value} {s1 : Value} (a6 : Y2 (Y8 .i64) H s0 a0) (a8 : Y2 (Y8 .i64) H s1 a1) (hS : St H w L) :
 Calls Tryz.prog 24 #[s0, s1] w (S3 (fun v G => R.bool.p G v r) H L) := by
 have Z2 := Sub.refl H
 refine X2 Tryz.func24 rfl Tryz.ntmps24 rfl ?_
 unfold Za1 at q0
 refine Z3 (Z1 (Z5 (Value.bool false) rfl rfl (Z0 (Z3 (Z3 (Z1 (Z4 (s0) rfl rfl ?_)))))))
 have h2 := a6.bound
 refine W6 S9 rfl a6 rfl (Z4 (s1) rfl rfl ?_)
 have h3 := a8.bound
 refine W6 S9 rfl a8 rfl ?_
 refine K9 (k := .i64) (a := (a0.length : Int)) (b := (a1.length : Int)) rfl rfl rfl (Z0 ?_)
 by_cases b6 : (a0.length : Int) = (a1.length : Int)
 rw [if_pos b6] at q0
 refine Z9 (bN b6 rfl) (Y6 (Z3 (Z3 (Z1 (Z5 (vI 0) rfl rfl (Z0 (Y7 ?_)))))))
 obtain ⟨b8, a4, b1⟩ := bind_some q0
 refine W7 (id := 0) (fun k f w => ∃ (a3 : Int) (H1 : FH), M4 K a0 a1 k a3 = some b8 ∧ Sub H H1 ∧ St H1 w (L) ∧ 0 ≤ a3 ∧ Y2 (Y8 .i64) H1 s0 a0 ∧ Y2 (Y8 .i64) H1 s1 a1 ∧ ev f (.tmp 0) = s0 ∧ ev f (.tmp 1) = s1 ∧ ev f (.tmp 5) = vI a3) (fun f w => ∃ (H1 : FH), b8 = .go () ∧ Sub H H1 ∧ St H1 w (L)) rfl ?_ ?_ K ?_ ?_
 rintro f w ⟨a3, H1, a4, _⟩
 rw [M4] at a4; cases a4
 rintro k e7 e8 e0 e1 ⟨a3, c5, a4, Z2, hS, e2, a6, a8, a7, b0, a5⟩
 rw [M4] at a4
 refine Z3 (Z3 (Z1 (Z4 (vI a3) (by exact a5) rfl (Z4 (s0) (by exact a7) rfl ?_))))
 have h4 := a6.bound
 refine W6 S9 rfl a6 rfl ?_
 refine U2 (k := .i64) (a := a3) (b := (a0.length : Int)) rfl rfl rfl (Z0 ?_)
 by_cases b7 : a3 < (a0.length : Int)
 rw [if_pos b7] at a4
 refine Y0 (bT b7 rfl) (Y6 (Z3 (Y7 (Z3 ?_))))
 obtain ⟨e3, e4, e9, h5, _, c6, b4, rfl, c7⟩ := a6.elem (i := a3) (by omega) (by omega)
 obtain ⟨f0, a4⟩ := gd a4
 obtain ⟨e5, e6, f1, h6, _, c8, b5, rfl, c9⟩ := a8.elem (i := a3) (by omega) (by omega)
 refine U0 9 (Q5 [(17, MP.eq (s0)), (18, MP.eq (vI a3)), (19, MP.eq (Value.pointer (some ⟨e3, e4, none⟩))), (20, MP.eq (vI (rd a0 a3))), (21, MP.eq (s1)), (22, MP.eq (vI a3)), (23, MP.eq (Value.pointer (some ⟨e5, e6, none⟩))), (24, MP.eq (vI (rd a1 a3))), (25, MP.eq (Value.bool (!decide ((rd a0 a3) = (rd a1 a3)))))]) [] mixed rfl rfl rfl hS (Z6 rfl ?_ (Z6 rfl ?_ (Z6 rfl ?_ (Z6 rfl ?_ (Z6 rfl ?_ (Z6 rfl ?_ (Z6 rfl ?_ (Z6 rfl ?_ (Z6 rfl ?_ U5))))))))) ?_
 intro f6 w7 H8 X9 f2 hS d0 f3 hcq
 refine Z4 (s0) (evT (d0 0 rfl) a7) rfl ?_
 exact qn (.refl _) rfl hS rfl
 intro h7 h8 h9 i0 f4 hS d1 f5 hcq
 refine Z4 (vI a3) (evT (d1 5 rfl) a5) rfl ?_
 exact qn (.refl _) rfl hS rfl
 intro i1 i2 i3 i4 f7 hS f8 b9 hcq
 refine W3 S9 rfl (eM (b9 0 17 rfl rfl)) c6 (eM (b9 1 18 rfl rfl)) (by omega) (by omega) rfl ?_
 exact qn (.refl _) rfl hS rfl
 intro i5 i6 i7 i8 d2 hS f9 d3 hcq
 have b4 := d2.1 _ _ b4
 refine Y4 (vI (rd a0 a3)) ty2 (eM (d3 2 19 rfl rfl)) (hS.froz _ _ b4) (c7 0 (show 0 < 1 by decide)) rfl ?_
 exact qn (.refl _) rfl hS rfl
 intro i9 j0 j1 j2 g0 hS d4 g1 hcq
 refine Z4 (s1) (evT (d4 1 rfl) b0) rfl ?_
 exact qn (.refl _) rfl hS rfl
 intro j3 j4 j5 j6 g2 hS d5 g3 hcq
 refine Z4 (vI a3) (evT (d5 5 rfl) a5) rfl ?_
 exact qn (.refl _) rfl hS rfl
 intro j7 j8 j9 k0 g4 hS g5 c0 hcq
 refine W3 S9 rfl (eM (c0 4 21 rfl rfl)) c8 (eM (c0 5 22 rfl rfl)) (by omega) (by omega) rfl ?_
 exact qn (.refl _) rfl hS rfl
 intro k1 k2 k3 k4 d6 hS g6 d7 hcq
 have b5 := d6.1 _ _ b5
 refine Y4 (vI (rd a1 a3)) ty2 (eM (d7 6 23 rfl rfl)) (hS.froz _ _ b5) (c9 0 (show 0 < 1 by decide)) rfl ?_
 exact qn (.refl _) rfl hS rfl
 intro k5 k6 k7 k8 g7 hS g8 c1 hcq
 refine K9 (k := .i64) (a := (rd a0 a3)) (b := (rd a1 a3)) (eM (c1 3 20 rfl rfl)) (eM (c1 7 24 rfl rfl)) rfl ?_
 exact qn (.refl _) rfl hS rfl
 intro d8 d9 c2 b2 hS b3 c4 hcq
 have hS : St c2 d9 (L) := hS
 have Z2 := Z2.trans b2
 have a6 := a6.mono b2
 have a8 := a8.mono b2
 have c3 : ev d8 (.tmp 25) = Value.bool (!decide ((rd a0 a3) = (rd a1 a3))) := c4 8 25 (by decide) rfl
 refine Z0 ?_
 by_cases a9 : (rd a0 a3) = (rd a1 a3)
 rw [if_pos a9] at a4
 refine Z9 (bN a9 (by exact c3)) (Y6 (X3 (Z1 (Z4 (vI a3) (by exact (evT (b3 5 rfl) a5)) rfl ?_))))
 refine W8 (a3 + 1) rfl rfl (IntWalk.i64_in _ (by omega)) rfl (Z5 (vI (a3 + 1)) rfl rfl (Z0 ?_))
 exact e0 _ _ ⟨(a3 + 1), c2, a4, Z2, hS, (by omega), a6, a8, (evT (b3 0 rfl) a7), (evT (b3 1 rfl) b0), rfl⟩
 rw [if_neg a9] at a4
 refine Y0 (bO a9 (by exact c3)) (Z3 (Z1 (Z5 (Value.bool false) rfl rfl (Z0 ?_))))
 refine Y9 (vs := [Value.bool false]) Tryz.func24 ⟨rfl, trivial⟩ ?_
 have hz := Option.some.inj a4
 subst hz
 dsimp only [Ex.elim] at b1
 have hz := Option.some.inj b1
 subst hz
 exact ⟨_, _, rfl, Z2, hS, rfl⟩
 rw [if_neg b7] at a4
 refine Z9 (bF b7 rfl) ?_
 refine W4 rfl ?_
 have hz := Option.some.inj a4
 subst hz
 exact e1 _ _ ⟨c5, rfl, Z2, hS⟩
 exact ⟨0, H, a4, Z2, hS, (by omega), a6, a8, rfl, rfl, rfl⟩
 rintro g9 h0 ⟨h1, rfl, Z2, hS⟩
 dsimp only [Ex.elim] at b1
 refine Z3 (Z1 (Z5 (Value.bool true) rfl rfl (Z0 ?_)))
 refine Y9 (vs := [Value.bool true]) Tryz.func24 ⟨rfl, trivial⟩ ?_
 have hz := Option.some.inj b1
 subst hz
 exact ⟨_, _, rfl, Z2, hS, rfl⟩
 rw [if_neg b6] at q0
 refine Y0 (bO b6 rfl) (Z3 (Z1 (Z5 (Value.bool false) rfl rfl (Z0 ?_))))
 refine Y9 (vs := [Value.bool false]) Tryz.func24 ⟨rfl, trivial⟩ ?_
 have hz := Option.some.inj q0
 subst hz
 exact ⟨_, _, rfl, Z2, hS, rfl⟩
def P5 (K : Nat) (a0 : A8) (a1 : A8) : Nat → Int → Option (Ex Bool (Unit))
 | 0, _ => none
 | k + 1, a3 => (if a3 < 8 then (if (Y5 a0 a3) = (Y5 a1 a3) then P5 K a0 a1 k (a3 + 1) else some (.ret false)) else some (.go ()))
def Zf6 (K : Nat) (a0 : A8) (a1 : A8) : Option Bool := ((P5 K a0 a1 K 0).bind (Ex.elim (fun r => some r) (fun s => some true)))
theorem Ye4 {K : Nat} {a0 : A8} {a1 : A8} {r : Bool} (q0 : Zf6 K a0 a1 = some r) {H : FH} {w : World} {L : OL} (hS : St H w L) :
 Calls Tryz.prog 268 #[vA (Z7 .u8 a0), vA (Z7 .u8 a1)] w (S3 (fun v G => R.bool.p G v r) H L) := by
 have Z2 := Sub.refl H
 refine X2 Tryz.func268 rfl Tryz.ntmps268 rfl ?_
 unfold Zf6 at q0
 refine Z3 (Z1 ?_)
 refine S5 (v := vA (Z7 .u8 a0)) (Z7 .u8 a0).toArray rfl rfl hS rfl ?_
 intro b1 w2 hS
 refine S5 (v := vA (Z7 .u8 a1)) (Z7 .u8 a1).toArray rfl rfl hS rfl ?_
 intro b4 w5 hS
 refine Z5 (Value.bool false) rfl rfl (Z0 (Z3 (Z3 (Z1 (Z5 (vI 0) rfl rfl (Z0 (Y7 ?_)))))))
 obtain ⟨b3, a4, a8⟩ := bind_some q0
 refine W7 (id := 0) (fun k f w => ∃ (a3 : Int) (H1 : FH), P5 K a0 a1 k a3 = some b3 ∧ Sub H H1 ∧ St H1 w ([(b4, cA (Z7 .u8 a1) 70)] ++ ([(b1, cA (Z7 .u8 a0) 70)] ++ L)) ∧ 0 ≤ a3 ∧ ev f (.tmp 2) = vP b1 ∧ ev f (.tmp 3) = vP b4 ∧ ev f (.tmp 5) = vI a3) (fun f w => ∃ (H1 : FH), b3 = .go () ∧ Sub H H1 ∧ St H1 w ([(b4, cA (Z7 .u8 a1) 70)] ++ ([(b1, cA (Z7 .u8 a0) 70)] ++ L))) rfl ?_ ?_ K ?_ ?_
 rintro f w ⟨a3, H1, a4, _⟩
 rw [P5] at a4; cases a4
 rintro k d4 d5 c9 d0 ⟨a3, b8, a4, Z2, hS, d1, a6, a7, a5⟩
 rw [P5] at a4
 refine Z3 (Z3 (Z1 (Z4 (vI a3) (by exact a5) rfl ?_)))
 refine U2 (k := .i64) (a := a3) (b := 8) rfl rfl rfl (Z0 ?_)
 by_cases b2 : a3 < 8
 rw [if_pos b2] at a4
 refine Y0 (bT b2 rfl) (Y6 (Z3 (Y7 (Z3 ?_))))
 refine U0 7 (Q5 [(10, MP.eq (vI a3)), (11, MP.eq (Value.pointer (some ⟨b1, 0 + (a3).toNat * 1, none⟩))), (12, MP.eq (Value.int .u8 (Y5 a0 a3))), (13, MP.eq (vI a3)), (14, MP.eq (Value.pointer (some ⟨b4, 0 + (a3).toNat * 1, none⟩))), (15, MP.eq (Value.int .u8 (Y5 a1 a3))), (16, MP.eq (Value.bool (!decide ((Y5 a0 a3) = (Y5 a1 a3)))))]) [] mixed rfl rfl rfl hS (Z6 rfl ?_ (Z6 rfl ?_ (Z6 rfl ?_ (Z6 rfl ?_ (Z6 rfl ?_ (Z6 rfl ?_ (Z6 rfl ?_ U5))))))) ?_
 intro f8 w9 f1 f2 d6 hS b9 d7 hcq
 refine Z4 (vI a3) (evT (b9 5 rfl) a5) rfl ?_
 exact qn (.refl _) rfl hS rfl
 intro f3 f4 f5 f6 d8 hS c0 c1 hcq
 refine V3 Za9 (evT (c0 2 rfl) a6) (eM (c1 0 10 rfl rfl)) (by omega) (by omega) rfl ?_
 exact qn (.refl _) rfl hS rfl
 intro f7 f9 g0 g1 d9 hS e0 c2 hcq
 refine Y4 (Value.int .u8 (Y5 a0 a3)) ty5 (eM (c2 1 11 rfl rfl)) (hS.get (o := cA (Z7 .u8 a0) 70) (mR (mR mL))) (M5 ([]) ([]) (by omega) (by omega)) rfl ?_
 exact qn (.refl _) rfl hS rfl
 intro g2 g3 g4 g5 e1 hS c3 e2 hcq
 refine Z4 (vI a3) (evT (c3 5 rfl) a5) rfl ?_
 exact qn (.refl _) rfl hS rfl
 intro g6 g7 g8 g9 e3 hS c4 c5 hcq
 refine V3 Za9 (evT (c4 3 rfl) a7) (eM (c5 3 13 rfl rfl)) (by omega) (by omega) rfl ?_
 exact qn (.refl _) rfl hS rfl
 intro h0 h1 h2 h3 e4 hS e5 c6 hcq
 refine Y4 (Value.int .u8 (Y5 a1 a3)) ty5 (eM (c6 4 14 rfl rfl)) (hS.get (o := cA (Z7 .u8 a1) 70) (mR mL)) (M5 ([]) ([]) (by omega) (by omega)) rfl ?_
 exact qn (.refl _) rfl hS rfl
 intro h4 h5 h6 h7 e6 hS e7 b5 hcq
 refine K9 (k := .u8) (a := (Y5 a0 a3)) (b := (Y5 a1 a3)) (eM (b5 2 12 rfl rfl)) (eM (b5 5 15 rfl rfl)) rfl ?_
 exact qn (.refl _) rfl hS rfl
 intro d2 d3 b6 c7 hS b0 c8 hcq
 have hS : St b6 d3 ([(b4, cA (Z7 .u8 a1) 70)] ++ ([(b1, cA (Z7 .u8 a0) 70)] ++ L)) := hS
 have Z2 := Z2.trans c7
 have b7 : ev d2 (.tmp 16) = Value.bool (!decide ((Y5 a0 a3) = (Y5 a1 a3))) := c8 6 16 (by decide) rfl
 refine Z0 ?_
 by_cases a9 : (Y5 a0 a3) = (Y5 a1 a3)
 rw [if_pos a9] at a4
 refine Z9 (bN a9 (by exact b7)) (Y6 (X3 (Z1 (Z4 (vI a3) (by exact (evT (b0 5 rfl) a5)) rfl ?_))))
 refine W8 (a3 + 1) rfl rfl (IntWalk.i64_in _ (by omega)) rfl (Z5 (vI (a3 + 1)) rfl rfl (Z0 ?_))
 exact c9 _ _ ⟨(a3 + 1), b6, a4, Z2, hS, (by omega), (evT (b0 2 rfl) a6), (evT (b0 3 rfl) a7), rfl⟩
 rw [if_neg a9] at a4
 refine Y0 (bO a9 (by exact b7)) (Z3 (Z1 (Z5 (Value.bool false) rfl rfl (Z0 ?_))))
 refine Y9 (vs := [Value.bool false]) Tryz.func268 ⟨rfl, trivial⟩ ?_
 have hz := Option.some.inj a4
 subst hz
 dsimp only [Ex.elim] at a8
 have hz := Option.some.inj a8
 subst hz
 exact ⟨_, _, rfl, Z2, (St.dropA (St.dropA hS)), rfl⟩
 rw [if_neg b2] at a4
 refine Z9 (bF b2 rfl) ?_
 refine W4 rfl ?_
 have hz := Option.some.inj a4
 subst hz
 exact d0 _ _ ⟨b8, rfl, Z2, hS⟩
 exact ⟨0, H, a4, Z2, hS, (by omega), rfl, rfl, rfl⟩
 rintro e8 e9 ⟨f0, rfl, Z2, hS⟩
 dsimp only [Ex.elim] at a8
 refine Z3 (Z1 (Z5 (Value.bool true) rfl rfl (Z0 ?_)))
 refine Y9 (vs := [Value.bool true]) Tryz.func268 ⟨rfl, trivial⟩ ?_
 have hz := Option.some.inj a8
 subst hz
 exact ⟨_, _, rfl, Z2, (St.dropA (St.dropA hS)), rfl⟩
def G6 (K : Nat) (a0 : (List Int)) : Nat → Int → (List Int) → Option (Ex (List Int) ((List Int)))
 | 0, _, _ => none
 | k + 1, a1, a3 => (if a1 < (a0.length : Int) then (if a1 < (a3.length : Int) then G6 K a0 k (a1 + 1) (a3.set (a1).toNat (rd a0 a1)) else none) else some (.go a3))
def Zj8 (K : Nat) (a0 : (List Int)) : Option (List Int) := (if (a0.length : Int) ≤ 1099511627776 then ((G6 K a0 K 0 (List.replicate ((a0.length : Int)).toNat (0 : Int))).bind (Ex.elim (fun r => some r) (fun s => (fun (a7 : (List Int)) => some a7) s))) else none)
theorem Yj2 {K : Nat} {a0 : (List Int)} {r : (List Int)} (q0 : Zj8 K a0 = some r) {H : FH} {w : World} {L : OL} {s0 : Value} (b4 : Y2 (Y8 .i64) H s0 a0) (hS : St H w L) :
 Calls Tryz.prog 83 #[s0] w (S3 (fun v G => (R.sl (Y8 .i64)).p (G.new H) v r) H L) := by
 have Z2 := Sub.refl H
 refine X2 Tryz.func83 rfl Tryz.ntmps83 rfl ?_
 unfold Zj8 at q0
 refine Z3 (Z1 (Z5 (vN) rfl rfl (Z0 (Z3 (Z1 (Z4 (s0) rfl rfl ?_))))))
 have e2 := b4.bound
 refine W6 S9 rfl b4 rfl ?_
 obtain ⟨e3, q0⟩ := gd q0
 refine Yk1 (τ := (Y8 .i64)) (0 : Int) Xa3 rfl rfl rfl (fun _ => rfl) (by omega) (by omega) hS rfl ?_
 intro u3 w4 C5 c8 hS
 refine Z5 (u3) rfl rfl (Z0 (Z3 (Z3 (Z1 (Z5 (vI 0) rfl rfl (Z0 (Y7 ?_)))))))
 obtain ⟨b9, a6, c0⟩ := bind_some q0
 refine W7 (id := 0) (fun k f w => ∃ (a1 : Int) (a3 : (List Int)) (H1 : FH) (a8 : OL) (a4 : Value), G6 K a0 k a1 a3 = some b9 ∧ Sub H H1 ∧ St H1 w (a8 ++ L) ∧ 0 ≤ a1 ∧ V1 (Y8 .i64) 2 H1 a4 a3 a8 ∧ Y2 (Y8 .i64) H1 s0 a0 ∧ ev f (.tmp 0) = s0 ∧ ev f (.tmp 3) = a4 ∧ ev f (.tmp 4) = vI a1) (fun f w => ∃ (a7 : (List Int)) (H1 : FH) (b1 : OL) (a5 : Value), b9 = .go a7 ∧ Sub H H1 ∧ St H1 w (b1 ++ L) ∧ V1 (Y8 .i64) 2 H1 a5 a7 b1 ∧ ev f (.tmp 3) = a5) rfl ?_ ?_ K ?_ ?_
 rintro f w ⟨a1, a3, H1, a8, a4, a6, _⟩
 rw [G6] at a6; cases a6
 rintro k d4 d5 c9 d0 ⟨a1, a3, c1, a8, a4, a6, Z2, hS, d1, a9, b4, b2, b3, b0⟩
 rw [G6] at a6
 refine Z3 (Z3 (Z1 (Z4 (vI a1) (by exact b0) rfl (Z4 (s0) (by exact b2) rfl ?_))))
 have e4 := b4.bound
 refine W6 S9 rfl b4 rfl ?_
 refine U2 (k := .i64) (a := a1) (b := (a0.length : Int)) rfl rfl rfl (Z0 ?_)
 by_cases b7 : a1 < (a0.length : Int)
 rw [if_pos b7] at a6
 refine Y0 (bT b7 rfl) (Y6 (Z3 (Y7 (Z1 (Z4 (a4) (by exact b3) rfl (Z4 (vI a1) (by exact b0) rfl (Z4 (s0) (by exact b2) rfl (Z4 (vI a1) (by exact b0) rfl ?_))))))))
 obtain ⟨e5, e6, d6, e7, _, c3, c4, rfl, c5⟩ := b4.elem (i := a1) (by omega) (by omega)
 refine W3 S9 rfl rfl c3 rfl (by omega) (by omega) rfl ?_
 refine Y4 (vI (rd a0 a1)) ty2 rfl (hS.froz _ _ c4) (c5 0 (show 0 < 1 by decide)) rfl ?_
 obtain ⟨d7, a6⟩ := gd a6
 obtain ⟨e8, e9, c2⟩ := a9.some (i := a1) (by omega) (by omega)
 refine Zt4 S9 (Eq.trans rfl c2) rfl (by omega) (by omega) rfl ?_
 refine Zs7 (τ := (Y8 .i64)) (v := a4) (u := vI (rd a0 a1)) (rd a0 a1) (i := a1) rfl ty2 c2 a9 hS rfl rfl (by omega) (by omega) rfl ?_
 intro f0 d2 c6 hS
 refine Z0 (X3 (Z1 (Z4 (vI a1) (by exact b0) rfl ?_)))
 refine W8 (a1 + 1) rfl rfl (IntWalk.i64_in _ (by omega)) rfl (Z5 (vI (a1 + 1)) rfl rfl (Z0 ?_))
 exact c9 _ _ ⟨(a1 + 1), (a3.set (a1).toNat (rd a0 a1)), c1, d2, a4, a6, Z2, hS, (by omega), c6, b4, b2, b3, rfl⟩
 rw [if_neg b7] at a6
 refine Z9 (bF b7 rfl) ?_
 refine W4 rfl ?_
 have hz := Option.some.inj a6
 subst hz
 exact d0 _ _ ⟨a3, c1, a8, a4, rfl, Z2, hS, a9, b3⟩
 exact ⟨0, (List.replicate ((a0.length : Int)).toNat (0 : Int)), H, C5, u3, a6, Z2, hS, (by omega), c8, b4, rfl, rfl, rfl⟩
 rintro d8 d9 ⟨a7, e0, b1, a5, rfl, Z2, hS, b6, b8⟩
 dsimp only [Ex.elim] at c0
 refine Z3 (Z1 (Z4 (a5) (by exact b8) rfl (Z5 (a5) rfl rfl (Z0 ?_))))
 refine Y9 (vs := [a5]) Tryz.func83 ⟨rfl, trivial⟩ ?_
 obtain ⟨d3, c7, hS, b5⟩ := V1.freezeF (τ := (Y8 .i64)) (H0 := H) b6 hS Z2
 have e1 := Y2.old b5
 have b5 : RdF (Y8 .i64) H d3 a5 a7 := b5
 have Z2 := Z2.trans c7
 have hz := Option.some.inj c0
 subst hz
 exact ⟨_, _, rfl, Z2, hS, b5⟩
def J5 (K : Nat) (a0 : A8) : Nat → Int → A8 → Option (Ex A8 (A8))
 | 0, _, _ => none
 | k + 1, a1, a3 => (if a1 < 8 then J5 K a0 k (a1 + 1) (T7 a3 a1 (Y5 a0 a1)) else some (.go a3))
def Zf5 (K : Nat) (a0 : A8) : Option A8 := ((J5 K a0 K 0 (fun _ => 0)).bind (Ex.elim (fun r => some r) (fun s => (fun (a4 : A8) => some a4) s)))
theorem Yf7 {K : Nat} {a0 : A8} {r : A8} (q0 : Zf5 K a0 = some r) {H : FH} {w : World} {L : OL} (hS : St H w L) :
 Calls Tryz.prog 267 #[vA (Z7 .u8 a0)] w (S3 (fun v G => (R.agg (Zl2 .u8)).p G v r) H L) := by
 have Z2 := Sub.refl H
 refine X2 Tryz.func267 rfl Tryz.ntmps267 rfl ?_
 unfold Zf5 at q0
 refine Z3 (Z1 ?_)
 refine S5 (v := vA (Z7 .u8 a0)) (Z7 .u8 a0).toArray rfl rfl hS rfl ?_
 intro b1 w2 hS
 refine V0 (z := vA (Z7 .u8 (fun _ => 0))) (Z7 .u8 (fun _ => 0)).toArray Zy4.zero rfl hS rfl ?_
 intro b4 w5 hS
 refine Z0 (Z3 (Z1 ?_))
 refine V0 (z := vA (Z7 .u8 (fun _ => 0))) (Z7 .u8 (fun _ => 0)).toArray Zy4.zero rfl hS rfl ?_
 intro b7 w8 hS
 refine Z0 (Z3 (Z3 (Z1 (Z5 (vI 0) rfl rfl (Z0 (Y7 ?_))))))
 obtain ⟨b5, a5, b6⟩ := bind_some q0
 refine W7 (id := 0) (fun k f w => ∃ (a1 : Int) (a3 : A8) (H1 : FH), J5 K a0 k a1 a3 = some b5 ∧ Sub H H1 ∧ St H1 w ([(b7, cA (Z7 .u8 a3) 70)] ++ ([(b4, cA (Z7 .u8 (fun _ => 0)) 70)] ++ ([(b1, cA (Z7 .u8 a0) 69)] ++ L))) ∧ 0 ≤ a1 ∧ ev f (.tmp 1) = vP b1 ∧ ev f (.tmp 2) = vP b4 ∧ ev f (.tmp 3) = vP b7 ∧ ev f (.tmp 4) = vI a1) (fun f w => ∃ (a4 : A8) (H1 : FH), b5 = .go a4 ∧ Sub H H1 ∧ St H1 w ([(b7, cA (Z7 .u8 a4) 70)] ++ ([(b4, cA (Z7 .u8 (fun _ => 0)) 70)] ++ ([(b1, cA (Z7 .u8 a0) 69)] ++ L))) ∧ ev f (.tmp 2) = vP b4 ∧ ev f (.tmp 3) = vP b7) rfl ?_ ?_ K ?_ ?_
 rintro f w ⟨a1, a3, H1, a5, _⟩
 rw [J5] at a5; cases a5
 rintro k c2 c3 b9 c0 ⟨a1, a3, b8, a5, Z2, hS, c1, a8, a9, a7, a6⟩
 rw [J5] at a5
 refine Z3 (Z3 (Z1 (Z4 (vI a1) (by exact a6) rfl ?_)))
 refine U2 (k := .i64) (a := a1) (b := 8) rfl rfl rfl (Z0 ?_)
 by_cases b2 : a1 < 8
 rw [if_pos b2] at a5
 refine Y0 (bT b2 rfl) (Y6 (Z3 (Y7 (Z1 (Z4 (vI a1) (by exact a6) rfl (Z4 (vI a1) (by exact a6) rfl ?_))))))
 refine V3 Wj2 (by exact a8) rfl (by omega) (by omega) rfl ?_
 refine Y4 (Value.int .u8 (Y5 a0 a1)) ty5 rfl (hS.get (o := cA (Z7 .u8 a0) 69) (mR (mR mL))) (M5 ([]) ([]) (by omega) (by omega)) rfl ?_
 refine V3 Za9 (by exact a7) rfl (by omega) (by omega) rfl ?_
 refine E0 (v := Value.int .u8 (Y5 a0 a1)) (cs := (Z7 .u8 a3).toArray) (cs' := (Z7 .u8 (T7 a3 a1 (Y5 a0 a1))).toArray) ty5 rfl rfl hS rfl (Zs8 rfl) (by simp [Z7, P2]; omega) (Ze1 (by omega) (by omega)) ?_
 intro c7 hS
 refine Z0 (X3 (Z1 (Z4 (vI a1) (by exact a6) rfl ?_)))
 refine W8 (a1 + 1) rfl rfl (IntWalk.i64_in _ (by omega)) rfl (Z5 (vI (a1 + 1)) rfl rfl (Z0 ?_))
 exact b9 _ _ ⟨(a1 + 1), (T7 a3 a1 (Y5 a0 a1)), b8, a5, Z2, hS, (by omega), a8, a9, a7, rfl⟩
 rw [if_neg b2] at a5
 refine Z9 (bF b2 rfl) ?_
 refine W4 rfl ?_
 have hz := Option.some.inj a5
 subst hz
 exact c0 _ _ ⟨a3, b8, rfl, Z2, hS, a9, a7⟩
 exact ⟨0, (fun _ => 0), H, a5, Z2, hS, (by omega), rfl, rfl, rfl, rfl⟩
 rintro c4 c5 ⟨a4, c6, rfl, Z2, hS, b0, b3⟩
 dsimp only [Ex.elim] at b6
 refine Z3 (Z1 ?_)
 refine W1 P9 (by exact b3) (hS.get mL) rfl rfl ?_
 have hS := hS.perm U1
 refine X8 (v := vA (Z7 .u8 a4)) (vs := (Z7 .u8 a4).toArray) (cs := (Z7 .u8 (fun _ => 0)).toArray) P9 (by exact b0) rfl rfl hS rfl (S4 .u8 a4) rfl ?_
 intro c8 hS
 have hS := hS.perm U1.symm
 refine Z0 ?_
 refine Y9 (vs := [vA (Z7 .u8 a4)]) Tryz.func267 ⟨⟨_, (by exact b0), U6 P9 (hS.get (mR mL)) rfl⟩, trivial⟩ ?_
 have hz := Option.some.inj b6
 subst hz
 exact ⟨_, _, rfl, Z2, (St.dropA (St.dropA (St.dropA hS))), ⟨_, rfl, rfl⟩⟩
def Zh5 (K : Nat) (a0 : Int) : Option A8 := (if 0 ≤ a0 then (if a0 < 8 then some (T7 (fun _ => 0) a0 1) else none) else none)
theorem Yh8 {K : Nat} {a0 : Int} {r : A8} (q0 : Zh5 K a0 = some r) {H : FH} {w : World} {L : OL} (hS : St H w L) :
 Calls Tryz.prog 151 #[vI a0] w (S3 (fun v G => (R.agg (Zl2 .i64)).p G v r) H L) := by
 have Z2 := Sub.refl H
 refine X2 Tryz.func151 rfl Tryz.ntmps151 rfl ?_
 unfold Zh5 at q0
 refine Z3 (Z1 ?_)
 refine V0 (z := vA (Z7 .i64 (fun _ => 0))) (Z7 .i64 (fun _ => 0)).toArray Zi1.zero rfl hS rfl ?_
 intro b1 w2 hS
 refine Z0 (Z3 (Z1 ?_))
 refine Q6 (vA (Z7 .i64 (fun _ => 0))) Ys3 rfl ?_
 refine V0 (z := vA (Z7 .i64 (fun _ => 0))) (Z7 .i64 (fun _ => 0)).toArray Zi1.zero rfl hS rfl ?_
 intro b4 w5 hS
 refine X8 (v := vA (Z7 .i64 (fun _ => 0))) (vs := (Z7 .i64 (fun _ => 0)).toArray) (cs := (Z7 .i64 (fun _ => 0)).toArray) P4 rfl rfl rfl hS rfl (S4 .i64 (fun _ => 0)) rfl ?_
 intro w7 hS
 refine Z0 (Z3 (Z1 (Z4 (vI a0) rfl rfl ?_)))
 obtain ⟨a1, q0⟩ := gd q0
 obtain ⟨a3, q0⟩ := gd q0
 refine V3 Ze5 rfl rfl (by omega) (by omega) rfl ?_
 refine E0 (v := vI 1) (cs := (Z7 .i64 (fun _ => 0)).toArray) (cs' := (Z7 .i64 (T7 (fun _ => 0) a0 1)).toArray) ty3 rfl rfl hS rfl (Zs8 rfl) (by simp [Z7, P2]; omega) (Ze1 (by omega) (by omega)) ?_
 intro a4 hS
 refine Z0 (Z3 (Z1 ?_))
 refine W1 P4 rfl (hS.get mL) rfl rfl ?_
 have hS := hS.perm U1
 refine X8 (v := vA (Z7 .i64 (T7 (fun _ => 0) a0 1))) (vs := (Z7 .i64 (T7 (fun _ => 0) a0 1)).toArray) (cs := (Z7 .i64 (fun _ => 0)).toArray) P4 rfl rfl rfl hS rfl (S4 .i64 (T7 (fun _ => 0) a0 1)) rfl ?_
 intro a5 hS
 have hS := hS.perm U1.symm
 refine Z0 ?_
 refine Y9 (vs := [vA (Z7 .i64 (T7 (fun _ => 0) a0 1))]) Tryz.func151 ⟨⟨_, rfl, U6 P4 (hS.get (mR mL)) rfl⟩, trivial⟩ ?_
 have hz := Option.some.inj q0
 subst hz
 exact ⟨_, _, rfl, Z2, (St.dropA (St.dropA hS)), ⟨_, rfl, rfl⟩⟩
def Zp9 (K : Nat) (a0 : MpT) (a1 : Int) : Option Int := (if (IntKind.i64.wrap (a1 - (a0.length : Int))) < 0 then some (-1) else some (IntKind.i64.wrap (a1 - (a0.length : Int))))
theorem Ym4 {K : Nat} {a0 : MpT} {a1 : Int} {r : Int} (q0 : Zp9 K a0 a1 = some r) {H : FH} {w : World} {L : OL} {s0 : Value} (a4 : Y2 yT H s0 a0) (hS : St H w L) :
 Calls Tryz.prog 105 #[s0, vI a1] w (S3 (fun v G => (R.int .i64).p G v r) H L) := by
 have Z2 := Sub.refl H
 refine X2 Tryz.func105 rfl Tryz.ntmps105 rfl ?_
 unfold Zp9 at q0
 refine Z3 (Z1 (Z5 (vI 0) rfl rfl (Z0 (Z3 (Z1 (Z4 (vI a1) rfl rfl (Z4 (s0) rfl rfl ?_)))))))
 have a5 := a4.bound
 refine W6 Xk8 rfl a4 rfl ?_
 refine Zs6 (IntKind.i64.wrap (a1 - (a0.length : Int))) rfl rfl rfl rfl (Z5 (vI (IntKind.i64.wrap (a1 - (a0.length : Int)))) rfl rfl (Z0 (Z3 (Z3 (Z1 (Z4 (vI (IntKind.i64.wrap (a1 - (a0.length : Int)))) rfl rfl ?_))))))
 refine U2 (k := .i64) (a := (IntKind.i64.wrap (a1 - (a0.length : Int)))) (b := 0) rfl rfl rfl (Z0 ?_)
 by_cases a3 : (IntKind.i64.wrap (a1 - (a0.length : Int))) < 0
 rw [if_pos a3] at q0
 refine Y0 (bT a3 rfl) (Z3 (Z1 (Z5 (vI (-1)) rfl rfl (Z0 ?_))))
 refine Y9 (vs := [vI (-1)]) Tryz.func105 ⟨rfl, trivial⟩ ?_
 have hz := Option.some.inj q0
 subst hz
 exact ⟨_, _, rfl, Z2, hS, rfl⟩
 rw [if_neg a3] at q0
 refine Z9 (bF a3 rfl) (Y6 (Z3 (Z1 (Z4 (vI (IntKind.i64.wrap (a1 - (a0.length : Int)))) rfl rfl (Z5 (vI (IntKind.i64.wrap (a1 - (a0.length : Int)))) rfl rfl (Z0 ?_))))))
 refine Y9 (vs := [vI (IntKind.i64.wrap (a1 - (a0.length : Int)))]) Tryz.func105 ⟨rfl, trivial⟩ ?_
 have hz := Option.some.inj q0
 subst hz
 exact ⟨_, _, rfl, Z2, hS, rfl⟩
def Zn2 (K : Nat) (a0 : Bool) (a1 : Int) : Option Int := (if a0 = true then some a1 else some 0)
theorem Yc8 {K : Nat} {a0 : Bool} {a1 : Int} {r : Int} (q0 : Zn2 K a0 a1 = some r) {H : FH} {w : World} {L : OL} (hS : St H w L) :
 Calls Tryz.prog 86 #[Value.bool a0, vI a1] w (S3 (fun v G => (R.int .i64).p G v r) H L) := by
 have Z2 := Sub.refl H
 refine X2 Tryz.func86 rfl Tryz.ntmps86 rfl ?_
 unfold Zn2 at q0
 refine Z3 (Z1 (Z5 (vI 0) rfl rfl (Z0 (Z3 (Z3 (Z1 (Z4 (Value.bool a0) rfl rfl (Z0 ?_))))))))
 by_cases a3 : a0 = true
 rw [if_pos a3] at q0
 refine Y0 (Eq.trans rfl (congrArg Value.bool a3)) (Z3 (Z1 (Z4 (vI a1) rfl rfl (Z5 (vI a1) rfl rfl (Z0 ?_)))))
 refine Y9 (vs := [vI a1]) Tryz.func86 ⟨rfl, trivial⟩ ?_
 have hz := Option.some.inj q0
 subst hz
 exact ⟨_, _, rfl, Z2, hS, rfl⟩
 rw [if_neg a3] at q0
 refine Z9 (Eq.trans rfl (congrArg Value.bool (W2 a3))) (Y6 (Z3 (Z1 (Z5 (vI 0) rfl rfl (Z0 ?_)))))
 refine Y9 (vs := [vI 0]) Tryz.func86 ⟨rfl, trivial⟩ ?_
 have hz := Option.some.inj q0
 subst hz
 exact ⟨_, _, rfl, Z2, hS, rfl⟩
def Zg6 (K : Nat) (a0 : Int) : Option Int := some (((IntKind.i64.wrap (((a0).tmod 10007) + 10007))).tmod 10007)
theorem Ya7 {K : Nat} {a0 : Int} {r : Int} (q0 : Zg6 K a0 = some r) {H : FH} {w : World} {L : OL} (hS : St H w L) :
 Calls Tryz.prog 215 #[vI a0] w (S3 (fun v G => (R.int .i64).p G v r) H L) := by
 have Z2 := Sub.refl H
 refine X2 Tryz.func215 rfl Tryz.ntmps215 rfl ?_
 unfold Zg6 at q0
 refine Z3 (Z1 (Z5 (vI 0) rfl rfl (Z0 (Z3 (Z1 (Z4 (vI a0) rfl rfl ?_))))))
 refine Zk3 ((a0).tmod 10007) rfl rfl (by decide) rfl rfl ?_
 refine W8 (IntKind.i64.wrap (((a0).tmod 10007) + 10007)) rfl rfl rfl rfl ?_
 refine Zk3 (((IntKind.i64.wrap (((a0).tmod 10007) + 10007))).tmod 10007) rfl rfl (by decide) rfl rfl (Z5 (vI (((IntKind.i64.wrap (((a0).tmod 10007) + 10007))).tmod 10007)) rfl rfl (Z0 ?_))
 refine Y9 (vs := [vI (((IntKind.i64.wrap (((a0).tmod 10007) + 10007))).tmod 10007)]) Tryz.func215 ⟨rfl, trivial⟩ ?_
 have hz := Option.some.inj q0
 subst hz
 exact ⟨_, _, rfl, Z2, hS, rfl⟩
end Go.Proofs.YtfodlhkoafhplaaGreat
