/- Walks of functions: each computes its pure function, if that gives a value. -/
import Derived.Test.YtfodlhkoafhplaaGreatVTy
namespace Go.Proofs.YtfodlhkoafhplaaGreat
open Go
set_option linter.unusedSimpArgs false
set_option linter.unusedVariables false
set_option maxRecDepth 100000
set_option maxHeartbeats 8000000
def I0 (K : Nat) (a0 : A8) (a1 : (List Int)) : Nat → Int → Int → Option (Ex (A8 × Int) (Int))
 | 0, _, _ => none
 | k + 1, b3, a5 => (if a5 < (a1.length : Int) then (if a5 < 8 then I0 K a0 a1 k (IntKind.i64.wrap (b3 + (IntKind.i64.wrap ((((rd a1 a5)).tmod 2) * (Y5 a0 a5))))) (a5 + 1) else none) else some (.go b3))
def D5 (K : Nat) (l1 : Int → Int → Option (Ex (A8 × Int) (Int))) (a0 : A8) (a1 : (List Int)) (a2 : A8) (a3 : Int) (a8 : Int) (b9 : Bool) : Option (Ex (A8 × Int) (Int)) := (if b9 = true then some (.ret ((fun _ => 0), 0)) else (if a3 < 8 then (if 0 < (Y5 a2 a3) then ((I0 K a0 a1 K a8 (a3 + 1)).bind (Ex.elim (fun r => some (.ret r)) (fun s => (fun (d6 : Int) => l1 (a3 + 1) d6) s))) else l1 (a3 + 1) a8) else none))
def M6 (K : Nat) (a2 : A8) : Nat → Int → A8 → Option (Ex (A8 × Int) (A8))
 | 0, _, _ => none
 | k + 1, a4, a6 => (if a4 < 8 then M6 K a2 k (a4 + 1) (S3 a6 a4 (IntKind.i64.wrap ((Y5 a6 a4) + (Y5 a2 a4)))) else some (.go a6))
def S1 (K : Nat) (a0 : A8) (a1 : (List Int)) (a2 : A8) : Nat → Int → Int → Option (Ex (A8 × Int) (Int))
 | 0, _, _ => none
 | k + 1, a3, a8 => (if a3 < (a1.length : Int) then (if (((rd a1 a3)).tmod 2) = 0 then S1 K a0 a1 a2 k (a3 + 1) a8 else (if a3 < 8 then (if 0 < (Y5 a0 a3) then D5 K (S1 K a0 a1 a2 k) a0 a1 a2 a3 a8 (decide (0 < (Y5 a2 a3))) else D5 K (S1 K a0 a1 a2 k) a0 a1 a2 a3 a8 false) else none)) else some (.go a8))
def B4 (K : Nat) (a0 : A8) (a1 : (List Int)) (a2 : A8) : Option (A8 × Int) := ((S1 K a0 a1 a2 K 0 0).bind (Ex.elim (fun r => some r) (fun s => (fun (c0 : Int) => ((M6 K a2 K 0 a0).bind (Ex.elim (fun r => some r) (fun s => (fun (a7 : A8) => (if ((c0).tmod 2) = 1 then some (a7, (-1)) else some (a7, 1))) s)))) s)))
theorem Ym3 {K : Nat} {a0 : A8} {a1 : (List Int)} {a2 : A8} {r : (A8 × Int)} (q0 : B4 K a0 a1 a2 = some r) {H : FH} {w : World} {L : OL} {s0 : Value} (b0 : Y1 (Y6 .i64) H s0 a1) (hS : St H w L) :
 Calls Tryz.prog 224 #[vA (Z7 .i64 a0), s0, vA (Z7 .i64 a2)] w (T2 (fun v G => (R.t2 (R.agg (Zr5 .i64)) (R.int .i64)).p G v r) H L) := by
 have Z2 := Sub.refl H
 refine X3 Tryz.func224 rfl Tryz.ntmps224 rfl ?_
 unfold B4 at q0
 refine Z3 (Z0 ?_)
 refine S4 (v := vA (Z7 .i64 a0)) (Z7 .i64 a0).toArray rfl rfl hS rfl ?_
 intro b1 w2 hS
 refine S4 (v := vA (Z7 .i64 a2)) (Z7 .i64 a2).toArray rfl rfl hS rfl ?_
 intro b4 w5 hS
 refine V1 (z := vA (Z7 .i64 (fun _ => 0))) (Z7 .i64 (fun _ => 0)).toArray Zn3.zero rfl hS rfl ?_
 intro b7 w8 hS
 refine Z5 (vI 0) rfl rfl (Z1 (Z3 (Z0 (Z5 (vI 0) rfl rfl (Z1 (Z3 (Z3 (Z0 (Z4 (s0) rfl rfl ?_)))))))))
 have q9 := b0.bound
 refine W7 Q2 rfl b0 rfl (Z4 (vI 0) rfl rfl (Z1 (Y8 ?_)))
 obtain ⟨g8, a9, f7⟩ := bind_some q0
 refine W5 (id := 0) (fun k f w => ∃ (a3 : Int) (a8 : Int) (H1 : FH), S1 K a0 a1 a2 k a3 a8 = some g8 ∧ Sub H H1 ∧ St H1 w ([(b7, cA (Z7 .i64 (fun _ => 0)) 188)] ++ ([(b4, cA (Z7 .i64 a2) 188)] ++ ([(b1, cA (Z7 .i64 a0) 188)] ++ L))) ∧ 0 ≤ a3 ∧ Y1 (Y6 .i64) H1 s0 a1 ∧ ev f (.tmp 1) = s0 ∧ ev f (.tmp 3) = vP b1 ∧ ev f (.tmp 5) = vP b4 ∧ ev f (.tmp 6) = vP b7 ∧ ev f (.tmp 8) = vI a8 ∧ ev f (.tmp 13) = s0 ∧ ev f (.tmp 14) = vI (a1.length : Int) ∧ ev f (.tmp 15) = vI a3) (fun f w => ∃ (c0 : Int) (H1 : FH), g8 = .go c0 ∧ Sub H H1 ∧ St H1 w ([(b7, cA (Z7 .i64 (fun _ => 0)) 188)] ++ ([(b4, cA (Z7 .i64 a2) 188)] ++ ([(b1, cA (Z7 .i64 a0) 188)] ++ L))) ∧ ev f (.tmp 3) = vP b1 ∧ ev f (.tmp 5) = vP b4 ∧ ev f (.tmp 6) = vP b7 ∧ ev f (.tmp 8) = vI c0) rfl ?_ ?_ K ?_ ?_
 rintro f w ⟨a3, a8, H1, a9, _⟩
 rw [S1] at a9; cases a9
 rintro k r0 r1 i9 n9 ⟨a3, a8, f8, a9, Z2, hS, n6, b0, d7, c3, c4, c8, c9, c5, c6, b5⟩
 rw [S1] at a9
 refine Z3 (Z0 ?_)
 refine V7 (k := .i64) (a := a3) (b := (a1.length : Int)) (by exact b5) (by exact c6) rfl (Z1 (Z3 ?_))
 by_cases f9 : a3 < (a1.length : Int)
 rw [if_pos f9] at a9
 refine Y0 (bT f9 rfl) (Y7 (Z3 (Y8 (Z3 (Z0 (Z4 (vI a3) (by exact b5) rfl ?_))))))
 obtain ⟨z4, z5, r2, z6, _, l3, l4, rfl, l5⟩ := b0.elem (i := a3) (by omega) (by omega)
 refine W3 Q2 rfl (by exact c5) l3 (by exact b5) (by omega) (by omega) rfl ?_
 refine Y4 (vI (rd a1 a3)) ty2 rfl (hS.froz _ _ l4) (l5 0 (show 0 < 1 by decide)) rfl (Z5 (vI a3) rfl rfl (Z5 (vI (rd a1 a3)) rfl rfl (Z1 (Z3 (Z3 (Z0 (Z4 (vI (rd a1 a3)) rfl rfl ?_)))))))
 refine Zh4 (((rd a1 a3)).tmod 2) rfl rfl (by decide) rfl rfl ?_
 refine Za4 (k := .i64) (a := (((rd a1 a3)).tmod 2)) (b := 0) rfl rfl rfl (Z1 ?_)
 by_cases g0 : (((rd a1 a3)).tmod 2) = 0
 rw [if_pos g0] at a9
 refine Y0 (bT g0 rfl) ?_
 refine W4 rfl (Z0 ?_)
 refine W8 (a3 + 1) (by exact b5) rfl (IntWalk.i64_in _ (by omega)) rfl (Z4 (vI (a3 + 1)) rfl rfl (Z1 ?_))
 exact i9 _ _ ⟨(a3 + 1), a8, f8, a9, Z2, hS, (by omega), b0, d7, c3, c4, c8, c9, c5, c6, rfl⟩
 rw [if_neg g0] at a9
 refine Z8 (bF g0 rfl) (Y7 (Z3 (Z3 ?_)))
 refine B6 (fun f w => ∃ (b9 : Bool) (H1 : FH), D5 K (S1 K a0 a1 a2 k) a0 a1 a2 a3 a8 b9 = some g8 ∧ Sub H H1 ∧ St H1 w ([(b7, cA (Z7 .i64 (fun _ => 0)) 188)] ++ ([(b4, cA (Z7 .i64 a2) 188)] ++ ([(b1, cA (Z7 .i64 a0) 188)] ++ L))) ∧ Y1 (Y6 .i64) H1 s0 a1 ∧ ev f (.tmp 1) = s0 ∧ ev f (.tmp 3) = vP b1 ∧ ev f (.tmp 5) = vP b4 ∧ ev f (.tmp 6) = vP b7 ∧ ev f (.tmp 8) = vI a8 ∧ ev f (.tmp 9) = vI a3 ∧ ev f (.tmp 13) = s0 ∧ ev f (.tmp 14) = vI (a1.length : Int) ∧ ev f (.tmp 15) = vI a3 ∧ ev f (.tmp 32) = Value.bool b9) ?_ ?_
 rintro z7 o6 ⟨b9, h3, b6, Z2, hS, b0, g4, g5, e1, d4, g6, g7, e6, e7, e8, e9⟩
 unfold D5 at b6
 by_cases g1 : b9 = true
 rw [if_pos g1] at b6
 refine Y0 (Eq.trans (by exact e9) (congrArg Value.bool g1)) (Z3 (Z0 ?_))
 refine Q1 (vA (Z7 .i64 (fun _ => 0))) Xc7 rfl ?_
 refine W0 (v := vA (Z7 .i64 (fun _ => 0))) (vs := (Z7 .i64 (fun _ => 0)).toArray) (cs := (Z7 .i64 (fun _ => 0)).toArray) N4 (by exact d4) rfl rfl hS rfl (S9 .i64 (fun _ => 0)) rfl ?_
 intro z8 hS
 refine Z5 (vI 0) rfl rfl (Z1 ?_)
 refine X0 (vs := [vA (Z7 .i64 (fun _ => 0)), vI 0]) Tryz.func224 ⟨⟨_, (by exact d4), U5 N4 (hS.get mL) rfl⟩, rfl, trivial⟩ ?_
 have hz := Option.some.inj b6
 subst hz
 dsimp only [Ex.elim] at f7
 have hz := Option.some.inj f7
 subst hz
 exact ⟨_, _, rfl, Z2, (St.dropA (St.dropA (St.dropA hS))), ⟨_, _, rfl, ⟨_, rfl, rfl⟩, rfl⟩⟩
 rw [if_neg g1] at b6
 refine Z8 (Eq.trans (by exact e9) (congrArg Value.bool (W1 g1))) (Y7 (Z3 (Z0 (Z4 (vI a3) (by exact g7) rfl ?_))))
 obtain ⟨r3, b6⟩ := gd b6
 refine V5 Zi8 (by exact e1) rfl (by omega) (by omega) rfl ?_
 refine Y4 (vI (Y5 a2 a3)) ty3 rfl (hS.get (o := cA (Z7 .i64 a2) 188) (mR mL)) (M7 ([]) ([]) (by omega) (by omega)) rfl ?_
 refine Zf8 (k := .i64) (a := (Y5 a2 a3)) (b := 0) rfl rfl rfl (Z1 ?_)
 by_cases g2 : 0 < (Y5 a2 a3)
 rw [if_pos g2] at b6
 refine Y0 (bT g2 rfl) (Z3 (Z0 (Z4 (vI a3) (by exact g7) rfl ?_)))
 refine W8 (a3 + 1) rfl rfl (IntWalk.i64_in _ (by omega)) rfl (Z5 (vI (a3 + 1)) rfl rfl (Z1 (Y8 ?_)))
 obtain ⟨j0, b8, j1⟩ := bind_some b6
 refine W5 (id := 2) (fun k f w => ∃ (b3 : Int) (a5 : Int) (H1 : FH), I0 K a0 a1 k b3 a5 = some j0 ∧ Sub H H1 ∧ St H1 w ([(b7, cA (Z7 .i64 (fun _ => 0)) 188)] ++ ([(b4, cA (Z7 .i64 a2) 188)] ++ ([(b1, cA (Z7 .i64 a0) 188)] ++ L))) ∧ 0 ≤ a5 ∧ Y1 (Y6 .i64) H1 s0 a1 ∧ ev f (.tmp 1) = s0 ∧ ev f (.tmp 3) = vP b1 ∧ ev f (.tmp 5) = vP b4 ∧ ev f (.tmp 6) = vP b7 ∧ ev f (.tmp 8) = vI b3 ∧ ev f (.tmp 11) = vI a5 ∧ ev f (.tmp 13) = s0 ∧ ev f (.tmp 14) = vI (a1.length : Int) ∧ ev f (.tmp 15) = vI a3) (fun f w => ∃ (d6 : Int) (H1 : FH), j0 = .go d6 ∧ Sub H H1 ∧ St H1 w ([(b7, cA (Z7 .i64 (fun _ => 0)) 188)] ++ ([(b4, cA (Z7 .i64 a2) 188)] ++ ([(b1, cA (Z7 .i64 a0) 188)] ++ L))) ∧ Y1 (Y6 .i64) H1 s0 a1 ∧ ev f (.tmp 1) = s0 ∧ ev f (.tmp 3) = vP b1 ∧ ev f (.tmp 5) = vP b4 ∧ ev f (.tmp 6) = vP b7 ∧ ev f (.tmp 8) = vI d6 ∧ ev f (.tmp 13) = s0 ∧ ev f (.tmp 14) = vI (a1.length : Int) ∧ ev f (.tmp 15) = vI a3) rfl ?_ ?_ K ?_ ?_
 rintro f w ⟨b3, a5, H1, b8, _⟩
 rw [I0] at b8; cases b8
 rintro k r4 r5 o0 o1 ⟨b3, a5, l6, b8, Z2, hS, n7, b0, d0, d8, f0, f1, f2, c7, e2, e3, e4⟩
 rw [I0] at b8
 refine Z3 (Z3 (Z0 (Z4 (vI a5) (by exact c7) rfl (Z4 (s0) (by exact d0) rfl ?_))))
 have r6 := b0.bound
 refine W7 Q2 rfl b0 rfl ?_
 refine V7 (k := .i64) (a := a5) (b := (a1.length : Int)) rfl rfl rfl (Z1 ?_)
 by_cases g3 : a5 < (a1.length : Int)
 rw [if_pos g3] at b8
 refine Y0 (bT g3 rfl) (Y7 (Z3 (Y8 ?_)))
 obtain ⟨o2, o3, r7, z9, _, l7, g9, rfl, l9⟩ := b0.elem (i := a5) (by omega) (by omega)
 obtain ⟨r8, b8⟩ := gd b8
 refine U6 11 (P9 [(46, MP.eq (vI b3)), (47, MP.eq (s0)), (48, MP.eq (vI a5)), (49, MP.eq (Value.pointer (some ⟨o2, o3, none⟩))), (50, MP.eq (vI (rd a1 a5))), (51, MP.eq (vI (((rd a1 a5)).tmod 2))), (52, MP.eq (vI a5)), (53, MP.eq (Value.pointer (some ⟨b1, 0 + (a5).toNat * 1, none⟩))), (54, MP.eq (vI (Y5 a0 a5))), (55, MP.eq (vI (IntKind.i64.wrap ((((rd a1 a5)).tmod 2) * (Y5 a0 a5))))), (56, MP.eq (vI (IntKind.i64.wrap (b3 + (IntKind.i64.wrap ((((rd a1 a5)).tmod 2) * (Y5 a0 a5)))))))]) [] mixed rfl rfl rfl hS (Z6 rfl ?_ (Z6 rfl ?_ (Z6 rfl ?_ (Z6 rfl ?_ (Z6 rfl ?_ (Z6 rfl ?_ (Z6 rfl ?_ (Z6 rfl ?_ (Z6 rfl ?_ (Z6 rfl ?_ (Z6 rfl ?_ U8))))))))))) ?_
 intro f20 w21 H22 X23 r9 hS m0 s1 hcq
 refine Z4 (vI b3) (evT (m0 8 rfl) f2) rfl ?_
 exact qn (.refl _) rfl hS rfl
 intro f29 w30 H31 X32 s2 hS m1 s3 hcq
 refine Z4 (s0) (evT (m1 1 rfl) d0) rfl ?_
 exact qn (.refl _) rfl hS rfl
 intro f38 w39 H40 X41 s4 hS m2 s5 hcq
 refine Z4 (vI a5) (evT (m2 11 rfl) c7) rfl ?_
 exact qn (.refl _) rfl hS rfl
 intro f47 w48 H49 X50 s6 hS s7 j2 hcq
 refine W3 Q2 rfl (eM (j2 1 47 rfl rfl)) l7 (eM (j2 2 48 rfl rfl)) (by omega) (by omega) rfl ?_
 exact qn (.refl _) rfl hS rfl
 intro f58 w59 H60 X61 m3 hS s8 m4 hcq
 have g9 := m3.1 _ _ g9
 refine Y4 (vI (rd a1 a5)) ty2 (eM (m4 3 49 rfl rfl)) (hS.froz _ _ g9) (l9 0 (show 0 < 1 by decide)) rfl ?_
 exact qn (.refl _) rfl hS rfl
 intro f67 w68 H69 X70 s9 hS t0 m5 hcq
 refine Zh4 (((rd a1 a5)).tmod 2) (eM (m5 4 50 rfl rfl)) rfl (by decide) rfl rfl ?_
 exact qn (.refl _) rfl hS rfl
 intro f76 w77 H78 X79 t1 hS m6 t4 hcq
 refine Z4 (vI a5) (evT (m6 11 rfl) c7) rfl ?_
 exact qn (.refl _) rfl hS rfl
 intro f96 w97 H98 X99 o7 hS j6 j7 hcq
 refine V5 Zi8 (evT (j6 3 rfl) d8) (eM (j7 6 52 rfl rfl)) (by omega) (by omega) rfl ?_
 exact qn (.refl _) rfl hS rfl
 intro t5 t6 t7 t8 o8 hS o9 j8 hcq
 refine Y4 (vI (Y5 a0 a5)) ty3 (eM (j8 7 53 rfl rfl)) (hS.get (o := cA (Z7 .i64 a0) 188) (mR (mR (mR mL)))) (M7 ([]) ([]) (by omega) (by omega)) rfl ?_
 exact qn (.refl _) rfl hS rfl
 intro t9 u0 u1 u2 p0 hS p1 h4 hcq
 refine Zo2 (IntKind.i64.wrap ((((rd a1 a5)).tmod 2) * (Y5 a0 a5))) (eM (h4 5 51 rfl rfl)) (eM (h4 8 54 rfl rfl)) rfl rfl ?_
 exact qn (.refl _) rfl hS rfl
 intro u3 u4 u5 u6 p2 hS p3 h5 hcq
 refine W8 (IntKind.i64.wrap (b3 + (IntKind.i64.wrap ((((rd a1 a5)).tmod 2) * (Y5 a0 a5))))) (eM (h5 0 46 rfl rfl)) (eM (h5 9 55 rfl rfl)) rfl rfl ?_
 exact qn (.refl _) rfl hS rfl
 intro u7 m7 j3 h6 hS c1 j9 hcq
 have hS : St j3 m7 ([(b7, cA (Z7 .i64 (fun _ => 0)) 188)] ++ ([(b4, cA (Z7 .i64 a2) 188)] ++ ([(b1, cA (Z7 .i64 a0) 188)] ++ L))) := hS
 have Z2 := Z2.trans h6
 have b0 := b0.mono h6
 refine Z5 (vI (IntKind.i64.wrap (b3 + (IntKind.i64.wrap ((((rd a1 a5)).tmod 2) * (Y5 a0 a5)))))) (by exact (eM (j9 10 56 (by decide) rfl))) rfl (Z1 (X2 (Z0 (Z4 (vI a5) (by exact (evT (c1 11 rfl) c7)) rfl ?_))))
 refine W8 (a5 + 1) rfl rfl (IntWalk.i64_in _ (by omega)) rfl (Z5 (vI (a5 + 1)) rfl rfl (Z1 ?_))
 exact o0 _ _ ⟨(IntKind.i64.wrap (b3 + (IntKind.i64.wrap ((((rd a1 a5)).tmod 2) * (Y5 a0 a5))))), (a5 + 1), j3, b8, Z2, hS, (by omega), b0, (evT (c1 1 rfl) d0), (evT (c1 3 rfl) d8), (evT (c1 5 rfl) f0), (evT (c1 6 rfl) f1), rfl, rfl, (evT (c1 13 rfl) e2), (evT (c1 14 rfl) e3), (evT (c1 15 rfl) e4)⟩
 rw [if_neg g3] at b8
 refine Z8 (bF g3 rfl) ?_
 refine W4 rfl ?_
 have hz := Option.some.inj b8
 subst hz
 exact o1 _ _ ⟨b3, l6, rfl, Z2, hS, b0, d0, d8, f0, f1, f2, e2, e3, e4⟩
 exact ⟨a8, (a3 + 1), h3, b8, Z2, hS, (by omega), b0, g4, g5, e1, d4, g6, rfl, e6, e7, e8⟩
 rintro u8 u9 ⟨d6, m8, rfl, Z2, hS, b0, h9, i0, i1, i2, i3, h0, h1, h2⟩
 dsimp only [Ex.elim] at j1
 refine X2 (Z0 ?_)
 refine W8 (a3 + 1) (by exact h2) rfl (IntWalk.i64_in _ (by omega)) rfl (Z4 (vI (a3 + 1)) rfl rfl (Z1 ?_))
 exact i9 _ _ ⟨(a3 + 1), d6, m8, j1, Z2, hS, (by omega), b0, h9, i0, i1, i2, i3, h0, h1, rfl⟩
 rw [if_neg g2] at b6
 refine Z8 (bF g2 rfl) (Y7 (X2 (Z0 ?_)))
 refine W8 (a3 + 1) (by exact e8) rfl (IntWalk.i64_in _ (by omega)) rfl (Z4 (vI (a3 + 1)) rfl rfl (Z1 ?_))
 exact i9 _ _ ⟨(a3 + 1), a8, h3, b6, Z2, hS, (by omega), b0, g4, g5, e1, d4, g6, e6, e7, rfl⟩
 intro l2
 refine Z0 (Z4 (vI a3) rfl rfl ?_)
 obtain ⟨p4, a9⟩ := gd a9
 refine V5 Zi8 (by exact c3) rfl (by omega) (by omega) rfl ?_
 refine Y4 (vI (Y5 a0 a3)) ty3 rfl (hS.get (o := cA (Z7 .i64 a0) 188) (mR (mR mL))) (M7 ([]) ([]) (by omega) (by omega)) rfl ?_
 refine Zf8 (k := .i64) (a := (Y5 a0 a3)) (b := 0) rfl rfl rfl (Z4 (Value.bool (decide (0 < (Y5 a0 a3)))) rfl rfl ?_)
 by_cases b2 : 0 < (Y5 a0 a3)
 rw [if_pos b2] at a9
 refine Y2 rfl rfl (bT b2 rfl) (Z4 (vI a3) rfl rfl ?_)
 refine Y2 rfl rfl (bT b2 rfl) ?_
 refine V5 Zi8 (by exact c4) rfl (by omega) (by omega) rfl ?_
 refine Y2 rfl rfl (bT b2 rfl) ?_
 refine Y4 (vI (Y5 a2 a3)) ty3 rfl (hS.get (o := cA (Z7 .i64 a2) 188) (mR mL)) (M7 ([]) ([]) (by omega) (by omega)) rfl ?_
 refine Y2 rfl rfl (bT b2 rfl) ?_
 refine Zf8 (k := .i64) (a := (Y5 a2 a3)) (b := 0) rfl rfl rfl ?_
 refine V2 (t := true) (Value.bool (decide (0 < (Y5 a2 a3)))) (bT b2 rfl) ((if_pos rfl).trans rfl) rfl (Z1 ?_)
 exact l2 _ _ ⟨(decide (0 < (Y5 a2 a3))), f8, a9, Z2, hS, b0, d7, c3, c4, c8, c9, rfl, c5, c6, b5, rfl⟩
 rw [if_neg b2] at a9
 refine Z9 rfl rfl (bF b2 rfl) rfl rfl rfl (Z9 rfl rfl (bF b2 rfl) rfl rfl rfl (Z9 rfl rfl (bF b2 rfl) rfl rfl rfl (Z9 rfl rfl (bF b2 rfl) rfl rfl rfl ?_)))
 refine V2 (t := false) (Value.bool false) (bF b2 rfl) ((if_neg Bool.false_ne_true).trans rfl) rfl (Z1 ?_)
 exact l2 _ _ ⟨false, f8, a9, Z2, hS, b0, d7, c3, c4, c8, c9, rfl, c5, c6, b5, rfl⟩
 rw [if_neg f9] at a9
 refine Z8 (bF f9 rfl) ?_
 refine W4 rfl ?_
 have hz := Option.some.inj a9
 subst hz
 exact n9 _ _ ⟨a8, f8, rfl, Z2, hS, c3, c4, c8, c9⟩
 exact ⟨0, 0, H, a9, Z2, hS, (by omega), b0, rfl, rfl, rfl, rfl, rfl, rfl, rfl, rfl⟩
 rintro v0 v1 ⟨c0, m9, rfl, Z2, hS, i4, i5, i6, i7⟩
 dsimp only [Ex.elim] at f7
 refine Z3 (Z3 (Z0 (Z4 (vI 0) rfl rfl (Z1 (Y8 ?_)))))
 obtain ⟨j4, c2, e5⟩ := bind_some f7
 refine W5 (id := 4) (fun k f w => ∃ (a4 : Int) (a6 : A8) (H1 : FH), M6 K a2 k a4 a6 = some j4 ∧ Sub H H1 ∧ St H1 w ([(b7, cA (Z7 .i64 (fun _ => 0)) 188)] ++ ([(b4, cA (Z7 .i64 a2) 188)] ++ ([(b1, cA (Z7 .i64 a6) 188)] ++ L))) ∧ 0 ≤ a4 ∧ ev f (.tmp 3) = vP b1 ∧ ev f (.tmp 5) = vP b4 ∧ ev f (.tmp 6) = vP b7 ∧ ev f (.tmp 8) = vI c0 ∧ ev f (.tmp 58) = vI a4) (fun f w => ∃ (a7 : A8) (H1 : FH), j4 = .go a7 ∧ Sub H H1 ∧ St H1 w ([(b7, cA (Z7 .i64 (fun _ => 0)) 188)] ++ ([(b4, cA (Z7 .i64 a2) 188)] ++ ([(b1, cA (Z7 .i64 a7) 188)] ++ L))) ∧ ev f (.tmp 3) = vP b1 ∧ ev f (.tmp 6) = vP b7 ∧ ev f (.tmp 8) = vI c0) rfl ?_ ?_ K ?_ ?_
 rintro f w ⟨a4, a6, H1, c2, _⟩
 rw [M6] at c2; cases c2
 rintro k v2 v3 o4 o5 ⟨a4, a6, n0, c2, Z2, hS, n8, d1, f3, f4, f5, d3⟩
 rw [M6] at c2
 refine Z3 (Z0 ?_)
 refine V7 (k := .i64) (a := a4) (b := 8) (by exact d3) rfl rfl (Z1 (Z3 ?_))
 by_cases d9 : a4 < 8
 rw [if_pos d9] at c2
 refine Y0 (bT d9 rfl) (Y7 (Z3 (Y8 (Z3 (Z0 (Z4 (vI a4) (by exact d3) rfl (Z5 (vI a4) rfl rfl (Z1 ?_))))))))
 refine U6 8 (P9 [(61, MP.eq (vI a4)), (62, MP.eq (Value.pointer (some ⟨b1, 0 + (a4).toNat * 1, none⟩))), (63, MP.eq (vI (Y5 a6 a4))), (64, MP.eq (vI a4)), (65, MP.eq (Value.pointer (some ⟨b4, 0 + (a4).toNat * 1, none⟩))), (66, MP.eq (vI (Y5 a2 a4))), (67, MP.eq (vI (IntKind.i64.wrap ((Y5 a6 a4) + (Y5 a2 a4))))), (68, MP.eq (Value.pointer (some ⟨b1, 0 + (a4).toNat * 1, none⟩)))]) [] mixed rfl rfl rfl hS (Z6 rfl ?_ (Z6 rfl ?_ (Z6 rfl ?_ (Z6 rfl ?_ (Z6 rfl ?_ (Z6 rfl ?_ (Z6 rfl ?_ (Z6 rfl ?_ U8)))))))) ?_
 intro n1 v4 v5 v6 p5 hS k0 p6 hcq
 have n2 : ev n1 (.tmp 12) = vI a4 := Eq.trans (k0 12 rfl) rfl
 refine Z4 (vI a4) n2 rfl ?_
 exact qn (.refl _) rfl hS rfl
 intro v7 v8 v9 w0 p7 hS k1 k2 hcq
 refine V5 Zi8 (evT (k1 3 rfl) d1) (eM (k2 0 61 rfl rfl)) (by omega) (by omega) rfl ?_
 exact qn (.refl _) rfl hS rfl
 intro w1 w3 w4 w6 p8 hS p9 k3 hcq
 refine Y4 (vI (Y5 a6 a4)) ty3 (eM (k3 1 62 rfl rfl)) (hS.get (o := cA (Z7 .i64 a6) 188) (mR (mR (mR mL)))) (M7 ([]) ([]) (by omega) (by omega)) rfl ?_
 exact qn (.refl _) rfl hS rfl
 intro n3 w7 w9 x0 q1 hS k4 q2 hcq
 have n4 : ev n3 (.tmp 12) = vI a4 := Eq.trans (k4 12 rfl) rfl
 refine Z4 (vI a4) n4 rfl ?_
 exact qn (.refl _) rfl hS rfl
 intro x1 x2 x3 x4 q3 hS k5 k6 hcq
 refine V5 Zi8 (evT (k5 5 rfl) f3) (eM (k6 3 64 rfl rfl)) (by omega) (by omega) rfl ?_
 exact qn (.refl _) rfl hS rfl
 intro x5 x6 x7 x8 q4 hS q5 k7 hcq
 refine Y4 (vI (Y5 a2 a4)) ty3 (eM (k7 4 65 rfl rfl)) (hS.get (o := cA (Z7 .i64 a2) 188) (mR (mR mL))) (M7 ([]) ([]) (by omega) (by omega)) rfl ?_
 exact qn (.refl _) rfl hS rfl
 intro x9 y0 y1 y2 q6 hS q7 h7 hcq
 refine W8 (IntKind.i64.wrap ((Y5 a6 a4) + (Y5 a2 a4))) (eM (h7 2 63 rfl rfl)) (eM (h7 5 66 rfl rfl)) rfl rfl ?_
 exact qn (.refl _) rfl hS rfl
 intro y3 y4 y5 y6 q8 hS k8 k9 hcq
 refine V5 Zi8 (evT (k8 3 rfl) d1) (eM (k9 0 61 rfl rfl)) (by omega) (by omega) rfl ?_
 exact qn (.refl _) rfl hS rfl
 intro y7 n5 j5 l0 hS d5 h8 hcq
 have hS : St j5 n5 ([(b7, cA (Z7 .i64 (fun _ => 0)) 188)] ++ ([(b4, cA (Z7 .i64 a2) 188)] ++ ([(b1, cA (Z7 .i64 a6) 188)] ++ L))) := hS
 have Z2 := Z2.trans l0
 have hS := hS.perm Zb7
 refine Za5 (v := vI (IntKind.i64.wrap ((Y5 a6 a4) + (Y5 a2 a4)))) (cs := (Z7 .i64 a6).toArray) (cs' := (Z7 .i64 (S3 a6 a4 (IntKind.i64.wrap ((Y5 a6 a4) + (Y5 a2 a4))))).toArray) ty3 (by exact (eM (h8 7 68 (by decide) rfl))) (by exact (eM (h8 6 67 (by decide) rfl))) hS rfl (Zz4 rfl) (by simp [Z7, N7]; omega) (Zi5 (by omega) (by omega)) ?_
 intro y8 hS
 have hS := hS.perm Zb7.symm
 refine Z1 (X2 (Z0 ?_))
 refine W8 (a4 + 1) (by exact (evT (d5 58 rfl) d3)) rfl (IntWalk.i64_in _ (by omega)) rfl (Z4 (vI (a4 + 1)) rfl rfl (Z1 ?_))
 exact o4 _ _ ⟨(a4 + 1), (S3 a6 a4 (IntKind.i64.wrap ((Y5 a6 a4) + (Y5 a2 a4)))), j5, c2, Z2, hS, (by omega), (evT (d5 3 rfl) d1), (evT (d5 5 rfl) f3), (evT (d5 6 rfl) f4), (evT (d5 8 rfl) f5), rfl⟩
 rw [if_neg d9] at c2
 refine Z8 (bF d9 rfl) ?_
 refine W4 rfl ?_
 have hz := Option.some.inj c2
 subst hz
 exact o5 _ _ ⟨a6, n0, rfl, Z2, hS, d1, f4, f5⟩
 exact ⟨0, a0, m9, c2, Z2, hS, (by omega), i4, i5, i6, i7, rfl⟩
 rintro y9 z0 ⟨a7, z1, rfl, Z2, hS, f6, d2, i8⟩
 dsimp only [Ex.elim] at e5
 refine Z3 (Z3 (Z0 (Z4 (vI c0) (by exact i8) rfl ?_)))
 refine Zh4 ((c0).tmod 2) rfl rfl (by decide) rfl rfl ?_
 refine Za4 (k := .i64) (a := ((c0).tmod 2)) (b := 1) rfl rfl rfl (Z1 ?_)
 by_cases e0 : ((c0).tmod 2) = 1
 rw [if_pos e0] at e5
 refine Y0 (bT e0 rfl) (Z3 (Z0 ?_))
 refine W2 N4 (by exact f6) (hS.get (mR (mR mL))) rfl rfl ?_
 refine W0 (v := vA (Z7 .i64 a7)) (vs := (Z7 .i64 a7).toArray) (cs := (Z7 .i64 (fun _ => 0)).toArray) N4 (by exact d2) rfl rfl hS rfl (S9 .i64 a7) rfl ?_
 intro z2 hS
 refine Z5 (vI (-1)) rfl rfl (Z1 ?_)
 refine X0 (vs := [vA (Z7 .i64 a7), vI (-1)]) Tryz.func224 ⟨⟨_, (by exact d2), U5 N4 (hS.get mL) rfl⟩, rfl, trivial⟩ ?_
 have hz := Option.some.inj e5
 subst hz
 exact ⟨_, _, rfl, Z2, (St.dropA (St.dropA (St.dropA hS))), ⟨_, _, rfl, ⟨_, rfl, rfl⟩, rfl⟩⟩
 rw [if_neg e0] at e5
 refine Z8 (bF e0 rfl) (Y7 (Z3 (Z0 ?_)))
 refine W2 N4 (by exact f6) (hS.get (mR (mR mL))) rfl rfl ?_
 refine W0 (v := vA (Z7 .i64 a7)) (vs := (Z7 .i64 a7).toArray) (cs := (Z7 .i64 (fun _ => 0)).toArray) N4 (by exact d2) rfl rfl hS rfl (S9 .i64 a7) rfl ?_
 intro z3 hS
 refine Z5 (vI 1) rfl rfl (Z1 ?_)
 refine X0 (vs := [vA (Z7 .i64 a7), vI 1]) Tryz.func224 ⟨⟨_, (by exact d2), U5 N4 (hS.get mL) rfl⟩, rfl, trivial⟩ ?_
 have hz := Option.some.inj e5
 subst hz
 exact ⟨_, _, rfl, Z2, (St.dropA (St.dropA (St.dropA hS))), ⟨_, _, rfl, ⟨_, rfl, rfl⟩, rfl⟩⟩
def E9 (K : Nat) (a0 : MpT) (a3 : Int) : Nat → Int → Int → Option (Ex Int (Int))
 | 0, _, _ => none
 | k + 1, a5, a4 => (if a4 < 8 then (if (Y5 ((rd a0 a3).1) a4) = (IntKind.u8.wrap a5) then E9 K a0 a3 k (IntKind.i64.wrap (a5 + 1)) (a4 + 1) else some (.ret (-1))) else some (.go a5))
def J8 (K : Nat) (a0 : MpT) : Nat → Int → Int → Option (Ex Int (Int))
 | 0, _, _ => none
 | k + 1, a9, a3 => (if a3 < (a0.length : Int) then ((E9 K a0 a3 K a9 0).bind (Ex.elim (fun r => some (.ret r)) (fun s => (fun (a6 : Int) => (if (rd a0 a3).2 = a6 then J8 K a0 k (IntKind.i64.wrap (a6 + 1)) (a3 + 1) else some (.ret (-1)))) s))) else some (.go a9))
def Zm9 (K : Nat) (a0 : MpT) (a1 : Int) : Option Int := ((J8 K a0 K a1 0).bind (Ex.elim (fun r => some r) (fun s => (fun (b1 : Int) => some b1) s)))
theorem Yr3 {K : Nat} {a0 : MpT} {a1 : Int} {r : Int} (q0 : Zm9 K a0 a1 = some r) {H : FH} {w : World} {L : OL} {s0 : Value} (b0 : Y1 yT H s0 a0) (hS : St H w L) :
 Calls Tryz.prog 118 #[s0, vI a1] w (T2 (fun v G => (R.int .i64).p G v r) H L) := by
 have Z2 := Sub.refl H
 refine X3 Tryz.func118 rfl Tryz.ntmps118 rfl ?_
 unfold Zm9 at q0
 refine Z3 (Z0 (Z5 (vI 0) rfl rfl (Z1 (Z3 (Z3 (Z0 (Z5 (vI 0) rfl rfl (Z1 (Y8 ?_)))))))))
 obtain ⟨d1, a8, b3⟩ := bind_some q0
 refine W5 (id := 0) (fun k f w => ∃ (a9 : Int) (a3 : Int) (H1 : FH), J8 K a0 k a9 a3 = some d1 ∧ Sub H H1 ∧ St H1 w (L) ∧ 0 ≤ a3 ∧ Y1 yT H1 s0 a0 ∧ ev f (.tmp 0) = s0 ∧ ev f (.tmp 1) = vI a9 ∧ ev f (.tmp 5) = vI a3) (fun f w => ∃ (b1 : Int) (H1 : FH), d1 = .go b1 ∧ Sub H H1 ∧ St H1 w (L) ∧ ev f (.tmp 1) = vI b1) rfl ?_ ?_ K ?_ ?_
 rintro f w ⟨a9, a3, H1, a8, _⟩
 rw [J8] at a8; cases a8
 rintro k e8 e9 d6 d7 ⟨a9, a3, d2, a8, Z2, hS, d8, b0, c0, c1, c2⟩
 rw [J8] at a8
 refine Z3 (Z3 (Z0 (Z4 (vI a3) (by exact c2) rfl (Z4 (s0) (by exact c0) rfl ?_))))
 have f7 := b0.bound
 refine W7 R5 rfl b0 rfl ?_
 refine V7 (k := .i64) (a := a3) (b := (a0.length : Int)) rfl rfl rfl (Z1 ?_)
 by_cases c6 : a3 < (a0.length : Int)
 rw [if_pos c6] at a8
 refine Y0 (bT c6 rfl) (Y7 (Z3 (Y8 (Z3 (Z3 (Z0 (Z5 (vI 0) rfl rfl (Z1 (Y8 ?_)))))))))
 obtain ⟨d3, a7, b2⟩ := bind_some a8
 refine W5 (id := 2) (fun k f w => ∃ (a5 : Int) (a4 : Int) (H1 : FH), E9 K a0 a3 k a5 a4 = some d3 ∧ Sub H H1 ∧ St H1 w (L) ∧ 0 ≤ a4 ∧ Y1 yT H1 s0 a0 ∧ ev f (.tmp 0) = s0 ∧ ev f (.tmp 1) = vI a5 ∧ ev f (.tmp 5) = vI a3 ∧ ev f (.tmp 6) = vI a4) (fun f w => ∃ (a6 : Int) (H1 : FH), d3 = .go a6 ∧ Sub H H1 ∧ St H1 w (L) ∧ Y1 yT H1 s0 a0 ∧ ev f (.tmp 0) = s0 ∧ ev f (.tmp 1) = vI a6 ∧ ev f (.tmp 5) = vI a3) rfl ?_ ?_ K ?_ ?_
 rintro f w ⟨a5, a4, H1, a7, _⟩
 rw [E9] at a7; cases a7
 rintro k f0 f1 d9 e0 ⟨a5, a4, d4, a7, Z2, hS, e1, b0, b5, b7, b8, b9⟩
 rw [E9] at a7
 refine Z3 (Z3 (Z0 (Z4 (vI a4) (by exact b9) rfl ?_)))
 refine V7 (k := .i64) (a := a4) (b := 8) rfl rfl rfl (Z1 ?_)
 by_cases c7 : a4 < 8
 rw [if_pos c7] at a7
 refine Y0 (bT c7 rfl) (Y7 (Z3 (Y8 (Z3 (Z3 (Z0 (Z4 (s0) (by exact b5) rfl (Z4 (vI a3) (by exact b8) rfl (Z4 (vI a4) (by exact b9) rfl ?_)))))))))
 obtain ⟨b4, o4, f8, E4, _, e2, e3, ⟨_, _, rfl, rfl, rfl⟩, e4⟩ := b0.elem (i := a3) (by omega) (by omega)
 refine W3 R5 rfl rfl e2 rfl (by omega) (by omega) rfl (Y3 N1 rfl rfl ?_)
 refine V5 Zd3 rfl rfl (by omega) (by omega) rfl ?_
 refine Y4 (Value.int .u8 (Y5 ((rd a0 a3).1) a4)) ty5 rfl (hS.froz _ _ e3) (Xq1 ([]) (([vI ((rd a0 a3).2)])) e4 (Nat.le_of_ble_eq_true rfl) (by omega) (by omega)) rfl (Z4 (vI a5) (by exact b7) rfl ?_)
 refine Yh0 (s := .i64) ((IntKind.u8.wrap a5)) Wa6 rfl rfl rfl ?_
 refine J2 (k := .u8) (a := (Y5 ((rd a0 a3).1) a4)) (b := (IntKind.u8.wrap a5)) rfl rfl rfl (Z1 ?_)
 by_cases c8 : (Y5 ((rd a0 a3).1) a4) = (IntKind.u8.wrap a5)
 rw [if_pos c8] at a7
 refine Z8 (bN c8 rfl) (Y7 (Z0 (Z4 (vI a5) (by exact b7) rfl ?_)))
 refine W8 (IntKind.i64.wrap (a5 + 1)) rfl rfl rfl rfl (Z5 (vI (IntKind.i64.wrap (a5 + 1))) rfl rfl (Z1 (X2 (Z0 (Z4 (vI a4) (by exact b9) rfl ?_)))))
 refine W8 (a4 + 1) rfl rfl (IntWalk.i64_in _ (by omega)) rfl (Z5 (vI (a4 + 1)) rfl rfl (Z1 ?_))
 exact d9 _ _ ⟨(IntKind.i64.wrap (a5 + 1)), (a4 + 1), d4, a7, Z2, hS, (by omega), b0, b5, rfl, b8, rfl⟩
 rw [if_neg c8] at a7
 refine Y0 (bO c8 rfl) (Z3 (Z0 (Z5 (vI (-1)) rfl rfl (Z1 ?_))))
 refine X0 (vs := [vI (-1)]) Tryz.func118 ⟨rfl, trivial⟩ ?_
 have hz := Option.some.inj a7
 subst hz
 dsimp only [Ex.elim] at b2
 have hz := Option.some.inj b2
 subst hz
 dsimp only [Ex.elim] at b3
 have hz := Option.some.inj b3
 subst hz
 exact ⟨_, _, rfl, Z2, hS, rfl⟩
 rw [if_neg c7] at a7
 refine Z8 (bF c7 rfl) ?_
 refine W4 rfl ?_
 have hz := Option.some.inj a7
 subst hz
 exact e0 _ _ ⟨a5, d4, rfl, Z2, hS, b0, b5, b7, b8⟩
 exact ⟨a9, 0, d2, a7, Z2, hS, (by omega), b0, c0, c1, c2, rfl⟩
 rintro f2 f3 ⟨a6, d5, rfl, Z2, hS, b0, c3, c4, c5⟩
 dsimp only [Ex.elim] at b2
 refine Z3 (Z3 (Z0 (Z4 (s0) (by exact c3) rfl (Z4 (vI a3) (by exact c5) rfl ?_))))
 obtain ⟨b6, o6, f9, E6, _, e5, e6, ⟨_, _, rfl, rfl, rfl⟩, e7⟩ := b0.elem (i := a3) (by omega) (by omega)
 refine W3 R5 rfl rfl e5 rfl (by omega) (by omega) rfl (Y3 Zd9 rfl rfl ?_)
 refine Y4 (vI ((rd a0 a3).2)) ty2 rfl (hS.froz _ _ e6) (e7 8 (show 8 < 9 by decide)) rfl (Z4 (vI a6) (by exact c4) rfl ?_)
 refine J2 (k := .i64) (a := (rd a0 a3).2) (b := a6) rfl rfl rfl (Z1 ?_)
 by_cases c9 : (rd a0 a3).2 = a6
 rw [if_pos c9] at b2
 refine Z8 (bN c9 rfl) (Y7 (Z0 (Z4 (vI a6) (by exact c4) rfl ?_)))
 refine W8 (IntKind.i64.wrap (a6 + 1)) rfl rfl rfl rfl (Z5 (vI (IntKind.i64.wrap (a6 + 1))) rfl rfl (Z1 (X2 (Z0 (Z4 (vI a3) (by exact c5) rfl ?_)))))
 refine W8 (a3 + 1) rfl rfl (IntWalk.i64_in _ (by omega)) rfl (Z5 (vI (a3 + 1)) rfl rfl (Z1 ?_))
 exact d6 _ _ ⟨(IntKind.i64.wrap (a6 + 1)), (a3 + 1), d5, b2, Z2, hS, (by omega), b0, c3, rfl, rfl⟩
 rw [if_neg c9] at b2
 refine Y0 (bO c9 rfl) (Z3 (Z0 (Z5 (vI (-1)) rfl rfl (Z1 ?_))))
 refine X0 (vs := [vI (-1)]) Tryz.func118 ⟨rfl, trivial⟩ ?_
 have hz := Option.some.inj b2
 subst hz
 dsimp only [Ex.elim] at b3
 have hz := Option.some.inj b3
 subst hz
 exact ⟨_, _, rfl, Z2, hS, rfl⟩
 rw [if_neg c6] at a8
 refine Z8 (bF c6 rfl) ?_
 refine W4 rfl ?_
 have hz := Option.some.inj a8
 subst hz
 exact d7 _ _ ⟨a9, d2, rfl, Z2, hS, c1⟩
 exact ⟨a1, 0, H, a8, Z2, hS, (by omega), b0, rfl, rfl, rfl⟩
 rintro f4 f5 ⟨b1, f6, rfl, Z2, hS, d0⟩
 dsimp only [Ex.elim] at b3
 refine Z3 (Z0 (Z4 (vI b1) (by exact d0) rfl (Z5 (vI b1) rfl rfl (Z1 ?_))))
 refine X0 (vs := [vI b1]) Tryz.func118 ⟨rfl, trivial⟩ ?_
 have hz := Option.some.inj b3
 subst hz
 exact ⟨_, _, rfl, Z2, hS, rfl⟩
def B7 (K : Nat) (c7 : Int → Option (Ex Bool (Unit))) (a1 : A8) (a3 : Int) (a5 : Int) : Option (Ex Bool (Unit)) := (if a5 < (Y5 a1 a3) then some (.ret false) else c7 (a3 + 1))
def S8 (K : Nat) (a0 : (List Int)) (a1 : A8) : Nat → Int → Option (Ex Bool (Unit))
 | 0, _ => none
 | k + 1, a3 => (if a3 < 8 then (if a3 < (a0.length : Int) then (if (((rd a0 a3)).tmod 2) = 1 then B7 K (S8 K a0 a1 k) a1 a3 1 else B7 K (S8 K a0 a1 k) a1 a3 20) else B7 K (S8 K a0 a1 k) a1 a3 0) else some (.go ()))
def Zk7 (K : Nat) (a0 : (List Int)) (a1 : A8) : Option Bool := ((S8 K a0 a1 K 0).bind (Ex.elim (fun r => some r) (fun s => some true)))
theorem Yn6 {K : Nat} {a0 : (List Int)} {a1 : A8} {r : Bool} (q0 : Zk7 K a0 a1 = some r) {H : FH} {w : World} {L : OL} {s0 : Value} (a9 : Y1 (Y6 .i64) H s0 a0) (hS : St H w L) :
 Calls Tryz.prog 220 #[s0, vA (Z7 .u8 a1)] w (T2 (fun v G => R.bool.p G v r) H L) := by
 have Z2 := Sub.refl H
 refine X3 Tryz.func220 rfl Tryz.ntmps220 rfl ?_
 unfold Zk7 at q0
 refine Z3 (Z0 ?_)
 refine S4 (v := vA (Z7 .u8 a1)) (Z7 .u8 a1).toArray rfl rfl hS rfl ?_
 intro b1 w2 hS
 refine Z5 (Value.bool false) rfl rfl (Z1 (Z3 (Z3 (Z0 ?_))))
 refine W2 N6 rfl (hS.get mL) rfl rfl (Z4 (vI 0) rfl rfl (Z1 (Y8 ?_)))
 obtain ⟨b4, a4, b2⟩ := bind_some q0
 refine W5 (id := 0) (fun k f w => ∃ (a3 : Int) (H1 : FH), S8 K a0 a1 k a3 = some b4 ∧ Sub H H1 ∧ St H1 w ([(b1, cA (Z7 .u8 a1) 70)] ++ L) ∧ 0 ≤ a3 ∧ Y1 (Y6 .i64) H1 s0 a0 ∧ ev f (.tmp 0) = s0 ∧ ev f (.tmp 8) = vA (Z7 .u8 a1) ∧ ev f (.tmp 9) = vI a3) (fun f w => ∃ (H1 : FH), b4 = .go () ∧ Sub H H1 ∧ St H1 w ([(b1, cA (Z7 .u8 a1) 70)] ++ L)) rfl ?_ ?_ K ?_ ?_
 rintro f w ⟨a3, H1, a4, _⟩
 rw [S8] at a4; cases a4
 rintro k d5 d6 c8 c9 ⟨a3, b3, a4, Z2, hS, d0, a9, a7, a8, a6⟩
 rw [S8] at a4
 refine Z3 (Z0 ?_)
 refine V7 (k := .i64) (a := a3) (b := 8) (by exact a6) rfl rfl (Z1 (Z3 ?_))
 by_cases b5 : a3 < 8
 rw [if_pos b5] at a4
 refine Y0 (bT b5 rfl) (Y7 (Z3 (Y8 (Z3 (Z0 (Z4 (vI a3) (by exact a6) rfl ?_))))))
 refine Yj5 (Value.int .u8 (Y5 a1 a3)) Zd3 (by exact a8) (by exact a6) (by omega) (by omega) (Yh8 (by omega) (by omega)) rfl (Z5 (vI a3) rfl rfl (Z5 (Value.int .u8 (Y5 a1 a3)) rfl rfl (Z1 (Z3 (Z0 (Z5 (Value.int .u8 0) rfl rfl (Z1 (Z3 (Z3 (Z0 (Z4 (vI a3) rfl rfl (Z4 (s0) (by exact a7) rfl ?_))))))))))))
 have e0 := a9.bound
 refine W7 Q2 rfl a9 rfl ?_
 refine V7 (k := .i64) (a := a3) (b := (a0.length : Int)) rfl rfl rfl (Z1 ?_)
 refine B6 (fun f w => ∃ (a5 : Int) (H1 : FH), B7 K (S8 K a0 a1 k) a1 a3 a5 = some b4 ∧ Sub H H1 ∧ St H1 w ([(b1, cA (Z7 .u8 a1) 70)] ++ L) ∧ Y1 (Y6 .i64) H1 s0 a0 ∧ ev f (.tmp 0) = s0 ∧ ev f (.tmp 6) = Value.int .u8 (Y5 a1 a3) ∧ ev f (.tmp 7) = Value.int .u8 a5 ∧ ev f (.tmp 8) = vA (Z7 .u8 a1) ∧ ev f (.tmp 9) = vI a3) ?_ ?_
 rintro e1 d4 ⟨a5, c6, b0, Z2, hS, a9, c0, c1, c2, c3, c4⟩
 unfold B7 at b0
 refine Z3 (Z0 (Z4 (Value.int .u8 (Y5 a1 a3)) (by exact c1) rfl (Z4 (Value.int .u8 a5) (by exact c2) rfl ?_)))
 refine Zf8 (k := .u8) (a := (Y5 a1 a3)) (b := a5) rfl rfl rfl (Z1 ?_)
 by_cases b6 : a5 < (Y5 a1 a3)
 rw [if_pos b6] at b0
 refine Y0 (bT b6 rfl) (Z3 (Z0 (Z5 (Value.bool false) rfl rfl (Z1 ?_))))
 refine X0 (vs := [Value.bool false]) Tryz.func220 ⟨rfl, trivial⟩ ?_
 have hz := Option.some.inj b0
 subst hz
 dsimp only [Ex.elim] at b2
 have hz := Option.some.inj b2
 subst hz
 exact ⟨_, _, rfl, Z2, (St.dropA hS), rfl⟩
 rw [if_neg b6] at b0
 refine Z8 (bF b6 rfl) (Y7 (X2 (Z0 ?_)))
 refine W8 (a3 + 1) (by exact c4) rfl (IntWalk.i64_in _ (by omega)) rfl (Z4 (vI (a3 + 1)) rfl rfl (Z1 ?_))
 exact c8 _ _ ⟨(a3 + 1), c6, b0, Z2, hS, (by omega), a9, c0, c3, rfl⟩
 intro c5
 by_cases b7 : a3 < (a0.length : Int)
 rw [if_pos b7] at a4
 refine Y0 (bT b7 rfl) (Z3 (Z0 (Z5 (Value.int .u8 20) rfl rfl (Z1 (Z3 (Z0 (Z4 (s0) (by exact a7) rfl (Z4 (vI a3) rfl rfl ?_))))))))
 obtain ⟨b8, o8, e2, E8, _, d1, d2, rfl, d3⟩ := a9.elem (i := a3) (by omega) (by omega)
 refine W3 Q2 rfl rfl d1 rfl (by omega) (by omega) rfl ?_
 refine Y4 (vI (rd a0 a3)) ty2 rfl (hS.froz _ _ d2) (d3 0 (show 0 < 1 by decide)) rfl ?_
 refine Zh4 (((rd a0 a3)).tmod 2) rfl rfl (by decide) rfl rfl ?_
 refine Za4 (k := .i64) (a := (((rd a0 a3)).tmod 2)) (b := 1) rfl rfl rfl (Z1 ?_)
 by_cases b9 : (((rd a0 a3)).tmod 2) = 1
 rw [if_pos b9] at a4
 refine Y0 (bT b9 rfl) (Z0 (Z5 (Value.int .u8 1) rfl rfl (Z1 ?_)))
 exact c5 _ _ ⟨1, b3, a4, Z2, hS, a9, a7, rfl, rfl, a8, a6⟩
 rw [if_neg b9] at a4
 refine Z8 (bF b9 rfl) (Y7 ?_)
 exact c5 _ _ ⟨20, b3, a4, Z2, hS, a9, a7, rfl, rfl, a8, a6⟩
 rw [if_neg b7] at a4
 refine Z8 (bF b7 rfl) (Y7 ?_)
 exact c5 _ _ ⟨0, b3, a4, Z2, hS, a9, a7, rfl, rfl, a8, a6⟩
 rw [if_neg b5] at a4
 refine Z8 (bF b5 rfl) ?_
 refine W4 rfl ?_
 have hz := Option.some.inj a4
 subst hz
 exact c9 _ _ ⟨b3, rfl, Z2, hS⟩
 exact ⟨0, H, a4, Z2, hS, (by omega), a9, rfl, rfl, rfl⟩
 rintro d7 d8 ⟨d9, rfl, Z2, hS⟩
 dsimp only [Ex.elim] at b2
 refine Z3 (Z0 (Z5 (Value.bool true) rfl rfl (Z1 ?_)))
 refine X0 (vs := [Value.bool true]) Tryz.func220 ⟨rfl, trivial⟩ ?_
 have hz := Option.some.inj b2
 subst hz
 exact ⟨_, _, rfl, Z2, (St.dropA hS), rfl⟩
def Zg2 (K : Nat) (c3 : Int → Int → Int → Option (Ex Int (Int))) (a1 : Int) (a3 : Int) (a6 : Int) : Option (Ex Int (Int)) := c3 a6 (((IntKind.i64.wrap (a1 * a1))).tmod 10007) (IntKind.i64.wrap ((a3).tdiv 2))
def P2 (K : Nat) : Nat → Int → Int → Int → Option (Ex Int (Int))
 | 0, _, _, _ => none
 | k + 1, a4, a1, a3 => (if 0 < a3 then (if ((a3).tmod 2) = 1 then Zg2 K (P2 K k) a1 a3 (((IntKind.i64.wrap (a4 * a1))).tmod 10007) else Zg2 K (P2 K k) a1 a3 a4) else some (.go a4))
def Zl2 (K : Nat) (a0 : Int) : Option Int := ((P2 K K 1 a0 10005).bind (Ex.elim (fun r => some r) (fun s => (fun (a7 : Int) => some a7) s)))
theorem Yp1 {K : Nat} {a0 : Int} {r : Int} (q0 : Zl2 K a0 = some r) {H : FH} {w : World} {L : OL} (hS : St H w L) :
 Calls Tryz.prog 149 #[vI a0] w (T2 (fun v G => (R.int .i64).p G v r) H L) := by
 have Z2 := Sub.refl H
 refine X3 Tryz.func149 rfl Tryz.ntmps149 rfl ?_
 unfold Zl2 at q0
 refine Z3 (Z0 (Z5 (vI 0) rfl rfl (Z1 (Z3 (Z0 (Z4 (vI a0) rfl rfl (Z5 (vI 1) rfl rfl (Z5 (vI a0) rfl rfl (Z1 (Z3 (Z3 (Z0 (Z5 (vI 10005) rfl rfl (Z1 (Y8 ?_)))))))))))))))
 obtain ⟨b2, a5, b8⟩ := bind_some q0
 refine W5 (id := 0) (fun k f w => ∃ (a4 : Int) (a1 : Int) (a3 : Int) (H1 : FH), P2 K k a4 a1 a3 = some b2 ∧ Sub H H1 ∧ St H1 w (L) ∧ ev f (.tmp 3) = vI a4 ∧ ev f (.tmp 4) = vI a1 ∧ ev f (.tmp 5) = vI a3) (fun f w => ∃ (a7 : Int) (H1 : FH), b2 = .go a7 ∧ Sub H H1 ∧ St H1 w (L) ∧ ev f (.tmp 3) = vI a7) rfl ?_ ?_ K ?_ ?_
 rintro f w ⟨a4, a1, a3, H1, a5, _⟩
 rw [P2] at a5; cases a5
 rintro k c7 c8 c4 c5 ⟨a4, a1, a3, b3, a5, Z2, hS, a9, b0, a8⟩
 rw [P2] at a5
 refine Z3 (Z3 (Z0 (Z4 (vI a3) (by exact a8) rfl ?_)))
 refine Zf8 (k := .i64) (a := a3) (b := 0) rfl rfl rfl (Z1 ?_)
 by_cases b4 : 0 < a3
 rw [if_pos b4] at a5
 refine Y0 (bT b4 rfl) (Y7 (Z3 (Y8 (Z3 (Z3 (Z0 (Z4 (vI a3) (by exact a8) rfl ?_)))))))
 refine Zh4 ((a3).tmod 2) rfl rfl (by decide) rfl rfl ?_
 refine Za4 (k := .i64) (a := ((a3).tmod 2)) (b := 1) rfl rfl rfl (Z1 ?_)
 refine B6 (fun f w => ∃ (a6 : Int) (H1 : FH), Zg2 K (P2 K k) a1 a3 a6 = some b2 ∧ Sub H H1 ∧ St H1 w (L) ∧ ev f (.tmp 3) = vI a6 ∧ ev f (.tmp 4) = vI a1 ∧ ev f (.tmp 5) = vI a3) ?_ ?_
 rintro d2 c6 ⟨a6, c1, b5, Z2, hS, b9, b1, c0⟩
 unfold Zg2 at b5
 refine Z0 (Z4 (vI a1) (by exact b1) rfl (Z4 (vI a1) (by exact b1) rfl ?_))
 refine Zo2 (IntKind.i64.wrap (a1 * a1)) rfl rfl rfl rfl ?_
 refine Zh4 (((IntKind.i64.wrap (a1 * a1))).tmod 10007) rfl rfl (by decide) rfl rfl (Z5 (vI (((IntKind.i64.wrap (a1 * a1))).tmod 10007)) rfl rfl (Z1 (X2 (Z0 (Z4 (vI a3) (by exact c0) rfl ?_)))))
 refine Wo2 (IntKind.i64.wrap ((a3).tdiv 2)) rfl rfl (by decide) rfl rfl (Z5 (vI (IntKind.i64.wrap ((a3).tdiv 2))) rfl rfl (Z1 ?_))
 exact c4 _ _ ⟨a6, (((IntKind.i64.wrap (a1 * a1))).tmod 10007), (IntKind.i64.wrap ((a3).tdiv 2)), c1, b5, Z2, hS, b9, rfl, rfl⟩
 intro c2
 by_cases b6 : ((a3).tmod 2) = 1
 rw [if_pos b6] at a5
 refine Y0 (bT b6 rfl) (Z0 (Z4 (vI a4) (by exact a9) rfl (Z4 (vI a1) (by exact b0) rfl ?_)))
 refine Zo2 (IntKind.i64.wrap (a4 * a1)) rfl rfl rfl rfl ?_
 refine Zh4 (((IntKind.i64.wrap (a4 * a1))).tmod 10007) rfl rfl (by decide) rfl rfl (Z5 (vI (((IntKind.i64.wrap (a4 * a1))).tmod 10007)) rfl rfl (Z1 ?_))
 exact c2 _ _ ⟨(((IntKind.i64.wrap (a4 * a1))).tmod 10007), b3, a5, Z2, hS, rfl, b0, a8⟩
 rw [if_neg b6] at a5
 refine Z8 (bF b6 rfl) (Y7 ?_)
 exact c2 _ _ ⟨a4, b3, a5, Z2, hS, a9, b0, a8⟩
 rw [if_neg b4] at a5
 refine Z8 (bF b4 rfl) ?_
 refine W4 rfl ?_
 have hz := Option.some.inj a5
 subst hz
 exact c5 _ _ ⟨a4, b3, rfl, Z2, hS, a9⟩
 exact ⟨1, a0, 10005, H, a5, Z2, hS, rfl, rfl, rfl⟩
 rintro c9 d0 ⟨a7, d1, rfl, Z2, hS, b7⟩
 dsimp only [Ex.elim] at b8
 refine Z3 (Z0 (Z4 (vI a7) (by exact b7) rfl (Z5 (vI a7) rfl rfl (Z1 ?_))))
 refine X0 (vs := [vI a7]) Tryz.func149 ⟨rfl, trivial⟩ ?_
 have hz := Option.some.inj b8
 subst hz
 exact ⟨_, _, rfl, Z2, hS, rfl⟩
def K7 (K : Nat) (a0 : A8) (a1 : (List Int)) : Nat → Int → Int → Option (Ex Int (Int))
 | 0, _, _ => none
 | k + 1, a4, a3 => (if a3 < (a1.length : Int) then (if a3 < 8 then K7 K a0 a1 k (IntKind.i64.wrap (a4 + (IntKind.i64.wrap ((rd a1 a3) * (Y5 a0 a3))))) (a3 + 1) else none) else some (.go a4))
def Zh7 (K : Nat) (a0 : A8) (a1 : (List Int)) : Option Int := ((K7 K a0 a1 K 0 0).bind (Ex.elim (fun r => some r) (fun s => (fun (a7 : Int) => some a7) s)))
theorem Yk9 {K : Nat} {a0 : A8} {a1 : (List Int)} {r : Int} (q0 : Zh7 K a0 a1 = some r) {H : FH} {w : World} {L : OL} {s0 : Value} (a8 : Y1 (Y6 .i64) H s0 a1) (hS : St H w L) :
 Calls Tryz.prog 223 #[vA (Z7 .i64 a0), s0] w (T2 (fun v G => (R.int .i64).p G v r) H L) := by
 have Z2 := Sub.refl H
 refine X3 Tryz.func223 rfl Tryz.ntmps223 rfl ?_
 unfold Zh7 at q0
 refine Z3 (Z0 ?_)
 refine S4 (v := vA (Z7 .i64 a0)) (Z7 .i64 a0).toArray rfl rfl hS rfl ?_
 intro b1 w2 hS
 refine Z5 (vI 0) rfl rfl (Z1 (Z3 (Z0 (Z5 (vI 0) rfl rfl (Z1 (Z3 (Z3 (Z0 (Z4 (s0) rfl rfl ?_)))))))))
 have d1 := a8.bound
 refine W7 Q2 rfl a8 rfl (Z4 (vI 0) rfl rfl (Z1 (Y8 ?_)))
 obtain ⟨b7, a5, b8⟩ := bind_some q0
 refine W5 (id := 0) (fun k f w => ∃ (a4 : Int) (a3 : Int) (H1 : FH), K7 K a0 a1 k a4 a3 = some b7 ∧ Sub H H1 ∧ St H1 w ([(b1, cA (Z7 .i64 a0) 188)] ++ L) ∧ 0 ≤ a3 ∧ Y1 (Y6 .i64) H1 s0 a1 ∧ ev f (.tmp 2) = vP b1 ∧ ev f (.tmp 5) = vI a4 ∧ ev f (.tmp 8) = s0 ∧ ev f (.tmp 9) = vI (a1.length : Int) ∧ ev f (.tmp 10) = vI a3) (fun f w => ∃ (a7 : Int) (H1 : FH), b7 = .go a7 ∧ Sub H H1 ∧ St H1 w ([(b1, cA (Z7 .i64 a0) 188)] ++ L) ∧ ev f (.tmp 5) = vI a7) rfl ?_ ?_ K ?_ ?_
 rintro f w ⟨a4, a3, H1, a5, _⟩
 rw [K7] at a5; cases a5
 rintro k c6 c7 c1 c2 ⟨a4, a3, b9, a5, Z2, hS, c0, a8, a9, b0, b2, b3, a6⟩
 rw [K7] at a5
 refine Z3 (Z0 ?_)
 refine V7 (k := .i64) (a := a3) (b := (a1.length : Int)) (by exact a6) (by exact b3) rfl (Z1 (Z3 ?_))
 by_cases b4 : a3 < (a1.length : Int)
 rw [if_pos b4] at a5
 refine Y0 (bT b4 rfl) (Y7 (Z3 (Y8 (Z3 (Z0 (Z4 (vI a3) (by exact a6) rfl ?_))))))
 obtain ⟨b6, o6, d2, E6, _, c3, c4, rfl, c5⟩ := a8.elem (i := a3) (by omega) (by omega)
 refine W3 Q2 rfl (by exact b2) c3 (by exact a6) (by omega) (by omega) rfl ?_
 refine Y4 (vI (rd a1 a3)) ty2 rfl (hS.froz _ _ c4) (c5 0 (show 0 < 1 by decide)) rfl (Z5 (vI a3) rfl rfl (Z5 (vI (rd a1 a3)) rfl rfl (Z1 (Z0 (Z4 (vI a4) (by exact b0) rfl (Z4 (vI (rd a1 a3)) rfl rfl (Z4 (vI a3) rfl rfl ?_)))))))
 obtain ⟨d3, a5⟩ := gd a5
 refine V5 Zi8 (by exact a9) rfl (by omega) (by omega) rfl ?_
 refine Y4 (vI (Y5 a0 a3)) ty3 rfl (hS.get (o := cA (Z7 .i64 a0) 188) mL) (M7 ([]) ([]) (by omega) (by omega)) rfl ?_
 refine Zo2 (IntKind.i64.wrap ((rd a1 a3) * (Y5 a0 a3))) rfl rfl rfl rfl ?_
 refine W8 (IntKind.i64.wrap (a4 + (IntKind.i64.wrap ((rd a1 a3) * (Y5 a0 a3))))) rfl rfl rfl rfl (Z5 (vI (IntKind.i64.wrap (a4 + (IntKind.i64.wrap ((rd a1 a3) * (Y5 a0 a3)))))) rfl rfl (Z1 (X2 (Z0 ?_))))
 refine W8 (a3 + 1) (by exact a6) rfl (IntWalk.i64_in _ (by omega)) rfl (Z4 (vI (a3 + 1)) rfl rfl (Z1 ?_))
 exact c1 _ _ ⟨(IntKind.i64.wrap (a4 + (IntKind.i64.wrap ((rd a1 a3) * (Y5 a0 a3))))), (a3 + 1), b9, a5, Z2, hS, (by omega), a8, a9, rfl, b2, b3, rfl⟩
 rw [if_neg b4] at a5
 refine Z8 (bF b4 rfl) ?_
 refine W4 rfl ?_
 have hz := Option.some.inj a5
 subst hz
 exact c2 _ _ ⟨a4, b9, rfl, Z2, hS, b0⟩
 exact ⟨0, 0, H, a5, Z2, hS, (by omega), a8, rfl, rfl, rfl, rfl, rfl⟩
 rintro c8 c9 ⟨a7, d0, rfl, Z2, hS, b5⟩
 dsimp only [Ex.elim] at b8
 refine Z3 (Z0 (Z4 (vI a7) (by exact b5) rfl (Z5 (vI a7) rfl rfl (Z1 ?_))))
 refine X0 (vs := [vI a7]) Tryz.func223 ⟨rfl, trivial⟩ ?_
 have hz := Option.some.inj b8
 subst hz
 exact ⟨_, _, rfl, Z2, (St.dropA hS), rfl⟩
def V4 (K : Nat) (a0 : (List Int)) (a1 : (Int → Option Bool)) : Nat → Int → Option (Ex Int (Unit))
 | 0, _ => none
 | k + 1, a3 => (if a3 < (a0.length : Int) then ((a1 (rd a0 a3)).bind fun r4 => (if r4 = true then some (.ret a3) else V4 K a0 a1 k (a3 + 1))) else some (.go ()))
def M0 (K : Nat) (a0 : (List Int)) (a1 : (Int → Option Bool)) : Option Int := ((V4 K a0 a1 K 0).bind (Ex.elim (fun r => some r) (fun s => some (-1))))
theorem Zl4 {K : Nat} {a0 : (List Int)} {a1 : (Int → Option Bool)} {r : Int} (q0 : M0 K a0 a1 = some r) {H : FH} {w : World} {L : OL} {s0 : Value} {s1 : Value} (a6 : Y1 (Y6 .i64) H s0 a0) (a7 : FnQ Tryz.prog s1 (R.int .i64) a1 H) (hS : St H w L) :
 Calls Tryz.prog 263 #[s0, s1] w (T2 (fun v G => (R.int .i64).p G v r) H L) := by
 have Z2 := Sub.refl H
 refine X3 Tryz.func263 rfl Tryz.ntmps263 rfl ?_
 unfold M0 at q0
 refine Z3 (Z0 (Z5 (vI 0) rfl rfl (Z1 (Z3 (Z3 (Z0 (Z4 (s0) rfl rfl ?_)))))))
 have d0 := a6.bound
 refine W7 Q2 rfl a6 rfl (Z4 (vI 0) rfl rfl (Z1 (Y8 ?_)))
 obtain ⟨b5, a4, b1⟩ := bind_some q0
 refine W5 (id := 0) (fun k f w => ∃ (a3 : Int) (H1 : FH), V4 K a0 a1 k a3 = some b5 ∧ Sub H H1 ∧ St H1 w (L) ∧ 0 ≤ a3 ∧ Y1 (Y6 .i64) H1 s0 a0 ∧ FnQ Tryz.prog s1 (R.int .i64) a1 H1 ∧ ev f (.tmp 0) = s0 ∧ ev f (.tmp 1) = s1 ∧ ev f (.tmp 7) = vI (a0.length : Int) ∧ ev f (.tmp 8) = vI a3) (fun f w => ∃ (H1 : FH), b5 = .go () ∧ Sub H H1 ∧ St H1 w (L)) rfl ?_ ?_ K ?_ ?_
 rintro f w ⟨a3, H1, a4, _⟩
 rw [V4] at a4; cases a4
 rintro k c5 c6 b8 b9 ⟨a3, b7, a4, Z2, hS, c0, a6, a7, a8, a9, b0, a5⟩
 rw [V4] at a4
 refine Z3 (Z0 ?_)
 refine V7 (k := .i64) (a := a3) (b := (a0.length : Int)) (by exact a5) (by exact b0) rfl (Z1 (Z3 ?_))
 by_cases b2 : a3 < (a0.length : Int)
 rw [if_pos b2] at a4
 refine Y0 (bT b2 rfl) (Y7 (Z3 (Y8 (Z3 (Z0 (Z4 (vI a3) (by exact a5) rfl (Z5 (vI a3) rfl rfl (Z1 (Z3 (Z0 (Z4 (s1) (by exact a9) rfl (Z4 (s0) (by exact a8) rfl (Z4 (vI a3) rfl rfl ?_)))))))))))))
 obtain ⟨b3, o3, d1, E3, _, c1, c2, rfl, c3⟩ := a6.elem (i := a3) (by omega) (by omega)
 refine W3 Q2 rfl rfl c1 rfl (by omega) (by omega) rfl ?_
 refine Y4 (vI (rd a0 a3)) ty2 rfl (hS.froz _ _ c2) (c3 0 (show 0 < 1 by decide)) rfl ?_
 obtain ⟨r4, c4, a4⟩ := bind_some a4
 refine Xx4 a7 rfl rfl hS rfl c4 rfl ?_
 intro H4 w5 b6 hS
 have Z2 := Z2.trans b6
 have a6 := a6.mono b6
 have a7 := a7.mono b6
 refine Z1 ?_
 by_cases b4 : r4 = true
 rw [if_pos b4] at a4
 refine Y0 (Eq.trans rfl (congrArg Value.bool b4)) (Z3 (Z0 (Z4 (vI a3) rfl rfl (Z5 (vI a3) rfl rfl (Z1 ?_)))))
 refine X0 (vs := [vI a3]) Tryz.func263 ⟨rfl, trivial⟩ ?_
 have hz := Option.some.inj a4
 subst hz
 dsimp only [Ex.elim] at b1
 have hz := Option.some.inj b1
 subst hz
 exact ⟨_, _, rfl, Z2, hS, rfl⟩
 rw [if_neg b4] at a4
 refine Z8 (Eq.trans rfl (congrArg Value.bool (W1 b4))) (Y7 (X2 (Z0 ?_)))
 refine W8 (a3 + 1) (by exact a5) rfl (IntWalk.i64_in _ (by omega)) rfl (Z4 (vI (a3 + 1)) rfl rfl (Z1 ?_))
 exact b8 _ _ ⟨(a3 + 1), H4, a4, Z2, hS, (by omega), a6, a7, a8, a9, b0, rfl⟩
 rw [if_neg b2] at a4
 refine Z8 (bF b2 rfl) ?_
 refine W4 rfl ?_
 have hz := Option.some.inj a4
 subst hz
 exact b9 _ _ ⟨b7, rfl, Z2, hS⟩
 exact ⟨0, H, a4, Z2, hS, (by omega), a6, a7, rfl, rfl, rfl, rfl⟩
 rintro c7 c8 ⟨c9, rfl, Z2, hS⟩
 dsimp only [Ex.elim] at b1
 refine Z3 (Z0 (Z5 (vI (-1)) rfl rfl (Z1 ?_)))
 refine X0 (vs := [vI (-1)]) Tryz.func263 ⟨rfl, trivial⟩ ?_
 have hz := Option.some.inj b1
 subst hz
 exact ⟨_, _, rfl, Z2, hS, rfl⟩
def Zb5 (K : Nat) (a0 : A8) : Nat → Int → Int → Option (Ex Int (Int))
 | 0, _, _ => none
 | k + 1, a3, a1 => (if a1 < 8 then Zb5 K a0 k (IntKind.i64.wrap (a3 + (IntKind.i64.wrap (Y5 a0 a1)))) (a1 + 1) else some (.go a3))
def Zr1 (K : Nat) (a0 : A8) : Option Int := ((Zb5 K a0 K 0 0).bind (Ex.elim (fun r => some r) (fun s => (fun (a5 : Int) => some a5) s)))
theorem Yw7 {K : Nat} {a0 : A8} {r : Int} (q0 : Zr1 K a0 = some r) {H : FH} {w : World} {L : OL} (hS : St H w L) :
 Calls Tryz.prog 279 #[vA (Z7 .u8 a0)] w (T2 (fun v G => (R.int .i64).p G v r) H L) := by
 have Z2 := Sub.refl H
 refine X3 Tryz.func279 rfl Tryz.ntmps279 rfl ?_
 unfold Zr1 at q0
 refine Z3 (Z0 ?_)
 refine S4 (v := vA (Z7 .u8 a0)) (Z7 .u8 a0).toArray rfl rfl hS rfl ?_
 intro b1 w2 hS
 refine Z5 (vI 0) rfl rfl (Z1 (Z3 (Z0 (Z5 (vI 0) rfl rfl (Z1 (Z3 (Z3 (Z0 (Z5 (vI 0) rfl rfl (Z1 (Y8 ?_)))))))))))
 obtain ⟨b2, a4, b3⟩ := bind_some q0
 refine W5 (id := 0) (fun k f w => ∃ (a3 : Int) (a1 : Int) (H1 : FH), Zb5 K a0 k a3 a1 = some b2 ∧ Sub H H1 ∧ St H1 w ([(b1, cA (Z7 .u8 a0) 70)] ++ L) ∧ 0 ≤ a1 ∧ ev f (.tmp 1) = vP b1 ∧ ev f (.tmp 3) = vI a3 ∧ ev f (.tmp 4) = vI a1) (fun f w => ∃ (a5 : Int) (H1 : FH), b2 = .go a5 ∧ Sub H H1 ∧ St H1 w ([(b1, cA (Z7 .u8 a0) 70)] ++ L) ∧ ev f (.tmp 3) = vI a5) rfl ?_ ?_ K ?_ ?_
 rintro f w ⟨a3, a1, H1, a4, _⟩
 rw [Zb5] at a4; cases a4
 rintro k b8 b9 b5 b6 ⟨a3, a1, b4, a4, Z2, hS, b7, a7, a8, a6⟩
 rw [Zb5] at a4
 refine Z3 (Z3 (Z0 (Z4 (vI a1) (by exact a6) rfl ?_)))
 refine V7 (k := .i64) (a := a1) (b := 8) rfl rfl rfl (Z1 ?_)
 by_cases a9 : a1 < 8
 rw [if_pos a9] at a4
 refine Y0 (bT a9 rfl) (Y7 (Z3 (Y8 (Z0 (Z4 (vI a3) (by exact a8) rfl (Z4 (vI a1) (by exact a6) rfl ?_))))))
 refine V5 Zd3 (by exact a7) rfl (by omega) (by omega) rfl ?_
 refine Y4 (Value.int .u8 (Y5 a0 a1)) ty5 rfl (hS.get (o := cA (Z7 .u8 a0) 70) mL) (M7 ([]) ([]) (by omega) (by omega)) rfl ?_
 refine Yh0 (s := .u8) ((IntKind.i64.wrap (Y5 a0 a1))) Xz2 rfl rfl rfl ?_
 refine W8 (IntKind.i64.wrap (a3 + (IntKind.i64.wrap (Y5 a0 a1)))) rfl rfl rfl rfl (Z5 (vI (IntKind.i64.wrap (a3 + (IntKind.i64.wrap (Y5 a0 a1))))) rfl rfl (Z1 (X2 (Z0 (Z4 (vI a1) (by exact a6) rfl ?_)))))
 refine W8 (a1 + 1) rfl rfl (IntWalk.i64_in _ (by omega)) rfl (Z5 (vI (a1 + 1)) rfl rfl (Z1 ?_))
 exact b5 _ _ ⟨(IntKind.i64.wrap (a3 + (IntKind.i64.wrap (Y5 a0 a1)))), (a1 + 1), b4, a4, Z2, hS, (by omega), a7, rfl, rfl⟩
 rw [if_neg a9] at a4
 refine Z8 (bF a9 rfl) ?_
 refine W4 rfl ?_
 have hz := Option.some.inj a4
 subst hz
 exact b6 _ _ ⟨a3, b4, rfl, Z2, hS, a8⟩
 exact ⟨0, 0, H, a4, Z2, hS, (by omega), rfl, rfl, rfl⟩
 rintro c0 c1 ⟨a5, c2, rfl, Z2, hS, b0⟩
 dsimp only [Ex.elim] at b3
 refine Z3 (Z0 (Z4 (vI a5) (by exact b0) rfl (Z5 (vI a5) rfl rfl (Z1 ?_))))
 refine X0 (vs := [vI a5]) Tryz.func279 ⟨rfl, trivial⟩ ?_
 have hz := Option.some.inj b3
 subst hz
 exact ⟨_, _, rfl, Z2, (St.dropA hS), rfl⟩
def Zw6 (K : Nat) (a0 : MpT) (a1 : Int) : Option Int := (if (IntKind.i64.wrap (a1 - (a0.length : Int))) < 0 then some (-1) else some (IntKind.i64.wrap (a1 - (a0.length : Int))))
theorem Yw5 {K : Nat} {a0 : MpT} {a1 : Int} {r : Int} (q0 : Zw6 K a0 a1 = some r) {H : FH} {w : World} {L : OL} {s0 : Value} (a4 : Y1 yT H s0 a0) (hS : St H w L) :
 Calls Tryz.prog 105 #[s0, vI a1] w (T2 (fun v G => (R.int .i64).p G v r) H L) := by
 have Z2 := Sub.refl H
 refine X3 Tryz.func105 rfl Tryz.ntmps105 rfl ?_
 unfold Zw6 at q0
 refine Z3 (Z0 (Z5 (vI 0) rfl rfl (Z1 (Z3 (Z0 (Z4 (vI a1) rfl rfl (Z4 (s0) rfl rfl ?_)))))))
 have a5 := a4.bound
 refine W7 Wa4 rfl a4 rfl ?_
 refine Yc4 (IntKind.i64.wrap (a1 - (a0.length : Int))) rfl rfl rfl rfl (Z5 (vI (IntKind.i64.wrap (a1 - (a0.length : Int)))) rfl rfl (Z1 (Z3 (Z3 (Z0 (Z4 (vI (IntKind.i64.wrap (a1 - (a0.length : Int)))) rfl rfl ?_))))))
 refine V7 (k := .i64) (a := (IntKind.i64.wrap (a1 - (a0.length : Int)))) (b := 0) rfl rfl rfl (Z1 ?_)
 by_cases a3 : (IntKind.i64.wrap (a1 - (a0.length : Int))) < 0
 rw [if_pos a3] at q0
 refine Y0 (bT a3 rfl) (Z3 (Z0 (Z5 (vI (-1)) rfl rfl (Z1 ?_))))
 refine X0 (vs := [vI (-1)]) Tryz.func105 ⟨rfl, trivial⟩ ?_
 have hz := Option.some.inj q0
 subst hz
 exact ⟨_, _, rfl, Z2, hS, rfl⟩
 rw [if_neg a3] at q0
 refine Z8 (bF a3 rfl) (Y7 (Z3 (Z0 (Z4 (vI (IntKind.i64.wrap (a1 - (a0.length : Int)))) rfl rfl (Z5 (vI (IntKind.i64.wrap (a1 - (a0.length : Int)))) rfl rfl (Z1 ?_))))))
 refine X0 (vs := [vI (IntKind.i64.wrap (a1 - (a0.length : Int)))]) Tryz.func105 ⟨rfl, trivial⟩ ?_
 have hz := Option.some.inj q0
 subst hz
 exact ⟨_, _, rfl, Z2, hS, rfl⟩
def Zt7 (K : Nat) (a0 : Bool) (a1 : Int) : Option Int := (if a0 = true then some a1 else some 0)
theorem Yn0 {K : Nat} {a0 : Bool} {a1 : Int} {r : Int} (q0 : Zt7 K a0 a1 = some r) {H : FH} {w : World} {L : OL} (hS : St H w L) :
 Calls Tryz.prog 86 #[Value.bool a0, vI a1] w (T2 (fun v G => (R.int .i64).p G v r) H L) := by
 have Z2 := Sub.refl H
 refine X3 Tryz.func86 rfl Tryz.ntmps86 rfl ?_
 unfold Zt7 at q0
 refine Z3 (Z0 (Z5 (vI 0) rfl rfl (Z1 (Z3 (Z3 (Z0 (Z4 (Value.bool a0) rfl rfl (Z1 ?_))))))))
 by_cases a3 : a0 = true
 rw [if_pos a3] at q0
 refine Y0 (Eq.trans rfl (congrArg Value.bool a3)) (Z3 (Z0 (Z4 (vI a1) rfl rfl (Z5 (vI a1) rfl rfl (Z1 ?_)))))
 refine X0 (vs := [vI a1]) Tryz.func86 ⟨rfl, trivial⟩ ?_
 have hz := Option.some.inj q0
 subst hz
 exact ⟨_, _, rfl, Z2, hS, rfl⟩
 rw [if_neg a3] at q0
 refine Z8 (Eq.trans rfl (congrArg Value.bool (W1 a3))) (Y7 (Z3 (Z0 (Z5 (vI 0) rfl rfl (Z1 ?_)))))
 refine X0 (vs := [vI 0]) Tryz.func86 ⟨rfl, trivial⟩ ?_
 have hz := Option.some.inj q0
 subst hz
 exact ⟨_, _, rfl, Z2, hS, rfl⟩
def Zk0 (K : Nat) : Option MpT := some (G0 ([] : MpT) (fun _ => 0) 1)
theorem Yh2 {K : Nat} {r : MpT} (q0 : Zk0 K = some r) {H : FH} {w : World} {L : OL} (hS : St H w L) :
 Calls Tryz.prog 207 #[] w (Yp4 .i64 r H L) := by
 have Z2 := Sub.refl H
 refine X3 Tryz.func207 rfl Tryz.ntmps207 rfl ?_
 unfold Zk0 at q0
 refine Z3 (Z0 (Z5 (Value.map none) rfl rfl (Z1 (Z3 (Z0 ?_)))))
 refine Zj4 (k := .i64) hS rfl ?_
 intro m1 w2 C3 a0 hS
 refine Q1 (vA (Z7 .i64 (fun _ => 0))) Xc7 rfl ?_
 refine Yb2 (a := (fun _ => 0)) (m := 1) Zh5 rfl rfl rfl a0 hS ?_
 intro w6 C7 a1 hS
 refine Z4 (m1) rfl rfl (Z5 (m1) rfl rfl (Z1 ?_))
 refine X0 (vs := [m1]) Tryz.func207 ⟨rfl, trivial⟩ ?_
 have hz := Option.some.inj q0
 subst hz
 exact ⟨_, _, _, rfl, Z2, hS, a1⟩
end Go.Proofs.YtfodlhkoafhplaaGreat
