/- Walks of functions: each computes its pure function, if that gives a value. -/
import Derived.Test.YtfodlhkoafhplaaGreatTTy
namespace Go.Proofs.YtfodlhkoafhplaaGreat
open Go
set_option linter.unusedSimpArgs false
set_option linter.unusedVariables false
set_option maxRecDepth 100000
set_option maxHeartbeats 8000000
def I8 (K : Nat) (a0 : A8) (a1 : (List Int)) : Nat → Int → Int → Option (Ex (A8 × Int) (Int))
 | 0, _, _ => none
 | k + 1, b3, a5 => (if a5 < (a1.length : Int) then (if a5 < 8 then I8 K a0 a1 k (IntKind.i64.wrap (b3 + (IntKind.i64.wrap ((((rd a1 a5)).tmod 2) * (Y5 a0 a5))))) (a5 + 1) else none) else some (.go b3))
def B2 (K : Nat) (l1 : Int → Int → Option (Ex (A8 × Int) (Int))) (a0 : A8) (a1 : (List Int)) (a2 : A8) (a3 : Int) (a8 : Int) (b9 : Bool) : Option (Ex (A8 × Int) (Int)) := (if b9 = true then some (.ret ((fun _ => 0), 0)) else (if a3 < 8 then (if 0 < (Y5 a2 a3) then ((I8 K a0 a1 K a8 (a3 + 1)).bind (Ex.elim (fun r => some (.ret r)) (fun s => (fun (d6 : Int) => l1 (a3 + 1) d6) s))) else l1 (a3 + 1) a8) else none))
def L8 (K : Nat) (a2 : A8) : Nat → Int → A8 → Option (Ex (A8 × Int) (A8))
 | 0, _, _ => none
 | k + 1, a4, a6 => (if a4 < 8 then L8 K a2 k (a4 + 1) (S2 a6 a4 (IntKind.i64.wrap ((Y5 a6 a4) + (Y5 a2 a4)))) else some (.go a6))
def S7 (K : Nat) (a0 : A8) (a1 : (List Int)) (a2 : A8) : Nat → Int → Int → Option (Ex (A8 × Int) (Int))
 | 0, _, _ => none
 | k + 1, a3, a8 => (if a3 < (a1.length : Int) then (if (((rd a1 a3)).tmod 2) = 0 then S7 K a0 a1 a2 k (a3 + 1) a8 else (if a3 < 8 then (if 0 < (Y5 a0 a3) then B2 K (S7 K a0 a1 a2 k) a0 a1 a2 a3 a8 (decide (0 < (Y5 a2 a3))) else B2 K (S7 K a0 a1 a2 k) a0 a1 a2 a3 a8 false) else none)) else some (.go a8))
def A0 (K : Nat) (a0 : A8) (a1 : (List Int)) (a2 : A8) : Option (A8 × Int) := ((S7 K a0 a1 a2 K 0 0).bind (Ex.elim (fun r => some r) (fun s => (fun (c0 : Int) => ((L8 K a2 K 0 a0).bind (Ex.elim (fun r => some r) (fun s => (fun (a7 : A8) => (if ((c0).tmod 2) = 1 then some (a7, (-1)) else some (a7, 1))) s)))) s)))
theorem Ym3 {K : Nat} {a0 : A8} {a1 : (List Int)} {a2 : A8} {r : (A8 × Int)} (q0 : A0 K a0 a1 a2 = some r) {H : FH} {w : World} {L : OL} {s0 : Value} (b0 : Z9 (Y6 .i64) H s0 a1) (hS : St H w L) :
 Calls Tryz.prog 224 #[vA (Z7 .i64 a0), s0, vA (Z7 .i64 a2)] w (T3 (fun v G => (R.t2 (R.agg (Zo7 .i64)) (R.int .i64)).p G v r) H L) := by
 have Z2 := Sub.refl H
 refine X6 Tryz.func224 rfl Tryz.ntmps224 rfl ?_
 unfold A0 at q0
 refine Z3 (Z1 ?_)
 refine S4 (v := vA (Z7 .i64 a0)) (Z7 .i64 a0).toArray rfl rfl hS rfl ?_
 intro b1 w2 hS
 refine S4 (v := vA (Z7 .i64 a2)) (Z7 .i64 a2).toArray rfl rfl hS rfl ?_
 intro b4 w5 hS
 refine V0 (z := vA (Z7 .i64 (fun _ => 0))) (Z7 .i64 (fun _ => 0)).toArray Zo4.zero rfl hS rfl ?_
 intro b7 w8 hS
 refine Z5 (vI 0) rfl rfl (Z0 (Z3 (Z1 (Z5 (vI 0) rfl rfl (Z0 (Z3 (Z3 (Z1 (Z4 (s0) rfl rfl ?_)))))))))
 have q9 := b0.bound
 refine W6 Q1 rfl b0 rfl (Z4 (vI 0) rfl rfl (Z0 (Y7 ?_)))
 obtain ⟨g8, a9, f7⟩ := bind_some q0
 refine W7 (id := 0) (fun k f w => ∃ (a3 : Int) (a8 : Int) (H1 : FH), S7 K a0 a1 a2 k a3 a8 = some g8 ∧ Sub H H1 ∧ St H1 w ([(b7, cA (Z7 .i64 (fun _ => 0)) 188)] ++ ([(b4, cA (Z7 .i64 a2) 188)] ++ ([(b1, cA (Z7 .i64 a0) 188)] ++ L))) ∧ 0 ≤ a3 ∧ Z9 (Y6 .i64) H1 s0 a1 ∧ ev f (.tmp 1) = s0 ∧ ev f (.tmp 3) = vP b1 ∧ ev f (.tmp 5) = vP b4 ∧ ev f (.tmp 6) = vP b7 ∧ ev f (.tmp 8) = vI a8 ∧ ev f (.tmp 13) = s0 ∧ ev f (.tmp 14) = vI (a1.length : Int) ∧ ev f (.tmp 15) = vI a3) (fun f w => ∃ (c0 : Int) (H1 : FH), g8 = .go c0 ∧ Sub H H1 ∧ St H1 w ([(b7, cA (Z7 .i64 (fun _ => 0)) 188)] ++ ([(b4, cA (Z7 .i64 a2) 188)] ++ ([(b1, cA (Z7 .i64 a0) 188)] ++ L))) ∧ ev f (.tmp 3) = vP b1 ∧ ev f (.tmp 5) = vP b4 ∧ ev f (.tmp 6) = vP b7 ∧ ev f (.tmp 8) = vI c0) rfl ?_ ?_ K ?_ ?_
 rintro f w ⟨a3, a8, H1, a9, _⟩
 rw [S7] at a9; cases a9
 rintro k r0 r1 i9 n9 ⟨a3, a8, f8, a9, Z2, hS, n6, b0, d7, c3, c4, c8, c9, c5, c6, b5⟩
 rw [S7] at a9
 refine Z3 (Z1 ?_)
 refine U7 (k := .i64) (a := a3) (b := (a1.length : Int)) (by exact b5) (by exact c6) rfl (Z0 (Z3 ?_))
 by_cases f9 : a3 < (a1.length : Int)
 rw [if_pos f9] at a9
 refine Y0 (bT f9 rfl) (Y8 (Z3 (Y7 (Z3 (Z1 (Z4 (vI a3) (by exact b5) rfl ?_))))))
 obtain ⟨z4, z5, r2, z6, _, l3, l4, rfl, l5⟩ := b0.elem (i := a3) (by omega) (by omega)
 refine W2 Q1 rfl (by exact c5) l3 (by exact b5) (by omega) (by omega) rfl ?_
 refine Y3 (vI (rd a1 a3)) ty2 rfl (hS.froz _ _ l4) (l5 0 (show 0 < 1 by decide)) rfl (Z5 (vI a3) rfl rfl (Z5 (vI (rd a1 a3)) rfl rfl (Z0 (Z3 (Z3 (Z1 (Z4 (vI (rd a1 a3)) rfl rfl ?_)))))))
 refine Zi4 (((rd a1 a3)).tmod 2) rfl rfl (by decide) rfl rfl ?_
 refine E4 (k := .i64) (a := (((rd a1 a3)).tmod 2)) (b := 0) rfl rfl rfl (Z0 ?_)
 by_cases g0 : (((rd a1 a3)).tmod 2) = 0
 rw [if_pos g0] at a9
 refine Y0 (bT g0 rfl) ?_
 refine W4 rfl (Z1 ?_)
 refine V1 (a3 + 1) (by exact b5) rfl (IntWalk.i64_in _ (by omega)) rfl (Z4 (vI (a3 + 1)) rfl rfl (Z0 ?_))
 exact i9 _ _ ⟨(a3 + 1), a8, f8, a9, Z2, hS, (by omega), b0, d7, c3, c4, c8, c9, c5, c6, rfl⟩
 rw [if_neg g0] at a9
 refine Z8 (bF g0 rfl) (Y8 (Z3 (Z3 ?_)))
 refine Zc7 (fun f w => ∃ (b9 : Bool) (H1 : FH), B2 K (S7 K a0 a1 a2 k) a0 a1 a2 a3 a8 b9 = some g8 ∧ Sub H H1 ∧ St H1 w ([(b7, cA (Z7 .i64 (fun _ => 0)) 188)] ++ ([(b4, cA (Z7 .i64 a2) 188)] ++ ([(b1, cA (Z7 .i64 a0) 188)] ++ L))) ∧ Z9 (Y6 .i64) H1 s0 a1 ∧ ev f (.tmp 1) = s0 ∧ ev f (.tmp 3) = vP b1 ∧ ev f (.tmp 5) = vP b4 ∧ ev f (.tmp 6) = vP b7 ∧ ev f (.tmp 8) = vI a8 ∧ ev f (.tmp 9) = vI a3 ∧ ev f (.tmp 13) = s0 ∧ ev f (.tmp 14) = vI (a1.length : Int) ∧ ev f (.tmp 15) = vI a3 ∧ ev f (.tmp 32) = Value.bool b9) ?_ ?_
 rintro z7 o6 ⟨b9, h3, b6, Z2, hS, b0, g4, g5, e1, d4, g6, g7, e6, e7, e8, e9⟩
 unfold B2 at b6
 by_cases g1 : b9 = true
 rw [if_pos g1] at b6
 refine Y0 (Eq.trans (by exact e9) (congrArg Value.bool g1)) (Z3 (Z1 ?_))
 refine R4 (vA (Z7 .i64 (fun _ => 0))) Xc2 rfl ?_
 refine W0 (v := vA (Z7 .i64 (fun _ => 0))) (vs := (Z7 .i64 (fun _ => 0)).toArray) (cs := (Z7 .i64 (fun _ => 0)).toArray) L0 (by exact d4) rfl rfl hS rfl (S3 .i64 (fun _ => 0)) rfl ?_
 intro z8 hS
 refine Z5 (vI 0) rfl rfl (Z0 ?_)
 refine X3 (vs := [vA (Z7 .i64 (fun _ => 0)), vI 0]) Tryz.func224 ⟨⟨_, (by exact d4), U1 L0 (hS.get mL) rfl⟩, rfl, trivial⟩ ?_
 have hz := Option.some.inj b6
 subst hz
 dsimp only [Ex.elim] at f7
 have hz := Option.some.inj f7
 subst hz
 exact ⟨_, _, rfl, Z2, (St.dropA (St.dropA (St.dropA hS))), ⟨_, _, rfl, ⟨_, rfl, rfl⟩, rfl⟩⟩
 rw [if_neg g1] at b6
 refine Z8 (Eq.trans (by exact e9) (congrArg Value.bool (W5 g1))) (Y8 (Z3 (Z1 (Z4 (vI a3) (by exact g7) rfl ?_))))
 obtain ⟨r3, b6⟩ := gd b6
 refine V6 Zj9 (by exact e1) rfl (by omega) (by omega) rfl ?_
 refine Y3 (vI (Y5 a2 a3)) ty3 rfl (hS.get (o := cA (Z7 .i64 a2) 188) (mR mL)) (L9 ([]) ([]) (by omega) (by omega)) rfl ?_
 refine Zg6 (k := .i64) (a := (Y5 a2 a3)) (b := 0) rfl rfl rfl (Z0 ?_)
 by_cases g2 : 0 < (Y5 a2 a3)
 rw [if_pos g2] at b6
 refine Y0 (bT g2 rfl) (Z3 (Z1 (Z4 (vI a3) (by exact g7) rfl ?_)))
 refine V1 (a3 + 1) rfl rfl (IntWalk.i64_in _ (by omega)) rfl (Z5 (vI (a3 + 1)) rfl rfl (Z0 (Y7 ?_)))
 obtain ⟨j0, b8, j1⟩ := bind_some b6
 refine W7 (id := 2) (fun k f w => ∃ (b3 : Int) (a5 : Int) (H1 : FH), I8 K a0 a1 k b3 a5 = some j0 ∧ Sub H H1 ∧ St H1 w ([(b7, cA (Z7 .i64 (fun _ => 0)) 188)] ++ ([(b4, cA (Z7 .i64 a2) 188)] ++ ([(b1, cA (Z7 .i64 a0) 188)] ++ L))) ∧ 0 ≤ a5 ∧ Z9 (Y6 .i64) H1 s0 a1 ∧ ev f (.tmp 1) = s0 ∧ ev f (.tmp 3) = vP b1 ∧ ev f (.tmp 5) = vP b4 ∧ ev f (.tmp 6) = vP b7 ∧ ev f (.tmp 8) = vI b3 ∧ ev f (.tmp 11) = vI a5 ∧ ev f (.tmp 13) = s0 ∧ ev f (.tmp 14) = vI (a1.length : Int) ∧ ev f (.tmp 15) = vI a3) (fun f w => ∃ (d6 : Int) (H1 : FH), j0 = .go d6 ∧ Sub H H1 ∧ St H1 w ([(b7, cA (Z7 .i64 (fun _ => 0)) 188)] ++ ([(b4, cA (Z7 .i64 a2) 188)] ++ ([(b1, cA (Z7 .i64 a0) 188)] ++ L))) ∧ Z9 (Y6 .i64) H1 s0 a1 ∧ ev f (.tmp 1) = s0 ∧ ev f (.tmp 3) = vP b1 ∧ ev f (.tmp 5) = vP b4 ∧ ev f (.tmp 6) = vP b7 ∧ ev f (.tmp 8) = vI d6 ∧ ev f (.tmp 13) = s0 ∧ ev f (.tmp 14) = vI (a1.length : Int) ∧ ev f (.tmp 15) = vI a3) rfl ?_ ?_ K ?_ ?_
 rintro f w ⟨b3, a5, H1, b8, _⟩
 rw [I8] at b8; cases b8
 rintro k r4 r5 o0 o1 ⟨b3, a5, l6, b8, Z2, hS, n7, b0, d0, d8, f0, f1, f2, c7, e2, e3, e4⟩
 rw [I8] at b8
 refine Z3 (Z3 (Z1 (Z4 (vI a5) (by exact c7) rfl (Z4 (s0) (by exact d0) rfl ?_))))
 have r6 := b0.bound
 refine W6 Q1 rfl b0 rfl ?_
 refine U7 (k := .i64) (a := a5) (b := (a1.length : Int)) rfl rfl rfl (Z0 ?_)
 by_cases g3 : a5 < (a1.length : Int)
 rw [if_pos g3] at b8
 refine Y0 (bT g3 rfl) (Y8 (Z3 (Y7 ?_)))
 obtain ⟨o2, o3, r7, z9, _, l7, g9, rfl, l9⟩ := b0.elem (i := a5) (by omega) (by omega)
 obtain ⟨r8, b8⟩ := gd b8
 refine U0 11 (Q6 [(46, MP.eq (vI b3)), (47, MP.eq (s0)), (48, MP.eq (vI a5)), (49, MP.eq (Value.pointer (some ⟨o2, o3, none⟩))), (50, MP.eq (vI (rd a1 a5))), (51, MP.eq (vI (((rd a1 a5)).tmod 2))), (52, MP.eq (vI a5)), (53, MP.eq (Value.pointer (some ⟨b1, 0 + (a5).toNat * 1, none⟩))), (54, MP.eq (vI (Y5 a0 a5))), (55, MP.eq (vI (IntKind.i64.wrap ((((rd a1 a5)).tmod 2) * (Y5 a0 a5))))), (56, MP.eq (vI (IntKind.i64.wrap (b3 + (IntKind.i64.wrap ((((rd a1 a5)).tmod 2) * (Y5 a0 a5)))))))]) [] mixed rfl rfl rfl hS (Z6 rfl ?_ (Z6 rfl ?_ (Z6 rfl ?_ (Z6 rfl ?_ (Z6 rfl ?_ (Z6 rfl ?_ (Z6 rfl ?_ (Z6 rfl ?_ (Z6 rfl ?_ (Z6 rfl ?_ (Z6 rfl ?_ U8))))))))))) ?_
 intro f20 w21 H22 X23 r9 hS m0 s1 hcq
 refine Z4 (vI b3) (evT (m0 8 rfl) f2) rfl ?_
 exact qn (.refl _) rfl hS rfl
 intro f29 w30 H31 X32 s2 hS m1 s3 hcq
 refine Z4 (s0) (evT (m1 1 rfl) d0) rfl ?_
 exact qn (.refl _) rfl hS rfl
 intro f38 w39 H40 X41 s4 hS m2 s5 hcq
 refine Z4 (vI a5) (evT (m2 11 rfl) c7) rfl ?_
 exact qn (.refl _) rfl hS rfl
 intro f47 w48 H49 X50 s6 hS s7 j2 hcq
 refine W2 Q1 rfl (eM (j2 1 47 rfl rfl)) l7 (eM (j2 2 48 rfl rfl)) (by omega) (by omega) rfl ?_
 exact qn (.refl _) rfl hS rfl
 intro f58 w59 H60 X61 m3 hS s8 m4 hcq
 have g9 := m3.1 _ _ g9
 refine Y3 (vI (rd a1 a5)) ty2 (eM (m4 3 49 rfl rfl)) (hS.froz _ _ g9) (l9 0 (show 0 < 1 by decide)) rfl ?_
 exact qn (.refl _) rfl hS rfl
 intro f67 w68 H69 X70 s9 hS t0 m5 hcq
 refine Zi4 (((rd a1 a5)).tmod 2) (eM (m5 4 50 rfl rfl)) rfl (by decide) rfl rfl ?_
 exact qn (.refl _) rfl hS rfl
 intro f76 w77 H78 X79 t1 hS m6 t4 hcq
 refine Z4 (vI a5) (evT (m6 11 rfl) c7) rfl ?_
 exact qn (.refl _) rfl hS rfl
 intro f96 w97 H98 X99 o7 hS j6 j7 hcq
 refine V6 Zj9 (evT (j6 3 rfl) d8) (eM (j7 6 52 rfl rfl)) (by omega) (by omega) rfl ?_
 exact qn (.refl _) rfl hS rfl
 intro t5 t6 t7 t8 o8 hS o9 j8 hcq
 refine Y3 (vI (Y5 a0 a5)) ty3 (eM (j8 7 53 rfl rfl)) (hS.get (o := cA (Z7 .i64 a0) 188) (mR (mR (mR mL)))) (L9 ([]) ([]) (by omega) (by omega)) rfl ?_
 exact qn (.refl _) rfl hS rfl
 intro t9 u0 u1 u2 p0 hS p1 h4 hcq
 refine Zp6 (IntKind.i64.wrap ((((rd a1 a5)).tmod 2) * (Y5 a0 a5))) (eM (h4 5 51 rfl rfl)) (eM (h4 8 54 rfl rfl)) rfl rfl ?_
 exact qn (.refl _) rfl hS rfl
 intro u3 u4 u5 u6 p2 hS p3 h5 hcq
 refine V1 (IntKind.i64.wrap (b3 + (IntKind.i64.wrap ((((rd a1 a5)).tmod 2) * (Y5 a0 a5))))) (eM (h5 0 46 rfl rfl)) (eM (h5 9 55 rfl rfl)) rfl rfl ?_
 exact qn (.refl _) rfl hS rfl
 intro u7 m7 j3 h6 hS c1 j9 hcq
 have hS : St j3 m7 ([(b7, cA (Z7 .i64 (fun _ => 0)) 188)] ++ ([(b4, cA (Z7 .i64 a2) 188)] ++ ([(b1, cA (Z7 .i64 a0) 188)] ++ L))) := hS
 have Z2 := Z2.trans h6
 have b0 := b0.mono h6
 refine Z5 (vI (IntKind.i64.wrap (b3 + (IntKind.i64.wrap ((((rd a1 a5)).tmod 2) * (Y5 a0 a5)))))) (by exact (eM (j9 10 56 (by decide) rfl))) rfl (Z0 (X5 (Z1 (Z4 (vI a5) (by exact (evT (c1 11 rfl) c7)) rfl ?_))))
 refine V1 (a5 + 1) rfl rfl (IntWalk.i64_in _ (by omega)) rfl (Z5 (vI (a5 + 1)) rfl rfl (Z0 ?_))
 exact o0 _ _ ⟨(IntKind.i64.wrap (b3 + (IntKind.i64.wrap ((((rd a1 a5)).tmod 2) * (Y5 a0 a5))))), (a5 + 1), j3, b8, Z2, hS, (by omega), b0, (evT (c1 1 rfl) d0), (evT (c1 3 rfl) d8), (evT (c1 5 rfl) f0), (evT (c1 6 rfl) f1), rfl, rfl, (evT (c1 13 rfl) e2), (evT (c1 14 rfl) e3), (evT (c1 15 rfl) e4)⟩
 rw [if_neg g3] at b8
 refine Z8 (bF g3 rfl) ?_
 refine W4 rfl ?_
 have hz := Option.some.inj b8
 subst hz
 exact o1 _ _ ⟨b3, l6, rfl, Z2, hS, b0, d0, d8, f0, f1, f2, e2, e3, e4⟩
 exact ⟨a8, (a3 + 1), h3, b8, Z2, hS, (by omega), b0, g4, g5, e1, d4, g6, rfl, e6, e7, e8⟩
 rintro u8 u9 ⟨d6, m8, rfl, Z2, hS, b0, h9, i0, i1, i2, i3, h0, h1, h2⟩
 dsimp only [Ex.elim] at j1
 refine X5 (Z1 ?_)
 refine V1 (a3 + 1) (by exact h2) rfl (IntWalk.i64_in _ (by omega)) rfl (Z4 (vI (a3 + 1)) rfl rfl (Z0 ?_))
 exact i9 _ _ ⟨(a3 + 1), d6, m8, j1, Z2, hS, (by omega), b0, h9, i0, i1, i2, i3, h0, h1, rfl⟩
 rw [if_neg g2] at b6
 refine Z8 (bF g2 rfl) (Y8 (X5 (Z1 ?_)))
 refine V1 (a3 + 1) (by exact e8) rfl (IntWalk.i64_in _ (by omega)) rfl (Z4 (vI (a3 + 1)) rfl rfl (Z0 ?_))
 exact i9 _ _ ⟨(a3 + 1), a8, h3, b6, Z2, hS, (by omega), b0, g4, g5, e1, d4, g6, e6, e7, rfl⟩
 intro l2
 refine Z1 (Z4 (vI a3) rfl rfl ?_)
 obtain ⟨p4, a9⟩ := gd a9
 refine V6 Zj9 (by exact c3) rfl (by omega) (by omega) rfl ?_
 refine Y3 (vI (Y5 a0 a3)) ty3 rfl (hS.get (o := cA (Z7 .i64 a0) 188) (mR (mR mL))) (L9 ([]) ([]) (by omega) (by omega)) rfl ?_
 refine Zg6 (k := .i64) (a := (Y5 a0 a3)) (b := 0) rfl rfl rfl (Z4 (Value.bool (decide (0 < (Y5 a0 a3)))) rfl rfl ?_)
 by_cases b2 : 0 < (Y5 a0 a3)
 rw [if_pos b2] at a9
 refine Y4 rfl rfl (bT b2 rfl) (Z4 (vI a3) rfl rfl ?_)
 refine Y4 rfl rfl (bT b2 rfl) ?_
 refine V6 Zj9 (by exact c4) rfl (by omega) (by omega) rfl ?_
 refine Y4 rfl rfl (bT b2 rfl) ?_
 refine Y3 (vI (Y5 a2 a3)) ty3 rfl (hS.get (o := cA (Z7 .i64 a2) 188) (mR mL)) (L9 ([]) ([]) (by omega) (by omega)) rfl ?_
 refine Y4 rfl rfl (bT b2 rfl) ?_
 refine Zg6 (k := .i64) (a := (Y5 a2 a3)) (b := 0) rfl rfl rfl ?_
 refine V9 (t := true) (Value.bool (decide (0 < (Y5 a2 a3)))) (bT b2 rfl) ((if_pos rfl).trans rfl) rfl (Z0 ?_)
 exact l2 _ _ ⟨(decide (0 < (Y5 a2 a3))), f8, a9, Z2, hS, b0, d7, c3, c4, c8, c9, rfl, c5, c6, b5, rfl⟩
 rw [if_neg b2] at a9
 refine Y1 rfl rfl (bF b2 rfl) rfl rfl rfl (Y1 rfl rfl (bF b2 rfl) rfl rfl rfl (Y1 rfl rfl (bF b2 rfl) rfl rfl rfl (Y1 rfl rfl (bF b2 rfl) rfl rfl rfl ?_)))
 refine V9 (t := false) (Value.bool false) (bF b2 rfl) ((if_neg Bool.false_ne_true).trans rfl) rfl (Z0 ?_)
 exact l2 _ _ ⟨false, f8, a9, Z2, hS, b0, d7, c3, c4, c8, c9, rfl, c5, c6, b5, rfl⟩
 rw [if_neg f9] at a9
 refine Z8 (bF f9 rfl) ?_
 refine W4 rfl ?_
 have hz := Option.some.inj a9
 subst hz
 exact n9 _ _ ⟨a8, f8, rfl, Z2, hS, c3, c4, c8, c9⟩
 exact ⟨0, 0, H, a9, Z2, hS, (by omega), b0, rfl, rfl, rfl, rfl, rfl, rfl, rfl, rfl⟩
 rintro v0 v1 ⟨c0, m9, rfl, Z2, hS, i4, i5, i6, i7⟩
 dsimp only [Ex.elim] at f7
 refine Z3 (Z3 (Z1 (Z4 (vI 0) rfl rfl (Z0 (Y7 ?_)))))
 obtain ⟨j4, c2, e5⟩ := bind_some f7
 refine W7 (id := 4) (fun k f w => ∃ (a4 : Int) (a6 : A8) (H1 : FH), L8 K a2 k a4 a6 = some j4 ∧ Sub H H1 ∧ St H1 w ([(b7, cA (Z7 .i64 (fun _ => 0)) 188)] ++ ([(b4, cA (Z7 .i64 a2) 188)] ++ ([(b1, cA (Z7 .i64 a6) 188)] ++ L))) ∧ 0 ≤ a4 ∧ ev f (.tmp 3) = vP b1 ∧ ev f (.tmp 5) = vP b4 ∧ ev f (.tmp 6) = vP b7 ∧ ev f (.tmp 8) = vI c0 ∧ ev f (.tmp 58) = vI a4) (fun f w => ∃ (a7 : A8) (H1 : FH), j4 = .go a7 ∧ Sub H H1 ∧ St H1 w ([(b7, cA (Z7 .i64 (fun _ => 0)) 188)] ++ ([(b4, cA (Z7 .i64 a2) 188)] ++ ([(b1, cA (Z7 .i64 a7) 188)] ++ L))) ∧ ev f (.tmp 3) = vP b1 ∧ ev f (.tmp 6) = vP b7 ∧ ev f (.tmp 8) = vI c0) rfl ?_ ?_ K ?_ ?_
 rintro f w ⟨a4, a6, H1, c2, _⟩
 rw [L8] at c2; cases c2
 rintro k v2 v3 o4 o5 ⟨a4, a6, n0, c2, Z2, hS, n8, d1, f3, f4, f5, d3⟩
 rw [L8] at c2
 refine Z3 (Z1 ?_)
 refine U7 (k := .i64) (a := a4) (b := 8) (by exact d3) rfl rfl (Z0 (Z3 ?_))
 by_cases d9 : a4 < 8
 rw [if_pos d9] at c2
 refine Y0 (bT d9 rfl) (Y8 (Z3 (Y7 (Z3 (Z1 (Z4 (vI a4) (by exact d3) rfl (Z5 (vI a4) rfl rfl (Z0 ?_))))))))
 refine U0 8 (Q6 [(61, MP.eq (vI a4)), (62, MP.eq (Value.pointer (some ⟨b1, 0 + (a4).toNat * 1, none⟩))), (63, MP.eq (vI (Y5 a6 a4))), (64, MP.eq (vI a4)), (65, MP.eq (Value.pointer (some ⟨b4, 0 + (a4).toNat * 1, none⟩))), (66, MP.eq (vI (Y5 a2 a4))), (67, MP.eq (vI (IntKind.i64.wrap ((Y5 a6 a4) + (Y5 a2 a4))))), (68, MP.eq (Value.pointer (some ⟨b1, 0 + (a4).toNat * 1, none⟩)))]) [] mixed rfl rfl rfl hS (Z6 rfl ?_ (Z6 rfl ?_ (Z6 rfl ?_ (Z6 rfl ?_ (Z6 rfl ?_ (Z6 rfl ?_ (Z6 rfl ?_ (Z6 rfl ?_ U8)))))))) ?_
 intro n1 v4 v5 v6 p5 hS k0 p6 hcq
 have n2 : ev n1 (.tmp 12) = vI a4 := Eq.trans (k0 12 rfl) rfl
 refine Z4 (vI a4) n2 rfl ?_
 exact qn (.refl _) rfl hS rfl
 intro v7 v8 v9 w0 p7 hS k1 k2 hcq
 refine V6 Zj9 (evT (k1 3 rfl) d1) (eM (k2 0 61 rfl rfl)) (by omega) (by omega) rfl ?_
 exact qn (.refl _) rfl hS rfl
 intro w1 w3 w4 w6 p8 hS p9 k3 hcq
 refine Y3 (vI (Y5 a6 a4)) ty3 (eM (k3 1 62 rfl rfl)) (hS.get (o := cA (Z7 .i64 a6) 188) (mR (mR (mR mL)))) (L9 ([]) ([]) (by omega) (by omega)) rfl ?_
 exact qn (.refl _) rfl hS rfl
 intro n3 w7 w9 x0 q1 hS k4 q2 hcq
 have n4 : ev n3 (.tmp 12) = vI a4 := Eq.trans (k4 12 rfl) rfl
 refine Z4 (vI a4) n4 rfl ?_
 exact qn (.refl _) rfl hS rfl
 intro x1 x2 x3 x4 q3 hS k5 k6 hcq
 refine V6 Zj9 (evT (k5 5 rfl) f3) (eM (k6 3 64 rfl rfl)) (by omega) (by omega) rfl ?_
 exact qn (.refl _) rfl hS rfl
 intro x5 x6 x7 x8 q4 hS q5 k7 hcq
 refine Y3 (vI (Y5 a2 a4)) ty3 (eM (k7 4 65 rfl rfl)) (hS.get (o := cA (Z7 .i64 a2) 188) (mR (mR mL))) (L9 ([]) ([]) (by omega) (by omega)) rfl ?_
 exact qn (.refl _) rfl hS rfl
 intro x9 y0 y1 y2 q6 hS q7 h7 hcq
 refine V1 (IntKind.i64.wrap ((Y5 a6 a4) + (Y5 a2 a4))) (eM (h7 2 63 rfl rfl)) (eM (h7 5 66 rfl rfl)) rfl rfl ?_
 exact qn (.refl _) rfl hS rfl
 intro y3 y4 y5 y6 q8 hS k8 k9 hcq
 refine V6 Zj9 (evT (k8 3 rfl) d1) (eM (k9 0 61 rfl rfl)) (by omega) (by omega) rfl ?_
 exact qn (.refl _) rfl hS rfl
 intro y7 n5 j5 l0 hS d5 h8 hcq
 have hS : St j5 n5 ([(b7, cA (Z7 .i64 (fun _ => 0)) 188)] ++ ([(b4, cA (Z7 .i64 a2) 188)] ++ ([(b1, cA (Z7 .i64 a6) 188)] ++ L))) := hS
 have Z2 := Z2.trans l0
 have hS := hS.perm Q5
 refine Zd8 (v := vI (IntKind.i64.wrap ((Y5 a6 a4) + (Y5 a2 a4)))) (cs := (Z7 .i64 a6).toArray) (cs' := (Z7 .i64 (S2 a6 a4 (IntKind.i64.wrap ((Y5 a6 a4) + (Y5 a2 a4))))).toArray) ty3 (by exact (eM (h8 7 68 (by decide) rfl))) (by exact (eM (h8 6 67 (by decide) rfl))) hS rfl (Zy9 rfl) (by simp [Z7, M6]; omega) (Zg9 (by omega) (by omega)) ?_
 intro y8 hS
 have hS := hS.perm Q5.symm
 refine Z0 (X5 (Z1 ?_))
 refine V1 (a4 + 1) (by exact (evT (d5 58 rfl) d3)) rfl (IntWalk.i64_in _ (by omega)) rfl (Z4 (vI (a4 + 1)) rfl rfl (Z0 ?_))
 exact o4 _ _ ⟨(a4 + 1), (S2 a6 a4 (IntKind.i64.wrap ((Y5 a6 a4) + (Y5 a2 a4)))), j5, c2, Z2, hS, (by omega), (evT (d5 3 rfl) d1), (evT (d5 5 rfl) f3), (evT (d5 6 rfl) f4), (evT (d5 8 rfl) f5), rfl⟩
 rw [if_neg d9] at c2
 refine Z8 (bF d9 rfl) ?_
 refine W4 rfl ?_
 have hz := Option.some.inj c2
 subst hz
 exact o5 _ _ ⟨a6, n0, rfl, Z2, hS, d1, f4, f5⟩
 exact ⟨0, a0, m9, c2, Z2, hS, (by omega), i4, i5, i6, i7, rfl⟩
 rintro y9 z0 ⟨a7, z1, rfl, Z2, hS, f6, d2, i8⟩
 dsimp only [Ex.elim] at e5
 refine Z3 (Z3 (Z1 (Z4 (vI c0) (by exact i8) rfl ?_)))
 refine Zi4 ((c0).tmod 2) rfl rfl (by decide) rfl rfl ?_
 refine E4 (k := .i64) (a := ((c0).tmod 2)) (b := 1) rfl rfl rfl (Z0 ?_)
 by_cases e0 : ((c0).tmod 2) = 1
 rw [if_pos e0] at e5
 refine Y0 (bT e0 rfl) (Z3 (Z1 ?_))
 refine W1 L0 (by exact f6) (hS.get (mR (mR mL))) rfl rfl ?_
 refine W0 (v := vA (Z7 .i64 a7)) (vs := (Z7 .i64 a7).toArray) (cs := (Z7 .i64 (fun _ => 0)).toArray) L0 (by exact d2) rfl rfl hS rfl (S3 .i64 a7) rfl ?_
 intro z2 hS
 refine Z5 (vI (-1)) rfl rfl (Z0 ?_)
 refine X3 (vs := [vA (Z7 .i64 a7), vI (-1)]) Tryz.func224 ⟨⟨_, (by exact d2), U1 L0 (hS.get mL) rfl⟩, rfl, trivial⟩ ?_
 have hz := Option.some.inj e5
 subst hz
 exact ⟨_, _, rfl, Z2, (St.dropA (St.dropA (St.dropA hS))), ⟨_, _, rfl, ⟨_, rfl, rfl⟩, rfl⟩⟩
 rw [if_neg e0] at e5
 refine Z8 (bF e0 rfl) (Y8 (Z3 (Z1 ?_)))
 refine W1 L0 (by exact f6) (hS.get (mR (mR mL))) rfl rfl ?_
 refine W0 (v := vA (Z7 .i64 a7)) (vs := (Z7 .i64 a7).toArray) (cs := (Z7 .i64 (fun _ => 0)).toArray) L0 (by exact d2) rfl rfl hS rfl (S3 .i64 a7) rfl ?_
 intro z3 hS
 refine Z5 (vI 1) rfl rfl (Z0 ?_)
 refine X3 (vs := [vA (Z7 .i64 a7), vI 1]) Tryz.func224 ⟨⟨_, (by exact d2), U1 L0 (hS.get mL) rfl⟩, rfl, trivial⟩ ?_
 have hz := Option.some.inj e5
 subst hz
 exact ⟨_, _, rfl, Z2, (St.dropA (St.dropA (St.dropA hS))), ⟨_, _, rfl, ⟨_, rfl, rfl⟩, rfl⟩⟩
def D9 (K : Nat) (a0 : (List Int)) (a1 : A8) : Nat → Int → Int → Option (Ex Int (Int))
 | 0, _, _ => none
 | k + 1, a4, a3 => (if a3 < (a0.length : Int) then (if a3 < 8 then D9 K a0 a1 k (IntKind.i64.wrap (a4 + (IntKind.i64.wrap ((rd a0 a3) * (IntKind.i64.wrap (Y5 a1 a3)))))) (a3 + 1) else none) else some (.go a4))
def Zc9 (K : Nat) (a0 : (List Int)) (a1 : A8) : Option Int := ((D9 K a0 a1 K 0 0).bind (Ex.elim (fun r => some r) (fun s => (fun (a6 : Int) => some a6) s)))
theorem Zv5 {K : Nat} {a0 : (List Int)} {a1 : A8} {r : Int} (q0 : Zc9 K a0 a1 = some r) {H : FH} {w : World} {L : OL} {s0 : Value} (a9 : Z9 (Y6 .i64) H s0 a0) (hS : St H w L) :
 Calls Tryz.prog 216 #[s0, vA (Z7 .u8 a1)] w (T3 (fun v G => (R.int .i64).p G v r) H L) := by
 have Z2 := Sub.refl H
 refine X6 Tryz.func216 rfl Tryz.ntmps216 rfl ?_
 unfold Zc9 at q0
 refine Z3 (Z1 ?_)
 refine S4 (v := vA (Z7 .u8 a1)) (Z7 .u8 a1).toArray rfl rfl hS rfl ?_
 intro b1 w2 hS
 refine Z5 (vI 0) rfl rfl (Z0 (Z3 (Z1 (Z5 (vI 0) rfl rfl (Z0 (Z3 (Z3 (Z1 (Z5 (vI 0) rfl rfl (Z0 (Y7 ?_)))))))))))
 obtain ⟨c0, a5, c1⟩ := bind_some q0
 refine W7 (id := 0) (fun k f w => ∃ (a4 : Int) (a3 : Int) (H1 : FH), D9 K a0 a1 k a4 a3 = some c0 ∧ Sub H H1 ∧ St H1 w ([(b1, cA (Z7 .u8 a1) 70)] ++ L) ∧ 0 ≤ a3 ∧ Z9 (Y6 .i64) H1 s0 a0 ∧ ev f (.tmp 0) = s0 ∧ ev f (.tmp 3) = vP b1 ∧ ev f (.tmp 5) = vI a4 ∧ ev f (.tmp 6) = vI a3) (fun f w => ∃ (a6 : Int) (H1 : FH), c0 = .go a6 ∧ Sub H H1 ∧ St H1 w ([(b1, cA (Z7 .u8 a1) 70)] ++ L) ∧ ev f (.tmp 5) = vI a6) rfl ?_ ?_ K ?_ ?_
 rintro f w ⟨a4, a3, H1, a5, _⟩
 rw [D9] at a5; cases a5
 rintro k e8 e9 d9 e0 ⟨a4, a3, c5, a5, Z2, hS, e1, a9, a8, b0, b2, a7⟩
 rw [D9] at a5
 refine Z3 (Z3 (Z1 (Z4 (vI a3) (by exact a7) rfl (Z4 (s0) (by exact a8) rfl ?_))))
 have i1 := a9.bound
 refine W6 Q1 rfl a9 rfl ?_
 refine U7 (k := .i64) (a := a3) (b := (a0.length : Int)) rfl rfl rfl (Z0 ?_)
 by_cases b5 : a3 < (a0.length : Int)
 rw [if_pos b5] at a5
 refine Y0 (bT b5 rfl) (Y8 (Z3 (Y7 ?_)))
 obtain ⟨e2, e3, f0, i2, _, c6, b4, rfl, c7⟩ := a9.elem (i := a3) (by omega) (by omega)
 obtain ⟨f1, a5⟩ := gd a5
 refine U0 11 (Q6 [(13, MP.eq (vI a4)), (14, MP.eq (s0)), (15, MP.eq (vI a3)), (16, MP.eq (Value.pointer (some ⟨e2, e3, none⟩))), (17, MP.eq (vI (rd a0 a3))), (18, MP.eq (vI a3)), (19, MP.eq (Value.pointer (some ⟨b1, 0 + (a3).toNat * 1, none⟩))), (20, MP.eq (Value.int .u8 (Y5 a1 a3))), (21, MP.eq (vI (IntKind.i64.wrap (Y5 a1 a3)))), (22, MP.eq (vI (IntKind.i64.wrap ((rd a0 a3) * (IntKind.i64.wrap (Y5 a1 a3)))))), (23, MP.eq (vI (IntKind.i64.wrap (a4 + (IntKind.i64.wrap ((rd a0 a3) * (IntKind.i64.wrap (Y5 a1 a3))))))))]) [] mixed rfl rfl rfl hS (Z6 rfl ?_ (Z6 rfl ?_ (Z6 rfl ?_ (Z6 rfl ?_ (Z6 rfl ?_ (Z6 rfl ?_ (Z6 rfl ?_ (Z6 rfl ?_ (Z6 rfl ?_ (Z6 rfl ?_ (Z6 rfl ?_ U8))))))))))) ?_
 intro f6 w7 H8 X9 f2 hS c8 f3 hcq
 refine Z4 (vI a4) (evT (c8 5 rfl) b2) rfl ?_
 exact qn (.refl _) rfl hS rfl
 intro i3 i4 i5 i6 f4 hS c9 f5 hcq
 refine Z4 (s0) (evT (c9 0 rfl) a8) rfl ?_
 exact qn (.refl _) rfl hS rfl
 intro i7 i8 i9 j0 f7 hS d0 f8 hcq
 refine Z4 (vI a3) (evT (d0 6 rfl) a7) rfl ?_
 exact qn (.refl _) rfl hS rfl
 intro j1 j2 j3 j4 f9 hS g0 c2 hcq
 refine W2 Q1 rfl (eM (c2 1 14 rfl rfl)) c6 (eM (c2 2 15 rfl rfl)) (by omega) (by omega) rfl ?_
 exact qn (.refl _) rfl hS rfl
 intro j5 j6 j7 j8 d1 hS g1 d2 hcq
 have b4 := d1.1 _ _ b4
 refine Y3 (vI (rd a0 a3)) ty2 (eM (d2 3 16 rfl rfl)) (hS.froz _ _ b4) (c7 0 (show 0 < 1 by decide)) rfl ?_
 exact qn (.refl _) rfl hS rfl
 intro j9 k0 k1 k2 g2 hS d3 g3 hcq
 refine Z4 (vI a3) (evT (d3 6 rfl) a7) rfl ?_
 exact qn (.refl _) rfl hS rfl
 intro k3 k4 k5 k6 g4 hS d4 d5 hcq
 refine V6 Zc8 (evT (d4 3 rfl) b0) (eM (d5 5 18 rfl rfl)) (by omega) (by omega) rfl ?_
 exact qn (.refl _) rfl hS rfl
 intro k7 k8 k9 l0 g5 hS g6 d6 hcq
 refine Y3 (Value.int .u8 (Y5 a1 a3)) ty5 (eM (d6 6 19 rfl rfl)) (hS.get (o := cA (Z7 .u8 a1) 70) (mR mL)) (L9 ([]) ([]) (by omega) (by omega)) rfl ?_
 exact qn (.refl _) rfl hS rfl
 intro l1 l2 l3 l4 g7 hS g8 d7 hcq
 refine Ys5 (s := .u8) ((IntKind.i64.wrap (Y5 a1 a3))) Xy4 (eM (d7 7 20 rfl rfl)) rfl rfl ?_
 exact qn (.refl _) rfl hS rfl
 intro g9 h0 h1 h2 e4 hS e5 b6 hcq
 refine Zp6 (IntKind.i64.wrap ((rd a0 a3) * (IntKind.i64.wrap (Y5 a1 a3)))) (eM (b6 4 17 rfl rfl)) (eM (b6 8 21 rfl rfl)) rfl rfl ?_
 exact qn (.refl _) rfl hS rfl
 intro h3 h4 h5 h6 e6 hS e7 b7 hcq
 refine V1 (IntKind.i64.wrap (a4 + (IntKind.i64.wrap ((rd a0 a3) * (IntKind.i64.wrap (Y5 a1 a3)))))) (eM (b7 0 13 rfl rfl)) (eM (b7 9 22 rfl rfl)) rfl rfl ?_
 exact qn (.refl _) rfl hS rfl
 intro h7 d8 c3 b8 hS b3 c4 hcq
 have hS : St c3 d8 ([(b1, cA (Z7 .u8 a1) 70)] ++ L) := hS
 have Z2 := Z2.trans b8
 have a9 := a9.mono b8
 refine Z5 (vI (IntKind.i64.wrap (a4 + (IntKind.i64.wrap ((rd a0 a3) * (IntKind.i64.wrap (Y5 a1 a3))))))) (by exact (eM (c4 10 23 (by decide) rfl))) rfl (Z0 (X5 (Z1 (Z4 (vI a3) (by exact (evT (b3 6 rfl) a7)) rfl ?_))))
 refine V1 (a3 + 1) rfl rfl (IntWalk.i64_in _ (by omega)) rfl (Z5 (vI (a3 + 1)) rfl rfl (Z0 ?_))
 exact d9 _ _ ⟨(IntKind.i64.wrap (a4 + (IntKind.i64.wrap ((rd a0 a3) * (IntKind.i64.wrap (Y5 a1 a3)))))), (a3 + 1), c3, a5, Z2, hS, (by omega), a9, (evT (b3 0 rfl) a8), (evT (b3 3 rfl) b0), rfl, rfl⟩
 rw [if_neg b5] at a5
 refine Z8 (bF b5 rfl) ?_
 refine W4 rfl ?_
 have hz := Option.some.inj a5
 subst hz
 exact e0 _ _ ⟨a4, c5, rfl, Z2, hS, b2⟩
 exact ⟨0, 0, H, a5, Z2, hS, (by omega), a9, rfl, rfl, rfl, rfl⟩
 rintro h8 h9 ⟨a6, i0, rfl, Z2, hS, b9⟩
 dsimp only [Ex.elim] at c1
 refine Z3 (Z1 (Z4 (vI a6) (by exact b9) rfl (Z5 (vI a6) rfl rfl (Z0 ?_))))
 refine X3 (vs := [vI a6]) Tryz.func216 ⟨rfl, trivial⟩ ?_
 have hz := Option.some.inj c1
 subst hz
 exact ⟨_, _, rfl, Z2, (St.dropA hS), rfl⟩
def Zh3 (K : Nat) (c3 : Int → Int → Int → Option (Ex Int (Int))) (a1 : Int) (a3 : Int) (a6 : Int) : Option (Ex Int (Int)) := c3 a6 (((IntKind.i64.wrap (a1 * a1))).tmod 10007) (IntKind.i64.wrap ((a3).tdiv 2))
def N3 (K : Nat) : Nat → Int → Int → Int → Option (Ex Int (Int))
 | 0, _, _, _ => none
 | k + 1, a4, a1, a3 => (if 0 < a3 then (if ((a3).tmod 2) = 1 then Zh3 K (N3 K k) a1 a3 (((IntKind.i64.wrap (a4 * a1))).tmod 10007) else Zh3 K (N3 K k) a1 a3 a4) else some (.go a4))
def Zm4 (K : Nat) (a0 : Int) : Option Int := ((N3 K K 1 a0 10005).bind (Ex.elim (fun r => some r) (fun s => (fun (a7 : Int) => some a7) s)))
theorem Yo8 {K : Nat} {a0 : Int} {r : Int} (q0 : Zm4 K a0 = some r) {H : FH} {w : World} {L : OL} (hS : St H w L) :
 Calls Tryz.prog 149 #[vI a0] w (T3 (fun v G => (R.int .i64).p G v r) H L) := by
 have Z2 := Sub.refl H
 refine X6 Tryz.func149 rfl Tryz.ntmps149 rfl ?_
 unfold Zm4 at q0
 refine Z3 (Z1 (Z5 (vI 0) rfl rfl (Z0 (Z3 (Z1 (Z4 (vI a0) rfl rfl (Z5 (vI 1) rfl rfl (Z5 (vI a0) rfl rfl (Z0 (Z3 (Z3 (Z1 (Z5 (vI 10005) rfl rfl (Z0 (Y7 ?_)))))))))))))))
 obtain ⟨b2, a5, b8⟩ := bind_some q0
 refine W7 (id := 0) (fun k f w => ∃ (a4 : Int) (a1 : Int) (a3 : Int) (H1 : FH), N3 K k a4 a1 a3 = some b2 ∧ Sub H H1 ∧ St H1 w (L) ∧ ev f (.tmp 3) = vI a4 ∧ ev f (.tmp 4) = vI a1 ∧ ev f (.tmp 5) = vI a3) (fun f w => ∃ (a7 : Int) (H1 : FH), b2 = .go a7 ∧ Sub H H1 ∧ St H1 w (L) ∧ ev f (.tmp 3) = vI a7) rfl ?_ ?_ K ?_ ?_
 rintro f w ⟨a4, a1, a3, H1, a5, _⟩
 rw [N3] at a5; cases a5
 rintro k c7 c8 c4 c5 ⟨a4, a1, a3, b3, a5, Z2, hS, a9, b0, a8⟩
 rw [N3] at a5
 refine Z3 (Z3 (Z1 (Z4 (vI a3) (by exact a8) rfl ?_)))
 refine Zg6 (k := .i64) (a := a3) (b := 0) rfl rfl rfl (Z0 ?_)
 by_cases b4 : 0 < a3
 rw [if_pos b4] at a5
 refine Y0 (bT b4 rfl) (Y8 (Z3 (Y7 (Z3 (Z3 (Z1 (Z4 (vI a3) (by exact a8) rfl ?_)))))))
 refine Zi4 ((a3).tmod 2) rfl rfl (by decide) rfl rfl ?_
 refine E4 (k := .i64) (a := ((a3).tmod 2)) (b := 1) rfl rfl rfl (Z0 ?_)
 refine Zc7 (fun f w => ∃ (a6 : Int) (H1 : FH), Zh3 K (N3 K k) a1 a3 a6 = some b2 ∧ Sub H H1 ∧ St H1 w (L) ∧ ev f (.tmp 3) = vI a6 ∧ ev f (.tmp 4) = vI a1 ∧ ev f (.tmp 5) = vI a3) ?_ ?_
 rintro d2 c6 ⟨a6, c1, b5, Z2, hS, b9, b1, c0⟩
 unfold Zh3 at b5
 refine Z1 (Z4 (vI a1) (by exact b1) rfl (Z4 (vI a1) (by exact b1) rfl ?_))
 refine Zp6 (IntKind.i64.wrap (a1 * a1)) rfl rfl rfl rfl ?_
 refine Zi4 (((IntKind.i64.wrap (a1 * a1))).tmod 10007) rfl rfl (by decide) rfl rfl (Z5 (vI (((IntKind.i64.wrap (a1 * a1))).tmod 10007)) rfl rfl (Z0 (X5 (Z1 (Z4 (vI a3) (by exact c0) rfl ?_)))))
 refine Wn8 (IntKind.i64.wrap ((a3).tdiv 2)) rfl rfl (by decide) rfl rfl (Z5 (vI (IntKind.i64.wrap ((a3).tdiv 2))) rfl rfl (Z0 ?_))
 exact c4 _ _ ⟨a6, (((IntKind.i64.wrap (a1 * a1))).tmod 10007), (IntKind.i64.wrap ((a3).tdiv 2)), c1, b5, Z2, hS, b9, rfl, rfl⟩
 intro c2
 by_cases b6 : ((a3).tmod 2) = 1
 rw [if_pos b6] at a5
 refine Y0 (bT b6 rfl) (Z1 (Z4 (vI a4) (by exact a9) rfl (Z4 (vI a1) (by exact b0) rfl ?_)))
 refine Zp6 (IntKind.i64.wrap (a4 * a1)) rfl rfl rfl rfl ?_
 refine Zi4 (((IntKind.i64.wrap (a4 * a1))).tmod 10007) rfl rfl (by decide) rfl rfl (Z5 (vI (((IntKind.i64.wrap (a4 * a1))).tmod 10007)) rfl rfl (Z0 ?_))
 exact c2 _ _ ⟨(((IntKind.i64.wrap (a4 * a1))).tmod 10007), b3, a5, Z2, hS, rfl, b0, a8⟩
 rw [if_neg b6] at a5
 refine Z8 (bF b6 rfl) (Y8 ?_)
 exact c2 _ _ ⟨a4, b3, a5, Z2, hS, a9, b0, a8⟩
 rw [if_neg b4] at a5
 refine Z8 (bF b4 rfl) ?_
 refine W4 rfl ?_
 have hz := Option.some.inj a5
 subst hz
 exact c5 _ _ ⟨a4, b3, rfl, Z2, hS, a9⟩
 exact ⟨1, a0, 10005, H, a5, Z2, hS, rfl, rfl, rfl⟩
 rintro c9 d0 ⟨a7, d1, rfl, Z2, hS, b7⟩
 dsimp only [Ex.elim] at b8
 refine Z3 (Z1 (Z4 (vI a7) (by exact b7) rfl (Z5 (vI a7) rfl rfl (Z0 ?_))))
 refine X3 (vs := [vI a7]) Tryz.func149 ⟨rfl, trivial⟩ ?_
 have hz := Option.some.inj b8
 subst hz
 exact ⟨_, _, rfl, Z2, hS, rfl⟩
def V4 (K : Nat) (a0 : (List MpT)) (a1 : (MpT → Option Bool)) : Nat → Int → Option (Ex Int (Unit))
 | 0, _ => none
 | k + 1, a3 => (if a3 < (a0.length : Int) then ((a1 (rd a0 a3)).bind fun r4 => (if r4 = true then some (.ret a3) else V4 K a0 a1 k (a3 + 1))) else some (.go ()))
def J9 (K : Nat) (a0 : (List MpT)) (a1 : (MpT → Option Bool)) : Option Int := ((V4 K a0 a1 K 0).bind (Ex.elim (fun r => some r) (fun s => some (-1))))
theorem Zs6 {K : Nat} {a0 : (List MpT)} {a1 : (MpT → Option Bool)} {r : Int} (q0 : J9 K a0 a1 = some r) {H : FH} {w : World} {L : OL} {s0 : Value} {s1 : Value} (a6 : Z9 (Y9 yT) H s0 a0) (a7 : FnQ Tryz.prog s1 (R.agg (Y9 yT)) a1 H) (hS : St H w L) :
 Calls Tryz.prog 222 #[s0, s1] w (T3 (fun v G => (R.int .i64).p G v r) H L) := by
 have Z2 := Sub.refl H
 refine X6 Tryz.func222 rfl Tryz.ntmps222 rfl ?_
 unfold J9 at q0
 refine Z3 (Z1 (Z5 (vI 0) rfl rfl (Z0 (Z3 (Z3 (Z1 (Z4 (s0) rfl rfl ?_)))))))
 have d2 := a6.bound
 refine W6 N1 rfl a6 rfl (Z4 (vI 0) rfl rfl (Z0 (Y7 ?_)))
 obtain ⟨b5, a4, b1⟩ := bind_some q0
 refine W7 (id := 0) (fun k f w => ∃ (a3 : Int) (H1 : FH), V4 K a0 a1 k a3 = some b5 ∧ Sub H H1 ∧ St H1 w (L) ∧ 0 ≤ a3 ∧ Z9 (Y9 yT) H1 s0 a0 ∧ FnQ Tryz.prog s1 (R.agg (Y9 yT)) a1 H1 ∧ ev f (.tmp 0) = s0 ∧ ev f (.tmp 1) = s1 ∧ ev f (.tmp 7) = vI (a0.length : Int) ∧ ev f (.tmp 8) = vI a3) (fun f w => ∃ (H1 : FH), b5 = .go () ∧ Sub H H1 ∧ St H1 w (L)) rfl ?_ ?_ K ?_ ?_
 rintro f w ⟨a3, H1, a4, _⟩
 rw [V4] at a4; cases a4
 rintro k c7 c8 c0 c1 ⟨a3, b8, a4, Z2, hS, c2, a6, a7, a8, a9, b0, a5⟩
 rw [V4] at a4
 refine Z3 (Z1 ?_)
 refine U7 (k := .i64) (a := a3) (b := (a0.length : Int)) (by exact a5) (by exact b0) rfl (Z0 (Z3 ?_))
 by_cases b2 : a3 < (a0.length : Int)
 rw [if_pos b2] at a4
 refine Y0 (bT b2 rfl) (Y8 (Z3 (Y7 (Z3 (Z1 (Z4 (vI a3) (by exact a5) rfl (Z5 (vI a3) rfl rfl (Z0 (Z3 (Z1 (Z4 (s1) (by exact a9) rfl (Z4 (s0) (by exact a8) rfl (Z4 (vI a3) rfl rfl ?_)))))))))))))
 obtain ⟨b3, o3, d3, E3, _, c3, c4, ⟨b9, rfl, b7⟩, c5⟩ := a6.elem (i := a3) (by omega) (by omega)
 refine W2 N1 rfl rfl c3 rfl (by omega) (by omega) rfl ?_
 refine V2 ([b9]) U3 rfl (hS.froz _ _ c4) rfl c5 rfl ?_
 obtain ⟨r4, c6, a4⟩ := bind_some a4
 refine Xw0 a7 rfl rfl hS ⟨_, rfl, ⟨_, rfl, b7⟩⟩ c6 rfl ?_
 intro H4 w5 b6 hS
 have Z2 := Z2.trans b6
 have a6 := a6.mono b6
 have a7 := a7.mono b6
 refine Z0 ?_
 by_cases b4 : r4 = true
 rw [if_pos b4] at a4
 refine Y0 (Eq.trans rfl (congrArg Value.bool b4)) (Z3 (Z1 (Z4 (vI a3) rfl rfl (Z5 (vI a3) rfl rfl (Z0 ?_)))))
 refine X3 (vs := [vI a3]) Tryz.func222 ⟨rfl, trivial⟩ ?_
 have hz := Option.some.inj a4
 subst hz
 dsimp only [Ex.elim] at b1
 have hz := Option.some.inj b1
 subst hz
 exact ⟨_, _, rfl, Z2, hS, rfl⟩
 rw [if_neg b4] at a4
 refine Z8 (Eq.trans rfl (congrArg Value.bool (W5 b4))) (Y8 (X5 (Z1 ?_)))
 refine V1 (a3 + 1) (by exact a5) rfl (IntWalk.i64_in _ (by omega)) rfl (Z4 (vI (a3 + 1)) rfl rfl (Z0 ?_))
 exact c0 _ _ ⟨(a3 + 1), H4, a4, Z2, hS, (by omega), a6, a7, a8, a9, b0, rfl⟩
 rw [if_neg b2] at a4
 refine Z8 (bF b2 rfl) ?_
 refine W4 rfl ?_
 have hz := Option.some.inj a4
 subst hz
 exact c1 _ _ ⟨b8, rfl, Z2, hS⟩
 exact ⟨0, H, a4, Z2, hS, (by omega), a6, a7, rfl, rfl, rfl, rfl⟩
 rintro c9 d0 ⟨d1, rfl, Z2, hS⟩
 dsimp only [Ex.elim] at b1
 refine Z3 (Z1 (Z5 (vI (-1)) rfl rfl (Z0 ?_)))
 refine X3 (vs := [vI (-1)]) Tryz.func222 ⟨rfl, trivial⟩ ?_
 have hz := Option.some.inj b1
 subst hz
 exact ⟨_, _, rfl, Z2, hS, rfl⟩
def Zb7 (K : Nat) (a0 : A8) : Nat → Int → Int → Option (Ex Int (Int))
 | 0, _, _ => none
 | k + 1, a3, a1 => (if a1 < 8 then Zb7 K a0 k (IntKind.i64.wrap (a3 + (IntKind.i64.wrap (Y5 a0 a1)))) (a1 + 1) else some (.go a3))
def Zs8 (K : Nat) (a0 : A8) : Option Int := ((Zb7 K a0 K 0 0).bind (Ex.elim (fun r => some r) (fun s => (fun (a5 : Int) => some a5) s)))
theorem Yx2 {K : Nat} {a0 : A8} {r : Int} (q0 : Zs8 K a0 = some r) {H : FH} {w : World} {L : OL} (hS : St H w L) :
 Calls Tryz.prog 279 #[vA (Z7 .u8 a0)] w (T3 (fun v G => (R.int .i64).p G v r) H L) := by
 have Z2 := Sub.refl H
 refine X6 Tryz.func279 rfl Tryz.ntmps279 rfl ?_
 unfold Zs8 at q0
 refine Z3 (Z1 ?_)
 refine S4 (v := vA (Z7 .u8 a0)) (Z7 .u8 a0).toArray rfl rfl hS rfl ?_
 intro b1 w2 hS
 refine Z5 (vI 0) rfl rfl (Z0 (Z3 (Z1 (Z5 (vI 0) rfl rfl (Z0 (Z3 (Z3 (Z1 (Z5 (vI 0) rfl rfl (Z0 (Y7 ?_)))))))))))
 obtain ⟨b2, a4, b3⟩ := bind_some q0
 refine W7 (id := 0) (fun k f w => ∃ (a3 : Int) (a1 : Int) (H1 : FH), Zb7 K a0 k a3 a1 = some b2 ∧ Sub H H1 ∧ St H1 w ([(b1, cA (Z7 .u8 a0) 70)] ++ L) ∧ 0 ≤ a1 ∧ ev f (.tmp 1) = vP b1 ∧ ev f (.tmp 3) = vI a3 ∧ ev f (.tmp 4) = vI a1) (fun f w => ∃ (a5 : Int) (H1 : FH), b2 = .go a5 ∧ Sub H H1 ∧ St H1 w ([(b1, cA (Z7 .u8 a0) 70)] ++ L) ∧ ev f (.tmp 3) = vI a5) rfl ?_ ?_ K ?_ ?_
 rintro f w ⟨a3, a1, H1, a4, _⟩
 rw [Zb7] at a4; cases a4
 rintro k b8 b9 b5 b6 ⟨a3, a1, b4, a4, Z2, hS, b7, a7, a8, a6⟩
 rw [Zb7] at a4
 refine Z3 (Z3 (Z1 (Z4 (vI a1) (by exact a6) rfl ?_)))
 refine U7 (k := .i64) (a := a1) (b := 8) rfl rfl rfl (Z0 ?_)
 by_cases a9 : a1 < 8
 rw [if_pos a9] at a4
 refine Y0 (bT a9 rfl) (Y8 (Z3 (Y7 (Z1 (Z4 (vI a3) (by exact a8) rfl (Z4 (vI a1) (by exact a6) rfl ?_))))))
 refine V6 Zc8 (by exact a7) rfl (by omega) (by omega) rfl ?_
 refine Y3 (Value.int .u8 (Y5 a0 a1)) ty5 rfl (hS.get (o := cA (Z7 .u8 a0) 70) mL) (L9 ([]) ([]) (by omega) (by omega)) rfl ?_
 refine Ys5 (s := .u8) ((IntKind.i64.wrap (Y5 a0 a1))) Xy4 rfl rfl rfl ?_
 refine V1 (IntKind.i64.wrap (a3 + (IntKind.i64.wrap (Y5 a0 a1)))) rfl rfl rfl rfl (Z5 (vI (IntKind.i64.wrap (a3 + (IntKind.i64.wrap (Y5 a0 a1))))) rfl rfl (Z0 (X5 (Z1 (Z4 (vI a1) (by exact a6) rfl ?_)))))
 refine V1 (a1 + 1) rfl rfl (IntWalk.i64_in _ (by omega)) rfl (Z5 (vI (a1 + 1)) rfl rfl (Z0 ?_))
 exact b5 _ _ ⟨(IntKind.i64.wrap (a3 + (IntKind.i64.wrap (Y5 a0 a1)))), (a1 + 1), b4, a4, Z2, hS, (by omega), a7, rfl, rfl⟩
 rw [if_neg a9] at a4
 refine Z8 (bF a9 rfl) ?_
 refine W4 rfl ?_
 have hz := Option.some.inj a4
 subst hz
 exact b6 _ _ ⟨a3, b4, rfl, Z2, hS, a8⟩
 exact ⟨0, 0, H, a4, Z2, hS, (by omega), rfl, rfl, rfl⟩
 rintro c0 c1 ⟨a5, c2, rfl, Z2, hS, b0⟩
 dsimp only [Ex.elim] at b3
 refine Z3 (Z1 (Z4 (vI a5) (by exact b0) rfl (Z5 (vI a5) rfl rfl (Z0 ?_))))
 refine X3 (vs := [vI a5]) Tryz.func279 ⟨rfl, trivial⟩ ?_
 have hz := Option.some.inj b3
 subst hz
 exact ⟨_, _, rfl, Z2, (St.dropA hS), rfl⟩
-- 
def Ze6 (K : Nat) (a0 : (List Int)) : Option (List Int) := (if ([] : List Int).length + a0.length ≤ 1099511627776 then some (([] : List Int) ++ a0) else none)
theorem Yb1 {K : Nat} {a0 : (List Int)} {r : (List Int)} (q0 : Ze6 K a0 = some r) {H : FH} {w : World} {L : OL} {s0 : Value} (hs0 : Z9 (Y6 .i64) H s0 a0) (hS : St H w L) :
    Calls Tryz.prog 237 #[s0] w (T3 (fun v G => (R.sl (Y6 .i64)).p (G.new H) v r) H L) := by
  have Z2 := Sub.refl H
  refine X6 Tryz.func237 rfl Tryz.ntmps237 rfl ?_
  unfold Ze6 at q0
  refine Z3 ?_
  refine Z1 ?_
  refine Z5 (Value.slice none 0 0) rfl rfl ?_
  refine Z0 ?_
  refine Z3 ?_
  refine Z3 ?_
  refine Z1 ?_
  refine Z4 (s0) rfl rfl ?_
  obtain ⟨ad, cu, ⟨hv0, hl0⟩, hx0⟩ := id hs0
  cases ad with
  | none =>
    have ha : a0 = [] := by
      rcases hx0 with h | ⟨b2, o2, cs2, E2, h, _⟩
      · exact h
      · cases h
    refine Xr1 Q1 hv0 rfl rfl ?_
    refine Z0 ?_
    refine Y0 rfl ?_
    refine Z3 ?_
    refine Z1 ?_
    refine Z5 (Value.slice none 0 0) rfl rfl ?_
    refine Z0 ?_
    refine X3 (vs := [Value.slice none 0 0]) Tryz.func237 ⟨rfl, trivial⟩ ?_
    subst ha
    rw [if_pos (by decide)] at q0
    have hz := Option.some.inj q0
    subst hz
    exact ⟨_, _, rfl, Z2, hS, Z9.nil⟩
  | some p =>
  refine Xr1 Q1 hv0 rfl rfl ?_
  refine Z0 ?_
  refine Z8 rfl ?_
  refine Y8 ?_
  refine Z3 ?_
  refine Z1 ?_
  refine Zn2 (τ := (Y6 .i64)) Q1 ze2 rfl hS rfl ?_
  intro u1 w2 C3 ho4 hS
  have hS : St H w2 (C3 ++ L) := hS
  refine Z4 (s0) rfl rfl ?_
  by_cases hg6 : ([] : List Int).length + a0.length ≤ 1099511627776
  case neg => rw [if_neg hg6] at q0; cases q0
  rw [if_pos hg6] at q0
  refine P5 (τ := (Y6 .i64)) Xb7 rfl rfl rfl ho4 hS hs0 hg6 rfl ?_
  intro u7 w8 C9 ho10 hS
  have hS : St H w8 (C9 ++ L) := hS
  refine Z5 (u7) rfl rfl ?_
  refine Z0 ?_
  refine X3 (vs := [u7]) Tryz.func237 ⟨rfl, trivial⟩ ?_
  obtain ⟨H11, sb12, hS, hF14⟩ := W3.freezeF (τ := (Y6 .i64)) (H0 := H) ho10 hS Z2
  have hf13 := Z9.old hF14
  have hF14 : RdF (Y6 .i64) H H11 u7 (([] : List Int) ++ a0) := hF14
  have Z2 := Z2.trans sb12
  have hz := Option.some.inj q0
  subst hz
  exact ⟨_, _, rfl, Z2, hS, hF14⟩
def Zp2 (K : Nat) (a0 : Int) (a1 : Int) (a2 : Int) : Option Bool := (if a1 ≤ a0 then some (decide (a0 ≤ a2)) else some false)
theorem Yi9 {K : Nat} {a0 : Int} {a1 : Int} {a2 : Int} {r : Bool} (q0 : Zp2 K a0 a1 a2 = some r) {H : FH} {w : World} {L : OL} (hS : St H w L) :
 Calls Tryz.prog 97 #[vI a0, vI a1, vI a2] w (T3 (fun v G => R.bool.p G v r) H L) := by
 have Z2 := Sub.refl H
 refine X6 Tryz.func97 rfl Tryz.ntmps97 rfl ?_
 unfold Zp2 at q0
 refine Z3 (Z1 (Z5 (Value.bool false) rfl rfl (Z0 (Z3 (Z1 (Z4 (vI a0) rfl rfl (Z4 (vI a1) rfl rfl ?_)))))))
 refine Yc7 (k := .i64) (a := a0) (b := a1) rfl rfl rfl (Z4 (Value.bool (decide (a1 ≤ a0))) rfl rfl ?_)
 by_cases a3 : a1 ≤ a0
 rw [if_pos a3] at q0
 refine Y4 rfl rfl (bT a3 rfl) (Z4 (vI a0) rfl rfl ?_)
 refine Y4 rfl rfl (bT a3 rfl) (Z4 (vI a2) rfl rfl ?_)
 refine Y4 rfl rfl (bT a3 rfl) ?_
 refine Yw4 (k := .i64) (a := a0) (b := a2) rfl rfl rfl ?_
 refine V9 (t := true) (Value.bool (decide (a0 ≤ a2))) (bT a3 rfl) ((if_pos rfl).trans rfl) rfl (Z5 (Value.bool (decide (a0 ≤ a2))) rfl rfl (Z0 ?_))
 refine X3 (vs := [Value.bool (decide (a0 ≤ a2))]) Tryz.func97 ⟨rfl, trivial⟩ ?_
 have hz := Option.some.inj q0
 subst hz
 exact ⟨_, _, rfl, Z2, hS, rfl⟩
 rw [if_neg a3] at q0
 refine Y1 rfl rfl (bF a3 rfl) rfl rfl rfl (Y1 rfl rfl (bF a3 rfl) rfl rfl rfl (Y1 rfl rfl (bF a3 rfl) rfl rfl rfl ?_))
 refine V9 (t := false) (Value.bool false) (bF a3 rfl) ((if_neg Bool.false_ne_true).trans rfl) rfl (Z5 (Value.bool false) rfl rfl (Z0 ?_))
 refine X3 (vs := [Value.bool false]) Tryz.func97 ⟨rfl, trivial⟩ ?_
 have hz := Option.some.inj q0
 subst hz
 exact ⟨_, _, rfl, Z2, hS, rfl⟩
def Zl0 (K : Nat) : Option MpT := some (I9 ([] : MpT) (fun _ => 0) 1)
theorem Yj3 {K : Nat} {r : MpT} (q0 : Zl0 K = some r) {H : FH} {w : World} {L : OL} (hS : St H w L) :
 Calls Tryz.prog 207 #[] w (Yr2 .i64 r H L) := by
 have Z2 := Sub.refl H
 refine X6 Tryz.func207 rfl Tryz.ntmps207 rfl ?_
 unfold Zl0 at q0
 refine Z3 (Z1 (Z5 (Value.map none) rfl rfl (Z0 (Z3 (Z1 ?_)))))
 refine Zi0 (k := .i64) hS rfl ?_
 intro m1 w2 C3 a0 hS
 refine R4 (vA (Z7 .i64 (fun _ => 0))) Xc2 rfl ?_
 refine Zz0 (a := (fun _ => 0)) (m := 1) Zg8 rfl rfl rfl a0 hS ?_
 intro w6 C7 a1 hS
 refine Z4 (m1) rfl rfl (Z5 (m1) rfl rfl (Z0 ?_))
 refine X3 (vs := [m1]) Tryz.func207 ⟨rfl, trivial⟩ ?_
 have hz := Option.some.inj q0
 subst hz
 exact ⟨_, _, _, rfl, Z2, hS, a1⟩
end Go.Proofs.YtfodlhkoafhplaaGreat
