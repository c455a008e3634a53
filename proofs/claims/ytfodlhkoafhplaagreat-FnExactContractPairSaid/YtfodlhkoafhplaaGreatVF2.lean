/- Walks of functions: each computes its pure function, if that gives a value. -/
import Derived.Test.YtfodlhkoafhplaaGreatVTy
namespace Go.Proofs.YtfodlhkoafhplaaGreat
open Go
set_option linter.unusedSimpArgs false
set_option linter.unusedVariables false
set_option maxRecDepth 100000
set_option maxHeartbeats 8000000
def Zc8 (K : Nat) (g9 : Int → Int → Option (Ex (A8 × Int) (Int))) (a4 : Int) (a6 : Int) (b5 : Bool) : Option (Ex (A8 × Int) (Int)) := (if b5 = true then g9 (IntKind.i64.wrap (0 - a6)) (IntKind.i64.wrap (a4 + 1)) else g9 a6 (IntKind.i64.wrap (a4 + 1)))
def A0 (K : Nat) (g9 : Int → Int → Option (Ex (A8 × Int) (Int))) (a0 : (List Int)) (a1 : A8) (a4 : Int) (a6 : Int) (b6 : Bool) : Option (Ex (A8 × Int) (Int)) := (if b6 = true then (if 0 ≤ a4 then (if a4 < (a0.length : Int) then (if (((rd a0 a4)).tmod 2) = 0 then Zc8 K (g9) a4 a6 false else (if a4 < 8 then Zc8 K (g9) a4 a6 (decide ((Y5 a1 a4) = 1)) else none)) else none) else none) else some (.go a6))
def R3 (K : Nat) (a0 : (List Int)) (a1 : A8) (a2 : A8) (a3 : Int) : Nat → Int → Int → Option (Ex (A8 × Int) (Int))
 | 0, _, _ => none
 | k + 1, a6, a4 => (if a4 < (a0.length : Int) then A0 K (R3 K a0 a1 a2 a3 k) a0 a1 a4 a6 (decide ((Y5 a2 a3) = 1)) else A0 K (R3 K a0 a1 a2 a3 k) a0 a1 a4 a6 false)
def R9 (K : Nat) (a0 : (List Int)) (a1 : A8) (a2 : A8) : Nat → Int → A8 → Int → Option (Ex (A8 × Int) (Int × A8))
 | 0, _, _, _ => none
 | k + 1, a3, a5, b8 => (if a3 < (a0.length : Int) then (if a3 < 8 then (if (((rd a0 a3)).tmod 2) = 0 then R9 K a0 a1 a2 k (a3 + 1) (S3 a5 a3 (IntKind.u8.wrap ((Y5 a1 a3) + (Y5 a2 a3)))) b8 else (if 1 < (Y5 (S3 a5 a3 (IntKind.u8.wrap ((Y5 a1 a3) + (Y5 a2 a3)))) a3) then some (.ret ((fun _ => 0), 0)) else ((R3 K a0 a1 a2 a3 K b8 (a3 + 1)).bind (Ex.elim (fun r => some (.ret r)) (fun s => (fun (d1 : Int) => R9 K a0 a1 a2 k (a3 + 1) (S3 a5 a3 (IntKind.u8.wrap ((Y5 a1 a3) + (Y5 a2 a3)))) d1) s))))) else none) else some (.go (b8, a5)))
def Zm2 (K : Nat) (a0 : (List Int)) (a1 : A8) (a2 : A8) : Option (A8 × Int) := ((R9 K a0 a1 a2 K 0 (fun _ => 0) 1).bind (Ex.elim (fun r => some r) (fun s => (fun (c4 : Int) (a7 : A8) => some (a7, c4)) s.1 s.2)))
theorem Yr1 {K : Nat} {a0 : (List Int)} {a1 : A8} {a2 : A8} {r : (A8 × Int)} (q0 : Zm2 K a0 a1 a2 = some r) {H : FH} {w : World} {L : OL} {s0 : Value} (a9 : Y1 (Y6 .i64) H s0 a0) (hS : St H w L) :
 Calls Tryz.prog 282 #[s0, vA (Z7 .u8 a1), vA (Z7 .u8 a2)] w (T2 (fun v G => (R.t2 (R.agg (Zr5 .u8)) (R.int .i64)).p G v r) H L) := by
 have Z2 := Sub.refl H
 refine X3 Tryz.func282 rfl Tryz.ntmps282 rfl ?_
 unfold Zm2 at q0
 refine Z3 (Z0 ?_)
 refine S4 (v := vA (Z7 .u8 a1)) (Z7 .u8 a1).toArray rfl rfl hS rfl ?_
 intro b1 w2 hS
 refine S4 (v := vA (Z7 .u8 a2)) (Z7 .u8 a2).toArray rfl rfl hS rfl ?_
 intro b4 w5 hS
 refine V1 (z := vA (Z7 .u8 (fun _ => 0))) (Z7 .u8 (fun _ => 0)).toArray Yi6.zero rfl hS rfl ?_
 intro b7 w8 hS
 refine Z5 (vI 0) rfl rfl (Z1 (Z3 (Z0 ?_)))
 refine Q1 (vA (Z7 .u8 (fun _ => 0))) Xf7 rfl ?_
 refine V1 (z := vA (Z7 .u8 (fun _ => 0))) (Z7 .u8 (fun _ => 0)).toArray Yi6.zero rfl hS rfl ?_
 intro c0 r1 hS
 refine W0 (v := vA (Z7 .u8 (fun _ => 0))) (vs := (Z7 .u8 (fun _ => 0)).toArray) (cs := (Z7 .u8 (fun _ => 0)).toArray) N6 rfl rfl rfl hS rfl (S9 .u8 (fun _ => 0)) rfl ?_
 intro r2 hS
 refine Z5 (vI 1) rfl rfl (Z1 (Z3 (Z3 (Z0 (Z5 (vI 0) rfl rfl (Z1 (Y8 ?_)))))))
 obtain ⟨i5, a8, g5⟩ := bind_some q0
 refine W5 (id := 0) (fun k f w => ∃ (a3 : Int) (a5 : A8) (b8 : Int) (H1 : FH), R9 K a0 a1 a2 k a3 a5 b8 = some i5 ∧ Sub H H1 ∧ St H1 w ([(c0, cA (Z7 .u8 a5) 70)] ++ ([(b7, cA (Z7 .u8 (fun _ => 0)) 70)] ++ ([(b4, cA (Z7 .u8 a2) 70)] ++ ([(b1, cA (Z7 .u8 a1) 70)] ++ L)))) ∧ 0 ≤ a3 ∧ Y1 (Y6 .i64) H1 s0 a0 ∧ ev f (.tmp 0) = s0 ∧ ev f (.tmp 4) = vP b1 ∧ ev f (.tmp 5) = vP b4 ∧ ev f (.tmp 6) = vP b7 ∧ ev f (.tmp 8) = vP c0 ∧ ev f (.tmp 9) = vI b8 ∧ ev f (.tmp 10) = vI a3) (fun f w => ∃ (c4 : Int) (a7 : A8) (H1 : FH), i5 = .go (c4, a7) ∧ Sub H H1 ∧ St H1 w ([(c0, cA (Z7 .u8 a7) 70)] ++ ([(b7, cA (Z7 .u8 (fun _ => 0)) 70)] ++ ([(b4, cA (Z7 .u8 a2) 70)] ++ ([(b1, cA (Z7 .u8 a1) 70)] ++ L)))) ∧ ev f (.tmp 6) = vP b7 ∧ ev f (.tmp 8) = vP c0 ∧ ev f (.tmp 9) = vI c4) rfl ?_ ?_ K ?_ ?_
 rintro f w ⟨a3, a5, b8, H1, a8, _⟩
 rw [R9] at a8; cases a8
 rintro k m9 n0 k2 l7 ⟨a3, a5, b8, k4, a8, Z2, hS, l6, a9, e9, f0, f1, f2, d2, f3, b9⟩
 rw [R9] at a8
 refine Z3 (Z3 (Z0 (Z4 (vI a3) (by exact b9) rfl (Z4 (s0) (by exact e9) rfl ?_))))
 have n1 := a9.bound
 refine W7 Q2 rfl a9 rfl ?_
 refine V7 (k := .i64) (a := a3) (b := (a0.length : Int)) rfl rfl rfl (Z1 ?_)
 by_cases g6 : a3 < (a0.length : Int)
 rw [if_pos g6] at a8
 refine Y0 (bT g6 rfl) (Y7 (Z3 (Y8 (Z3 ?_))))
 obtain ⟨n2, a8⟩ := gd a8
 refine U6 9 (P9 [(19, MP.eq (vI a3)), (20, MP.eq (vI a3)), (21, MP.eq (Value.pointer (some ⟨b1, 0 + (a3).toNat * 1, none⟩))), (22, MP.eq (Value.int .u8 (Y5 a1 a3))), (23, MP.eq (vI a3)), (24, MP.eq (Value.pointer (some ⟨b4, 0 + (a3).toNat * 1, none⟩))), (25, MP.eq (Value.int .u8 (Y5 a2 a3))), (26, MP.eq (Value.int .u8 (IntKind.u8.wrap ((Y5 a1 a3) + (Y5 a2 a3))))), (27, MP.eq (Value.pointer (some ⟨c0, 0 + (a3).toNat * 1, none⟩)))]) [] mixed rfl rfl rfl hS (Z6 rfl ?_ (Z6 rfl ?_ (Z6 rfl ?_ (Z6 rfl ?_ (Z6 rfl ?_ (Z6 rfl ?_ (Z6 rfl ?_ (Z6 rfl ?_ (Z6 rfl ?_ U8))))))))) ?_
 intro r3 r4 r5 r6 n3 hS k5 n4 hcq
 refine Z4 (vI a3) (evT (k5 10 rfl) b9) rfl ?_
 exact qn (.refl _) rfl hS rfl
 intro r7 r8 r9 s1 n5 hS k6 n6 hcq
 refine Z4 (vI a3) (evT (k6 10 rfl) b9) rfl ?_
 exact qn (.refl _) rfl hS rfl
 intro s2 s3 s4 s5 n7 hS k7 k8 hcq
 refine V5 Zd3 (evT (k7 4 rfl) f0) (eM (k8 1 20 rfl rfl)) (by omega) (by omega) rfl ?_
 exact qn (.refl _) rfl hS rfl
 intro s6 s7 s8 s9 n8 hS n9 k9 hcq
 refine Y4 (Value.int .u8 (Y5 a1 a3)) ty5 (eM (k9 2 21 rfl rfl)) (hS.get (o := cA (Z7 .u8 a1) 70) (mR (mR (mR (mR mL))))) (M7 ([]) ([]) (by omega) (by omega)) rfl ?_
 exact qn (.refl _) rfl hS rfl
 intro t0 t1 t4 t5 o0 hS l0 o1 hcq
 refine Z4 (vI a3) (evT (l0 10 rfl) b9) rfl ?_
 exact qn (.refl _) rfl hS rfl
 intro t6 t7 t8 t9 o2 hS l1 l2 hcq
 refine V5 Zd3 (evT (l1 5 rfl) f1) (eM (l2 4 23 rfl rfl)) (by omega) (by omega) rfl ?_
 exact qn (.refl _) rfl hS rfl
 intro u0 u1 u2 u3 o3 hS o4 l3 hcq
 refine Y4 (Value.int .u8 (Y5 a2 a3)) ty5 (eM (l3 5 24 rfl rfl)) (hS.get (o := cA (Z7 .u8 a2) 70) (mR (mR (mR mL)))) (M7 ([]) ([]) (by omega) (by omega)) rfl ?_
 exact qn (.refl _) rfl hS rfl
 intro u4 u5 u6 u7 o5 hS o6 i6 hcq
 refine W8 (IntKind.u8.wrap ((Y5 a1 a3) + (Y5 a2 a3))) (eM (i6 3 22 rfl rfl)) (eM (i6 6 25 rfl rfl)) rfl rfl ?_
 exact qn (.refl _) rfl hS rfl
 intro o7 o8 o9 p0 m2 hS j4 j5 hcq
 refine V5 Zd3 (evT (j4 8 rfl) d2) (eM (j5 0 19 rfl rfl)) (by omega) (by omega) rfl ?_
 exact qn (.refl _) rfl hS rfl
 intro p1 l4 h1 h5 hS c2 h6 hcq
 have hS : St h1 l4 ([(c0, cA (Z7 .u8 a5) 70)] ++ ([(b7, cA (Z7 .u8 (fun _ => 0)) 70)] ++ ([(b4, cA (Z7 .u8 a2) 70)] ++ ([(b1, cA (Z7 .u8 a1) 70)] ++ L)))) := hS
 have Z2 := Z2.trans h5
 have a9 := a9.mono h5
 have h2 := evT (c2 0 rfl) e9
 have i7 := evT (c2 4 rfl) f0
 have i8 := evT (c2 5 rfl) f1
 have g7 := evT (c2 6 rfl) f2
 have h3 := evT (c2 8 rfl) d2
 have i9 := evT (c2 9 rfl) f3
 have e3 := evT (c2 10 rfl) b9
 refine Za5 (v := Value.int .u8 (IntKind.u8.wrap ((Y5 a1 a3) + (Y5 a2 a3)))) (cs := (Z7 .u8 a5).toArray) (cs' := (Z7 .u8 (S3 a5 a3 (IntKind.u8.wrap ((Y5 a1 a3) + (Y5 a2 a3))))).toArray) ty5 (by exact (eM (h6 8 27 (by decide) rfl))) (by exact (eM (h6 7 26 (by decide) rfl))) hS rfl (Zz4 rfl) (by simp [Z7, N7]; omega) (Zi5 (by omega) (by omega)) ?_
 intro p2 hS
 refine Z1 (Z3 (Z3 (Z0 (Z4 (s0) (by exact h2) rfl (Z4 (vI a3) (by exact e3) rfl ?_)))))
 obtain ⟨p3, p4, m3, p5, _, j6, j7, rfl, j8⟩ := a9.elem (i := a3) (by omega) (by omega)
 refine W3 Q2 rfl rfl j6 rfl (by omega) (by omega) rfl ?_
 refine Y4 (vI (rd a0 a3)) ty2 rfl (hS.froz _ _ j7) (j8 0 (show 0 < 1 by decide)) rfl ?_
 refine Zh4 (((rd a0 a3)).tmod 2) rfl rfl (by decide) rfl rfl ?_
 refine Za4 (k := .i64) (a := (((rd a0 a3)).tmod 2)) (b := 0) rfl rfl rfl (Z1 ?_)
 by_cases d9 : (((rd a0 a3)).tmod 2) = 0
 rw [if_pos d9] at a8
 refine Y0 (bT d9 rfl) ?_
 refine W4 rfl (Z0 (Z4 (vI a3) (by exact e3) rfl ?_))
 refine W8 (a3 + 1) rfl rfl (IntWalk.i64_in _ (by omega)) rfl (Z5 (vI (a3 + 1)) rfl rfl (Z1 ?_))
 exact k2 _ _ ⟨(a3 + 1), (S3 a5 a3 (IntKind.u8.wrap ((Y5 a1 a3) + (Y5 a2 a3)))), b8, h1, a8, Z2, hS, (by omega), a9, h2, i7, i8, g7, h3, i9, rfl⟩
 rw [if_neg d9] at a8
 refine Z8 (bF d9 rfl) (Y7 (Z3 (Z3 (Z0 (Z4 (vI a3) (by exact e3) rfl ?_)))))
 refine V5 Zd3 (by exact h3) rfl (by omega) (by omega) rfl ?_
 refine Y4 (Value.int .u8 (Y5 (S3 a5 a3 (IntKind.u8.wrap ((Y5 a1 a3) + (Y5 a2 a3)))) a3)) ty5 rfl (hS.get (o := cA (Z7 .u8 (S3 a5 a3 (IntKind.u8.wrap ((Y5 a1 a3) + (Y5 a2 a3))))) 70) mL) (M7 ([]) ([]) (by omega) (by omega)) rfl ?_
 refine Zf8 (k := .u8) (a := (Y5 (S3 a5 a3 (IntKind.u8.wrap ((Y5 a1 a3) + (Y5 a2 a3)))) a3)) (b := 1) rfl rfl rfl (Z1 ?_)
 by_cases e0 : 1 < (Y5 (S3 a5 a3 (IntKind.u8.wrap ((Y5 a1 a3) + (Y5 a2 a3)))) a3)
 rw [if_pos e0] at a8
 refine Y0 (bT e0 rfl) (Z3 (Z0 ?_))
 refine Q1 (vA (Z7 .u8 (fun _ => 0))) Xf7 rfl ?_
 have hS := hS.perm U1
 refine W0 (v := vA (Z7 .u8 (fun _ => 0))) (vs := (Z7 .u8 (fun _ => 0)).toArray) (cs := (Z7 .u8 (fun _ => 0)).toArray) N6 (by exact g7) rfl rfl hS rfl (S9 .u8 (fun _ => 0)) rfl ?_
 intro p6 hS
 have hS := hS.perm U1.symm
 refine Z5 (vI 0) rfl rfl (Z1 ?_)
 refine X0 (vs := [vA (Z7 .u8 (fun _ => 0)), vI 0]) Tryz.func282 ⟨⟨_, (by exact g7), U5 N6 (hS.get (mR mL)) rfl⟩, rfl, trivial⟩ ?_
 have hz := Option.some.inj a8
 subst hz
 dsimp only [Ex.elim] at g5
 have hz := Option.some.inj g5
 subst hz
 exact ⟨_, _, rfl, Z2, (St.dropA (St.dropA (St.dropA (St.dropA hS)))), ⟨_, _, rfl, ⟨_, rfl, rfl⟩, rfl⟩⟩
 rw [if_neg e0] at a8
 refine Z8 (bF e0 rfl) (Y7 (Z3 (Z0 (Z4 (vI a3) (by exact e3) rfl ?_))))
 refine W8 (a3 + 1) rfl rfl (IntWalk.i64_in _ (by omega)) rfl (Z5 (vI (a3 + 1)) rfl rfl (Z1 (Y8 ?_)))
 obtain ⟨g8, c1, j0⟩ := bind_some a8
 refine W5 (id := 2) (fun k f w => ∃ (a6 : Int) (a4 : Int) (H1 : FH), R3 K a0 a1 a2 a3 k a6 a4 = some g8 ∧ Sub H H1 ∧ St H1 w ([(c0, cA (Z7 .u8 (S3 a5 a3 (IntKind.u8.wrap ((Y5 a1 a3) + (Y5 a2 a3))))) 70)] ++ ([(b7, cA (Z7 .u8 (fun _ => 0)) 70)] ++ ([(b4, cA (Z7 .u8 a2) 70)] ++ ([(b1, cA (Z7 .u8 a1) 70)] ++ L)))) ∧ Y1 (Y6 .i64) H1 s0 a0 ∧ ev f (.tmp 0) = s0 ∧ ev f (.tmp 4) = vP b1 ∧ ev f (.tmp 5) = vP b4 ∧ ev f (.tmp 6) = vP b7 ∧ ev f (.tmp 8) = vP c0 ∧ ev f (.tmp 9) = vI a6 ∧ ev f (.tmp 10) = vI a3 ∧ ev f (.tmp 11) = vI a4) (fun f w => ∃ (d1 : Int) (H1 : FH), g8 = .go d1 ∧ Sub H H1 ∧ St H1 w ([(c0, cA (Z7 .u8 (S3 a5 a3 (IntKind.u8.wrap ((Y5 a1 a3) + (Y5 a2 a3))))) 70)] ++ ([(b7, cA (Z7 .u8 (fun _ => 0)) 70)] ++ ([(b4, cA (Z7 .u8 a2) 70)] ++ ([(b1, cA (Z7 .u8 a1) 70)] ++ L)))) ∧ Y1 (Y6 .i64) H1 s0 a0 ∧ ev f (.tmp 0) = s0 ∧ ev f (.tmp 4) = vP b1 ∧ ev f (.tmp 5) = vP b4 ∧ ev f (.tmp 6) = vP b7 ∧ ev f (.tmp 8) = vP c0 ∧ ev f (.tmp 9) = vI d1 ∧ ev f (.tmp 10) = vI a3) rfl ?_ ?_ K ?_ ?_
 rintro f w ⟨a6, a4, H1, c1, _⟩
 rw [R3] at c1; cases c1
 rintro k p7 p8 k3 l9 ⟨a6, a4, j1, c1, Z2, hS, a9, d3, f4, d4, f5, f6, f7, c8, c9⟩
 rw [R3] at c1
 refine Z3 (Z3 ?_)
 refine B6 (fun f w => ∃ (b6 : Bool) (H1 : FH), A0 K (R3 K a0 a1 a2 a3 k) a0 a1 a4 a6 b6 = some g8 ∧ Sub H H1 ∧ St H1 w ([(c0, cA (Z7 .u8 (S3 a5 a3 (IntKind.u8.wrap ((Y5 a1 a3) + (Y5 a2 a3))))) 70)] ++ ([(b7, cA (Z7 .u8 (fun _ => 0)) 70)] ++ ([(b4, cA (Z7 .u8 a2) 70)] ++ ([(b1, cA (Z7 .u8 a1) 70)] ++ L)))) ∧ Y1 (Y6 .i64) H1 s0 a0 ∧ ev f (.tmp 0) = s0 ∧ ev f (.tmp 4) = vP b1 ∧ ev f (.tmp 5) = vP b4 ∧ ev f (.tmp 6) = vP b7 ∧ ev f (.tmp 8) = vP c0 ∧ ev f (.tmp 9) = vI a6 ∧ ev f (.tmp 10) = vI a3 ∧ ev f (.tmp 11) = vI a4 ∧ ev f (.tmp 50) = Value.bool b6) ?_ ?_
 rintro p9 m0 ⟨b6, e4, b0, Z2, hS, a9, c6, c7, d5, d6, d7, d8, d0, c3, e5⟩
 unfold A0 at b0
 by_cases e1 : b6 = true
 rw [if_pos e1] at b0
 refine Y0 (Eq.trans (by exact e5) (congrArg Value.bool e1)) (Y7 (Z3 (Y8 (Z3 ?_))))
 refine B6 (fun f w => ∃ (b5 : Bool) (H1 : FH), Zc8 K (R3 K a0 a1 a2 a3 k) a4 a6 b5 = some g8 ∧ Sub H H1 ∧ St H1 w ([(c0, cA (Z7 .u8 (S3 a5 a3 (IntKind.u8.wrap ((Y5 a1 a3) + (Y5 a2 a3))))) 70)] ++ ([(b7, cA (Z7 .u8 (fun _ => 0)) 70)] ++ ([(b4, cA (Z7 .u8 a2) 70)] ++ ([(b1, cA (Z7 .u8 a1) 70)] ++ L)))) ∧ Y1 (Y6 .i64) H1 s0 a0 ∧ ev f (.tmp 0) = s0 ∧ ev f (.tmp 4) = vP b1 ∧ ev f (.tmp 5) = vP b4 ∧ ev f (.tmp 6) = vP b7 ∧ ev f (.tmp 8) = vP c0 ∧ ev f (.tmp 9) = vI a6 ∧ ev f (.tmp 10) = vI a3 ∧ ev f (.tmp 11) = vI a4 ∧ ev f (.tmp 64) = Value.bool b5) ?_ ?_
 rintro q1 m1 ⟨b5, h0, c5, Z2, hS, a9, f8, f9, g0, g1, g2, g3, e6, e7, e8⟩
 unfold Zc8 at c5
 by_cases e2 : b5 = true
 rw [if_pos e2] at c5
 refine Y0 (Eq.trans (by exact e8) (congrArg Value.bool e2)) (Z0 (Z4 (vI a6) (by exact g3) rfl ?_))
 refine Xc4 (IntKind.i64.wrap (0 - a6)) rfl rfl rfl (Z5 (vI (IntKind.i64.wrap (0 - a6))) rfl rfl (Z1 (X2 (Z0 (Z4 (vI a4) (by exact e7) rfl ?_)))))
 refine W8 (IntKind.i64.wrap (a4 + 1)) rfl rfl rfl rfl (Z5 (vI (IntKind.i64.wrap (a4 + 1))) rfl rfl (Z1 ?_))
 exact k3 _ _ ⟨(IntKind.i64.wrap (0 - a6)), (IntKind.i64.wrap (a4 + 1)), h0, c5, Z2, hS, a9, f8, f9, g0, g1, g2, rfl, e6, rfl⟩
 rw [if_neg e2] at c5
 refine Z8 (Eq.trans (by exact e8) (congrArg Value.bool (W1 e2))) (Y7 (X2 (Z0 (Z4 (vI a4) (by exact e7) rfl ?_))))
 refine W8 (IntKind.i64.wrap (a4 + 1)) rfl rfl rfl rfl (Z5 (vI (IntKind.i64.wrap (a4 + 1))) rfl rfl (Z1 ?_))
 exact k3 _ _ ⟨a6, (IntKind.i64.wrap (a4 + 1)), h0, c5, Z2, hS, a9, f8, f9, g0, g1, g2, g3, e6, rfl⟩
 intro j2
 refine Z0 (Z4 (s0) (by exact c6) rfl (Z4 (vI a4) (by exact c3) rfl ?_))
 obtain ⟨m4, b0⟩ := gd b0
 obtain ⟨m5, b0⟩ := gd b0
 obtain ⟨q2, q3, m6, q4, _, j9, k0, rfl, k1⟩ := a9.elem (i := a4) (by omega) (by omega)
 refine W3 Q2 rfl rfl j9 rfl (by omega) (by omega) rfl ?_
 refine Y4 (vI (rd a0 a4)) ty2 rfl (hS.froz _ _ k0) (k1 0 (show 0 < 1 by decide)) rfl ?_
 refine Zh4 (((rd a0 a4)).tmod 2) rfl rfl (by decide) rfl rfl ?_
 refine J2 (k := .i64) (a := (((rd a0 a4)).tmod 2)) (b := 0) rfl rfl rfl (Z4 (Value.bool (!decide ((((rd a0 a4)).tmod 2) = 0))) rfl rfl ?_)
 by_cases b2 : (((rd a0 a4)).tmod 2) = 0
 rw [if_pos b2] at b0
 refine Z9 rfl rfl (bN b2 rfl) rfl rfl rfl (Z9 rfl rfl (bN b2 rfl) rfl rfl rfl (Z9 rfl rfl (bN b2 rfl) rfl rfl rfl (Z9 rfl rfl (bN b2 rfl) rfl rfl rfl ?_)))
 refine V2 (t := false) (Value.bool false) (bN b2 rfl) ((if_neg Bool.false_ne_true).trans rfl) rfl (Z1 ?_)
 exact j2 _ _ ⟨false, e4, b0, Z2, hS, a9, c6, c7, d5, d6, d7, d8, d0, c3, rfl⟩
 rw [if_neg b2] at b0
 refine Y2 rfl rfl (bO b2 rfl) (Z4 (vI a4) (by exact c3) rfl ?_)
 refine Y2 rfl rfl (bO b2 rfl) ?_
 obtain ⟨m7, b0⟩ := gd b0
 refine V5 Zd3 (by exact c7) rfl (by omega) (by omega) rfl ?_
 refine Y2 rfl rfl (bO b2 rfl) ?_
 refine Y4 (Value.int .u8 (Y5 a1 a4)) ty5 rfl (hS.get (o := cA (Z7 .u8 a1) 70) (mR (mR (mR mL)))) (M7 ([]) ([]) (by omega) (by omega)) rfl ?_
 refine Y2 rfl rfl (bO b2 rfl) ?_
 refine Za4 (k := .u8) (a := (Y5 a1 a4)) (b := 1) rfl rfl rfl ?_
 refine V2 (t := true) (Value.bool (decide ((Y5 a1 a4) = 1))) (bO b2 rfl) ((if_pos rfl).trans rfl) rfl (Z1 ?_)
 exact j2 _ _ ⟨(decide ((Y5 a1 a4) = 1)), e4, b0, Z2, hS, a9, c6, c7, d5, d6, d7, d8, d0, c3, rfl⟩
 rw [if_neg e1] at b0
 refine Z8 (Eq.trans (by exact e5) (congrArg Value.bool (W1 e1))) ?_
 refine W4 rfl ?_
 have hz := Option.some.inj b0
 subst hz
 exact l9 _ _ ⟨a6, e4, rfl, Z2, hS, a9, c6, c7, d5, d6, d7, d8, d0⟩
 intro j3
 refine Z0 (Z4 (vI a4) (by exact c9) rfl (Z4 (s0) (by exact d3) rfl ?_))
 have m8 := a9.bound
 refine W7 Q2 rfl a9 rfl ?_
 refine V7 (k := .i64) (a := a4) (b := (a0.length : Int)) rfl rfl rfl (Z4 (Value.bool (decide (a4 < (a0.length : Int)))) rfl rfl ?_)
 by_cases b3 : a4 < (a0.length : Int)
 rw [if_pos b3] at c1
 refine Y2 rfl rfl (bT b3 rfl) (Z4 (vI a3) (by exact c8) rfl ?_)
 refine Y2 rfl rfl (bT b3 rfl) ?_
 refine V5 Zd3 (by exact d4) rfl (by omega) (by omega) rfl ?_
 refine Y2 rfl rfl (bT b3 rfl) ?_
 refine Y4 (Value.int .u8 (Y5 a2 a3)) ty5 rfl (hS.get (o := cA (Z7 .u8 a2) 70) (mR (mR mL))) (M7 ([]) ([]) (by omega) (by omega)) rfl ?_
 refine Y2 rfl rfl (bT b3 rfl) ?_
 refine Za4 (k := .u8) (a := (Y5 a2 a3)) (b := 1) rfl rfl rfl ?_
 refine V2 (t := true) (Value.bool (decide ((Y5 a2 a3) = 1))) (bT b3 rfl) ((if_pos rfl).trans rfl) rfl (Z1 ?_)
 exact j3 _ _ ⟨(decide ((Y5 a2 a3) = 1)), j1, c1, Z2, hS, a9, d3, f4, d4, f5, f6, f7, c8, c9, rfl⟩
 rw [if_neg b3] at c1
 refine Z9 rfl rfl (bF b3 rfl) rfl rfl rfl (Z9 rfl rfl (bF b3 rfl) rfl rfl rfl (Z9 rfl rfl (bF b3 rfl) rfl rfl rfl (Z9 rfl rfl (bF b3 rfl) rfl rfl rfl ?_)))
 refine V2 (t := false) (Value.bool false) (bF b3 rfl) ((if_neg Bool.false_ne_true).trans rfl) rfl (Z1 ?_)
 exact j3 _ _ ⟨false, j1, c1, Z2, hS, a9, d3, f4, d4, f5, f6, f7, c8, c9, rfl⟩
 exact ⟨b8, (a3 + 1), h1, c1, Z2, hS, a9, h2, i7, i8, g7, h3, i9, e3, rfl⟩
 rintro q5 q6 ⟨d1, l5, rfl, Z2, hS, a9, h7, h8, h9, i0, i1, i2, h4⟩
 dsimp only [Ex.elim] at j0
 refine X2 (Z0 (Z4 (vI a3) (by exact h4) rfl ?_))
 refine W8 (a3 + 1) rfl rfl (IntWalk.i64_in _ (by omega)) rfl (Z5 (vI (a3 + 1)) rfl rfl (Z1 ?_))
 exact k2 _ _ ⟨(a3 + 1), (S3 a5 a3 (IntKind.u8.wrap ((Y5 a1 a3) + (Y5 a2 a3)))), d1, l5, j0, Z2, hS, (by omega), a9, h7, h8, h9, i0, i1, i2, rfl⟩
 rw [if_neg g6] at a8
 refine Z8 (bF g6 rfl) ?_
 refine W4 rfl ?_
 have hz := Option.some.inj a8
 subst hz
 exact l7 _ _ ⟨b8, a5, k4, rfl, Z2, hS, f2, d2, f3⟩
 exact ⟨0, (fun _ => 0), 1, H, a8, Z2, hS, (by omega), a9, rfl, rfl, rfl, rfl, rfl, rfl, rfl⟩
 rintro q7 q8 ⟨c4, a7, q9, rfl, Z2, hS, g4, i3, i4⟩
 dsimp only [Ex.elim] at g5
 refine Z3 (Z0 ?_)
 refine W2 N6 (by exact i3) (hS.get mL) rfl rfl (Z4 (vI c4) (by exact i4) rfl ?_)
 have hS := hS.perm U1
 refine W0 (v := vA (Z7 .u8 a7)) (vs := (Z7 .u8 a7).toArray) (cs := (Z7 .u8 (fun _ => 0)).toArray) N6 (by exact g4) rfl rfl hS rfl (S9 .u8 a7) rfl ?_
 intro r0 hS
 have hS := hS.perm U1.symm
 refine Z5 (vI c4) rfl rfl (Z1 ?_)
 refine X0 (vs := [vA (Z7 .u8 a7), vI c4]) Tryz.func282 ⟨⟨_, (by exact g4), U5 N6 (hS.get (mR mL)) rfl⟩, rfl, trivial⟩ ?_
 have hz := Option.some.inj g5
 subst hz
 exact ⟨_, _, rfl, Z2, (St.dropA (St.dropA (St.dropA (St.dropA hS)))), ⟨_, _, rfl, ⟨_, rfl, rfl⟩, rfl⟩⟩
def F8 (K : Nat) (a0 : A8) (a1 : A8) : Nat → Int → Option (Ex Bool (Unit))
 | 0, _ => none
 | k + 1, a3 => (if a3 < 8 then (if (Y5 a0 a3) = (Y5 a1 a3) then F8 K a0 a1 k (a3 + 1) else some (.ret (decide ((Y5 a1 a3) < (Y5 a0 a3))))) else some (.go ()))
def Ze9 (K : Nat) (a0 : A8) (a1 : A8) : Option Bool := ((F8 K a0 a1 K 0).bind (Ex.elim (fun r => some r) (fun s => some false)))
theorem Zu3 {K : Nat} {a0 : A8} {a1 : A8} {r : Bool} (q0 : Ze9 K a0 a1 = some r) {H : FH} {w : World} {L : OL} (hS : St H w L) :
 Calls Tryz.prog 203 #[vA (Z7 .u8 a0), vA (Z7 .u8 a1)] w (T2 (fun v G => R.bool.p G v r) H L) := by
 have Z2 := Sub.refl H
 refine X3 Tryz.func203 rfl Tryz.ntmps203 rfl ?_
 unfold Ze9 at q0
 refine Z3 (Z0 ?_)
 refine S4 (v := vA (Z7 .u8 a0)) (Z7 .u8 a0).toArray rfl rfl hS rfl ?_
 intro b1 w2 hS
 refine S4 (v := vA (Z7 .u8 a1)) (Z7 .u8 a1).toArray rfl rfl hS rfl ?_
 intro b4 w5 hS
 refine Z5 (Value.bool false) rfl rfl (Z1 (Z3 (Z3 (Z0 (Z5 (vI 0) rfl rfl (Z1 (Y8 ?_)))))))
 obtain ⟨b5, a4, a8⟩ := bind_some q0
 refine W5 (id := 0) (fun k f w => ∃ (a3 : Int) (H1 : FH), F8 K a0 a1 k a3 = some b5 ∧ Sub H H1 ∧ St H1 w ([(b4, cA (Z7 .u8 a1) 70)] ++ ([(b1, cA (Z7 .u8 a0) 70)] ++ L)) ∧ 0 ≤ a3 ∧ ev f (.tmp 2) = vP b1 ∧ ev f (.tmp 3) = vP b4 ∧ ev f (.tmp 5) = vI a3) (fun f w => ∃ (H1 : FH), b5 = .go () ∧ Sub H H1 ∧ St H1 w ([(b4, cA (Z7 .u8 a1) 70)] ++ ([(b1, cA (Z7 .u8 a0) 70)] ++ L))) rfl ?_ ?_ K ?_ ?_
 rintro f w ⟨a3, H1, a4, _⟩
 rw [F8] at a4; cases a4
 rintro k g4 g5 e6 e7 ⟨a3, d1, a4, Z2, hS, e8, a6, a7, a5⟩
 rw [F8] at a4
 refine Z3 (Z3 (Z0 (Z4 (vI a3) (by exact a5) rfl ?_)))
 refine V7 (k := .i64) (a := a3) (b := 8) rfl rfl rfl (Z1 ?_)
 by_cases b2 : a3 < 8
 rw [if_pos b2] at a4
 refine Y0 (bT b2 rfl) (Y7 (Z3 (Y8 (Z3 ?_))))
 refine U6 7 (P9 [(10, MP.eq (vI a3)), (11, MP.eq (Value.pointer (some ⟨b1, 0 + (a3).toNat * 1, none⟩))), (12, MP.eq (Value.int .u8 (Y5 a0 a3))), (13, MP.eq (vI a3)), (14, MP.eq (Value.pointer (some ⟨b4, 0 + (a3).toNat * 1, none⟩))), (15, MP.eq (Value.int .u8 (Y5 a1 a3))), (16, MP.eq (Value.bool (!decide ((Y5 a0 a3) = (Y5 a1 a3)))))]) [] mixed rfl rfl rfl hS (Z6 rfl ?_ (Z6 rfl ?_ (Z6 rfl ?_ (Z6 rfl ?_ (Z6 rfl ?_ (Z6 rfl ?_ (Z6 rfl ?_ U8))))))) ?_
 intro f8 w9 k9 l0 g6 hS d2 g7 hcq
 refine Z4 (vI a3) (evT (d2 5 rfl) a5) rfl ?_
 exact qn (.refl _) rfl hS rfl
 intro l1 l2 l3 l4 g8 hS d3 d4 hcq
 refine V5 Zd3 (evT (d3 2 rfl) a6) (eM (d4 0 10 rfl rfl)) (by omega) (by omega) rfl ?_
 exact qn (.refl _) rfl hS rfl
 intro l5 l6 l7 l9 g9 hS h0 d5 hcq
 refine Y4 (Value.int .u8 (Y5 a0 a3)) ty5 (eM (d5 1 11 rfl rfl)) (hS.get (o := cA (Z7 .u8 a0) 70) (mR (mR mL))) (M7 ([]) ([]) (by omega) (by omega)) rfl ?_
 exact qn (.refl _) rfl hS rfl
 intro m0 m1 m2 m3 h1 hS d6 h2 hcq
 refine Z4 (vI a3) (evT (d6 5 rfl) a5) rfl ?_
 exact qn (.refl _) rfl hS rfl
 intro m4 m5 m6 m7 h3 hS d7 d8 hcq
 refine V5 Zd3 (evT (d7 3 rfl) a7) (eM (d8 3 13 rfl rfl)) (by omega) (by omega) rfl ?_
 exact qn (.refl _) rfl hS rfl
 intro m8 m9 n0 n1 h4 hS h5 d9 hcq
 refine Y4 (Value.int .u8 (Y5 a1 a3)) ty5 (eM (d9 4 14 rfl rfl)) (hS.get (o := cA (Z7 .u8 a1) 70) (mR mL)) (M7 ([]) ([]) (by omega) (by omega)) rfl ?_
 exact qn (.refl _) rfl hS rfl
 intro n2 n3 n4 n5 h6 hS h7 b6 hcq
 refine J2 (k := .u8) (a := (Y5 a0 a3)) (b := (Y5 a1 a3)) (eM (b6 2 12 rfl rfl)) (eM (b6 5 15 rfl rfl)) rfl ?_
 exact qn (.refl _) rfl hS rfl
 intro e9 f0 c7 e0 hS b0 e1 hcq
 have hS : St c7 f0 ([(b4, cA (Z7 .u8 a1) 70)] ++ ([(b1, cA (Z7 .u8 a0) 70)] ++ L)) := hS
 have Z2 := Z2.trans e0
 have c8 := evT (b0 2 rfl) a6
 have c9 := evT (b0 3 rfl) a7
 have b7 := evT (b0 5 rfl) a5
 have d0 : ev e9 (.tmp 16) = Value.bool (!decide ((Y5 a0 a3) = (Y5 a1 a3))) := e1 6 16 (by decide) rfl
 refine Z1 ?_
 by_cases a9 : (Y5 a0 a3) = (Y5 a1 a3)
 rw [if_pos a9] at a4
 refine Z8 (bN a9 (by exact d0)) (Y7 (X2 (Z0 (Z4 (vI a3) (by exact b7) rfl ?_))))
 refine W8 (a3 + 1) rfl rfl (IntWalk.i64_in _ (by omega)) rfl (Z5 (vI (a3 + 1)) rfl rfl (Z1 ?_))
 exact e6 _ _ ⟨(a3 + 1), c7, a4, Z2, hS, (by omega), c8, c9, rfl⟩
 rw [if_neg a9] at a4
 refine Y0 (bO a9 (by exact d0)) (Z3 ?_)
 refine U6 8 (P9 [(17, MP.eq (vI a3)), (18, MP.eq (Value.pointer (some ⟨b1, 0 + (a3).toNat * 1, none⟩))), (19, MP.eq (Value.int .u8 (Y5 a0 a3))), (20, MP.eq (vI a3)), (21, MP.eq (Value.pointer (some ⟨b4, 0 + (a3).toNat * 1, none⟩))), (22, MP.eq (Value.int .u8 (Y5 a1 a3))), (23, MP.eq (Value.bool (decide ((Y5 a1 a3) < (Y5 a0 a3))))), (4, MP.eq (Value.bool (decide ((Y5 a1 a3) < (Y5 a0 a3)))))]) [] mixed rfl rfl rfl hS (Z6 rfl ?_ (Z6 rfl ?_ (Z6 rfl ?_ (Z6 rfl ?_ (Z6 rfl ?_ (Z6 rfl ?_ (Z6 rfl ?_ (Z6 rfl ?_ U8)))))))) ?_
 intro n6 n7 n8 n9 h8 hS e2 h9 hcq
 refine Z4 (vI a3) (evT (e2 5 rfl) b7) rfl ?_
 exact qn (.refl _) rfl hS rfl
 intro o0 o1 o2 o3 i0 hS e3 b8 hcq
 refine V5 Zd3 (evT (e3 2 rfl) c8) (eM (b8 0 17 rfl rfl)) (by omega) (by omega) rfl ?_
 exact qn (.refl _) rfl hS rfl
 intro i1 i2 i3 i4 f1 hS f2 b9 hcq
 refine Y4 (Value.int .u8 (Y5 a0 a3)) ty5 (eM (b9 1 18 rfl rfl)) (hS.get (o := cA (Z7 .u8 a0) 70) (mR (mR mL))) (M7 ([]) ([]) (by omega) (by omega)) rfl ?_
 exact qn (.refl _) rfl hS rfl
 intro i5 i6 i7 i8 f3 hS c0 f4 hcq
 refine Z4 (vI a3) (evT (c0 5 rfl) b7) rfl ?_
 exact qn (.refl _) rfl hS rfl
 intro i9 j0 j1 j2 f5 hS c1 c2 hcq
 refine V5 Zd3 (evT (c1 3 rfl) c9) (eM (c2 3 20 rfl rfl)) (by omega) (by omega) rfl ?_
 exact qn (.refl _) rfl hS rfl
 intro j3 j4 j5 j6 f6 hS f7 c3 hcq
 refine Y4 (Value.int .u8 (Y5 a1 a3)) ty5 (eM (c3 4 21 rfl rfl)) (hS.get (o := cA (Z7 .u8 a1) 70) (mR mL)) (M7 ([]) ([]) (by omega) (by omega)) rfl ?_
 exact qn (.refl _) rfl hS rfl
 intro j7 j8 j9 k0 f9 hS g0 b3 hcq
 refine Zf8 (k := .u8) (a := (Y5 a0 a3)) (b := (Y5 a1 a3)) (eM (b3 2 19 rfl rfl)) (eM (b3 5 22 rfl rfl)) rfl ?_
 exact qn (.refl _) rfl hS rfl
 intro k1 k2 k3 k4 g1 hS g2 c4 hcq
 refine Z5 (Value.bool (decide ((Y5 a1 a3) < (Y5 a0 a3)))) (eM (c4 6 23 rfl rfl)) rfl ?_
 exact qn (.refl _) rfl hS rfl
 intro k5 e4 e5 c5 hS g3 c6 hcq
 have hS : St e5 e4 ([(b4, cA (Z7 .u8 a1) 70)] ++ ([(b1, cA (Z7 .u8 a0) 70)] ++ L)) := hS
 have Z2 := Z2.trans c5
 refine Z1 ?_
 refine X0 (vs := [Value.bool (decide ((Y5 a1 a3) < (Y5 a0 a3)))]) Tryz.func203 ⟨(by exact (eM (c6 7 4 (by decide) rfl))), trivial⟩ ?_
 have hz := Option.some.inj a4
 subst hz
 dsimp only [Ex.elim] at a8
 have hz := Option.some.inj a8
 subst hz
 exact ⟨_, _, rfl, Z2, (St.dropA (St.dropA hS)), rfl⟩
 rw [if_neg b2] at a4
 refine Z8 (bF b2 rfl) ?_
 refine W4 rfl ?_
 have hz := Option.some.inj a4
 subst hz
 exact e7 _ _ ⟨d1, rfl, Z2, hS⟩
 exact ⟨0, H, a4, Z2, hS, (by omega), rfl, rfl, rfl⟩
 rintro k6 k7 ⟨k8, rfl, Z2, hS⟩
 dsimp only [Ex.elim] at a8
 refine Z3 (Z0 (Z5 (Value.bool false) rfl rfl (Z1 ?_)))
 refine X0 (vs := [Value.bool false]) Tryz.func203 ⟨rfl, trivial⟩ ?_
 have hz := Option.some.inj a8
 subst hz
 exact ⟨_, _, rfl, Z2, (St.dropA (St.dropA hS)), rfl⟩
def D0 (K : Nat) (a0 : (List Int)) (a1 : A8) : Nat → Int → Int → Option (Ex Int (Int))
 | 0, _, _ => none
 | k + 1, a4, a3 => (if a3 < (a0.length : Int) then (if a3 < 8 then D0 K a0 a1 k (IntKind.i64.wrap (a4 + (IntKind.i64.wrap ((rd a0 a3) * (IntKind.i64.wrap (Y5 a1 a3)))))) (a3 + 1) else none) else some (.go a4))
def Zc3 (K : Nat) (a0 : (List Int)) (a1 : A8) : Option Int := ((D0 K a0 a1 K 0 0).bind (Ex.elim (fun r => some r) (fun s => (fun (a6 : Int) => some a6) s)))
theorem Zu4 {K : Nat} {a0 : (List Int)} {a1 : A8} {r : Int} (q0 : Zc3 K a0 a1 = some r) {H : FH} {w : World} {L : OL} {s0 : Value} (a9 : Y1 (Y6 .i64) H s0 a0) (hS : St H w L) :
 Calls Tryz.prog 216 #[s0, vA (Z7 .u8 a1)] w (T2 (fun v G => (R.int .i64).p G v r) H L) := by
 have Z2 := Sub.refl H
 refine X3 Tryz.func216 rfl Tryz.ntmps216 rfl ?_
 unfold Zc3 at q0
 refine Z3 (Z0 ?_)
 refine S4 (v := vA (Z7 .u8 a1)) (Z7 .u8 a1).toArray rfl rfl hS rfl ?_
 intro b1 w2 hS
 refine Z5 (vI 0) rfl rfl (Z1 (Z3 (Z0 (Z5 (vI 0) rfl rfl (Z1 (Z3 (Z3 (Z0 (Z5 (vI 0) rfl rfl (Z1 (Y8 ?_)))))))))))
 obtain ⟨c0, a5, c1⟩ := bind_some q0
 refine W5 (id := 0) (fun k f w => ∃ (a4 : Int) (a3 : Int) (H1 : FH), D0 K a0 a1 k a4 a3 = some c0 ∧ Sub H H1 ∧ St H1 w ([(b1, cA (Z7 .u8 a1) 70)] ++ L) ∧ 0 ≤ a3 ∧ Y1 (Y6 .i64) H1 s0 a0 ∧ ev f (.tmp 0) = s0 ∧ ev f (.tmp 3) = vP b1 ∧ ev f (.tmp 5) = vI a4 ∧ ev f (.tmp 6) = vI a3) (fun f w => ∃ (a6 : Int) (H1 : FH), c0 = .go a6 ∧ Sub H H1 ∧ St H1 w ([(b1, cA (Z7 .u8 a1) 70)] ++ L) ∧ ev f (.tmp 5) = vI a6) rfl ?_ ?_ K ?_ ?_
 rintro f w ⟨a4, a3, H1, a5, _⟩
 rw [D0] at a5; cases a5
 rintro k e8 e9 d9 e0 ⟨a4, a3, c5, a5, Z2, hS, e1, a9, a8, b0, b2, a7⟩
 rw [D0] at a5
 refine Z3 (Z3 (Z0 (Z4 (vI a3) (by exact a7) rfl (Z4 (s0) (by exact a8) rfl ?_))))
 have i1 := a9.bound
 refine W7 Q2 rfl a9 rfl ?_
 refine V7 (k := .i64) (a := a3) (b := (a0.length : Int)) rfl rfl rfl (Z1 ?_)
 by_cases b5 : a3 < (a0.length : Int)
 rw [if_pos b5] at a5
 refine Y0 (bT b5 rfl) (Y7 (Z3 (Y8 ?_)))
 obtain ⟨e2, e3, f0, i2, _, c6, b4, rfl, c7⟩ := a9.elem (i := a3) (by omega) (by omega)
 obtain ⟨f1, a5⟩ := gd a5
 refine U6 11 (P9 [(13, MP.eq (vI a4)), (14, MP.eq (s0)), (15, MP.eq (vI a3)), (16, MP.eq (Value.pointer (some ⟨e2, e3, none⟩))), (17, MP.eq (vI (rd a0 a3))), (18, MP.eq (vI a3)), (19, MP.eq (Value.pointer (some ⟨b1, 0 + (a3).toNat * 1, none⟩))), (20, MP.eq (Value.int .u8 (Y5 a1 a3))), (21, MP.eq (vI (IntKind.i64.wrap (Y5 a1 a3)))), (22, MP.eq (vI (IntKind.i64.wrap ((rd a0 a3) * (IntKind.i64.wrap (Y5 a1 a3)))))), (23, MP.eq (vI (IntKind.i64.wrap (a4 + (IntKind.i64.wrap ((rd a0 a3) * (IntKind.i64.wrap (Y5 a1 a3))))))))]) [] mixed rfl rfl rfl hS (Z6 rfl ?_ (Z6 rfl ?_ (Z6 rfl ?_ (Z6 rfl ?_ (Z6 rfl ?_ (Z6 rfl ?_ (Z6 rfl ?_ (Z6 rfl ?_ (Z6 rfl ?_ (Z6 rfl ?_ (Z6 rfl ?_ U8))))))))))) ?_
 intro f6 w7 H8 X9 f2 hS c8 f3 hcq
 refine Z4 (vI a4) (evT (c8 5 rfl) b2) rfl ?_
 exact qn (.refl _) rfl hS rfl
 intro i3 i4 i5 i6 f4 hS c9 f5 hcq
 refine Z4 (s0) (evT (c9 0 rfl) a8) rfl ?_
 exact qn (.refl _) rfl hS rfl
 intro i7 i8 i9 j0 f7 hS d0 f8 hcq
 refine Z4 (vI a3) (evT (d0 6 rfl) a7) rfl ?_
 exact qn (.refl _) rfl hS rfl
 intro j1 j2 j3 j4 f9 hS g0 c2 hcq
 refine W3 Q2 rfl (eM (c2 1 14 rfl rfl)) c6 (eM (c2 2 15 rfl rfl)) (by omega) (by omega) rfl ?_
 exact qn (.refl _) rfl hS rfl
 intro j5 j6 j7 j8 d1 hS g1 d2 hcq
 have b4 := d1.1 _ _ b4
 refine Y4 (vI (rd a0 a3)) ty2 (eM (d2 3 16 rfl rfl)) (hS.froz _ _ b4) (c7 0 (show 0 < 1 by decide)) rfl ?_
 exact qn (.refl _) rfl hS rfl
 intro j9 k0 k1 k2 g2 hS d3 g3 hcq
 refine Z4 (vI a3) (evT (d3 6 rfl) a7) rfl ?_
 exact qn (.refl _) rfl hS rfl
 intro k3 k4 k5 k6 g4 hS d4 d5 hcq
 refine V5 Zd3 (evT (d4 3 rfl) b0) (eM (d5 5 18 rfl rfl)) (by omega) (by omega) rfl ?_
 exact qn (.refl _) rfl hS rfl
 intro k7 k8 k9 l0 g5 hS g6 d6 hcq
 refine Y4 (Value.int .u8 (Y5 a1 a3)) ty5 (eM (d6 6 19 rfl rfl)) (hS.get (o := cA (Z7 .u8 a1) 70) (mR mL)) (M7 ([]) ([]) (by omega) (by omega)) rfl ?_
 exact qn (.refl _) rfl hS rfl
 intro l1 l2 l3 l4 g7 hS g8 d7 hcq
 refine Yh0 (s := .u8) ((IntKind.i64.wrap (Y5 a1 a3))) Xz2 (eM (d7 7 20 rfl rfl)) rfl rfl ?_
 exact qn (.refl _) rfl hS rfl
 intro g9 h0 h1 h2 e4 hS e5 b6 hcq
 refine Zo2 (IntKind.i64.wrap ((rd a0 a3) * (IntKind.i64.wrap (Y5 a1 a3)))) (eM (b6 4 17 rfl rfl)) (eM (b6 8 21 rfl rfl)) rfl rfl ?_
 exact qn (.refl _) rfl hS rfl
 intro h3 h4 h5 h6 e6 hS e7 b7 hcq
 refine W8 (IntKind.i64.wrap (a4 + (IntKind.i64.wrap ((rd a0 a3) * (IntKind.i64.wrap (Y5 a1 a3)))))) (eM (b7 0 13 rfl rfl)) (eM (b7 9 22 rfl rfl)) rfl rfl ?_
 exact qn (.refl _) rfl hS rfl
 intro h7 d8 c3 b8 hS b3 c4 hcq
 have hS : St c3 d8 ([(b1, cA (Z7 .u8 a1) 70)] ++ L) := hS
 have Z2 := Z2.trans b8
 have a9 := a9.mono b8
 refine Z5 (vI (IntKind.i64.wrap (a4 + (IntKind.i64.wrap ((rd a0 a3) * (IntKind.i64.wrap (Y5 a1 a3))))))) (by exact (eM (c4 10 23 (by decide) rfl))) rfl (Z1 (X2 (Z0 (Z4 (vI a3) (by exact (evT (b3 6 rfl) a7)) rfl ?_))))
 refine W8 (a3 + 1) rfl rfl (IntWalk.i64_in _ (by omega)) rfl (Z5 (vI (a3 + 1)) rfl rfl (Z1 ?_))
 exact d9 _ _ ⟨(IntKind.i64.wrap (a4 + (IntKind.i64.wrap ((rd a0 a3) * (IntKind.i64.wrap (Y5 a1 a3)))))), (a3 + 1), c3, a5, Z2, hS, (by omega), a9, (evT (b3 0 rfl) a8), (evT (b3 3 rfl) b0), rfl, rfl⟩
 rw [if_neg b5] at a5
 refine Z8 (bF b5 rfl) ?_
 refine W4 rfl ?_
 have hz := Option.some.inj a5
 subst hz
 exact e0 _ _ ⟨a4, c5, rfl, Z2, hS, b2⟩
 exact ⟨0, 0, H, a5, Z2, hS, (by omega), a9, rfl, rfl, rfl, rfl⟩
 rintro h8 h9 ⟨a6, i0, rfl, Z2, hS, b9⟩
 dsimp only [Ex.elim] at c1
 refine Z3 (Z0 (Z4 (vI a6) (by exact b9) rfl (Z5 (vI a6) rfl rfl (Z1 ?_))))
 refine X0 (vs := [vI a6]) Tryz.func216 ⟨rfl, trivial⟩ ?_
 have hz := Option.some.inj c1
 subst hz
 exact ⟨_, _, rfl, Z2, (St.dropA hS), rfl⟩
def Za8 (K : Nat) (a0 : A8) : Nat → Int → A8 → Option (Ex A8 (A8))
 | 0, _, _ => none
 | k + 1, a1, a3 => (if a1 < 8 then Za8 K a0 k (a1 + 1) (S3 a3 a1 (IntKind.i64.wrap (Y5 a0 a1))) else some (.go a3))
def Zf5 (K : Nat) (a0 : A8) : Option A8 := ((Za8 K a0 K 0 (fun _ => 0)).bind (Ex.elim (fun r => some r) (fun s => (fun (a4 : A8) => some a4) s)))
theorem Zq1 {K : Nat} {a0 : A8} {r : A8} (q0 : Zf5 K a0 = some r) {H : FH} {w : World} {L : OL} (hS : St H w L) :
 Calls Tryz.prog 176 #[vA (Z7 .u8 a0)] w (T2 (fun v G => (R.agg (Zr5 .i64)).p G v r) H L) := by
 have Z2 := Sub.refl H
 refine X3 Tryz.func176 rfl Tryz.ntmps176 rfl ?_
 unfold Zf5 at q0
 refine Z3 (Z0 ?_)
 refine S4 (v := vA (Z7 .u8 a0)) (Z7 .u8 a0).toArray rfl rfl hS rfl ?_
 intro b1 w2 hS
 refine V1 (z := vA (Z7 .i64 (fun _ => 0))) (Z7 .i64 (fun _ => 0)).toArray Zn3.zero rfl hS rfl ?_
 intro b4 w5 hS
 refine Z1 (Z3 (Z0 ?_))
 refine Q1 (vA (Z7 .i64 (fun _ => 0))) Xc7 rfl ?_
 refine V1 (z := vA (Z7 .i64 (fun _ => 0))) (Z7 .i64 (fun _ => 0)).toArray Zn3.zero rfl hS rfl ?_
 intro b7 w8 hS
 refine W0 (v := vA (Z7 .i64 (fun _ => 0))) (vs := (Z7 .i64 (fun _ => 0)).toArray) (cs := (Z7 .i64 (fun _ => 0)).toArray) N4 rfl rfl rfl hS rfl (S9 .i64 (fun _ => 0)) rfl ?_
 intro c7 hS
 refine Z1 (Z3 (Z3 (Z0 ?_)))
 refine W2 N6 rfl (hS.get (mR (mR mL))) rfl rfl (Z4 (vI 0) rfl rfl (Z1 (Y8 ?_)))
 obtain ⟨b5, a5, b6⟩ := bind_some q0
 refine W5 (id := 0) (fun k f w => ∃ (a1 : Int) (a3 : A8) (H1 : FH), Za8 K a0 k a1 a3 = some b5 ∧ Sub H H1 ∧ St H1 w ([(b7, cA (Z7 .i64 a3) 188)] ++ ([(b4, cA (Z7 .i64 (fun _ => 0)) 188)] ++ ([(b1, cA (Z7 .u8 a0) 70)] ++ L))) ∧ 0 ≤ a1 ∧ ev f (.tmp 2) = vP b4 ∧ ev f (.tmp 3) = vP b7 ∧ ev f (.tmp 7) = vA (Z7 .u8 a0) ∧ ev f (.tmp 8) = vI a1) (fun f w => ∃ (a4 : A8) (H1 : FH), b5 = .go a4 ∧ Sub H H1 ∧ St H1 w ([(b7, cA (Z7 .i64 a4) 188)] ++ ([(b4, cA (Z7 .i64 (fun _ => 0)) 188)] ++ ([(b1, cA (Z7 .u8 a0) 70)] ++ L))) ∧ ev f (.tmp 2) = vP b4 ∧ ev f (.tmp 3) = vP b7) rfl ?_ ?_ K ?_ ?_
 rintro f w ⟨a1, a3, H1, a5, _⟩
 rw [Za8] at a5; cases a5
 rintro k c2 c3 b9 c0 ⟨a1, a3, b8, a5, Z2, hS, c1, a8, a7, a9, a6⟩
 rw [Za8] at a5
 refine Z3 (Z0 ?_)
 refine V7 (k := .i64) (a := a1) (b := 8) (by exact a6) rfl rfl (Z1 (Z3 ?_))
 by_cases b2 : a1 < 8
 rw [if_pos b2] at a5
 refine Y0 (bT b2 rfl) (Y7 (Z3 (Y8 (Z3 (Z0 (Z4 (vI a1) (by exact a6) rfl ?_))))))
 refine Yj5 (Value.int .u8 (Y5 a0 a1)) Zd3 (by exact a9) (by exact a6) (by omega) (by omega) (Yh8 (by omega) (by omega)) rfl (Z5 (vI a1) rfl rfl (Z5 (Value.int .u8 (Y5 a0 a1)) rfl rfl (Z1 (Z0 (Z4 (vI a1) rfl rfl (Z4 (Value.int .u8 (Y5 a0 a1)) rfl rfl ?_))))))
 refine Yh0 (s := .u8) ((IntKind.i64.wrap (Y5 a0 a1))) Va1 rfl rfl rfl ?_
 refine V5 Zi8 (by exact a7) rfl (by omega) (by omega) rfl ?_
 refine Za5 (v := vI (IntKind.i64.wrap (Y5 a0 a1))) (cs := (Z7 .i64 a3).toArray) (cs' := (Z7 .i64 (S3 a3 a1 (IntKind.i64.wrap (Y5 a0 a1)))).toArray) ty3 rfl rfl hS rfl (Zz4 rfl) (by simp [Z7, N7]; omega) (Zi5 (by omega) (by omega)) ?_
 intro c8 hS
 refine Z1 (X2 (Z0 ?_))
 refine W8 (a1 + 1) (by exact a6) rfl (IntWalk.i64_in _ (by omega)) rfl (Z4 (vI (a1 + 1)) rfl rfl (Z1 ?_))
 exact b9 _ _ ⟨(a1 + 1), (S3 a3 a1 (IntKind.i64.wrap (Y5 a0 a1))), b8, a5, Z2, hS, (by omega), a8, a7, a9, rfl⟩
 rw [if_neg b2] at a5
 refine Z8 (bF b2 rfl) ?_
 refine W4 rfl ?_
 have hz := Option.some.inj a5
 subst hz
 exact c0 _ _ ⟨a3, b8, rfl, Z2, hS, a8, a7⟩
 exact ⟨0, (fun _ => 0), H, a5, Z2, hS, (by omega), rfl, rfl, rfl, rfl⟩
 rintro c4 c5 ⟨a4, c6, rfl, Z2, hS, b0, b3⟩
 dsimp only [Ex.elim] at b6
 refine Z3 (Z0 ?_)
 refine W2 N4 (by exact b3) (hS.get mL) rfl rfl ?_
 have hS := hS.perm U1
 refine W0 (v := vA (Z7 .i64 a4)) (vs := (Z7 .i64 a4).toArray) (cs := (Z7 .i64 (fun _ => 0)).toArray) N4 (by exact b0) rfl rfl hS rfl (S9 .i64 a4) rfl ?_
 intro c9 hS
 have hS := hS.perm U1.symm
 refine Z1 ?_
 refine X0 (vs := [vA (Z7 .i64 a4)]) Tryz.func176 ⟨⟨_, (by exact b0), U5 N4 (hS.get (mR mL)) rfl⟩, trivial⟩ ?_
 have hz := Option.some.inj b6
 subst hz
 exact ⟨_, _, rfl, Z2, (St.dropA (St.dropA (St.dropA hS))), ⟨_, rfl, rfl⟩⟩
def Zk5 (K : Nat) (c3 : Int → Int → Int → Option (Ex Int (Int))) (a1 : Int) (a3 : Int) (a6 : Int) : Option (Ex Int (Int)) := c3 (((IntKind.i64.wrap (a1 * a1))).tmod 10007) a6 (IntKind.i64.wrap ((a3).tdiv 2))
def L5 (K : Nat) : Nat → Int → Int → Int → Option (Ex Int (Int))
 | 0, _, _, _ => none
 | k + 1, a1, a4, a3 => (if 0 < a3 then (if ((a3).tmod 2) = 1 then Zk5 K (L5 K k) a1 a3 (((IntKind.i64.wrap (a4 * a1))).tmod 10007) else Zk5 K (L5 K k) a1 a3 a4) else some (.go a4))
def Zr3 (K : Nat) (a0 : Int) : Option Int := ((L5 K K a0 1 10005).bind (Ex.elim (fun r => some r) (fun s => (fun (a7 : Int) => some a7) s)))
theorem Yx2 {K : Nat} {a0 : Int} {r : Int} (q0 : Zr3 K a0 = some r) {H : FH} {w : World} {L : OL} (hS : St H w L) :
 Calls Tryz.prog 152 #[vI a0] w (T2 (fun v G => (R.int .i64).p G v r) H L) := by
 have Z2 := Sub.refl H
 refine X3 Tryz.func152 rfl Tryz.ntmps152 rfl ?_
 unfold Zr3 at q0
 refine Z3 (Z0 (Z5 (vI 0) rfl rfl (Z1 (Z3 (Z0 (Z5 (vI 1) rfl rfl (Z1 (Z3 (Z3 (Z0 (Z5 (vI 10005) rfl rfl (Z1 (Y8 ?_)))))))))))))
 obtain ⟨b2, a5, b8⟩ := bind_some q0
 refine W5 (id := 0) (fun k f w => ∃ (a1 : Int) (a4 : Int) (a3 : Int) (H1 : FH), L5 K k a1 a4 a3 = some b2 ∧ Sub H H1 ∧ St H1 w (L) ∧ ev f (.tmp 0) = vI a1 ∧ ev f (.tmp 3) = vI a4 ∧ ev f (.tmp 4) = vI a3) (fun f w => ∃ (a7 : Int) (H1 : FH), b2 = .go a7 ∧ Sub H H1 ∧ St H1 w (L) ∧ ev f (.tmp 3) = vI a7) rfl ?_ ?_ K ?_ ?_
 rintro f w ⟨a1, a4, a3, H1, a5, _⟩
 rw [L5] at a5; cases a5
 rintro k c7 c8 c4 c5 ⟨a1, a4, a3, b3, a5, Z2, hS, a9, b0, a8⟩
 rw [L5] at a5
 refine Z3 (Z3 (Z0 (Z4 (vI a3) (by exact a8) rfl ?_)))
 refine Zf8 (k := .i64) (a := a3) (b := 0) rfl rfl rfl (Z1 ?_)
 by_cases b4 : 0 < a3
 rw [if_pos b4] at a5
 refine Y0 (bT b4 rfl) (Y7 (Z3 (Y8 (Z3 (Z3 (Z0 (Z4 (vI a3) (by exact a8) rfl ?_)))))))
 refine Zh4 ((a3).tmod 2) rfl rfl (by decide) rfl rfl ?_
 refine Za4 (k := .i64) (a := ((a3).tmod 2)) (b := 1) rfl rfl rfl (Z1 ?_)
 refine B6 (fun f w => ∃ (a6 : Int) (H1 : FH), Zk5 K (L5 K k) a1 a3 a6 = some b2 ∧ Sub H H1 ∧ St H1 w (L) ∧ ev f (.tmp 0) = vI a1 ∧ ev f (.tmp 3) = vI a6 ∧ ev f (.tmp 4) = vI a3) ?_ ?_
 rintro d2 c6 ⟨a6, c1, b5, Z2, hS, b1, b9, c0⟩
 unfold Zk5 at b5
 refine Z0 (Z4 (vI a1) (by exact b1) rfl (Z4 (vI a1) (by exact b1) rfl ?_))
 refine Zo2 (IntKind.i64.wrap (a1 * a1)) rfl rfl rfl rfl ?_
 refine Zh4 (((IntKind.i64.wrap (a1 * a1))).tmod 10007) rfl rfl (by decide) rfl rfl (Z5 (vI (((IntKind.i64.wrap (a1 * a1))).tmod 10007)) rfl rfl (Z1 (X2 (Z0 (Z4 (vI a3) (by exact c0) rfl ?_)))))
 refine Wo2 (IntKind.i64.wrap ((a3).tdiv 2)) rfl rfl (by decide) rfl rfl (Z5 (vI (IntKind.i64.wrap ((a3).tdiv 2))) rfl rfl (Z1 ?_))
 exact c4 _ _ ⟨(((IntKind.i64.wrap (a1 * a1))).tmod 10007), a6, (IntKind.i64.wrap ((a3).tdiv 2)), c1, b5, Z2, hS, rfl, b9, rfl⟩
 intro c2
 by_cases b6 : ((a3).tmod 2) = 1
 rw [if_pos b6] at a5
 refine Y0 (bT b6 rfl) (Z0 (Z4 (vI a4) (by exact b0) rfl (Z4 (vI a1) (by exact a9) rfl ?_)))
 refine Zo2 (IntKind.i64.wrap (a4 * a1)) rfl rfl rfl rfl ?_
 refine Zh4 (((IntKind.i64.wrap (a4 * a1))).tmod 10007) rfl rfl (by decide) rfl rfl (Z5 (vI (((IntKind.i64.wrap (a4 * a1))).tmod 10007)) rfl rfl (Z1 ?_))
 exact c2 _ _ ⟨(((IntKind.i64.wrap (a4 * a1))).tmod 10007), b3, a5, Z2, hS, a9, rfl, a8⟩
 rw [if_neg b6] at a5
 refine Z8 (bF b6 rfl) (Y7 ?_)
 exact c2 _ _ ⟨a4, b3, a5, Z2, hS, a9, b0, a8⟩
 rw [if_neg b4] at a5
 refine Z8 (bF b4 rfl) ?_
 refine W4 rfl ?_
 have hz := Option.some.inj a5
 subst hz
 exact c5 _ _ ⟨a4, b3, rfl, Z2, hS, b0⟩
 exact ⟨a0, 1, 10005, H, a5, Z2, hS, rfl, rfl, rfl⟩
 rintro c9 d0 ⟨a7, d1, rfl, Z2, hS, b7⟩
 dsimp only [Ex.elim] at b8
 refine Z3 (Z0 (Z4 (vI a7) (by exact b7) rfl (Z5 (vI a7) rfl rfl (Z1 ?_))))
 refine X0 (vs := [vI a7]) Tryz.func152 ⟨rfl, trivial⟩ ?_
 have hz := Option.some.inj b8
 subst hz
 exact ⟨_, _, rfl, Z2, hS, rfl⟩
def V3 (K : Nat) (a0 : (List MpT)) (a1 : (MpT → Option Bool)) : Nat → Int → Option (Ex Int (Unit))
 | 0, _ => none
 | k + 1, a3 => (if a3 < (a0.length : Int) then ((a1 (rd a0 a3)).bind fun r4 => (if r4 = true then some (.ret a3) else V3 K a0 a1 k (a3 + 1))) else some (.go ()))
def J3 (K : Nat) (a0 : (List MpT)) (a1 : (MpT → Option Bool)) : Option Int := ((V3 K a0 a1 K 0).bind (Ex.elim (fun r => some r) (fun s => some (-1))))
theorem Zr0 {K : Nat} {a0 : (List MpT)} {a1 : (MpT → Option Bool)} {r : Int} (q0 : J3 K a0 a1 = some r) {H : FH} {w : World} {L : OL} {s0 : Value} {s1 : Value} (a6 : Y1 (X6 yT) H s0 a0) (a7 : FnQ Tryz.prog s1 (R.agg (X6 yT)) a1 H) (hS : St H w L) :
 Calls Tryz.prog 222 #[s0, s1] w (T2 (fun v G => (R.int .i64).p G v r) H L) := by
 have Z2 := Sub.refl H
 refine X3 Tryz.func222 rfl Tryz.ntmps222 rfl ?_
 unfold J3 at q0
 refine Z3 (Z0 (Z5 (vI 0) rfl rfl (Z1 (Z3 (Z3 (Z0 (Z4 (s0) rfl rfl ?_)))))))
 have d2 := a6.bound
 refine W7 I1 rfl a6 rfl (Z4 (vI 0) rfl rfl (Z1 (Y8 ?_)))
 obtain ⟨b5, a4, b1⟩ := bind_some q0
 refine W5 (id := 0) (fun k f w => ∃ (a3 : Int) (H1 : FH), V3 K a0 a1 k a3 = some b5 ∧ Sub H H1 ∧ St H1 w (L) ∧ 0 ≤ a3 ∧ Y1 (X6 yT) H1 s0 a0 ∧ FnQ Tryz.prog s1 (R.agg (X6 yT)) a1 H1 ∧ ev f (.tmp 0) = s0 ∧ ev f (.tmp 1) = s1 ∧ ev f (.tmp 7) = vI (a0.length : Int) ∧ ev f (.tmp 8) = vI a3) (fun f w => ∃ (H1 : FH), b5 = .go () ∧ Sub H H1 ∧ St H1 w (L)) rfl ?_ ?_ K ?_ ?_
 rintro f w ⟨a3, H1, a4, _⟩
 rw [V3] at a4; cases a4
 rintro k c7 c8 c0 c1 ⟨a3, b8, a4, Z2, hS, c2, a6, a7, a8, a9, b0, a5⟩
 rw [V3] at a4
 refine Z3 (Z0 ?_)
 refine V7 (k := .i64) (a := a3) (b := (a0.length : Int)) (by exact a5) (by exact b0) rfl (Z1 (Z3 ?_))
 by_cases b2 : a3 < (a0.length : Int)
 rw [if_pos b2] at a4
 refine Y0 (bT b2 rfl) (Y7 (Z3 (Y8 (Z3 (Z0 (Z4 (vI a3) (by exact a5) rfl (Z5 (vI a3) rfl rfl (Z1 (Z3 (Z0 (Z4 (s1) (by exact a9) rfl (Z4 (s0) (by exact a8) rfl (Z4 (vI a3) rfl rfl ?_)))))))))))))
 obtain ⟨b3, o3, d3, E3, _, c3, c4, ⟨b9, rfl, b7⟩, c5⟩ := a6.elem (i := a3) (by omega) (by omega)
 refine W3 I1 rfl rfl c3 rfl (by omega) (by omega) rfl ?_
 refine V6 ([b9]) T1 rfl (hS.froz _ _ c4) rfl c5 rfl ?_
 obtain ⟨r4, c6, a4⟩ := bind_some a4
 refine Xx4 a7 rfl rfl hS ⟨_, rfl, ⟨_, rfl, b7⟩⟩ c6 rfl ?_
 intro H4 w5 b6 hS
 have Z2 := Z2.trans b6
 have a6 := a6.mono b6
 have a7 := a7.mono b6
 refine Z1 ?_
 by_cases b4 : r4 = true
 rw [if_pos b4] at a4
 refine Y0 (Eq.trans rfl (congrArg Value.bool b4)) (Z3 (Z0 (Z4 (vI a3) rfl rfl (Z5 (vI a3) rfl rfl (Z1 ?_)))))
 refine X0 (vs := [vI a3]) Tryz.func222 ⟨rfl, trivial⟩ ?_
 have hz := Option.some.inj a4
 subst hz
 dsimp only [Ex.elim] at b1
 have hz := Option.some.inj b1
 subst hz
 exact ⟨_, _, rfl, Z2, hS, rfl⟩
 rw [if_neg b4] at a4
 refine Z8 (Eq.trans rfl (congrArg Value.bool (W1 b4))) (Y7 (X2 (Z0 ?_)))
 refine W8 (a3 + 1) (by exact a5) rfl (IntWalk.i64_in _ (by omega)) rfl (Z4 (vI (a3 + 1)) rfl rfl (Z1 ?_))
 exact c0 _ _ ⟨(a3 + 1), H4, a4, Z2, hS, (by omega), a6, a7, a8, a9, b0, rfl⟩
 rw [if_neg b2] at a4
 refine Z8 (bF b2 rfl) ?_
 refine W4 rfl ?_
 have hz := Option.some.inj a4
 subst hz
 exact c1 _ _ ⟨b8, rfl, Z2, hS⟩
 exact ⟨0, H, a4, Z2, hS, (by omega), a6, a7, rfl, rfl, rfl, rfl⟩
 rintro c9 d0 ⟨d1, rfl, Z2, hS⟩
 dsimp only [Ex.elim] at b1
 refine Z3 (Z0 (Z5 (vI (-1)) rfl rfl (Z1 ?_)))
 refine X0 (vs := [vI (-1)]) Tryz.func222 ⟨rfl, trivial⟩ ?_
 have hz := Option.some.inj b1
 subst hz
 exact ⟨_, _, rfl, Z2, hS, rfl⟩
def L3 (K : Nat) (a0 : (List Int)) (a1 : Int) : Nat → Int → Option (Ex Int (Unit))
 | 0, _ => none
 | k + 1, a3 => (if a3 < (a0.length : Int) then (if a1 = (rd a0 a3) then some (.ret a3) else L3 K a0 a1 k (a3 + 1)) else some (.go ()))
def Zn9 (K : Nat) (a0 : (List Int)) (a1 : Int) : Option Int := ((L3 K a0 a1 K 0).bind (Ex.elim (fun r => some r) (fun s => some (-1))))
theorem Ye4 {K : Nat} {a0 : (List Int)} {a1 : Int} {r : Int} (q0 : Zn9 K a0 a1 = some r) {H : FH} {w : World} {L : OL} {s0 : Value} (a6 : Y1 (Y6 .i64) H s0 a0) (hS : St H w L) :
 Calls Tryz.prog 252 #[s0, vI a1] w (T2 (fun v G => (R.int .i64).p G v r) H L) := by
 have Z2 := Sub.refl H
 refine X3 Tryz.func252 rfl Tryz.ntmps252 rfl ?_
 unfold Zn9 at q0
 refine Z3 (Z0 (Z5 (vI 0) rfl rfl (Z1 (Z3 (Z3 (Z0 (Z4 (s0) rfl rfl ?_)))))))
 have c7 := a6.bound
 refine W7 Zo3 rfl a6 rfl (Z4 (vI 0) rfl rfl (Z1 (Y8 ?_)))
 obtain ⟨b4, a4, b0⟩ := bind_some q0
 refine W5 (id := 0) (fun k f w => ∃ (a3 : Int) (H1 : FH), L3 K a0 a1 k a3 = some b4 ∧ Sub H H1 ∧ St H1 w (L) ∧ 0 ≤ a3 ∧ Y1 (Y6 .i64) H1 s0 a0 ∧ ev f (.tmp 0) = s0 ∧ ev f (.tmp 1) = vI a1 ∧ ev f (.tmp 7) = vI (a0.length : Int) ∧ ev f (.tmp 8) = vI a3) (fun f w => ∃ (H1 : FH), b4 = .go () ∧ Sub H H1 ∧ St H1 w (L)) rfl ?_ ?_ K ?_ ?_
 rintro f w ⟨a3, H1, a4, _⟩
 rw [L3] at a4; cases a4
 rintro k c2 c3 b6 b7 ⟨a3, b5, a4, Z2, hS, b8, a6, a7, a8, a9, a5⟩
 rw [L3] at a4
 refine Z3 (Z0 ?_)
 refine V7 (k := .i64) (a := a3) (b := (a0.length : Int)) (by exact a5) (by exact a9) rfl (Z1 (Z3 ?_))
 by_cases b1 : a3 < (a0.length : Int)
 rw [if_pos b1] at a4
 refine Y0 (bT b1 rfl) (Y7 (Z3 (Y8 (Z3 (Z0 (Z4 (vI a3) (by exact a5) rfl (Z5 (vI a3) rfl rfl (Z1 (Z3 (Z0 (Z4 (vI a1) (by exact a8) rfl (Z4 (s0) (by exact a7) rfl (Z4 (vI a3) rfl rfl ?_)))))))))))))
 obtain ⟨b3, o3, c8, E3, _, b9, c0, rfl, c1⟩ := a6.elem (i := a3) (by omega) (by omega)
 refine W3 Zo3 rfl rfl b9 rfl (by omega) (by omega) rfl ?_
 refine Y4 (vI (rd a0 a3)) ty3 rfl (hS.froz _ _ c0) (c1 0 (show 0 < 1 by decide)) rfl ?_
 refine Za4 (k := .i64) (a := a1) (b := (rd a0 a3)) rfl rfl rfl (Z1 ?_)
 by_cases b2 : a1 = (rd a0 a3)
 rw [if_pos b2] at a4
 refine Y0 (bT b2 rfl) (Z3 (Z0 (Z4 (vI a3) rfl rfl (Z5 (vI a3) rfl rfl (Z1 ?_)))))
 refine X0 (vs := [vI a3]) Tryz.func252 ⟨rfl, trivial⟩ ?_
 have hz := Option.some.inj a4
 subst hz
 dsimp only [Ex.elim] at b0
 have hz := Option.some.inj b0
 subst hz
 exact ⟨_, _, rfl, Z2, hS, rfl⟩
 rw [if_neg b2] at a4
 refine Z8 (bF b2 rfl) (Y7 (X2 (Z0 ?_)))
 refine W8 (a3 + 1) (by exact a5) rfl (IntWalk.i64_in _ (by omega)) rfl (Z4 (vI (a3 + 1)) rfl rfl (Z1 ?_))
 exact b6 _ _ ⟨(a3 + 1), b5, a4, Z2, hS, (by omega), a6, a7, a8, a9, rfl⟩
 rw [if_neg b1] at a4
 refine Z8 (bF b1 rfl) ?_
 refine W4 rfl ?_
 have hz := Option.some.inj a4
 subst hz
 exact b7 _ _ ⟨b5, rfl, Z2, hS⟩
 exact ⟨0, H, a4, Z2, hS, (by omega), a6, rfl, rfl, rfl, rfl⟩
 rintro c4 c5 ⟨c6, rfl, Z2, hS⟩
 dsimp only [Ex.elim] at b0
 refine Z3 (Z0 (Z5 (vI (-1)) rfl rfl (Z1 ?_)))
 refine X0 (vs := [vI (-1)]) Tryz.func252 ⟨rfl, trivial⟩ ?_
 have hz := Option.some.inj b0
 subst hz
 exact ⟨_, _, rfl, Z2, hS, rfl⟩
def F6 (K : Nat) (a0 : Int) : Option A8 := (if 0 ≤ a0 then (if a0 < 8 then some (S3 (fun _ => 0) a0 1) else none) else none)
theorem Ze0 {K : Nat} {a0 : Int} {r : A8} (q0 : F6 K a0 = some r) {H : FH} {w : World} {L : OL} (hS : St H w L) :
 Calls Tryz.prog 151 #[vI a0] w (T2 (fun v G => (R.agg (Zr5 .i64)).p G v r) H L) := by
 have Z2 := Sub.refl H
 refine X3 Tryz.func151 rfl Tryz.ntmps151 rfl ?_
 unfold F6 at q0
 refine Z3 (Z0 ?_)
 refine V1 (z := vA (Z7 .i64 (fun _ => 0))) (Z7 .i64 (fun _ => 0)).toArray Zn3.zero rfl hS rfl ?_
 intro b1 w2 hS
 refine Z1 (Z3 (Z0 ?_))
 refine Q1 (vA (Z7 .i64 (fun _ => 0))) Xc7 rfl ?_
 refine V1 (z := vA (Z7 .i64 (fun _ => 0))) (Z7 .i64 (fun _ => 0)).toArray Zn3.zero rfl hS rfl ?_
 intro b4 w5 hS
 refine W0 (v := vA (Z7 .i64 (fun _ => 0))) (vs := (Z7 .i64 (fun _ => 0)).toArray) (cs := (Z7 .i64 (fun _ => 0)).toArray) N4 rfl rfl rfl hS rfl (S9 .i64 (fun _ => 0)) rfl ?_
 intro w7 hS
 refine Z1 (Z3 (Z0 (Z4 (vI a0) rfl rfl ?_)))
 obtain ⟨a1, q0⟩ := gd q0
 obtain ⟨a3, q0⟩ := gd q0
 refine V5 Zi8 rfl rfl (by omega) (by omega) rfl ?_
 refine Za5 (v := vI 1) (cs := (Z7 .i64 (fun _ => 0)).toArray) (cs' := (Z7 .i64 (S3 (fun _ => 0) a0 1)).toArray) ty3 rfl rfl hS rfl (Zz4 rfl) (by simp [Z7, N7]; omega) (Zi5 (by omega) (by omega)) ?_
 intro a4 hS
 refine Z1 (Z3 (Z0 ?_))
 refine W2 N4 rfl (hS.get mL) rfl rfl ?_
 have hS := hS.perm U1
 refine W0 (v := vA (Z7 .i64 (S3 (fun _ => 0) a0 1))) (vs := (Z7 .i64 (S3 (fun _ => 0) a0 1)).toArray) (cs := (Z7 .i64 (fun _ => 0)).toArray) N4 rfl rfl rfl hS rfl (S9 .i64 (S3 (fun _ => 0) a0 1)) rfl ?_
 intro a5 hS
 have hS := hS.perm U1.symm
 refine Z1 ?_
 refine X0 (vs := [vA (Z7 .i64 (S3 (fun _ => 0) a0 1))]) Tryz.func151 ⟨⟨_, rfl, U5 N4 (hS.get (mR mL)) rfl⟩, trivial⟩ ?_
 have hz := Option.some.inj q0
 subst hz
 exact ⟨_, _, rfl, Z2, (St.dropA (St.dropA hS)), ⟨_, rfl, rfl⟩⟩
def Zr4 (K : Nat) (a0 : Int) (a1 : Int) (a2 : Int) : Option Bool := (if a1 ≤ a0 then some (decide (a0 ≤ a2)) else some false)
theorem Zu9 {K : Nat} {a0 : Int} {a1 : Int} {a2 : Int} {r : Bool} (q0 : Zr4 K a0 a1 a2 = some r) {H : FH} {w : World} {L : OL} (hS : St H w L) :
 Calls Tryz.prog 93 #[vI a0, vI a1, vI a2] w (T2 (fun v G => R.bool.p G v r) H L) := by
 have Z2 := Sub.refl H
 refine X3 Tryz.func93 rfl Tryz.ntmps93 rfl ?_
 unfold Zr4 at q0
 refine Z3 (Z0 (Z5 (Value.bool false) rfl rfl (Z1 (Z3 (Z0 (Z4 (vI a0) rfl rfl (Z4 (vI a1) rfl rfl ?_)))))))
 refine Yc2 (k := .i64) (a := a0) (b := a1) rfl rfl rfl (Z4 (Value.bool (decide (a1 ≤ a0))) rfl rfl ?_)
 by_cases a3 : a1 ≤ a0
 rw [if_pos a3] at q0
 refine Y2 rfl rfl (bT a3 rfl) (Z4 (vI a0) rfl rfl ?_)
 refine Y2 rfl rfl (bT a3 rfl) (Z4 (vI a2) rfl rfl ?_)
 refine Y2 rfl rfl (bT a3 rfl) ?_
 refine Yv7 (k := .i64) (a := a0) (b := a2) rfl rfl rfl ?_
 refine V2 (t := true) (Value.bool (decide (a0 ≤ a2))) (bT a3 rfl) ((if_pos rfl).trans rfl) rfl (Z5 (Value.bool (decide (a0 ≤ a2))) rfl rfl (Z1 ?_))
 refine X0 (vs := [Value.bool (decide (a0 ≤ a2))]) Tryz.func93 ⟨rfl, trivial⟩ ?_
 have hz := Option.some.inj q0
 subst hz
 exact ⟨_, _, rfl, Z2, hS, rfl⟩
 rw [if_neg a3] at q0
 refine Z9 rfl rfl (bF a3 rfl) rfl rfl rfl (Z9 rfl rfl (bF a3 rfl) rfl rfl rfl (Z9 rfl rfl (bF a3 rfl) rfl rfl rfl ?_))
 refine V2 (t := false) (Value.bool false) (bF a3 rfl) ((if_neg Bool.false_ne_true).trans rfl) rfl (Z5 (Value.bool false) rfl rfl (Z1 ?_))
 refine X0 (vs := [Value.bool false]) Tryz.func93 ⟨rfl, trivial⟩ ?_
 have hz := Option.some.inj q0
 subst hz
 exact ⟨_, _, rfl, Z2, hS, rfl⟩
def Zi9 (K : Nat) (a0 : Int) : Option Int := some (((IntKind.i64.wrap (((a0).tmod 10007) + 10007))).tmod 10007)
theorem Ya3 {K : Nat} {a0 : Int} {r : Int} (q0 : Zi9 K a0 = some r) {H : FH} {w : World} {L : OL} (hS : St H w L) :
 Calls Tryz.prog 215 #[vI a0] w (T2 (fun v G => (R.int .i64).p G v r) H L) := by
 have Z2 := Sub.refl H
 refine X3 Tryz.func215 rfl Tryz.ntmps215 rfl ?_
 unfold Zi9 at q0
 refine Z3 (Z0 (Z5 (vI 0) rfl rfl (Z1 (Z3 (Z0 (Z4 (vI a0) rfl rfl ?_))))))
 refine Zh4 ((a0).tmod 10007) rfl rfl (by decide) rfl rfl ?_
 refine W8 (IntKind.i64.wrap (((a0).tmod 10007) + 10007)) rfl rfl rfl rfl ?_
 refine Zh4 (((IntKind.i64.wrap (((a0).tmod 10007) + 10007))).tmod 10007) rfl rfl (by decide) rfl rfl (Z5 (vI (((IntKind.i64.wrap (((a0).tmod 10007) + 10007))).tmod 10007)) rfl rfl (Z1 ?_))
 refine X0 (vs := [vI (((IntKind.i64.wrap (((a0).tmod 10007) + 10007))).tmod 10007)]) Tryz.func215 ⟨rfl, trivial⟩ ?_
 have hz := Option.some.inj q0
 subst hz
 exact ⟨_, _, rfl, Z2, hS, rfl⟩
end Go.Proofs.YtfodlhkoafhplaaGreat
