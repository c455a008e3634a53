/- Walks of functions: each computes its pure function, if that gives a value. -/
import Derived.Test.YtfodlhkoafhplaaGreatWTy
namespace Go.Proofs.YtfodlhkoafhplaaGreat
open Go
set_option linter.unusedSimpArgs false
set_option linter.unusedVariables false
set_option maxRecDepth 100000
set_option maxHeartbeats 8000000
def Zb1 (K : Nat) (g9 : Int → Int → Option (Ex (A8 × Int) (Int))) (a4 : Int) (a6 : Int) (b5 : Bool) : Option (Ex (A8 × Int) (Int)) := (if b5 = true then g9 (IntKind.i64.wrap (0 - a6)) (IntKind.i64.wrap (a4 + 1)) else g9 a6 (IntKind.i64.wrap (a4 + 1)))
def D3 (K : Nat) (g9 : Int → Int → Option (Ex (A8 × Int) (Int))) (a0 : (List Int)) (a1 : A8) (a4 : Int) (a6 : Int) (b6 : Bool) : Option (Ex (A8 × Int) (Int)) := (if b6 = true then (if 0 ≤ a4 then (if a4 < (a0.length : Int) then (if (((rd a0 a4)).tmod 2) = 0 then Zb1 K (g9) a4 a6 false else (if a4 < 8 then Zb1 K (g9) a4 a6 (decide ((Y5 a1 a4) = 1)) else none)) else none) else none) else some (.go a6))
def R6 (K : Nat) (a0 : (List Int)) (a1 : A8) (a2 : A8) (a3 : Int) : Nat → Int → Int → Option (Ex (A8 × Int) (Int))
 | 0, _, _ => none
 | k + 1, a6, a4 => (if a4 < (a0.length : Int) then D3 K (R6 K a0 a1 a2 a3 k) a0 a1 a4 a6 (decide ((Y5 a2 a3) = 1)) else D3 K (R6 K a0 a1 a2 a3 k) a0 a1 a4 a6 false)
def Q0 (K : Nat) (a0 : (List Int)) (a1 : A8) (a2 : A8) : Nat → Int → A8 → Int → Option (Ex (A8 × Int) (Int × A8))
 | 0, _, _, _ => none
 | k + 1, a3, a5, b8 => (if a3 < (a0.length : Int) then (if a3 < 8 then (if (((rd a0 a3)).tmod 2) = 0 then Q0 K a0 a1 a2 k (a3 + 1) (T8 a5 a3 (IntKind.u8.wrap ((Y5 a1 a3) + (Y5 a2 a3)))) b8 else (if 1 < (Y5 (T8 a5 a3 (IntKind.u8.wrap ((Y5 a1 a3) + (Y5 a2 a3)))) a3) then some (.ret ((fun _ => 0), 0)) else ((R6 K a0 a1 a2 a3 K b8 (a3 + 1)).bind (Ex.elim (fun r => some (.ret r)) (fun s => (fun (d1 : Int) => Q0 K a0 a1 a2 k (a3 + 1) (T8 a5 a3 (IntKind.u8.wrap ((Y5 a1 a3) + (Y5 a2 a3)))) d1) s))))) else none) else some (.go (b8, a5)))
def Zk0 (K : Nat) (a0 : (List Int)) (a1 : A8) (a2 : A8) : Option (A8 × Int) := ((Q0 K a0 a1 a2 K 0 (fun _ => 0) 1).bind (Ex.elim (fun r => some r) (fun s => (fun (c4 : Int) (a7 : A8) => some (a7, c4)) s.1 s.2)))
theorem Yl7 {K : Nat} {a0 : (List Int)} {a1 : A8} {a2 : A8} {r : (A8 × Int)} (q0 : Zk0 K a0 a1 a2 = some r) {H : FH} {w : World} {L : OL} {s0 : Value} (a9 : Y3 (X3 .i64) H s0 a0) (hS : St H w L) :
 Calls Tryz.prog 282 #[s0, vA (Z7 .u8 a1), vA (Z7 .u8 a2)] w (T6 (fun v G => (R.t2 (R.agg (Zo6 .u8)) (R.int .i64)).p G v r) H L) := by
 have Z2 := Sub.refl H
 refine X0 Tryz.func282 rfl Tryz.ntmps282 rfl ?_
 unfold Zk0 at q0
 refine Z3 (Z1 ?_)
 refine T7 (v := vA (Z7 .u8 a1)) (Z7 .u8 a1).toArray rfl rfl hS rfl ?_
 intro b1 w2 hS
 refine T7 (v := vA (Z7 .u8 a2)) (Z7 .u8 a2).toArray rfl rfl hS rfl ?_
 intro b4 w5 hS
 refine W9 (z := vA (Z7 .u8 (fun _ => 0))) (Z7 .u8 (fun _ => 0)).toArray Ya8.zero rfl hS rfl ?_
 intro b7 w8 hS
 refine Z6 (vI 0) rfl rfl (Z0 (Z3 (Z1 ?_)))
 refine Q2 (vA (Z7 .u8 (fun _ => 0))) Yt1 rfl ?_
 refine W9 (z := vA (Z7 .u8 (fun _ => 0))) (Z7 .u8 (fun _ => 0)).toArray Ya8.zero rfl hS rfl ?_
 intro c0 r1 hS
 refine W1 (v := vA (Z7 .u8 (fun _ => 0))) (vs := (Z7 .u8 (fun _ => 0)).toArray) (cs := (Z7 .u8 (fun _ => 0)).toArray) N0 rfl rfl rfl hS rfl (S8 .u8 (fun _ => 0)) rfl ?_
 intro r2 hS
 refine Z6 (vI 1) rfl rfl (Z0 (Z3 (Z3 (Z1 (Z6 (vI 0) rfl rfl (Z0 (Y7 ?_)))))))
 obtain ⟨i5, a8, g5⟩ := bind_some q0
 refine W7 (id := 0) (fun k f w => ∃ (a3 : Int) (a5 : A8) (b8 : Int) (H1 : FH), Q0 K a0 a1 a2 k a3 a5 b8 = some i5 ∧ Sub H H1 ∧ St H1 w ([(c0, cA (Z7 .u8 a5) 70)] ++ ([(b7, cA (Z7 .u8 (fun _ => 0)) 70)] ++ ([(b4, cA (Z7 .u8 a2) 70)] ++ ([(b1, cA (Z7 .u8 a1) 70)] ++ L)))) ∧ 0 ≤ a3 ∧ Y3 (X3 .i64) H1 s0 a0 ∧ ev f (.tmp 0) = s0 ∧ ev f (.tmp 4) = vP b1 ∧ ev f (.tmp 5) = vP b4 ∧ ev f (.tmp 6) = vP b7 ∧ ev f (.tmp 8) = vP c0 ∧ ev f (.tmp 9) = vI b8 ∧ ev f (.tmp 10) = vI a3) (fun f w => ∃ (c4 : Int) (a7 : A8) (H1 : FH), i5 = .go (c4, a7) ∧ Sub H H1 ∧ St H1 w ([(c0, cA (Z7 .u8 a7) 70)] ++ ([(b7, cA (Z7 .u8 (fun _ => 0)) 70)] ++ ([(b4, cA (Z7 .u8 a2) 70)] ++ ([(b1, cA (Z7 .u8 a1) 70)] ++ L)))) ∧ ev f (.tmp 6) = vP b7 ∧ ev f (.tmp 8) = vP c0 ∧ ev f (.tmp 9) = vI c4) rfl ?_ ?_ K ?_ ?_
 rintro f w ⟨a3, a5, b8, H1, a8, _⟩
 rw [Q0] at a8; cases a8
 rintro k m9 n0 k2 l7 ⟨a3, a5, b8, k4, a8, Z2, hS, l6, a9, e9, f0, f1, f2, d2, f3, b9⟩
 rw [Q0] at a8
 refine Z3 (Z3 (Z1 (Z4 (vI a3) (by exact b9) rfl (Z4 (s0) (by exact e9) rfl ?_))))
 have n1 := a9.bound
 refine W6 Q9 rfl a9 rfl ?_
 refine U5 (k := .i64) (a := a3) (b := (a0.length : Int)) rfl rfl rfl (Z0 ?_)
 by_cases g6 : a3 < (a0.length : Int)
 rw [if_pos g6] at a8
 refine Y0 (bT g6 rfl) (Y6 (Z3 (Y7 (Z3 ?_))))
 obtain ⟨n2, a8⟩ := gd a8
 refine V4 9 (R9 [(19, MP.eq (vI a3)), (20, MP.eq (vI a3)), (21, MP.eq (Value.pointer (some ⟨b1, 0 + (a3).toNat * 1, none⟩))), (22, MP.eq (Value.int .u8 (Y5 a1 a3))), (23, MP.eq (vI a3)), (24, MP.eq (Value.pointer (some ⟨b4, 0 + (a3).toNat * 1, none⟩))), (25, MP.eq (Value.int .u8 (Y5 a2 a3))), (26, MP.eq (Value.int .u8 (IntKind.u8.wrap ((Y5 a1 a3) + (Y5 a2 a3))))), (27, MP.eq (Value.pointer (some ⟨c0, 0 + (a3).toNat * 1, none⟩)))]) [] mixed rfl rfl rfl hS (Z5 rfl ?_ (Z5 rfl ?_ (Z5 rfl ?_ (Z5 rfl ?_ (Z5 rfl ?_ (Z5 rfl ?_ (Z5 rfl ?_ (Z5 rfl ?_ (Z5 rfl ?_ V9))))))))) ?_
 intro r3 r4 r5 r6 n3 hS k5 n4 hcq
 refine Z4 (vI a3) (evT (k5 10 rfl) b9) rfl ?_
 exact qn (.refl _) rfl hS rfl
 intro r7 r8 r9 s1 n5 hS k6 n6 hcq
 refine Z4 (vI a3) (evT (k6 10 rfl) b9) rfl ?_
 exact qn (.refl _) rfl hS rfl
 intro s2 s3 s4 s5 n7 hS k7 k8 hcq
 refine W8 Za7 (evT (k7 4 rfl) f0) (eM (k8 1 20 rfl rfl)) (by omega) (by omega) rfl ?_
 exact qn (.refl _) rfl hS rfl
 intro s6 s7 s8 s9 n8 hS n9 k9 hcq
 refine Y4 (Value.int .u8 (Y5 a1 a3)) ty5 (eM (k9 2 21 rfl rfl)) (hS.get (o := cA (Z7 .u8 a1) 70) (mR (mR (mR (mR mL))))) (M3 ([]) ([]) (by omega) (by omega)) rfl ?_
 exact qn (.refl _) rfl hS rfl
 intro t0 t1 t4 t5 o0 hS l0 o1 hcq
 refine Z4 (vI a3) (evT (l0 10 rfl) b9) rfl ?_
 exact qn (.refl _) rfl hS rfl
 intro t6 t7 t8 t9 o2 hS l1 l2 hcq
 refine W8 Za7 (evT (l1 5 rfl) f1) (eM (l2 4 23 rfl rfl)) (by omega) (by omega) rfl ?_
 exact qn (.refl _) rfl hS rfl
 intro u0 u1 u2 u3 o3 hS o4 l3 hcq
 refine Y4 (Value.int .u8 (Y5 a2 a3)) ty5 (eM (l3 5 24 rfl rfl)) (hS.get (o := cA (Z7 .u8 a2) 70) (mR (mR (mR mL)))) (M3 ([]) ([]) (by omega) (by omega)) rfl ?_
 exact qn (.refl _) rfl hS rfl
 intro u4 u5 u6 u7 o5 hS o6 i6 hcq
 refine V0 (IntKind.u8.wrap ((Y5 a1 a3) + (Y5 a2 a3))) (eM (i6 3 22 rfl rfl)) (eM (i6 6 25 rfl rfl)) rfl rfl ?_
 exact qn (.refl _) rfl hS rfl
 intro o7 o8 o9 p0 m2 hS j4 j5 hcq
 refine W8 Za7 (evT (j4 8 rfl) d2) (eM (j5 0 19 rfl rfl)) (by omega) (by omega) rfl ?_
 exact qn (.refl _) rfl hS rfl
 intro p1 l4 h1 h5 hS c2 h6 hcq
 have hS : St h1 l4 ([(c0, cA (Z7 .u8 a5) 70)] ++ ([(b7, cA (Z7 .u8 (fun _ => 0)) 70)] ++ ([(b4, cA (Z7 .u8 a2) 70)] ++ ([(b1, cA (Z7 .u8 a1) 70)] ++ L)))) := hS
 have Z2 := Z2.trans h5
 have a9 := a9.mono h5
 have h2 := evT (c2 0 rfl) e9
 have i7 := evT (c2 4 rfl) f0
 have i8 := evT (c2 5 rfl) f1
 have g7 := evT (c2 6 rfl) f2
 have h3 := evT (c2 8 rfl) d2
 have i9 := evT (c2 9 rfl) f3
 have e3 := evT (c2 10 rfl) b9
 refine D0 (v := Value.int .u8 (IntKind.u8.wrap ((Y5 a1 a3) + (Y5 a2 a3)))) (cs := (Z7 .u8 a5).toArray) (cs' := (Z7 .u8 (T8 a5 a3 (IntKind.u8.wrap ((Y5 a1 a3) + (Y5 a2 a3))))).toArray) ty5 (by exact (eM (h6 8 27 (by decide) rfl))) (by exact (eM (h6 7 26 (by decide) rfl))) hS rfl (Zu7 rfl) (by simp [Z7, U2]; omega) (Ze5 (by omega) (by omega)) ?_
 intro p2 hS
 refine Z0 (Z3 (Z3 (Z1 (Z4 (s0) (by exact h2) rfl (Z4 (vI a3) (by exact e3) rfl ?_)))))
 obtain ⟨p3, p4, m3, p5, _, j6, j7, rfl, j8⟩ := a9.elem (i := a3) (by omega) (by omega)
 refine W3 Q9 rfl rfl j6 rfl (by omega) (by omega) rfl ?_
 refine Y4 (vI (rd a0 a3)) ty2 rfl (hS.froz _ _ j7) (j8 0 (show 0 < 1 by decide)) rfl ?_
 refine Zo0 (((rd a0 a3)).tmod 2) rfl rfl (by decide) rfl rfl ?_
 refine Zf2 (k := .i64) (a := (((rd a0 a3)).tmod 2)) (b := 0) rfl rfl rfl (Z0 ?_)
 by_cases d9 : (((rd a0 a3)).tmod 2) = 0
 rw [if_pos d9] at a8
 refine Y0 (bT d9 rfl) ?_
 refine W4 rfl (Z1 (Z4 (vI a3) (by exact e3) rfl ?_))
 refine V0 (a3 + 1) rfl rfl (IntWalk.i64_in _ (by omega)) rfl (Z6 (vI (a3 + 1)) rfl rfl (Z0 ?_))
 exact k2 _ _ ⟨(a3 + 1), (T8 a5 a3 (IntKind.u8.wrap ((Y5 a1 a3) + (Y5 a2 a3)))), b8, h1, a8, Z2, hS, (by omega), a9, h2, i7, i8, g7, h3, i9, rfl⟩
 rw [if_neg d9] at a8
 refine Z9 (bF d9 rfl) (Y6 (Z3 (Z3 (Z1 (Z4 (vI a3) (by exact e3) rfl ?_)))))
 refine W8 Za7 (by exact h3) rfl (by omega) (by omega) rfl ?_
 refine Y4 (Value.int .u8 (Y5 (T8 a5 a3 (IntKind.u8.wrap ((Y5 a1 a3) + (Y5 a2 a3)))) a3)) ty5 rfl (hS.get (o := cA (Z7 .u8 (T8 a5 a3 (IntKind.u8.wrap ((Y5 a1 a3) + (Y5 a2 a3))))) 70) mL) (M3 ([]) ([]) (by omega) (by omega)) rfl ?_
 refine Zc5 (k := .u8) (a := (Y5 (T8 a5 a3 (IntKind.u8.wrap ((Y5 a1 a3) + (Y5 a2 a3)))) a3)) (b := 1) rfl rfl rfl (Z0 ?_)
 by_cases e0 : 1 < (Y5 (T8 a5 a3 (IntKind.u8.wrap ((Y5 a1 a3) + (Y5 a2 a3)))) a3)
 rw [if_pos e0] at a8
 refine Y0 (bT e0 rfl) (Z3 (Z1 ?_))
 refine Q2 (vA (Z7 .u8 (fun _ => 0))) Yt1 rfl ?_
 have hS := hS.perm U4
 refine W1 (v := vA (Z7 .u8 (fun _ => 0))) (vs := (Z7 .u8 (fun _ => 0)).toArray) (cs := (Z7 .u8 (fun _ => 0)).toArray) N0 (by exact g7) rfl rfl hS rfl (S8 .u8 (fun _ => 0)) rfl ?_
 intro p6 hS
 have hS := hS.perm U4.symm
 refine Z6 (vI 0) rfl rfl (Z0 ?_)
 refine Y9 (vs := [vA (Z7 .u8 (fun _ => 0)), vI 0]) Tryz.func282 ⟨⟨_, (by exact g7), U8 N0 (hS.get (mR mL)) rfl⟩, rfl, trivial⟩ ?_
 have hz := Option.some.inj a8
 subst hz
 dsimp only [Ex.elim] at g5
 have hz := Option.some.inj g5
 subst hz
 exact ⟨_, _, rfl, Z2, (St.dropA (St.dropA (St.dropA (St.dropA hS)))), ⟨_, _, rfl, ⟨_, rfl, rfl⟩, rfl⟩⟩
 rw [if_neg e0] at a8
 refine Z9 (bF e0 rfl) (Y6 (Z3 (Z1 (Z4 (vI a3) (by exact e3) rfl ?_))))
 refine V0 (a3 + 1) rfl rfl (IntWalk.i64_in _ (by omega)) rfl (Z6 (vI (a3 + 1)) rfl rfl (Z0 (Y7 ?_)))
 obtain ⟨g8, c1, j0⟩ := bind_some a8
 refine W7 (id := 2) (fun k f w => ∃ (a6 : Int) (a4 : Int) (H1 : FH), R6 K a0 a1 a2 a3 k a6 a4 = some g8 ∧ Sub H H1 ∧ St H1 w ([(c0, cA (Z7 .u8 (T8 a5 a3 (IntKind.u8.wrap ((Y5 a1 a3) + (Y5 a2 a3))))) 70)] ++ ([(b7, cA (Z7 .u8 (fun _ => 0)) 70)] ++ ([(b4, cA (Z7 .u8 a2) 70)] ++ ([(b1, cA (Z7 .u8 a1) 70)] ++ L)))) ∧ Y3 (X3 .i64) H1 s0 a0 ∧ ev f (.tmp 0) = s0 ∧ ev f (.tmp 4) = vP b1 ∧ ev f (.tmp 5) = vP b4 ∧ ev f (.tmp 6) = vP b7 ∧ ev f (.tmp 8) = vP c0 ∧ ev f (.tmp 9) = vI a6 ∧ ev f (.tmp 10) = vI a3 ∧ ev f (.tmp 11) = vI a4) (fun f w => ∃ (d1 : Int) (H1 : FH), g8 = .go d1 ∧ Sub H H1 ∧ St H1 w ([(c0, cA (Z7 .u8 (T8 a5 a3 (IntKind.u8.wrap ((Y5 a1 a3) + (Y5 a2 a3))))) 70)] ++ ([(b7, cA (Z7 .u8 (fun _ => 0)) 70)] ++ ([(b4, cA (Z7 .u8 a2) 70)] ++ ([(b1, cA (Z7 .u8 a1) 70)] ++ L)))) ∧ Y3 (X3 .i64) H1 s0 a0 ∧ ev f (.tmp 0) = s0 ∧ ev f (.tmp 4) = vP b1 ∧ ev f (.tmp 5) = vP b4 ∧ ev f (.tmp 6) = vP b7 ∧ ev f (.tmp 8) = vP c0 ∧ ev f (.tmp 9) = vI d1 ∧ ev f (.tmp 10) = vI a3) rfl ?_ ?_ K ?_ ?_
 rintro f w ⟨a6, a4, H1, c1, _⟩
 rw [R6] at c1; cases c1
 rintro k p7 p8 k3 l9 ⟨a6, a4, j1, c1, Z2, hS, a9, d3, f4, d4, f5, f6, f7, c8, c9⟩
 rw [R6] at c1
 refine Z3 (Z3 ?_)
 refine E9 (fun f w => ∃ (b6 : Bool) (H1 : FH), D3 K (R6 K a0 a1 a2 a3 k) a0 a1 a4 a6 b6 = some g8 ∧ Sub H H1 ∧ St H1 w ([(c0, cA (Z7 .u8 (T8 a5 a3 (IntKind.u8.wrap ((Y5 a1 a3) + (Y5 a2 a3))))) 70)] ++ ([(b7, cA (Z7 .u8 (fun _ => 0)) 70)] ++ ([(b4, cA (Z7 .u8 a2) 70)] ++ ([(b1, cA (Z7 .u8 a1) 70)] ++ L)))) ∧ Y3 (X3 .i64) H1 s0 a0 ∧ ev f (.tmp 0) = s0 ∧ ev f (.tmp 4) = vP b1 ∧ ev f (.tmp 5) = vP b4 ∧ ev f (.tmp 6) = vP b7 ∧ ev f (.tmp 8) = vP c0 ∧ ev f (.tmp 9) = vI a6 ∧ ev f (.tmp 10) = vI a3 ∧ ev f (.tmp 11) = vI a4 ∧ ev f (.tmp 50) = Value.bool b6) ?_ ?_
 rintro p9 m0 ⟨b6, e4, b0, Z2, hS, a9, c6, c7, d5, d6, d7, d8, d0, c3, e5⟩
 unfold D3 at b0
 by_cases e1 : b6 = true
 rw [if_pos e1] at b0
 refine Y0 (Eq.trans (by exact e5) (congrArg Value.bool e1)) (Y6 (Z3 (Y7 (Z3 ?_))))
 refine E9 (fun f w => ∃ (b5 : Bool) (H1 : FH), Zb1 K (R6 K a0 a1 a2 a3 k) a4 a6 b5 = some g8 ∧ Sub H H1 ∧ St H1 w ([(c0, cA (Z7 .u8 (T8 a5 a3 (IntKind.u8.wrap ((Y5 a1 a3) + (Y5 a2 a3))))) 70)] ++ ([(b7, cA (Z7 .u8 (fun _ => 0)) 70)] ++ ([(b4, cA (Z7 .u8 a2) 70)] ++ ([(b1, cA (Z7 .u8 a1) 70)] ++ L)))) ∧ Y3 (X3 .i64) H1 s0 a0 ∧ ev f (.tmp 0) = s0 ∧ ev f (.tmp 4) = vP b1 ∧ ev f (.tmp 5) = vP b4 ∧ ev f (.tmp 6) = vP b7 ∧ ev f (.tmp 8) = vP c0 ∧ ev f (.tmp 9) = vI a6 ∧ ev f (.tmp 10) = vI a3 ∧ ev f (.tmp 11) = vI a4 ∧ ev f (.tmp 64) = Value.bool b5) ?_ ?_
 rintro q1 m1 ⟨b5, h0, c5, Z2, hS, a9, f8, f9, g0, g1, g2, g3, e6, e7, e8⟩
 unfold Zb1 at c5
 by_cases e2 : b5 = true
 rw [if_pos e2] at c5
 refine Y0 (Eq.trans (by exact e8) (congrArg Value.bool e2)) (Z1 (Z4 (vI a6) (by exact g3) rfl ?_))
 refine Xq0 (IntKind.i64.wrap (0 - a6)) rfl rfl rfl (Z6 (vI (IntKind.i64.wrap (0 - a6))) rfl rfl (Z0 (X2 (Z1 (Z4 (vI a4) (by exact e7) rfl ?_)))))
 refine V0 (IntKind.i64.wrap (a4 + 1)) rfl rfl rfl rfl (Z6 (vI (IntKind.i64.wrap (a4 + 1))) rfl rfl (Z0 ?_))
 exact k3 _ _ ⟨(IntKind.i64.wrap (0 - a6)), (IntKind.i64.wrap (a4 + 1)), h0, c5, Z2, hS, a9, f8, f9, g0, g1, g2, rfl, e6, rfl⟩
 rw [if_neg e2] at c5
 refine Z9 (Eq.trans (by exact e8) (congrArg Value.bool (W2 e2))) (Y6 (X2 (Z1 (Z4 (vI a4) (by exact e7) rfl ?_))))
 refine V0 (IntKind.i64.wrap (a4 + 1)) rfl rfl rfl rfl (Z6 (vI (IntKind.i64.wrap (a4 + 1))) rfl rfl (Z0 ?_))
 exact k3 _ _ ⟨a6, (IntKind.i64.wrap (a4 + 1)), h0, c5, Z2, hS, a9, f8, f9, g0, g1, g2, g3, e6, rfl⟩
 intro j2
 refine Z1 (Z4 (s0) (by exact c6) rfl (Z4 (vI a4) (by exact c3) rfl ?_))
 obtain ⟨m4, b0⟩ := gd b0
 obtain ⟨m5, b0⟩ := gd b0
 obtain ⟨q2, q3, m6, q4, _, j9, k0, rfl, k1⟩ := a9.elem (i := a4) (by omega) (by omega)
 refine W3 Q9 rfl rfl j9 rfl (by omega) (by omega) rfl ?_
 refine Y4 (vI (rd a0 a4)) ty2 rfl (hS.froz _ _ k0) (k1 0 (show 0 < 1 by decide)) rfl ?_
 refine Zo0 (((rd a0 a4)).tmod 2) rfl rfl (by decide) rfl rfl ?_
 refine L9 (k := .i64) (a := (((rd a0 a4)).tmod 2)) (b := 0) rfl rfl rfl (Z4 (Value.bool (!decide ((((rd a0 a4)).tmod 2) = 0))) rfl rfl ?_)
 by_cases b2 : (((rd a0 a4)).tmod 2) = 0
 rw [if_pos b2] at b0
 refine Z8 rfl rfl (bN b2 rfl) rfl rfl rfl (Z8 rfl rfl (bN b2 rfl) rfl rfl rfl (Z8 rfl rfl (bN b2 rfl) rfl rfl rfl (Z8 rfl rfl (bN b2 rfl) rfl rfl rfl ?_)))
 refine V1 (t := false) (Value.bool false) (bN b2 rfl) ((if_neg Bool.false_ne_true).trans rfl) rfl (Z0 ?_)
 exact j2 _ _ ⟨false, e4, b0, Z2, hS, a9, c6, c7, d5, d6, d7, d8, d0, c3, rfl⟩
 rw [if_neg b2] at b0
 refine Y1 rfl rfl (bO b2 rfl) (Z4 (vI a4) (by exact c3) rfl ?_)
 refine Y1 rfl rfl (bO b2 rfl) ?_
 obtain ⟨m7, b0⟩ := gd b0
 refine W8 Za7 (by exact c7) rfl (by omega) (by omega) rfl ?_
 refine Y1 rfl rfl (bO b2 rfl) ?_
 refine Y4 (Value.int .u8 (Y5 a1 a4)) ty5 rfl (hS.get (o := cA (Z7 .u8 a1) 70) (mR (mR (mR mL)))) (M3 ([]) ([]) (by omega) (by omega)) rfl ?_
 refine Y1 rfl rfl (bO b2 rfl) ?_
 refine Zf2 (k := .u8) (a := (Y5 a1 a4)) (b := 1) rfl rfl rfl ?_
 refine V1 (t := true) (Value.bool (decide ((Y5 a1 a4) = 1))) (bO b2 rfl) ((if_pos rfl).trans rfl) rfl (Z0 ?_)
 exact j2 _ _ ⟨(decide ((Y5 a1 a4) = 1)), e4, b0, Z2, hS, a9, c6, c7, d5, d6, d7, d8, d0, c3, rfl⟩
 rw [if_neg e1] at b0
 refine Z9 (Eq.trans (by exact e5) (congrArg Value.bool (W2 e1))) ?_
 refine W4 rfl ?_
 have hz := Option.some.inj b0
 subst hz
 exact l9 _ _ ⟨a6, e4, rfl, Z2, hS, a9, c6, c7, d5, d6, d7, d8, d0⟩
 intro j3
 refine Z1 (Z4 (vI a4) (by exact c9) rfl (Z4 (s0) (by exact d3) rfl ?_))
 have m8 := a9.bound
 refine W6 Q9 rfl a9 rfl ?_
 refine U5 (k := .i64) (a := a4) (b := (a0.length : Int)) rfl rfl rfl (Z4 (Value.bool (decide (a4 < (a0.length : Int)))) rfl rfl ?_)
 by_cases b3 : a4 < (a0.length : Int)
 rw [if_pos b3] at c1
 refine Y1 rfl rfl (bT b3 rfl) (Z4 (vI a3) (by exact c8) rfl ?_)
 refine Y1 rfl rfl (bT b3 rfl) ?_
 refine W8 Za7 (by exact d4) rfl (by omega) (by omega) rfl ?_
 refine Y1 rfl rfl (bT b3 rfl) ?_
 refine Y4 (Value.int .u8 (Y5 a2 a3)) ty5 rfl (hS.get (o := cA (Z7 .u8 a2) 70) (mR (mR mL))) (M3 ([]) ([]) (by omega) (by omega)) rfl ?_
 refine Y1 rfl rfl (bT b3 rfl) ?_
 refine Zf2 (k := .u8) (a := (Y5 a2 a3)) (b := 1) rfl rfl rfl ?_
 refine V1 (t := true) (Value.bool (decide ((Y5 a2 a3) = 1))) (bT b3 rfl) ((if_pos rfl).trans rfl) rfl (Z0 ?_)
 exact j3 _ _ ⟨(decide ((Y5 a2 a3) = 1)), j1, c1, Z2, hS, a9, d3, f4, d4, f5, f6, f7, c8, c9, rfl⟩
 rw [if_neg b3] at c1
 refine Z8 rfl rfl (bF b3 rfl) rfl rfl rfl (Z8 rfl rfl (bF b3 rfl) rfl rfl rfl (Z8 rfl rfl (bF b3 rfl) rfl rfl rfl (Z8 rfl rfl (bF b3 rfl) rfl rfl rfl ?_)))
 refine V1 (t := false) (Value.bool false) (bF b3 rfl) ((if_neg Bool.false_ne_true).trans rfl) rfl (Z0 ?_)
 exact j3 _ _ ⟨false, j1, c1, Z2, hS, a9, d3, f4, d4, f5, f6, f7, c8, c9, rfl⟩
 exact ⟨b8, (a3 + 1), h1, c1, Z2, hS, a9, h2, i7, i8, g7, h3, i9, e3, rfl⟩
 rintro q5 q6 ⟨d1, l5, rfl, Z2, hS, a9, h7, h8, h9, i0, i1, i2, h4⟩
 dsimp only [Ex.elim] at j0
 refine X2 (Z1 (Z4 (vI a3) (by exact h4) rfl ?_))
 refine V0 (a3 + 1) rfl rfl (IntWalk.i64_in _ (by omega)) rfl (Z6 (vI (a3 + 1)) rfl rfl (Z0 ?_))
 exact k2 _ _ ⟨(a3 + 1), (T8 a5 a3 (IntKind.u8.wrap ((Y5 a1 a3) + (Y5 a2 a3)))), d1, l5, j0, Z2, hS, (by omega), a9, h7, h8, h9, i0, i1, i2, rfl⟩
 rw [if_neg g6] at a8
 refine Z9 (bF g6 rfl) ?_
 refine W4 rfl ?_
 have hz := Option.some.inj a8
 subst hz
 exact l7 _ _ ⟨b8, a5, k4, rfl, Z2, hS, f2, d2, f3⟩
 exact ⟨0, (fun _ => 0), 1, H, a8, Z2, hS, (by omega), a9, rfl, rfl, rfl, rfl, rfl, rfl, rfl⟩
 rintro q7 q8 ⟨c4, a7, q9, rfl, Z2, hS, g4, i3, i4⟩
 dsimp only [Ex.elim] at g5
 refine Z3 (Z1 ?_)
 refine X8 N0 (by exact i3) (hS.get mL) rfl rfl (Z4 (vI c4) (by exact i4) rfl ?_)
 have hS := hS.perm U4
 refine W1 (v := vA (Z7 .u8 a7)) (vs := (Z7 .u8 a7).toArray) (cs := (Z7 .u8 (fun _ => 0)).toArray) N0 (by exact g4) rfl rfl hS rfl (S8 .u8 a7) rfl ?_
 intro r0 hS
 have hS := hS.perm U4.symm
 refine Z6 (vI c4) rfl rfl (Z0 ?_)
 refine Y9 (vs := [vA (Z7 .u8 a7), vI c4]) Tryz.func282 ⟨⟨_, (by exact g4), U8 N0 (hS.get (mR mL)) rfl⟩, rfl, trivial⟩ ?_
 have hz := Option.some.inj g5
 subst hz
 exact ⟨_, _, rfl, Z2, (St.dropA (St.dropA (St.dropA (St.dropA hS)))), ⟨_, _, rfl, ⟨_, rfl, rfl⟩, rfl⟩⟩
def G4 (K : Nat) (a0 : MpT) (a3 : Int) : Nat → Int → Int → Option (Ex Int (Int))
 | 0, _, _ => none
 | k + 1, a5, a4 => (if a4 < 8 then (if (Y5 ((rd a0 a3).1) a4) = (IntKind.u8.wrap a5) then G4 K a0 a3 k (IntKind.i64.wrap (a5 + 1)) (a4 + 1) else some (.ret (-1))) else some (.go a5))
def L8 (K : Nat) (a0 : MpT) : Nat → Int → Int → Option (Ex Int (Int))
 | 0, _, _ => none
 | k + 1, a9, a3 => (if a3 < (a0.length : Int) then ((G4 K a0 a3 K a9 0).bind (Ex.elim (fun r => some (.ret r)) (fun s => (fun (a6 : Int) => (if (rd a0 a3).2 = a6 then L8 K a0 k (IntKind.i64.wrap (a6 + 1)) (a3 + 1) else some (.ret (-1)))) s))) else some (.go a9))
def Zk7 (K : Nat) (a0 : MpT) (a1 : Int) : Option Int := ((L8 K a0 K a1 0).bind (Ex.elim (fun r => some r) (fun s => (fun (b1 : Int) => some b1) s)))
theorem Yl3 {K : Nat} {a0 : MpT} {a1 : Int} {r : Int} (q0 : Zk7 K a0 a1 = some r) {H : FH} {w : World} {L : OL} {s0 : Value} (b0 : Y3 yT H s0 a0) (hS : St H w L) :
 Calls Tryz.prog 118 #[s0, vI a1] w (T6 (fun v G => (R.int .i64).p G v r) H L) := by
 have Z2 := Sub.refl H
 refine X0 Tryz.func118 rfl Tryz.ntmps118 rfl ?_
 unfold Zk7 at q0
 refine Z3 (Z1 (Z6 (vI 0) rfl rfl (Z0 (Z3 (Z3 (Z1 (Z6 (vI 0) rfl rfl (Z0 (Y7 ?_)))))))))
 obtain ⟨d1, a8, b3⟩ := bind_some q0
 refine W7 (id := 0) (fun k f w => ∃ (a9 : Int) (a3 : Int) (H1 : FH), L8 K a0 k a9 a3 = some d1 ∧ Sub H H1 ∧ St H1 w (L) ∧ 0 ≤ a3 ∧ Y3 yT H1 s0 a0 ∧ ev f (.tmp 0) = s0 ∧ ev f (.tmp 1) = vI a9 ∧ ev f (.tmp 5) = vI a3) (fun f w => ∃ (b1 : Int) (H1 : FH), d1 = .go b1 ∧ Sub H H1 ∧ St H1 w (L) ∧ ev f (.tmp 1) = vI b1) rfl ?_ ?_ K ?_ ?_
 rintro f w ⟨a9, a3, H1, a8, _⟩
 rw [L8] at a8; cases a8
 rintro k e8 e9 d6 d7 ⟨a9, a3, d2, a8, Z2, hS, d8, b0, c0, c1, c2⟩
 rw [L8] at a8
 refine Z3 (Z3 (Z1 (Z4 (vI a3) (by exact c2) rfl (Z4 (s0) (by exact c0) rfl ?_))))
 have f7 := b0.bound
 refine W6 S9 rfl b0 rfl ?_
 refine U5 (k := .i64) (a := a3) (b := (a0.length : Int)) rfl rfl rfl (Z0 ?_)
 by_cases c6 : a3 < (a0.length : Int)
 rw [if_pos c6] at a8
 refine Y0 (bT c6 rfl) (Y6 (Z3 (Y7 (Z3 (Z3 (Z1 (Z6 (vI 0) rfl rfl (Z0 (Y7 ?_)))))))))
 obtain ⟨d3, a7, b2⟩ := bind_some a8
 refine W7 (id := 2) (fun k f w => ∃ (a5 : Int) (a4 : Int) (H1 : FH), G4 K a0 a3 k a5 a4 = some d3 ∧ Sub H H1 ∧ St H1 w (L) ∧ 0 ≤ a4 ∧ Y3 yT H1 s0 a0 ∧ ev f (.tmp 0) = s0 ∧ ev f (.tmp 1) = vI a5 ∧ ev f (.tmp 5) = vI a3 ∧ ev f (.tmp 6) = vI a4) (fun f w => ∃ (a6 : Int) (H1 : FH), d3 = .go a6 ∧ Sub H H1 ∧ St H1 w (L) ∧ Y3 yT H1 s0 a0 ∧ ev f (.tmp 0) = s0 ∧ ev f (.tmp 1) = vI a6 ∧ ev f (.tmp 5) = vI a3) rfl ?_ ?_ K ?_ ?_
 rintro f w ⟨a5, a4, H1, a7, _⟩
 rw [G4] at a7; cases a7
 rintro k f0 f1 d9 e0 ⟨a5, a4, d4, a7, Z2, hS, e1, b0, b5, b7, b8, b9⟩
 rw [G4] at a7
 refine Z3 (Z3 (Z1 (Z4 (vI a4) (by exact b9) rfl ?_)))
 refine U5 (k := .i64) (a := a4) (b := 8) rfl rfl rfl (Z0 ?_)
 by_cases c7 : a4 < 8
 rw [if_pos c7] at a7
 refine Y0 (bT c7 rfl) (Y6 (Z3 (Y7 (Z3 (Z3 (Z1 (Z4 (s0) (by exact b5) rfl (Z4 (vI a3) (by exact b8) rfl (Z4 (vI a4) (by exact b9) rfl ?_)))))))))
 obtain ⟨b4, o4, f8, E4, _, e2, e3, ⟨_, _, rfl, rfl, rfl⟩, e4⟩ := b0.elem (i := a3) (by omega) (by omega)
 refine W3 S9 rfl rfl e2 rfl (by omega) (by omega) rfl (Y2 P0 rfl rfl ?_)
 refine W8 Za7 rfl rfl (by omega) (by omega) rfl ?_
 refine Y4 (Value.int .u8 (Y5 ((rd a0 a3).1) a4)) ty5 rfl (hS.froz _ _ e3) (Yn2 ([]) (([vI ((rd a0 a3).2)])) e4 (Nat.le_of_ble_eq_true rfl) (by omega) (by omega)) rfl (Z4 (vI a5) (by exact b7) rfl ?_)
 refine Yg7 (s := .i64) ((IntKind.u8.wrap a5)) Xq5 rfl rfl rfl ?_
 refine L9 (k := .u8) (a := (Y5 ((rd a0 a3).1) a4)) (b := (IntKind.u8.wrap a5)) rfl rfl rfl (Z0 ?_)
 by_cases c8 : (Y5 ((rd a0 a3).1) a4) = (IntKind.u8.wrap a5)
 rw [if_pos c8] at a7
 refine Z9 (bN c8 rfl) (Y6 (Z1 (Z4 (vI a5) (by exact b7) rfl ?_)))
 refine V0 (IntKind.i64.wrap (a5 + 1)) rfl rfl rfl rfl (Z6 (vI (IntKind.i64.wrap (a5 + 1))) rfl rfl (Z0 (X2 (Z1 (Z4 (vI a4) (by exact b9) rfl ?_)))))
 refine V0 (a4 + 1) rfl rfl (IntWalk.i64_in _ (by omega)) rfl (Z6 (vI (a4 + 1)) rfl rfl (Z0 ?_))
 exact d9 _ _ ⟨(IntKind.i64.wrap (a5 + 1)), (a4 + 1), d4, a7, Z2, hS, (by omega), b0, b5, rfl, b8, rfl⟩
 rw [if_neg c8] at a7
 refine Y0 (bO c8 rfl) (Z3 (Z1 (Z6 (vI (-1)) rfl rfl (Z0 ?_))))
 refine Y9 (vs := [vI (-1)]) Tryz.func118 ⟨rfl, trivial⟩ ?_
 have hz := Option.some.inj a7
 subst hz
 dsimp only [Ex.elim] at b2
 have hz := Option.some.inj b2
 subst hz
 dsimp only [Ex.elim] at b3
 have hz := Option.some.inj b3
 subst hz
 exact ⟨_, _, rfl, Z2, hS, rfl⟩
 rw [if_neg c7] at a7
 refine Z9 (bF c7 rfl) ?_
 refine W4 rfl ?_
 have hz := Option.some.inj a7
 subst hz
 exact e0 _ _ ⟨a5, d4, rfl, Z2, hS, b0, b5, b7, b8⟩
 exact ⟨a9, 0, d2, a7, Z2, hS, (by omega), b0, c0, c1, c2, rfl⟩
 rintro f2 f3 ⟨a6, d5, rfl, Z2, hS, b0, c3, c4, c5⟩
 dsimp only [Ex.elim] at b2
 refine Z3 (Z3 (Z1 (Z4 (s0) (by exact c3) rfl (Z4 (vI a3) (by exact c5) rfl ?_))))
 obtain ⟨b6, o6, f9, E6, _, e5, e6, ⟨_, _, rfl, rfl, rfl⟩, e7⟩ := b0.elem (i := a3) (by omega) (by omega)
 refine W3 S9 rfl rfl e5 rfl (by omega) (by omega) rfl (Y2 Zc0 rfl rfl ?_)
 refine Y4 (vI ((rd a0 a3).2)) ty2 rfl (hS.froz _ _ e6) (e7 8 (show 8 < 9 by decide)) rfl (Z4 (vI a6) (by exact c4) rfl ?_)
 refine L9 (k := .i64) (a := (rd a0 a3).2) (b := a6) rfl rfl rfl (Z0 ?_)
 by_cases c9 : (rd a0 a3).2 = a6
 rw [if_pos c9] at b2
 refine Z9 (bN c9 rfl) (Y6 (Z1 (Z4 (vI a6) (by exact c4) rfl ?_)))
 refine V0 (IntKind.i64.wrap (a6 + 1)) rfl rfl rfl rfl (Z6 (vI (IntKind.i64.wrap (a6 + 1))) rfl rfl (Z0 (X2 (Z1 (Z4 (vI a3) (by exact c5) rfl ?_)))))
 refine V0 (a3 + 1) rfl rfl (IntWalk.i64_in _ (by omega)) rfl (Z6 (vI (a3 + 1)) rfl rfl (Z0 ?_))
 exact d6 _ _ ⟨(IntKind.i64.wrap (a6 + 1)), (a3 + 1), d5, b2, Z2, hS, (by omega), b0, c3, rfl, rfl⟩
 rw [if_neg c9] at b2
 refine Y0 (bO c9 rfl) (Z3 (Z1 (Z6 (vI (-1)) rfl rfl (Z0 ?_))))
 refine Y9 (vs := [vI (-1)]) Tryz.func118 ⟨rfl, trivial⟩ ?_
 have hz := Option.some.inj b2
 subst hz
 dsimp only [Ex.elim] at b3
 have hz := Option.some.inj b3
 subst hz
 exact ⟨_, _, rfl, Z2, hS, rfl⟩
 rw [if_neg c6] at a8
 refine Z9 (bF c6 rfl) ?_
 refine W4 rfl ?_
 have hz := Option.some.inj a8
 subst hz
 exact d7 _ _ ⟨a9, d2, rfl, Z2, hS, c1⟩
 exact ⟨a1, 0, H, a8, Z2, hS, (by omega), b0, rfl, rfl, rfl⟩
 rintro f4 f5 ⟨b1, f6, rfl, Z2, hS, d0⟩
 dsimp only [Ex.elim] at b3
 refine Z3 (Z1 (Z4 (vI b1) (by exact d0) rfl (Z6 (vI b1) rfl rfl (Z0 ?_))))
 refine Y9 (vs := [vI b1]) Tryz.func118 ⟨rfl, trivial⟩ ?_
 have hz := Option.some.inj b3
 subst hz
 exact ⟨_, _, rfl, Z2, hS, rfl⟩
def B8 (K : Nat) (a0 : A8) : Nat → Int → A8 → Option (Ex A8 (A8))
 | 0, _, _ => none
 | k + 1, a1, a3 => (if a1 < 8 then B8 K a0 k (a1 + 1) (T8 a3 a1 (IntKind.i64.wrap (Y5 a0 a1))) else some (.go a3))
def Zd3 (K : Nat) (a0 : A8) : Option A8 := ((B8 K a0 K 0 (fun _ => 0)).bind (Ex.elim (fun r => some r) (fun s => (fun (a4 : A8) => some a4) s)))
theorem Zn9 {K : Nat} {a0 : A8} {r : A8} (q0 : Zd3 K a0 = some r) {H : FH} {w : World} {L : OL} (hS : St H w L) :
 Calls Tryz.prog 176 #[vA (Z7 .u8 a0)] w (T6 (fun v G => (R.agg (Zo6 .i64)).p G v r) H L) := by
 have Z2 := Sub.refl H
 refine X0 Tryz.func176 rfl Tryz.ntmps176 rfl ?_
 unfold Zd3 at q0
 refine Z3 (Z1 ?_)
 refine T7 (v := vA (Z7 .u8 a0)) (Z7 .u8 a0).toArray rfl rfl hS rfl ?_
 intro b1 w2 hS
 refine W9 (z := vA (Z7 .i64 (fun _ => 0))) (Z7 .i64 (fun _ => 0)).toArray Zl0.zero rfl hS rfl ?_
 intro b4 w5 hS
 refine Z0 (Z3 (Z1 ?_))
 refine Q2 (vA (Z7 .i64 (fun _ => 0))) Yx1 rfl ?_
 refine W9 (z := vA (Z7 .i64 (fun _ => 0))) (Z7 .i64 (fun _ => 0)).toArray Zl0.zero rfl hS rfl ?_
 intro b7 w8 hS
 refine W1 (v := vA (Z7 .i64 (fun _ => 0))) (vs := (Z7 .i64 (fun _ => 0)).toArray) (cs := (Z7 .i64 (fun _ => 0)).toArray) N2 rfl rfl rfl hS rfl (S8 .i64 (fun _ => 0)) rfl ?_
 intro c7 hS
 refine Z0 (Z3 (Z3 (Z1 ?_)))
 refine X8 N0 rfl (hS.get (mR (mR mL))) rfl rfl (Z4 (vI 0) rfl rfl (Z0 (Y7 ?_)))
 obtain ⟨b5, a5, b6⟩ := bind_some q0
 refine W7 (id := 0) (fun k f w => ∃ (a1 : Int) (a3 : A8) (H1 : FH), B8 K a0 k a1 a3 = some b5 ∧ Sub H H1 ∧ St H1 w ([(b7, cA (Z7 .i64 a3) 188)] ++ ([(b4, cA (Z7 .i64 (fun _ => 0)) 188)] ++ ([(b1, cA (Z7 .u8 a0) 70)] ++ L))) ∧ 0 ≤ a1 ∧ ev f (.tmp 2) = vP b4 ∧ ev f (.tmp 3) = vP b7 ∧ ev f (.tmp 7) = vA (Z7 .u8 a0) ∧ ev f (.tmp 8) = vI a1) (fun f w => ∃ (a4 : A8) (H1 : FH), b5 = .go a4 ∧ Sub H H1 ∧ St H1 w ([(b7, cA (Z7 .i64 a4) 188)] ++ ([(b4, cA (Z7 .i64 (fun _ => 0)) 188)] ++ ([(b1, cA (Z7 .u8 a0) 70)] ++ L))) ∧ ev f (.tmp 2) = vP b4 ∧ ev f (.tmp 3) = vP b7) rfl ?_ ?_ K ?_ ?_
 rintro f w ⟨a1, a3, H1, a5, _⟩
 rw [B8] at a5; cases a5
 rintro k c2 c3 b9 c0 ⟨a1, a3, b8, a5, Z2, hS, c1, a8, a7, a9, a6⟩
 rw [B8] at a5
 refine Z3 (Z1 ?_)
 refine U5 (k := .i64) (a := a1) (b := 8) (by exact a6) rfl rfl (Z0 (Z3 ?_))
 by_cases b2 : a1 < 8
 rw [if_pos b2] at a5
 refine Y0 (bT b2 rfl) (Y6 (Z3 (Y7 (Z3 (Z1 (Z4 (vI a1) (by exact a6) rfl ?_))))))
 refine Ye6 (Value.int .u8 (Y5 a0 a1)) Za7 (by exact a9) (by exact a6) (by omega) (by omega) (Yc7 (by omega) (by omega)) rfl (Z6 (vI a1) rfl rfl (Z6 (Value.int .u8 (Y5 a0 a1)) rfl rfl (Z0 (Z1 (Z4 (vI a1) rfl rfl (Z4 (Value.int .u8 (Y5 a0 a1)) rfl rfl ?_))))))
 refine Yg7 (s := .u8) ((IntKind.i64.wrap (Y5 a0 a1))) Wk9 rfl rfl rfl ?_
 refine W8 Zg4 (by exact a7) rfl (by omega) (by omega) rfl ?_
 refine D0 (v := vI (IntKind.i64.wrap (Y5 a0 a1))) (cs := (Z7 .i64 a3).toArray) (cs' := (Z7 .i64 (T8 a3 a1 (IntKind.i64.wrap (Y5 a0 a1)))).toArray) ty3 rfl rfl hS rfl (Zu7 rfl) (by simp [Z7, U2]; omega) (Ze5 (by omega) (by omega)) ?_
 intro c8 hS
 refine Z0 (X2 (Z1 ?_))
 refine V0 (a1 + 1) (by exact a6) rfl (IntWalk.i64_in _ (by omega)) rfl (Z4 (vI (a1 + 1)) rfl rfl (Z0 ?_))
 exact b9 _ _ ⟨(a1 + 1), (T8 a3 a1 (IntKind.i64.wrap (Y5 a0 a1))), b8, a5, Z2, hS, (by omega), a8, a7, a9, rfl⟩
 rw [if_neg b2] at a5
 refine Z9 (bF b2 rfl) ?_
 refine W4 rfl ?_
 have hz := Option.some.inj a5
 subst hz
 exact c0 _ _ ⟨a3, b8, rfl, Z2, hS, a8, a7⟩
 exact ⟨0, (fun _ => 0), H, a5, Z2, hS, (by omega), rfl, rfl, rfl, rfl⟩
 rintro c4 c5 ⟨a4, c6, rfl, Z2, hS, b0, b3⟩
 dsimp only [Ex.elim] at b6
 refine Z3 (Z1 ?_)
 refine X8 N2 (by exact b3) (hS.get mL) rfl rfl ?_
 have hS := hS.perm U4
 refine W1 (v := vA (Z7 .i64 a4)) (vs := (Z7 .i64 a4).toArray) (cs := (Z7 .i64 (fun _ => 0)).toArray) N2 (by exact b0) rfl rfl hS rfl (S8 .i64 a4) rfl ?_
 intro c9 hS
 have hS := hS.perm U4.symm
 refine Z0 ?_
 refine Y9 (vs := [vA (Z7 .i64 a4)]) Tryz.func176 ⟨⟨_, (by exact b0), U8 N2 (hS.get (mR mL)) rfl⟩, trivial⟩ ?_
 have hz := Option.some.inj b6
 subst hz
 exact ⟨_, _, rfl, Z2, (St.dropA (St.dropA (St.dropA hS))), ⟨_, rfl, rfl⟩⟩
def V2 (K : Nat) (a0 : (List MpT)) (a1 : (MpT → Option Bool)) : Nat → Int → Option (Ex Int (Unit))
 | 0, _ => none
 | k + 1, a3 => (if a3 < (a0.length : Int) then ((a1 (rd a0 a3)).bind fun r4 => (if r4 = true then some (.ret a3) else V2 K a0 a1 k (a3 + 1))) else some (.go ()))
def L1 (K : Nat) (a0 : (List MpT)) (a1 : (MpT → Option Bool)) : Option Int := ((V2 K a0 a1 K 0).bind (Ex.elim (fun r => some r) (fun s => some (-1))))
theorem Zo3 {K : Nat} {a0 : (List MpT)} {a1 : (MpT → Option Bool)} {r : Int} (q0 : L1 K a0 a1 = some r) {H : FH} {w : World} {L : OL} {s0 : Value} {s1 : Value} (a6 : Y3 (X6 yT) H s0 a0) (a7 : FnQ Tryz.prog s1 (R.agg (X6 yT)) a1 H) (hS : St H w L) :
 Calls Tryz.prog 222 #[s0, s1] w (T6 (fun v G => (R.int .i64).p G v r) H L) := by
 have Z2 := Sub.refl H
 refine X0 Tryz.func222 rfl Tryz.ntmps222 rfl ?_
 unfold L1 at q0
 refine Z3 (Z1 (Z6 (vI 0) rfl rfl (Z0 (Z3 (Z3 (Z1 (Z4 (s0) rfl rfl ?_)))))))
 have d2 := a6.bound
 refine W6 J2 rfl a6 rfl (Z4 (vI 0) rfl rfl (Z0 (Y7 ?_)))
 obtain ⟨b5, a4, b1⟩ := bind_some q0
 refine W7 (id := 0) (fun k f w => ∃ (a3 : Int) (H1 : FH), V2 K a0 a1 k a3 = some b5 ∧ Sub H H1 ∧ St H1 w (L) ∧ 0 ≤ a3 ∧ Y3 (X6 yT) H1 s0 a0 ∧ FnQ Tryz.prog s1 (R.agg (X6 yT)) a1 H1 ∧ ev f (.tmp 0) = s0 ∧ ev f (.tmp 1) = s1 ∧ ev f (.tmp 7) = vI (a0.length : Int) ∧ ev f (.tmp 8) = vI a3) (fun f w => ∃ (H1 : FH), b5 = .go () ∧ Sub H H1 ∧ St H1 w (L)) rfl ?_ ?_ K ?_ ?_
 rintro f w ⟨a3, H1, a4, _⟩
 rw [V2] at a4; cases a4
 rintro k c7 c8 c0 c1 ⟨a3, b8, a4, Z2, hS, c2, a6, a7, a8, a9, b0, a5⟩
 rw [V2] at a4
 refine Z3 (Z1 ?_)
 refine U5 (k := .i64) (a := a3) (b := (a0.length : Int)) (by exact a5) (by exact b0) rfl (Z0 (Z3 ?_))
 by_cases b2 : a3 < (a0.length : Int)
 rw [if_pos b2] at a4
 refine Y0 (bT b2 rfl) (Y6 (Z3 (Y7 (Z3 (Z1 (Z4 (vI a3) (by exact a5) rfl (Z6 (vI a3) rfl rfl (Z0 (Z3 (Z1 (Z4 (s1) (by exact a9) rfl (Z4 (s0) (by exact a8) rfl (Z4 (vI a3) rfl rfl ?_)))))))))))))
 obtain ⟨b3, o3, d3, E3, _, c3, c4, ⟨b9, rfl, b7⟩, c5⟩ := a6.elem (i := a3) (by omega) (by omega)
 refine W3 J2 rfl rfl c3 rfl (by omega) (by omega) rfl ?_
 refine V5 ([b9]) U7 rfl (hS.froz _ _ c4) rfl c5 rfl ?_
 obtain ⟨r4, c6, a4⟩ := bind_some a4
 refine Yy8 a7 rfl rfl hS ⟨_, rfl, ⟨_, rfl, b7⟩⟩ c6 rfl ?_
 intro H4 w5 b6 hS
 have Z2 := Z2.trans b6
 have a6 := a6.mono b6
 have a7 := a7.mono b6
 refine Z0 ?_
 by_cases b4 : r4 = true
 rw [if_pos b4] at a4
 refine Y0 (Eq.trans rfl (congrArg Value.bool b4)) (Z3 (Z1 (Z4 (vI a3) rfl rfl (Z6 (vI a3) rfl rfl (Z0 ?_)))))
 refine Y9 (vs := [vI a3]) Tryz.func222 ⟨rfl, trivial⟩ ?_
 have hz := Option.some.inj a4
 subst hz
 dsimp only [Ex.elim] at b1
 have hz := Option.some.inj b1
 subst hz
 exact ⟨_, _, rfl, Z2, hS, rfl⟩
 rw [if_neg b4] at a4
 refine Z9 (Eq.trans rfl (congrArg Value.bool (W2 b4))) (Y6 (X2 (Z1 ?_)))
 refine V0 (a3 + 1) (by exact a5) rfl (IntWalk.i64_in _ (by omega)) rfl (Z4 (vI (a3 + 1)) rfl rfl (Z0 ?_))
 exact c0 _ _ ⟨(a3 + 1), H4, a4, Z2, hS, (by omega), a6, a7, a8, a9, b0, rfl⟩
 rw [if_neg b2] at a4
 refine Z9 (bF b2 rfl) ?_
 refine W4 rfl ?_
 have hz := Option.some.inj a4
 subst hz
 exact c1 _ _ ⟨b8, rfl, Z2, hS⟩
 exact ⟨0, H, a4, Z2, hS, (by omega), a6, a7, rfl, rfl, rfl, rfl⟩
 rintro c9 d0 ⟨d1, rfl, Z2, hS⟩
 dsimp only [Ex.elim] at b1
 refine Z3 (Z1 (Z6 (vI (-1)) rfl rfl (Z0 ?_)))
 refine Y9 (vs := [vI (-1)]) Tryz.func222 ⟨rfl, trivial⟩ ?_
 have hz := Option.some.inj b1
 subst hz
 exact ⟨_, _, rfl, Z2, hS, rfl⟩
def I3 (K : Nat) (a0 : (List Int)) : Nat → Int → Int → Option (Ex Int (Int))
 | 0, _, _ => none
 | k + 1, a4, a3 => (if a3 < (a0.length : Int) then (if (rd a0 a3) = a4 then I3 K a0 k (IntKind.i64.wrap (a4 + 1)) (a3 + 1) else some (.ret (-1))) else some (.go a4))
def Zi3 (K : Nat) (a0 : (List Int)) (a1 : Int) : Option Int := ((I3 K a0 K a1 0).bind (Ex.elim (fun r => some r) (fun s => (fun (a6 : Int) => some a6) s)))
theorem Yk2 {K : Nat} {a0 : (List Int)} {a1 : Int} {r : Int} (q0 : Zi3 K a0 a1 = some r) {H : FH} {w : World} {L : OL} {s0 : Value} (b0 : Y3 (X3 .i64) H s0 a0) (hS : St H w L) :
 Calls Tryz.prog 26 #[s0, vI a1] w (T6 (fun v G => (R.int .i64).p G v r) H L) := by
 have Z2 := Sub.refl H
 refine X0 Tryz.func26 rfl Tryz.ntmps26 rfl ?_
 unfold Zi3 at q0
 refine Z3 (Z1 (Z6 (vI 0) rfl rfl (Z0 (Z3 (Z3 (Z1 (Z6 (vI 0) rfl rfl (Z0 (Y7 ?_)))))))))
 obtain ⟨b6, a5, b1⟩ := bind_some q0
 refine W7 (id := 0) (fun k f w => ∃ (a4 : Int) (a3 : Int) (H1 : FH), I3 K a0 k a4 a3 = some b6 ∧ Sub H H1 ∧ St H1 w (L) ∧ 0 ≤ a3 ∧ Y3 (X3 .i64) H1 s0 a0 ∧ ev f (.tmp 0) = s0 ∧ ev f (.tmp 1) = vI a4 ∧ ev f (.tmp 5) = vI a3) (fun f w => ∃ (a6 : Int) (H1 : FH), b6 = .go a6 ∧ Sub H H1 ∧ St H1 w (L) ∧ ev f (.tmp 1) = vI a6) rfl ?_ ?_ K ?_ ?_
 rintro f w ⟨a4, a3, H1, a5, _⟩
 rw [I3] at a5; cases a5
 rintro k c4 c5 b8 b9 ⟨a4, a3, b7, a5, Z2, hS, c0, b0, a7, a8, a9⟩
 rw [I3] at a5
 refine Z3 (Z3 (Z1 (Z4 (vI a3) (by exact a9) rfl (Z4 (s0) (by exact a7) rfl ?_))))
 have c9 := b0.bound
 refine W6 Q9 rfl b0 rfl ?_
 refine U5 (k := .i64) (a := a3) (b := (a0.length : Int)) rfl rfl rfl (Z0 ?_)
 by_cases b2 : a3 < (a0.length : Int)
 rw [if_pos b2] at a5
 refine Y0 (bT b2 rfl) (Y6 (Z3 (Y7 (Z3 (Z3 (Z1 (Z4 (s0) (by exact a7) rfl (Z4 (vI a3) (by exact a9) rfl ?_))))))))
 obtain ⟨b3, o3, d0, E3, _, c1, c2, rfl, c3⟩ := b0.elem (i := a3) (by omega) (by omega)
 refine W3 Q9 rfl rfl c1 rfl (by omega) (by omega) rfl ?_
 refine Y4 (vI (rd a0 a3)) ty2 rfl (hS.froz _ _ c2) (c3 0 (show 0 < 1 by decide)) rfl (Z4 (vI a4) (by exact a8) rfl ?_)
 refine L9 (k := .i64) (a := (rd a0 a3)) (b := a4) rfl rfl rfl (Z0 ?_)
 by_cases b4 : (rd a0 a3) = a4
 rw [if_pos b4] at a5
 refine Z9 (bN b4 rfl) (Y6 (Z1 (Z4 (vI a4) (by exact a8) rfl ?_)))
 refine V0 (IntKind.i64.wrap (a4 + 1)) rfl rfl rfl rfl (Z6 (vI (IntKind.i64.wrap (a4 + 1))) rfl rfl (Z0 (X2 (Z1 (Z4 (vI a3) (by exact a9) rfl ?_)))))
 refine V0 (a3 + 1) rfl rfl (IntWalk.i64_in _ (by omega)) rfl (Z6 (vI (a3 + 1)) rfl rfl (Z0 ?_))
 exact b8 _ _ ⟨(IntKind.i64.wrap (a4 + 1)), (a3 + 1), b7, a5, Z2, hS, (by omega), b0, a7, rfl, rfl⟩
 rw [if_neg b4] at a5
 refine Y0 (bO b4 rfl) (Z3 (Z1 (Z6 (vI (-1)) rfl rfl (Z0 ?_))))
 refine Y9 (vs := [vI (-1)]) Tryz.func26 ⟨rfl, trivial⟩ ?_
 have hz := Option.some.inj a5
 subst hz
 dsimp only [Ex.elim] at b1
 have hz := Option.some.inj b1
 subst hz
 exact ⟨_, _, rfl, Z2, hS, rfl⟩
 rw [if_neg b2] at a5
 refine Z9 (bF b2 rfl) ?_
 refine W4 rfl ?_
 have hz := Option.some.inj a5
 subst hz
 exact b9 _ _ ⟨a4, b7, rfl, Z2, hS, a8⟩
 exact ⟨a1, 0, H, a5, Z2, hS, (by omega), b0, rfl, rfl, rfl⟩
 rintro c6 c7 ⟨a6, c8, rfl, Z2, hS, b5⟩
 dsimp only [Ex.elim] at b1
 refine Z3 (Z1 (Z4 (vI a6) (by exact b5) rfl (Z6 (vI a6) rfl rfl (Z0 ?_))))
 refine Y9 (vs := [vI a6]) Tryz.func26 ⟨rfl, trivial⟩ ?_
 have hz := Option.some.inj b1
 subst hz
 exact ⟨_, _, rfl, Z2, hS, rfl⟩
def Zj7 (K : Nat) (a0 : Int) : Option A8 := (if 0 ≤ a0 then (if a0 < 8 then some (T8 (fun _ => 0) a0 1) else none) else none)
theorem Yl4 {K : Nat} {a0 : Int} {r : A8} (q0 : Zj7 K a0 = some r) {H : FH} {w : World} {L : OL} (hS : St H w L) :
 Calls Tryz.prog 151 #[vI a0] w (T6 (fun v G => (R.agg (Zo6 .i64)).p G v r) H L) := by
 have Z2 := Sub.refl H
 refine X0 Tryz.func151 rfl Tryz.ntmps151 rfl ?_
 unfold Zj7 at q0
 refine Z3 (Z1 ?_)
 refine W9 (z := vA (Z7 .i64 (fun _ => 0))) (Z7 .i64 (fun _ => 0)).toArray Zl0.zero rfl hS rfl ?_
 intro b1 w2 hS
 refine Z0 (Z3 (Z1 ?_))
 refine Q2 (vA (Z7 .i64 (fun _ => 0))) Yx1 rfl ?_
 refine W9 (z := vA (Z7 .i64 (fun _ => 0))) (Z7 .i64 (fun _ => 0)).toArray Zl0.zero rfl hS rfl ?_
 intro b4 w5 hS
 refine W1 (v := vA (Z7 .i64 (fun _ => 0))) (vs := (Z7 .i64 (fun _ => 0)).toArray) (cs := (Z7 .i64 (fun _ => 0)).toArray) N2 rfl rfl rfl hS rfl (S8 .i64 (fun _ => 0)) rfl ?_
 intro w7 hS
 refine Z0 (Z3 (Z1 (Z4 (vI a0) rfl rfl ?_)))
 obtain ⟨a1, q0⟩ := gd q0
 obtain ⟨a3, q0⟩ := gd q0
 refine W8 Zg4 rfl rfl (by omega) (by omega) rfl ?_
 refine D0 (v := vI 1) (cs := (Z7 .i64 (fun _ => 0)).toArray) (cs' := (Z7 .i64 (T8 (fun _ => 0) a0 1)).toArray) ty3 rfl rfl hS rfl (Zu7 rfl) (by simp [Z7, U2]; omega) (Ze5 (by omega) (by omega)) ?_
 intro a4 hS
 refine Z0 (Z3 (Z1 ?_))
 refine X8 N2 rfl (hS.get mL) rfl rfl ?_
 have hS := hS.perm U4
 refine W1 (v := vA (Z7 .i64 (T8 (fun _ => 0) a0 1))) (vs := (Z7 .i64 (T8 (fun _ => 0) a0 1)).toArray) (cs := (Z7 .i64 (fun _ => 0)).toArray) N2 rfl rfl rfl hS rfl (S8 .i64 (T8 (fun _ => 0) a0 1)) rfl ?_
 intro a5 hS
 have hS := hS.perm U4.symm
 refine Z0 ?_
 refine Y9 (vs := [vA (Z7 .i64 (T8 (fun _ => 0) a0 1))]) Tryz.func151 ⟨⟨_, rfl, U8 N2 (hS.get (mR mL)) rfl⟩, trivial⟩ ?_
 have hz := Option.some.inj q0
 subst hz
 exact ⟨_, _, rfl, Z2, (St.dropA (St.dropA hS)), ⟨_, rfl, rfl⟩⟩
def P5 (K : Nat) (a0 : (A8 × Int)) (a1 : Int) : Option Bool := (if 0 ≤ a1 then (if a1 < 8 then some (decide (0 < (Y5 a0.1 a1))) else none) else none)
theorem Zy4 {K : Nat} {a0 : (A8 × Int)} {a1 : Int} {r : Bool} (q0 : P5 K a0 a1 = some r) {H : FH} {w : World} {L : OL} {s0 : Value} (a5 : Zq0 (X3 .i64) H s0 a1) (hS : St H w L) :
 Calls Tryz.prog 145 #[vA (Z7 .u8 a0.1 ++ [vI a0.2]), s0] w (T6 (fun v G => R.bool.p G v r) H L) := by
 obtain ⟨a7, a8, a6, a9, _, rfl, a3, rfl, a4⟩ := a5
 have Z2 := Sub.refl H
 refine X0 Tryz.func145 rfl Tryz.ntmps145 rfl ?_
 unfold P5 at q0
 refine Z3 (Z1 ?_)
 refine T7 (v := vA (Z7 .u8 a0.1 ++ [vI a0.2])) (Z7 .u8 a0.1 ++ [vI a0.2]).toArray rfl rfl hS rfl ?_
 intro b1 w2 hS
 refine Z6 (Value.bool false) rfl rfl (Z0 (Z3 (Z1 ?_)))
 refine Y4 (vI a1) ty2 rfl (hS.froz _ _ a3) (a4 0 (show 0 < 1 by decide)) rfl (Y2 P0 rfl rfl ?_)
 obtain ⟨b0, q0⟩ := gd q0
 obtain ⟨b2, q0⟩ := gd q0
 refine W8 Za7 rfl rfl (by omega) (by omega) rfl ?_
 refine Y4 (Value.int .u8 (Y5 a0.1 a1)) ty5 rfl (hS.get (o := cA (Z7 .u8 a0.1 ++ [vI a0.2]) 76) mL) (M3 ([]) (([vI a0.2])) (by omega) (by omega)) rfl ?_
 refine Zc5 (k := .u8) (a := (Y5 a0.1 a1)) (b := 0) rfl rfl rfl (Z6 (Value.bool (decide (0 < (Y5 a0.1 a1)))) rfl rfl (Z0 ?_))
 refine Y9 (vs := [Value.bool (decide (0 < (Y5 a0.1 a1)))]) Tryz.func145 ⟨rfl, trivial⟩ ?_
 have hz := Option.some.inj q0
 subst hz
 exact ⟨_, _, rfl, Z2, (St.dropA (A := [(b1, cA (Z7 .u8 a0.1 ++ [vI a0.2]) 76)]) hS), rfl⟩
def Zk5 (K : Nat) (a0 : Int) : Option Int := some (((IntKind.i64.wrap (((a0).tmod 10007) + 10007))).tmod 10007)
theorem Ye7 {K : Nat} {a0 : Int} {r : Int} (q0 : Zk5 K a0 = some r) {H : FH} {w : World} {L : OL} (hS : St H w L) :
 Calls Tryz.prog 215 #[vI a0] w (T6 (fun v G => (R.int .i64).p G v r) H L) := by
 have Z2 := Sub.refl H
 refine X0 Tryz.func215 rfl Tryz.ntmps215 rfl ?_
 unfold Zk5 at q0
 refine Z3 (Z1 (Z6 (vI 0) rfl rfl (Z0 (Z3 (Z1 (Z4 (vI a0) rfl rfl ?_))))))
 refine Zo0 ((a0).tmod 10007) rfl rfl (by decide) rfl rfl ?_
 refine V0 (IntKind.i64.wrap (((a0).tmod 10007) + 10007)) rfl rfl rfl rfl ?_
 refine Zo0 (((IntKind.i64.wrap (((a0).tmod 10007) + 10007))).tmod 10007) rfl rfl (by decide) rfl rfl (Z6 (vI (((IntKind.i64.wrap (((a0).tmod 10007) + 10007))).tmod 10007)) rfl rfl (Z0 ?_))
 refine Y9 (vs := [vI (((IntKind.i64.wrap (((a0).tmod 10007) + 10007))).tmod 10007)]) Tryz.func215 ⟨rfl, trivial⟩ ?_
 have hz := Option.some.inj q0
 subst hz
 exact ⟨_, _, rfl, Z2, hS, rfl⟩
end Go.Proofs.YtfodlhkoafhplaaGreat
