/- Walks of functions: each computes its pure function, if that gives a value. -/
import Derived.Test.YtabofnehiclkiaaGreatXTy
import Derived.Test.YtabofnehiclkiaaGreatXF10
import Derived.Test.YtabofnehiclkiaaGreatXF1
import Derived.Test.YtabofnehiclkiaaGreatXF8
import Derived.Test.YtabofnehiclkiaaGreatXF7
namespace Go.Proofs.YtabofnehiclkiaaGreat
open Go
set_option linter.unusedSimpArgs false
set_option linter.unusedVariables false
set_option maxRecDepth 100000
set_option maxHeartbeats 8000000
variable {K : Nat} {H : FH} {w : World} {L : OL} {s0 s1 s2 s3 s4 s5 s6 : Value}
def Za2 (K : Nat) (a5 : (List A8)) (a1 : Int) : Nat → Int → A8 → Option (Ex (MpT × Int) (A8))
 | 0, _, _ => none
 | k + 1, a4, b0 => (if a4 < 8 then (if 20 < (Y5 (rd a5 a1) a4) then some (.ret (([] : List (A8 × Int)), 3)) else Za2 K a5 a1 k (a4 + 1) (S6 b0 a4 (IntKind.u8.wrap (Y5 (rd a5 a1) a4)))) else some (.go b0))
def Za7 (K : Nat) (a0 : MpT) (a5 : (List A8)) : Nat → Int → MpT → Option (Ex (MpT × Int) (MpT))
 | 0, _, _ => none
 | k + 1, a1, a6 => (if a1 < (a5.length : Int) then ((Za2 K a5 a1 K 0 (fun _ => 0)).bind (Ex.elim (fun r => some (.ret r)) (fun s => (fun (a8 : A8) => (if a6.length + ([(a8, (Q1 a0 (rd a5 a1)))]).length ≤ 1099511627776 then Za7 K a0 a5 k (a1 + 1) (a6 ++ [(a8, (Q1 a0 (rd a5 a1)))]) else none)) s))) else some (.go a6))
def A9 (K : Nat) (a0 : MpT) : Option (MpT × Int) := (if 400 < (a0.length : Int) then some (([] : List (A8 × Int)), 3) else ((Zt6 K a0).bind fun a5 => ((Za7 K a0 a5 K 0 ([] : List (A8 × Int))).bind (Ex.elim (fun r => some r) (fun s => (fun (b3 : MpT) => some (b3, 0)) s)))))
theorem Zz0 {a0 : MpT} {r : (MpT × Int)} (q0 : A9 K a0 = some r) (b7 : Q9 .i64 H s0 a0) (hS : St H w L) :
 Calls Tryz.prog 112 #[s0] w (T2 (fun v G => (R.t2 (R.agg (Y9 yT)) (R.int .i64)).p (G.new H) v r) H L) := by
 have Z3 := Sub.refl H
 refine X3 Tryz.func112 rfl Tryz.ntmps112 rfl ?_
 unfold A9 at q0
 refine Z2 (Z0 ?_)
 refine W6 (z := vA ([vN])) ([vN]).toArray I0.zero rfl hS rfl ?_
 intro b1 _ hS
 refine Z5 (vI 0) rfl rfl (Z1 (Z2 (Z2 (Z0 (Z4 (s0) rfl rfl ?_)))))
 refine Wj8 Zi9 rfl b7 hS rfl ?_
 refine Zi5 (k := .i64) (a := (a0.length : Int)) (b := 400) rfl rfl rfl (Z1 ?_)
 obtain ⟨g1, q0⟩ | ⟨g1, q0⟩ := ic q0
 refine Y0 (bT g1 rfl) (Z2 (Z0 ?_))
 refine R6 (vA ([vN])) Yf8 rfl ?_
 refine X5 (v := vA ([vN])) (vs := ([vN]).toArray) (cs := ([vN]).toArray) U2 rfl rfl rfl hS rfl (U0 rfl) rfl ?_
 intro _ hS
 refine Z5 (vI 3) rfl rfl (Z1 ?_)
 refine X0 (vs := [vA ([vN]), vI 3]) Tryz.func112 ⟨⟨_, rfl, V6 U2 (hS.get mL) rfl⟩, rfl, trivial⟩ ?_
 obtain rfl := oi q0
 exact ⟨_, _, rfl, Z3, (St.dropA hS), ⟨_, _, rfl, ⟨_, rfl, ⟨_, rfl, Z9.nil⟩⟩, rfl⟩⟩
 refine Z8 (bF g1 rfl) (Y8 (Z2 (Z0 ?_)))
 refine R6 (vA ([vN])) Yf8 rfl ?_
 refine W6 (z := vA ([vN])) ([vN]).toArray I0.zero rfl hS rfl ?_
 intro b6 _ hS
 refine X5 (v := vA ([vN])) (vs := ([vN]).toArray) (cs := ([vN]).toArray) U2 rfl rfl rfl hS rfl (U0 rfl) rfl ?_
 intro _ hS
 refine Z1 (Z2 (Z2 (Z0 (Z4 (s0) rfl rfl ?_))))
 obtain ⟨a5, h6, q0⟩ := bind_some q0
 refine X6 Tryz.call195 (S2 rfl) rfl (Yu8 h6 b7 hS) ?_
 rintro d5 h5 _ g2 hS b5
 have Z3 := Z3.trans g2
 have b7 := b7.mono g2
 have j2 := b5.bound
 refine W7 Wf9 rfl b5 rfl (Z4 (vI 0) rfl rfl (Z1 (Y7 ?_)))
 have g3 : W3 yT 78 h5 (.slice none 0 0) [] [] := W3.nil _ _ _
 obtain ⟨g4, b8, e4⟩ := bind_some q0
 refine W1 (id := 0) (fun k f w => ∃ (a1 : Int) (a6 : MpT) (H1 : FH) (a7 : OL) (a3 : Value), Za7 K a0 a5 k a1 a6 = some g4 ∧ Sub H H1 ∧ St H1 w (a7 ++ ([(b6, cA ([a3]) 45)] ++ ([(b1, cA ([vN]) 45)] ++ L))) ∧ 0 ≤ a1 ∧ W3 yT 78 H1 a3 a6 a7 ∧ Q9 .i64 H1 s0 a0 ∧ Z9 (Zr3 .i64) H1 d5 a5 ∧ tv f 0 = s0 ∧ tv f 2 = vP b1 ∧ tv f 4 = vP b6 ∧ tv f 16 = d5 ∧ tv f 17 = vI (a5.length : Int) ∧ tv f 18 = vI a1) (fun f w => ∃ (b3 : MpT) (H1 : FH) (b9 : OL) (b2 : Value), g4 = .go b3 ∧ Sub H H1 ∧ St H1 w (b9 ++ ([(b6, cA ([b2]) 45)] ++ ([(b1, cA ([vN]) 45)] ++ L))) ∧ W3 yT 78 H1 b2 b3 b9 ∧ tv f 2 = vP b1 ∧ tv f 4 = vP b6) rfl ?_ ?_ K ?_ ?_
 rintro f w ⟨a1, a6, H1, a7, a3, b8, _⟩
 rw [Za7] at b8; cases b8
 rintro k _ _ i6 i7 ⟨a1, a6, g5, a7, a3, b8, Z3, hS, _, a9, b7, b5, f6, d6, d7, c9, d0, c4⟩
 rw [Za7] at b8
 refine Z2 (Z0 ?_)
 refine V5 (k := .i64) (a := a1) (b := (a5.length : Int)) (by exact c4) (by exact d0) rfl (Z1 (Z2 ?_))
 obtain ⟨e7, b8⟩ | ⟨e7, b8⟩ := ic b8
 refine Y0 (bT e7 rfl) (Y8 (Z2 (Y7 (Z2 (Z0 ?_)))))
 obtain ⟨_, _, _, _, _, h7, h8, rfl, h9⟩ := b5.elem (i := a1) (by omega) (by omega)
 refine X9 Wf9 rfl (by exact c9) h7 (by exact c4) (by omega) (by omega) rfl ?_
 refine W9 (Z7 .i64 (rd a5 a1)) K2 rfl (hS.froz _ _ h8) rfl h9 rfl ?_
 refine W6 (z := vA (Z7 .i64 (fun _ => 0))) (Z7 .i64 (fun _ => 0)).toArray Zr2.zero rfl hS rfl ?_
 intro e5 _ hS
 refine X5 (v := vA (Z7 .i64 (rd a5 a1))) (vs := (Z7 .i64 (rd a5 a1)).toArray) (cs := (Z7 .i64 (fun _ => 0)).toArray) K2 rfl rfl rfl hS rfl (S4 .i64 (rd a5 a1)) rfl ?_
 intro _ hS
 refine Z1 (Z2 (Z0 ?_))
 refine R6 (vA (Z7 .u8 (fun _ => 0))) Yx8 rfl ?_
 refine W6 (z := vA (Z7 .u8 (fun _ => 0))) (Z7 .u8 (fun _ => 0)).toArray Yf9.zero rfl hS rfl ?_
 intro e6 _ hS
 refine X5 (v := vA (Z7 .u8 (fun _ => 0))) (vs := (Z7 .u8 (fun _ => 0)).toArray) (cs := (Z7 .u8 (fun _ => 0)).toArray) M2 rfl rfl rfl hS rfl (S4 .u8 (fun _ => 0)) rfl ?_
 intro _ hS
 refine Z1 (Z2 (Z2 (Z0 ?_)))
 refine X7 K2 rfl (hS.get (mR mL)) rfl rfl (Z4 (vI 0) rfl rfl (Z1 (Y7 ?_)))
 obtain ⟨g6, b4, c5⟩ := bind_some b8
 refine W1 (id := 2) (fun k f w => ∃ (a4 : Int) (b0 : A8) (H1 : FH), Za2 K a5 a1 k a4 b0 = some g6 ∧ Sub H H1 ∧ St H1 w ([(e6, cA (Z7 .u8 b0) 72)] ++ ([(e5, cA (Z7 .i64 (rd a5 a1)) 222)] ++ (a7 ++ ([(b6, cA ([a3]) 45)] ++ ([(b1, cA ([vN]) 45)] ++ L))))) ∧ 0 ≤ a4 ∧ Q9 .i64 H1 s0 a0 ∧ Z9 (Zr3 .i64) H1 d5 a5 ∧ W3 yT 78 H1 a3 a6 a7 ∧ tv f 0 = s0 ∧ tv f 2 = vP b1 ∧ tv f 4 = vP b6 ∧ tv f 6 = vP e5 ∧ tv f 7 = vP e6 ∧ tv f 16 = d5 ∧ tv f 17 = vI (a5.length : Int) ∧ tv f 18 = vI a1 ∧ tv f 23 = vA (Z7 .i64 (rd a5 a1)) ∧ tv f 24 = vI a4) (fun f w => ∃ (a8 : A8) (H1 : FH), g6 = .go a8 ∧ Sub H H1 ∧ St H1 w ([(e6, cA (Z7 .u8 a8) 72)] ++ ([(e5, cA (Z7 .i64 (rd a5 a1)) 222)] ++ (a7 ++ ([(b6, cA ([a3]) 45)] ++ ([(b1, cA ([vN]) 45)] ++ L))))) ∧ Q9 .i64 H1 s0 a0 ∧ Z9 (Zr3 .i64) H1 d5 a5 ∧ W3 yT 78 H1 a3 a6 a7 ∧ tv f 0 = s0 ∧ tv f 2 = vP b1 ∧ tv f 4 = vP b6 ∧ tv f 6 = vP e5 ∧ tv f 7 = vP e6 ∧ tv f 16 = d5 ∧ tv f 17 = vI (a5.length : Int) ∧ tv f 18 = vI a1) rfl ?_ ?_ K ?_ ?_
 rintro f w ⟨a4, b0, H1, b4, _⟩
 rw [Za2] at b4; cases b4
 rintro k _ _ i8 i9 ⟨a4, b0, g7, b4, Z3, hS, _, b7, b5, a9, d8, c2, d9, e0, c6, d1, d2, d3, d4, c0⟩
 rw [Za2] at b4
 refine Z2 (Z0 ?_)
 refine V5 (k := .i64) (a := a4) (b := 8) (by exact c0) rfl rfl (Z1 (Z2 ?_))
 obtain ⟨e8, b4⟩ | ⟨e8, b4⟩ := ic b4
 refine Y0 (bT e8 rfl) (Y8 (Z2 (Y7 (Z2 (Z0 (Z4 (vI a4) (by exact c0) rfl ?_))))))
 refine Yo1 (vI (Y5 (rd a5 a1) a4)) Zm2 (by exact d4) (by exact c0) (by omega) (by omega) (Ym2 (by omega) (by omega)) rfl (Z5 (vI a4) rfl rfl (Z5 (vI (Y5 (rd a5 a1) a4)) rfl rfl (Z1 (Z2 (Z2 (Z0 (Z4 (vI (Y5 (rd a5 a1) a4)) rfl rfl ?_)))))))
 refine Zi5 (k := .i64) (a := (Y5 (rd a5 a1) a4)) (b := 20) rfl rfl rfl (Z1 ?_)
 obtain ⟨e9, b4⟩ | ⟨e9, b4⟩ := ic b4
 refine Y0 (bT e9 rfl) (Z2 (Z0 ?_))
 refine R6 (vA ([vN])) Yf8 rfl ?_
 have hS := hS.perm Xa1
 refine X5 (v := vA ([vN])) (vs := ([vN]).toArray) (cs := ([vN]).toArray) U2 (by exact c2) rfl rfl hS rfl (U0 rfl) rfl ?_
 intro _ hS
 have hS := hS.perm Xa1.symm
 refine Z5 (vI 3) rfl rfl (Z1 ?_)
 refine X0 (vs := [vA ([vN]), vI 3]) Tryz.func112 ⟨⟨_, (by exact c2), V6 U2 (hS.get (mR (mR (mR (mR mL))))) rfl⟩, rfl, trivial⟩ ?_
 obtain rfl := oi b4
 dsimp only [Ex.elim] at c5
 obtain rfl := oi c5
 dsimp only [Ex.elim] at e4
 obtain rfl := oi e4
 exact ⟨_, _, rfl, Z3, (St.dropA (St.dropA (St.dropA (St.dropA (St.dropA hS))))), ⟨_, _, rfl, ⟨_, rfl, ⟨_, rfl, Z9.nil⟩⟩, rfl⟩⟩
 refine Z8 (bF e9 rfl) (Y8 (Z0 (Z4 (vI a4) rfl rfl (Z4 (vI (Y5 (rd a5 a1) a4)) rfl rfl ?_))))
 refine Ym6 (s := .i64) ((IntKind.u8.wrap (Y5 (rd a5 a1) a4))) Wd8 rfl rfl rfl ?_
 refine V2 Zd9 (by exact c6) rfl (by omega) (by omega) rfl ?_
 refine Zb1 (v := Value.int .u8 (IntKind.u8.wrap (Y5 (rd a5 a1) a4))) (cs := (Z7 .u8 b0).toArray) (cs' := (Z7 .u8 (S6 b0 a4 (IntKind.u8.wrap (Y5 (rd a5 a1) a4)))).toArray) ty5 rfl rfl hS rfl (Yb6 rfl) (by simp [Z7, L5]; omega) (Zj1 (by omega) (by omega)) ?_
 intro _ hS
 refine Z1 (X4 (Z0 ?_))
 refine W8 (a4 + 1) (by exact c0) rfl (IntWalk.i64_in _ (by omega)) rfl (Z4 (vI (a4 + 1)) rfl rfl (Z1 ?_))
 exact i8 _ _ ⟨(a4 + 1), (S6 b0 a4 (IntKind.u8.wrap (Y5 (rd a5 a1) a4))), g7, b4, Z3, hS, (by omega), b7, b5, a9, d8, c2, d9, e0, c6, d1, d2, d3, d4, rfl⟩
 refine Z8 (bF e8 rfl) ?_
 refine W0 rfl ?_
 obtain rfl := oi b4
 exact i9 _ _ ⟨b0, g7, rfl, Z3, hS, b7, b5, a9, d8, c2, d9, e0, c6, d1, d2, d3⟩
 exact ⟨0, (fun _ => 0), g5, b4, Z3, hS, (by omega), b7, b5, a9, f6, d6, d7, rfl, rfl, c9, d0, c4, rfl, rfl⟩
 rintro _ _ ⟨a8, _, rfl, Z3, hS, b7, b5, a9, e1, f7, e2, f8, f9, f0, f1, f2⟩
 dsimp only [Ex.elim] at c5
 have U5 := Z3
 refine U1 8 (P0 [mE 36 (vP b6), mE 37 (a3), mE 38 (vA (Z7 .u8 a8)), mE 39 (s0), mE 40 (vA (Z7 .i64 (rd a5 a1))), mE 41 (vI (Q1 a0 (rd a5 a1))), mE 42 (vA (Z7 .u8 a8 ++ [vI (Q1 a0 (rd a5 a1))])), (43, MP.sl yT ([(a8, (Q1 a0 (rd a5 a1)))]))]) [] mixed rfl rfl rfl hS (Z6 rfl ?_ (Z6 rfl ?_ (Z6 rfl ?_ (Z6 rfl ?_ (Z6 rfl ?_ (Z6 rfl ?_ (Z6 rfl ?_ (Z6 rfl ?_ U7)))))))) ?_
 exact W5 fun S B => Y2 V9 (evT (B 4 rfl) e2) rfl (qz S)
 exact X2 fun S V => Y3 (a3) Q4 (eM (V 0 36 rfl rfl)) (S.get (mR (mR (mR (mR mL))))) rfl rfl (qz S)
 exact W5 fun S B => X7 M2 (evT (B 7 rfl) f9) (S.get (mR mL)) rfl rfl (qz S)
 exact W5 fun S B => Z4 (s0) (evT (B 0 rfl) e1) rfl (qz S)
 exact W5 fun S B => X7 K2 (evT (B 6 rfl) f8) (S.get (mR (mR mL))) rfl rfl (qz S)
 exact E6 fun s S V => Wk0 (a := (rd a5 a1)) Zi9 (eM (V 3 39 rfl rfl)) (eM (V 4 40 rfl rfl)) (b7.mono s) S rfl (qz S)
 exact X2 fun S V => Zl9 (Z7 .u8 a8 ++ [vI (Q1 a0 (rd a5 a1))]) Xf8 (Zz1 (eM (V 2 38 rfl rfl)) (eM (V 5 41 rfl rfl))) (Q5 rfl rfl rfl (nl rfl) (Q5 rfl rfl rfl (nl rfl) (Zh6 rfl))) rfl (qz S)
 intro _ _ j0 _ i0 hS _ i1 hcq
 have Z3 := Sub.refl j0
 have S7 := U5.trans i0
 refine D9 (τ := yT) R7 Ya6 rfl [vA (Z7 .u8 a8 ++ [vI (Q1 a0 (rd a5 a1))])] [(a8, (Q1 a0 (rd a5 a1)))] rfl rfl (K6 (eM (i1 6 42 rfl rfl))) (Zi6 ⟨_, _, rfl, rfl, rfl⟩) (by decide) (by decide) hS rfl ?_
 intro _ _ _ h0 hS h1
 have Z3 := Z3.trans h0
 exact Z1 ⟨43, _, _, rfl, rfl, Z3, hS, h1⟩
 intro _ i2 g8 c7 hS c3 f4 hcq
 have hS : St g8 i2 ([(e6, cA (Z7 .u8 a8) 72)] ++ ([(e5, cA (Z7 .i64 (rd a5 a1)) 222)] ++ (a7 ++ ([(b6, cA ([a3]) 45)] ++ ([(b1, cA ([vN]) 45)] ++ L))))) := hS
 have Z3 := Z3.trans c7
 have b7 := b7.mono c7
 have b5 := b5.mono c7
 have a9 := a9.mono c7
 have g9 := evT (c3 4 rfl) e2
 obtain ⟨_, i3, h2⟩ := gvS (f4 7 43 (by decide) rfl)
 obtain ⟨h3, c5⟩ := gd c5
 have hS := hS.perm Q8
 refine N5 (τ := yT) Yw2 rfl (by exact (eM (f4 1 37 (by decide) rfl))) (by exact i3) a9 hS h2 h3 rfl ?_
 intro f3 _ i4 f5 hS
 have hS := hS.perm Q8.symm
 refine Y2 V9 (by exact g9) rfl ?_
 have hS := hS.perm Ye9
 refine Zb3 (v := f3) (cs := ([a3]).toArray) (cs' := ([f3]).toArray) Q4 rfl rfl hS f5.isOne rfl (nl rfl) rfl ?_
 intro _ hS
 have hS := hS.perm Ye9.symm
 refine Z1 (X4 (Z0 ?_))
 refine W8 (a1 + 1) (by exact (evT (c3 18 rfl) f2)) rfl (IntWalk.i64_in _ (by omega)) rfl (Z4 (vI (a1 + 1)) rfl rfl (Z1 ?_))
 have hS := St.dropA hS
 have hS := St.dropA hS
 exact i6 _ _ ⟨(a1 + 1), (a6 ++ [(a8, (Q1 a0 (rd a5 a1)))]), g8, i4, f3, c5, Z3, hS, (by omega), f5, b7, b5, (evT (c3 0 rfl) e1), (evT (c3 2 rfl) f7), g9, (evT (c3 16 rfl) f0), (evT (c3 17 rfl) f1), rfl⟩
 refine Z8 (bF e7 rfl) ?_
 refine W0 rfl ?_
 obtain rfl := oi b8
 exact i7 _ _ ⟨a6, g5, a7, a3, rfl, Z3, hS, a9, d6, d7⟩
 exact ⟨0, ([] : List (A8 × Int)), h5, ([]), (vN), b8, Z3, hS, (by omega), g3, b7, b5, rfl, rfl, rfl, rfl, rfl, rfl⟩
 rintro _ _ ⟨b3, _, b9, b2, rfl, Z3, hS, c1, e3, g0⟩
 dsimp only [Ex.elim] at e4
 refine Z2 (Z0 ?_)
 refine X7 U2 (by exact g0) (hS.get (mR mL)) rfl rfl ?_
 have hS := hS.perm Q8
 refine X5 (v := vA ([b2])) (vs := ([b2]).toArray) (cs := ([vN]).toArray) U2 (by exact e3) rfl rfl hS rfl (U0 c1.isOne) rfl ?_
 intro _ hS
 have hS := hS.perm Q8.symm
 refine Z5 (vI 0) rfl rfl (Z1 ?_)
 refine X0 (vs := [vA ([b2]), vI 0]) Tryz.func112 ⟨⟨_, (by exact e3), V6 U2 (hS.get (mR (mR mL))) rfl⟩, rfl, trivial⟩ ?_
 obtain ⟨i5, h4, hS, c8⟩ := W3.freezeF (τ := yT) (H0 := H) c1 hS Z3
 have j1 := Z9.old c8
 have c8 : RdF yT H i5 b2 b3 := c8
 have Z3 := Z3.trans h4
 obtain rfl := oi e4
 exact ⟨_, _, rfl, Z3, (St.dropA (St.dropA hS)), ⟨_, _, rfl, ⟨_, rfl, ⟨_, rfl, c8⟩⟩, rfl⟩⟩
def U3 (K : Nat) (a1 : (List Int)) (a5 : (A8 × Int)) : Nat → MpT → MpT → Option (Ex MpT (MpT))
 | 0, _, _ => none
 | k + 1, [], a3 => some (.go a3)
 | k + 1, c3 :: d9, a3 => ((Za6 K a5.1 a1 c3.1).bind fun a7 => (if a7.2 = 0 then U3 K a1 a5 k d9 a3 else ((T8 K a3 a7.1 (((IntKind.i64.wrap ((IntKind.i64.wrap (a7.2 * a5.2)) * c3.2))).tmod 10007)).bind fun f6 => U3 K a1 a5 k d9 f6)))
theorem Ym8 {a1 : (List Int)} {a5 : (A8 × Int)} {a3 : MpT} {k : Nat} {zp zq : MpT} {o : Ex MpT (MpT)} (hp : zp.Perm zq) (q : U3 K a1 a5 k zp a3 = some o) : U3 K a1 a5 k zq a3 = some o := by
 exact (Yh7 (K := K) (fun k zs s => U3 K a1 a5 k zs s) (by intros; rw [U3])
  (fun z => ⟨fun s => (Za6 K a5.1 a1 z.1).bind fun r => if r.2 = 0 then some s else T8 K s r.1 (((IntKind.i64.wrap ((IntKind.i64.wrap (r.2 * a5.2)) * z.2))).tmod 10007), .const fun r => .ite .skip (.add _ _), by
   intro k zs s
   rw [U3]
   cases Za6 K a5.1 a1 z.1 with
   | none => rfl
   | some r => simp only [Option.bind_some]; split <;> rfl⟩) hp k a3).symm.trans q
def R2 (K : Nat) (a1 : (List Int)) (a2 : MpT) : Nat → MpT → MpT → Option (Ex MpT (MpT))
 | 0, _, _ => none
 | k + 1, [], a4 => some (.go a4)
 | k + 1, a5 :: e0, a4 => ((U3 K a1 a5 K a2 a4).bind (Ex.elim (fun r => some (.ret r)) (fun s => (fun (b4 : MpT) => R2 K a1 a2 k e0 b4) s)))
theorem Yk9 {a1 : (List Int)} {a2 : MpT} {a4 : MpT} {k : Nat} {zp zq : MpT} {o : Ex MpT (MpT)} (hp : zp.Perm zq) (q : R2 K a1 a2 k zp a4 = some o) : R2 K a1 a2 k zq a4 = some o := by
 have hl : ∀ (z : A8 × Int) (k : Nat) (zs : MpT), Zt2 K (fun (_ : Unit) s => s) (fun s => U3 K a1 z k zs s) := by
  intro z k
  induction k with
  | zero => intro zs; exact ⟨none, fun s => (show U3 K a1 z 0 zs s = none by rw [U3])⟩
  | succ k ih =>
   intro zs
   cases zs with
   | nil =>
    have e : (fun s => U3 K a1 z (k + 1) [] s) = fun s => some (.go s) := by funext s; rw [U3]
    rw [e]; exact .go (h := fun (_ : Unit) s => s) ()
   | cons y zs =>
    have e : (fun s => U3 K a1 z (k + 1) (y :: zs) s) = fun s => (Za6 K z.1 a1 y.1).bind fun r => if r.2 = 0 then U3 K a1 z k zs s else (T8 K s r.1 (((IntKind.i64.wrap ((IntKind.i64.wrap (r.2 * z.2)) * y.2))).tmod 10007)).bind fun t => U3 K a1 z k zs t := by
     funext s; rw [U3]
    rw [e]
    exact .const fun r => .ite (ih zs) (.bind (.add _ _) (ih zs))
 exact (Yh7 (K := K) (fun k zs s => R2 K a1 a2 k zs s) (by intros; rw [R2])
  (fun z => by
   obtain ⟨F, hF, hs⟩ := (hl z K a2).step (fun s => s) (fun _ _ => rfl)
   refine ⟨F, hF, fun k zs s => ?_⟩
   rw [R2]
   exact hs _ (R2 K a1 a2 k zs) s) hp k a4).symm.trans q
def J8 (K : Nat) (a0 : MpT) (a1 : (List Int)) (a2 : MpT) : Option MpT := ((R2 K a1 a2 K a0 ([] : MpT)).bind (Ex.elim (fun r => some r) (fun s => (fun (b8 : MpT) => some b8) s)))
theorem Zq9 {a0 : MpT} {a1 : (List Int)} {a2 : MpT} {r : MpT} (q0 : J8 K a0 a1 a2 = some r) (h5 : Q9 .i64 H s0 a0) (b6 : Z9 (Y6 .i64) H s1 a1) (b7 : Q9 .i64 H s2 a2) (hS : St H w L) :
 Calls Tryz.prog 128 #[s0, s1, s2] w (Yt8 .i64 r H L) := by
 have Z3 := Sub.refl H
 refine X3 Tryz.func128 rfl Tryz.ntmps128 rfl ?_
 unfold J8 at q0
 refine Z2 (Z0 (Z5 (Value.map none) rfl rfl (Z1 (Z2 (Z0 ?_)))))
 refine Zk3 (k := .i64) hS rfl ?_
 intro m1 _ C3 h6 hS
 refine Z5 (m1) rfl rfl (Z1 (Z2 (Z2 (Z0 (Z4 (s0) rfl rfl ?_)))))
 refine Yk7 Zi9 rfl h5 hS rfl ?_
 intro e1 _ C8 h7 hS
 refine Z1 (Y7 ?_)
 obtain ⟨f7, b5, f8⟩ := bind_some q0
 refine W1 (id := 0) (fun k f w => ∃ (b9 : MpT) (a4 : MpT) (H1 : FH) (b0 : OL) (a8 : OL), R2 K a1 a2 k b9 a4 = some f7 ∧ Sub H H1 ∧ St H1 w (b0 ++ (a8 ++ L)) ∧ Zh4 .i64 H1 e1 b9 none b0 ∧ P7 .i64 m1 a4 a8 ∧ Z9 (Y6 .i64) H1 s1 a1 ∧ Q9 .i64 H1 s2 a2 ∧ tv f 1 = s1 ∧ tv f 2 = s2 ∧ tv f 7 = m1 ∧ tv f 16 = e1) (fun f w => ∃ (b8 : MpT) (H1 : FH) (c4 : OL) (c8 : OL), f7 = .go b8 ∧ Sub H H1 ∧ St H1 w (c4 ++ (c8 ++ L)) ∧ Zh4 .i64 H1 e1 ([] : MpT) none c4 ∧ P7 .i64 m1 b8 c8 ∧ tv f 7 = m1) rfl ?_ ?_ K ?_ ?_
 rintro f w ⟨b9, a4, H1, b0, a8, b5, _⟩
 rw [R2] at b5; cases b5
 rintro k _ _ h8 h9 ⟨b9, a4, f9, b0, a8, b5, Z3, hS, d2, d8, b6, b7, f1, e3, e4, c9⟩
 refine Z2 (Z0 ?_)
 refine Yr2 (by exact c9) d2 hS rfl ?_ ?_
 intro g5; subst g5
 rw [R2] at b5
 refine W4 (vB false) rfl rfl rfl (Z1 (Z2 (Z8 rfl ?_)))
 refine W0 rfl ?_
 obtain rfl := oi b5
 exact h9 _ _ ⟨a4, f9, b0, a8, rfl, Z3, hS, d2, d8, e4⟩
 intro a5 e0 _ e5 g6 b3 hS
 replace b5 := Yk9 g6 b5
 rw [R2] at b5
 refine W4 (vB true) rfl rfl rfl (Z1 (Z2 (Y0 rfl (Y8 (Y7 (Z2 (Z0 ?_)))))))
 refine Yk5 (by exact c9) b3 hS rfl (W4 (vA (Z7 .i64 a5.1)) rfl rfl rfl (W4 (vI a5.2) rfl rfl rfl ?_))
 refine W6 (z := vA (Z7 .i64 (fun _ => 0))) (Z7 .i64 (fun _ => 0)).toArray Zr2.zero rfl hS rfl ?_
 intro g0 _ hS
 refine X5 (v := vA (Z7 .i64 a5.1)) (vs := (Z7 .i64 a5.1).toArray) (cs := (Z7 .i64 (fun _ => 0)).toArray) K2 rfl rfl rfl hS rfl (S4 .i64 a5.1) rfl ?_
 intro _ hS
 refine Z5 (vI a5.2) rfl rfl (Z1 (Z2 (Z0 (Z4 (s2) (by exact e3) rfl ?_))))
 refine Yk7 Zi9 rfl b7 hS rfl ?_
 intro e8 _ i0 g7 hS
 refine Z1 (Y7 ?_)
 obtain ⟨g1, a6, g2⟩ := bind_some b5
 refine W1 (id := 2) (fun k f w => ∃ (c0 : MpT) (a3 : MpT) (H1 : FH) (b1 : OL) (a9 : OL), U3 K a1 a5 k c0 a3 = some g1 ∧ Sub H H1 ∧ St H1 w (b1 ++ ([(g0, cA (Z7 .i64 a5.1) 222)] ++ (e5 ++ (a9 ++ L)))) ∧ Zh4 .i64 H1 e8 c0 none b1 ∧ P7 .i64 m1 a3 a9 ∧ Z9 (Y6 .i64) H1 s1 a1 ∧ Q9 .i64 H1 s2 a2 ∧ Zh4 .i64 H1 e1 e0 (some a5) e5 ∧ tv f 1 = s1 ∧ tv f 2 = s2 ∧ tv f 7 = m1 ∧ tv f 8 = vP g0 ∧ tv f 9 = vI a5.2 ∧ tv f 16 = e1 ∧ tv f 23 = e8) (fun f w => ∃ (b4 : MpT) (H1 : FH) (c5 : OL) (c1 : OL), g1 = .go b4 ∧ Sub H H1 ∧ St H1 w (c5 ++ ([(g0, cA (Z7 .i64 a5.1) 222)] ++ (e5 ++ (c1 ++ L)))) ∧ Zh4 .i64 H1 e8 ([] : MpT) none c5 ∧ P7 .i64 m1 b4 c1 ∧ Z9 (Y6 .i64) H1 s1 a1 ∧ Q9 .i64 H1 s2 a2 ∧ Zh4 .i64 H1 e1 e0 (some a5) e5 ∧ tv f 1 = s1 ∧ tv f 2 = s2 ∧ tv f 7 = m1 ∧ tv f 16 = e1) rfl ?_ ?_ K ?_ ?_
 rintro f w ⟨c0, a3, H1, b1, a9, a6, _⟩
 rw [U3] at a6; cases a6
 rintro k _ _ g3 i1 ⟨c0, a3, g8, b1, a9, a6, Z3, hS, d3, b2, b6, b7, b3, c6, d4, c7, d5, d6, d0, c2⟩
 refine Z2 (Z0 ?_)
 refine Yr2 (by exact c2) d3 hS rfl ?_ ?_
 intro g9; subst g9
 rw [U3] at a6
 refine W4 (vB false) rfl rfl rfl (Z1 (Z2 (Z8 rfl ?_)))
 refine W0 rfl ?_
 obtain rfl := oi a6
 exact i1 _ _ ⟨a3, g8, b1, a9, rfl, Z3, hS, d3, b2, b6, b7, b3, c6, d4, c7, d0⟩
 intro c3 d9 _ g4 h0 d1 hS
 replace a6 := Ym8 h0 a6
 rw [U3] at a6
 refine W4 (vB true) rfl rfl rfl (Z1 (Z2 (Y0 rfl (Y8 (Y7 (Z2 (Z0 ?_)))))))
 refine Yk5 (by exact c2) d1 hS rfl (W4 (vA (Z7 .i64 c3.1)) rfl rfl rfl (W4 (vI c3.2) rfl rfl rfl ?_))
 refine W6 (z := vA (Z7 .i64 (fun _ => 0))) (Z7 .i64 (fun _ => 0)).toArray Zr2.zero rfl hS rfl ?_
 intro _ _ hS
 refine X5 (v := vA (Z7 .i64 c3.1)) (vs := (Z7 .i64 c3.1).toArray) (cs := (Z7 .i64 (fun _ => 0)).toArray) K2 rfl rfl rfl hS rfl (S4 .i64 c3.1) rfl ?_
 intro _ hS
 refine Z5 (vI c3.2) rfl rfl (Z1 (Z2 (Z0 ?_)))
 refine X7 K2 (by exact d5) (hS.get (mR (mR mL))) rfl rfl (Z4 (s1) (by exact c6) rfl ?_)
 refine X7 K2 rfl (hS.get mL) rfl rfl ?_
 obtain ⟨a7, h1, a6⟩ := bind_some a6
 refine X6 Tryz.call216 (G7 rfl rfl rfl) rfl (Yq7 h1 b6 hS) ?_
 rintro _ i2 _ d7 hS ⟨_, _, rfl, ⟨_, rfl, rfl⟩, rfl⟩
 have Z3 := Z3.trans d7
 have b6 := b6.mono d7
 have b7 := b7.mono d7
 have b2 := b2.mono d7
 have b3 := b3.mono d7
 have d1 := d1.mono d7
 refine Z4 (Value.tuple #[vA (Z7 .i64 a7.1), vI a7.2]) rfl rfl (W4 (vA (Z7 .i64 a7.1)) rfl rfl rfl (W4 (vI a7.2) rfl rfl rfl ?_))
 refine W6 (z := vA (Z7 .i64 (fun _ => 0))) (Z7 .i64 (fun _ => 0)).toArray Zr2.zero rfl hS rfl ?_
 intro _ _ hS
 refine X5 (v := vA (Z7 .i64 a7.1)) (vs := (Z7 .i64 a7.1).toArray) (cs := (Z7 .i64 (fun _ => 0)).toArray) K2 rfl rfl rfl hS rfl (S4 .i64 a7.1) rfl ?_
 intro _ hS
 refine Z5 (vI a7.2) rfl rfl (Z1 (Z2 (Z0 (Z4 (vI a7.2) rfl rfl ?_))))
 refine L7 (k := .i64) (a := a7.2) (b := 0) rfl rfl rfl (Z1 ?_)
 obtain ⟨e9, a6⟩ | ⟨e9, a6⟩ := ic a6
 refine Z8 (bN e9 rfl) (Y8 (X4 ?_))
 have hS := St.dropA hS
 have hS := St.dropA hS
 exact g3 _ _ ⟨d9, a3, i2, g4, a9, a6, Z3, hS, d1.drop, b2, b6, b7, b3, c6, d4, c7, d5, d6, d0, c2⟩
 refine Y0 (bO e9 rfl) (Z0 (Z4 (m1) (by exact c7) rfl ?_))
 refine X7 K2 rfl (hS.get mL) rfl rfl (Z4 (vI a7.2) rfl rfl (Z4 (vI a5.2) (by exact d6) rfl ?_))
 refine Zt1 (IntKind.i64.wrap (a7.2 * a5.2)) rfl rfl rfl rfl (Z4 (vI c3.2) rfl rfl ?_)
 refine Zt1 (IntKind.i64.wrap ((IntKind.i64.wrap (a7.2 * a5.2)) * c3.2)) rfl rfl rfl rfl ?_
 refine Zk7 (((IntKind.i64.wrap ((IntKind.i64.wrap (a7.2 * a5.2)) * c3.2))).tmod 10007) rfl rfl (by decide) rfl rfl ?_
 obtain ⟨f6, h2, a6⟩ := bind_some a6
 have hS := hS.perm Yn6
 refine T5 Tryz.call217 (G7 rfl rfl rfl) rfl (Yj4 h2 b2 hS) ?_
 rintro _ _ ⟨i3, i4, rfl, e2, hS, h3⟩
 refine ⟨_, rfl, ?_⟩
 have Z3 := Z3.trans e2
 have b6 := b6.mono e2
 have b7 := b7.mono e2
 have b3 := b3.mono e2
 have d1 := d1.mono e2
 have hS := hS.perm Yn6.symm
 refine Z1 (X4 ?_)
 have hS := St.dropA hS
 have hS := St.dropA hS
 exact g3 _ _ ⟨d9, f6, i3, g4, i4, a6, Z3, hS, d1.drop, h3, b6, b7, b3, c6, d4, c7, d5, d6, d0, c2⟩
 exact ⟨a2, a4, f9, i0, a8, a6, Z3, hS, g7, d8, b6, b7, b3, f1, e3, e4, rfl, rfl, c9, rfl⟩
 rintro _ _ ⟨b4, h4, c5, c1, rfl, Z3, hS, _, e6, b6, b7, b3, f2, f3, f4, f0⟩
 dsimp only [Ex.elim] at g2
 refine X4 ?_
 have hS := St.dropA hS
 have hS := St.dropA hS
 exact h8 _ _ ⟨e0, b4, h4, e5, c1, g2, Z3, hS, b3.drop, e6, b6, b7, f2, f3, f4, f0⟩
 exact ⟨a0, ([] : MpT), H, C8, C3, b5, Z3, hS, h7, h6, b6, b7, rfl, rfl, rfl, rfl⟩
 rintro _ _ ⟨b8, _, c4, c8, rfl, Z3, hS, _, e7, f5⟩
 dsimp only [Ex.elim] at f8
 refine Z2 (Z0 (Z4 (m1) (by exact f5) rfl (Z5 (m1) rfl rfl (Z1 ?_))))
 refine X0 (vs := [m1]) Tryz.func128 ⟨rfl, trivial⟩ ?_
 have hS := hS.perm V1
 have hS := St.dropMid hS
 obtain rfl := oi f8
 exact ⟨_, _, _, rfl, Z3, hS, e7⟩
def E9 (K : Nat) (a1 : (List Int)) (a4 : Int) : Nat → Bool → Int → Option (Ex (List MpT) (Bool))
 | 0, _, _ => none
 | k + 1, b6, a5 => (if a5 < (a1.length : Int) then (if b6 = true then E9 K a1 a4 k true (a5 + 1) else E9 K a1 a4 k (decide ((rd a1 a5) = a4)) (a5 + 1)) else some (.go b6))
def E5 (K : Nat) (a0 : Int) (a1 : (List Int)) : Nat → Int → (List MpT) → Int → Option (Ex (List MpT) ((List MpT)))
 | 0, _, _, _ => none
 | k + 1, a4, a6, a9 => (if a4 < a0 then ((E9 K a1 a4 K false 0).bind (Ex.elim (fun r => some (.ret r)) (fun s => (fun (c2 : Bool) => (if c2 = true then (if a6.length + ([([] : List (A8 × Int))]).length ≤ 1099511627776 then E5 K a0 a1 k (IntKind.i64.wrap (a4 + 1)) (a6 ++ [([] : List (A8 × Int))]) a9 else none) else ((Zl1 K a9).bind fun d5 => (if a6.length + ([d5]).length ≤ 1099511627776 then E5 K a0 a1 k (IntKind.i64.wrap (a4 + 1)) (a6 ++ [d5]) (IntKind.i64.wrap (a9 + 1)) else none)))) s))) else some (.go a6))
def Zn0 (K : Nat) (a0 : Int) (a1 : (List Int)) : Option (List MpT) := ((E5 K a0 a1 K 0 ([] : List MpT) 0).bind (Ex.elim (fun r => some r) (fun s => (fun (b7 : (List MpT)) => some b7) s)))
theorem Yh5 {a0 : Int} {a1 : (List Int)} {r : (List MpT)} (q0 : Zn0 K a0 a1 = some r) (b1 : Z9 (Y6 .i64) H s0 a1) (hS : St H w L) :
 Calls Tryz.prog 178 #[vI a0, s0] w (Wt0 (Y9 yT) 45 r H L) := by
 have Z3 := Sub.refl H
 refine X3 Tryz.func178 rfl Tryz.ntmps178 rfl ?_
 unfold Zn0 at q0
 refine Z2 (Z0 (Z5 (vN) rfl rfl (Z1 (Z2 (Z0 ?_)))))
 refine Zq2 (τ := (Y9 yT)) P6 I0 rfl hS rfl ?_
 intro u1 _ C3 g8 hS
 refine Z5 (u1) rfl rfl (Z5 (vI 0) rfl rfl (Z1 (Z2 (Z2 (Z0 (Z5 (vI 0) rfl rfl (Z1 (Y7 ?_))))))))
 obtain ⟨e6, b4, e7⟩ := bind_some q0
 refine W1 (id := 0) (fun k f w => ∃ (a4 : Int) (a6 : (List MpT)) (a9 : Int) (H1 : FH) (a8 : OL) (a7 : Value), E5 K a0 a1 k a4 a6 a9 = some e6 ∧ Sub H H1 ∧ St H1 w (a8 ++ L) ∧ W3 (Y9 yT) 45 H1 a7 a6 a8 ∧ Z9 (Y6 .i64) H1 s0 a1 ∧ tv f 0 = vI a0 ∧ tv f 1 = s0 ∧ tv f 5 = a7 ∧ tv f 6 = vI a9 ∧ tv f 7 = vI a4) (fun f w => ∃ (b7 : (List MpT)) (H1 : FH) (c1 : OL) (b2 : Value), e6 = .go b7 ∧ Sub H H1 ∧ St H1 w (c1 ++ L) ∧ W3 (Y9 yT) 45 H1 b2 b7 c1 ∧ tv f 5 = b2) rfl ?_ ?_ K ?_ ?_
 rintro f w ⟨a4, a6, a9, H1, a8, a7, b4, _⟩
 rw [E5] at b4; cases b4
 rintro k _ _ f4 g9 ⟨a4, a6, a9, e8, a8, a7, b4, Z3, hS, a3, b1, c7, e2, c8, e3, c9⟩
 rw [E5] at b4
 refine Z2 (Z2 (Z0 (Z4 (vI a4) (by exact c9) rfl (Z4 (vI a0) (by exact c7) rfl ?_))))
 refine V5 (k := .i64) (a := a4) (b := a0) rfl rfl rfl (Z1 ?_)
 obtain ⟨e9, b4⟩ | ⟨e9, b4⟩ := ic b4
 refine Y0 (bT e9 rfl) (Y8 (Z2 (Y7 (Z2 (Z0 (Z5 (vB false) rfl rfl (Z1 (Z2 (Z2 (Z0 (Z5 (vI 0) rfl rfl (Z1 (Y7 ?_)))))))))))))
 obtain ⟨f0, b0, b3⟩ := bind_some b4
 refine W1 (id := 2) (fun k f w => ∃ (b6 : Bool) (a5 : Int) (H1 : FH), E9 K a1 a4 k b6 a5 = some f0 ∧ Sub H H1 ∧ St H1 w (a8 ++ L) ∧ 0 ≤ a5 ∧ Z9 (Y6 .i64) H1 s0 a1 ∧ W3 (Y9 yT) 45 H1 a7 a6 a8 ∧ tv f 0 = vI a0 ∧ tv f 1 = s0 ∧ tv f 5 = a7 ∧ tv f 6 = vI a9 ∧ tv f 7 = vI a4 ∧ tv f 8 = vB b6 ∧ tv f 9 = vI a5) (fun f w => ∃ (c2 : Bool) (H1 : FH), f0 = .go c2 ∧ Sub H H1 ∧ St H1 w (a8 ++ L) ∧ Z9 (Y6 .i64) H1 s0 a1 ∧ W3 (Y9 yT) 45 H1 a7 a6 a8 ∧ tv f 0 = vI a0 ∧ tv f 1 = s0 ∧ tv f 5 = a7 ∧ tv f 6 = vI a9 ∧ tv f 7 = vI a4 ∧ tv f 8 = vB c2) rfl ?_ ?_ K ?_ ?_
 rintro f w ⟨b6, a5, H1, b0, _⟩
 rw [E9] at b0; cases b0
 rintro k _ _ f5 h0 ⟨b6, a5, d7, b0, Z3, hS, _, b1, a3, c3, b8, c4, c5, b9, d0, c0⟩
 rw [E9] at b0
 refine Z2 (Z2 (Z0 (Z4 (vI a5) (by exact c0) rfl (Z4 (s0) (by exact b8) rfl ?_))))
 have h5 := b1.bound
 refine W7 Zs6 rfl b1 rfl ?_
 refine V5 (k := .i64) (a := a5) (b := (a1.length : Int)) rfl rfl rfl (Z1 ?_)
 obtain ⟨f1, b0⟩ | ⟨f1, b0⟩ := ic b0
 refine Y0 (bT f1 rfl) (Y8 (Z2 (Y7 (Z0 (Z4 (vB b6) (by exact d0) rfl (Z4 (vB b6) rfl rfl ?_))))))
 obtain ⟨b5, b0⟩ | ⟨b5, b0⟩ := ic b0
 refine Y1 rfl rfl (Eq.trans rfl (congrArg vB b5)) rfl rfl rfl (Y1 rfl rfl (Eq.trans rfl (congrArg vB b5)) rfl rfl rfl (Y1 rfl rfl (Eq.trans rfl (congrArg vB b5)) rfl rfl rfl (Y1 rfl rfl (Eq.trans rfl (congrArg vB b5)) rfl rfl rfl (Y1 rfl rfl (Eq.trans rfl (congrArg vB b5)) rfl rfl rfl (Y1 rfl rfl (Eq.trans rfl (congrArg vB b5)) rfl rfl rfl ?_)))))
 refine V0 (t := true) (vB true) (Eq.trans rfl (congrArg vB b5)) ((if_pos rfl).trans rfl) rfl (Z5 (vB true) rfl rfl (Z1 (X4 (Z0 (Z4 (vI a5) (by exact c0) rfl ?_)))))
 refine W8 (a5 + 1) rfl rfl (IntWalk.i64_in _ (by omega)) rfl (Z5 (vI (a5 + 1)) rfl rfl (Z1 ?_))
 exact f5 _ _ ⟨true, (a5 + 1), d7, b0, Z3, hS, (by omega), b1, a3, c3, b8, c4, c5, b9, rfl, rfl⟩
 refine Y4 rfl rfl (Eq.trans rfl (congrArg vB (X8 b5))) (Z4 (s0) (by exact b8) rfl ?_)
 refine Y4 rfl rfl (Eq.trans rfl (congrArg vB (X8 b5))) (Z4 (vI a5) (by exact c0) rfl ?_)
 obtain ⟨_, _, _, _, _, f8, f9, rfl, g0⟩ := b1.elem (i := a5) (by omega) (by omega)
 refine Y4 rfl rfl (Eq.trans rfl (congrArg vB (X8 b5))) ?_
 refine X9 Zs6 rfl rfl f8 rfl (by omega) (by omega) rfl ?_
 refine Y4 rfl rfl (Eq.trans rfl (congrArg vB (X8 b5))) ?_
 refine Y3 (vI (rd a1 a5)) ty3 rfl (hS.froz _ _ f9) (g0 0 (show 0 < 1 by decide)) rfl ?_
 refine Y4 rfl rfl (Eq.trans rfl (congrArg vB (X8 b5))) (Z4 (vI a4) (by exact b9) rfl ?_)
 refine Y4 rfl rfl (Eq.trans rfl (congrArg vB (X8 b5))) ?_
 refine Zc2 (k := .i64) (a := (rd a1 a5)) (b := a4) rfl rfl rfl ?_
 refine V0 (t := false) (vB (decide ((rd a1 a5) = a4))) (Eq.trans rfl (congrArg vB (X8 b5))) ((if_neg Bool.false_ne_true).trans rfl) rfl (Z5 (vB (decide ((rd a1 a5) = a4))) rfl rfl (Z1 (X4 (Z0 (Z4 (vI a5) (by exact c0) rfl ?_)))))
 refine W8 (a5 + 1) rfl rfl (IntWalk.i64_in _ (by omega)) rfl (Z5 (vI (a5 + 1)) rfl rfl (Z1 ?_))
 exact f5 _ _ ⟨(decide ((rd a1 a5) = a4)), (a5 + 1), d7, b0, Z3, hS, (by omega), b1, a3, c3, b8, c4, c5, b9, rfl, rfl⟩
 refine Z8 (bF f1 rfl) ?_
 refine W0 rfl ?_
 obtain rfl := oi b0
 exact h0 _ _ ⟨b6, d7, rfl, Z3, hS, b1, a3, c3, b8, c4, c5, b9, d0⟩
 exact ⟨false, 0, e8, b0, Z3, hS, (by omega), b1, a3, c7, e2, c8, e3, c9, rfl, rfl⟩
 rintro _ _ ⟨c2, _, rfl, Z3, hS, b1, a3, d1, d2, d3, c6, d4, e4⟩
 dsimp only [Ex.elim] at b3
 refine Z2 (Z2 (Z0 (Z4 (vB c2) (by exact e4) rfl (Z1 ?_))))
 obtain ⟨d8, b3⟩ | ⟨d8, b3⟩ := ic b3
 refine Y0 (Eq.trans rfl (congrArg vB d8)) (Z2 (Z0 (Z4 (a7) (by exact d3) rfl ?_)))
 refine R6 (vA ([vN])) Yf8 rfl ?_
 refine D9 (τ := (Y9 yT)) P6 I0 rfl [vA ([vN])] [([] : List (A8 × Int))] rfl rfl (K6 rfl) (Zi6 ⟨_, rfl, Z9.nil⟩) (by decide) (by decide) hS rfl ?_
 intro _ h1 _ d9 hS g1
 have Z3 := Z3.trans d9
 have b1 := b1.mono d9
 have a3 := a3.mono d9
 obtain ⟨g2, b3⟩ := gd b3
 refine N5 (τ := (Y9 yT)) Yl7 rfl rfl rfl a3 hS g1 g2 rfl ?_
 intro f6 _ h2 g3 hS
 refine Z5 (f6) rfl rfl (Z1 ?_)
 refine W0 rfl (Z0 (Z4 (vI a4) (by exact d4) rfl ?_))
 refine W8 (IntKind.i64.wrap (a4 + 1)) rfl rfl rfl rfl (Z5 (vI (IntKind.i64.wrap (a4 + 1))) rfl rfl (Z1 ?_))
 exact f4 _ _ ⟨(IntKind.i64.wrap (a4 + 1)), (a6 ++ [([] : List (A8 × Int))]), a9, h1, h2, f6, b3, Z3, hS, g3, b1, d1, d2, rfl, c6, rfl⟩
 refine Z8 (Eq.trans rfl (congrArg vB (X8 d8))) (Y8 (Z2 (Z0 (Z4 (a7) (by exact d3) rfl (Z4 (vI a9) (by exact c6) rfl ?_)))))
 obtain ⟨d5, g4, b3⟩ := bind_some b3
 refine X6 Tryz.call242 (S2 rfl) rfl (Yp2 g4  hS) ?_
 rintro _ _ _ e0 hS ⟨_, rfl, ⟨f3, rfl, f2⟩⟩
 have Z3 := Z3.trans e0
 have b1 := b1.mono e0
 have a3 := a3.mono e0
 refine D9 (τ := (Y9 yT)) P6 I0 rfl [vA ([f3])] [d5] rfl rfl (K6 rfl) (Zi6 ⟨_, rfl, f2⟩) (by decide) (by decide) hS rfl ?_
 intro _ h3 _ e1 hS g5
 have Z3 := Z3.trans e1
 have b1 := b1.mono e1
 have a3 := a3.mono e1
 obtain ⟨g6, b3⟩ := gd b3
 refine N5 (τ := (Y9 yT)) Yl7 rfl rfl rfl a3 hS g5 g6 rfl ?_
 intro f7 _ h4 g7 hS
 refine Z5 (f7) rfl rfl (Z1 (Z0 (Z4 (vI a9) (by exact c6) rfl ?_)))
 refine W8 (IntKind.i64.wrap (a9 + 1)) rfl rfl rfl rfl (Z5 (vI (IntKind.i64.wrap (a9 + 1))) rfl rfl (Z1 (X4 (Z0 (Z4 (vI a4) (by exact d4) rfl ?_)))))
 refine W8 (IntKind.i64.wrap (a4 + 1)) rfl rfl rfl rfl (Z5 (vI (IntKind.i64.wrap (a4 + 1))) rfl rfl (Z1 ?_))
 exact f4 _ _ ⟨(IntKind.i64.wrap (a4 + 1)), (a6 ++ [d5]), (IntKind.i64.wrap (a9 + 1)), h3, h4, f7, b3, Z3, hS, g7, b1, d1, d2, rfl, rfl, rfl⟩
 refine Z8 (bF e9 rfl) ?_
 refine W0 rfl ?_
 obtain rfl := oi b4
 exact g9 _ _ ⟨a6, e8, a8, a7, rfl, Z3, hS, a3, c8⟩
 exact ⟨0, ([] : List MpT), 0, H, C3, u1, b4, Z3, hS, g8, b1, rfl, rfl, rfl, rfl, rfl⟩
 rintro _ _ ⟨b7, _, c1, b2, rfl, Z3, hS, d6, e5⟩
 dsimp only [Ex.elim] at e7
 refine Z2 (Z0 (Z4 (b2) (by exact e5) rfl (Z5 (b2) rfl rfl (Z1 ?_))))
 refine X0 (vs := [b2]) Tryz.func178 ⟨rfl, trivial⟩ ?_
 obtain rfl := oi e7
 exact ⟨_, _, _, rfl, Z3, hS, d6⟩
def Za5 (K : Nat) (a0 : (List Int)) (a1 : MpT) : Nat → Int → MpT → Option (Ex MpT (MpT))
 | 0, _, _ => none
 | k + 1, a7, a3 => (if 0 < a7 then ((A0 K a0 a3 a1).bind fun c9 => Za5 K a0 a1 k (IntKind.u8.wrap (a7 - 1)) c9) else some (.go a3))
def Zs2 (K : Nat) (a0 : (List Int)) (a1 : MpT) (a2 : Int) : Option MpT := ((F0 K (fun _ => 0) 1).bind fun r7 => ((Za5 K a0 a1 K a2 r7).bind (Ex.elim (fun r => some r) (fun s => (fun (a6 : MpT) => some a6) s))))
theorem Yy1 {a0 : (List Int)} {a1 : MpT} {a2 : Int} {r : MpT} (q0 : Zs2 K a0 a1 a2 = some r) (b5 : Z9 (Y6 .i64) H s0 a0) (b0 : Z9 yT H s1 a1) (hS : St H w L) :
 Calls Tryz.prog 247 #[s0, vA ([s1]), Value.int .u8 a2] w (T2 (fun v G => (R.agg (Y9 yT)).p G v r) H L) := by
 have Z3 := Sub.refl H
 refine X3 Tryz.func247 rfl Tryz.ntmps247 rfl ?_
 unfold Zs2 at q0
 refine Z2 (Z0 ?_)
 refine S3 (v := vA ([s1])) ([s1]).toArray rfl rfl hS rfl ?_
 intro b1 _ hS
 refine W6 (z := vA ([vN])) ([vN]).toArray I0.zero rfl hS rfl ?_
 intro b4 _ hS
 refine Z1 (Z2 (Z0 ?_))
 refine R6 (vA (Z7 .u8 (fun _ => 0))) Yx8 rfl ?_
 obtain ⟨r7, d5, q0⟩ := bind_some q0
 refine X6 Tryz.call208 (U9 rfl rfl) rfl (Zl2 d5  hS) ?_
 rintro _ H7 _ d0 hS ⟨_, rfl, ⟨c4, rfl, c7⟩⟩
 have Z3 := Z3.trans d0
 have b5 := b5.mono d0
 have b0 := b0.mono d0
 refine W6 (z := vA ([vN])) ([vN]).toArray I0.zero rfl hS rfl ?_
 intro b9 _ hS
 refine X5 (v := vA ([c4])) (vs := ([c4]).toArray) (cs := ([vN]).toArray) U2 rfl rfl rfl hS rfl (U0 c7.isOne) rfl ?_
 intro _ hS
 refine Z1 (Z2 (Y7 ?_))
 obtain ⟨d1, a8, d2⟩ := bind_some q0
 refine W1 (id := 0) (fun k f w => ∃ (a7 : Int) (a3 : MpT) (H1 : FH) (a4 : Value), Za5 K a0 a1 k a7 a3 = some d1 ∧ Sub H H1 ∧ St H1 w ([(b9, cA ([a4]) 45)] ++ ([(b4, cA ([vN]) 45)] ++ ([(b1, cA ([s1]) 45)] ++ L))) ∧ Z9 yT H1 a4 a3 ∧ Z9 (Y6 .i64) H1 s0 a0 ∧ Z9 yT H1 s1 a1 ∧ tv f 0 = s0 ∧ tv f 2 = Value.int .u8 a7 ∧ tv f 4 = vP b1 ∧ tv f 6 = vP b4 ∧ tv f 7 = vP b9) (fun f w => ∃ (a6 : MpT) (H1 : FH) (a5 : Value), d1 = .go a6 ∧ Sub H H1 ∧ St H1 w ([(b9, cA ([a5]) 45)] ++ ([(b4, cA ([vN]) 45)] ++ ([(b1, cA ([s1]) 45)] ++ L))) ∧ Z9 yT H1 a5 a6 ∧ Z9 yT H1 s1 a1 ∧ tv f 6 = vP b4 ∧ tv f 7 = vP b9) rfl ?_ ?_ K ?_ ?_
 rintro f w ⟨a7, a3, H1, a4, a8, _⟩
 rw [Za5] at a8; cases a8
 rintro k _ _ d6 d7 ⟨a7, a3, d3, a4, a8, Z3, hS, b2, b5, b0, b6, b7, b8, c0, a9⟩
 rw [Za5] at a8
 refine Z2 (Z2 (Z0 (Z4 (Value.int .u8 a7) (by exact b7) rfl ?_)))
 refine Zi5 (k := .u8) (a := a7) (b := 0) rfl rfl rfl (Z1 ?_)
 obtain ⟨c5, a8⟩ | ⟨c5, a8⟩ := ic a8
 refine Y0 (bT c5 rfl) (Y8 (Z2 (Y7 (Z0 (Z4 (s0) (by exact b6) rfl ?_)))))
 refine X7 U2 (by exact a9) (hS.get mL) rfl rfl ?_
 refine X7 U2 (by exact b8) (hS.get (mR (mR mL))) rfl rfl ?_
 obtain ⟨c9, d4, a8⟩ := bind_some a8
 refine X6 Tryz.call197 (G7 rfl rfl rfl) rfl (Zs7 d4 b5 b2 b0 hS) ?_
 rintro _ d8 _ c6 hS ⟨_, rfl, ⟨c2, rfl, c3⟩⟩
 have Z3 := Z3.trans c6
 have b5 := b5.mono c6
 have b0 := b0.mono c6
 refine X5 (v := vA ([c2])) (vs := ([c2]).toArray) (cs := ([a4]).toArray) U2 (by exact a9) rfl rfl hS rfl (U0 c3.isOne) rfl ?_
 intro _ hS
 refine Z1 (X4 (Z0 (Z4 (Value.int .u8 a7) (by exact b7) rfl ?_)))
 refine Yg5 (IntKind.u8.wrap (a7 - 1)) rfl rfl rfl rfl (Z5 (Value.int .u8 (IntKind.u8.wrap (a7 - 1))) rfl rfl (Z1 ?_))
 exact d6 _ _ ⟨(IntKind.u8.wrap (a7 - 1)), c9, d8, c2, a8, Z3, hS, c3, b5, b0, b6, rfl, b8, c0, a9⟩
 refine Z8 (bF c5 rfl) ?_
 refine W0 rfl ?_
 obtain rfl := oi a8
 exact d7 _ _ ⟨a3, d3, a4, rfl, Z3, hS, b2, b0, c0, a9⟩
 exact ⟨a2, r7, H7, c4, a8, Z3, hS, c7, b5, b0, rfl, rfl, rfl, rfl, rfl⟩
 rintro _ _ ⟨a6, _, a5, rfl, Z3, hS, b3, b0, c1, c8⟩
 dsimp only [Ex.elim] at d2
 refine Z2 (Z0 ?_)
 refine X7 U2 (by exact c8) (hS.get mL) rfl rfl ?_
 have hS := hS.perm V1
 refine X5 (v := vA ([a5])) (vs := ([a5]).toArray) (cs := ([vN]).toArray) U2 (by exact c1) rfl rfl hS rfl (U0 b3.isOne) rfl ?_
 intro _ hS
 have hS := hS.perm V1.symm
 refine Z1 ?_
 refine X0 (vs := [vA ([a5])]) Tryz.func247 ⟨⟨_, (by exact c1), V6 U2 (hS.get (mR mL)) rfl⟩, trivial⟩ ?_
 obtain rfl := oi d2
 exact ⟨_, _, rfl, Z3, (St.dropA (St.dropA (St.dropA hS))), ⟨_, rfl, ⟨_, rfl, b3⟩⟩⟩
def U4 (K : Nat) (a2 : Int) : Nat → MpT → MpT → Option (Ex MpT (MpT))
 | 0, _, _ => none
 | k + 1, [], a3 => some (.go a3)
 | k + 1, z7 :: b8, a3 => ((T8 K a3 z7.1 (((IntKind.i64.wrap (z7.2 * a2))).tmod 10007)).bind fun b9 => U4 K a2 k b8 b9)
theorem Yk0 {a2 : Int} {a3 : MpT} {k : Nat} {zp zq : MpT} {o : Ex MpT (MpT)} (hp : zp.Perm zq) (q : U4 K a2 k zp a3 = some o) : U4 K a2 k zq a3 = some o := by
 exact (Yh7 (K := K) (fun k zs s => U4 K a2 k zs s) (by intros; rw [U4])
  (fun z => ⟨fun s => T8 K s z.1 (((IntKind.i64.wrap (z.2 * a2))).tmod 10007), .add _ _, by intros; rw [U4]⟩) hp k a3).symm.trans q
def N0 (K : Nat) (a0 : MpT) (a1 : MpT) (a2 : Int) : Option MpT := ((U4 K a2 K a1 a0).bind (Ex.elim (fun r => some r) (fun s => (fun (a7 : MpT) => some a7) s)))
theorem Zw5 {a0 : MpT} {a1 : MpT} {a2 : Int} {r : MpT} (q0 : N0 K a0 a1 a2 = some r) {L C0 : OL} (c8 : P7 .i64 s0 a0 C0) (c9 : Q9 .i64 H s1 a1) (hS : St H w (C0 ++ L)) :
 Calls Tryz.prog 129 #[s0, s1, vI a2] w (Wt1 .i64 s0 r H L) := by
 have Z3 := Sub.refl H
 refine X3 Tryz.func129 rfl Tryz.ntmps129 rfl ?_
 unfold N0 at q0
 refine Z2 (Z0 (Z4 (s1) rfl rfl ?_))
 refine Yk7 Zi9 rfl c9 hS rfl ?_
 intro c0 _ C3 d0 hS
 refine Z1 (Y7 ?_)
 obtain ⟨c1, a4, c2⟩ := bind_some q0
 refine W1 (id := 0) (fun k f w => ∃ (a8 : MpT) (a3 : MpT) (H1 : FH) (a5 : OL) (a6 : OL), U4 K a2 k a8 a3 = some c1 ∧ Sub H H1 ∧ St H1 w (a5 ++ (a6 ++ L)) ∧ Zh4 .i64 H1 c0 a8 none a5 ∧ P7 .i64 s0 a3 a6 ∧ tv f 0 = s0 ∧ tv f 2 = vI a2 ∧ tv f 9 = c0) (fun f w => ∃ (a7 : MpT) (H1 : FH) (a9 : OL) (b0 : OL), c1 = .go a7 ∧ Sub H H1 ∧ St H1 w (a9 ++ (b0 ++ L)) ∧ Zh4 .i64 H1 c0 ([] : MpT) none a9 ∧ P7 .i64 s0 a7 b0) rfl ?_ ?_ K ?_ ?_
 rintro f w ⟨a8, a3, H1, a5, a6, a4, _⟩
 rw [U4] at a4; cases a4
 rintro k _ _ d1 d2 ⟨a8, a3, c4, a5, a6, a4, Z3, hS, b2, b3, b4, b5, b1⟩
 refine Z2 (Z0 ?_)
 refine Yr2 (by exact b1) b2 hS rfl ?_ ?_
 intro d3; subst d3
 rw [U4] at a4
 refine W4 (vB false) rfl rfl rfl (Z1 (Z2 (Z8 rfl ?_)))
 refine W0 rfl ?_
 obtain rfl := oi a4
 exact d2 _ _ ⟨a3, c4, a5, a6, rfl, Z3, hS, b2, b3⟩
 intro z7 b8 _ d4 c5 b6 hS
 replace a4 := Yk0 c5 a4
 rw [U4] at a4
 refine W4 (vB true) rfl rfl rfl (Z1 (Z2 (Y0 rfl (Y8 (Y7 (Z2 (Z0 ?_)))))))
 refine Yk5 (by exact b1) b6 hS rfl (W4 (vA (Z7 .i64 z7.1)) rfl rfl rfl (W4 (vI z7.2) rfl rfl rfl ?_))
 refine W6 (z := vA (Z7 .i64 (fun _ => 0))) (Z7 .i64 (fun _ => 0)).toArray Zr2.zero rfl hS rfl ?_
 intro _ _ hS
 refine X5 (v := vA (Z7 .i64 z7.1)) (vs := (Z7 .i64 z7.1).toArray) (cs := (Z7 .i64 (fun _ => 0)).toArray) K2 rfl rfl rfl hS rfl (S4 .i64 z7.1) rfl ?_
 intro _ hS
 refine Z5 (vI z7.2) rfl rfl (Z1 (Z0 (Z4 (s0) (by exact b4) rfl ?_)))
 refine X7 K2 rfl (hS.get mL) rfl rfl (Z4 (vI z7.2) rfl rfl (Z4 (vI a2) (by exact b5) rfl ?_))
 refine Zt1 (IntKind.i64.wrap (z7.2 * a2)) rfl rfl rfl rfl ?_
 refine Zk7 (((IntKind.i64.wrap (z7.2 * a2))).tmod 10007) rfl rfl (by decide) rfl rfl ?_
 obtain ⟨b9, c6, a4⟩ := bind_some a4
 have hS := hS.perm Q8
 refine T5 Tryz.call217 (G7 rfl rfl rfl) rfl (Yj4 c6 b3 hS) ?_
 rintro _ _ ⟨d5, d6, rfl, c3, hS, c7⟩
 refine ⟨_, rfl, ?_⟩
 have Z3 := Z3.trans c3
 have b6 := b6.mono c3
 have hS := hS.perm Q8.symm
 refine Z1 (X4 ?_)
 have hS := St.dropA hS
 exact d1 _ _ ⟨b8, b9, d5, d4, d6, a4, Z3, hS, b6.drop, c7, b4, b5, b1⟩
 exact ⟨a1, a0, H, C3, C0, a4, Z3, hS, d0, c8, rfl, rfl, rfl⟩
 rintro _ _ ⟨a7, _, a9, b0, rfl, Z3, hS, _, b7⟩
 dsimp only [Ex.elim] at c2
 refine Xl7 (vs := []) Tryz.func129 trivial ?_
 have hS := hS.perm V1
 have hS := St.dropMid hS
 obtain rfl := oi c2
 exact ⟨_, _, rfl, Z3, hS, b7⟩
def Zw9 (K : Nat) (a0 : MpT) : Option MpT := ((Zv3 K a0).bind fun a4 => some a4)
theorem Xe6 {a0 : MpT} {r : MpT} (q0 : Zw9 K a0 = some r) (a8 : Z9 yT H s0 a0) (hS : St H w L) :
 Calls Tryz.prog 26 #[vA ([s0])] w (T2 (fun v G => (R.agg (Y9 yT)).p (G.new H) v r) H L) := by
 have Z3 := Sub.refl H
 refine X3 Tryz.func26 rfl Tryz.ntmps26 rfl ?_
 unfold Zw9 at q0
 refine Z2 (Z0 ?_)
 refine S3 (v := vA ([s0])) ([s0]).toArray rfl rfl hS rfl ?_
 intro _ _ hS
 refine W6 (z := vA ([vN])) ([vN]).toArray I0.zero rfl hS rfl ?_
 intro _ _ hS
 refine Z1 (Z2 (Z0 ?_))
 refine W6 (z := vA ([vN])) ([vN]).toArray I0.zero rfl hS rfl ?_
 intro _ _ hS
 refine Z1 (Z2 (Z0 (Y2 Wb9 rfl rfl ?_)))
 refine Y3 (s0) Ve8 rfl (hS.get (mR (mR mL))) rfl rfl ?_
 obtain ⟨a4, a5, q0⟩ := bind_some q0
 refine X6 Tryz.call92 (S2 rfl) rfl (Xc1 a5 a8 hS) ?_
 rintro a3 a9 _ a6 hS a1
 have b0 := a1
 have a7 : RdF yT H a9 a3 a4 := Z9.mono (Q6 Z3) a1
 have a1 := Z9.old a1
 have Z3 := Z3.trans a6
 refine Y2 V9 rfl rfl ?_
 refine Zb3 (v := a3) (cs := ([vN]).toArray) (cs' := ([a3]).toArray) Q4 rfl rfl hS a1.isOne rfl (nl rfl) rfl ?_
 intro _ hS
 refine Z1 (Z2 (Z0 ?_))
 refine X7 U2 rfl (hS.get mL) rfl rfl ?_
 have hS := hS.perm V1
 refine X5 (v := vA ([a3])) (vs := ([a3]).toArray) (cs := ([vN]).toArray) U2 rfl rfl rfl hS rfl (U0 a1.isOne) rfl ?_
 intro _ hS
 have hS := hS.perm V1.symm
 refine Z1 ?_
 refine X0 (vs := [vA ([a3])]) Tryz.func26 ⟨⟨_, rfl, V6 U2 (hS.get (mR mL)) rfl⟩, trivial⟩ ?_
 obtain rfl := oi q0
 exact ⟨_, _, rfl, Z3, (St.dropA (St.dropA (St.dropA hS))), ⟨_, rfl, ⟨_, rfl, a7⟩⟩⟩
end Go.Proofs.YtabofnehiclkiaaGreat
