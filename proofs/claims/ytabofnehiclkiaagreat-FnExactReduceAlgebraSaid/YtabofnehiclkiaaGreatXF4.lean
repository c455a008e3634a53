/- Walks of functions: each computes its pure function, if that gives a value. -/
import Derived.Test.YtabofnehiclkiaaGreatXTy
namespace Go.Proofs.YtabofnehiclkiaaGreat
open Go
set_option linter.unusedSimpArgs false
set_option linter.unusedVariables false
set_option maxRecDepth 100000
set_option maxHeartbeats 8000000
variable {K : Nat} {H : FH} {w : World} {L : OL} {s0 s1 s2 s3 s4 s5 s6 : Value}
def Zd3 (K : Nat) (a0 : MpT) (a1 : Int) (a3 : Int) : Nat → Int → A8 → Option (Ex MpT (A8))
 | 0, _, _ => none
 | k + 1, a9, b0 => (if (IntKind.i64.wrap (a9 + a1)) < 8 then (if a9 < 8 then (if 0 ≤ (IntKind.i64.wrap (a9 + a1)) then Zd3 K a0 a1 a3 k (a9 + 1) (S6 b0 (IntKind.i64.wrap (a9 + a1)) (Y5 ((rd a0 a3).1) a9)) else none) else none) else some (.go b0))
def Zc9 (K : Nat) (a0 : MpT) (a1 : Int) : Nat → Int → MpT → Option (Ex MpT (MpT))
 | 0, _, _ => none
 | k + 1, a3, a5 => (if a3 < (a0.length : Int) then ((Zd3 K a0 a1 a3 K 0 (fun _ => 0)).bind (Ex.elim (fun r => some (.ret r)) (fun s => (fun (a7 : A8) => (if a5.length + ([(a7, (rd a0 a3).2)]).length ≤ 1099511627776 then Zc9 K a0 a1 k (a3 + 1) (a5 ++ [(a7, (rd a0 a3).2)]) else none)) s))) else some (.go a5))
def Zv8 (K : Nat) (a0 : MpT) (a1 : Int) : Option MpT := ((Zc9 K a0 a1 K 0 ([] : List (A8 × Int))).bind (Ex.elim (fun r => some r) (fun s => (fun (b5 : MpT) => some b5) s)))
theorem Xc0 {a0 : MpT} {a1 : Int} {r : MpT} (q0 : Zv8 K a0 a1 = some r) (b6 : Z9 yT H s0 a0) (hS : St H w L) :
 Calls Tryz.prog 241 #[vA ([s0]), vI a1] w (T2 (fun v G => (R.agg (Y9 yT)).p G v r) H L) := by
 have Z3 := Sub.refl H
 refine X3 Tryz.func241 rfl Tryz.ntmps241 rfl ?_
 unfold Zv8 at q0
 refine Z2 (Z0 ?_)
 refine S3 (v := vA ([s0])) ([s0]).toArray rfl rfl hS rfl ?_
 intro b1 _ hS
 refine W6 (z := vA ([vN])) ([vN]).toArray I0.zero rfl hS rfl ?_
 intro b4 _ hS
 refine Z1 (Z2 (Z0 ?_))
 refine R6 (vA ([vN])) Yf8 rfl ?_
 refine W6 (z := vA ([vN])) ([vN]).toArray I0.zero rfl hS rfl ?_
 intro b7 _ hS
 refine X5 (v := vA ([vN])) (vs := ([vN]).toArray) (cs := ([vN]).toArray) U2 rfl rfl rfl hS rfl (U0 rfl) rfl ?_
 intro _ hS
 refine Z1 (Z2 (Z2 (Z0 (Z5 (vI 0) rfl rfl (Z1 (Y7 ?_))))))
 have f0 : W3 yT 78 H (.slice none 0 0) [] [] := W3.nil _ _ _
 obtain ⟨f1, b8, f2⟩ := bind_some q0
 refine W1 (id := 0) (fun k f w => ∃ (a3 : Int) (a5 : MpT) (H1 : FH) (a6 : OL) (a4 : Value), Zc9 K a0 a1 k a3 a5 = some f1 ∧ Sub H H1 ∧ St H1 w (a6 ++ ([(b7, cA ([a4]) 45)] ++ ([(b4, cA ([vN]) 45)] ++ ([(b1, cA ([s0]) 45)] ++ L)))) ∧ 0 ≤ a3 ∧ W3 yT 78 H1 a4 a5 a6 ∧ Z9 yT H1 s0 a0 ∧ tv f 1 = vI a1 ∧ tv f 2 = vP b1 ∧ tv f 4 = vP b4 ∧ tv f 5 = vP b7 ∧ tv f 6 = vI a3) (fun f w => ∃ (b5 : MpT) (H1 : FH) (b9 : OL) (b2 : Value), f1 = .go b5 ∧ Sub H H1 ∧ St H1 w (b9 ++ ([(b7, cA ([b2]) 45)] ++ ([(b4, cA ([vN]) 45)] ++ ([(b1, cA ([s0]) 45)] ++ L)))) ∧ W3 yT 78 H1 b2 b5 b9 ∧ Z9 yT H1 s0 a0 ∧ tv f 4 = vP b4 ∧ tv f 5 = vP b7) rfl ?_ ?_ K ?_ ?_
 rintro f w ⟨a3, a5, H1, a6, a4, b8, _⟩
 rw [Zc9] at b8; cases b8
 rintro k _ _ h6 h7 ⟨a3, a5, f3, a6, a4, b8, Z3, hS, _, a8, b6, e5, c7, c8, c9, d0⟩
 rw [Zc9] at b8
 refine Z2 (Z2 (Z0 (Z4 (vI a3) (by exact d0) rfl (Y2 V9 (by exact c7) rfl ?_))))
 refine Y3 (s0) Q4 rfl (hS.get (mR (mR (mR mL)))) rfl rfl ?_
 have i0 := b6.bound
 refine W7 R7 rfl b6 rfl ?_
 refine V5 (k := .i64) (a := a3) (b := (a0.length : Int)) rfl rfl rfl (Z1 ?_)
 obtain ⟨e0, b8⟩ | ⟨e0, b8⟩ := ic b8
 refine Y0 (bT e0 rfl) (Y8 (Z2 (Y7 (Z2 (Z0 ?_)))))
 refine R6 (vA (Z7 .u8 (fun _ => 0))) Yx8 rfl ?_
 refine W6 (z := vA (Z7 .u8 (fun _ => 0))) (Z7 .u8 (fun _ => 0)).toArray Yf9.zero rfl hS rfl ?_
 intro d9 _ hS
 refine X5 (v := vA (Z7 .u8 (fun _ => 0))) (vs := (Z7 .u8 (fun _ => 0)).toArray) (cs := (Z7 .u8 (fun _ => 0)).toArray) M2 rfl rfl rfl hS rfl (S4 .u8 (fun _ => 0)) rfl ?_
 intro _ hS
 refine Z1 (Z2 (Z2 (Z0 (Z5 (vI 0) rfl rfl (Z1 (Y7 ?_))))))
 obtain ⟨f4, b3, d7⟩ := bind_some b8
 refine W1 (id := 2) (fun k f w => ∃ (a9 : Int) (b0 : A8) (H1 : FH), Zd3 K a0 a1 a3 k a9 b0 = some f4 ∧ Sub H H1 ∧ St H1 w ([(d9, cA (Z7 .u8 b0) 72)] ++ (a6 ++ ([(b7, cA ([a4]) 45)] ++ ([(b4, cA ([vN]) 45)] ++ ([(b1, cA ([s0]) 45)] ++ L))))) ∧ 0 ≤ a9 ∧ Z9 yT H1 s0 a0 ∧ W3 yT 78 H1 a4 a5 a6 ∧ tv f 1 = vI a1 ∧ tv f 2 = vP b1 ∧ tv f 4 = vP b4 ∧ tv f 5 = vP b7 ∧ tv f 6 = vI a3 ∧ tv f 7 = vP d9 ∧ tv f 8 = vI a9) (fun f w => ∃ (a7 : A8) (H1 : FH), f4 = .go a7 ∧ Sub H H1 ∧ St H1 w ([(d9, cA (Z7 .u8 a7) 72)] ++ (a6 ++ ([(b7, cA ([a4]) 45)] ++ ([(b4, cA ([vN]) 45)] ++ ([(b1, cA ([s0]) 45)] ++ L))))) ∧ Z9 yT H1 s0 a0 ∧ W3 yT 78 H1 a4 a5 a6 ∧ tv f 1 = vI a1 ∧ tv f 2 = vP b1 ∧ tv f 4 = vP b4 ∧ tv f 5 = vP b7 ∧ tv f 6 = vI a3 ∧ tv f 7 = vP d9) rfl ?_ ?_ K ?_ ?_
 rintro f w ⟨a9, b0, H1, b3, _⟩
 rw [Zd3] at b3; cases b3
 rintro k _ _ h8 h9 ⟨a9, b0, f5, b3, Z3, hS, _, b6, a8, c1, c4, d1, d2, c5, c6, c2⟩
 rw [Zd3] at b3
 refine Z2 (Z2 (Z0 (Z4 (vI a9) (by exact c2) rfl (Z4 (vI a1) (by exact c1) rfl ?_))))
 refine W8 (IntKind.i64.wrap (a9 + a1)) rfl rfl rfl rfl ?_
 refine V5 (k := .i64) (a := (IntKind.i64.wrap (a9 + a1))) (b := 8) rfl rfl rfl (Z1 ?_)
 obtain ⟨e1, b3⟩ | ⟨e1, b3⟩ := ic b3
 refine Y0 (bT e1 rfl) (Y8 (Z2 (Y7 (Z0 (Z4 (vI a9) (by exact c2) rfl (Z4 (vI a1) (by exact c1) rfl ?_))))))
 refine W8 (IntKind.i64.wrap (a9 + a1)) rfl rfl rfl rfl (Y2 V9 (by exact c4) rfl ?_)
 refine Y3 (s0) Q4 rfl (hS.get (mR (mR (mR (mR mL))))) rfl rfl (Z4 (vI a3) (by exact c5) rfl (Z4 (vI a9) (by exact c2) rfl ?_))
 obtain ⟨_, _, _, _, _, g7, g8, ⟨_, _, rfl, rfl, rfl⟩, g9⟩ := b6.elem (i := a3) (by omega) (by omega)
 refine X9 R7 rfl rfl g7 rfl (by omega) (by omega) rfl (Y2 M1 rfl rfl ?_)
 obtain ⟨_, b3⟩ := gd b3
 refine V2 Zd9 rfl rfl (by omega) (by omega) rfl ?_
 refine Y3 (Value.int .u8 (Y5 ((rd a0 a3).1) a9)) ty5 rfl (hS.froz _ _ g8) (Xh0 ([]) (([vI ((rd a0 a3).2)])) g9 (nl rfl) (by omega) (by omega)) rfl ?_
 obtain ⟨_, b3⟩ := gd b3
 refine V2 Zd9 (by exact c6) rfl (by omega) (by omega) rfl ?_
 refine Zb1 (v := Value.int .u8 (Y5 ((rd a0 a3).1) a9)) (cs := (Z7 .u8 b0).toArray) (cs' := (Z7 .u8 (S6 b0 (IntKind.i64.wrap (a9 + a1)) (Y5 ((rd a0 a3).1) a9))).toArray) ty5 rfl rfl hS rfl (Yb6 rfl) (by simp [Z7, L5]; omega) (Zj1 (by omega) (by omega)) ?_
 intro _ hS
 refine Z1 (X4 (Z0 (Z4 (vI a9) (by exact c2) rfl ?_)))
 refine W8 (a9 + 1) rfl rfl (IntWalk.i64_in _ (by omega)) rfl (Z5 (vI (a9 + 1)) rfl rfl (Z1 ?_))
 exact h8 _ _ ⟨(a9 + 1), (S6 b0 (IntKind.i64.wrap (a9 + a1)) (Y5 ((rd a0 a3).1) a9)), f5, b3, Z3, hS, (by omega), b6, a8, c1, c4, d1, d2, c5, c6, rfl⟩
 refine Z8 (bF e1 rfl) ?_
 refine W0 rfl ?_
 obtain rfl := oi b3
 exact h9 _ _ ⟨b0, f5, rfl, Z3, hS, b6, a8, c1, c4, d1, d2, c5, c6⟩
 exact ⟨0, (fun _ => 0), f3, b3, Z3, hS, (by omega), b6, a8, e5, c7, c8, c9, d0, rfl, rfl⟩
 rintro _ _ ⟨a7, _, rfl, Z3, hS, b6, a8, e6, d3, e7, d4, d5, e8⟩
 dsimp only [Ex.elim] at d7
 obtain ⟨g5, g6, _, _, _, h0, h1, ⟨_, _, rfl, rfl, rfl⟩, h2⟩ := b6.elem (i := a3) (by omega) (by omega)
 refine U1 11 (P0 [mE 36 (vP b7), mE 37 (a4), mE 38 (vA (Z7 .u8 a7)), mE 39 (vP b1), mE 40 (s0), mE 41 (vI a3), mE 42 (vQ g5 g6), mE 43 (vQ g5 (g6 + 8)), mE 44 (vI ((rd a0 a3).2)), mE 45 (vA (Z7 .u8 a7 ++ [vI ((rd a0 a3).2)])), (46, MP.sl yT ([(a7, (rd a0 a3).2)]))]) [] mixed rfl rfl rfl hS (Z6 rfl ?_ (Z6 rfl ?_ (Z6 rfl ?_ (Z6 rfl ?_ (Z6 rfl ?_ (Z6 rfl ?_ (Z6 rfl ?_ (Z6 rfl ?_ (Z6 rfl ?_ (Z6 rfl ?_ (Z6 rfl ?_ U7))))))))))) ?_
 exact W5 fun S B => Y2 V9 (evT (B 5 rfl) d4) rfl (qz S)
 exact X2 fun S V => Y3 (a4) Q4 (eM (V 0 36 rfl rfl)) (S.get (mR (mR (mR mL)))) rfl rfl (qz S)
 exact W5 fun S B => X7 M2 (evT (B 7 rfl) e8) (S.get (mR mL)) rfl rfl (qz S)
 exact W5 fun S B => Y2 V9 (evT (B 2 rfl) d3) rfl (qz S)
 exact X2 fun S V => Y3 (s0) Q4 (eM (V 3 39 rfl rfl)) (S.get (mR (mR (mR (mR (mR mL)))))) rfl rfl (qz S)
 exact W5 fun S B => Z4 (vI a3) (evT (B 6 rfl) d5) rfl (qz S)
 exact X2 fun S V => X9 R7 rfl (eM (V 4 40 rfl rfl)) h0 (eM (V 5 41 rfl rfl)) (by omega) (by omega) rfl (qz S)
 exact X2 fun S V => Y2 Ze2 (eM (V 6 42 rfl rfl)) rfl (qz S)
 exact E6 fun s S V => Y3 (vI ((rd a0 a3).2)) ty2 (eM (V 7 43 rfl rfl)) (S.froz _ _ (s.1 _ _ h1)) (h2 8 (show 8 < 9 by decide)) rfl (qz S)
 exact X2 fun S V => Zl9 (Z7 .u8 a7 ++ [vI ((rd a0 a3).2)]) Xf8 (Zz1 (eM (V 2 38 rfl rfl)) (eM (V 8 44 rfl rfl))) (Q5 rfl rfl rfl (nl rfl) (Q5 rfl rfl rfl (nl rfl) (Zh6 rfl))) rfl (qz S)
 intro _ _ _ _ _ hS _ f8 hcq
 refine D9 (τ := yT) R7 Ya6 rfl [vA (Z7 .u8 a7 ++ [vI ((rd a0 a3).2)])] [(a7, (rd a0 a3).2)] rfl rfl (K6 (eM (f8 9 45 rfl rfl))) (Zi6 ⟨_, _, rfl, rfl, rfl⟩) (by decide) (by decide) hS rfl ?_
 intro _ _ _ f9 hS g0
 exact qn f9 rfl hS g0
 intro _ h3 f6 d8 hS c3 e3 hcq
 have hS : St f6 h3 ([(d9, cA (Z7 .u8 a7) 72)] ++ (a6 ++ ([(b7, cA ([a4]) 45)] ++ ([(b4, cA ([vN]) 45)] ++ ([(b1, cA ([s0]) 45)] ++ L))))) := hS
 have Z3 := Z3.trans d8
 have b6 := b6.mono d8
 have a8 := a8.mono d8
 have f7 := evT (c3 5 rfl) d4
 obtain ⟨_, h4, g1⟩ := gvS (e3 10 46 (by decide) rfl)
 obtain ⟨g2, d7⟩ := gd d7
 have hS := hS.perm V1
 refine N5 (τ := yT) Yw2 rfl (by exact (eM (e3 1 37 (by decide) rfl))) (by exact h4) a8 hS g1 g2 rfl ?_
 intro e2 _ h5 e4 hS
 have hS := hS.perm V1.symm
 refine Y2 V9 (by exact f7) rfl ?_
 have hS := hS.perm Q8
 refine Zb3 (v := e2) (cs := ([a4]).toArray) (cs' := ([e2]).toArray) Q4 rfl rfl hS e4.isOne rfl (nl rfl) rfl ?_
 intro _ hS
 have hS := hS.perm Q8.symm
 refine Z1 (X4 (Z0 (Z4 (vI a3) (by exact (evT (c3 6 rfl) d5)) rfl ?_)))
 refine W8 (a3 + 1) rfl rfl (IntWalk.i64_in _ (by omega)) rfl (Z5 (vI (a3 + 1)) rfl rfl (Z1 ?_))
 have hS := St.dropA hS
 exact h6 _ _ ⟨(a3 + 1), (a5 ++ [(a7, (rd a0 a3).2)]), f6, h5, e2, d7, Z3, hS, (by omega), e4, b6, (evT (c3 1 rfl) e6), (evT (c3 2 rfl) d3), (evT (c3 4 rfl) e7), f7, rfl⟩
 refine Z8 (bF e0 rfl) ?_
 refine W0 rfl ?_
 obtain rfl := oi b8
 exact h7 _ _ ⟨a5, f3, a6, a4, rfl, Z3, hS, a8, b6, c8, c9⟩
 exact ⟨0, ([] : List (A8 × Int)), H, ([]), (vN), b8, Z3, hS, (by omega), f0, b6, rfl, rfl, rfl, rfl, rfl⟩
 rintro _ _ ⟨b5, _, b9, b2, rfl, Z3, hS, c0, b6, d6, e9⟩
 dsimp only [Ex.elim] at f2
 refine Z2 (Z0 ?_)
 refine X7 U2 (by exact e9) (hS.get (mR mL)) rfl rfl ?_
 have hS := hS.perm Q8
 refine X5 (v := vA ([b2])) (vs := ([b2]).toArray) (cs := ([vN]).toArray) U2 (by exact d6) rfl rfl hS rfl (U0 c0.isOne) rfl ?_
 intro _ hS
 have hS := hS.perm Q8.symm
 refine Z1 ?_
 refine X0 (vs := [vA ([b2])]) Tryz.func241 ⟨⟨_, (by exact d6), V6 U2 (hS.get (mR (mR mL))) rfl⟩, trivial⟩ ?_
 obtain ⟨_, g3, hS, g4⟩ := c0.freeze hS
 have Z3 := Z3.trans g3
 obtain rfl := oi f2
 exact ⟨_, _, rfl, Z3, (St.dropA (St.dropA (St.dropA hS))), ⟨_, rfl, ⟨_, rfl, g4⟩⟩⟩
def I6 (K : Nat) (a1 : (List Int)) (a3 : Int) : Nat → Bool → Int → Option (Ex (List Int) (Bool))
 | 0, _, _ => none
 | k + 1, b5, a4 => (if a4 < (a1.length : Int) then (if b5 = true then I6 K a1 a3 k true (a4 + 1) else I6 K a1 a3 k (decide ((rd a1 a4) = a3)) (a4 + 1)) else some (.go b5))
def I7 (K : Nat) (a0 : (List Int)) (a1 : (List Int)) : Nat → Int → (List Int) → Option (Ex (List Int) ((List Int)))
 | 0, _, _ => none
 | k + 1, a3, a6 => (if a3 < (a0.length : Int) then ((I6 K a1 a3 K false 0).bind (Ex.elim (fun r => some (.ret r)) (fun s => (fun (c1 : Bool) => (if c1 = true then I7 K a0 a1 k (a3 + 1) a6 else (if a6.length + ([(rd a0 a3)]).length ≤ 1099511627776 then I7 K a0 a1 k (a3 + 1) (a6 ++ [(rd a0 a3)]) else none))) s))) else some (.go a6))
def Zo6 (K : Nat) (a0 : (List Int)) (a1 : (List Int)) : Option (List Int) := ((I7 K a0 a1 K 0 ([] : List Int)).bind (Ex.elim (fun r => some r) (fun s => (fun (b6 : (List Int)) => some b6) s)))
theorem Yt2 {a0 : (List Int)} {a1 : (List Int)} {r : (List Int)} (q0 : Zo6 K a0 a1 = some r) (b2 : Z9 (Y6 .i64) H s0 a0) (b3 : Z9 (Y6 .i64) H s1 a1) (hS : St H w L) :
 Calls Tryz.prog 244 #[s0, s1] w (T2 (fun v G => (R.sl (Y6 .i64)).p G v r) H L) := by
 have Z3 := Sub.refl H
 refine X3 Tryz.func244 rfl Tryz.ntmps244 rfl ?_
 unfold Zo6 at q0
 refine Z2 (Z0 (Z5 (vN) rfl rfl (Z1 (Z2 (Z0 ?_)))))
 refine Zq2 (τ := (Y6 .i64)) Q0 ze2 rfl hS rfl ?_
 intro u1 _ C3 g1 hS
 refine Z5 (u1) rfl rfl (Z1 (Z2 (Z2 (Z0 (Z5 (vI 0) rfl rfl (Z1 (Y7 ?_)))))))
 obtain ⟨e0, b4, e1⟩ := bind_some q0
 refine W1 (id := 0) (fun k f w => ∃ (a3 : Int) (a6 : (List Int)) (H1 : FH) (a8 : OL) (a7 : Value), I7 K a0 a1 k a3 a6 = some e0 ∧ Sub H H1 ∧ St H1 w (a8 ++ L) ∧ 0 ≤ a3 ∧ W3 (Y6 .i64) 2 H1 a7 a6 a8 ∧ Z9 (Y6 .i64) H1 s0 a0 ∧ Z9 (Y6 .i64) H1 s1 a1 ∧ tv f 0 = s0 ∧ tv f 1 = s1 ∧ tv f 5 = a7 ∧ tv f 6 = vI a3) (fun f w => ∃ (b6 : (List Int)) (H1 : FH) (c2 : OL) (b1 : Value), e0 = .go b6 ∧ Sub H H1 ∧ St H1 w (c2 ++ L) ∧ W3 (Y6 .i64) 2 H1 b1 b6 c2 ∧ tv f 5 = b1) rfl ?_ ?_ K ?_ ?_
 rintro f w ⟨a3, a6, H1, a8, a7, b4, _⟩
 rw [I7] at b4; cases b4
 rintro k _ _ e6 g2 ⟨a3, a6, e2, a8, a7, b4, Z3, hS, _, a5, b2, b3, c7, d7, c8, c9⟩
 rw [I7] at b4
 refine Z2 (Z2 (Z0 (Z4 (vI a3) (by exact c9) rfl (Z4 (s0) (by exact c7) rfl ?_))))
 have g6 := b2.bound
 refine W7 Q0 rfl b2 rfl ?_
 refine V5 (k := .i64) (a := a3) (b := (a0.length : Int)) rfl rfl rfl (Z1 ?_)
 obtain ⟨e3, b4⟩ | ⟨e3, b4⟩ := ic b4
 refine Y0 (bT e3 rfl) (Y8 (Z2 (Y7 (Z2 (Z0 (Z5 (vB false) rfl rfl (Z1 (Z2 (Z2 (Z0 (Z5 (vI 0) rfl rfl (Z1 (Y7 ?_)))))))))))))
 obtain ⟨e4, a9, b8⟩ := bind_some b4
 refine W1 (id := 2) (fun k f w => ∃ (b5 : Bool) (a4 : Int) (H1 : FH), I6 K a1 a3 k b5 a4 = some e4 ∧ Sub H H1 ∧ St H1 w (a8 ++ L) ∧ 0 ≤ a4 ∧ Z9 (Y6 .i64) H1 s0 a0 ∧ Z9 (Y6 .i64) H1 s1 a1 ∧ W3 (Y6 .i64) 2 H1 a7 a6 a8 ∧ tv f 0 = s0 ∧ tv f 1 = s1 ∧ tv f 5 = a7 ∧ tv f 6 = vI a3 ∧ tv f 7 = vB b5 ∧ tv f 8 = vI a4) (fun f w => ∃ (c1 : Bool) (H1 : FH), e4 = .go c1 ∧ Sub H H1 ∧ St H1 w (a8 ++ L) ∧ Z9 (Y6 .i64) H1 s0 a0 ∧ Z9 (Y6 .i64) H1 s1 a1 ∧ W3 (Y6 .i64) 2 H1 a7 a6 a8 ∧ tv f 0 = s0 ∧ tv f 1 = s1 ∧ tv f 5 = a7 ∧ tv f 6 = vI a3 ∧ tv f 7 = vB c1) rfl ?_ ?_ K ?_ ?_
 rintro f w ⟨b5, a4, H1, a9, _⟩
 rw [I6] at a9; cases a9
 rintro k _ _ e7 g3 ⟨b5, a4, d5, a9, Z3, hS, _, b2, b3, a5, c3, b7, c4, b9, d0, c0⟩
 rw [I6] at a9
 refine Z2 (Z2 (Z0 (Z4 (vI a4) (by exact c0) rfl (Z4 (s1) (by exact b7) rfl ?_))))
 have g7 := b3.bound
 refine W7 Zs6 rfl b3 rfl ?_
 refine V5 (k := .i64) (a := a4) (b := (a1.length : Int)) rfl rfl rfl (Z1 ?_)
 obtain ⟨e5, a9⟩ | ⟨e5, a9⟩ := ic a9
 refine Y0 (bT e5 rfl) (Y8 (Z2 (Y7 (Z0 (Z4 (vB b5) (by exact d0) rfl (Z4 (vB b5) rfl rfl ?_))))))
 obtain ⟨b0, a9⟩ | ⟨b0, a9⟩ := ic a9
 refine Y1 rfl rfl (Eq.trans rfl (congrArg vB b0)) rfl rfl rfl (Y1 rfl rfl (Eq.trans rfl (congrArg vB b0)) rfl rfl rfl (Y1 rfl rfl (Eq.trans rfl (congrArg vB b0)) rfl rfl rfl (Y1 rfl rfl (Eq.trans rfl (congrArg vB b0)) rfl rfl rfl (Y1 rfl rfl (Eq.trans rfl (congrArg vB b0)) rfl rfl rfl (Y1 rfl rfl (Eq.trans rfl (congrArg vB b0)) rfl rfl rfl ?_)))))
 refine V0 (t := true) (vB true) (Eq.trans rfl (congrArg vB b0)) ((if_pos rfl).trans rfl) rfl (Z5 (vB true) rfl rfl (Z1 (X4 (Z0 (Z4 (vI a4) (by exact c0) rfl ?_)))))
 refine W8 (a4 + 1) rfl rfl (IntWalk.i64_in _ (by omega)) rfl (Z5 (vI (a4 + 1)) rfl rfl (Z1 ?_))
 exact e7 _ _ ⟨true, (a4 + 1), d5, a9, Z3, hS, (by omega), b2, b3, a5, c3, b7, c4, b9, rfl, rfl⟩
 refine Y4 rfl rfl (Eq.trans rfl (congrArg vB (X8 b0))) (Z4 (s1) (by exact b7) rfl ?_)
 refine Y4 rfl rfl (Eq.trans rfl (congrArg vB (X8 b0))) (Z4 (vI a4) (by exact c0) rfl ?_)
 obtain ⟨_, _, _, _, _, e9, f0, rfl, f1⟩ := b3.elem (i := a4) (by omega) (by omega)
 refine Y4 rfl rfl (Eq.trans rfl (congrArg vB (X8 b0))) ?_
 refine X9 Zs6 rfl rfl e9 rfl (by omega) (by omega) rfl ?_
 refine Y4 rfl rfl (Eq.trans rfl (congrArg vB (X8 b0))) ?_
 refine Y3 (vI (rd a1 a4)) ty3 rfl (hS.froz _ _ f0) (f1 0 (show 0 < 1 by decide)) rfl ?_
 refine Y4 rfl rfl (Eq.trans rfl (congrArg vB (X8 b0))) (Z4 (vI a3) (by exact b9) rfl ?_)
 refine Y4 rfl rfl (Eq.trans rfl (congrArg vB (X8 b0))) ?_
 refine Zc2 (k := .i64) (a := (rd a1 a4)) (b := a3) rfl rfl rfl ?_
 refine V0 (t := false) (vB (decide ((rd a1 a4) = a3))) (Eq.trans rfl (congrArg vB (X8 b0))) ((if_neg Bool.false_ne_true).trans rfl) rfl (Z5 (vB (decide ((rd a1 a4) = a3))) rfl rfl (Z1 (X4 (Z0 (Z4 (vI a4) (by exact c0) rfl ?_)))))
 refine W8 (a4 + 1) rfl rfl (IntWalk.i64_in _ (by omega)) rfl (Z5 (vI (a4 + 1)) rfl rfl (Z1 ?_))
 exact e7 _ _ ⟨(decide ((rd a1 a4) = a3)), (a4 + 1), d5, a9, Z3, hS, (by omega), b2, b3, a5, c3, b7, c4, b9, rfl, rfl⟩
 refine Z8 (bF e5 rfl) ?_
 refine W0 rfl ?_
 obtain rfl := oi a9
 exact g3 _ _ ⟨b5, d5, rfl, Z3, hS, b2, b3, a5, c3, b7, c4, b9, d0⟩
 exact ⟨false, 0, e2, a9, Z3, hS, (by omega), b2, b3, a5, c7, d7, c8, c9, rfl, rfl⟩
 rintro _ _ ⟨c1, f2, rfl, Z3, hS, b2, b3, a5, c5, d1, d2, c6, d8⟩
 dsimp only [Ex.elim] at b8
 refine Z2 (Z0 (Z4 (vB c1) (by exact d8) rfl (K9 (b := c1) rfl rfl (Z1 ?_))))
 obtain ⟨d6, b8⟩ | ⟨d6, b8⟩ := ic b8
 refine Z8 (Eq.trans rfl (congrArg (fun b => vB (!b)) d6)) (Y8 (X4 (Z0 (Z4 (vI a3) (by exact c6) rfl ?_))))
 refine W8 (a3 + 1) rfl rfl (IntWalk.i64_in _ (by omega)) rfl (Z5 (vI (a3 + 1)) rfl rfl (Z1 ?_))
 exact e6 _ _ ⟨(a3 + 1), a6, f2, a8, a7, b8, Z3, hS, (by omega), a5, b2, b3, c5, d1, d2, rfl⟩
 refine Y0 (Eq.trans rfl (congrArg (fun b => vB (!b)) (X8 d6))) (Z0 (Z4 (a7) (by exact d2) rfl (Z4 (s0) (by exact c5) rfl (Z4 (vI a3) (by exact c6) rfl ?_))))
 obtain ⟨_, _, _, _, _, f3, f4, rfl, f5⟩ := b2.elem (i := a3) (by omega) (by omega)
 refine X9 Q0 rfl rfl f3 rfl (by omega) (by omega) rfl ?_
 refine Y3 (vI (rd a0 a3)) ty2 rfl (hS.froz _ _ f4) (f5 0 (show 0 < 1 by decide)) rfl ?_
 refine D9 (τ := (Y6 .i64)) Q0 ze2 rfl [vI (rd a0 a3)] [(rd a0 a3)] rfl rfl (K6 rfl) (Zi6 rfl) (by decide) (by decide) hS rfl ?_
 intro _ g4 _ d3 hS f6
 have Z3 := Z3.trans d3
 have b2 := b2.mono d3
 have b3 := b3.mono d3
 have a5 := a5.mono d3
 obtain ⟨f7, b8⟩ := gd b8
 refine N5 (τ := (Y6 .i64)) Xd5 rfl rfl rfl a5 hS f6 f7 rfl ?_
 intro e8 _ g5 f8 hS
 refine Z5 (e8) rfl rfl (Z1 (X4 (Z0 (Z4 (vI a3) (by exact c6) rfl ?_))))
 refine W8 (a3 + 1) rfl rfl (IntWalk.i64_in _ (by omega)) rfl (Z5 (vI (a3 + 1)) rfl rfl (Z1 ?_))
 exact e6 _ _ ⟨(a3 + 1), (a6 ++ [(rd a0 a3)]), g4, g5, e8, b8, Z3, hS, (by omega), f8, b2, b3, c5, d1, rfl, rfl⟩
 refine Z8 (bF e3 rfl) ?_
 refine W0 rfl ?_
 obtain rfl := oi b4
 exact g2 _ _ ⟨a6, e2, a8, a7, rfl, Z3, hS, a5, c8⟩
 exact ⟨0, ([] : List Int), H, C3, u1, b4, Z3, hS, (by omega), g1, b2, b3, rfl, rfl, rfl, rfl⟩
 rintro _ _ ⟨b6, _, c2, b1, rfl, Z3, hS, d4, d9⟩
 dsimp only [Ex.elim] at e1
 refine Z2 (Z0 (Z4 (b1) (by exact d9) rfl (Z5 (b1) rfl rfl (Z1 ?_))))
 refine X0 (vs := [b1]) Tryz.func244 ⟨rfl, trivial⟩ ?_
 obtain ⟨_, f9, hS, g0⟩ := d4.freeze hS
 have Z3 := Z3.trans f9
 obtain rfl := oi e1
 exact ⟨_, _, rfl, Z3, hS, g0⟩
def M6 (K : Nat) (a0 : A8) (a1 : A8) : Nat → Int → Option (Ex Int (Unit))
 | 0, _ => none
 | k + 1, a3 => (if a3 < 8 then (if (Y5 a0 a3) = (Y5 a1 a3) then M6 K a0 a1 k (a3 + 1) else some (.ret (IntKind.i64.wrap ((Y5 a1 a3) - (Y5 a0 a3))))) else some (.go ()))
def Zb2 (K : Nat) (a0 : A8) (a1 : A8) : Option Int := ((M6 K a0 a1 K 0).bind (Ex.elim (fun r => some r) (fun s => some 0)))
theorem Ya4 {a0 : A8} {a1 : A8} {r : Int} (q0 : Zb2 K a0 a1 = some r) (hS : St H w L) :
 Calls Tryz.prog 213 #[vA (Z7 .i64 a0), vA (Z7 .i64 a1)] w (T2 (fun v G => (R.int .i64).p G v r) H L) := by
 have Z3 := Sub.refl H
 refine X3 Tryz.func213 rfl Tryz.ntmps213 rfl ?_
 unfold Zb2 at q0
 refine Z2 (Z0 ?_)
 refine S3 (v := vA (Z7 .i64 a0)) (Z7 .i64 a0).toArray rfl rfl hS rfl ?_
 intro b1 _ hS
 refine S3 (v := vA (Z7 .i64 a1)) (Z7 .i64 a1).toArray rfl rfl hS rfl ?_
 intro b4 _ hS
 refine Z5 (vI 0) rfl rfl (Z1 (Z2 (Z2 (Z0 (Z4 (vI 0) rfl rfl (Z1 (Y7 ?_)))))))
 obtain ⟨b2, a4, a8⟩ := bind_some q0
 refine W1 (id := 0) (fun k f w => ∃ (a3 : Int) (H1 : FH), M6 K a0 a1 k a3 = some b2 ∧ Sub H H1 ∧ St H1 w ([(b4, cA (Z7 .i64 a1) 222)] ++ ([(b1, cA (Z7 .i64 a0) 222)] ++ L)) ∧ 0 ≤ a3 ∧ tv f 2 = vP b1 ∧ tv f 3 = vP b4 ∧ tv f 6 = vI a3) (fun f w => ∃ (H1 : FH), b2 = .go () ∧ Sub H H1 ∧ St H1 w ([(b4, cA (Z7 .i64 a1) 222)] ++ ([(b1, cA (Z7 .i64 a0) 222)] ++ L))) rfl ?_ ?_ K ?_ ?_
 rintro f w ⟨a3, H1, a4, _⟩
 rw [M6] at a4; cases a4
 rintro k _ _ c8 c9 ⟨a3, c3, a4, Z3, hS, _, a6, a7, a5⟩
 rw [M6] at a4
 refine Z2 (Z0 ?_)
 refine V5 (k := .i64) (a := a3) (b := 8) (by exact a5) rfl rfl (Z1 (Z2 ?_))
 obtain ⟨b3, a4⟩ | ⟨b3, a4⟩ := ic a4
 refine Y0 (bT b3 rfl) (Y8 (Z2 (Y7 (Z2 (Z0 (Z4 (vI a3) (by exact a5) rfl (Z5 (vI a3) rfl rfl (Z1 (Z2 ?_)))))))))
 refine U1 7 (P0 [mE 9 (vI a3), mE 10 (vQ b1 (0 + (a3).toNat * 1)), mE 11 (vI (Y5 a0 a3)), mE 12 (vI a3), mE 13 (vQ b4 (0 + (a3).toNat * 1)), mE 14 (vI (Y5 a1 a3)), mE 15 (vB (!decide ((Y5 a0 a3) = (Y5 a1 a3))))]) [] mixed rfl rfl rfl hS (Z6 rfl ?_ (Z6 rfl ?_ (Z6 rfl ?_ (Z6 rfl ?_ (Z6 rfl ?_ (Z6 rfl ?_ (Z6 rfl ?_ U7))))))) ?_
 exact W5 fun S B => Z4 (vI a3) (evT (B 5 rfl) rfl) rfl (qz S)
 exact G4 fun S B V => V2 Zm2 (evT (B 2 rfl) a6) (eM (V 0 9 rfl rfl)) (by omega) (by omega) rfl (qz S)
 exact X2 fun S V => Y3 (vI (Y5 a0 a3)) ty3 (eM (V 1 10 rfl rfl)) (S.get (o := cA (Z7 .i64 a0) 222) (mR (mR mL))) (J2 ([]) ([]) (by omega) (by omega)) rfl (qz S)
 exact W5 fun S B => Z4 (vI a3) (evT (B 5 rfl) rfl) rfl (qz S)
 exact G4 fun S B V => V2 Zm2 (evT (B 3 rfl) a7) (eM (V 3 12 rfl rfl)) (by omega) (by omega) rfl (qz S)
 exact X2 fun S V => Y3 (vI (Y5 a1 a3)) ty3 (eM (V 4 13 rfl rfl)) (S.get (o := cA (Z7 .i64 a1) 222) (mR mL)) (J2 ([]) ([]) (by omega) (by omega)) rfl (qz S)
 exact X2 fun S V => L7 (k := .i64) (a := (Y5 a0 a3)) (b := (Y5 a1 a3)) (eM (V 2 11 rfl rfl)) (eM (V 5 14 rfl rfl)) rfl (qz S)
 intro b7 d0 b8 c4 hS a9 c5 hcq
 have hS : St b8 d0 ([(b4, cA (Z7 .i64 a1) 222)] ++ ([(b1, cA (Z7 .i64 a0) 222)] ++ L)) := hS
 have Z3 := Z3.trans c4
 have b9 := evT (a9 2 rfl) a6
 have c0 := evT (a9 3 rfl) a7
 have c1 : tv b7 5 = vI a3 := Eq.trans (a9 5 rfl) rfl
 have c2 : tv b7 15 = vB (!decide ((Y5 a0 a3) = (Y5 a1 a3))) := c5 6 15 (by decide) rfl
 refine Z1 ?_
 obtain ⟨b0, a4⟩ | ⟨b0, a4⟩ := ic a4
 refine Z8 (bN b0 (by exact c2)) (Y8 (X4 (Z0 ?_)))
 refine W8 (a3 + 1) (by exact (evT (a9 6 rfl) a5)) rfl (IntWalk.i64_in _ (by omega)) rfl (Z4 (vI (a3 + 1)) rfl rfl (Z1 ?_))
 exact c8 _ _ ⟨(a3 + 1), b8, a4, Z3, hS, (by omega), b9, c0, rfl⟩
 refine Y0 (bO b0 (by exact c2)) (Z2 ?_)
 refine U1 8 (P0 [mE 16 (vI a3), mE 17 (vQ b4 (0 + (a3).toNat * 1)), mE 18 (vI (Y5 a1 a3)), mE 19 (vI a3), mE 20 (vQ b1 (0 + (a3).toNat * 1)), mE 21 (vI (Y5 a0 a3)), mE 22 (vI (IntKind.i64.wrap ((Y5 a1 a3) - (Y5 a0 a3)))), mE 4 (vI (IntKind.i64.wrap ((Y5 a1 a3) - (Y5 a0 a3))))]) [] mixed rfl rfl rfl hS (Z6 rfl ?_ (Z6 rfl ?_ (Z6 rfl ?_ (Z6 rfl ?_ (Z6 rfl ?_ (Z6 rfl ?_ (Z6 rfl ?_ (Z6 rfl ?_ U7)))))))) ?_
 exact W5 fun S B => Z4 (vI a3) (evT (B 5 rfl) c1) rfl (qz S)
 exact G4 fun S B V => V2 Zm2 (evT (B 3 rfl) c0) (eM (V 0 16 rfl rfl)) (by omega) (by omega) rfl (qz S)
 exact X2 fun S V => Y3 (vI (Y5 a1 a3)) ty3 (eM (V 1 17 rfl rfl)) (S.get (o := cA (Z7 .i64 a1) 222) (mR mL)) (J2 ([]) ([]) (by omega) (by omega)) rfl (qz S)
 exact W5 fun S B => Z4 (vI a3) (evT (B 5 rfl) c1) rfl (qz S)
 exact G4 fun S B V => V2 Zm2 (evT (B 2 rfl) b9) (eM (V 3 19 rfl rfl)) (by omega) (by omega) rfl (qz S)
 exact X2 fun S V => Y3 (vI (Y5 a0 a3)) ty3 (eM (V 4 20 rfl rfl)) (S.get (o := cA (Z7 .i64 a0) 222) (mR (mR mL))) (J2 ([]) ([]) (by omega) (by omega)) rfl (qz S)
 exact X2 fun S V => Yg5 (IntKind.i64.wrap ((Y5 a1 a3) - (Y5 a0 a3))) (eM (V 2 18 rfl rfl)) (eM (V 5 21 rfl rfl)) rfl rfl (qz S)
 exact X2 fun S V => Z5 (vI (IntKind.i64.wrap ((Y5 a1 a3) - (Y5 a0 a3)))) (eM (V 6 22 rfl rfl)) rfl (qz S)
 intro _ c6 c7 b5 hS _ b6 hcq
 have hS : St c7 c6 ([(b4, cA (Z7 .i64 a1) 222)] ++ ([(b1, cA (Z7 .i64 a0) 222)] ++ L)) := hS
 have Z3 := Z3.trans b5
 refine Z1 ?_
 refine X0 (vs := [vI (IntKind.i64.wrap ((Y5 a1 a3) - (Y5 a0 a3)))]) Tryz.func213 ⟨(by exact (eM (b6 7 4 (by decide) rfl))), trivial⟩ ?_
 obtain rfl := oi a4
 dsimp only [Ex.elim] at a8
 obtain rfl := oi a8
 exact ⟨_, _, rfl, Z3, (St.dropA (St.dropA hS)), rfl⟩
 refine Z8 (bF b3 rfl) ?_
 refine W0 rfl ?_
 obtain rfl := oi a4
 exact c9 _ _ ⟨c3, rfl, Z3, hS⟩
 exact ⟨0, H, a4, Z3, hS, (by omega), rfl, rfl, rfl⟩
 rintro _ _ ⟨_, rfl, Z3, hS⟩
 dsimp only [Ex.elim] at a8
 refine Z2 (Z0 (Z5 (vI 0) rfl rfl (Z1 ?_)))
 refine X0 (vs := [vI 0]) Tryz.func213 ⟨rfl, trivial⟩ ?_
 obtain rfl := oi a8
 exact ⟨_, _, rfl, Z3, (St.dropA (St.dropA hS)), rfl⟩
def I8 (K : Nat) (a0 : (List Int)) (a1 : (List Int)) : Nat → Int → Option (Ex Bool (Unit))
 | 0, _ => none
 | k + 1, a3 => (if a3 < (a0.length : Int) then (if a3 < (a1.length : Int) then (if (rd a0 a3) = (rd a1 a3) then I8 K a0 a1 k (a3 + 1) else some (.ret false)) else none) else some (.go ()))
def Zs4 (K : Nat) (a0 : (List Int)) (a1 : (List Int)) : Option Bool := (if (a0.length : Int) = (a1.length : Int) then ((I8 K a0 a1 K 0).bind (Ex.elim (fun r => some r) (fun s => some true))) else some false)
theorem Yz3 {a0 : (List Int)} {a1 : (List Int)} {r : Bool} (q0 : Zs4 K a0 a1 = some r) (a6 : Z9 (Y6 .i64) H s0 a0) (a8 : Z9 (Y6 .i64) H s1 a1) (hS : St H w L) :
 Calls Tryz.prog 19 #[s0, s1] w (T2 (fun v G => R.bool.p G v r) H L) := by
 have Z3 := Sub.refl H
 refine X3 Tryz.func19 rfl Tryz.ntmps19 rfl ?_
 unfold Zs4 at q0
 refine Z2 (Z0 (Z5 (vB false) rfl rfl (Z1 (Z2 (Z2 (Z0 (Z4 (s0) rfl rfl ?_)))))))
 have d5 := a6.bound
 refine W7 Q0 rfl a6 rfl (Z4 (s1) rfl rfl ?_)
 have d6 := a8.bound
 refine W7 Q0 rfl a8 rfl ?_
 refine L7 (k := .i64) (a := (a0.length : Int)) (b := (a1.length : Int)) rfl rfl rfl (Z1 ?_)
 obtain ⟨b4, q0⟩ | ⟨b4, q0⟩ := ic q0
 refine Z8 (bN b4 rfl) (Y8 (Z2 (Z2 (Z0 (Z5 (vI 0) rfl rfl (Z1 (Y7 ?_)))))))
 obtain ⟨b5, a4, b0⟩ := bind_some q0
 refine W1 (id := 0) (fun k f w => ∃ (a3 : Int) (H1 : FH), I8 K a0 a1 k a3 = some b5 ∧ Sub H H1 ∧ St H1 w (L) ∧ 0 ≤ a3 ∧ Z9 (Y6 .i64) H1 s0 a0 ∧ Z9 (Y6 .i64) H1 s1 a1 ∧ tv f 0 = s0 ∧ tv f 1 = s1 ∧ tv f 5 = vI a3) (fun f w => ∃ (H1 : FH), b5 = .go () ∧ Sub H H1 ∧ St H1 w (L)) rfl ?_ ?_ K ?_ ?_
 rintro f w ⟨a3, H1, a4, _⟩
 rw [I8] at a4; cases a4
 rintro k _ _ c9 d0 ⟨a3, c0, a4, Z3, hS, _, a6, a8, a7, a9, a5⟩
 rw [I8] at a4
 refine Z2 (Z2 (Z0 (Z4 (vI a3) (by exact a5) rfl (Z4 (s0) (by exact a7) rfl ?_))))
 have d7 := a6.bound
 refine W7 Q0 rfl a6 rfl ?_
 refine V5 (k := .i64) (a := a3) (b := (a0.length : Int)) rfl rfl rfl (Z1 ?_)
 obtain ⟨b6, a4⟩ | ⟨b6, a4⟩ := ic a4
 refine Y0 (bT b6 rfl) (Y8 (Z2 (Y7 (Z2 ?_))))
 obtain ⟨d1, d2, _, _, _, c1, c2, rfl, c3⟩ := a6.elem (i := a3) (by omega) (by omega)
 obtain ⟨_, a4⟩ := gd a4
 obtain ⟨d3, d4, _, _, _, c4, c5, rfl, c6⟩ := a8.elem (i := a3) (by omega) (by omega)
 refine U1 9 (P0 [mE 17 (s0), mE 18 (vI a3), mE 19 (vQ d1 d2), mE 20 (vI (rd a0 a3)), mE 21 (s1), mE 22 (vI a3), mE 23 (vQ d3 d4), mE 24 (vI (rd a1 a3)), mE 25 (vB (!decide ((rd a0 a3) = (rd a1 a3))))]) [] mixed rfl rfl rfl hS (Z6 rfl ?_ (Z6 rfl ?_ (Z6 rfl ?_ (Z6 rfl ?_ (Z6 rfl ?_ (Z6 rfl ?_ (Z6 rfl ?_ (Z6 rfl ?_ (Z6 rfl ?_ U7))))))))) ?_
 exact W5 fun S B => Z4 (s0) (evT (B 0 rfl) a7) rfl (qz S)
 exact W5 fun S B => Z4 (vI a3) (evT (B 5 rfl) a5) rfl (qz S)
 exact X2 fun S V => X9 Q0 rfl (eM (V 0 17 rfl rfl)) c1 (eM (V 1 18 rfl rfl)) (by omega) (by omega) rfl (qz S)
 exact E6 fun s S V => Y3 (vI (rd a0 a3)) ty2 (eM (V 2 19 rfl rfl)) (S.froz _ _ (s.1 _ _ c2)) (c3 0 (show 0 < 1 by decide)) rfl (qz S)
 exact W5 fun S B => Z4 (s1) (evT (B 1 rfl) a9) rfl (qz S)
 exact W5 fun S B => Z4 (vI a3) (evT (B 5 rfl) a5) rfl (qz S)
 exact X2 fun S V => X9 Q0 rfl (eM (V 4 21 rfl rfl)) c4 (eM (V 5 22 rfl rfl)) (by omega) (by omega) rfl (qz S)
 exact E6 fun s S V => Y3 (vI (rd a1 a3)) ty2 (eM (V 6 23 rfl rfl)) (S.froz _ _ (s.1 _ _ c5)) (c6 0 (show 0 < 1 by decide)) rfl (qz S)
 exact X2 fun S V => L7 (k := .i64) (a := (rd a0 a3)) (b := (rd a1 a3)) (eM (V 3 20 rfl rfl)) (eM (V 7 24 rfl rfl)) rfl (qz S)
 intro c7 c8 b7 b1 hS b2 b9 hcq
 have hS : St b7 c8 (L) := hS
 have Z3 := Z3.trans b1
 have a6 := a6.mono b1
 have a8 := a8.mono b1
 have b8 : tv c7 25 = vB (!decide ((rd a0 a3) = (rd a1 a3))) := b9 8 25 (by decide) rfl
 refine Z1 ?_
 obtain ⟨b3, a4⟩ | ⟨b3, a4⟩ := ic a4
 refine Z8 (bN b3 (by exact b8)) (Y8 (X4 (Z0 (Z4 (vI a3) (by exact (evT (b2 5 rfl) a5)) rfl ?_))))
 refine W8 (a3 + 1) rfl rfl (IntWalk.i64_in _ (by omega)) rfl (Z5 (vI (a3 + 1)) rfl rfl (Z1 ?_))
 exact c9 _ _ ⟨(a3 + 1), b7, a4, Z3, hS, (by omega), a6, a8, (evT (b2 0 rfl) a7), (evT (b2 1 rfl) a9), rfl⟩
 refine Y0 (bO b3 (by exact b8)) (Z2 (Z0 (Z5 (vB false) rfl rfl (Z1 ?_))))
 refine X0 (vs := [vB false]) Tryz.func19 ⟨rfl, trivial⟩ ?_
 obtain rfl := oi a4
 dsimp only [Ex.elim] at b0
 obtain rfl := oi b0
 exact ⟨_, _, rfl, Z3, hS, rfl⟩
 refine Z8 (bF b6 rfl) ?_
 refine W0 rfl ?_
 obtain rfl := oi a4
 exact d0 _ _ ⟨c0, rfl, Z3, hS⟩
 exact ⟨0, H, a4, Z3, hS, (by omega), a6, a8, rfl, rfl, rfl⟩
 rintro _ _ ⟨_, rfl, Z3, hS⟩
 dsimp only [Ex.elim] at b0
 refine Z2 (Z0 (Z5 (vB true) rfl rfl (Z1 ?_)))
 refine X0 (vs := [vB true]) Tryz.func19 ⟨rfl, trivial⟩ ?_
 obtain rfl := oi b0
 exact ⟨_, _, rfl, Z3, hS, rfl⟩
 refine Y0 (bO b4 rfl) (Z2 (Z0 (Z5 (vB false) rfl rfl (Z1 ?_))))
 refine X0 (vs := [vB false]) Tryz.func19 ⟨rfl, trivial⟩ ?_
 obtain rfl := oi q0
 exact ⟨_, _, rfl, Z3, hS, rfl⟩
def K3 (K : Nat) (a0 : A8) (a1 : A8) : Nat → Int → Option (Ex Bool (Unit))
 | 0, _ => none
 | k + 1, a3 => (if a3 < 8 then (if (Y5 a0 a3) = (Y5 a1 a3) then K3 K a0 a1 k (a3 + 1) else some (.ret false)) else some (.go ()))
def Zo1 (K : Nat) (a0 : A8) (a1 : A8) : Option Bool := ((K3 K a0 a1 K 0).bind (Ex.elim (fun r => some r) (fun s => some true)))
theorem Yu7 {a0 : A8} {a1 : A8} {r : Bool} (q0 : Zo1 K a0 a1 = some r) (hS : St H w L) :
 Calls Tryz.prog 239 #[vA (Z7 .u8 a0), vA (Z7 .u8 a1)] w (T2 (fun v G => R.bool.p G v r) H L) := by
 have Z3 := Sub.refl H
 refine X3 Tryz.func239 rfl Tryz.ntmps239 rfl ?_
 unfold Zo1 at q0
 refine Z2 (Z0 ?_)
 refine S3 (v := vA (Z7 .u8 a0)) (Z7 .u8 a0).toArray rfl rfl hS rfl ?_
 intro b1 _ hS
 refine S3 (v := vA (Z7 .u8 a1)) (Z7 .u8 a1).toArray rfl rfl hS rfl ?_
 intro b4 _ hS
 refine Z5 (vB false) rfl rfl (Z1 (Z2 (Z2 (Z0 (Z5 (vI 0) rfl rfl (Z1 (Y7 ?_)))))))
 obtain ⟨b2, a4, a8⟩ := bind_some q0
 refine W1 (id := 0) (fun k f w => ∃ (a3 : Int) (H1 : FH), K3 K a0 a1 k a3 = some b2 ∧ Sub H H1 ∧ St H1 w ([(b4, cA (Z7 .u8 a1) 72)] ++ ([(b1, cA (Z7 .u8 a0) 72)] ++ L)) ∧ 0 ≤ a3 ∧ tv f 2 = vP b1 ∧ tv f 3 = vP b4 ∧ tv f 5 = vI a3) (fun f w => ∃ (H1 : FH), b2 = .go () ∧ Sub H H1 ∧ St H1 w ([(b4, cA (Z7 .u8 a1) 72)] ++ ([(b1, cA (Z7 .u8 a0) 72)] ++ L))) rfl ?_ ?_ K ?_ ?_
 rintro f w ⟨a3, H1, a4, _⟩
 rw [K3] at a4; cases a4
 rintro k _ _ c0 c1 ⟨a3, b7, a4, Z3, hS, _, a6, a7, a5⟩
 rw [K3] at a4
 refine Z2 (Z2 (Z0 (Z4 (vI a3) (by exact a5) rfl ?_)))
 refine V5 (k := .i64) (a := a3) (b := 8) rfl rfl rfl (Z1 ?_)
 obtain ⟨b3, a4⟩ | ⟨b3, a4⟩ := ic a4
 refine Y0 (bT b3 rfl) (Y8 (Z2 (Y7 (Z2 ?_))))
 refine U1 7 (P0 [mE 10 (vI a3), mE 11 (vQ b1 (0 + (a3).toNat * 1)), mE 12 (Value.int .u8 (Y5 a0 a3)), mE 13 (vI a3), mE 14 (vQ b4 (0 + (a3).toNat * 1)), mE 15 (Value.int .u8 (Y5 a1 a3)), mE 16 (vB (!decide ((Y5 a0 a3) = (Y5 a1 a3))))]) [] mixed rfl rfl rfl hS (Z6 rfl ?_ (Z6 rfl ?_ (Z6 rfl ?_ (Z6 rfl ?_ (Z6 rfl ?_ (Z6 rfl ?_ (Z6 rfl ?_ U7))))))) ?_
 exact W5 fun S B => Z4 (vI a3) (evT (B 5 rfl) a5) rfl (qz S)
 exact G4 fun S B V => V2 Zd9 (evT (B 2 rfl) a6) (eM (V 0 10 rfl rfl)) (by omega) (by omega) rfl (qz S)
 exact X2 fun S V => Y3 (Value.int .u8 (Y5 a0 a3)) ty5 (eM (V 1 11 rfl rfl)) (S.get (o := cA (Z7 .u8 a0) 72) (mR (mR mL))) (J2 ([]) ([]) (by omega) (by omega)) rfl (qz S)
 exact W5 fun S B => Z4 (vI a3) (evT (B 5 rfl) a5) rfl (qz S)
 exact G4 fun S B V => V2 Zd9 (evT (B 3 rfl) a7) (eM (V 3 13 rfl rfl)) (by omega) (by omega) rfl (qz S)
 exact X2 fun S V => Y3 (Value.int .u8 (Y5 a1 a3)) ty5 (eM (V 4 14 rfl rfl)) (S.get (o := cA (Z7 .u8 a1) 72) (mR mL)) (J2 ([]) ([]) (by omega) (by omega)) rfl (qz S)
 exact X2 fun S V => L7 (k := .u8) (a := (Y5 a0 a3)) (b := (Y5 a1 a3)) (eM (V 2 12 rfl rfl)) (eM (V 5 15 rfl rfl)) rfl (qz S)
 intro c2 c3 b5 b8 hS a9 b9 hcq
 have hS : St b5 c3 ([(b4, cA (Z7 .u8 a1) 72)] ++ ([(b1, cA (Z7 .u8 a0) 72)] ++ L)) := hS
 have Z3 := Z3.trans b8
 have b6 : tv c2 16 = vB (!decide ((Y5 a0 a3) = (Y5 a1 a3))) := b9 6 16 (by decide) rfl
 refine Z1 ?_
 obtain ⟨b0, a4⟩ | ⟨b0, a4⟩ := ic a4
 refine Z8 (bN b0 (by exact b6)) (Y8 (X4 (Z0 (Z4 (vI a3) (by exact (evT (a9 5 rfl) a5)) rfl ?_))))
 refine W8 (a3 + 1) rfl rfl (IntWalk.i64_in _ (by omega)) rfl (Z5 (vI (a3 + 1)) rfl rfl (Z1 ?_))
 exact c0 _ _ ⟨(a3 + 1), b5, a4, Z3, hS, (by omega), (evT (a9 2 rfl) a6), (evT (a9 3 rfl) a7), rfl⟩
 refine Y0 (bO b0 (by exact b6)) (Z2 (Z0 (Z5 (vB false) rfl rfl (Z1 ?_))))
 refine X0 (vs := [vB false]) Tryz.func239 ⟨rfl, trivial⟩ ?_
 obtain rfl := oi a4
 dsimp only [Ex.elim] at a8
 obtain rfl := oi a8
 exact ⟨_, _, rfl, Z3, (St.dropA (St.dropA hS)), rfl⟩
 refine Z8 (bF b3 rfl) ?_
 refine W0 rfl ?_
 obtain rfl := oi a4
 exact c1 _ _ ⟨b7, rfl, Z3, hS⟩
 exact ⟨0, H, a4, Z3, hS, (by omega), rfl, rfl, rfl⟩
 rintro _ _ ⟨_, rfl, Z3, hS⟩
 dsimp only [Ex.elim] at a8
 refine Z2 (Z0 (Z5 (vB true) rfl rfl (Z1 ?_)))
 refine X0 (vs := [vB true]) Tryz.func239 ⟨rfl, trivial⟩ ?_
 obtain rfl := oi a8
 exact ⟨_, _, rfl, Z3, (St.dropA (St.dropA hS)), rfl⟩
def I9 (K : Nat) (a0 : A8) (a1 : (List Int)) : Nat → Int → Int → Option (Ex Int (Int))
 | 0, _, _ => none
 | k + 1, a5, a3 => (if a3 < (a1.length : Int) then (if a3 < 8 then I9 K a0 a1 k (IntKind.i64.wrap (a5 + (IntKind.i64.wrap ((rd a1 a3) * (Y5 a0 a3))))) (a3 + 1) else none) else some (.go a5))
def Zl4 (K : Nat) (a0 : A8) (a1 : (List Int)) : Option Int := ((I9 K a0 a1 K 0 0).bind (Ex.elim (fun r => some r) (fun s => (fun (a7 : Int) => some a7) s)))
theorem Yo8 {a0 : A8} {a1 : (List Int)} {r : Int} (q0 : Zl4 K a0 a1 = some r) (a8 : Z9 (Y6 .i64) H s0 a1) (hS : St H w L) :
 Calls Tryz.prog 215 #[vA (Z7 .i64 a0), s0] w (T2 (fun v G => (R.int .i64).p G v r) H L) := by
 have Z3 := Sub.refl H
 refine X3 Tryz.func215 rfl Tryz.ntmps215 rfl ?_
 unfold Zl4 at q0
 refine Z2 (Z0 ?_)
 refine S3 (v := vA (Z7 .i64 a0)) (Z7 .i64 a0).toArray rfl rfl hS rfl ?_
 intro b1 _ hS
 refine Z5 (vI 0) rfl rfl (Z1 (Z2 (Z0 (Z5 (vI 0) rfl rfl (Z1 (Z2 (Z2 (Z0 (Z4 (s0) rfl rfl ?_)))))))))
 have c4 := a8.bound
 refine W7 Q0 rfl a8 rfl (Z4 (vI 0) rfl rfl (Z1 (Y7 ?_)))
 obtain ⟨b5, a4, b6⟩ := bind_some q0
 refine W1 (id := 0) (fun k f w => ∃ (a5 : Int) (a3 : Int) (H1 : FH), I9 K a0 a1 k a5 a3 = some b5 ∧ Sub H H1 ∧ St H1 w ([(b1, cA (Z7 .i64 a0) 222)] ++ L) ∧ 0 ≤ a3 ∧ Z9 (Y6 .i64) H1 s0 a1 ∧ tv f 2 = vP b1 ∧ tv f 5 = vI a5 ∧ tv f 8 = s0 ∧ tv f 9 = vI (a1.length : Int) ∧ tv f 10 = vI a3) (fun f w => ∃ (a7 : Int) (H1 : FH), b5 = .go a7 ∧ Sub H H1 ∧ St H1 w ([(b1, cA (Z7 .i64 a0) 222)] ++ L) ∧ tv f 5 = vI a7) rfl ?_ ?_ K ?_ ?_
 rintro f w ⟨a5, a3, H1, a4, _⟩
 rw [I9] at a4; cases a4
 rintro k _ _ b9 c0 ⟨a5, a3, b7, a4, Z3, hS, _, a8, a9, b0, b2, b3, a6⟩
 rw [I9] at a4
 refine Z2 (Z0 ?_)
 refine V5 (k := .i64) (a := a3) (b := (a1.length : Int)) (by exact a6) (by exact b3) rfl (Z1 (Z2 ?_))
 obtain ⟨b8, a4⟩ | ⟨b8, a4⟩ := ic a4
 refine Y0 (bT b8 rfl) (Y8 (Z2 (Y7 (Z2 (Z0 (Z4 (vI a3) (by exact a6) rfl ?_))))))
 obtain ⟨_, _, _, _, _, c1, c2, rfl, c3⟩ := a8.elem (i := a3) (by omega) (by omega)
 refine X9 Q0 rfl (by exact b2) c1 (by exact a6) (by omega) (by omega) rfl ?_
 refine Y3 (vI (rd a1 a3)) ty2 rfl (hS.froz _ _ c2) (c3 0 (show 0 < 1 by decide)) rfl (Z5 (vI a3) rfl rfl (Z5 (vI (rd a1 a3)) rfl rfl (Z1 (Z0 (Z4 (vI a5) (by exact b0) rfl (Z4 (vI (rd a1 a3)) rfl rfl (Z4 (vI a3) rfl rfl ?_)))))))
 obtain ⟨_, a4⟩ := gd a4
 refine V2 Zm2 (by exact a9) rfl (by omega) (by omega) rfl ?_
 refine Y3 (vI (Y5 a0 a3)) ty3 rfl (hS.get (o := cA (Z7 .i64 a0) 222) mL) (J2 ([]) ([]) (by omega) (by omega)) rfl ?_
 refine Zt1 (IntKind.i64.wrap ((rd a1 a3) * (Y5 a0 a3))) rfl rfl rfl rfl ?_
 refine W8 (IntKind.i64.wrap (a5 + (IntKind.i64.wrap ((rd a1 a3) * (Y5 a0 a3))))) rfl rfl rfl rfl (Z5 (vI (IntKind.i64.wrap (a5 + (IntKind.i64.wrap ((rd a1 a3) * (Y5 a0 a3)))))) rfl rfl (Z1 (X4 (Z0 ?_))))
 refine W8 (a3 + 1) (by exact a6) rfl (IntWalk.i64_in _ (by omega)) rfl (Z4 (vI (a3 + 1)) rfl rfl (Z1 ?_))
 exact b9 _ _ ⟨(IntKind.i64.wrap (a5 + (IntKind.i64.wrap ((rd a1 a3) * (Y5 a0 a3))))), (a3 + 1), b7, a4, Z3, hS, (by omega), a8, a9, rfl, b2, b3, rfl⟩
 refine Z8 (bF b8 rfl) ?_
 refine W0 rfl ?_
 obtain rfl := oi a4
 exact c0 _ _ ⟨a5, b7, rfl, Z3, hS, b0⟩
 exact ⟨0, 0, H, a4, Z3, hS, (by omega), a8, rfl, rfl, rfl, rfl, rfl⟩
 rintro _ _ ⟨a7, _, rfl, Z3, hS, b4⟩
 dsimp only [Ex.elim] at b6
 refine Z2 (Z0 (Z4 (vI a7) (by exact b4) rfl (Z5 (vI a7) rfl rfl (Z1 ?_))))
 refine X0 (vs := [vI a7]) Tryz.func215 ⟨rfl, trivial⟩ ?_
 obtain rfl := oi b6
 exact ⟨_, _, rfl, Z3, (St.dropA hS), rfl⟩
def V4 (K : Nat) (a0 : (List Int)) (a1 : (Int → Option Bool)) : Nat → Int → Option (Ex Int (Unit))
 | 0, _ => none
 | k + 1, a3 => (if a3 < (a0.length : Int) then ((a1 (rd a0 a3)).bind fun r4 => (if r4 = true then some (.ret a3) else V4 K a0 a1 k (a3 + 1))) else some (.go ()))
def K4 (K : Nat) (a0 : (List Int)) (a1 : (Int → Option Bool)) : Option Int := ((V4 K a0 a1 K 0).bind (Ex.elim (fun r => some r) (fun s => some (-1))))
theorem Zn7 {a0 : (List Int)} {a1 : (Int → Option Bool)} {r : Int} (q0 : K4 K a0 a1 = some r) (a6 : Z9 (Y6 .i64) H s0 a0) (a7 : FnQ Tryz.prog s1 (R.int .i64) a1 H) (hS : St H w L) :
 Calls Tryz.prog 235 #[s0, s1] w (T2 (fun v G => (R.int .i64).p G v r) H L) := by
 have Z3 := Sub.refl H
 refine X3 Tryz.func235 rfl Tryz.ntmps235 rfl ?_
 unfold K4 at q0
 refine Z2 (Z0 (Z5 (vI 0) rfl rfl (Z1 (Z2 (Z2 (Z0 (Z4 (s0) rfl rfl ?_)))))))
 have c3 := a6.bound
 refine W7 Q0 rfl a6 rfl (Z4 (vI 0) rfl rfl (Z1 (Y7 ?_)))
 obtain ⟨b2, a4, b1⟩ := bind_some q0
 refine W1 (id := 0) (fun k f w => ∃ (a3 : Int) (H1 : FH), V4 K a0 a1 k a3 = some b2 ∧ Sub H H1 ∧ St H1 w (L) ∧ 0 ≤ a3 ∧ Z9 (Y6 .i64) H1 s0 a0 ∧ FnQ Tryz.prog s1 (R.int .i64) a1 H1 ∧ tv f 0 = s0 ∧ tv f 1 = s1 ∧ tv f 7 = vI (a0.length : Int) ∧ tv f 8 = vI a3) (fun f w => ∃ (H1 : FH), b2 = .go () ∧ Sub H H1 ∧ St H1 w (L)) rfl ?_ ?_ K ?_ ?_
 rintro f w ⟨a3, H1, a4, _⟩
 rw [V4] at a4; cases a4
 rintro k _ _ b7 b8 ⟨a3, b6, a4, Z3, hS, _, a6, a7, a8, a9, b0, a5⟩
 rw [V4] at a4
 refine Z2 (Z0 ?_)
 refine V5 (k := .i64) (a := a3) (b := (a0.length : Int)) (by exact a5) (by exact b0) rfl (Z1 (Z2 ?_))
 obtain ⟨b3, a4⟩ | ⟨b3, a4⟩ := ic a4
 refine Y0 (bT b3 rfl) (Y8 (Z2 (Y7 (Z2 (Z0 (Z4 (vI a3) (by exact a5) rfl (Z5 (vI a3) rfl rfl (Z1 (Z2 (Z0 (Z4 (s1) (by exact a9) rfl (Z4 (s0) (by exact a8) rfl (Z4 (vI a3) rfl rfl ?_)))))))))))))
 obtain ⟨_, _, _, _, _, b9, c0, rfl, c1⟩ := a6.elem (i := a3) (by omega) (by omega)
 refine X9 Q0 rfl rfl b9 rfl (by omega) (by omega) rfl ?_
 refine Y3 (vI (rd a0 a3)) ty2 rfl (hS.froz _ _ c0) (c1 0 (show 0 < 1 by decide)) rfl ?_
 obtain ⟨_, c2, a4⟩ := bind_some a4
 refine Wc4 a7 rfl rfl hS rfl c2 rfl ?_
 intro H4 _ b4 hS
 have Z3 := Z3.trans b4
 have a6 := a6.mono b4
 have a7 := a7.mono b4
 refine Z1 ?_
 obtain ⟨b5, a4⟩ | ⟨b5, a4⟩ := ic a4
 refine Y0 (Eq.trans rfl (congrArg vB b5)) (Z2 (Z0 (Z4 (vI a3) rfl rfl (Z5 (vI a3) rfl rfl (Z1 ?_)))))
 refine X0 (vs := [vI a3]) Tryz.func235 ⟨rfl, trivial⟩ ?_
 obtain rfl := oi a4
 dsimp only [Ex.elim] at b1
 obtain rfl := oi b1
 exact ⟨_, _, rfl, Z3, hS, rfl⟩
 refine Z8 (Eq.trans rfl (congrArg vB (X8 b5))) (Y8 (X4 (Z0 ?_)))
 refine W8 (a3 + 1) (by exact a5) rfl (IntWalk.i64_in _ (by omega)) rfl (Z4 (vI (a3 + 1)) rfl rfl (Z1 ?_))
 exact b7 _ _ ⟨(a3 + 1), H4, a4, Z3, hS, (by omega), a6, a7, a8, a9, b0, rfl⟩
 refine Z8 (bF b3 rfl) ?_
 refine W0 rfl ?_
 obtain rfl := oi a4
 exact b8 _ _ ⟨b6, rfl, Z3, hS⟩
 exact ⟨0, H, a4, Z3, hS, (by omega), a6, a7, rfl, rfl, rfl, rfl⟩
 rintro _ _ ⟨_, rfl, Z3, hS⟩
 dsimp only [Ex.elim] at b1
 refine Z2 (Z0 (Z5 (vI (-1)) rfl rfl (Z1 ?_)))
 refine X0 (vs := [vI (-1)]) Tryz.func235 ⟨rfl, trivial⟩ ?_
 obtain rfl := oi b1
 exact ⟨_, _, rfl, Z3, hS, rfl⟩
def Zz7 (K : Nat) (a0 : MpT) (a1 : Int) : Option Int := (if (IntKind.i64.wrap (a1 - (a0.length : Int))) < 0 then some (-1) else some (IntKind.i64.wrap (a1 - (a0.length : Int))))
theorem Xb4 {a0 : MpT} {a1 : Int} {r : Int} (q0 : Zz7 K a0 a1 = some r) (a4 : Z9 yT H s0 a0) (hS : St H w L) :
 Calls Tryz.prog 89 #[s0, vI a1] w (T2 (fun v G => (R.int .i64).p G v r) H L) := by
 have Z3 := Sub.refl H
 refine X3 Tryz.func89 rfl Tryz.ntmps89 rfl ?_
 unfold Zz7 at q0
 refine Z2 (Z0 (Z5 (vI 0) rfl rfl (Z1 (Z2 (Z0 (Z4 (vI a1) rfl rfl (Z4 (s0) rfl rfl ?_)))))))
 have a5 := a4.bound
 refine W7 Wf8 rfl a4 rfl ?_
 refine Yg5 (IntKind.i64.wrap (a1 - (a0.length : Int))) rfl rfl rfl rfl (Z5 (vI (IntKind.i64.wrap (a1 - (a0.length : Int)))) rfl rfl (Z1 (Z2 (Z2 (Z0 (Z4 (vI (IntKind.i64.wrap (a1 - (a0.length : Int)))) rfl rfl ?_))))))
 refine V5 (k := .i64) (a := (IntKind.i64.wrap (a1 - (a0.length : Int)))) (b := 0) rfl rfl rfl (Z1 ?_)
 obtain ⟨a3, q0⟩ | ⟨a3, q0⟩ := ic q0
 refine Y0 (bT a3 rfl) (Z2 (Z0 (Z5 (vI (-1)) rfl rfl (Z1 ?_))))
 refine X0 (vs := [vI (-1)]) Tryz.func89 ⟨rfl, trivial⟩ ?_
 obtain rfl := oi q0
 exact ⟨_, _, rfl, Z3, hS, rfl⟩
 refine Z8 (bF a3 rfl) (Y8 (Z2 (Z0 (Z4 (vI (IntKind.i64.wrap (a1 - (a0.length : Int)))) rfl rfl (Z5 (vI (IntKind.i64.wrap (a1 - (a0.length : Int)))) rfl rfl (Z1 ?_))))))
 refine X0 (vs := [vI (IntKind.i64.wrap (a1 - (a0.length : Int)))]) Tryz.func89 ⟨rfl, trivial⟩ ?_
 obtain rfl := oi q0
 exact ⟨_, _, rfl, Z3, hS, rfl⟩
def Zu7 (K : Nat) (a0 : Int) (a1 : Int) (a2 : Int) : Option Bool := (if a1 ≤ a0 then some (decide (a0 ≤ a2)) else some false)
theorem Zy4 {a0 : Int} {a1 : Int} {a2 : Int} {r : Bool} (q0 : Zu7 K a0 a1 a2 = some r) (hS : St H w L) :
 Calls Tryz.prog 73 #[vI a0, vI a1, vI a2] w (T2 (fun v G => R.bool.p G v r) H L) := by
 have Z3 := Sub.refl H
 refine X3 Tryz.func73 rfl Tryz.ntmps73 rfl ?_
 unfold Zu7 at q0
 refine Z2 (Z0 (Z5 (vB false) rfl rfl (Z1 (Z2 (Z0 (Z4 (vI a0) rfl rfl (Z4 (vI a1) rfl rfl ?_)))))))
 refine Yg8 (k := .i64) (a := a0) (b := a1) rfl rfl rfl (Z4 (vB (decide (a1 ≤ a0))) rfl rfl ?_)
 obtain ⟨a3, q0⟩ | ⟨a3, q0⟩ := ic q0
 refine Y4 rfl rfl (bT a3 rfl) (Z4 (vI a0) rfl rfl ?_)
 refine Y4 rfl rfl (bT a3 rfl) (Z4 (vI a2) rfl rfl ?_)
 refine Y4 rfl rfl (bT a3 rfl) ?_
 refine Xb0 (k := .i64) (a := a0) (b := a2) rfl rfl rfl ?_
 refine V0 (t := true) (vB (decide (a0 ≤ a2))) (bT a3 rfl) ((if_pos rfl).trans rfl) rfl (Z5 (vB (decide (a0 ≤ a2))) rfl rfl (Z1 ?_))
 refine X0 (vs := [vB (decide (a0 ≤ a2))]) Tryz.func73 ⟨rfl, trivial⟩ ?_
 obtain rfl := oi q0
 exact ⟨_, _, rfl, Z3, hS, rfl⟩
 refine Y1 rfl rfl (bF a3 rfl) rfl rfl rfl (Y1 rfl rfl (bF a3 rfl) rfl rfl rfl (Y1 rfl rfl (bF a3 rfl) rfl rfl rfl ?_))
 refine V0 (t := false) (vB false) (bF a3 rfl) ((if_neg Bool.false_ne_true).trans rfl) rfl (Z5 (vB false) rfl rfl (Z1 ?_))
 refine X0 (vs := [vB false]) Tryz.func73 ⟨rfl, trivial⟩ ?_
 obtain rfl := oi q0
 exact ⟨_, _, rfl, Z3, hS, rfl⟩
def Zp5 (K : Nat) (a0 : Int) : Option Bool := some (!decide (a0 = 0))
theorem Xb5 {a0 : Int} {r : Bool} (q0 : Zp5 K a0 = some r) (hS : St H w L) :
 Calls Tryz.prog 236 #[vI a0] w (T2 (fun v G => R.bool.p G v r) H L) := by
 have Z3 := Sub.refl H
 refine X3 Tryz.func236 rfl Tryz.ntmps236 rfl ?_
 unfold Zp5 at q0
 refine Z2 (Z0 (Z5 (vB false) rfl rfl (Z1 (Z2 (Z0 (Z4 (vI a0) rfl rfl ?_))))))
 refine L7 (k := .i64) (a := a0) (b := 0) rfl rfl rfl (Z5 (vB (!decide (a0 = 0))) rfl rfl (Z1 ?_))
 refine X0 (vs := [vB (!decide (a0 = 0))]) Tryz.func236 ⟨rfl, trivial⟩ ?_
 obtain rfl := oi q0
 exact ⟨_, _, rfl, Z3, hS, rfl⟩
end Go.Proofs.YtabofnehiclkiaaGreat
