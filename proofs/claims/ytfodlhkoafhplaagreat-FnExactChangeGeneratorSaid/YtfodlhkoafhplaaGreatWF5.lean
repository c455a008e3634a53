/- Walks of functions: each computes its pure function, if that gives a value. -/
import Derived.Test.YtfodlhkoafhplaaGreatWTy
import Derived.Test.YtfodlhkoafhplaaGreatWF4
namespace Go.Proofs.YtfodlhkoafhplaaGreat
open Go
set_option linter.unusedSimpArgs false
set_option linter.unusedVariables false
set_option maxRecDepth 100000
set_option maxHeartbeats 8000000
def Zi6 (K : Nat) (e8 : Int → MpT → Int → Option (Ex MpT (MpT))) (a3 : Int) (a4 : Int) (c0 : MpT) : Option (Ex MpT (MpT)) := e8 (IntKind.i64.wrap (a3 + 1)) c0 (IntKind.i64.wrap (a4 + 1))
def B4 (K : Nat) (e8 : Int → MpT → Int → Option (Ex MpT (MpT))) (a0 : MpT) (a1 : MpT) (a2 : Int) (a3 : Int) (a4 : Int) (a6 : MpT) (c9 : Bool) : Option (Ex MpT (MpT)) := (if c9 = true then (if 0 ≤ a4 then (if a4 < (a1.length : Int) then ((Za9 K (IntKind.i64.wrap (a2 * (rd a1 a4).2))).bind fun c5 => (if c5 = 0 then e8 a3 a6 (IntKind.i64.wrap (a4 + 1)) else (if a6.length + ([((rd a1 a4).1, c5)]).length ≤ 1099511627776 then e8 a3 (a6 ++ [((rd a1 a4).1, c5)]) (IntKind.i64.wrap (a4 + 1)) else none))) else none) else none) else (if 0 ≤ a3 then (if a3 < (a0.length : Int) then (if 0 ≤ a4 then (if a4 < (a1.length : Int) then ((Za9 K (IntKind.i64.wrap (a2 * (rd a1 a4).2))).bind fun n0 => ((Za9 K (IntKind.i64.wrap ((rd a0 a3).2 + n0))).bind fun c3 => (if c3 = 0 then Zi6 K (e8) a3 a4 a6 else (if a6.length + ([((rd a0 a3).1, c3)]).length ≤ 1099511627776 then Zi6 K (e8) a3 a4 (a6 ++ [((rd a0 a3).1, c3)]) else none)))) else none) else none) else none) else none))
def G6 (K : Nat) (e8 : Int → MpT → Int → Option (Ex MpT (MpT))) (a0 : MpT) (a1 : MpT) (a2 : Int) (a3 : Int) (a4 : Int) (a6 : MpT) (d0 : Bool) : Option (Ex MpT (MpT)) := (if d0 = true then (if 0 ≤ a3 then (if a3 < (a0.length : Int) then (if a6.length + ([((rd a0 a3).1, (rd a0 a3).2)]).length ≤ 1099511627776 then e8 (IntKind.i64.wrap (a3 + 1)) (a6 ++ [((rd a0 a3).1, (rd a0 a3).2)]) a4 else none) else none) else none) else (if a3 = (a0.length : Int) then B4 K (e8) a0 a1 a2 a3 a4 a6 true else (if 0 ≤ a4 then (if a4 < (a1.length : Int) then (if 0 ≤ a3 then (if a3 < (a0.length : Int) then ((Zc9 K ((rd a1 a4).1) ((rd a0 a3).1)).bind fun e9 => B4 K (e8) a0 a1 a2 a3 a4 a6 e9) else none) else none) else none) else none)))
def Ze8 (K : Nat) (e8 : Int → MpT → Int → Option (Ex MpT (MpT))) (a0 : MpT) (a1 : MpT) (a2 : Int) (a3 : Int) (a4 : Int) (a6 : MpT) (d1 : Bool) : Option (Ex MpT (MpT)) := (if d1 = true then (if a4 = (a1.length : Int) then G6 K (e8) a0 a1 a2 a3 a4 a6 true else (if a3 < (a0.length : Int) then (if 0 ≤ a3 then (if 0 ≤ a4 then (if a4 < (a1.length : Int) then ((Zc9 K ((rd a0 a3).1) ((rd a1 a4).1)).bind fun d6 => G6 K (e8) a0 a1 a2 a3 a4 a6 d6) else none) else none) else none) else G6 K (e8) a0 a1 a2 a3 a4 a6 false)) else some (.go a6))
def R8 (K : Nat) (a0 : MpT) (a1 : MpT) (a2 : Int) : Nat → Int → MpT → Int → Option (Ex MpT (MpT))
 | 0, _, _, _ => none
 | k + 1, a3, a6, a4 => (if a3 < (a0.length : Int) then Ze8 K (R8 K a0 a1 a2 k) a0 a1 a2 a3 a4 a6 true else Ze8 K (R8 K a0 a1 a2 k) a0 a1 a2 a3 a4 a6 (decide (a4 < (a1.length : Int))))
def Zb0 (K : Nat) (a0 : MpT) (a1 : MpT) (a2 : Int) : Option MpT := ((R8 K a0 a1 a2 K 0 ([] : List (A8 × Int)) 0).bind (Ex.elim (fun r => some r) (fun s => (fun (c6 : MpT) => some c6) s)))
theorem Zk2 {K : Nat} {a0 : MpT} {a1 : MpT} {a2 : Int} {r : MpT} (q0 : Zb0 K a0 a1 a2 = some r) {H : FH} {w : World} {L : OL} {s0 : Value} {s1 : Value} (b0 : Y3 yT H s0 a0) (b3 : Y3 yT H s1 a1) (hS : St H w L) :
 Calls Tryz.prog 143 #[vA ([s0]), vA ([s1]), vI a2] w (T6 (fun v G => (R.agg (X6 yT)).p (G.new H) v r) H L) := by
 have Z2 := Sub.refl H
 refine X0 Tryz.func143 rfl Tryz.ntmps143 rfl ?_
 unfold Zb0 at q0
 refine Z3 (Z1 ?_)
 refine T7 (v := vA ([s0])) ([s0]).toArray rfl rfl hS rfl ?_
 intro b1 w2 hS
 refine T7 (v := vA ([s1])) ([s1]).toArray rfl rfl hS rfl ?_
 intro b4 w5 hS
 refine W9 (z := vA ([vN])) ([vN]).toArray Zb2.zero rfl hS rfl ?_
 intro b7 w8 hS
 refine Z0 (Z3 (Z1 ?_))
 refine Q2 (vA ([vN])) Yc4 rfl ?_
 refine W9 (z := vA ([vN])) ([vN]).toArray Zb2.zero rfl hS rfl ?_
 intro c4 w11 hS
 refine W1 (v := vA ([vN])) (vs := ([vN]).toArray) (cs := ([vN]).toArray) U7 rfl rfl rfl hS rfl (S2 rfl) rfl ?_
 intro w13 hS
 refine Z0 (Z3 (Z1 (Z6 (vI 0) rfl rfl (Z6 (vI 0) rfl rfl (Z0 (Z3 (Y7 ?_)))))))
 have a45 : U1 yT 76 H (.slice none 0 0) [] [] := U1.nil _ _ _
 obtain ⟨l0, f1, a46⟩ := bind_some q0
 refine W7 (id := 0) (fun k f w => ∃ (a3 : Int) (a6 : MpT) (a4 : Int) (H1 : FH) (a8 : OL) (a7 : Value), R8 K a0 a1 a2 k a3 a6 a4 = some l0 ∧ Sub H H1 ∧ St H1 w (a8 ++ ([(c4, cA ([a7]) 47)] ++ ([(b7, cA ([vN]) 47)] ++ ([(b4, cA ([s1]) 47)] ++ ([(b1, cA ([s0]) 47)] ++ L))))) ∧ U1 yT 76 H1 a7 a6 a8 ∧ Y3 yT H1 s0 a0 ∧ Y3 yT H1 s1 a1 ∧ ev f (.tmp 2) = vI a2 ∧ ev f (.tmp 3) = vP b1 ∧ ev f (.tmp 4) = vP b4 ∧ ev f (.tmp 6) = vP b7 ∧ ev f (.tmp 7) = vP c4 ∧ ev f (.tmp 8) = vI a3 ∧ ev f (.tmp 9) = vI a4) (fun f w => ∃ (c6 : MpT) (H1 : FH) (f2 : OL) (c2 : Value), l0 = .go c6 ∧ Sub H H1 ∧ St H1 w (f2 ++ ([(c4, cA ([c2]) 47)] ++ ([(b7, cA ([vN]) 47)] ++ ([(b4, cA ([s1]) 47)] ++ ([(b1, cA ([s0]) 47)] ++ L))))) ∧ U1 yT 76 H1 c2 c6 f2 ∧ Y3 yT H1 s0 a0 ∧ Y3 yT H1 s1 a1 ∧ ev f (.tmp 6) = vP b7 ∧ ev f (.tmp 7) = vP c4) rfl ?_ ?_ K ?_ ?_
 rintro f w ⟨a3, a6, a4, H1, a8, a7, f1, _⟩
 rw [R8] at f1; cases f1
 rintro k ch3 ch4 y9 hx0 ⟨a3, a6, a4, a47, a8, a7, f1, Z2, hS, a5, b0, b3, p2, l1, l2, p3, p4, l3, l4⟩
 rw [R8] at f1
 refine Z3 (Z3 ?_)
 refine E9 (fun f w => ∃ (d1 : Bool) (H1 : FH), Ze8 K (R8 K a0 a1 a2 k) a0 a1 a2 a3 a4 a6 d1 = some l0 ∧ Sub H H1 ∧ St H1 w (a8 ++ ([(c4, cA ([a7]) 47)] ++ ([(b7, cA ([vN]) 47)] ++ ([(b4, cA ([s1]) 47)] ++ ([(b1, cA ([s0]) 47)] ++ L))))) ∧ Y3 yT H1 s0 a0 ∧ Y3 yT H1 s1 a1 ∧ U1 yT 76 H1 a7 a6 a8 ∧ ev f (.tmp 2) = vI a2 ∧ ev f (.tmp 3) = vP b1 ∧ ev f (.tmp 4) = vP b4 ∧ ev f (.tmp 6) = vP b7 ∧ ev f (.tmp 7) = vP c4 ∧ ev f (.tmp 8) = vI a3 ∧ ev f (.tmp 9) = vI a4 ∧ ev f (.tmp 24) = Value.bool d1) ?_ ?_
 rintro ch5 bi2 ⟨d1, a48, b9, Z2, hS, b0, b3, a5, l5, d9, d2, h5, h6, e0, d3, n1⟩
 unfold Ze8 at b9
 by_cases p6 : d1 = true
 rw [if_pos p6] at b9
 refine Y0 (Eq.trans (by exact n1) (congrArg Value.bool p6)) (Y6 (Y7 (Y7 (Z3 ?_))))
 refine E9 (fun f w => ∃ (d0 : Bool) (H1 : FH), G6 K (R8 K a0 a1 a2 k) a0 a1 a2 a3 a4 a6 d0 = some l0 ∧ Sub H H1 ∧ St H1 w (a8 ++ ([(c4, cA ([a7]) 47)] ++ ([(b7, cA ([vN]) 47)] ++ ([(b4, cA ([s1]) 47)] ++ ([(b1, cA ([s0]) 47)] ++ L))))) ∧ Y3 yT H1 s0 a0 ∧ Y3 yT H1 s1 a1 ∧ U1 yT 76 H1 a7 a6 a8 ∧ ev f (.tmp 2) = vI a2 ∧ ev f (.tmp 3) = vP b1 ∧ ev f (.tmp 4) = vP b4 ∧ ev f (.tmp 6) = vP b7 ∧ ev f (.tmp 7) = vP c4 ∧ ev f (.tmp 8) = vI a3 ∧ ev f (.tmp 9) = vI a4 ∧ ev f (.tmp 61) = Value.bool d0) ?_ ?_
 rintro ch6 bi3 ⟨d0, bi4, b8, Z2, hS, b0, b3, a5, l6, d4, h7, l7, h8, d5, h9, n2⟩
 unfold G6 at b8
 by_cases p7 : d0 = true
 rw [if_pos p7] at b8
 refine Y0 (Eq.trans (by exact n2) (congrArg Value.bool p7)) (Z3 ?_)
 obtain ⟨ch7, b8⟩ := gd b8
 obtain ⟨ch8, b8⟩ := gd b8
 obtain ⟨b93, o93, ch9, E93, _, b72, w3, ⟨_, _, rfl, rfl, rfl⟩, b73⟩ := b0.elem (i := a3) (by omega) (by omega)
 have X5 := Z2
 refine V4 8 (R9 [(89, MP.eq (vP c4)), (90, MP.eq (a7)), (91, MP.eq (vP b1)), (92, MP.eq (s0)), (93, MP.eq (vI a3)), (94, MP.eq (Value.pointer (some ⟨b93, o93, none⟩))), (95, MP.eq (vA (Z7 .u8 ((rd a0 a3).1) ++ [vI ((rd a0 a3).2)]))), (96, MP.sl yT ([((rd a0 a3).1, (rd a0 a3).2)]))]) [] mixed rfl rfl rfl hS (Z5 rfl ?_ (Z5 rfl ?_ (Z5 rfl ?_ (Z5 rfl ?_ (Z5 rfl ?_ (Z5 rfl ?_ (Z5 rfl ?_ (Z5 rfl ?_ V9)))))))) ?_
 intro f16 w17 H18 X19 b74 hS b75 ci0 hcq
 have Z2 := Sub.refl H18
 have W0 := X5.trans b74
 refine Y2 V6 (evT (b75 7 rfl) h8) rfl ?_
 exact Z0 ⟨89, _, _, rfl, rfl, Z2, hS, rfl⟩
 intro f25 w26 H27 X28 b76 hS ci1 b77 hcq
 have Z2 := Sub.refl H27
 have W0 := X5.trans b76
 refine Y4 (a7) R7 (eM (b77 0 89 rfl rfl)) (hS.get (mR (mR mL))) rfl rfl ?_
 exact Z0 ⟨90, _, _, rfl, rfl, Z2, hS, rfl⟩
 intro f34 w35 H36 X37 b78 hS b79 ci2 hcq
 have Z2 := Sub.refl H36
 have W0 := X5.trans b78
 refine Y2 V6 (evT (b79 3 rfl) d4) rfl ?_
 exact Z0 ⟨91, _, _, rfl, rfl, Z2, hS, rfl⟩
 intro f43 w44 H45 X46 b80 hS ci3 b81 hcq
 have Z2 := Sub.refl H45
 have W0 := X5.trans b80
 refine Y4 (s0) R7 (eM (b81 2 91 rfl rfl)) (hS.get (mR (mR (mR (mR (mR mL)))))) rfl rfl ?_
 exact Z0 ⟨92, _, _, rfl, rfl, Z2, hS, rfl⟩
 intro f52 w53 H54 X55 b82 hS b83 ci4 hcq
 have Z2 := Sub.refl H54
 have W0 := X5.trans b82
 refine Z4 (vI a3) (evT (b83 8 rfl) d5) rfl ?_
 exact Z0 ⟨93, _, _, rfl, rfl, Z2, hS, rfl⟩
 intro f83 w84 H85 X86 b84 hS ci5 a49 hcq
 have Z2 := Sub.refl H85
 have W0 := X5.trans b84
 refine W3 S9 rfl (eM (a49 3 92 rfl rfl)) b72 (eM (a49 4 93 rfl rfl)) (by omega) (by omega) rfl ?_
 exact Z0 ⟨94, _, _, rfl, rfl, Z2, hS, rfl⟩
 intro f94 w95 H96 X97 a50 hS ci6 aj9 hcq
 have Z2 := Sub.refl H96
 have W0 := X5.trans a50
 have w3 := a50.1 _ _ w3
 refine V5 (Z7 .u8 ((rd a0 a3).1) ++ [vI ((rd a0 a3).2)]) Zs8 (eM (aj9 5 94 rfl rfl)) (hS.froz _ _ w3) rfl b73 rfl ?_
 exact Z0 ⟨95, _, _, rfl, rfl, Z2, hS, rfl⟩
 intro ci7 ci8 b85 ci9 ak0 hS bq3 ak1 hcq
 have Z2 := Sub.refl b85
 have W0 := X5.trans ak0
 refine Zn7 (τ := yT) S9 Zy1 rfl [vA (Z7 .u8 ((rd a0 a3).1) ++ [vI ((rd a0 a3).2)])] [((rd a0 a3).1, (rd a0 a3).2)] rfl rfl (Ze0 (eM (ak1 6 95 rfl rfl))) (Zu5 ⟨_, _, rfl, rfl, rfl⟩) (by decide) (by decide) hS rfl ?_
 intro cj0 cj1 cj2 ak2 hS ak3
 have Z2 := Z2.trans ak2
 exact Z0 ⟨96, _, _, rfl, rfl, Z2, hS, ak3⟩
 intro cj3 b86 a51 m1 hS f4 z0 hcq
 have hS : St a51 b86 (a8 ++ ([(c4, cA ([a7]) 47)] ++ ([(b7, cA ([vN]) 47)] ++ ([(b4, cA ([s1]) 47)] ++ ([(b1, cA ([s0]) 47)] ++ L))))) := hS
 have Z2 := Z2.trans m1
 have b3 := b3.mono m1
 have b0 := b0.mono m1
 have a5 := a5.mono m1
 have a52 := evT (f4 7 rfl) h8
 obtain ⟨cj4, b87, ak4⟩ := gvS (z0 7 96 (by decide) rfl)
 obtain ⟨ak5, b8⟩ := gd b8
 refine Zd1 (τ := yT) Yt8 rfl (by exact (eM (z0 1 90 (by decide) rfl))) (by exact b87) a5 hS ak4 ak5 rfl ?_
 intro w4 cj5 b88 z1 hS
 refine Y2 V6 (by exact a52) rfl ?_
 have hS := hS.perm U4
 refine Ze1 (v := w4) (cs := ([a7]).toArray) (cs' := ([w4]).toArray) R7 rfl rfl hS z1.isOne rfl (Nat.le_of_ble_eq_true rfl) rfl ?_
 intro cj6 hS
 have hS := hS.perm U4.symm
 refine Z0 (Z1 (Z4 (vI a3) (by exact (evT (f4 8 rfl) d5)) rfl ?_))
 refine V0 (IntKind.i64.wrap (a3 + 1)) rfl rfl rfl rfl (Z6 (vI (IntKind.i64.wrap (a3 + 1))) rfl rfl (Z0 (X2 (X2 ?_))))
 exact y9 _ _ ⟨(IntKind.i64.wrap (a3 + 1)), (a6 ++ [((rd a0 a3).1, (rd a0 a3).2)]), a4, a51, b88, w4, b8, Z2, hS, z1, b0, b3, (evT (f4 2 rfl) l6), (evT (f4 3 rfl) d4), (evT (f4 4 rfl) h7), (evT (f4 6 rfl) l7), a52, rfl, (evT (f4 9 rfl) h9)⟩
 rw [if_neg p7] at b8
 refine Z9 (Eq.trans (by exact n2) (congrArg Value.bool (W2 p7))) (Z3 ?_)
 refine E9 (fun f w => ∃ (c9 : Bool) (H1 : FH), B4 K (R8 K a0 a1 a2 k) a0 a1 a2 a3 a4 a6 c9 = some l0 ∧ Sub H H1 ∧ St H1 w (a8 ++ ([(c4, cA ([a7]) 47)] ++ ([(b7, cA ([vN]) 47)] ++ ([(b4, cA ([s1]) 47)] ++ ([(b1, cA ([s0]) 47)] ++ L))))) ∧ Y3 yT H1 s0 a0 ∧ Y3 yT H1 s1 a1 ∧ U1 yT 76 H1 a7 a6 a8 ∧ ev f (.tmp 2) = vI a2 ∧ ev f (.tmp 3) = vP b1 ∧ ev f (.tmp 4) = vP b4 ∧ ev f (.tmp 6) = vP b7 ∧ ev f (.tmp 7) = vP c4 ∧ ev f (.tmp 8) = vI a3 ∧ ev f (.tmp 9) = vI a4 ∧ ev f (.tmp 101) = Value.bool c9) ?_ ?_
 rintro cj7 bj4 ⟨c9, bj5, a9, Z2, hS, b0, b3, a5, f3, i0, e1, l9, i1, i2, e2, m0⟩
 unfold B4 at a9
 by_cases m2 : c9 = true
 rw [if_pos m2] at a9
 refine Y0 (Eq.trans (by exact m0) (congrArg Value.bool m2)) (Z3 (Z3 (Z1 (Z4 (vI a2) (by exact f3) rfl (Y2 V6 (by exact e1) rfl ?_)))))
 refine Y4 (s1) R7 rfl (hS.get (mR (mR (mR mL)))) rfl rfl (Z4 (vI a4) (by exact e2) rfl ?_)
 obtain ⟨bq4, a9⟩ := gd a9
 obtain ⟨bq5, a9⟩ := gd a9
 obtain ⟨cj8, cj9, bq6, ck0, _, ak6, ak7, ⟨_, _, rfl, rfl, rfl⟩, ak8⟩ := b3.elem (i := a4) (by omega) (by omega)
 refine W3 S9 rfl rfl ak6 rfl (by omega) (by omega) rfl (Y2 Zc0 rfl rfl ?_)
 refine Y4 (vI ((rd a1 a4).2)) ty2 rfl (hS.froz _ _ ak7) (ak8 8 (show 8 < 9 by decide)) rfl ?_
 refine Zt0 (IntKind.i64.wrap (a2 * (rd a1 a4).2)) rfl rfl rfl rfl ?_
 obtain ⟨c5, ak9, a9⟩ := bind_some a9
 refine Y8 Tryz.call217 (Q8 rfl) rfl (Zc8 ak9  hS) ?_
 rintro ck1 ck2 ⟨_, b89, rfl, m3, hS, rfl⟩
 refine ⟨_, rfl, ?_⟩
 have Z2 := Z2.trans m3
 have b3 := b3.mono m3
 have b0 := b0.mono m3
 have a5 := a5.mono m3
 refine Z6 (vI c5) rfl rfl (Z0 (Z3 (Z1 (Z4 (vI c5) rfl rfl ?_))))
 refine L9 (k := .i64) (a := c5) (b := 0) rfl rfl rfl (Z0 ?_)
 by_cases m4 : c5 = 0
 rw [if_pos m4] at a9
 refine Z9 (bN m4 rfl) (Y6 (Z1 (Z4 (vI a4) (by exact e2) rfl ?_)))
 refine V0 (IntKind.i64.wrap (a4 + 1)) rfl rfl rfl rfl (Z6 (vI (IntKind.i64.wrap (a4 + 1))) rfl rfl (Z0 (X2 (X2 ?_))))
 exact y9 _ _ ⟨a3, a6, (IntKind.i64.wrap (a4 + 1)), b89, a8, a7, a9, Z2, hS, a5, b0, b3, f3, i0, e1, l9, i1, i2, rfl⟩
 rw [if_neg m4] at a9
 refine Y0 (bO m4 rfl) ?_
 obtain ⟨a53, a54, bq7, ck3, _, al0, p8, ⟨_, _, rfl, rfl, rfl⟩, al1⟩ := b3.elem (i := a4) (by omega) (by omega)
 have X5 := Z2
 refine V4 11 (R9 [(133, MP.eq (vP c4)), (134, MP.eq (a7)), (135, MP.eq (vP b4)), (136, MP.eq (s1)), (137, MP.eq (vI a4)), (138, MP.eq (Value.pointer (some ⟨a53, a54, none⟩))), (139, MP.eq (Value.pointer (some ⟨a53, a54 + 0, none⟩))), (140, MP.eq (vA (Z7 .u8 ((rd a1 a4).1)))), (141, MP.eq (vI c5)), (142, MP.eq (vA (Z7 .u8 ((rd a1 a4).1) ++ [vI c5]))), (143, MP.sl yT ([((rd a1 a4).1, c5)]))]) [] mixed rfl rfl rfl hS (Z5 rfl ?_ (Z5 rfl ?_ (Z5 rfl ?_ (Z5 rfl ?_ (Z5 rfl ?_ (Z5 rfl ?_ (Z5 rfl ?_ (Z5 rfl ?_ (Z5 rfl ?_ (Z5 rfl ?_ (Z5 rfl ?_ V9))))))))))) ?_
 intro ck4 ck5 b90 ck6 al2 hS al3 bq8 hcq
 have Z2 := Sub.refl b90
 have W0 := X5.trans al2
 refine Y2 V6 (evT (al3 7 rfl) i1) rfl ?_
 exact Z0 ⟨133, _, _, rfl, rfl, Z2, hS, rfl⟩
 intro ck7 ck8 b91 ck9 al4 hS bq9 al5 hcq
 have Z2 := Sub.refl b91
 have W0 := X5.trans al4
 refine Y4 (a7) R7 (eM (al5 0 133 rfl rfl)) (hS.get (mR (mR mL))) rfl rfl ?_
 exact Z0 ⟨134, _, _, rfl, rfl, Z2, hS, rfl⟩
 intro cl0 cl1 b92 cl2 al6 hS al7 br0 hcq
 have Z2 := Sub.refl b92
 have W0 := X5.trans al6
 refine Y2 V6 (evT (al7 4 rfl) e1) rfl ?_
 exact Z0 ⟨135, _, _, rfl, rfl, Z2, hS, rfl⟩
 intro cl3 cl4 b94 cl5 al8 hS br1 al9 hcq
 have Z2 := Sub.refl b94
 have W0 := X5.trans al8
 refine Y4 (s1) R7 (eM (al9 2 135 rfl rfl)) (hS.get (mR (mR (mR (mR mL))))) rfl rfl ?_
 exact Z0 ⟨136, _, _, rfl, rfl, Z2, hS, rfl⟩
 intro cl6 cl7 b95 cl8 am0 hS am1 br2 hcq
 have Z2 := Sub.refl b95
 have W0 := X5.trans am0
 refine Z4 (vI a4) (evT (am1 9 rfl) e2) rfl ?_
 exact Z0 ⟨137, _, _, rfl, rfl, Z2, hS, rfl⟩
 intro cl9 cm0 b96 cm1 am2 hS br3 z2 hcq
 have Z2 := Sub.refl b96
 have W0 := X5.trans am2
 refine W3 S9 rfl (eM (z2 3 136 rfl rfl)) al0 (eM (z2 4 137 rfl rfl)) (by omega) (by omega) rfl ?_
 exact Z0 ⟨138, _, _, rfl, rfl, Z2, hS, rfl⟩
 intro cm2 cm3 b97 cm4 am3 hS br4 am4 hcq
 have Z2 := Sub.refl b97
 have W0 := X5.trans am3
 refine Y2 P0 (eM (am4 5 138 rfl rfl)) rfl ?_
 exact Z0 ⟨139, _, _, rfl, rfl, Z2, hS, rfl⟩
 intro cm5 cm6 b98 cm7 z3 hS br5 am5 hcq
 have Z2 := Sub.refl b98
 have W0 := X5.trans z3
 have p8 := z3.1 _ _ p8
 refine V5 (Z7 .u8 ((rd a1 a4).1)) N0 (eM (am5 6 139 rfl rfl)) (hS.froz _ _ p8) rfl (Zf0 ([]) (Z7 .u8 ((rd a1 a4).1)) (([vI ((rd a1 a4).2)])) al1 (Nat.le_of_ble_eq_true rfl)) rfl ?_
 exact Z0 ⟨140, _, _, rfl, rfl, Z2, hS, rfl⟩
 intro b99 cm8 ba0 cm9 am6 hS am7 br6 hcq
 have Z2 := Sub.refl ba0
 have W0 := X5.trans am6
 have ba1 : ev b99 (.tmp 10) = vI c5 := Eq.trans (am7 10 rfl) rfl
 refine Z4 (vI c5) ba1 rfl ?_
 exact Z0 ⟨141, _, _, rfl, rfl, Z2, hS, rfl⟩
 intro cn0 cn1 ba2 cn2 am8 hS br7 z4 hcq
 have Z2 := Sub.refl ba2
 have W0 := X5.trans am8
 refine Zo9 (Z7 .u8 ((rd a1 a4).1) ++ [vI c5]) Yz4 (Yd5 (eM (z4 7 140 rfl rfl)) (eM (z4 8 141 rfl rfl))) (K5 rfl rfl rfl (Nat.le_of_ble_eq_true rfl) (K5 rfl rfl rfl (Nat.le_of_ble_eq_true rfl) (Zk3 rfl))) rfl ?_
 exact Z0 ⟨142, _, _, rfl, rfl, Z2, hS, rfl⟩
 intro cn3 cn4 ba3 cn5 am9 hS br8 an0 hcq
 have Z2 := Sub.refl ba3
 have W0 := X5.trans am9
 refine Zn7 (τ := yT) S9 Zy1 rfl [vA (Z7 .u8 ((rd a1 a4).1) ++ [vI c5])] [((rd a1 a4).1, c5)] rfl rfl (Ze0 (eM (an0 9 142 rfl rfl))) (Zu5 ⟨_, _, rfl, rfl, rfl⟩) (by decide) (by decide) hS rfl ?_
 intro cn6 cn7 cn8 an1 hS an2
 have Z2 := Z2.trans an1
 exact Z0 ⟨143, _, _, rfl, rfl, Z2, hS, an2⟩
 intro cn9 ba4 a55 m5 hS f5 z5 hcq
 have hS : St a55 ba4 (a8 ++ ([(c4, cA ([a7]) 47)] ++ ([(b7, cA ([vN]) 47)] ++ ([(b4, cA ([s1]) 47)] ++ ([(b1, cA ([s0]) 47)] ++ L))))) := hS
 have Z2 := Z2.trans m5
 have b3 := b3.mono m5
 have b0 := b0.mono m5
 have a5 := a5.mono m5
 have a56 := evT (f5 7 rfl) i1
 obtain ⟨co0, ba5, an3⟩ := gvS (z5 10 143 (by decide) rfl)
 obtain ⟨an4, a9⟩ := gd a9
 refine Zd1 (τ := yT) Yt8 rfl (by exact (eM (z5 1 134 (by decide) rfl))) (by exact ba5) a5 hS an3 an4 rfl ?_
 intro w6 co1 ba6 z6 hS
 refine Y2 V6 (by exact a56) rfl ?_
 have hS := hS.perm U4
 refine Ze1 (v := w6) (cs := ([a7]).toArray) (cs' := ([w6]).toArray) R7 rfl rfl hS z6.isOne rfl (Nat.le_of_ble_eq_true rfl) rfl ?_
 intro co2 hS
 have hS := hS.perm U4.symm
 refine Z0 (Z1 (Z4 (vI a4) (by exact (evT (f5 9 rfl) e2)) rfl ?_))
 refine V0 (IntKind.i64.wrap (a4 + 1)) rfl rfl rfl rfl (Z6 (vI (IntKind.i64.wrap (a4 + 1))) rfl rfl (Z0 (X2 (X2 ?_))))
 exact y9 _ _ ⟨a3, (a6 ++ [((rd a1 a4).1, c5)]), (IntKind.i64.wrap (a4 + 1)), a55, ba6, w6, a9, Z2, hS, z6, b0, b3, (evT (f5 2 rfl) f3), (evT (f5 3 rfl) i0), (evT (f5 4 rfl) e1), (evT (f5 6 rfl) l9), a56, (evT (f5 8 rfl) i2), rfl⟩
 rw [if_neg m2] at a9
 refine Z9 (Eq.trans (by exact m0) (congrArg Value.bool (W2 m2))) (Z3 (Z3 ?_))
 obtain ⟨br9, a9⟩ := gd a9
 obtain ⟨bs0, a9⟩ := gd a9
 obtain ⟨a57, a58, bs1, co3, _, an5, p9, ⟨_, _, rfl, rfl, rfl⟩, an6⟩ := b0.elem (i := a3) (by omega) (by omega)
 obtain ⟨bs2, a9⟩ := gd a9
 obtain ⟨bs3, a9⟩ := gd a9
 obtain ⟨a59, a60, bs4, co4, _, an7, q1, ⟨_, _, rfl, rfl, rfl⟩, an8⟩ := b3.elem (i := a4) (by omega) (by omega)
 obtain ⟨n0, an9, a9⟩ := bind_some a9
 obtain ⟨c3, ao0, a9⟩ := bind_some a9
 have X5 := Z2
 refine V4 18 (R9 [(25, MP.eq (vP b1)), (26, MP.eq (s0)), (27, MP.eq (vI a3)), (28, MP.eq (Value.pointer (some ⟨a57, a58, none⟩))), (29, MP.eq (Value.pointer (some ⟨a57, a58 + 8, none⟩))), (30, MP.eq (vI ((rd a0 a3).2))), (31, MP.eq (vI a2)), (32, MP.eq (vP b4)), (33, MP.eq (s1)), (34, MP.eq (vI a4)), (35, MP.eq (Value.pointer (some ⟨a59, a60, none⟩))), (36, MP.eq (Value.pointer (some ⟨a59, a60 + 8, none⟩))), (37, MP.eq (vI ((rd a1 a4).2))), (38, MP.eq (vI (IntKind.i64.wrap (a2 * (rd a1 a4).2)))), (39, MP.eq (vI n0)), (40, MP.eq (vI (IntKind.i64.wrap ((rd a0 a3).2 + n0)))), (41, MP.eq (vI c3)), (11, MP.eq (vI c3))]) [] mixed rfl rfl rfl hS (Z5 rfl ?_ (Z5 rfl ?_ (Z5 rfl ?_ (Z5 rfl ?_ (Z5 rfl ?_ (Z5 rfl ?_ (Z5 rfl ?_ (Z5 rfl ?_ (Z5 rfl ?_ (Z5 rfl ?_ (Z5 rfl ?_ (Z5 rfl ?_ (Z5 rfl ?_ (Z5 rfl ?_ (Z5 rfl ?_ (Z5 rfl ?_ (Z5 rfl ?_ (Z5 rfl ?_ V9)))))))))))))))))) ?_
 intro co5 co6 ba7 co7 ao1 hS ao2 bs5 hcq
 have Z2 := Sub.refl ba7
 have W0 := X5.trans ao1
 refine Y2 V6 (evT (ao2 3 rfl) i0) rfl ?_
 exact Z0 ⟨25, _, _, rfl, rfl, Z2, hS, rfl⟩
 intro co8 co9 ba8 cp0 ao3 hS bs6 ao4 hcq
 have Z2 := Sub.refl ba8
 have W0 := X5.trans ao3
 refine Y4 (s0) R7 (eM (ao4 0 25 rfl rfl)) (hS.get (mR (mR (mR (mR (mR mL)))))) rfl rfl ?_
 exact Z0 ⟨26, _, _, rfl, rfl, Z2, hS, rfl⟩
 intro cp1 cp2 ba9 cp3 ao5 hS ao6 bs7 hcq
 have Z2 := Sub.refl ba9
 have W0 := X5.trans ao5
 refine Z4 (vI a3) (evT (ao6 8 rfl) i2) rfl ?_
 exact Z0 ⟨27, _, _, rfl, rfl, Z2, hS, rfl⟩
 intro cp4 cp5 bb0 cp6 ao7 hS bs8 z7 hcq
 have Z2 := Sub.refl bb0
 have W0 := X5.trans ao7
 refine W3 S9 rfl (eM (z7 1 26 rfl rfl)) an5 (eM (z7 2 27 rfl rfl)) (by omega) (by omega) rfl ?_
 exact Z0 ⟨28, _, _, rfl, rfl, Z2, hS, rfl⟩
 intro cp7 cp8 bb1 cp9 ao8 hS bs9 ao9 hcq
 have Z2 := Sub.refl bb1
 have W0 := X5.trans ao8
 refine Y2 Zc0 (eM (ao9 3 28 rfl rfl)) rfl ?_
 exact Z0 ⟨29, _, _, rfl, rfl, Z2, hS, rfl⟩
 intro cq0 cq1 bb2 cq2 z8 hS bt0 ap0 hcq
 have Z2 := Sub.refl bb2
 have W0 := X5.trans z8
 have p9 := z8.1 _ _ p9
 refine Y4 (vI ((rd a0 a3).2)) ty2 (eM (ap0 4 29 rfl rfl)) (hS.froz _ _ p9) (an6 8 (show 8 < 9 by decide)) rfl ?_
 exact Z0 ⟨30, _, _, rfl, rfl, Z2, hS, rfl⟩
 intro cq3 cq4 bb3 cq5 ap1 hS ap2 bt1 hcq
 have Z2 := Sub.refl bb3
 have W0 := X5.trans ap1
 refine Z4 (vI a2) (evT (ap2 2 rfl) f3) rfl ?_
 exact Z0 ⟨31, _, _, rfl, rfl, Z2, hS, rfl⟩
 intro cq6 cq7 bb4 cq8 ap3 hS ap4 bt2 hcq
 have Z2 := Sub.refl bb4
 have W0 := X5.trans ap3
 refine Y2 V6 (evT (ap4 4 rfl) e1) rfl ?_
 exact Z0 ⟨32, _, _, rfl, rfl, Z2, hS, rfl⟩
 intro cq9 cr0 bb5 cr1 ap5 hS bt3 ap6 hcq
 have Z2 := Sub.refl bb5
 have W0 := X5.trans ap5
 refine Y4 (s1) R7 (eM (ap6 7 32 rfl rfl)) (hS.get (mR (mR (mR (mR mL))))) rfl rfl ?_
 exact Z0 ⟨33, _, _, rfl, rfl, Z2, hS, rfl⟩
 intro cr2 cr3 bb6 cr4 ap7 hS ap8 bt4 hcq
 have Z2 := Sub.refl bb6
 have W0 := X5.trans ap7
 refine Z4 (vI a4) (evT (ap8 9 rfl) e2) rfl ?_
 exact Z0 ⟨34, _, _, rfl, rfl, Z2, hS, rfl⟩
 intro cr5 cr6 bb7 cr7 ap9 hS bt5 z9 hcq
 have Z2 := Sub.refl bb7
 have W0 := X5.trans ap9
 refine W3 S9 rfl (eM (z9 8 33 rfl rfl)) an7 (eM (z9 9 34 rfl rfl)) (by omega) (by omega) rfl ?_
 exact Z0 ⟨35, _, _, rfl, rfl, Z2, hS, rfl⟩
 intro cr8 cr9 bb8 cs0 aq0 hS bt6 aq1 hcq
 have Z2 := Sub.refl bb8
 have W0 := X5.trans aq0
 refine Y2 Zc0 (eM (aq1 10 35 rfl rfl)) rfl ?_
 exact Z0 ⟨36, _, _, rfl, rfl, Z2, hS, rfl⟩
 intro cs1 cs2 bb9 cs3 a00 hS bt7 aq2 hcq
 have Z2 := Sub.refl bb9
 have W0 := X5.trans a00
 have q1 := a00.1 _ _ q1
 refine Y4 (vI ((rd a1 a4).2)) ty2 (eM (aq2 11 36 rfl rfl)) (hS.froz _ _ q1) (an8 8 (show 8 < 9 by decide)) rfl ?_
 exact Z0 ⟨37, _, _, rfl, rfl, Z2, hS, rfl⟩
 intro cs4 cs5 bc0 cs6 aq3 hS bt8 a01 hcq
 have Z2 := Sub.refl bc0
 have W0 := X5.trans aq3
 refine Zt0 (IntKind.i64.wrap (a2 * (rd a1 a4).2)) (eM (a01 6 31 rfl rfl)) (eM (a01 12 37 rfl rfl)) rfl rfl ?_
 exact Z0 ⟨38, _, _, rfl, rfl, Z2, hS, rfl⟩
 intro cs7 cs8 bc1 cs9 aq4 hS bt9 aq5 hcq
 have Z2 := Sub.refl bc1
 have W0 := X5.trans aq4
 refine Y8 Tryz.call217 (Q8 (eM (aq5 13 38 rfl rfl))) rfl (Zc8 an9  hS) ?_
 rintro ct0 ct1 ⟨_, ct2, rfl, aq6, hS, rfl⟩
 refine ⟨_, rfl, ?_⟩
 have Z2 := Z2.trans aq6
 exact Z0 ⟨39, _, _, rfl, rfl, Z2, hS, rfl⟩
 intro ct3 ct4 bc2 ct5 aq7 hS bu0 a02 hcq
 have Z2 := Sub.refl bc2
 have W0 := X5.trans aq7
 refine V0 (IntKind.i64.wrap ((rd a0 a3).2 + n0)) (eM (a02 5 30 rfl rfl)) (eM (a02 14 39 rfl rfl)) rfl rfl ?_
 exact Z0 ⟨40, _, _, rfl, rfl, Z2, hS, rfl⟩
 intro ct6 ct7 bc3 ct8 aq8 hS bu1 aq9 hcq
 have Z2 := Sub.refl bc3
 have W0 := X5.trans aq8
 refine Y8 Tryz.call217 (Q8 (eM (aq9 15 40 rfl rfl))) rfl (Zc8 ao0  hS) ?_
 rintro ct9 cu0 ⟨_, cu1, rfl, ar0, hS, rfl⟩
 refine ⟨_, rfl, ?_⟩
 have Z2 := Z2.trans ar0
 exact Z0 ⟨41, _, _, rfl, rfl, Z2, hS, rfl⟩
 intro cu2 cu3 bc4 cu4 ar1 hS bu2 ar2 hcq
 have Z2 := Sub.refl bc4
 have W0 := X5.trans ar1
 refine Z6 (vI c3) (eM (ar2 16 41 rfl rfl)) rfl ?_
 exact Z0 ⟨11, _, _, rfl, rfl, Z2, hS, rfl⟩
 intro bc5 bc6 a61 m6 hS f6 ar3 hcq
 have hS : St a61 bc6 (a8 ++ ([(c4, cA ([a7]) 47)] ++ ([(b7, cA ([vN]) 47)] ++ ([(b4, cA ([s1]) 47)] ++ ([(b1, cA ([s0]) 47)] ++ L))))) := hS
 have Z2 := Z2.trans m6
 have b3 := b3.mono m6
 have b0 := b0.mono m6
 have a5 := a5.mono m6
 have a62 := evT (f6 2 rfl) f3
 have w7 := evT (f6 3 rfl) i0
 have a63 := evT (f6 4 rfl) e1
 have a64 := evT (f6 6 rfl) l9
 have w9 := evT (f6 7 rfl) i1
 have x0 := evT (f6 8 rfl) i2
 have a65 := evT (f6 9 rfl) e2
 have a66 : ev bc5 (.tmp 11) = vI c3 := ar3 17 11 (by decide) rfl
 refine Z0 (Z3 (Z1 (Z4 (vI c3) (by exact a66) rfl ?_)))
 refine L9 (k := .i64) (a := c3) (b := 0) rfl rfl rfl (Z0 ?_)
 refine E9 (fun f w => ∃ (c0 : MpT) (H1 : FH) (c7 : OL) (c8 : Value), Zi6 K (R8 K a0 a1 a2 k) a3 a4 c0 = some l0 ∧ Sub H H1 ∧ St H1 w (c7 ++ ([(c4, cA ([c8]) 47)] ++ ([(b7, cA ([vN]) 47)] ++ ([(b4, cA ([s1]) 47)] ++ ([(b1, cA ([s0]) 47)] ++ L))))) ∧ U1 yT 76 H1 c8 c0 c7 ∧ Y3 yT H1 s0 a0 ∧ Y3 yT H1 s1 a1 ∧ ev f (.tmp 2) = vI a2 ∧ ev f (.tmp 3) = vP b1 ∧ ev f (.tmp 4) = vP b4 ∧ ev f (.tmp 6) = vP b7 ∧ ev f (.tmp 7) = vP c4 ∧ ev f (.tmp 8) = vI a3 ∧ ev f (.tmp 9) = vI a4) ?_ ?_
 rintro cu5 bj6 ⟨c0, a67, c7, c8, n3, Z2, hS, i3, b0, b3, a37, a38, a39, a40, a41, a42, a43⟩
 unfold Zi6 at n3
 refine Z3 (Z1 (Z4 (vI a3) (by exact a42) rfl ?_))
 refine V0 (IntKind.i64.wrap (a3 + 1)) rfl rfl rfl rfl (Z6 (vI (IntKind.i64.wrap (a3 + 1))) rfl rfl (Z0 (Z1 (Z4 (vI a4) (by exact a43) rfl ?_))))
 refine V0 (IntKind.i64.wrap (a4 + 1)) rfl rfl rfl rfl (Z6 (vI (IntKind.i64.wrap (a4 + 1))) rfl rfl (Z0 (X2 (X2 ?_))))
 exact y9 _ _ ⟨(IntKind.i64.wrap (a3 + 1)), c0, (IntKind.i64.wrap (a4 + 1)), a67, c7, c8, n3, Z2, hS, i3, b0, b3, a37, a38, a39, a40, a41, rfl, rfl⟩
 intro a68
 by_cases m7 : c3 = 0
 rw [if_pos m7] at a9
 refine Z9 (bN m7 rfl) (Y6 ?_)
 exact a68 _ _ ⟨a6, a61, a8, a7, a9, Z2, hS, a5, b0, b3, a62, w7, a63, a64, w9, x0, a65⟩
 rw [if_neg m7] at a9
 refine Y0 (bO m7 rfl) ?_
 obtain ⟨a69, a70, bu3, cu6, _, ar4, q2, ⟨_, _, rfl, rfl, rfl⟩, ar5⟩ := b0.elem (i := a3) (by omega) (by omega)
 have X5 := Z2
 refine V4 11 (R9 [(44, MP.eq (vP c4)), (45, MP.eq (a7)), (46, MP.eq (vP b1)), (47, MP.eq (s0)), (48, MP.eq (vI a3)), (49, MP.eq (Value.pointer (some ⟨a69, a70, none⟩))), (50, MP.eq (Value.pointer (some ⟨a69, a70 + 0, none⟩))), (51, MP.eq (vA (Z7 .u8 ((rd a0 a3).1)))), (52, MP.eq (vI c3)), (53, MP.eq (vA (Z7 .u8 ((rd a0 a3).1) ++ [vI c3]))), (54, MP.sl yT ([((rd a0 a3).1, c3)]))]) [] mixed rfl rfl rfl hS (Z5 rfl ?_ (Z5 rfl ?_ (Z5 rfl ?_ (Z5 rfl ?_ (Z5 rfl ?_ (Z5 rfl ?_ (Z5 rfl ?_ (Z5 rfl ?_ (Z5 rfl ?_ (Z5 rfl ?_ (Z5 rfl ?_ V9))))))))))) ?_
 intro cu7 cu8 bc7 cu9 ar6 hS ar7 bu4 hcq
 have Z2 := Sub.refl bc7
 have W0 := X5.trans ar6
 refine Y2 V6 (evT (ar7 7 rfl) w9) rfl ?_
 exact Z0 ⟨44, _, _, rfl, rfl, Z2, hS, rfl⟩
 intro cv0 cv1 bc8 cv2 ar8 hS bu5 ar9 hcq
 have Z2 := Sub.refl bc8
 have W0 := X5.trans ar8
 refine Y4 (a7) R7 (eM (ar9 0 44 rfl rfl)) (hS.get (mR (mR mL))) rfl rfl ?_
 exact Z0 ⟨45, _, _, rfl, rfl, Z2, hS, rfl⟩
 intro cv3 cv4 bc9 cv5 as0 hS as1 bu6 hcq
 have Z2 := Sub.refl bc9
 have W0 := X5.trans as0
 refine Y2 V6 (evT (as1 3 rfl) w7) rfl ?_
 exact Z0 ⟨46, _, _, rfl, rfl, Z2, hS, rfl⟩
 intro cv6 cv7 bd0 cv8 as2 hS bu7 as3 hcq
 have Z2 := Sub.refl bd0
 have W0 := X5.trans as2
 refine Y4 (s0) R7 (eM (as3 2 46 rfl rfl)) (hS.get (mR (mR (mR (mR (mR mL)))))) rfl rfl ?_
 exact Z0 ⟨47, _, _, rfl, rfl, Z2, hS, rfl⟩
 intro cv9 cw0 bd1 cw1 as4 hS as5 bu8 hcq
 have Z2 := Sub.refl bd1
 have W0 := X5.trans as4
 refine Z4 (vI a3) (evT (as5 8 rfl) x0) rfl ?_
 exact Z0 ⟨48, _, _, rfl, rfl, Z2, hS, rfl⟩
 intro cw2 cw3 bd2 cw4 as6 hS bu9 a03 hcq
 have Z2 := Sub.refl bd2
 have W0 := X5.trans as6
 refine W3 S9 rfl (eM (a03 3 47 rfl rfl)) ar4 (eM (a03 4 48 rfl rfl)) (by omega) (by omega) rfl ?_
 exact Z0 ⟨49, _, _, rfl, rfl, Z2, hS, rfl⟩
 intro cw5 cw6 bd3 cw7 as7 hS bv0 as8 hcq
 have Z2 := Sub.refl bd3
 have W0 := X5.trans as7
 refine Y2 P0 (eM (as8 5 49 rfl rfl)) rfl ?_
 exact Z0 ⟨50, _, _, rfl, rfl, Z2, hS, rfl⟩
 intro cw8 cw9 bd4 cx0 a04 hS bv1 as9 hcq
 have Z2 := Sub.refl bd4
 have W0 := X5.trans a04
 have q2 := a04.1 _ _ q2
 refine V5 (Z7 .u8 ((rd a0 a3).1)) N0 (eM (as9 6 50 rfl rfl)) (hS.froz _ _ q2) rfl (Zf0 ([]) (Z7 .u8 ((rd a0 a3).1)) (([vI ((rd a0 a3).2)])) ar5 (Nat.le_of_ble_eq_true rfl)) rfl ?_
 exact Z0 ⟨51, _, _, rfl, rfl, Z2, hS, rfl⟩
 intro cx1 cx2 bd5 cx3 at0 hS at1 bv2 hcq
 have Z2 := Sub.refl bd5
 have W0 := X5.trans at0
 refine Z4 (vI c3) (evT (at1 11 rfl) a66) rfl ?_
 exact Z0 ⟨52, _, _, rfl, rfl, Z2, hS, rfl⟩
 intro cx4 cx5 bd6 cx6 at2 hS bv3 a05 hcq
 have Z2 := Sub.refl bd6
 have W0 := X5.trans at2
 refine Zo9 (Z7 .u8 ((rd a0 a3).1) ++ [vI c3]) Yz4 (Yd5 (eM (a05 7 51 rfl rfl)) (eM (a05 8 52 rfl rfl))) (K5 rfl rfl rfl (Nat.le_of_ble_eq_true rfl) (K5 rfl rfl rfl (Nat.le_of_ble_eq_true rfl) (Zk3 rfl))) rfl ?_
 exact Z0 ⟨53, _, _, rfl, rfl, Z2, hS, rfl⟩
 intro cx7 cx8 bd7 cx9 at3 hS bv4 at4 hcq
 have Z2 := Sub.refl bd7
 have W0 := X5.trans at3
 refine Zn7 (τ := yT) S9 Zy1 rfl [vA (Z7 .u8 ((rd a0 a3).1) ++ [vI c3])] [((rd a0 a3).1, c3)] rfl rfl (Ze0 (eM (at4 9 53 rfl rfl))) (Zu5 ⟨_, _, rfl, rfl, rfl⟩) (by decide) (by decide) hS rfl ?_
 intro cy0 cy1 cy2 at5 hS at6
 have Z2 := Z2.trans at5
 exact Z0 ⟨54, _, _, rfl, rfl, Z2, hS, at6⟩
 intro cy3 bd8 a71 m8 hS f7 a06 hcq
 have hS : St a71 bd8 (a8 ++ ([(c4, cA ([a7]) 47)] ++ ([(b7, cA ([vN]) 47)] ++ ([(b4, cA ([s1]) 47)] ++ ([(b1, cA ([s0]) 47)] ++ L))))) := hS
 have Z2 := Z2.trans m8
 have b3 := b3.mono m8
 have b0 := b0.mono m8
 have a5 := a5.mono m8
 have a72 := evT (f7 7 rfl) w9
 obtain ⟨cy4, bd9, at7⟩ := gvS (a06 10 54 (by decide) rfl)
 obtain ⟨at8, a9⟩ := gd a9
 refine Zd1 (τ := yT) Yt8 rfl (by exact (eM (a06 1 45 (by decide) rfl))) (by exact bd9) a5 hS at7 at8 rfl ?_
 intro x1 cy5 be0 a07 hS
 refine Y2 V6 (by exact a72) rfl ?_
 have hS := hS.perm U4
 refine Ze1 (v := x1) (cs := ([a7]).toArray) (cs' := ([x1]).toArray) R7 rfl rfl hS a07.isOne rfl (Nat.le_of_ble_eq_true rfl) rfl ?_
 intro cy6 hS
 have hS := hS.perm U4.symm
 refine Z0 ?_
 exact a68 _ _ ⟨(a6 ++ [((rd a0 a3).1, c3)]), a71, be0, x1, a9, Z2, hS, a07, b0, b3, (evT (f7 2 rfl) a62), (evT (f7 3 rfl) w7), (evT (f7 4 rfl) a63), (evT (f7 6 rfl) a64), a72, (evT (f7 8 rfl) x0), (evT (f7 9 rfl) a65)⟩
 intro a73
 have bv5 := b0.bound
 by_cases b6 : a3 = (a0.length : Int)
 rw [if_pos b6] at b8
 have X5 := Z2
 refine V4 21 (R9 [(102, MP.eq (vI a3)), (103, MP.eq (vP b1)), (104, MP.eq (s0)), (105, MP.eq (vI (a0.length : Int))), (106, MP.eq (Value.bool (decide (a3 = (a0.length : Int))))), (107, MP.eq (Value.bool (decide (a3 = (a0.length : Int))))), (108, MP.eq (undef)), (109, MP.eq (undef)), (110, MP.eq (undef)), (111, MP.eq (undef)), (112, MP.eq (undef)), (113, MP.eq (undef)), (114, MP.eq (undef)), (115, MP.eq (undef)), (116, MP.eq (undef)), (117, MP.eq (undef)), (118, MP.eq (undef)), (119, MP.eq (undef)), (120, MP.eq (undef)), (121, MP.eq (Value.bool true)), (101, MP.eq (Value.bool true))]) [] mixed rfl rfl rfl hS (Z5 rfl ?_ (Z5 rfl ?_ (Z5 rfl ?_ (Z5 rfl ?_ (Z5 rfl ?_ (Z5 rfl ?_ (Z5 rfl ?_ (Z5 rfl ?_ (Z5 rfl ?_ (Z5 rfl ?_ (Z5 rfl ?_ (Z5 rfl ?_ (Z5 rfl ?_ (Z5 rfl ?_ (Z5 rfl ?_ (Z5 rfl ?_ (Z5 rfl ?_ (Z5 rfl ?_ (Z5 rfl ?_ (Z5 rfl ?_ (Z5 rfl ?_ V9))))))))))))))))))))) ?_
 intro be1 be2 x2 be3 q3 hS q4 at9 hcq
 have Z2 := Sub.refl x2
 have W0 := X5.trans q3
 have x3 := evT (q4 8 rfl) d5
 refine Z4 (vI a3) x3 rfl ?_
 exact Z0 ⟨102, _, _, rfl, rfl, Z2, hS, rfl⟩
 intro be4 be5 x4 be6 q5 hS q6 au0 hcq
 have Z2 := Sub.refl x4
 have W0 := X5.trans q5
 have x5 := evT (q6 3 rfl) d4
 refine Y2 V6 x5 rfl ?_
 exact Z0 ⟨103, _, _, rfl, rfl, Z2, hS, rfl⟩
 intro x6 be7 x7 be8 q7 hS au1 q8 hcq
 have Z2 := Sub.refl x7
 have W0 := X5.trans q7
 have x8 : ev x6 (.tmp 103) = vP b1 := q8 1 103 rfl rfl
 refine Y4 (s0) R7 x8 (hS.get (mR (mR (mR (mR (mR mL)))))) rfl rfl ?_
 exact Z0 ⟨104, _, _, rfl, rfl, Z2, hS, rfl⟩
 intro x9 be9 y0 bf0 i4 hS au2 q9 hcq
 have Z2 := Sub.refl y0
 have W0 := X5.trans i4
 have b0 := b0.mono i4
 have y1 : ev x9 (.tmp 104) = s0 := q9 2 104 rfl rfl
 refine W6 S9 y1 b0 rfl ?_
 exact Z0 ⟨105, _, _, rfl, rfl, Z2, hS, rfl⟩
 intro n4 bf1 y2 bf2 r0 hS au3 i5 hcq
 have Z2 := Sub.refl y2
 have W0 := X5.trans r0
 have y3 : ev n4 (.tmp 102) = vI a3 := i5 0 102 rfl rfl
 have y4 : ev n4 (.tmp 105) = vI (a0.length : Int) := i5 3 105 rfl rfl
 refine Zf2 (k := .i64) (a := a3) (b := (a0.length : Int)) y3 y4 rfl ?_
 exact Z0 ⟨106, _, _, rfl, rfl, Z2, hS, rfl⟩
 intro y5 bf3 y6 bf4 r1 hS au4 r2 hcq
 have Z2 := Sub.refl y6
 have W0 := X5.trans r1
 have y7 : ev y5 (.tmp 106) = Value.bool (decide (a3 = (a0.length : Int))) := r2 4 106 rfl rfl
 refine Z4 (Value.bool (decide (a3 = (a0.length : Int)))) y7 rfl ?_
 exact Z0 ⟨107, _, _, rfl, rfl, Z2, hS, rfl⟩
 intro cy7 cy8 bf5 cy9 au5 hS bv6 au6 hcq
 have Z2 := Sub.refl bf5
 have W0 := X5.trans au5
 refine Z8 rfl rfl (bT b6 (eM (au6 5 107 rfl rfl))) rfl rfl rfl ?_
 exact Z0 ⟨108, _, _, rfl, rfl, Z2, hS, rfl⟩
 intro cz0 cz1 bf6 cz2 au7 hS bv7 au8 hcq
 have Z2 := Sub.refl bf6
 have W0 := X5.trans au7
 refine Z8 rfl rfl (bT b6 (eM (au8 5 107 rfl rfl))) rfl rfl rfl ?_
 exact Z0 ⟨109, _, _, rfl, rfl, Z2, hS, rfl⟩
 intro cz3 cz4 bf7 cz5 au9 hS bv8 av0 hcq
 have Z2 := Sub.refl bf7
 have W0 := X5.trans au9
 refine Z8 rfl rfl (bT b6 (eM (av0 5 107 rfl rfl))) rfl rfl rfl ?_
 exact Z0 ⟨110, _, _, rfl, rfl, Z2, hS, rfl⟩
 intro cz6 cz7 bf8 cz8 av1 hS bv9 av2 hcq
 have Z2 := Sub.refl bf8
 have W0 := X5.trans av1
 refine Z8 rfl rfl (bT b6 (eM (av2 5 107 rfl rfl))) rfl rfl rfl ?_
 exact Z0 ⟨111, _, _, rfl, rfl, Z2, hS, rfl⟩
 intro cz9 d00 bf9 d01 av3 hS bw0 av4 hcq
 have Z2 := Sub.refl bf9
 have W0 := X5.trans av3
 refine Z8 rfl rfl (bT b6 (eM (av4 5 107 rfl rfl))) rfl rfl rfl ?_
 exact Z0 ⟨112, _, _, rfl, rfl, Z2, hS, rfl⟩
 intro d02 d03 bg0 d04 av5 hS bw1 av6 hcq
 have Z2 := Sub.refl bg0
 have W0 := X5.trans av5
 refine Z8 rfl rfl (bT b6 (eM (av6 5 107 rfl rfl))) rfl rfl rfl ?_
 exact Z0 ⟨113, _, _, rfl, rfl, Z2, hS, rfl⟩
 intro d05 d06 bg1 d07 av7 hS bw2 av8 hcq
 have Z2 := Sub.refl bg1
 have W0 := X5.trans av7
 refine Z8 rfl rfl (bT b6 (eM (av8 5 107 rfl rfl))) rfl rfl rfl ?_
 exact Z0 ⟨114, _, _, rfl, rfl, Z2, hS, rfl⟩
 intro d08 d09 bg2 d10 av9 hS bw3 aw0 hcq
 have Z2 := Sub.refl bg2
 have W0 := X5.trans av9
 refine Z8 rfl rfl (bT b6 (eM (aw0 5 107 rfl rfl))) rfl rfl rfl ?_
 exact Z0 ⟨115, _, _, rfl, rfl, Z2, hS, rfl⟩
 intro d11 d12 bg3 d13 aw1 hS bw4 aw2 hcq
 have Z2 := Sub.refl bg3
 have W0 := X5.trans aw1
 refine Z8 rfl rfl (bT b6 (eM (aw2 5 107 rfl rfl))) rfl rfl rfl ?_
 exact Z0 ⟨116, _, _, rfl, rfl, Z2, hS, rfl⟩
 intro d14 d15 bg4 d16 aw3 hS bw5 aw4 hcq
 have Z2 := Sub.refl bg4
 have W0 := X5.trans aw3
 refine Z8 rfl rfl (bT b6 (eM (aw4 5 107 rfl rfl))) rfl rfl rfl ?_
 exact Z0 ⟨117, _, _, rfl, rfl, Z2, hS, rfl⟩
 intro d17 d18 bg5 d19 aw5 hS bw6 aw6 hcq
 have Z2 := Sub.refl bg5
 have W0 := X5.trans aw5
 refine Z8 rfl rfl (bT b6 (eM (aw6 5 107 rfl rfl))) rfl rfl rfl ?_
 exact Z0 ⟨118, _, _, rfl, rfl, Z2, hS, rfl⟩
 intro d20 d21 bg6 d22 aw7 hS bw7 aw8 hcq
 have Z2 := Sub.refl bg6
 have W0 := X5.trans aw7
 refine Z8 rfl rfl (bT b6 (eM (aw8 5 107 rfl rfl))) rfl rfl rfl ?_
 exact Z0 ⟨119, _, _, rfl, rfl, Z2, hS, rfl⟩
 intro d23 d24 bg7 d25 aw9 hS bw8 ax0 hcq
 have Z2 := Sub.refl bg7
 have W0 := X5.trans aw9
 refine Z8 rfl rfl (bT b6 (eM (ax0 5 107 rfl rfl))) rfl rfl rfl ?_
 exact Z0 ⟨120, _, _, rfl, rfl, Z2, hS, rfl⟩
 intro d26 d27 bg8 d28 ax1 hS bw9 ax2 hcq
 have Z2 := Sub.refl bg8
 have W0 := X5.trans ax1
 refine V1 (t := true) (Value.bool true) (bT b6 (eM (ax2 5 107 rfl rfl))) ((if_pos rfl).trans rfl) rfl ?_
 exact Z0 ⟨121, _, _, rfl, rfl, Z2, hS, rfl⟩
 intro d29 d30 bg9 d31 ax3 hS bx0 ax4 hcq
 have Z2 := Sub.refl bg9
 have W0 := X5.trans ax3
 refine Z6 (Value.bool true) (eM (ax4 19 121 rfl rfl)) rfl ?_
 exact Z0 ⟨101, _, _, rfl, rfl, Z2, hS, rfl⟩
 intro d32 bh0 a74 m9 hS f8 ax5 hcq
 have hS : St a74 bh0 (a8 ++ ([(c4, cA ([a7]) 47)] ++ ([(b7, cA ([vN]) 47)] ++ ([(b4, cA ([s1]) 47)] ++ ([(b1, cA ([s0]) 47)] ++ L))))) := hS
 have Z2 := Z2.trans m9
 have b3 := b3.mono m9
 have b0 := b0.mono m9
 have a5 := a5.mono m9
 refine Z0 ?_
 exact a73 _ _ ⟨true, a74, b8, Z2, hS, b0, b3, a5, (evT (f8 2 rfl) l6), (evT (f8 3 rfl) d4), (evT (f8 4 rfl) h7), (evT (f8 6 rfl) l7), (evT (f8 7 rfl) h8), (evT (f8 8 rfl) d5), (evT (f8 9 rfl) h9), (eM (ax5 20 101 (by decide) rfl))⟩
 rw [if_neg b6] at b8
 obtain ⟨bx1, b8⟩ := gd b8
 obtain ⟨bx2, b8⟩ := gd b8
 obtain ⟨a75, a76, bx3, d33, _, ax6, r3, ⟨_, _, rfl, rfl, rfl⟩, ax7⟩ := b3.elem (i := a4) (by omega) (by omega)
 obtain ⟨bx4, b8⟩ := gd b8
 obtain ⟨bx5, b8⟩ := gd b8
 obtain ⟨a08, a09, bj7, bx6, _, a77, n5, ⟨_, _, rfl, rfl, rfl⟩, a78⟩ := b0.elem (i := a3) (by omega) (by omega)
 obtain ⟨e9, a79, b8⟩ := bind_some b8
 have X5 := Z2
 refine V4 21 (R9 [(102, MP.eq (vI a3)), (103, MP.eq (vP b1)), (104, MP.eq (s0)), (105, MP.eq (vI (a0.length : Int))), (106, MP.eq (Value.bool (decide (a3 = (a0.length : Int))))), (107, MP.eq (Value.bool (decide (a3 = (a0.length : Int))))), (108, MP.eq (vP b4)), (109, MP.eq (s1)), (110, MP.eq (vI a4)), (111, MP.eq (Value.pointer (some ⟨a75, a76, none⟩))), (112, MP.eq (Value.pointer (some ⟨a75, a76 + 0, none⟩))), (113, MP.eq (vA (Z7 .u8 ((rd a1 a4).1)))), (114, MP.eq (vP b1)), (115, MP.eq (s0)), (116, MP.eq (vI a3)), (117, MP.eq (Value.pointer (some ⟨a08, a09, none⟩))), (118, MP.eq (Value.pointer (some ⟨a08, a09 + 0, none⟩))), (119, MP.eq (vA (Z7 .u8 ((rd a0 a3).1)))), (120, MP.eq (Value.bool e9)), (121, MP.eq (Value.bool e9)), (101, MP.eq (Value.bool e9))]) [] mixed rfl rfl rfl hS (Z5 rfl ?_ (Z5 rfl ?_ (Z5 rfl ?_ (Z5 rfl ?_ (Z5 rfl ?_ (Z5 rfl ?_ (Z5 rfl ?_ (Z5 rfl ?_ (Z5 rfl ?_ (Z5 rfl ?_ (Z5 rfl ?_ (Z5 rfl ?_ (Z5 rfl ?_ (Z5 rfl ?_ (Z5 rfl ?_ (Z5 rfl ?_ (Z5 rfl ?_ (Z5 rfl ?_ (Z5 rfl ?_ (Z5 rfl ?_ (Z5 rfl ?_ V9))))))))))))))))))))) ?_
 intro be1 be2 x2 be3 q3 hS q4 at9 hcq
 have Z2 := Sub.refl x2
 have W0 := X5.trans q3
 have x3 := evT (q4 8 rfl) d5
 refine Z4 (vI a3) x3 rfl ?_
 exact Z0 ⟨102, _, _, rfl, rfl, Z2, hS, rfl⟩
 intro be4 be5 x4 be6 q5 hS q6 au0 hcq
 have Z2 := Sub.refl x4
 have W0 := X5.trans q5
 have x5 := evT (q6 3 rfl) d4
 refine Y2 V6 x5 rfl ?_
 exact Z0 ⟨103, _, _, rfl, rfl, Z2, hS, rfl⟩
 intro x6 be7 x7 be8 q7 hS au1 q8 hcq
 have Z2 := Sub.refl x7
 have W0 := X5.trans q7
 have x8 : ev x6 (.tmp 103) = vP b1 := q8 1 103 rfl rfl
 refine Y4 (s0) R7 x8 (hS.get (mR (mR (mR (mR (mR mL)))))) rfl rfl ?_
 exact Z0 ⟨104, _, _, rfl, rfl, Z2, hS, rfl⟩
 intro x9 be9 y0 bf0 i4 hS au2 q9 hcq
 have Z2 := Sub.refl y0
 have W0 := X5.trans i4
 have b0 := b0.mono i4
 have y1 : ev x9 (.tmp 104) = s0 := q9 2 104 rfl rfl
 refine W6 S9 y1 b0 rfl ?_
 exact Z0 ⟨105, _, _, rfl, rfl, Z2, hS, rfl⟩
 intro n4 bf1 y2 bf2 r0 hS au3 i5 hcq
 have Z2 := Sub.refl y2
 have W0 := X5.trans r0
 have y3 : ev n4 (.tmp 102) = vI a3 := i5 0 102 rfl rfl
 have y4 : ev n4 (.tmp 105) = vI (a0.length : Int) := i5 3 105 rfl rfl
 refine Zf2 (k := .i64) (a := a3) (b := (a0.length : Int)) y3 y4 rfl ?_
 exact Z0 ⟨106, _, _, rfl, rfl, Z2, hS, rfl⟩
 intro y5 bf3 y6 bf4 r1 hS au4 r2 hcq
 have Z2 := Sub.refl y6
 have W0 := X5.trans r1
 have y7 : ev y5 (.tmp 106) = Value.bool (decide (a3 = (a0.length : Int))) := r2 4 106 rfl rfl
 refine Z4 (Value.bool (decide (a3 = (a0.length : Int)))) y7 rfl ?_
 exact Z0 ⟨107, _, _, rfl, rfl, Z2, hS, rfl⟩
 intro d34 d35 bh1 d36 ax8 hS ax9 ay0 hcq
 have Z2 := Sub.refl bh1
 have W0 := X5.trans ax8
 refine Y1 rfl rfl (bF b6 (eM (ay0 5 107 rfl rfl))) (Y2 V6 (evT (ax9 4 rfl) h7) rfl ?_)
 exact Z0 ⟨108, _, _, rfl, rfl, Z2, hS, rfl⟩
 intro d37 d38 bh2 d39 ay1 hS bx7 a10 hcq
 have Z2 := Sub.refl bh2
 have W0 := X5.trans ay1
 refine Y1 rfl rfl (bF b6 (eM (a10 5 107 rfl rfl))) ?_
 refine Y4 (s1) R7 (eM (a10 6 108 rfl rfl)) (hS.get (mR (mR (mR (mR mL))))) rfl rfl ?_
 exact Z0 ⟨109, _, _, rfl, rfl, Z2, hS, rfl⟩
 intro d40 d41 bh3 d42 ay2 hS ay3 ay4 hcq
 have Z2 := Sub.refl bh3
 have W0 := X5.trans ay2
 refine Y1 rfl rfl (bF b6 (eM (ay4 5 107 rfl rfl))) (Z4 (vI a4) (evT (ay3 9 rfl) h9) rfl ?_)
 exact Z0 ⟨110, _, _, rfl, rfl, Z2, hS, rfl⟩
 intro d43 d44 bh4 d45 ay5 hS bx8 r4 hcq
 have Z2 := Sub.refl bh4
 have W0 := X5.trans ay5
 refine Y1 rfl rfl (bF b6 (eM (r4 5 107 rfl rfl))) ?_
 refine W3 S9 rfl (eM (r4 7 109 rfl rfl)) ax6 (eM (r4 8 110 rfl rfl)) (by omega) (by omega) rfl ?_
 exact Z0 ⟨111, _, _, rfl, rfl, Z2, hS, rfl⟩
 intro d46 d47 bh5 d48 ay6 hS bx9 a11 hcq
 have Z2 := Sub.refl bh5
 have W0 := X5.trans ay6
 refine Y1 rfl rfl (bF b6 (eM (a11 5 107 rfl rfl))) (Y2 P0 (eM (a11 9 111 rfl rfl)) rfl ?_)
 exact Z0 ⟨112, _, _, rfl, rfl, Z2, hS, rfl⟩
 intro d49 d50 bh6 d51 a12 hS by0 a13 hcq
 have Z2 := Sub.refl bh6
 have W0 := X5.trans a12
 have r3 := a12.1 _ _ r3
 refine Y1 rfl rfl (bF b6 (eM (a13 5 107 rfl rfl))) ?_
 refine V5 (Z7 .u8 ((rd a1 a4).1)) N0 (eM (a13 10 112 rfl rfl)) (hS.froz _ _ r3) rfl (Zf0 ([]) (Z7 .u8 ((rd a1 a4).1)) (([vI ((rd a1 a4).2)])) ax7 (Nat.le_of_ble_eq_true rfl)) rfl ?_
 exact Z0 ⟨113, _, _, rfl, rfl, Z2, hS, rfl⟩
 intro d52 d53 bh7 d54 ay7 hS ay8 ay9 hcq
 have Z2 := Sub.refl bh7
 have W0 := X5.trans ay7
 refine Y1 rfl rfl (bF b6 (eM (ay9 5 107 rfl rfl))) (Y2 V6 (evT (ay8 3 rfl) d4) rfl ?_)
 exact Z0 ⟨114, _, _, rfl, rfl, Z2, hS, rfl⟩
 intro d55 d56 bh8 d57 az0 hS by1 a14 hcq
 have Z2 := Sub.refl bh8
 have W0 := X5.trans az0
 refine Y1 rfl rfl (bF b6 (eM (a14 5 107 rfl rfl))) ?_
 refine Y4 (s0) R7 (eM (a14 12 114 rfl rfl)) (hS.get (mR (mR (mR (mR (mR mL)))))) rfl rfl ?_
 exact Z0 ⟨115, _, _, rfl, rfl, Z2, hS, rfl⟩
 intro d58 d59 bh9 d60 az1 hS az2 az3 hcq
 have Z2 := Sub.refl bh9
 have W0 := X5.trans az1
 refine Y1 rfl rfl (bF b6 (eM (az3 5 107 rfl rfl))) (Z4 (vI a3) (evT (az2 8 rfl) d5) rfl ?_)
 exact Z0 ⟨116, _, _, rfl, rfl, Z2, hS, rfl⟩
 intro d61 d62 bi0 d63 az4 hS by2 r5 hcq
 have Z2 := Sub.refl bi0
 have W0 := X5.trans az4
 refine Y1 rfl rfl (bF b6 (eM (r5 5 107 rfl rfl))) ?_
 refine W3 S9 rfl (eM (r5 13 115 rfl rfl)) a77 (eM (r5 14 116 rfl rfl)) (by omega) (by omega) rfl ?_
 exact Z0 ⟨117, _, _, rfl, rfl, Z2, hS, rfl⟩
 intro by3 by4 az5 by5 a80 hS bj8 u1 hcq
 have Z2 := Sub.refl az5
 have W0 := X5.trans a80
 refine Y1 rfl rfl (bF b6 (eM (u1 5 107 rfl rfl))) (Y2 P0 (eM (u1 15 117 rfl rfl)) rfl ?_)
 exact Z0 ⟨118, _, _, rfl, rfl, Z2, hS, rfl⟩
 intro by6 by7 az6 by8 u2 hS bj9 u3 hcq
 have Z2 := Sub.refl az6
 have W0 := X5.trans u2
 have n5 := u2.1 _ _ n5
 refine Y1 rfl rfl (bF b6 (eM (u3 5 107 rfl rfl))) ?_
 refine V5 (Z7 .u8 ((rd a0 a3).1)) N0 (eM (u3 16 118 rfl rfl)) (hS.froz _ _ n5) rfl (Zf0 ([]) (Z7 .u8 ((rd a0 a3).1)) (([vI ((rd a0 a3).2)])) a78 (Nat.le_of_ble_eq_true rfl)) rfl ?_
 exact Z0 ⟨119, _, _, rfl, rfl, Z2, hS, rfl⟩
 intro by9 bz0 az7 bz1 a81 hS bk0 n6 hcq
 have Z2 := Sub.refl az7
 have W0 := X5.trans a81
 refine Y1 rfl rfl (bF b6 (eM (n6 5 107 rfl rfl))) ?_
 refine Y8 Tryz.call203 (T0 (eM (n6 11 113 rfl rfl)) (eM (n6 17 119 rfl rfl))) rfl (Zr2 a79  hS) ?_
 rintro bz2 bz3 ⟨_, bz4, rfl, a82, hS, rfl⟩
 refine ⟨_, rfl, ?_⟩
 have Z2 := Z2.trans a82
 exact Z0 ⟨120, _, _, rfl, rfl, Z2, hS, rfl⟩
 intro bz5 bz6 az8 bz7 a83 hS bk1 u4 hcq
 have Z2 := Sub.refl az8
 have W0 := X5.trans a83
 refine V1 (t := false) (Value.bool e9) (bF b6 (eM (u4 5 107 rfl rfl))) ((if_neg Bool.false_ne_true).trans (eM (u4 18 120 rfl rfl))) rfl ?_
 exact Z0 ⟨121, _, _, rfl, rfl, Z2, hS, rfl⟩
 intro bz8 bz9 az9 c00 a84 hS bk2 a85 hcq
 have Z2 := Sub.refl az9
 have W0 := X5.trans a84
 refine Z6 (Value.bool e9) (eM (a85 19 121 rfl rfl)) rfl ?_
 exact Z0 ⟨101, _, _, rfl, rfl, Z2, hS, rfl⟩
 intro c01 b00 a15 i6 hS e3 a86 hcq
 have hS : St a15 b00 (a8 ++ ([(c4, cA ([a7]) 47)] ++ ([(b7, cA ([vN]) 47)] ++ ([(b4, cA ([s1]) 47)] ++ ([(b1, cA ([s0]) 47)] ++ L))))) := hS
 have Z2 := Z2.trans i6
 have b3 := b3.mono i6
 have b0 := b0.mono i6
 have a5 := a5.mono i6
 refine Z0 ?_
 exact a73 _ _ ⟨e9, a15, b8, Z2, hS, b0, b3, a5, (evT (e3 2 rfl) l6), (evT (e3 3 rfl) d4), (evT (e3 4 rfl) h7), (evT (e3 6 rfl) l7), (evT (e3 7 rfl) h8), (evT (e3 8 rfl) d5), (evT (e3 9 rfl) h9), (eM (a86 20 101 (by decide) rfl))⟩
 intro y8
 have bk3 := b3.bound
 by_cases b5 : a4 = (a1.length : Int)
 rw [if_pos b5] at b9
 have X5 := Z2
 refine V4 28 (R9 [(62, MP.eq (vI a4)), (63, MP.eq (vP b4)), (64, MP.eq (s1)), (65, MP.eq (vI (a1.length : Int))), (66, MP.eq (Value.bool (decide (a4 = (a1.length : Int))))), (67, MP.eq (Value.bool (decide (a4 = (a1.length : Int))))), (68, MP.eq (undef)), (69, MP.eq (undef)), (70, MP.eq (undef)), (71, MP.eq (undef)), (72, MP.eq (undef)), (73, MP.eq (undef)), (74, MP.eq (undef)), (75, MP.eq (undef)), (76, MP.eq (undef)), (77, MP.eq (undef)), (78, MP.eq (undef)), (79, MP.eq (undef)), (80, MP.eq (undef)), (81, MP.eq (undef)), (82, MP.eq (undef)), (83, MP.eq (undef)), (84, MP.eq (undef)), (85, MP.eq (undef)), (86, MP.eq (undef)), (87, MP.eq (undef)), (88, MP.eq (Value.bool true)), (61, MP.eq (Value.bool true))]) [] mixed rfl rfl rfl hS (Z5 rfl ?_ (Z5 rfl ?_ (Z5 rfl ?_ (Z5 rfl ?_ (Z5 rfl ?_ (Z5 rfl ?_ (Z5 rfl ?_ (Z5 rfl ?_ (Z5 rfl ?_ (Z5 rfl ?_ (Z5 rfl ?_ (Z5 rfl ?_ (Z5 rfl ?_ (Z5 rfl ?_ (Z5 rfl ?_ (Z5 rfl ?_ (Z5 rfl ?_ (Z5 rfl ?_ (Z5 rfl ?_ (Z5 rfl ?_ (Z5 rfl ?_ (Z5 rfl ?_ (Z5 rfl ?_ (Z5 rfl ?_ (Z5 rfl ?_ (Z5 rfl ?_ (Z5 rfl ?_ (Z5 rfl ?_ V9)))))))))))))))))))))))))))) ?_
 intro a16 a17 i7 a18 g0 hS g1 u5 hcq
 have Z2 := Sub.refl i7
 have W0 := X5.trans g0
 have i8 := evT (g1 9 rfl) d3
 refine Z4 (vI a4) i8 rfl ?_
 exact Z0 ⟨62, _, _, rfl, rfl, Z2, hS, rfl⟩
 intro a19 a20 i9 a21 g2 hS g3 u6 hcq
 have Z2 := Sub.refl i9
 have W0 := X5.trans g2
 have j0 := evT (g3 4 rfl) d2
 refine Y2 V6 j0 rfl ?_
 exact Z0 ⟨63, _, _, rfl, rfl, Z2, hS, rfl⟩
 intro j1 a22 j2 a23 g4 hS u7 g5 hcq
 have Z2 := Sub.refl j2
 have W0 := X5.trans g4
 have j3 : ev j1 (.tmp 63) = vP b4 := g5 1 63 rfl rfl
 refine Y4 (s1) R7 j3 (hS.get (mR (mR (mR (mR mL))))) rfl rfl ?_
 exact Z0 ⟨64, _, _, rfl, rfl, Z2, hS, rfl⟩
 intro j4 a24 j5 a25 d7 hS u8 g6 hcq
 have Z2 := Sub.refl j5
 have W0 := X5.trans d7
 have b3 := b3.mono d7
 have j6 : ev j4 (.tmp 64) = s1 := g6 2 64 rfl rfl
 refine W6 S9 j6 b3 rfl ?_
 exact Z0 ⟨65, _, _, rfl, rfl, Z2, hS, rfl⟩
 intro f0 a26 j7 a27 g7 hS u9 d8 hcq
 have Z2 := Sub.refl j7
 have W0 := X5.trans g7
 have j8 : ev f0 (.tmp 62) = vI a4 := d8 0 62 rfl rfl
 have j9 : ev f0 (.tmp 65) = vI (a1.length : Int) := d8 3 65 rfl rfl
 refine Zf2 (k := .i64) (a := a4) (b := (a1.length : Int)) j8 j9 rfl ?_
 exact Z0 ⟨66, _, _, rfl, rfl, Z2, hS, rfl⟩
 intro k0 a28 k1 a29 g8 hS v0 g9 hcq
 have Z2 := Sub.refl k1
 have W0 := X5.trans g8
 have k2 : ev k0 (.tmp 66) = Value.bool (decide (a4 = (a1.length : Int))) := g9 4 66 rfl rfl
 refine Z4 (Value.bool (decide (a4 = (a1.length : Int)))) k2 rfl ?_
 exact Z0 ⟨67, _, _, rfl, rfl, Z2, hS, rfl⟩
 intro c02 c03 b01 c04 a87 hS bk4 a88 hcq
 have Z2 := Sub.refl b01
 have W0 := X5.trans a87
 refine Z8 rfl rfl (bT b5 (eM (a88 5 67 rfl rfl))) rfl rfl rfl ?_
 exact Z0 ⟨68, _, _, rfl, rfl, Z2, hS, rfl⟩
 intro c05 c06 b02 c07 a89 hS bk5 a90 hcq
 have Z2 := Sub.refl b02
 have W0 := X5.trans a89
 refine Z8 rfl rfl (bT b5 (eM (a90 5 67 rfl rfl))) rfl rfl rfl ?_
 exact Z0 ⟨69, _, _, rfl, rfl, Z2, hS, rfl⟩
 intro c08 c09 b03 c10 a91 hS bk6 a92 hcq
 have Z2 := Sub.refl b03
 have W0 := X5.trans a91
 refine Z8 rfl rfl (bT b5 (eM (a92 5 67 rfl rfl))) rfl rfl rfl ?_
 exact Z0 ⟨70, _, _, rfl, rfl, Z2, hS, rfl⟩
 intro c11 c12 b04 c13 a93 hS bk7 a94 hcq
 have Z2 := Sub.refl b04
 have W0 := X5.trans a93
 refine Z8 rfl rfl (bT b5 (eM (a94 5 67 rfl rfl))) rfl rfl rfl ?_
 exact Z0 ⟨71, _, _, rfl, rfl, Z2, hS, rfl⟩
 intro c14 c15 b05 c16 a95 hS bk8 a96 hcq
 have Z2 := Sub.refl b05
 have W0 := X5.trans a95
 refine Z8 rfl rfl (bT b5 (eM (a96 5 67 rfl rfl))) rfl rfl rfl ?_
 exact Z0 ⟨72, _, _, rfl, rfl, Z2, hS, rfl⟩
 intro c17 c18 b06 c19 a97 hS bk9 a98 hcq
 have Z2 := Sub.refl b06
 have W0 := X5.trans a97
 refine Z8 rfl rfl (bT b5 (eM (a98 5 67 rfl rfl))) rfl rfl rfl ?_
 exact Z0 ⟨73, _, _, rfl, rfl, Z2, hS, rfl⟩
 intro c20 c21 b07 c22 a99 hS bl0 aa0 hcq
 have Z2 := Sub.refl b07
 have W0 := X5.trans a99
 refine V3 rfl rfl (eM (aa0 11 73 rfl rfl)) rfl rfl ?_
 exact Z0 ⟨74, _, _, rfl, rfl, Z2, hS, rfl⟩
 intro c23 c24 b08 c25 aa1 hS bl1 aa2 hcq
 have Z2 := Sub.refl b08
 have W0 := X5.trans aa1
 refine V3 rfl rfl (eM (aa2 11 73 rfl rfl)) rfl rfl ?_
 exact Z0 ⟨75, _, _, rfl, rfl, Z2, hS, rfl⟩
 intro c26 c27 b09 c28 aa3 hS bl2 aa4 hcq
 have Z2 := Sub.refl b09
 have W0 := X5.trans aa3
 refine V3 rfl rfl (eM (aa4 11 73 rfl rfl)) rfl rfl ?_
 exact Z0 ⟨76, _, _, rfl, rfl, Z2, hS, rfl⟩
 intro c29 c30 b11 c31 aa5 hS bl3 aa6 hcq
 have Z2 := Sub.refl b11
 have W0 := X5.trans aa5
 refine V3 rfl rfl (eM (aa6 11 73 rfl rfl)) rfl rfl ?_
 exact Z0 ⟨77, _, _, rfl, rfl, Z2, hS, rfl⟩
 intro c32 c33 b12 c34 aa7 hS bl4 aa8 hcq
 have Z2 := Sub.refl b12
 have W0 := X5.trans aa7
 refine V3 rfl rfl (eM (aa8 11 73 rfl rfl)) rfl rfl ?_
 exact Z0 ⟨78, _, _, rfl, rfl, Z2, hS, rfl⟩
 intro c35 c36 b13 c37 aa9 hS bl5 ab0 hcq
 have Z2 := Sub.refl b13
 have W0 := X5.trans aa9
 refine V3 rfl rfl (eM (ab0 11 73 rfl rfl)) rfl rfl ?_
 exact Z0 ⟨79, _, _, rfl, rfl, Z2, hS, rfl⟩
 intro c38 c39 b14 c40 ab1 hS bl6 ab2 hcq
 have Z2 := Sub.refl b14
 have W0 := X5.trans ab1
 refine V3 rfl rfl (eM (ab2 11 73 rfl rfl)) rfl rfl ?_
 exact Z0 ⟨80, _, _, rfl, rfl, Z2, hS, rfl⟩
 intro c41 c42 b15 c43 ab3 hS bl7 ab4 hcq
 have Z2 := Sub.refl b15
 have W0 := X5.trans ab3
 refine V3 rfl rfl (eM (ab4 11 73 rfl rfl)) rfl rfl ?_
 exact Z0 ⟨81, _, _, rfl, rfl, Z2, hS, rfl⟩
 intro c44 c45 b16 c46 ab5 hS bl8 ab6 hcq
 have Z2 := Sub.refl b16
 have W0 := X5.trans ab5
 refine V3 rfl rfl (eM (ab6 11 73 rfl rfl)) rfl rfl ?_
 exact Z0 ⟨82, _, _, rfl, rfl, Z2, hS, rfl⟩
 intro c47 c48 b17 c49 ab7 hS bl9 ab8 hcq
 have Z2 := Sub.refl b17
 have W0 := X5.trans ab7
 refine V3 rfl rfl (eM (ab8 11 73 rfl rfl)) rfl rfl ?_
 exact Z0 ⟨83, _, _, rfl, rfl, Z2, hS, rfl⟩
 intro c50 c51 b18 c52 ab9 hS bm0 ac0 hcq
 have Z2 := Sub.refl b18
 have W0 := X5.trans ab9
 refine V3 rfl rfl (eM (ac0 11 73 rfl rfl)) rfl rfl ?_
 exact Z0 ⟨84, _, _, rfl, rfl, Z2, hS, rfl⟩
 intro c53 c54 b19 c55 ac1 hS bm1 ac2 hcq
 have Z2 := Sub.refl b19
 have W0 := X5.trans ac1
 refine V3 rfl rfl (eM (ac2 11 73 rfl rfl)) rfl rfl ?_
 exact Z0 ⟨85, _, _, rfl, rfl, Z2, hS, rfl⟩
 intro c56 c57 b20 c58 ac3 hS bm2 ac4 hcq
 have Z2 := Sub.refl b20
 have W0 := X5.trans ac3
 refine V3 rfl rfl (eM (ac4 11 73 rfl rfl)) rfl rfl ?_
 exact Z0 ⟨86, _, _, rfl, rfl, Z2, hS, rfl⟩
 intro c59 c60 b21 c61 ac5 hS bm3 ac6 hcq
 have Z2 := Sub.refl b21
 have W0 := X5.trans ac5
 refine Z8 rfl rfl (bT b5 (eM (ac6 5 67 rfl rfl))) rfl rfl rfl ?_
 exact Z0 ⟨87, _, _, rfl, rfl, Z2, hS, rfl⟩
 intro c62 c63 b22 c64 ac7 hS bm4 ac8 hcq
 have Z2 := Sub.refl b22
 have W0 := X5.trans ac7
 refine V1 (t := true) (Value.bool true) (bT b5 (eM (ac8 5 67 rfl rfl))) ((if_pos rfl).trans rfl) rfl ?_
 exact Z0 ⟨88, _, _, rfl, rfl, Z2, hS, rfl⟩
 intro c65 c66 b23 c67 ac9 hS bm5 ad0 hcq
 have Z2 := Sub.refl b23
 have W0 := X5.trans ac9
 refine Z6 (Value.bool true) (eM (ad0 26 88 rfl rfl)) rfl ?_
 exact Z0 ⟨61, _, _, rfl, rfl, Z2, hS, rfl⟩
 intro c68 b24 a30 k3 hS e4 ad1 hcq
 have hS : St a30 b24 (a8 ++ ([(c4, cA ([a7]) 47)] ++ ([(b7, cA ([vN]) 47)] ++ ([(b4, cA ([s1]) 47)] ++ ([(b1, cA ([s0]) 47)] ++ L))))) := hS
 have Z2 := Z2.trans k3
 have b3 := b3.mono k3
 have b0 := b0.mono k3
 have a5 := a5.mono k3
 refine Z0 ?_
 exact y8 _ _ ⟨true, a30, b9, Z2, hS, b0, b3, a5, (evT (e4 2 rfl) l5), (evT (e4 3 rfl) d9), (evT (e4 4 rfl) d2), (evT (e4 6 rfl) h5), (evT (e4 7 rfl) h6), (evT (e4 8 rfl) e0), (evT (e4 9 rfl) d3), (eM (ad1 27 61 (by decide) rfl))⟩
 rw [if_neg b5] at b9
 have bm6 := b0.bound
 by_cases b2 : a3 < (a0.length : Int)
 rw [if_pos b2] at b9
 obtain ⟨bm7, b9⟩ := gd b9
 obtain ⟨a31, a32, bm8, c69, _, ad2, n7, ⟨_, _, rfl, rfl, rfl⟩, ad3⟩ := b0.elem (i := a3) (by omega) (by omega)
 obtain ⟨bm9, b9⟩ := gd b9
 obtain ⟨bn0, b9⟩ := gd b9
 obtain ⟨a33, a34, bn1, c70, _, ad4, n8, ⟨_, _, rfl, rfl, rfl⟩, ad5⟩ := b3.elem (i := a4) (by omega) (by omega)
 obtain ⟨d6, ad6, b9⟩ := bind_some b9
 have X5 := Z2
 refine V4 28 (R9 [(62, MP.eq (vI a4)), (63, MP.eq (vP b4)), (64, MP.eq (s1)), (65, MP.eq (vI (a1.length : Int))), (66, MP.eq (Value.bool (decide (a4 = (a1.length : Int))))), (67, MP.eq (Value.bool (decide (a4 = (a1.length : Int))))), (68, MP.eq (vI a3)), (69, MP.eq (vP b1)), (70, MP.eq (s0)), (71, MP.eq (vI (a0.length : Int))), (72, MP.eq (Value.bool (decide (a3 < (a0.length : Int))))), (73, MP.eq (Value.bool (decide (a3 < (a0.length : Int))))), (74, MP.eq (vP b1)), (75, MP.eq (s0)), (76, MP.eq (vI a3)), (77, MP.eq (Value.pointer (some ⟨a31, a32, none⟩))), (78, MP.eq (Value.pointer (some ⟨a31, a32 + 0, none⟩))), (79, MP.eq (vA (Z7 .u8 ((rd a0 a3).1)))), (80, MP.eq (vP b4)), (81, MP.eq (s1)), (82, MP.eq (vI a4)), (83, MP.eq (Value.pointer (some ⟨a33, a34, none⟩))), (84, MP.eq (Value.pointer (some ⟨a33, a34 + 0, none⟩))), (85, MP.eq (vA (Z7 .u8 ((rd a1 a4).1)))), (86, MP.eq (Value.bool d6)), (87, MP.eq (Value.bool d6)), (88, MP.eq (Value.bool d6)), (61, MP.eq (Value.bool d6))]) [] mixed rfl rfl rfl hS (Z5 rfl ?_ (Z5 rfl ?_ (Z5 rfl ?_ (Z5 rfl ?_ (Z5 rfl ?_ (Z5 rfl ?_ (Z5 rfl ?_ (Z5 rfl ?_ (Z5 rfl ?_ (Z5 rfl ?_ (Z5 rfl ?_ (Z5 rfl ?_ (Z5 rfl ?_ (Z5 rfl ?_ (Z5 rfl ?_ (Z5 rfl ?_ (Z5 rfl ?_ (Z5 rfl ?_ (Z5 rfl ?_ (Z5 rfl ?_ (Z5 rfl ?_ (Z5 rfl ?_ (Z5 rfl ?_ (Z5 rfl ?_ (Z5 rfl ?_ (Z5 rfl ?_ (Z5 rfl ?_ (Z5 rfl ?_ V9)))))))))))))))))))))))))))) ?_
 intro a16 a17 i7 a18 g0 hS g1 u5 hcq
 have Z2 := Sub.refl i7
 have W0 := X5.trans g0
 have i8 := evT (g1 9 rfl) d3
 refine Z4 (vI a4) i8 rfl ?_
 exact Z0 ⟨62, _, _, rfl, rfl, Z2, hS, rfl⟩
 intro a19 a20 i9 a21 g2 hS g3 u6 hcq
 have Z2 := Sub.refl i9
 have W0 := X5.trans g2
 have j0 := evT (g3 4 rfl) d2
 refine Y2 V6 j0 rfl ?_
 exact Z0 ⟨63, _, _, rfl, rfl, Z2, hS, rfl⟩
 intro j1 a22 j2 a23 g4 hS u7 g5 hcq
 have Z2 := Sub.refl j2
 have W0 := X5.trans g4
 have j3 : ev j1 (.tmp 63) = vP b4 := g5 1 63 rfl rfl
 refine Y4 (s1) R7 j3 (hS.get (mR (mR (mR (mR mL))))) rfl rfl ?_
 exact Z0 ⟨64, _, _, rfl, rfl, Z2, hS, rfl⟩
 intro j4 a24 j5 a25 d7 hS u8 g6 hcq
 have Z2 := Sub.refl j5
 have W0 := X5.trans d7
 have b3 := b3.mono d7
 have j6 : ev j4 (.tmp 64) = s1 := g6 2 64 rfl rfl
 refine W6 S9 j6 b3 rfl ?_
 exact Z0 ⟨65, _, _, rfl, rfl, Z2, hS, rfl⟩
 intro f0 a26 j7 a27 g7 hS u9 d8 hcq
 have Z2 := Sub.refl j7
 have W0 := X5.trans g7
 have j8 : ev f0 (.tmp 62) = vI a4 := d8 0 62 rfl rfl
 have j9 : ev f0 (.tmp 65) = vI (a1.length : Int) := d8 3 65 rfl rfl
 refine Zf2 (k := .i64) (a := a4) (b := (a1.length : Int)) j8 j9 rfl ?_
 exact Z0 ⟨66, _, _, rfl, rfl, Z2, hS, rfl⟩
 intro k0 a28 k1 a29 g8 hS v0 g9 hcq
 have Z2 := Sub.refl k1
 have W0 := X5.trans g8
 have k2 : ev k0 (.tmp 66) = Value.bool (decide (a4 = (a1.length : Int))) := g9 4 66 rfl rfl
 refine Z4 (Value.bool (decide (a4 = (a1.length : Int)))) k2 rfl ?_
 exact Z0 ⟨67, _, _, rfl, rfl, Z2, hS, rfl⟩
 intro r6 b25 r7 b26 n9 hS o0 o1 hcq
 have Z2 := Sub.refl r7
 have W0 := X5.trans n9
 have r8 : ev r6 (.tmp 67) = Value.bool (decide (a4 = (a1.length : Int))) := o1 5 67 rfl rfl
 have r9 := evT (o0 8 rfl) e0
 refine Y1 rfl rfl (bF b5 r8) (Z4 (vI a3) r9 rfl ?_)
 exact Z0 ⟨68, _, _, rfl, rfl, Z2, hS, rfl⟩
 intro s2 b27 s3 b28 o2 hS o3 o4 hcq
 have Z2 := Sub.refl s3
 have W0 := X5.trans o2
 have s4 : ev s2 (.tmp 67) = Value.bool (decide (a4 = (a1.length : Int))) := o4 5 67 rfl rfl
 have s5 := evT (o3 3 rfl) d9
 refine Y1 rfl rfl (bF b5 s4) (Y2 V6 s5 rfl ?_)
 exact Z0 ⟨69, _, _, rfl, rfl, Z2, hS, rfl⟩
 intro k4 b29 s6 b30 o5 hS ad7 h0 hcq
 have Z2 := Sub.refl s6
 have W0 := X5.trans o5
 have s7 : ev k4 (.tmp 67) = Value.bool (decide (a4 = (a1.length : Int))) := h0 5 67 rfl rfl
 have s8 : ev k4 (.tmp 69) = vP b1 := h0 7 69 rfl rfl
 refine Y1 rfl rfl (bF b5 s7) ?_
 refine Y4 (s0) R7 s8 (hS.get (mR (mR (mR (mR (mR mL)))))) rfl rfl ?_
 exact Z0 ⟨70, _, _, rfl, rfl, Z2, hS, rfl⟩
 intro k5 b31 s9 b32 h1 hS ad8 h2 hcq
 have Z2 := Sub.refl s9
 have W0 := X5.trans h1
 have b0 := b0.mono h1
 have t0 : ev k5 (.tmp 67) = Value.bool (decide (a4 = (a1.length : Int))) := h2 5 67 rfl rfl
 have t1 : ev k5 (.tmp 70) = s0 := h2 8 70 rfl rfl
 refine Y1 rfl rfl (bF b5 t0) ?_
 refine W6 S9 t1 b0 rfl ?_
 exact Z0 ⟨71, _, _, rfl, rfl, Z2, hS, rfl⟩
 intro f9 b33 t4 b34 o6 hS ad9 e5 hcq
 have Z2 := Sub.refl t4
 have W0 := X5.trans o6
 have t5 : ev f9 (.tmp 67) = Value.bool (decide (a4 = (a1.length : Int))) := e5 5 67 rfl rfl
 have t6 : ev f9 (.tmp 68) = vI a3 := e5 6 68 rfl rfl
 have t7 : ev f9 (.tmp 71) = vI (a0.length : Int) := e5 9 71 rfl rfl
 refine Y1 rfl rfl (bF b5 t5) ?_
 refine U5 (k := .i64) (a := a3) (b := (a0.length : Int)) t6 t7 rfl ?_
 exact Z0 ⟨72, _, _, rfl, rfl, Z2, hS, rfl⟩
 intro k6 b35 t8 b36 o7 hS ae0 h3 hcq
 have Z2 := Sub.refl t8
 have W0 := X5.trans o7
 have t9 : ev k6 (.tmp 67) = Value.bool (decide (a4 = (a1.length : Int))) := h3 5 67 rfl rfl
 have u0 : ev k6 (.tmp 72) = Value.bool (decide (a3 < (a0.length : Int))) := h3 10 72 rfl rfl
 refine Y1 rfl rfl (bF b5 t9) (Z4 (Value.bool (decide (a3 < (a0.length : Int)))) u0 rfl ?_)
 exact Z0 ⟨73, _, _, rfl, rfl, Z2, hS, rfl⟩
 intro c71 c72 b37 c73 ae1 hS ae2 ae3 hcq
 have Z2 := Sub.refl b37
 have W0 := X5.trans ae1
 refine Y1 rfl rfl (bT b2 (eM (ae3 11 73 rfl rfl))) (Y2 V6 (evT (ae2 3 rfl) d9) rfl ?_)
 exact Z0 ⟨74, _, _, rfl, rfl, Z2, hS, rfl⟩
 intro c74 c75 b38 c76 ae4 hS bn2 v1 hcq
 have Z2 := Sub.refl b38
 have W0 := X5.trans ae4
 refine Y1 rfl rfl (bT b2 (eM (v1 11 73 rfl rfl))) ?_
 refine Y4 (s0) R7 (eM (v1 12 74 rfl rfl)) (hS.get (mR (mR (mR (mR (mR mL)))))) rfl rfl ?_
 exact Z0 ⟨75, _, _, rfl, rfl, Z2, hS, rfl⟩
 intro c77 c78 b39 c79 ae5 hS ae6 ae7 hcq
 have Z2 := Sub.refl b39
 have W0 := X5.trans ae5
 refine Y1 rfl rfl (bT b2 (eM (ae7 11 73 rfl rfl))) (Z4 (vI a3) (evT (ae6 8 rfl) e0) rfl ?_)
 exact Z0 ⟨76, _, _, rfl, rfl, Z2, hS, rfl⟩
 intro c80 c81 b40 c82 ae8 hS bn3 o8 hcq
 have Z2 := Sub.refl b40
 have W0 := X5.trans ae8
 refine Y1 rfl rfl (bT b2 (eM (o8 11 73 rfl rfl))) ?_
 refine W3 S9 rfl (eM (o8 13 75 rfl rfl)) ad2 (eM (o8 14 76 rfl rfl)) (by omega) (by omega) rfl ?_
 exact Z0 ⟨77, _, _, rfl, rfl, Z2, hS, rfl⟩
 intro c83 c84 b41 c85 ae9 hS bn4 v2 hcq
 have Z2 := Sub.refl b41
 have W0 := X5.trans ae9
 refine Y1 rfl rfl (bT b2 (eM (v2 11 73 rfl rfl))) (Y2 P0 (eM (v2 15 77 rfl rfl)) rfl ?_)
 exact Z0 ⟨78, _, _, rfl, rfl, Z2, hS, rfl⟩
 intro c86 c87 b42 c88 v3 hS bn5 v4 hcq
 have Z2 := Sub.refl b42
 have W0 := X5.trans v3
 have n7 := v3.1 _ _ n7
 refine Y1 rfl rfl (bT b2 (eM (v4 11 73 rfl rfl))) ?_
 refine V5 (Z7 .u8 ((rd a0 a3).1)) N0 (eM (v4 16 78 rfl rfl)) (hS.froz _ _ n7) rfl (Zf0 ([]) (Z7 .u8 ((rd a0 a3).1)) (([vI ((rd a0 a3).2)])) ad3 (Nat.le_of_ble_eq_true rfl)) rfl ?_
 exact Z0 ⟨79, _, _, rfl, rfl, Z2, hS, rfl⟩
 intro c89 c90 b43 c91 af0 hS af1 af2 hcq
 have Z2 := Sub.refl b43
 have W0 := X5.trans af0
 refine Y1 rfl rfl (bT b2 (eM (af2 11 73 rfl rfl))) (Y2 V6 (evT (af1 4 rfl) d2) rfl ?_)
 exact Z0 ⟨80, _, _, rfl, rfl, Z2, hS, rfl⟩
 intro c92 c93 b44 c94 af3 hS bn6 v5 hcq
 have Z2 := Sub.refl b44
 have W0 := X5.trans af3
 refine Y1 rfl rfl (bT b2 (eM (v5 11 73 rfl rfl))) ?_
 refine Y4 (s1) R7 (eM (v5 18 80 rfl rfl)) (hS.get (mR (mR (mR (mR mL))))) rfl rfl ?_
 exact Z0 ⟨81, _, _, rfl, rfl, Z2, hS, rfl⟩
 intro c95 c96 b45 c97 af4 hS af5 af6 hcq
 have Z2 := Sub.refl b45
 have W0 := X5.trans af4
 refine Y1 rfl rfl (bT b2 (eM (af6 11 73 rfl rfl))) (Z4 (vI a4) (evT (af5 9 rfl) d3) rfl ?_)
 exact Z0 ⟨82, _, _, rfl, rfl, Z2, hS, rfl⟩
 intro c98 c99 b46 ca0 af7 hS bn7 o9 hcq
 have Z2 := Sub.refl b46
 have W0 := X5.trans af7
 refine Y1 rfl rfl (bT b2 (eM (o9 11 73 rfl rfl))) ?_
 refine W3 S9 rfl (eM (o9 19 81 rfl rfl)) ad4 (eM (o9 20 82 rfl rfl)) (by omega) (by omega) rfl ?_
 exact Z0 ⟨83, _, _, rfl, rfl, Z2, hS, rfl⟩
 intro ca1 ca2 b47 ca3 af8 hS bn8 v6 hcq
 have Z2 := Sub.refl b47
 have W0 := X5.trans af8
 refine Y1 rfl rfl (bT b2 (eM (v6 11 73 rfl rfl))) (Y2 P0 (eM (v6 21 83 rfl rfl)) rfl ?_)
 exact Z0 ⟨84, _, _, rfl, rfl, Z2, hS, rfl⟩
 intro ca4 ca5 b48 ca6 v7 hS bn9 v8 hcq
 have Z2 := Sub.refl b48
 have W0 := X5.trans v7
 have n8 := v7.1 _ _ n8
 refine Y1 rfl rfl (bT b2 (eM (v8 11 73 rfl rfl))) ?_
 refine V5 (Z7 .u8 ((rd a1 a4).1)) N0 (eM (v8 22 84 rfl rfl)) (hS.froz _ _ n8) rfl (Zf0 ([]) (Z7 .u8 ((rd a1 a4).1)) (([vI ((rd a1 a4).2)])) ad5 (Nat.le_of_ble_eq_true rfl)) rfl ?_
 exact Z0 ⟨85, _, _, rfl, rfl, Z2, hS, rfl⟩
 intro ca7 ca8 b49 ca9 af9 hS bo0 p0 hcq
 have Z2 := Sub.refl b49
 have W0 := X5.trans af9
 refine Y1 rfl rfl (bT b2 (eM (p0 11 73 rfl rfl))) ?_
 refine Y8 Tryz.call203 (T0 (eM (p0 17 79 rfl rfl)) (eM (p0 23 85 rfl rfl))) rfl (Zr2 ad6  hS) ?_
 rintro cb0 cb1 ⟨_, cb2, rfl, ag0, hS, rfl⟩
 refine ⟨_, rfl, ?_⟩
 have Z2 := Z2.trans ag0
 exact Z0 ⟨86, _, _, rfl, rfl, Z2, hS, rfl⟩
 intro cb3 cb4 b50 cb5 ag1 hS bo1 p1 hcq
 have Z2 := Sub.refl b50
 have W0 := X5.trans ag1
 refine Y1 rfl rfl (bF b5 (eM (p1 5 67 rfl rfl))) ?_
 refine V1 (t := true) (Value.bool d6) (bT b2 (eM (p1 11 73 rfl rfl))) ((if_pos rfl).trans (eM (p1 24 86 rfl rfl))) rfl ?_
 exact Z0 ⟨87, _, _, rfl, rfl, Z2, hS, rfl⟩
 intro cb6 cb7 b51 cb8 ag2 hS bo2 v9 hcq
 have Z2 := Sub.refl b51
 have W0 := X5.trans ag2
 refine V1 (t := false) (Value.bool d6) (bF b5 (eM (v9 5 67 rfl rfl))) ((if_neg Bool.false_ne_true).trans (eM (v9 25 87 rfl rfl))) rfl ?_
 exact Z0 ⟨88, _, _, rfl, rfl, Z2, hS, rfl⟩
 intro cb9 cc0 b52 cc1 ag3 hS bo3 ag4 hcq
 have Z2 := Sub.refl b52
 have W0 := X5.trans ag3
 refine Z6 (Value.bool d6) (eM (ag4 26 88 rfl rfl)) rfl ?_
 exact Z0 ⟨61, _, _, rfl, rfl, Z2, hS, rfl⟩
 intro cc2 b53 a35 k7 hS e6 ag5 hcq
 have hS : St a35 b53 (a8 ++ ([(c4, cA ([a7]) 47)] ++ ([(b7, cA ([vN]) 47)] ++ ([(b4, cA ([s1]) 47)] ++ ([(b1, cA ([s0]) 47)] ++ L))))) := hS
 have Z2 := Z2.trans k7
 have b3 := b3.mono k7
 have b0 := b0.mono k7
 have a5 := a5.mono k7
 refine Z0 ?_
 exact y8 _ _ ⟨d6, a35, b9, Z2, hS, b0, b3, a5, (evT (e6 2 rfl) l5), (evT (e6 3 rfl) d9), (evT (e6 4 rfl) d2), (evT (e6 6 rfl) h5), (evT (e6 7 rfl) h6), (evT (e6 8 rfl) e0), (evT (e6 9 rfl) d3), (eM (ag5 27 61 (by decide) rfl))⟩
 rw [if_neg b2] at b9
 have X5 := Z2
 refine V4 28 (R9 [(62, MP.eq (vI a4)), (63, MP.eq (vP b4)), (64, MP.eq (s1)), (65, MP.eq (vI (a1.length : Int))), (66, MP.eq (Value.bool (decide (a4 = (a1.length : Int))))), (67, MP.eq (Value.bool (decide (a4 = (a1.length : Int))))), (68, MP.eq (vI a3)), (69, MP.eq (vP b1)), (70, MP.eq (s0)), (71, MP.eq (vI (a0.length : Int))), (72, MP.eq (Value.bool (decide (a3 < (a0.length : Int))))), (73, MP.eq (Value.bool (decide (a3 < (a0.length : Int))))), (74, MP.eq (undef)), (75, MP.eq (undef)), (76, MP.eq (undef)), (77, MP.eq (undef)), (78, MP.eq (undef)), (79, MP.eq (undef)), (80, MP.eq (undef)), (81, MP.eq (undef)), (82, MP.eq (undef)), (83, MP.eq (undef)), (84, MP.eq (undef)), (85, MP.eq (undef)), (86, MP.eq (undef)), (87, MP.eq (Value.bool false)), (88, MP.eq (Value.bool false)), (61, MP.eq (Value.bool false))]) [] mixed rfl rfl rfl hS (Z5 rfl ?_ (Z5 rfl ?_ (Z5 rfl ?_ (Z5 rfl ?_ (Z5 rfl ?_ (Z5 rfl ?_ (Z5 rfl ?_ (Z5 rfl ?_ (Z5 rfl ?_ (Z5 rfl ?_ (Z5 rfl ?_ (Z5 rfl ?_ (Z5 rfl ?_ (Z5 rfl ?_ (Z5 rfl ?_ (Z5 rfl ?_ (Z5 rfl ?_ (Z5 rfl ?_ (Z5 rfl ?_ (Z5 rfl ?_ (Z5 rfl ?_ (Z5 rfl ?_ (Z5 rfl ?_ (Z5 rfl ?_ (Z5 rfl ?_ (Z5 rfl ?_ (Z5 rfl ?_ (Z5 rfl ?_ V9)))))))))))))))))))))))))))) ?_
 intro a16 a17 i7 a18 g0 hS g1 u5 hcq
 have Z2 := Sub.refl i7
 have W0 := X5.trans g0
 have i8 := evT (g1 9 rfl) d3
 refine Z4 (vI a4) i8 rfl ?_
 exact Z0 ⟨62, _, _, rfl, rfl, Z2, hS, rfl⟩
 intro a19 a20 i9 a21 g2 hS g3 u6 hcq
 have Z2 := Sub.refl i9
 have W0 := X5.trans g2
 have j0 := evT (g3 4 rfl) d2
 refine Y2 V6 j0 rfl ?_
 exact Z0 ⟨63, _, _, rfl, rfl, Z2, hS, rfl⟩
 intro j1 a22 j2 a23 g4 hS u7 g5 hcq
 have Z2 := Sub.refl j2
 have W0 := X5.trans g4
 have j3 : ev j1 (.tmp 63) = vP b4 := g5 1 63 rfl rfl
 refine Y4 (s1) R7 j3 (hS.get (mR (mR (mR (mR mL))))) rfl rfl ?_
 exact Z0 ⟨64, _, _, rfl, rfl, Z2, hS, rfl⟩
 intro j4 a24 j5 a25 d7 hS u8 g6 hcq
 have Z2 := Sub.refl j5
 have W0 := X5.trans d7
 have b3 := b3.mono d7
 have j6 : ev j4 (.tmp 64) = s1 := g6 2 64 rfl rfl
 refine W6 S9 j6 b3 rfl ?_
 exact Z0 ⟨65, _, _, rfl, rfl, Z2, hS, rfl⟩
 intro f0 a26 j7 a27 g7 hS u9 d8 hcq
 have Z2 := Sub.refl j7
 have W0 := X5.trans g7
 have j8 : ev f0 (.tmp 62) = vI a4 := d8 0 62 rfl rfl
 have j9 : ev f0 (.tmp 65) = vI (a1.length : Int) := d8 3 65 rfl rfl
 refine Zf2 (k := .i64) (a := a4) (b := (a1.length : Int)) j8 j9 rfl ?_
 exact Z0 ⟨66, _, _, rfl, rfl, Z2, hS, rfl⟩
 intro k0 a28 k1 a29 g8 hS v0 g9 hcq
 have Z2 := Sub.refl k1
 have W0 := X5.trans g8
 have k2 : ev k0 (.tmp 66) = Value.bool (decide (a4 = (a1.length : Int))) := g9 4 66 rfl rfl
 refine Z4 (Value.bool (decide (a4 = (a1.length : Int)))) k2 rfl ?_
 exact Z0 ⟨67, _, _, rfl, rfl, Z2, hS, rfl⟩
 intro r6 b25 r7 b26 n9 hS o0 o1 hcq
 have Z2 := Sub.refl r7
 have W0 := X5.trans n9
 have r8 : ev r6 (.tmp 67) = Value.bool (decide (a4 = (a1.length : Int))) := o1 5 67 rfl rfl
 have r9 := evT (o0 8 rfl) e0
 refine Y1 rfl rfl (bF b5 r8) (Z4 (vI a3) r9 rfl ?_)
 exact Z0 ⟨68, _, _, rfl, rfl, Z2, hS, rfl⟩
 intro s2 b27 s3 b28 o2 hS o3 o4 hcq
 have Z2 := Sub.refl s3
 have W0 := X5.trans o2
 have s4 : ev s2 (.tmp 67) = Value.bool (decide (a4 = (a1.length : Int))) := o4 5 67 rfl rfl
 have s5 := evT (o3 3 rfl) d9
 refine Y1 rfl rfl (bF b5 s4) (Y2 V6 s5 rfl ?_)
 exact Z0 ⟨69, _, _, rfl, rfl, Z2, hS, rfl⟩
 intro k4 b29 s6 b30 o5 hS ad7 h0 hcq
 have Z2 := Sub.refl s6
 have W0 := X5.trans o5
 have s7 : ev k4 (.tmp 67) = Value.bool (decide (a4 = (a1.length : Int))) := h0 5 67 rfl rfl
 have s8 : ev k4 (.tmp 69) = vP b1 := h0 7 69 rfl rfl
 refine Y1 rfl rfl (bF b5 s7) ?_
 refine Y4 (s0) R7 s8 (hS.get (mR (mR (mR (mR (mR mL)))))) rfl rfl ?_
 exact Z0 ⟨70, _, _, rfl, rfl, Z2, hS, rfl⟩
 intro k5 b31 s9 b32 h1 hS ad8 h2 hcq
 have Z2 := Sub.refl s9
 have W0 := X5.trans h1
 have b0 := b0.mono h1
 have t0 : ev k5 (.tmp 67) = Value.bool (decide (a4 = (a1.length : Int))) := h2 5 67 rfl rfl
 have t1 : ev k5 (.tmp 70) = s0 := h2 8 70 rfl rfl
 refine Y1 rfl rfl (bF b5 t0) ?_
 refine W6 S9 t1 b0 rfl ?_
 exact Z0 ⟨71, _, _, rfl, rfl, Z2, hS, rfl⟩
 intro f9 b33 t4 b34 o6 hS ad9 e5 hcq
 have Z2 := Sub.refl t4
 have W0 := X5.trans o6
 have t5 : ev f9 (.tmp 67) = Value.bool (decide (a4 = (a1.length : Int))) := e5 5 67 rfl rfl
 have t6 : ev f9 (.tmp 68) = vI a3 := e5 6 68 rfl rfl
 have t7 : ev f9 (.tmp 71) = vI (a0.length : Int) := e5 9 71 rfl rfl
 refine Y1 rfl rfl (bF b5 t5) ?_
 refine U5 (k := .i64) (a := a3) (b := (a0.length : Int)) t6 t7 rfl ?_
 exact Z0 ⟨72, _, _, rfl, rfl, Z2, hS, rfl⟩
 intro k6 b35 t8 b36 o7 hS ae0 h3 hcq
 have Z2 := Sub.refl t8
 have W0 := X5.trans o7
 have t9 : ev k6 (.tmp 67) = Value.bool (decide (a4 = (a1.length : Int))) := h3 5 67 rfl rfl
 have u0 : ev k6 (.tmp 72) = Value.bool (decide (a3 < (a0.length : Int))) := h3 10 72 rfl rfl
 refine Y1 rfl rfl (bF b5 t9) (Z4 (Value.bool (decide (a3 < (a0.length : Int)))) u0 rfl ?_)
 exact Z0 ⟨73, _, _, rfl, rfl, Z2, hS, rfl⟩
 intro cc3 cc4 b54 cc5 ag6 hS bo4 ag7 hcq
 have Z2 := Sub.refl b54
 have W0 := X5.trans ag6
 refine Z8 rfl rfl (bF b2 (eM (ag7 11 73 rfl rfl))) rfl rfl rfl ?_
 exact Z0 ⟨74, _, _, rfl, rfl, Z2, hS, rfl⟩
 intro cc6 cc7 b55 cc8 ag8 hS bo5 ag9 hcq
 have Z2 := Sub.refl b55
 have W0 := X5.trans ag8
 refine Z8 rfl rfl (bF b2 (eM (ag9 11 73 rfl rfl))) rfl rfl rfl ?_
 exact Z0 ⟨75, _, _, rfl, rfl, Z2, hS, rfl⟩
 intro cc9 cd0 b56 cd1 ah0 hS bo6 ah1 hcq
 have Z2 := Sub.refl b56
 have W0 := X5.trans ah0
 refine Z8 rfl rfl (bF b2 (eM (ah1 11 73 rfl rfl))) rfl rfl rfl ?_
 exact Z0 ⟨76, _, _, rfl, rfl, Z2, hS, rfl⟩
 intro cd2 cd3 b57 cd4 ah2 hS bo7 ah3 hcq
 have Z2 := Sub.refl b57
 have W0 := X5.trans ah2
 refine Z8 rfl rfl (bF b2 (eM (ah3 11 73 rfl rfl))) rfl rfl rfl ?_
 exact Z0 ⟨77, _, _, rfl, rfl, Z2, hS, rfl⟩
 intro cd5 cd6 b58 cd7 ah4 hS bo8 ah5 hcq
 have Z2 := Sub.refl b58
 have W0 := X5.trans ah4
 refine Z8 rfl rfl (bF b2 (eM (ah5 11 73 rfl rfl))) rfl rfl rfl ?_
 exact Z0 ⟨78, _, _, rfl, rfl, Z2, hS, rfl⟩
 intro cd8 cd9 b59 ce0 ah6 hS bo9 ah7 hcq
 have Z2 := Sub.refl b59
 have W0 := X5.trans ah6
 refine Z8 rfl rfl (bF b2 (eM (ah7 11 73 rfl rfl))) rfl rfl rfl ?_
 exact Z0 ⟨79, _, _, rfl, rfl, Z2, hS, rfl⟩
 intro ce1 ce2 b60 ce3 ah8 hS bp0 ah9 hcq
 have Z2 := Sub.refl b60
 have W0 := X5.trans ah8
 refine Z8 rfl rfl (bF b2 (eM (ah9 11 73 rfl rfl))) rfl rfl rfl ?_
 exact Z0 ⟨80, _, _, rfl, rfl, Z2, hS, rfl⟩
 intro ce4 ce5 b61 ce6 ai0 hS bp1 ai1 hcq
 have Z2 := Sub.refl b61
 have W0 := X5.trans ai0
 refine Z8 rfl rfl (bF b2 (eM (ai1 11 73 rfl rfl))) rfl rfl rfl ?_
 exact Z0 ⟨81, _, _, rfl, rfl, Z2, hS, rfl⟩
 intro ce7 ce8 b62 ce9 ai2 hS bp2 ai3 hcq
 have Z2 := Sub.refl b62
 have W0 := X5.trans ai2
 refine Z8 rfl rfl (bF b2 (eM (ai3 11 73 rfl rfl))) rfl rfl rfl ?_
 exact Z0 ⟨82, _, _, rfl, rfl, Z2, hS, rfl⟩
 intro cf0 cf1 b63 cf2 ai4 hS bp3 ai5 hcq
 have Z2 := Sub.refl b63
 have W0 := X5.trans ai4
 refine Z8 rfl rfl (bF b2 (eM (ai5 11 73 rfl rfl))) rfl rfl rfl ?_
 exact Z0 ⟨83, _, _, rfl, rfl, Z2, hS, rfl⟩
 intro cf3 cf4 b64 cf5 ai6 hS bp4 ai7 hcq
 have Z2 := Sub.refl b64
 have W0 := X5.trans ai6
 refine Z8 rfl rfl (bF b2 (eM (ai7 11 73 rfl rfl))) rfl rfl rfl ?_
 exact Z0 ⟨84, _, _, rfl, rfl, Z2, hS, rfl⟩
 intro cf6 cf7 b65 cf8 ai8 hS bp5 ai9 hcq
 have Z2 := Sub.refl b65
 have W0 := X5.trans ai8
 refine Z8 rfl rfl (bF b2 (eM (ai9 11 73 rfl rfl))) rfl rfl rfl ?_
 exact Z0 ⟨85, _, _, rfl, rfl, Z2, hS, rfl⟩
 intro cf9 cg0 b66 cg1 aj0 hS bp6 aj1 hcq
 have Z2 := Sub.refl b66
 have W0 := X5.trans aj0
 refine Z8 rfl rfl (bF b2 (eM (aj1 11 73 rfl rfl))) rfl rfl rfl ?_
 exact Z0 ⟨86, _, _, rfl, rfl, Z2, hS, rfl⟩
 intro cg2 cg3 b67 cg4 aj2 hS bp7 w0 hcq
 have Z2 := Sub.refl b67
 have W0 := X5.trans aj2
 refine Y1 rfl rfl (bF b5 (eM (w0 5 67 rfl rfl))) ?_
 refine V1 (t := false) (Value.bool false) (bF b2 (eM (w0 11 73 rfl rfl))) ((if_neg Bool.false_ne_true).trans rfl) rfl ?_
 exact Z0 ⟨87, _, _, rfl, rfl, Z2, hS, rfl⟩
 intro cg5 cg6 b68 cg7 aj3 hS bp8 w1 hcq
 have Z2 := Sub.refl b68
 have W0 := X5.trans aj3
 refine V1 (t := false) (Value.bool false) (bF b5 (eM (w1 5 67 rfl rfl))) ((if_neg Bool.false_ne_true).trans (eM (w1 25 87 rfl rfl))) rfl ?_
 exact Z0 ⟨88, _, _, rfl, rfl, Z2, hS, rfl⟩
 intro cg8 cg9 b69 ch0 aj4 hS bp9 aj5 hcq
 have Z2 := Sub.refl b69
 have W0 := X5.trans aj4
 refine Z6 (Value.bool false) (eM (aj5 26 88 rfl rfl)) rfl ?_
 exact Z0 ⟨61, _, _, rfl, rfl, Z2, hS, rfl⟩
 intro ch1 b70 a36 k8 hS e7 aj6 hcq
 have hS : St a36 b70 (a8 ++ ([(c4, cA ([a7]) 47)] ++ ([(b7, cA ([vN]) 47)] ++ ([(b4, cA ([s1]) 47)] ++ ([(b1, cA ([s0]) 47)] ++ L))))) := hS
 have Z2 := Z2.trans k8
 have b3 := b3.mono k8
 have b0 := b0.mono k8
 have a5 := a5.mono k8
 refine Z0 ?_
 exact y8 _ _ ⟨false, a36, b9, Z2, hS, b0, b3, a5, (evT (e7 2 rfl) l5), (evT (e7 3 rfl) d9), (evT (e7 4 rfl) d2), (evT (e7 6 rfl) h5), (evT (e7 7 rfl) h6), (evT (e7 8 rfl) e0), (evT (e7 9 rfl) d3), (eM (aj6 27 61 (by decide) rfl))⟩
 rw [if_neg p6] at b9
 refine Z9 (Eq.trans (by exact n1) (congrArg Value.bool (W2 p6))) ?_
 refine W4 rfl ?_
 have hz := Option.some.inj b9
 subst hz
 exact hx0 _ _ ⟨a6, a48, a8, a7, rfl, Z2, hS, a5, b0, b3, h5, h6⟩
 intro aj7
 refine Z1 (Z4 (vI a3) (by exact l3) rfl (Y2 V6 (by exact l1) rfl ?_))
 refine Y4 (s0) R7 rfl (hS.get (mR (mR (mR (mR mL))))) rfl rfl ?_
 have bq0 := b0.bound
 refine W6 S9 rfl b0 rfl ?_
 refine U5 (k := .i64) (a := a3) (b := (a0.length : Int)) rfl rfl rfl (Z4 (Value.bool (decide (a3 < (a0.length : Int)))) rfl rfl ?_)
 by_cases c1 : a3 < (a0.length : Int)
 rw [if_pos c1] at f1
 refine Z8 rfl rfl (bT c1 rfl) rfl rfl rfl (Z8 rfl rfl (bT c1 rfl) rfl rfl rfl (Z8 rfl rfl (bT c1 rfl) rfl rfl rfl (Z8 rfl rfl (bT c1 rfl) rfl rfl rfl (Z8 rfl rfl (bT c1 rfl) rfl rfl rfl ?_))))
 refine V1 (t := true) (Value.bool true) (bT c1 rfl) ((if_pos rfl).trans rfl) rfl (Z0 ?_)
 exact aj7 _ _ ⟨true, a47, f1, Z2, hS, b0, b3, a5, p2, l1, l2, p3, p4, l3, l4, rfl⟩
 rw [if_neg c1] at f1
 refine Y1 rfl rfl (bF c1 rfl) (Z4 (vI a4) (by exact l4) rfl ?_)
 refine Y1 rfl rfl (bF c1 rfl) (Y2 V6 (by exact l2) rfl ?_)
 refine Y1 rfl rfl (bF c1 rfl) ?_
 refine Y4 (s1) R7 rfl (hS.get (mR (mR (mR mL)))) rfl rfl ?_
 have bq1 := b3.bound
 refine Y1 rfl rfl (bF c1 rfl) ?_
 refine W6 S9 rfl b3 rfl ?_
 refine Y1 rfl rfl (bF c1 rfl) ?_
 refine U5 (k := .i64) (a := a4) (b := (a1.length : Int)) rfl rfl rfl ?_
 refine V1 (t := false) (Value.bool (decide (a4 < (a1.length : Int)))) (bF c1 rfl) ((if_neg Bool.false_ne_true).trans rfl) rfl (Z0 ?_)
 exact aj7 _ _ ⟨(decide (a4 < (a1.length : Int))), a47, f1, Z2, hS, b0, b3, a5, p2, l1, l2, p3, p4, l3, l4, rfl⟩
 exact ⟨0, ([] : List (A8 × Int)), 0, H, ([]), (vN), f1, Z2, hS, a45, b0, b3, rfl, rfl, rfl, rfl, rfl, rfl, rfl⟩
 rintro d64 d65 ⟨c6, d66, f2, c2, rfl, Z2, hS, h4, b0, b3, p5, a44⟩
 dsimp only [Ex.elim] at a46
 refine Z3 (Z1 ?_)
 refine X8 U7 (by exact a44) (hS.get (mR mL)) rfl rfl ?_
 have hS := hS.perm F3
 refine W1 (v := vA ([c2])) (vs := ([c2]).toArray) (cs := ([vN]).toArray) U7 (by exact p5) rfl rfl hS rfl (S2 h4.isOne) rfl ?_
 intro ch2 hS
 have hS := hS.perm F3.symm
 refine Z0 ?_
 refine Y9 (vs := [vA ([c2])]) Tryz.func143 ⟨⟨_, (by exact p5), U8 U7 (hS.get (mR (mR mL))) rfl⟩, trivial⟩ ?_
 obtain ⟨b71, aj8, hS, k9⟩ := U1.freezeF (τ := yT) (H0 := H) h4 hS Z2
 have bq2 := Y3.old k9
 have k9 : RdF yT H b71 c2 c6 := k9
 have Z2 := Z2.trans aj8
 have hz := Option.some.inj a46
 subst hz
 exact ⟨_, _, rfl, Z2, (St.dropA (St.dropA (St.dropA (St.dropA hS)))), ⟨_, rfl, ⟨_, rfl, k9⟩⟩⟩
end Go.Proofs.YtfodlhkoafhplaaGreat
