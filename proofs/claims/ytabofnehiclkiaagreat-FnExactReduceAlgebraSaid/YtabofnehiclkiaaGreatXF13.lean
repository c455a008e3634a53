/- Walks of functions: each computes its pure function, if that gives a value. -/
import Derived.Test.YtabofnehiclkiaaGreatXTy
import Derived.Test.YtabofnehiclkiaaGreatXF11
import Derived.Test.YtabofnehiclkiaaGreatXF8
import Derived.Test.YtabofnehiclkiaaGreatXF6
import Derived.Test.YtabofnehiclkiaaGreatXF10
import Derived.Test.YtabofnehiclkiaaGreatXF12
namespace Go.Proofs.YtabofnehiclkiaaGreat
open Go
set_option linter.unusedSimpArgs false
set_option linter.unusedVariables false
set_option maxRecDepth 100000
set_option maxHeartbeats 8000000
variable {K : Nat} {H : FH} {w : World} {L : OL} {s0 s1 s2 s3 s4 s5 s6 : Value}
def E7 (K : Nat) (a0 : ((List Int) × (List MpT))) : Nat → Int → Option (Ex Bool (Unit))
 | 0, _ => none
 | k + 1, b0 => (if b0 < (a0.2.length : Int) then ((Ya7 K (a0.1, a0.2) (rd a0.2 b0)).bind fun b5 => (if 0 < (b5.length : Int) then some (.ret false) else E7 K a0 k (b0 + 1))) else some (.go ()))
def D1 (K : Nat) (a0 : ((List Int) × (List MpT))) : Nat → Int → Option (Ex Bool (Unit))
 | 0, _ => none
 | k + 1, a1 => (if a1 < (a0.2.length : Int) then ((Zp7 K a0.1 (rd a0.2 a1)).bind fun c3 => (if c3 = true then ((Zq1 K a0.1 (rd a0.2 a1)).bind fun a7 => (if a7.2 = true then (if 0 < ((rd a0.2 a1).length : Int) then (if a1 < (a0.1.length : Int) then (if a7.1 = (IntKind.i64.wrap ((rd a0.1 a1) + 1)) then D1 K a0 k (a1 + 1) else some (.ret false)) else none) else D1 K a0 k (a1 + 1)) else some (.ret false))) else some (.ret false))) else some (.go ()))
def Zs5 (K : Nat) (a0 : ((List Int) × (List MpT))) (b3 : Bool) : Option Bool := (if b3 = true then some false else ((D1 K a0 K 0).bind (Ex.elim (fun r => some r) (fun s => ((E7 K a0 K 0).bind (Ex.elim (fun r => some r) (fun s => some true)))))))
def Zy8 (K : Nat) (a0 : ((List Int) × (List MpT))) : Option Bool := ((Zo8 K a0.1).bind fun c7 => (if c7 = true then Zs5 K a0 (!decide ((a0.2.length : Int) = (a0.1.length : Int))) else Zs5 K a0 true))
theorem Xi4 {a0 : ((List Int) × (List MpT))} {r : Bool} (q0 : Zy8 K a0 = some r) (a5 : Z9 (Y6 .i64) H s0 a0.1) (a6 : Z9 (Y9 yT) H s1 a0.2) (hS : St H w L) :
 Calls Tryz.prog 72 #[vA ([s0] ++ [s1])] w (T2 (fun v G => R.bool.p G v r) H L) := by
 have Z3 := Sub.refl H
 refine X3 Tryz.func72 rfl Tryz.ntmps72 rfl ?_
 unfold Zy8 at q0
 refine Z2 (Z0 ?_)
 refine S3 (v := vA ([s0] ++ [s1])) ([s0] ++ [s1]).toArray rfl rfl hS rfl ?_
 intro b1 _ hS
 refine Z5 (vB false) rfl rfl (Z1 (Z2 (Z2 ?_)))
 refine Zb0 (fun f w => ∃ (b3 : Bool) (H1 : FH), Zs5 K a0 b3 = some r ∧ Sub H H1 ∧ St H1 w ([(b1, cA ([s0] ++ [s1]) 31)] ++ L) ∧ Z9 (Y6 .i64) H1 s0 a0.1 ∧ Z9 (Y9 yT) H1 s1 a0.2 ∧ tv f 1 = vP b1 ∧ tv f 19 = vB b3) ?_ ?_
 rintro _ _ ⟨b3, g8, c4, Z3, hS, a5, a6, f2, c5⟩
 unfold Zs5 at c4
 obtain ⟨f3, c4⟩ | ⟨f3, c4⟩ := ic c4
 refine Y0 (Eq.trans (by exact c5) (congrArg vB f3)) (Z2 (Z0 (Z5 (vB false) rfl rfl (Z1 ?_))))
 refine X0 (vs := [vB false]) Tryz.func72 ⟨rfl, trivial⟩ ?_
 obtain rfl := oi c4
 exact ⟨_, _, rfl, Z3, (St.dropA hS), rfl⟩
 refine Z8 (Eq.trans (by exact c5) (congrArg vB (X8 f3))) (Y8 (Z2 (Z2 (Z0 (Z5 (vI 0) rfl rfl (Z1 (Y7 ?_)))))))
 obtain ⟨f4, a3, b6⟩ := bind_some c4
 refine W1 (id := 0) (fun k f w => ∃ (a1 : Int) (H1 : FH), D1 K a0 k a1 = some f4 ∧ Sub H H1 ∧ St H1 w ([(b1, cA ([s0] ++ [s1]) 31)] ++ L) ∧ 0 ≤ a1 ∧ Z9 (Y6 .i64) H1 s0 a0.1 ∧ Z9 (Y9 yT) H1 s1 a0.2 ∧ tv f 1 = vP b1 ∧ tv f 3 = vI a1) (fun f w => ∃ (H1 : FH), f4 = .go () ∧ Sub H H1 ∧ St H1 w ([(b1, cA ([s0] ++ [s1]) 31)] ++ L) ∧ Z9 (Y6 .i64) H1 s0 a0.1 ∧ Z9 (Y9 yT) H1 s1 a0.2 ∧ tv f 1 = vP b1) rfl ?_ ?_ K ?_ ?_
 rintro f w ⟨a1, H1, a3, _⟩
 rw [D1] at a3; cases a3
 rintro k _ _ j1 l1 ⟨a1, j3, a3, Z3, hS, _, a5, a6, b4, b8⟩
 rw [D1] at a3
 refine Z2 (Z2 (Z0 (Z4 (vI a1) (by exact b8) rfl (Y2 P2 (by exact b4) rfl ?_))))
 refine Y3 (s1) Zd6 rfl (hS.get mL) rfl rfl ?_
 have m4 := a6.bound
 refine W7 P6 rfl a6 rfl ?_
 refine V5 (k := .i64) (a := a1) (b := (a0.2.length : Int)) rfl rfl rfl (Z1 ?_)
 obtain ⟨f5, a3⟩ | ⟨f5, a3⟩ := ic a3
 refine Y0 (bT f5 rfl) (Y8 (Z2 (Y7 (Z2 (Z2 ?_)))))
 obtain ⟨l2, l3, _, _, _, j4, j5, ⟨e3, rfl, c2⟩, j6⟩ := a6.elem (i := a1) (by omega) (by omega)
 obtain ⟨c3, j7, a3⟩ := bind_some a3
 refine U1 9 (P0 [mE 27 (vP b1), mE 28 (s0), mE 29 (vQ b1 1), mE 30 (s1), mE 31 (vI a1), mE 32 (vQ l2 l3), mE 33 (vA ([e3])), mE 34 (vB c3), mE 35 (vB (!c3))]) [] mixed rfl rfl rfl hS (Z6 rfl ?_ (Z6 rfl ?_ (Z6 rfl ?_ (Z6 rfl ?_ (Z6 rfl ?_ (Z6 rfl ?_ (Z6 rfl ?_ (Z6 rfl ?_ (Z6 rfl ?_ U7))))))))) ?_
 exact W5 fun S B => Y2 R4 (evT (B 1 rfl) b4) rfl (qz S)
 exact X2 fun S V => Y3 (s0) M9 (eM (V 0 27 rfl rfl)) (S.get (mR mL)) rfl rfl (qz S)
 exact W5 fun S B => Y2 P2 (evT (B 1 rfl) b4) rfl (qz S)
 exact X2 fun S V => Y3 (s1) Zd6 (eM (V 2 29 rfl rfl)) (S.get (mR mL)) rfl rfl (qz S)
 exact W5 fun S B => Z4 (vI a1) (evT (B 3 rfl) b8) rfl (qz S)
 exact X2 fun S V => X9 P6 rfl (eM (V 3 30 rfl rfl)) j4 (eM (V 4 31 rfl rfl)) (by omega) (by omega) rfl (qz S)
 exact E6 fun s S V => W9 ([e3]) U2 (eM (V 5 32 rfl rfl)) (S.froz _ _ (s.1 _ _ j5)) rfl j6 rfl (qz S)
 intro _ _ _ _ f6 hS _ f7 hcq
 have a5 := a5.mono f6
 have c2 := c2.mono f6
 refine X6 Tryz.call145 (U9 (eM (f7 1 28 rfl rfl)) (eM (f7 6 33 rfl rfl))) rfl (Yn9 j7 a5 c2 hS) ?_
 rintro _ _ _ j8 hS rfl
 exact qn j8 rfl hS rfl
 exact X2 fun S V => K9 (b := c3) (eM (V 7 34 rfl rfl)) rfl (qz S)
 intro l4 l5 l6 e1 hS f8 j9 hcq
 have hS : St l6 l5 ([(b1, cA ([s0] ++ [s1]) 31)] ++ L) := hS
 have Z3 := Z3.trans e1
 have a5 := a5.mono e1
 have a6 := a6.mono e1
 have f9 := evT (f8 1 rfl) b4
 have g0 := evT (f8 3 rfl) b8
 have g1 : tv l4 35 = vB (!c3) := j9 8 35 (by decide) rfl
 refine Z1 ?_
 obtain ⟨c8, a3⟩ | ⟨c8, a3⟩ := ic a3
 refine Z8 (Eq.trans (by exact g1) (congrArg (fun b => vB (!b)) c8)) (Y8 (Z2 ?_))
 obtain ⟨k0, k1, _, _, _, g9, h0, ⟨d9, rfl, b9⟩, h1⟩ := a6.elem (i := a1) (by omega) (by omega)
 obtain ⟨a7, h2, a3⟩ := bind_some a3
 refine U1 13 (P0 [mE 37 (vP b1), mE 38 (s0), mE 39 (vQ b1 1), mE 40 (s1), mE 41 (vI a1), mE 42 (vQ k0 k1), mE 43 (vA ([d9])), mE 44 (Value.tuple #[vI a7.1, vB a7.2]), mE 36 (Value.tuple #[vI a7.1, vB a7.2]), mE 45 (vI a7.1), mE 46 (vB a7.2), mE 4 (vI a7.1), mE 5 (vB a7.2)]) [] mixed rfl rfl rfl hS (Z6 rfl ?_ (Z6 rfl ?_ (Z6 rfl ?_ (Z6 rfl ?_ (Z6 rfl ?_ (Z6 rfl ?_ (Z6 rfl ?_ (Z6 rfl ?_ (Z6 rfl ?_ (Z6 rfl ?_ (Z6 rfl ?_ (Z6 rfl ?_ (Z6 rfl ?_ U7))))))))))))) ?_
 exact W5 fun S B => Y2 R4 (evT (B 1 rfl) f9) rfl (qz S)
 exact X2 fun S V => Y3 (s0) M9 (eM (V 0 37 rfl rfl)) (S.get (mR mL)) rfl rfl (qz S)
 exact W5 fun S B => Y2 P2 (evT (B 1 rfl) f9) rfl (qz S)
 exact X2 fun S V => Y3 (s1) Zd6 (eM (V 2 39 rfl rfl)) (S.get (mR mL)) rfl rfl (qz S)
 exact W5 fun S B => Z4 (vI a1) (evT (B 3 rfl) g0) rfl (qz S)
 exact X2 fun S V => X9 P6 rfl (eM (V 3 40 rfl rfl)) g9 (eM (V 4 41 rfl rfl)) (by omega) (by omega) rfl (qz S)
 exact E6 fun s S V => W9 ([d9]) U2 (eM (V 5 42 rfl rfl)) (S.froz _ _ (s.1 _ _ h0)) rfl h1 rfl (qz S)
 intro _ _ _ _ e4 hS _ e5 hcq
 have a5 := a5.mono e4
 have b9 := b9.mono e4
 refine X6 Tryz.call146 (U9 (eM (e5 1 38 rfl rfl)) (eM (e5 6 43 rfl rfl))) rfl (Yv6 h2 a5 b9 hS) ?_
 rintro _ _ _ h3 hS ⟨_, _, rfl, rfl, rfl⟩
 exact qn h3 rfl hS rfl
 exact X2 fun S V => Z4 (Value.tuple #[vI a7.1, vB a7.2]) (eM (V 7 44 rfl rfl)) rfl (qz S)
 exact X2 fun S V => W4 (vI a7.1) (eM (V 8 36 rfl rfl)) rfl rfl (qz S)
 exact X2 fun S V => W4 (vB a7.2) (eM (V 8 36 rfl rfl)) rfl rfl (qz S)
 exact X2 fun S V => Z5 (vI a7.1) (eM (V 9 45 rfl rfl)) rfl (qz S)
 exact X2 fun S V => Z5 (vB a7.2) (eM (V 10 46 rfl rfl)) rfl (qz S)
 intro _ k2 e2 c9 hS e6 e7 hcq
 have hS : St e2 k2 ([(b1, cA ([s0] ++ [s1]) 31)] ++ L) := hS
 have Z3 := Z3.trans c9
 have a5 := a5.mono c9
 have a6 := a6.mono c9
 have d0 := evT (e6 1 rfl) f9
 have d1 := evT (e6 3 rfl) g0
 refine Z1 (Z2 (Z0 (Z4 (vB a7.2) (by exact (eM (e7 12 5 (by decide) rfl))) rfl (K9 (b := a7.2) rfl rfl (Z4 (vB (!a7.2)) rfl rfl ?_)))))
 obtain ⟨a4, a3⟩ | ⟨a4, a3⟩ := ic a3
 refine Y4 rfl rfl (Eq.trans rfl (congrArg (fun b => vB (!b)) a4)) (Y2 P2 (by exact d0) rfl ?_)
 refine Y4 rfl rfl (Eq.trans rfl (congrArg (fun b => vB (!b)) a4)) ?_
 refine Y3 (s1) Zd6 rfl (hS.get mL) rfl rfl ?_
 refine Y4 rfl rfl (Eq.trans rfl (congrArg (fun b => vB (!b)) a4)) (Z4 (vI a1) (by exact d1) rfl ?_)
 obtain ⟨_, _, _, _, _, h4, h5, ⟨g2, rfl, c6⟩, h6⟩ := a6.elem (i := a1) (by omega) (by omega)
 refine Y4 rfl rfl (Eq.trans rfl (congrArg (fun b => vB (!b)) a4)) ?_
 refine X9 P6 rfl rfl h4 rfl (by omega) (by omega) rfl ?_
 refine Y4 rfl rfl (Eq.trans rfl (congrArg (fun b => vB (!b)) a4)) (Y2 V9 rfl rfl ?_)
 refine Y4 rfl rfl (Eq.trans rfl (congrArg (fun b => vB (!b)) a4)) ?_
 refine Y3 (g2) Q4 rfl (hS.froz _ _ h5) (h6 0 (show 0 < 1 by decide)) rfl ?_
 have m0 := c6.bound
 refine Y4 rfl rfl (Eq.trans rfl (congrArg (fun b => vB (!b)) a4)) ?_
 refine W7 R7 rfl c6 rfl ?_
 refine Y4 rfl rfl (Eq.trans rfl (congrArg (fun b => vB (!b)) a4)) ?_
 refine Zi5 (k := .i64) (a := ((rd a0.2 a1).length : Int)) (b := 0) rfl rfl rfl ?_
 refine Y4 rfl rfl (Eq.trans rfl (congrArg (fun b => vB (!b)) a4)) (Z4 (vB (decide (0 < ((rd a0.2 a1).length : Int)))) rfl rfl ?_)
 obtain ⟨a8, a3⟩ | ⟨a8, a3⟩ := ic a3
 refine Y4 rfl rfl (bT a8 rfl) (Z4 (vI a7.1) (by exact (eM (e7 11 4 (by decide) rfl))) rfl ?_)
 refine Y4 rfl rfl (bT a8 rfl) (Y2 R4 (by exact d0) rfl ?_)
 refine Y4 rfl rfl (bT a8 rfl) ?_
 refine Y3 (s0) M9 rfl (hS.get mL) rfl rfl ?_
 refine Y4 rfl rfl (bT a8 rfl) (Z4 (vI a1) (by exact d1) rfl ?_)
 refine Y4 rfl rfl (bT a8 rfl) ?_
 obtain ⟨_, a3⟩ := gd a3
 obtain ⟨_, _, _, _, _, h7, h8, rfl, h9⟩ := a5.elem (i := a1) (by omega) (by omega)
 refine X9 Q0 rfl rfl h7 rfl (by omega) (by omega) rfl ?_
 refine Y4 rfl rfl (bT a8 rfl) ?_
 refine Y3 (vI (rd a0.1 a1)) ty2 rfl (hS.froz _ _ h8) (h9 0 (show 0 < 1 by decide)) rfl ?_
 refine Y4 rfl rfl (bT a8 rfl) ?_
 refine W8 (IntKind.i64.wrap ((rd a0.1 a1) + 1)) rfl rfl rfl rfl ?_
 refine Y4 rfl rfl (bT a8 rfl) ?_
 refine L7 (k := .i64) (a := a7.1) (b := (IntKind.i64.wrap ((rd a0.1 a1) + 1))) rfl rfl rfl ?_
 refine Y4 rfl rfl (Eq.trans rfl (congrArg (fun b => vB (!b)) a4)) ?_
 refine V0 (t := true) (vB (!decide (a7.1 = (IntKind.i64.wrap ((rd a0.1 a1) + 1))))) (bT a8 rfl) ((if_pos rfl).trans rfl) rfl ?_
 refine V0 (t := false) (vB (!decide (a7.1 = (IntKind.i64.wrap ((rd a0.1 a1) + 1))))) (Eq.trans rfl (congrArg (fun b => vB (!b)) a4)) ((if_neg Bool.false_ne_true).trans rfl) rfl (Z1 ?_)
 obtain ⟨d2, a3⟩ | ⟨d2, a3⟩ := ic a3
 refine Z8 (bN d2 rfl) (Y8 (X4 (Z0 (Z4 (vI a1) (by exact d1) rfl ?_))))
 refine W8 (a1 + 1) rfl rfl (IntWalk.i64_in _ (by omega)) rfl (Z5 (vI (a1 + 1)) rfl rfl (Z1 ?_))
 exact j1 _ _ ⟨(a1 + 1), e2, a3, Z3, hS, (by omega), a5, a6, d0, rfl⟩
 refine Y0 (bO d2 rfl) (Z2 (Z0 (Z5 (vB false) rfl rfl (Z1 ?_))))
 refine X0 (vs := [vB false]) Tryz.func72 ⟨rfl, trivial⟩ ?_
 obtain rfl := oi a3
 dsimp only [Ex.elim] at b6
 obtain rfl := oi b6
 exact ⟨_, _, rfl, Z3, (St.dropA hS), rfl⟩
 refine Y1 rfl rfl (bF a8 rfl) rfl rfl rfl (Y1 rfl rfl (bF a8 rfl) rfl rfl rfl (Y1 rfl rfl (bF a8 rfl) rfl rfl rfl (Y1 rfl rfl (bF a8 rfl) rfl rfl rfl (Y1 rfl rfl (bF a8 rfl) rfl rfl rfl (Y1 rfl rfl (bF a8 rfl) rfl rfl rfl (Y1 rfl rfl (bF a8 rfl) rfl rfl rfl (Y1 rfl rfl (bF a8 rfl) rfl rfl rfl ?_)))))))
 refine Y4 rfl rfl (Eq.trans rfl (congrArg (fun b => vB (!b)) a4)) ?_
 refine V0 (t := false) (vB false) (bF a8 rfl) ((if_neg Bool.false_ne_true).trans rfl) rfl ?_
 refine V0 (t := false) (vB false) (Eq.trans rfl (congrArg (fun b => vB (!b)) a4)) ((if_neg Bool.false_ne_true).trans rfl) rfl (Z1 (Z8 rfl (Y8 (X4 (Z0 (Z4 (vI a1) (by exact d1) rfl ?_))))))
 refine W8 (a1 + 1) rfl rfl (IntWalk.i64_in _ (by omega)) rfl (Z5 (vI (a1 + 1)) rfl rfl (Z1 ?_))
 exact j1 _ _ ⟨(a1 + 1), e2, a3, Z3, hS, (by omega), a5, a6, d0, rfl⟩
 refine Y1 rfl rfl (Eq.trans rfl (congrArg (fun b => vB (!b)) (X8 a4))) rfl rfl rfl (Y1 rfl rfl (Eq.trans rfl (congrArg (fun b => vB (!b)) (X8 a4))) rfl rfl rfl (Y1 rfl rfl (Eq.trans rfl (congrArg (fun b => vB (!b)) (X8 a4))) rfl rfl rfl (Y1 rfl rfl (Eq.trans rfl (congrArg (fun b => vB (!b)) (X8 a4))) rfl rfl rfl (Y1 rfl rfl (Eq.trans rfl (congrArg (fun b => vB (!b)) (X8 a4))) rfl rfl rfl (Y1 rfl rfl (Eq.trans rfl (congrArg (fun b => vB (!b)) (X8 a4))) rfl rfl rfl (Y1 rfl rfl (Eq.trans rfl (congrArg (fun b => vB (!b)) (X8 a4))) rfl rfl rfl (Y1 rfl rfl (Eq.trans rfl (congrArg (fun b => vB (!b)) (X8 a4))) rfl rfl rfl (Y1 rfl rfl (Eq.trans rfl (congrArg (fun b => vB (!b)) (X8 a4))) rfl rfl rfl ?_))))))))
 refine U6 rfl rfl rfl rfl rfl ?_
 refine U6 rfl rfl rfl rfl rfl ?_
 refine U6 rfl rfl rfl rfl rfl ?_
 refine U6 rfl rfl rfl rfl rfl ?_
 refine U6 rfl rfl rfl rfl rfl ?_
 refine U6 rfl rfl rfl rfl rfl ?_
 refine U6 rfl rfl rfl rfl rfl ?_
 refine U6 rfl rfl rfl rfl rfl (Y1 rfl rfl (Eq.trans rfl (congrArg (fun b => vB (!b)) (X8 a4))) rfl rfl rfl ?_)
 refine V0 (t := true) (vB true) (Eq.trans rfl (congrArg (fun b => vB (!b)) (X8 a4))) ((if_pos rfl).trans rfl) rfl (Z1 (Y0 rfl (Z2 (Z0 (Z5 (vB false) rfl rfl (Z1 ?_))))))
 refine X0 (vs := [vB false]) Tryz.func72 ⟨rfl, trivial⟩ ?_
 obtain rfl := oi a3
 dsimp only [Ex.elim] at b6
 obtain rfl := oi b6
 exact ⟨_, _, rfl, Z3, (St.dropA hS), rfl⟩
 refine Y0 (Eq.trans (by exact g1) (congrArg (fun b => vB (!b)) (X8 c8))) (Z2 (Z0 (Z5 (vB false) rfl rfl (Z1 ?_))))
 refine X0 (vs := [vB false]) Tryz.func72 ⟨rfl, trivial⟩ ?_
 obtain rfl := oi a3
 dsimp only [Ex.elim] at b6
 obtain rfl := oi b6
 exact ⟨_, _, rfl, Z3, (St.dropA hS), rfl⟩
 refine Z8 (bF f5 rfl) ?_
 refine W0 rfl ?_
 obtain rfl := oi a3
 exact l1 _ _ ⟨j3, rfl, Z3, hS, a5, a6, b4⟩
 exact ⟨0, g8, a3, Z3, hS, (by omega), a5, a6, f2, rfl⟩
 rintro _ _ ⟨k3, rfl, Z3, hS, a5, a6, f0⟩
 dsimp only [Ex.elim] at b6
 refine Z2 (Z2 (Z0 (Z5 (vI 0) rfl rfl (Z1 (Y7 ?_)))))
 obtain ⟨g3, b2, d3⟩ := bind_some b6
 refine W1 (id := 2) (fun k f w => ∃ (b0 : Int) (H1 : FH), E7 K a0 k b0 = some g3 ∧ Sub H H1 ∧ St H1 w ([(b1, cA ([s0] ++ [s1]) 31)] ++ L) ∧ 0 ≤ b0 ∧ Z9 (Y6 .i64) H1 s0 a0.1 ∧ Z9 (Y9 yT) H1 s1 a0.2 ∧ tv f 1 = vP b1 ∧ tv f 6 = vI b0) (fun f w => ∃ (H1 : FH), g3 = .go () ∧ Sub H H1 ∧ St H1 w ([(b1, cA ([s0] ++ [s1]) 31)] ++ L) ∧ Z9 (Y6 .i64) H1 s0 a0.1 ∧ Z9 (Y9 yT) H1 s1 a0.2) rfl ?_ ?_ K ?_ ?_
 rintro f w ⟨b0, H1, b2, _⟩
 rw [E7] at b2; cases b2
 rintro k _ _ l7 l9 ⟨b0, k4, b2, Z3, hS, _, a5, a6, b7, c0⟩
 rw [E7] at b2
 refine Z2 (Z2 (Z0 (Z4 (vI b0) (by exact c0) rfl (Y2 P2 (by exact b7) rfl ?_))))
 refine Y3 (s1) Zd6 rfl (hS.get mL) rfl rfl ?_
 have m1 := a6.bound
 refine W7 P6 rfl a6 rfl ?_
 refine V5 (k := .i64) (a := b0) (b := (a0.2.length : Int)) rfl rfl rfl (Z1 ?_)
 obtain ⟨d4, b2⟩ | ⟨d4, b2⟩ := ic b2
 refine Y0 (bT d4 rfl) (Y8 (Z2 (Y7 (Z2 ?_))))
 obtain ⟨k5, k6, _, _, _, i0, i1, ⟨e0, rfl, c1⟩, i2⟩ := a6.elem (i := b0) (by omega) (by omega)
 obtain ⟨b5, i3, b2⟩ := bind_some b2
 refine U1 10 (P0 [mE 76 (vA ([s0] ++ [s1])), mE 77 (vQ b1 1), mE 78 (s1), mE 79 (vI b0), mE 80 (vQ k5 k6), mE 81 (vA ([e0])), (82, MP.rep (R.agg (Y9 yT)) (b5)), (83, MP.sl yT (b5)), mE 84 (vI (b5.length : Int)), mE 85 (vB (decide (0 < (b5.length : Int))))]) [] mixed rfl rfl rfl hS (Z6 rfl ?_ (Z6 rfl ?_ (Z6 rfl ?_ (Z6 rfl ?_ (Z6 rfl ?_ (Z6 rfl ?_ (Z6 rfl ?_ (Z6 rfl ?_ (Z6 rfl ?_ (Z6 rfl ?_ U7)))))))))) ?_
 exact W5 fun S B => X7 S5 (evT (B 1 rfl) b7) (S.get (mR mL)) rfl rfl (qz S)
 exact W5 fun S B => Y2 P2 (evT (B 1 rfl) b7) rfl (qz S)
 exact X2 fun S V => Y3 (s1) Zd6 (eM (V 1 77 rfl rfl)) (S.get (mR mL)) rfl rfl (qz S)
 exact W5 fun S B => Z4 (vI b0) (evT (B 6 rfl) c0) rfl (qz S)
 exact X2 fun S V => X9 P6 rfl (eM (V 2 78 rfl rfl)) i0 (eM (V 3 79 rfl rfl)) (by omega) (by omega) rfl (qz S)
 exact E6 fun s S V => W9 ([e0]) U2 (eM (V 4 80 rfl rfl)) (S.froz _ _ (s.1 _ _ i1)) rfl i2 rfl (qz S)
 intro _ _ _ _ d5 hS _ e8 hcq
 have a5 := a5.mono d5
 have a6 := a6.mono d5
 have c1 := c1.mono d5
 refine X6 Tryz.call119 (U9 (eM (e8 0 76 rfl rfl)) (eM (e8 5 81 rfl rfl))) rfl (Xl5 i3 a5 a6 c1 hS) ?_
 rintro _ _ _ i4 hS i5
 exact qn i4 rfl hS i5
 intro _ _ _ _ _ hS _ i6 hcq
 obtain ⟨_, k7, ⟨_, rfl, ⟨g4, rfl, f1⟩⟩⟩ := gvR (i6 6 82 rfl rfl)
 refine Wd4 (g4) Ww4 k7 rfl rfl ?_
 exact qn (.refl _) rfl hS f1
 intro _ _ _ _ _ hS _ i7 hcq
 obtain ⟨_, k8, i8⟩ := gvS (i7 7 83 rfl rfl)
 refine W7 R7 k8 i8 rfl ?_
 exact qn (.refl _) rfl hS rfl
 exact X2 fun S V => Zi5 (k := .i64) (a := (b5.length : Int)) (b := 0) (eM (V 8 84 rfl rfl)) rfl rfl (qz S)
 intro k9 l0 g5 d6 hS e9 i9 hcq
 have hS : St g5 l0 ([(b1, cA ([s0] ++ [s1]) 31)] ++ L) := hS
 have Z3 := Z3.trans d6
 have a5 := a5.mono d6
 have a6 := a6.mono d6
 have g6 : tv k9 85 = vB (decide (0 < (b5.length : Int))) := i9 9 85 (by decide) rfl
 refine Z1 ?_
 obtain ⟨d7, b2⟩ | ⟨d7, b2⟩ := ic b2
 refine Y0 (bT d7 (by exact g6)) (Z2 (Z0 (Z5 (vB false) rfl rfl (Z1 ?_))))
 refine X0 (vs := [vB false]) Tryz.func72 ⟨rfl, trivial⟩ ?_
 obtain rfl := oi b2
 dsimp only [Ex.elim] at d3
 obtain rfl := oi d3
 exact ⟨_, _, rfl, Z3, (St.dropA hS), rfl⟩
 refine Z8 (bF d7 (by exact g6)) (Y8 (X4 (Z0 (Z4 (vI b0) (by exact (evT (e9 6 rfl) c0)) rfl ?_))))
 refine W8 (b0 + 1) rfl rfl (IntWalk.i64_in _ (by omega)) rfl (Z5 (vI (b0 + 1)) rfl rfl (Z1 ?_))
 exact l7 _ _ ⟨(b0 + 1), g5, b2, Z3, hS, (by omega), a5, a6, (evT (e9 1 rfl) b7), rfl⟩
 refine Z8 (bF d4 rfl) ?_
 refine W0 rfl ?_
 obtain rfl := oi b2
 exact l9 _ _ ⟨k4, rfl, Z3, hS, a5, a6⟩
 exact ⟨0, k3, b2, Z3, hS, (by omega), a5, a6, f0, rfl⟩
 rintro _ _ ⟨_, rfl, Z3, hS, a5, a6⟩
 dsimp only [Ex.elim] at d3
 refine Z2 (Z0 (Z5 (vB true) rfl rfl (Z1 ?_)))
 refine X0 (vs := [vB true]) Tryz.func72 ⟨rfl, trivial⟩ ?_
 obtain rfl := oi d3
 exact ⟨_, _, rfl, Z3, (St.dropA hS), rfl⟩
 intro j2
 refine Z0 (Y2 R4 rfl rfl ?_)
 refine Y3 (s0) M9 rfl (hS.get mL) rfl rfl ?_
 obtain ⟨c7, j0, q0⟩ := bind_some q0
 refine X6 Tryz.call144 (S2 rfl) rfl (Yv0 j0 a5 hS) ?_
 rintro _ g7 _ d8 hS rfl
 have Z3 := Z3.trans d8
 have a5 := a5.mono d8
 have a6 := a6.mono d8
 refine K9 (b := c7) rfl rfl (Z4 (vB (!c7)) rfl rfl ?_)
 obtain ⟨a9, q0⟩ | ⟨a9, q0⟩ := ic q0
 refine Y4 rfl rfl (Eq.trans rfl (congrArg (fun b => vB (!b)) a9)) (Y2 P2 rfl rfl ?_)
 refine Y4 rfl rfl (Eq.trans rfl (congrArg (fun b => vB (!b)) a9)) ?_
 refine Y3 (s1) Zd6 rfl (hS.get mL) rfl rfl ?_
 have m2 := a6.bound
 refine Y4 rfl rfl (Eq.trans rfl (congrArg (fun b => vB (!b)) a9)) ?_
 refine W7 P6 rfl a6 rfl ?_
 refine Y4 rfl rfl (Eq.trans rfl (congrArg (fun b => vB (!b)) a9)) (Y2 R4 rfl rfl ?_)
 refine Y4 rfl rfl (Eq.trans rfl (congrArg (fun b => vB (!b)) a9)) ?_
 refine Y3 (s0) M9 rfl (hS.get mL) rfl rfl ?_
 have m3 := a5.bound
 refine Y4 rfl rfl (Eq.trans rfl (congrArg (fun b => vB (!b)) a9)) ?_
 refine W7 Q0 rfl a5 rfl ?_
 refine Y4 rfl rfl (Eq.trans rfl (congrArg (fun b => vB (!b)) a9)) ?_
 refine L7 (k := .i64) (a := (a0.2.length : Int)) (b := (a0.1.length : Int)) rfl rfl rfl ?_
 refine V0 (t := false) (vB (!decide ((a0.2.length : Int) = (a0.1.length : Int)))) (Eq.trans rfl (congrArg (fun b => vB (!b)) a9)) ((if_neg Bool.false_ne_true).trans rfl) rfl (Z1 ?_)
 exact j2 _ _ ⟨(!decide ((a0.2.length : Int) = (a0.1.length : Int))), g7, q0, Z3, hS, a5, a6, rfl, rfl⟩
 refine Y1 rfl rfl (Eq.trans rfl (congrArg (fun b => vB (!b)) (X8 a9))) rfl rfl rfl (Y1 rfl rfl (Eq.trans rfl (congrArg (fun b => vB (!b)) (X8 a9))) rfl rfl rfl (Y1 rfl rfl (Eq.trans rfl (congrArg (fun b => vB (!b)) (X8 a9))) rfl rfl rfl (Y1 rfl rfl (Eq.trans rfl (congrArg (fun b => vB (!b)) (X8 a9))) rfl rfl rfl (Y1 rfl rfl (Eq.trans rfl (congrArg (fun b => vB (!b)) (X8 a9))) rfl rfl rfl (Y1 rfl rfl (Eq.trans rfl (congrArg (fun b => vB (!b)) (X8 a9))) rfl rfl rfl (Y1 rfl rfl (Eq.trans rfl (congrArg (fun b => vB (!b)) (X8 a9))) rfl rfl rfl ?_))))))
 refine V0 (t := true) (vB true) (Eq.trans rfl (congrArg (fun b => vB (!b)) (X8 a9))) ((if_pos rfl).trans rfl) rfl (Z1 ?_)
 exact j2 _ _ ⟨true, g7, q0, Z3, hS, a5, a6, rfl, rfl⟩
def F7 (K : Nat) (a0 : (List MpT)) (a1 : (List MpT)) : Nat → Int → Option (Ex Bool (Unit))
 | 0, _ => none
 | k + 1, a3 => (if a3 < (a0.length : Int) then (if a3 < (a1.length : Int) then ((Zx3 K (rd a0 a3) (rd a1 a3)).bind fun a7 => (if a7 = true then F7 K a0 a1 k (a3 + 1) else some (.ret false))) else none) else some (.go ()))
def Zh8 (K : Nat) (a0 : (List MpT)) (a1 : (List MpT)) : Option Bool := (if (a0.length : Int) = (a1.length : Int) then ((F7 K a0 a1 K 0).bind (Ex.elim (fun r => some r) (fun s => some true))) else some false)
theorem Zt8 {a0 : (List MpT)} {a1 : (List MpT)} {r : Bool} (q0 : Zh8 K a0 a1 = some r) (a6 : Z9 (Y9 yT) H s0 a0) (a9 : Z9 (Y9 yT) H s1 a1) (hS : St H w L) :
 Calls Tryz.prog 32 #[s0, s1] w (T2 (fun v G => R.bool.p G v r) H L) := by
 have Z3 := Sub.refl H
 refine X3 Tryz.func32 rfl Tryz.ntmps32 rfl ?_
 unfold Zh8 at q0
 refine Z2 (Z0 (Z5 (vB false) rfl rfl (Z1 (Z2 (Z2 (Z0 (Z4 (s0) rfl rfl ?_)))))))
 have e4 := a6.bound
 refine W7 P6 rfl a6 rfl (Z4 (s1) rfl rfl ?_)
 have e5 := a9.bound
 refine W7 P6 rfl a9 rfl ?_
 refine L7 (k := .i64) (a := (a0.length : Int)) (b := (a1.length : Int)) rfl rfl rfl (Z1 ?_)
 obtain ⟨b9, q0⟩ | ⟨b9, q0⟩ := ic q0
 refine Z8 (bN b9 rfl) (Y8 (Z2 (Z2 (Z0 (Z5 (vI 0) rfl rfl (Z1 (Y7 ?_)))))))
 obtain ⟨c0, a4, b3⟩ := bind_some q0
 refine W1 (id := 0) (fun k f w => ∃ (a3 : Int) (H1 : FH), F7 K a0 a1 k a3 = some c0 ∧ Sub H H1 ∧ St H1 w (L) ∧ 0 ≤ a3 ∧ Z9 (Y9 yT) H1 s0 a0 ∧ Z9 (Y9 yT) H1 s1 a1 ∧ tv f 0 = s0 ∧ tv f 1 = s1 ∧ tv f 5 = vI a3) (fun f w => ∃ (H1 : FH), c0 = .go () ∧ Sub H H1 ∧ St H1 w (L)) rfl ?_ ?_ K ?_ ?_
 rintro f w ⟨a3, H1, a4, _⟩
 rw [F7] at a4; cases a4
 rintro k _ _ d8 d9 ⟨a3, c9, a4, Z3, hS, _, a6, a9, a8, b2, a5⟩
 rw [F7] at a4
 refine Z2 (Z2 (Z0 (Z4 (vI a3) (by exact a5) rfl (Z4 (s0) (by exact a8) rfl ?_))))
 have e6 := a6.bound
 refine W7 P6 rfl a6 rfl ?_
 refine V5 (k := .i64) (a := a3) (b := (a0.length : Int)) rfl rfl rfl (Z1 ?_)
 obtain ⟨c1, a4⟩ | ⟨c1, a4⟩ := ic a4
 refine Y0 (bT c1 rfl) (Y8 (Z2 (Y7 (Z2 ?_))))
 obtain ⟨e0, e1, _, _, _, d0, d1, ⟨b7, rfl, b0⟩, d2⟩ := a6.elem (i := a3) (by omega) (by omega)
 obtain ⟨_, a4⟩ := gd a4
 obtain ⟨e2, e3, _, _, _, d3, d4, ⟨b8, rfl, b1⟩, d5⟩ := a9.elem (i := a3) (by omega) (by omega)
 obtain ⟨a7, c6, a4⟩ := bind_some a4
 refine U1 10 (P0 [mE 17 (s0), mE 18 (vI a3), mE 19 (vQ e0 e1), mE 20 (vA ([b7])), mE 21 (s1), mE 22 (vI a3), mE 23 (vQ e2 e3), mE 24 (vA ([b8])), mE 25 (vB a7), mE 26 (vB (!a7))]) [] mixed rfl rfl rfl hS (Z6 rfl ?_ (Z6 rfl ?_ (Z6 rfl ?_ (Z6 rfl ?_ (Z6 rfl ?_ (Z6 rfl ?_ (Z6 rfl ?_ (Z6 rfl ?_ (Z6 rfl ?_ (Z6 rfl ?_ U7)))))))))) ?_
 exact W5 fun S B => Z4 (s0) (evT (B 0 rfl) a8) rfl (qz S)
 exact W5 fun S B => Z4 (vI a3) (evT (B 5 rfl) a5) rfl (qz S)
 exact X2 fun S V => X9 P6 rfl (eM (V 0 17 rfl rfl)) d0 (eM (V 1 18 rfl rfl)) (by omega) (by omega) rfl (qz S)
 exact E6 fun s S V => W9 ([b7]) U2 (eM (V 2 19 rfl rfl)) (S.froz _ _ (s.1 _ _ d1)) rfl d2 rfl (qz S)
 exact W5 fun S B => Z4 (s1) (evT (B 1 rfl) b2) rfl (qz S)
 exact W5 fun S B => Z4 (vI a3) (evT (B 5 rfl) a5) rfl (qz S)
 exact X2 fun S V => X9 P6 rfl (eM (V 4 21 rfl rfl)) d3 (eM (V 5 22 rfl rfl)) (by omega) (by omega) rfl (qz S)
 exact E6 fun s S V => W9 ([b8]) U2 (eM (V 6 23 rfl rfl)) (S.froz _ _ (s.1 _ _ d4)) rfl d5 rfl (qz S)
 intro _ _ _ _ c2 hS _ c3 hcq
 have b0 := b0.mono c2
 have b1 := b1.mono c2
 refine X6 Tryz.call28 (U9 (eM (c3 3 20 rfl rfl)) (eM (c3 7 24 rfl rfl))) rfl (Xe9 c6 b0 b1 hS) ?_
 rintro _ _ _ c7 hS rfl
 exact qn c7 rfl hS rfl
 exact X2 fun S V => K9 (b := a7) (eM (V 8 25 rfl rfl)) rfl (qz S)
 intro d6 d7 c4 b4 hS b5 c8 hcq
 have hS : St c4 d7 (L) := hS
 have Z3 := Z3.trans b4
 have a6 := a6.mono b4
 have a9 := a9.mono b4
 have c5 : tv d6 26 = vB (!a7) := c8 9 26 (by decide) rfl
 refine Z1 ?_
 obtain ⟨b6, a4⟩ | ⟨b6, a4⟩ := ic a4
 refine Z8 (Eq.trans (by exact c5) (congrArg (fun b => vB (!b)) b6)) (Y8 (X4 (Z0 (Z4 (vI a3) (by exact (evT (b5 5 rfl) a5)) rfl ?_))))
 refine W8 (a3 + 1) rfl rfl (IntWalk.i64_in _ (by omega)) rfl (Z5 (vI (a3 + 1)) rfl rfl (Z1 ?_))
 exact d8 _ _ ⟨(a3 + 1), c4, a4, Z3, hS, (by omega), a6, a9, (evT (b5 0 rfl) a8), (evT (b5 1 rfl) b2), rfl⟩
 refine Y0 (Eq.trans (by exact c5) (congrArg (fun b => vB (!b)) (X8 b6))) (Z2 (Z0 (Z5 (vB false) rfl rfl (Z1 ?_))))
 refine X0 (vs := [vB false]) Tryz.func32 ⟨rfl, trivial⟩ ?_
 obtain rfl := oi a4
 dsimp only [Ex.elim] at b3
 obtain rfl := oi b3
 exact ⟨_, _, rfl, Z3, hS, rfl⟩
 refine Z8 (bF c1 rfl) ?_
 refine W0 rfl ?_
 obtain rfl := oi a4
 exact d9 _ _ ⟨c9, rfl, Z3, hS⟩
 exact ⟨0, H, a4, Z3, hS, (by omega), a6, a9, rfl, rfl, rfl⟩
 rintro _ _ ⟨_, rfl, Z3, hS⟩
 dsimp only [Ex.elim] at b3
 refine Z2 (Z0 (Z5 (vB true) rfl rfl (Z1 ?_)))
 refine X0 (vs := [vB true]) Tryz.func32 ⟨rfl, trivial⟩ ?_
 obtain rfl := oi b3
 exact ⟨_, _, rfl, Z3, hS, rfl⟩
 refine Y0 (bO b9 rfl) (Z2 (Z0 (Z5 (vB false) rfl rfl (Z1 ?_))))
 refine X0 (vs := [vB false]) Tryz.func32 ⟨rfl, trivial⟩ ?_
 obtain rfl := oi q0
 exact ⟨_, _, rfl, Z3, hS, rfl⟩
def D5 (K : Nat) (r1 : (List (List Int))) : Nat → Int → Option (Ex (Int × Int × Bool) (Unit))
 | 0, _ => none
 | k + 1, a1 => (if a1 < (r1.length : Int) then ((Yb0 K (rd r1 a1)).bind fun r6 => (if 0 ≤ r6 then some (.ret (a1, r6, true)) else D5 K r1 k (a1 + 1))) else some (.go ()))
def Zl0 (K : Nat) (a0 : ((List Int) × (List MpT))) : Option (Int × Int × Bool) := ((Zb6 K (a0.1, a0.2)).bind fun r1 => ((D5 K r1 K 0).bind (Ex.elim (fun r => some r) (fun s => some (0, 0, false)))))
theorem Yp4 {a0 : ((List Int) × (List MpT))} {r : (Int × Int × Bool)} (q0 : Zl0 K a0 = some r) (b8 : Zn2 (Zp1 (Y9 (Y6 .i64)) (Y9 (Y9 yT))) H s0 a0) (hS : St H w L) :
 Calls Tryz.prog 186 #[s0] w (T2 (fun v G => (R.t3 (R.int .i64) (R.int .i64) R.bool).p G v r) H L) := by
 obtain ⟨b9, c0, _, _, _, rfl, b5, ⟨_, _, rfl, ⟨_, rfl, a9⟩, ⟨_, rfl, b0⟩⟩, b6⟩ := b8
 have Z3 := Sub.refl H
 refine X3 Tryz.func186 rfl Tryz.ntmps186 rfl ?_
 unfold Zl0 at q0
 refine Z2 (Z0 (Z5 (vI 0) rfl rfl (Z5 (vI 0) rfl rfl (Z5 (vB false) rfl rfl (Z1 (Z2 (Z2 (Z0 (Z4 (vQ b9 c0) rfl rfl ?_)))))))))
 obtain ⟨r1, c1, q0⟩ := bind_some q0
 refine X6 Tryz.call249 (S2 rfl) rfl (Yf0 c1 ⟨_, _, _, _, _, rfl, b5, ⟨_, _, rfl, ⟨_, rfl, a9⟩, ⟨_, rfl, b0⟩⟩, b6⟩ hS) ?_
 rintro v1 H1 _ c2 hS a5
 have Z3 := Z3.trans c2
 have d0 := a5.bound
 refine W7 Yg7 rfl a5 rfl (Z4 (vI 0) rfl rfl (Z1 (Y7 ?_)))
 obtain ⟨b1, a3, a8⟩ := bind_some q0
 refine W1 (id := 0) (fun k f w => ∃ (a1 : Int) (H1 : FH), D5 K r1 k a1 = some b1 ∧ Sub H H1 ∧ St H1 w (L) ∧ 0 ≤ a1 ∧ Z9 (Y9 (Y6 .i64)) H1 v1 r1 ∧ tv f 9 = v1 ∧ tv f 10 = vI (r1.length : Int) ∧ tv f 11 = vI a1) (fun f w => ∃ (H1 : FH), b1 = .go () ∧ Sub H H1 ∧ St H1 w (L)) rfl ?_ ?_ K ?_ ?_
 rintro f w ⟨a1, H1, a3, _⟩
 rw [D5] at a3; cases a3
 rintro k _ _ c3 c4 ⟨a1, b7, a3, Z3, hS, _, a5, a7, a6, a4⟩
 rw [D5] at a3
 refine Z2 (Z0 ?_)
 refine V5 (k := .i64) (a := a1) (b := (r1.length : Int)) (by exact a4) (by exact a6) rfl (Z1 (Z2 ?_))
 obtain ⟨b2, a3⟩ | ⟨b2, a3⟩ := ic a3
 refine Y0 (bT b2 rfl) (Y8 (Z2 (Y7 (Z2 (Z0 (Z4 (vI a1) (by exact a4) rfl ?_))))))
 obtain ⟨_, _, _, _, _, c5, c6, ⟨u5, rfl, c7⟩, c8⟩ := a5.elem (i := a1) (by omega) (by omega)
 refine X9 Yg7 rfl (by exact a7) c5 (by exact a4) (by omega) (by omega) rfl ?_
 refine Y3 (u5) M9 rfl (hS.froz _ _ c6) (c8 0 (show 0 < 1 by decide)) rfl (Z5 (vI a1) rfl rfl (Z5 (u5) rfl rfl (Z1 (Z2 (Z0 (Z4 (u5) rfl rfl ?_))))))
 obtain ⟨r6, c9, a3⟩ := bind_some a3
 refine X6 Tryz.call159 (S2 rfl) rfl (Xk9 c9 c7 hS) ?_
 rintro _ H6 _ b4 hS rfl
 have Z3 := Z3.trans b4
 have a5 := a5.mono b4
 refine Z5 (vI r6) rfl rfl (Z1 (Z2 (Z0 (Z4 (vI r6) rfl rfl ?_))))
 refine Yg8 (k := .i64) (a := r6) (b := 0) rfl rfl rfl (Z1 ?_)
 obtain ⟨b3, a3⟩ | ⟨b3, a3⟩ := ic a3
 refine Y0 (bT b3 rfl) (Z2 (Z0 (Z4 (vI a1) rfl rfl (Z4 (vI r6) rfl rfl (Z5 (vI a1) rfl rfl (Z5 (vI r6) rfl rfl (Z5 (vB true) rfl rfl (Z1 ?_))))))))
 refine X0 (vs := [vI a1, vI r6, vB true]) Tryz.func186 ⟨rfl, rfl, rfl, trivial⟩ ?_
 obtain rfl := oi a3
 dsimp only [Ex.elim] at a8
 obtain rfl := oi a8
 exact ⟨_, _, rfl, Z3, hS, ⟨_, _, _, rfl, rfl, rfl, rfl⟩⟩
 refine Z8 (bF b3 rfl) (Y8 (X4 (Z0 ?_)))
 refine W8 (a1 + 1) (by exact a4) rfl (IntWalk.i64_in _ (by omega)) rfl (Z4 (vI (a1 + 1)) rfl rfl (Z1 ?_))
 exact c3 _ _ ⟨(a1 + 1), H6, a3, Z3, hS, (by omega), a5, a7, a6, rfl⟩
 refine Z8 (bF b2 rfl) ?_
 refine W0 rfl ?_
 obtain rfl := oi a3
 exact c4 _ _ ⟨b7, rfl, Z3, hS⟩
 exact ⟨0, H1, a3, Z3, hS, (by omega), a5, rfl, rfl, rfl⟩
 rintro _ _ ⟨_, rfl, Z3, hS⟩
 dsimp only [Ex.elim] at a8
 refine Z2 (Z0 (Z5 (vI 0) rfl rfl (Z5 (vI 0) rfl rfl (Z5 (vB false) rfl rfl (Z1 ?_)))))
 refine X0 (vs := [vI 0, vI 0, vB false]) Tryz.func186 ⟨rfl, rfl, rfl, trivial⟩ ?_
 obtain rfl := oi a8
 exact ⟨_, _, rfl, Z3, hS, ⟨_, _, _, rfl, rfl, rfl, rfl⟩⟩
theorem Yv1 {K : Nat} {a2 : Int} : ∀ (k : Nat) (zs : MpT), Zt2 K (fun (_ : Unit) s => s) (fun s => U4 K a2 k zs s)
 | 0, zs => ⟨none, fun s => (show U4 K a2 0 zs s = none by rw [U4])⟩
 | k + 1, [] => by
  have e : (fun s => U4 K a2 (k + 1) [] s) = fun s => some (.go s) := by funext s; rw [U4]
  rw [e]; exact .go (h := fun (_ : Unit) s => s) ()
 | k + 1, z :: zs => by
  have e : (fun s => U4 K a2 (k + 1) (z :: zs) s) = fun s => (T8 K s z.1 (((IntKind.i64.wrap (z.2 * a2))).tmod 10007)).bind fun t => U4 K a2 k zs t := by
   funext s; rw [U4]
  rw [e]; exact .bind (.add _ _) (Yv1 k zs)
theorem Xk7 {K : Nat} (t : MpT) (f : Int) : Zv9 K (fun s => N0 K s t f) := by
 obtain ⟨F, hF, hs⟩ := (Yv1 (K := K) (a2 := f) K t).step (fun s => s) (fun _ _ => rfl)
 have e : (fun s => N0 K s t f) = F := by
  funext s
  unfold N0
  exact (hs (fun r => some r) (fun s => some s) s).trans (by cases F s <;> rfl)
 rw [e]; exact hF
end Go.Proofs.YtabofnehiclkiaaGreat
