/- Walks of functions: each computes its pure function, if that gives a value. -/
import Derived.Test.YtfodlhkoafhplaaGreatVTy
namespace Go.Proofs.YtfodlhkoafhplaaGreat
open Go
set_option linter.unusedSimpArgs false
set_option linter.unusedVariables false
set_option maxRecDepth 100000
set_option maxHeartbeats 8000000
def K3 (K : Nat) (a1 : (List Int)) (a3 : Int) : Nat → Bool → Int → Option (Ex (List Int) (Bool))
 | 0, _, _ => none
 | k + 1, b2, a4 => (if a4 < (a1.length : Int) then (if b2 = true then K3 K a1 a3 k true (a4 + 1) else K3 K a1 a3 k (decide ((rd a1 a4) = a3)) (a4 + 1)) else some (.go b2))
def K4 (K : Nat) (a0 : (List Int)) (a1 : (List Int)) : Nat → Int → (List Int) → Option (Ex (List Int) ((List Int)))
 | 0, _, _ => none
 | k + 1, a3, a6 => (if a3 < (a0.length : Int) then ((K3 K a1 a3 K false 0).bind (Ex.elim (fun r => some (.ret r)) (fun s => (fun (b8 : Bool) => (if b8 = true then K4 K a0 a1 k (a3 + 1) a6 else (if a6.length + ([(rd a0 a3)]).length ≤ 1099511627776 then K4 K a0 a1 k (a3 + 1) (a6 ++ [(rd a0 a3)]) else none))) s))) else some (.go a6))
def Zl0 (K : Nat) (a0 : (List Int)) (a1 : (List Int)) : Option (List Int) := ((K4 K a0 a1 K 0 ([] : List Int)).bind (Ex.elim (fun r => some r) (fun s => (fun (b6 : (List Int)) => some b6) s)))
theorem Yp5 {K : Nat} {a0 : (List Int)} {a1 : (List Int)} {r : (List Int)} (q0 : Zl0 K a0 a1 = some r) {H : FH} {w : World} {L : OL} {s0 : Value} {s1 : Value} (b3 : Y1 (Y6 .i64) H s0 a0) (b4 : Y1 (Y6 .i64) H s1 a1) (hS : St H w L) :
 Calls Tryz.prog 79 #[s0, s1] w (T2 (fun v G => (R.sl (Y6 .i64)).p G v r) H L) := by
 have Z2 := Sub.refl H
 refine X3 Tryz.func79 rfl Tryz.ntmps79 rfl ?_
 unfold Zl0 at q0
 refine Z3 (Z0 (Z5 (vN) rfl rfl (Z1 (Z3 (Z0 ?_)))))
 refine Zx2 (τ := (Y6 .i64)) Q2 ze2 rfl hS rfl ?_
 intro u1 w2 C3 g1 hS
 refine Z5 (u1) rfl rfl (Z1 (Z3 (Z3 (Z0 (Z5 (vI 0) rfl rfl (Z1 (Y8 ?_)))))))
 obtain ⟨e2, b5, e3⟩ := bind_some q0
 refine W5 (id := 0) (fun k f w => ∃ (a3 : Int) (a6 : (List Int)) (H1 : FH) (a8 : OL) (a7 : Value), K4 K a0 a1 k a3 a6 = some e2 ∧ Sub H H1 ∧ St H1 w (a8 ++ L) ∧ 0 ≤ a3 ∧ V0 (Y6 .i64) 2 H1 a7 a6 a8 ∧ Y1 (Y6 .i64) H1 s0 a0 ∧ Y1 (Y6 .i64) H1 s1 a1 ∧ ev f (.tmp 0) = s0 ∧ ev f (.tmp 1) = s1 ∧ ev f (.tmp 5) = a7 ∧ ev f (.tmp 6) = vI a3) (fun f w => ∃ (b6 : (List Int)) (H1 : FH) (c1 : OL) (b0 : Value), e2 = .go b6 ∧ Sub H H1 ∧ St H1 w (c1 ++ L) ∧ V0 (Y6 .i64) 2 H1 b0 b6 c1 ∧ ev f (.tmp 5) = b0) rfl ?_ ?_ K ?_ ?_
 rintro f w ⟨a3, a6, H1, a8, a7, b5, _⟩
 rw [K4] at b5; cases b5
 rintro k g8 g9 e6 g2 ⟨a3, a6, e4, a8, a7, b5, Z2, hS, g3, a5, b3, b4, c7, d9, c8, c9⟩
 rw [K4] at b5
 refine Z3 (Z3 (Z0 (Z4 (vI a3) (by exact c9) rfl (Z4 (s0) (by exact c7) rfl ?_))))
 have h9 := b3.bound
 refine W7 Q2 rfl b3 rfl ?_
 refine V7 (k := .i64) (a := a3) (b := (a0.length : Int)) rfl rfl rfl (Z1 ?_)
 by_cases d7 : a3 < (a0.length : Int)
 rw [if_pos d7] at b5
 refine Y0 (bT d7 rfl) (Y7 (Z3 (Y8 (Z3 (Z0 (Z5 (Value.bool false) rfl rfl (Z1 (Z3 (Z3 (Z0 (Z5 (vI 0) rfl rfl (Z1 (Y8 ?_)))))))))))))
 obtain ⟨e5, b1, c2⟩ := bind_some b5
 refine W5 (id := 2) (fun k f w => ∃ (b2 : Bool) (a4 : Int) (H1 : FH), K3 K a1 a3 k b2 a4 = some e5 ∧ Sub H H1 ∧ St H1 w (a8 ++ L) ∧ 0 ≤ a4 ∧ Y1 (Y6 .i64) H1 s0 a0 ∧ Y1 (Y6 .i64) H1 s1 a1 ∧ V0 (Y6 .i64) 2 H1 a7 a6 a8 ∧ ev f (.tmp 0) = s0 ∧ ev f (.tmp 1) = s1 ∧ ev f (.tmp 5) = a7 ∧ ev f (.tmp 6) = vI a3 ∧ ev f (.tmp 7) = Value.bool b2 ∧ ev f (.tmp 8) = vI a4) (fun f w => ∃ (b8 : Bool) (H1 : FH), e5 = .go b8 ∧ Sub H H1 ∧ St H1 w (a8 ++ L) ∧ Y1 (Y6 .i64) H1 s0 a0 ∧ Y1 (Y6 .i64) H1 s1 a1 ∧ V0 (Y6 .i64) 2 H1 a7 a6 a8 ∧ ev f (.tmp 0) = s0 ∧ ev f (.tmp 1) = s1 ∧ ev f (.tmp 5) = a7 ∧ ev f (.tmp 6) = vI a3 ∧ ev f (.tmp 7) = Value.bool b8) rfl ?_ ?_ K ?_ ?_
 rintro f w ⟨b2, a4, H1, b1, _⟩
 rw [K3] at b1; cases b1
 rintro k h0 h1 e7 g4 ⟨b2, a4, d6, b1, Z2, hS, g5, b3, b4, a5, c3, b7, c4, b9, d0, c0⟩
 rw [K3] at b1
 refine Z3 (Z3 (Z0 (Z4 (vI a4) (by exact c0) rfl (Z4 (s1) (by exact b7) rfl ?_))))
 have i0 := b4.bound
 refine W7 Zo3 rfl b4 rfl ?_
 refine V7 (k := .i64) (a := a4) (b := (a1.length : Int)) rfl rfl rfl (Z1 ?_)
 by_cases d8 : a4 < (a1.length : Int)
 rw [if_pos d8] at b1
 refine Y0 (bT d8 rfl) (Y7 (Z3 (Y8 (Z0 (Z4 (Value.bool b2) (by exact d0) rfl (Z4 (Value.bool b2) rfl rfl ?_))))))
 by_cases a9 : b2 = true
 rw [if_pos a9] at b1
 refine Z9 rfl rfl (Eq.trans rfl (congrArg Value.bool a9)) rfl rfl rfl (Z9 rfl rfl (Eq.trans rfl (congrArg Value.bool a9)) rfl rfl rfl (Z9 rfl rfl (Eq.trans rfl (congrArg Value.bool a9)) rfl rfl rfl (Z9 rfl rfl (Eq.trans rfl (congrArg Value.bool a9)) rfl rfl rfl (Z9 rfl rfl (Eq.trans rfl (congrArg Value.bool a9)) rfl rfl rfl (Z9 rfl rfl (Eq.trans rfl (congrArg Value.bool a9)) rfl rfl rfl ?_)))))
 refine V2 (t := true) (Value.bool true) (Eq.trans rfl (congrArg Value.bool a9)) ((if_pos rfl).trans rfl) rfl (Z5 (Value.bool true) rfl rfl (Z1 (X2 (Z0 (Z4 (vI a4) (by exact c0) rfl ?_)))))
 refine W8 (a4 + 1) rfl rfl (IntWalk.i64_in _ (by omega)) rfl (Z5 (vI (a4 + 1)) rfl rfl (Z1 ?_))
 exact e7 _ _ ⟨true, (a4 + 1), d6, b1, Z2, hS, (by omega), b3, b4, a5, c3, b7, c4, b9, rfl, rfl⟩
 rw [if_neg a9] at b1
 refine Y2 rfl rfl (Eq.trans rfl (congrArg Value.bool (W1 a9))) (Z4 (s1) (by exact b7) rfl ?_)
 refine Y2 rfl rfl (Eq.trans rfl (congrArg Value.bool (W1 a9))) (Z4 (vI a4) (by exact c0) rfl ?_)
 obtain ⟨i1, i2, h2, i3, _, e9, f0, rfl, f1⟩ := b4.elem (i := a4) (by omega) (by omega)
 refine Y2 rfl rfl (Eq.trans rfl (congrArg Value.bool (W1 a9))) ?_
 refine W3 Zo3 rfl rfl e9 rfl (by omega) (by omega) rfl ?_
 refine Y2 rfl rfl (Eq.trans rfl (congrArg Value.bool (W1 a9))) ?_
 refine Y4 (vI (rd a1 a4)) ty3 rfl (hS.froz _ _ f0) (f1 0 (show 0 < 1 by decide)) rfl ?_
 refine Y2 rfl rfl (Eq.trans rfl (congrArg Value.bool (W1 a9))) (Z4 (vI a3) (by exact b9) rfl ?_)
 refine Y2 rfl rfl (Eq.trans rfl (congrArg Value.bool (W1 a9))) ?_
 refine Za4 (k := .i64) (a := (rd a1 a4)) (b := a3) rfl rfl rfl ?_
 refine V2 (t := false) (Value.bool (decide ((rd a1 a4) = a3))) (Eq.trans rfl (congrArg Value.bool (W1 a9))) ((if_neg Bool.false_ne_true).trans rfl) rfl (Z5 (Value.bool (decide ((rd a1 a4) = a3))) rfl rfl (Z1 (X2 (Z0 (Z4 (vI a4) (by exact c0) rfl ?_)))))
 refine W8 (a4 + 1) rfl rfl (IntWalk.i64_in _ (by omega)) rfl (Z5 (vI (a4 + 1)) rfl rfl (Z1 ?_))
 exact e7 _ _ ⟨(decide ((rd a1 a4) = a3)), (a4 + 1), d6, b1, Z2, hS, (by omega), b3, b4, a5, c3, b7, c4, b9, rfl, rfl⟩
 rw [if_neg d8] at b1
 refine Z8 (bF d8 rfl) ?_
 refine W4 rfl ?_
 have hz := Option.some.inj b1
 subst hz
 exact g4 _ _ ⟨b2, d6, rfl, Z2, hS, b3, b4, a5, c3, b7, c4, b9, d0⟩
 exact ⟨false, 0, e4, b1, Z2, hS, (by omega), b3, b4, a5, c7, d9, c8, c9, rfl, rfl⟩
 rintro h3 h4 ⟨b8, f2, rfl, Z2, hS, b3, b4, a5, c5, d1, d2, c6, e0⟩
 dsimp only [Ex.elim] at c2
 refine Z3 (Z0 (Z4 (Value.bool b8) (by exact e0) rfl (M4 (b := b8) rfl rfl (Z1 ?_))))
 by_cases d3 : b8 = true
 rw [if_pos d3] at c2
 refine Z8 (Eq.trans rfl (congrArg (fun b => Value.bool (!b)) d3)) (Y7 (X2 (Z0 (Z4 (vI a3) (by exact c6) rfl ?_))))
 refine W8 (a3 + 1) rfl rfl (IntWalk.i64_in _ (by omega)) rfl (Z5 (vI (a3 + 1)) rfl rfl (Z1 ?_))
 exact e6 _ _ ⟨(a3 + 1), a6, f2, a8, a7, c2, Z2, hS, (by omega), a5, b3, b4, c5, d1, d2, rfl⟩
 rw [if_neg d3] at c2
 refine Y0 (Eq.trans rfl (congrArg (fun b => Value.bool (!b)) (W1 d3))) (Z0 (Z4 (a7) (by exact d2) rfl (Z4 (s0) (by exact c5) rfl (Z4 (vI a3) (by exact c6) rfl ?_))))
 obtain ⟨i4, i5, h5, i6, _, f3, f4, rfl, f5⟩ := b3.elem (i := a3) (by omega) (by omega)
 refine W3 Q2 rfl rfl f3 rfl (by omega) (by omega) rfl ?_
 refine Y4 (vI (rd a0 a3)) ty2 rfl (hS.froz _ _ f4) (f5 0 (show 0 < 1 by decide)) rfl ?_
 refine Zd8 (τ := (Y6 .i64)) Q2 ze2 rfl [vI (rd a0 a3)] [(rd a0 a3)] rfl rfl (Za3 rfl) (Zn7 rfl) (by decide) (by decide) hS rfl ?_
 intro i7 g6 i8 d4 hS f6
 have Z2 := Z2.trans d4
 have b3 := b3.mono d4
 have b4 := b4.mono d4
 have a5 := a5.mono d4
 obtain ⟨f7, c2⟩ := gd c2
 refine F4 (τ := (Y6 .i64)) Xp4 rfl rfl rfl a5 hS f6 f7 rfl ?_
 intro e8 i9 g7 f8 hS
 refine Z5 (e8) rfl rfl (Z1 (X2 (Z0 (Z4 (vI a3) (by exact c6) rfl ?_))))
 refine W8 (a3 + 1) rfl rfl (IntWalk.i64_in _ (by omega)) rfl (Z5 (vI (a3 + 1)) rfl rfl (Z1 ?_))
 exact e6 _ _ ⟨(a3 + 1), (a6 ++ [(rd a0 a3)]), g6, g7, e8, c2, Z2, hS, (by omega), f8, b3, b4, c5, d1, rfl, rfl⟩
 rw [if_neg d7] at b5
 refine Z8 (bF d7 rfl) ?_
 refine W4 rfl ?_
 have hz := Option.some.inj b5
 subst hz
 exact g2 _ _ ⟨a6, e4, a8, a7, rfl, Z2, hS, a5, c8⟩
 exact ⟨0, ([] : List Int), H, C3, u1, b5, Z2, hS, (by omega), g1, b3, b4, rfl, rfl, rfl, rfl⟩
 rintro h6 h7 ⟨b6, h8, c1, b0, rfl, Z2, hS, d5, e1⟩
 dsimp only [Ex.elim] at e3
 refine Z3 (Z0 (Z4 (b0) (by exact e1) rfl (Z5 (b0) rfl rfl (Z1 ?_))))
 refine X0 (vs := [b0]) Tryz.func79 ⟨rfl, trivial⟩ ?_
 obtain ⟨j0, f9, hS, g0⟩ := d5.freeze hS
 have Z2 := Z2.trans f9
 have hz := Option.some.inj e3
 subst hz
 exact ⟨_, _, rfl, Z2, hS, g0⟩
def N2 (K : Nat) (a0 : (List Int)) (a1 : A8) : Nat → Int → Option (Ex Bool (Unit))
 | 0, _ => none
 | k + 1, a3 => (if a3 < 8 then (if (a0.length : Int) ≤ a3 then (if (Y5 a1 a3) = 0 then N2 K a0 a1 k (a3 + 1) else some (.ret false)) else (if 20 < (Y5 a1 a3) then some (.ret false) else (if a3 < (a0.length : Int) then (if (((rd a0 a3)).tmod 2) = 0 then N2 K a0 a1 k (a3 + 1) else (if 1 < (Y5 a1 a3) then some (.ret false) else N2 K a0 a1 k (a3 + 1))) else none))) else some (.go ()))
def Zr7 (K : Nat) (a0 : (List Int)) (a1 : A8) : Option Bool := ((N2 K a0 a1 K 0).bind (Ex.elim (fun r => some r) (fun s => some true)))
theorem Zq4 {K : Nat} {a0 : (List Int)} {a1 : A8} {r : Bool} (q0 : Zr7 K a0 a1 = some r) {H : FH} {w : World} {L : OL} {s0 : Value} (b2 : Y1 (Y6 .i64) H s0 a0) (hS : St H w L) :
 Calls Tryz.prog 202 #[s0, vA (Z7 .u8 a1)] w (T2 (fun v G => R.bool.p G v r) H L) := by
 have Z2 := Sub.refl H
 refine X3 Tryz.func202 rfl Tryz.ntmps202 rfl ?_
 unfold Zr7 at q0
 refine Z3 (Z0 ?_)
 refine S4 (v := vA (Z7 .u8 a1)) (Z7 .u8 a1).toArray rfl rfl hS rfl ?_
 intro b1 w2 hS
 refine Z5 (Value.bool false) rfl rfl (Z1 (Z3 (Z3 (Z0 (Z5 (vI 0) rfl rfl (Z1 (Y8 ?_)))))))
 obtain ⟨b8, a4, b0⟩ := bind_some q0
 refine W5 (id := 0) (fun k f w => ∃ (a3 : Int) (H1 : FH), N2 K a0 a1 k a3 = some b8 ∧ Sub H H1 ∧ St H1 w ([(b1, cA (Z7 .u8 a1) 70)] ++ L) ∧ 0 ≤ a3 ∧ Y1 (Y6 .i64) H1 s0 a0 ∧ ev f (.tmp 0) = s0 ∧ ev f (.tmp 3) = vP b1 ∧ ev f (.tmp 5) = vI a3) (fun f w => ∃ (H1 : FH), b8 = .go () ∧ Sub H H1 ∧ St H1 w ([(b1, cA (Z7 .u8 a1) 70)] ++ L)) rfl ?_ ?_ K ?_ ?_
 rintro f w ⟨a3, H1, a4, _⟩
 rw [N2] at a4; cases a4
 rintro k c5 c6 b9 c3 ⟨a3, b3, a4, Z2, hS, c4, b2, a9, a8, a5⟩
 rw [N2] at a4
 refine Z3 (Z3 (Z0 (Z4 (vI a3) (by exact a5) rfl ?_)))
 refine V7 (k := .i64) (a := a3) (b := 8) rfl rfl rfl (Z1 ?_)
 by_cases b5 : a3 < 8
 rw [if_pos b5] at a4
 refine Y0 (bT b5 rfl) (Y7 (Z3 (Y8 (Y8 (Z3 (Z0 (Z4 (vI a3) (by exact a5) rfl (Z4 (s0) (by exact a9) rfl ?_))))))))
 have d1 := b2.bound
 refine W7 Q2 rfl b2 rfl ?_
 refine Yc2 (k := .i64) (a := a3) (b := (a0.length : Int)) rfl rfl rfl (Z5 (Value.bool (decide ((a0.length : Int) ≤ a3))) rfl rfl (Z1 ?_))
 by_cases b6 : (a0.length : Int) ≤ a3
 rw [if_pos b6] at a4
 refine Y0 (bT b6 rfl) (Z3 (Z0 (Z4 (vI a3) (by exact a5) rfl ?_)))
 refine V5 Zd3 (by exact a8) rfl (by omega) (by omega) rfl ?_
 refine Y4 (Value.int .u8 (Y5 a1 a3)) ty5 rfl (hS.get (o := cA (Z7 .u8 a1) 70) mL) (M7 ([]) ([]) (by omega) (by omega)) rfl ?_
 refine J2 (k := .u8) (a := (Y5 a1 a3)) (b := 0) rfl rfl rfl (Z1 ?_)
 by_cases b7 : (Y5 a1 a3) = 0
 rw [if_pos b7] at a4
 refine Z8 (bN b7 rfl) (Y7 (X2 (X2 (Z0 (Z4 (vI a3) (by exact a5) rfl ?_)))))
 refine W8 (a3 + 1) rfl rfl (IntWalk.i64_in _ (by omega)) rfl (Z5 (vI (a3 + 1)) rfl rfl (Z1 ?_))
 exact b9 _ _ ⟨(a3 + 1), b3, a4, Z2, hS, (by omega), b2, a9, a8, rfl⟩
 rw [if_neg b7] at a4
 refine Y0 (bO b7 rfl) (Z3 (Z0 (Z5 (Value.bool false) rfl rfl (Z1 ?_))))
 refine X0 (vs := [Value.bool false]) Tryz.func202 ⟨rfl, trivial⟩ ?_
 have hz := Option.some.inj a4
 subst hz
 dsimp only [Ex.elim] at b0
 have hz := Option.some.inj b0
 subst hz
 exact ⟨_, _, rfl, Z2, (St.dropA hS), rfl⟩
 rw [if_neg b6] at a4
 refine Z8 (bF b6 rfl) (Z3 (Z0 (Z4 (vI a3) (by exact a5) rfl ?_)))
 refine V5 Zd3 (by exact a8) rfl (by omega) (by omega) rfl ?_
 refine Y4 (Value.int .u8 (Y5 a1 a3)) ty5 rfl (hS.get (o := cA (Z7 .u8 a1) 70) mL) (M7 ([]) ([]) (by omega) (by omega)) rfl ?_
 refine Zf8 (k := .u8) (a := (Y5 a1 a3)) (b := 20) rfl rfl rfl (Z4 (Value.bool (decide (20 < (Y5 a1 a3)))) rfl rfl ?_)
 by_cases a6 : 20 < (Y5 a1 a3)
 rw [if_pos a6] at a4
 refine Z9 rfl rfl (bT a6 rfl) rfl rfl rfl (Z9 rfl rfl (bT a6 rfl) rfl rfl rfl (Z9 rfl rfl (bT a6 rfl) rfl rfl rfl (Z9 rfl rfl (bT a6 rfl) rfl rfl rfl (Z9 rfl rfl (bT a6 rfl) rfl rfl rfl (Z9 rfl rfl (bT a6 rfl) rfl rfl rfl (Z9 rfl rfl (bT a6 rfl) rfl rfl rfl ?_))))))
 refine U3 rfl rfl rfl rfl rfl ?_
 refine U3 rfl rfl rfl rfl rfl ?_
 refine U3 rfl rfl rfl rfl rfl ?_
 refine U3 rfl rfl rfl rfl rfl (Z9 rfl rfl (bT a6 rfl) rfl rfl rfl ?_)
 refine V2 (t := true) (Value.bool true) (bT a6 rfl) ((if_pos rfl).trans rfl) rfl (Z5 (Value.bool true) rfl rfl (Z1 (Y0 rfl (Z3 (Z0 (Z5 (Value.bool false) rfl rfl (Z1 ?_)))))))
 refine X0 (vs := [Value.bool false]) Tryz.func202 ⟨rfl, trivial⟩ ?_
 have hz := Option.some.inj a4
 subst hz
 dsimp only [Ex.elim] at b0
 have hz := Option.some.inj b0
 subst hz
 exact ⟨_, _, rfl, Z2, (St.dropA hS), rfl⟩
 rw [if_neg a6] at a4
 refine Y2 rfl rfl (bF a6 rfl) (Z4 (s0) (by exact a9) rfl ?_)
 refine Y2 rfl rfl (bF a6 rfl) (Z4 (vI a3) (by exact a5) rfl ?_)
 refine Y2 rfl rfl (bF a6 rfl) ?_
 obtain ⟨d2, a4⟩ := gd a4
 obtain ⟨d3, d4, c7, d5, _, c0, c1, rfl, c2⟩ := b2.elem (i := a3) (by omega) (by omega)
 refine W3 Q2 rfl rfl c0 rfl (by omega) (by omega) rfl ?_
 refine Y2 rfl rfl (bF a6 rfl) ?_
 refine Y4 (vI (rd a0 a3)) ty2 rfl (hS.froz _ _ c1) (c2 0 (show 0 < 1 by decide)) rfl ?_
 refine Y2 rfl rfl (bF a6 rfl) ?_
 refine Zh4 (((rd a0 a3)).tmod 2) rfl rfl (by decide) rfl rfl ?_
 refine Y2 rfl rfl (bF a6 rfl) ?_
 refine J2 (k := .i64) (a := (((rd a0 a3)).tmod 2)) (b := 0) rfl rfl rfl ?_
 refine Y2 rfl rfl (bF a6 rfl) (Z4 (Value.bool (!decide ((((rd a0 a3)).tmod 2) = 0))) rfl rfl ?_)
 by_cases a7 : (((rd a0 a3)).tmod 2) = 0
 rw [if_pos a7] at a4
 refine Z9 rfl rfl (bN a7 rfl) rfl rfl rfl (Z9 rfl rfl (bN a7 rfl) rfl rfl rfl (Z9 rfl rfl (bN a7 rfl) rfl rfl rfl (Z9 rfl rfl (bN a7 rfl) rfl rfl rfl ?_)))
 refine Y2 rfl rfl (bF a6 rfl) ?_
 refine V2 (t := false) (Value.bool false) (bN a7 rfl) ((if_neg Bool.false_ne_true).trans rfl) rfl ?_
 refine V2 (t := false) (Value.bool false) (bF a6 rfl) ((if_neg Bool.false_ne_true).trans rfl) rfl (Z5 (Value.bool false) rfl rfl (Z1 (Z8 rfl (Y7 (X2 (X2 (Z0 (Z4 (vI a3) (by exact a5) rfl ?_))))))))
 refine W8 (a3 + 1) rfl rfl (IntWalk.i64_in _ (by omega)) rfl (Z5 (vI (a3 + 1)) rfl rfl (Z1 ?_))
 exact b9 _ _ ⟨(a3 + 1), b3, a4, Z2, hS, (by omega), b2, a9, a8, rfl⟩
 rw [if_neg a7] at a4
 refine Y2 rfl rfl (bO a7 rfl) (Z4 (vI a3) (by exact a5) rfl ?_)
 refine Y2 rfl rfl (bO a7 rfl) ?_
 refine V5 Zd3 (by exact a8) rfl (by omega) (by omega) rfl ?_
 refine Y2 rfl rfl (bO a7 rfl) ?_
 refine Y4 (Value.int .u8 (Y5 a1 a3)) ty5 rfl (hS.get (o := cA (Z7 .u8 a1) 70) mL) (M7 ([]) ([]) (by omega) (by omega)) rfl ?_
 refine Y2 rfl rfl (bO a7 rfl) ?_
 refine Zf8 (k := .u8) (a := (Y5 a1 a3)) (b := 1) rfl rfl rfl ?_
 refine Y2 rfl rfl (bF a6 rfl) ?_
 refine V2 (t := true) (Value.bool (decide (1 < (Y5 a1 a3)))) (bO a7 rfl) ((if_pos rfl).trans rfl) rfl ?_
 refine V2 (t := false) (Value.bool (decide (1 < (Y5 a1 a3)))) (bF a6 rfl) ((if_neg Bool.false_ne_true).trans rfl) rfl (Z5 (Value.bool (decide (1 < (Y5 a1 a3)))) rfl rfl (Z1 ?_))
 by_cases b4 : 1 < (Y5 a1 a3)
 rw [if_pos b4] at a4
 refine Y0 (bT b4 rfl) (Z3 (Z0 (Z5 (Value.bool false) rfl rfl (Z1 ?_))))
 refine X0 (vs := [Value.bool false]) Tryz.func202 ⟨rfl, trivial⟩ ?_
 have hz := Option.some.inj a4
 subst hz
 dsimp only [Ex.elim] at b0
 have hz := Option.some.inj b0
 subst hz
 exact ⟨_, _, rfl, Z2, (St.dropA hS), rfl⟩
 rw [if_neg b4] at a4
 refine Z8 (bF b4 rfl) (Y7 (X2 (X2 (Z0 (Z4 (vI a3) (by exact a5) rfl ?_)))))
 refine W8 (a3 + 1) rfl rfl (IntWalk.i64_in _ (by omega)) rfl (Z5 (vI (a3 + 1)) rfl rfl (Z1 ?_))
 exact b9 _ _ ⟨(a3 + 1), b3, a4, Z2, hS, (by omega), b2, a9, a8, rfl⟩
 rw [if_neg b5] at a4
 refine Z8 (bF b5 rfl) ?_
 refine W4 rfl ?_
 have hz := Option.some.inj a4
 subst hz
 exact c3 _ _ ⟨b3, rfl, Z2, hS⟩
 exact ⟨0, H, a4, Z2, hS, (by omega), b2, rfl, rfl, rfl⟩
 rintro c8 c9 ⟨d0, rfl, Z2, hS⟩
 dsimp only [Ex.elim] at b0
 refine Z3 (Z0 (Z5 (Value.bool true) rfl rfl (Z1 ?_)))
 refine X0 (vs := [Value.bool true]) Tryz.func202 ⟨rfl, trivial⟩ ?_
 have hz := Option.some.inj b0
 subst hz
 exact ⟨_, _, rfl, Z2, (St.dropA hS), rfl⟩
def P7 (K : Nat) (a0 : A8) (a1 : A8) : Nat → Int → Option (Ex Int (Unit))
 | 0, _ => none
 | k + 1, a3 => (if a3 < 8 then (if (Y5 a0 a3) = (Y5 a1 a3) then P7 K a0 a1 k (a3 + 1) else some (.ret (IntKind.i64.wrap ((Y5 a1 a3) - (Y5 a0 a3))))) else some (.go ()))
def B8 (K : Nat) (a0 : A8) (a1 : A8) : Option Int := ((P7 K a0 a1 K 0).bind (Ex.elim (fun r => some r) (fun s => some 0)))
theorem Zw9 {K : Nat} {a0 : A8} {a1 : A8} {r : Int} (q0 : B8 K a0 a1 = some r) {H : FH} {w : World} {L : OL} (hS : St H w L) :
 Calls Tryz.prog 221 #[vA (Z7 .i64 a0), vA (Z7 .i64 a1)] w (T2 (fun v G => (R.int .i64).p G v r) H L) := by
 have Z2 := Sub.refl H
 refine X3 Tryz.func221 rfl Tryz.ntmps221 rfl ?_
 unfold B8 at q0
 refine Z3 (Z0 ?_)
 refine S4 (v := vA (Z7 .i64 a0)) (Z7 .i64 a0).toArray rfl rfl hS rfl ?_
 intro b1 w2 hS
 refine S4 (v := vA (Z7 .i64 a1)) (Z7 .i64 a1).toArray rfl rfl hS rfl ?_
 intro b4 w5 hS
 refine Z5 (vI 0) rfl rfl (Z1 (Z3 (Z3 (Z0 (Z4 (vI 0) rfl rfl (Z1 (Y8 ?_)))))))
 obtain ⟨b5, a4, a8⟩ := bind_some q0
 refine W5 (id := 0) (fun k f w => ∃ (a3 : Int) (H1 : FH), P7 K a0 a1 k a3 = some b5 ∧ Sub H H1 ∧ St H1 w ([(b4, cA (Z7 .i64 a1) 188)] ++ ([(b1, cA (Z7 .i64 a0) 188)] ++ L)) ∧ 0 ≤ a3 ∧ ev f (.tmp 2) = vP b1 ∧ ev f (.tmp 3) = vP b4 ∧ ev f (.tmp 6) = vI a3) (fun f w => ∃ (H1 : FH), b5 = .go () ∧ Sub H H1 ∧ St H1 w ([(b4, cA (Z7 .i64 a1) 188)] ++ ([(b1, cA (Z7 .i64 a0) 188)] ++ L))) rfl ?_ ?_ K ?_ ?_
 rintro f w ⟨a3, H1, a4, _⟩
 rw [P7] at a4; cases a4
 rintro k g7 g8 e7 e8 ⟨a3, d3, a4, Z2, hS, e9, a6, a7, a5⟩
 rw [P7] at a4
 refine Z3 (Z0 ?_)
 refine V7 (k := .i64) (a := a3) (b := 8) (by exact a5) rfl rfl (Z1 (Z3 ?_))
 by_cases b2 : a3 < 8
 rw [if_pos b2] at a4
 refine Y0 (bT b2 rfl) (Y7 (Z3 (Y8 (Z3 (Z0 (Z4 (vI a3) (by exact a5) rfl (Z5 (vI a3) rfl rfl (Z1 (Z3 ?_)))))))))
 refine U6 7 (P9 [(9, MP.eq (vI a3)), (10, MP.eq (Value.pointer (some ⟨b1, 0 + (a3).toNat * 1, none⟩))), (11, MP.eq (vI (Y5 a0 a3))), (12, MP.eq (vI a3)), (13, MP.eq (Value.pointer (some ⟨b4, 0 + (a3).toNat * 1, none⟩))), (14, MP.eq (vI (Y5 a1 a3))), (15, MP.eq (Value.bool (!decide ((Y5 a0 a3) = (Y5 a1 a3)))))]) [] mixed rfl rfl rfl hS (Z6 rfl ?_ (Z6 rfl ?_ (Z6 rfl ?_ (Z6 rfl ?_ (Z6 rfl ?_ (Z6 rfl ?_ (Z6 rfl ?_ U8))))))) ?_
 intro f8 w9 l2 l3 g9 hS d4 h0 hcq
 have f0 : ev f8 (.tmp 5) = vI a3 := Eq.trans (d4 5 rfl) rfl
 refine Z4 (vI a3) f0 rfl ?_
 exact qn (.refl _) rfl hS rfl
 intro l4 l5 l6 l7 h1 hS d5 d6 hcq
 refine V5 Zi8 (evT (d5 2 rfl) a6) (eM (d6 0 9 rfl rfl)) (by omega) (by omega) rfl ?_
 exact qn (.refl _) rfl hS rfl
 intro l9 m0 m1 m2 h2 hS h3 d7 hcq
 refine Y4 (vI (Y5 a0 a3)) ty3 (eM (d7 1 10 rfl rfl)) (hS.get (o := cA (Z7 .i64 a0) 188) (mR (mR mL))) (M7 ([]) ([]) (by omega) (by omega)) rfl ?_
 exact qn (.refl _) rfl hS rfl
 intro f1 m3 m4 m5 h4 hS d8 h5 hcq
 have f2 : ev f1 (.tmp 5) = vI a3 := Eq.trans (d8 5 rfl) rfl
 refine Z4 (vI a3) f2 rfl ?_
 exact qn (.refl _) rfl hS rfl
 intro m6 m7 m8 m9 h6 hS d9 e0 hcq
 refine V5 Zi8 (evT (d9 3 rfl) a7) (eM (e0 3 12 rfl rfl)) (by omega) (by omega) rfl ?_
 exact qn (.refl _) rfl hS rfl
 intro n0 n1 n2 n3 h7 hS h8 e1 hcq
 refine Y4 (vI (Y5 a1 a3)) ty3 (eM (e1 4 13 rfl rfl)) (hS.get (o := cA (Z7 .i64 a1) 188) (mR mL)) (M7 ([]) ([]) (by omega) (by omega)) rfl ?_
 exact qn (.refl _) rfl hS rfl
 intro n4 n5 n6 n7 h9 hS i0 b6 hcq
 refine J2 (k := .i64) (a := (Y5 a0 a3)) (b := (Y5 a1 a3)) (eM (b6 2 11 rfl rfl)) (eM (b6 5 14 rfl rfl)) rfl ?_
 exact qn (.refl _) rfl hS rfl
 intro c7 f3 c8 e2 hS a9 e3 hcq
 have hS : St c8 f3 ([(b4, cA (Z7 .i64 a1) 188)] ++ ([(b1, cA (Z7 .i64 a0) 188)] ++ L)) := hS
 have Z2 := Z2.trans e2
 have c9 := evT (a9 2 rfl) a6
 have d0 := evT (a9 3 rfl) a7
 have d1 : ev c7 (.tmp 5) = vI a3 := Eq.trans (a9 5 rfl) rfl
 have d2 : ev c7 (.tmp 15) = Value.bool (!decide ((Y5 a0 a3) = (Y5 a1 a3))) := e3 6 15 (by decide) rfl
 refine Z1 ?_
 by_cases b0 : (Y5 a0 a3) = (Y5 a1 a3)
 rw [if_pos b0] at a4
 refine Z8 (bN b0 (by exact d2)) (Y7 (X2 (Z0 ?_)))
 refine W8 (a3 + 1) (by exact (evT (a9 6 rfl) a5)) rfl (IntWalk.i64_in _ (by omega)) rfl (Z4 (vI (a3 + 1)) rfl rfl (Z1 ?_))
 exact e7 _ _ ⟨(a3 + 1), c8, a4, Z2, hS, (by omega), c9, d0, rfl⟩
 rw [if_neg b0] at a4
 refine Y0 (bO b0 (by exact d2)) (Z3 ?_)
 refine U6 8 (P9 [(16, MP.eq (vI a3)), (17, MP.eq (Value.pointer (some ⟨b4, 0 + (a3).toNat * 1, none⟩))), (18, MP.eq (vI (Y5 a1 a3))), (19, MP.eq (vI a3)), (20, MP.eq (Value.pointer (some ⟨b1, 0 + (a3).toNat * 1, none⟩))), (21, MP.eq (vI (Y5 a0 a3))), (22, MP.eq (vI (IntKind.i64.wrap ((Y5 a1 a3) - (Y5 a0 a3))))), (4, MP.eq (vI (IntKind.i64.wrap ((Y5 a1 a3) - (Y5 a0 a3)))))]) [] mixed rfl rfl rfl hS (Z6 rfl ?_ (Z6 rfl ?_ (Z6 rfl ?_ (Z6 rfl ?_ (Z6 rfl ?_ (Z6 rfl ?_ (Z6 rfl ?_ (Z6 rfl ?_ U8)))))))) ?_
 intro n8 n9 o0 o1 i1 hS e4 i2 hcq
 refine Z4 (vI a3) (evT (e4 5 rfl) d1) rfl ?_
 exact qn (.refl _) rfl hS rfl
 intro o2 o3 o4 o5 i3 hS b7 b8 hcq
 refine V5 Zi8 (evT (b7 3 rfl) d0) (eM (b8 0 16 rfl rfl)) (by omega) (by omega) rfl ?_
 exact qn (.refl _) rfl hS rfl
 intro i4 i5 i6 i7 f4 hS f5 b9 hcq
 refine Y4 (vI (Y5 a1 a3)) ty3 (eM (b9 1 17 rfl rfl)) (hS.get (o := cA (Z7 .i64 a1) 188) (mR mL)) (M7 ([]) ([]) (by omega) (by omega)) rfl ?_
 exact qn (.refl _) rfl hS rfl
 intro i8 i9 j0 j1 f6 hS c0 f7 hcq
 refine Z4 (vI a3) (evT (c0 5 rfl) d1) rfl ?_
 exact qn (.refl _) rfl hS rfl
 intro j2 j3 j4 j5 f9 hS c1 c2 hcq
 refine V5 Zi8 (evT (c1 2 rfl) c9) (eM (c2 3 19 rfl rfl)) (by omega) (by omega) rfl ?_
 exact qn (.refl _) rfl hS rfl
 intro j6 j7 j8 j9 g0 hS g1 c3 hcq
 refine Y4 (vI (Y5 a0 a3)) ty3 (eM (c3 4 20 rfl rfl)) (hS.get (o := cA (Z7 .i64 a0) 188) (mR (mR mL))) (M7 ([]) ([]) (by omega) (by omega)) rfl ?_
 exact qn (.refl _) rfl hS rfl
 intro k0 k1 k2 k3 g2 hS g3 b3 hcq
 refine Yc4 (IntKind.i64.wrap ((Y5 a1 a3) - (Y5 a0 a3))) (eM (b3 2 18 rfl rfl)) (eM (b3 5 21 rfl rfl)) rfl rfl ?_
 exact qn (.refl _) rfl hS rfl
 intro k4 k5 k6 k7 g4 hS g5 c4 hcq
 refine Z5 (vI (IntKind.i64.wrap ((Y5 a1 a3) - (Y5 a0 a3)))) (eM (c4 6 22 rfl rfl)) rfl ?_
 exact qn (.refl _) rfl hS rfl
 intro k8 e5 e6 c5 hS g6 c6 hcq
 have hS : St e6 e5 ([(b4, cA (Z7 .i64 a1) 188)] ++ ([(b1, cA (Z7 .i64 a0) 188)] ++ L)) := hS
 have Z2 := Z2.trans c5
 refine Z1 ?_
 refine X0 (vs := [vI (IntKind.i64.wrap ((Y5 a1 a3) - (Y5 a0 a3)))]) Tryz.func221 ⟨(by exact (eM (c6 7 4 (by decide) rfl))), trivial⟩ ?_
 have hz := Option.some.inj a4
 subst hz
 dsimp only [Ex.elim] at a8
 have hz := Option.some.inj a8
 subst hz
 exact ⟨_, _, rfl, Z2, (St.dropA (St.dropA hS)), rfl⟩
 rw [if_neg b2] at a4
 refine Z8 (bF b2 rfl) ?_
 refine W4 rfl ?_
 have hz := Option.some.inj a4
 subst hz
 exact e8 _ _ ⟨d3, rfl, Z2, hS⟩
 exact ⟨0, H, a4, Z2, hS, (by omega), rfl, rfl, rfl⟩
 rintro k9 l0 ⟨l1, rfl, Z2, hS⟩
 dsimp only [Ex.elim] at a8
 refine Z3 (Z0 (Z5 (vI 0) rfl rfl (Z1 ?_)))
 refine X0 (vs := [vI 0]) Tryz.func221 ⟨rfl, trivial⟩ ?_
 have hz := Option.some.inj a8
 subst hz
 exact ⟨_, _, rfl, Z2, (St.dropA (St.dropA hS)), rfl⟩
def K6 (K : Nat) (a0 : (List Int)) (a1 : (List Int)) : Nat → Int → Option (Ex Bool (Unit))
 | 0, _ => none
 | k + 1, a3 => (if a3 < (a0.length : Int) then (if a3 < (a1.length : Int) then (if (rd a0 a3) = (rd a1 a3) then K6 K a0 a1 k (a3 + 1) else some (.ret false)) else none) else some (.go ()))
def Zp0 (K : Nat) (a0 : (List Int)) (a1 : (List Int)) : Option Bool := (if (a0.length : Int) = (a1.length : Int) then ((K6 K a0 a1 K 0).bind (Ex.elim (fun r => some r) (fun s => some true))) else some false)
theorem Ys5 {K : Nat} {a0 : (List Int)} {a1 : (List Int)} {r : Bool} (q0 : Zp0 K a0 a1 = some r) {H : FH} {w : World} {L : OL} {s0 : Value} {s1 : Value} (a6 : Y1 (Y6 .i64) H s0 a0) (a8 : Y1 (Y6 .i64) H s1 a1) (hS : St H w L) :
 Calls Tryz.prog 24 #[s0, s1] w (T2 (fun v G => R.bool.p G v r) H L) := by
 have Z2 := Sub.refl H
 refine X3 Tryz.func24 rfl Tryz.ntmps24 rfl ?_
 unfold Zp0 at q0
 refine Z3 (Z0 (Z5 (Value.bool false) rfl rfl (Z1 (Z3 (Z3 (Z0 (Z4 (s0) rfl rfl ?_)))))))
 have h2 := a6.bound
 refine W7 Q2 rfl a6 rfl (Z4 (s1) rfl rfl ?_)
 have h3 := a8.bound
 refine W7 Q2 rfl a8 rfl ?_
 refine J2 (k := .i64) (a := (a0.length : Int)) (b := (a1.length : Int)) rfl rfl rfl (Z1 ?_)
 by_cases b6 : (a0.length : Int) = (a1.length : Int)
 rw [if_pos b6] at q0
 refine Z8 (bN b6 rfl) (Y7 (Z3 (Z3 (Z0 (Z5 (vI 0) rfl rfl (Z1 (Y8 ?_)))))))
 obtain ⟨b8, a4, b1⟩ := bind_some q0
 refine W5 (id := 0) (fun k f w => ∃ (a3 : Int) (H1 : FH), K6 K a0 a1 k a3 = some b8 ∧ Sub H H1 ∧ St H1 w (L) ∧ 0 ≤ a3 ∧ Y1 (Y6 .i64) H1 s0 a0 ∧ Y1 (Y6 .i64) H1 s1 a1 ∧ ev f (.tmp 0) = s0 ∧ ev f (.tmp 1) = s1 ∧ ev f (.tmp 5) = vI a3) (fun f w => ∃ (H1 : FH), b8 = .go () ∧ Sub H H1 ∧ St H1 w (L)) rfl ?_ ?_ K ?_ ?_
 rintro f w ⟨a3, H1, a4, _⟩
 rw [K6] at a4; cases a4
 rintro k e7 e8 e0 e1 ⟨a3, c5, a4, Z2, hS, e2, a6, a8, a7, b0, a5⟩
 rw [K6] at a4
 refine Z3 (Z3 (Z0 (Z4 (vI a3) (by exact a5) rfl (Z4 (s0) (by exact a7) rfl ?_))))
 have h4 := a6.bound
 refine W7 Q2 rfl a6 rfl ?_
 refine V7 (k := .i64) (a := a3) (b := (a0.length : Int)) rfl rfl rfl (Z1 ?_)
 by_cases b7 : a3 < (a0.length : Int)
 rw [if_pos b7] at a4
 refine Y0 (bT b7 rfl) (Y7 (Z3 (Y8 (Z3 ?_))))
 obtain ⟨e3, e4, e9, h5, _, c6, b4, rfl, c7⟩ := a6.elem (i := a3) (by omega) (by omega)
 obtain ⟨f0, a4⟩ := gd a4
 obtain ⟨e5, e6, f1, h6, _, c8, b5, rfl, c9⟩ := a8.elem (i := a3) (by omega) (by omega)
 refine U6 9 (P9 [(17, MP.eq (s0)), (18, MP.eq (vI a3)), (19, MP.eq (Value.pointer (some ⟨e3, e4, none⟩))), (20, MP.eq (vI (rd a0 a3))), (21, MP.eq (s1)), (22, MP.eq (vI a3)), (23, MP.eq (Value.pointer (some ⟨e5, e6, none⟩))), (24, MP.eq (vI (rd a1 a3))), (25, MP.eq (Value.bool (!decide ((rd a0 a3) = (rd a1 a3)))))]) [] mixed rfl rfl rfl hS (Z6 rfl ?_ (Z6 rfl ?_ (Z6 rfl ?_ (Z6 rfl ?_ (Z6 rfl ?_ (Z6 rfl ?_ (Z6 rfl ?_ (Z6 rfl ?_ (Z6 rfl ?_ U8))))))))) ?_
 intro f6 w7 H8 X9 f2 hS d0 f3 hcq
 refine Z4 (s0) (evT (d0 0 rfl) a7) rfl ?_
 exact qn (.refl _) rfl hS rfl
 intro h7 h8 h9 i0 f4 hS d1 f5 hcq
 refine Z4 (vI a3) (evT (d1 5 rfl) a5) rfl ?_
 exact qn (.refl _) rfl hS rfl
 intro i1 i2 i3 i4 f7 hS f8 b9 hcq
 refine W3 Q2 rfl (eM (b9 0 17 rfl rfl)) c6 (eM (b9 1 18 rfl rfl)) (by omega) (by omega) rfl ?_
 exact qn (.refl _) rfl hS rfl
 intro i5 i6 i7 i8 d2 hS f9 d3 hcq
 have b4 := d2.1 _ _ b4
 refine Y4 (vI (rd a0 a3)) ty2 (eM (d3 2 19 rfl rfl)) (hS.froz _ _ b4) (c7 0 (show 0 < 1 by decide)) rfl ?_
 exact qn (.refl _) rfl hS rfl
 intro i9 j0 j1 j2 g0 hS d4 g1 hcq
 refine Z4 (s1) (evT (d4 1 rfl) b0) rfl ?_
 exact qn (.refl _) rfl hS rfl
 intro j3 j4 j5 j6 g2 hS d5 g3 hcq
 refine Z4 (vI a3) (evT (d5 5 rfl) a5) rfl ?_
 exact qn (.refl _) rfl hS rfl
 intro j7 j8 j9 k0 g4 hS g5 c0 hcq
 refine W3 Q2 rfl (eM (c0 4 21 rfl rfl)) c8 (eM (c0 5 22 rfl rfl)) (by omega) (by omega) rfl ?_
 exact qn (.refl _) rfl hS rfl
 intro k1 k2 k3 k4 d6 hS g6 d7 hcq
 have b5 := d6.1 _ _ b5
 refine Y4 (vI (rd a1 a3)) ty2 (eM (d7 6 23 rfl rfl)) (hS.froz _ _ b5) (c9 0 (show 0 < 1 by decide)) rfl ?_
 exact qn (.refl _) rfl hS rfl
 intro k5 k6 k7 k8 g7 hS g8 c1 hcq
 refine J2 (k := .i64) (a := (rd a0 a3)) (b := (rd a1 a3)) (eM (c1 3 20 rfl rfl)) (eM (c1 7 24 rfl rfl)) rfl ?_
 exact qn (.refl _) rfl hS rfl
 intro d8 d9 c2 b2 hS b3 c4 hcq
 have hS : St c2 d9 (L) := hS
 have Z2 := Z2.trans b2
 have a6 := a6.mono b2
 have a8 := a8.mono b2
 have c3 : ev d8 (.tmp 25) = Value.bool (!decide ((rd a0 a3) = (rd a1 a3))) := c4 8 25 (by decide) rfl
 refine Z1 ?_
 by_cases a9 : (rd a0 a3) = (rd a1 a3)
 rw [if_pos a9] at a4
 refine Z8 (bN a9 (by exact c3)) (Y7 (X2 (Z0 (Z4 (vI a3) (by exact (evT (b3 5 rfl) a5)) rfl ?_))))
 refine W8 (a3 + 1) rfl rfl (IntWalk.i64_in _ (by omega)) rfl (Z5 (vI (a3 + 1)) rfl rfl (Z1 ?_))
 exact e0 _ _ ⟨(a3 + 1), c2, a4, Z2, hS, (by omega), a6, a8, (evT (b3 0 rfl) a7), (evT (b3 1 rfl) b0), rfl⟩
 rw [if_neg a9] at a4
 refine Y0 (bO a9 (by exact c3)) (Z3 (Z0 (Z5 (Value.bool false) rfl rfl (Z1 ?_))))
 refine X0 (vs := [Value.bool false]) Tryz.func24 ⟨rfl, trivial⟩ ?_
 have hz := Option.some.inj a4
 subst hz
 dsimp only [Ex.elim] at b1
 have hz := Option.some.inj b1
 subst hz
 exact ⟨_, _, rfl, Z2, hS, rfl⟩
 rw [if_neg b7] at a4
 refine Z8 (bF b7 rfl) ?_
 refine W4 rfl ?_
 have hz := Option.some.inj a4
 subst hz
 exact e1 _ _ ⟨c5, rfl, Z2, hS⟩
 exact ⟨0, H, a4, Z2, hS, (by omega), a6, a8, rfl, rfl, rfl⟩
 rintro g9 h0 ⟨h1, rfl, Z2, hS⟩
 dsimp only [Ex.elim] at b1
 refine Z3 (Z0 (Z5 (Value.bool true) rfl rfl (Z1 ?_)))
 refine X0 (vs := [Value.bool true]) Tryz.func24 ⟨rfl, trivial⟩ ?_
 have hz := Option.some.inj b1
 subst hz
 exact ⟨_, _, rfl, Z2, hS, rfl⟩
 rw [if_neg b6] at q0
 refine Y0 (bO b6 rfl) (Z3 (Z0 (Z5 (Value.bool false) rfl rfl (Z1 ?_))))
 refine X0 (vs := [Value.bool false]) Tryz.func24 ⟨rfl, trivial⟩ ?_
 have hz := Option.some.inj q0
 subst hz
 exact ⟨_, _, rfl, Z2, hS, rfl⟩
def N5 (K : Nat) (a0 : A8) (a1 : A8) : Nat → Int → Option (Ex Bool (Unit))
 | 0, _ => none
 | k + 1, a3 => (if a3 < 8 then (if (Y5 a0 a3) = (Y5 a1 a3) then N5 K a0 a1 k (a3 + 1) else some (.ret false)) else some (.go ()))
def Zl6 (K : Nat) (a0 : A8) (a1 : A8) : Option Bool := ((N5 K a0 a1 K 0).bind (Ex.elim (fun r => some r) (fun s => some true)))
theorem Yq3 {K : Nat} {a0 : A8} {a1 : A8} {r : Bool} (q0 : Zl6 K a0 a1 = some r) {H : FH} {w : World} {L : OL} (hS : St H w L) :
 Calls Tryz.prog 268 #[vA (Z7 .u8 a0), vA (Z7 .u8 a1)] w (T2 (fun v G => R.bool.p G v r) H L) := by
 have Z2 := Sub.refl H
 refine X3 Tryz.func268 rfl Tryz.ntmps268 rfl ?_
 unfold Zl6 at q0
 refine Z3 (Z0 ?_)
 refine S4 (v := vA (Z7 .u8 a0)) (Z7 .u8 a0).toArray rfl rfl hS rfl ?_
 intro b1 w2 hS
 refine S4 (v := vA (Z7 .u8 a1)) (Z7 .u8 a1).toArray rfl rfl hS rfl ?_
 intro b4 w5 hS
 refine Z5 (Value.bool false) rfl rfl (Z1 (Z3 (Z3 (Z0 (Z5 (vI 0) rfl rfl (Z1 (Y8 ?_)))))))
 obtain ⟨b3, a4, a8⟩ := bind_some q0
 refine W5 (id := 0) (fun k f w => ∃ (a3 : Int) (H1 : FH), N5 K a0 a1 k a3 = some b3 ∧ Sub H H1 ∧ St H1 w ([(b4, cA (Z7 .u8 a1) 70)] ++ ([(b1, cA (Z7 .u8 a0) 70)] ++ L)) ∧ 0 ≤ a3 ∧ ev f (.tmp 2) = vP b1 ∧ ev f (.tmp 3) = vP b4 ∧ ev f (.tmp 5) = vI a3) (fun f w => ∃ (H1 : FH), b3 = .go () ∧ Sub H H1 ∧ St H1 w ([(b4, cA (Z7 .u8 a1) 70)] ++ ([(b1, cA (Z7 .u8 a0) 70)] ++ L))) rfl ?_ ?_ K ?_ ?_
 rintro f w ⟨a3, H1, a4, _⟩
 rw [N5] at a4; cases a4
 rintro k d4 d5 c9 d0 ⟨a3, b8, a4, Z2, hS, d1, a6, a7, a5⟩
 rw [N5] at a4
 refine Z3 (Z3 (Z0 (Z4 (vI a3) (by exact a5) rfl ?_)))
 refine V7 (k := .i64) (a := a3) (b := 8) rfl rfl rfl (Z1 ?_)
 by_cases b2 : a3 < 8
 rw [if_pos b2] at a4
 refine Y0 (bT b2 rfl) (Y7 (Z3 (Y8 (Z3 ?_))))
 refine U6 7 (P9 [(10, MP.eq (vI a3)), (11, MP.eq (Value.pointer (some ⟨b1, 0 + (a3).toNat * 1, none⟩))), (12, MP.eq (Value.int .u8 (Y5 a0 a3))), (13, MP.eq (vI a3)), (14, MP.eq (Value.pointer (some ⟨b4, 0 + (a3).toNat * 1, none⟩))), (15, MP.eq (Value.int .u8 (Y5 a1 a3))), (16, MP.eq (Value.bool (!decide ((Y5 a0 a3) = (Y5 a1 a3)))))]) [] mixed rfl rfl rfl hS (Z6 rfl ?_ (Z6 rfl ?_ (Z6 rfl ?_ (Z6 rfl ?_ (Z6 rfl ?_ (Z6 rfl ?_ (Z6 rfl ?_ U8))))))) ?_
 intro f8 w9 f1 f2 d6 hS b9 d7 hcq
 refine Z4 (vI a3) (evT (b9 5 rfl) a5) rfl ?_
 exact qn (.refl _) rfl hS rfl
 intro f3 f4 f5 f6 d8 hS c0 c1 hcq
 refine V5 Zd3 (evT (c0 2 rfl) a6) (eM (c1 0 10 rfl rfl)) (by omega) (by omega) rfl ?_
 exact qn (.refl _) rfl hS rfl
 intro f7 f9 g0 g1 d9 hS e0 c2 hcq
 refine Y4 (Value.int .u8 (Y5 a0 a3)) ty5 (eM (c2 1 11 rfl rfl)) (hS.get (o := cA (Z7 .u8 a0) 70) (mR (mR mL))) (M7 ([]) ([]) (by omega) (by omega)) rfl ?_
 exact qn (.refl _) rfl hS rfl
 intro g2 g3 g4 g5 e1 hS c3 e2 hcq
 refine Z4 (vI a3) (evT (c3 5 rfl) a5) rfl ?_
 exact qn (.refl _) rfl hS rfl
 intro g6 g7 g8 g9 e3 hS c4 c5 hcq
 refine V5 Zd3 (evT (c4 3 rfl) a7) (eM (c5 3 13 rfl rfl)) (by omega) (by omega) rfl ?_
 exact qn (.refl _) rfl hS rfl
 intro h0 h1 h2 h3 e4 hS e5 c6 hcq
 refine Y4 (Value.int .u8 (Y5 a1 a3)) ty5 (eM (c6 4 14 rfl rfl)) (hS.get (o := cA (Z7 .u8 a1) 70) (mR mL)) (M7 ([]) ([]) (by omega) (by omega)) rfl ?_
 exact qn (.refl _) rfl hS rfl
 intro h4 h5 h6 h7 e6 hS e7 b5 hcq
 refine J2 (k := .u8) (a := (Y5 a0 a3)) (b := (Y5 a1 a3)) (eM (b5 2 12 rfl rfl)) (eM (b5 5 15 rfl rfl)) rfl ?_
 exact qn (.refl _) rfl hS rfl
 intro d2 d3 b6 c7 hS b0 c8 hcq
 have hS : St b6 d3 ([(b4, cA (Z7 .u8 a1) 70)] ++ ([(b1, cA (Z7 .u8 a0) 70)] ++ L)) := hS
 have Z2 := Z2.trans c7
 have b7 : ev d2 (.tmp 16) = Value.bool (!decide ((Y5 a0 a3) = (Y5 a1 a3))) := c8 6 16 (by decide) rfl
 refine Z1 ?_
 by_cases a9 : (Y5 a0 a3) = (Y5 a1 a3)
 rw [if_pos a9] at a4
 refine Z8 (bN a9 (by exact b7)) (Y7 (X2 (Z0 (Z4 (vI a3) (by exact (evT (b0 5 rfl) a5)) rfl ?_))))
 refine W8 (a3 + 1) rfl rfl (IntWalk.i64_in _ (by omega)) rfl (Z5 (vI (a3 + 1)) rfl rfl (Z1 ?_))
 exact c9 _ _ ⟨(a3 + 1), b6, a4, Z2, hS, (by omega), (evT (b0 2 rfl) a6), (evT (b0 3 rfl) a7), rfl⟩
 rw [if_neg a9] at a4
 refine Y0 (bO a9 (by exact b7)) (Z3 (Z0 (Z5 (Value.bool false) rfl rfl (Z1 ?_))))
 refine X0 (vs := [Value.bool false]) Tryz.func268 ⟨rfl, trivial⟩ ?_
 have hz := Option.some.inj a4
 subst hz
 dsimp only [Ex.elim] at a8
 have hz := Option.some.inj a8
 subst hz
 exact ⟨_, _, rfl, Z2, (St.dropA (St.dropA hS)), rfl⟩
 rw [if_neg b2] at a4
 refine Z8 (bF b2 rfl) ?_
 refine W4 rfl ?_
 have hz := Option.some.inj a4
 subst hz
 exact d0 _ _ ⟨b8, rfl, Z2, hS⟩
 exact ⟨0, H, a4, Z2, hS, (by omega), rfl, rfl, rfl⟩
 rintro e8 e9 ⟨f0, rfl, Z2, hS⟩
 dsimp only [Ex.elim] at a8
 refine Z3 (Z0 (Z5 (Value.bool true) rfl rfl (Z1 ?_)))
 refine X0 (vs := [Value.bool true]) Tryz.func268 ⟨rfl, trivial⟩ ?_
 have hz := Option.some.inj a8
 subst hz
 exact ⟨_, _, rfl, Z2, (St.dropA (St.dropA hS)), rfl⟩
def B5 (K : Nat) (a0 : (List Int)) : Nat → Int → (List Int) → Option (Ex (List Int) ((List Int)))
 | 0, _, _ => none
 | k + 1, a1, a3 => (if a1 < (a0.length : Int) then (if a1 < (a3.length : Int) then B5 K a0 k (a1 + 1) (a3.set (a1).toNat (rd a0 a1)) else none) else some (.go a3))
def Zo6 (K : Nat) (a0 : (List Int)) : Option (List Int) := (if (a0.length : Int) ≤ 1099511627776 then ((B5 K a0 K 0 (List.replicate ((a0.length : Int)).toNat (0 : Int))).bind (Ex.elim (fun r => some r) (fun s => (fun (a7 : (List Int)) => some a7) s))) else none)
theorem Yt9 {K : Nat} {a0 : (List Int)} {r : (List Int)} (q0 : Zo6 K a0 = some r) {H : FH} {w : World} {L : OL} {s0 : Value} (b4 : Y1 (Y6 .i64) H s0 a0) (hS : St H w L) :
 Calls Tryz.prog 83 #[s0] w (T2 (fun v G => (R.sl (Y6 .i64)).p (G.new H) v r) H L) := by
 have Z2 := Sub.refl H
 refine X3 Tryz.func83 rfl Tryz.ntmps83 rfl ?_
 unfold Zo6 at q0
 refine Z3 (Z0 (Z5 (vN) rfl rfl (Z1 (Z3 (Z0 (Z4 (s0) rfl rfl ?_))))))
 have e2 := b4.bound
 refine W7 Q2 rfl b4 rfl ?_
 obtain ⟨e3, q0⟩ := gd q0
 refine Xd4 (τ := (Y6 .i64)) (0 : Int) Xp4 rfl rfl rfl (fun _ => rfl) (by omega) (by omega) hS rfl ?_
 intro u3 w4 C5 c8 hS
 refine Z5 (u3) rfl rfl (Z1 (Z3 (Z3 (Z0 (Z5 (vI 0) rfl rfl (Z1 (Y8 ?_)))))))
 obtain ⟨b9, a6, c0⟩ := bind_some q0
 refine W5 (id := 0) (fun k f w => ∃ (a1 : Int) (a3 : (List Int)) (H1 : FH) (a8 : OL) (a4 : Value), B5 K a0 k a1 a3 = some b9 ∧ Sub H H1 ∧ St H1 w (a8 ++ L) ∧ 0 ≤ a1 ∧ V0 (Y6 .i64) 2 H1 a4 a3 a8 ∧ Y1 (Y6 .i64) H1 s0 a0 ∧ ev f (.tmp 0) = s0 ∧ ev f (.tmp 3) = a4 ∧ ev f (.tmp 4) = vI a1) (fun f w => ∃ (a7 : (List Int)) (H1 : FH) (b1 : OL) (a5 : Value), b9 = .go a7 ∧ Sub H H1 ∧ St H1 w (b1 ++ L) ∧ V0 (Y6 .i64) 2 H1 a5 a7 b1 ∧ ev f (.tmp 3) = a5) rfl ?_ ?_ K ?_ ?_
 rintro f w ⟨a1, a3, H1, a8, a4, a6, _⟩
 rw [B5] at a6; cases a6
 rintro k d4 d5 c9 d0 ⟨a1, a3, c1, a8, a4, a6, Z2, hS, d1, a9, b4, b2, b3, b0⟩
 rw [B5] at a6
 refine Z3 (Z3 (Z0 (Z4 (vI a1) (by exact b0) rfl (Z4 (s0) (by exact b2) rfl ?_))))
 have e4 := b4.bound
 refine W7 Q2 rfl b4 rfl ?_
 refine V7 (k := .i64) (a := a1) (b := (a0.length : Int)) rfl rfl rfl (Z1 ?_)
 by_cases b7 : a1 < (a0.length : Int)
 rw [if_pos b7] at a6
 refine Y0 (bT b7 rfl) (Y7 (Z3 (Y8 (Z0 (Z4 (a4) (by exact b3) rfl (Z4 (vI a1) (by exact b0) rfl (Z4 (s0) (by exact b2) rfl (Z4 (vI a1) (by exact b0) rfl ?_))))))))
 obtain ⟨e5, e6, d6, e7, _, c3, c4, rfl, c5⟩ := b4.elem (i := a1) (by omega) (by omega)
 refine W3 Q2 rfl rfl c3 rfl (by omega) (by omega) rfl ?_
 refine Y4 (vI (rd a0 a1)) ty2 rfl (hS.froz _ _ c4) (c5 0 (show 0 < 1 by decide)) rfl ?_
 obtain ⟨d7, a6⟩ := gd a6
 obtain ⟨e8, e9, c2⟩ := a9.some (i := a1) (by omega) (by omega)
 refine Zs3 Q2 (Eq.trans rfl c2) rfl (by omega) (by omega) rfl ?_
 refine Zs8 (τ := (Y6 .i64)) (v := a4) (u := vI (rd a0 a1)) (rd a0 a1) (i := a1) rfl ty2 c2 a9 hS rfl rfl (by omega) (by omega) rfl ?_
 intro f0 d2 c6 hS
 refine Z1 (X2 (Z0 (Z4 (vI a1) (by exact b0) rfl ?_)))
 refine W8 (a1 + 1) rfl rfl (IntWalk.i64_in _ (by omega)) rfl (Z5 (vI (a1 + 1)) rfl rfl (Z1 ?_))
 exact c9 _ _ ⟨(a1 + 1), (a3.set (a1).toNat (rd a0 a1)), c1, d2, a4, a6, Z2, hS, (by omega), c6, b4, b2, b3, rfl⟩
 rw [if_neg b7] at a6
 refine Z8 (bF b7 rfl) ?_
 refine W4 rfl ?_
 have hz := Option.some.inj a6
 subst hz
 exact d0 _ _ ⟨a3, c1, a8, a4, rfl, Z2, hS, a9, b3⟩
 exact ⟨0, (List.replicate ((a0.length : Int)).toNat (0 : Int)), H, C5, u3, a6, Z2, hS, (by omega), c8, b4, rfl, rfl, rfl⟩
 rintro d8 d9 ⟨a7, e0, b1, a5, rfl, Z2, hS, b6, b8⟩
 dsimp only [Ex.elim] at c0
 refine Z3 (Z0 (Z4 (a5) (by exact b8) rfl (Z5 (a5) rfl rfl (Z1 ?_))))
 refine X0 (vs := [a5]) Tryz.func83 ⟨rfl, trivial⟩ ?_
 obtain ⟨d3, c7, hS, b5⟩ := V0.freezeF (τ := (Y6 .i64)) (H0 := H) b6 hS Z2
 have e1 := Y1.old b5
 have b5 : RdF (Y6 .i64) H d3 a5 a7 := b5
 have Z2 := Z2.trans c7
 have hz := Option.some.inj c0
 subst hz
 exact ⟨_, _, rfl, Z2, hS, b5⟩
def G7 (K : Nat) (a0 : A8) : Nat → Int → A8 → Option (Ex A8 (A8))
 | 0, _, _ => none
 | k + 1, a1, a3 => (if a1 < 8 then G7 K a0 k (a1 + 1) (S3 a3 a1 (Y5 a0 a1)) else some (.go a3))
def Zl5 (K : Nat) (a0 : A8) : Option A8 := ((G7 K a0 K 0 (fun _ => 0)).bind (Ex.elim (fun r => some r) (fun s => (fun (a4 : A8) => some a4) s)))
theorem Yn9 {K : Nat} {a0 : A8} {r : A8} (q0 : Zl5 K a0 = some r) {H : FH} {w : World} {L : OL} (hS : St H w L) :
 Calls Tryz.prog 267 #[vA (Z7 .u8 a0)] w (T2 (fun v G => (R.agg (Zr5 .u8)).p G v r) H L) := by
 have Z2 := Sub.refl H
 refine X3 Tryz.func267 rfl Tryz.ntmps267 rfl ?_
 unfold Zl5 at q0
 refine Z3 (Z0 ?_)
 refine S4 (v := vA (Z7 .u8 a0)) (Z7 .u8 a0).toArray rfl rfl hS rfl ?_
 intro b1 w2 hS
 refine V1 (z := vA (Z7 .u8 (fun _ => 0))) (Z7 .u8 (fun _ => 0)).toArray Yi6.zero rfl hS rfl ?_
 intro b4 w5 hS
 refine Z1 (Z3 (Z0 ?_))
 refine V1 (z := vA (Z7 .u8 (fun _ => 0))) (Z7 .u8 (fun _ => 0)).toArray Yi6.zero rfl hS rfl ?_
 intro b7 w8 hS
 refine Z1 (Z3 (Z3 (Z0 (Z5 (vI 0) rfl rfl (Z1 (Y8 ?_))))))
 obtain ⟨b5, a5, b6⟩ := bind_some q0
 refine W5 (id := 0) (fun k f w => ∃ (a1 : Int) (a3 : A8) (H1 : FH), G7 K a0 k a1 a3 = some b5 ∧ Sub H H1 ∧ St H1 w ([(b7, cA (Z7 .u8 a3) 70)] ++ ([(b4, cA (Z7 .u8 (fun _ => 0)) 70)] ++ ([(b1, cA (Z7 .u8 a0) 69)] ++ L))) ∧ 0 ≤ a1 ∧ ev f (.tmp 1) = vP b1 ∧ ev f (.tmp 2) = vP b4 ∧ ev f (.tmp 3) = vP b7 ∧ ev f (.tmp 4) = vI a1) (fun f w => ∃ (a4 : A8) (H1 : FH), b5 = .go a4 ∧ Sub H H1 ∧ St H1 w ([(b7, cA (Z7 .u8 a4) 70)] ++ ([(b4, cA (Z7 .u8 (fun _ => 0)) 70)] ++ ([(b1, cA (Z7 .u8 a0) 69)] ++ L))) ∧ ev f (.tmp 2) = vP b4 ∧ ev f (.tmp 3) = vP b7) rfl ?_ ?_ K ?_ ?_
 rintro f w ⟨a1, a3, H1, a5, _⟩
 rw [G7] at a5; cases a5
 rintro k c2 c3 b9 c0 ⟨a1, a3, b8, a5, Z2, hS, c1, a8, a9, a7, a6⟩
 rw [G7] at a5
 refine Z3 (Z3 (Z0 (Z4 (vI a1) (by exact a6) rfl ?_)))
 refine V7 (k := .i64) (a := a1) (b := 8) rfl rfl rfl (Z1 ?_)
 by_cases b2 : a1 < 8
 rw [if_pos b2] at a5
 refine Y0 (bT b2 rfl) (Y7 (Z3 (Y8 (Z0 (Z4 (vI a1) (by exact a6) rfl (Z4 (vI a1) (by exact a6) rfl ?_))))))
 refine V5 Vb1 (by exact a8) rfl (by omega) (by omega) rfl ?_
 refine Y4 (Value.int .u8 (Y5 a0 a1)) ty5 rfl (hS.get (o := cA (Z7 .u8 a0) 69) (mR (mR mL))) (M7 ([]) ([]) (by omega) (by omega)) rfl ?_
 refine V5 Zd3 (by exact a7) rfl (by omega) (by omega) rfl ?_
 refine Za5 (v := Value.int .u8 (Y5 a0 a1)) (cs := (Z7 .u8 a3).toArray) (cs' := (Z7 .u8 (S3 a3 a1 (Y5 a0 a1))).toArray) ty5 rfl rfl hS rfl (Zz4 rfl) (by simp [Z7, N7]; omega) (Zi5 (by omega) (by omega)) ?_
 intro c7 hS
 refine Z1 (X2 (Z0 (Z4 (vI a1) (by exact a6) rfl ?_)))
 refine W8 (a1 + 1) rfl rfl (IntWalk.i64_in _ (by omega)) rfl (Z5 (vI (a1 + 1)) rfl rfl (Z1 ?_))
 exact b9 _ _ ⟨(a1 + 1), (S3 a3 a1 (Y5 a0 a1)), b8, a5, Z2, hS, (by omega), a8, a9, a7, rfl⟩
 rw [if_neg b2] at a5
 refine Z8 (bF b2 rfl) ?_
 refine W4 rfl ?_
 have hz := Option.some.inj a5
 subst hz
 exact c0 _ _ ⟨a3, b8, rfl, Z2, hS, a9, a7⟩
 exact ⟨0, (fun _ => 0), H, a5, Z2, hS, (by omega), rfl, rfl, rfl, rfl⟩
 rintro c4 c5 ⟨a4, c6, rfl, Z2, hS, b0, b3⟩
 dsimp only [Ex.elim] at b6
 refine Z3 (Z0 ?_)
 refine W2 N6 (by exact b3) (hS.get mL) rfl rfl ?_
 have hS := hS.perm U1
 refine W0 (v := vA (Z7 .u8 a4)) (vs := (Z7 .u8 a4).toArray) (cs := (Z7 .u8 (fun _ => 0)).toArray) N6 (by exact b0) rfl rfl hS rfl (S9 .u8 a4) rfl ?_
 intro c8 hS
 have hS := hS.perm U1.symm
 refine Z1 ?_
 refine X0 (vs := [vA (Z7 .u8 a4)]) Tryz.func267 ⟨⟨_, (by exact b0), U5 N6 (hS.get (mR mL)) rfl⟩, trivial⟩ ?_
 have hz := Option.some.inj b6
 subst hz
 exact ⟨_, _, rfl, Z2, (St.dropA (St.dropA (St.dropA hS))), ⟨_, rfl, rfl⟩⟩
def I9 (K : Nat) (a0 : (List Int)) : Nat → Int → Int → Option (Ex Int (Int))
 | 0, _, _ => none
 | k + 1, a4, a3 => (if a3 < (a0.length : Int) then (if (rd a0 a3) = a4 then I9 K a0 k (IntKind.i64.wrap (a4 + 1)) (a3 + 1) else some (.ret (-1))) else some (.go a4))
def Zk6 (K : Nat) (a0 : (List Int)) (a1 : Int) : Option Int := ((I9 K a0 K a1 0).bind (Ex.elim (fun r => some r) (fun s => (fun (a6 : Int) => some a6) s)))
theorem Yp0 {K : Nat} {a0 : (List Int)} {a1 : Int} {r : Int} (q0 : Zk6 K a0 a1 = some r) {H : FH} {w : World} {L : OL} {s0 : Value} (b0 : Y1 (Y6 .i64) H s0 a0) (hS : St H w L) :
 Calls Tryz.prog 26 #[s0, vI a1] w (T2 (fun v G => (R.int .i64).p G v r) H L) := by
 have Z2 := Sub.refl H
 refine X3 Tryz.func26 rfl Tryz.ntmps26 rfl ?_
 unfold Zk6 at q0
 refine Z3 (Z0 (Z5 (vI 0) rfl rfl (Z1 (Z3 (Z3 (Z0 (Z5 (vI 0) rfl rfl (Z1 (Y8 ?_)))))))))
 obtain ⟨b6, a5, b1⟩ := bind_some q0
 refine W5 (id := 0) (fun k f w => ∃ (a4 : Int) (a3 : Int) (H1 : FH), I9 K a0 k a4 a3 = some b6 ∧ Sub H H1 ∧ St H1 w (L) ∧ 0 ≤ a3 ∧ Y1 (Y6 .i64) H1 s0 a0 ∧ ev f (.tmp 0) = s0 ∧ ev f (.tmp 1) = vI a4 ∧ ev f (.tmp 5) = vI a3) (fun f w => ∃ (a6 : Int) (H1 : FH), b6 = .go a6 ∧ Sub H H1 ∧ St H1 w (L) ∧ ev f (.tmp 1) = vI a6) rfl ?_ ?_ K ?_ ?_
 rintro f w ⟨a4, a3, H1, a5, _⟩
 rw [I9] at a5; cases a5
 rintro k c4 c5 b8 b9 ⟨a4, a3, b7, a5, Z2, hS, c0, b0, a7, a8, a9⟩
 rw [I9] at a5
 refine Z3 (Z3 (Z0 (Z4 (vI a3) (by exact a9) rfl (Z4 (s0) (by exact a7) rfl ?_))))
 have c9 := b0.bound
 refine W7 Q2 rfl b0 rfl ?_
 refine V7 (k := .i64) (a := a3) (b := (a0.length : Int)) rfl rfl rfl (Z1 ?_)
 by_cases b2 : a3 < (a0.length : Int)
 rw [if_pos b2] at a5
 refine Y0 (bT b2 rfl) (Y7 (Z3 (Y8 (Z3 (Z3 (Z0 (Z4 (s0) (by exact a7) rfl (Z4 (vI a3) (by exact a9) rfl ?_))))))))
 obtain ⟨b3, o3, d0, E3, _, c1, c2, rfl, c3⟩ := b0.elem (i := a3) (by omega) (by omega)
 refine W3 Q2 rfl rfl c1 rfl (by omega) (by omega) rfl ?_
 refine Y4 (vI (rd a0 a3)) ty2 rfl (hS.froz _ _ c2) (c3 0 (show 0 < 1 by decide)) rfl (Z4 (vI a4) (by exact a8) rfl ?_)
 refine J2 (k := .i64) (a := (rd a0 a3)) (b := a4) rfl rfl rfl (Z1 ?_)
 by_cases b4 : (rd a0 a3) = a4
 rw [if_pos b4] at a5
 refine Z8 (bN b4 rfl) (Y7 (Z0 (Z4 (vI a4) (by exact a8) rfl ?_)))
 refine W8 (IntKind.i64.wrap (a4 + 1)) rfl rfl rfl rfl (Z5 (vI (IntKind.i64.wrap (a4 + 1))) rfl rfl (Z1 (X2 (Z0 (Z4 (vI a3) (by exact a9) rfl ?_)))))
 refine W8 (a3 + 1) rfl rfl (IntWalk.i64_in _ (by omega)) rfl (Z5 (vI (a3 + 1)) rfl rfl (Z1 ?_))
 exact b8 _ _ ⟨(IntKind.i64.wrap (a4 + 1)), (a3 + 1), b7, a5, Z2, hS, (by omega), b0, a7, rfl, rfl⟩
 rw [if_neg b4] at a5
 refine Y0 (bO b4 rfl) (Z3 (Z0 (Z5 (vI (-1)) rfl rfl (Z1 ?_))))
 refine X0 (vs := [vI (-1)]) Tryz.func26 ⟨rfl, trivial⟩ ?_
 have hz := Option.some.inj a5
 subst hz
 dsimp only [Ex.elim] at b1
 have hz := Option.some.inj b1
 subst hz
 exact ⟨_, _, rfl, Z2, hS, rfl⟩
 rw [if_neg b2] at a5
 refine Z8 (bF b2 rfl) ?_
 refine W4 rfl ?_
 have hz := Option.some.inj a5
 subst hz
 exact b9 _ _ ⟨a4, b7, rfl, Z2, hS, a8⟩
 exact ⟨a1, 0, H, a5, Z2, hS, (by omega), b0, rfl, rfl, rfl⟩
 rintro c6 c7 ⟨a6, c8, rfl, Z2, hS, b5⟩
 dsimp only [Ex.elim] at b1
 refine Z3 (Z0 (Z4 (vI a6) (by exact b5) rfl (Z5 (vI a6) rfl rfl (Z1 ?_))))
 refine X0 (vs := [vI a6]) Tryz.func26 ⟨rfl, trivial⟩ ?_
 have hz := Option.some.inj b1
 subst hz
 exact ⟨_, _, rfl, Z2, hS, rfl⟩
def Zu5 (K : Nat) (a0 : (List Int)) (a1 : Int) : Option Int := (if (IntKind.i64.wrap (a1 - (a0.length : Int))) < 0 then some (-1) else some (IntKind.i64.wrap (a1 - (a0.length : Int))))
theorem Yt6 {K : Nat} {a0 : (List Int)} {a1 : Int} {r : Int} (q0 : Zu5 K a0 a1 = some r) {H : FH} {w : World} {L : OL} {s0 : Value} (a4 : Y1 (Y6 .i64) H s0 a0) (hS : St H w L) :
 Calls Tryz.prog 77 #[s0, vI a1] w (T2 (fun v G => (R.int .i64).p G v r) H L) := by
 have Z2 := Sub.refl H
 refine X3 Tryz.func77 rfl Tryz.ntmps77 rfl ?_
 unfold Zu5 at q0
 refine Z3 (Z0 (Z5 (vI 0) rfl rfl (Z1 (Z3 (Z0 (Z4 (vI a1) rfl rfl (Z4 (s0) rfl rfl ?_)))))))
 have a5 := a4.bound
 refine W7 Q2 rfl a4 rfl ?_
 refine Yc4 (IntKind.i64.wrap (a1 - (a0.length : Int))) rfl rfl rfl rfl (Z5 (vI (IntKind.i64.wrap (a1 - (a0.length : Int)))) rfl rfl (Z1 (Z3 (Z3 (Z0 (Z4 (vI (IntKind.i64.wrap (a1 - (a0.length : Int)))) rfl rfl ?_))))))
 refine V7 (k := .i64) (a := (IntKind.i64.wrap (a1 - (a0.length : Int)))) (b := 0) rfl rfl rfl (Z1 ?_)
 by_cases a3 : (IntKind.i64.wrap (a1 - (a0.length : Int))) < 0
 rw [if_pos a3] at q0
 refine Y0 (bT a3 rfl) (Z3 (Z0 (Z5 (vI (-1)) rfl rfl (Z1 ?_))))
 refine X0 (vs := [vI (-1)]) Tryz.func77 ⟨rfl, trivial⟩ ?_
 have hz := Option.some.inj q0
 subst hz
 exact ⟨_, _, rfl, Z2, hS, rfl⟩
 rw [if_neg a3] at q0
 refine Z8 (bF a3 rfl) (Y7 (Z3 (Z0 (Z4 (vI (IntKind.i64.wrap (a1 - (a0.length : Int)))) rfl rfl (Z5 (vI (IntKind.i64.wrap (a1 - (a0.length : Int)))) rfl rfl (Z1 ?_))))))
 refine X0 (vs := [vI (IntKind.i64.wrap (a1 - (a0.length : Int)))]) Tryz.func77 ⟨rfl, trivial⟩ ?_
 have hz := Option.some.inj q0
 subst hz
 exact ⟨_, _, rfl, Z2, hS, rfl⟩
def Zo1 (K : Nat) (a0 : Int) (a1 : Int) (a2 : Int) : Option Bool := (if a1 ≤ a0 then some (decide (a0 ≤ a2)) else some false)
theorem Yh3 {K : Nat} {a0 : Int} {a1 : Int} {a2 : Int} {r : Bool} (q0 : Zo1 K a0 a1 a2 = some r) {H : FH} {w : World} {L : OL} (hS : St H w L) :
 Calls Tryz.prog 97 #[vI a0, vI a1, vI a2] w (T2 (fun v G => R.bool.p G v r) H L) := by
 have Z2 := Sub.refl H
 refine X3 Tryz.func97 rfl Tryz.ntmps97 rfl ?_
 unfold Zo1 at q0
 refine Z3 (Z0 (Z5 (Value.bool false) rfl rfl (Z1 (Z3 (Z0 (Z4 (vI a0) rfl rfl (Z4 (vI a1) rfl rfl ?_)))))))
 refine Yc2 (k := .i64) (a := a0) (b := a1) rfl rfl rfl (Z4 (Value.bool (decide (a1 ≤ a0))) rfl rfl ?_)
 by_cases a3 : a1 ≤ a0
 rw [if_pos a3] at q0
 refine Y2 rfl rfl (bT a3 rfl) (Z4 (vI a0) rfl rfl ?_)
 refine Y2 rfl rfl (bT a3 rfl) (Z4 (vI a2) rfl rfl ?_)
 refine Y2 rfl rfl (bT a3 rfl) ?_
 refine Yv7 (k := .i64) (a := a0) (b := a2) rfl rfl rfl ?_
 refine V2 (t := true) (Value.bool (decide (a0 ≤ a2))) (bT a3 rfl) ((if_pos rfl).trans rfl) rfl (Z5 (Value.bool (decide (a0 ≤ a2))) rfl rfl (Z1 ?_))
 refine X0 (vs := [Value.bool (decide (a0 ≤ a2))]) Tryz.func97 ⟨rfl, trivial⟩ ?_
 have hz := Option.some.inj q0
 subst hz
 exact ⟨_, _, rfl, Z2, hS, rfl⟩
 rw [if_neg a3] at q0
 refine Z9 rfl rfl (bF a3 rfl) rfl rfl rfl (Z9 rfl rfl (bF a3 rfl) rfl rfl rfl (Z9 rfl rfl (bF a3 rfl) rfl rfl rfl ?_))
 refine V2 (t := false) (Value.bool false) (bF a3 rfl) ((if_neg Bool.false_ne_true).trans rfl) rfl (Z5 (Value.bool false) rfl rfl (Z1 ?_))
 refine X0 (vs := [Value.bool false]) Tryz.func97 ⟨rfl, trivial⟩ ?_
 have hz := Option.some.inj q0
 subst hz
 exact ⟨_, _, rfl, Z2, hS, rfl⟩
def Za1 (K : Nat) (a0 : Int) : Option Int := some (((IntKind.i64.wrap (((a0).tmod 10007) + 10007))).tmod 10007)
theorem Zc2 {K : Nat} {a0 : Int} {r : Int} (q0 : Za1 K a0 = some r) {H : FH} {w : World} {L : OL} (hS : St H w L) :
 Calls Tryz.prog 217 #[vI a0] w (T2 (fun v G => (R.int .i64).p G v r) H L) := by
 have Z2 := Sub.refl H
 refine X3 Tryz.func217 rfl Tryz.ntmps217 rfl ?_
 unfold Za1 at q0
 refine Z3 (Z0 (Z5 (vI 0) rfl rfl (Z1 (Z3 (Z0 (Z4 (vI a0) rfl rfl ?_))))))
 refine Zh4 ((a0).tmod 10007) rfl rfl (by decide) rfl rfl ?_
 refine W8 (IntKind.i64.wrap (((a0).tmod 10007) + 10007)) rfl rfl rfl rfl ?_
 refine Zh4 (((IntKind.i64.wrap (((a0).tmod 10007) + 10007))).tmod 10007) rfl rfl (by decide) rfl rfl (Z5 (vI (((IntKind.i64.wrap (((a0).tmod 10007) + 10007))).tmod 10007)) rfl rfl (Z1 ?_))
 refine X0 (vs := [vI (((IntKind.i64.wrap (((a0).tmod 10007) + 10007))).tmod 10007)]) Tryz.func217 ⟨rfl, trivial⟩ ?_
 have hz := Option.some.inj q0
 subst hz
 exact ⟨_, _, rfl, Z2, hS, rfl⟩
def Zl9 (K : Nat) (a0 : Int) : Option Bool := some (!decide (a0 = 0))
theorem Yx3 {K : Nat} {a0 : Int} {r : Bool} (q0 : Zl9 K a0 = some r) {H : FH} {w : World} {L : OL} (hS : St H w L) :
 Calls Tryz.prog 264 #[vI a0] w (T2 (fun v G => R.bool.p G v r) H L) := by
 have Z2 := Sub.refl H
 refine X3 Tryz.func264 rfl Tryz.ntmps264 rfl ?_
 unfold Zl9 at q0
 refine Z3 (Z0 (Z5 (Value.bool false) rfl rfl (Z1 (Z3 (Z0 (Z4 (vI a0) rfl rfl ?_))))))
 refine J2 (k := .i64) (a := a0) (b := 0) rfl rfl rfl (Z5 (Value.bool (!decide (a0 = 0))) rfl rfl (Z1 ?_))
 refine X0 (vs := [Value.bool (!decide (a0 = 0))]) Tryz.func264 ⟨rfl, trivial⟩ ?_
 have hz := Option.some.inj q0
 subst hz
 exact ⟨_, _, rfl, Z2, hS, rfl⟩
end Go.Proofs.YtfodlhkoafhplaaGreat
