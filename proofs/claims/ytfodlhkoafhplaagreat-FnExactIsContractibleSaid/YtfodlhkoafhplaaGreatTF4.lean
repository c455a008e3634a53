/- Walks of functions: each computes its pure function, if that gives a value. -/
import Derived.Test.YtfodlhkoafhplaaGreatTTy
namespace Go.Proofs.YtfodlhkoafhplaaGreat
open Go
set_option linter.unusedSimpArgs false
set_option linter.unusedVariables false
set_option maxRecDepth 100000
set_option maxHeartbeats 8000000
def J2 (K : Nat) (a1 : (List Int)) (a3 : Int) : Nat → Bool → Int → Option (Ex (List Int) (Bool))
 | 0, _, _ => none
 | k + 1, b2, a4 => (if a4 < (a1.length : Int) then (if b2 = true then J2 K a1 a3 k true (a4 + 1) else J2 K a1 a3 k (decide ((rd a1 a4) = a3)) (a4 + 1)) else some (.go b2))
def J4 (K : Nat) (a0 : (List Int)) (a1 : (List Int)) : Nat → Int → (List Int) → Option (Ex (List Int) ((List Int)))
 | 0, _, _ => none
 | k + 1, a3, a6 => (if a3 < (a0.length : Int) then ((J2 K a1 a3 K false 0).bind (Ex.elim (fun r => some (.ret r)) (fun s => (fun (b8 : Bool) => (if b8 = true then J4 K a0 a1 k (a3 + 1) a6 else (if a6.length + ([(rd a0 a3)]).length ≤ 1099511627776 then J4 K a0 a1 k (a3 + 1) (a6 ++ [(rd a0 a3)]) else none))) s))) else some (.go a6))
def Zl6 (K : Nat) (a0 : (List Int)) (a1 : (List Int)) : Option (List Int) := ((J4 K a0 a1 K 0 ([] : List Int)).bind (Ex.elim (fun r => some r) (fun s => (fun (b6 : (List Int)) => some b6) s)))
theorem Yo5 {K : Nat} {a0 : (List Int)} {a1 : (List Int)} {r : (List Int)} (q0 : Zl6 K a0 a1 = some r) {H : FH} {w : World} {L : OL} {s0 : Value} {s1 : Value} (b3 : Z9 (Y6 .i64) H s0 a0) (b4 : Z9 (Y6 .i64) H s1 a1) (hS : St H w L) :
 Calls Tryz.prog 79 #[s0, s1] w (T3 (fun v G => (R.sl (Y6 .i64)).p G v r) H L) := by
 have Z2 := Sub.refl H
 refine X6 Tryz.func79 rfl Tryz.ntmps79 rfl ?_
 unfold Zl6 at q0
 refine Z3 (Z1 (Z5 (vN) rfl rfl (Z0 (Z3 (Z1 ?_)))))
 refine Zn2 (τ := (Y6 .i64)) Q1 ze2 rfl hS rfl ?_
 intro u1 w2 C3 g1 hS
 refine Z5 (u1) rfl rfl (Z0 (Z3 (Z3 (Z1 (Z5 (vI 0) rfl rfl (Z0 (Y7 ?_)))))))
 obtain ⟨e2, b5, e3⟩ := bind_some q0
 refine W7 (id := 0) (fun k f w => ∃ (a3 : Int) (a6 : (List Int)) (H1 : FH) (a8 : OL) (a7 : Value), J4 K a0 a1 k a3 a6 = some e2 ∧ Sub H H1 ∧ St H1 w (a8 ++ L) ∧ 0 ≤ a3 ∧ W3 (Y6 .i64) 2 H1 a7 a6 a8 ∧ Z9 (Y6 .i64) H1 s0 a0 ∧ Z9 (Y6 .i64) H1 s1 a1 ∧ ev f (.tmp 0) = s0 ∧ ev f (.tmp 1) = s1 ∧ ev f (.tmp 5) = a7 ∧ ev f (.tmp 6) = vI a3) (fun f w => ∃ (b6 : (List Int)) (H1 : FH) (c1 : OL) (b0 : Value), e2 = .go b6 ∧ Sub H H1 ∧ St H1 w (c1 ++ L) ∧ W3 (Y6 .i64) 2 H1 b0 b6 c1 ∧ ev f (.tmp 5) = b0) rfl ?_ ?_ K ?_ ?_
 rintro f w ⟨a3, a6, H1, a8, a7, b5, _⟩
 rw [J4] at b5; cases b5
 rintro k g8 g9 e6 g2 ⟨a3, a6, e4, a8, a7, b5, Z2, hS, g3, a5, b3, b4, c7, d9, c8, c9⟩
 rw [J4] at b5
 refine Z3 (Z3 (Z1 (Z4 (vI a3) (by exact c9) rfl (Z4 (s0) (by exact c7) rfl ?_))))
 have h9 := b3.bound
 refine W6 Q1 rfl b3 rfl ?_
 refine U7 (k := .i64) (a := a3) (b := (a0.length : Int)) rfl rfl rfl (Z0 ?_)
 by_cases d7 : a3 < (a0.length : Int)
 rw [if_pos d7] at b5
 refine Y0 (bT d7 rfl) (Y8 (Z3 (Y7 (Z3 (Z1 (Z5 (Value.bool false) rfl rfl (Z0 (Z3 (Z3 (Z1 (Z5 (vI 0) rfl rfl (Z0 (Y7 ?_)))))))))))))
 obtain ⟨e5, b1, c2⟩ := bind_some b5
 refine W7 (id := 2) (fun k f w => ∃ (b2 : Bool) (a4 : Int) (H1 : FH), J2 K a1 a3 k b2 a4 = some e5 ∧ Sub H H1 ∧ St H1 w (a8 ++ L) ∧ 0 ≤ a4 ∧ Z9 (Y6 .i64) H1 s0 a0 ∧ Z9 (Y6 .i64) H1 s1 a1 ∧ W3 (Y6 .i64) 2 H1 a7 a6 a8 ∧ ev f (.tmp 0) = s0 ∧ ev f (.tmp 1) = s1 ∧ ev f (.tmp 5) = a7 ∧ ev f (.tmp 6) = vI a3 ∧ ev f (.tmp 7) = Value.bool b2 ∧ ev f (.tmp 8) = vI a4) (fun f w => ∃ (b8 : Bool) (H1 : FH), e5 = .go b8 ∧ Sub H H1 ∧ St H1 w (a8 ++ L) ∧ Z9 (Y6 .i64) H1 s0 a0 ∧ Z9 (Y6 .i64) H1 s1 a1 ∧ W3 (Y6 .i64) 2 H1 a7 a6 a8 ∧ ev f (.tmp 0) = s0 ∧ ev f (.tmp 1) = s1 ∧ ev f (.tmp 5) = a7 ∧ ev f (.tmp 6) = vI a3 ∧ ev f (.tmp 7) = Value.bool b8) rfl ?_ ?_ K ?_ ?_
 rintro f w ⟨b2, a4, H1, b1, _⟩
 rw [J2] at b1; cases b1
 rintro k h0 h1 e7 g4 ⟨b2, a4, d6, b1, Z2, hS, g5, b3, b4, a5, c3, b7, c4, b9, d0, c0⟩
 rw [J2] at b1
 refine Z3 (Z3 (Z1 (Z4 (vI a4) (by exact c0) rfl (Z4 (s1) (by exact b7) rfl ?_))))
 have i0 := b4.bound
 refine W6 Zq1 rfl b4 rfl ?_
 refine U7 (k := .i64) (a := a4) (b := (a1.length : Int)) rfl rfl rfl (Z0 ?_)
 by_cases d8 : a4 < (a1.length : Int)
 rw [if_pos d8] at b1
 refine Y0 (bT d8 rfl) (Y8 (Z3 (Y7 (Z1 (Z4 (Value.bool b2) (by exact d0) rfl (Z4 (Value.bool b2) rfl rfl ?_))))))
 by_cases a9 : b2 = true
 rw [if_pos a9] at b1
 refine Y1 rfl rfl (Eq.trans rfl (congrArg Value.bool a9)) rfl rfl rfl (Y1 rfl rfl (Eq.trans rfl (congrArg Value.bool a9)) rfl rfl rfl (Y1 rfl rfl (Eq.trans rfl (congrArg Value.bool a9)) rfl rfl rfl (Y1 rfl rfl (Eq.trans rfl (congrArg Value.bool a9)) rfl rfl rfl (Y1 rfl rfl (Eq.trans rfl (congrArg Value.bool a9)) rfl rfl rfl (Y1 rfl rfl (Eq.trans rfl (congrArg Value.bool a9)) rfl rfl rfl ?_)))))
 refine V9 (t := true) (Value.bool true) (Eq.trans rfl (congrArg Value.bool a9)) ((if_pos rfl).trans rfl) rfl (Z5 (Value.bool true) rfl rfl (Z0 (X5 (Z1 (Z4 (vI a4) (by exact c0) rfl ?_)))))
 refine V1 (a4 + 1) rfl rfl (IntWalk.i64_in _ (by omega)) rfl (Z5 (vI (a4 + 1)) rfl rfl (Z0 ?_))
 exact e7 _ _ ⟨true, (a4 + 1), d6, b1, Z2, hS, (by omega), b3, b4, a5, c3, b7, c4, b9, rfl, rfl⟩
 rw [if_neg a9] at b1
 refine Y4 rfl rfl (Eq.trans rfl (congrArg Value.bool (W5 a9))) (Z4 (s1) (by exact b7) rfl ?_)
 refine Y4 rfl rfl (Eq.trans rfl (congrArg Value.bool (W5 a9))) (Z4 (vI a4) (by exact c0) rfl ?_)
 obtain ⟨i1, i2, h2, i3, _, e9, f0, rfl, f1⟩ := b4.elem (i := a4) (by omega) (by omega)
 refine Y4 rfl rfl (Eq.trans rfl (congrArg Value.bool (W5 a9))) ?_
 refine W2 Zq1 rfl rfl e9 rfl (by omega) (by omega) rfl ?_
 refine Y4 rfl rfl (Eq.trans rfl (congrArg Value.bool (W5 a9))) ?_
 refine Y3 (vI (rd a1 a4)) ty3 rfl (hS.froz _ _ f0) (f1 0 (show 0 < 1 by decide)) rfl ?_
 refine Y4 rfl rfl (Eq.trans rfl (congrArg Value.bool (W5 a9))) (Z4 (vI a3) (by exact b9) rfl ?_)
 refine Y4 rfl rfl (Eq.trans rfl (congrArg Value.bool (W5 a9))) ?_
 refine E4 (k := .i64) (a := (rd a1 a4)) (b := a3) rfl rfl rfl ?_
 refine V9 (t := false) (Value.bool (decide ((rd a1 a4) = a3))) (Eq.trans rfl (congrArg Value.bool (W5 a9))) ((if_neg Bool.false_ne_true).trans rfl) rfl (Z5 (Value.bool (decide ((rd a1 a4) = a3))) rfl rfl (Z0 (X5 (Z1 (Z4 (vI a4) (by exact c0) rfl ?_)))))
 refine V1 (a4 + 1) rfl rfl (IntWalk.i64_in _ (by omega)) rfl (Z5 (vI (a4 + 1)) rfl rfl (Z0 ?_))
 exact e7 _ _ ⟨(decide ((rd a1 a4) = a3)), (a4 + 1), d6, b1, Z2, hS, (by omega), b3, b4, a5, c3, b7, c4, b9, rfl, rfl⟩
 rw [if_neg d8] at b1
 refine Z8 (bF d8 rfl) ?_
 refine W4 rfl ?_
 have hz := Option.some.inj b1
 subst hz
 exact g4 _ _ ⟨b2, d6, rfl, Z2, hS, b3, b4, a5, c3, b7, c4, b9, d0⟩
 exact ⟨false, 0, e4, b1, Z2, hS, (by omega), b3, b4, a5, c7, d9, c8, c9, rfl, rfl⟩
 rintro h3 h4 ⟨b8, f2, rfl, Z2, hS, b3, b4, a5, c5, d1, d2, c6, e0⟩
 dsimp only [Ex.elim] at c2
 refine Z3 (Z1 (Z4 (Value.bool b8) (by exact e0) rfl (G5 (b := b8) rfl rfl (Z0 ?_))))
 by_cases d3 : b8 = true
 rw [if_pos d3] at c2
 refine Z8 (Eq.trans rfl (congrArg (fun b => Value.bool (!b)) d3)) (Y8 (X5 (Z1 (Z4 (vI a3) (by exact c6) rfl ?_))))
 refine V1 (a3 + 1) rfl rfl (IntWalk.i64_in _ (by omega)) rfl (Z5 (vI (a3 + 1)) rfl rfl (Z0 ?_))
 exact e6 _ _ ⟨(a3 + 1), a6, f2, a8, a7, c2, Z2, hS, (by omega), a5, b3, b4, c5, d1, d2, rfl⟩
 rw [if_neg d3] at c2
 refine Y0 (Eq.trans rfl (congrArg (fun b => Value.bool (!b)) (W5 d3))) (Z1 (Z4 (a7) (by exact d2) rfl (Z4 (s0) (by exact c5) rfl (Z4 (vI a3) (by exact c6) rfl ?_))))
 obtain ⟨i4, i5, h5, i6, _, f3, f4, rfl, f5⟩ := b3.elem (i := a3) (by omega) (by omega)
 refine W2 Q1 rfl rfl f3 rfl (by omega) (by omega) rfl ?_
 refine Y3 (vI (rd a0 a3)) ty2 rfl (hS.froz _ _ f4) (f5 0 (show 0 < 1 by decide)) rfl ?_
 refine D1 (τ := (Y6 .i64)) Q1 ze2 rfl [vI (rd a0 a3)] [(rd a0 a3)] rfl rfl (L4 rfl) (Zg7 rfl) (by decide) (by decide) hS rfl ?_
 intro i7 g6 i8 d4 hS f6
 have Z2 := Z2.trans d4
 have b3 := b3.mono d4
 have b4 := b4.mono d4
 have a5 := a5.mono d4
 obtain ⟨f7, c2⟩ := gd c2
 refine P5 (τ := (Y6 .i64)) Xb7 rfl rfl rfl a5 hS f6 f7 rfl ?_
 intro e8 i9 g7 f8 hS
 refine Z5 (e8) rfl rfl (Z0 (X5 (Z1 (Z4 (vI a3) (by exact c6) rfl ?_))))
 refine V1 (a3 + 1) rfl rfl (IntWalk.i64_in _ (by omega)) rfl (Z5 (vI (a3 + 1)) rfl rfl (Z0 ?_))
 exact e6 _ _ ⟨(a3 + 1), (a6 ++ [(rd a0 a3)]), g6, g7, e8, c2, Z2, hS, (by omega), f8, b3, b4, c5, d1, rfl, rfl⟩
 rw [if_neg d7] at b5
 refine Z8 (bF d7 rfl) ?_
 refine W4 rfl ?_
 have hz := Option.some.inj b5
 subst hz
 exact g2 _ _ ⟨a6, e4, a8, a7, rfl, Z2, hS, a5, c8⟩
 exact ⟨0, ([] : List Int), H, C3, u1, b5, Z2, hS, (by omega), g1, b3, b4, rfl, rfl, rfl, rfl⟩
 rintro h6 h7 ⟨b6, h8, c1, b0, rfl, Z2, hS, d5, e1⟩
 dsimp only [Ex.elim] at e3
 refine Z3 (Z1 (Z4 (b0) (by exact e1) rfl (Z5 (b0) rfl rfl (Z0 ?_))))
 refine X3 (vs := [b0]) Tryz.func79 ⟨rfl, trivial⟩ ?_
 obtain ⟨j0, f9, hS, g0⟩ := d5.freeze hS
 have Z2 := Z2.trans f9
 have hz := Option.some.inj e3
 subst hz
 exact ⟨_, _, rfl, Z2, hS, g0⟩
def Zb5 (K : Nat) (a0 : MpT) (a1 : Int) : Nat → Int → MpT → Option (Ex MpT (MpT))
 | 0, _, _ => none
 | k + 1, a3, a4 => (if a3 < (a0.length : Int) then (if a1 = 0 then (if a4.length + ([((rd a0 a3).1, (rd a0 a3).2)]).length ≤ 1099511627776 then Zb5 K a0 a1 k (a3 + 1) (a4 ++ [((rd a0 a3).1, (rd a0 a3).2)]) else none) else none) else some (.go a4))
def Zs0 (K : Nat) (a0 : MpT) (a1 : Int) : Option MpT := ((Zb5 K a0 a1 K 0 ([] : List (A8 × Int))).bind (Ex.elim (fun r => some r) (fun s => (fun (a9 : MpT) => some a9) s)))
theorem Yw7 {K : Nat} {a0 : MpT} {a1 : Int} {r : MpT} (q0 : Zs0 K a0 a1 = some r) {H : FH} {w : World} {L : OL} {s0 : Value} (b3 : Z9 yT H s0 a0) (hS : St H w L) :
 Calls Tryz.prog 244 #[vA ([s0]), vI a1] w (T3 (fun v G => (R.agg (Y9 yT)).p (G.new H) v r) H L) := by
 have Z2 := Sub.refl H
 refine X6 Tryz.func244 rfl Tryz.ntmps244 rfl ?_
 unfold Zs0 at q0
 refine Z3 (Z1 ?_)
 refine S4 (v := vA ([s0])) ([s0]).toArray rfl rfl hS rfl ?_
 intro b1 w2 hS
 refine V0 (z := vA ([vN])) ([vN]).toArray K7.zero rfl hS rfl ?_
 intro b4 w5 hS
 refine Z0 (Z3 (Z1 ?_))
 refine R4 (vA ([vN])) Yc4 rfl ?_
 refine V0 (z := vA ([vN])) ([vN]).toArray K7.zero rfl hS rfl ?_
 intro b7 w8 hS
 refine W0 (v := vA ([vN])) (vs := ([vN]).toArray) (cs := ([vN]).toArray) U3 rfl rfl rfl hS rfl (U9 rfl) rfl ?_
 intro i6 hS
 refine Z0 (Z3 (Z3 (Z1 (Y2 U2 rfl rfl ?_))))
 refine Y3 (s0) Q3 rfl (hS.get (mR (mR mL))) rfl rfl ?_
 have h6 := b3.bound
 refine W6 Q0 rfl b3 rfl (Z4 (vI 0) rfl rfl (Z0 (Y7 ?_)))
 have d2 : W3 yT 76 H (.slice none 0 0) [] [] := W3.nil _ _ _
 obtain ⟨d3, b0, d4⟩ := bind_some q0
 refine W7 (id := 0) (fun k f w => ∃ (a3 : Int) (a4 : MpT) (H1 : FH) (a8 : OL) (a5 : Value), Zb5 K a0 a1 k a3 a4 = some d3 ∧ Sub H H1 ∧ St H1 w (a8 ++ ([(b7, cA ([a5]) 47)] ++ ([(b4, cA ([vN]) 47)] ++ ([(b1, cA ([s0]) 47)] ++ L)))) ∧ 0 ≤ a3 ∧ W3 yT 76 H1 a5 a4 a8 ∧ Z9 yT H1 s0 a0 ∧ ev f (.tmp 1) = vI a1 ∧ ev f (.tmp 4) = vP b4 ∧ ev f (.tmp 5) = vP b7 ∧ ev f (.tmp 11) = s0 ∧ ev f (.tmp 12) = vI (a0.length : Int) ∧ ev f (.tmp 13) = vI a3) (fun f w => ∃ (a9 : MpT) (H1 : FH) (b2 : OL) (a6 : Value), d3 = .go a9 ∧ Sub H H1 ∧ St H1 w (b2 ++ ([(b7, cA ([a6]) 47)] ++ ([(b4, cA ([vN]) 47)] ++ ([(b1, cA ([s0]) 47)] ++ L)))) ∧ W3 yT 76 H1 a6 a9 b2 ∧ Z9 yT H1 s0 a0 ∧ ev f (.tmp 4) = vP b4 ∧ ev f (.tmp 5) = vP b7) rfl ?_ ?_ K ?_ ?_
 rintro f w ⟨a3, a4, H1, a8, a5, b0, _⟩
 rw [Zb5] at b0; cases b0
 rintro k h7 h8 f8 f9 ⟨a3, a4, e1, a8, a5, b0, Z2, hS, f7, a7, b3, c2, c3, c4, c0, c1, b8⟩
 rw [Zb5] at b0
 refine Z3 (Z1 ?_)
 refine U7 (k := .i64) (a := a3) (b := (a0.length : Int)) (by exact b8) (by exact c1) rfl (Z0 (Z3 ?_))
 by_cases c6 : a3 < (a0.length : Int)
 rw [if_pos c6] at b0
 refine Y0 (bT c6 rfl) (Y8 (Z3 (Y7 (Z3 (Z1 ?_)))))
 obtain ⟨i7, i8, h9, i9, _, e2, e3, ⟨_, _, rfl, rfl, rfl⟩, e4⟩ := b3.elem (i := a3) (by omega) (by omega)
 refine W2 Q0 rfl (by exact c0) e2 (by exact b8) (by omega) (by omega) rfl ?_
 refine V2 (Z7 .u8 ((rd a0 a3).1) ++ [vI ((rd a0 a3).2)]) Zs1 rfl (hS.froz _ _ e3) rfl e4 rfl ?_
 refine V0 (z := vA (Z7 .u8 (fun _ => 0) ++ [vI 0])) (Z7 .u8 (fun _ => 0) ++ [vI 0]).toArray Zx8.zero rfl hS rfl ?_
 intro c7 j0 hS
 refine W0 (v := vA (Z7 .u8 ((rd a0 a3).1) ++ [vI ((rd a0 a3).2)])) (vs := (Z7 .u8 ((rd a0 a3).1) ++ [vI ((rd a0 a3).2)]).toArray) (cs := (Z7 .u8 (fun _ => 0) ++ [vI 0]).toArray) Zs1 rfl rfl rfl hS rfl (P4 (S3 .u8 ((rd a0 a3).1)) (U9 rfl)) rfl ?_
 intro j1 hS
 refine Z0 (Z3 (Z1 ?_))
 refine R4 (vA (Z7 .u8 (fun _ => 0))) Yt4 rfl ?_
 refine V0 (z := vA (Z7 .u8 (fun _ => 0))) (Z7 .u8 (fun _ => 0)).toArray Yb7.zero rfl hS rfl ?_
 intro d0 j2 hS
 refine W0 (v := vA (Z7 .u8 (fun _ => 0))) (vs := (Z7 .u8 (fun _ => 0)).toArray) (cs := (Z7 .u8 (fun _ => 0)).toArray) N5 rfl rfl rfl hS rfl (S3 .u8 (fun _ => 0)) rfl ?_
 intro j3 hS
 refine Z0 (Z3 ?_)
 obtain ⟨e5, b0⟩ := gd b0
 have X2 := Z2
 refine U0 4 (Q6 [(18, MP.eq (vI a1)), (19, MP.eq (Value.slice (some ⟨d0, 0, none⟩) 8 8)), (20, MP.eq (vP c7)), (21, MP.eq (Value.slice (some ⟨c7, 0, none⟩) 8 8))]) [] mixed rfl rfl rfl hS (Z6 rfl ?_ (Z6 rfl ?_ (Z6 rfl ?_ (Z6 rfl ?_ U8)))) ?_
 intro j4 j5 g0 j6 e6 hS e7 i0 hcq
 have Z2 := Sub.refl g0
 have X8 := X2.trans e6
 refine Z4 (vI a1) (evT (e7 1 rfl) c2) rfl ?_
 exact Z0 ⟨18, _, _, rfl, rfl, Z2, hS, rfl⟩
 intro g1 j7 g2 j8 e8 hS e9 f0 hcq
 have Z2 := Sub.refl g2
 have X8 := X2.trans e8
 have g3 : ev g1 (.tmp 8) = vP d0 := Eq.trans (e9 8 rfl) rfl
 refine Wa7 Zc8 g3 (eM (f0 0 18 rfl rfl)) e5 rfl ?_
 exact Z0 ⟨19, _, _, rfl, rfl, Z2, hS, rfl⟩
 intro g4 j9 g5 k0 f1 hS f2 i1 hcq
 have Z2 := Sub.refl g5
 have X8 := X2.trans f1
 have g6 : ev g4 (.tmp 7) = vP c7 := Eq.trans (f2 7 rfl) rfl
 refine Y2 M5 g6 rfl ?_
 exact Z0 ⟨20, _, _, rfl, rfl, Z2, hS, rfl⟩
 intro k1 k2 g7 k3 f3 hS i2 f4 hcq
 have Z2 := Sub.refl g7
 have X8 := X2.trans f3
 refine Wk9 Zc8 (eM (f4 2 20 rfl rfl)) rfl ?_
 exact Z0 ⟨21, _, _, rfl, rfl, Z2, hS, rfl⟩
 intro e0 g8 g9 c8 hS b5 d5 hcq
 have hS : St g9 g8 ([(d0, cA (Z7 .u8 (fun _ => 0)) 70)] ++ ([(c7, cA (Z7 .u8 ((rd a0 a3).1) ++ [vI ((rd a0 a3).2)]) 76)] ++ (a8 ++ ([(b7, cA ([a5]) 47)] ++ ([(b4, cA ([vN]) 47)] ++ ([(b1, cA ([s0]) 47)] ++ L)))))) := hS
 have Z2 := Z2.trans c8
 have b3 := b3.mono c8
 have a7 := a7.mono c8
 have d6 := evT (b5 5 rfl) c4
 have h0 : ev e0 (.tmp 7) = vP c7 := Eq.trans (b5 7 rfl) rfl
 have h1 : ev e0 (.tmp 8) = vP d0 := Eq.trans (b5 8 rfl) rfl
 refine Wp7 (k := .u8) (a := (fun _ => 0)) (c := (rd a0 a3).1) Vb5 (by exact (eM (d5 1 19 (by decide) rfl))) (by exact (eM (d5 3 21 (by decide) rfl))) hS (hS.get (o := cA (Z7 .u8 ((rd a0 a3).1) ++ [vI ((rd a0 a3).2)]) 76) (mR mL)) (fun j hj => Zj6 ([]) (Z7 .u8 ((rd a0 a3).1)) (([vI ((rd a0 a3).2)])) j hj) rfl ?_
 intro k4 hS
 refine Z0 (Z1 (Y2 U2 (by exact d6) rfl ?_))
 refine Y3 (a5) Q3 rfl (hS.get (mR (mR (mR mL)))) rfl rfl ?_
 refine W1 N5 (by exact h1) (hS.get mL) rfl rfl (Y2 Ze8 (by exact h0) rfl ?_)
 refine Y3 (vI ((rd a0 a3).2)) ty2 rfl (hS.get (mR mL)) rfl rfl ?_
 refine Zj7 (Z7 .u8 ((rd a0 a3).1) ++ [vI ((rd a0 a3).2)]) Xa1 (Zw3 rfl rfl) (Q2 rfl rfl rfl (Nat.le_of_ble_eq_true rfl) (Q2 rfl rfl rfl (Nat.le_of_ble_eq_true rfl) (Zf6 rfl))) rfl ?_
 refine D1 (τ := yT) Q0 Zx8 rfl [vA (Z7 .u8 ((rd a0 a3).1) ++ [vI ((rd a0 a3).2)])] [((rd a0 a3).1, (rd a0 a3).2)] rfl rfl (L4 rfl) (Zg7 ⟨_, _, rfl, rfl, rfl⟩) (by decide) (by decide) hS rfl ?_
 intro k5 h2 k6 c9 hS f5
 have Z2 := Z2.trans c9
 have b3 := b3.mono c9
 have a7 := a7.mono c9
 obtain ⟨f6, b0⟩ := gd b0
 have hS := hS.perm Q5
 refine P5 (τ := yT) Ys7 rfl rfl rfl a7 hS f5 f6 rfl ?_
 intro d7 k7 h3 d8 hS
 have hS := hS.perm Q5.symm
 refine Y2 U2 (by exact d6) rfl ?_
 have hS := hS.perm Yb0
 refine Za3 (v := d7) (cs := ([a5]).toArray) (cs' := ([d7]).toArray) Q3 rfl rfl hS d8.isOne rfl (Nat.le_of_ble_eq_true rfl) rfl ?_
 intro k8 hS
 have hS := hS.perm Yb0.symm
 refine Z0 (X5 (Z1 ?_))
 refine V1 (a3 + 1) (by exact (evT (b5 13 rfl) b8)) rfl (IntWalk.i64_in _ (by omega)) rfl (Z4 (vI (a3 + 1)) rfl rfl (Z0 ?_))
 have hS := St.dropA hS
 have hS := St.dropA hS
 exact f8 _ _ ⟨(a3 + 1), (a4 ++ [((rd a0 a3).1, (rd a0 a3).2)]), h2, h3, d7, b0, Z2, hS, (by omega), d8, b3, (evT (b5 1 rfl) c2), (evT (b5 4 rfl) c3), d6, (evT (b5 11 rfl) c0), (evT (b5 12 rfl) c1), rfl⟩
 rw [if_neg c6] at b0
 refine Z8 (bF c6 rfl) ?_
 refine W4 rfl ?_
 have hz := Option.some.inj b0
 subst hz
 exact f9 _ _ ⟨a4, e1, a8, a5, rfl, Z2, hS, a7, b3, c3, c4⟩
 exact ⟨0, ([] : List (A8 × Int)), H, ([]), (vN), b0, Z2, hS, (by omega), d2, b3, rfl, rfl, rfl, rfl, rfl, rfl⟩
 rintro i3 i4 ⟨a9, i5, b2, a6, rfl, Z2, hS, b6, b3, c5, d1⟩
 dsimp only [Ex.elim] at d4
 refine Z3 (Z1 ?_)
 refine W1 U3 (by exact d1) (hS.get (mR mL)) rfl rfl ?_
 have hS := hS.perm Q5
 refine W0 (v := vA ([a6])) (vs := ([a6]).toArray) (cs := ([vN]).toArray) U3 (by exact c5) rfl rfl hS rfl (U9 b6.isOne) rfl ?_
 intro k9 hS
 have hS := hS.perm Q5.symm
 refine Z0 ?_
 refine X3 (vs := [vA ([a6])]) Tryz.func244 ⟨⟨_, (by exact c5), U1 U3 (hS.get (mR (mR mL))) rfl⟩, trivial⟩ ?_
 obtain ⟨h4, d9, hS, b9⟩ := W3.freezeF (τ := yT) (H0 := H) b6 hS Z2
 have h5 := Z9.old b9
 have b9 : RdF yT H h4 a6 a9 := b9
 have Z2 := Z2.trans d9
 have hz := Option.some.inj d4
 subst hz
 exact ⟨_, _, rfl, Z2, (St.dropA (St.dropA (St.dropA hS))), ⟨_, rfl, ⟨_, rfl, b9⟩⟩⟩
def N8 (K : Nat) (a0 : A8) (a1 : A8) : Nat → Int → Option (Ex Int (Unit))
 | 0, _ => none
 | k + 1, a3 => (if a3 < 8 then (if (Y5 a0 a3) = (Y5 a1 a3) then N8 K a0 a1 k (a3 + 1) else some (.ret (IntKind.i64.wrap ((Y5 a1 a3) - (Y5 a0 a3))))) else some (.go ()))
def Za5 (K : Nat) (a0 : A8) (a1 : A8) : Option Int := ((N8 K a0 a1 K 0).bind (Ex.elim (fun r => some r) (fun s => some 0)))
theorem Zx6 {K : Nat} {a0 : A8} {a1 : A8} {r : Int} (q0 : Za5 K a0 a1 = some r) {H : FH} {w : World} {L : OL} (hS : St H w L) :
 Calls Tryz.prog 221 #[vA (Z7 .i64 a0), vA (Z7 .i64 a1)] w (T3 (fun v G => (R.int .i64).p G v r) H L) := by
 have Z2 := Sub.refl H
 refine X6 Tryz.func221 rfl Tryz.ntmps221 rfl ?_
 unfold Za5 at q0
 refine Z3 (Z1 ?_)
 refine S4 (v := vA (Z7 .i64 a0)) (Z7 .i64 a0).toArray rfl rfl hS rfl ?_
 intro b1 w2 hS
 refine S4 (v := vA (Z7 .i64 a1)) (Z7 .i64 a1).toArray rfl rfl hS rfl ?_
 intro b4 w5 hS
 refine Z5 (vI 0) rfl rfl (Z0 (Z3 (Z3 (Z1 (Z4 (vI 0) rfl rfl (Z0 (Y7 ?_)))))))
 obtain ⟨b5, a4, a8⟩ := bind_some q0
 refine W7 (id := 0) (fun k f w => ∃ (a3 : Int) (H1 : FH), N8 K a0 a1 k a3 = some b5 ∧ Sub H H1 ∧ St H1 w ([(b4, cA (Z7 .i64 a1) 188)] ++ ([(b1, cA (Z7 .i64 a0) 188)] ++ L)) ∧ 0 ≤ a3 ∧ ev f (.tmp 2) = vP b1 ∧ ev f (.tmp 3) = vP b4 ∧ ev f (.tmp 6) = vI a3) (fun f w => ∃ (H1 : FH), b5 = .go () ∧ Sub H H1 ∧ St H1 w ([(b4, cA (Z7 .i64 a1) 188)] ++ ([(b1, cA (Z7 .i64 a0) 188)] ++ L))) rfl ?_ ?_ K ?_ ?_
 rintro f w ⟨a3, H1, a4, _⟩
 rw [N8] at a4; cases a4
 rintro k g7 g8 e7 e8 ⟨a3, d3, a4, Z2, hS, e9, a6, a7, a5⟩
 rw [N8] at a4
 refine Z3 (Z1 ?_)
 refine U7 (k := .i64) (a := a3) (b := 8) (by exact a5) rfl rfl (Z0 (Z3 ?_))
 by_cases b2 : a3 < 8
 rw [if_pos b2] at a4
 refine Y0 (bT b2 rfl) (Y8 (Z3 (Y7 (Z3 (Z1 (Z4 (vI a3) (by exact a5) rfl (Z5 (vI a3) rfl rfl (Z0 (Z3 ?_)))))))))
 refine U0 7 (Q6 [(9, MP.eq (vI a3)), (10, MP.eq (Value.pointer (some ⟨b1, 0 + (a3).toNat * 1, none⟩))), (11, MP.eq (vI (Y5 a0 a3))), (12, MP.eq (vI a3)), (13, MP.eq (Value.pointer (some ⟨b4, 0 + (a3).toNat * 1, none⟩))), (14, MP.eq (vI (Y5 a1 a3))), (15, MP.eq (Value.bool (!decide ((Y5 a0 a3) = (Y5 a1 a3)))))]) [] mixed rfl rfl rfl hS (Z6 rfl ?_ (Z6 rfl ?_ (Z6 rfl ?_ (Z6 rfl ?_ (Z6 rfl ?_ (Z6 rfl ?_ (Z6 rfl ?_ U8))))))) ?_
 intro f8 w9 l2 l3 g9 hS d4 h0 hcq
 have f0 : ev f8 (.tmp 5) = vI a3 := Eq.trans (d4 5 rfl) rfl
 refine Z4 (vI a3) f0 rfl ?_
 exact qn (.refl _) rfl hS rfl
 intro l4 l5 l6 l7 h1 hS d5 d6 hcq
 refine V6 Zj9 (evT (d5 2 rfl) a6) (eM (d6 0 9 rfl rfl)) (by omega) (by omega) rfl ?_
 exact qn (.refl _) rfl hS rfl
 intro l9 m0 m1 m2 h2 hS h3 d7 hcq
 refine Y3 (vI (Y5 a0 a3)) ty3 (eM (d7 1 10 rfl rfl)) (hS.get (o := cA (Z7 .i64 a0) 188) (mR (mR mL))) (L9 ([]) ([]) (by omega) (by omega)) rfl ?_
 exact qn (.refl _) rfl hS rfl
 intro f1 m3 m4 m5 h4 hS d8 h5 hcq
 have f2 : ev f1 (.tmp 5) = vI a3 := Eq.trans (d8 5 rfl) rfl
 refine Z4 (vI a3) f2 rfl ?_
 exact qn (.refl _) rfl hS rfl
 intro m6 m7 m8 m9 h6 hS d9 e0 hcq
 refine V6 Zj9 (evT (d9 3 rfl) a7) (eM (e0 3 12 rfl rfl)) (by omega) (by omega) rfl ?_
 exact qn (.refl _) rfl hS rfl
 intro n0 n1 n2 n3 h7 hS h8 e1 hcq
 refine Y3 (vI (Y5 a1 a3)) ty3 (eM (e1 4 13 rfl rfl)) (hS.get (o := cA (Z7 .i64 a1) 188) (mR mL)) (L9 ([]) ([]) (by omega) (by omega)) rfl ?_
 exact qn (.refl _) rfl hS rfl
 intro n4 n5 n6 n7 h9 hS i0 b6 hcq
 refine G4 (k := .i64) (a := (Y5 a0 a3)) (b := (Y5 a1 a3)) (eM (b6 2 11 rfl rfl)) (eM (b6 5 14 rfl rfl)) rfl ?_
 exact qn (.refl _) rfl hS rfl
 intro c7 f3 c8 e2 hS a9 e3 hcq
 have hS : St c8 f3 ([(b4, cA (Z7 .i64 a1) 188)] ++ ([(b1, cA (Z7 .i64 a0) 188)] ++ L)) := hS
 have Z2 := Z2.trans e2
 have c9 := evT (a9 2 rfl) a6
 have d0 := evT (a9 3 rfl) a7
 have d1 : ev c7 (.tmp 5) = vI a3 := Eq.trans (a9 5 rfl) rfl
 have d2 : ev c7 (.tmp 15) = Value.bool (!decide ((Y5 a0 a3) = (Y5 a1 a3))) := e3 6 15 (by decide) rfl
 refine Z0 ?_
 by_cases b0 : (Y5 a0 a3) = (Y5 a1 a3)
 rw [if_pos b0] at a4
 refine Z8 (bN b0 (by exact d2)) (Y8 (X5 (Z1 ?_)))
 refine V1 (a3 + 1) (by exact (evT (a9 6 rfl) a5)) rfl (IntWalk.i64_in _ (by omega)) rfl (Z4 (vI (a3 + 1)) rfl rfl (Z0 ?_))
 exact e7 _ _ ⟨(a3 + 1), c8, a4, Z2, hS, (by omega), c9, d0, rfl⟩
 rw [if_neg b0] at a4
 refine Y0 (bO b0 (by exact d2)) (Z3 ?_)
 refine U0 8 (Q6 [(16, MP.eq (vI a3)), (17, MP.eq (Value.pointer (some ⟨b4, 0 + (a3).toNat * 1, none⟩))), (18, MP.eq (vI (Y5 a1 a3))), (19, MP.eq (vI a3)), (20, MP.eq (Value.pointer (some ⟨b1, 0 + (a3).toNat * 1, none⟩))), (21, MP.eq (vI (Y5 a0 a3))), (22, MP.eq (vI (IntKind.i64.wrap ((Y5 a1 a3) - (Y5 a0 a3))))), (4, MP.eq (vI (IntKind.i64.wrap ((Y5 a1 a3) - (Y5 a0 a3)))))]) [] mixed rfl rfl rfl hS (Z6 rfl ?_ (Z6 rfl ?_ (Z6 rfl ?_ (Z6 rfl ?_ (Z6 rfl ?_ (Z6 rfl ?_ (Z6 rfl ?_ (Z6 rfl ?_ U8)))))))) ?_
 intro n8 n9 o0 o1 i1 hS e4 i2 hcq
 refine Z4 (vI a3) (evT (e4 5 rfl) d1) rfl ?_
 exact qn (.refl _) rfl hS rfl
 intro o2 o3 o4 o5 i3 hS b7 b8 hcq
 refine V6 Zj9 (evT (b7 3 rfl) d0) (eM (b8 0 16 rfl rfl)) (by omega) (by omega) rfl ?_
 exact qn (.refl _) rfl hS rfl
 intro i4 i5 i6 i7 f4 hS f5 b9 hcq
 refine Y3 (vI (Y5 a1 a3)) ty3 (eM (b9 1 17 rfl rfl)) (hS.get (o := cA (Z7 .i64 a1) 188) (mR mL)) (L9 ([]) ([]) (by omega) (by omega)) rfl ?_
 exact qn (.refl _) rfl hS rfl
 intro i8 i9 j0 j1 f6 hS c0 f7 hcq
 refine Z4 (vI a3) (evT (c0 5 rfl) d1) rfl ?_
 exact qn (.refl _) rfl hS rfl
 intro j2 j3 j4 j5 f9 hS c1 c2 hcq
 refine V6 Zj9 (evT (c1 2 rfl) c9) (eM (c2 3 19 rfl rfl)) (by omega) (by omega) rfl ?_
 exact qn (.refl _) rfl hS rfl
 intro j6 j7 j8 j9 g0 hS g1 c3 hcq
 refine Y3 (vI (Y5 a0 a3)) ty3 (eM (c3 4 20 rfl rfl)) (hS.get (o := cA (Z7 .i64 a0) 188) (mR (mR mL))) (L9 ([]) ([]) (by omega) (by omega)) rfl ?_
 exact qn (.refl _) rfl hS rfl
 intro k0 k1 k2 k3 g2 hS g3 b3 hcq
 refine Yd1 (IntKind.i64.wrap ((Y5 a1 a3) - (Y5 a0 a3))) (eM (b3 2 18 rfl rfl)) (eM (b3 5 21 rfl rfl)) rfl rfl ?_
 exact qn (.refl _) rfl hS rfl
 intro k4 k5 k6 k7 g4 hS g5 c4 hcq
 refine Z5 (vI (IntKind.i64.wrap ((Y5 a1 a3) - (Y5 a0 a3)))) (eM (c4 6 22 rfl rfl)) rfl ?_
 exact qn (.refl _) rfl hS rfl
 intro k8 e5 e6 c5 hS g6 c6 hcq
 have hS : St e6 e5 ([(b4, cA (Z7 .i64 a1) 188)] ++ ([(b1, cA (Z7 .i64 a0) 188)] ++ L)) := hS
 have Z2 := Z2.trans c5
 refine Z0 ?_
 refine X3 (vs := [vI (IntKind.i64.wrap ((Y5 a1 a3) - (Y5 a0 a3)))]) Tryz.func221 ⟨(by exact (eM (c6 7 4 (by decide) rfl))), trivial⟩ ?_
 have hz := Option.some.inj a4
 subst hz
 dsimp only [Ex.elim] at a8
 have hz := Option.some.inj a8
 subst hz
 exact ⟨_, _, rfl, Z2, (St.dropA (St.dropA hS)), rfl⟩
 rw [if_neg b2] at a4
 refine Z8 (bF b2 rfl) ?_
 refine W4 rfl ?_
 have hz := Option.some.inj a4
 subst hz
 exact e8 _ _ ⟨d3, rfl, Z2, hS⟩
 exact ⟨0, H, a4, Z2, hS, (by omega), rfl, rfl, rfl⟩
 rintro k9 l0 ⟨l1, rfl, Z2, hS⟩
 dsimp only [Ex.elim] at a8
 refine Z3 (Z1 (Z5 (vI 0) rfl rfl (Z0 ?_)))
 refine X3 (vs := [vI 0]) Tryz.func221 ⟨rfl, trivial⟩ ?_
 have hz := Option.some.inj a8
 subst hz
 exact ⟨_, _, rfl, Z2, (St.dropA (St.dropA hS)), rfl⟩
def Za2 (K : Nat) (c7 : Int → Option (Ex Bool (Unit))) (a1 : A8) (a3 : Int) (a5 : Int) : Option (Ex Bool (Unit)) := (if a5 < (Y5 a1 a3) then some (.ret false) else c7 (a3 + 1))
def R3 (K : Nat) (a0 : (List Int)) (a1 : A8) : Nat → Int → Option (Ex Bool (Unit))
 | 0, _ => none
 | k + 1, a3 => (if a3 < 8 then (if a3 < (a0.length : Int) then (if (((rd a0 a3)).tmod 2) = 1 then Za2 K (R3 K a0 a1 k) a1 a3 1 else Za2 K (R3 K a0 a1 k) a1 a3 20) else Za2 K (R3 K a0 a1 k) a1 a3 0) else some (.go ()))
def Zm1 (K : Nat) (a0 : (List Int)) (a1 : A8) : Option Bool := ((R3 K a0 a1 K 0).bind (Ex.elim (fun r => some r) (fun s => some true)))
theorem Yr3 {K : Nat} {a0 : (List Int)} {a1 : A8} {r : Bool} (q0 : Zm1 K a0 a1 = some r) {H : FH} {w : World} {L : OL} {s0 : Value} (a9 : Z9 (Y6 .i64) H s0 a0) (hS : St H w L) :
 Calls Tryz.prog 220 #[s0, vA (Z7 .u8 a1)] w (T3 (fun v G => R.bool.p G v r) H L) := by
 have Z2 := Sub.refl H
 refine X6 Tryz.func220 rfl Tryz.ntmps220 rfl ?_
 unfold Zm1 at q0
 refine Z3 (Z1 ?_)
 refine S4 (v := vA (Z7 .u8 a1)) (Z7 .u8 a1).toArray rfl rfl hS rfl ?_
 intro b1 w2 hS
 refine Z5 (Value.bool false) rfl rfl (Z0 (Z3 (Z3 (Z1 ?_))))
 refine W1 N5 rfl (hS.get mL) rfl rfl (Z4 (vI 0) rfl rfl (Z0 (Y7 ?_)))
 obtain ⟨b4, a4, b2⟩ := bind_some q0
 refine W7 (id := 0) (fun k f w => ∃ (a3 : Int) (H1 : FH), R3 K a0 a1 k a3 = some b4 ∧ Sub H H1 ∧ St H1 w ([(b1, cA (Z7 .u8 a1) 70)] ++ L) ∧ 0 ≤ a3 ∧ Z9 (Y6 .i64) H1 s0 a0 ∧ ev f (.tmp 0) = s0 ∧ ev f (.tmp 8) = vA (Z7 .u8 a1) ∧ ev f (.tmp 9) = vI a3) (fun f w => ∃ (H1 : FH), b4 = .go () ∧ Sub H H1 ∧ St H1 w ([(b1, cA (Z7 .u8 a1) 70)] ++ L)) rfl ?_ ?_ K ?_ ?_
 rintro f w ⟨a3, H1, a4, _⟩
 rw [R3] at a4; cases a4
 rintro k d5 d6 c8 c9 ⟨a3, b3, a4, Z2, hS, d0, a9, a7, a8, a6⟩
 rw [R3] at a4
 refine Z3 (Z1 ?_)
 refine U7 (k := .i64) (a := a3) (b := 8) (by exact a6) rfl rfl (Z0 (Z3 ?_))
 by_cases b5 : a3 < 8
 rw [if_pos b5] at a4
 refine Y0 (bT b5 rfl) (Y8 (Z3 (Y7 (Z3 (Z1 (Z4 (vI a3) (by exact a6) rfl ?_))))))
 refine Yk1 (Value.int .u8 (Y5 a1 a3)) Zc8 (by exact a8) (by exact a6) (by omega) (by omega) (Yi5 (by omega) (by omega)) rfl (Z5 (vI a3) rfl rfl (Z5 (Value.int .u8 (Y5 a1 a3)) rfl rfl (Z0 (Z3 (Z1 (Z5 (Value.int .u8 0) rfl rfl (Z0 (Z3 (Z3 (Z1 (Z4 (vI a3) rfl rfl (Z4 (s0) (by exact a7) rfl ?_))))))))))))
 have e0 := a9.bound
 refine W6 Q1 rfl a9 rfl ?_
 refine U7 (k := .i64) (a := a3) (b := (a0.length : Int)) rfl rfl rfl (Z0 ?_)
 refine Zc7 (fun f w => ∃ (a5 : Int) (H1 : FH), Za2 K (R3 K a0 a1 k) a1 a3 a5 = some b4 ∧ Sub H H1 ∧ St H1 w ([(b1, cA (Z7 .u8 a1) 70)] ++ L) ∧ Z9 (Y6 .i64) H1 s0 a0 ∧ ev f (.tmp 0) = s0 ∧ ev f (.tmp 6) = Value.int .u8 (Y5 a1 a3) ∧ ev f (.tmp 7) = Value.int .u8 a5 ∧ ev f (.tmp 8) = vA (Z7 .u8 a1) ∧ ev f (.tmp 9) = vI a3) ?_ ?_
 rintro e1 d4 ⟨a5, c6, b0, Z2, hS, a9, c0, c1, c2, c3, c4⟩
 unfold Za2 at b0
 refine Z3 (Z1 (Z4 (Value.int .u8 (Y5 a1 a3)) (by exact c1) rfl (Z4 (Value.int .u8 a5) (by exact c2) rfl ?_)))
 refine Zg6 (k := .u8) (a := (Y5 a1 a3)) (b := a5) rfl rfl rfl (Z0 ?_)
 by_cases b6 : a5 < (Y5 a1 a3)
 rw [if_pos b6] at b0
 refine Y0 (bT b6 rfl) (Z3 (Z1 (Z5 (Value.bool false) rfl rfl (Z0 ?_))))
 refine X3 (vs := [Value.bool false]) Tryz.func220 ⟨rfl, trivial⟩ ?_
 have hz := Option.some.inj b0
 subst hz
 dsimp only [Ex.elim] at b2
 have hz := Option.some.inj b2
 subst hz
 exact ⟨_, _, rfl, Z2, (St.dropA hS), rfl⟩
 rw [if_neg b6] at b0
 refine Z8 (bF b6 rfl) (Y8 (X5 (Z1 ?_)))
 refine V1 (a3 + 1) (by exact c4) rfl (IntWalk.i64_in _ (by omega)) rfl (Z4 (vI (a3 + 1)) rfl rfl (Z0 ?_))
 exact c8 _ _ ⟨(a3 + 1), c6, b0, Z2, hS, (by omega), a9, c0, c3, rfl⟩
 intro c5
 by_cases b7 : a3 < (a0.length : Int)
 rw [if_pos b7] at a4
 refine Y0 (bT b7 rfl) (Z3 (Z1 (Z5 (Value.int .u8 20) rfl rfl (Z0 (Z3 (Z1 (Z4 (s0) (by exact a7) rfl (Z4 (vI a3) rfl rfl ?_))))))))
 obtain ⟨b8, o8, e2, E8, _, d1, d2, rfl, d3⟩ := a9.elem (i := a3) (by omega) (by omega)
 refine W2 Q1 rfl rfl d1 rfl (by omega) (by omega) rfl ?_
 refine Y3 (vI (rd a0 a3)) ty2 rfl (hS.froz _ _ d2) (d3 0 (show 0 < 1 by decide)) rfl ?_
 refine Zi4 (((rd a0 a3)).tmod 2) rfl rfl (by decide) rfl rfl ?_
 refine E4 (k := .i64) (a := (((rd a0 a3)).tmod 2)) (b := 1) rfl rfl rfl (Z0 ?_)
 by_cases b9 : (((rd a0 a3)).tmod 2) = 1
 rw [if_pos b9] at a4
 refine Y0 (bT b9 rfl) (Z1 (Z5 (Value.int .u8 1) rfl rfl (Z0 ?_)))
 exact c5 _ _ ⟨1, b3, a4, Z2, hS, a9, a7, rfl, rfl, a8, a6⟩
 rw [if_neg b9] at a4
 refine Z8 (bF b9 rfl) (Y8 ?_)
 exact c5 _ _ ⟨20, b3, a4, Z2, hS, a9, a7, rfl, rfl, a8, a6⟩
 rw [if_neg b7] at a4
 refine Z8 (bF b7 rfl) (Y8 ?_)
 exact c5 _ _ ⟨0, b3, a4, Z2, hS, a9, a7, rfl, rfl, a8, a6⟩
 rw [if_neg b5] at a4
 refine Z8 (bF b5 rfl) ?_
 refine W4 rfl ?_
 have hz := Option.some.inj a4
 subst hz
 exact c9 _ _ ⟨b3, rfl, Z2, hS⟩
 exact ⟨0, H, a4, Z2, hS, (by omega), a9, rfl, rfl, rfl⟩
 rintro d7 d8 ⟨d9, rfl, Z2, hS⟩
 dsimp only [Ex.elim] at b2
 refine Z3 (Z1 (Z5 (Value.bool true) rfl rfl (Z0 ?_)))
 refine X3 (vs := [Value.bool true]) Tryz.func220 ⟨rfl, trivial⟩ ?_
 have hz := Option.some.inj b2
 subst hz
 exact ⟨_, _, rfl, Z2, (St.dropA hS), rfl⟩
def B7 (K : Nat) (a0 : (List Int)) : Nat → Int → (List Int) → Option (Ex (List Int) ((List Int)))
 | 0, _, _ => none
 | k + 1, a1, a3 => (if a1 < (a0.length : Int) then (if a1 < (a3.length : Int) then B7 K a0 k (a1 + 1) (a3.set (a1).toNat (rd a0 a1)) else none) else some (.go a3))
def Zp5 (K : Nat) (a0 : (List Int)) : Option (List Int) := (if (a0.length : Int) ≤ 1099511627776 then ((B7 K a0 K 0 (List.replicate ((a0.length : Int)).toNat (0 : Int))).bind (Ex.elim (fun r => some r) (fun s => (fun (a7 : (List Int)) => some a7) s))) else none)
theorem Yu9 {K : Nat} {a0 : (List Int)} {r : (List Int)} (q0 : Zp5 K a0 = some r) {H : FH} {w : World} {L : OL} {s0 : Value} (b4 : Z9 (Y6 .i64) H s0 a0) (hS : St H w L) :
 Calls Tryz.prog 83 #[s0] w (T3 (fun v G => (R.sl (Y6 .i64)).p (G.new H) v r) H L) := by
 have Z2 := Sub.refl H
 refine X6 Tryz.func83 rfl Tryz.ntmps83 rfl ?_
 unfold Zp5 at q0
 refine Z3 (Z1 (Z5 (vN) rfl rfl (Z0 (Z3 (Z1 (Z4 (s0) rfl rfl ?_))))))
 have e2 := b4.bound
 refine W6 Q1 rfl b4 rfl ?_
 obtain ⟨e3, q0⟩ := gd q0
 refine Xe2 (τ := (Y6 .i64)) (0 : Int) Xb7 rfl rfl rfl (fun _ => rfl) (by omega) (by omega) hS rfl ?_
 intro u3 w4 C5 c8 hS
 refine Z5 (u3) rfl rfl (Z0 (Z3 (Z3 (Z1 (Z5 (vI 0) rfl rfl (Z0 (Y7 ?_)))))))
 obtain ⟨b9, a6, c0⟩ := bind_some q0
 refine W7 (id := 0) (fun k f w => ∃ (a1 : Int) (a3 : (List Int)) (H1 : FH) (a8 : OL) (a4 : Value), B7 K a0 k a1 a3 = some b9 ∧ Sub H H1 ∧ St H1 w (a8 ++ L) ∧ 0 ≤ a1 ∧ W3 (Y6 .i64) 2 H1 a4 a3 a8 ∧ Z9 (Y6 .i64) H1 s0 a0 ∧ ev f (.tmp 0) = s0 ∧ ev f (.tmp 3) = a4 ∧ ev f (.tmp 4) = vI a1) (fun f w => ∃ (a7 : (List Int)) (H1 : FH) (b1 : OL) (a5 : Value), b9 = .go a7 ∧ Sub H H1 ∧ St H1 w (b1 ++ L) ∧ W3 (Y6 .i64) 2 H1 a5 a7 b1 ∧ ev f (.tmp 3) = a5) rfl ?_ ?_ K ?_ ?_
 rintro f w ⟨a1, a3, H1, a8, a4, a6, _⟩
 rw [B7] at a6; cases a6
 rintro k d4 d5 c9 d0 ⟨a1, a3, c1, a8, a4, a6, Z2, hS, d1, a9, b4, b2, b3, b0⟩
 rw [B7] at a6
 refine Z3 (Z3 (Z1 (Z4 (vI a1) (by exact b0) rfl (Z4 (s0) (by exact b2) rfl ?_))))
 have e4 := b4.bound
 refine W6 Q1 rfl b4 rfl ?_
 refine U7 (k := .i64) (a := a1) (b := (a0.length : Int)) rfl rfl rfl (Z0 ?_)
 by_cases b7 : a1 < (a0.length : Int)
 rw [if_pos b7] at a6
 refine Y0 (bT b7 rfl) (Y8 (Z3 (Y7 (Z1 (Z4 (a4) (by exact b3) rfl (Z4 (vI a1) (by exact b0) rfl (Z4 (s0) (by exact b2) rfl (Z4 (vI a1) (by exact b0) rfl ?_))))))))
 obtain ⟨e5, e6, d6, e7, _, c3, c4, rfl, c5⟩ := b4.elem (i := a1) (by omega) (by omega)
 refine W2 Q1 rfl rfl c3 rfl (by omega) (by omega) rfl ?_
 refine Y3 (vI (rd a0 a1)) ty2 rfl (hS.froz _ _ c4) (c5 0 (show 0 < 1 by decide)) rfl ?_
 obtain ⟨d7, a6⟩ := gd a6
 obtain ⟨e8, e9, c2⟩ := a9.some (i := a1) (by omega) (by omega)
 refine Zt8 Q1 (Eq.trans rfl c2) rfl (by omega) (by omega) rfl ?_
 refine Zu1 (τ := (Y6 .i64)) (v := a4) (u := vI (rd a0 a1)) (rd a0 a1) (i := a1) rfl ty2 c2 a9 hS rfl rfl (by omega) (by omega) rfl ?_
 intro f0 d2 c6 hS
 refine Z0 (X5 (Z1 (Z4 (vI a1) (by exact b0) rfl ?_)))
 refine V1 (a1 + 1) rfl rfl (IntWalk.i64_in _ (by omega)) rfl (Z5 (vI (a1 + 1)) rfl rfl (Z0 ?_))
 exact c9 _ _ ⟨(a1 + 1), (a3.set (a1).toNat (rd a0 a1)), c1, d2, a4, a6, Z2, hS, (by omega), c6, b4, b2, b3, rfl⟩
 rw [if_neg b7] at a6
 refine Z8 (bF b7 rfl) ?_
 refine W4 rfl ?_
 have hz := Option.some.inj a6
 subst hz
 exact d0 _ _ ⟨a3, c1, a8, a4, rfl, Z2, hS, a9, b3⟩
 exact ⟨0, (List.replicate ((a0.length : Int)).toNat (0 : Int)), H, C5, u3, a6, Z2, hS, (by omega), c8, b4, rfl, rfl, rfl⟩
 rintro d8 d9 ⟨a7, e0, b1, a5, rfl, Z2, hS, b6, b8⟩
 dsimp only [Ex.elim] at c0
 refine Z3 (Z1 (Z4 (a5) (by exact b8) rfl (Z5 (a5) rfl rfl (Z0 ?_))))
 refine X3 (vs := [a5]) Tryz.func83 ⟨rfl, trivial⟩ ?_
 obtain ⟨d3, c7, hS, b5⟩ := W3.freezeF (τ := (Y6 .i64)) (H0 := H) b6 hS Z2
 have e1 := Z9.old b5
 have b5 : RdF (Y6 .i64) H d3 a5 a7 := b5
 have Z2 := Z2.trans c7
 have hz := Option.some.inj c0
 subst hz
 exact ⟨_, _, rfl, Z2, hS, b5⟩
def K4 (K : Nat) (a0 : (List Int)) (a1 : Int) : Nat → Int → Option (Ex Int (Unit))
 | 0, _ => none
 | k + 1, a3 => (if a3 < (a0.length : Int) then (if a1 = (rd a0 a3) then some (.ret a3) else K4 K a0 a1 k (a3 + 1)) else some (.go ()))
def Zo8 (K : Nat) (a0 : (List Int)) (a1 : Int) : Option Int := ((K4 K a0 a1 K 0).bind (Ex.elim (fun r => some r) (fun s => some (-1))))
theorem Yf3 {K : Nat} {a0 : (List Int)} {a1 : Int} {r : Int} (q0 : Zo8 K a0 a1 = some r) {H : FH} {w : World} {L : OL} {s0 : Value} (a6 : Z9 (Y6 .i64) H s0 a0) (hS : St H w L) :
 Calls Tryz.prog 252 #[s0, vI a1] w (T3 (fun v G => (R.int .i64).p G v r) H L) := by
 have Z2 := Sub.refl H
 refine X6 Tryz.func252 rfl Tryz.ntmps252 rfl ?_
 unfold Zo8 at q0
 refine Z3 (Z1 (Z5 (vI 0) rfl rfl (Z0 (Z3 (Z3 (Z1 (Z4 (s0) rfl rfl ?_)))))))
 have c7 := a6.bound
 refine W6 Zq1 rfl a6 rfl (Z4 (vI 0) rfl rfl (Z0 (Y7 ?_)))
 obtain ⟨b4, a4, b0⟩ := bind_some q0
 refine W7 (id := 0) (fun k f w => ∃ (a3 : Int) (H1 : FH), K4 K a0 a1 k a3 = some b4 ∧ Sub H H1 ∧ St H1 w (L) ∧ 0 ≤ a3 ∧ Z9 (Y6 .i64) H1 s0 a0 ∧ ev f (.tmp 0) = s0 ∧ ev f (.tmp 1) = vI a1 ∧ ev f (.tmp 7) = vI (a0.length : Int) ∧ ev f (.tmp 8) = vI a3) (fun f w => ∃ (H1 : FH), b4 = .go () ∧ Sub H H1 ∧ St H1 w (L)) rfl ?_ ?_ K ?_ ?_
 rintro f w ⟨a3, H1, a4, _⟩
 rw [K4] at a4; cases a4
 rintro k c2 c3 b6 b7 ⟨a3, b5, a4, Z2, hS, b8, a6, a7, a8, a9, a5⟩
 rw [K4] at a4
 refine Z3 (Z1 ?_)
 refine U7 (k := .i64) (a := a3) (b := (a0.length : Int)) (by exact a5) (by exact a9) rfl (Z0 (Z3 ?_))
 by_cases b1 : a3 < (a0.length : Int)
 rw [if_pos b1] at a4
 refine Y0 (bT b1 rfl) (Y8 (Z3 (Y7 (Z3 (Z1 (Z4 (vI a3) (by exact a5) rfl (Z5 (vI a3) rfl rfl (Z0 (Z3 (Z1 (Z4 (vI a1) (by exact a8) rfl (Z4 (s0) (by exact a7) rfl (Z4 (vI a3) rfl rfl ?_)))))))))))))
 obtain ⟨b3, o3, c8, E3, _, b9, c0, rfl, c1⟩ := a6.elem (i := a3) (by omega) (by omega)
 refine W2 Zq1 rfl rfl b9 rfl (by omega) (by omega) rfl ?_
 refine Y3 (vI (rd a0 a3)) ty3 rfl (hS.froz _ _ c0) (c1 0 (show 0 < 1 by decide)) rfl ?_
 refine E4 (k := .i64) (a := a1) (b := (rd a0 a3)) rfl rfl rfl (Z0 ?_)
 by_cases b2 : a1 = (rd a0 a3)
 rw [if_pos b2] at a4
 refine Y0 (bT b2 rfl) (Z3 (Z1 (Z4 (vI a3) rfl rfl (Z5 (vI a3) rfl rfl (Z0 ?_)))))
 refine X3 (vs := [vI a3]) Tryz.func252 ⟨rfl, trivial⟩ ?_
 have hz := Option.some.inj a4
 subst hz
 dsimp only [Ex.elim] at b0
 have hz := Option.some.inj b0
 subst hz
 exact ⟨_, _, rfl, Z2, hS, rfl⟩
 rw [if_neg b2] at a4
 refine Z8 (bF b2 rfl) (Y8 (X5 (Z1 ?_)))
 refine V1 (a3 + 1) (by exact a5) rfl (IntWalk.i64_in _ (by omega)) rfl (Z4 (vI (a3 + 1)) rfl rfl (Z0 ?_))
 exact b6 _ _ ⟨(a3 + 1), b5, a4, Z2, hS, (by omega), a6, a7, a8, a9, rfl⟩
 rw [if_neg b1] at a4
 refine Z8 (bF b1 rfl) ?_
 refine W4 rfl ?_
 have hz := Option.some.inj a4
 subst hz
 exact b7 _ _ ⟨b5, rfl, Z2, hS⟩
 exact ⟨0, H, a4, Z2, hS, (by omega), a6, rfl, rfl, rfl, rfl⟩
 rintro c4 c5 ⟨c6, rfl, Z2, hS⟩
 dsimp only [Ex.elim] at b0
 refine Z3 (Z1 (Z5 (vI (-1)) rfl rfl (Z0 ?_)))
 refine X3 (vs := [vI (-1)]) Tryz.func252 ⟨rfl, trivial⟩ ?_
 have hz := Option.some.inj b0
 subst hz
 exact ⟨_, _, rfl, Z2, hS, rfl⟩
def I4 (K : Nat) (a0 : Int) : Option A8 := (if 0 ≤ a0 then (if a0 < 8 then some (S2 (fun _ => 0) a0 1) else none) else none)
theorem Zc3 {K : Nat} {a0 : Int} {r : A8} (q0 : I4 K a0 = some r) {H : FH} {w : World} {L : OL} (hS : St H w L) :
 Calls Tryz.prog 151 #[vI a0] w (T3 (fun v G => (R.agg (Zo7 .i64)).p G v r) H L) := by
 have Z2 := Sub.refl H
 refine X6 Tryz.func151 rfl Tryz.ntmps151 rfl ?_
 unfold I4 at q0
 refine Z3 (Z1 ?_)
 refine V0 (z := vA (Z7 .i64 (fun _ => 0))) (Z7 .i64 (fun _ => 0)).toArray Zo4.zero rfl hS rfl ?_
 intro b1 w2 hS
 refine Z0 (Z3 (Z1 ?_))
 refine R4 (vA (Z7 .i64 (fun _ => 0))) Xc2 rfl ?_
 refine V0 (z := vA (Z7 .i64 (fun _ => 0))) (Z7 .i64 (fun _ => 0)).toArray Zo4.zero rfl hS rfl ?_
 intro b4 w5 hS
 refine W0 (v := vA (Z7 .i64 (fun _ => 0))) (vs := (Z7 .i64 (fun _ => 0)).toArray) (cs := (Z7 .i64 (fun _ => 0)).toArray) L0 rfl rfl rfl hS rfl (S3 .i64 (fun _ => 0)) rfl ?_
 intro w7 hS
 refine Z0 (Z3 (Z1 (Z4 (vI a0) rfl rfl ?_)))
 obtain ⟨a1, q0⟩ := gd q0
 obtain ⟨a3, q0⟩ := gd q0
 refine V6 Zj9 rfl rfl (by omega) (by omega) rfl ?_
 refine Zd8 (v := vI 1) (cs := (Z7 .i64 (fun _ => 0)).toArray) (cs' := (Z7 .i64 (S2 (fun _ => 0) a0 1)).toArray) ty3 rfl rfl hS rfl (Zy9 rfl) (by simp [Z7, M6]; omega) (Zg9 (by omega) (by omega)) ?_
 intro a4 hS
 refine Z0 (Z3 (Z1 ?_))
 refine W1 L0 rfl (hS.get mL) rfl rfl ?_
 have hS := hS.perm V3
 refine W0 (v := vA (Z7 .i64 (S2 (fun _ => 0) a0 1))) (vs := (Z7 .i64 (S2 (fun _ => 0) a0 1)).toArray) (cs := (Z7 .i64 (fun _ => 0)).toArray) L0 rfl rfl rfl hS rfl (S3 .i64 (S2 (fun _ => 0) a0 1)) rfl ?_
 intro a5 hS
 have hS := hS.perm V3.symm
 refine Z0 ?_
 refine X3 (vs := [vA (Z7 .i64 (S2 (fun _ => 0) a0 1))]) Tryz.func151 ⟨⟨_, rfl, U1 L0 (hS.get (mR mL)) rfl⟩, trivial⟩ ?_
 have hz := Option.some.inj q0
 subst hz
 exact ⟨_, _, rfl, Z2, (St.dropA (St.dropA hS)), ⟨_, rfl, rfl⟩⟩
def Zt1 (K : Nat) (a0 : Int) (a1 : Int) (a2 : Int) : Option Bool := (if a1 ≤ a0 then some (decide (a0 ≤ a2)) else some false)
theorem Zv9 {K : Nat} {a0 : Int} {a1 : Int} {a2 : Int} {r : Bool} (q0 : Zt1 K a0 a1 a2 = some r) {H : FH} {w : World} {L : OL} (hS : St H w L) :
 Calls Tryz.prog 93 #[vI a0, vI a1, vI a2] w (T3 (fun v G => R.bool.p G v r) H L) := by
 have Z2 := Sub.refl H
 refine X6 Tryz.func93 rfl Tryz.ntmps93 rfl ?_
 unfold Zt1 at q0
 refine Z3 (Z1 (Z5 (Value.bool false) rfl rfl (Z0 (Z3 (Z1 (Z4 (vI a0) rfl rfl (Z4 (vI a1) rfl rfl ?_)))))))
 refine Yc7 (k := .i64) (a := a0) (b := a1) rfl rfl rfl (Z4 (Value.bool (decide (a1 ≤ a0))) rfl rfl ?_)
 by_cases a3 : a1 ≤ a0
 rw [if_pos a3] at q0
 refine Y4 rfl rfl (bT a3 rfl) (Z4 (vI a0) rfl rfl ?_)
 refine Y4 rfl rfl (bT a3 rfl) (Z4 (vI a2) rfl rfl ?_)
 refine Y4 rfl rfl (bT a3 rfl) ?_
 refine Yw4 (k := .i64) (a := a0) (b := a2) rfl rfl rfl ?_
 refine V9 (t := true) (Value.bool (decide (a0 ≤ a2))) (bT a3 rfl) ((if_pos rfl).trans rfl) rfl (Z5 (Value.bool (decide (a0 ≤ a2))) rfl rfl (Z0 ?_))
 refine X3 (vs := [Value.bool (decide (a0 ≤ a2))]) Tryz.func93 ⟨rfl, trivial⟩ ?_
 have hz := Option.some.inj q0
 subst hz
 exact ⟨_, _, rfl, Z2, hS, rfl⟩
 rw [if_neg a3] at q0
 refine Y1 rfl rfl (bF a3 rfl) rfl rfl rfl (Y1 rfl rfl (bF a3 rfl) rfl rfl rfl (Y1 rfl rfl (bF a3 rfl) rfl rfl rfl ?_))
 refine V9 (t := false) (Value.bool false) (bF a3 rfl) ((if_neg Bool.false_ne_true).trans rfl) rfl (Z5 (Value.bool false) rfl rfl (Z0 ?_))
 refine X3 (vs := [Value.bool false]) Tryz.func93 ⟨rfl, trivial⟩ ?_
 have hz := Option.some.inj q0
 subst hz
 exact ⟨_, _, rfl, Z2, hS, rfl⟩
def Zm9 (K : Nat) (a0 : Int) : Option Bool := some (!decide (a0 = 0))
theorem Yw9 {K : Nat} {a0 : Int} {r : Bool} (q0 : Zm9 K a0 = some r) {H : FH} {w : World} {L : OL} (hS : St H w L) :
 Calls Tryz.prog 264 #[vI a0] w (T3 (fun v G => R.bool.p G v r) H L) := by
 have Z2 := Sub.refl H
 refine X6 Tryz.func264 rfl Tryz.ntmps264 rfl ?_
 unfold Zm9 at q0
 refine Z3 (Z1 (Z5 (Value.bool false) rfl rfl (Z0 (Z3 (Z1 (Z4 (vI a0) rfl rfl ?_))))))
 refine G4 (k := .i64) (a := a0) (b := 0) rfl rfl rfl (Z5 (Value.bool (!decide (a0 = 0))) rfl rfl (Z0 ?_))
 refine X3 (vs := [Value.bool (!decide (a0 = 0))]) Tryz.func264 ⟨rfl, trivial⟩ ?_
 have hz := Option.some.inj q0
 subst hz
 exact ⟨_, _, rfl, Z2, hS, rfl⟩
end Go.Proofs.YtfodlhkoafhplaaGreat
