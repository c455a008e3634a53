/- Walks of functions: each computes its pure function, if that gives a value. -/
import Derived.Test.YtfodlhkoafhplaaGreatUTy
namespace Go.Proofs.YtfodlhkoafhplaaGreat
open Go
set_option linter.unusedSimpArgs false
set_option linter.unusedVariables false
set_option maxRecDepth 100000
set_option maxHeartbeats 8000000
def P0 (K : Nat) (a0 : (List Int)) (a1 : A8) : Nat → Int → Option (Ex Bool (Unit))
 | 0, _ => none
 | k + 1, a3 => (if a3 < 8 then (if (a0.length : Int) ≤ a3 then (if (Y5 a1 a3) = 0 then P0 K a0 a1 k (a3 + 1) else some (.ret false)) else (if 20 < (Y5 a1 a3) then some (.ret false) else (if a3 < (a0.length : Int) then (if (((rd a0 a3)).tmod 2) = 0 then P0 K a0 a1 k (a3 + 1) else (if 1 < (Y5 a1 a3) then some (.ret false) else P0 K a0 a1 k (a3 + 1))) else none))) else some (.go ()))
def Zl1 (K : Nat) (a0 : (List Int)) (a1 : A8) : Option Bool := ((P0 K a0 a1 K 0).bind (Ex.elim (fun r => some r) (fun s => some true)))
theorem Zk2 {K : Nat} {a0 : (List Int)} {a1 : A8} {r : Bool} (q0 : Zl1 K a0 a1 = some r) {H : FH} {w : World} {L : OL} {s0 : Value} (b2 : Y2 (Y8 .i64) H s0 a0) (hS : St H w L) :
 Calls Tryz.prog 202 #[s0, vA (Z7 .u8 a1)] w (S3 (fun v G => R.bool.p G v r) H L) := by
 have Z2 := Sub.refl H
 refine X2 Tryz.func202 rfl Tryz.ntmps202 rfl ?_
 unfold Zl1 at q0
 refine Z3 (Z1 ?_)
 refine S5 (v := vA (Z7 .u8 a1)) (Z7 .u8 a1).toArray rfl rfl hS rfl ?_
 intro b1 w2 hS
 refine Z5 (Value.bool false) rfl rfl (Z0 (Z3 (Z3 (Z1 (Z5 (vI 0) rfl rfl (Z0 (Y7 ?_)))))))
 obtain ⟨b8, a4, b0⟩ := bind_some q0
 refine W7 (id := 0) (fun k f w => ∃ (a3 : Int) (H1 : FH), P0 K a0 a1 k a3 = some b8 ∧ Sub H H1 ∧ St H1 w ([(b1, cA (Z7 .u8 a1) 70)] ++ L) ∧ 0 ≤ a3 ∧ Y2 (Y8 .i64) H1 s0 a0 ∧ ev f (.tmp 0) = s0 ∧ ev f (.tmp 3) = vP b1 ∧ ev f (.tmp 5) = vI a3) (fun f w => ∃ (H1 : FH), b8 = .go () ∧ Sub H H1 ∧ St H1 w ([(b1, cA (Z7 .u8 a1) 70)] ++ L)) rfl ?_ ?_ K ?_ ?_
 rintro f w ⟨a3, H1, a4, _⟩
 rw [P0] at a4; cases a4
 rintro k c5 c6 b9 c3 ⟨a3, b3, a4, Z2, hS, c4, b2, a9, a8, a5⟩
 rw [P0] at a4
 refine Z3 (Z3 (Z1 (Z4 (vI a3) (by exact a5) rfl ?_)))
 refine U2 (k := .i64) (a := a3) (b := 8) rfl rfl rfl (Z0 ?_)
 by_cases b5 : a3 < 8
 rw [if_pos b5] at a4
 refine Y0 (bT b5 rfl) (Y6 (Z3 (Y7 (Y7 (Z3 (Z1 (Z4 (vI a3) (by exact a5) rfl (Z4 (s0) (by exact a9) rfl ?_))))))))
 have d1 := b2.bound
 refine W6 S9 rfl b2 rfl ?_
 refine Yb1 (k := .i64) (a := a3) (b := (a0.length : Int)) rfl rfl rfl (Z5 (Value.bool (decide ((a0.length : Int) ≤ a3))) rfl rfl (Z0 ?_))
 by_cases b6 : (a0.length : Int) ≤ a3
 rw [if_pos b6] at a4
 refine Y0 (bT b6 rfl) (Z3 (Z1 (Z4 (vI a3) (by exact a5) rfl ?_)))
 refine V3 Za9 (by exact a8) rfl (by omega) (by omega) rfl ?_
 refine Y4 (Value.int .u8 (Y5 a1 a3)) ty5 rfl (hS.get (o := cA (Z7 .u8 a1) 70) mL) (M5 ([]) ([]) (by omega) (by omega)) rfl ?_
 refine K9 (k := .u8) (a := (Y5 a1 a3)) (b := 0) rfl rfl rfl (Z0 ?_)
 by_cases b7 : (Y5 a1 a3) = 0
 rw [if_pos b7] at a4
 refine Z9 (bN b7 rfl) (Y6 (X3 (X3 (Z1 (Z4 (vI a3) (by exact a5) rfl ?_)))))
 refine W8 (a3 + 1) rfl rfl (IntWalk.i64_in _ (by omega)) rfl (Z5 (vI (a3 + 1)) rfl rfl (Z0 ?_))
 exact b9 _ _ ⟨(a3 + 1), b3, a4, Z2, hS, (by omega), b2, a9, a8, rfl⟩
 rw [if_neg b7] at a4
 refine Y0 (bO b7 rfl) (Z3 (Z1 (Z5 (Value.bool false) rfl rfl (Z0 ?_))))
 refine Y9 (vs := [Value.bool false]) Tryz.func202 ⟨rfl, trivial⟩ ?_
 have hz := Option.some.inj a4
 subst hz
 dsimp only [Ex.elim] at b0
 have hz := Option.some.inj b0
 subst hz
 exact ⟨_, _, rfl, Z2, (St.dropA hS), rfl⟩
 rw [if_neg b6] at a4
 refine Z9 (bF b6 rfl) (Z3 (Z1 (Z4 (vI a3) (by exact a5) rfl ?_)))
 refine V3 Za9 (by exact a8) rfl (by omega) (by omega) rfl ?_
 refine Y4 (Value.int .u8 (Y5 a1 a3)) ty5 rfl (hS.get (o := cA (Z7 .u8 a1) 70) mL) (M5 ([]) ([]) (by omega) (by omega)) rfl ?_
 refine Zd2 (k := .u8) (a := (Y5 a1 a3)) (b := 20) rfl rfl rfl (Z4 (Value.bool (decide (20 < (Y5 a1 a3)))) rfl rfl ?_)
 by_cases a6 : 20 < (Y5 a1 a3)
 rw [if_pos a6] at a4
 refine Z8 rfl rfl (bT a6 rfl) rfl rfl rfl (Z8 rfl rfl (bT a6 rfl) rfl rfl rfl (Z8 rfl rfl (bT a6 rfl) rfl rfl rfl (Z8 rfl rfl (bT a6 rfl) rfl rfl rfl (Z8 rfl rfl (bT a6 rfl) rfl rfl rfl (Z8 rfl rfl (bT a6 rfl) rfl rfl rfl (Z8 rfl rfl (bT a6 rfl) rfl rfl rfl ?_))))))
 refine V9 rfl rfl rfl rfl rfl ?_
 refine V9 rfl rfl rfl rfl rfl ?_
 refine V9 rfl rfl rfl rfl rfl ?_
 refine V9 rfl rfl rfl rfl rfl (Z8 rfl rfl (bT a6 rfl) rfl rfl rfl ?_)
 refine V2 (t := true) (Value.bool true) (bT a6 rfl) ((if_pos rfl).trans rfl) rfl (Z5 (Value.bool true) rfl rfl (Z0 (Y0 rfl (Z3 (Z1 (Z5 (Value.bool false) rfl rfl (Z0 ?_)))))))
 refine Y9 (vs := [Value.bool false]) Tryz.func202 ⟨rfl, trivial⟩ ?_
 have hz := Option.some.inj a4
 subst hz
 dsimp only [Ex.elim] at b0
 have hz := Option.some.inj b0
 subst hz
 exact ⟨_, _, rfl, Z2, (St.dropA hS), rfl⟩
 rw [if_neg a6] at a4
 refine Y1 rfl rfl (bF a6 rfl) (Z4 (s0) (by exact a9) rfl ?_)
 refine Y1 rfl rfl (bF a6 rfl) (Z4 (vI a3) (by exact a5) rfl ?_)
 refine Y1 rfl rfl (bF a6 rfl) ?_
 obtain ⟨d2, a4⟩ := gd a4
 obtain ⟨d3, d4, c7, d5, _, c0, c1, rfl, c2⟩ := b2.elem (i := a3) (by omega) (by omega)
 refine W3 S9 rfl rfl c0 rfl (by omega) (by omega) rfl ?_
 refine Y1 rfl rfl (bF a6 rfl) ?_
 refine Y4 (vI (rd a0 a3)) ty2 rfl (hS.froz _ _ c1) (c2 0 (show 0 < 1 by decide)) rfl ?_
 refine Y1 rfl rfl (bF a6 rfl) ?_
 refine Zk3 (((rd a0 a3)).tmod 2) rfl rfl (by decide) rfl rfl ?_
 refine Y1 rfl rfl (bF a6 rfl) ?_
 refine K9 (k := .i64) (a := (((rd a0 a3)).tmod 2)) (b := 0) rfl rfl rfl ?_
 refine Y1 rfl rfl (bF a6 rfl) (Z4 (Value.bool (!decide ((((rd a0 a3)).tmod 2) = 0))) rfl rfl ?_)
 by_cases a7 : (((rd a0 a3)).tmod 2) = 0
 rw [if_pos a7] at a4
 refine Z8 rfl rfl (bN a7 rfl) rfl rfl rfl (Z8 rfl rfl (bN a7 rfl) rfl rfl rfl (Z8 rfl rfl (bN a7 rfl) rfl rfl rfl (Z8 rfl rfl (bN a7 rfl) rfl rfl rfl ?_)))
 refine Y1 rfl rfl (bF a6 rfl) ?_
 refine V2 (t := false) (Value.bool false) (bN a7 rfl) ((if_neg Bool.false_ne_true).trans rfl) rfl ?_
 refine V2 (t := false) (Value.bool false) (bF a6 rfl) ((if_neg Bool.false_ne_true).trans rfl) rfl (Z5 (Value.bool false) rfl rfl (Z0 (Z9 rfl (Y6 (X3 (X3 (Z1 (Z4 (vI a3) (by exact a5) rfl ?_))))))))
 refine W8 (a3 + 1) rfl rfl (IntWalk.i64_in _ (by omega)) rfl (Z5 (vI (a3 + 1)) rfl rfl (Z0 ?_))
 exact b9 _ _ ⟨(a3 + 1), b3, a4, Z2, hS, (by omega), b2, a9, a8, rfl⟩
 rw [if_neg a7] at a4
 refine Y1 rfl rfl (bO a7 rfl) (Z4 (vI a3) (by exact a5) rfl ?_)
 refine Y1 rfl rfl (bO a7 rfl) ?_
 refine V3 Za9 (by exact a8) rfl (by omega) (by omega) rfl ?_
 refine Y1 rfl rfl (bO a7 rfl) ?_
 refine Y4 (Value.int .u8 (Y5 a1 a3)) ty5 rfl (hS.get (o := cA (Z7 .u8 a1) 70) mL) (M5 ([]) ([]) (by omega) (by omega)) rfl ?_
 refine Y1 rfl rfl (bO a7 rfl) ?_
 refine Zd2 (k := .u8) (a := (Y5 a1 a3)) (b := 1) rfl rfl rfl ?_
 refine Y1 rfl rfl (bF a6 rfl) ?_
 refine V2 (t := true) (Value.bool (decide (1 < (Y5 a1 a3)))) (bO a7 rfl) ((if_pos rfl).trans rfl) rfl ?_
 refine V2 (t := false) (Value.bool (decide (1 < (Y5 a1 a3)))) (bF a6 rfl) ((if_neg Bool.false_ne_true).trans rfl) rfl (Z5 (Value.bool (decide (1 < (Y5 a1 a3)))) rfl rfl (Z0 ?_))
 by_cases b4 : 1 < (Y5 a1 a3)
 rw [if_pos b4] at a4
 refine Y0 (bT b4 rfl) (Z3 (Z1 (Z5 (Value.bool false) rfl rfl (Z0 ?_))))
 refine Y9 (vs := [Value.bool false]) Tryz.func202 ⟨rfl, trivial⟩ ?_
 have hz := Option.some.inj a4
 subst hz
 dsimp only [Ex.elim] at b0
 have hz := Option.some.inj b0
 subst hz
 exact ⟨_, _, rfl, Z2, (St.dropA hS), rfl⟩
 rw [if_neg b4] at a4
 refine Z9 (bF b4 rfl) (Y6 (X3 (X3 (Z1 (Z4 (vI a3) (by exact a5) rfl ?_)))))
 refine W8 (a3 + 1) rfl rfl (IntWalk.i64_in _ (by omega)) rfl (Z5 (vI (a3 + 1)) rfl rfl (Z0 ?_))
 exact b9 _ _ ⟨(a3 + 1), b3, a4, Z2, hS, (by omega), b2, a9, a8, rfl⟩
 rw [if_neg b5] at a4
 refine Z9 (bF b5 rfl) ?_
 refine W4 rfl ?_
 have hz := Option.some.inj a4
 subst hz
 exact c3 _ _ ⟨b3, rfl, Z2, hS⟩
 exact ⟨0, H, a4, Z2, hS, (by omega), b2, rfl, rfl, rfl⟩
 rintro c8 c9 ⟨d0, rfl, Z2, hS⟩
 dsimp only [Ex.elim] at b0
 refine Z3 (Z1 (Z5 (Value.bool true) rfl rfl (Z0 ?_)))
 refine Y9 (vs := [Value.bool true]) Tryz.func202 ⟨rfl, trivial⟩ ?_
 have hz := Option.some.inj b0
 subst hz
 exact ⟨_, _, rfl, Z2, (St.dropA hS), rfl⟩
def Q7 (K : Nat) (a0 : A8) (a1 : A8) : Nat → Int → Option (Ex Int (Unit))
 | 0, _ => none
 | k + 1, a3 => (if a3 < 8 then (if (Y5 a0 a3) = (Y5 a1 a3) then Q7 K a0 a1 k (a3 + 1) else some (.ret (IntKind.i64.wrap ((Y5 a1 a3) - (Y5 a0 a3))))) else some (.go ()))
def F2 (K : Nat) (a0 : A8) (a1 : A8) : Option Int := ((Q7 K a0 a1 K 0).bind (Ex.elim (fun r => some r) (fun s => some 0)))
theorem Zq2 {K : Nat} {a0 : A8} {a1 : A8} {r : Int} (q0 : F2 K a0 a1 = some r) {H : FH} {w : World} {L : OL} (hS : St H w L) :
 Calls Tryz.prog 221 #[vA (Z7 .i64 a0), vA (Z7 .i64 a1)] w (S3 (fun v G => (R.int .i64).p G v r) H L) := by
 have Z2 := Sub.refl H
 refine X2 Tryz.func221 rfl Tryz.ntmps221 rfl ?_
 unfold F2 at q0
 refine Z3 (Z1 ?_)
 refine S5 (v := vA (Z7 .i64 a0)) (Z7 .i64 a0).toArray rfl rfl hS rfl ?_
 intro b1 w2 hS
 refine S5 (v := vA (Z7 .i64 a1)) (Z7 .i64 a1).toArray rfl rfl hS rfl ?_
 intro b4 w5 hS
 refine Z5 (vI 0) rfl rfl (Z0 (Z3 (Z3 (Z1 (Z4 (vI 0) rfl rfl (Z0 (Y7 ?_)))))))
 obtain ⟨b5, a4, a8⟩ := bind_some q0
 refine W7 (id := 0) (fun k f w => ∃ (a3 : Int) (H1 : FH), Q7 K a0 a1 k a3 = some b5 ∧ Sub H H1 ∧ St H1 w ([(b4, cA (Z7 .i64 a1) 188)] ++ ([(b1, cA (Z7 .i64 a0) 188)] ++ L)) ∧ 0 ≤ a3 ∧ ev f (.tmp 2) = vP b1 ∧ ev f (.tmp 3) = vP b4 ∧ ev f (.tmp 6) = vI a3) (fun f w => ∃ (H1 : FH), b5 = .go () ∧ Sub H H1 ∧ St H1 w ([(b4, cA (Z7 .i64 a1) 188)] ++ ([(b1, cA (Z7 .i64 a0) 188)] ++ L))) rfl ?_ ?_ K ?_ ?_
 rintro f w ⟨a3, H1, a4, _⟩
 rw [Q7] at a4; cases a4
 rintro k g7 g8 e7 e8 ⟨a3, d3, a4, Z2, hS, e9, a6, a7, a5⟩
 rw [Q7] at a4
 refine Z3 (Z1 ?_)
 refine U2 (k := .i64) (a := a3) (b := 8) (by exact a5) rfl rfl (Z0 (Z3 ?_))
 by_cases b2 : a3 < 8
 rw [if_pos b2] at a4
 refine Y0 (bT b2 rfl) (Y6 (Z3 (Y7 (Z3 (Z1 (Z4 (vI a3) (by exact a5) rfl (Z5 (vI a3) rfl rfl (Z0 (Z3 ?_)))))))))
 refine U0 7 (Q5 [(9, MP.eq (vI a3)), (10, MP.eq (Value.pointer (some ⟨b1, 0 + (a3).toNat * 1, none⟩))), (11, MP.eq (vI (Y5 a0 a3))), (12, MP.eq (vI a3)), (13, MP.eq (Value.pointer (some ⟨b4, 0 + (a3).toNat * 1, none⟩))), (14, MP.eq (vI (Y5 a1 a3))), (15, MP.eq (Value.bool (!decide ((Y5 a0 a3) = (Y5 a1 a3)))))]) [] mixed rfl rfl rfl hS (Z6 rfl ?_ (Z6 rfl ?_ (Z6 rfl ?_ (Z6 rfl ?_ (Z6 rfl ?_ (Z6 rfl ?_ (Z6 rfl ?_ U5))))))) ?_
 intro f8 w9 l2 l3 g9 hS d4 h0 hcq
 have f0 : ev f8 (.tmp 5) = vI a3 := Eq.trans (d4 5 rfl) rfl
 refine Z4 (vI a3) f0 rfl ?_
 exact qn (.refl _) rfl hS rfl
 intro l4 l5 l6 l7 h1 hS d5 d6 hcq
 refine V3 Ze5 (evT (d5 2 rfl) a6) (eM (d6 0 9 rfl rfl)) (by omega) (by omega) rfl ?_
 exact qn (.refl _) rfl hS rfl
 intro l9 m0 m1 m2 h2 hS h3 d7 hcq
 refine Y4 (vI (Y5 a0 a3)) ty3 (eM (d7 1 10 rfl rfl)) (hS.get (o := cA (Z7 .i64 a0) 188) (mR (mR mL))) (M5 ([]) ([]) (by omega) (by omega)) rfl ?_
 exact qn (.refl _) rfl hS rfl
 intro f1 m3 m4 m5 h4 hS d8 h5 hcq
 have f2 : ev f1 (.tmp 5) = vI a3 := Eq.trans (d8 5 rfl) rfl
 refine Z4 (vI a3) f2 rfl ?_
 exact qn (.refl _) rfl hS rfl
 intro m6 m7 m8 m9 h6 hS d9 e0 hcq
 refine V3 Ze5 (evT (d9 3 rfl) a7) (eM (e0 3 12 rfl rfl)) (by omega) (by omega) rfl ?_
 exact qn (.refl _) rfl hS rfl
 intro n0 n1 n2 n3 h7 hS h8 e1 hcq
 refine Y4 (vI (Y5 a1 a3)) ty3 (eM (e1 4 13 rfl rfl)) (hS.get (o := cA (Z7 .i64 a1) 188) (mR mL)) (M5 ([]) ([]) (by omega) (by omega)) rfl ?_
 exact qn (.refl _) rfl hS rfl
 intro n4 n5 n6 n7 h9 hS i0 b6 hcq
 refine K9 (k := .i64) (a := (Y5 a0 a3)) (b := (Y5 a1 a3)) (eM (b6 2 11 rfl rfl)) (eM (b6 5 14 rfl rfl)) rfl ?_
 exact qn (.refl _) rfl hS rfl
 intro c7 f3 c8 e2 hS a9 e3 hcq
 have hS : St c8 f3 ([(b4, cA (Z7 .i64 a1) 188)] ++ ([(b1, cA (Z7 .i64 a0) 188)] ++ L)) := hS
 have Z2 := Z2.trans e2
 have c9 := evT (a9 2 rfl) a6
 have d0 := evT (a9 3 rfl) a7
 have d1 : ev c7 (.tmp 5) = vI a3 := Eq.trans (a9 5 rfl) rfl
 have d2 : ev c7 (.tmp 15) = Value.bool (!decide ((Y5 a0 a3) = (Y5 a1 a3))) := e3 6 15 (by decide) rfl
 refine Z0 ?_
 by_cases b0 : (Y5 a0 a3) = (Y5 a1 a3)
 rw [if_pos b0] at a4
 refine Z9 (bN b0 (by exact d2)) (Y6 (X3 (Z1 ?_)))
 refine W8 (a3 + 1) (by exact (evT (a9 6 rfl) a5)) rfl (IntWalk.i64_in _ (by omega)) rfl (Z4 (vI (a3 + 1)) rfl rfl (Z0 ?_))
 exact e7 _ _ ⟨(a3 + 1), c8, a4, Z2, hS, (by omega), c9, d0, rfl⟩
 rw [if_neg b0] at a4
 refine Y0 (bO b0 (by exact d2)) (Z3 ?_)
 refine U0 8 (Q5 [(16, MP.eq (vI a3)), (17, MP.eq (Value.pointer (some ⟨b4, 0 + (a3).toNat * 1, none⟩))), (18, MP.eq (vI (Y5 a1 a3))), (19, MP.eq (vI a3)), (20, MP.eq (Value.pointer (some ⟨b1, 0 + (a3).toNat * 1, none⟩))), (21, MP.eq (vI (Y5 a0 a3))), (22, MP.eq (vI (IntKind.i64.wrap ((Y5 a1 a3) - (Y5 a0 a3))))), (4, MP.eq (vI (IntKind.i64.wrap ((Y5 a1 a3) - (Y5 a0 a3)))))]) [] mixed rfl rfl rfl hS (Z6 rfl ?_ (Z6 rfl ?_ (Z6 rfl ?_ (Z6 rfl ?_ (Z6 rfl ?_ (Z6 rfl ?_ (Z6 rfl ?_ (Z6 rfl ?_ U5)))))))) ?_
 intro n8 n9 o0 o1 i1 hS e4 i2 hcq
 refine Z4 (vI a3) (evT (e4 5 rfl) d1) rfl ?_
 exact qn (.refl _) rfl hS rfl
 intro o2 o3 o4 o5 i3 hS b7 b8 hcq
 refine V3 Ze5 (evT (b7 3 rfl) d0) (eM (b8 0 16 rfl rfl)) (by omega) (by omega) rfl ?_
 exact qn (.refl _) rfl hS rfl
 intro i4 i5 i6 i7 f4 hS f5 b9 hcq
 refine Y4 (vI (Y5 a1 a3)) ty3 (eM (b9 1 17 rfl rfl)) (hS.get (o := cA (Z7 .i64 a1) 188) (mR mL)) (M5 ([]) ([]) (by omega) (by omega)) rfl ?_
 exact qn (.refl _) rfl hS rfl
 intro i8 i9 j0 j1 f6 hS c0 f7 hcq
 refine Z4 (vI a3) (evT (c0 5 rfl) d1) rfl ?_
 exact qn (.refl _) rfl hS rfl
 intro j2 j3 j4 j5 f9 hS c1 c2 hcq
 refine V3 Ze5 (evT (c1 2 rfl) c9) (eM (c2 3 19 rfl rfl)) (by omega) (by omega) rfl ?_
 exact qn (.refl _) rfl hS rfl
 intro j6 j7 j8 j9 g0 hS g1 c3 hcq
 refine Y4 (vI (Y5 a0 a3)) ty3 (eM (c3 4 20 rfl rfl)) (hS.get (o := cA (Z7 .i64 a0) 188) (mR (mR mL))) (M5 ([]) ([]) (by omega) (by omega)) rfl ?_
 exact qn (.refl _) rfl hS rfl
 intro k0 k1 k2 k3 g2 hS g3 b3 hcq
 refine Zs6 (IntKind.i64.wrap ((Y5 a1 a3) - (Y5 a0 a3))) (eM (b3 2 18 rfl rfl)) (eM (b3 5 21 rfl rfl)) rfl rfl ?_
 exact qn (.refl _) rfl hS rfl
 intro k4 k5 k6 k7 g4 hS g5 c4 hcq
 refine Z5 (vI (IntKind.i64.wrap ((Y5 a1 a3) - (Y5 a0 a3)))) (eM (c4 6 22 rfl rfl)) rfl ?_
 exact qn (.refl _) rfl hS rfl
 intro k8 e5 e6 c5 hS g6 c6 hcq
 have hS : St e6 e5 ([(b4, cA (Z7 .i64 a1) 188)] ++ ([(b1, cA (Z7 .i64 a0) 188)] ++ L)) := hS
 have Z2 := Z2.trans c5
 refine Z0 ?_
 refine Y9 (vs := [vI (IntKind.i64.wrap ((Y5 a1 a3) - (Y5 a0 a3)))]) Tryz.func221 ⟨(by exact (eM (c6 7 4 (by decide) rfl))), trivial⟩ ?_
 have hz := Option.some.inj a4
 subst hz
 dsimp only [Ex.elim] at a8
 have hz := Option.some.inj a8
 subst hz
 exact ⟨_, _, rfl, Z2, (St.dropA (St.dropA hS)), rfl⟩
 rw [if_neg b2] at a4
 refine Z9 (bF b2 rfl) ?_
 refine W4 rfl ?_
 have hz := Option.some.inj a4
 subst hz
 exact e8 _ _ ⟨d3, rfl, Z2, hS⟩
 exact ⟨0, H, a4, Z2, hS, (by omega), rfl, rfl, rfl⟩
 rintro k9 l0 ⟨l1, rfl, Z2, hS⟩
 dsimp only [Ex.elim] at a8
 refine Z3 (Z1 (Z5 (vI 0) rfl rfl (Z0 ?_)))
 refine Y9 (vs := [vI 0]) Tryz.func221 ⟨rfl, trivial⟩ ?_
 have hz := Option.some.inj a8
 subst hz
 exact ⟨_, _, rfl, Z2, (St.dropA (St.dropA hS)), rfl⟩
def I1 (K : Nat) (a0 : A8) (a1 : A8) : Nat → Int → Option (Ex Bool (Unit))
 | 0, _ => none
 | k + 1, a3 => (if a3 < 8 then (if (Y5 a0 a3) = (Y5 a1 a3) then I1 K a0 a1 k (a3 + 1) else some (.ret (decide ((Y5 a1 a3) < (Y5 a0 a3))))) else some (.go ()))
def Za6 (K : Nat) (a0 : A8) (a1 : A8) : Option Bool := ((I1 K a0 a1 K 0).bind (Ex.elim (fun r => some r) (fun s => some false)))
theorem Zn3 {K : Nat} {a0 : A8} {a1 : A8} {r : Bool} (q0 : Za6 K a0 a1 = some r) {H : FH} {w : World} {L : OL} (hS : St H w L) :
 Calls Tryz.prog 203 #[vA (Z7 .u8 a0), vA (Z7 .u8 a1)] w (S3 (fun v G => R.bool.p G v r) H L) := by
 have Z2 := Sub.refl H
 refine X2 Tryz.func203 rfl Tryz.ntmps203 rfl ?_
 unfold Za6 at q0
 refine Z3 (Z1 ?_)
 refine S5 (v := vA (Z7 .u8 a0)) (Z7 .u8 a0).toArray rfl rfl hS rfl ?_
 intro b1 w2 hS
 refine S5 (v := vA (Z7 .u8 a1)) (Z7 .u8 a1).toArray rfl rfl hS rfl ?_
 intro b4 w5 hS
 refine Z5 (Value.bool false) rfl rfl (Z0 (Z3 (Z3 (Z1 (Z5 (vI 0) rfl rfl (Z0 (Y7 ?_)))))))
 obtain ⟨b5, a4, a8⟩ := bind_some q0
 refine W7 (id := 0) (fun k f w => ∃ (a3 : Int) (H1 : FH), I1 K a0 a1 k a3 = some b5 ∧ Sub H H1 ∧ St H1 w ([(b4, cA (Z7 .u8 a1) 70)] ++ ([(b1, cA (Z7 .u8 a0) 70)] ++ L)) ∧ 0 ≤ a3 ∧ ev f (.tmp 2) = vP b1 ∧ ev f (.tmp 3) = vP b4 ∧ ev f (.tmp 5) = vI a3) (fun f w => ∃ (H1 : FH), b5 = .go () ∧ Sub H H1 ∧ St H1 w ([(b4, cA (Z7 .u8 a1) 70)] ++ ([(b1, cA (Z7 .u8 a0) 70)] ++ L))) rfl ?_ ?_ K ?_ ?_
 rintro f w ⟨a3, H1, a4, _⟩
 rw [I1] at a4; cases a4
 rintro k g4 g5 e6 e7 ⟨a3, d1, a4, Z2, hS, e8, a6, a7, a5⟩
 rw [I1] at a4
 refine Z3 (Z3 (Z1 (Z4 (vI a3) (by exact a5) rfl ?_)))
 refine U2 (k := .i64) (a := a3) (b := 8) rfl rfl rfl (Z0 ?_)
 by_cases b2 : a3 < 8
 rw [if_pos b2] at a4
 refine Y0 (bT b2 rfl) (Y6 (Z3 (Y7 (Z3 ?_))))
 refine U0 7 (Q5 [(10, MP.eq (vI a3)), (11, MP.eq (Value.pointer (some ⟨b1, 0 + (a3).toNat * 1, none⟩))), (12, MP.eq (Value.int .u8 (Y5 a0 a3))), (13, MP.eq (vI a3)), (14, MP.eq (Value.pointer (some ⟨b4, 0 + (a3).toNat * 1, none⟩))), (15, MP.eq (Value.int .u8 (Y5 a1 a3))), (16, MP.eq (Value.bool (!decide ((Y5 a0 a3) = (Y5 a1 a3)))))]) [] mixed rfl rfl rfl hS (Z6 rfl ?_ (Z6 rfl ?_ (Z6 rfl ?_ (Z6 rfl ?_ (Z6 rfl ?_ (Z6 rfl ?_ (Z6 rfl ?_ U5))))))) ?_
 intro f8 w9 k9 l0 g6 hS d2 g7 hcq
 refine Z4 (vI a3) (evT (d2 5 rfl) a5) rfl ?_
 exact qn (.refl _) rfl hS rfl
 intro l1 l2 l3 l4 g8 hS d3 d4 hcq
 refine V3 Za9 (evT (d3 2 rfl) a6) (eM (d4 0 10 rfl rfl)) (by omega) (by omega) rfl ?_
 exact qn (.refl _) rfl hS rfl
 intro l5 l6 l7 l9 g9 hS h0 d5 hcq
 refine Y4 (Value.int .u8 (Y5 a0 a3)) ty5 (eM (d5 1 11 rfl rfl)) (hS.get (o := cA (Z7 .u8 a0) 70) (mR (mR mL))) (M5 ([]) ([]) (by omega) (by omega)) rfl ?_
 exact qn (.refl _) rfl hS rfl
 intro m0 m1 m2 m3 h1 hS d6 h2 hcq
 refine Z4 (vI a3) (evT (d6 5 rfl) a5) rfl ?_
 exact qn (.refl _) rfl hS rfl
 intro m4 m5 m6 m7 h3 hS d7 d8 hcq
 refine V3 Za9 (evT (d7 3 rfl) a7) (eM (d8 3 13 rfl rfl)) (by omega) (by omega) rfl ?_
 exact qn (.refl _) rfl hS rfl
 intro m8 m9 n0 n1 h4 hS h5 d9 hcq
 refine Y4 (Value.int .u8 (Y5 a1 a3)) ty5 (eM (d9 4 14 rfl rfl)) (hS.get (o := cA (Z7 .u8 a1) 70) (mR mL)) (M5 ([]) ([]) (by omega) (by omega)) rfl ?_
 exact qn (.refl _) rfl hS rfl
 intro n2 n3 n4 n5 h6 hS h7 b6 hcq
 refine K9 (k := .u8) (a := (Y5 a0 a3)) (b := (Y5 a1 a3)) (eM (b6 2 12 rfl rfl)) (eM (b6 5 15 rfl rfl)) rfl ?_
 exact qn (.refl _) rfl hS rfl
 intro e9 f0 c7 e0 hS b0 e1 hcq
 have hS : St c7 f0 ([(b4, cA (Z7 .u8 a1) 70)] ++ ([(b1, cA (Z7 .u8 a0) 70)] ++ L)) := hS
 have Z2 := Z2.trans e0
 have c8 := evT (b0 2 rfl) a6
 have c9 := evT (b0 3 rfl) a7
 have b7 := evT (b0 5 rfl) a5
 have d0 : ev e9 (.tmp 16) = Value.bool (!decide ((Y5 a0 a3) = (Y5 a1 a3))) := e1 6 16 (by decide) rfl
 refine Z0 ?_
 by_cases a9 : (Y5 a0 a3) = (Y5 a1 a3)
 rw [if_pos a9] at a4
 refine Z9 (bN a9 (by exact d0)) (Y6 (X3 (Z1 (Z4 (vI a3) (by exact b7) rfl ?_))))
 refine W8 (a3 + 1) rfl rfl (IntWalk.i64_in _ (by omega)) rfl (Z5 (vI (a3 + 1)) rfl rfl (Z0 ?_))
 exact e6 _ _ ⟨(a3 + 1), c7, a4, Z2, hS, (by omega), c8, c9, rfl⟩
 rw [if_neg a9] at a4
 refine Y0 (bO a9 (by exact d0)) (Z3 ?_)
 refine U0 8 (Q5 [(17, MP.eq (vI a3)), (18, MP.eq (Value.pointer (some ⟨b1, 0 + (a3).toNat * 1, none⟩))), (19, MP.eq (Value.int .u8 (Y5 a0 a3))), (20, MP.eq (vI a3)), (21, MP.eq (Value.pointer (some ⟨b4, 0 + (a3).toNat * 1, none⟩))), (22, MP.eq (Value.int .u8 (Y5 a1 a3))), (23, MP.eq (Value.bool (decide ((Y5 a1 a3) < (Y5 a0 a3))))), (4, MP.eq (Value.bool (decide ((Y5 a1 a3) < (Y5 a0 a3)))))]) [] mixed rfl rfl rfl hS (Z6 rfl ?_ (Z6 rfl ?_ (Z6 rfl ?_ (Z6 rfl ?_ (Z6 rfl ?_ (Z6 rfl ?_ (Z6 rfl ?_ (Z6 rfl ?_ U5)))))))) ?_
 intro n6 n7 n8 n9 h8 hS e2 h9 hcq
 refine Z4 (vI a3) (evT (e2 5 rfl) b7) rfl ?_
 exact qn (.refl _) rfl hS rfl
 intro o0 o1 o2 o3 i0 hS e3 b8 hcq
 refine V3 Za9 (evT (e3 2 rfl) c8) (eM (b8 0 17 rfl rfl)) (by omega) (by omega) rfl ?_
 exact qn (.refl _) rfl hS rfl
 intro i1 i2 i3 i4 f1 hS f2 b9 hcq
 refine Y4 (Value.int .u8 (Y5 a0 a3)) ty5 (eM (b9 1 18 rfl rfl)) (hS.get (o := cA (Z7 .u8 a0) 70) (mR (mR mL))) (M5 ([]) ([]) (by omega) (by omega)) rfl ?_
 exact qn (.refl _) rfl hS rfl
 intro i5 i6 i7 i8 f3 hS c0 f4 hcq
 refine Z4 (vI a3) (evT (c0 5 rfl) b7) rfl ?_
 exact qn (.refl _) rfl hS rfl
 intro i9 j0 j1 j2 f5 hS c1 c2 hcq
 refine V3 Za9 (evT (c1 3 rfl) c9) (eM (c2 3 20 rfl rfl)) (by omega) (by omega) rfl ?_
 exact qn (.refl _) rfl hS rfl
 intro j3 j4 j5 j6 f6 hS f7 c3 hcq
 refine Y4 (Value.int .u8 (Y5 a1 a3)) ty5 (eM (c3 4 21 rfl rfl)) (hS.get (o := cA (Z7 .u8 a1) 70) (mR mL)) (M5 ([]) ([]) (by omega) (by omega)) rfl ?_
 exact qn (.refl _) rfl hS rfl
 intro j7 j8 j9 k0 f9 hS g0 b3 hcq
 refine Zd2 (k := .u8) (a := (Y5 a0 a3)) (b := (Y5 a1 a3)) (eM (b3 2 19 rfl rfl)) (eM (b3 5 22 rfl rfl)) rfl ?_
 exact qn (.refl _) rfl hS rfl
 intro k1 k2 k3 k4 g1 hS g2 c4 hcq
 refine Z5 (Value.bool (decide ((Y5 a1 a3) < (Y5 a0 a3)))) (eM (c4 6 23 rfl rfl)) rfl ?_
 exact qn (.refl _) rfl hS rfl
 intro k5 e4 e5 c5 hS g3 c6 hcq
 have hS : St e5 e4 ([(b4, cA (Z7 .u8 a1) 70)] ++ ([(b1, cA (Z7 .u8 a0) 70)] ++ L)) := hS
 have Z2 := Z2.trans c5
 refine Z0 ?_
 refine Y9 (vs := [Value.bool (decide ((Y5 a1 a3) < (Y5 a0 a3)))]) Tryz.func203 ⟨(by exact (eM (c6 7 4 (by decide) rfl))), trivial⟩ ?_
 have hz := Option.some.inj a4
 subst hz
 dsimp only [Ex.elim] at a8
 have hz := Option.some.inj a8
 subst hz
 exact ⟨_, _, rfl, Z2, (St.dropA (St.dropA hS)), rfl⟩
 rw [if_neg b2] at a4
 refine Z9 (bF b2 rfl) ?_
 refine W4 rfl ?_
 have hz := Option.some.inj a4
 subst hz
 exact e7 _ _ ⟨d1, rfl, Z2, hS⟩
 exact ⟨0, H, a4, Z2, hS, (by omega), rfl, rfl, rfl⟩
 rintro k6 k7 ⟨k8, rfl, Z2, hS⟩
 dsimp only [Ex.elim] at a8
 refine Z3 (Z1 (Z5 (Value.bool false) rfl rfl (Z0 ?_)))
 refine Y9 (vs := [Value.bool false]) Tryz.func203 ⟨rfl, trivial⟩ ?_
 have hz := Option.some.inj a8
 subst hz
 exact ⟨_, _, rfl, Z2, (St.dropA (St.dropA hS)), rfl⟩
def J9 (K : Nat) (a0 : (List Int)) (a1 : A8) : Nat → Int → Int → Option (Ex Int (Int))
 | 0, _, _ => none
 | k + 1, a4, a3 => (if a3 < (a0.length : Int) then (if a3 < 8 then J9 K a0 a1 k (IntKind.i64.wrap (a4 + (IntKind.i64.wrap ((rd a0 a3) * (IntKind.i64.wrap (Y5 a1 a3)))))) (a3 + 1) else none) else some (.go a4))
def B4 (K : Nat) (a0 : (List Int)) (a1 : A8) : Option Int := ((J9 K a0 a1 K 0 0).bind (Ex.elim (fun r => some r) (fun s => (fun (a6 : Int) => some a6) s)))
theorem Zn5 {K : Nat} {a0 : (List Int)} {a1 : A8} {r : Int} (q0 : B4 K a0 a1 = some r) {H : FH} {w : World} {L : OL} {s0 : Value} (a9 : Y2 (Y8 .i64) H s0 a0) (hS : St H w L) :
 Calls Tryz.prog 216 #[s0, vA (Z7 .u8 a1)] w (S3 (fun v G => (R.int .i64).p G v r) H L) := by
 have Z2 := Sub.refl H
 refine X2 Tryz.func216 rfl Tryz.ntmps216 rfl ?_
 unfold B4 at q0
 refine Z3 (Z1 ?_)
 refine S5 (v := vA (Z7 .u8 a1)) (Z7 .u8 a1).toArray rfl rfl hS rfl ?_
 intro b1 w2 hS
 refine Z5 (vI 0) rfl rfl (Z0 (Z3 (Z1 (Z5 (vI 0) rfl rfl (Z0 (Z3 (Z3 (Z1 (Z5 (vI 0) rfl rfl (Z0 (Y7 ?_)))))))))))
 obtain ⟨c0, a5, c1⟩ := bind_some q0
 refine W7 (id := 0) (fun k f w => ∃ (a4 : Int) (a3 : Int) (H1 : FH), J9 K a0 a1 k a4 a3 = some c0 ∧ Sub H H1 ∧ St H1 w ([(b1, cA (Z7 .u8 a1) 70)] ++ L) ∧ 0 ≤ a3 ∧ Y2 (Y8 .i64) H1 s0 a0 ∧ ev f (.tmp 0) = s0 ∧ ev f (.tmp 3) = vP b1 ∧ ev f (.tmp 5) = vI a4 ∧ ev f (.tmp 6) = vI a3) (fun f w => ∃ (a6 : Int) (H1 : FH), c0 = .go a6 ∧ Sub H H1 ∧ St H1 w ([(b1, cA (Z7 .u8 a1) 70)] ++ L) ∧ ev f (.tmp 5) = vI a6) rfl ?_ ?_ K ?_ ?_
 rintro f w ⟨a4, a3, H1, a5, _⟩
 rw [J9] at a5; cases a5
 rintro k e8 e9 d9 e0 ⟨a4, a3, c5, a5, Z2, hS, e1, a9, a8, b0, b2, a7⟩
 rw [J9] at a5
 refine Z3 (Z3 (Z1 (Z4 (vI a3) (by exact a7) rfl (Z4 (s0) (by exact a8) rfl ?_))))
 have i1 := a9.bound
 refine W6 S9 rfl a9 rfl ?_
 refine U2 (k := .i64) (a := a3) (b := (a0.length : Int)) rfl rfl rfl (Z0 ?_)
 by_cases b5 : a3 < (a0.length : Int)
 rw [if_pos b5] at a5
 refine Y0 (bT b5 rfl) (Y6 (Z3 (Y7 ?_)))
 obtain ⟨e2, e3, f0, i2, _, c6, b4, rfl, c7⟩ := a9.elem (i := a3) (by omega) (by omega)
 obtain ⟨f1, a5⟩ := gd a5
 refine U0 11 (Q5 [(13, MP.eq (vI a4)), (14, MP.eq (s0)), (15, MP.eq (vI a3)), (16, MP.eq (Value.pointer (some ⟨e2, e3, none⟩))), (17, MP.eq (vI (rd a0 a3))), (18, MP.eq (vI a3)), (19, MP.eq (Value.pointer (some ⟨b1, 0 + (a3).toNat * 1, none⟩))), (20, MP.eq (Value.int .u8 (Y5 a1 a3))), (21, MP.eq (vI (IntKind.i64.wrap (Y5 a1 a3)))), (22, MP.eq (vI (IntKind.i64.wrap ((rd a0 a3) * (IntKind.i64.wrap (Y5 a1 a3)))))), (23, MP.eq (vI (IntKind.i64.wrap (a4 + (IntKind.i64.wrap ((rd a0 a3) * (IntKind.i64.wrap (Y5 a1 a3))))))))]) [] mixed rfl rfl rfl hS (Z6 rfl ?_ (Z6 rfl ?_ (Z6 rfl ?_ (Z6 rfl ?_ (Z6 rfl ?_ (Z6 rfl ?_ (Z6 rfl ?_ (Z6 rfl ?_ (Z6 rfl ?_ (Z6 rfl ?_ (Z6 rfl ?_ U5))))))))))) ?_
 intro f6 w7 H8 X9 f2 hS c8 f3 hcq
 refine Z4 (vI a4) (evT (c8 5 rfl) b2) rfl ?_
 exact qn (.refl _) rfl hS rfl
 intro i3 i4 i5 i6 f4 hS c9 f5 hcq
 refine Z4 (s0) (evT (c9 0 rfl) a8) rfl ?_
 exact qn (.refl _) rfl hS rfl
 intro i7 i8 i9 j0 f7 hS d0 f8 hcq
 refine Z4 (vI a3) (evT (d0 6 rfl) a7) rfl ?_
 exact qn (.refl _) rfl hS rfl
 intro j1 j2 j3 j4 f9 hS g0 c2 hcq
 refine W3 S9 rfl (eM (c2 1 14 rfl rfl)) c6 (eM (c2 2 15 rfl rfl)) (by omega) (by omega) rfl ?_
 exact qn (.refl _) rfl hS rfl
 intro j5 j6 j7 j8 d1 hS g1 d2 hcq
 have b4 := d1.1 _ _ b4
 refine Y4 (vI (rd a0 a3)) ty2 (eM (d2 3 16 rfl rfl)) (hS.froz _ _ b4) (c7 0 (show 0 < 1 by decide)) rfl ?_
 exact qn (.refl _) rfl hS rfl
 intro j9 k0 k1 k2 g2 hS d3 g3 hcq
 refine Z4 (vI a3) (evT (d3 6 rfl) a7) rfl ?_
 exact qn (.refl _) rfl hS rfl
 intro k3 k4 k5 k6 g4 hS d4 d5 hcq
 refine V3 Za9 (evT (d4 3 rfl) b0) (eM (d5 5 18 rfl rfl)) (by omega) (by omega) rfl ?_
 exact qn (.refl _) rfl hS rfl
 intro k7 k8 k9 l0 g5 hS g6 d6 hcq
 refine Y4 (Value.int .u8 (Y5 a1 a3)) ty5 (eM (d6 6 19 rfl rfl)) (hS.get (o := cA (Z7 .u8 a1) 70) (mR mL)) (M5 ([]) ([]) (by omega) (by omega)) rfl ?_
 exact qn (.refl _) rfl hS rfl
 intro l1 l2 l3 l4 g7 hS g8 d7 hcq
 refine Yc7 (s := .u8) ((IntKind.i64.wrap (Y5 a1 a3))) Xx7 (eM (d7 7 20 rfl rfl)) rfl rfl ?_
 exact qn (.refl _) rfl hS rfl
 intro g9 h0 h1 h2 e4 hS e5 b6 hcq
 refine Zq0 (IntKind.i64.wrap ((rd a0 a3) * (IntKind.i64.wrap (Y5 a1 a3)))) (eM (b6 4 17 rfl rfl)) (eM (b6 8 21 rfl rfl)) rfl rfl ?_
 exact qn (.refl _) rfl hS rfl
 intro h3 h4 h5 h6 e6 hS e7 b7 hcq
 refine W8 (IntKind.i64.wrap (a4 + (IntKind.i64.wrap ((rd a0 a3) * (IntKind.i64.wrap (Y5 a1 a3)))))) (eM (b7 0 13 rfl rfl)) (eM (b7 9 22 rfl rfl)) rfl rfl ?_
 exact qn (.refl _) rfl hS rfl
 intro h7 d8 c3 b8 hS b3 c4 hcq
 have hS : St c3 d8 ([(b1, cA (Z7 .u8 a1) 70)] ++ L) := hS
 have Z2 := Z2.trans b8
 have a9 := a9.mono b8
 refine Z5 (vI (IntKind.i64.wrap (a4 + (IntKind.i64.wrap ((rd a0 a3) * (IntKind.i64.wrap (Y5 a1 a3))))))) (by exact (eM (c4 10 23 (by decide) rfl))) rfl (Z0 (X3 (Z1 (Z4 (vI a3) (by exact (evT (b3 6 rfl) a7)) rfl ?_))))
 refine W8 (a3 + 1) rfl rfl (IntWalk.i64_in _ (by omega)) rfl (Z5 (vI (a3 + 1)) rfl rfl (Z0 ?_))
 exact d9 _ _ ⟨(IntKind.i64.wrap (a4 + (IntKind.i64.wrap ((rd a0 a3) * (IntKind.i64.wrap (Y5 a1 a3)))))), (a3 + 1), c3, a5, Z2, hS, (by omega), a9, (evT (b3 0 rfl) a8), (evT (b3 3 rfl) b0), rfl, rfl⟩
 rw [if_neg b5] at a5
 refine Z9 (bF b5 rfl) ?_
 refine W4 rfl ?_
 have hz := Option.some.inj a5
 subst hz
 exact e0 _ _ ⟨a4, c5, rfl, Z2, hS, b2⟩
 exact ⟨0, 0, H, a5, Z2, hS, (by omega), a9, rfl, rfl, rfl, rfl⟩
 rintro h8 h9 ⟨a6, i0, rfl, Z2, hS, b9⟩
 dsimp only [Ex.elim] at c1
 refine Z3 (Z1 (Z4 (vI a6) (by exact b9) rfl (Z5 (vI a6) rfl rfl (Z0 ?_))))
 refine Y9 (vs := [vI a6]) Tryz.func216 ⟨rfl, trivial⟩ ?_
 have hz := Option.some.inj c1
 subst hz
 exact ⟨_, _, rfl, Z2, (St.dropA hS), rfl⟩
def D4 (K : Nat) (a0 : A8) : Nat → Int → A8 → Option (Ex A8 (A8))
 | 0, _, _ => none
 | k + 1, a1, a3 => (if a1 < 8 then D4 K a0 k (a1 + 1) (T7 a3 a1 (IntKind.i64.wrap (Y5 a0 a1))) else some (.go a3))
def Zb4 (K : Nat) (a0 : A8) : Option A8 := ((D4 K a0 K 0 (fun _ => 0)).bind (Ex.elim (fun r => some r) (fun s => (fun (a4 : A8) => some a4) s)))
theorem Zk5 {K : Nat} {a0 : A8} {r : A8} (q0 : Zb4 K a0 = some r) {H : FH} {w : World} {L : OL} (hS : St H w L) :
 Calls Tryz.prog 176 #[vA (Z7 .u8 a0)] w (S3 (fun v G => (R.agg (Zl2 .i64)).p G v r) H L) := by
 have Z2 := Sub.refl H
 refine X2 Tryz.func176 rfl Tryz.ntmps176 rfl ?_
 unfold Zb4 at q0
 refine Z3 (Z1 ?_)
 refine S5 (v := vA (Z7 .u8 a0)) (Z7 .u8 a0).toArray rfl rfl hS rfl ?_
 intro b1 w2 hS
 refine V0 (z := vA (Z7 .i64 (fun _ => 0))) (Z7 .i64 (fun _ => 0)).toArray Zi1.zero rfl hS rfl ?_
 intro b4 w5 hS
 refine Z0 (Z3 (Z1 ?_))
 refine Q6 (vA (Z7 .i64 (fun _ => 0))) Ys3 rfl ?_
 refine V0 (z := vA (Z7 .i64 (fun _ => 0))) (Z7 .i64 (fun _ => 0)).toArray Zi1.zero rfl hS rfl ?_
 intro b7 w8 hS
 refine X8 (v := vA (Z7 .i64 (fun _ => 0))) (vs := (Z7 .i64 (fun _ => 0)).toArray) (cs := (Z7 .i64 (fun _ => 0)).toArray) P4 rfl rfl rfl hS rfl (S4 .i64 (fun _ => 0)) rfl ?_
 intro c7 hS
 refine Z0 (Z3 (Z3 (Z1 ?_)))
 refine W1 P9 rfl (hS.get (mR (mR mL))) rfl rfl (Z4 (vI 0) rfl rfl (Z0 (Y7 ?_)))
 obtain ⟨b5, a5, b6⟩ := bind_some q0
 refine W7 (id := 0) (fun k f w => ∃ (a1 : Int) (a3 : A8) (H1 : FH), D4 K a0 k a1 a3 = some b5 ∧ Sub H H1 ∧ St H1 w ([(b7, cA (Z7 .i64 a3) 188)] ++ ([(b4, cA (Z7 .i64 (fun _ => 0)) 188)] ++ ([(b1, cA (Z7 .u8 a0) 70)] ++ L))) ∧ 0 ≤ a1 ∧ ev f (.tmp 2) = vP b4 ∧ ev f (.tmp 3) = vP b7 ∧ ev f (.tmp 7) = vA (Z7 .u8 a0) ∧ ev f (.tmp 8) = vI a1) (fun f w => ∃ (a4 : A8) (H1 : FH), b5 = .go a4 ∧ Sub H H1 ∧ St H1 w ([(b7, cA (Z7 .i64 a4) 188)] ++ ([(b4, cA (Z7 .i64 (fun _ => 0)) 188)] ++ ([(b1, cA (Z7 .u8 a0) 70)] ++ L))) ∧ ev f (.tmp 2) = vP b4 ∧ ev f (.tmp 3) = vP b7) rfl ?_ ?_ K ?_ ?_
 rintro f w ⟨a1, a3, H1, a5, _⟩
 rw [D4] at a5; cases a5
 rintro k c2 c3 b9 c0 ⟨a1, a3, b8, a5, Z2, hS, c1, a8, a7, a9, a6⟩
 rw [D4] at a5
 refine Z3 (Z1 ?_)
 refine U2 (k := .i64) (a := a1) (b := 8) (by exact a6) rfl rfl (Z0 (Z3 ?_))
 by_cases b2 : a1 < 8
 rw [if_pos b2] at a5
 refine Y0 (bT b2 rfl) (Y6 (Z3 (Y7 (Z3 (Z1 (Z4 (vI a1) (by exact a6) rfl ?_))))))
 refine Ya5 (Value.int .u8 (Y5 a0 a1)) Za9 (by exact a9) (by exact a6) (by omega) (by omega) (Zz1 (by omega) (by omega)) rfl (Z5 (vI a1) rfl rfl (Z5 (Value.int .u8 (Y5 a0 a1)) rfl rfl (Z0 (Z1 (Z4 (vI a1) rfl rfl (Z4 (Value.int .u8 (Y5 a0 a1)) rfl rfl ?_))))))
 refine Yc7 (s := .u8) ((IntKind.i64.wrap (Y5 a0 a1))) Wh0 rfl rfl rfl ?_
 refine V3 Ze5 (by exact a7) rfl (by omega) (by omega) rfl ?_
 refine E0 (v := vI (IntKind.i64.wrap (Y5 a0 a1))) (cs := (Z7 .i64 a3).toArray) (cs' := (Z7 .i64 (T7 a3 a1 (IntKind.i64.wrap (Y5 a0 a1)))).toArray) ty3 rfl rfl hS rfl (Zs8 rfl) (by simp [Z7, P2]; omega) (Ze1 (by omega) (by omega)) ?_
 intro c8 hS
 refine Z0 (X3 (Z1 ?_))
 refine W8 (a1 + 1) (by exact a6) rfl (IntWalk.i64_in _ (by omega)) rfl (Z4 (vI (a1 + 1)) rfl rfl (Z0 ?_))
 exact b9 _ _ ⟨(a1 + 1), (T7 a3 a1 (IntKind.i64.wrap (Y5 a0 a1))), b8, a5, Z2, hS, (by omega), a8, a7, a9, rfl⟩
 rw [if_neg b2] at a5
 refine Z9 (bF b2 rfl) ?_
 refine W4 rfl ?_
 have hz := Option.some.inj a5
 subst hz
 exact c0 _ _ ⟨a3, b8, rfl, Z2, hS, a8, a7⟩
 exact ⟨0, (fun _ => 0), H, a5, Z2, hS, (by omega), rfl, rfl, rfl, rfl⟩
 rintro c4 c5 ⟨a4, c6, rfl, Z2, hS, b0, b3⟩
 dsimp only [Ex.elim] at b6
 refine Z3 (Z1 ?_)
 refine W1 P4 (by exact b3) (hS.get mL) rfl rfl ?_
 have hS := hS.perm U1
 refine X8 (v := vA (Z7 .i64 a4)) (vs := (Z7 .i64 a4).toArray) (cs := (Z7 .i64 (fun _ => 0)).toArray) P4 (by exact b0) rfl rfl hS rfl (S4 .i64 a4) rfl ?_
 intro c9 hS
 have hS := hS.perm U1.symm
 refine Z0 ?_
 refine Y9 (vs := [vA (Z7 .i64 a4)]) Tryz.func176 ⟨⟨_, (by exact b0), U6 P4 (hS.get (mR mL)) rfl⟩, trivial⟩ ?_
 have hz := Option.some.inj b6
 subst hz
 exact ⟨_, _, rfl, Z2, (St.dropA (St.dropA (St.dropA hS))), ⟨_, rfl, rfl⟩⟩
def M3 (K : Nat) (a0 : A8) (a1 : (List Int)) : Nat → Int → Int → Option (Ex Int (Int))
 | 0, _, _ => none
 | k + 1, a4, a3 => (if a3 < (a1.length : Int) then (if a3 < 8 then M3 K a0 a1 k (IntKind.i64.wrap (a4 + (IntKind.i64.wrap ((rd a1 a3) * (Y5 a0 a3))))) (a3 + 1) else none) else some (.go a4))
def Zd8 (K : Nat) (a0 : A8) (a1 : (List Int)) : Option Int := ((M3 K a0 a1 K 0 0).bind (Ex.elim (fun r => some r) (fun s => (fun (a7 : Int) => some a7) s)))
theorem Yc4 {K : Nat} {a0 : A8} {a1 : (List Int)} {r : Int} (q0 : Zd8 K a0 a1 = some r) {H : FH} {w : World} {L : OL} {s0 : Value} (a8 : Y2 (Y8 .i64) H s0 a1) (hS : St H w L) :
 Calls Tryz.prog 223 #[vA (Z7 .i64 a0), s0] w (S3 (fun v G => (R.int .i64).p G v r) H L) := by
 have Z2 := Sub.refl H
 refine X2 Tryz.func223 rfl Tryz.ntmps223 rfl ?_
 unfold Zd8 at q0
 refine Z3 (Z1 ?_)
 refine S5 (v := vA (Z7 .i64 a0)) (Z7 .i64 a0).toArray rfl rfl hS rfl ?_
 intro b1 w2 hS
 refine Z5 (vI 0) rfl rfl (Z0 (Z3 (Z1 (Z5 (vI 0) rfl rfl (Z0 (Z3 (Z3 (Z1 (Z4 (s0) rfl rfl ?_)))))))))
 have d1 := a8.bound
 refine W6 S9 rfl a8 rfl (Z4 (vI 0) rfl rfl (Z0 (Y7 ?_)))
 obtain ⟨b7, a5, b8⟩ := bind_some q0
 refine W7 (id := 0) (fun k f w => ∃ (a4 : Int) (a3 : Int) (H1 : FH), M3 K a0 a1 k a4 a3 = some b7 ∧ Sub H H1 ∧ St H1 w ([(b1, cA (Z7 .i64 a0) 188)] ++ L) ∧ 0 ≤ a3 ∧ Y2 (Y8 .i64) H1 s0 a1 ∧ ev f (.tmp 2) = vP b1 ∧ ev f (.tmp 5) = vI a4 ∧ ev f (.tmp 8) = s0 ∧ ev f (.tmp 9) = vI (a1.length : Int) ∧ ev f (.tmp 10) = vI a3) (fun f w => ∃ (a7 : Int) (H1 : FH), b7 = .go a7 ∧ Sub H H1 ∧ St H1 w ([(b1, cA (Z7 .i64 a0) 188)] ++ L) ∧ ev f (.tmp 5) = vI a7) rfl ?_ ?_ K ?_ ?_
 rintro f w ⟨a4, a3, H1, a5, _⟩
 rw [M3] at a5; cases a5
 rintro k c6 c7 c1 c2 ⟨a4, a3, b9, a5, Z2, hS, c0, a8, a9, b0, b2, b3, a6⟩
 rw [M3] at a5
 refine Z3 (Z1 ?_)
 refine U2 (k := .i64) (a := a3) (b := (a1.length : Int)) (by exact a6) (by exact b3) rfl (Z0 (Z3 ?_))
 by_cases b4 : a3 < (a1.length : Int)
 rw [if_pos b4] at a5
 refine Y0 (bT b4 rfl) (Y6 (Z3 (Y7 (Z3 (Z1 (Z4 (vI a3) (by exact a6) rfl ?_))))))
 obtain ⟨b6, o6, d2, E6, _, c3, c4, rfl, c5⟩ := a8.elem (i := a3) (by omega) (by omega)
 refine W3 S9 rfl (by exact b2) c3 (by exact a6) (by omega) (by omega) rfl ?_
 refine Y4 (vI (rd a1 a3)) ty2 rfl (hS.froz _ _ c4) (c5 0 (show 0 < 1 by decide)) rfl (Z5 (vI a3) rfl rfl (Z5 (vI (rd a1 a3)) rfl rfl (Z0 (Z1 (Z4 (vI a4) (by exact b0) rfl (Z4 (vI (rd a1 a3)) rfl rfl (Z4 (vI a3) rfl rfl ?_)))))))
 obtain ⟨d3, a5⟩ := gd a5
 refine V3 Ze5 (by exact a9) rfl (by omega) (by omega) rfl ?_
 refine Y4 (vI (Y5 a0 a3)) ty3 rfl (hS.get (o := cA (Z7 .i64 a0) 188) mL) (M5 ([]) ([]) (by omega) (by omega)) rfl ?_
 refine Zq0 (IntKind.i64.wrap ((rd a1 a3) * (Y5 a0 a3))) rfl rfl rfl rfl ?_
 refine W8 (IntKind.i64.wrap (a4 + (IntKind.i64.wrap ((rd a1 a3) * (Y5 a0 a3))))) rfl rfl rfl rfl (Z5 (vI (IntKind.i64.wrap (a4 + (IntKind.i64.wrap ((rd a1 a3) * (Y5 a0 a3)))))) rfl rfl (Z0 (X3 (Z1 ?_))))
 refine W8 (a3 + 1) (by exact a6) rfl (IntWalk.i64_in _ (by omega)) rfl (Z4 (vI (a3 + 1)) rfl rfl (Z0 ?_))
 exact c1 _ _ ⟨(IntKind.i64.wrap (a4 + (IntKind.i64.wrap ((rd a1 a3) * (Y5 a0 a3))))), (a3 + 1), b9, a5, Z2, hS, (by omega), a8, a9, rfl, b2, b3, rfl⟩
 rw [if_neg b4] at a5
 refine Z9 (bF b4 rfl) ?_
 refine W4 rfl ?_
 have hz := Option.some.inj a5
 subst hz
 exact c2 _ _ ⟨a4, b9, rfl, Z2, hS, b0⟩
 exact ⟨0, 0, H, a5, Z2, hS, (by omega), a8, rfl, rfl, rfl, rfl, rfl⟩
 rintro c8 c9 ⟨a7, d0, rfl, Z2, hS, b5⟩
 dsimp only [Ex.elim] at b8
 refine Z3 (Z1 (Z4 (vI a7) (by exact b5) rfl (Z5 (vI a7) rfl rfl (Z0 ?_))))
 refine Y9 (vs := [vI a7]) Tryz.func223 ⟨rfl, trivial⟩ ?_
 have hz := Option.some.inj b8
 subst hz
 exact ⟨_, _, rfl, Z2, (St.dropA hS), rfl⟩
def U3 (K : Nat) (a0 : (List Int)) (a1 : (Int → Option Bool)) : Nat → Int → Option (Ex Int (Unit))
 | 0, _ => none
 | k + 1, a3 => (if a3 < (a0.length : Int) then ((a1 (rd a0 a3)).bind fun r4 => (if r4 = true then some (.ret a3) else U3 K a0 a1 k (a3 + 1))) else some (.go ()))
def F8 (K : Nat) (a0 : (List Int)) (a1 : (Int → Option Bool)) : Option Int := ((U3 K a0 a1 K 0).bind (Ex.elim (fun r => some r) (fun s => some (-1))))
theorem Zq6 {K : Nat} {a0 : (List Int)} {a1 : (Int → Option Bool)} {r : Int} (q0 : F8 K a0 a1 = some r) {H : FH} {w : World} {L : OL} {s0 : Value} {s1 : Value} (a6 : Y2 (Y8 .i64) H s0 a0) (a7 : FnQ Tryz.prog s1 (R.int .i64) a1 H) (hS : St H w L) :
 Calls Tryz.prog 263 #[s0, s1] w (S3 (fun v G => (R.int .i64).p G v r) H L) := by
 have Z2 := Sub.refl H
 refine X2 Tryz.func263 rfl Tryz.ntmps263 rfl ?_
 unfold F8 at q0
 refine Z3 (Z1 (Z5 (vI 0) rfl rfl (Z0 (Z3 (Z3 (Z1 (Z4 (s0) rfl rfl ?_)))))))
 have d0 := a6.bound
 refine W6 S9 rfl a6 rfl (Z4 (vI 0) rfl rfl (Z0 (Y7 ?_)))
 obtain ⟨b5, a4, b1⟩ := bind_some q0
 refine W7 (id := 0) (fun k f w => ∃ (a3 : Int) (H1 : FH), U3 K a0 a1 k a3 = some b5 ∧ Sub H H1 ∧ St H1 w (L) ∧ 0 ≤ a3 ∧ Y2 (Y8 .i64) H1 s0 a0 ∧ FnQ Tryz.prog s1 (R.int .i64) a1 H1 ∧ ev f (.tmp 0) = s0 ∧ ev f (.tmp 1) = s1 ∧ ev f (.tmp 7) = vI (a0.length : Int) ∧ ev f (.tmp 8) = vI a3) (fun f w => ∃ (H1 : FH), b5 = .go () ∧ Sub H H1 ∧ St H1 w (L)) rfl ?_ ?_ K ?_ ?_
 rintro f w ⟨a3, H1, a4, _⟩
 rw [U3] at a4; cases a4
 rintro k c5 c6 b8 b9 ⟨a3, b7, a4, Z2, hS, c0, a6, a7, a8, a9, b0, a5⟩
 rw [U3] at a4
 refine Z3 (Z1 ?_)
 refine U2 (k := .i64) (a := a3) (b := (a0.length : Int)) (by exact a5) (by exact b0) rfl (Z0 (Z3 ?_))
 by_cases b2 : a3 < (a0.length : Int)
 rw [if_pos b2] at a4
 refine Y0 (bT b2 rfl) (Y6 (Z3 (Y7 (Z3 (Z1 (Z4 (vI a3) (by exact a5) rfl (Z5 (vI a3) rfl rfl (Z0 (Z3 (Z1 (Z4 (s1) (by exact a9) rfl (Z4 (s0) (by exact a8) rfl (Z4 (vI a3) rfl rfl ?_)))))))))))))
 obtain ⟨b3, o3, d1, E3, _, c1, c2, rfl, c3⟩ := a6.elem (i := a3) (by omega) (by omega)
 refine W3 S9 rfl rfl c1 rfl (by omega) (by omega) rfl ?_
 refine Y4 (vI (rd a0 a3)) ty2 rfl (hS.froz _ _ c2) (c3 0 (show 0 < 1 by decide)) rfl ?_
 obtain ⟨r4, c4, a4⟩ := bind_some a4
 refine Xi1 a7 rfl rfl hS rfl c4 rfl ?_
 intro H4 w5 b6 hS
 have Z2 := Z2.trans b6
 have a6 := a6.mono b6
 have a7 := a7.mono b6
 refine Z0 ?_
 by_cases b4 : r4 = true
 rw [if_pos b4] at a4
 refine Y0 (Eq.trans rfl (congrArg Value.bool b4)) (Z3 (Z1 (Z4 (vI a3) rfl rfl (Z5 (vI a3) rfl rfl (Z0 ?_)))))
 refine Y9 (vs := [vI a3]) Tryz.func263 ⟨rfl, trivial⟩ ?_
 have hz := Option.some.inj a4
 subst hz
 dsimp only [Ex.elim] at b1
 have hz := Option.some.inj b1
 subst hz
 exact ⟨_, _, rfl, Z2, hS, rfl⟩
 rw [if_neg b4] at a4
 refine Z9 (Eq.trans rfl (congrArg Value.bool (W2 b4))) (Y6 (X3 (Z1 ?_)))
 refine W8 (a3 + 1) (by exact a5) rfl (IntWalk.i64_in _ (by omega)) rfl (Z4 (vI (a3 + 1)) rfl rfl (Z0 ?_))
 exact b8 _ _ ⟨(a3 + 1), H4, a4, Z2, hS, (by omega), a6, a7, a8, a9, b0, rfl⟩
 rw [if_neg b2] at a4
 refine Z9 (bF b2 rfl) ?_
 refine W4 rfl ?_
 have hz := Option.some.inj a4
 subst hz
 exact b9 _ _ ⟨b7, rfl, Z2, hS⟩
 exact ⟨0, H, a4, Z2, hS, (by omega), a6, a7, rfl, rfl, rfl, rfl⟩
 rintro c7 c8 ⟨c9, rfl, Z2, hS⟩
 dsimp only [Ex.elim] at b1
 refine Z3 (Z1 (Z5 (vI (-1)) rfl rfl (Z0 ?_)))
 refine Y9 (vs := [vI (-1)]) Tryz.func263 ⟨rfl, trivial⟩ ?_
 have hz := Option.some.inj b1
 subst hz
 exact ⟨_, _, rfl, Z2, hS, rfl⟩
def Zn8 (K : Nat) (a0 : (List Int)) (a1 : Int) : Option Int := (if (IntKind.i64.wrap (a1 - (a0.length : Int))) < 0 then some (-1) else some (IntKind.i64.wrap (a1 - (a0.length : Int))))
theorem Yj5 {K : Nat} {a0 : (List Int)} {a1 : Int} {r : Int} (q0 : Zn8 K a0 a1 = some r) {H : FH} {w : World} {L : OL} {s0 : Value} (a4 : Y2 (Y8 .i64) H s0 a0) (hS : St H w L) :
 Calls Tryz.prog 77 #[s0, vI a1] w (S3 (fun v G => (R.int .i64).p G v r) H L) := by
 have Z2 := Sub.refl H
 refine X2 Tryz.func77 rfl Tryz.ntmps77 rfl ?_
 unfold Zn8 at q0
 refine Z3 (Z1 (Z5 (vI 0) rfl rfl (Z0 (Z3 (Z1 (Z4 (vI a1) rfl rfl (Z4 (s0) rfl rfl ?_)))))))
 have a5 := a4.bound
 refine W6 S9 rfl a4 rfl ?_
 refine Zs6 (IntKind.i64.wrap (a1 - (a0.length : Int))) rfl rfl rfl rfl (Z5 (vI (IntKind.i64.wrap (a1 - (a0.length : Int)))) rfl rfl (Z0 (Z3 (Z3 (Z1 (Z4 (vI (IntKind.i64.wrap (a1 - (a0.length : Int)))) rfl rfl ?_))))))
 refine U2 (k := .i64) (a := (IntKind.i64.wrap (a1 - (a0.length : Int)))) (b := 0) rfl rfl rfl (Z0 ?_)
 by_cases a3 : (IntKind.i64.wrap (a1 - (a0.length : Int))) < 0
 rw [if_pos a3] at q0
 refine Y0 (bT a3 rfl) (Z3 (Z1 (Z5 (vI (-1)) rfl rfl (Z0 ?_))))
 refine Y9 (vs := [vI (-1)]) Tryz.func77 ⟨rfl, trivial⟩ ?_
 have hz := Option.some.inj q0
 subst hz
 exact ⟨_, _, rfl, Z2, hS, rfl⟩
 rw [if_neg a3] at q0
 refine Z9 (bF a3 rfl) (Y6 (Z3 (Z1 (Z4 (vI (IntKind.i64.wrap (a1 - (a0.length : Int)))) rfl rfl (Z5 (vI (IntKind.i64.wrap (a1 - (a0.length : Int)))) rfl rfl (Z0 ?_))))))
 refine Y9 (vs := [vI (IntKind.i64.wrap (a1 - (a0.length : Int)))]) Tryz.func77 ⟨rfl, trivial⟩ ?_
 have hz := Option.some.inj q0
 subst hz
 exact ⟨_, _, rfl, Z2, hS, rfl⟩
def Zi5 (K : Nat) (a0 : Int) (a1 : Int) (a2 : Int) : Option Bool := (if a1 ≤ a0 then some (decide (a0 ≤ a2)) else some false)
theorem Zz4 {K : Nat} {a0 : Int} {a1 : Int} {a2 : Int} {r : Bool} (q0 : Zi5 K a0 a1 a2 = some r) {H : FH} {w : World} {L : OL} (hS : St H w L) :
 Calls Tryz.prog 97 #[vI a0, vI a1, vI a2] w (S3 (fun v G => R.bool.p G v r) H L) := by
 have Z2 := Sub.refl H
 refine X2 Tryz.func97 rfl Tryz.ntmps97 rfl ?_
 unfold Zi5 at q0
 refine Z3 (Z1 (Z5 (Value.bool false) rfl rfl (Z0 (Z3 (Z1 (Z4 (vI a0) rfl rfl (Z4 (vI a1) rfl rfl ?_)))))))
 refine Yb1 (k := .i64) (a := a0) (b := a1) rfl rfl rfl (Z4 (Value.bool (decide (a1 ≤ a0))) rfl rfl ?_)
 by_cases a3 : a1 ≤ a0
 rw [if_pos a3] at q0
 refine Y1 rfl rfl (bT a3 rfl) (Z4 (vI a0) rfl rfl ?_)
 refine Y1 rfl rfl (bT a3 rfl) (Z4 (vI a2) rfl rfl ?_)
 refine Y1 rfl rfl (bT a3 rfl) ?_
 refine Yb3 (k := .i64) (a := a0) (b := a2) rfl rfl rfl ?_
 refine V2 (t := true) (Value.bool (decide (a0 ≤ a2))) (bT a3 rfl) ((if_pos rfl).trans rfl) rfl (Z5 (Value.bool (decide (a0 ≤ a2))) rfl rfl (Z0 ?_))
 refine Y9 (vs := [Value.bool (decide (a0 ≤ a2))]) Tryz.func97 ⟨rfl, trivial⟩ ?_
 have hz := Option.some.inj q0
 subst hz
 exact ⟨_, _, rfl, Z2, hS, rfl⟩
 rw [if_neg a3] at q0
 refine Z8 rfl rfl (bF a3 rfl) rfl rfl rfl (Z8 rfl rfl (bF a3 rfl) rfl rfl rfl (Z8 rfl rfl (bF a3 rfl) rfl rfl rfl ?_))
 refine V2 (t := false) (Value.bool false) (bF a3 rfl) ((if_neg Bool.false_ne_true).trans rfl) rfl (Z5 (Value.bool false) rfl rfl (Z0 ?_))
 refine Y9 (vs := [Value.bool false]) Tryz.func97 ⟨rfl, trivial⟩ ?_
 have hz := Option.some.inj q0
 subst hz
 exact ⟨_, _, rfl, Z2, hS, rfl⟩
def B6 (K : Nat) (a0 : Int) : Option Int := some (((IntKind.i64.wrap (((a0).tmod 10007) + 10007))).tmod 10007)
theorem Za7 {K : Nat} {a0 : Int} {r : Int} (q0 : B6 K a0 = some r) {H : FH} {w : World} {L : OL} (hS : St H w L) :
 Calls Tryz.prog 217 #[vI a0] w (S3 (fun v G => (R.int .i64).p G v r) H L) := by
 have Z2 := Sub.refl H
 refine X2 Tryz.func217 rfl Tryz.ntmps217 rfl ?_
 unfold B6 at q0
 refine Z3 (Z1 (Z5 (vI 0) rfl rfl (Z0 (Z3 (Z1 (Z4 (vI a0) rfl rfl ?_))))))
 refine Zk3 ((a0).tmod 10007) rfl rfl (by decide) rfl rfl ?_
 refine W8 (IntKind.i64.wrap (((a0).tmod 10007) + 10007)) rfl rfl rfl rfl ?_
 refine Zk3 (((IntKind.i64.wrap (((a0).tmod 10007) + 10007))).tmod 10007) rfl rfl (by decide) rfl rfl (Z5 (vI (((IntKind.i64.wrap (((a0).tmod 10007) + 10007))).tmod 10007)) rfl rfl (Z0 ?_))
 refine Y9 (vs := [vI (((IntKind.i64.wrap (((a0).tmod 10007) + 10007))).tmod 10007)]) Tryz.func217 ⟨rfl, trivial⟩ ?_
 have hz := Option.some.inj q0
 subst hz
 exact ⟨_, _, rfl, Z2, hS, rfl⟩
end Go.Proofs.YtfodlhkoafhplaaGreat
