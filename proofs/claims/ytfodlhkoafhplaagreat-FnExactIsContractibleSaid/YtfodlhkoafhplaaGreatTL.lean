/- The walk of the law. -/
import Derived.Test.YtfodlhkoafhplaaGreatTF20
import Derived.Test.YtfodlhkoafhplaaGreatTF23
import Derived.Test.YtfodlhkoafhplaaGreatTF12
import Derived.Test.YtfodlhkoafhplaaGreatTF15
import Derived.Test.YtfodlhkoafhplaaGreatTF16
import Derived.Test.YtfodlhkoafhplaaGreatTX
import Derived.Test.YtfodlhkoafhplaaGreatTTy
namespace Go.Proofs.YtfodlhkoafhplaaGreat
open Go
set_option linter.unusedSimpArgs false
set_option linter.unusedVariables false
set_option maxRecDepth 100000
set_option maxHeartbeats 8000000
def G3 (K : Nat) (a0 : ((List Int) × (List MpT))) (a8 : ((List Int) × (List MpT))) (a7 : Bool) : Option Bool := (if a7 = true then some false else ((Zf8 K (a0.1, a0.2)).bind fun c4 => ((Zn4 K (a8.1, a8.2) (c4.1, c4.2)).bind fun b4 => (if b4 = true then some true else some false))))
def Zd9 (K : Nat) (a0 : ((List Int) × (List MpT))) : Option Bool := ((Zo2 K (a0.1, a0.2) 1048576).bind fun r4 => (if r4 < 0 then some true else ((Zf8 K (a0.1, a0.2)).bind fun r7 => ((Zg0 K (r7.1, r7.2)).bind fun r9 => ((Zf8 K (a0.1, a0.2)).bind fun a8 => ((Zg5 K (a8.1, a8.2)).bind fun a6 => (if (a6.1) = (r9.1) then G3 K a0 a8 (!decide (a6.2 = r9.2)) else G3 K a0 a8 true)))))))
theorem Zz4 {K : Nat} {a0 : ((List Int) × (List MpT))} {r : Bool} (q0 : Zd9 K a0 = some r) {H : FH} {w : World} {L : OL} {s0 : Value} {s1 : Value} (a1 : Z9 (Y6 .i64) H s0 a0.1) (a3 : Z9 (Y9 yT) H s1 a0.2) (hM : ∀ b, H.memo b = none) (hL : ∀ b, b < H.lim → H b ≠ none) (hS : St H w L) :
 Calls Tryz.prog 13 #[vA ([s0] ++ [s1])] w (T3 (fun v G => R.bool.p G v r) H L) := by
 have Z2 := Sub.refl H
 refine X6 Tryz.func13 rfl Tryz.ntmps13 rfl ?_
 unfold Zd9 at q0
 refine Z3 (Z1 ?_)
 refine S4 (v := vA ([s0] ++ [s1])) ([s0] ++ [s1]).toArray rfl rfl hS rfl ?_
 intro b1 w2 hS
 refine Z5 (Value.bool false) rfl rfl (Z0 (Z3 (Z1 (Z5 (vI 1048576) rfl rfl (Z0 (Z3 (Z1 ?_)))))))
 refine W1 Xy1 rfl (hS.get mL) rfl rfl (Z4 (vI 1048576) rfl rfl ?_)
 obtain ⟨r4, f8, q0⟩ := bind_some q0
 refine X0 Tryz.call15 (S5 rfl rfl) rfl (Ys1 f8 a1 a3 hS) ?_
 rintro e4 w5 ⟨_, H4, rfl, c6, hS, rfl⟩
 refine ⟨_, rfl, ?_⟩
 have Z2 := Z2.trans c6
 have a1 := a1.mono c6
 have a3 := a3.mono c6
 refine Z5 (vI r4) rfl rfl (Z0 (Z3 (Z3 (Z1 (Z4 (vI r4) rfl rfl ?_)))))
 refine U7 (k := .i64) (a := r4) (b := 0) rfl rfl rfl (Z0 ?_)
 by_cases c5 : r4 < 0
 rw [if_pos c5] at q0
 refine Y0 (bT c5 rfl) (Z3 (Z1 (Z5 (Value.bool true) rfl rfl (Z0 ?_))))
 refine X3 (vs := [Value.bool true]) Tryz.func13 ⟨rfl, trivial⟩ ?_
 have hz := Option.some.inj q0
 subst hz
 exact ⟨_, _, rfl, Z2, (St.dropA hS), rfl⟩
 rw [if_neg c5] at q0
 refine Z8 (bF c5 rfl) (Y8 (Z3 (Z1 ?_)))
 refine W1 Xy1 rfl (hS.get mL) rfl rfl ?_
 have g8 := Z2
 obtain ⟨r7, f9, q0⟩ := bind_some q0
 refine X0 Tryz.call17 (S1 rfl) rfl (Zv3 f9 a1 a3 hS) ?_
 rintro e7 w8 ⟨i8, H7, rfl, c7, hS, g0⟩
 obtain ⟨d7, d8, rfl, b5, b6⟩ := id g0.old
 have b5 := Z9.old b5
 have b6 := Z9.old b6
 refine ⟨_, rfl, ?_⟩
 have Z2 := Z2.trans c7
 have a1 := a1.mono c7
 have a3 := a3.mono c7
 have i9 := Sub.refl H7
 obtain ⟨r9, g1, q0⟩ := bind_some q0
 have hS := hS.noM
 have Z2 := Sub.nomT hM Z2
 have a1 : Z9 (Y6 .i64) H7.noM s0 a0.1 := a1
 have a3 : Z9 (Y9 yT) H7.noM s1 a0.2 := a3
 have b5 : Z9 (Y6 .i64) H7.noM d7 r7.1 := b5
 have b6 : Z9 (Y9 yT) H7.noM d8 r7.2 := b6
 have b5 : Z9 (Y6 .i64) H7.noM d7 r7.1 := b5
 have b6 : Z9 (Y9 yT) H7.noM d8 r7.2 := b6
 refine X0 Tryz.call73 (S1 rfl) rfl (Yh8 g1 b5 b6 (fun _ => rfl) hS) ?_
 rintro e9 j0 ⟨_, H9, rfl, c8, hS, ⟨h5, h6, rfl, rfl, rfl⟩⟩
 refine ⟨_, rfl, ?_⟩
 have Z2 := Z2.trans c8
 have a1 := a1.mono c8
 have a3 := a3.mono c8
 refine Z4 (Value.tuple #[Value.bool r9.1, vI r9.2]) rfl rfl (W9 (Value.bool r9.1) rfl rfl rfl (W9 (vI r9.2) rfl rfl rfl (Z5 (Value.bool r9.1) rfl rfl (Z5 (vI r9.2) rfl rfl (Z0 (Z3 (Z1 ?_)))))))
 refine W1 Xy1 rfl (hS.get mL) rfl rfl ?_
 have g2 := Z2
 obtain ⟨a8, e2, q0⟩ := bind_some q0
 refine X0 Tryz.call17 (S1 rfl) rfl (Zv3 e2 a1 a3 hS) ?_
 rintro j1 j2 ⟨h7, b7, rfl, c2, hS, e3⟩
 obtain ⟨b2, b3, rfl, a4, a5⟩ := id e3.old
 have a4 := Z9.old a4
 have a5 := Z9.old a5
 refine ⟨_, rfl, ?_⟩
 have Z2 := Z2.trans c2
 have a1 := a1.mono c2
 have a3 := a3.mono c2
 have h8 := Sub.refl b7
 refine V0 (z := vA ([vN] ++ [vN])) ([vN] ++ [vN]).toArray Zu2.zero rfl hS rfl ?_
 intro c9 j3 hS
 refine W0 (v := vA ([b2] ++ [b3])) (vs := ([b2] ++ [b3]).toArray) (cs := ([vN] ++ [vN]).toArray) Q8 rfl rfl rfl hS rfl (P4 (U9 a4.isOne) (U9 a5.isOne)) rfl ?_
 intro j4 hS
 refine Z0 (Z3 (Z1 ?_))
 refine W1 Q8 rfl (hS.get mL) rfl rfl ?_
 obtain ⟨a6, e5, q0⟩ := bind_some q0
 have hS := hS.noM
 have Z2 := Sub.nomT hM Z2
 have a4 : Z9 (Y6 .i64) b7.noM b2 a8.1 := a4
 have a5 : Z9 (Y9 yT) b7.noM b3 a8.2 := a5
 have a1 : Z9 (Y6 .i64) b7.noM s0 a0.1 := a1
 have a3 : Z9 (Y9 yT) b7.noM s1 a0.2 := a3
 have a4 : Z9 (Y6 .i64) b7.noM b2 a8.1 := a4
 have a5 : Z9 (Y9 yT) b7.noM b3 a8.2 := a5
 refine X0 Tryz.call74 (S1 rfl) rfl (Yj0 e5 a4 a5 (fun _ => rfl) hS) ?_
 rintro j5 j6 ⟨_, d9, rfl, b8, hS, ⟨g9, h0, rfl, rfl, rfl⟩⟩
 refine ⟨_, rfl, ?_⟩
 have Z2 := Z2.trans b8
 have a4 := a4.mono b8
 have a5 := a5.mono b8
 have a1 := a1.mono b8
 have a3 := a3.mono b8
 refine Z4 (Value.tuple #[Value.bool a6.1, vI a6.2]) rfl rfl (W9 (Value.bool a6.1) rfl rfl rfl (W9 (vI a6.2) rfl rfl rfl (Z5 (Value.bool a6.1) rfl rfl (Z5 (vI a6.2) rfl rfl (Z0 (Z3 (Z3 ?_)))))))
 refine Zc7 (fun f w => ∃ (a7 : Bool) (H1 : FH), G3 K a0 a8 a7 = some r ∧ Sub H H1 ∧ St H1 w ([(c9, cA ([b2] ++ [b3]) 29)] ++ ([(b1, cA ([s0] ++ [s1]) 25)] ++ L)) ∧ Z9 (Y6 .i64) H1 b2 a8.1 ∧ Z9 (Y9 yT) H1 b3 a8.2 ∧ Z9 (Y6 .i64) H1 s0 a0.1 ∧ Z9 (Y9 yT) H1 s1 a0.2 ∧ ev f (.tmp 1) = vP b1 ∧ ev f (.tmp 6) = vP c9 ∧ ev f (.tmp 34) = Value.bool a7) ?_ ?_
 rintro j7 h1 ⟨a7, h2, b0, Z2, hS, a4, a5, a1, a3, d0, d1, b9⟩
 unfold G3 at b0
 by_cases c0 : a7 = true
 rw [if_pos c0] at b0
 refine Y0 (Eq.trans (by exact b9) (congrArg Value.bool c0)) (Z3 (Z1 (Z5 (Value.bool false) rfl rfl (Z0 ?_))))
 refine X3 (vs := [Value.bool false]) Tryz.func13 ⟨rfl, trivial⟩ ?_
 have hz := Option.some.inj b0
 subst hz
 exact ⟨_, _, rfl, Z2, (St.dropA (St.dropA hS)), rfl⟩
 rw [if_neg c0] at b0
 refine Z8 (Eq.trans (by exact b9) (congrArg Value.bool (W5 c0))) (Y8 (Z3 (Z3 ?_)))
 obtain ⟨c4, e6, b0⟩ := bind_some b0
 obtain ⟨b4, e8, b0⟩ := bind_some b0
 refine U0 5 (Q6 [(35, MP.eq (vA ([b2] ++ [b3]))), (36, MP.eq (vA ([s0] ++ [s1]))), (37, MP.rep (R.agg (Zl2 (Y9 (Y6 .i64)) (Y9 (Y9 yT)))) (c4)), (38, MP.eq (Value.bool b4)), (39, MP.eq (Value.bool (!b4)))]) [] mixed rfl rfl rfl hS (Z6 rfl ?_ (Z6 rfl ?_ (Z6 rfl ?_ (Z6 rfl ?_ (Z6 rfl ?_ U8))))) ?_
 intro j8 j9 k0 k1 h9 hS f0 i0 hcq
 refine W1 Q8 (evT (f0 6 rfl) d1) (hS.get (mR mL)) rfl rfl ?_
 exact qn (.refl _) rfl hS rfl
 intro k2 k3 k4 k5 i1 hS f1 i2 hcq
 refine W1 Xy1 (evT (f1 1 rfl) d0) (hS.get (mR (mR mL))) rfl rfl ?_
 exact qn (.refl _) rfl hS rfl
 intro k6 k7 k8 k9 d2 hS i3 f2 hcq
 have a1 := a1.mono d2
 have a3 := a3.mono d2
 refine X0 Tryz.call17 (S1 (eM (f2 1 36 rfl rfl))) rfl (Zv3 e6 a1 a3 hS) ?_
 rintro l0 l1 ⟨g3, l2, rfl, f3, hS, c3⟩
 refine ⟨g3, rfl, ?_⟩
 have c3 := Yh9.rep c3
 exact qn f3 rfl hS c3
 intro l3 l4 l5 l6 d3 hS i4 d4 hcq
 have a4 := a4.mono d3
 have a5 := a5.mono d3
 obtain ⟨l7, g4, ⟨_, rfl, ⟨_, _, rfl, ⟨h3, rfl, d5⟩, ⟨h4, rfl, d6⟩⟩⟩⟩ := gvR (d4 2 37 rfl rfl)
 refine X0 Tryz.call19 (S5 (eM (d4 0 35 rfl rfl)) g4) rfl (Ys4 e8 a4 a5 d5 d6 hS) ?_
 rintro l9 m0 ⟨_, m1, rfl, f4, hS, rfl⟩
 refine ⟨_, rfl, ?_⟩
 exact qn f4 rfl hS rfl
 intro m2 m3 m4 m5 i5 hS i6 f5 hcq
 refine G5 (b := b4) (eM (f5 3 38 rfl rfl)) rfl ?_
 exact qn (.refl _) rfl hS rfl
 intro g5 g6 g7 f6 hS i7 f7 hcq
 have hS : St g7 g6 ([(c9, cA ([b2] ++ [b3]) 29)] ++ ([(b1, cA ([s0] ++ [s1]) 25)] ++ L)) := hS
 have Z2 := Z2.trans f6
 have e0 : ev g5 (.tmp 39) = Value.bool (!b4) := f7 4 39 (by decide) rfl
 refine Z0 ?_
 by_cases c1 : b4 = true
 rw [if_pos c1] at b0
 refine Z8 (Eq.trans (by exact e0) (congrArg (fun b => Value.bool (!b)) c1)) (Y8 (Z3 (Z1 (Z5 (Value.bool true) rfl rfl (Z0 ?_)))))
 refine X3 (vs := [Value.bool true]) Tryz.func13 ⟨rfl, trivial⟩ ?_
 have hz := Option.some.inj b0
 subst hz
 exact ⟨_, _, rfl, Z2, (St.dropA (St.dropA hS)), rfl⟩
 rw [if_neg c1] at b0
 refine Y0 (Eq.trans (by exact e0) (congrArg (fun b => Value.bool (!b)) (W5 c1))) (Z3 (Z1 (Z5 (Value.bool false) rfl rfl (Z0 ?_))))
 refine X3 (vs := [Value.bool false]) Tryz.func13 ⟨rfl, trivial⟩ ?_
 have hz := Option.some.inj b0
 subst hz
 exact ⟨_, _, rfl, Z2, (St.dropA (St.dropA hS)), rfl⟩
 intro e1
 refine Z1 (Z4 (Value.bool a6.1) rfl rfl (Z4 (Value.bool r9.1) rfl rfl ?_))
 refine Wv9 (a := a6.1) (b := r9.1) Tryz.underlying4 rfl rfl rfl (Z4 (Value.bool (!decide ((a6.1) = (r9.1)))) rfl rfl ?_)
 by_cases a9 : (a6.1) = (r9.1)
 rw [if_pos a9] at q0
 refine Y4 rfl rfl (bN a9 rfl) (Z4 (vI a6.2) rfl rfl ?_)
 refine Y4 rfl rfl (bN a9 rfl) (Z4 (vI r9.2) rfl rfl ?_)
 refine Y4 rfl rfl (bN a9 rfl) ?_
 refine G4 (k := .i64) (a := a6.2) (b := r9.2) rfl rfl rfl ?_
 refine V9 (t := false) (Value.bool (!decide (a6.2 = r9.2))) (bN a9 rfl) ((if_neg Bool.false_ne_true).trans rfl) rfl (Z0 ?_)
 exact e1 _ _ ⟨(!decide (a6.2 = r9.2)), d9, q0, Z2, hS, a4, a5, a1, a3, rfl, rfl, rfl⟩
 rw [if_neg a9] at q0
 refine Y1 rfl rfl (bO a9 rfl) rfl rfl rfl (Y1 rfl rfl (bO a9 rfl) rfl rfl rfl (Y1 rfl rfl (bO a9 rfl) rfl rfl rfl ?_))
 refine V9 (t := true) (Value.bool true) (bO a9 rfl) ((if_pos rfl).trans rfl) rfl (Z0 ?_)
 exact e1 _ _ ⟨true, d9, q0, Z2, hS, a4, a5, a1, a3, rfl, rfl, rfl⟩
end Go.Proofs.YtfodlhkoafhplaaGreat
