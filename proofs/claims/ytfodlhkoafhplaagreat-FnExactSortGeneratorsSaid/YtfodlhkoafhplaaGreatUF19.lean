/- Walks of functions: each computes its pure function, if that gives a value. -/
import Derived.Test.YtfodlhkoafhplaaGreatUTy
import Derived.Test.YtfodlhkoafhplaaGreatUF18
import Derived.Test.YtfodlhkoafhplaaGreatUF2
import Derived.Test.YtfodlhkoafhplaaGreatUF11
namespace Go.Proofs.YtfodlhkoafhplaaGreat
open Go
set_option linter.unusedSimpArgs false
set_option linter.unusedVariables false
set_option maxRecDepth 100000
set_option maxHeartbeats 8000000
def N0 (K : Nat) (a0 : ((List Int) × (List MpT))) : Nat → Int → (List Int) → Option (Ex (((List Int) × (List MpT)) × (List Int) × Int) ((List Int)))
 | 0, _, _ => none
 | k + 1, a1, a4 => (if a1 < (a0.1.length : Int) then (if a4.length + ([a1]).length ≤ 1099511627776 then N0 K a0 k (a1 + 1) (a4 ++ [a1]) else none) else some (.go a4))
def D8 (K : Nat) (a0 : ((List Int) × (List MpT))) : Option (((List Int) × (List MpT)) × (List Int) × Int) := ((Ze7 K (a0.1, a0.2) ([] : (List MpT))).bind fun c3 => (if c3 = 0 then ((N0 K a0 K 0 ([] : List Int)).bind (Ex.elim (fun r => some r) (fun s => (fun (b7 : (List Int)) => (if okJ (a0.1, a0.2) b7 = true then ((B1 K (a0.1, a0.2) (stb (a0.1, a0.2).1)).bind fun a8 => (if a8.2 = 0 then some ((a8.1.1, a8.1.2), (stb (a0.1, a0.2).1), 0) else some ((([] : List Int), ([] : List MpT)), ([] : List Int), a8.2))) else none)) s))) else some ((([] : List Int), ([] : List MpT)), ([] : List Int), c3)))
theorem Zo9 {K : Nat} {a0 : ((List Int) × (List MpT))} {r : (((List Int) × (List MpT)) × (List Int) × Int)} (q0 : D8 K a0 = some r) {H : FH} {w : World} {L : OL} {s0 : Value} {s1 : Value} (a9 : Y2 (Y8 .i64) H s0 a0.1) (b5 : Y2 (W0 yT) H s1 a0.2) (hS : St H w L) :
 Calls Tryz.prog 69 #[vA ([s0] ++ [s1])] w (S3 (fun v G => ∃ v0 v1 v2, v = .tuple #[v0, v1, v2] ∧ Xa6 H G v0 v1 r.1 r.2.1 ∧ v2 = .int .i64 r.2.2) H L) := by
 have Z2 := Sub.refl H
 refine X2 Tryz.func69 rfl Tryz.ntmps69 rfl ?_
 unfold D8 at q0
 refine Z3 (Z1 ?_)
 refine S5 (v := vA ([s0] ++ [s1])) ([s0] ++ [s1]).toArray rfl rfl hS rfl ?_
 intro b1 w2 hS
 refine V0 (z := vA ([vN] ++ [vN])) ([vN] ++ [vN]).toArray Zq3.zero rfl hS rfl ?_
 intro b4 w5 hS
 refine Z5 (vN) rfl rfl (Z5 (vI 0) rfl rfl (Z0 (Z3 (Z3 (Z1 ?_)))))
 have hS := hS.perm U1
 obtain ⟨H7, e1, hS, b8⟩ := St.freezeBox hS
 have Z2 := Z2.trans e1
 have a9 := a9.mono e1
 have b5 := b5.mono e1
 obtain ⟨c3, e9, q0⟩ := bind_some q0
 refine X0 Tryz.call85 (T0 rfl rfl) rfl (Yd1 e9 ⟨_, _, _, _, _, rfl, b8, ⟨_, _, rfl, ⟨_, rfl, a9⟩, ⟨_, rfl, b5⟩⟩, (Zq1 ([s0] ++ [s1]) 2)⟩ Y2.nil hS) ?_
 rintro h5 h6 ⟨_, g2, rfl, d2, hS, rfl⟩
 refine ⟨_, rfl, ?_⟩
 have Z2 := Z2.trans d2
 have a9 := a9.mono d2
 have b5 := b5.mono d2
 have b8 := d2.1 _ _ b8
 refine Z5 (vI c3) rfl rfl (Z0 (Z3 (Z1 (Z4 (vI c3) rfl rfl ?_))))
 refine K9 (k := .i64) (a := c3) (b := 0) rfl rfl rfl (Z0 ?_)
 by_cases d3 : c3 = 0
 rw [if_pos d3] at q0
 refine Z9 (bN d3 rfl) (Y6 (Z3 (Z1 ?_)))
 refine Ys9 (τ := (Y8 .i64)) S9 ze2 rfl hS rfl ?_
 intro e7 h7 g3 f0 hS
 refine Z5 (e7) rfl rfl (Z0 (Z3 (Z3 (Z1 (Y3 R5 rfl rfl ?_)))))
 refine Y4 (s0) J7 rfl (hS.froz _ _ b8) ((Zq1 ([s0] ++ [s1]) 2) 0 (show 0 < 2 by decide)) rfl ?_
 have g8 := a9.bound
 refine W6 S9 rfl a9 rfl (Z4 (vI 0) rfl rfl (Z0 (Y7 ?_)))
 obtain ⟨e2, b3, c0⟩ := bind_some q0
 refine W7 (id := 0) (fun k f w => ∃ (a1 : Int) (a4 : (List Int)) (H1 : FH) (b2 : OL) (a7 : Value), N0 K a0 k a1 a4 = some e2 ∧ Sub H H1 ∧ St H1 w (b2 ++ ([(b4, cA ([vN] ++ [vN]) 29)] ++ L)) ∧ 0 ≤ a1 ∧ V1 (Y8 .i64) 2 H1 a7 a4 b2 ∧ Y2 (Y8 .i64) H1 s0 a0.1 ∧ Y2 (W0 yT) H1 s1 a0.2 ∧ H1 b1 = some (cA ([s0] ++ [s1]) 29) ∧ ev f (.tmp 1) = vP b1 ∧ ev f (.tmp 2) = vP b4 ∧ ev f (.tmp 6) = a7 ∧ ev f (.tmp 18) = vI (a0.1.length : Int) ∧ ev f (.tmp 19) = vI a1) (fun f w => ∃ (b7 : (List Int)) (H1 : FH) (c1 : OL) (a3 : Value), e2 = .go b7 ∧ Sub H H1 ∧ St H1 w (c1 ++ ([(b4, cA ([vN] ++ [vN]) 29)] ++ L)) ∧ V1 (Y8 .i64) 2 H1 a3 b7 c1 ∧ Y2 (Y8 .i64) H1 s0 a0.1 ∧ Y2 (W0 yT) H1 s1 a0.2 ∧ H1 b1 = some (cA ([s0] ++ [s1]) 29) ∧ ev f (.tmp 1) = vP b1 ∧ ev f (.tmp 2) = vP b4 ∧ ev f (.tmp 6) = a3) rfl ?_ ?_ K ?_ ?_
 rintro f w ⟨a1, a4, H1, b2, a7, b3, _⟩
 rw [N0] at b3; cases b3
 rintro k g9 h0 g4 g5 ⟨a1, a4, f1, b2, a7, b3, Z2, hS, g1, b6, a9, b5, b8, c8, c9, d0, c6, c4⟩
 rw [N0] at b3
 refine Z3 (Z1 ?_)
 refine U2 (k := .i64) (a := a1) (b := (a0.1.length : Int)) (by exact c4) (by exact c6) rfl (Z0 (Z3 ?_))
 by_cases d4 : a1 < (a0.1.length : Int)
 rw [if_pos d4] at b3
 refine Y0 (bT d4 rfl) (Y6 (Z3 (Y7 (Z3 (Z1 (Z4 (vI a1) (by exact c4) rfl (Z5 (vI a1) rfl rfl (Z0 (Z1 (Z4 (a7) (by exact d0) rfl (Z4 (vI a1) rfl rfl ?_)))))))))))
 refine Zk6 (τ := (Y8 .i64)) S9 ze2 rfl [vI a1] [a1] rfl rfl (Zc3 rfl) (Zq5 rfl) (by decide) (by decide) hS rfl ?_
 intro h8 g6 h9 c7 hS f2
 have Z2 := Z2.trans c7
 have a9 := a9.mono c7
 have b5 := b5.mono c7
 have b6 := b6.mono c7
 have b8 := c7.1 _ _ b8
 obtain ⟨f3, b3⟩ := gd b3
 refine Za8 (τ := (Y8 .i64)) Xa3 rfl rfl rfl b6 hS f2 f3 rfl ?_
 intro e8 i0 g7 f4 hS
 refine Z5 (e8) rfl rfl (Z0 (X3 (Z1 ?_)))
 refine W8 (a1 + 1) (by exact c4) rfl (IntWalk.i64_in _ (by omega)) rfl (Z4 (vI (a1 + 1)) rfl rfl (Z0 ?_))
 exact g4 _ _ ⟨(a1 + 1), (a4 ++ [a1]), g6, g7, e8, b3, Z2, hS, (by omega), f4, a9, b5, b8, c8, c9, rfl, c6, rfl⟩
 rw [if_neg d4] at b3
 refine Z9 (bF d4 rfl) ?_
 refine W4 rfl ?_
 have hz := Option.some.inj b3
 subst hz
 exact g5 _ _ ⟨a4, f1, b2, a7, rfl, Z2, hS, b6, a9, b5, b8, c8, c9, d0⟩
 exact ⟨0, ([] : List Int), g2, g3, e7, b3, Z2, hS, (by omega), f0, a9, b5, b8, rfl, rfl, rfl, rfl, rfl⟩
 rintro h1 h2 ⟨b7, h3, c1, a3, rfl, Z2, hS, d5, a9, b5, b8, d1, c2, c5⟩
 dsimp only [Ex.elim] at c0
 refine Z3 (Z1 (Z4 (a3) (by exact c5) rfl ?_))
 refine Yc0 (by exact d1) rfl ?_
 obtain ⟨f5, c0⟩ := gd c0
 refine X0 (vs := #[a3, Value.func (.func 155) #[] #[vP b1]]) Tryz.call154 (T0 rfl rfl) rfl (Xv9 f5 d5 ⟨_, _, _, _, _, rfl, b8, ⟨_, _, rfl, ⟨_, rfl, a9⟩, ⟨_, rfl, b5⟩⟩, (Zq1 ([s0] ++ [s1]) 2)⟩ hS) ?_
 rintro i1 i2 ⟨rfl, i3, hS, f6⟩
 refine ⟨_, rfl, ?_⟩
 refine Z0 (Z3 (Z1 (Z4 (a3) (by exact c5) rfl ?_)))
 obtain ⟨e3, d6, hS, d7⟩ := V1.freezeF (τ := (Y8 .i64)) (H0 := H) f6 hS Z2
 have f7 := Y2.old d7
 have d7 : RdF (Y8 .i64) H e3 a3 (stb (a0.1, a0.2).1) := d7
 have Z2 := Z2.trans d6
 have a9 := a9.mono d6
 have b5 := b5.mono d6
 have b8 := d6.1 _ _ b8
 obtain ⟨a8, f8, c0⟩ := bind_some c0
 have d8 := Z2
 have hFL := d7
 refine X0 Tryz.call156 (T0 (by exact d1) rfl) rfl (Zw3 f8 ⟨_, _, _, _, _, rfl, b8, ⟨_, _, rfl, ⟨_, rfl, a9⟩, ⟨_, rfl, b5⟩⟩, (Zq1 ([s0] ++ [s1]) 2)⟩ f7 hS) ?_
 rintro i4 i5 ⟨_, e0, rfl, e4, hS, ⟨_, _, rfl, ⟨a5, a6, rfl, b0, b9⟩, rfl⟩⟩
 refine ⟨_, rfl, ?_⟩
 have Z2 := Z2.trans e4
 have e5 : Zi4 e3 e0 (.agg #[a5, a6]) (a8.1.1, a8.1.2) := ⟨_, _, rfl, b0, b9⟩
 have e6 := e4
 have h4 : RdF (Y8 .i64) H e0 a5 a8.1.1 := Y2.mono (Zf2 d8) b0
 have b0 := Y2.old b0
 have f9 : RdN (W0 yT) H e0 a6 a8.1.2 (Zc1 [a5] ++ ([] : List Nat)) := RdN.anti b9 d8
 have g0 : RdF (W0 yT) H e0 a6 a8.1.2 := RdN.old f9
 have b9 := Y2.old g0
 refine Z4 (Value.tuple #[vA ([a5] ++ [a6]), vI a8.2]) rfl rfl (V5 (vA ([a5] ++ [a6])) rfl rfl rfl (V5 (vI a8.2) rfl rfl rfl ?_))
 refine V0 (z := vA ([vN] ++ [vN])) ([vN] ++ [vN]).toArray Zq3.zero rfl hS rfl ?_
 intro i6 i7 hS
 refine X8 (v := vA ([a5] ++ [a6])) (vs := ([a5] ++ [a6]).toArray) (cs := ([vN] ++ [vN]).toArray) Q9 rfl rfl rfl hS rfl (L8 (S2 b0.isOne) (S2 b9.isOne)) rfl ?_
 intro i8 hS
 refine Z5 (vI a8.2) rfl rfl (Z0 (Z3 (Z3 (Z1 (Z4 (vI a8.2) rfl rfl ?_)))))
 refine K9 (k := .i64) (a := a8.2) (b := 0) rfl rfl rfl (Z0 ?_)
 by_cases d9 : a8.2 = 0
 rw [if_pos d9] at c0
 refine Z9 (bN d9 rfl) (Y6 (Z3 (Z1 ?_)))
 refine W1 Q9 rfl (hS.get mL) rfl rfl (Z4 (a3) (by exact c5) rfl ?_)
 have hS := hS.perm U1
 refine X8 (v := vA ([a5] ++ [a6])) (vs := ([a5] ++ [a6]).toArray) (cs := ([vN] ++ [vN]).toArray) Q9 (by exact c2) rfl rfl hS rfl (L8 (S2 b0.isOne) (S2 b9.isOne)) rfl ?_
 intro i9 hS
 have hS := hS.perm U1.symm
 refine Z5 (a3) rfl rfl (Z5 (vI 0) rfl rfl (Z0 ?_))
 refine Y9 (vs := [vA ([a5] ++ [a6]), a3, vI 0]) Tryz.func69 ⟨⟨_, (by exact c2), U6 Q9 (hS.get (mR mL)) rfl⟩, rfl, rfl, trivial⟩ ?_
 have hz := Option.some.inj c0
 subst hz
 exact ⟨_, _, rfl, Z2, (St.dropA (St.dropA hS)), ⟨_, _, _, rfl, ⟨e3, d8, e6, hFL, e5⟩, rfl⟩⟩
 rw [if_neg d9] at c0
 refine Y0 (bO d9 rfl) (Z3 (Z1 ?_))
 refine Q6 (vA ([vN] ++ [vN])) Yp6 rfl (Z4 (vI a8.2) rfl rfl ?_)
 have hS := hS.perm U1
 refine X8 (v := vA ([vN] ++ [vN])) (vs := ([vN] ++ [vN]).toArray) (cs := ([vN] ++ [vN]).toArray) Q9 (by exact c2) rfl rfl hS rfl (L8 (S2 rfl) (S2 rfl)) rfl ?_
 intro j0 hS
 have hS := hS.perm U1.symm
 refine Z5 (vN) rfl rfl (Z5 (vI a8.2) rfl rfl (Z0 ?_))
 refine Y9 (vs := [vA ([vN] ++ [vN]), vN, vI a8.2]) Tryz.func69 ⟨⟨_, (by exact c2), U6 Q9 (hS.get (mR mL)) rfl⟩, rfl, rfl, trivial⟩ ?_
 have hz := Option.some.inj c0
 subst hz
 exact ⟨_, _, rfl, Z2, (St.dropA (St.dropA hS)), ⟨_, _, _, rfl, Xa6.zero Z2, rfl⟩⟩
 rw [if_neg d3] at q0
 refine Y0 (bO d3 rfl) (Z3 (Z1 ?_))
 refine Q6 (vA ([vN] ++ [vN])) Yp6 rfl (Z4 (vI c3) rfl rfl ?_)
 refine X8 (v := vA ([vN] ++ [vN])) (vs := ([vN] ++ [vN]).toArray) (cs := ([vN] ++ [vN]).toArray) Q9 rfl rfl rfl hS rfl (L8 (S2 rfl) (S2 rfl)) rfl ?_
 intro j1 hS
 refine Z5 (vN) rfl rfl (Z5 (vI c3) rfl rfl (Z0 ?_))
 refine Y9 (vs := [vA ([vN] ++ [vN]), vN, vI c3]) Tryz.func69 ⟨⟨_, rfl, U6 Q9 (hS.get mL) rfl⟩, rfl, rfl, trivial⟩ ?_
 have hz := Option.some.inj q0
 subst hz
 exact ⟨_, _, rfl, Z2, (St.dropA hS), ⟨_, _, _, rfl, Xa6.zero Z2, rfl⟩⟩
end Go.Proofs.YtfodlhkoafhplaaGreat
