/- Walks of functions: each computes its pure function, if that gives a value. -/
import Derived.Test.YtfodlhkoafhplaaGreatVTy
import Derived.Test.YtfodlhkoafhplaaGreatVF18
import Derived.Test.YtfodlhkoafhplaaGreatVF12
import Derived.Test.YtfodlhkoafhplaaGreatVF19
import Derived.Test.YtfodlhkoafhplaaGreatVF20
namespace Go.Proofs.YtfodlhkoafhplaaGreat
open Go
set_option linter.unusedSimpArgs false
set_option linter.unusedVariables false
set_option maxRecDepth 100000
set_option maxHeartbeats 8000000
def Ze1 (K : Nat) (a0 : ((List Int) × (List MpT))) : Option (((List Int) × (List MpT)) × (List MpT) × Int) := ((Zj1 K (a0.1, a0.2) ([] : (List MpT))).bind fun a6 => (if a6 = 0 then ((Zi0 K (a0.1, a0.2)).bind fun a1 => (if a1.2.2 = true then ((Zd0 K (a0.1, a0.2) a1.1 a1.2.1).bind fun a7 => some ((a7.1.1, a7.1.2), a7.2.1, a7.2.2)) else some ((([] : List Int), ([] : List MpT)), ([] : List MpT), 4))) else some ((([] : List Int), ([] : List MpT)), ([] : List MpT), a6)))
theorem Zx6 {K : Nat} {a0 : ((List Int) × (List MpT))} {r : (((List Int) × (List MpT)) × (List MpT) × Int)} (q0 : Ze1 K a0 = some r) {H : FH} {w : World} {L : OL} {s0 : Value} {s1 : Value} (a3 : Y1 (Y6 .i64) H s0 a0.1) (a4 : Y1 (X6 yT) H s1 a0.2) (hM : ∀ b, H.memo b = none) (hS : St H w L) :
 Calls Tryz.prog 71 #[vA ([s0] ++ [s1])] w (T2 (fun v G => ∃ v0 v1 v2, v = .tuple #[v0, v1, v2] ∧ Yf6 H G v0 v1 r.1 r.2.1 ∧ v2 = .int .i64 r.2.2) H L) := by
 have Z2 := Sub.refl H
 refine X3 Tryz.func71 rfl Tryz.ntmps71 rfl ?_
 unfold Ze1 at q0
 refine Z3 (Z0 ?_)
 refine S4 (v := vA ([s0] ++ [s1])) ([s0] ++ [s1]).toArray rfl rfl hS rfl ?_
 intro b1 w2 hS
 refine V1 (z := vA ([vN] ++ [vN])) ([vN] ++ [vN]).toArray Zz0.zero rfl hS rfl ?_
 intro b4 w5 hS
 refine Z5 (vN) rfl rfl (Z5 (vI 0) rfl rfl (Z1 (Z3 (Z3 (Z0 ?_)))))
 have hS := hS.perm U1
 obtain ⟨H7, c3, hS, a5⟩ := St.freezeBox hS
 have Z2 := Z2.trans c3
 have a3 := a3.mono c3
 have a4 := a4.mono c3
 obtain ⟨a6, c6, q0⟩ := bind_some q0
 refine Y9 Tryz.call85 (U7 rfl rfl) rfl (Yl7 c6 ⟨_, _, _, _, _, rfl, a5, ⟨_, _, rfl, ⟨_, rfl, a3⟩, ⟨_, rfl, a4⟩⟩, (Zc9 ([s0] ++ [s1]) 2)⟩ Y1.nil hS) ?_
 rintro d6 d7 ⟨_, d8, rfl, a9, hS, rfl⟩
 refine ⟨_, rfl, ?_⟩
 have Z2 := Z2.trans a9
 have a3 := a3.mono a9
 have a4 := a4.mono a9
 have a5 := a9.1 _ _ a5
 refine Z5 (vI a6) rfl rfl (Z1 (Z3 (Z0 (Z4 (vI a6) rfl rfl ?_))))
 refine J2 (k := .i64) (a := a6) (b := 0) rfl rfl rfl (Z1 ?_)
 by_cases b0 : a6 = 0
 rw [if_pos b0] at q0
 refine Z8 (bN b0 rfl) (Y7 (Z3 (Z0 ?_)))
 obtain ⟨a1, c7, q0⟩ := bind_some q0
 refine Y9 Tryz.call159 (R0 rfl) rfl (Yk4 c7 ⟨_, _, _, _, _, rfl, a5, ⟨_, _, rfl, ⟨_, rfl, a3⟩, ⟨_, rfl, a4⟩⟩, (Zc9 ([s0] ++ [s1]) 2)⟩ hS) ?_
 rintro d9 e0 ⟨_, a8, rfl, b2, hS, ⟨d1, d2, d3, rfl, rfl, rfl, rfl⟩⟩
 refine ⟨_, rfl, ?_⟩
 have Z2 := Z2.trans b2
 have a3 := a3.mono b2
 have a4 := a4.mono b2
 have a5 := b2.1 _ _ a5
 refine Z4 (Value.tuple #[vI a1.1, vI a1.2.1, Value.bool a1.2.2]) rfl rfl (W9 (vI a1.1) rfl rfl rfl (W9 (vI a1.2.1) rfl rfl rfl (W9 (Value.bool a1.2.2) rfl rfl rfl (Z5 (vI a1.1) rfl rfl (Z5 (vI a1.2.1) rfl rfl (Z5 (Value.bool a1.2.2) rfl rfl (Z1 (Z3 (Z3 (Z0 (Z4 (Value.bool a1.2.2) rfl rfl (M4 (b := a1.2.2) rfl rfl (Z1 ?_)))))))))))))
 by_cases b3 : a1.2.2 = true
 rw [if_pos b3] at q0
 refine Z8 (Eq.trans rfl (congrArg (fun b => Value.bool (!b)) b3)) (Y7 (Z3 (Z0 (Z4 (vI a1.1) rfl rfl (Z4 (vI a1.2.1) rfl rfl ?_)))))
 obtain ⟨a7, c8, q0⟩ := bind_some q0
 have hS := hS.noM
 have Z2 := Sub.nomT hM Z2
 have a3 : Y1 (Y6 .i64) a8.noM s0 a0.1 := a3
 have a4 : Y1 (X6 yT) a8.noM s1 a0.2 := a4
 have a5 : a8.noM b1 = some (cA ([s0] ++ [s1]) 29) := a5
 have a5 : a8.noM b1 = some (cA ([s0] ++ [s1]) 29) := a5
 have a3 : Y1 (Y6 .i64) a8.noM s0 a0.1 := a3
 have a4 : Y1 (X6 yT) a8.noM s1 a0.2 := a4
 have c0 := Z2
 refine Y9 Tryz.call160 (I6 rfl rfl rfl) rfl (Yd7 c8 ⟨_, _, _, _, _, rfl, a5, ⟨_, _, rfl, ⟨_, rfl, a3⟩, ⟨_, rfl, a4⟩⟩, (Zc9 ([s0] ++ [s1]) 2)⟩ (fun _ => rfl) hS) ?_
 rintro e1 e2 ⟨_, e3, rfl, c9, hS, d4, b7, _, rfl, ⟨d0, c5, c1, c2, c4⟩, rfl⟩
 obtain ⟨b5, b6, rfl, b8, b9⟩ := id c4.old
 have b8 := Y1.old b8
 have b9 := Y1.old b9
 have d5 := Y1.old (RdN.old (RdN.mono c2 c1))
 refine ⟨_, rfl, ?_⟩
 have Z2 := Z2.trans c9
 refine W9 (vA ([b5] ++ [b6])) rfl rfl rfl (W9 (b7) rfl rfl rfl (W9 (vI a7.2.2) rfl rfl rfl ?_))
 refine W0 (v := vA ([b5] ++ [b6])) (vs := ([b5] ++ [b6]).toArray) (cs := ([vN] ++ [vN]).toArray) Q9 rfl rfl rfl hS rfl (L9 (T8 b8.isOne) (T8 b9.isOne)) rfl ?_
 intro e4 hS
 refine Z5 (b7) rfl rfl (Z5 (vI a7.2.2) rfl rfl (Z1 ?_))
 refine X0 (vs := [vA ([b5] ++ [b6]), b7, vI a7.2.2]) Tryz.func71 ⟨⟨_, rfl, U5 Q9 (hS.get mL) rfl⟩, rfl, rfl, trivial⟩ ?_
 have hz := Option.some.inj q0
 subst hz
 exact ⟨_, _, rfl, Z2, (St.dropA hS), ⟨_, _, _, rfl, ⟨d0, c0.trans c5, c1, RdN.anti c2 c0, c4⟩, rfl⟩⟩
 rw [if_neg b3] at q0
 refine Y0 (Eq.trans rfl (congrArg (fun b => Value.bool (!b)) (W1 b3))) (Z3 (Z0 ?_))
 refine Q1 (vA ([vN] ++ [vN])) Yo6 rfl ?_
 refine W0 (v := vA ([vN] ++ [vN])) (vs := ([vN] ++ [vN]).toArray) (cs := ([vN] ++ [vN]).toArray) Q9 rfl rfl rfl hS rfl (L9 (T8 rfl) (T8 rfl)) rfl ?_
 intro e5 hS
 refine Z5 (vN) rfl rfl (Z5 (vI 4) rfl rfl (Z1 ?_))
 refine X0 (vs := [vA ([vN] ++ [vN]), vN, vI 4]) Tryz.func71 ⟨⟨_, rfl, U5 Q9 (hS.get mL) rfl⟩, rfl, rfl, trivial⟩ ?_
 have hz := Option.some.inj q0
 subst hz
 exact ⟨_, _, rfl, Z2, (St.dropA hS), ⟨_, _, _, rfl, Yf6.zero Z2, rfl⟩⟩
 rw [if_neg b0] at q0
 refine Y0 (bO b0 rfl) (Z3 (Z0 ?_))
 refine Q1 (vA ([vN] ++ [vN])) Yo6 rfl (Z4 (vI a6) rfl rfl ?_)
 refine W0 (v := vA ([vN] ++ [vN])) (vs := ([vN] ++ [vN]).toArray) (cs := ([vN] ++ [vN]).toArray) Q9 rfl rfl rfl hS rfl (L9 (T8 rfl) (T8 rfl)) rfl ?_
 intro e6 hS
 refine Z5 (vN) rfl rfl (Z5 (vI a6) rfl rfl (Z1 ?_))
 refine X0 (vs := [vA ([vN] ++ [vN]), vN, vI a6]) Tryz.func71 ⟨⟨_, rfl, U5 Q9 (hS.get mL) rfl⟩, rfl, rfl, trivial⟩ ?_
 have hz := Option.some.inj q0
 subst hz
 exact ⟨_, _, rfl, Z2, (St.dropA hS), ⟨_, _, _, rfl, Yf6.zero Z2, rfl⟩⟩
end Go.Proofs.YtfodlhkoafhplaaGreat
