/- Walks of functions: each computes its pure function, if that gives a value. -/
import Derived.Test.YtabofnehiclkiaaGreatXTy
import Derived.Test.YtabofnehiclkiaaGreatXF19
import Derived.Test.YtabofnehiclkiaaGreatXF21
import Derived.Test.YtabofnehiclkiaaGreatXF22
namespace Go.Proofs.YtabofnehiclkiaaGreat
open Go
set_option linter.unusedSimpArgs false
set_option linter.unusedVariables false
set_option maxRecDepth 100000
set_option maxHeartbeats 8000000
variable {K : Nat} {H : FH} {w : World} {L : OL} {s0 s1 s2 s3 s4 s5 s6 : Value}
def Zf8 (K : Nat) (a0 : ((List Int) × (List MpT))) : Option (((List Int) × (List MpT)) × (List MpT) × Int) := ((Zm5 K (a0.1, a0.2) ([] : (List MpT))).bind fun a4 => (if a4 = 0 then ((Zg9 K (a0.1, a0.2)).bind fun a5 => some ((a5.1.1, a5.1.2), a5.2.1, a5.2.2)) else some ((([] : List Int), ([] : List MpT)), ([] : List MpT), a4)))
theorem Ya3 {a0 : ((List Int) × (List MpT))} {r : (((List Int) × (List MpT)) × (List MpT) × Int)} (q0 : Zf8 K a0 = some r) (a1 : Z9 (Y6 .i64) H s0 a0.1) (a3 : Z9 (Y9 yT) H s1 a0.2) (hM : ∀ b, H.memo b = none) (hS : St H w L) :
 Calls Tryz.prog 40 #[vA ([s0] ++ [s1])] w (T2 (fun v G => ∃ v0 v1 v2, v = .tuple #[v0, v1, v2] ∧ Yb3 H G v0 v1 r.1 r.2.1 ∧ v2 = .int .i64 r.2.2) H L) := by
 have Z3 := Sub.refl H
 refine X3 Tryz.func40 rfl Tryz.ntmps40 rfl ?_
 unfold Zf8 at q0
 refine Z2 (Z0 ?_)
 refine S3 (v := vA ([s0] ++ [s1])) ([s0] ++ [s1]).toArray rfl rfl hS rfl ?_
 intro b1 _ hS
 refine W6 (z := vA ([vN] ++ [vN])) ([vN] ++ [vN]).toArray Zr4.zero rfl hS rfl ?_
 intro _ _ hS
 refine Z5 (vN) rfl rfl (Z5 (vI 0) rfl rfl (Z1 (Z2 (Z2 (Z0 ?_)))))
 have hS := hS.perm V1
 obtain ⟨_, b9, hS, a6⟩ := St.freezeBox hS
 have Z3 := Z3.trans b9
 have a1 := a1.mono b9
 have a3 := a3.mono b9
 obtain ⟨a4, c2, q0⟩ := bind_some q0
 refine X6 Tryz.call79 (U9 rfl rfl) rfl (Yq2 c2 ⟨_, _, _, _, _, rfl, a6, ⟨_, _, rfl, ⟨_, rfl, a1⟩, ⟨_, rfl, a3⟩⟩, (Zc3 ([s0] ++ [s1]) 2)⟩ Z9.nil hS) ?_
 rintro _ a7 _ a8 hS rfl
 have Z3 := Z3.trans a8
 have a1 := a1.mono a8
 have a3 := a3.mono a8
 have a6 := a8.1 _ _ a6
 refine Z5 (vI a4) rfl rfl (Z1 (Z2 (Z0 (Z4 (vI a4) rfl rfl ?_))))
 refine L7 (k := .i64) (a := a4) (b := 0) rfl rfl rfl (Z1 ?_)
 obtain ⟨b2, q0⟩ | ⟨b2, q0⟩ := ic q0
 refine Z8 (bN b2 rfl) (Y8 (Z2 (Z0 ?_)))
 obtain ⟨a5, c3, q0⟩ := bind_some q0
 have hS := hS.noM
 have Z3 := Sub.nomT hM Z3
 have a1 : Z9 (Y6 .i64) a7.noM s0 a0.1 := a1
 have a3 : Z9 (Y9 yT) a7.noM s1 a0.2 := a3
 have a6 : a7.noM b1 = some (cA ([s0] ++ [s1]) 31) := a6
 have a6 : a7.noM b1 = some (cA ([s0] ++ [s1]) 31) := a6
 have a1 : Z9 (Y6 .i64) a7.noM s0 a0.1 := a1
 have a3 : Z9 (Y9 yT) a7.noM s1 a0.2 := a3
 have b6 := Z3
 refine T5 Tryz.call105 (S2 rfl) rfl (Yj2 c3 ⟨_, _, _, _, _, rfl, a6, ⟨_, _, rfl, ⟨_, rfl, a1⟩, ⟨_, rfl, a3⟩⟩, (Zc3 ([s0] ++ [s1]) 2)⟩ (fun _ => rfl) hS) ?_
 rintro _ _ ⟨_, _, rfl, c4, hS, _, b3, _, rfl, ⟨c5, c1, b7, b8, c0⟩, rfl⟩
 obtain ⟨a9, b0, rfl, b4, b5⟩ := id c0.old
 have b4 := Z9.old b4
 have b5 := Z9.old b5
 have c6 := Z9.old (RdN.old (RdN.mono b8 b7))
 refine ⟨_, rfl, ?_⟩
 have Z3 := Z3.trans c4
 refine W4 (vA ([a9] ++ [b0])) rfl rfl rfl (W4 (b3) rfl rfl rfl (W4 (vI a5.2.2) rfl rfl rfl ?_))
 refine X5 (v := vA ([a9] ++ [b0])) (vs := ([a9] ++ [b0]).toArray) (cs := ([vN] ++ [vN]).toArray) S5 rfl rfl rfl hS rfl (R8 (U0 b4.isOne) (U0 b5.isOne)) rfl ?_
 intro _ hS
 refine Z5 (b3) rfl rfl (Z5 (vI a5.2.2) rfl rfl (Z1 ?_))
 refine X0 (vs := [vA ([a9] ++ [b0]), b3, vI a5.2.2]) Tryz.func40 ⟨⟨_, rfl, V6 S5 (hS.get mL) rfl⟩, rfl, rfl, trivial⟩ ?_
 obtain rfl := oi q0
 exact ⟨_, _, rfl, Z3, (St.dropA hS), ⟨_, _, _, rfl, ⟨c5, b6.trans c1, b7, RdN.anti b8 b6, c0⟩, rfl⟩⟩
 refine Y0 (bO b2 rfl) (Z2 (Z0 ?_))
 refine R6 (vA ([vN] ++ [vN])) Yl4 rfl (Z4 (vI a4) rfl rfl ?_)
 refine X5 (v := vA ([vN] ++ [vN])) (vs := ([vN] ++ [vN]).toArray) (cs := ([vN] ++ [vN]).toArray) S5 rfl rfl rfl hS rfl (R8 (U0 rfl) (U0 rfl)) rfl ?_
 intro _ hS
 refine Z5 (vN) rfl rfl (Z5 (vI a4) rfl rfl (Z1 ?_))
 refine X0 (vs := [vA ([vN] ++ [vN]), vN, vI a4]) Tryz.func40 ⟨⟨_, rfl, V6 S5 (hS.get mL) rfl⟩, rfl, rfl, trivial⟩ ?_
 obtain rfl := oi q0
 exact ⟨_, _, rfl, Z3, (St.dropA hS), ⟨_, _, _, rfl, Yb3.zero Z3, rfl⟩⟩
end Go.Proofs.YtabofnehiclkiaaGreat
