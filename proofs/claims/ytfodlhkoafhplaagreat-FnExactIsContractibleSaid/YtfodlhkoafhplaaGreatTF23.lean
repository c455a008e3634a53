/- Walks of functions: each computes its pure function, if that gives a value. -/
import Derived.Test.YtfodlhkoafhplaaGreatTTy
import Derived.Test.YtfodlhkoafhplaaGreatTF20
import Derived.Test.YtfodlhkoafhplaaGreatTF22
namespace Go.Proofs.YtfodlhkoafhplaaGreat
open Go
set_option linter.unusedSimpArgs false
set_option linter.unusedVariables false
set_option maxRecDepth 100000
set_option maxHeartbeats 8000000
def Zg5 (K : Nat) (a0 : ((List Int) × (List MpT))) : Option (Bool × Int) := ((Zk5 K (a0.1, a0.2) ([] : (List MpT))).bind fun r8 => (if r8 = 0 then ((Zf1 K (a0.1, a0.2)).bind fun a1 => (if a1.2.2 = 0 then some (decide ((a1.1.1.length : Int) = 0), a1.2.2) else some (false, a1.2.2))) else some (false, r8)))
theorem Yj0 {K : Nat} {a0 : ((List Int) × (List MpT))} {r : (Bool × Int)} (q0 : Zg5 K a0 = some r) {H : FH} {w : World} {L : OL} {s0 : Value} {s1 : Value} (a7 : Z9 (Y6 .i64) H s0 a0.1) (a8 : Z9 (Y9 yT) H s1 a0.2) (hM : ∀ b, H.memo b = none) (hS : St H w L) :
 Calls Tryz.prog 74 #[vA ([s0] ++ [s1])] w (T3 (fun v G => (R.t2 R.bool (R.int .i64)).p G v r) H L) := by
 have Z2 := Sub.refl H
 refine X6 Tryz.func74 rfl Tryz.ntmps74 rfl ?_
 unfold Zg5 at q0
 refine Z3 (Z1 ?_)
 refine S4 (v := vA ([s0] ++ [s1])) ([s0] ++ [s1]).toArray rfl rfl hS rfl ?_
 intro b1 w2 hS
 refine Z5 (Value.bool false) rfl rfl (Z5 (vI 0) rfl rfl (Z0 (Z3 (Z3 (Z1 ?_)))))
 obtain ⟨H4, b6, hS, b0⟩ := St.freezeBox hS
 have Z2 := Z2.trans b6
 have a7 := a7.mono b6
 have a8 := a8.mono b6
 obtain ⟨r8, b9, q0⟩ := bind_some q0
 refine X0 Tryz.call85 (S5 rfl rfl) rfl (Ym9 b9 ⟨_, _, _, _, _, rfl, b0, ⟨_, _, rfl, ⟨_, rfl, a7⟩, ⟨_, rfl, a8⟩⟩, (Za9 ([s0] ++ [s1]) 2)⟩ Z9.nil hS) ?_
 rintro e8 w9 ⟨_, H8, rfl, b5, hS, rfl⟩
 refine ⟨_, rfl, ?_⟩
 have Z2 := Z2.trans b5
 have a7 := a7.mono b5
 have a8 := a8.mono b5
 have b0 := b5.1 _ _ b0
 refine Z5 (vI r8) rfl rfl (Z0 (Z3 (Z1 (Z4 (vI r8) rfl rfl ?_))))
 refine G4 (k := .i64) (a := r8) (b := 0) rfl rfl rfl (Z0 ?_)
 by_cases b2 : r8 = 0
 rw [if_pos b2] at q0
 refine Z8 (bN b2 rfl) (Y8 (Z3 (Z1 ?_)))
 obtain ⟨a1, b7, q0⟩ := bind_some q0
 have hS := hS.noM
 have Z2 := Sub.nomT hM Z2
 have a7 : Z9 (Y6 .i64) H8.noM s0 a0.1 := a7
 have a8 : Z9 (Y9 yT) H8.noM s1 a0.2 := a8
 have b0 : H8.noM b1 = some (cA ([s0] ++ [s1]) 29) := b0
 have b0 : H8.noM b1 = some (cA ([s0] ++ [s1]) 29) := b0
 have a7 : Z9 (Y6 .i64) H8.noM s0 a0.1 := a7
 have a8 : Z9 (Y9 yT) H8.noM s1 a0.2 := a8
 refine X0 Tryz.call162 (S1 rfl) rfl (Yg5 b7 ⟨_, _, _, _, _, rfl, b0, ⟨_, _, rfl, ⟨_, rfl, a7⟩, ⟨_, rfl, a8⟩⟩, (Za9 ([s0] ++ [s1]) 2)⟩ (fun _ => rfl) hS) ?_
 rintro c3 c4 ⟨_, c5, rfl, b8, hS, ⟨c0, b3, c1, rfl, ⟨_, rfl, ⟨_, _, rfl, ⟨a5, rfl, a4⟩, ⟨a6, rfl, a9⟩⟩⟩, b4, rfl⟩⟩
 refine ⟨_, rfl, ?_⟩
 have a4 := Z9.old a4
 have a9 := Z9.old a9
 have b4 := Z9.old b4
 have Z2 := Z2.trans b8
 refine Z4 (Value.tuple #[vA ([a5] ++ [a6]), b3, vI a1.2.2]) rfl rfl (W9 (vA ([a5] ++ [a6])) rfl rfl rfl (W9 (b3) rfl rfl rfl (W9 (vI a1.2.2) rfl rfl rfl ?_)))
 refine V0 (z := vA ([vN] ++ [vN])) ([vN] ++ [vN]).toArray Zu2.zero rfl hS rfl ?_
 intro c6 c7 hS
 refine W0 (v := vA ([a5] ++ [a6])) (vs := ([a5] ++ [a6]).toArray) (cs := ([vN] ++ [vN]).toArray) Q8 rfl rfl rfl hS rfl (P4 (U9 a4.isOne) (U9 a9.isOne)) rfl ?_
 intro c8 hS
 refine Z5 (b3) rfl rfl (Z5 (vI a1.2.2) rfl rfl (Z0 (Z3 (Z1 (Z4 (vI a1.2.2) rfl rfl ?_)))))
 refine E4 (k := .i64) (a := a1.2.2) (b := 0) rfl rfl rfl (Z4 (Value.bool (decide (a1.2.2 = 0))) rfl rfl ?_)
 by_cases a3 : a1.2.2 = 0
 rw [if_pos a3] at q0
 refine Y4 rfl rfl (bT a3 rfl) (Y2 R2 rfl rfl ?_)
 refine Y4 rfl rfl (bT a3 rfl) ?_
 refine Y3 (a5) M0 rfl (hS.get mL) rfl rfl ?_
 have c2 := a4.bound
 refine Y4 rfl rfl (bT a3 rfl) ?_
 refine W6 Q1 rfl a4 rfl ?_
 refine Y4 rfl rfl (bT a3 rfl) ?_
 refine E4 (k := .i64) (a := (a1.1.1.length : Int)) (b := 0) rfl rfl rfl ?_
 refine V9 (t := true) (Value.bool (decide ((a1.1.1.length : Int) = 0))) (bT a3 rfl) ((if_pos rfl).trans rfl) rfl (Z4 (vI a1.2.2) rfl rfl (Z5 (Value.bool (decide ((a1.1.1.length : Int) = 0))) rfl rfl (Z5 (vI a1.2.2) rfl rfl (Z0 ?_))))
 refine X3 (vs := [Value.bool (decide ((a1.1.1.length : Int) = 0)), vI a1.2.2]) Tryz.func74 ⟨rfl, rfl, trivial⟩ ?_
 have hz := Option.some.inj q0
 subst hz
 exact ⟨_, _, rfl, Z2, (St.dropA hS), ⟨_, _, rfl, rfl, rfl⟩⟩
 rw [if_neg a3] at q0
 refine Y1 rfl rfl (bF a3 rfl) rfl rfl rfl (Y1 rfl rfl (bF a3 rfl) rfl rfl rfl (Y1 rfl rfl (bF a3 rfl) rfl rfl rfl (Y1 rfl rfl (bF a3 rfl) rfl rfl rfl ?_)))
 refine V9 (t := false) (Value.bool false) (bF a3 rfl) ((if_neg Bool.false_ne_true).trans rfl) rfl (Z4 (vI a1.2.2) rfl rfl (Z5 (Value.bool false) rfl rfl (Z5 (vI a1.2.2) rfl rfl (Z0 ?_))))
 refine X3 (vs := [Value.bool false, vI a1.2.2]) Tryz.func74 ⟨rfl, rfl, trivial⟩ ?_
 have hz := Option.some.inj q0
 subst hz
 exact ⟨_, _, rfl, Z2, (St.dropA hS), ⟨_, _, rfl, rfl, rfl⟩⟩
 rw [if_neg b2] at q0
 refine Y0 (bO b2 rfl) (Z3 (Z1 (Z4 (vI r8) rfl rfl (Z5 (Value.bool false) rfl rfl (Z5 (vI r8) rfl rfl (Z0 ?_))))))
 refine X3 (vs := [Value.bool false, vI r8]) Tryz.func74 ⟨rfl, rfl, trivial⟩ ?_
 have hz := Option.some.inj q0
 subst hz
 exact ⟨_, _, rfl, Z2, hS, ⟨_, _, rfl, rfl, rfl⟩⟩
end Go.Proofs.YtfodlhkoafhplaaGreat
