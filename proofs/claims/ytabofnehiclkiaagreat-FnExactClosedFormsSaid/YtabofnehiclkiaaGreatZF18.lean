/- Walks of functions: each computes its pure function, if that gives a value. -/
import Derived.Test.YtabofnehiclkiaaGreatZF16
import Derived.Test.YtabofnehiclkiaaGreatZF17
namespace Go.Proofs.YtabofnehiclkiaaGreat
open Go Go.Proofs.Tryz
set_option linter.unusedSimpArgs false
set_option linter.unusedVariables false
set_option maxRecDepth 100000
set_option maxHeartbeats 8000000
variable {K : Nat} {H : FH} {w : World} {L : OL} {s0 s1 s2 s3 s4 s5 s6 : Value}
def rbL (K : Nat) : List Int → List (List Int) → Option (List Int)
 | row, [] => some row
 | row, r :: rs => (Zu4 K r).bind fun l => if 0 ≤ l ∧ l < row.length ∧ r.length ≤ row.length then rbL K (tkN row r (rd row l) r.length) rs else none
def Zj1 (K : Nat) (row : List Int) (rows : List (List Int)) : Option (List Int) := if row.length ≤ 1099511627776 then rbL K row rows else none
theorem Xt0 {K : Nat} {a0 : List Int} {a1 : List (List Int)} {r : List Int} (q0 : Zj1 K a0 a1 = some r) {H : FH} {w : World} {L : OL} {s0 s1 : Value} (hs0 : Y3 (Y5 .i64) H s0 a0) (hs1 : Y3 (X2 (Y5 .i64)) H s1 a1) (hS : St H w L) :
 Calls prog 155 #[s0, s1] w (Yf9 (Y5 .i64) 2 r H L) := by
 unfold Zj1 at q0
 by_cases hlen : a0.length ≤ 1099511627776
 case neg => rw [if_neg hlen] at q0; cases q0
 rw [if_pos hlen] at q0
 refine X0 func155 rfl ntmps155 rfl ?_
 repeat refine Z1 ?_
 refine Z0 (Z5 (vN) rfl rfl (Z2 ?_))
 repeat refine Z1 ?_
 refine Z0 (Z3 s0 rfl rfl ?_)
 refine U9 call183 (R3 rfl) rfl (Xo5 (K := K) (Xs6 hlen) hs0 hS) ?_
 rintro e2 w2 ⟨u2, H2, C2, rfl, Z4, hS, ho⟩
 refine ⟨_, rfl, ?_⟩
 have hs1 := hs1.mono Z4
 refine Z5 u2 rfl rfl (Z2 ?_)
 repeat refine Z1 ?_
 refine Z0 (Z3 s1 rfl rfl ?_)
 have hb1 := hs1.bound
 refine X9 T2 rfl hs1 rfl (Z3 (vI 0) rfl rfl (Z2 (Y8 ?_)))
 refine W0 (id := 0) (fun k f w => ∃ (m : Nat) (H1 : FH) (row : List Int) (C : OL), m ≤ a1.length ∧ a1.length < m + k ∧ rbL K row (a1.drop m) = some r ∧ Sub H H1 ∧ St H1 w (C ++ L) ∧ X8 (Y5 .i64) 2 H1 u2 row C ∧ Y3 (X2 (Y5 .i64)) H1 s1 a1 ∧ tv f 0 = u2 ∧ tv f 9 = s1 ∧ tv f 10 = vI (a1.length : Int) ∧ tv f 11 = vI (m : Int))
  (fun f w => ∃ (H1 : FH) (C : OL), Sub H H1 ∧ St H1 w (C ++ L) ∧ X8 (Y5 .i64) 2 H1 u2 r C ∧ tv f 0 = u2) rfl ?_ ?_ (a1.length + 1) ?_ ?_
 rintro f w ⟨m, H1, row, C, h1, h2, _⟩; omega
 rintro k f w ih hx ⟨m, H1, row, C, h1, h2, heq, Z4, hS, ho, hs1, t0, t9, t10, t11⟩
 repeat refine Z1 ?_
 refine Z0 ?_
 refine W8 (k := .i64) (a := m) (b := a1.length) (by exact t11) (by exact t10) rfl (Z2 ?_)
 repeat refine Z1 ?_
 by_cases hm : (m : Int) < (a1.length : Int)
 have hm' : m < a1.length := by omega
 rw [show a1.drop m = a1[m] :: a1.drop (m + 1) from (List.getElem_cons_drop ..).symm, rbL] at heq
 obtain ⟨l, hl, heq⟩ := bind_some heq
 by_cases hg : 0 ≤ l ∧ l < row.length ∧ a1[m].length ≤ row.length
 case neg => rw [if_neg hg] at heq; cases heq
 rw [if_pos hg] at heq
 obtain ⟨g1, g2, g3⟩ := hg
 refine Z8 (bT hm rfl) (Y6 ?_)
 repeat refine Z1 ?_
 refine Y8 ?_
 repeat refine Z1 ?_
 refine Z0 ?_
 obtain ⟨b, o, cs, E, _, hp, hb, ⟨u, rfl, hu⟩, hc⟩ := hs1.elem (i := (m : Int)) (by omega) hm
 refine X5 T2 rfl (by exact t9) hp (by exact t11) (by omega) hm rfl ?_
 refine Y0 u P4 rfl (hS.froz _ _ hb) (hc 0 (show 0 < 1 by decide)) rfl (Z5 u rfl rfl (Z2 (Z0 ?_)))
 rw [Zu2 hm', Q8 hm'] at hu
 refine Z3 u2 (by exact t0) rfl (Z3 u rfl rfl (Z3 u2 (by exact t0) rfl (Z3 u rfl rfl ?_)))
 refine X3 call159 (R3 rfl) rfl (Yo4 hl hu hS) ?_
 rintro _ G w1 hsG hS rfl
 have ho := ho.mono hsG
 have hu := hu.mono hsG
 obtain ⟨b1, c1, hv1⟩ := ho.some g1 g2
 refine P3 U5 (Eq.trans rfl hv1) rfl g1 g2 rfl ?_
 refine Xn4 (u := vI (rd row l)) rfl ty2 hv1 ho hS rfl g1 g2 (fun _ h => h) rfl ?_
 refine U9 call194 (D8 rfl rfl rfl) rfl (Yz7 ho (Rb.ofRd hu) g3 hS) ?_
 rintro e wi ⟨Gi, Ci, rfl, hsi, hS, ho⟩
 refine ⟨_, rfl, Z2 ?_⟩
 refine X1 (Z0 ?_)
 refine W2 ((m : Int) + 1) (by exact t11) rfl (IntWalk.i64_in _ (by omega)) rfl (Z3 (vI ((m : Int) + 1)) rfl rfl (Z2 ?_))
 exact ih _ _ ⟨m + 1, Gi, _, Ci, by omega, by omega, heq, (Z4.trans hsG).trans hsi, hS, ho, (hs1.mono hsG).mono hsi, t0, t9, t10, by show vI ((m : Int) + 1) = vI ((m + 1 : Nat) : Int); rw [Int.natCast_add]; rfl⟩
 refine Z7 (bF hm rfl) (X7 rfl ?_)
 have e : m = a1.length := by omega
 subst e
 rw [List.drop_length, rbL] at heq
 obtain rfl := oi heq
 exact hx _ _ ⟨H1, C, Z4, hS, ho, t0⟩
 exact ⟨0, H2, a0, C2, by omega, by omega, q0, Z4, hS, ho, hs1, rfl, rfl, rfl, rfl⟩
 rintro f w ⟨H1, C, Z4, hS, ho, t0⟩
 repeat refine Z1 ?_
 refine Z0 (Z3 u2 (by exact t0) rfl (Z5 u2 rfl rfl (Z2 ?_)))
 exact Y9 (vs := [u2]) func155 ⟨rfl, trivial⟩ ⟨_, _, _, rfl, Z4, hS, ho⟩
theorem Yv3 {a0 : List Int} {a1 : List (List Int)} {r : List Int} (q0 : Zj1 K a0 a1 = some r) {s0 s1 : Value} (hs0 : Y3 (Y5 .i64) H s0 a0) (hs1 : Y3 (X2 (Y5 .i64)) H s1 a1) (hS : St H w L) :
 Calls prog 155 #[s0, s1] w (U7 (fun v G => (R.sl (Y5 .i64)).p G v r) H L) := by
 refine (Xt0 q0 hs0 hs1 hS).mono ?_
 rintro e w' ⟨v, H', C, rfl, Z4, hS, ho⟩
 obtain ⟨H2, s2, hS2, hrd⟩ := ho.freeze hS
 exact ⟨_, _, rfl, Z4.trans s2, hS2, hrd⟩
def Zi1 (K : Nat) (a0 : ((List Int) × (List MpT))) (a1 : (List MpT)) : Option Int := ((Zn0 K (a0.1, a0.2)).bind fun r8 => (if r8 = true then ((T5 K a1 (fun x => Zr8 K x (a0.1, a0.2))).bind fun a8 => ((Zq0 K a8 1).bind fun b4 => some b4)) else ((Zq0 K true 1).bind fun b5 => some b5)))
theorem Yn5 {a0 : ((List Int) × (List MpT))} {a1 : (List MpT)} {r : Int} (q0 : Zi1 K a0 a1 = some r) (c7 : Zs8 (Yh5 (X2 (Y5 .i64)) (X2 (X2 yT))) H s0 a0) (a9 : Y3 (X2 yT) H s1 a1) (hS : St H w L) :
 Calls prog 79 #[s0, s1] w (U7 (fun v G => (R.int .i64).p G v r) H L) := by
 obtain ⟨b0, b2, _, _, _, rfl, a6, ⟨_, _, rfl, ⟨b7, rfl, a3⟩, ⟨b8, rfl, a4⟩⟩, b9⟩ := c7
 have Z4 := Sub.refl H
 refine X0 func79 rfl ntmps79 rfl ?_
 unfold Zi1 at q0
 refine Z1 (Z0 ?_)
 refine T7 (v := vQ b0 b2) ([vQ b0 b2]).toArray rfl rfl hS rfl ?_
 intro b1 w2 hS
 refine Z5 (vI 0) rfl rfl (Z2 (Z1 ?_))
 obtain ⟨_, b3, hS, b6⟩ := St.freezeBox hS
 have Z4 := Z4.trans b3
 have a9 := a9.mono b3
 have a3 := a3.mono b3
 have a4 := a4.mono b3
 have a6 := b3.1 _ _ a6
 refine Z0 ?_
 refine Y0 (vQ b0 b2) Vg7 rfl (hS.froz _ _ b6) ((Yn9 ([vQ b0 b2]) 1) 0 (show 0 < 1 by decide)) rfl (V4 rfl rfl ?_)
 refine V0 ([b7] ++ [b8]) Ya1 rfl (hS.froz _ _ a6) rfl b9 rfl ?_
 obtain ⟨r8, c8, q0⟩ := bind_some q0
 refine X3 call54 (R3 rfl) rfl (Yt2 c8 a3 a4 hS) ?_
 rintro _ _ _ a7 hS rfl
 have Z4 := Z4.trans a7
 have a9 := a9.mono a7
 have a3 := a3.mono a7
 have a4 := a4.mono a7
 have b6 := a7.1 _ _ b6
 have a6 := a7.1 _ _ a6
 refine N8 (b := r8) rfl rfl (Z3 (vB (!r8)) rfl rfl ?_)
 obtain ⟨a5, q0⟩ | ⟨a5, q0⟩ := ic q0
 refine Y1 rfl rfl (nT a5) (Z3 (s1) rfl rfl ?_)
 refine Y1 rfl rfl (nT a5) ?_
 refine Ym6 rfl rfl ?_
 obtain ⟨a8, c1, q0⟩ := bind_some q0
 refine Y1 rfl rfl (nT a5) ?_
 refine X3 call123 (V2 rfl rfl) rfl (Zc4 c1 a9 ⟨149, #[vP b1], rfl, call149, fun H2 w2 L2 v x b c9 d0 hv d1 => by obtain ⟨_, rfl, ⟨d2, rfl, c0⟩⟩ := hv; exact Yj3 d1 c0 (Zs8.mono c9 ⟨_, _, _, _, _, rfl, b6, ⟨_, rfl, ⟨_, _, _, _, _, rfl, a6, ⟨_, _, rfl, ⟨_, rfl, a3⟩, ⟨_, rfl, a4⟩⟩, b9⟩⟩, (Yn9 ([vQ b0 b2]) 1)⟩) d0⟩ hS) ?_
 rintro _ _ _ c2 hS rfl
 have Z4 := Z4.trans c2
 refine W6 (t := false) (vB a8) (nT a5) ((if_neg Bool.false_ne_true).trans rfl) rfl (Z5 (vB a8) rfl rfl (Z2 (Z1 (Z0 (Z3 (vB a8) rfl rfl ?_)))))
 obtain ⟨b4, c3, q0⟩ := bind_some q0
 refine X3 call80 (V2 rfl rfl) rfl (Ye3 c3  hS) ?_
 rintro _ _ _ c4 hS rfl
 have Z4 := Z4.trans c4
 refine Z5 (vI b4) rfl rfl (Z2 ?_)
 refine Y9 (vs := [vI b4]) func79 ⟨rfl, trivial⟩ ?_
 obtain rfl := oi q0
 exact ⟨_, _, rfl, Z4, hS, rfl⟩
 refine Z9 rfl rfl (nT (W1 a5)) rfl rfl rfl (Z9 rfl rfl (nT (W1 a5)) rfl rfl rfl (Z9 rfl rfl (nT (W1 a5)) rfl rfl rfl ?_))
 refine W6 (t := true) (vB true) (nT (W1 a5)) ((if_pos rfl).trans rfl) rfl (Z5 (vB true) rfl rfl (Z2 (Z1 (Z0 (Z3 (vB true) rfl rfl ?_)))))
 obtain ⟨b5, c5, q0⟩ := bind_some q0
 refine X3 call80 (V2 rfl rfl) rfl (Ye3 c5  hS) ?_
 rintro _ _ _ c6 hS rfl
 have Z4 := Z4.trans c6
 refine Z5 (vI b5) rfl rfl (Z2 ?_)
 refine Y9 (vs := [vI b5]) func79 ⟨rfl, trivial⟩ ?_
 obtain rfl := oi q0
 exact ⟨_, _, rfl, Z4, hS, rfl⟩
end Go.Proofs.YtabofnehiclkiaaGreat
