/- Walks of functions: each computes its pure function, if that gives a value. -/
import Derived.Test.YtabofnehiclkiaaGreatYF19
namespace Go.Proofs.YtabofnehiclkiaaGreat
open Go
set_option linter.unusedSimpArgs false
set_option linter.unusedVariables false
set_option maxRecDepth 100000
set_option maxHeartbeats 8000000
variable {K : Nat} {H : FH} {w : World} {L : OL} {s0 s1 s2 s3 s4 s5 s6 : Value}
def Zg2 (K : Nat) (xs : List (List Int)) : Option (List Int) := if xs.flatten.length ≤ 1099511627776 then some xs.flatten else none
theorem Xm9 (xs : List (List Int)) {m : Nat} (hm : m < xs.length) : (xs.take (m + 1)).flatten = (xs.take m).flatten ++ xs[m] := by
 rw [List.take_add_one, List.getElem?_eq_getElem hm, List.flatten_append]
 exact congrArg _ (by simp)
theorem Xz4 (xs : List (List Int)) (m : Nat) : (xs.take m).flatten.length ≤ xs.flatten.length := by
 conv => rhs; rw [← List.take_append_drop m xs, List.flatten_append, List.length_append]
 omega
theorem Wd9 {K : Nat} {a0 : List (List Int)} {r : List Int} (q0 : Zg2 K a0 = some r) {H : FH} {w : World} {L : OL} {s0 : Value} (hs0 : Y4 (X4 (Y9 .i64)) H s0 a0) (hS : St H w L) :
 Calls Tryz.prog 193 #[s0] w (Yx0 (Y9 .i64) 2 r H L) := by
 unfold Zg2 at q0
 by_cases hlen : a0.flatten.length ≤ 1099511627776
 case neg => rw [if_neg hlen] at q0; cases q0
 rw [if_pos hlen] at q0
 obtain rfl := oi q0
 have hb0 := hs0.bound
 refine X1 Tryz.func193 rfl Tryz.ntmps193 rfl ?_
 repeat refine Z1 ?_
 refine Z0 (Z5 (vN) rfl rfl (Z2 ?_))
 repeat refine Z1 ?_
 refine Z0 (Z5 (vI 0) rfl rfl (Z2 ?_))
 repeat refine Z1 ?_
 refine Z0 (Z3 s0 rfl rfl ?_)
 refine X9 T3 rfl hs0 rfl (Z3 (vI 0) rfl rfl (Z2 (Y8 ?_)))
 refine W1 (id := 0) (fun k f w => ∃ m : Nat, m ≤ a0.length ∧ a0.length < m + k ∧ St H w L ∧ tv f 0 = s0 ∧ tv f 3 = vI ((a0.take m).flatten.length : Int) ∧ tv f 9 = s0 ∧ tv f 10 = vI (a0.length : Int) ∧ tv f 11 = vI (m : Int))
  (fun f w => St H w L ∧ tv f 0 = s0 ∧ tv f 3 = vI (a0.flatten.length : Int)) rfl ?_ ?_ (a0.length + 1) ?_ ?_
 rintro f w ⟨m, h1, h2, _⟩; omega
 rintro k f w ih hx ⟨m, h1, h2, hS, t0, t3, t9, t10, t11⟩
 repeat refine Z1 ?_
 refine Z0 ?_
 refine W9 (k := .i64) (a := m) (b := a0.length) (by exact t11) (by exact t10) rfl (Z2 ?_)
 repeat refine Z1 ?_
 by_cases hm : (m : Int) < (a0.length : Int)
 have hm' : m < a0.length := by omega
 refine Z9 (bT hm rfl) (Y6 ?_)
 repeat refine Z1 ?_
 refine Y8 ?_
 repeat refine Z1 ?_
 refine Z0 ?_
 obtain ⟨b, o, cs, E, _, hp, hb, ⟨u, rfl, hu⟩, hc⟩ := hs0.elem (i := (m : Int)) (by omega) hm
 refine X6 T3 rfl (by exact t9) hp (by exact t11) (by omega) hm rfl ?_
 refine Y1 u P6 rfl (hS.froz _ _ hb) (hc 0 (show 0 < 1 by decide)) rfl (Z5 u rfl rfl (Z2 ?_))
 rw [Zt3 hm', Q7 hm'] at hu
 have hle := Xz4 a0 (m + 1)
 have hst := Xm9 a0 hm'
 have hlst : (a0.take (m + 1)).flatten.length = (a0.take m).flatten.length + a0[m].length := by rw [hst, List.length_append]
 repeat refine Z1 ?_
 refine Z0 (Z3 (vI ((a0.take m).flatten.length : Int)) (by exact t3) rfl (Z3 u rfl rfl ?_))
 refine X9 U5 rfl hu rfl ?_
 refine W4 ((a0.take (m + 1)).flatten.length : Int) rfl rfl (by rw [hlst, Int.natCast_add]; exact IntWalk.i64_in _ (by omega)) rfl ?_
 refine Z5 _ rfl rfl (Z2 ?_)
 repeat refine Z1 ?_
 refine Z0 (Z3 _ rfl rfl ?_)
 refine W9 (k := .i64) (a := ((a0.take (m + 1)).flatten.length : Int)) (b := 0) rfl rfl rfl (Z2 ?_)
 repeat refine Z1 ?_
 refine Z8 (bF (by omega) rfl) (Y6 ?_)
 refine X2 (Z0 ?_)
 refine W4 ((m : Int) + 1) (by exact t11) rfl (IntWalk.i64_in _ (by omega)) rfl (Z3 (vI ((m : Int) + 1)) rfl rfl (Z2 ?_))
 exact ih _ _ ⟨m + 1, by omega, by omega, hS, t0, rfl, t9, t10, by show vI ((m : Int) + 1) = vI ((m + 1 : Nat) : Int); rw [Int.natCast_add]; rfl⟩
 refine Z8 (bF hm rfl) (X8 rfl ?_)
 have e : m = a0.length := by omega
 subst e
 rw [List.take_length] at t3
 exact hx _ _ ⟨hS, t0, t3⟩
 exact ⟨0, by omega, by omega, hS, rfl, rfl, rfl, rfl, rfl⟩
 rintro f w ⟨hS, t0, t3⟩
 repeat refine Z1 ?_
 refine Z0 (Z3 _ (by exact t3) rfl ?_)
 refine U8 Tryz.call256 (V5 rfl rfl) rfl (Wn8 (τ := Y9 .i64) rfl hlen hS) ?_
 rintro e1 w1 ⟨v, H1, C, rfl, Z4, hS, ho⟩
 refine ⟨_, rfl, ?_⟩
 have hs0 := hs0.mono Z4
 refine Z5 v rfl rfl (Z2 ?_)
 repeat refine Z1 ?_
 refine Z0 (Z3 s0 (by exact t0) rfl ?_)
 refine X9 T3 rfl hs0 rfl (Z3 (vI 0) rfl rfl (Z2 (Y8 ?_)))
 refine W1 (id := 2) (fun k f w => ∃ (m : Nat) (v : Value) (C : OL), m ≤ a0.length ∧ a0.length < m + k ∧ St H1 w (C ++ L) ∧ W0 (Y9 .i64) 2 H1 v (a0.take m).flatten C ∧ tv f 6 = v ∧ tv f 25 = s0 ∧ tv f 26 = vI (a0.length : Int) ∧ tv f 27 = vI (m : Int))
  (fun f w => ∃ (v : Value) (C : OL), St H1 w (C ++ L) ∧ W0 (Y9 .i64) 2 H1 v a0.flatten C ∧ tv f 6 = v) rfl ?_ ?_ (a0.length + 1) ?_ ?_
 rintro f w ⟨m, v, C, h1, h2, _⟩; omega
 rintro k f w ih hx ⟨m, v, C, h1, h2, hS, ho, t6, t25, t26, t27⟩
 repeat refine Z1 ?_
 refine Z0 ?_
 refine W9 (k := .i64) (a := m) (b := a0.length) (by exact t27) (by exact t26) rfl (Z2 ?_)
 repeat refine Z1 ?_
 by_cases hm : (m : Int) < (a0.length : Int)
 have hm' : m < a0.length := by omega
 refine Z9 (bT hm rfl) (Y6 ?_)
 repeat refine Z1 ?_
 refine Y8 ?_
 repeat refine Z1 ?_
 refine Z0 ?_
 obtain ⟨b, o, cs, E, _, hp, hb, ⟨u, rfl, hu⟩, hc⟩ := hs0.elem (i := (m : Int)) (by omega) hm
 refine X6 T3 rfl (by exact t25) hp (by exact t27) (by omega) hm rfl ?_
 refine Y1 u P6 rfl (hS.froz _ _ hb) (hc 0 (show 0 < 1 by decide)) rfl (Z5 u rfl rfl (Z2 ?_))
 rw [Zt3 hm', Q7 hm'] at hu
 have hle := Xz4 a0 (m + 1)
 have hst := Xm9 a0 hm'
 rw [hst, List.length_append] at hle
 repeat refine Z1 ?_
 refine Z0 (Z3 v (by exact t6) rfl (Z3 u rfl rfl ?_))
 refine K9 (τ := Y9 .i64) Yl1 rfl rfl rfl ho hS hu (by omega) rfl ?_
 intro v4 w4 C4 ho hS
 rw [← hst] at ho
 refine Z5 v4 rfl rfl (Z2 (X2 (Z0 ?_)))
 refine W4 ((m : Int) + 1) (by exact t27) rfl (IntWalk.i64_in _ (by omega)) rfl (Z3 (vI ((m : Int) + 1)) rfl rfl (Z2 ?_))
 exact ih _ _ ⟨m + 1, v4, C4, by omega, by omega, hS, ho, rfl, t25, t26, by show vI ((m : Int) + 1) = vI ((m + 1 : Nat) : Int); rw [Int.natCast_add]; rfl⟩
 refine Z8 (bF hm rfl) (X8 rfl ?_)
 have e : m = a0.length := by omega
 subst e
 rw [List.take_length] at ho
 exact hx _ _ ⟨v, C, hS, ho, t6⟩
 exact ⟨0, v, C, by omega, by omega, hS, ho, rfl, rfl, rfl, rfl⟩
 rintro f w ⟨v, C, hS, ho, t6⟩
 repeat refine Z1 ?_
 refine Z0 (Z3 v (by exact t6) rfl (Z5 v rfl rfl (Z2 ?_)))
 exact X0 (vs := [v]) Tryz.func193 ⟨rfl, trivial⟩ ⟨_, _, _, rfl, Z4, hS, ho⟩
end Go.Proofs.YtabofnehiclkiaaGreat
