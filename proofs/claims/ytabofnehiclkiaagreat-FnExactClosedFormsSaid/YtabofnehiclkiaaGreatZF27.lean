/- Walks of functions: each computes its pure function, if that gives a value. -/
import Derived.Test.YtabofnehiclkiaaGreatZF26
namespace Go.Proofs.YtabofnehiclkiaaGreat
open Go Go.Proofs.Tryz
set_option linter.unusedSimpArgs false
set_option linter.unusedVariables false
set_option maxRecDepth 100000
set_option maxHeartbeats 8000000
variable {K : Nat} {H : FH} {w : World} {L : OL} {s0 s1 s2 s3 s4 s5 s6 : Value}
def A9 (K : Nat) (x : AlX) (n : Int) : Option Bool := (Zh5 K x.1 n 120).map Prod.snd
theorem Xk4 {K : Nat} {x : AlX} {n : Int} {b : Bool} (q0 : A9 K x n = some b) {H : FH} {w : World} {L : OL} {bp : Nat} {ap m : Value} (hbox : H bp = some (.cells #[ap, m] 187)) (hap : Zs8 Yx6 H ap x) (hS : St H w L) :
    Calls prog 150 #[vP bp, vI n] w (U7 (fun v _ => v = vB b) H L) := by
  obtain ⟨⟨M, mb⟩, hM, hb⟩ := Option.map_eq_some_iff.1 q0
  obtain rfl : mb = b := hb
  obtain ⟨ab, ao, rfl⟩ := hap.val
  refine X0 func150 rfl ntmps150 rfl ?_
  repeat refine Z1 ?_
  refine Z0 (Z5 (vB false) rfl rfl (Z2 ?_))
  repeat refine Z1 ?_
  refine Z0 (Z3 (vP bp) rfl rfl (V4 rfl rfl (Y2 Xd4 rfl rfl ?_)))
  refine Y0 (vQ ab ao) We8 rfl (hS.froz _ _ hbox) rfl rfl (V4 rfl rfl (Y2 Wd1 rfl rfl ?_))
  obtain ⟨_, _, acs, aE, _, hap1, hab, ⟨_, _, rfl, ⟨dv, rfl, hdeg⟩, ⟨fv, rfl, hfms⟩⟩, hac⟩ := id hap
  cases hap1
  refine Y0 dv P4 rfl (hS.froz _ _ hab) (hac 0 (by decide)) rfl (Z3 (vI n) rfl rfl ?_)
  refine U9 call231 (D8 rfl rfl rfl) rfl (Yc5 hM hdeg hS) ?_
  rintro e3 w3 ⟨_, H3, rfl, s3, hS, v0, v1, rfl, hv0, hv1⟩
  have hv1 : v1 = vB mb := hv1
  subst hv1
  refine ⟨_, rfl, ?_⟩
  refine Z3 _ rfl rfl (V3 v0 rfl rfl rfl (V3 (vB mb) rfl rfl rfl (Z5 v0 rfl rfl (Z5 (vB mb) rfl rfl (Z2 ?_)))))
  repeat refine Z1 ?_
  refine Z0 (Z3 (vB mb) rfl rfl (Z5 (vB mb) rfl rfl (Z2 ?_)))
  exact Y9 (vs := [vB mb]) func150 ⟨rfl, trivial⟩ ⟨_, _, rfl, s3, hS, rfl⟩
def Wg4 (K : Nat) (x : AlX) (n : Int) : Option Bool :=
  if -1099511627776 ≤ n ∧ n ≤ 1099511627776 then (A9 K x (n - 1)).bind fun a => if a = true then (A9 K x n).bind fun b => if b = true then A9 K x (n + 1) else some false else some false else none
def arN (K : Nat) (x : AlX) : List Int → Option Int
  | [] => some 0
  | n :: ns => (Wg4 K x n).bind fun b => if b = true then arN K x ns else some 3
theorem Wk0 {K : Nat} {x : AlX} {ds : List Int} {r : Int} (q0 : arN K x ds = some r) {H : FH} {w : World} {L : OL} {bp : Nat} {ap m s1 : Value} (hbox : H bp = some (.cells #[ap, m] 187)) (hap : Zs8 Yx6 H ap x) (hs1 : Y3 (Y5 .i64) H s1 ds) (hS : St H w L) :
    Calls prog 175 #[vP bp, s1] w (U7 (fun v _ => v = vI r) H L) := by
  have hb1 := hs1.bound
  refine X0 func175 rfl ntmps175 rfl ?_
  repeat refine Z1 ?_
  refine Z0 (Z5 (vI 0) rfl rfl (Z2 ?_))
  repeat refine Z1 ?_
  refine Z0 (Z3 s1 rfl rfl ?_)
  refine X9 U5 rfl hs1 rfl (Z3 (vI 0) rfl rfl (Z2 (Y8 ?_)))
  refine W0 (id := 0) (fun k f w => ∃ (m : Nat) (H1 : FH), m ≤ ds.length ∧ ds.length < m + k ∧ arN K x (ds.drop m) = some r ∧ Sub H H1 ∧ St H1 w L ∧ tv f 0 = vP bp ∧ tv f 7 = s1 ∧ tv f 8 = vI (ds.length : Int) ∧ tv f 9 = vI (m : Int))
    (fun f w => ∃ (H1 : FH), r = 0 ∧ Sub H H1 ∧ St H1 w L) rfl ?_ ?_ (ds.length + 1) ?_ ?_
  · rintro f w ⟨m, H1, h1, h2, _⟩; omega
  · rintro k f w ih hx ⟨m, H1, h1, h2, heq, Z4, hS, t0, t7, t8, t9⟩
    repeat refine Z1 ?_
    refine Z0 ?_
    refine W8 (k := .i64) (a := m) (b := ds.length) (by exact t9) (by exact t8) rfl (Z2 ?_)
    repeat refine Z1 ?_
    by_cases hm : (m : Int) < (ds.length : Int)
    · have hm' : m < ds.length := by omega
      rw [show ds.drop m = ds[m] :: ds.drop (m + 1) from (List.getElem_cons_drop ..).symm, arN] at heq
      obtain ⟨b, hb, heq⟩ := bind_some heq
      unfold Wg4 at hb
      by_cases hg : -1099511627776 ≤ ds[m] ∧ ds[m] ≤ 1099511627776
      case neg => rw [if_neg hg] at hb; cases hb
      rw [if_pos hg] at hb
      obtain ⟨g1, g2⟩ := hg
      obtain ⟨b1, hb1', hb⟩ := bind_some hb
      generalize hn : ds[m] = n at g1 g2 hb1' hb
      have hn2 : IntKind.i64.wrap (n - 1) = n - 1 := IntWalk.i64_in _ (by omega)
      have hn3 : IntKind.i64.wrap (n + 1) = n + 1 := IntWalk.i64_in _ (by omega)
      refine Z8 (bT hm rfl) (Y6 ?_)
      repeat refine Z1 ?_
      refine Y8 ?_
      repeat refine Z1 ?_
      refine Z0 ?_
      obtain ⟨bb, of, cs, E, _, hp, hbb, hu, hc⟩ := (hs1.mono Z4).elem (i := (m : Int)) (by omega) hm
      refine X5 U5 rfl (by exact t7) hp (by exact t9) (by omega) hm rfl ?_
      have hrd : rd ds (m : Int) = n := by unfold rd; rw [Int.toNat_natCast, Q8 hm', hn]
      rw [hrd] at hu
      cases hu
      refine Y0 (vI n) ty2 rfl (hS.froz _ _ hbb) (hc 0 (show 0 < 1 by decide)) rfl (Z5 (vI n) rfl rfl (Z2 ?_))
      repeat refine Z1 ?_
      refine Z0 (Z3 (vP bp) (by exact t0) rfl (Z3 (vI n) rfl rfl (Zk8 (n - 1) rfl rfl hn2 rfl ?_)))
      refine X3 call150 (V2 rfl rfl) rfl (Xk4 hb1' (Z4.1 _ _ hbox) (hap.mono Z4) hS) ?_
      rintro _ G1 w1 s1' hS rfl
      have Z4 := Z4.trans s1'
      refine N8 (b := b1) rfl rfl (Z3 (vB (!b1)) rfl rfl ?_)
      cases b1 with
      | false =>
        rw [if_neg (by decide)] at hb
        obtain rfl := oi hb
        rw [if_neg (by decide)] at heq
        have heq := oi heq
        refine Z9 (b' := true) rfl rfl rfl rfl rfl rfl (Z9 (b' := true) rfl rfl rfl rfl rfl rfl (Z9 (b' := true) rfl rfl rfl rfl rfl rfl (Z9 (b' := true) rfl rfl rfl rfl rfl rfl ?_)))
        refine W6 (t := true) (vB true) rfl rfl rfl (Z3 (vB true) rfl rfl ?_)
        refine Z9 (b' := true) rfl rfl rfl rfl rfl rfl (Z9 (b' := true) rfl rfl rfl rfl rfl rfl (Z9 (b' := true) rfl rfl rfl rfl rfl rfl (Z9 (b' := true) rfl rfl rfl rfl rfl rfl (Z9 (b' := true) rfl rfl rfl rfl rfl rfl ?_))))
        refine W6 (t := true) (vB true) rfl rfl rfl (Z2 ?_)
        repeat refine Z1 ?_
        refine Z8 rfl ?_
        repeat refine Z1 ?_
        refine Z0 (Z5 (vI 3) rfl rfl (Z2 ?_))
        exact Y9 (vs := [vI 3]) func175 ⟨rfl, trivial⟩ ⟨_, _, rfl, Z4, hS, by rw [← heq]; rfl⟩
      | true =>
      rw [if_pos rfl] at hb
      obtain ⟨b2, hb2, hb⟩ := bind_some hb
      refine Y1 (b := false) rfl rfl rfl (Z3 (vP bp) (by exact t0) rfl (Y1 (b := false) rfl rfl rfl (Z3 (vI n) rfl rfl (Y1 (b := false) rfl rfl rfl ?_))))
      refine X3 call150 (V2 rfl rfl) rfl (Xk4 hb2 (Z4.1 _ _ hbox) (hap.mono Z4) hS) ?_
      rintro _ G2 w2 s2' hS rfl
      have Z4 := Z4.trans s2'
      refine Y1 (b := false) rfl rfl rfl (N8 (b := b2) rfl rfl ?_)
      refine W6 (t := false) (vB (!b2)) rfl rfl rfl (Z3 (vB (!b2)) rfl rfl ?_)
      cases b2 with
      | false =>
        rw [if_neg (by decide)] at hb
        obtain rfl := oi hb
        rw [if_neg (by decide)] at heq
        have heq := oi heq
        refine Z9 (b' := true) rfl rfl rfl rfl rfl rfl (Z9 (b' := true) rfl rfl rfl rfl rfl rfl (Z9 (b' := true) rfl rfl rfl rfl rfl rfl (Z9 (b' := true) rfl rfl rfl rfl rfl rfl (Z9 (b' := true) rfl rfl rfl rfl rfl rfl ?_))))
        refine W6 (t := true) (vB true) rfl rfl rfl (Z2 ?_)
        repeat refine Z1 ?_
        refine Z8 rfl ?_
        repeat refine Z1 ?_
        refine Z0 (Z5 (vI 3) rfl rfl (Z2 ?_))
        exact Y9 (vs := [vI 3]) func175 ⟨rfl, trivial⟩ ⟨_, _, rfl, Z4, hS, by rw [← heq]; rfl⟩
      | true =>
      rw [if_pos rfl] at hb
      refine Y1 (b := false) rfl rfl rfl (Z3 (vP bp) (by exact t0) rfl (Y1 (b := false) rfl rfl rfl (Z3 (vI n) rfl rfl (Y1 (b := false) rfl rfl rfl (W2 (n + 1) rfl rfl hn3 rfl (Y1 (b := false) rfl rfl rfl ?_))))))
      refine X3 call150 (V2 rfl rfl) rfl (Xk4 hb (Z4.1 _ _ hbox) (hap.mono Z4) hS) ?_
      rintro _ G3 w3 s3' hS rfl
      have Z4 := Z4.trans s3'
      refine Y1 (b := false) rfl rfl rfl (N8 (b := b) rfl rfl ?_)
      refine W6 (t := false) (vB (!b)) rfl rfl rfl (Z2 ?_)
      cases b with
      | false =>
        rw [if_neg (by decide)] at heq
        have heq := oi heq
        repeat refine Z1 ?_
        refine Z8 rfl ?_
        repeat refine Z1 ?_
        refine Z0 (Z5 (vI 3) rfl rfl (Z2 ?_))
        exact Y9 (vs := [vI 3]) func175 ⟨rfl, trivial⟩ ⟨_, _, rfl, Z4, hS, by rw [← heq]; rfl⟩
      | true =>
      rw [if_pos rfl] at heq
      repeat refine Z1 ?_
      refine Z7 rfl (Y6 (X1 (Z0 ?_)))
      refine W2 ((m : Int) + 1) (by exact t9) rfl (IntWalk.i64_in _ (by omega)) rfl (Z3 (vI ((m : Int) + 1)) rfl rfl (Z2 ?_))
      exact ih _ _ ⟨m + 1, G3, by omega, by omega, heq, Z4, hS, t0, t7, t8, by show vI ((m : Int) + 1) = vI ((m + 1 : Nat) : Int); rw [Int.natCast_add]; rfl⟩
    · refine Z7 (bF hm rfl) (X7 rfl ?_)
      have e : m = ds.length := by omega
      subst e
      rw [List.drop_length, arN] at heq
      exact hx _ _ ⟨H1, (oi heq).symm, Z4, hS⟩
  · exact ⟨0, H, by omega, by omega, q0, .refl _, hS, rfl, rfl, rfl, rfl⟩
  · rintro f w ⟨H1, rfl, Z4, hS⟩
    repeat refine Z1 ?_
    refine Z0 (Z5 (vI 0) rfl rfl (Z2 ?_))
    exact Y9 (vs := [vI 0]) func175 ⟨rfl, trivial⟩ ⟨_, _, rfl, Z4, hS, rfl⟩
end Go.Proofs.YtabofnehiclkiaaGreat
