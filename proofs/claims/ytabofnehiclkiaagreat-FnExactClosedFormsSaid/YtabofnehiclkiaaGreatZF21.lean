/- Walks of functions: each computes its pure function, if that gives a value. -/
import Derived.Test.YtabofnehiclkiaaGreatZF20
namespace Go.Proofs.YtabofnehiclkiaaGreat
open Go Go.Proofs.Tryz
set_option linter.unusedSimpArgs false
set_option linter.unusedVariables false
set_option maxRecDepth 100000
set_option maxHeartbeats 8000000
variable {K : Nat} {H : FH} {w : World} {L : OL} {s0 s1 s2 s3 s4 s5 s6 : Value}
def Zx5 (n i : Nat) : List Int := (List.replicate n 0).set i 1
def Zf4 (n : Nat) : Nat → List (List Int) → List (List Int)
 | _, [] => []
 | i, r :: rs => (r ++ Zx5 n i) :: Zf4 n (i + 1) rs
def Yu5 (K width : Nat) : List (List Int) → List (List Int) → Option (List (List Int))
 | acc, [] => some acc
 | acc, r :: rs => if 0 < r.length ∧ width ≤ r.length then (Zu0 K (r.take width)).bind fun b => Yu5 K width (if b = true then acc ++ [r.drop width] else acc) rs else none
def okK (rows : List (List Int)) (width : Int) : Bool := decide (0 ≤ width ∧ width ≤ 1099511627776 ∧ rows.length ≤ 1099511627776 ∧ ∀ r, r ∈ rows → r.length + rows.length ≤ 1099511627776)
def Zt6 (K : Nat) (rows : List (List Int)) (width : Int) : Option (List (List Int)) :=
 if okK rows width = true then (Za8 K (Zf4 rows.length 0 rows)).bind fun R => if R.length ≤ 1099511627776 then (Yu5 K width.toNat [] R).bind fun o => Za8 K o else none else none
theorem Xh8 (n : Nat) : ∀ (rs : List (List Int)) (i m : Nat) (hm : m < rs.length), (Zf4 n i rs).take (m + 1) = (Zf4 n i rs).take m ++ [rs[m] ++ Zx5 n (i + m)]
 | [], i, m, hm => by simp at hm
 | r :: rs, i, 0, hm => by simp [Zf4]
 | r :: rs, i, m + 1, hm => by
  have := Xh8 n rs (i + 1) m (by simpa using hm)
  simp only [Zf4, List.take_succ_cons, List.cons_append, List.getElem_cons_succ]
  rw [this, show i + (m + 1) = i + 1 + m by omega]
theorem Yg6 (n : Nat) : ∀ (rs : List (List Int)) (i : Nat), (Zf4 n i rs).length = rs.length
 | [], _ => rfl
 | r :: rs, i => by simp [Zf4, Yg6 n rs]
theorem Y3.take {α : Type} {τ : Ty α} {H : FH} {v : Value} {xs : List α} (h : Y3 τ H v xs) {k : Nat} (hk : k ≤ xs.length) : ∃ a c, v = .slice a xs.length c ∧ Y3 τ H (.slice a k c) (xs.take k) := by
 obtain ⟨a, c, ⟨hv, hl⟩, h⟩ := h
 have hlen : (xs.take k).length = k := by rw [List.length_take]; omega
 refine ⟨a, c, hv, a, c, ⟨by rw [hlen], by rw [hlen]; omega⟩, ?_⟩
 rcases h with rfl | ⟨b, o, cs, E, h1, h2, h3⟩
 exact .inl (by simp)
 refine .inr ⟨b, o, cs, E, h1, h2, fun i x hx => h3 i x ?_⟩
 rw [List.getElem?_take] at hx
 split at hx
 exact hx
 cases hx
theorem Y3.drop {α : Type} {τ : Ty α} {H : FH} {b o c : Nat} {xs : List α} (h : Y3 τ H (.slice (some ⟨b, o, none⟩) xs.length c) xs) {k : Nat} (hk : k ≤ xs.length) (hc : xs.length ≤ c) :
 Y3 τ H (.slice (if c = k then some ⟨b, o, none⟩ else some ⟨b, o + k * τ.size, none⟩) (xs.length - k) (c - k)) (xs.drop k) := by
 obtain ⟨a, c', ⟨hv, hl⟩, h⟩ := h
 cases hv
 refine ⟨_, c - k, ⟨by rw [List.length_drop], by rw [List.length_drop]; omega⟩, ?_⟩
 by_cases e : k = xs.length
 exact .inl (by rw [e, List.drop_length])
 rcases h with rfl | ⟨b', o', cs, E, h1, h2, h3⟩
 exact .inl (by simp)
 cases h1
 rw [if_neg (by omega)]
 refine .inr ⟨b, o + k * τ.size, cs, E, rfl, h2, fun i x hx => ?_⟩
 rw [List.getElem?_drop] at hx
 obtain ⟨ecs, hr, hj⟩ := h3 _ x hx
 refine ⟨ecs, hr, fun j hjs => ?_⟩
 rw [← hj j hjs, Nat.add_mul]
 congr 1; omega
section
variable {P : Program} {n : Nat} {ops : Array Oper} {J : Fr → World → Prop} {r : List Oper} {f : Fr} {w : World} {d : Nat} {T : TypeId} {pos : String} {af : Array Edge}
theorem Y3.addr {α : Type} {τ : Ty α} {H : FH} {v : Value} {xs : List α} (h : Y3 τ H v xs) (h0 : 0 < xs.length) : ∃ b o c, v = .slice (some ⟨b, o, none⟩) xs.length c := by
 obtain ⟨a, c, ⟨hv, _⟩, h⟩ := h
 rcases h with rfl | ⟨b, o, cs, E, rfl, _⟩
 simp at h0
 exact ⟨b, o, c, hv⟩
end
theorem Wf0 {K : Nat} {a0 : List (List Int)} {a1 : Int} {r : List (List Int)} (q0 : Zt6 K a0 a1 = some r) {H : FH} {w : World} {L : OL} {s0 : Value} (hs0 : Y3 (X2 (Y5 .i64)) H s0 a0) (hS : St H w L) :
 Calls prog 152 #[s0, vI a1] w (U7 (fun v G => (∃ b l c, v = .slice (some ⟨b, 0, none⟩) l c) ∧ (R.sl (X2 (Y5 .i64))).p G v r) H L) := by
 unfold Zt6 at q0
 by_cases hok : okK a0 a1 = true
 case neg => rw [if_neg hok] at q0; cases q0
 rw [if_pos hok] at q0
 obtain ⟨R, hR, q0⟩ := bind_some q0
 by_cases hRl : R.length ≤ 1099511627776
 case neg => rw [if_neg hRl] at q0; cases q0
 rw [if_pos hRl] at q0
 obtain ⟨o, hker, hr⟩ := bind_some q0
 obtain ⟨ok1, ok1', ok2, ok3⟩ := of_decide_eq_true hok
 obtain ⟨wd, rfl⟩ := Int.eq_ofNat_of_zero_le ok1
 rw [Int.toNat_natCast] at hker
 clear hok ok1
 refine X0 func152 rfl ntmps152 rfl ?_
 repeat refine Z1 ?_
 refine Z0 (Z5 (vN) rfl rfl (Z2 ?_))
 repeat refine Z1 ?_
 refine Z0 (Z3 s0 rfl rfl ?_)
 refine X9 T2 rfl hs0 rfl ?_
 refine Yo3 (τ := X2 (Y5 .i64)) T2 Zn8 rfl hS rfl ?_
 intro b1 w1 ho hS
 refine Z5 (vI (a0.length : Int)) rfl rfl (Z5 (.slice (some ⟨b1, 0, none⟩) 0 0) rfl rfl (Z2 ?_))
 repeat refine Z1 ?_
 refine Z0 (Z3 s0 rfl rfl ?_)
 refine X9 T2 rfl hs0 rfl (Z3 (vI 0) rfl rfl (Z2 (Y8 ?_)))
 refine W0 (id := 0) (fun k f w => ∃ (m : Nat) (H1 : FH) (v : Value) (C : OL), m ≤ a0.length ∧ a0.length < m + k ∧ Sub H H1 ∧ St H1 w (C ++ L) ∧ X8 (X2 (Y5 .i64)) 22 H1 v ((Zf4 a0.length 0 a0).take m) C ∧ Y3 (X2 (Y5 .i64)) H1 s0 a0 ∧ tv f 1 = vI (wd : Int) ∧ tv f 5 = vI (a0.length : Int) ∧ tv f 6 = v ∧ tv f 16 = s0 ∧ tv f 17 = vI (a0.length : Int) ∧ tv f 18 = vI (m : Int))
  (fun f w => ∃ (H1 : FH) (v : Value) (C : OL), Sub H H1 ∧ St H1 w (C ++ L) ∧ X8 (X2 (Y5 .i64)) 22 H1 v (Zf4 a0.length 0 a0) C ∧ tv f 1 = vI (wd : Int) ∧ tv f 6 = v) rfl ?_ ?_ (a0.length + 1) ?_ ?_
 rintro f w ⟨m, H1, v, C, h1, h2, _⟩; omega
 rintro k f w ih hx ⟨m, H1, v, C, h1, h2, Z4, hS, ho, hs0, t1, t5, t6, t16, t17, t18⟩
 repeat refine Z1 ?_
 refine Z0 ?_
 refine W8 (k := .i64) (a := m) (b := a0.length) (by exact t18) (by exact t17) rfl (Z2 ?_)
 repeat refine Z1 ?_
 by_cases hm : (m : Int) < (a0.length : Int)
 have hm' : m < a0.length := by omega
 refine Z8 (bT hm rfl) (Y6 ?_)
 repeat refine Z1 ?_
 refine Y8 ?_
 repeat refine Z1 ?_
 refine Z0 (Z3 (vI (m : Int)) (by exact t18) rfl ?_)
 obtain ⟨b, of, cs, E, _, hp, hb, ⟨u, rfl, hu⟩, hc⟩ := hs0.elem (i := (m : Int)) (by omega) hm
 refine X5 T2 rfl (by exact t16) hp (by exact t18) (by omega) hm rfl ?_
 refine Y0 u P4 rfl (hS.froz _ _ hb) (hc 0 (show 0 < 1 by decide)) rfl (Z5 (vI (m : Int)) rfl rfl (Z5 u rfl rfl (Z2 ?_)))
 rw [Zu2 hm', Q8 hm'] at hu
 have hlen := ok3 _ (List.getElem_mem hm')
 repeat refine Z1 ?_
 refine Z0 (Z3 (vI (a0.length : Int)) (by exact t5) rfl ?_)
 refine Yg0 (τ := Y5 .i64) (0 : Int) Yb7 rfl rfl rfl (fun _ => rfl) (by omega) (by omega) hS rfl ?_
 intro v2 w2 C2 ho2 hS
 refine Z5 v2 rfl rfl (Z2 ?_)
 rw [Int.toNat_natCast] at ho2
 repeat refine Z1 ?_
 refine Z0 (Z3 v2 rfl rfl (Z3 (vI (m : Int)) rfl rfl ?_))
 have hm2 : (m : Int) < ((List.replicate a0.length (0 : Int)).length : Int) := by rw [List.length_replicate]; exact hm
 obtain ⟨bv, cv, hv2⟩ := ho2.some (i := (m : Int)) (by omega) hm2
 refine P3 U5 (Eq.trans rfl hv2) rfl (by omega) hm2 rfl ?_
 refine Zd0 (τ := Y5 .i64) (v := v2) (u := vI 1) 1 (i := (m : Int)) rfl ty2 hv2 ho2 hS rfl rfl (by omega) hm2 rfl ?_
 intro w3 C3 ho3 hS
 rw [Int.toNat_natCast] at ho3
 refine Z2 ?_
 repeat refine Z1 ?_
 obtain ⟨H4, s4, hS, hunit⟩ := ho3.freeze hS
 have ho := ho.mono s4
 have hu := hu.mono s4
 have hs0 := hs0.mono s4
 refine Z0 (Z3 v (by exact t6) rfl (Z3 u rfl rfl (Z3 v2 rfl rfl ?_)))
 refine Zc2 (τ := X2 (Y5 .i64)) T2 Zn8 rfl [u, v2] [a0[m], Zx5 a0.length m] rfl rfl (Zz7 rfl rfl) (Vg8 ⟨u, hu.cellsL, hu⟩ ⟨v2, hunit.cellsL, hunit⟩) (by decide) (by decide) hS rfl ?_
 intro u5 H5 w5 s5 hS hl5
 have ho := ho.mono s5
 have hs0 := hs0.mono s5
 have hul : (Zx5 a0.length m).length = a0.length := by unfold Zx5; simp
 have hfl : [a0[m], Zx5 a0.length m].flatten = a0[m] ++ Zx5 a0.length m := by simp
 refine U9 call193 (R3 rfl) rfl (Wi3 (K := K) (r := a0[m] ++ Zx5 a0.length m) (by unfold Zh3; rw [hfl, if_pos (by rw [List.length_append, hul]; exact hlen)]) hl5 hS) ?_
 rintro e6 w6 ⟨v6, H6, C6, rfl, s6, hS, ho6⟩
 refine ⟨_, rfl, ?_⟩
 obtain ⟨H7, s7, hS, hcat⟩ := ho6.freeze hS
 have ho := (ho.mono s6).mono s7
 have hs0 := (hs0.mono s6).mono s7
 refine Zc2 (τ := X2 (Y5 .i64)) T2 Zn8 rfl [v6] [a0[m] ++ Zx5 a0.length m] rfl rfl (E7 rfl) (Zk6 ⟨v6, hcat.cellsL, hcat⟩) (by decide) (by decide) hS rfl ?_
 intro u8 H8 w8 s8 hS hl8
 have ho := ho.mono s8
 have hs0 := hs0.mono s8
 have hwl : ((Zf4 a0.length 0 a0).take m).length = m := by rw [List.length_take, Yg6]; omega
 refine N6 (τ := X2 (Y5 .i64)) Yb5 rfl rfl rfl ho hS hl8 (by rw [hwl]; simp; omega) rfl ?_
 intro v9 w9 C9 ho9 hS
 have htk := Xh8 a0.length a0 0 m hm'
 rw [Nat.zero_add] at htk
 rw [← htk] at ho9
 refine Z5 v9 rfl rfl (Z2 (X1 (Z0 ?_)))
 refine W2 ((m : Int) + 1) (by exact t18) rfl (IntWalk.i64_in _ (by omega)) rfl (Z3 (vI ((m : Int) + 1)) rfl rfl (Z2 ?_))
 exact ih _ _ ⟨m + 1, H8, v9, C9, by omega, by omega, ((((Z4.trans s4).trans s5).trans s6).trans s7).trans s8, hS, ho9, hs0, t1, t5, rfl, t16, t17, by show vI ((m : Int) + 1) = vI ((m + 1 : Nat) : Int); rw [Int.natCast_add]; rfl⟩
 refine Z7 (bF hm rfl) (X7 rfl ?_)
 have e : m = a0.length := by omega
 subst e
 rw [List.take_of_length_le (by rw [Yg6]; exact Nat.le_refl _)] at ho
 exact hx _ _ ⟨H1, v, C, Z4, hS, ho, t1, t6⟩
 exact ⟨0, H, _, _, by omega, by omega, .refl _, hS, ho, hs0, rfl, rfl, rfl, rfl, rfl, rfl⟩
 rintro f w ⟨H1, v, C, Z4, hS, ho, t1, t6⟩
 repeat refine Z1 ?_
 refine Z0 ?_
 refine Yo3 (τ := X2 (Y5 .i64)) T2 Zn8 rfl hS rfl ?_
 intro b2 w2 ho2 hS
 refine Z5 (.slice (some ⟨b2, 0, none⟩) 0 0) rfl rfl (Z2 ?_)
 repeat refine Z1 ?_
 obtain ⟨H3, s3, hS, hwide⟩ := ho.freeze hS.swap
 have ho2 := ho2.mono s3
 refine Z0 (Z3 v (by exact t6) rfl ?_)
 refine U9 call154 (R3 rfl) rfl (Yp6 hR hwide hS) ?_
 rintro e4 w4 ⟨z, H4, rfl, s4, hS, _, hz⟩
 refine ⟨_, rfl, ?_⟩
 have hz : Y3 (Xh7 (Y5 .i64)) H4 z R := hz
 have ho2 := ho2.mono s4
 have Z4 := (Z4.trans s3).trans s4
 refine X9 T2 rfl hz rfl (Z3 (vI 0) rfl rfl (Z2 (Y8 ?_)))
 refine W0 (id := 2) (fun k f w => ∃ (m : Nat) (acc : List (List Int)) (H1 : FH) (v : Value) (C : OL), m ≤ R.length ∧ R.length < m + k ∧ acc.length ≤ m ∧ Yu5 K wd acc (R.drop m) = some o ∧ Sub H H1 ∧ St H1 w (C ++ L) ∧ X8 (X2 (Y5 .i64)) 22 H1 v acc C ∧ Y3 (Xh7 (Y5 .i64)) H1 z R ∧ tv f 1 = vI (wd : Int) ∧ tv f 10 = v ∧ tv f 38 = z ∧ tv f 39 = vI (R.length : Int) ∧ tv f 40 = vI (m : Int))
  (fun f w => ∃ (H1 : FH) (v : Value) (C : OL), Sub H H1 ∧ St H1 w (C ++ L) ∧ X8 (X2 (Y5 .i64)) 22 H1 v o C ∧ tv f 10 = v) rfl ?_ ?_ (R.length + 1) ?_ ?_
 rintro f w ⟨m, acc, H1, v, C, h1, h2, _⟩; omega
 rintro k f w ih hx ⟨m, acc, H1, v, C, h1, h2, hal, heq, Z4, hS, ho, hz, t1, t10, t38, t39, t40⟩
 repeat refine Z1 ?_
 refine Z0 ?_
 refine W8 (k := .i64) (a := m) (b := R.length) (by exact t40) (by exact t39) rfl (Z2 ?_)
 repeat refine Z1 ?_
 by_cases hm : (m : Int) < (R.length : Int)
 have hm' : m < R.length := by omega
 rw [show R.drop m = R[m] :: R.drop (m + 1) from (List.getElem_cons_drop ..).symm, Yu5] at heq
 by_cases hg : 0 < R[m].length ∧ wd ≤ R[m].length
 case neg => rw [if_neg hg] at heq; cases heq
 rw [if_pos hg] at heq
 obtain ⟨g1, g2⟩ := hg
 obtain ⟨zb, hzb, heq⟩ := bind_some heq
 refine Z8 (bT hm rfl) (Y6 ?_)
 repeat refine Z1 ?_
 refine Y8 ?_
 repeat refine Z1 ?_
 refine Z0 ?_
 obtain ⟨b, of, cs, E, _, hp, hb, ⟨u, rfl, hu, hcap⟩, hc⟩ := hz.elem (i := (m : Int)) (by omega) hm
 refine X5 T2 rfl (by exact t38) hp (by exact t40) (by omega) hm rfl ?_
 refine Y0 u P4 rfl (hS.froz _ _ hb) (hc 0 (show 0 < 1 by decide)) rfl (Z5 u rfl rfl (Z2 ?_))
 rw [Zu2 hm', Q8 hm'] at hu hcap
 obtain ⟨ub, uo, uc, huv⟩ := hu.addr g1
 have huc : R[m].length ≤ uc := by
  obtain ⟨a', c', h3, h4⟩ := hcap
  rw [huv] at h3; cases h3; exact h4
 have htake : Y3 (Y5 .i64) H1 (.slice (some ⟨ub, uo, none⟩) wd uc) (R[m].take wd) := by
  obtain ⟨a', c', h3, h4⟩ := hu.take g2
  rw [huv] at h3; cases h3; exact h4
 repeat refine Z1 ?_
 refine Z0 (Z3 u rfl rfl (Z3 (vI (wd : Int)) (by exact t1) rfl ?_))
 refine Yu7 U5 (show u = _ from huv) rfl (by omega) rfl ?_
 refine X3 call87 (R3 rfl) rfl (Xc7 hzb htake hS) ?_
 rintro _ G w6 sG hS rfl
 have ho := ho.mono sG
 have hz := hz.mono sG
 have hu := hu.mono sG
 refine Z2 ?_
 repeat refine Z1 ?_
 cases zb with
 | true =>
  rw [if_pos rfl] at heq
  refine Z8 rfl ?_
  repeat refine Z1 ?_
  refine Z0 (Z3 v (by exact t10) rfl (Z3 u rfl rfl (Z3 (vI (wd : Int)) (by exact t1) rfl ?_)))
  refine Xn8 U5 (show u = _ from huv) rfl g2 rfl ?_
  rw [huv] at hu
  have hdrop := hu.drop g2 huc
  refine Zc2 (τ := X2 (Y5 .i64)) T2 Zn8 rfl [_] [R[m].drop wd] rfl rfl (E7 rfl) (Zk6 ⟨_, hdrop.cellsL, hdrop⟩) (by decide) (by decide) hS rfl ?_
  intro u8 H8 w8 s8 hS hl8
  have ho := ho.mono s8
  have hz := hz.mono s8
  refine N6 (τ := X2 (Y5 .i64)) Yb5 rfl rfl rfl ho hS hl8 (by simp; omega) rfl ?_
  intro v9 w9 C9 ho9 hS
  refine Z5 v9 rfl rfl (Z2 (X1 (Z0 ?_)))
  refine W2 ((m : Int) + 1) (by exact t40) rfl (IntWalk.i64_in _ (by omega)) rfl (Z3 (vI ((m : Int) + 1)) rfl rfl (Z2 ?_))
  exact ih _ _ ⟨m + 1, _, H8, v9, C9, by omega, by omega, by simp; omega, heq, (Z4.trans sG).trans s8, hS, ho9, hz, t1, rfl, t38, t39, by show vI ((m : Int) + 1) = vI ((m + 1 : Nat) : Int); rw [Int.natCast_add]; rfl⟩
 | false =>
  rw [if_neg (by decide)] at heq
  refine Z7 rfl (Y6 (X1 (Z0 ?_)))
  refine W2 ((m : Int) + 1) (by exact t40) rfl (IntWalk.i64_in _ (by omega)) rfl (Z3 (vI ((m : Int) + 1)) rfl rfl (Z2 ?_))
  exact ih _ _ ⟨m + 1, acc, G, v, C, by omega, by omega, by omega, heq, Z4.trans sG, hS, ho, hz, t1, t10, t38, t39, by show vI ((m : Int) + 1) = vI ((m + 1 : Nat) : Int); rw [Int.natCast_add]; rfl⟩
 refine Z7 (bF hm rfl) (X7 rfl ?_)
 have e : m = R.length := by omega
 subst e
 rw [List.drop_length, Yu5] at heq
 obtain rfl := oi heq
 exact hx _ _ ⟨H1, v, C, Z4, hS, ho, t10⟩
 exact ⟨0, [], H4, _, _, by omega, by omega, by simp, hker, Z4, hS, ho2, hz, t1, rfl, rfl, rfl, rfl⟩
 rintro f w ⟨H1, v, C, Z4, hS, ho, t10⟩
 repeat refine Z1 ?_
 obtain ⟨H3, s3, hS, hrd⟩ := ho.freeze hS
 refine Z0 (Z3 v (by exact t10) rfl ?_)
 refine U9 call154 (R3 rfl) rfl (Yp6 hr hrd hS) ?_
 rintro e4 w4 ⟨y, H4, rfl, s4, hS, hyn, hy⟩
 refine ⟨_, rfl, ?_⟩
 refine Z5 y rfl rfl (Z2 ?_)
 exact Y9 (vs := [y]) func152 ⟨rfl, trivial⟩ ⟨_, _, rfl, (Z4.trans s3).trans s4, hS, hyn, Y3.ofCap hy⟩
def F0 (K : Nat) (a1 : Int) (b5 : (List (List Int))) : Nat → Int → (List (List Int)) → Option (Ex (List (List Int)) ((List (List Int))))
 | 0, _, _ => none
 | k + 1, a3, a5 => (if a3 < (b5.length : Int) then ((B8 K (rd b5 a3)).bind fun e9 => (if a1 ≤ e9 then (if 0 ≤ a1 then (if a1 ≤ ((rd b5 a3).length : Int) then (if ([] : List Int).length + ((rd b5 a3).drop (a1).toNat).length ≤ 1099511627776 then (if a5.length + ([(([] : List Int) ++ ((rd b5 a3).drop (a1).toNat))]).length ≤ 1099511627776 then F0 K a1 b5 k (a3 + 1) (a5 ++ [(([] : List Int) ++ ((rd b5 a3).drop (a1).toNat))]) else none) else none) else none) else none) else F0 K a1 b5 k (a3 + 1) a5)) else some (.go a5))
def B6 (K : Nat) (a0 : (List (List Int))) (a1 : Int) : Nat → Int → (List (List Int)) → Option (Ex (List (List Int)) ((List (List Int))))
 | 0, _, _ => none
 | k + 1, a4, a9 => (if a4 < (a0.length : Int) then (if ([] : List Int).length + (rd a0 a4).length ≤ 1099511627776 then (if (0 ≤ (a0.length : Int) ∧ (([] : List Int) ++ (rd a0 a4)).length + (a0.length : Int).toNat ≤ 1099511627776) then (if 0 ≤ (IntKind.i64.wrap (a1 + a4)) then (if (IntKind.i64.wrap (a1 + a4)) < (((([] : List Int) ++ (rd a0 a4)) ++ (List.replicate (a0.length : Int).toNat (0 : Int))).length : Int) then (if a9.length + ([(((([] : List Int) ++ (rd a0 a4)) ++ (List.replicate (a0.length : Int).toNat (0 : Int))).set ((IntKind.i64.wrap (a1 + a4))).toNat 1)]).length ≤ 1099511627776 then B6 K a0 a1 k (a4 + 1) (a9 ++ [(((([] : List Int) ++ (rd a0 a4)) ++ (List.replicate (a0.length : Int).toNat (0 : Int))).set ((IntKind.i64.wrap (a1 + a4))).toNat 1)]) else none) else none) else none) else none) else none) else some (.go a9))
def Zl5 (K : Nat) (a0 : (List (List Int))) (a1 : Int) : Option (List (List Int)) := ((B6 K a0 a1 K 0 ([] : List (List Int))).bind (Ex.elim (fun r => some r) (fun s => (fun (c0 : (List (List Int))) => ((Za7 K c0).bind fun b5 => ((F0 K a1 b5 K 0 ([] : List (List Int))).bind (Ex.elim (fun r => some r) (fun s => (fun (b6 : (List (List Int))) => ((Za7 K b6).bind fun k2 => some k2)) s))))) s)))
theorem Yt6 {a0 : (List (List Int))} {a1 : Int} {r : (List (List Int))} (q0 : Zl5 K a0 a1 = some r) (c6 : Y3 (X2 (Y5 .i64)) H s0 a0) (hS : St H w L) :
 Calls prog 176 #[s0, vI a1] w (U7 (fun v G => (R.sl (X2 (Y5 .i64))).p G v r) H L) := by
 have Z4 := Sub.refl H
 refine X0 func176 rfl ntmps176 rfl ?_
 unfold Zl5 at q0
 refine Z1 (Z0 (Z5 (vN) rfl rfl (Z2 (Z1 (Z0 (Z3 (s0) rfl rfl ?_))))))
 have m0 := c6.bound
 refine X9 T2 rfl c6 rfl (Z5 (vI (a0.length : Int)) rfl rfl (Z2 (Z1 (Z0 ?_))))
 refine Yb8 (τ := (X2 (Y5 .i64))) T2 Zn8 rfl hS rfl ?_
 intro u2 _ C4 k3 hS
 refine Z5 (u2) rfl rfl (Z2 (Z1 (Z1 (Z0 (Z5 (vI 0) rfl rfl (Z2 (Y8 ?_)))))))
 obtain ⟨f0, a8, d4⟩ := bind_some q0
 refine W0 (id := 0) (fun k f w => ∃ (a4 : Int) (a9 : (List (List Int))) (H1 : FH) (b7 : OL) (b4 : Value), B6 K a0 a1 k a4 a9 = some f0 ∧ Sub H H1 ∧ St H1 w (b7 ++ L) ∧ 0 ≤ a4 ∧ X8 (X2 (Y5 .i64)) 22 H1 b4 a9 b7 ∧ Y3 (X2 (Y5 .i64)) H1 s0 a0 ∧ tv f 0 = s0 ∧ tv f 1 = vI a1 ∧ tv f 5 = vI (a0.length : Int) ∧ tv f 6 = b4 ∧ tv f 7 = vI a4) (fun f w => ∃ (c0 : (List (List Int))) (H1 : FH) (c7 : OL) (c2 : Value), f0 = .go c0 ∧ Sub H H1 ∧ St H1 w (c7 ++ L) ∧ X8 (X2 (Y5 .i64)) 22 H1 c2 c0 c7 ∧ tv f 1 = vI a1 ∧ tv f 6 = c2) rfl ?_ ?_ K ?_ ?_
 rintro f w ⟨a4, a9, H1, b7, b4, a8, _⟩
 rw [B6] at a8; cases a8
 rintro k _ _ k4 k5 ⟨a4, a9, g1, b7, b4, a8, Z4, hS, _, b1, c6, d1, c8, c9, d2, c4⟩
 rw [B6] at a8
 refine Z1 (Z1 (Z0 (Z3 (vI a4) (by exact c4) rfl (Z3 (vI (a0.length : Int)) (by exact c9) rfl ?_))))
 refine W8 (k := .i64) (a := a4) (b := (a0.length : Int)) rfl rfl rfl (Z2 ?_)
 obtain ⟨f1, a8⟩ | ⟨f1, a8⟩ := ic a8
 refine Z8 (bT f1 rfl) (Y6 (Z1 (Y8 (Z1 (Z0 ?_)))))
 refine Yb8 (τ := (Y5 .i64)) U5 ze2 rfl hS rfl ?_
 intro _ _ _ g2 hS
 refine Z3 (s0) (by exact d1) rfl (Z3 (vI a4) (by exact c4) rfl ?_)
 obtain ⟨_, _, _, _, _, g3, g4, ⟨k6, rfl, g5⟩, g6⟩ := c6.elem (i := a4) (by omega) (by omega)
 refine X5 T2 rfl rfl g3 rfl (by omega) (by omega) rfl ?_
 refine Y0 (k6) P4 rfl (hS.froz _ _ g4) (g6 0 (show 0 < 1 by decide)) rfl ?_
 obtain ⟨g7, a8⟩ := gd a8
 refine N6 (τ := (Y5 .i64)) Yb7 rfl rfl rfl g2 hS g5 g7 rfl ?_
 intro _ _ _ g8 hS
 refine Z3 (vI (a0.length : Int)) (by exact c9) rfl ?_
 obtain ⟨f2, a8⟩ := gd a8
 refine Wj3 rfl rfl f2.1 g8 hS f2.2 rfl ?_
 intro d7 _ _ f3 hS
 refine Z5 (d7) rfl rfl (Z2 (Z1 (Z0 (Z3 (d7) rfl rfl (Z3 (vI a1) (by exact c8) rfl (Z3 (vI a4) (by exact c4) rfl ?_))))))
 refine W2 (IntKind.i64.wrap (a1 + a4)) rfl rfl rfl rfl ?_
 obtain ⟨_, a8⟩ := gd a8
 obtain ⟨_, a8⟩ := gd a8
 obtain ⟨_, _, f4⟩ := f3.some (i := (IntKind.i64.wrap (a1 + a4))) (by omega) (by omega)
 refine P3 U5 (Eq.trans rfl f4) rfl (by omega) (by omega) rfl ?_
 refine Zd0 (τ := (Y5 .i64)) (v := d7) (u := vI 1) 1 (i := (IntKind.i64.wrap (a1 + a4))) rfl ty2 f4 f3 hS rfl rfl (by omega) (by omega) rfl ?_
 intro _ _ g9 hS
 refine Z2 (Z0 (Z3 (b4) (by exact d2) rfl (Z3 (d7) rfl rfl ?_)))
 obtain ⟨_, d9, hS, h0⟩ := g9.freeze hS
 have Z4 := Z4.trans d9
 have c6 := c6.mono d9
 have b1 := b1.mono d9
 refine Zc2 (τ := (X2 (Y5 .i64))) T2 Zn8 rfl [d7] [(((([] : List Int) ++ (rd a0 a4)) ++ (List.replicate (a0.length : Int).toNat (0 : Int))).set ((IntKind.i64.wrap (a1 + a4))).toNat 1)] rfl rfl (E7 rfl) (Zk6 h0.relv) (by decide) (by decide) hS rfl ?_
 intro _ k7 _ e0 hS h1
 have Z4 := Z4.trans e0
 have c6 := c6.mono e0
 have b1 := b1.mono e0
 obtain ⟨h2, a8⟩ := gd a8
 refine N6 (τ := (X2 (Y5 .i64))) Yb5 rfl rfl rfl b1 hS h1 h2 rfl ?_
 intro f6 _ k8 h3 hS
 refine Z5 (f6) rfl rfl (Z2 (X1 (Z0 (Z3 (vI a4) (by exact c4) rfl ?_))))
 refine W2 (a4 + 1) rfl rfl (IntWalk.i64_in _ (by omega)) rfl (Z5 (vI (a4 + 1)) rfl rfl (Z2 ?_))
 exact k4 _ _ ⟨(a4 + 1), (a9 ++ [(((([] : List Int) ++ (rd a0 a4)) ++ (List.replicate (a0.length : Int).toNat (0 : Int))).set ((IntKind.i64.wrap (a1 + a4))).toNat 1)]), k7, k8, f6, a8, Z4, hS, (by omega), h3, c6, d1, c8, c9, rfl, rfl⟩
 refine Z7 (bF f1 rfl) ?_
 refine X7 rfl ?_
 obtain rfl := oi a8
 exact k5 _ _ ⟨a9, g1, b7, b4, rfl, Z4, hS, b1, c8, d2⟩
 exact ⟨0, ([] : List (List Int)), H, C4, u2, a8, Z4, hS, (by omega), k3, c6, rfl, rfl, rfl, rfl, rfl⟩
 rintro _ _ ⟨c0, _, c7, c2, rfl, Z4, hS, d8, e6, e7⟩
 dsimp only [Ex.elim] at d4
 refine Z1 (Z0 (Z3 (c2) (by exact e7) rfl ?_))
 obtain ⟨_, h4, hS, h5⟩ := d8.freeze hS
 have Z4 := Z4.trans h4
 obtain ⟨b5, h6, d4⟩ := bind_some d4
 refine X3 call136 (R3 rfl) rfl (Yc8 h6 h5 hS) ?_
 rintro d3 k9 _ h7 hS b3
 have Z4 := Z4.trans h7
 refine Z5 (d3) rfl rfl (Z2 (Z1 (Z0 ?_)))
 refine Yb8 (τ := (X2 (Y5 .i64))) T2 Zn8 rfl hS rfl ?_
 intro f7 _ l0 h8 hS
 refine Z5 (f7) rfl rfl (Z2 (Z1 (Z1 (Z0 (Z5 (vI 0) rfl rfl (Z2 (Y8 ?_)))))))
 obtain ⟨f5, a6, d5⟩ := bind_some d4
 refine W0 (id := 2) (fun k f w => ∃ (a3 : Int) (a5 : (List (List Int))) (H1 : FH) (b2 : OL) (b0 : Value), F0 K a1 b5 k a3 a5 = some f5 ∧ Sub H H1 ∧ St H1 w (b2 ++ L) ∧ 0 ≤ a3 ∧ X8 (X2 (Y5 .i64)) 22 H1 b0 a5 b2 ∧ Y3 (X2 (Y5 .i64)) H1 d3 b5 ∧ tv f 1 = vI a1 ∧ tv f 6 = d3 ∧ tv f 9 = b0 ∧ tv f 10 = vI a3) (fun f w => ∃ (b6 : (List (List Int))) (H1 : FH) (c3 : OL) (b9 : Value), f5 = .go b6 ∧ Sub H H1 ∧ St H1 w (c3 ++ L) ∧ X8 (X2 (Y5 .i64)) 22 H1 b9 b6 c3 ∧ tv f 9 = b9) rfl ?_ ?_ K ?_ ?_
 rintro f w ⟨a3, a5, H1, b2, b0, a6, _⟩
 rw [F0] at a6; cases a6
 rintro k _ _ f8 l1 ⟨a3, a5, h9, b2, b0, a6, Z4, hS, _, a7, b3, c5, c1, d0, b8⟩
 rw [F0] at a6
 refine Z1 (Z1 (Z0 (Z3 (vI a3) (by exact b8) rfl (Z3 (d3) (by exact c1) rfl ?_))))
 have l9 := b3.bound
 refine X9 T2 rfl b3 rfl ?_
 refine W8 (k := .i64) (a := a3) (b := (b5.length : Int)) rfl rfl rfl (Z2 ?_)
 obtain ⟨e1, a6⟩ | ⟨e1, a6⟩ := ic a6
 refine Z8 (bT e1 rfl) (Y6 (Z1 (Y8 (Z1 (Z0 (Z3 (d3) (by exact c1) rfl (Z3 (vI a3) (by exact b8) rfl ?_)))))))
 obtain ⟨_, _, _, _, _, i0, i1, ⟨l2, rfl, i2⟩, i3⟩ := b3.elem (i := a3) (by omega) (by omega)
 refine X5 T2 rfl rfl i0 rfl (by omega) (by omega) rfl ?_
 refine Y0 (l2) P4 rfl (hS.froz _ _ i1) (i3 0 (show 0 < 1 by decide)) rfl ?_
 obtain ⟨e9, i4, a6⟩ := bind_some a6
 refine X3 call148 (R3 rfl) rfl (Zo9 i4 i2 hS) ?_
 rintro _ l3 _ e2 hS rfl
 have Z4 := Z4.trans e2
 have b3 := b3.mono e2
 have a7 := a7.mono e2
 refine Z3 (vI a1) (by exact c5) rfl ?_
 refine Ya0 (k := .i64) (a := e9) (b := a1) rfl rfl rfl (Z2 ?_)
 obtain ⟨e3, a6⟩ | ⟨e3, a6⟩ := ic a6
 refine Z8 (bT e3 rfl) (Z0 (Z3 (b0) (by exact d0) rfl ?_))
 refine Yb8 (τ := (Y5 .i64)) U5 ze2 rfl hS rfl ?_
 intro _ _ _ i5 hS
 refine Z3 (d3) (by exact c1) rfl (Z3 (vI a3) (by exact b8) rfl ?_)
 obtain ⟨_, _, _, _, _, i6, i7, ⟨l4, rfl, i8⟩, i9⟩ := b3.elem (i := a3) (by omega) (by omega)
 refine X5 T2 rfl rfl i6 rfl (by omega) (by omega) rfl ?_
 refine Y0 (l4) P4 rfl (hS.froz _ _ i7) (i9 0 (show 0 < 1 by decide)) rfl (Z3 (vI a1) (by exact c5) rfl ?_)
 obtain ⟨_, a6⟩ := gd a6
 obtain ⟨_, a6⟩ := gd a6
 refine Xz4 U5 rfl i8 rfl rfl (by omega) (by omega) rfl ?_
 intro _ j0
 obtain ⟨j1, a6⟩ := gd a6
 refine N6 (τ := (Y5 .i64)) Yb7 rfl rfl rfl i5 hS j0 j1 rfl ?_
 intro l5 _ _ j2 hS
 obtain ⟨_, e4, hS, j3⟩ := j2.freeze hS
 have Z4 := Z4.trans e4
 have b3 := b3.mono e4
 have a7 := a7.mono e4
 refine Zc2 (τ := (X2 (Y5 .i64))) T2 Zn8 rfl [l5] [(([] : List Int) ++ ((rd b5 a3).drop (a1).toNat))] rfl rfl (E7 rfl) (Zk6 j3.relv) (by decide) (by decide) hS rfl ?_
 intro _ l6 _ e5 hS j4
 have Z4 := Z4.trans e5
 have b3 := b3.mono e5
 have a7 := a7.mono e5
 obtain ⟨j5, a6⟩ := gd a6
 refine N6 (τ := (X2 (Y5 .i64))) Yb5 rfl rfl rfl a7 hS j4 j5 rfl ?_
 intro f9 _ l7 j6 hS
 refine Z5 (f9) rfl rfl (Z2 (X1 (Z0 (Z3 (vI a3) (by exact b8) rfl ?_))))
 refine W2 (a3 + 1) rfl rfl (IntWalk.i64_in _ (by omega)) rfl (Z5 (vI (a3 + 1)) rfl rfl (Z2 ?_))
 exact f8 _ _ ⟨(a3 + 1), (a5 ++ [(([] : List Int) ++ ((rd b5 a3).drop (a1).toNat))]), l6, l7, f9, a6, Z4, hS, (by omega), j6, b3, c5, c1, rfl, rfl⟩
 refine Z7 (bF e3 rfl) (Y6 (X1 (Z0 (Z3 (vI a3) (by exact b8) rfl ?_))))
 refine W2 (a3 + 1) rfl rfl (IntWalk.i64_in _ (by omega)) rfl (Z5 (vI (a3 + 1)) rfl rfl (Z2 ?_))
 exact f8 _ _ ⟨(a3 + 1), a5, l3, b2, b0, a6, Z4, hS, (by omega), a7, b3, c5, c1, d0, rfl⟩
 refine Z7 (bF e1 rfl) ?_
 refine X7 rfl ?_
 obtain rfl := oi a6
 exact l1 _ _ ⟨a5, h9, b2, b0, rfl, Z4, hS, a7, d0⟩
 exact ⟨0, ([] : List (List Int)), k9, l0, f7, a6, Z4, hS, (by omega), h8, b3, e6, rfl, rfl, rfl⟩
 rintro _ _ ⟨b6, _, c3, b9, rfl, Z4, hS, d6, e8⟩
 dsimp only [Ex.elim] at d5
 refine Z1 (Z0 (Z3 (b9) (by exact e8) rfl ?_))
 obtain ⟨_, j7, hS, j8⟩ := d6.freeze hS
 have Z4 := Z4.trans j7
 obtain ⟨_, j9, d5⟩ := bind_some d5
 refine X3 call136 (R3 rfl) rfl (Yc8 j9 j8 hS) ?_
 rintro g0 _ _ k0 hS k1
 have Z4 := Z4.trans k0
 refine Z5 (g0) rfl rfl (Z2 ?_)
 refine Y9 (vs := [g0]) func176 ⟨rfl, trivial⟩ ?_
 obtain rfl := oi d5
 exact ⟨_, _, rfl, Z4, hS, k1⟩
end Go.Proofs.YtabofnehiclkiaaGreat
