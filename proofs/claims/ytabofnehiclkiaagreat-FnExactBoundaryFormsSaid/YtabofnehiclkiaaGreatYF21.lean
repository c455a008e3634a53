/- Walks of functions: each computes its pure function, if that gives a value. -/
import Derived.Test.YtabofnehiclkiaaGreatYF20
import Derived.Test.YtabofnehiclkiaaGreatYF10
namespace Go.Proofs.YtabofnehiclkiaaGreat
open Go
set_option linter.unusedSimpArgs false
set_option linter.unusedVariables false
set_option maxRecDepth 100000
set_option maxHeartbeats 8000000
variable {K : Nat} {H : FH} {w : World} {L : OL} {s0 s1 s2 s3 s4 s5 s6 : Value}
def Zy8 (n i : Nat) : List Int := (List.replicate n 0).set i 1
/-- the rows from the i-th on, each with its unit row behind it -/
def Zp6 (n : Nat) : Nat → List (List Int) → List (List Int)
 | _, [] => []
 | i, r :: rs => (r ++ Zy8 n i) :: Zp6 n (i + 1) rs
def Yt5 (K width : Nat) : List (List Int) → List (List Int) → Option (List (List Int))
 | acc, [] => some acc
 | acc, r :: rs => if 0 < r.length ∧ width ≤ r.length then (Zs8 K (r.take width)).bind fun b => Yt5 K width (if b = true then acc ++ [r.drop width] else acc) rs else none
def okK (rows : List (List Int)) (width : Int) : Bool := decide (0 ≤ width ∧ width ≤ 1099511627776 ∧ rows.length ≤ 1099511627776 ∧ ∀ r, r ∈ rows → r.length + rows.length ≤ 1099511627776)
def Zs4 (K : Nat) (rows : List (List Int)) (width : Int) : Option (List (List Int)) :=
 if okK rows width = true then (A9 K (Zp6 rows.length 0 rows)).bind fun R => if R.length ≤ 1099511627776 then (Yt5 K width.toNat [] R).bind fun o => A9 K o else none else none
theorem Xf1 (n : Nat) : ∀ (rs : List (List Int)) (i m : Nat) (hm : m < rs.length), (Zp6 n i rs).take (m + 1) = (Zp6 n i rs).take m ++ [rs[m] ++ Zy8 n (i + m)]
 | [], i, m, hm => by simp at hm
 | r :: rs, i, 0, hm => by simp [Zp6]
 | r :: rs, i, m + 1, hm => by
  have := Xf1 n rs (i + 1) m (by simpa using hm)
  simp only [Zp6, List.take_succ_cons, List.cons_append, List.getElem_cons_succ]
  rw [this, show i + (m + 1) = i + 1 + m by omega]
theorem Yk1 (n : Nat) : ∀ (rs : List (List Int)) (i : Nat), (Zp6 n i rs).length = rs.length
 | [], _ => rfl
 | r :: rs, i => by simp [Zp6, Yk1 n rs]
theorem Y4.take {α : Type} {τ : Ty α} {H : FH} {v : Value} {xs : List α} (h : Y4 τ H v xs) {k : Nat} (hk : k ≤ xs.length) : ∃ a c, v = .slice a xs.length c ∧ Y4 τ H (.slice a k c) (xs.take k) := by
 obtain ⟨a, c, ⟨hv, hl⟩, h⟩ := h
 have hlen : (xs.take k).length = k := by rw [List.length_take]; omega
 refine ⟨a, c, hv, a, c, ⟨by rw [hlen], by rw [hlen]; omega⟩, ?_⟩
 rcases h with rfl | ⟨b, o, cs, E, h1, h2, h3⟩
 exact .inl (by simp)
 refine .inr ⟨b, o, cs, E, h1, h2, fun i x hx => h3 i x ?_⟩
 rw [List.getElem?_take] at hx
 split at hx
 exact hx
 cases hx
theorem Y4.drop {α : Type} {τ : Ty α} {H : FH} {b o c : Nat} {xs : List α} (h : Y4 τ H (.slice (some ⟨b, o, none⟩) xs.length c) xs) {k : Nat} (hk : k ≤ xs.length) (hc : xs.length ≤ c) :
 Y4 τ H (.slice (if c = k then some ⟨b, o, none⟩ else some ⟨b, o + k * τ.size, none⟩) (xs.length - k) (c - k)) (xs.drop k) := by
 obtain ⟨a, c', ⟨hv, hl⟩, h⟩ := h
 cases hv
 refine ⟨_, c - k, ⟨by rw [List.length_drop], by rw [List.length_drop]; omega⟩, ?_⟩
 by_cases e : k = xs.length
 exact .inl (by rw [e, List.drop_length])
 rcases h with rfl | ⟨b', o', cs, E, h1, h2, h3⟩
 exact .inl (by simp)
 cases h1
 rw [if_neg (by omega)]
 refine .inr ⟨b, o + k * τ.size, cs, E, rfl, h2, fun i x hx => ?_⟩
 rw [List.getElem?_drop] at hx
 obtain ⟨ecs, hr, hj⟩ := h3 _ x hx
 refine ⟨ecs, hr, fun j hjs => ?_⟩
 rw [← hj j hjs, Nat.add_mul]
 congr 1; omega
section
variable {P : Program} {n : Nat} {ops : Array Oper} {J : Fr → World → Prop} {r : List Oper} {f : Fr} {w : World} {d : Nat} {T : TypeId} {pos : String} {af : Array Edge}
theorem Y4.addr {α : Type} {τ : Ty α} {H : FH} {v : Value} {xs : List α} (h : Y4 τ H v xs) (h0 : 0 < xs.length) : ∃ b o c, v = .slice (some ⟨b, o, none⟩) xs.length c := by
 obtain ⟨a, c, ⟨hv, _⟩, h⟩ := h
 rcases h with rfl | ⟨b, o, cs, E, rfl, _⟩
 simp at h0
 exact ⟨b, o, c, hv⟩
end
theorem We1 {K : Nat} {a0 : List (List Int)} {a1 : Int} {r : List (List Int)} (q0 : Zs4 K a0 a1 = some r) {H : FH} {w : World} {L : OL} {s0 : Value} (hs0 : Y4 (X4 (Y9 .i64)) H s0 a0) (hS : St H w L) :
 Calls Tryz.prog 152 #[s0, vI a1] w (U6 (fun v G => (∃ b l c, v = .slice (some ⟨b, 0, none⟩) l c) ∧ (R.sl (X4 (Y9 .i64))).p G v r) H L) := by
 unfold Zs4 at q0
 by_cases hok : okK a0 a1 = true
 case neg => rw [if_neg hok] at q0; cases q0
 rw [if_pos hok] at q0
 obtain ⟨R, hR, q0⟩ := bind_some q0
 by_cases hRl : R.length ≤ 1099511627776
 case neg => rw [if_neg hRl] at q0; cases q0
 rw [if_pos hRl] at q0
 obtain ⟨o, hker, hr⟩ := bind_some q0
 obtain ⟨ok1, ok1', ok2, ok3⟩ := of_decide_eq_true hok
 obtain ⟨wd, rfl⟩ := Int.eq_ofNat_of_zero_le ok1
 rw [Int.toNat_natCast] at hker
 clear hok ok1
 refine X1 Tryz.func152 rfl Tryz.ntmps152 rfl ?_
 repeat refine Z1 ?_
 refine Z0 (Z5 (vN) rfl rfl (Z2 ?_))
 repeat refine Z1 ?_
 refine Z0 (Z3 s0 rfl rfl ?_)
 refine X9 T3 rfl hs0 rfl ?_
 refine Yn0 (τ := X4 (Y9 .i64)) T3 Zr6 rfl hS rfl ?_
 intro b1 w1 ho hS
 refine Z5 (vI (a0.length : Int)) rfl rfl (Z5 (.slice (some ⟨b1, 0, none⟩) 0 0) rfl rfl (Z2 ?_))
 repeat refine Z1 ?_
 refine Z0 (Z3 s0 rfl rfl ?_)
 refine X9 T3 rfl hs0 rfl (Z3 (vI 0) rfl rfl (Z2 (Y8 ?_)))
 refine W1 (id := 0) (fun k f w => ∃ (m : Nat) (H1 : FH) (v : Value) (C : OL), m ≤ a0.length ∧ a0.length < m + k ∧ Sub H H1 ∧ St H1 w (C ++ L) ∧ W0 (X4 (Y9 .i64)) 22 H1 v ((Zp6 a0.length 0 a0).take m) C ∧ Y4 (X4 (Y9 .i64)) H1 s0 a0 ∧ tv f 1 = vI (wd : Int) ∧ tv f 5 = vI (a0.length : Int) ∧ tv f 6 = v ∧ tv f 16 = s0 ∧ tv f 17 = vI (a0.length : Int) ∧ tv f 18 = vI (m : Int))
  (fun f w => ∃ (H1 : FH) (v : Value) (C : OL), Sub H H1 ∧ St H1 w (C ++ L) ∧ W0 (X4 (Y9 .i64)) 22 H1 v (Zp6 a0.length 0 a0) C ∧ tv f 1 = vI (wd : Int) ∧ tv f 6 = v) rfl ?_ ?_ (a0.length + 1) ?_ ?_
 rintro f w ⟨m, H1, v, C, h1, h2, _⟩; omega
 rintro k f w ih hx ⟨m, H1, v, C, h1, h2, Z4, hS, ho, hs0, t1, t5, t6, t16, t17, t18⟩
 repeat refine Z1 ?_
 refine Z0 ?_
 refine W9 (k := .i64) (a := m) (b := a0.length) (by exact t18) (by exact t17) rfl (Z2 ?_)
 repeat refine Z1 ?_
 by_cases hm : (m : Int) < (a0.length : Int)
 have hm' : m < a0.length := by omega
 refine Z9 (bT hm rfl) (Y6 ?_)
 repeat refine Z1 ?_
 refine Y8 ?_
 repeat refine Z1 ?_
 refine Z0 (Z3 (vI (m : Int)) (by exact t18) rfl ?_)
 obtain ⟨b, of, cs, E, _, hp, hb, ⟨u, rfl, hu⟩, hc⟩ := hs0.elem (i := (m : Int)) (by omega) hm
 refine X6 T3 rfl (by exact t16) hp (by exact t18) (by omega) hm rfl ?_
 refine Y1 u P6 rfl (hS.froz _ _ hb) (hc 0 (show 0 < 1 by decide)) rfl (Z5 (vI (m : Int)) rfl rfl (Z5 u rfl rfl (Z2 ?_)))
 rw [Zt3 hm', Q7 hm'] at hu
 have hlen := ok3 _ (List.getElem_mem hm')
 repeat refine Z1 ?_
 refine Z0 (Z3 (vI (a0.length : Int)) (by exact t5) rfl ?_)
 refine Ye2 (τ := Y9 .i64) (0 : Int) Yl1 rfl rfl rfl (fun _ => rfl) (by omega) (by omega) hS rfl ?_
 intro v2 w2 C2 ho2 hS
 refine Z5 v2 rfl rfl (Z2 ?_)
 rw [Int.toNat_natCast] at ho2
 repeat refine Z1 ?_
 refine Z0 (Z3 v2 rfl rfl (Z3 (vI (m : Int)) rfl rfl ?_))
 have hm2 : (m : Int) < ((List.replicate a0.length (0 : Int)).length : Int) := by rw [List.length_replicate]; exact hm
 obtain ⟨bv, cv, hv2⟩ := ho2.some (i := (m : Int)) (by omega) hm2
 refine P3 U5 (Eq.trans rfl hv2) rfl (by omega) hm2 rfl ?_
 refine Ze3 (τ := Y9 .i64) (v := v2) (u := vI 1) 1 (i := (m : Int)) rfl ty2 hv2 ho2 hS rfl rfl (by omega) hm2 rfl ?_
 intro w3 C3 ho3 hS
 rw [Int.toNat_natCast] at ho3
 refine Z2 ?_
 repeat refine Z1 ?_
 obtain ⟨H4, s4, hS, hunit⟩ := ho3.freeze hS
 have ho := ho.mono s4
 have hu := hu.mono s4
 have hs0 := hs0.mono s4
 refine Z0 (Z3 v (by exact t6) rfl (Z3 u rfl rfl (Z3 v2 rfl rfl ?_)))
 refine Zd3 (τ := X4 (Y9 .i64)) T3 Zr6 rfl [u, v2] [a0[m], Zy8 a0.length m] rfl rfl (Zy6 rfl rfl) (Ve2 ⟨u, hu.cellsL, hu⟩ ⟨v2, hunit.cellsL, hunit⟩) (by decide) (by decide) hS rfl ?_
 intro u5 H5 w5 s5 hS hl5
 have ho := ho.mono s5
 have hs0 := hs0.mono s5
 have hul : (Zy8 a0.length m).length = a0.length := by unfold Zy8; simp
 have hfl : [a0[m], Zy8 a0.length m].flatten = a0[m] ++ Zy8 a0.length m := by simp
 refine U8 Tryz.call193 (R5 rfl) rfl (Wd9 (K := K) (r := a0[m] ++ Zy8 a0.length m) (by unfold Zg2; rw [hfl, if_pos (by rw [List.length_append, hul]; exact hlen)]) hl5 hS) ?_
 rintro e6 w6 ⟨v6, H6, C6, rfl, s6, hS, ho6⟩
 refine ⟨_, rfl, ?_⟩
 obtain ⟨H7, s7, hS, hcat⟩ := ho6.freeze hS
 have ho := (ho.mono s6).mono s7
 have hs0 := (hs0.mono s6).mono s7
 refine Zd3 (τ := X4 (Y9 .i64)) T3 Zr6 rfl [v6] [a0[m] ++ Zy8 a0.length m] rfl rfl (B0 rfl) (Zm8 ⟨v6, hcat.cellsL, hcat⟩) (by decide) (by decide) hS rfl ?_
 intro u8 H8 w8 s8 hS hl8
 have ho := ho.mono s8
 have hs0 := hs0.mono s8
 have hwl : ((Zp6 a0.length 0 a0).take m).length = m := by rw [List.length_take, Yk1]; omega
 refine K9 (τ := X4 (Y9 .i64)) Yf9 rfl rfl rfl ho hS hl8 (by rw [hwl]; simp; omega) rfl ?_
 intro v9 w9 C9 ho9 hS
 have htk := Xf1 a0.length a0 0 m hm'
 rw [Nat.zero_add] at htk
 rw [← htk] at ho9
 refine Z5 v9 rfl rfl (Z2 (X2 (Z0 ?_)))
 refine W4 ((m : Int) + 1) (by exact t18) rfl (IntWalk.i64_in _ (by omega)) rfl (Z3 (vI ((m : Int) + 1)) rfl rfl (Z2 ?_))
 exact ih _ _ ⟨m + 1, H8, v9, C9, by omega, by omega, ((((Z4.trans s4).trans s5).trans s6).trans s7).trans s8, hS, ho9, hs0, t1, t5, rfl, t16, t17, by show vI ((m : Int) + 1) = vI ((m + 1 : Nat) : Int); rw [Int.natCast_add]; rfl⟩
 refine Z8 (bF hm rfl) (X8 rfl ?_)
 have e : m = a0.length := by omega
 subst e
 rw [List.take_of_length_le (by rw [Yk1]; exact Nat.le_refl _)] at ho
 exact hx _ _ ⟨H1, v, C, Z4, hS, ho, t1, t6⟩
 exact ⟨0, H, _, _, by omega, by omega, .refl _, hS, ho, hs0, rfl, rfl, rfl, rfl, rfl, rfl⟩
 rintro f w ⟨H1, v, C, Z4, hS, ho, t1, t6⟩
 repeat refine Z1 ?_
 refine Z0 ?_
 refine Yn0 (τ := X4 (Y9 .i64)) T3 Zr6 rfl hS rfl ?_
 intro b2 w2 ho2 hS
 refine Z5 (.slice (some ⟨b2, 0, none⟩) 0 0) rfl rfl (Z2 ?_)
 repeat refine Z1 ?_
 obtain ⟨H3, s3, hS, hwide⟩ := ho.freeze hS.swap
 have ho2 := ho2.mono s3
 refine Z0 (Z3 v (by exact t6) rfl ?_)
 refine U8 Tryz.call154 (R5 rfl) rfl (Yn8 hR hwide hS) ?_
 rintro e4 w4 ⟨z, H4, rfl, s4, hS, _, hz⟩
 refine ⟨_, rfl, ?_⟩
 have hz : Y4 (Xe1 (Y9 .i64)) H4 z R := hz
 have ho2 := ho2.mono s4
 have Z4 := (Z4.trans s3).trans s4
 refine X9 T3 rfl hz rfl (Z3 (vI 0) rfl rfl (Z2 (Y8 ?_)))
 refine W1 (id := 2) (fun k f w => ∃ (m : Nat) (acc : List (List Int)) (H1 : FH) (v : Value) (C : OL), m ≤ R.length ∧ R.length < m + k ∧ acc.length ≤ m ∧ Yt5 K wd acc (R.drop m) = some o ∧ Sub H H1 ∧ St H1 w (C ++ L) ∧ W0 (X4 (Y9 .i64)) 22 H1 v acc C ∧ Y4 (Xe1 (Y9 .i64)) H1 z R ∧ tv f 1 = vI (wd : Int) ∧ tv f 10 = v ∧ tv f 38 = z ∧ tv f 39 = vI (R.length : Int) ∧ tv f 40 = vI (m : Int))
  (fun f w => ∃ (H1 : FH) (v : Value) (C : OL), Sub H H1 ∧ St H1 w (C ++ L) ∧ W0 (X4 (Y9 .i64)) 22 H1 v o C ∧ tv f 10 = v) rfl ?_ ?_ (R.length + 1) ?_ ?_
 rintro f w ⟨m, acc, H1, v, C, h1, h2, _⟩; omega
 rintro k f w ih hx ⟨m, acc, H1, v, C, h1, h2, hal, heq, Z4, hS, ho, hz, t1, t10, t38, t39, t40⟩
 repeat refine Z1 ?_
 refine Z0 ?_
 refine W9 (k := .i64) (a := m) (b := R.length) (by exact t40) (by exact t39) rfl (Z2 ?_)
 repeat refine Z1 ?_
 by_cases hm : (m : Int) < (R.length : Int)
 have hm' : m < R.length := by omega
 rw [show R.drop m = R[m] :: R.drop (m + 1) from (List.getElem_cons_drop ..).symm, Yt5] at heq
 by_cases hg : 0 < R[m].length ∧ wd ≤ R[m].length
 case neg => rw [if_neg hg] at heq; cases heq
 rw [if_pos hg] at heq
 obtain ⟨g1, g2⟩ := hg
 obtain ⟨zb, hzb, heq⟩ := bind_some heq
 refine Z9 (bT hm rfl) (Y6 ?_)
 repeat refine Z1 ?_
 refine Y8 ?_
 repeat refine Z1 ?_
 refine Z0 ?_
 obtain ⟨b, of, cs, E, _, hp, hb, ⟨u, rfl, hu, hcap⟩, hc⟩ := hz.elem (i := (m : Int)) (by omega) hm
 refine X6 T3 rfl (by exact t38) hp (by exact t40) (by omega) hm rfl ?_
 refine Y1 u P6 rfl (hS.froz _ _ hb) (hc 0 (show 0 < 1 by decide)) rfl (Z5 u rfl rfl (Z2 ?_))
 rw [Zt3 hm', Q7 hm'] at hu hcap
 obtain ⟨ub, uo, uc, huv⟩ := hu.addr g1
 have huc : R[m].length ≤ uc := by
  obtain ⟨a', c', h3, h4⟩ := hcap
  rw [huv] at h3; cases h3; exact h4
 have htake : Y4 (Y9 .i64) H1 (.slice (some ⟨ub, uo, none⟩) wd uc) (R[m].take wd) := by
  obtain ⟨a', c', h3, h4⟩ := hu.take g2
  rw [huv] at h3; cases h3; exact h4
 repeat refine Z1 ?_
 refine Z0 (Z3 u rfl rfl (Z3 (vI (wd : Int)) (by exact t1) rfl ?_))
 refine Yu2 U5 (show u = _ from huv) rfl (by omega) rfl ?_
 refine X3 Tryz.call87 (R5 rfl) rfl (Yz6 hzb htake hS) ?_
 rintro _ G w6 sG hS rfl
 have ho := ho.mono sG
 have hz := hz.mono sG
 have hu := hu.mono sG
 refine Z2 ?_
 repeat refine Z1 ?_
 cases zb with
 | true =>
  rw [if_pos rfl] at heq
  refine Z9 rfl ?_
  repeat refine Z1 ?_
  refine Z0 (Z3 v (by exact t10) rfl (Z3 u rfl rfl (Z3 (vI (wd : Int)) (by exact t1) rfl ?_)))
  refine Xl5 U5 (show u = _ from huv) rfl g2 rfl ?_
  rw [huv] at hu
  have hdrop := hu.drop g2 huc
  refine Zd3 (τ := X4 (Y9 .i64)) T3 Zr6 rfl [_] [R[m].drop wd] rfl rfl (B0 rfl) (Zm8 ⟨_, hdrop.cellsL, hdrop⟩) (by decide) (by decide) hS rfl ?_
  intro u8 H8 w8 s8 hS hl8
  have ho := ho.mono s8
  have hz := hz.mono s8
  refine K9 (τ := X4 (Y9 .i64)) Yf9 rfl rfl rfl ho hS hl8 (by simp; omega) rfl ?_
  intro v9 w9 C9 ho9 hS
  refine Z5 v9 rfl rfl (Z2 (X2 (Z0 ?_)))
  refine W4 ((m : Int) + 1) (by exact t40) rfl (IntWalk.i64_in _ (by omega)) rfl (Z3 (vI ((m : Int) + 1)) rfl rfl (Z2 ?_))
  exact ih _ _ ⟨m + 1, _, H8, v9, C9, by omega, by omega, by simp; omega, heq, (Z4.trans sG).trans s8, hS, ho9, hz, t1, rfl, t38, t39, by show vI ((m : Int) + 1) = vI ((m + 1 : Nat) : Int); rw [Int.natCast_add]; rfl⟩
 | false =>
  rw [if_neg (by decide)] at heq
  refine Z8 rfl (Y6 (X2 (Z0 ?_)))
  refine W4 ((m : Int) + 1) (by exact t40) rfl (IntWalk.i64_in _ (by omega)) rfl (Z3 (vI ((m : Int) + 1)) rfl rfl (Z2 ?_))
  exact ih _ _ ⟨m + 1, acc, G, v, C, by omega, by omega, by omega, heq, Z4.trans sG, hS, ho, hz, t1, t10, t38, t39, by show vI ((m : Int) + 1) = vI ((m + 1 : Nat) : Int); rw [Int.natCast_add]; rfl⟩
 refine Z8 (bF hm rfl) (X8 rfl ?_)
 have e : m = R.length := by omega
 subst e
 rw [List.drop_length, Yt5] at heq
 obtain rfl := oi heq
 exact hx _ _ ⟨H1, v, C, Z4, hS, ho, t10⟩
 exact ⟨0, [], H4, _, _, by omega, by omega, by simp, hker, Z4, hS, ho2, hz, t1, rfl, rfl, rfl, rfl⟩
 rintro f w ⟨H1, v, C, Z4, hS, ho, t10⟩
 repeat refine Z1 ?_
 obtain ⟨H3, s3, hS, hrd⟩ := ho.freeze hS
 refine Z0 (Z3 v (by exact t10) rfl ?_)
 refine U8 Tryz.call154 (R5 rfl) rfl (Yn8 hr hrd hS) ?_
 rintro e4 w4 ⟨y, H4, rfl, s4, hS, hyn, hy⟩
 refine ⟨_, rfl, ?_⟩
 refine Z5 y rfl rfl (Z2 ?_)
 exact X0 (vs := [y]) Tryz.func152 ⟨rfl, trivial⟩ ⟨_, _, rfl, (Z4.trans s3).trans s4, hS, hyn, Y4.ofCap hy⟩
end Go.Proofs.YtabofnehiclkiaaGreat
