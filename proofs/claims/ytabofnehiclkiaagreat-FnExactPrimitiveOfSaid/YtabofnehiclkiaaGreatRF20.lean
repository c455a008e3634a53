/- Walk, rules and plain laws. -/
import Derived.Test.YtabofnehiclkiaaGreatRF19
namespace Go.Proofs.YtabofnehiclkiaaGreat
open Go Go.Proofs.Tryz IntKind IntWalk List
set_option linter.all false
set_option maxRecDepth 100000
set_option maxHeartbeats 8000000
variable {K : Nat} {H : FH} {w : World} {L : OL} {s0 s1 s2 s3 s4 s5 s6 : Value}
def lsN (K : Nat) (M : List A8) : List Int → Nat → MpT → Option MpT
  | [], _, s => some s
  | n :: ns, i, s => if i < M.length then (T7 K s (rd M (i : Int)) n).bind fun s' => lsN K M ns (i + 1) s' else none
def Zu7 (K : Nat) (M : List A8) (row : List Int) : Option MpT := lsN K M row 0 []
theorem Ws9 {K : Nat} {M : List A8} {a1 : List Int} {r : MpT} (q0 : Zu7 K M a1 = some r) {H : FH} {w : World} {L : OL} {bl : Nat} {cs : Array Value} {v0 s1 : Value} (hb : (bl, Obj.cells cs 102) ∈ L) (h0 : cs[0]? = some v0)
    (hv0 : Y3 (Q5 .i64) H v0 M) (hs1 : Y3 (Y4 .i64) H s1 a1) (hS : St H w L) :
    Calls prog 156 #[vP bl, s1] w (Xt4 .i64 r H L) := by
  have hb1 := hs1.bound
  refine X0 func156 U ntmps156 U ?_
  repeat refine Z1 ?_
  refine Z0 (Z5 (.map none) U U (Z2 ?_))
  repeat refine Z1 ?_
  refine Z0 (Yi9 (k := .i64) hS U (fun mv w1 C1 ho hS => Z5 mv U U (Z2 ?_)))
  repeat refine Z1 ?_
  refine Z0 (Z3 s1 U U (X9 T1 U hs1 U (Z3 (vI 0) U U (Z2 (Y8 ?_)))))
  refine W3 (id := 0) (fun k f w => ∃ (m : Nat) (s : MpT) (H1 : FH) (C : OL), m ≤ a1.length ∧ a1.length < m + k ∧ lsN K M (a1.drop m) m s = some r ∧ Sub H H1 ∧ St H1 w (C ++ L) ∧ Q8 .i64 mv s C ∧ tv f 0 = vP bl ∧ tv f 5 = mv ∧ tv f 9 = s1 ∧ tv f 10 = vI (a1.length : Int) ∧ tv f 11 = vI (m : Int))
    (fun f w => ∃ H1 C, Sub H H1 ∧ St H1 w (C ++ L) ∧ Q8 .i64 mv r C ∧ tv f 5 = mv) U ?_ ?_ (a1.length + 1) ?_ ?_
  · rintro f w ⟨m, s, H1, C, h1, h2, _⟩; omega
  · rintro k f w ih hx ⟨m, s, H1, C, h1, h2, heq, Z4, hS, ho, t0, t5, t9, t10, t11⟩
    repeat refine Z1 ?_
    refine Z0 (V4 (k := .i64) (a := m) (b := a1.length) (by exact t11) (by exact t10) U (Z2 ?_))
    repeat refine Z1 ?_
    by_cases hm : (m : Int) < (a1.length : Int)
    · have hm' : m < a1.length := by omega
      rw [show a1.drop m = a1[m] :: a1.drop (m + 1) from (getElem_cons_drop ..).symm, lsN] at heq
      by_cases hg : m < M.length
      case neg => rw [if_neg hg] at heq; cases heq
      rw [if_pos hg] at heq
      obtain ⟨s', hs', heq⟩ := bSm heq
      refine Z8 (bT hm U) (Y6 ?_)
      repeat refine Z1 ?_
      refine Y8 ?_
      repeat refine Z1 ?_
      refine Z0 (Z3 (vI (m : Int)) (by exact t11) U ?_)
      obtain ⟨bb, of, cs2, E, _, hp, hbb, hu, hc⟩ := (hs1.mono Z4).elem (i := (m : Int)) (by omega) hm
      refine X6 T1 U (by exact t9) hp (by exact t11) (by omega) hm U ?_
      have hrd : rd a1 (m : Int) = a1[m] := by unfold rd; rw [Int.toNat_natCast, P2 hm']
      rw [hrd] at hu
      cases hu
      refine Y1 (vI a1[m]) ty2 U (hS.froz _ _ hbb) (hc 0 (show 0 < 1 by decide)) U (Z5 (vI (m : Int)) U U (Z5 (vI a1[m]) U U (Z2 ?_)))
      repeat refine Z1 ?_
      refine Z0 (Z3 mv (by exact t5) U (Z3 (vP bl) (by exact t0) U (V0 U U (Y2 Zs2 U U (Y1 v0 Yh6 U (hS.own _ (mR hb)) h0 U (Z3 (vI (m : Int)) U U ?_))))))
      obtain ⟨_, _, _, _, _, hp1, hp2, rfl, hp3⟩ := (hv0.mono Z4).elem (i := (m : Int)) (by omega) (by omega)
      refine X6 Zv1 U U hp1 U (by omega) (by omega) U (U0 (Z7 .i64 (rd M (m : Int))) P3 U (hS.froz _ _ hp2) U hp3 U (Z3 (vI a1[m]) U U (U9 call217 (I3 U U U) U (Yb0 hs' ho hS) ?_)))
      rintro _ w2 ⟨H2, C2, rfl, s2, hS, ho⟩
      refine ⟨_, U, Z2 (X1 (Z0 ?_))⟩
      refine W4 ((m : Int) + 1) (by exact t11) U (i64_in _ (by omega)) U (Z3 (vI ((m : Int) + 1)) U U (Z2 (ih _ _ ⟨m + 1, s', H2, C2, by omega, by omega, heq, Z4.trans s2, hS, ho, t0, t5, t9, t10, by show vI ((m : Int) + 1) = vI ((m + 1 : Nat) : Int); rw [Int.natCast_add]; rfl⟩)))
    · refine Z6 (bF hm U) (W2 U ?_)
      have e : m = a1.length := by omega
      subst e
      rw [drop_length, lsN] at heq
      obtain rfl := oi heq
      exact hx _ _ ⟨H1, C, Z4, hS, ho, t5⟩
  · exact ⟨0, [], H, C1, by omega, by omega, q0, .refl _, hS, ho, U, U, U, U, U⟩
  · rintro f w ⟨H1, C, Z4, hS, ho, t5⟩
    repeat refine Z1 ?_
    refine Z0 (Z3 mv (by exact t5) U (Z5 mv U U (Z2 (Y9 (vs := [mv]) func156 Ut ⟨_, _, _, U, Z4, hS, ho⟩))))
def Wk6 (K : Nat) (x : AlX) (n : Int) (sm : MpT) : Option Bool :=
  (Yq1 K x n).bind fun r => (lv0 K x n).bind fun M => (F3 K M sm).bind fun row => (Zd5 K row r.2.1).bind fun q => Zl4 K q
def Vl6 (K : Nat) (x : AlX) (p : Value) (S : List Lvl) (P : FH → Value → Prop) (H : FH) (L : OL) : Ending → World → Prop := fun e w' => ∃ v S' H' C', e = .returned v ∧ P H' v ∧ Sub H H' ∧ St H' w' (C' ++ L) ∧ Cx H' p x S' C' ∧ Zt0 K x H' S' ∧ Yj2 K x H' S' ∧ Yg9 S S'
theorem Vf7 {K : Nat} {x : AlX} {n : Int} {sm : MpT} {b : Bool} (q0 : Wk6 K x n sm = some b) {H : FH} {w : World} {L C : OL} {p s2 : Value} {S : List Lvl} (hC : Cx H p x S C) (hA : Zt0 K x H S) (hA3 : Yj2 K x H S) (hs2 : N0 .i64 H s2 sm) (hS : St H w (C ++ L)) :
    Calls prog 109 #[p, vI n, s2] w (Vl6 K x p S (fun _ v => v = vB b) H L) := by
  obtain ⟨r, hr, q0⟩ := bSm q0
  obtain ⟨M, hM, q0⟩ := bSm q0
  obtain ⟨row, hrow, q0⟩ := bSm q0
  obtain ⟨q, hq, hz⟩ := bSm q0
  refine X0 func109 U ntmps109 U ?_
  repeat refine Z1 ?_
  refine Z0 (Z5 (vB false) U U (Z2 ?_))
  repeat refine Z1 ?_
  refine Z0 (Z3 p U U (Z3 (vI n) U U (U9 call84 (W8 U U) U (Wz1 hr hC hA hA3 hS) ?_)))
  rintro _ w1 ⟨i, u, S1, H1, C1, rfl, s1, hS, hC1, hi, hun, ⟨hn3, hc4, hc5, _⟩, hA1, hB1, hX1⟩
  refine ⟨_, U, ?_⟩
  refine Z5 (vP u.b) U U (Z2 ?_)
  repeat refine Z1 ?_
  have hC2 := hC1
  obtain ⟨bp, bm, ap, es, clk, rfl, hbox, hap, rfl, hes⟩ := hC1
  have hbl : ∀ {L' : OL}, u.chunk ∈ ((bm, Obj.map es clk) :: S1.map Lvl.chunk) ++ L' := mem_append_left _ (mem_cons_of_mem _ (mem_map.2 ⟨u, mem_of_getElem? hi, U⟩))
  generalize hCR : (bm, Obj.map es clk) :: S1.map Lvl.chunk = CR at hbl hS hC2
  obtain ⟨Mu, hMu, hv0, hv1⟩ := (hA1 i u hi).1
  rw [hun, hM] at hMu
  obtain rfl := oi hMu
  have hs2 := hs2.mono s1
  refine Zc7 fun f0 hf0 => ?_
  have t7 : tv f0 7 = vP u.b := by rw [hf0]; rfl
  have t2 : tv f0 2 = s2 := by rw [hf0]; rfl
  clear hf0
  refine W6 7 (S8 [mE 11 (vP u.b), mE 12 s2, (13, MP.sl (Y4 .i64) row), mE 14 (vP u.b), mE 15 (vP u.b), mE 16 (vQ u.b 4), mE 17 u.c4]) [] mixed U U U hS (K3 (X4 fun S B => Z3 _ (evT (B 7 U) t7) U (qz S)) (X4 fun S B => Z3 _ (evT (B 2 U) t2) U (qz S)) ?_ ?_ (L7 ?_ ?_ (I2 ?_ W9))) ?_
  · intro f w G X s' S B V hcq
    refine X2 call191 (W8 (eM (V 0 11 U U)) (eM (V 1 12 U U))) U ((Xy1 (bl := u.b) (cs := u.cs) hrow (mR hbl) U U (hv0.mono s') (hv1.mono s') (hs2.mono s') S).mono fun _ _ => Ye1.done) ?_
    rintro v G2 w2 s2' S2 hv
    exact qn s2' U S2 hv
  · exact X4 fun S B => Z3 _ (evT (B 7 U) t7) U (qz S)
  · exact Y7 fun S V => V0 (eM (V 3 14 U U)) U (qz S)
  · exact Y7 fun S V => Y2 Xf4 (eM (V 4 15 U U)) U (qz S)
  · exact Y7 fun S V => Y1 u.c4 Zp5 (eM (V 5 16 U U)) (S.own u.chunk (mR hbl)) U U (qz S)
  intro f2 w2 H2 s2' hS hB hV hcq
  have hr13 : Y3 (Y4 .i64) H2 (f2 13) row := hV 2 13 (by decide) U
  have hS := hS.dA
  refine X2 call155 (W8 U (eM (hV 6 17 (by decide) U))) U (Zy3 hq hr13 (hc4.mono s2') hS) ?_
  rintro y H5 w5 s5 hS hy
  refine X2 call87 (S4 U) U (Yo3 hz hy hS) ?_
  rintro _ G w6 sG hS rfl
  refine Z5 (vB b) U U (Z2 ?_)
  have s6 := (s2'.trans s5).trans sG
  exact Y9 (vs := [vB b]) func109 Ut ⟨_, S1, G, CR, U, U, s1.trans s6, hS, hC2.mono s6, hA1.mono s6, hB1.mono s6, hX1⟩
def lkO : Lk := ⟨8, 0, 22, 8, fun _ u v => v = u, fun _ h => h⟩
theorem nk1 {j : Nat} {G : FH} {f : Fr} {v : Value} (h : Nat.beq j 8 = false) : ∀ lk, lk ∈ [lkO] → j = lk.k → lk.q G (f lk.e) v := fun lk hl e => by
  cases mem_singleton.1 hl
  exact absurd e (Nat.ne_of_beq_eq_false h)
def MP.tt : MP := ⟨fun _ _ => True, fun _ h => h, fun _ => []⟩
def prL (K w : Nat) : List Int → List (List Int) → Option (List Int)
  | t, [] => some t
  | t, r :: rs => (Zr6 K r).bind fun k => if k < (w : Int) then if 0 ≤ k ∧ k < t.length ∧ r.length ≤ t.length then prL K w (tkN t r (rd t k) r.length) rs else none else prL K w t rs
def okP (M M' : List A8) (mat : List (List Int)) : Bool := decide (M.length ≤ 1099511627776 ∧ M'.length + M.length ≤ 1099511627776 ∧ mat.length ≤ M.length ∧ ∀ r, r ∈ mat → r.length + M.length ≤ 1099511627776)
def Xj0 (K : Nat) (x : AlX) (n : Int) (sm : MpT) : Option MpT :=
  if -1099511627776 ≤ n ∧ n ≤ 1099511627776 then (Yq1 K x (n - 1)).bind fun r => (Ye5 K x (n - 1)).bind fun mat => (lv0 K x (n - 1)).bind fun M => (lv0 K x n).bind fun M' =>
    if okP M M' mat = true then (F3 K M' sm).bind fun row => (B9 K (R6 M.length 0 mat)).bind fun R => if R.length ≤ 1099511627776 then
      (prL K M'.length (row ++ replicate M.length 0) R).bind fun t => if t.length = M'.length + M.length then
        (Zd5 K (tkN (replicate M.length 0) (t.drop M'.length) 1 M.length) r.1).bind fun q => Zu7 K M q else none else none else none else none
def Vk5 (K : Nat) (x : AlX) (p : Value) (S : List Lvl) (r : MpT) (H : FH) (L : OL) : Ending → World → Prop := fun e w' => ∃ v S' H' C' C, e = .returned v ∧ Q8 .i64 v r C ∧ Sub H H' ∧ St H' w' (C ++ (C' ++ L)) ∧ Cx H' p x S' C' ∧ Zt0 K x H' S' ∧ Yj2 K x H' S' ∧ Yg9 S S'
theorem Vc8 {K : Nat} {x : AlX} {n : Int} {sm r : MpT} (q0 : Xj0 K x n sm = some r) {H : FH} {w : World} {L C : OL} {p s2 : Value} {S : List Lvl} (hC : Cx H p x S C) (hA : Zt0 K x H S) (hA3 : Yj2 K x H S) (hs2 : N0 .i64 H s2 sm) (hS : St H w (C ++ L)) :
    Calls prog 111 #[p, vI n, s2] w (Vk5 K x p S r H L) := by
  unfold Xj0 at q0
  by_cases hg : -1099511627776 ≤ n ∧ n ≤ 1099511627776
  case neg => rw [if_neg hg] at q0; cases q0
  rw [if_pos hg] at q0
  obtain ⟨cl, hcl, q0⟩ := bSm q0
  obtain ⟨mat, hmat, q0⟩ := bSm q0
  obtain ⟨M, hM, q0⟩ := bSm q0
  obtain ⟨M', hM', q0⟩ := bSm q0
  by_cases hok : okP M M' mat = true
  case neg => rw [if_neg hok] at q0; cases q0
  rw [if_pos hok] at q0
  obtain ⟨row, hrow, q0⟩ := bSm q0
  obtain ⟨R, hR, q0⟩ := bSm q0
  by_cases hRl : R.length ≤ 1099511627776
  case neg => rw [if_neg hRl] at q0; cases q0
  rw [if_pos hRl] at q0
  obtain ⟨t, ht, q0⟩ := bSm q0
  by_cases htl : t.length = M'.length + M.length
  case neg => rw [if_neg htl] at q0; cases q0
  rw [if_pos htl] at q0
  obtain ⟨q, hq, hsum⟩ := bSm q0
  obtain ⟨k1, k2, k3, k4⟩ := of_decide_eq_true hok
  have hrl : row.length = M'.length := by
    unfold F3 at hrow
    by_cases h : Xv1 M' sm = true
    · rw [if_pos h] at hrow; rw [← Option.some.inj hrow]; simp [Zc8]
    · rw [if_neg h] at hrow; cases hrow
  have hn1 : i64.wrap (n - 1) = n - 1 := i64_in _ (by omega)
  refine X0 func111 U ntmps111 U ?_
  repeat refine Z1 ?_
  refine Z0 (Z5 (.map none) U U (Z2 ?_))
  repeat refine Z1 ?_
  refine Z0 (Z3 p U U (Z3 (vI n) U U (Zg8 (n - 1) U U hn1 U (U9 call84 (W8 U U) U (Wz1 hcl hC hA hA3 hS) ?_))))
  rintro _ w1 ⟨i, u, S1, H1, C1, rfl, s1, hS, hC1, hi, hun, ⟨hn3, hc4, hc5, hmx⟩, hA1, hB1, hX1⟩
  refine ⟨_, U, ?_⟩
  have hmm := hmx mat hmat
  refine Z5 (vP u.b) U U (Z2 ?_)
  repeat refine Z1 ?_
  have hC2 := hC1
  obtain ⟨bp, bm, ap, es, clk, rfl, hbox, hap, rfl, hes⟩ := hC1
  have hbl : ∀ {L' : OL} {k : Nat} {u : Lvl}, S1[k]? = some u → u.chunk ∈ ((bm, Obj.map es clk) :: S1.map Lvl.chunk) ++ L' := fun h => mem_append_left _ (mem_cons_of_mem _ (mem_map.2 ⟨_, mem_of_getElem? h, U⟩))
  have hbm : ∀ {L' : OL}, (bm, Obj.map es clk) ∈ ((bm, Obj.map es clk) :: S1.map Lvl.chunk) ++ L' := mem_append_left _ (mem_cons_self ..)
  generalize hCR : (bm, Obj.map es clk) :: S1.map Lvl.chunk = CR at hbl hbm hS hC2
  have hu : ∀ {L' : OL}, u.chunk ∈ CR ++ L' := hbl hi
  obtain ⟨Mu, hMu, hv0, hv1⟩ := (hA1 i u hi).1
  rw [hun, hM] at hMu
  obtain rfl := oi hMu
  have hs2 := hs2.mono s1
  have hhas : Yl9 S1 n := by
    rcases (hA1 i u hi).2 with h | ⟨_, h⟩
    · obtain ⟨⟨b, o, l, c, h2⟩, _⟩ := hmm
      rw [h] at h2; cases h2
    · rw [hun, Int.sub_add_cancel] at h; exact h
  refine Zc7 fun f0 hf0 => ?_
  have t0 : tv f0 0 = vP bp := by rw [hf0]; rfl
  have t1 : tv f0 1 = vI n := by rw [hf0]; rfl
  have t2 : tv f0 2 = s2 := by rw [hf0]; rfl
  have t7 : tv f0 7 = vP u.b := by rw [hf0]; rfl
  clear hf0
  refine Wp2 9 (S8 [(22, MP.lit0), mE 23 (vP bp), mE 24 (vI n), (25, MP.lv S1 n 0), (26, MP.lv S1 n 0), (27, MP.lv S1 n 0), (28, MP.sl (Q5 .i64) M'), mE 29 (vI (M'.length : Int)), (8, MP.tt)]) [] [lkO] mixed U U U hS
    (fun lk h => by cases mem_singleton.1 h; exact ⟨by decide, by decide, rfl, rfl, rfl, by decide, rfl⟩)
    (Ye0 U ?_ (Ye0 U ?_ (Ye0 U ?_ (Ye0 U ?_ (Ye0 U ?_ (Ye0 U ?_ (Ye0 U ?_ (Ye0 U ?_ (Ye0 U ?_ W9))))))))) ?_
  · intro f w G X s' S B V hcq
    refine Wd8 (τ := X3 (Y4 .i64)) T2 Zj1 U S U fun b' w' _ hS => Z2 ⟨22, _, _, U, U, .refl _, hS, ⟨b', U⟩, nk1 U⟩
  · intro f w G X s' S B V hcq
    exact Z3 (vP bp) (evT (B 0 U) t0) U (Z2 ⟨23, _, _, U, U, .refl _, S, U, nk1 U⟩)
  · intro f w G X s' S B V hcq
    exact Z3 (vI n) (evT (B 1 U) t1) U (Z2 ⟨24, _, _, U, U, .refl _, S, U, nk1 U⟩)
  · intro f w G X s' S B V hcq
    refine X2 call153 (W8 (eM (V 1 23 U U)) (eM (V 2 24 U U))) U (Yu2 (s'.1 _ _ hbox) (mR hbm) hes hhas S) ?_
    rintro v G2 w2 s2 S2 hv
    exact Z2 ⟨25, _, _, U, U, s2, S2, hv, nk1 U⟩
  · intro f w G X s' S B V hcq
    obtain ⟨k, t, h1, h2, hv⟩ := V 3 25 U U
    exact V0 (show ev f (.tmp 25) = vP t.b from hv) U (Z2 ⟨26, _, _, U, U, .refl _, S, ⟨k, t, h1, h2, U⟩, nk1 U⟩)
  · intro f w G X s' S B V hcq
    obtain ⟨k, t, h1, h2, hv⟩ := V 4 26 U U
    exact Y2 Zs2 (show ev f (.tmp 26) = vP t.b from hv) U (Z2 ⟨27, _, _, U, U, .refl _, S, ⟨k, t, h1, h2, U⟩, nk1 U⟩)
  · intro f w G X s' S B V hcq
    obtain ⟨k, t, h1, h2, hv⟩ := V 5 27 U U
    obtain ⟨Mt, b1, b2, _⟩ := (hA1 k t h1).1
    rw [h2, hM'] at b1
    cases b1
    exact Y1 t.v0 Yh6 (show ev f (.tmp 27) = vQ t.b 0 from hv) (S.own t.chunk (mR (hbl h1))) U U (Z2 ⟨28, _, _, U, U, .refl _, S, b2.mono s', nk1 U⟩)
  · intro f w G X s' S B V hcq
    have hg : Y3 (Q5 .i64) G (f 28) M' := V 6 28 U U
    exact X9 Zv1 (show ev f (.tmp 28) = f 28 from U) hg U (Z2 ⟨29, _, _, U, U, .refl _, S, U, nk1 U⟩)
  · intro f w G X s' S B V hcq
    exact Z5 (f 22) rfl rfl (Z2 ⟨8, _, _, rfl, rfl, .refl _, S, trivial, fun lk h e => by cases mem_singleton.1 h; exact (rfl : f 22 = f 22)⟩)
  intro fa wa H2 s2' hS hB hV hcq hlk
  obtain ⟨b1, hb1⟩ := hV 0 22 (by decide) U
  have h8 : fa 8 = fa 22 := hlk lkO (mem_singleton.2 U)
  have h8 : tv fa 8 = .slice (some ⟨b1, 0, none⟩) 0 0 := h8.trans hb1
  have hS : St H2 wa ((Wm5 (.cells #[] 22) (fa 22) ++ []) ++ _) := hS
  rw [show fa 22 = _ from hb1] at hS
  have hS : St H2 wa ([(b1, .cells #[] 22)] ++ _) := hS
  have ho : W0 (X3 (Y4 .i64)) 22 H2 (.slice (some ⟨b1, 0, none⟩) 0 0) ([] : List (List Int)) [(b1, .cells #[] 22)] := .inr ⟨b1, 0, #[], U, by simp, by simp [maxLen], by simp, U, by simp⟩
  have t0 : tv fa 0 = vP bp := evT (hB 0 U) t0
  have t1 : tv fa 1 = vI n := evT (hB 1 U) t1
  have t2 : tv fa 2 = s2 := evT (hB 2 U) t2
  have t7 : tv fa 7 = vP u.b := evT (hB 7 U) t7
  refine Z5 (vI (M'.length : Int)) (eM (hV 7 29 (by decide) U)) U (Z2 ?_)
  repeat refine Z1 ?_
  refine Zc7 fun f1 hf1 => ?_
  have t0 : tv f1 0 = vP bp := by rw [hf1]; exact t0
  have t1 : tv f1 1 = vI n := by rw [hf1]; exact t1
  have t2 : tv f1 2 = s2 := by rw [hf1]; exact t2
  have t7 : tv f1 7 = vP u.b := by rw [hf1]; exact t7
  have t8 : tv f1 8 = .slice (some ⟨b1, 0, none⟩) 0 0 := by rw [hf1]; exact h8
  have t9 : tv f1 9 = vI (M'.length : Int) := by rw [hf1]; rfl
  clear hf1
  refine Z0 (Z3 (vP u.b) (by exact t7) U (V0 U U (Y2 Yc9 U U (Y1 u.c2 Zp5 U (hS.own u.chunk (mR hu)) U U (X9 T2 U hmm.2 U (Z3 (vI 0) U U (Z2 (Y8 ?_))))))))
  have hmr := hmm.2.mono s2'
  refine W3 (id := 0) (fun k f w => ∃ (m : Nat) (H3 : FH) (v : Value) (C : OL), m ≤ mat.length ∧ mat.length < m + k ∧ Sub H2 H3 ∧ St H3 w (C ++ (CR ++ L)) ∧ W0 (X3 (Y4 .i64)) 22 H3 v ((R6 M.length 0 mat).take m) C ∧ tv f 0 = vP bp ∧ tv f 1 = vI n ∧ tv f 2 = s2 ∧ tv f 7 = vP u.b ∧ tv f 8 = v ∧ tv f 9 = vI (M'.length : Int) ∧ tv f 33 = u.c2 ∧ tv f 34 = vI (mat.length : Int) ∧ tv f 35 = vI (m : Int))
    (fun f w => ∃ H3 v C, Sub H2 H3 ∧ St H3 w (C ++ (CR ++ L)) ∧ W0 (X3 (Y4 .i64)) 22 H3 v (R6 M.length 0 mat) C ∧ tv f 0 = vP bp ∧ tv f 1 = vI n ∧ tv f 2 = s2 ∧ tv f 7 = vP u.b ∧ tv f 8 = v ∧ tv f 9 = vI (M'.length : Int)) U ?_ ?_ (mat.length + 1) ?_ ?_
  · rintro f w ⟨m, H3, v, C, h1, h2, _⟩; omega
  · rintro k f w ih hx ⟨m, H3, v, C, h1, h2, Z4, hS, ho, t0, t1, t2, t7, t8, t9, t33, t34, t35⟩
    repeat refine Z1 ?_
    refine Z0 (V4 (k := .i64) (a := m) (b := mat.length) (by exact t35) (by exact t34) U (Z2 ?_))
    repeat refine Z1 ?_
    by_cases hm : (m : Int) < (mat.length : Int)
    · have hm' : m < mat.length := by omega
      refine Z8 (bT hm U) (Y6 ?_)
      repeat refine Z1 ?_
      refine Y8 ?_
      repeat refine Z1 ?_
      refine Z0 (Z3 (vI (m : Int)) (by exact t35) U ?_)
      obtain ⟨b, of, cs, E, _, hp, hb, ⟨y, rfl, hy⟩, hc⟩ := (hmr.mono Z4).elem (i := (m : Int)) (by omega) hm
      refine X6 T2 U (by exact t33) hp (by exact t35) (by omega) hm U (Y1 y Q9 U (hS.froz _ _ hb) (hc 0 (show 0 < 1 by decide)) U (Z5 (vI (m : Int)) U U (Z5 y U U (Z2 ?_))))
      rw [Zs9 hm', P2 hm'] at hy
      have hlen := k4 _ (getElem_mem hm')
      repeat refine Z1 ?_
      refine Z0 (Z3 (vP u.b) (by exact t7) U (V0 U U (Y2 Zs2 U U (Y1 u.v0 Yh6 U (hS.own u.chunk (mR hu)) U U (X9 Zv1 U hv0 U (Zz4 (τ := Y4 .i64) (0 : Int) Zx1 U U U (fun _ => rfl) (by omega) (by omega) hS U (fun v2 w2 C2 ho2 hS => Z5 v2 U U (Z2 ?_))))))))
      rw [Int.toNat_natCast] at ho2
      repeat refine Z1 ?_
      refine Z0 (Z3 v2 U U (Z3 (vI (m : Int)) U U ?_))
      have hm2 : (m : Int) < ((replicate M.length (0 : Int)).length : Int) := by rw [length_replicate]; omega
      obtain ⟨bv, cv, hv2⟩ := ho2.some (i := (m : Int)) (by omega) hm2
      refine Q3 T1 (Eq.trans U hv2) U (by omega) hm2 U (Za9 (τ := Y4 .i64) (v := v2) (u := vI 1) 1 (i := (m : Int)) U ty2 hv2 ho2 hS U U (by omega) hm2 U ?_)
      intro w3 C3 ho3 hS
      rw [Int.toNat_natCast] at ho3
      refine Z2 ?_
      repeat refine Z1 ?_
      obtain ⟨H4, s4, hS, hunit⟩ := ho3.freeze hS
      have ho := ho.mono s4
      have hy := hy.mono s4
      refine Z0 (Z3 v (by exact t8) U (Z3 y U U (Z3 v2 U U (Zc4 (τ := X3 (Y4 .i64)) T2 Zj1 U [y, v2] [mat[m], Zk8 M.length m] U U (Yc0 U U) (Vi1 ⟨y, hy.cellsL, hy⟩ ⟨v2, hunit.cellsL, hunit⟩) (by decide) (by decide) hS U ?_))))
      intro u5 H5 w5 s5 hS hl5
      have ho := ho.mono s5
      have hul : (Zk8 M.length m).length = M.length := by unfold Zk8; simp
      have hfl : [mat[m], Zk8 M.length m].flatten = mat[m] ++ Zk8 M.length m := by simp
      refine U9 call193 (S4 U) U (Xh1 (K := K) (r := mat[m] ++ Zk8 M.length m) (by unfold Zc2; rw [hfl, if_pos (by rw [length_append, hul]; exact hlen)]) hl5 hS) ?_
      rintro e6 w6 ⟨v6, H6, C6, rfl, s6, hS, ho6⟩
      refine ⟨_, U, ?_⟩
      obtain ⟨H7, s7, hS, hcat⟩ := ho6.freeze hS
      have ho := (ho.mono s6).mono s7
      refine Zc4 (τ := X3 (Y4 .i64)) T2 Zj1 U [v6] [mat[m] ++ Zk8 M.length m] U U (D3 U) (Zl6 ⟨v6, hcat.cellsL, hcat⟩) (by decide) (by decide) hS U ?_
      intro u8 H8 w8 s8 hS hl8
      have ho := ho.mono s8
      have hwl : ((R6 M.length 0 mat).take m).length = m := by rw [length_take, Zr2]; omega
      refine N2 (τ := X3 (Y4 .i64)) Ya0 U U U ho hS hl8 (by rw [hwl]; simp; omega) U ?_
      intro v9 w9 C9 ho9 hS
      have htk := Yv6 M.length mat 0 m hm'
      rw [Nat.zero_add] at htk
      rw [← htk] at ho9
      refine Z5 v9 U U (Z2 (X1 (Z0 (W4 ((m : Int) + 1) (by exact t35) U (i64_in _ (by omega)) U (Z3 (vI ((m : Int) + 1)) U U (Z2 (ih _ _ ⟨m + 1, H8, v9, C9, by omega, by omega, ((((Z4.trans s4).trans s5).trans s6).trans s7).trans s8, hS, ho9, t0, t1, t2, t7, U, t9, t33, t34, by show vI ((m : Int) + 1) = vI ((m + 1 : Nat) : Int); rw [Int.natCast_add]; rfl⟩)))))))
    · refine Z6 (bF hm U) (W2 U ?_)
      have e : m = mat.length := by omega
      subst e
      rw [take_of_length_le (by rw [Zr2]; exact Nat.le_refl _)] at ho
      exact hx _ _ ⟨H3, v, C, Z4, hS, ho, t0, t1, t2, t7, t8, t9⟩
  · exact ⟨0, H2, _, _, by omega, by omega, .refl _, hS, ho, t0, t1, t2, t7, t8, t9, U, U, U⟩
  · rintro f1 w ⟨H3, v, C, Z4, hS, ho, t0, t1, t2, t7, t8, t9⟩
    repeat refine Z1 ?_
    obtain ⟨H4, s4, hS, hwide⟩ := ho.freeze hS
    have s13 := (s2'.trans Z4).trans s4
    have hs2 := hs2.mono s13
    have hbox := s13.1 _ _ hbox
    have hA4 := hA1.mono s13
    refine Xp8 10 (fun t C => S8 [mE 57 (vP bp), mE 58 (vI n), (59, MP.lv S1 n 0), mE 60 s2, (61, MP.own (Y4 .i64) 2 row C), mE 62 (vP u.b), mE 63 (vP u.b), mE 64 (vQ u.b 0), mE 65 u.v0, mE 66 (vI (M.length : Int))] t) [] mixed U U U hS
      (Ze0 U ?_ (Ze0 U ?_ (Ze0 U ?_ (Ze0 U ?_ (Ze0 U ?_ (Ze0 U ?_ (Ze0 U ?_ (Ze0 U ?_ (Ze0 U ?_ (Ze0 U ?_ W9)))))))))) ?_
    · intro G1 f w G X s' S B V hcq
      exact Z3 (vP bp) (evT (B 0 U) t0) U (Z2 ⟨57, _, _, [], U, U, .refl _, S, U⟩)
    · intro G1 f w G X s' S B V hcq
      exact Z3 (vI n) (evT (B 1 U) t1) U (Z2 ⟨58, _, _, [], U, U, .refl _, S, U⟩)
    · intro G1 f w G X s' S B V hcq
      refine X2 call153 (W8 (eM (V 0 57 U U)) (eM (V 1 58 U U))) U (Yu2 (s'.1 _ _ hbox) (mR hbm) hes hhas S) ?_
      rintro v G2 w2 s2 S2 hv
      exact Z2 ⟨59, _, _, [], U, U, s2, S2, hv⟩
    · intro G1 f w G X s' S B V hcq
      exact Z3 s2 (evT (B 2 U) t2) U (Z2 ⟨60, _, _, [], U, U, .refl _, S, U⟩)
    · intro G1 f w G X s' S B V hcq
      obtain ⟨k, t, h1, h2, hv⟩ := V 2 59 U U
      obtain ⟨Mt, b1, b2, b3⟩ := (hA4 k t h1).1
      rw [h2, hM'] at b1
      cases b1
      refine U9 call191 (W8 (show ev f (.tmp 59) = vP t.b from hv) (eM (V 3 60 U U))) U (Xy1 (bl := t.b) (cs := t.cs) hrow (mR (hbl h1)) U U (b2.mono s') (b3.mono s') (hs2.mono s') S) ?_
      rintro e w2 ⟨v, G2, C2, rfl, s2, S2, ho⟩
      exact ⟨_, U, Z2 ⟨61, _, _, C2, U, U, s2, S2, ho⟩⟩
    · intro G1 f w G X s' S B V hcq
      exact Z3 (vP u.b) (evT (B 7 U) t7) U (Z2 ⟨62, _, _, [], U, U, .refl _, S, U⟩)
    · intro G1 f w G X s' S B V hcq
      exact V0 (eM (V 5 62 U U)) U (Z2 ⟨63, _, _, [], U, U, .refl _, S, U⟩)
    · intro G1 f w G X s' S B V hcq
      exact Y2 Zs2 (eM (V 6 63 U U)) U (Z2 ⟨64, _, _, [], U, U, .refl _, S, U⟩)
    · intro G1 f w G X s' S B V hcq
      exact Y1 u.v0 Yh6 (eM (V 7 64 U U)) (S.own u.chunk (mR hu)) U U (Z2 ⟨65, _, _, [], U, U, .refl _, S, U⟩)
    · intro G1 f w G X s' S B V hcq
      exact X9 Zv1 (eM (V 8 65 U U)) (hv0.mono (s13.trans s')) U (Z2 ⟨66, _, _, [], U, U, .refl _, S, U⟩)
    intro G1 f w H5 s5 hS hB hV hcq
    have hS : St H5 w ((G1 61 ++ []) ++ _) := hS
    obtain ⟨v61, h61⟩ : ∃ v, tv f 61 = v := ⟨_, U⟩
    have ho : W0 (Y4 .i64) 2 H5 v61 row (G1 61) := h61 ▸ (hV 4 61 (by decide) U)
    obtain ⟨C6, hG⟩ : ∃ C, G1 61 = C := ⟨_, U⟩
    rw [hG] at hS ho
    have hS : St H5 w (C6 ++ (CR ++ L)) := by have h := hS; simp only [append_nil] at h; exact h
    have t7 : tv f 7 = vP u.b := evT (hB 7 U) t7
    have t8 : tv f 8 = v := evT (hB 8 U) t8
    have t9 : tv f 9 = vI (M'.length : Int) := evT (hB 9 U) t9
    refine Yp6 (by exact h61) (eM (hV 9 66 (by decide) U)) (by omega) ho hS (by rw [hrl, Int.toNat_natCast]; exact k2) U ?_
    intro v13 w6 C7 ho hS
    rw [Int.toNat_natCast] at ho
    refine Z5 v13 U U (Z2 ?_)
    repeat refine Z1 ?_
    have hwide := hwide.mono s5
    refine Z0 (Z3 v (by exact t8) U (U9 call154 (S4 U) U (Yk2 hR hwide hS) ?_))
    rintro e7 w7 ⟨z, H7, rfl, s7, hS, _, hz⟩
    refine ⟨_, U, ?_⟩
    have hz : Y3 (Xb3 (Y4 .i64)) H7 z R := hz
    have ho := ho.mono s7
    refine X9 T2 U hz U (Z3 (vI 0) U U (Z2 (Y8 ?_)))
    refine W3 (id := 2) (fun k f w => ∃ (m : Nat) (tt : List Int) (H1 : FH) (C : OL), m ≤ R.length ∧ R.length < m + k ∧ prL K M'.length tt (R.drop m) = some t ∧ Sub H7 H1 ∧ St H1 w (C ++ (CR ++ L)) ∧ W0 (Y4 .i64) 2 H1 v13 tt C ∧ tv f 7 = vP u.b ∧ tv f 9 = vI (M'.length : Int) ∧ tv f 13 = v13 ∧ tv f 69 = z ∧ tv f 70 = vI (R.length : Int) ∧ tv f 71 = vI (m : Int))
      (fun f w => ∃ H1 C, Sub H7 H1 ∧ St H1 w (C ++ (CR ++ L)) ∧ W0 (Y4 .i64) 2 H1 v13 t C ∧ tv f 7 = vP u.b ∧ tv f 9 = vI (M'.length : Int) ∧ tv f 13 = v13) U ?_ ?_ (R.length + 1) ?_ ?_
    · rintro f w ⟨m, tt, H1, C, h1, h2, _⟩; omega
    · rintro k f w ih hx ⟨m, tt, H1, C, h1, h2, heq, Z4, hS, ho, t7, t9, t13, t69, t70, t71⟩
      repeat refine Z1 ?_
      refine Z0 (V4 (k := .i64) (a := m) (b := R.length) (by exact t71) (by exact t70) U (Z2 ?_))
      repeat refine Z1 ?_
      by_cases hm : (m : Int) < (R.length : Int)
      · have hm' : m < R.length := by omega
        rw [show R.drop m = R[m] :: R.drop (m + 1) from (getElem_cons_drop ..).symm, prL] at heq
        obtain ⟨l, hl, heq⟩ := bSm heq
        refine Z8 (bT hm U) (Y6 ?_)
        repeat refine Z1 ?_
        refine Y8 ?_
        repeat refine Z1 ?_
        refine Z0 ?_
        obtain ⟨b, of, cs, E, _, hp, hb, ⟨y, rfl, hy, hcap⟩, hc⟩ := (hz.mono Z4).elem (i := (m : Int)) (by omega) hm
        refine X6 T2 U (by exact t69) hp (by exact t71) (by omega) hm U (Y1 y Q9 U (hS.froz _ _ hb) (hc 0 (show 0 < 1 by decide)) U (Z5 y U U (Z2 ?_)))
        rw [Zs9 hm', P2 hm'] at hy
        repeat refine Z1 ?_
        refine Z0 (Z3 y U U (X2 call159 (S4 U) U (Yf4 hl hy hS) ?_))
        rintro _ G w1 hsG hS rfl
        have ho := ho.mono hsG
        have hy := hy.mono hsG
        refine Z5 (vI l) U U (Z2 ?_)
        repeat refine Z1 ?_
        refine Z0 (Z3 (vI l) U U (Z3 (vI (M'.length : Int)) (by exact t9) U (V4 (k := .i64) (a := l) (b := M'.length) U U U (Z2 ?_))))
        repeat refine Z1 ?_
        by_cases hlt : l < (M'.length : Int)
        · rw [if_pos hlt] at heq
          by_cases hg : 0 ≤ l ∧ l < tt.length ∧ R[m].length ≤ tt.length
          case neg => rw [if_neg hg] at heq; cases heq
          rw [if_pos hg] at heq
          obtain ⟨g1, g2, g3⟩ := hg
          refine Z8 (bT hlt U) ?_
          repeat refine Z1 ?_
          refine Z0 (Z3 v13 (by exact t13) U (Z3 y U U (Z3 v13 (by exact t13) U (Z3 (vI l) U U ?_))))
          obtain ⟨b1, c1, hv1⟩ := ho.some g1 g2
          refine Q3 T1 (Eq.trans U hv1) U g1 g2 U (Yz3 (u := vI (rd tt l)) U ty2 hv1 ho hS U g1 g2 (fun _ h => h) U (U9 call194 (I3 U U U) U (Yh4 ho (Rb.ofRd hy) g3 hS) ?_))
          rintro e wi ⟨Gi, Ci, rfl, hsi, hS, ho⟩
          refine ⟨_, U, Z2 ?_⟩
          refine X1 (Z0 (W4 ((m : Int) + 1) (by exact t71) U (i64_in _ (by omega)) U (Z3 (vI ((m : Int) + 1)) U U (Z2 (ih _ _ ⟨m + 1, _, Gi, Ci, by omega, by omega, heq, (Z4.trans hsG).trans hsi, hS, ho, t7, t9, t13, t69, t70, by show vI ((m : Int) + 1) = vI ((m + 1 : Nat) : Int); rw [Int.natCast_add]; rfl⟩)))))
        · rw [if_neg hlt] at heq
          refine Z6 (bF hlt U) (Y6 (X1 (Z0 (W4 ((m : Int) + 1) (by exact t71) U (i64_in _ (by omega)) U (Z3 (vI ((m : Int) + 1)) U U (Z2 (ih _ _ ⟨m + 1, tt, G, C, by omega, by omega, heq, Z4.trans hsG, hS, ho, t7, t9, t13, t69, t70, by show vI ((m : Int) + 1) = vI ((m + 1 : Nat) : Int); rw [Int.natCast_add]; rfl⟩)))))))
      · refine Z6 (bF hm U) (W2 U ?_)
        have e : m = R.length := by omega
        subst e
        rw [drop_length, prL] at heq
        obtain rfl := oi heq
        exact hx _ _ ⟨H1, C, Z4, hS, ho, t7, t9, t13⟩
    · exact ⟨0, _, H7, C7, by omega, by omega, ht, .refl _, hS, ho, t7, t9, U, U, U, U⟩
    · rintro f w ⟨H8, C8, s8, hS, ho, t7, t9, t13⟩
      repeat refine Z1 ?_
      obtain ⟨H9, s9, hS, htr⟩ := ho.freeze hS
      have s19 := (((s13.trans s5).trans s7).trans s8).trans s9
      refine Z0 (Z3 (vP u.b) (by exact t7) U (V0 U U (Y2 Zs2 U U (Y1 u.v0 Yh6 U (hS.own u.chunk hu) U U (X9 Zv1 U (hv0.mono s19) U (Zz4 (τ := Y4 .i64) (0 : Int) Zx1 U U U (fun _ => rfl) (by omega) (by omega) hS U ?_))))))
      intro v17 w9 C9 ho hS
      rw [Int.toNat_natCast] at ho
      refine Z5 v17 U U (Z2 ?_)
      repeat refine Z1 ?_
      refine Z0 (Z3 v17 U U (Z3 v13 (by exact t13) U (Z3 (vI (M'.length : Int)) (by exact t9) U (Yq9 T1 U htr U U (by omega) (by omega) U ?_))))
      intro vd hvd
      rw [Int.toNat_natCast] at hvd
      have hdl : (t.drop M'.length).length = M.length := by rw [length_drop]; omega
      refine U9 call194 (I3 U U U) U (Yh4 ho (Rb.ofRd hvd) (by rw [hdl, length_replicate]; exact Nat.le_refl _) hS) ?_
      rintro e wi ⟨Gi, Ci, rfl, hsi, hS, ho⟩
      refine ⟨_, U, Z2 ?_⟩
      rw [hdl] at ho
      repeat refine Z1 ?_
      obtain ⟨Gj, sj, hS, hown⟩ := ho.freeze hS
      have s29 := (s19.trans hsi).trans sj
      refine Z0 (Z3 (vP u.b) (by exact t7) U (Z3 v17 U U (Z3 (vP u.b) (by exact t7) U (V0 U U (Y2 Yv7 U U (Y1 u.c3 Zp5 U (hS.own u.chunk hu) U U (X2 call155 (W8 U U) U (Zy3 hq hown (hn3.2.mono s29) hS) ?_)))))))
      rintro y Gk wk sk hS hy
      have s39 := s29.trans sk
      refine U9 call156 (W8 U U) U (Ws9 (bl := u.b) (cs := u.cs) hsum hu U (hv0.mono s39) hy hS) ?_
      rintro e wl ⟨mv, Gl, Cl, rfl, sl, hS, hmo⟩
      refine ⟨_, U, ?_⟩
      have s49 := s39.trans sl
      refine Z5 mv U U (Z2 (Y9 (vs := [mv]) func111 Ut ⟨_, S1, Gl, CR, Cl, U, hmo, s1.trans s49, hS, hC2.mono s49, hA1.mono s49, hB1.mono s49, hX1⟩))
def faN (K : Nat) (x : AlX) (f : MpT) : Option (Int × Int) :=
  (Zk3 K x [f]).bind fun c => if c = 0 then (Zh1 K x.1 f).bind fun d => if d.2 = true then if d.1 < 0 then some (d.1, 0) else if 20 < d.1 then some (0, 2) else (arN K x [d.1]).bind fun c => some (d.1, c) else some (0, 5) else some (0, c)
theorem Xy6 {K : Nat} {x : AlX} {fm : MpT} {r : Int × Int} (q0 : faN K x fm = some r) {H : FH} {w : World} {L : OL} {s0 s1 : Value} (hs0 : Zt4 Yw1 H s0 x) (hs1 : Y3 yT H s1 fm) (hS : St H w L) :
    Calls prog 108 #[s0, vA [s1], vB false] w (fun e w' => ∃ p H' C, e = .returned (.tuple #[p, vI r.1, vI r.2]) ∧ Sub H H' ∧ St H' w' (C ++ L) ∧ (r.2 = 0 → Cx H' p x [] C)) := by
  unfold faN at q0
  obtain ⟨c, hc, q0⟩ := bSm q0
  obtain ⟨ab, ao, rfl⟩ := hs0.val
  refine X0 func108 U ntmps108 U ?_
  repeat refine Z1 ?_
  refine Z0 (T8 (v := vA [s1]) [s1].toArray U U hS U ?_)
  intro fb w1 hS
  obtain ⟨G0, b9, hS, a6⟩ := St.freezeBox hS
  have hs0 := hs0.mono b9
  have hs1 := hs1.mono b9
  refine Z5 (.pointer none) U U (Z5 (vI 0) U U (Z5 (vI 0) U U (Z2 ?_)))
  repeat refine Z1 ?_
  refine Z0 (Z3 (vQ ab ao) U U (X5 U7 U (hS.froz _ _ a6) U U (Zc4 (τ := X3 yT) Zm7 Zj8 U [vA [s1]] [fm] U U (D3 U) (Zl6 ⟨s1, U, hs1⟩) (by decide) (by decide) hS U (fun u1 G1 w2 s1' hS hl1 => X2 call79 (W8 U U) U (Yr7 hc (hs0.mono s1') hl1 hS) ?_))))
  rintro _ G2 w3 s2 hS rfl
  refine Z5 (vI c) U U (Z2 ?_)
  have Z4 := (b9.trans s1').trans s2
  repeat refine Z1 ?_
  refine Z0 (Z3 (vI c) U U (L1 (k := .i64) (a := c) (b := 0) U U U (Z2 ?_)))
  repeat refine Z1 ?_
  by_cases hc0 : c = 0
  case neg =>
    rw [if_neg hc0] at q0
    cases q0
    refine Z8 (bO hc0 U) ?_
    repeat refine Z1 ?_
    refine Z0 (Z3 (vI c) U U (Z5 (.pointer none) U U (Z5 (vI 0) U U (Z5 (vI c) U U (Z2 (Y9 (vs := [.pointer none, vI 0, vI c]) func108 ⟨U, U, U, trivial⟩ ⟨.pointer none, G2, [], U, Z4, hS, fun h => absurd h hc0⟩))))))
  rw [if_pos hc0] at q0
  obtain ⟨⟨d, ok⟩, hd, q0⟩ := bSm q0
  refine Z6 (bN hc0 U) (Y6 ?_)
  repeat refine Z1 ?_
  refine Zc7 fun f0 hf0 => ?_
  have t0 : tv f0 0 = vQ ab ao := by rw [hf0]; rfl
  have t2 : tv f0 2 = vB false := by rw [hf0]; rfl
  have t4 : tv f0 4 = vP fb := by rw [hf0]; rfl
  clear hf0
  obtain ⟨_, _, acs, aE, _, hap1, hab, ⟨_, _, rfl, ⟨dv, rfl, hdeg⟩, ⟨fv, rfl, hfms⟩⟩, hac⟩ := (hs0.mono s1').mono s2
  cases hap1
  have a6 := (s1'.trans s2).1 _ _ a6
  have hs1 := hs1.mono (s1'.trans s2)
  refine W6 10 (S8 [mE 21 (vQ ab ao), mE 22 (vQ ab ao), mE 23 (vQ ab ao), mE 24 dv, mE 25 (vA [s1]), mE 26 (.tuple #[vI d, vB ok]), mE 20 (.tuple #[vI d, vB ok]), mE 27 (vI d), mE 28 (vB ok), mE 10 (vI d)]) [] mixed U U U hS (U1 (X4 fun S B => Z3 _ (evT (B 0 U) t0) U (qz S)) (Y7 fun S V => V0 (eM (V 0 21 U U)) U (qz S)) (Y7 fun S V => Y2 Xn6 (eM (V 1 22 U U)) U (qz S)) (P0 fun s S V => Y1 dv Q9 (eM (V 2 23 U U)) (S.froz _ _ (s.1 _ _ hab)) (hac 0 (by decide)) U (qz S)) ?_ ?_ ?_ ?_ (L7 ?_ ?_ W9)) ?_
  · intro f w G X s S B V _
    exact X5 U7 (evT (B 4 U) t4) (S.froz _ _ (s.1 _ _ a6)) U U (qz S)
  · intro f w G X s S B V hcq
    refine X2 call127 (W8 (eM (V 3 24 U U)) (eM (V 4 25 U U))) U (Yi5 hd (hdeg.mono s) (hs1.mono s) S) ?_
    rintro v G2 w2 s2 S2 ⟨v0, v1, rfl, rfl, rfl⟩
    exact qn s2 U S2 U
  · exact Y7 fun S V => Z3 _ (eM (V 5 26 U U)) U (qz S)
  · exact Y7 fun S V => V1 (vI d) (eM (V 6 20 U U)) U U (qz S)
  · exact Y7 fun S V => V1 (vB ok) (eM (V 6 20 U U)) U U (qz S)
  · exact Y7 fun S V => Z5 _ (eM (V 7 27 U U)) U (qz S)
  intro f2 w4 G3 s3 hS hB hV hcq
  have hS := hS.dA
  have Z4 := Z4.trans s3
  refine Z5 (vB ok) (eM (hV 8 28 (by decide) U)) U (Z2 ?_)
  have t10 : tv f2 10 = vI d := eM (hV 9 10 (by decide) U)
  have t0 : tv f2 0 = vQ ab ao := evT (hB 0 U) t0
  have t2 : tv f2 2 = vB false := evT (hB 2 U) t2
  repeat refine Z1 ?_
  refine Zc7 fun f3 hf3 => ?_
  have t0 : tv f3 0 = vQ ab ao := by rw [hf3]; exact t0
  have t2 : tv f3 2 = vB false := by rw [hf3]; exact t2
  have t10 : tv f3 10 = vI d := by rw [hf3]; exact t10
  have t11 : tv f3 11 = vB ok := by rw [hf3]; rfl
  clear hf3 hB hV hcq
  have hs0 : Zt4 Yw1 G3 (vQ ab ao) x := (((hs0.mono s1').mono s2).mono s3)
  cases ok with
  | false =>
    rw [if_neg (show ¬ ((d, false) : Int × Bool).2 = true from fun h => by cases h)] at q0
    cases q0
    refine Z0 (Z3 (vB false) (by exact t11) U (P5 (b := false) U U (Z3 (vB true) U U (Z9 (b' := true) U U U U U U (Z9 (b' := true) U U U U U U (V2 U U U U U (V2 U U U U U (V2 U U U U U (V2 U U U U U (Z9 (b' := true) U U U U U U (W5 (t := true) (vB true) U U U (Z2 ?_))))))))))))
    repeat refine Z1 ?_
    refine Z8 U ?_
    repeat refine Z1 ?_
    refine Z0 (Z5 (.pointer none) U U (Z5 (vI 0) U U (Z5 (vI 5) U U (Z2 (Y9 (vs := [.pointer none, vI 0, vI 5]) func108 ⟨U, U, U, trivial⟩ ⟨.pointer none, G3, [], U, Z4, hS, fun h => absurd h (by decide)⟩)))))
  | true =>
    rw [if_pos U] at q0
    refine Z0 (Z3 (vB true) (by exact t11) U (P5 (b := true) U U (Z3 (vB false) U U (Y0 (b := false) U U U (Z3 (vB false) (by exact t2) U (Y0 (b := false) U U U (Z3 (vB false) U U (Z9 (b' := false) U U U U U U (Z9 (b' := false) U U U U U U (Z9 (b' := false) U U U U U U (Z9 (b' := false) U U U U U U (Y0 (b := false) U U U (W5 (t := false) (vB false) U U U (W5 (t := false) (vB false) U U U (Z2 ?_)))))))))))))))
    repeat refine Z1 ?_
    refine Z6 U (Y6 ?_)
    repeat refine Z1 ?_
    refine Z0 (Z3 (vQ ab ao) (by exact t0) U (U9 call82 (S4 U) U (Xs7 hs0 hS) ?_))
    rintro _ w5 ⟨p, G4, C4, rfl, s4, hS, hC⟩
    refine ⟨_, U, ?_⟩
    have Z4 := Z4.trans s4
    refine Z5 p U U (Z2 ?_)
    repeat refine Z1 ?_
    refine Z0 (Z3 (vI d) (by exact t10) U (V4 (k := .i64) (a := d) (b := 0) U U U (Z2 ?_)))
    repeat refine Z1 ?_
    by_cases hn : d < 0
    · rw [if_pos hn] at q0
      cases q0
      refine Z8 (bT hn U) ?_
      repeat refine Z1 ?_
      refine Z0 (Z3 p U U (Z3 (vI d) (by exact t10) U (Z5 p U U (Z5 (vI d) U U (Z5 (vI 0) U U (Z2 (Y9 (vs := [p, vI d, vI 0]) func108 ⟨U, U, U, trivial⟩ ⟨p, G4, C4, U, Z4, hS, fun _ => hC⟩)))))))
    rw [if_neg hn] at q0
    refine Z6 (bF hn U) (Y6 ?_)
    repeat refine Z1 ?_
    refine Z0 (Z3 (vI d) (by exact t10) U (A0 (k := .i64) (a := d) (b := 20) U U U (Z2 ?_)))
    repeat refine Z1 ?_
    by_cases hb : 20 < d
    · rw [if_pos hb] at q0
      cases q0
      refine Z8 (bT hb U) ?_
      repeat refine Z1 ?_
      refine Z0 (Z5 (.pointer none) U U (Z5 (vI 0) U U (Z5 (vI 2) U U (Z2 (Y9 (vs := [.pointer none, vI 0, vI 2]) func108 ⟨U, U, U, trivial⟩ ⟨.pointer none, G4, C4, U, Z4, hS, fun h => absurd h (by decide)⟩)))))
    rw [if_neg hb] at q0
    obtain ⟨c2, hc2, q0⟩ := bSm q0
    cases q0
    refine Z6 (bF hb U) (Y6 ?_)
    repeat refine Z1 ?_
    refine Z0 (Z3 p U U (Z3 (vI d) (by exact t10) U (Z3 p U U (Z3 (vI d) (by exact t10) U (Zc4 (τ := Y4 .i64) T1 ze2 U [vI d] [d] U U (D3 U) (Zl6 U) (by decide) (by decide) hS U ?_)))))
    intro u5 G5 w6 s5 hS hl5
    have hC5 := hC.mono s5
    obtain ⟨bp, bm, ap, es, clk, rfl, hbox, hap, rfl, hes⟩ := id hC5
    refine X2 call175 (W8 U U) U (Wo8 hc2 hbox hap hl5 hS) ?_
    rintro _ G6 w7 s6 hS rfl
    refine Z5 (vP bp) U U (Z5 (vI d) U U (Z5 (vI c2) U U (Z2 (Y9 (vs := [vP bp, vI d, vI c2]) func108 ⟨U, U, U, trivial⟩ ⟨vP bp, G6, _, U, (Z4.trans s5).trans s6, hS, fun _ => hC5.mono s6⟩))))
def Zf2 (K : Nat) (x : AlX) (f : MpT) : Option (MpT × Int) :=
  (faN K x f).bind fun r => if r.2 = 0 ∧ ¬ r.1 < 0 then (Zo8 K f).bind fun s => (Wk6 K x r.1 s).bind fun b => if b = true then (Xj0 K x r.1 s).bind fun t => Zr3 K t else some ([], 4) else some ([], r.2)
theorem Yd2 {a0 : AlX} {a1 : MpT} {r : MpT × Int} (q0 : Zf2 K a0 a1 = some r) {s0 s1 s2 : Value} (hs0 : Y3 (Y4 .i64) H s0 a0.1) (hs1 : Y3 (X3 yT) H s1 a0.2) (hs2 : Y3 yT H s2 a1) (hS : St H w L) :
    Calls prog 43 #[vA ([s0] ++ [s1]), vA [s2]] w (T4 (fun v G => (R.t2 (R.agg (X3 yT)) (R.int .i64)).p (G.new H) v r) H L) := by
  unfold Zf2 at q0
  obtain ⟨⟨n, c⟩, hfa, q0⟩ := bSm q0
  refine X0 func43 U ntmps43 U ?_
  repeat refine Z1 ?_
  refine Z0 (T8 (v := vA ([s0] ++ [s1])) ([s0] ++ [s1]).toArray U U hS U ?_)
  intro ab w1 hS
  obtain ⟨G0, b9, hS, a6⟩ := St.freezeBox hS
  have hs0 := hs0.mono b9
  have hs1 := hs1.mono b9
  have hs2 := hs2.mono b9
  have hap : Zt4 Yw1 G0 (vQ ab 0) a0 := ⟨ab, 0, _, _, _, U, a6, ⟨_, _, U, ⟨s0, U, hs0⟩, ⟨s1, U, hs1⟩⟩, Ys5 _ _⟩
  refine T8 (v := vA [s2]) [s2].toArray U U hS U ?_
  intro fb w2 hS
  obtain ⟨G1, b10, hS, a7⟩ := St.freezeBox hS
  have hap := hap.mono b10
  have hs2 := hs2.mono b10
  refine U5 (z := vA [vN]) [vN].toArray Zj8.zero U hS U fun rb w3 hS => Z5 (vI 0) U U (Z2 ?_)
  have Z4 := b9.trans b10
  repeat refine Z1 ?_
  refine Z0 (X5 U7 U (hS.froz _ _ a7) U U (U9 call108 (I3 U U U) U (Xy6 hfa hap hs2 hS) ?_))
  rintro _ w4 ⟨p, H4, C4, rfl, s4, hS, hC⟩
  refine ⟨_, U, ?_⟩
  have hC : c = 0 → Cx H4 p a0 [] C4 := hC
  have Z4 := Z4.trans s4
  have hs2 := hs2.mono s4
  have a7 := s4.1 _ _ a7
  refine Z3 (.tuple #[p, vI n, vI c]) U U (V1 p U U U (V1 (vI n) U U U (V1 (vI c) U U U (Z5 p U U (Z5 (vI n) U U (Z5 (vI c) U U (Z2 ?_)))))))
  repeat refine Z1 ?_
  refine Y8 ?_
  repeat refine Z1 ?_
  refine Zc7 fun f1 hf1 => ?_
  have t3 : tv f1 3 = vP fb := by rw [hf1]; rfl
  have t4 : tv f1 4 = vP rb := by rw [hf1]; rfl
  have t6 : tv f1 6 = p := by rw [hf1]; rfl
  have t7 : tv f1 7 = vI n := by rw [hf1]; rfl
  have t8 : tv f1 8 = vI c := by rw [hf1]; rfl
  clear hf1
  refine Z0 (Z3 (vI c) (by exact t8) U (L1 (k := .i64) (a := c) (b := 0) U U U ?_))
  by_cases hc : c = 0
  case neg =>
    rw [if_neg (fun h => hc h.1)] at q0
    cases q0
    have hd : (!decide (c = 0)) = true := by rw [decide_eq_false hc]; rfl
    refine Z3 (vB true) (by show Value.bool (!decide (c = 0)) = _; rw [hd]) U (Z9 (b' := true) U U U U U U (Z9 (b' := true) U U U U U U (W5 (t := true) (vB true) U U U (Z5 (vB true) U U (Z2 ?_)))))
    repeat refine Z1 ?_
    refine Z8 U ?_
    repeat refine Z1 ?_
    refine Z0 (M4 (vA [vN]) Zz0 U (Z3 (vI c) (by exact t8) U ?_))
    have hS := hS.dA
    refine W1 (v := vA [vN]) (vs := ([vN]).toArray) (cs := ([vN]).toArray) U7 (by exact t4) U U hS U (K9 U) U fun w5 hS => Z5 (vI c) U U (Z2 (Y9 (vs := [vA [vN], vI c]) func43 ⟨⟨_, by exact t4, T9 U7 (hS.get mL) U⟩, U, trivial⟩ ?_))
    exact ⟨_, _, U, Z4, hS.dA, ⟨_, _, U, ⟨_, U, ⟨_, U, Y3.nil⟩⟩, U⟩⟩
  have hd : (!decide (c = 0)) = false := by rw [decide_eq_true hc]; rfl
  refine Z3 (vB false) (by show Value.bool (!decide (c = 0)) = _; rw [hd]) U (Y0 (b := false) U U U (Z3 (vI n) (by exact t7) U (Y0 (b := false) U U U (V4 (k := .i64) (a := n) (b := 0) U U U ?_))))
  by_cases hn : n < 0
  case pos =>
    rw [if_neg (fun h => h.2 hn)] at q0
    cases q0
    refine W5 (t := false) (vB true) U (bT hn U) U (Z5 (vB true) U U (Z2 ?_))
    repeat refine Z1 ?_
    refine Z8 U ?_
    repeat refine Z1 ?_
    refine Z0 (M4 (vA [vN]) Zz0 U (Z3 (vI c) (by exact t8) U ?_))
    have hS := hS.dA
    refine W1 (v := vA [vN]) (vs := ([vN]).toArray) (cs := ([vN]).toArray) U7 (by exact t4) U U hS U (K9 U) U fun w5 hS => Z5 (vI c) U U (Z2 (Y9 (vs := [vA [vN], vI c]) func43 ⟨⟨_, by exact t4, T9 U7 (hS.get mL) U⟩, U, trivial⟩ ?_))
    exact ⟨_, _, U, Z4, hS.dA, ⟨_, _, U, ⟨_, U, ⟨_, U, Y3.nil⟩⟩, U⟩⟩
  rw [if_pos ⟨hc, hn⟩] at q0
  obtain ⟨sm, hsm, q0⟩ := bSm q0
  obtain ⟨b, hb, q0⟩ := bSm q0
  have hC := hC hc
  refine W5 (t := false) (vB false) U (bF hn U) U (Z5 (vB false) U U (Z2 ?_))
  repeat refine Z1 ?_
  refine Z6 U ?_
  repeat refine Z1 ?_
  refine Z0 (Z3 p (by exact t6) U (Z3 (vI n) (by exact t7) U (X5 U7 (by exact t3) (hS.froz _ _ a7) U U (U9 call110 (S4 U) U (Zx6 hsm hs2 hS) ?_))))
  rintro _ w5 ⟨mv, H5, C5, rfl, s5, hS, hmo⟩
  refine ⟨_, U, ?_⟩
  obtain ⟨H6, s6, hS, hmr⟩ := hmo.freeze hS
  have s56 := s5.trans s6
  refine U9 call109 (I3 U U U) U (Vf7 hb (hC.mono s56) (fun k s h => by simp at h) (fun k s h => by simp at h) hmr hS) ?_
  rintro _ w6 ⟨_, S7, H7, C7, rfl, rfl, s7, hS, hC, hA7, hB7, hX7⟩
  refine ⟨_, U, ?_⟩
  have s47 := s56.trans s7
  have Z4 := Z4.trans s47
  have hs2 := hs2.mono s47
  have a7 := s47.1 _ _ a7
  refine P5 (b := b) U U (Z5 (vB (!b)) U U (Z2 ?_))
  repeat refine Z1 ?_
  cases b with
  | false =>
    rw [if_neg (by decide)] at q0
    cases q0
    refine Z8 U ?_
    repeat refine Z1 ?_
    refine Z0 (M4 (vA [vN]) Zz0 U ?_)
    have hS := hS.dA
    refine W1 (v := vA [vN]) (vs := ([vN]).toArray) (cs := ([vN]).toArray) U7 (by exact t4) U U hS U (K9 U) U fun w8 hS => Z5 (vI 4) U U (Z2 (Y9 (vs := [vA [vN], vI 4]) func43 ⟨⟨_, by exact t4, T9 U7 (hS.get mL) U⟩, U, trivial⟩ ?_))
    exact ⟨_, _, U, Z4, hS.dA, ⟨_, _, U, ⟨_, U, ⟨_, U, Y3.nil⟩⟩, U⟩⟩
  | true =>
    rw [if_pos U] at q0
    obtain ⟨tm, htm, q0⟩ := bSm q0
    refine Z6 U (Y6 (X1 ?_))
    repeat refine Z1 ?_
    refine Z0 (Z3 p (by exact t6) U (Z3 (vI n) (by exact t7) U (X5 U7 (by exact t3) (hS.froz _ _ a7) U U (U9 call110 (S4 U) U (Zx6 hsm hs2 hS) ?_))))
    rintro _ w8 ⟨mv2, H8, C8, rfl, s8, hS, hmo2⟩
    refine ⟨_, U, ?_⟩
    obtain ⟨H9, s9, hS, hmr2⟩ := hmo2.freeze hS
    have s79 := s8.trans s9
    refine U9 call111 (I3 U U U) U (Vc8 htm (hC.mono s79) (hA7.mono s79) (hB7.mono s79) hmr2 hS) ?_
    rintro _ wa ⟨mv3, Sa, Ha, Ca, Cb, rfl, hmo3, sa, hS, _⟩
    refine ⟨_, U, ?_⟩
    obtain ⟨Hb, sb, hS, hmr3⟩ := hmo3.freeze hS
    refine X2 call112 (S4 U) U (Yy3 q0 hmr3 hS) ?_
    rintro v Hc wc sc hS hv
    have Z4 := ((Z4.trans s79).trans sa).trans sb
    have hv := (R.t2 (R.agg (X3 yT)) (R.int .i64)).mono (Yo2 Z4) hv
    obtain ⟨v0, v1, rfl, ⟨vc, rfl, ⟨v2, rfl, hv2⟩⟩, rfl⟩ := hv
    refine V1 _ U U U (V1 _ U U U ?_)
    have hS := hS.dA
    refine W1 (v := vA [v2]) (vs := [v2].toArray) (cs := ([vN]).toArray) U7 (by exact t4) U U hS U (K9 hv2.isOne) U fun wd hS => Z5 (vI r.2) U U (Z2 (Y9 (vs := [vA [v2], vI r.2]) func43 ⟨⟨_, by exact t4, T9 U7 (hS.get mL) U⟩, U, trivial⟩ ?_))
    exact ⟨_, _, U, Z4.trans sc, hS.dA, ⟨_, _, U, ⟨_, U, ⟨_, U, hv2⟩⟩, U⟩⟩
end Go.Proofs.YtabofnehiclkiaaGreat
