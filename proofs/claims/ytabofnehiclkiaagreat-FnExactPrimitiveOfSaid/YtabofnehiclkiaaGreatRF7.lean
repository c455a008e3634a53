/- Walk, rules and plain laws. -/
import Derived.Test.YtabofnehiclkiaaGreatRF1
import Derived.Test.YtabofnehiclkiaaGreatRF3
import Derived.Test.YtabofnehiclkiaaGreatRX
import Derived.Test.YtabofnehiclkiaaGreatRF2
import Derived.Test.YtabofnehiclkiaaGreatRF4
namespace Go.Proofs.YtabofnehiclkiaaGreat
open Go Go.Proofs.Tryz IntKind IntWalk List
set_option linter.all false
set_option maxRecDepth 100000
set_option maxHeartbeats 8000000
variable {K : Nat} {H : FH} {w : World} {L : OL} {s0 s1 s2 s3 s4 s5 s6 : Value}
theorem Va5 : ApI prog 129 72 8 8 (Value.agg #[Value.int .u8 0, Value.int .u8 0, Value.int .u8 0, Value.int .u8 0, Value.int .u8 0, Value.int .u8 0, Value.int .u8 0, Value.int .u8 0]) := ⟨underlying129, ⟨_, Tryz.info72_, U, U, U⟩, U, by decide, by decide⟩
def Zk5 (d n : Int) : Int :=
  if 20 < (if d.tmod 2 = 0 then n.tdiv d else if 1 < n.tdiv d then 1 else n.tdiv d) then 20 else (if d.tmod 2 = 0 then n.tdiv d else if 1 < n.tdiv d then 1 else n.tdiv d)
theorem Yk6 {d n : Int} (hn : 1 ≤ d ∧ d ≤ 12) (hl : 0 ≤ n ∧ n ≤ 1000) : 0 ≤ Zk5 d n ∧ Zk5 d n ≤ 20 ∧ Zk5 d n * d ≤ n := by
  have h1 : n.tdiv d * d ≤ n := by rw [Int.tdiv_eq_ediv_of_nonneg hl.1]; exact Int.ediv_mul_le n (by omega)
  have h0 : 0 ≤ n.tdiv d := Int.tdiv_nonneg hl.1 (by omega)
  have key : ∀ x : Int, 0 ≤ x → x ≤ n.tdiv d → x * d ≤ n := fun x hx hx' => Int.le_trans (Int.mul_le_mul_of_nonneg_right hx' (by omega)) h1
  have hb : 0 ≤ Zk5 d n ∧ Zk5 d n ≤ 20 ∧ Zk5 d n ≤ n.tdiv d := by
    unfold Zk5
    generalize n.tdiv d = q at h0
    by_cases hp : d.tmod 2 = 0
    · simp only [hp, if_true]
      by_cases h20 : 20 < q
      · rw [if_pos h20]; omega
      · rw [if_neg h20]; omega
    · simp only [hp, if_false]
      by_cases h3 : 1 < q
      · simp only [h3, if_true]; rw [if_neg (by decide)]; omega
      · simp only [h3, if_false]; rw [if_neg (by omega)]; omega
  exact ⟨hb.1, hb.2.1, key _ hb.1 hb.2.2⟩
def fsF (ds : List Int) : Nat → A8 → Int → List A8 → List A8
  | 0, p, left, out => if left = 0 then out ++ [p] else out
  | g + 1, p, left, out =>
      ((range ((Zk5 (rd ds ((ds.length - (g + 1) : Nat) : Int)) left).toNat + 1)).reverse).foldl (fun o (e : Nat) => if (o.length : Int) ≤ 400 then fsF ds g (T3 p ((ds.length - (g + 1) : Nat) : Int) (e : Int)) (left - (e : Int) * rd ds ((ds.length - (g + 1) : Nat) : Int)) o else o) out
theorem Xh2 {f : List A8 → Nat → List A8} (h : ∀ o e, (o.length : Int) ≤ 400 → ((f o e).length : Int) ≤ 401) : ∀ (es : List Nat) (o : List A8), (o.length : Int) ≤ 401 → ((es.foldl (fun o e => if (o.length : Int) ≤ 400 then f o e else o) o).length : Int) ≤ 401
  | [], _, ho => ho
  | e :: es, o, ho => by
    rw [foldl_cons]
    refine Xh2 h es _ ?_
    split
    · rename_i h4; exact h o e h4
    · exact ho
theorem Wi1 (ds : List Int) : ∀ (g : Nat) (p : A8) (left : Int) (out : List A8), (out.length : Int) ≤ 400 → ((fsF ds g p left out).length : Int) ≤ 401
  | 0, p, left, out, h => by
    unfold fsF
    split
    · rw [length_append]; simp; omega
    · omega
  | g + 1, p, left, out, h => by
    rw [fsF]
    exact Xh2 (fun o e ho => Wi1 ds g _ _ o ho) _ _ (by omega)
theorem Xd2 {f : List A8 → Nat → List A8} : ∀ (es : List Nat) (o : List A8), ¬ (o.length : Int) ≤ 400 → es.foldl (fun o e => if (o.length : Int) ≤ 400 then f o e else o) o = o
  | [], _, _ => rfl
  | e :: es, o, ho => by rw [foldl_cons, if_neg ho]; exact Xd2 es o ho
theorem Ve9 : CoI prog 2 5 .u8 := ⟨⟨_, runUnderlying2⟩, runUnderlying5⟩
theorem Vc2 {ds : List Int} (hds : ∀ n, n ∈ ds → 1 ≤ n ∧ n ≤ 12) (hd8 : ds.length ≤ 8) : ∀ (g : Nat), g ≤ ds.length → ∀ {H : FH} {w : World} {L Co : OL} {vd vo : Value} {p : A8} {left : Int} {out : List A8} (hl : 0 ≤ left ∧ left ≤ 1000)
    (hd : Y3 (Y4 .i64) H vd ds) (ho : W0 (Q5 .u8) 72 H vo out Co) (hlen : (out.length : Int) ≤ 400) (hS : St H w (Co ++ L)),
    Calls prog 171 #[vd, .agg (Z7 .u8 p).toArray, vI ((ds.length - g : Nat) : Int), vI left, vo] w (Ye1 (Q5 .u8) 72 (fsF ds g p left out) H L) := by
  intro g
  induction g with
  | zero =>
    intro hg H w L Co vd vo p left out hl hd ho hlen hS
    refine X0 func171 U ntmps171 U ?_
    repeat refine Z1 ?_
    refine Z0 (T8 (v := .agg (Z7 .u8 p).toArray) (Z7 .u8 p).toArray U U hS U (fun bp w1 hS => Z5 vN U U (Z2 ?_)))
    repeat refine Z1 ?_
    refine Z0 (Z3 (vI ((ds.length - 0 : Nat) : Int)) U U (Z3 vd U U (X9 T1 U hd U (Zb2 (k := .i64) (a := ((ds.length - 0 : Nat) : Int)) (b := (ds.length : Int)) U U U (Z2 ?_)))))
    repeat refine Z1 ?_
    refine Z8 (bT (by simp) U) ?_
    repeat refine Z1 ?_
    refine Z0 (Z3 (vI left) U U (Zb2 (k := .i64) (a := left) (b := 0) U U U (Z2 ?_)))
    repeat refine Z1 ?_
    unfold fsF
    by_cases h0 : left = 0
    · rw [if_pos h0]
      refine Z8 (bT h0 U) ?_
      repeat refine Z1 ?_
      refine Z0 (Z3 vo U U (X5 P7 U (hS.get mL) U U (Zc4 (τ := (Q5 .u8)) Zv3 Yn9 U [vA (Z7 .u8 p)] [p] U U (D3 U) (Zl6 U) (by decide) (by decide) hS U (fun u8 H8 w8 s8 hS hl8 => N2 (τ := Q5 .u8) Va5 U U U (ho.mono s8) hS.dA hl8 (by simp; omega) U (fun v9 w9 C9 ho9 hS => Z5 v9 U U (Z2 (Y9 (vs := [v9]) func171 Ut ⟨_, _, _, U, s8, hS, ho9⟩)))))))
    · rw [if_neg h0]
      refine Z6 (bF h0 U) (Y6 ?_)
      repeat refine Z1 ?_
      refine Z0 (Z3 vo U U (Z5 vo U U (Z2 (Y9 (vs := [vo]) func171 Ut ⟨_, _, _, U, .refl _, hS.dA, ho⟩))))
  | succ g ih =>
    intro hg H w L Co vd vo p left out hl hd ho hlen hS
    rw [fsF]
    have hnd := hds _ (show rd ds ((ds.length - (g + 1) : Nat) : Int) ∈ ds by
      unfold rd
      rw [Int.toNat_natCast, getD_eq_getElem?_getD, getElem?_eq_getElem (show ds.length - (g + 1) < ds.length by omega)]
      exact getElem_mem _)
    have hir : ds.length - (g + 1) + 1 + g = ds.length := by omega
    generalize ds.length - (g + 1) = i at *
    obtain ⟨htop0, htop1, htop2⟩ := Yk6 hnd hl
    have hq0 : 0 ≤ left.tdiv (rd ds (i : Int)) := Int.tdiv_nonneg hl.1 (by omega)
    have hq1 : left.tdiv (rd ds (i : Int)) ≤ left := by rw [Int.tdiv_eq_ediv_of_nonneg hl.1]; exact Int.ediv_le_self _ hl.1
    generalize hnn : rd ds (i : Int) = n at *
    refine X0 func171 U ntmps171 U ?_
    repeat refine Z1 ?_
    refine Z0 (T8 (v := .agg (Z7 .u8 p).toArray) (Z7 .u8 p).toArray U U hS U (fun bp w1 hS => Z5 vN U U (Z2 ?_)))
    repeat refine Z1 ?_
    refine Z0 (Z3 (vI (i : Int)) U U (Z3 vd U U (X9 T1 U hd U (Zb2 (k := .i64) (a := (i : Int)) (b := (ds.length : Int)) U U U (Z2 ?_)))))
    repeat refine Z1 ?_
    refine Z6 (bF (by omega) U) (Y6 ?_)
    repeat refine Z1 ?_
    obtain ⟨b, o, cs, E, _, hp, hb, rfl, hc⟩ := hd.elem (i := (i : Int)) (by omega) (by omega)
    have hcn := hc 0 (show 0 < 1 by decide)
    rw [hnn] at hcn
    refine Z0 (Z3 (vI left) U U (Z3 vd U U (Z3 (vI (i : Int)) U U (X6 T1 U U hp U (by omega) (by omega) U (Y1 (vI n) ty2 U (hS.froz _ _ hb) hcn U (Xt1 (left.tdiv n) U U (by omega) (i64_in _ (by omega)) U (Z5 (vI (left.tdiv n)) U U (Z2 ?_))))))))
    repeat refine Z1 ?_
    refine Z0 (Z3 vd U U (Z3 (vI (i : Int)) U U (X6 T1 U U hp U (by omega) (by omega) U (Y1 (vI n) ty2 U (hS.froz _ _ hb) hcn U (Zd4 (n.tmod 2) U U (by decide) U U (L1 (k := .i64) (a := n.tmod 2) (b := 0) U U U (Z2 ?_)))))))
    repeat refine Z1 ?_
    refine N1 (fun f w => St H w ([(bp, .cells (Z7 .u8 p).toArray 72)] ++ (Co ++ L)) ∧ tv f 0 = vd ∧ tv f 2 = vI (i : Int) ∧ tv f 3 = vI left ∧ tv f 4 = vo ∧ tv f 6 = vP bp ∧ tv f 11 = vI (if n.tmod 2 = 0 then left.tdiv n else if 1 < left.tdiv n then 1 else left.tdiv n)) ?_ ?_
    · rintro f3 w3 ⟨hS, t0, t2, t3, t4, t6, t11⟩
      repeat refine Z1 ?_
      refine Z0 (Z3 _ t11 U (Xt2 U U U (Z5 (vI (Zk5 n left)) U U (Z2 ?_))))
      repeat refine Z1 ?_
      refine Y8 ?_
      refine W3 (id := 0) (fun k f w => ∃ (x : Nat) (H1 : FH) (pc : A8) (vo1 : Value) (Co1 : OL) (out1 : List A8), (x : Int) ≤ Zk5 n left + 1 ∧ x < k ∧ Sub H H1 ∧ St H1 w ([(bp, .cells (Z7 .u8 pc).toArray 72)] ++ (Co1 ++ L)) ∧ W0 (Q5 .u8) 72 H1 vo1 out1 Co1 ∧ (out1.length : Int) ≤ 401 ∧ (∀ e, T3 pc (i : Int) e = T3 p (i : Int) e) ∧
          ((range x).reverse).foldl (fun o (e : Nat) => if (o.length : Int) ≤ 400 then fsF ds g (T3 p (i : Int) (e : Int)) (left - (e : Int) * n) o else o) out1 = ((range ((Zk5 n left).toNat + 1)).reverse).foldl (fun o (e : Nat) => if (o.length : Int) ≤ 400 then fsF ds g (T3 p (i : Int) (e : Int)) (left - (e : Int) * n) o else o) out ∧ tv f 0 = vd ∧ tv f 2 = vI (i : Int) ∧ tv f 3 = vI left ∧ tv f 4 = vo1 ∧ tv f 6 = vP bp ∧ tv f 12 = vI ((x : Int) - 1))
        (fun f w => ∃ H1 vo1 Co1, Sub H H1 ∧ St H1 w (Co1 ++ L) ∧ W0 (Q5 .u8) 72 H1 vo1 (((range ((Zk5 n left).toNat + 1)).reverse).foldl (fun o (e : Nat) => if (o.length : Int) ≤ 400 then fsF ds g (T3 p (i : Int) (e : Int)) (left - (e : Int) * n) o else o) out) Co1 ∧ tv f 4 = vo1) U ?_ ?_ ((Zk5 n left).toNat + 2) ?_ ?_
      · rintro f w ⟨x, H1, pc, vo1, Co1, out1, h1, h2, _⟩; omega
      · rintro k f w ihk hx ⟨x, H1, pc, vo1, Co1, out1, h1, h2, Z4, hS, ho, hlen, hpc, hfold, t0, t2, t3, t4, t6, t12⟩
        repeat refine Z1 ?_
        refine Z0 (Z3 (vI ((x : Int) - 1)) (by exact t12) U (Ya4 (k := .i64) (a := (x : Int) - 1) (b := 0) U U U (Z3 _ U U ?_)))
        by_cases hx0 : (0 : Int) ≤ (x : Int) - 1
        case neg =>
          have e : x = 0 := by omega
          subst e
          refine Z9 (b' := false) U U (bF hx0 U) U U U (Z9 (b' := false) U U (bF hx0 U) U U U (Z9 (b' := false) U U (bF hx0 U) U U U (W5 (t := false) (vB false) (bF hx0 U) U U (Z2 ?_))))
          repeat refine Z1 ?_
          refine Z6 U (W2 U ?_)
          rw [range_zero, reverse_nil, foldl_nil] at hfold
          exact hx _ _ ⟨H1, vo1, Co1, Z4, hS.dA, by rw [← hfold]; exact ho, t4⟩
        refine Y0 (b := true) U U (bT hx0 U) (Z3 vo1 (by exact t4) U (Y0 (b := true) U U (bT hx0 U) (Yh0 Zv3 U ho U (Y0 (b := true) U U (bT hx0 U) (Yj8 (k := .i64) (a := (out1.length : Int)) (b := 400) U U U (W5 (t := true) (vB (decide ((out1.length : Int) ≤ 400))) (bT hx0 U) U U (Z2 ?_)))))))
        repeat refine Z1 ?_
        by_cases h4 : (out1.length : Int) ≤ 400
        case neg =>
          refine Z6 (bF h4 U) (W2 U ?_)
          rw [Xd2 _ _ h4] at hfold
          exact hx _ _ ⟨H1, vo1, Co1, Z4, hS.dA, by rw [← hfold]; exact ho, t4⟩
        refine Z8 (bT h4 U) (Y6 ?_)
        obtain ⟨y, rfl⟩ : ∃ y, x = y + 1 := ⟨x - 1, by omega⟩
        have t12 : tv f 12 = vI (y : Int) := by rw [t12]; congr 1; omega
        rw [range_succ, reverse_append, reverse_singleton, singleton_append, foldl_cons, if_pos h4] at hfold
        have hyn : 0 ≤ (y : Int) * n ∧ (y : Int) * n ≤ left := by
          have hy : (y : Int) ≤ Zk5 n left := by omega
          exact ⟨Int.mul_nonneg (by omega) (by omega), Int.le_trans (Int.mul_le_mul_of_nonneg_right hy (by omega)) htop2⟩
        repeat refine Z1 ?_
        refine Y8 ?_
        repeat refine Z1 ?_
        have hy20 : (y : Int) ≤ 20 := by omega
        have hyw : u8.wrap (y : Int) = (y : Int) := IntWalk.u8_in _ (by omega)
        refine Z0 (Z3 (vI (i : Int)) (by exact t2) U (Z3 (vI (y : Int)) (by exact t12) U (Ym9 (s := .i64) (y : Int) Ve9 U hyw U (U3 Zh5 (by exact t6) U (by omega) (by omega) U (J7 (v := .int .u8 (y : Int)) (cs := (Z7 .u8 pc).toArray) (cs' := (Z7 .u8 (T3 pc (i : Int) (y : Int))).toArray) ty5 U U hS U (Zv6 U) (by simp [Z7]; omega) (Zj0 (by omega) (by omega)) (fun w4 hS => Z2 ?_))))))
        repeat refine Z1 ?_
        refine Xm0 fun f2 hf2 => ?_
        have t0 : tv f2 0 = vd := by rw [hf2]; exact t0
        have t2 : tv f2 2 = vI (i : Int) := by rw [hf2]; exact t2
        have t3 : tv f2 3 = vI left := by rw [hf2]; exact t3
        have t4 : tv f2 4 = vo1 := by rw [hf2]; exact t4
        have t6 : tv f2 6 = vP bp := by rw [hf2]; exact t6
        have t12 : tv f2 12 = vI (y : Int) := by rw [hf2]; exact t12
        clear hf2
        have hb := Z4.1 _ _ hb
        generalize hpd : T3 pc (i : Int) (y : Int) = pd at hS
        refine W6 13 (S8 [mE 53 vd, mE 54 (vA (Z7 .u8 pd)), mE 55 (vI (i : Int)), mE 56 (vI ((i : Int) + 1)), mE 57 (vI left), mE 58 (vI (y : Int)), mE 59 vd, mE 60 (vI (i : Int)), mE 61 (vQ b o), mE 62 (vI n), mE 63 (vI ((y : Int) * n)), mE 64 (vI (left - (y : Int) * n)), mE 65 vo1]) [] mixed U U U hS (U1 (X4 fun S B => Z3 _ (evT (B 0 U) t0) U (qz S)) (X4 fun S B => X5 P7 (evT (B 6 U) t6) (S.get (mR mL)) U U (qz S)) (X4 fun S B => Z3 _ (evT (B 2 U) t2) U (qz S)) (Y7 fun S V => W4 ((i : Int) + 1) (eM (V 2 55 U U)) U (i64_in _ (by omega)) U (qz S)) (X4 fun S B => Z3 _ (evT (B 3 U) t3) U (qz S)) (X4 fun S B => Z3 _ (evT (B 12 U) t12) U (qz S)) (X4 fun S B => Z3 _ (evT (B 0 U) t0) U (qz S)) (X4 fun S B => Z3 _ (evT (B 2 U) t2) U (qz S)) (K3 (Y7 fun S V => X6 T1 U (eM (V 6 59 U U)) hp (eM (V 7 60 U U)) (by omega) (by omega) U (qz S)) (P0 fun s S V => Y1 (vI n) ty2 (eM (V 8 61 U U)) (S.froz _ _ (s.1 _ _ hb)) hcn U (qz S)) (Y7 fun S V => Zi4 ((y : Int) * n) (eM (V 5 58 U U)) (eM (V 9 62 U U)) (i64_in _ (by omega)) U (qz S)) (Y7 fun S V => Zg8 (left - (y : Int) * n) (eM (V 4 57 U U)) (eM (V 10 63 U U)) (i64_in _ (by omega)) U (qz S)) (I2 (X4 fun S B => Z3 _ (evT (B 4 U) t4) U (qz S)) W9))) ?_
        intro f3 w5 H5 s5 hS hB hV _
        have hS : St H5 w5 (Co1 ++ ([(bp, .cells (Z7 .u8 pd).toArray 72)] ++ L)) := hS.dA.swap
        refine U9 call171 (Wz0 (eM (hV 0 53 (by decide) U)) (eM (hV 1 54 (by decide) U)) ((eM (hV 3 56 (by decide) U)).trans (congrArg vI (show (i : Int) + 1 = ((ds.length - g : Nat) : Int) by omega))) (eM (hV 11 64 (by decide) U)) (eM (hV 12 65 (by decide) U))) U (ih (by omega) (p := pd) (left := left - (y : Int) * n) ⟨by omega, by omega⟩ ((hd.mono Z4).mono s5) (ho.mono s5) h4 hS) ?_
        rintro e6 w6 ⟨vo6, H6, Co6, rfl, s6, hS, ho6⟩
        refine ⟨_, U, Z5 vo6 U U (Z2 ?_)⟩
        have hS := hS.swap
        refine X1 (Z0 (Z3 (vI (y : Int)) (by exact (evT (hB 12 U) t12)) U (Zg8 ((y : Int) - 1) U U (i64_in _ (by omega)) U (Z5 (vI ((y : Int) - 1)) U U (Z2 ?_)))))
        have hl6 := Wi1 ds g pd (left - (y : Int) * n) out1 h4
        rw [show fsF ds g (T3 p (i : Int) (y : Int)) (left - (y : Int) * n) out1 = fsF ds g pd (left - (y : Int) * n) out1 by rw [← hpd, hpc (y : Int)]] at hfold
        exact ihk _ _ ⟨y, H6, pd, vo6, Co6, _, by omega, by omega, (Z4.trans s5).trans s6, hS, ho6, hl6, fun e => by rw [← hpd, Xh5]; exact hpc e, hfold, (evT (hB 0 U) t0), (evT (hB 2 U) t2), (evT (hB 3 U) t3), U, (evT (hB 6 U) t6), U⟩
      · exact ⟨(Zk5 n left).toNat + 1, H, p, vo, Co, out, by omega, by omega, .refl _, hS, ho, by omega, fun _ => rfl, U, t0, t2, t3, t4, t6, by show vI (Zk5 n left) = vI ((((Zk5 n left).toNat + 1 : Nat) : Int) - 1); congr 1; omega⟩
      · rintro f w ⟨H1, vo1, Co1, Z4, hS, ho, t4⟩
        repeat refine Z1 ?_
        refine Z0 (Z3 vo1 (by exact t4) U (Z5 vo1 U U (Z2 (Y9 (vs := [vo1]) func171 Ut ⟨_, _, _, U, Z4, hS, ho⟩))))
    intro hJ
    by_cases hodd : n.tmod 2 = 0
    · refine Z6 (bN hodd U) (Y6 ?_)
      exact hJ _ _ ⟨hS, U, U, U, U, U, by rw [if_pos hodd]; rfl⟩
    · refine Z8 (bO hodd U) ?_
      refine Z0 (Z3 (vI (left.tdiv n)) U U (Xt2 U U U (Z5 (vI (if 1 < left.tdiv n then 1 else left.tdiv n)) U U (Z2 (hJ _ _ ⟨hS, U, U, U, U, U, by rw [if_neg hodd]; rfl⟩)))))
def Rb (H : FH) (L : OL) (v : Value) (xs : List Int) : Prop :=
 ∃ a c, v = .slice a xs.length c ∧ xs.length ≤ 9223372036854775807 ∧ (xs = [] ∨ ∃ b o cs E z, a = some ⟨b, o, none⟩ ∧ (∀ H' w, Sub H H' → St H' w L → w.heap[b]? = some (.cells cs E z)) ∧ ∀ i x, xs[i]? = some x → cs[o + i]? = some (vI x))
theorem Rb.mono {H H' : FH} {L : OL} {v : Value} {xs : List Int} (h : Rb H L v xs) (hs : Sub H H') : Rb H' L v xs := by
 obtain ⟨a, c, h1, h2, h3⟩ := h
 refine ⟨a, c, h1, h2, ?_⟩
 rcases h3 with h3 | ⟨b, o, cs, E, z, h4, h5, h6⟩
 exact .inl h3
 exact .inr ⟨b, o, cs, E, z, h4, fun K w hk => h5 K w (hs.trans hk), h6⟩
theorem Rb.wide {H : FH} {L L' : OL} {v : Value} {xs : List Int} (h : Rb H L v xs) (hs : ∀ H' w, St H' w L' → St H' w L) : Rb H L' v xs := by
 obtain ⟨a, c, h1, h2, h3⟩ := h
 refine ⟨a, c, h1, h2, ?_⟩
 rcases h3 with h3 | ⟨b, o, cs, E, z, h4, h5, h6⟩
 exact .inl h3
 exact .inr ⟨b, o, cs, E, z, h4, fun K w hk hS => h5 K w hk (hs _ _ hS), h6⟩
theorem Rb.ofRd {H : FH} {L : OL} {v : Value} {xs : List Int} (h : Y3 (Y4 .i64) H v xs) : Rb H L v xs := by
 have hb := h.bound
 obtain ⟨a, c, ⟨hv, hl⟩, h⟩ := h
 refine ⟨a, c, hv, hb, ?_⟩
 rcases h with h | ⟨b, o, cs, E, h1, h2, h3⟩
 exact .inl h
 refine .inr ⟨b, o, cs, _, _, h1, fun H' w hs hS => hS.froz _ _ (hs.1 _ _ h2), fun i x hx => ?_⟩
 obtain ⟨ecs, hr, hj⟩ := h3 i x hx
 cases hr
 have := hj 0 (show 0 < 1 by decide)
 simpa [show (Y4 IntKind.i64).size = 1 from U] using this
theorem Rb.ofOwn {H : FH} {L C : OL} {v : Value} {xs : List Int} {E : TypeId} (h : W0 (Y4 .i64) E H v xs C) (hin : ∀ x, x ∈ C → x ∈ L) : Rb H L v xs := by
 rcases h with ⟨rfl, rfl, rfl⟩ | ⟨b, c, cs, hv, h1, h2, h3, rfl, h5⟩
 exact ⟨none, 0, U, by simp, .inl U⟩
 refine ⟨_, c, hv, by simp only [maxLen] at h2; omega, .inr ⟨b, 0, cs, _, _, U, fun H' w hs hS => hS.own _ (hin _ (mem_singleton.2 U)), fun i x hx => ?_⟩⟩
 obtain ⟨ecs, hr, hj⟩ := h5 i x hx
 cases hr
 have := hj 0 (show 0 < 1 by decide)
 rw [Nat.zero_add]
 simpa [show (Y4 IntKind.i64).size = 1 from U] using this
theorem Rb.at {H : FH} {L : OL} {v : Value} {xs : List Int} {i : Int} (h : Rb H L v xs) (h0 : 0 ≤ i) (hm : i < xs.length) :
 ∃ b o c, v = .slice (some ⟨b, o, none⟩) xs.length c ∧ ∀ H' w, Sub H H' → St H' w L → ∃ cs E z, w.heap[b]? = some (.cells cs E z) ∧ cs[o + i.toNat * 1]? = some (vI (rd xs i)) := by
 obtain ⟨a, c, h1, h2, h3⟩ := h
 rcases h3 with rfl | ⟨b, o, cs, E, z, rfl, h5, h6⟩
 simp at hm; omega
 exact ⟨b, o, c, h1, fun H' w hs hS => ⟨cs, E, z, h5 _ _ hs hS, by rw [Nat.mul_one]; exact h6 _ _ (Xm1 h0 hm)⟩⟩
theorem Rb.lenV {H : FH} {L : OL} {v : Value} {xs : List Int} (h : Rb H L v xs) : ∃ a c, v = .slice a xs.length c := let ⟨a, c, h1, _⟩ := h; ⟨a, c, h1⟩
def fld (x : Int) : Int := ((i64.wrap (((x).tmod 10007) + 10007))).tmod 10007
def tk1 (x y f : Int) : Int := fld (i64.wrap (x - (i64.wrap (f * y)).tmod 10007))
def tkN (row other : List Int) (f : Int) : Nat → List Int
 | 0 => row
 | k + 1 => (tkN row other f k).set k (tk1 (rd (tkN row other f k) (k : Int)) (rd other (k : Int)) f)
theorem Yd3 (row other : List Int) (f : Int) : ∀ k, (tkN row other f k).length = row.length
 | 0 => rfl
 | k + 1 => by rw [tkN, length_set, Yd3 row other f k]
section
theorem Yh4 {H : FH} {w : World} {L C : OL} {v u : Value} {row other : List Int} {q : Int} (ho : W0 (Y4 .i64) 2 H v row C) (hr : Rb H L u other) (hl : other.length ≤ row.length) (hS : St H w (C ++ L)) :
 Calls prog 194 #[v, u, vI q] w (fun e w' => ∃ H' C', e = .returned (.tuple #[]) ∧ Sub H H' ∧ St H' w' (C' ++ L) ∧ W0 (Y4 .i64) 2 H' v (tkN row other q other.length) C') := by
 refine X0 func194 U ntmps194 U ?_
 obtain ⟨ua, uc, huv⟩ := hr.lenV
 have hub : other.length ≤ 9223372036854775807 := let ⟨_, _, _, h, _⟩ := hr; h
 refine Z1 (Z0 (Z3 u U U (Zq3 T1 (show u = .slice ua other.length uc from huv) U (Z3 (vI 0) U U (Z2 (Y8 ?_))))))
 refine W3 (id := 0) (fun k f w => ∃ (n : Nat) (H1 : FH) (C' : OL), n ≤ other.length ∧ other.length < n + k ∧ Sub H H1 ∧ St H1 w (C' ++ L) ∧ W0 (Y4 .i64) 2 H1 v (tkN row other q n) C' ∧ tv f 0 = v ∧ tv f 2 = vI q ∧ tv f 8 = u ∧ tv f 9 = vI (other.length : Int) ∧ tv f 10 = vI (n : Int))
  (fun f w => ∃ (H1 : FH) (C' : OL), Sub H H1 ∧ St H1 w (C' ++ L) ∧ W0 (Y4 .i64) 2 H1 v (tkN row other q other.length) C') U ?_ ?_ (other.length + 1) ?_ ?_
 rintro f w ⟨n, H1, C', h1, h2, _⟩; omega
 rintro k f w ih hx ⟨n, H1, C', h1, h2, Z4, hS, ho, t0, t2, t8, t9, t10⟩
 refine Z1 (Z0 (V4 (k := .i64) (a := n) (b := other.length) (by exact t10) (by exact t9) U (Z2 (Z1 ?_))))
 by_cases hn : (n : Int) < (other.length : Int)
 refine Z8 (bT hn U) (Y6 (Z1 (Y8 (Z1 (Z0 (Z3 (vI n) (by exact t10) U ?_)))))) 
 obtain ⟨b, o, c, hv, hcell⟩ := (hr.mono Z4).at (i := n) (by omega) hn
 refine Zh9 T1 (show ev _ _ = _ from Eq.trans t8 hv) (by exact t10) (by omega) hn U ?_
 obtain ⟨cs, E, z, hw, hc⟩ := hcell H1 _ (Sub.refl _) hS.dA
 refine Y1 (vI (rd other n)) ty2 U hw hc U (Z5 (vI n) U U (Z5 (vI (rd other n)) U U (Z2 (Z0 (Z3 v (by exact t0) U (Z3 (vI n) U U (Z3 v (by exact t0) U (Z3 (vI n) U U ?_))))))))
 have hln : (n : Int) < ((tkN row other q n).length : Int) := by rw [Yd3]; omega
 obtain ⟨b1, c1, hv1⟩ := ho.some (i := (n : Int)) (by omega) hln
 refine Q3 T1 (Eq.trans U hv1) U (by omega) hln U (Yz3 (u := vI (rd (tkN row other q n) n)) U ty2 hv1 ho hS U (by omega) hln (fun _ h => h) U (Z3 (vI q) (by exact t2) U (Z3 (vI (rd other n)) U U (Zi4 (i64.wrap (q * rd other n)) U U U U (Zd4 ((i64.wrap (q * rd other n)).tmod 10007) U U (by decide) U U (Zg8 (i64.wrap (rd (tkN row other q n) n - (i64.wrap (q * rd other n)).tmod 10007)) U U U U (X2 call206 (S4 U) U (Ye6 (K := 0) (r := fld (i64.wrap (rd (tkN row other q n) n - (i64.wrap (q * rd other n)).tmod 10007))) U hS) ?_)))))))
 rintro _ G w1 hs1 hS rfl
 have ho := ho.mono hs1
 refine Q3 T1 (Eq.trans U hv1) U (by omega) hln U (Za9 (τ := Y4 .i64) (v := v) (u := vI (tk1 (rd (tkN row other q n) n) (rd other n) q)) (tk1 (rd (tkN row other q n) n) (rd other n) q) (i := (n : Int)) U ty2 hv1 ho hS U U (by omega) hln U (fun w2 C2 ho hS => Z2 (X1 (Z0 (W4 ((n : Int) + 1) (by exact t10) U (i64_in _ (by omega)) U (Z3 (vI ((n : Int) + 1)) U U (Z2 (ih _ _ ⟨n + 1, G, C2, by omega, by omega, Z4.trans hs1, hS, ho, t0, t2, t8, t9, by show vI ((n : Int) + 1) = vI ((n + 1 : Nat) : Int); rw [Int.natCast_add]; rfl⟩))))))))
 refine Z6 (bF hn U) (W2 U ?_)
 have e : n = other.length := by omega
 subst e
 exact hx _ _ ⟨H1, C', Z4, hS, ho⟩
 exact ⟨0, H, C, by omega, by omega, .refl _, hS, ho, U, U, U, U, U⟩
 rintro f w ⟨H1, C', Z4, hS, ho⟩
 exact Ys7 (vs := []) func194 trivial ⟨H1, C', U, Z4, hS, ho⟩
theorem Ww4 {H : FH} {w : World} {L : OL} {v p : Value} {row : List Int} {c : Int} {bc : Nat} (hr : Rb H L v row) (hp : p = vP bc) (hc : (bc, .cells #[vI c] 3) ∈ L) (h0 : 0 ≤ c) (hm : c < row.length) (hS : St H w L) :
 Calls prog 233 #[v, p] w (T4 (fun v _ => v = vB (!decide (rd row c = 0))) H L) := by
 subst hp
 refine X0 func233 U ntmps233 U (Z1 (Z0 (Z5 (vB false) U U (Z2 (Z1 (Z0 (Z3 v U U (Y1 (vI c) ty3 U (hS.own _ hc) U U ?_))))))))
 obtain ⟨b, o, cp, hv, hcell⟩ := hr.at h0 hm
 refine Zh9 T1 (show ev _ _ = _ from hv) U h0 hm U ?_
 obtain ⟨cs, E, z, hw, hcs⟩ := hcell H _ (Sub.refl _) hS
 refine Y1 (vI (rd row c)) ty2 U hw hcs U (L1 (k := .i64) (a := rd row c) (b := 0) U U U (Z5 (vB (!decide (rd row c = 0))) U U (Z2 (Y9 (vs := [vB (!decide (rd row c = 0))]) func233 Ut ⟨_, _, U, .refl _, hS, U⟩))))
end
def Zf1 (K : Nat) (d9 : Int → Int → Option (Ex (Int × Bool) Int)) (a6 a3 : Int) (a8 : Bool) : Option (Ex (Int × Bool) Int) := (if a8 = true then some (.ret (0, false)) else d9 a6 (a3 + 1))
def V9 (K : Nat) (a0 : List Int) (a1 : MpT) : Nat → Int → Int → Option (Ex (Int × Bool) Int)
 | 0, _, _ => none
 | k + 1, a5, a3 => (if a3 < (a1.length : Int) then ((Zf5 K (rd a1 a3).1).bind fun e0 => ((Zi5 K e0 a0).bind fun a6 => (if 0 ≤ a5 then Zf1 K (V9 K a0 a1 k) a6 a3 (!decide (a6 = a5)) else Zf1 K (V9 K a0 a1 k) a6 a3 false))) else some (.go a5))
def Zh1 (K : Nat) (a0 : List Int) (a1 : MpT) : Option (Int × Bool) := ((V9 K a0 a1 K (-1) 0).bind (Ex.elim (fun r => some r) (fun s => (fun (b2 : Int) => some (b2, true)) s)))
theorem Yi5 {a0 : List Int} {a1 : MpT} {r : (Int × Bool)} (q0 : Zh1 K a0 a1 = some r) (b3 : Y3 (Y4 .i64) H s0 a0) (a7 : Y3 yT H s1 a1) (hS : St H w L) :
 Calls prog 127 #[s0, vA [s1]] w (T4 (fun v G => (R.t2 (R.int .i64) R.bool).p G v r) H L) := by
 have Z4 := Sub.refl H
 refine X0 func127 U ntmps127 U ?_
 unfold Zh1 at q0
 refine Z1 (Z0 (T8 (v := vA [s1]) [s1].toArray U U hS U (fun b1 _ hS => Z5 (vI 0) U U (Z5 (vB false) U U (Z2 (Z1 (Z0 (Z5 (vI (-1)) U U (Z2 (Z1 (Z1 (Z0 (Y2 U8 U U (Y1 s1 P1 U (hS.get mL) U U ?_))))))))))))))
 have e6 := a7.bound
 refine X9 Q0 U a7 U (Z3 (vI 0) U U (Z2 (Y8 ?_)))
 obtain ⟨c2, a4, c1⟩ := bSm q0
 refine W3 (id := 0) (fun k f w => ∃ a5 a3 H1, V9 K a0 a1 k a5 a3 = some c2 ∧ Sub H H1 ∧ St H1 w ([(b1, cA [s1] 45)] ++ L) ∧ 0 ≤ a3 ∧ Y3 (Y4 .i64) H1 s0 a0 ∧ Y3 yT H1 s1 a1 ∧ tv f 0 = s0 ∧ tv f 6 = vI a5 ∧ tv f 11 = s1 ∧ tv f 12 = vI (a1.length : Int) ∧ tv f 13 = vI a3) (fun f w => ∃ b2 H1, c2 = .go b2 ∧ Sub H H1 ∧ St H1 w ([(b1, cA [s1] 45)] ++ L) ∧ Y3 yT H1 s1 a1 ∧ tv f 6 = vI b2) U ?_ ?_ K ?_ ?_
 rintro f w ⟨a5, a3, H1, a4, _⟩
 rw [V9] at a4; cases a4
 rintro k _ _ e1 e2 ⟨a5, a3, d6, a4, Z4, hS, _, b3, a7, b8, b9, b5, b6, a9⟩
 rw [V9] at a4
 refine Z1 (Z0 (V4 (k := .i64) (a := a3) (b := (a1.length : Int)) (by exact a9) (by exact b6) U (Z2 (Z1 ?_))))
 obtain ⟨d0, a4⟩ | ⟨d0, a4⟩ := ic a4
 refine Z8 (bT d0 U) (Y6 (Z1 (Y8 (Z1 (Z0 ?_)))))
 obtain ⟨_, _, _, _, _, e3, e4, ⟨_, _, rfl, rfl, rfl⟩, e5⟩ := a7.elem (i := a3) (by omega) (by omega)
 refine X6 Q0 U (by exact b5) e3 (by exact a9) (by omega) (by omega) U (U0 (Z7 .u8 (rd a1 a3).1 ++ [vI (rd a1 a3).2]) Yb3 U (hS.froz _ _ e4) U e5 U (U5 (z := vA (Z7 .u8 (fun _ => 0) ++ [vI 0])) (Z7 .u8 (fun _ => 0) ++ [vI 0]).toArray Yg3.zero U hS U (fun b7 _ hS => W1 (v := vA (Z7 .u8 (rd a1 a3).1 ++ [vI (rd a1 a3).2])) (vs := (Z7 .u8 (rd a1 a3).1 ++ [vI (rd a1 a3).2]).toArray) (cs := (Z7 .u8 (fun _ => 0) ++ [vI 0]).toArray) Yb3 U U U hS U (Yg4 (R7 .u8 (rd a1 a3).1) (K9 U)) U (fun _ hS => Z2 (Z1 (Z0 (Y2 L6 U U (U0 (Z7 .u8 (rd a1 a3).1) P7 U (hS.get (o := cA (Z7 .u8 (rd a1 a3).1 ++ [vI (rd a1 a3).2]) 78) mL) U (fun j hj => Zn7 [] (Z7 .u8 (rd a1 a3).1) ([vI (rd a1 a3).2]) j hj) U ?_))))))))
 obtain ⟨_, d7, a4⟩ := bSm a4
 refine X2 call192 (S4 U) U (Zs4 d7  hS) ?_
 rintro _ _ _ c3 hS ⟨_, rfl, rfl⟩
 have Z4 := Z4.trans c3
 have b3 := b3.mono c3
 have a7 := a7.mono c3
 refine Z3 s0 (by exact b8) U ?_
 obtain ⟨a6, d8, a4⟩ := bSm a4
 refine X2 call215 (W8 U U) U (Yp9 d8 b3 hS) ?_
 rintro _ d4 _ c4 hS rfl
 have Z4 := Z4.trans c4
 have b3 := b3.mono c4
 have a7 := a7.mono c4
 refine Z5 (vI a6) U U (Z2 (Z1 (Z1 (N1 (fun f w => ∃ a8 H1, Zf1 K (V9 K a0 a1 k) a6 a3 a8 = some c2 ∧ Sub H H1 ∧ St H1 w ([(b7, cA (Z7 .u8 (rd a1 a3).1 ++ [vI (rd a1 a3).2]) 78)] ++ ([(b1, cA [s1] 45)] ++ L)) ∧ Y3 (Y4 .i64) H1 s0 a0 ∧ Y3 yT H1 s1 a1 ∧ tv f 0 = s0 ∧ tv f 9 = vI a6 ∧ tv f 11 = s1 ∧ tv f 12 = vI (a1.length : Int) ∧ tv f 13 = vI a3 ∧ tv f 28 = vB a8) ?_ ?_))))
 rintro _ _ ⟨a8, d3, b4, Z4, hS, b3, a7, d1, d2, c6, c7, c8, c0⟩
 unfold Zf1 at b4
 obtain ⟨c5, b4⟩ | ⟨c5, b4⟩ := ic b4
 refine Z8 (Eq.trans (by exact c0) (congrArg vB c5)) (Z1 (Z0 (Z5 (vI 0) U U (Z5 (vB false) U U (Z2 (Y9 (vs := [vI 0, vB false]) func127 ⟨U, U, trivial⟩ ?_))))))
 cases b4
 dsimp only [Ex.elim] at c1
 cases c1
 exact ⟨_, _, U, Z4, (St.dA (St.dA hS)), ⟨_, _, U, U, U⟩⟩
 refine Z6 (Eq.trans (by exact c0) (congrArg vB (X8 c5))) (Y6 (Z0 (Z3 (vI a6) (by exact d2) U (Z5 (vI a6) U U (Z2 (X1 (Z0 (W4 (a3 + 1) (by exact c8) U (i64_in _ (by omega)) U (Z3 (vI (a3 + 1)) U U (Z2 ?_))))))))))
 have hS := St.dA hS
 exact e1 _ _ ⟨a6, (a3 + 1), d3, b4, Z4, hS, (by omega), b3, a7, d1, U, c6, c7, U⟩
 intro d5
 refine Z0 (Z3 (vI a5) (by exact b9) U (Ya4 (k := .i64) (a := a5) (b := 0) U U U (Z3 (vB (decide (0 ≤ a5))) U U ?_)))
 obtain ⟨b0, a4⟩ | ⟨b0, a4⟩ := ic a4
 refine Y0 U U (bT b0 U) (Z3 (vI a6) U U (Y0 U U (bT b0 U) (Z3 (vI a5) (by exact b9) U (Y0 U U (bT b0 U) (L1 (k := .i64) (a := a6) (b := a5) U U U (W5 (t := true) (vB (!decide (a6 = a5))) (bT b0 U) ((if_pos U).trans U) U (Z2 (d5 _ _ ⟨(!decide (a6 = a5)), d4, a4, Z4, hS, b3, a7, b8, U, b5, b6, a9, U⟩))))))))
 refine Z9 U U (bF b0 U) U U U (Z9 U U (bF b0 U) U U U (Z9 U U (bF b0 U) U U U (W5 (t := false) (vB false) (bF b0 U) ((if_neg Bool.false_ne_true).trans U) U (Z2 (d5 _ _ ⟨false, d4, a4, Z4, hS, b3, a7, b8, U, b5, b6, a9, U⟩)))))
 refine Z6 (bF d0 U) (W2 U ?_)
 cases a4
 exact e2 _ _ ⟨a5, d6, U, Z4, hS, a7, b9⟩
 exact ⟨(-1), 0, H, a4, Z4, hS, (by omega), b3, a7, U, U, U, U, U⟩
 rintro _ _ ⟨b2, _, rfl, Z4, hS, a7, c9⟩
 dsimp only [Ex.elim] at c1
 refine Z1 (Z0 (Z3 (vI b2) (by exact c9) U (Z5 (vI b2) U U (Z5 (vB true) U U (Z2 (Y9 (vs := [vI b2, vB true]) func127 ⟨U, U, trivial⟩ ?_))))))
 cases c1
 exact ⟨_, _, U, Z4, (St.dA hS), ⟨_, _, U, U, U⟩⟩
def I9 (K : Nat) (a0 : List Int) : Nat → Int → Option (Ex Bool Unit)
 | 0, _ => none
 | k + 1, a1 => (if a1 < (a0.length : Int) then ((Zu2 K (rd a0 a1) 1 12).bind fun r4 => (if r4 = true then I9 K a0 k (a1 + 1) else some (.ret false))) else some (.go ()))
def Zm1 (K : Nat) (a0 : List Int) : Option Bool := ((I9 K a0 K 0).bind (Ex.elim (fun r => some r) (fun s => some (decide ((a0.length : Int) ≤ 8)))))
theorem Yt9 {a0 : List Int} {r : Bool} (q0 : Zm1 K a0 = some r) (a4 : Y3 (Y4 .i64) H s0 a0) (hS : St H w L) :
 Calls prog 144 #[s0] w (T4 (fun v G => R.bool.p G v r) H L) := by
 have Z4 := Sub.refl H
 refine X0 func144 U ntmps144 U ?_
 unfold Zm1 at q0
 refine Z1 (Z0 (Z5 (vB false) U U (Z2 (Z1 (Z1 (Z0 (Z5 (vI 0) U U (Z2 (Y8 ?_)))))))))
 obtain ⟨a9, a3, a7⟩ := bSm q0
 refine W3 (id := 0) (fun k f w => ∃ a1 H1, I9 K a0 k a1 = some a9 ∧ Sub H H1 ∧ St H1 w L ∧ 0 ≤ a1 ∧ Y3 (Y4 .i64) H1 s0 a0 ∧ tv f 0 = s0 ∧ tv f 3 = vI a1) (fun f w => ∃ H1, a9 = .go () ∧ Sub H H1 ∧ St H1 w L ∧ Y3 (Y4 .i64) H1 s0 a0 ∧ tv f 0 = s0) U ?_ ?_ K ?_ ?_
 rintro f w ⟨a1, H1, a3, _⟩
 rw [I9] at a3; cases a3
 rintro k _ _ b4 b5 ⟨a1, b3, a3, Z4, hS, _, a4, a5, a6⟩
 rw [I9] at a3
 refine Z1 (Z1 (Z0 (Z3 (vI a1) (by exact a6) U (Z3 s0 (by exact a5) U ?_))))
 have c0 := a4.bound
 refine X9 T1 U a4 U (V4 (k := .i64) (a := a1) (b := (a0.length : Int)) U U U (Z2 ?_))
 obtain ⟨b0, a3⟩ | ⟨b0, a3⟩ := ic a3
 refine Z8 (bT b0 U) (Y6 (Z1 (Y8 (Z1 (Z0 (Z3 s0 (by exact a5) U (Z3 (vI a1) (by exact a6) U ?_)))))))
 obtain ⟨_, _, _, _, _, b6, b7, rfl, b8⟩ := a4.elem (i := a1) (by omega) (by omega)
 refine X6 T1 U U b6 U (by omega) (by omega) U (Y1 (vI (rd a0 a1)) ty2 U (hS.froz _ _ b7) (b8 0 (show 0 < 1 by decide)) U ?_)
 obtain ⟨r4, b9, a3⟩ := bSm a3
 refine X2 call73 (I3 U U U) U (Zx7 b9  hS) ?_
 rintro _ H4 _ b2 hS rfl
 have Z4 := Z4.trans b2
 have a4 := a4.mono b2
 refine P5 (b := r4) U U (Z2 ?_)
 obtain ⟨b1, a3⟩ | ⟨b1, a3⟩ := ic a3
 refine Z6 (nT b1) (Y6 (X1 (Z0 (Z3 (vI a1) (by exact a6) U (W4 (a1 + 1) U U (i64_in _ (by omega)) U (Z5 (vI (a1 + 1)) U U (Z2 (b4 _ _ ⟨(a1 + 1), H4, a3, Z4, hS, (by omega), a4, a5, U⟩))))))))
 refine Z8 (nT (X8 b1)) (Z1 (Z0 (Z5 (vB false) U U (Z2 (Y9 (vs := [vB false]) func144 Ut ?_)))))
 cases a3
 dsimp only [Ex.elim] at a7
 cases a7
 exact ⟨_, _, U, Z4, hS, U⟩
 refine Z6 (bF b0 U) (W2 U ?_)
 cases a3
 exact b5 _ _ ⟨b3, U, Z4, hS, a4, a5⟩
 exact ⟨0, H, a3, Z4, hS, (by omega), a4, U, U⟩
 rintro _ _ ⟨_, rfl, Z4, hS, a4, a8⟩
 dsimp only [Ex.elim] at a7
 refine Z1 (Z0 (Z3 s0 (by exact a8) U ?_))
 have c1 := a4.bound
 refine X9 T1 U a4 U (Yj8 (k := .i64) (a := (a0.length : Int)) (b := 8) U U U (Z5 (vB (decide ((a0.length : Int) ≤ 8))) U U (Z2 (Y9 (vs := [vB (decide ((a0.length : Int) ≤ 8))]) func144 Ut ?_))))
 cases a7
 exact ⟨_, _, U, Z4, hS, U⟩
def Ze3 (K : Nat) (a0 : A8) (a1 : Int) : Option MpT := ((E7 K a1).bind fun r7 => (if r7 = 0 then some ([] : List (A8 × Int)) else ((E7 K a1).bind fun a3 => some [(a0, a3)])))
theorem Zw9 {a0 : A8} {a1 : Int} {r : MpT} (q0 : Ze3 K a0 a1 = some r) (hS : St H w L) :
 Calls prog 208 #[vA (Z7 .u8 a0), vI a1] w (T4 (fun v G => (R.agg (X3 yT)).p G v r) H L) := by
 have Z4 := Sub.refl H
 refine X0 func208 U ntmps208 U ?_
 unfold Ze3 at q0
 refine Z1 (Z0 (T8 (v := vA (Z7 .u8 a0)) (Z7 .u8 a0).toArray U U hS U (fun b1 _ hS => U5 (z := vA [vN]) [vN].toArray Zj8.zero U hS U (fun b4 _ hS => Z2 (Z1 (Z1 (Z0 (Z3 (vI a1) U U ?_))))))))
 obtain ⟨r7, c1, q0⟩ := bSm q0
 refine X2 call209 (S4 U) U (B3 c1  hS) ?_
 rintro _ _ _ c2 hS rfl
 have Z4 := Z4.trans c2
 refine Zb2 (k := .i64) (a := r7) (b := 0) U U U (Z2 ?_)
 obtain ⟨a6, q0⟩ | ⟨a6, q0⟩ := ic q0
 refine Z8 (bT a6 U) (Z1 (Z0 (M4 (vA [vN]) Zz0 U (W1 (v := vA [vN]) (vs := ([vN]).toArray) (cs := ([vN]).toArray) U7 U U U hS U (K9 U) U (fun _ hS => Z2 (Y9 (vs := [vA [vN]]) func208 ⟨⟨_, U, T9 U7 (hS.get mL) U⟩, trivial⟩ ?_))))))
 cases q0
 exact ⟨_, _, U, Z4, (St.dA (St.dA hS)), ⟨_, U, ⟨_, U, Y3.nil⟩⟩⟩
 refine Z6 (bF a6 U) (Y6 (Z1 ?_))
 obtain ⟨a3, a9, q0⟩ := bSm q0
 refine W6 6 (S8 [mE 9 (vA (Z7 .u8 a0)), mE 10 (vI a1), mE 11 (vI a3), mE 12 (vA (Z7 .u8 a0 ++ [vI a3])), (13, MP.sl yT [(a0, a3)]), (14, MP.rep (R.agg (X3 yT)) [(a0, a3)])]) [] mixed U U U hS (K3 (X4 fun S B => X5 P7 (evT (B 2 U) U) (S.get (mR (mR mL))) U U (qz S)) (X4 fun S B => Z3 (vI a1) (evT (B 1 U) U) U (qz S)) ?_ ?_ (L7 ?_ ?_ W9)) ?_
 intro _ _ _ _ _ hS _ b0 hcq
 refine X2 call209 (S4 (eM (b0 1 10 U U))) U (B3 a9  hS) ?_
 rintro _ _ _ b2 hS rfl
 exact qn b2 U hS U
 exact Y7 fun S V => Zw5 (Z7 .u8 a0 ++ [vI a3]) Xn9 (Yc0 (eM (V 0 9 U U)) (eM (V 2 11 U U))) (E1 U U U (nl U) (E1 U U U (nl U) (Zr9 U))) U (qz S)
 intro _ _ _ _ _ hS _ b3 hcq
 refine Zc4 (τ := yT) Q0 Yg3 U [vA (Z7 .u8 a0 ++ [vI a3])] [(a0, a3)] U U (D3 (eM (b3 3 12 U U))) (Zl6 ⟨_, _, U, U, U⟩) (by decide) (by decide) hS U fun _ _ _ b5 hS b6 => qn b5 U hS b6
 intro _ _ _ _ _ hS _ b7 hcq
 obtain ⟨c3, c4, a7⟩ := gvS (b7 4 13 U U)
 refine Zw5 [c3] Vn0 (D3 c4) (E1 U a7.cellsL U (nl U) (Zr9 U)) U (qn (.refl _) U hS ⟨_, U, ⟨_, U, a7⟩⟩)
 intro c5 c6 c7 b8 hS b9 c0 hcq
 have hS : St c7 c6 ([(b4, cA [vN] 45)] ++ _) := hS
 have Z4 := Z4.trans b8
 have a8 : tv c5 4 = vP b4 := Eq.trans (b9 4 U) U
 obtain ⟨_, c8, ⟨_, rfl, ⟨a4, rfl, a5⟩⟩⟩ := gvR (c0 5 14 (by decide) U)
 refine W1 (v := vA [a4]) (vs := ([a4]).toArray) (cs := ([vN]).toArray) U7 (by exact a8) (by exact c8) U hS U (K9 a5.isOne) U fun _ hS => Z2 (Y9 (vs := [vA [a4]]) func208 ⟨⟨_, (by exact a8), T9 U7 (hS.get mL) U⟩, trivial⟩ ?_)
 cases q0
 exact ⟨_, _, U, Z4, (St.dA (St.dA hS)), ⟨_, U, ⟨_, U, a5⟩⟩⟩
def T7 (K : Nat) (a0 : MpT) (a1 : A8) (a2 : Int) : Option MpT := (if nfm a0 = true ∧ -4611686018427387904 ≤ a2 ∧ a2 ≤ 4611686018427387904 then ((Zp3 K (i64.wrap ((N5 a0 a1) + a2))).bind fun r4 => (if r4 = 0 then some (Zz2 a0 a1) else some (Zc9 a0 a1 r4))) else none)
theorem Yb0 {a0 : MpT} {a1 : A8} {a2 : Int} {r : MpT} (q0 : T7 K a0 a1 a2 = some r) {L C0 : OL} (a3 : Q8 .i64 s0 a0 C0) (hS : St H w (C0 ++ L)) :
 Calls prog 217 #[s0, vA (Z7 .i64 a1), vI a2] w (Wy8 .i64 s0 r H L) := by
 have Z4 := Sub.refl H
 refine X0 func217 U ntmps217 U ?_
 unfold T7 at q0
 obtain ⟨hG, q0⟩ := gd q0
 refine Z1 (Z0 (T8 (v := vA (Z7 .i64 a1)) (Z7 .i64 a1).toArray U U hS U (fun _ _ hS => Z2 (Z1 (Z0 (Z3 s0 U U (X5 P3 U (hS.get mL) U U ?_)))))))
 have hS := hS.perm R5
 refine Wo3 (a := a1) Zs5 U U a3 hS U ?_
 have hS := hS.perm R5.symm
 refine Z3 (vI a2) U U (W4 (i64.wrap ((N5 a0 a1) + a2)) U U U U ?_)
 obtain ⟨r4, a7, q0⟩ := bSm q0
 refine X2 call206 (S4 U) U (Ye6 a7  hS) ?_
 rintro _ _ _ a5 hS rfl
 have Z4 := Z4.trans a5
 have a3 := a3.mono a5
 refine Z5 (vI r4) U U (Z2 (Z1 (Z0 (Z3 (vI r4) U U (L1 (k := .i64) (a := r4) (b := 0) U U U (Z2 ?_))))))
 obtain ⟨a4, q0⟩ | ⟨a4, q0⟩ := ic q0
 refine Z6 (bN a4 U) (Z0 (Z3 s0 U U (X5 P3 U (hS.get mL) U U ?_)))
 have hS := hS.perm R5
 refine Ws6 (a := a1) Zs5 U U a3 hS ?_
 intro _ _ a8 hS
 have hS := hS.perm R5.symm
 refine Z2 (Ys7 (vs := []) func217 trivial ?_)
 have hS := hS.perm R5
 have hS := St.dropMid hS
 cases q0
 exact ⟨_, _, U, Z4, hS, a8⟩
 refine Z8 (bO a4 U) (Z0 (Z3 s0 U U (X5 P3 U (hS.get mL) U U (Z3 (vI r4) U U ?_))))
 have hS := hS.perm R5
 refine Yq3 (a := a1) (m := r4) Zs5 U U U a3 hS ?_
 intro _ _ a6 hS
 have hS := hS.perm R5.symm
 refine Z2 (Ys7 (vs := []) func217 trivial ?_)
 have hS := hS.perm R5
 have hS := St.dropMid hS
 cases q0
 exact ⟨_, _, U, Z4, hS, a6⟩
def Zr6 (K : Nat) (a0 : List Int) : Option Int := ((N9 K a0 (fun x => Zt3 K x)).bind fun r1 => some r1)
theorem Yf4 {a0 : List Int} {r : Int} (q0 : Zr6 K a0 = some r) (a1 : Y3 (Y4 .i64) H s0 a0) (hS : St H w L) :
 Calls prog 159 #[s0] w (T4 (fun v G => (R.int .i64).p G v r) H L) := by
 have Z4 := Sub.refl H
 refine X0 func159 U ntmps159 U ?_
 unfold Zr6 at q0
 refine Z1 (Z0 (Z5 (vI 0) U U (Z2 (Z1 (Z0 (Z3 s0 U U ?_))))))
 obtain ⟨r1, a3, q0⟩ := bSm q0
 refine X2 call235 (W8 rfl rfl) rfl (Zl7 a3 a1 ⟨236, #[], rfl, call236, fun H2 w2 L2 v x b a7 a4 hv a5 => by obtain rfl := hv; exact Xc4 a5   a4⟩ hS) ?_
 rintro _ _ _ a6 hS rfl
 have Z4 := Z4.trans a6
 refine Z5 (vI r1) U U (Z2 (Y9 (vs := [vI r1]) func159 Ut ?_))
 cases q0
 exact ⟨_, _, U, Z4, hS, U⟩
def Zx5 (K : Nat) (a0 : Int) : Option Bool := ((Zq2 K a0 1 10006).bind fun r1 => some r1)
theorem Yy7 {a0 : Int} {r : Bool} (q0 : Zx5 K a0 = some r) (hS : St H w L) :
 Calls prog 212 #[vI a0] w (T4 (fun v G => R.bool.p G v r) H L) := by
 have Z4 := Sub.refl H
 refine X0 func212 U ntmps212 U ?_
 unfold Zx5 at q0
 refine Z1 (Z0 (Z5 (vB false) U U (Z2 (Z1 (Z0 (Z3 (vI a0) U U ?_))))))
 obtain ⟨r1, a1, q0⟩ := bSm q0
 refine X2 call81 (I3 U U U) U (Yn5 a1  hS) ?_
 rintro _ _ _ a3 hS rfl
 have Z4 := Z4.trans a3
 refine Z5 (vB r1) U U (Z2 (Y9 (vs := [vB r1]) func212 Ut ?_))
 cases q0
 exact ⟨_, _, U, Z4, hS, U⟩
end Go.Proofs.YtabofnehiclkiaaGreat
