/- Walks of functions: each computes its pure function, if that gives a value. -/
import Derived.Test.YtabofnehiclkiaaGreatZF1
import Derived.Test.YtabofnehiclkiaaGreatZF4
import Derived.Test.YtabofnehiclkiaaGreatZX
import Derived.Test.YtabofnehiclkiaaGreatZF2
namespace Go.Proofs.YtabofnehiclkiaaGreat
open Go Go.Proofs.Tryz
set_option linter.unusedSimpArgs false
set_option linter.unusedVariables false
set_option maxRecDepth 100000
set_option maxHeartbeats 8000000
variable {K : Nat} {H : FH} {w : World} {L : OL} {s0 s1 s2 s3 s4 s5 s6 : Value}
theorem Vb0 : ApI prog 129 72 8 8 (Value.agg #[Value.int .u8 0, Value.int .u8 0, Value.int .u8 0, Value.int .u8 0, Value.int .u8 0, Value.int .u8 0, Value.int .u8 0, Value.int .u8 0]) := ⟨underlying129, ⟨_, Tryz.info72_, rfl, rfl, rfl⟩, rfl, by decide, by decide⟩
def Zl0 (d n : Int) : Int :=
  if 20 < (if d.tmod 2 = 0 then n.tdiv d else if 1 < n.tdiv d then 1 else n.tdiv d) then 20 else (if d.tmod 2 = 0 then n.tdiv d else if 1 < n.tdiv d then 1 else n.tdiv d)
theorem Yy1 {d n : Int} (hn : 1 ≤ d ∧ d ≤ 12) (hl : 0 ≤ n ∧ n ≤ 1000) : 0 ≤ Zl0 d n ∧ Zl0 d n ≤ 20 ∧ Zl0 d n * d ≤ n := by
  have h1 : n.tdiv d * d ≤ n := by rw [Int.tdiv_eq_ediv_of_nonneg hl.1]; exact Int.ediv_mul_le n (by omega)
  have h0 : 0 ≤ n.tdiv d := Int.tdiv_nonneg hl.1 (by omega)
  have key : ∀ x : Int, 0 ≤ x → x ≤ n.tdiv d → x * d ≤ n := fun x hx hx' => Int.le_trans (Int.mul_le_mul_of_nonneg_right hx' (by omega)) h1
  have hb : 0 ≤ Zl0 d n ∧ Zl0 d n ≤ 20 ∧ Zl0 d n ≤ n.tdiv d := by
    unfold Zl0
    generalize n.tdiv d = q at h0
    by_cases hp : d.tmod 2 = 0
    · simp only [hp, if_true]
      by_cases h20 : 20 < q
      · rw [if_pos h20]; omega
      · rw [if_neg h20]; omega
    · simp only [hp, if_false]
      by_cases h3 : 1 < q
      · simp only [h3, if_true]; rw [if_neg (by decide)]; omega
      · simp only [h3, if_false]; rw [if_neg (by omega)]; omega
  exact ⟨hb.1, hb.2.1, key _ hb.1 hb.2.2⟩
def fsF (ds : List Int) : Nat → A8 → Int → List A8 → List A8
  | 0, p, left, out => if left = 0 then out ++ [p] else out
  | g + 1, p, left, out =>
      ((List.range ((Zl0 (rd ds ((ds.length - (g + 1) : Nat) : Int)) left).toNat + 1)).reverse).foldl (fun o (e : Nat) => if (o.length : Int) ≤ 400 then fsF ds g (U8 p ((ds.length - (g + 1) : Nat) : Int) (e : Int)) (left - (e : Int) * rd ds ((ds.length - (g + 1) : Nat) : Int)) o else o) out
theorem Xe5 {f : List A8 → Nat → List A8} (h : ∀ o e, (o.length : Int) ≤ 400 → ((f o e).length : Int) ≤ 401) : ∀ (es : List Nat) (o : List A8), (o.length : Int) ≤ 401 → ((es.foldl (fun o e => if (o.length : Int) ≤ 400 then f o e else o) o).length : Int) ≤ 401
  | [], _, ho => ho
  | e :: es, o, ho => by
    rw [List.foldl_cons]
    refine Xe5 h es _ ?_
    split
    · rename_i h4; exact h o e h4
    · exact ho
theorem Wd6 (ds : List Int) : ∀ (g : Nat) (p : A8) (left : Int) (out : List A8), (out.length : Int) ≤ 400 → ((fsF ds g p left out).length : Int) ≤ 401
  | 0, p, left, out, h => by
    unfold fsF
    split
    · rw [List.length_append]; simp; omega
    · omega
  | g + 1, p, left, out, h => by
    rw [fsF]
    exact Xe5 (fun o e ho => Wd6 ds g _ _ o ho) _ _ (by omega)
theorem Yz8 {f : List A8 → Nat → List A8} : ∀ (es : List Nat) (o : List A8), ¬ (o.length : Int) ≤ 400 → es.foldl (fun o e => if (o.length : Int) ≤ 400 then f o e else o) o = o
  | [], _, _ => rfl
  | e :: es, o, ho => by rw [List.foldl_cons, if_neg ho]; exact Yz8 es o ho
theorem Va2 : CoI prog 2 5 .u8 := ⟨⟨_, runUnderlying2⟩, runUnderlying5⟩
theorem Wy0 {ds : List Int} (hds : ∀ n, n ∈ ds → 1 ≤ n ∧ n ≤ 12) (hd8 : ds.length ≤ 8) : ∀ (g : Nat), g ≤ ds.length → ∀ {H : FH} {w : World} {L Co : OL} {vd vo : Value} {p : A8} {left : Int} {out : List A8} (hl : 0 ≤ left ∧ left ≤ 1000)
    (hd : Y3 (Y5 .i64) H vd ds) (ho : X8 (Q9 .u8) 72 H vo out Co) (hlen : (out.length : Int) ≤ 400) (hS : St H w (Co ++ L)),
    Calls prog 171 #[vd, .agg (Z6 .u8 p).toArray, vI ((ds.length - g : Nat) : Int), vI left, vo] w (Yf9 (Q9 .u8) 72 (fsF ds g p left out) H L) := by
  intro g
  induction g with
  | zero =>
    intro hg H w L Co vd vo p left out hl hd ho hlen hS
    refine X0 func171 rfl ntmps171 rfl ?_
    repeat refine Z1 ?_
    refine Z0 ?_
    refine T7 (v := .agg (Z6 .u8 p).toArray) (Z6 .u8 p).toArray rfl rfl hS rfl ?_
    intro bp w1 hS
    refine Z5 vN rfl rfl (Z2 ?_)
    repeat refine Z1 ?_
    refine Z0 (Z3 (vI ((ds.length - 0 : Nat) : Int)) rfl rfl (Z3 vd rfl rfl ?_))
    refine X9 U5 rfl hd rfl ?_
    refine Za0 (k := .i64) (a := ((ds.length - 0 : Nat) : Int)) (b := (ds.length : Int)) rfl rfl rfl (Z2 ?_)
    repeat refine Z1 ?_
    refine Z8 (bT (by simp) rfl) ?_
    repeat refine Z1 ?_
    refine Z0 (Z3 (vI left) rfl rfl ?_)
    refine Za0 (k := .i64) (a := left) (b := 0) rfl rfl rfl (Z2 ?_)
    repeat refine Z1 ?_
    unfold fsF
    by_cases h0 : left = 0
    · rw [if_pos h0]
      refine Z8 (bT h0 rfl) ?_
      repeat refine Z1 ?_
      refine Z0 (Z3 vo rfl rfl ?_)
      refine W3 P5 rfl (hS.get mL) rfl rfl ?_
      refine Zc2 (τ := (Q9 .u8)) Yb1 Yl0 rfl [vA (Z6 .u8 p)] [p] rfl rfl (E7 rfl) (Zk6 rfl) (by decide) (by decide) hS rfl ?_
      intro u8 H8 w8 s8 hS hl8
      refine N6 (τ := Q9 .u8) Vb0 rfl rfl rfl (ho.mono s8) hS.dropA hl8 (by simp; omega) rfl ?_
      intro v9 w9 C9 ho9 hS
      refine Z5 v9 rfl rfl (Z2 ?_)
      exact Y9 (vs := [v9]) func171 ⟨rfl, trivial⟩ ⟨_, _, _, rfl, s8, hS, ho9⟩
    · rw [if_neg h0]
      refine Z7 (bF h0 rfl) (Y6 ?_)
      repeat refine Z1 ?_
      refine Z0 (Z3 vo rfl rfl (Z5 vo rfl rfl (Z2 ?_)))
      exact Y9 (vs := [vo]) func171 ⟨rfl, trivial⟩ ⟨_, _, _, rfl, .refl _, hS.dropA, ho⟩
  | succ g ih =>
    intro hg H w L Co vd vo p left out hl hd ho hlen hS
    rw [fsF]
    have hnd := hds _ (show rd ds ((ds.length - (g + 1) : Nat) : Int) ∈ ds by
      unfold rd
      rw [Int.toNat_natCast, List.getD_eq_getElem?_getD, List.getElem?_eq_getElem (show ds.length - (g + 1) < ds.length by omega)]
      exact List.getElem_mem _)
    have hir : ds.length - (g + 1) + 1 + g = ds.length := by omega
    generalize ds.length - (g + 1) = i at *
    obtain ⟨htop0, htop1, htop2⟩ := Yy1 hnd hl
    have hq0 : 0 ≤ left.tdiv (rd ds (i : Int)) := Int.tdiv_nonneg hl.1 (by omega)
    have hq1 : left.tdiv (rd ds (i : Int)) ≤ left := by rw [Int.tdiv_eq_ediv_of_nonneg hl.1]; exact Int.ediv_le_self _ hl.1
    generalize hnn : rd ds (i : Int) = n at *
    refine X0 func171 rfl ntmps171 rfl ?_
    repeat refine Z1 ?_
    refine Z0 ?_
    refine T7 (v := .agg (Z6 .u8 p).toArray) (Z6 .u8 p).toArray rfl rfl hS rfl ?_
    intro bp w1 hS
    refine Z5 vN rfl rfl (Z2 ?_)
    repeat refine Z1 ?_
    refine Z0 (Z3 (vI (i : Int)) rfl rfl (Z3 vd rfl rfl ?_))
    refine X9 U5 rfl hd rfl ?_
    refine Za0 (k := .i64) (a := (i : Int)) (b := (ds.length : Int)) rfl rfl rfl (Z2 ?_)
    repeat refine Z1 ?_
    refine Z7 (bF (by omega) rfl) (Y6 ?_)
    repeat refine Z1 ?_
    obtain ⟨b, o, cs, E, _, hp, hb, rfl, hc⟩ := hd.elem (i := (i : Int)) (by omega) (by omega)
    have hcn := hc 0 (show 0 < 1 by decide)
    rw [hnn] at hcn
    refine Z0 (Z3 (vI left) rfl rfl (Z3 vd rfl rfl (Z3 (vI (i : Int)) rfl rfl ?_)))
    refine X5 U5 rfl rfl hp rfl (by omega) (by omega) rfl ?_
    refine Y0 (vI n) ty2 rfl (hS.froz _ _ hb) hcn rfl ?_
    refine Xq0 (left.tdiv n) rfl rfl (by omega) (IntWalk.i64_in _ (by omega)) rfl (Z5 (vI (left.tdiv n)) rfl rfl (Z2 ?_))
    repeat refine Z1 ?_
    refine Z0 (Z3 vd rfl rfl (Z3 (vI (i : Int)) rfl rfl ?_))
    refine X5 U5 rfl rfl hp rfl (by omega) (by omega) rfl ?_
    refine Y0 (vI n) ty2 rfl (hS.froz _ _ hb) hcn rfl ?_
    refine Zc1 (n.tmod 2) rfl rfl (by decide) rfl rfl ?_
    refine M0 (k := .i64) (a := n.tmod 2) (b := 0) rfl rfl rfl (Z2 ?_)
    repeat refine Z1 ?_
    refine N4 (fun f w => St H w ([(bp, .cells (Z6 .u8 p).toArray 72)] ++ (Co ++ L)) ∧ tv f 0 = vd ∧ tv f 2 = vI (i : Int) ∧ tv f 3 = vI left ∧ tv f 4 = vo ∧ tv f 6 = vP bp ∧ tv f 11 = vI (if n.tmod 2 = 0 then left.tdiv n else if 1 < left.tdiv n then 1 else left.tdiv n)) ?_ ?_
    · rintro f3 w3 ⟨hS, t0, t2, t3, t4, t6, t11⟩
      repeat refine Z1 ?_
      refine Z0 (Z3 _ t11 rfl ?_)
      refine Xq1 rfl rfl rfl (Z5 (vI (Zl0 n left)) rfl rfl (Z2 ?_))
      repeat refine Z1 ?_
      refine Y8 ?_
      refine W0 (id := 0) (fun k f w => ∃ (x : Nat) (H1 : FH) (pc : A8) (vo1 : Value) (Co1 : OL) (out1 : List A8), (x : Int) ≤ Zl0 n left + 1 ∧ x < k ∧ Sub H H1 ∧ St H1 w ([(bp, .cells (Z6 .u8 pc).toArray 72)] ++ (Co1 ++ L)) ∧ X8 (Q9 .u8) 72 H1 vo1 out1 Co1 ∧ (out1.length : Int) ≤ 401 ∧ (∀ e, U8 pc (i : Int) e = U8 p (i : Int) e) ∧
          ((List.range x).reverse).foldl (fun o (e : Nat) => if (o.length : Int) ≤ 400 then fsF ds g (U8 p (i : Int) (e : Int)) (left - (e : Int) * n) o else o) out1 = ((List.range ((Zl0 n left).toNat + 1)).reverse).foldl (fun o (e : Nat) => if (o.length : Int) ≤ 400 then fsF ds g (U8 p (i : Int) (e : Int)) (left - (e : Int) * n) o else o) out ∧ tv f 0 = vd ∧ tv f 2 = vI (i : Int) ∧ tv f 3 = vI left ∧ tv f 4 = vo1 ∧ tv f 6 = vP bp ∧ tv f 12 = vI ((x : Int) - 1))
        (fun f w => ∃ (H1 : FH) (vo1 : Value) (Co1 : OL), Sub H H1 ∧ St H1 w (Co1 ++ L) ∧ X8 (Q9 .u8) 72 H1 vo1 (((List.range ((Zl0 n left).toNat + 1)).reverse).foldl (fun o (e : Nat) => if (o.length : Int) ≤ 400 then fsF ds g (U8 p (i : Int) (e : Int)) (left - (e : Int) * n) o else o) out) Co1 ∧ tv f 4 = vo1) rfl ?_ ?_ ((Zl0 n left).toNat + 2) ?_ ?_
      · rintro f w ⟨x, H1, pc, vo1, Co1, out1, h1, h2, _⟩; omega
      · rintro k f w ihk hx ⟨x, H1, pc, vo1, Co1, out1, h1, h2, Z4, hS, ho, hlen, hpc, hfold, t0, t2, t3, t4, t6, t12⟩
        repeat refine Z1 ?_
        refine Z0 (Z3 (vI ((x : Int) - 1)) (by exact t12) rfl ?_)
        refine Ya0 (k := .i64) (a := (x : Int) - 1) (b := 0) rfl rfl rfl (Z3 _ rfl rfl ?_)
        by_cases hx0 : (0 : Int) ≤ (x : Int) - 1
        case neg =>
          have e : x = 0 := by omega
          subst e
          refine Z9 (b' := false) rfl rfl (bF hx0 rfl) rfl rfl rfl (Z9 (b' := false) rfl rfl (bF hx0 rfl) rfl rfl rfl (Z9 (b' := false) rfl rfl (bF hx0 rfl) rfl rfl rfl ?_))
          refine W6 (t := false) (vB false) (bF hx0 rfl) rfl rfl (Z2 ?_)
          repeat refine Z1 ?_
          refine Z7 rfl (X7 rfl ?_)
          rw [List.range_zero, List.reverse_nil, List.foldl_nil] at hfold
          exact hx _ _ ⟨H1, vo1, Co1, Z4, hS.dropA, by rw [← hfold]; exact ho, t4⟩
        refine Y1 (b := true) rfl rfl (bT hx0 rfl) (Z3 vo1 (by exact t4) rfl (Y1 (b := true) rfl rfl (bT hx0 rfl) ?_))
        refine Yd0 Yb1 rfl ho rfl (Y1 (b := true) rfl rfl (bT hx0 rfl) ?_)
        refine Yh6 (k := .i64) (a := (out1.length : Int)) (b := 400) rfl rfl rfl ?_
        refine W6 (t := true) (vB (decide ((out1.length : Int) ≤ 400))) (bT hx0 rfl) rfl rfl (Z2 ?_)
        repeat refine Z1 ?_
        by_cases h4 : (out1.length : Int) ≤ 400
        case neg =>
          refine Z7 (bF h4 rfl) (X7 rfl ?_)
          rw [Yz8 _ _ h4] at hfold
          exact hx _ _ ⟨H1, vo1, Co1, Z4, hS.dropA, by rw [← hfold]; exact ho, t4⟩
        refine Z8 (bT h4 rfl) (Y6 ?_)
        obtain ⟨y, rfl⟩ : ∃ y, x = y + 1 := ⟨x - 1, by omega⟩
        have t12 : tv f 12 = vI (y : Int) := by rw [t12]; congr 1; omega
        rw [List.range_succ, List.reverse_append, List.reverse_singleton, List.singleton_append, List.foldl_cons, if_pos h4] at hfold
        have hyn : 0 ≤ (y : Int) * n ∧ (y : Int) * n ≤ left := by
          have hy : (y : Int) ≤ Zl0 n left := by omega
          exact ⟨Int.mul_nonneg (by omega) (by omega), Int.le_trans (Int.mul_le_mul_of_nonneg_right hy (by omega)) htop2⟩
        repeat refine Z1 ?_
        refine Y8 ?_
        repeat refine Z1 ?_
        have hy20 : (y : Int) ≤ 20 := by omega
        have hyw : IntKind.u8.wrap (y : Int) = (y : Int) := IntWalk.u8_in _ (by omega)
        refine Z0 (Z3 (vI (i : Int)) (by exact t2) rfl (Z3 (vI (y : Int)) (by exact t12) rfl ?_))
        refine Yk5 (s := .i64) (y : Int) Va2 rfl hyw rfl ?_
        refine V5 Ze8 (by exact t6) rfl (by omega) (by omega) rfl ?_
        refine K6 (v := .int .u8 (y : Int)) (cs := (Z6 .u8 pc).toArray) (cs' := (Z6 .u8 (U8 pc (i : Int) (y : Int))).toArray) ty5 rfl rfl hS rfl (Zs5 rfl) (by simp [Z6]; omega) (Zh7 (by omega) (by omega)) ?_
        intro w4 hS
        refine Z2 ?_
        repeat refine Z1 ?_
        refine Xk6 fun f2 hf2 => ?_
        have t0 : tv f2 0 = vd := by rw [hf2]; exact t0
        have t2 : tv f2 2 = vI (i : Int) := by rw [hf2]; exact t2
        have t3 : tv f2 3 = vI left := by rw [hf2]; exact t3
        have t4 : tv f2 4 = vo1 := by rw [hf2]; exact t4
        have t6 : tv f2 6 = vP bp := by rw [hf2]; exact t6
        have t12 : tv f2 12 = vI (y : Int) := by rw [hf2]; exact t12
        clear hf2
        have hb := Z4.1 _ _ hb
        generalize hpd : U8 pc (i : Int) (y : Int) = pd at hS
        refine W7 13 (S9 [mE 53 vd, mE 54 (vA (Z6 .u8 pd)), mE 55 (vI (i : Int)), mE 56 (vI ((i : Int) + 1)), mE 57 (vI left), mE 58 (vI (y : Int)), mE 59 vd, mE 60 (vI (i : Int)), mE 61 (vQ b o), mE 62 (vI n), mE 63 (vI ((y : Int) * n)), mE 64 (vI (left - (y : Int) * n)), mE 65 vo1]) [] mixed rfl rfl rfl hS (V9 ?_ ?_ ?_ ?_ ?_ ?_ ?_ ?_ (J9 ?_ ?_ ?_ ?_ (E8 ?_ V1))) ?_
        · exact X4 fun S B => Z3 _ (evT (B 0 rfl) t0) rfl (qz S)
        · exact X4 fun S B => W3 P5 (evT (B 6 rfl) t6) (S.get (mR mL)) rfl rfl (qz S)
        · exact X4 fun S B => Z3 _ (evT (B 2 rfl) t2) rfl (qz S)
        · exact Y7 fun S V => W2 ((i : Int) + 1) (eM (V 2 55 rfl rfl)) rfl (IntWalk.i64_in _ (by omega)) rfl (qz S)
        · exact X4 fun S B => Z3 _ (evT (B 3 rfl) t3) rfl (qz S)
        · exact X4 fun S B => Z3 _ (evT (B 12 rfl) t12) rfl (qz S)
        · exact X4 fun S B => Z3 _ (evT (B 0 rfl) t0) rfl (qz S)
        · exact X4 fun S B => Z3 _ (evT (B 2 rfl) t2) rfl (qz S)
        · exact Y7 fun S V => X5 U5 rfl (eM (V 6 59 rfl rfl)) hp (eM (V 7 60 rfl rfl)) (by omega) (by omega) rfl (qz S)
        · exact P0 fun s S V => Y0 (vI n) ty2 (eM (V 8 61 rfl rfl)) (S.froz _ _ (s.1 _ _ hb)) hcn rfl (qz S)
        · exact Y7 fun S V => Zg4 ((y : Int) * n) (eM (V 5 58 rfl rfl)) (eM (V 9 62 rfl rfl)) (IntWalk.i64_in _ (by omega)) rfl (qz S)
        · exact Y7 fun S V => Zk8 (left - (y : Int) * n) (eM (V 4 57 rfl rfl)) (eM (V 10 63 rfl rfl)) (IntWalk.i64_in _ (by omega)) rfl (qz S)
        · exact X4 fun S B => Z3 _ (evT (B 4 rfl) t4) rfl (qz S)
        intro f3 w5 H5 s5 hS hB hV _
        have hS : St H5 w5 (Co1 ++ ([(bp, .cells (Z6 .u8 pd).toArray 72)] ++ L)) := hS.dropA.swap
        refine U9 call171 (Ww4 (eM (hV 0 53 (by decide) rfl)) (eM (hV 1 54 (by decide) rfl)) ((eM (hV 3 56 (by decide) rfl)).trans (congrArg vI (show (i : Int) + 1 = ((ds.length - g : Nat) : Int) by omega))) (eM (hV 11 64 (by decide) rfl)) (eM (hV 12 65 (by decide) rfl))) rfl (ih (by omega) (p := pd) (left := left - (y : Int) * n) ⟨by omega, by omega⟩ ((hd.mono Z4).mono s5) (ho.mono s5) h4 hS) ?_
        rintro e6 w6 ⟨vo6, H6, Co6, rfl, s6, hS, ho6⟩
        refine ⟨_, rfl, Z5 vo6 rfl rfl (Z2 ?_)⟩
        have hS := hS.swap
        refine X1 (Z0 (Z3 (vI (y : Int)) (by exact (evT (hB 12 rfl) t12)) rfl ?_))
        refine Zk8 ((y : Int) - 1) rfl rfl (IntWalk.i64_in _ (by omega)) rfl (Z5 (vI ((y : Int) - 1)) rfl rfl (Z2 ?_))
        have hl6 := Wd6 ds g pd (left - (y : Int) * n) out1 h4
        rw [show fsF ds g (U8 p (i : Int) (y : Int)) (left - (y : Int) * n) out1 = fsF ds g pd (left - (y : Int) * n) out1 by rw [← hpd, hpc (y : Int)]] at hfold
        exact ihk _ _ ⟨y, H6, pd, vo6, Co6, _, by omega, by omega, (Z4.trans s5).trans s6, hS, ho6, hl6, fun e => by rw [← hpd, Xh3]; exact hpc e, hfold, (evT (hB 0 rfl) t0), (evT (hB 2 rfl) t2), (evT (hB 3 rfl) t3), rfl, (evT (hB 6 rfl) t6), rfl⟩
      · exact ⟨(Zl0 n left).toNat + 1, H, p, vo, Co, out, by omega, by omega, .refl _, hS, ho, by omega, fun _ => rfl, rfl, t0, t2, t3, t4, t6, by show vI (Zl0 n left) = vI ((((Zl0 n left).toNat + 1 : Nat) : Int) - 1); congr 1; omega⟩
      · rintro f w ⟨H1, vo1, Co1, Z4, hS, ho, t4⟩
        repeat refine Z1 ?_
        refine Z0 (Z3 vo1 (by exact t4) rfl (Z5 vo1 rfl rfl (Z2 ?_)))
        exact Y9 (vs := [vo1]) func171 ⟨rfl, trivial⟩ ⟨_, _, _, rfl, Z4, hS, ho⟩
    intro hJ
    by_cases hodd : n.tmod 2 = 0
    · refine Z7 (bN hodd rfl) (Y6 ?_)
      exact hJ _ _ ⟨hS, rfl, rfl, rfl, rfl, rfl, by rw [if_pos hodd]; rfl⟩
    · refine Z8 (bO hodd rfl) ?_
      refine Z0 (Z3 (vI (left.tdiv n)) rfl rfl ?_)
      refine Xq1 rfl rfl rfl (Z5 (vI (if 1 < left.tdiv n then 1 else left.tdiv n)) rfl rfl (Z2 ?_))
      exact hJ _ _ ⟨hS, rfl, rfl, rfl, rfl, rfl, by rw [if_neg hodd]; rfl⟩
def Rb (H : FH) (L : OL) (v : Value) (xs : List Int) : Prop :=
 ∃ a c, v = .slice a xs.length c ∧ xs.length ≤ 9223372036854775807 ∧ (xs = [] ∨ ∃ b o cs E z, a = some ⟨b, o, none⟩ ∧ (∀ H' w, Sub H H' → St H' w L → w.heap[b]? = some (.cells cs E z)) ∧ ∀ i x, xs[i]? = some x → cs[o + i]? = some (vI x))
theorem Rb.mono {H H' : FH} {L : OL} {v : Value} {xs : List Int} (h : Rb H L v xs) (hs : Sub H H') : Rb H' L v xs := by
 obtain ⟨a, c, h1, h2, h3⟩ := h
 refine ⟨a, c, h1, h2, ?_⟩
 rcases h3 with h3 | ⟨b, o, cs, E, z, h4, h5, h6⟩
 exact .inl h3
 exact .inr ⟨b, o, cs, E, z, h4, fun K w hk => h5 K w (hs.trans hk), h6⟩
theorem Rb.ofRd {H : FH} {L : OL} {v : Value} {xs : List Int} (h : Y3 (Y5 .i64) H v xs) : Rb H L v xs := by
 have hb := h.bound
 obtain ⟨a, c, ⟨hv, hl⟩, h⟩ := h
 refine ⟨a, c, hv, hb, ?_⟩
 rcases h with h | ⟨b, o, cs, E, h1, h2, h3⟩
 exact .inl h
 refine .inr ⟨b, o, cs, _, _, h1, fun H' w hs hS => hS.froz _ _ (hs.1 _ _ h2), fun i x hx => ?_⟩
 obtain ⟨ecs, hr, hj⟩ := h3 i x hx
 cases hr
 have := hj 0 (show 0 < 1 by decide)
 simpa [show (Y5 IntKind.i64).size = 1 from rfl] using this
theorem Rb.ofOwn {H : FH} {L C : OL} {v : Value} {xs : List Int} {E : TypeId} (h : X8 (Y5 .i64) E H v xs C) (hin : ∀ x, x ∈ C → x ∈ L) : Rb H L v xs := by
 rcases h with ⟨rfl, rfl, rfl⟩ | ⟨b, c, cs, hv, h1, h2, h3, rfl, h5⟩
 exact ⟨none, 0, rfl, by simp, .inl rfl⟩
 refine ⟨_, c, hv, by simp only [maxLen] at h2; omega, .inr ⟨b, 0, cs, _, _, rfl, fun H' w hs hS => hS.own _ (hin _ (List.mem_singleton.2 rfl)), fun i x hx => ?_⟩⟩
 obtain ⟨ecs, hr, hj⟩ := h5 i x hx
 cases hr
 have := hj 0 (show 0 < 1 by decide)
 rw [Nat.zero_add]
 simpa [show (Y5 IntKind.i64).size = 1 from rfl] using this
theorem Rb.at {H : FH} {L : OL} {v : Value} {xs : List Int} {i : Int} (h : Rb H L v xs) (h0 : 0 ≤ i) (hm : i < xs.length) :
 ∃ b o c, v = .slice (some ⟨b, o, none⟩) xs.length c ∧ ∀ H' w, Sub H H' → St H' w L → ∃ cs E z, w.heap[b]? = some (.cells cs E z) ∧ cs[o + i.toNat * 1]? = some (vI (rd xs i)) := by
 obtain ⟨a, c, h1, h2, h3⟩ := h
 rcases h3 with rfl | ⟨b, o, cs, E, z, rfl, h5, h6⟩
 simp at hm; omega
 exact ⟨b, o, c, h1, fun H' w hs hS => ⟨cs, E, z, h5 _ _ hs hS, by rw [Nat.mul_one]; exact h6 _ _ (Xl1 h0 hm)⟩⟩
theorem Rb.lenV {H : FH} {L : OL} {v : Value} {xs : List Int} (h : Rb H L v xs) : ∃ a c, v = .slice a xs.length c := let ⟨a, c, h1, _⟩ := h; ⟨a, c, h1⟩
def fld (x : Int) : Int := ((IntKind.i64.wrap (((x).tmod 10007) + 10007))).tmod 10007
def tk1 (x y f : Int) : Int := fld (IntKind.i64.wrap (x - (IntKind.i64.wrap (f * y)).tmod 10007))
def tkN (row other : List Int) (f : Int) : Nat → List Int
 | 0 => row
 | k + 1 => (tkN row other f k).set k (tk1 (rd (tkN row other f k) (k : Int)) (rd other (k : Int)) f)
theorem Yi6 (row other : List Int) (f : Int) : ∀ k, (tkN row other f k).length = row.length
 | 0 => rfl
 | k + 1 => by rw [tkN, List.length_set, Yi6 row other f k]
section
set_option maxRecDepth 100000
set_option maxHeartbeats 8000000
theorem Yz7 {H : FH} {w : World} {L C : OL} {v u : Value} {row other : List Int} {q : Int} (ho : X8 (Y5 .i64) 2 H v row C) (hr : Rb H L u other) (hl : other.length ≤ row.length) (hS : St H w (C ++ L)) :
 Calls prog 194 #[v, u, vI q] w (fun e w' => ∃ H' C', e = .returned (.tuple #[]) ∧ Sub H H' ∧ St H' w' (C' ++ L) ∧ X8 (Y5 .i64) 2 H' v (tkN row other q other.length) C') := by
 refine X0 func194 rfl ntmps194 rfl ?_
 obtain ⟨ua, uc, huv⟩ := hr.lenV
 have hub : other.length ≤ 9223372036854775807 := let ⟨_, _, _, h, _⟩ := hr; h
 refine Z1 (Z0 (Z3 u rfl rfl ?_))
 refine Zo2 U5 (show u = .slice ua other.length uc from huv) rfl (Z3 (vI 0) rfl rfl (Z2 (Y8 ?_)))
 refine W0 (id := 0) (fun k f w => ∃ (n : Nat) (H1 : FH) (C' : OL), n ≤ other.length ∧ other.length < n + k ∧ Sub H H1 ∧ St H1 w (C' ++ L) ∧ X8 (Y5 .i64) 2 H1 v (tkN row other q n) C' ∧ tv f 0 = v ∧ tv f 2 = vI q ∧ tv f 8 = u ∧ tv f 9 = vI (other.length : Int) ∧ tv f 10 = vI (n : Int))
  (fun f w => ∃ (H1 : FH) (C' : OL), Sub H H1 ∧ St H1 w (C' ++ L) ∧ X8 (Y5 .i64) 2 H1 v (tkN row other q other.length) C') rfl ?_ ?_ (other.length + 1) ?_ ?_
 rintro f w ⟨n, H1, C', h1, h2, _⟩; omega
 rintro k f w ih hx ⟨n, H1, C', h1, h2, Z4, hS, ho, t0, t2, t8, t9, t10⟩
 refine Z1 (Z0 ?_)
 refine W8 (k := .i64) (a := n) (b := other.length) (by exact t10) (by exact t9) rfl (Z2 (Z1 ?_))
 by_cases hn : (n : Int) < (other.length : Int)
 refine Z8 (bT hn rfl) (Y6 (Z1 (Y8 (Z1 (Z0 (Z3 (vI n) (by exact t10) rfl ?_)))))) 
 obtain ⟨b, o, c, hv, hcell⟩ := (hr.mono Z4).at (i := n) (by omega) hn
 refine Zf8 U5 (show ev _ _ = _ from Eq.trans t8 hv) (by exact t10) (by omega) hn rfl ?_
 obtain ⟨cs, E, z, hw, hc⟩ := hcell H1 _ (Sub.refl _) hS.dropA
 refine Y0 (vI (rd other n)) ty2 rfl hw hc rfl (Z5 (vI n) rfl rfl (Z5 (vI (rd other n)) rfl rfl (Z2 (Z0 ?_))))
 refine Z3 v (by exact t0) rfl (Z3 (vI n) rfl rfl (Z3 v (by exact t0) rfl (Z3 (vI n) rfl rfl ?_)))
 have hln : (n : Int) < ((tkN row other q n).length : Int) := by rw [Yi6]; omega
 obtain ⟨b1, c1, hv1⟩ := ho.some (i := (n : Int)) (by omega) hln
 refine P3 U5 (Eq.trans rfl hv1) rfl (by omega) hln rfl ?_
 refine Xn4 (u := vI (rd (tkN row other q n) n)) rfl ty2 hv1 ho hS rfl (by omega) hln (fun _ h => h) rfl ?_
 refine Z3 (vI q) (by exact t2) rfl (Z3 (vI (rd other n)) rfl rfl ?_)
 refine Zg4 (IntKind.i64.wrap (q * rd other n)) rfl rfl rfl rfl ?_
 refine Zc1 ((IntKind.i64.wrap (q * rd other n)).tmod 10007) rfl rfl (by decide) rfl rfl ?_
 refine Zk8 (IntKind.i64.wrap (rd (tkN row other q n) n - (IntKind.i64.wrap (q * rd other n)).tmod 10007)) rfl rfl rfl rfl ?_
 refine X3 call206 (R3 rfl) rfl (Yc4 (K := 0) (r := fld (IntKind.i64.wrap (rd (tkN row other q n) n - (IntKind.i64.wrap (q * rd other n)).tmod 10007))) rfl hS) ?_
 rintro _ G w1 hs1 hS rfl
 have ho := ho.mono hs1
 refine P3 U5 (Eq.trans rfl hv1) rfl (by omega) hln rfl ?_
 refine Zd0 (τ := Y5 .i64) (v := v) (u := vI (tk1 (rd (tkN row other q n) n) (rd other n) q)) (tk1 (rd (tkN row other q n) n) (rd other n) q) (i := (n : Int)) rfl ty2 hv1 ho hS rfl rfl (by omega) hln rfl ?_
 intro w2 C2 ho hS
 refine Z2 (X1 (Z0 ?_))
 refine W2 ((n : Int) + 1) (by exact t10) rfl (IntWalk.i64_in _ (by omega)) rfl (Z3 (vI ((n : Int) + 1)) rfl rfl (Z2 ?_))
 exact ih _ _ ⟨n + 1, G, C2, by omega, by omega, Z4.trans hs1, hS, ho, t0, t2, t8, t9, by show vI ((n : Int) + 1) = vI ((n + 1 : Nat) : Int); rw [Int.natCast_add]; rfl⟩
 refine Z7 (bF hn rfl) (X7 rfl ?_)
 have e : n = other.length := by omega
 subst e
 exact hx _ _ ⟨H1, C', Z4, hS, ho⟩
 exact ⟨0, H, C, by omega, by omega, .refl _, hS, ho, rfl, rfl, rfl, rfl, rfl⟩
 rintro f w ⟨H1, C', Z4, hS, ho⟩
 exact Yo7 (vs := []) func194 trivial ⟨H1, C', rfl, Z4, hS, ho⟩
theorem Wp8 {H : FH} {w : World} {L : OL} {v p : Value} {row : List Int} {c : Int} {bc : Nat} (hr : Rb H L v row) (hp : p = vP bc) (hc : (bc, .cells #[vI c] 3) ∈ L) (h0 : 0 ≤ c) (hm : c < row.length) (hS : St H w L) :
 Calls prog 233 #[v, p] w (U7 (fun v _ => v = vB (!decide (rd row c = 0))) H L) := by
 subst hp
 refine X0 func233 rfl ntmps233 rfl ?_
 refine Z1 (Z0 (Z5 (vB false) rfl rfl (Z2 (Z1 (Z0 (Z3 v rfl rfl ?_))))))
 refine Y0 (vI c) ty3 rfl (hS.own _ hc) rfl rfl ?_
 obtain ⟨b, o, cp, hv, hcell⟩ := hr.at h0 hm
 refine Zf8 U5 (show ev _ _ = _ from hv) rfl h0 hm rfl ?_
 obtain ⟨cs, E, z, hw, hcs⟩ := hcell H _ (Sub.refl _) hS
 refine Y0 (vI (rd row c)) ty2 rfl hw hcs rfl ?_
 refine M0 (k := .i64) (a := rd row c) (b := 0) rfl rfl rfl (Z5 (vB (!decide (rd row c = 0))) rfl rfl (Z2 ?_))
 exact Y9 (vs := [vB (!decide (rd row c = 0))]) func233 ⟨rfl, trivial⟩ ⟨_, _, rfl, .refl _, hS, rfl⟩
end
def Zi2 (K : Nat) (d9 : Int → Int → Option (Ex (Int × Bool) (Int))) (a6 : Int) (a3 : Int) (a8 : Bool) : Option (Ex (Int × Bool) (Int)) := (if a8 = true then some (.ret (0, false)) else d9 a6 (a3 + 1))
def T8 (K : Nat) (a0 : (List Int)) (a1 : MpT) : Nat → Int → Int → Option (Ex (Int × Bool) (Int))
 | 0, _, _ => none
 | k + 1, a5, a3 => (if a3 < (a1.length : Int) then ((Zd4 K ((rd a1 a3).1)).bind fun e0 => ((Zg7 K e0 a0).bind fun a6 => (if 0 ≤ a5 then Zi2 K (T8 K a0 a1 k) a6 a3 (!decide (a6 = a5)) else Zi2 K (T8 K a0 a1 k) a6 a3 false))) else some (.go a5))
def Zv0 (K : Nat) (a0 : (List Int)) (a1 : MpT) : Option (Int × Bool) := ((T8 K a0 a1 K (-1) 0).bind (Ex.elim (fun r => some r) (fun s => (fun (b2 : Int) => some (b2, true)) s)))
theorem Yw6 {a0 : (List Int)} {a1 : MpT} {r : (Int × Bool)} (q0 : Zv0 K a0 a1 = some r) (b3 : Y3 (Y5 .i64) H s0 a0) (a7 : Y3 yT H s1 a1) (hS : St H w L) :
 Calls prog 127 #[s0, vA ([s1])] w (U7 (fun v G => (R.t2 (R.int .i64) R.bool).p G v r) H L) := by
 have Z4 := Sub.refl H
 refine X0 func127 rfl ntmps127 rfl ?_
 unfold Zv0 at q0
 refine Z1 (Z0 ?_)
 refine T7 (v := vA ([s1])) ([s1]).toArray rfl rfl hS rfl ?_
 intro b1 _ hS
 refine Z5 (vI 0) rfl rfl (Z5 (vB false) rfl rfl (Z2 (Z1 (Z0 (Z5 (vI (-1)) rfl rfl (Z2 (Z1 (Z1 (Z0 (Y2 U3 rfl rfl ?_))))))))))
 refine Y0 (s1) Q7 rfl (hS.get mL) rfl rfl ?_
 have e6 := a7.bound
 refine X9 R9 rfl a7 rfl (Z3 (vI 0) rfl rfl (Z2 (Y8 ?_)))
 obtain ⟨c2, a4, c1⟩ := bind_some q0
 refine W0 (id := 0) (fun k f w => ∃ (a5 : Int) (a3 : Int) (H1 : FH), T8 K a0 a1 k a5 a3 = some c2 ∧ Sub H H1 ∧ St H1 w ([(b1, cA ([s1]) 45)] ++ L) ∧ 0 ≤ a3 ∧ Y3 (Y5 .i64) H1 s0 a0 ∧ Y3 yT H1 s1 a1 ∧ tv f 0 = s0 ∧ tv f 6 = vI a5 ∧ tv f 11 = s1 ∧ tv f 12 = vI (a1.length : Int) ∧ tv f 13 = vI a3) (fun f w => ∃ (b2 : Int) (H1 : FH), c2 = .go b2 ∧ Sub H H1 ∧ St H1 w ([(b1, cA ([s1]) 45)] ++ L) ∧ Y3 yT H1 s1 a1 ∧ tv f 6 = vI b2) rfl ?_ ?_ K ?_ ?_
 rintro f w ⟨a5, a3, H1, a4, _⟩
 rw [T8] at a4; cases a4
 rintro k _ _ e1 e2 ⟨a5, a3, d6, a4, Z4, hS, _, b3, a7, b8, b9, b5, b6, a9⟩
 rw [T8] at a4
 refine Z1 (Z0 ?_)
 refine W8 (k := .i64) (a := a3) (b := (a1.length : Int)) (by exact a9) (by exact b6) rfl (Z2 (Z1 ?_))
 obtain ⟨d0, a4⟩ | ⟨d0, a4⟩ := ic a4
 refine Z8 (bT d0 rfl) (Y6 (Z1 (Y8 (Z1 (Z0 ?_)))))
 obtain ⟨_, _, _, _, _, e3, e4, ⟨_, _, rfl, rfl, rfl⟩, e5⟩ := a7.elem (i := a3) (by omega) (by omega)
 refine X5 R9 rfl (by exact b5) e3 (by exact a9) (by omega) (by omega) rfl ?_
 refine V0 (Z6 .u8 ((rd a1 a3).1) ++ [vI ((rd a1 a3).2)]) Zy7 rfl (hS.froz _ _ e4) rfl e5 rfl ?_
 refine U4 (z := vA (Z6 .u8 (fun _ => 0) ++ [vI 0])) (Z6 .u8 (fun _ => 0) ++ [vI 0]).toArray Ye6.zero rfl hS rfl ?_
 intro b7 _ hS
 refine W4 (v := vA (Z6 .u8 ((rd a1 a3).1) ++ [vI ((rd a1 a3).2)])) (vs := (Z6 .u8 ((rd a1 a3).1) ++ [vI ((rd a1 a3).2)]).toArray) (cs := (Z6 .u8 (fun _ => 0) ++ [vI 0]).toArray) Zy7 rfl rfl rfl hS rfl (Yf3 (S8 .u8 ((rd a1 a3).1)) (Zb5 rfl)) rfl ?_
 intro _ hS
 refine Z2 (Z1 (Z0 (Y2 M9 rfl rfl ?_)))
 refine V0 (Z6 .u8 ((rd a1 a3).1)) P5 rfl (hS.get (o := cA (Z6 .u8 ((rd a1 a3).1) ++ [vI ((rd a1 a3).2)]) 78) mL) rfl (fun j hj => Zl3 ([]) (Z6 .u8 ((rd a1 a3).1)) (([vI ((rd a1 a3).2)])) j hj) rfl ?_
 obtain ⟨_, d7, a4⟩ := bind_some a4
 refine X3 call192 (R3 rfl) rfl (Zq4 d7  hS) ?_
 rintro _ _ _ c3 hS ⟨_, rfl, rfl⟩
 have Z4 := Z4.trans c3
 have b3 := b3.mono c3
 have a7 := a7.mono c3
 refine Z3 (s0) (by exact b8) rfl ?_
 obtain ⟨a6, d8, a4⟩ := bind_some a4
 refine X3 call215 (V2 rfl rfl) rfl (Ym7 d8 b3 hS) ?_
 rintro _ d4 _ c4 hS rfl
 have Z4 := Z4.trans c4
 have b3 := b3.mono c4
 have a7 := a7.mono c4
 refine Z5 (vI a6) rfl rfl (Z2 (Z1 (Z1 ?_)))
 refine N4 (fun f w => ∃ (a8 : Bool) (H1 : FH), Zi2 K (T8 K a0 a1 k) a6 a3 a8 = some c2 ∧ Sub H H1 ∧ St H1 w ([(b7, cA (Z6 .u8 ((rd a1 a3).1) ++ [vI ((rd a1 a3).2)]) 78)] ++ ([(b1, cA ([s1]) 45)] ++ L)) ∧ Y3 (Y5 .i64) H1 s0 a0 ∧ Y3 yT H1 s1 a1 ∧ tv f 0 = s0 ∧ tv f 9 = vI a6 ∧ tv f 11 = s1 ∧ tv f 12 = vI (a1.length : Int) ∧ tv f 13 = vI a3 ∧ tv f 28 = vB a8) ?_ ?_
 rintro _ _ ⟨a8, d3, b4, Z4, hS, b3, a7, d1, d2, c6, c7, c8, c0⟩
 unfold Zi2 at b4
 obtain ⟨c5, b4⟩ | ⟨c5, b4⟩ := ic b4
 refine Z8 (Eq.trans (by exact c0) (congrArg vB c5)) (Z1 (Z0 (Z5 (vI 0) rfl rfl (Z5 (vB false) rfl rfl (Z2 ?_)))))
 refine Y9 (vs := [vI 0, vB false]) func127 ⟨rfl, rfl, trivial⟩ ?_
 obtain rfl := oi b4
 dsimp only [Ex.elim] at c1
 obtain rfl := oi c1
 exact ⟨_, _, rfl, Z4, (St.dropA (St.dropA hS)), ⟨_, _, rfl, rfl, rfl⟩⟩
 refine Z7 (Eq.trans (by exact c0) (congrArg vB (W1 c5))) (Y6 (Z0 (Z3 (vI a6) (by exact d2) rfl (Z5 (vI a6) rfl rfl (Z2 (X1 (Z0 ?_)))))))
 refine W2 (a3 + 1) (by exact c8) rfl (IntWalk.i64_in _ (by omega)) rfl (Z3 (vI (a3 + 1)) rfl rfl (Z2 ?_))
 have hS := St.dropA hS
 exact e1 _ _ ⟨a6, (a3 + 1), d3, b4, Z4, hS, (by omega), b3, a7, d1, rfl, c6, c7, rfl⟩
 intro d5
 refine Z0 (Z3 (vI a5) (by exact b9) rfl ?_)
 refine Ya0 (k := .i64) (a := a5) (b := 0) rfl rfl rfl (Z3 (vB (decide (0 ≤ a5))) rfl rfl ?_)
 obtain ⟨b0, a4⟩ | ⟨b0, a4⟩ := ic a4
 refine Y1 rfl rfl (bT b0 rfl) (Z3 (vI a6) rfl rfl ?_)
 refine Y1 rfl rfl (bT b0 rfl) (Z3 (vI a5) (by exact b9) rfl ?_)
 refine Y1 rfl rfl (bT b0 rfl) ?_
 refine M0 (k := .i64) (a := a6) (b := a5) rfl rfl rfl ?_
 refine W6 (t := true) (vB (!decide (a6 = a5))) (bT b0 rfl) ((if_pos rfl).trans rfl) rfl (Z2 ?_)
 exact d5 _ _ ⟨(!decide (a6 = a5)), d4, a4, Z4, hS, b3, a7, b8, rfl, b5, b6, a9, rfl⟩
 refine Z9 rfl rfl (bF b0 rfl) rfl rfl rfl (Z9 rfl rfl (bF b0 rfl) rfl rfl rfl (Z9 rfl rfl (bF b0 rfl) rfl rfl rfl ?_))
 refine W6 (t := false) (vB false) (bF b0 rfl) ((if_neg Bool.false_ne_true).trans rfl) rfl (Z2 ?_)
 exact d5 _ _ ⟨false, d4, a4, Z4, hS, b3, a7, b8, rfl, b5, b6, a9, rfl⟩
 refine Z7 (bF d0 rfl) ?_
 refine X7 rfl ?_
 obtain rfl := oi a4
 exact e2 _ _ ⟨a5, d6, rfl, Z4, hS, a7, b9⟩
 exact ⟨(-1), 0, H, a4, Z4, hS, (by omega), b3, a7, rfl, rfl, rfl, rfl, rfl⟩
 rintro _ _ ⟨b2, _, rfl, Z4, hS, a7, c9⟩
 dsimp only [Ex.elim] at c1
 refine Z1 (Z0 (Z3 (vI b2) (by exact c9) rfl (Z5 (vI b2) rfl rfl (Z5 (vB true) rfl rfl (Z2 ?_)))))
 refine Y9 (vs := [vI b2, vB true]) func127 ⟨rfl, rfl, trivial⟩ ?_
 obtain rfl := oi c1
 exact ⟨_, _, rfl, Z4, (St.dropA hS), ⟨_, _, rfl, rfl, rfl⟩⟩
def Zb9 (K : Nat) (a0 : MpT) : Nat → Int → MpT → Option (Ex MpT (MpT))
 | 0, _, _ => none
 | k + 1, a1, a3 => (if a1 < (a0.length : Int) then ((Zd4 K ((rd a0 a1).1)).bind fun b6 => Zb9 K a0 k (a1 + 1) (Zb4 a3 b6 ((rd a0 a1).2))) else some (.go a3))
def Zr3 (K : Nat) (a0 : MpT) : Option MpT := ((Zb9 K a0 K 0 ([] : MpT)).bind (Ex.elim (fun r => some r) (fun s => (fun (a7 : MpT) => some a7) s)))
theorem Yl5 {a0 : MpT} {r : MpT} (q0 : Zr3 K a0 = some r) (a8 : Y3 yT H s0 a0) (hS : St H w L) :
 Calls prog 110 #[vA ([s0])] w (Xq5 .i64 r H L) := by
 have Z4 := Sub.refl H
 refine X0 func110 rfl ntmps110 rfl ?_
 unfold Zr3 at q0
 refine Z1 (Z0 ?_)
 refine T7 (v := vA ([s0])) ([s0]).toArray rfl rfl hS rfl ?_
 intro b1 _ hS
 refine Z5 (Value.map none) rfl rfl (Z2 (Z1 (Z0 ?_)))
 refine Yg2 (k := .i64) hS rfl ?_
 intro m4 _ C6 d4 hS
 refine Z5 (m4) rfl rfl (Z2 (Z1 (Z1 (Z0 (Y2 U3 rfl rfl ?_)))))
 refine Y0 (s0) Q7 rfl (hS.get (mR mL)) rfl rfl ?_
 have d9 := a8.bound
 refine X9 R9 rfl a8 rfl (Z3 (vI 0) rfl rfl (Z2 (Y8 ?_)))
 obtain ⟨c2, a4, c3⟩ := bind_some q0
 refine W0 (id := 0) (fun k f w => ∃ (a1 : Int) (a3 : MpT) (H1 : FH) (a5 : OL), Zb9 K a0 k a1 a3 = some c2 ∧ Sub H H1 ∧ St H1 w (a5 ++ ([(b1, cA ([s0]) 45)] ++ L)) ∧ 0 ≤ a1 ∧ Q2 .i64 m4 a3 a5 ∧ Y3 yT H1 s0 a0 ∧ tv f 3 = m4 ∧ tv f 8 = s0 ∧ tv f 9 = vI (a0.length : Int) ∧ tv f 10 = vI a1) (fun f w => ∃ (a7 : MpT) (H1 : FH) (a9 : OL), c2 = .go a7 ∧ Sub H H1 ∧ St H1 w (a9 ++ ([(b1, cA ([s0]) 45)] ++ L)) ∧ Q2 .i64 m4 a7 a9 ∧ Y3 yT H1 s0 a0 ∧ tv f 3 = m4) rfl ?_ ?_ K ?_ ?_
 rintro f w ⟨a1, a3, H1, a5, a4, _⟩
 rw [Zb9] at a4; cases a4
 rintro k _ _ d5 d6 ⟨a1, a3, c6, a5, a4, Z4, hS, _, a6, a8, b2, b3, b4, b0⟩
 rw [Zb9] at a4
 refine Z1 (Z0 ?_)
 refine W8 (k := .i64) (a := a1) (b := (a0.length : Int)) (by exact b0) (by exact b4) rfl (Z2 (Z1 ?_))
 obtain ⟨b8, a4⟩ | ⟨b8, a4⟩ := ic a4
 refine Z8 (bT b8 rfl) (Y6 (Z1 (Y8 (Z1 (Z0 ?_)))))
 obtain ⟨_, _, _, _, _, c7, c8, ⟨_, _, rfl, rfl, rfl⟩, c9⟩ := a8.elem (i := a1) (by omega) (by omega)
 refine X5 R9 rfl (by exact b3) c7 (by exact b0) (by omega) (by omega) rfl ?_
 refine V0 (Z6 .u8 ((rd a0 a1).1) ++ [vI ((rd a0 a1).2)]) Zy7 rfl (hS.froz _ _ c8) rfl c9 rfl ?_
 refine U4 (z := vA (Z6 .u8 (fun _ => 0) ++ [vI 0])) (Z6 .u8 (fun _ => 0) ++ [vI 0]).toArray Ye6.zero rfl hS rfl ?_
 intro c4 _ hS
 refine W4 (v := vA (Z6 .u8 ((rd a0 a1).1) ++ [vI ((rd a0 a1).2)])) (vs := (Z6 .u8 ((rd a0 a1).1) ++ [vI ((rd a0 a1).2)]).toArray) (cs := (Z6 .u8 (fun _ => 0) ++ [vI 0]).toArray) Zy7 rfl rfl rfl hS rfl (Yf3 (S8 .u8 ((rd a0 a1).1)) (Zb5 rfl)) rfl ?_
 intro _ hS
 refine Z2 ?_
 obtain ⟨b6, d0, a4⟩ := bind_some a4
 refine W7 6 (S9 [mE 14 (m4), mE 15 (vP c4), mE 16 (vA (Z6 .u8 ((rd a0 a1).1))), mE 17 (vA (Z6 .i64 b6)), mE 18 (vQ c4 8), mE 19 (vI ((rd a0 a1).2))]) [] mixed rfl rfl rfl hS (J9 ?_ ?_ ?_ ?_ (J2 ?_ ?_ V1)) ?_
 exact X4 fun S B => Z3 (m4) (evT (B 3 rfl) b2) rfl (qz S)
 exact X4 fun S B => Y2 M9 (evT (B 5 rfl) rfl) rfl (qz S)
 exact Y7 fun S V => V0 (Z6 .u8 ((rd a0 a1).1)) P5 (eM (V 1 15 rfl rfl)) (S.get (o := cA (Z6 .u8 ((rd a0 a1).1) ++ [vI ((rd a0 a1).2)]) 78) (mR mL)) rfl (fun j hj => Zl3 ([]) (Z6 .u8 ((rd a0 a1).1)) (([vI ((rd a0 a1).2)])) j hj) rfl (qz S)
 intro _ _ _ _ _ hS _ d1 hcq
 refine X3 call192 (R3 (eM (d1 2 16 rfl rfl))) rfl (Zq4 d0  hS) ?_
 rintro _ _ _ d2 hS ⟨_, rfl, rfl⟩
 exact qn d2 rfl hS rfl
 exact X4 fun S B => Y2 Ze3 (evT (B 5 rfl) rfl) rfl (qz S)
 exact Y7 fun S V => Y0 (vI ((rd a0 a1).2)) ty2 (eM (V 4 18 rfl rfl)) (S.get (mR mL)) rfl rfl (qz S)
 intro _ d7 c5 b9 hS b5 c0 hcq
 have hS : St c5 d7 ([(c4, cA (Z6 .u8 ((rd a0 a1).1) ++ [vI ((rd a0 a1).2)]) 78)] ++ (a5 ++ ([(b1, cA ([s0]) 45)] ++ L))) := hS
 have Z4 := Z4.trans b9
 have a8 := a8.mono b9
 have a6 := a6.mono b9
 have hS := hS.perm R6
 refine Ym8 (a := b6) (m := (rd a0 a1).2) Zq8 (by exact (eM (c0 0 14 (by decide) rfl))) (by exact (eM (c0 3 17 (by decide) rfl))) (by exact (eM (c0 5 19 (by decide) rfl))) a6 hS ?_
 intro _ d8 d3 hS
 have hS := hS.perm R6.symm
 refine Z2 (X1 (Z0 ?_))
 refine W2 (a1 + 1) (by exact (evT (b5 10 rfl) b0)) rfl (IntWalk.i64_in _ (by omega)) rfl (Z3 (vI (a1 + 1)) rfl rfl (Z2 ?_))
 have hS := St.dropA hS
 exact d5 _ _ ⟨(a1 + 1), (Zb4 a3 b6 ((rd a0 a1).2)), c5, d8, a4, Z4, hS, (by omega), d3, a8, (evT (b5 3 rfl) b2), (evT (b5 8 rfl) b3), (evT (b5 9 rfl) b4), rfl⟩
 refine Z7 (bF b8 rfl) ?_
 refine X7 rfl ?_
 obtain rfl := oi a4
 exact d6 _ _ ⟨a3, c6, a5, rfl, Z4, hS, a6, a8, b2⟩
 exact ⟨0, ([] : MpT), H, C6, a4, Z4, hS, (by omega), d4, a8, rfl, rfl, rfl, rfl⟩
 rintro _ _ ⟨a7, _, a9, rfl, Z4, hS, b7, a8, c1⟩
 dsimp only [Ex.elim] at c3
 refine Z1 (Z0 (Z3 (m4) (by exact c1) rfl (Z5 (m4) rfl rfl (Z2 ?_))))
 refine Y9 (vs := [m4]) func110 ⟨rfl, trivial⟩ ?_
 have hS := St.dropMid hS
 obtain rfl := oi c3
 exact ⟨_, _, _, rfl, Z4, hS, b7⟩
def Zd2 (K : Nat) (a0 : A8) (a1 : Int) : Option MpT := ((F5 K a1).bind fun r7 => (if r7 = 0 then some ([] : List (A8 × Int)) else ((F5 K a1).bind fun a3 => some ([(a0, a3)]))))
theorem Zu7 {a0 : A8} {a1 : Int} {r : MpT} (q0 : Zd2 K a0 a1 = some r) (hS : St H w L) :
 Calls prog 208 #[vA (Z6 .u8 a0), vI a1] w (U7 (fun v G => (R.agg (X2 yT)).p G v r) H L) := by
 have Z4 := Sub.refl H
 refine X0 func208 rfl ntmps208 rfl ?_
 unfold Zd2 at q0
 refine Z1 (Z0 ?_)
 refine T7 (v := vA (Z6 .u8 a0)) (Z6 .u8 a0).toArray rfl rfl hS rfl ?_
 intro b1 _ hS
 refine U4 (z := vA ([vN])) ([vN]).toArray Zl9.zero rfl hS rfl ?_
 intro b4 _ hS
 refine Z2 (Z1 (Z1 (Z0 (Z3 (vI a1) rfl rfl ?_))))
 obtain ⟨r7, c1, q0⟩ := bind_some q0
 refine X3 call209 (R3 rfl) rfl (D2 c1  hS) ?_
 rintro _ _ _ c2 hS rfl
 have Z4 := Z4.trans c2
 refine Za0 (k := .i64) (a := r7) (b := 0) rfl rfl rfl (Z2 ?_)
 obtain ⟨a6, q0⟩ | ⟨a6, q0⟩ := ic q0
 refine Z8 (bT a6 rfl) (Z1 (Z0 ?_))
 refine B5 (vA ([vN])) Yr1 rfl ?_
 refine W4 (v := vA ([vN])) (vs := ([vN]).toArray) (cs := ([vN]).toArray) Q4 rfl rfl rfl hS rfl (Zb5 rfl) rfl ?_
 intro _ hS
 refine Z2 ?_
 refine Y9 (vs := [vA ([vN])]) func208 ⟨⟨_, rfl, P1 Q4 (hS.get mL) rfl⟩, trivial⟩ ?_
 obtain rfl := oi q0
 exact ⟨_, _, rfl, Z4, (St.dropA (St.dropA hS)), ⟨_, rfl, ⟨_, rfl, Y3.nil⟩⟩⟩
 refine Z7 (bF a6 rfl) (Y6 (Z1 ?_))
 obtain ⟨a3, a9, q0⟩ := bind_some q0
 refine W7 6 (S9 [mE 9 (vA (Z6 .u8 a0)), mE 10 (vI a1), mE 11 (vI a3), mE 12 (vA (Z6 .u8 a0 ++ [vI a3])), (13, MP.sl yT ([(a0, a3)])), (14, MP.rep (R.agg (X2 yT)) ([(a0, a3)]))]) [] mixed rfl rfl rfl hS (J9 ?_ ?_ ?_ ?_ (J2 ?_ ?_ V1)) ?_
 exact X4 fun S B => W3 P5 (evT (B 2 rfl) rfl) (S.get (mR (mR mL))) rfl rfl (qz S)
 exact X4 fun S B => Z3 (vI a1) (evT (B 1 rfl) rfl) rfl (qz S)
 intro _ _ _ _ _ hS _ b0 hcq
 refine X3 call209 (R3 (eM (b0 1 10 rfl rfl))) rfl (D2 a9  hS) ?_
 rintro _ _ _ b2 hS rfl
 exact qn b2 rfl hS rfl
 exact Y7 fun S V => Zu1 (Z6 .u8 a0 ++ [vI a3]) Xl8 (Zz7 (eM (V 0 9 rfl rfl)) (eM (V 2 11 rfl rfl))) (F2 rfl rfl rfl (nl rfl) (F2 rfl rfl rfl (nl rfl) (Zp8 rfl))) rfl (qz S)
 intro _ _ _ _ _ hS _ b3 hcq
 refine Zc2 (τ := yT) R9 Ye6 rfl [vA (Z6 .u8 a0 ++ [vI a3])] [(a0, a3)] rfl rfl (E7 (eM (b3 3 12 rfl rfl))) (Zk6 ⟨_, _, rfl, rfl, rfl⟩) (by decide) (by decide) hS rfl ?_
 intro _ _ _ b5 hS b6
 exact qn b5 rfl hS b6
 intro _ _ _ _ _ hS _ b7 hcq
 obtain ⟨c3, c4, a7⟩ := gvS (b7 4 13 rfl rfl)
 refine Zu1 ([c3]) Vj5 (E7 c4) (F2 rfl a7.cellsL rfl (nl rfl) (Zp8 rfl)) rfl ?_
 exact qn (.refl _) rfl hS ⟨_, rfl, ⟨_, rfl, a7⟩⟩
 intro c5 c6 c7 b8 hS b9 c0 hcq
 have hS : St c7 c6 ([(b4, cA ([vN]) 45)] ++ ([(b1, cA (Z6 .u8 a0) 72)] ++ L)) := hS
 have Z4 := Z4.trans b8
 have a8 : tv c5 4 = vP b4 := Eq.trans (b9 4 rfl) rfl
 obtain ⟨_, c8, ⟨_, rfl, ⟨a4, rfl, a5⟩⟩⟩ := gvR (c0 5 14 (by decide) rfl)
 refine W4 (v := vA ([a4])) (vs := ([a4]).toArray) (cs := ([vN]).toArray) Q4 (by exact a8) (by exact c8) rfl hS rfl (Zb5 a5.isOne) rfl ?_
 intro _ hS
 refine Z2 ?_
 refine Y9 (vs := [vA ([a4])]) func208 ⟨⟨_, (by exact a8), P1 Q4 (hS.get mL) rfl⟩, trivial⟩ ?_
 obtain rfl := oi q0
 exact ⟨_, _, rfl, Z4, (St.dropA (St.dropA hS)), ⟨_, rfl, ⟨_, rfl, a5⟩⟩⟩
def T3 (K : Nat) (a0 : MpT) (a1 : A8) (a2 : Int) : Option MpT := (if nfm a0 = true ∧ -4611686018427387904 ≤ a2 ∧ a2 ≤ 4611686018427387904 then ((Zm4 K (IntKind.i64.wrap ((N5 a0 a1) + a2))).bind fun r4 => (if r4 = 0 then some (Zw1 a0 a1) else some (Zb4 a0 a1 r4))) else none)
theorem Zy8 {a0 : MpT} {a1 : A8} {a2 : Int} {r : MpT} (q0 : T3 K a0 a1 a2 = some r) {L C0 : OL} (a3 : Q2 .i64 s0 a0 C0) (hS : St H w (C0 ++ L)) :
 Calls prog 217 #[s0, vA (Z6 .i64 a1), vI a2] w (Wv3 .i64 s0 r H L) := by
 have Z4 := Sub.refl H
 refine X0 func217 rfl ntmps217 rfl ?_
 unfold T3 at q0
 obtain ⟨hG, q0⟩ := gd q0
 refine Z1 (Z0 ?_)
 refine T7 (v := vA (Z6 .i64 a1)) (Z6 .i64 a1).toArray rfl rfl hS rfl ?_
 intro _ _ hS
 refine Z2 (Z1 (Z0 (Z3 (s0) rfl rfl ?_)))
 refine W3 Q6 rfl (hS.get mL) rfl rfl ?_
 have hS := hS.perm R6
 refine Wk9 (a := a1) Zq8 rfl rfl a3 hS rfl ?_
 have hS := hS.perm R6.symm
 refine Z3 (vI a2) rfl rfl ?_
 refine W2 (IntKind.i64.wrap ((N5 a0 a1) + a2)) rfl rfl rfl rfl ?_
 obtain ⟨r4, a7, q0⟩ := bind_some q0
 refine X3 call206 (R3 rfl) rfl (Yc4 a7  hS) ?_
 rintro _ _ _ a5 hS rfl
 have Z4 := Z4.trans a5
 have a3 := a3.mono a5
 refine Z5 (vI r4) rfl rfl (Z2 (Z1 (Z0 (Z3 (vI r4) rfl rfl ?_))))
 refine M0 (k := .i64) (a := r4) (b := 0) rfl rfl rfl (Z2 ?_)
 obtain ⟨a4, q0⟩ | ⟨a4, q0⟩ := ic q0
 refine Z7 (bN a4 rfl) (Z0 (Z3 (s0) rfl rfl ?_))
 refine W3 Q6 rfl (hS.get mL) rfl rfl ?_
 have hS := hS.perm R6
 refine Ws7 (a := a1) Zq8 rfl rfl a3 hS ?_
 intro _ _ a8 hS
 have hS := hS.perm R6.symm
 refine Z2 ?_
 refine Yo7 (vs := []) func217 trivial ?_
 have hS := hS.perm R6
 have hS := St.dropMid hS
 obtain rfl := oi q0
 exact ⟨_, _, rfl, Z4, hS, a8⟩
 refine Z8 (bO a4 rfl) (Z0 (Z3 (s0) rfl rfl ?_))
 refine W3 Q6 rfl (hS.get mL) rfl rfl (Z3 (vI r4) rfl rfl ?_)
 have hS := hS.perm R6
 refine Ym8 (a := a1) (m := r4) Zq8 rfl rfl rfl a3 hS ?_
 intro _ _ a6 hS
 have hS := hS.perm R6.symm
 refine Z2 ?_
 refine Yo7 (vs := []) func217 trivial ?_
 have hS := hS.perm R6
 have hS := St.dropMid hS
 obtain rfl := oi q0
 exact ⟨_, _, rfl, Z4, hS, a6⟩
def T5 (K : Nat) (a0 : (List MpT)) (a1 : (MpT → Option Bool)) : Option Bool := ((L7 K a0 a1).bind fun r1 => some (decide (0 ≤ r1)))
theorem Zc4 {a0 : (List MpT)} {a1 : (MpT → Option Bool)} {r : Bool} (q0 : T5 K a0 a1 = some r) (a3 : Y3 (X2 yT) H s0 a0) (a4 : FnQ prog s1 (R.agg (X2 yT)) a1 H) (hS : St H w L) :
 Calls prog 123 #[s0, s1] w (U7 (fun v G => R.bool.p G v r) H L) := by
 have Z4 := Sub.refl H
 refine X0 func123 rfl ntmps123 rfl ?_
 unfold T5 at q0
 refine Z1 (Z0 (Z5 (vB false) rfl rfl (Z2 (Z1 (Z0 (Z3 (s0) rfl rfl (Z3 (s1) rfl rfl ?_)))))))
 obtain ⟨r1, a5, q0⟩ := bind_some q0
 refine X3 call214 (V2 rfl rfl) rfl (Zs0 a5 a3 a4 hS) ?_
 rintro _ _ _ a6 hS rfl
 have Z4 := Z4.trans a6
 refine Ya0 (k := .i64) (a := r1) (b := 0) rfl rfl rfl (Z5 (vB (decide (0 ≤ r1))) rfl rfl (Z2 ?_))
 refine Y9 (vs := [vB (decide (0 ≤ r1))]) func123 ⟨rfl, trivial⟩ ?_
 obtain rfl := oi q0
 exact ⟨_, _, rfl, Z4, hS, rfl⟩
def Zu4 (K : Nat) (a0 : (List Int)) : Option Int := ((N2 K a0 (fun x => Zr4 K x)).bind fun r1 => some r1)
theorem Yo4 {a0 : (List Int)} {r : Int} (q0 : Zu4 K a0 = some r) (a1 : Y3 (Y5 .i64) H s0 a0) (hS : St H w L) :
 Calls prog 159 #[s0] w (U7 (fun v G => (R.int .i64).p G v r) H L) := by
 have Z4 := Sub.refl H
 refine X0 func159 rfl ntmps159 rfl ?_
 unfold Zu4 at q0
 refine Z1 (Z0 (Z5 (vI 0) rfl rfl (Z2 (Z1 (Z0 (Z3 (s0) rfl rfl ?_))))))
 obtain ⟨r1, a3, q0⟩ := bind_some q0
 refine X3 call235 (V2 rfl rfl) rfl (Zj4 a3 a1 ⟨236, #[], rfl, call236, fun H2 w2 L2 v x b a7 a4 hv a5 => by obtain rfl := hv; exact Yz2 a5   a4⟩ hS) ?_
 rintro _ _ _ a6 hS rfl
 have Z4 := Z4.trans a6
 refine Z5 (vI r1) rfl rfl (Z2 ?_)
 refine Y9 (vs := [vI r1]) func159 ⟨rfl, trivial⟩ ?_
 obtain rfl := oi q0
 exact ⟨_, _, rfl, Z4, hS, rfl⟩
end Go.Proofs.YtabofnehiclkiaaGreat
