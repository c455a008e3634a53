/- Walk, rules and plain laws. -/
import Derived.Test.YtabofnehiclkiaaGreatRTy
namespace Go.Proofs.YtabofnehiclkiaaGreat
open Go Go.Proofs.Tryz IntKind IntWalk List
set_option linter.all false
set_option maxRecDepth 100000
set_option maxHeartbeats 8000000
variable {K : Nat} {H : FH} {w : World} {L : OL} {s0 s1 s2 s3 s4 s5 s6 : Value}
def Zt7 (n left : Int) : Int := if n.tmod 2 = 1 then (if 1 < (if 20 < left.tdiv n then 20 else left.tdiv n) then 1 else (if 20 < left.tdiv n then 20 else left.tdiv n)) else (if 20 < left.tdiv n then 20 else left.tdiv n)
def lsF (ds : List Int) (most : Int) : Nat → A8 → Int → List A8 → List A8
  | 0, p, left, out => if most < (out.length : Int) then out else if left = 0 then out ++ [p] else out
  | g + 1, p, left, out => if most < (out.length : Int) then out else
      ((range ((Zt7 (rd ds ((ds.length - (g + 1) : Nat) : Int)) left).toNat + 1)).reverse).foldl (fun o (e : Nat) => lsF ds most g (T3 p ((ds.length - (g + 1) : Nat) : Int) (e : Int)) (left - (e : Int) * rd ds ((ds.length - (g + 1) : Nat) : Int)) o) out
theorem Xz0 {most : Int} {f : List A8 → Nat → List A8} (h : ∀ o e, (o.length : Int) ≤ most + 1 → ((f o e).length : Int) ≤ most + 1) : ∀ (es : List Nat) (o : List A8), (o.length : Int) ≤ most + 1 → ((es.foldl f o).length : Int) ≤ most + 1
  | [], _, ho => ho
  | e :: es, o, ho => Xz0 h es (f o e) (h o e ho)
theorem Xm3 (ds : List Int) (most : Int) : ∀ (g : Nat) (p : A8) (left : Int) (out : List A8), (out.length : Int) ≤ most + 1 → ((lsF ds most g p left out).length : Int) ≤ most + 1
  | 0, p, left, out, h => by
    unfold lsF
    split
    · exact h
    · split
      · rw [length_append]; simp; omega
      · exact h
  | g + 1, p, left, out, h => by
    rw [lsF]
    split
    · exact h
    · exact Xz0 (fun o e ho => Xm3 ds most g _ _ o ho) _ _ h
theorem Xh5 (p : A8) (i x y : Int) : T3 (T3 p i x) i y = T3 p i y := by
  funext j
  unfold T3
  split <;> rfl
theorem Vg1 {n left : Int} (hn : 1 ≤ n ∧ n ≤ 12) (hl : 0 ≤ left ∧ left ≤ 1000) : 0 ≤ Zt7 n left ∧ Zt7 n left ≤ 20 ∧ Zt7 n left * n ≤ left := by
  have h1 : left.tdiv n * n ≤ left := by rw [Int.tdiv_eq_ediv_of_nonneg hl.1]; exact Int.ediv_mul_le left (by omega)
  have h0 : 0 ≤ left.tdiv n := Int.tdiv_nonneg hl.1 (by omega)
  have key : ∀ x : Int, 0 ≤ x → x ≤ left.tdiv n → x * n ≤ left := fun x hx hx' => Int.le_trans (Int.mul_le_mul_of_nonneg_right hx' (by omega)) h1
  unfold Zt7
  obtain ⟨q, hq⟩ : ∃ q, q = left.tdiv n := ⟨_, U⟩
  rw [← hq] at h0 h1 key ⊢
  clear hq
  by_cases hp : n.tmod 2 = 1
  · rw [if_pos hp]
    by_cases h20 : 20 < q
    · rw [if_pos h20, if_pos (by decide)]; exact ⟨by omega, by omega, key _ (by omega) (by omega)⟩
    · rw [if_neg h20]
      by_cases h3 : 1 < q
      · rw [if_pos h3]; exact ⟨by omega, by omega, key _ (by omega) (by omega)⟩
      · rw [if_neg h3]; exact ⟨h0, by omega, h1⟩
  · rw [if_neg hp]
    by_cases h20 : 20 < q
    · rw [if_pos h20]; exact ⟨by omega, by omega, key _ (by omega) (by omega)⟩
    · rw [if_neg h20]; exact ⟨h0, by omega, h1⟩
theorem Xm0 {P : Program} {n : Nat} {g : FuncId} {R : Ending → World → Prop} {K : List Item} {f : Fr} {w : World} (h : ∀ f', f' = f → Run P n g R K f' w) : Run P n g R K f w := h f U
theorem Wq4 {ds : List Int} {most : Int} (hds : ∀ n, n ∈ ds → 1 ≤ n ∧ n ≤ 12) (hd8 : ds.length ≤ 8) (hmo : 0 ≤ most ∧ most ≤ 1073741824) : ∀ (g : Nat), g ≤ ds.length → ∀ {H : FH} {w : World} {L Co : OL} {vd vo : Value} {bl : Nat} {p : A8} {left : Int} {out : List A8} (hl : 0 ≤ left ∧ left ≤ 1000)
    (hd : Y3 (Y4 .i64) H vd ds) (ho : W0 (Q5 .i64) 222 H vo out Co) (hlen : (out.length : Int) ≤ most + 1) (hS : St H w ([(bl, .cells #[vd, vI most, vo] 298)] ++ (Co ++ L))),
    Calls prog 272 #[vP bl, vI ((ds.length - g : Nat) : Int), .agg (Z7 .i64 p).toArray, vI left] w (fun e w' => ∃ H' vo' Co', e = .returned (.tuple #[]) ∧ Sub H H' ∧ St H' w' ([(bl, .cells #[vd, vI most, vo'] 298)] ++ (Co' ++ L)) ∧ W0 (Q5 .i64) 222 H' vo' (lsF ds most g p left out) Co') := by
  intro g
  induction g with
  | zero =>
    intro hg H w L Co vd vo bl p left out hl hd ho hlen hS
    refine X0 func272 U ntmps272 U ?_
    repeat refine Z1 ?_
    refine Z0 (T8 (v := .agg (Z7 .i64 p).toArray) (Z7 .i64 p).toArray U U hS U (fun bp w1 hS => Z2 ?_))
    repeat refine Z1 ?_
    refine W6 10 (S8 [mE 11 (vP bl), mE 12 (vP bl), mE 13 (vQ bl 2), mE 14 vo, mE 15 (vI out.length), mE 16 (vP bl), mE 17 (vP bl), mE 18 (vQ bl 1), mE 19 (vI most), mE 20 (vB (decide (most < (out.length : Int))))]) [] mixed U U U hS (U1 (X4 fun S B => Z3 _ (evT (B 0 U) U) U (qz S)) (Y7 fun S V => V0 (eM (V 0 11 U U)) U (qz S)) (Y7 fun S V => Y2 Yf5 (eM (V 1 12 U U)) U (qz S)) (Y7 fun S V => Y1 vo Xo3 (eM (V 2 13 U U)) (S.get (mR (mR mL))) U U (qz S)) (P0 fun s S V => Yh0 Zv1 (eM (V 3 14 U U)) (ho.mono s) U (qz S)) (X4 fun S B => Z3 _ (evT (B 0 U) U) U (qz S)) (Y7 fun S V => V0 (eM (V 5 16 U U)) U (qz S)) (Y7 fun S V => Y2 Xu4 (eM (V 6 17 U U)) U (qz S)) (L7 (Y7 fun S V => Y1 (vI most) ty3 (eM (V 7 18 U U)) (S.get (mR (mR mL))) U U (qz S)) (Y7 fun S V => A0 (k := .i64) (a := (out.length : Int)) (b := most) (eM (V 4 15 U U)) (eM (V 8 19 U U)) U (qz S)) W9)) ?_
    intro f2 w2 H2 s2 hS hB hV _
    have hS : St H2 w2 ([(bp, .cells (Z7 .i64 p).toArray 222)] ++ ([(bl, .cells #[vd, vI most, vo] 298)] ++ _)) := hS
    refine Z2 ?_
    repeat refine Z1 ?_
    unfold lsF
    by_cases hm : most < (out.length : Int)
    · refine Z8 (bT hm (eM (hV 9 20 (by decide) U))) ?_
      rw [if_pos hm]
      exact Y9 (vs := []) func272 trivial ⟨H2, vo, Co, U, s2, hS.dA, ho.mono s2⟩
    rw [if_neg hm]
    refine Z6 (bF hm (eM (hV 9 20 (by decide) U))) (Y6 ?_)
    repeat refine Z1 ?_
    refine Z0 (Z3 (vI ((ds.length - 0 : Nat) : Int)) (evT (hB 1 U) U) U (Z3 (vP bl) (evT (hB 0 U) U) U (V0 U U (Y2 Xg8 U U (Y1 vd Q9 U (hS.get (mR mL)) U U (X9 T1 U (hd.mono s2) U (Zb2 (k := .i64) (a := ((ds.length - 0 : Nat) : Int)) (b := (ds.length : Int)) U U U (Z2 ?_))))))))
    repeat refine Z1 ?_
    refine Z8 (bT (by omega) U) ?_
    repeat refine Z1 ?_
    refine Z0 (Z3 (vI left) (evT (hB 3 U) U) U (Zb2 (k := .i64) (a := left) (b := 0) U U U (Z2 ?_)))
    repeat refine Z1 ?_
    by_cases h0 : left = 0
    case neg =>
      refine Z6 (bF h0 U) (Y6 ?_)
      rw [if_neg h0]
      exact Y9 (vs := []) func272 trivial ⟨H2, vo, Co, U, s2, hS.dA, ho.mono s2⟩
    refine Z8 (bT h0 U) ?_
    rw [if_pos h0]
    repeat refine Z1 ?_
    refine Xm0 fun f3 hf3 => ?_
    have t0 : tv f3 0 = vP bl := by rw [hf3]; exact (evT (hB 0 U) U)
    have t6 : tv f3 6 = vP bp := by rw [hf3]; exact (evT (hB 6 U) U)
    clear hf3 hB hV
    have hsw : St H2 w2 (Co ++ ([(bp, .cells (Z7 .i64 p).toArray 222)] ++ ([(bl, .cells #[vd, vI most, vo] 298)] ++ L))) := hS.perm (Zc0 (A1 := [(bp, .cells (Z7 .i64 p).toArray 222)]) (A2 := [(bl, .cells #[vd, vI most, vo] 298)]))
    refine Ve0 7 (S8 [mE 30 (vP bl), mE 31 (vP bl), mE 32 (vP bl), mE 33 (vQ bl 2), mE 34 vo, mE 35 (vA (Z7 .i64 p)), (36, MP.sl (Q5 .i64) [p])]) (fun G w v => ∃ C', St G w (C' ++ ([(bp, .cells (Z7 .i64 p).toArray 222)] ++ ([(bl, .cells #[vd, vI most, vo] 298)] ++ L))) ∧ W0 (Q5 .i64) 222 G v (out ++ [p]) C') mixed
      (Xz3 (by intro p hp v; simp only [mem_cons, not_mem_nil, or_false] at hp; rcases hp with rfl | rfl | rfl | rfl | rfl | rfl | rfl <;> rfl)) rfl rfl (j0 := 0) rfl rfl rfl rfl rfl rfl rfl (fun _ _ => t0) hsw
      (W7 U ?_ (W7 U ?_ (W7 U ?_ (W7 U ?_ (W7 U ?_ (W7 U ?_ (W7 U ?_ W9))))))) ?_ ?_
    · exact X4 fun S B => Z3 _ (evT (B 0 U) t0) U (qz S)
    · exact X4 fun S B => Z3 _ (evT (B 0 U) t0) U (qz S)
    · exact Y7 fun S V => V0 (eM (V 1 31 U U)) U (qz S)
    · exact Y7 fun S V => Y2 Yf5 (eM (V 2 32 U U)) U (qz S)
    · exact Y7 fun S V => Y1 vo Xo3 (eM (V 3 33 U U)) (S.get (mR (mR (mR mL)))) U U (qz S)
    · exact X4 fun S B => X5 P3 (evT (B 6 U) t6) (S.get (mR (mR mL))) U U (qz S)
    · intro f w G X s S B V _
      refine Zc4 (τ := (Q5 .i64)) Zv1 Zm8 U [vA (Z7 .i64 p)] [p] U U (D3 (eM (V 5 35 U U))) (Zl6 U) (by decide) (by decide) S U fun u G2 w2 s2 S hl => qn s2 U S hl
    · intro f w G s S B V
      have hg : (MP.sl (Q5 .i64) [p]).p G (f 36) := V 6 36 (by decide) (by decide) U
      refine N2 (τ := Q5 .i64) Vh6 U (eM (V 4 34 (by decide) (by decide) U)) (show ev f (.tmp 36) = f 36 from U) ((ho.mono s2).mono s) S hg (by simp; omega) U fun v' w' C' ho' S' => Z2 ⟨v', G, U, .refl _, C', S', ho'⟩
    rintro f4 w4 H4 s4 ⟨C', hS, ho'⟩ hB hV
    refine V0 (eM (hV 0 30 (by decide) U)) U (Y2 Yf5 U U ?_)
    have hS : St H4 w4 ([(bl, .cells #[vd, vI most, vo] 298)] ++ (C' ++ ([(bp, .cells (Z7 .i64 p).toArray 222)] ++ L))) := hS.perm (Zc0 (A1 := C') (A2 := [(bp, .cells (Z7 .i64 p).toArray 222)]))
    refine Ze6 (v := f4 37) (cs := #[vd, vI most, vo]) (cs' := #[vd, vI most, f4 37]) Xo3 U U hS ho'.isOne U (nl U) U fun w5 hS => Z2 ?_
    have hS : St H4 w5 ([(bl, .cells #[vd, vI most, f4 37] 298)] ++ (C' ++ L)) := by
      have h1 : St H4 w5 (([(bl, .cells #[vd, vI most, f4 37] 298)] ++ C') ++ ([(bp, .cells (Z7 .i64 p).toArray 222)] ++ L)) := by rw [append_assoc]; exact hS
      have h2 := St.dropMid h1
      rw [append_assoc] at h2; exact h2
    exact Y9 (vs := []) func272 trivial ⟨H4, f4 37, C', U, s2.trans s4, hS, ho'⟩
  | succ g ih =>
    intro hg H w L Co vd vo bl p left out hl hd ho hlen hS
    rw [lsF]
    have hnd := hds _ (show rd ds ((ds.length - (g + 1) : Nat) : Int) ∈ ds by
      unfold rd
      rw [Int.toNat_natCast, getD_eq_getElem?_getD, getElem?_eq_getElem (show ds.length - (g + 1) < ds.length by omega)]
      exact getElem_mem _)
    have hir : ds.length - (g + 1) + 1 + g = ds.length := by omega
    generalize ds.length - (g + 1) = i at *
    obtain ⟨htop0, htop1, htop2⟩ := Vg1 hnd hl
    have hq0 : 0 ≤ left.tdiv (rd ds (i : Int)) := Int.tdiv_nonneg hl.1 (by omega)
    have hq1 : left.tdiv (rd ds (i : Int)) ≤ left := by rw [Int.tdiv_eq_ediv_of_nonneg hl.1]; exact Int.ediv_le_self _ hl.1
    generalize hnn : rd ds (i : Int) = n at *
    refine X0 func272 U ntmps272 U ?_
    repeat refine Z1 ?_
    refine Z0 (T8 (v := .agg (Z7 .i64 p).toArray) (Z7 .i64 p).toArray U U hS U (fun bp w1 hS => Z2 ?_))
    repeat refine Z1 ?_
    refine W6 10 (S8 [mE 11 (vP bl), mE 12 (vP bl), mE 13 (vQ bl 2), mE 14 vo, mE 15 (vI out.length), mE 16 (vP bl), mE 17 (vP bl), mE 18 (vQ bl 1), mE 19 (vI most), mE 20 (vB (decide (most < (out.length : Int))))]) [] mixed U U U hS (U1 (X4 fun S B => Z3 _ (evT (B 0 U) U) U (qz S)) (Y7 fun S V => V0 (eM (V 0 11 U U)) U (qz S)) (Y7 fun S V => Y2 Yf5 (eM (V 1 12 U U)) U (qz S)) (Y7 fun S V => Y1 vo Xo3 (eM (V 2 13 U U)) (S.get (mR (mR mL))) U U (qz S)) (P0 fun s S V => Yh0 Zv1 (eM (V 3 14 U U)) (ho.mono s) U (qz S)) (X4 fun S B => Z3 _ (evT (B 0 U) U) U (qz S)) (Y7 fun S V => V0 (eM (V 5 16 U U)) U (qz S)) (Y7 fun S V => Y2 Xu4 (eM (V 6 17 U U)) U (qz S)) (L7 (Y7 fun S V => Y1 (vI most) ty3 (eM (V 7 18 U U)) (S.get (mR (mR mL))) U U (qz S)) (Y7 fun S V => A0 (k := .i64) (a := (out.length : Int)) (b := most) (eM (V 4 15 U U)) (eM (V 8 19 U U)) U (qz S)) W9)) ?_
    intro f2 w2 H2 s2 hS hB hV _
    have hS : St H2 w2 ([(bp, .cells (Z7 .i64 p).toArray 222)] ++ ([(bl, .cells #[vd, vI most, vo] 298)] ++ _)) := hS
    refine Z2 ?_
    repeat refine Z1 ?_
    by_cases hm : most < (out.length : Int)
    · refine Z8 (bT hm (eM (hV 9 20 (by decide) U))) ?_
      rw [if_pos hm]
      exact Y9 (vs := []) func272 trivial ⟨H2, vo, Co, U, s2, hS.dA, ho.mono s2⟩
    rw [if_neg hm]
    refine Z6 (bF hm (eM (hV 9 20 (by decide) U))) (Y6 ?_)
    repeat refine Z1 ?_
    have hd2 := hd.mono s2
    refine Z0 (Z3 (vI (i : Int)) (evT (hB 1 U) U) U (Z3 (vP bl) (evT (hB 0 U) U) U (V0 U U (Y2 Xg8 U U (Y1 vd Q9 U (hS.get (mR mL)) U U (X9 T1 U hd2 U (Zb2 (k := .i64) (a := (i : Int)) (b := (ds.length : Int)) U U U (Z2 ?_))))))))
    repeat refine Z1 ?_
    refine Z6 (bF (by omega) U) (Y6 ?_)
    repeat refine Z1 ?_
    refine Z0 (Z3 (vP bl) (evT (hB 0 U) U) U (V0 U U (Y2 Xg8 U U (Y1 vd Q9 U (hS.get (mR mL)) U U (Z3 (vI (i : Int)) (evT (hB 1 U) U) U ?_)))))
    obtain ⟨b, o, cs, E, _, hp, hb, rfl, hc⟩ := hd2.elem (i := (i : Int)) (by omega) (by omega)
    refine X6 T1 U U hp U (by omega) (by omega) U (Y1 (vI n) ty2 U (hS.froz _ _ hb) (by have h := hc 0 (show 0 < 1 by decide); rw [hnn] at h; exact h) U (Z5 (vI n) U U (Z2 ?_)))
    repeat refine Z1 ?_
    refine Z0 (Z3 (vI left) (evT (hB 3 U) U) U (Z3 (vI n) U U (Xt1 (left.tdiv n) U U (by omega) (i64_in _ (by omega)) U (Xt2 U U U (Z5 (vI (if 20 < left.tdiv n then 20 else left.tdiv n)) U U (Z2 ?_))))))
    repeat refine Z1 ?_
    refine Z0 (Z3 (vI n) U U (Zd4 (n.tmod 2) U U (by decide) U U (Zb2 (k := .i64) (a := n.tmod 2) (b := 1) U U U (Z2 ?_))))
    repeat refine Z1 ?_
    refine N1 (fun f w => St H2 w ([(bp, .cells (Z7 .i64 p).toArray 222)] ++ ([(bl, .cells #[vd, vI most, vo] 298)] ++ (Co ++ L))) ∧ tv f 0 = vP bl ∧ tv f 1 = vI (i : Int) ∧ tv f 3 = vI left ∧ tv f 6 = vP bp ∧ tv f 8 = vI n ∧ tv f 9 = vI (Zt7 n left)) ?_ ?_
    · rintro f3 w3 ⟨hS, t0, t1, t3, t6, t8, t9⟩
      repeat refine Z1 ?_
      refine Z0 (Z3 (vI (Zt7 n left)) t9 U (Z5 (vI (Zt7 n left)) U U (Z2 ?_)))
      repeat refine Z1 ?_
      refine Y8 ?_
      refine W3 (id := 0) (fun k f w => ∃ (x : Nat) (H1 : FH) (pc : A8) (vo1 : Value) (Co1 : OL) (out1 : List A8), (x : Int) ≤ Zt7 n left + 1 ∧ x < k ∧ Sub H H1 ∧ St H1 w ([(bp, .cells (Z7 .i64 pc).toArray 222)] ++ ([(bl, .cells #[vd, vI most, vo1] 298)] ++ (Co1 ++ L))) ∧ W0 (Q5 .i64) 222 H1 vo1 out1 Co1 ∧ (out1.length : Int) ≤ most + 1 ∧ (∀ e, T3 pc (i : Int) e = T3 p (i : Int) e) ∧
          ((range x).reverse).foldl (fun o (e : Nat) => lsF ds most g (T3 p (i : Int) (e : Int)) (left - (e : Int) * n) o) out1 = ((range ((Zt7 n left).toNat + 1)).reverse).foldl (fun o (e : Nat) => lsF ds most g (T3 p (i : Int) (e : Int)) (left - (e : Int) * n) o) out ∧ tv f 0 = vP bl ∧ tv f 1 = vI (i : Int) ∧ tv f 3 = vI left ∧ tv f 6 = vP bp ∧ tv f 8 = vI n ∧ tv f 10 = vI ((x : Int) - 1))
        (fun f w => ∃ H1 vo1 Co1, Sub H H1 ∧ St H1 w ([(bl, .cells #[vd, vI most, vo1] 298)] ++ (Co1 ++ L)) ∧ W0 (Q5 .i64) 222 H1 vo1 (((range ((Zt7 n left).toNat + 1)).reverse).foldl (fun o (e : Nat) => lsF ds most g (T3 p (i : Int) (e : Int)) (left - (e : Int) * n) o) out) Co1) U ?_ ?_ ((Zt7 n left).toNat + 2) ?_ ?_
      · rintro f w ⟨x, H1, pc, vo1, Co1, out1, h1, h2, _⟩; omega
      · rintro k f w ihk hx ⟨x, H1, pc, vo1, Co1, out1, h1, h2, Z4, hS, ho, hlen, hpc, hfold, t0, t1, t3, t6, t8, t10⟩
        repeat refine Z1 ?_
        refine Z0 (Z3 (vI ((x : Int) - 1)) (by exact t10) U (Ya4 (k := .i64) (a := (x : Int) - 1) (b := 0) U U U (Z2 ?_)))
        repeat refine Z1 ?_
        by_cases hx0 : (0 : Int) ≤ (x : Int) - 1
        case neg =>
          refine Z6 (bF hx0 U) (W2 U ?_)
          have e : x = 0 := by omega
          subst e
          rw [range_zero, reverse_nil, foldl_nil] at hfold
          exact hx _ _ ⟨H1, vo1, Co1, Z4, hS.dA, by rw [← hfold]; exact ho⟩
        refine Z8 (bT hx0 U) (Y6 ?_)
        obtain ⟨y, rfl⟩ : ∃ y, x = y + 1 := ⟨x - 1, by omega⟩
        have t10 : tv f 10 = vI (y : Int) := by rw [t10]; congr 1; omega
        rw [range_succ, reverse_append, reverse_singleton, singleton_append, foldl_cons] at hfold
        have hyn : 0 ≤ (y : Int) * n ∧ (y : Int) * n ≤ left := by
          have hy : (y : Int) ≤ Zt7 n left := by omega
          exact ⟨Int.mul_nonneg (by omega) (by omega), Int.le_trans (Int.mul_le_mul_of_nonneg_right hy (by omega)) htop2⟩
        repeat refine Z1 ?_
        refine Y8 ?_
        repeat refine Z1 ?_
        refine Z0 (Z3 (vI (i : Int)) (by exact t1) U (Z3 (vI (y : Int)) (by exact t10) U (U3 Zm9 (by exact t6) U (by omega) (by omega) U (J7 (v := vI (y : Int)) (cs := (Z7 .i64 pc).toArray) (cs' := (Z7 .i64 (T3 pc (i : Int) (y : Int))).toArray) ty3 U U hS U (Zv6 U) (by simp [Z7]; omega) (Zj0 (by omega) (by omega)) (fun w4 hS => Z2 ?_)))))
        repeat refine Z1 ?_
        refine Z0 (Z3 (vP bl) (by exact t0) U (Z3 (vI (i : Int)) (by exact t1) U (W4 ((i : Int) + 1) U U (i64_in _ (by omega)) U (X5 P3 (by exact t6) (hS.get mL) U U (Z3 (vI left) (by exact t3) U (Z3 (vI (y : Int)) (by exact t10) U (Z3 (vI n) (by exact t8) U (Zi4 ((y : Int) * n) U U (i64_in _ (by omega)) U (Zg8 (left - (y : Int) * n) U U (i64_in _ (by omega)) U ?_)))))))))
        have hS := hS.perm (Zc0 (A1 := [(bl, Obj.cells #[vd, vI most, vo1] 298)]) (A2 := Co1)).symm
        refine U9 call272 (Wy3 U (congrArg vI (show (i : Int) + 1 = ((ds.length - g : Nat) : Int) by omega)) U U) U (ih (by omega) (p := T3 pc (i : Int) (y : Int)) (left := left - (y : Int) * n) ⟨by omega, by omega⟩ (hd.mono Z4) ho hlen hS) ?_
        rintro e5 w5 ⟨H5, vo5, Co5, rfl, s5, hS, ho5⟩
        refine ⟨_, U, Z2 ?_⟩
        have hS := hS.perm (Zc0 (B := [(bp, Obj.cells (Z7 .i64 (T3 pc (i : Int) (y : Int))).toArray 222)]) (A1 := [(bl, Obj.cells #[vd, vI most, vo5] 298)]) (A2 := Co5))
        refine X1 (Z0 (Z3 (vI (y : Int)) (by exact t10) U (Zg8 ((y : Int) - 1) U U (i64_in _ (by omega)) U (Z5 (vI ((y : Int) - 1)) U U (Z2 ?_)))))
        rw [hpc (y : Int)] at ho5
        exact ihk _ _ ⟨y, H5, T3 pc (i : Int) (y : Int), vo5, Co5, _, by omega, by omega, Z4.trans s5, hS, ho5, Xm3 ds most g _ _ _ hlen, fun e => by rw [Xh5]; exact hpc e, hfold, t0, t1, t3, t6, t8, U⟩
      · exact ⟨(Zt7 n left).toNat + 1, H2, p, vo, Co, out, by omega, by omega, s2, hS, ho.mono s2, hlen, fun _ => rfl, U, t0, t1, t3, t6, t8, by show vI (Zt7 n left) = vI ((((Zt7 n left).toNat + 1 : Nat) : Int) - 1); congr 1; omega⟩
      · rintro f w ⟨H1, vo1, Co1, Z4, hS, ho⟩
        exact Ys7 (vs := []) func272 trivial ⟨H1, vo1, Co1, U, Z4, hS, ho⟩
    intro hJ
    by_cases hodd : n.tmod 2 = 1
    · refine Z8 (bT hodd U) ?_
      refine Z0 (Z3 (vI (if 20 < left.tdiv n then 20 else left.tdiv n)) U U (Xt2 U U U (Z5 (vI (if 1 < (if 20 < left.tdiv n then 20 else left.tdiv n) then 1 else (if 20 < left.tdiv n then 20 else left.tdiv n))) U U (Z2 (hJ _ _ ⟨hS, (evT (hB 0 U) U), (evT (hB 1 U) U), (evT (hB 3 U) U), (evT (hB 6 U) U), U, by unfold Zt7; rw [if_pos hodd]; rfl⟩)))))
    · refine Z6 (bF hodd U) (Y6 ?_)
      exact hJ _ _ ⟨hS, (evT (hB 0 U) U), (evT (hB 1 U) U), (evT (hB 3 U) U), (evT (hB 6 U) U), U, by unfold Zt7; rw [if_neg hodd]; rfl⟩
def N3 (K : Nat) (a0 : List Int) (a1 : A8) : Nat → Int → Option (Ex Bool Unit)
 | 0, _ => none
 | k + 1, a3 => (if a3 < 8 then (if (a0.length : Int) ≤ a3 then (if (Y5 a1 a3) = 0 then N3 K a0 a1 k (a3 + 1) else some (.ret false)) else (if 20 < (Y5 a1 a3) then some (.ret false) else (if a3 < (a0.length : Int) then (if (((rd a0 a3)).tmod 2) = 0 then N3 K a0 a1 k (a3 + 1) else (if 1 < (Y5 a1 a3) then some (.ret false) else N3 K a0 a1 k (a3 + 1))) else none))) else some (.go ()))
def Zt5 (K : Nat) (a0 : List Int) (a1 : A8) : Option Bool := ((N3 K a0 a1 K 0).bind (Ex.elim (fun r => some r) (fun s => some true)))
theorem Zs7 {a0 : List Int} {a1 : A8} {r : Bool} (q0 : Zt5 K a0 a1 = some r) (b2 : Y3 (Y4 .i64) H s0 a0) (hS : St H w L) :
 Calls prog 228 #[s0, vA (Z7 .u8 a1)] w (T4 (fun v G => R.bool.p G v r) H L) := by
 have Z4 := Sub.refl H
 refine X0 func228 U ntmps228 U ?_
 unfold Zt5 at q0
 refine Z1 (Z0 (T8 (v := vA (Z7 .u8 a1)) (Z7 .u8 a1).toArray U U hS U (fun b1 _ hS => Z5 (vB false) U U (Z2 (Z1 (Z1 (Z0 (Z5 (vI 0) U U (Z2 (Y8 ?_))))))))))
 obtain ⟨b5, a4, b0⟩ := bSm q0
 refine W3 (id := 0) (fun k f w => ∃ a3 H1, N3 K a0 a1 k a3 = some b5 ∧ Sub H H1 ∧ St H1 w ([(b1, cA (Z7 .u8 a1) 72)] ++ L) ∧ 0 ≤ a3 ∧ Y3 (Y4 .i64) H1 s0 a0 ∧ tv f 0 = s0 ∧ tv f 3 = vP b1 ∧ tv f 5 = vI a3) (fun f w => ∃ H1, b5 = .go () ∧ Sub H H1 ∧ St H1 w ([(b1, cA (Z7 .u8 a1) 72)] ++ L)) U ?_ ?_ K ?_ ?_
 rintro f w ⟨a3, H1, a4, _⟩
 rw [N3] at a4; cases a4
 rintro k _ _ b6 c3 ⟨a3, b3, a4, Z4, hS, _, b2, a9, a7, a5⟩
 rw [N3] at a4
 refine Z1 (Z1 (Z0 (Z3 (vI a3) (by exact a5) U (V4 (k := .i64) (a := a3) (b := 8) U U U (Z2 ?_)))))
 obtain ⟨b7, a4⟩ | ⟨b7, a4⟩ := ic a4
 refine Z8 (bT b7 U) (Y6 (Z1 (Y8 (Y8 (Z1 (Z0 (Z3 (vI a3) (by exact a5) U (Z3 s0 (by exact a9) U ?_))))))))
 have c4 := b2.bound
 refine X9 T1 U b2 U (Ya4 (k := .i64) (a := a3) (b := (a0.length : Int)) U U U (Z5 (vB (decide ((a0.length : Int) ≤ a3))) U U (Z2 ?_)))
 obtain ⟨b8, a4⟩ | ⟨b8, a4⟩ := ic a4
 refine Z8 (bT b8 U) (Z1 (Z0 (Z3 (vI a3) (by exact a5) U (U3 Zh5 (by exact a7) U (by omega) (by omega) U (Y1 (Value.int .u8 (Y5 a1 a3)) ty5 U (hS.get (o := cA (Z7 .u8 a1) 72) mL) (I1 [] [] (by omega) (by omega)) U (L1 (k := .u8) (a := (Y5 a1 a3)) (b := 0) U U U (Z2 ?_)))))))
 obtain ⟨b9, a4⟩ | ⟨b9, a4⟩ := ic a4
 refine Z6 (bN b9 U) (Y6 (X1 (X1 (Z0 (Z3 (vI a3) (by exact a5) U (W4 (a3 + 1) U U (i64_in _ (by omega)) U (Z5 (vI (a3 + 1)) U U (Z2 (b6 _ _ ⟨(a3 + 1), b3, a4, Z4, hS, (by omega), b2, a9, a7, U⟩)))))))))
 refine Z8 (bO b9 U) (Z1 (Z0 (Z5 (vB false) U U (Z2 (Y9 (vs := [vB false]) func228 Ut ?_)))))
 cases a4
 dsimp only [Ex.elim] at b0
 cases b0
 exact ⟨_, _, U, Z4, (St.dA hS), U⟩
 refine Z6 (bF b8 U) (Z1 (Z0 (Z3 (vI a3) (by exact a5) U (U3 Zh5 (by exact a7) U (by omega) (by omega) U (Y1 (Value.int .u8 (Y5 a1 a3)) ty5 U (hS.get (o := cA (Z7 .u8 a1) 72) mL) (I1 [] [] (by omega) (by omega)) U (A0 (k := .u8) (a := (Y5 a1 a3)) (b := 20) U U U (Z3 (vB (decide (20 < (Y5 a1 a3)))) U U ?_)))))))
 obtain ⟨a6, a4⟩ | ⟨a6, a4⟩ := ic a4
 refine Z9 U U (bT a6 U) U U U (Z9 U U (bT a6 U) U U U (Z9 U U (bT a6 U) U U U (Z9 U U (bT a6 U) U U U (Z9 U U (bT a6 U) U U U (Z9 U U (bT a6 U) U U U (Z9 U U (bT a6 U) U U U (V2 U U U U U (V2 U U U U U (V2 U U U U U (V2 U U U U U (Z9 U U (bT a6 U) U U U (W5 (t := true) (vB true) (bT a6 U) ((if_pos U).trans U) U (Z5 (vB true) U U (Z2 (Z8 U (Z1 (Z0 (Z5 (vB false) U U (Z2 (Y9 (vs := [vB false]) func228 Ut ?_))))))))))))))))))))
 cases a4
 dsimp only [Ex.elim] at b0
 cases b0
 exact ⟨_, _, U, Z4, (St.dA hS), U⟩
 refine Y0 U U (bF a6 U) (Z3 s0 (by exact a9) U (Y0 U U (bF a6 U) (Z3 (vI a3) (by exact a5) U (Y0 U U (bF a6 U) ?_))))
 obtain ⟨_, a4⟩ := gd a4
 obtain ⟨_, _, _, _, _, c0, c1, rfl, c2⟩ := b2.elem (i := a3) (by omega) (by omega)
 refine X6 T1 U U c0 U (by omega) (by omega) U (Y0 U U (bF a6 U) (Y1 (vI (rd a0 a3)) ty2 U (hS.froz _ _ c1) (c2 0 (show 0 < 1 by decide)) U (Y0 U U (bF a6 U) (Zd4 (((rd a0 a3)).tmod 2) U U (by decide) U U (Y0 U U (bF a6 U) (L1 (k := .i64) (a := (((rd a0 a3)).tmod 2)) (b := 0) U U U (Y0 U U (bF a6 U) (Z3 (vB (!decide ((((rd a0 a3)).tmod 2) = 0))) U U ?_))))))))
 obtain ⟨a8, a4⟩ | ⟨a8, a4⟩ := ic a4
 refine Z9 U U (bN a8 U) U U U (Z9 U U (bN a8 U) U U U (Z9 U U (bN a8 U) U U U (Z9 U U (bN a8 U) U U U (Y0 U U (bF a6 U) (W5 (t := false) (vB false) (bN a8 U) ((if_neg Bool.false_ne_true).trans U) U (W5 (t := false) (vB false) (bF a6 U) ((if_neg Bool.false_ne_true).trans U) U (Z5 (vB false) U U (Z2 (Z6 U (Y6 (X1 (X1 (Z0 (Z3 (vI a3) (by exact a5) U (W4 (a3 + 1) U U (i64_in _ (by omega)) U (Z5 (vI (a3 + 1)) U U (Z2 (b6 _ _ ⟨(a3 + 1), b3, a4, Z4, hS, (by omega), b2, a9, a7, U⟩))))))))))))))))))
 refine Y0 U U (bO a8 U) (Z3 (vI a3) (by exact a5) U (Y0 U U (bO a8 U) (U3 Zh5 (by exact a7) U (by omega) (by omega) U (Y0 U U (bO a8 U) (Y1 (Value.int .u8 (Y5 a1 a3)) ty5 U (hS.get (o := cA (Z7 .u8 a1) 72) mL) (I1 [] [] (by omega) (by omega)) U (Y0 U U (bO a8 U) (A0 (k := .u8) (a := (Y5 a1 a3)) (b := 1) U U U (Y0 U U (bF a6 U) (W5 (t := true) (vB (decide (1 < (Y5 a1 a3)))) (bO a8 U) ((if_pos U).trans U) U (W5 (t := false) (vB (decide (1 < (Y5 a1 a3)))) (bF a6 U) ((if_neg Bool.false_ne_true).trans U) U (Z5 (vB (decide (1 < (Y5 a1 a3)))) U U (Z2 ?_))))))))))))
 obtain ⟨b4, a4⟩ | ⟨b4, a4⟩ := ic a4
 refine Z8 (bT b4 U) (Z1 (Z0 (Z5 (vB false) U U (Z2 (Y9 (vs := [vB false]) func228 Ut ?_)))))
 cases a4
 dsimp only [Ex.elim] at b0
 cases b0
 exact ⟨_, _, U, Z4, (St.dA hS), U⟩
 refine Z6 (bF b4 U) (Y6 (X1 (X1 (Z0 (Z3 (vI a3) (by exact a5) U (W4 (a3 + 1) U U (i64_in _ (by omega)) U (Z5 (vI (a3 + 1)) U U (Z2 (b6 _ _ ⟨(a3 + 1), b3, a4, Z4, hS, (by omega), b2, a9, a7, U⟩)))))))))
 refine Z6 (bF b7 U) (W2 U ?_)
 cases a4
 exact c3 _ _ ⟨b3, U, Z4, hS⟩
 exact ⟨0, H, a4, Z4, hS, (by omega), b2, U, U, U⟩
 rintro _ _ ⟨_, rfl, Z4, hS⟩
 dsimp only [Ex.elim] at b0
 refine Z1 (Z0 (Z5 (vB true) U U (Z2 (Y9 (vs := [vB true]) func228 Ut ?_))))
 cases b0
 exact ⟨_, _, U, Z4, (St.dA hS), U⟩
def Za3 (K : Nat) (a0 : List Int) (a1 : List A8) : Nat → Int → MpT → Option (Ex MpT MpT)
 | 0, _, _ => none
 | k + 1, a3, a4 => (if a3 < (a1.length : Int) then (if a3 < (a0.length : Int) then (if (rd a0 a3) = 0 then Za3 K a0 a1 k (a3 + 1) a4 else (if a4.length + ([((rd a1 a3), (rd a0 a3))]).length ≤ 1099511627776 then Za3 K a0 a1 k (a3 + 1) (a4 ++ [((rd a1 a3), (rd a0 a3))]) else none)) else none) else some (.go a4))
def Zn8 (K : Nat) (a0 : List Int) (a1 : List A8) : Option MpT := ((Za3 K a0 a1 K 0 ([] : List (A8 × Int))).bind (Ex.elim (fun r => some r) (fun s => (fun (b0 : MpT) => some b0) s)))
theorem Xb6 {a0 : List Int} {a1 : List A8} {r : MpT} (q0 : Zn8 K a0 a1 = some r) (c2 : Y3 (Y4 .i64) H s0 a0) (b9 : Y3 (Q5 .u8) H s1 a1) (hS : St H w L) :
 Calls prog 169 #[s0, s1] w (T4 (fun v G => (R.agg (X3 yT)).p G v r) H L) := by
 have Z4 := Sub.refl H
 refine X0 func169 U ntmps169 U ?_
 unfold Zn8 at q0
 refine Z1 (Z0 (U5 (z := vA [vN]) [vN].toArray Zj8.zero U hS U (fun b1 _ hS => Z2 (Z1 (Z0 (M4 (vA [vN]) Zz0 U (U5 (z := vA [vN]) [vN].toArray Zj8.zero U hS U (fun b4 _ hS => W1 (v := vA [vN]) (vs := ([vN]).toArray) (cs := ([vN]).toArray) U7 U U U hS U (K9 U) U (fun _ hS => Z2 (Z1 (Z1 (Z0 (Z5 (vI 0) U U (Z2 (Y8 ?_)))))))))))))))
 have d0 : W0 yT 78 H (.slice none 0 0) [] [] := W0.nil _ _ _
 obtain ⟨d1, a7, d2⟩ := bSm q0
 refine W3 (id := 0) (fun k f w => ∃ a3 a4 H1 a6 a5, Za3 K a0 a1 k a3 a4 = some d1 ∧ Sub H H1 ∧ St H1 w (a6 ++ ([(b4, cA [a5] 45)] ++ ([(b1, cA [vN] 45)] ++ L))) ∧ 0 ≤ a3 ∧ W0 yT 78 H1 a5 a4 a6 ∧ Y3 (Y4 .i64) H1 s0 a0 ∧ Y3 (Q5 .u8) H1 s1 a1 ∧ tv f 0 = s0 ∧ tv f 1 = s1 ∧ tv f 4 = vP b1 ∧ tv f 5 = vP b4 ∧ tv f 6 = vI a3) (fun f w => ∃ b0 H1 b3 a8, d1 = .go b0 ∧ Sub H H1 ∧ St H1 w (b3 ++ ([(b4, cA [a8] 45)] ++ ([(b1, cA [vN] 45)] ++ L))) ∧ W0 yT 78 H1 a8 b0 b3 ∧ tv f 4 = vP b1 ∧ tv f 5 = vP b4) U ?_ ?_ K ?_ ?_
 rintro f w ⟨a3, a4, H1, a6, a5, a7, _⟩
 rw [Za3] at a7; cases a7
 rintro k _ _ e4 f7 ⟨a3, a4, d3, a6, a5, a7, Z4, hS, _, a9, c2, b9, b6, b7, c1, b8, b2⟩
 rw [Za3] at a7
 refine Z1 (Z1 (Z0 (Z3 (vI a3) (by exact b2) U (Z3 s1 (by exact b7) U ?_))))
 have g2 := b9.bound
 refine X9 Zv3 U b9 U (V4 (k := .i64) (a := a3) (b := (a1.length : Int)) U U U (Z2 ?_))
 obtain ⟨d4, a7⟩ | ⟨d4, a7⟩ := ic a7
 refine Z8 (bT d4 U) (Y6 (Z1 (Y8 (Z1 (Z0 (Z3 s0 (by exact b6) U (Z3 (vI a3) (by exact b2) U ?_)))))))
 obtain ⟨_, a7⟩ := gd a7
 obtain ⟨_, _, _, _, _, e5, e6, rfl, e7⟩ := c2.elem (i := a3) (by omega) (by omega)
 refine X6 T1 U U e5 U (by omega) (by omega) U (Y1 (vI (rd a0 a3)) ty2 U (hS.froz _ _ e6) (e7 0 (show 0 < 1 by decide)) U (L1 (k := .i64) (a := (rd a0 a3)) (b := 0) U U U (Z2 ?_)))
 obtain ⟨c5, a7⟩ | ⟨c5, a7⟩ := ic a7
 refine Z6 (bN c5 U) (Y6 (X1 (Z0 (Z3 (vI a3) (by exact b2) U (W4 (a3 + 1) U U (i64_in _ (by omega)) U (Z5 (vI (a3 + 1)) U U (Z2 (e4 _ _ ⟨(a3 + 1), a4, d3, a6, a5, a7, Z4, hS, (by omega), a9, c2, b9, b6, b7, c1, b8, U⟩))))))))
 refine Z8 (bO c5 U) ?_
 obtain ⟨f8, f9, _, _, _, e8, e9, rfl, f0⟩ := b9.elem (i := a3) (by omega) (by omega)
 obtain ⟨g0, g1, _, _, _, f1, f2, rfl, f3⟩ := c2.elem (i := a3) (by omega) (by omega)
 refine W6 12 (S8 [mE 19 (vP b4), mE 20 a5, mE 21 s1, mE 22 (vI a3), mE 23 (vQ f8 f9), mE 24 (vA (Z7 .u8 (rd a1 a3))), mE 25 s0, mE 26 (vI a3), mE 27 (vQ g0 g1), mE 28 (vI (rd a0 a3)), mE 29 (vA (Z7 .u8 (rd a1 a3) ++ [vI (rd a0 a3)])), (30, MP.sl yT [((rd a1 a3), (rd a0 a3))])]) [] mixed U U U hS (U1 (X4 fun S B => Y2 U8 (evT (B 5 U) b8) U (qz S)) (Y7 fun S V => Y1 a5 P1 (eM (V 0 19 U U)) (S.get (mR (mR mL))) U U (qz S)) (X4 fun S B => Z3 s1 (evT (B 1 U) b7) U (qz S)) (X4 fun S B => Z3 (vI a3) (evT (B 6 U) b2) U (qz S)) (Y7 fun S V => X6 Zv3 U (eM (V 2 21 U U)) e8 (eM (V 3 22 U U)) (by omega) (by omega) U (qz S)) (P0 fun s S V => U0 (Z7 .u8 (rd a1 a3)) P7 (eM (V 4 23 U U)) (S.froz _ _ (s.1 _ _ e9)) U f0 U (qz S)) (X4 fun S B => Z3 s0 (evT (B 0 U) b6) U (qz S)) (X4 fun S B => Z3 (vI a3) (evT (B 6 U) b2) U (qz S)) (K3 (Y7 fun S V => X6 T1 U (eM (V 6 25 U U)) f1 (eM (V 7 26 U U)) (by omega) (by omega) U (qz S)) (P0 fun s S V => Y1 (vI (rd a0 a3)) ty2 (eM (V 8 27 U U)) (S.froz _ _ (s.1 _ _ f2)) (f3 0 (show 0 < 1 by decide)) U (qz S)) (Y7 fun S V => Zw5 (Z7 .u8 (rd a1 a3) ++ [vI (rd a0 a3)]) Xn9 (Yc0 (eM (V 5 24 U U)) (eM (V 9 28 U U))) (E1 U U U (nl U) (E1 U U U (nl U) (Zr9 U))) U (qz S)) ?_ W9)) ?_
 intro _ _ _ _ _ hS _ d7 hcq
 refine Zc4 (τ := yT) Q0 Yg3 U [vA (Z7 .u8 (rd a1 a3) ++ [vI (rd a0 a3)])] [((rd a1 a3), (rd a0 a3))] U U (D3 (eM (d7 10 29 U U))) (Zl6 ⟨_, _, U, U, U⟩) (by decide) (by decide) hS U fun _ _ _ d8 hS d9 => qn d8 U hS d9
 intro _ f4 d5 c3 hS c0 c7 hcq
 have hS : St d5 f4 (a6 ++ _) := hS
 have Z4 := Z4.trans c3
 have c2 := c2.mono c3
 have b9 := b9.mono c3
 have a9 := a9.mono c3
 have d6 := evT (c0 5 U) b8
 obtain ⟨_, f5, e0⟩ := gvS (c7 11 30 (by decide) U)
 obtain ⟨e1, a7⟩ := gd a7
 refine N2 (τ := yT) Xd5 U (by exact (eM (c7 1 20 (by decide) U))) (by exact f5) a9 hS e0 e1 U fun c6 _ f6 c8 hS => Y2 U8 (by exact d6) U ?_
 have hS := hS.perm R5
 refine Ze6 (v := c6) (cs := ([a5]).toArray) (cs' := ([c6]).toArray) P1 U U hS c8.isOne U (nl U) U ?_
 intro _ hS
 have hS := hS.perm R5.symm
 refine Z2 (X1 (Z0 (Z3 (vI a3) (by exact (evT (c0 6 U) b2)) U (W4 (a3 + 1) U U (i64_in _ (by omega)) U (Z5 (vI (a3 + 1)) U U (Z2 (e4 _ _ ⟨(a3 + 1), (a4 ++ [((rd a1 a3), (rd a0 a3))]), d5, f6, c6, a7, Z4, hS, (by omega), c8, c2, b9, (evT (c0 0 U) b6), (evT (c0 1 U) b7), (evT (c0 4 U) c1), d6, U⟩)))))))
 refine Z6 (bF d4 U) (W2 U ?_)
 cases a7
 exact f7 _ _ ⟨a4, d3, a6, a5, U, Z4, hS, a9, c1, b8⟩
 exact ⟨0, ([] : List (A8 × Int)), H, ([]), (vN), a7, Z4, hS, (by omega), d0, c2, b9, U, U, U, U, U⟩
 rintro _ _ ⟨b0, _, b3, a8, rfl, Z4, hS, b5, c4, c9⟩
 dsimp only [Ex.elim] at d2
 refine Z1 (Z0 (X5 U7 (by exact c9) (hS.get (mR mL)) U U ?_))
 have hS := hS.perm Zc0
 refine W1 (v := vA [a8]) (vs := ([a8]).toArray) (cs := ([vN]).toArray) U7 (by exact c4) U U hS U (K9 b5.isOne) U ?_
 intro _ hS
 have hS := hS.perm Zc0.symm
 refine Z2 (Y9 (vs := [vA [a8]]) func169 ⟨⟨_, (by exact c4), T9 U7 (hS.get (mR (mR mL))) U⟩, trivial⟩ ?_)
 obtain ⟨_, e2, hS, e3⟩ := b5.freeze hS
 have Z4 := Z4.trans e2
 cases d2
 exact ⟨_, _, U, Z4, (St.dA (St.dA hS)), ⟨_, U, ⟨_, U, e3⟩⟩⟩
def B2 (K : Nat) (c6 : Int → Option (Ex Bool Unit)) (a1 : A8) (a3 a6 : Int) : Option (Ex Bool Unit) := (if a6 < (Y5 a1 a3) then some (.ret false) else c6 (a3 + 1))
def R4 (K : Nat) (a0 : List Int) (a1 : A8) : Nat → Int → Option (Ex Bool Unit)
 | 0, _ => none
 | k + 1, a3 => (if a3 < 8 then (if a3 < (a0.length : Int) then (if (((rd a0 a3)).tmod 2) = 1 then B2 K (R4 K a0 a1 k) a1 a3 1 else B2 K (R4 K a0 a1 k) a1 a3 20) else B2 K (R4 K a0 a1 k) a1 a3 0) else some (.go ()))
def Zm6 (K : Nat) (a0 : List Int) (a1 : A8) : Option Bool := ((R4 K a0 a1 K 0).bind (Ex.elim (fun r => some r) (fun s => some true)))
theorem Yu6 {a0 : List Int} {a1 : A8} {r : Bool} (q0 : Zm6 K a0 a1 = some r) (b0 : Y3 (Y4 .i64) H s0 a0) (hS : St H w L) :
 Calls prog 211 #[s0, vA (Z7 .u8 a1)] w (T4 (fun v G => R.bool.p G v r) H L) := by
 have Z4 := Sub.refl H
 refine X0 func211 U ntmps211 U ?_
 unfold Zm6 at q0
 refine Z1 (Z0 (T8 (v := vA (Z7 .u8 a1)) (Z7 .u8 a1).toArray U U hS U (fun b1 _ hS => Z5 (vB false) U U (Z2 (Z1 (Z1 (Z0 (X5 P7 U (hS.get mL) U U (Z3 (vI 0) U U (Z2 (Y8 ?_)))))))))))
 obtain ⟨b4, a4, b2⟩ := bSm q0
 refine W3 (id := 0) (fun k f w => ∃ a3 H1, R4 K a0 a1 k a3 = some b4 ∧ Sub H H1 ∧ St H1 w ([(b1, cA (Z7 .u8 a1) 72)] ++ L) ∧ 0 ≤ a3 ∧ Y3 (Y4 .i64) H1 s0 a0 ∧ tv f 0 = s0 ∧ tv f 8 = vA (Z7 .u8 a1) ∧ tv f 9 = vI a3) (fun f w => ∃ H1, b4 = .go () ∧ Sub H H1 ∧ St H1 w ([(b1, cA (Z7 .u8 a1) 72)] ++ L)) U ?_ ?_ K ?_ ?_
 rintro f w ⟨a3, H1, a4, _⟩
 rw [R4] at a4; cases a4
 rintro k _ _ c7 c8 ⟨a3, b3, a4, Z4, hS, _, b0, a7, a8, a5⟩
 rw [R4] at a4
 refine Z1 (Z0 (V4 (k := .i64) (a := a3) (b := 8) (by exact a5) U U (Z2 (Z1 ?_))))
 obtain ⟨b5, a4⟩ | ⟨b5, a4⟩ := ic a4
 refine Z8 (bT b5 U) (Y6 (Z1 (Y8 (Z1 (Z0 (Z3 (vI a3) (by exact a5) U (Yo6 (Value.int .u8 (Y5 a1 a3)) Zh5 (by exact a8) (by exact a5) (by omega) (by omega) (Ym6 (by omega) (by omega)) U (Z5 (vI a3) U U (Z5 (Value.int .u8 (Y5 a1 a3)) U U (Z2 (Z1 (Z0 (Z5 (Value.int .u8 0) U U (Z2 (Z1 (Z1 (Z0 (Z3 (vI a3) U U (Z3 s0 (by exact a7) U ?_)))))))))))))))))))
 have d2 := b0.bound
 refine X9 T1 U b0 U (V4 (k := .i64) (a := a3) (b := (a0.length : Int)) U U U (Z2 (N1 (fun f w => ∃ a6 H1, B2 K (R4 K a0 a1 k) a1 a3 a6 = some b4 ∧ Sub H H1 ∧ St H1 w ([(b1, cA (Z7 .u8 a1) 72)] ++ L) ∧ Y3 (Y4 .i64) H1 s0 a0 ∧ tv f 0 = s0 ∧ tv f 6 = Value.int .u8 (Y5 a1 a3) ∧ tv f 7 = Value.int .u8 a6 ∧ tv f 8 = vA (Z7 .u8 a1) ∧ tv f 9 = vI a3) ?_ ?_)))
 rintro _ _ ⟨a6, c5, a9, Z4, hS, b0, b6, b7, b8, b9, c0⟩
 unfold B2 at a9
 refine Z1 (Z0 (Z3 (Value.int .u8 (Y5 a1 a3)) (by exact b7) U (Z3 (Value.int .u8 a6) (by exact b8) U (A0 (k := .u8) (a := (Y5 a1 a3)) (b := a6) U U U (Z2 ?_)))))
 obtain ⟨c1, a9⟩ | ⟨c1, a9⟩ := ic a9
 refine Z8 (bT c1 U) (Z1 (Z0 (Z5 (vB false) U U (Z2 (Y9 (vs := [vB false]) func211 Ut ?_)))))
 cases a9
 dsimp only [Ex.elim] at b2
 cases b2
 exact ⟨_, _, U, Z4, (St.dA hS), U⟩
 refine Z6 (bF c1 U) (Y6 (X1 (Z0 (W4 (a3 + 1) (by exact c0) U (i64_in _ (by omega)) U (Z3 (vI (a3 + 1)) U U (Z2 (c7 _ _ ⟨(a3 + 1), c5, a9, Z4, hS, (by omega), b0, b6, b9, U⟩)))))))
 intro c2
 obtain ⟨c3, a4⟩ | ⟨c3, a4⟩ := ic a4
 refine Z8 (bT c3 U) (Z1 (Z0 (Z5 (Value.int .u8 20) U U (Z2 (Z1 (Z0 (Z3 s0 (by exact a7) U (Z3 (vI a3) U U ?_))))))))
 obtain ⟨_, _, _, _, _, c9, d0, rfl, d1⟩ := b0.elem (i := a3) (by omega) (by omega)
 refine X6 T1 U U c9 U (by omega) (by omega) U (Y1 (vI (rd a0 a3)) ty2 U (hS.froz _ _ d0) (d1 0 (show 0 < 1 by decide)) U (Zd4 (((rd a0 a3)).tmod 2) U U (by decide) U U (Zb2 (k := .i64) (a := (((rd a0 a3)).tmod 2)) (b := 1) U U U (Z2 ?_))))
 obtain ⟨c4, a4⟩ | ⟨c4, a4⟩ := ic a4
 refine Z8 (bT c4 U) (Z0 (Z5 (Value.int .u8 1) U U (Z2 (c2 _ _ ⟨1, b3, a4, Z4, hS, b0, a7, U, U, a8, a5⟩))))
 refine Z6 (bF c4 U) (Y6 (c2 _ _ ⟨20, b3, a4, Z4, hS, b0, a7, U, U, a8, a5⟩))
 refine Z6 (bF c3 U) (Y6 (c2 _ _ ⟨0, b3, a4, Z4, hS, b0, a7, U, U, a8, a5⟩))
 refine Z6 (bF b5 U) (W2 U ?_)
 cases a4
 exact c8 _ _ ⟨b3, U, Z4, hS⟩
 exact ⟨0, H, a4, Z4, hS, (by omega), b0, U, U, U⟩
 rintro _ _ ⟨_, rfl, Z4, hS⟩
 dsimp only [Ex.elim] at b2
 refine Z1 (Z0 (Z5 (vB true) U U (Z2 (Y9 (vs := [vB true]) func211 Ut ?_))))
 cases b2
 exact ⟨_, _, U, Z4, (St.dA hS), U⟩
def N6 (K : Nat) (a0 a1 : A8) : Nat → Int → Option (Ex Bool Unit)
 | 0, _ => none
 | k + 1, a3 => (if a3 < 8 then (if (Y5 a0 a3) = (Y5 a1 a3) then N6 K a0 a1 k (a3 + 1) else some (.ret false)) else some (.go ()))
def Zm4 (K : Nat) (a0 a1 : A8) : Option Bool := ((N6 K a0 a1 K 0).bind (Ex.elim (fun r => some r) (fun s => some true)))
theorem Yt7 {a0 a1 : A8} {r : Bool} (q0 : Zm4 K a0 a1 = some r) (hS : St H w L) :
 Calls prog 239 #[vA (Z7 .u8 a0), vA (Z7 .u8 a1)] w (T4 (fun v G => R.bool.p G v r) H L) := by
 have Z4 := Sub.refl H
 refine X0 func239 U ntmps239 U ?_
 unfold Zm4 at q0
 refine Z1 (Z0 (T8 (v := vA (Z7 .u8 a0)) (Z7 .u8 a0).toArray U U hS U (fun b1 _ hS => T8 (v := vA (Z7 .u8 a1)) (Z7 .u8 a1).toArray U U hS U (fun b4 _ hS => Z5 (vB false) U U (Z2 (Z1 (Z1 (Z0 (Z5 (vI 0) U U (Z2 (Y8 ?_)))))))))))
 obtain ⟨b2, a4, a8⟩ := bSm q0
 refine W3 (id := 0) (fun k f w => ∃ a3 H1, N6 K a0 a1 k a3 = some b2 ∧ Sub H H1 ∧ St H1 w ([(b4, cA (Z7 .u8 a1) 72)] ++ ([(b1, cA (Z7 .u8 a0) 72)] ++ L)) ∧ 0 ≤ a3 ∧ tv f 2 = vP b1 ∧ tv f 3 = vP b4 ∧ tv f 5 = vI a3) (fun f w => ∃ H1, b2 = .go () ∧ Sub H H1 ∧ St H1 w ([(b4, cA (Z7 .u8 a1) 72)] ++ ([(b1, cA (Z7 .u8 a0) 72)] ++ L))) U ?_ ?_ K ?_ ?_
 rintro f w ⟨a3, H1, a4, _⟩
 rw [N6] at a4; cases a4
 rintro k _ _ c0 c1 ⟨a3, b7, a4, Z4, hS, _, a6, a7, a5⟩
 rw [N6] at a4
 refine Z1 (Z1 (Z0 (Z3 (vI a3) (by exact a5) U (V4 (k := .i64) (a := a3) (b := 8) U U U (Z2 ?_)))))
 obtain ⟨b3, a4⟩ | ⟨b3, a4⟩ := ic a4
 refine Z8 (bT b3 U) (Y6 (Z1 (Y8 (Z1 (W6 7 (S8 [mE 10 (vI a3), mE 11 (vQ b1 (0 + (a3).toNat * 1)), mE 12 (Value.int .u8 (Y5 a0 a3)), mE 13 (vI a3), mE 14 (vQ b4 (0 + (a3).toNat * 1)), mE 15 (Value.int .u8 (Y5 a1 a3)), mE 16 (vB (!decide ((Y5 a0 a3) = (Y5 a1 a3))))]) [] mixed U U U hS (K3 (X4 fun S B => Z3 (vI a3) (evT (B 5 U) a5) U (qz S)) (K6 fun S B V => U3 Zh5 (evT (B 2 U) a6) (eM (V 0 10 U U)) (by omega) (by omega) U (qz S)) (Y7 fun S V => Y1 (Value.int .u8 (Y5 a0 a3)) ty5 (eM (V 1 11 U U)) (S.get (o := cA (Z7 .u8 a0) 72) (mR (mR mL))) (I1 [] [] (by omega) (by omega)) U (qz S)) (X4 fun S B => Z3 (vI a3) (evT (B 5 U) a5) U (qz S)) (L7 (K6 fun S B V => U3 Zh5 (evT (B 3 U) a7) (eM (V 3 13 U U)) (by omega) (by omega) U (qz S)) (Y7 fun S V => Y1 (Value.int .u8 (Y5 a1 a3)) ty5 (eM (V 4 14 U U)) (S.get (o := cA (Z7 .u8 a1) 72) (mR mL)) (I1 [] [] (by omega) (by omega)) U (qz S)) (I2 (Y7 fun S V => L1 (k := .u8) (a := (Y5 a0 a3)) (b := (Y5 a1 a3)) (eM (V 2 12 U U)) (eM (V 5 15 U U)) U (qz S)) W9))) ?_)))))
 intro c2 c3 b5 b8 hS a9 b9 hcq
 have hS : St b5 c3 ([(b4, cA (Z7 .u8 a1) 72)] ++ _) := hS
 have Z4 := Z4.trans b8
 have b6 : tv c2 16 = vB (!decide ((Y5 a0 a3) = (Y5 a1 a3))) := b9 6 16 (by decide) U
 refine Z2 ?_
 obtain ⟨b0, a4⟩ | ⟨b0, a4⟩ := ic a4
 refine Z6 (bN b0 (by exact b6)) (Y6 (X1 (Z0 (Z3 (vI a3) (by exact (evT (a9 5 U) a5)) U (W4 (a3 + 1) U U (i64_in _ (by omega)) U (Z5 (vI (a3 + 1)) U U (Z2 (c0 _ _ ⟨(a3 + 1), b5, a4, Z4, hS, (by omega), (evT (a9 2 U) a6), (evT (a9 3 U) a7), U⟩))))))))
 refine Z8 (bO b0 (by exact b6)) (Z1 (Z0 (Z5 (vB false) U U (Z2 (Y9 (vs := [vB false]) func239 Ut ?_)))))
 cases a4
 dsimp only [Ex.elim] at a8
 cases a8
 exact ⟨_, _, U, Z4, (St.dA (St.dA hS)), U⟩
 refine Z6 (bF b3 U) (W2 U ?_)
 cases a4
 exact c1 _ _ ⟨b7, U, Z4, hS⟩
 exact ⟨0, H, a4, Z4, hS, (by omega), U, U, U⟩
 rintro _ _ ⟨_, rfl, Z4, hS⟩
 dsimp only [Ex.elim] at a8
 refine Z1 (Z0 (Z5 (vB true) U U (Z2 (Y9 (vs := [vB true]) func239 Ut ?_))))
 cases a8
 exact ⟨_, _, U, Z4, (St.dA (St.dA hS)), U⟩
def Zm5 (K : Nat) (c3 : Int → Int → Int → Option (Ex Int Int)) (a1 a3 a6 : Int) : Option (Ex Int Int) := c3 (((i64.wrap (a1 * a1))).tmod 10007) a6 (i64.wrap ((a3).tdiv 2))
def L4 (K : Nat) : Nat → Int → Int → Int → Option (Ex Int Int)
 | 0, _, _, _ => none
 | k + 1, a1, a4, a3 => (if 0 < a3 then (if ((a3).tmod 2) = 1 then Zm5 K (L4 K k) a1 a3 (((i64.wrap (a4 * a1))).tmod 10007) else Zm5 K (L4 K k) a1 a3 a4) else some (.go a4))
def Zu1 (K : Nat) (a0 : Int) : Option Int := ((L4 K K a0 1 10005).bind (Ex.elim (fun r => some r) (fun s => (fun (a7 : Int) => some a7) s)))
theorem Xb8 {a0 r : Int} (q0 : Zu1 K a0 = some r) (hS : St H w L) :
 Calls prog 234 #[vI a0] w (T4 (fun v G => (R.int .i64).p G v r) H L) := by
 have Z4 := Sub.refl H
 refine X0 func234 U ntmps234 U ?_
 unfold Zu1 at q0
 refine Z1 (Z0 (Z5 (vI 0) U U (Z2 (Z1 (Z0 (Z5 (vI 1) U U (Z2 (Z1 (Z1 (Z0 (Z5 (vI 10005) U U (Z2 (Y8 ?_)))))))))))))
 obtain ⟨b2, a5, b6⟩ := bSm q0
 refine W3 (id := 0) (fun k f w => ∃ a1 a4 a3 H1, L4 K k a1 a4 a3 = some b2 ∧ Sub H H1 ∧ St H1 w L ∧ tv f 0 = vI a1 ∧ tv f 3 = vI a4 ∧ tv f 4 = vI a3) (fun f w => ∃ a7 H1, b2 = .go a7 ∧ Sub H H1 ∧ St H1 w L ∧ tv f 3 = vI a7) U ?_ ?_ K ?_ ?_
 rintro f w ⟨a1, a4, a3, H1, a5, _⟩
 rw [L4] at a5; cases a5
 rintro k _ _ c4 c5 ⟨a1, a4, a3, b3, a5, Z4, hS, a9, b0, a8⟩
 rw [L4] at a5
 refine Z1 (Z1 (Z0 (Z3 (vI a3) (by exact a8) U (A0 (k := .i64) (a := a3) (b := 0) U U U (Z2 ?_)))))
 obtain ⟨b7, a5⟩ | ⟨b7, a5⟩ := ic a5
 refine Z8 (bT b7 U) (Y6 (Z1 (Y8 (Z1 (Z1 (Z0 (Z3 (vI a3) (by exact a8) U (Zd4 ((a3).tmod 2) U U (by decide) U U (Zb2 (k := .i64) (a := ((a3).tmod 2)) (b := 1) U U U (Z2 (N1 (fun f w => ∃ a6 H1, Zm5 K (L4 K k) a1 a3 a6 = some b2 ∧ Sub H H1 ∧ St H1 w L ∧ tv f 0 = vI a1 ∧ tv f 3 = vI a6 ∧ tv f 4 = vI a3) ?_ ?_)))))))))))
 rintro _ _ ⟨a6, c1, b4, Z4, hS, b1, b8, b9⟩
 unfold Zm5 at b4
 refine Z0 (Z3 (vI a1) (by exact b1) U (Z3 (vI a1) (by exact b1) U (Zi4 (i64.wrap (a1 * a1)) U U U U (Zd4 (((i64.wrap (a1 * a1))).tmod 10007) U U (by decide) U U (Z5 (vI (((i64.wrap (a1 * a1))).tmod 10007)) U U (Z2 (X1 (Z0 (Z3 (vI a3) (by exact b9) U (Xt1 (i64.wrap ((a3).tdiv 2)) U U (by decide) U U (Z5 (vI (i64.wrap ((a3).tdiv 2))) U U (Z2 (c4 _ _ ⟨(((i64.wrap (a1 * a1))).tmod 10007), a6, (i64.wrap ((a3).tdiv 2)), c1, b4, Z4, hS, U, b8, U⟩)))))))))))))
 intro c2
 obtain ⟨c0, a5⟩ | ⟨c0, a5⟩ := ic a5
 refine Z8 (bT c0 U) (Z0 (Z3 (vI a4) (by exact b0) U (Z3 (vI a1) (by exact a9) U (Zi4 (i64.wrap (a4 * a1)) U U U U (Zd4 (((i64.wrap (a4 * a1))).tmod 10007) U U (by decide) U U (Z5 (vI (((i64.wrap (a4 * a1))).tmod 10007)) U U (Z2 (c2 _ _ ⟨(((i64.wrap (a4 * a1))).tmod 10007), b3, a5, Z4, hS, a9, U, a8⟩))))))))
 refine Z6 (bF c0 U) (Y6 (c2 _ _ ⟨a4, b3, a5, Z4, hS, a9, b0, a8⟩))
 refine Z6 (bF b7 U) (W2 U ?_)
 cases a5
 exact c5 _ _ ⟨a4, b3, U, Z4, hS, b0⟩
 exact ⟨a0, 1, 10005, H, a5, Z4, hS, U, U, U⟩
 rintro _ _ ⟨a7, _, rfl, Z4, hS, b5⟩
 dsimp only [Ex.elim] at b6
 refine Z1 (Z0 (Z3 (vI a7) (by exact b5) U (Z5 (vI a7) U U (Z2 (Y9 (vs := [vI a7]) func234 Ut ?_)))))
 cases b6
 exact ⟨_, _, U, Z4, hS, U⟩
def Zb3 (K : Nat) (a0 : List Int) : Nat → Int → Option (Ex Int Unit)
 | 0, _ => none
 | k + 1, a1 => (if a1 < (a0.length : Int) then (if (rd a0 a1) = 0 then Zb3 K a0 k (a1 + 1) else some (.ret a1)) else some (.go ()))
def D4 (K : Nat) (a0 : List Int) : Option Int := ((Zb3 K a0 K 0).bind (Ex.elim (fun r => some r) (fun s => some (-1))))
theorem Zk2 {a0 : List Int} {r : Int} (q0 : D4 K a0 = some r) (a6 : Y3 (Y4 .i64) H s0 a0) (hS : St H w L) :
 Calls prog 148 #[s0] w (T4 (fun v G => (R.int .i64).p G v r) H L) := by
 have Z4 := Sub.refl H
 refine X0 func148 U ntmps148 U ?_
 unfold D4 at q0
 refine Z1 (Z0 (Z5 (vI 0) U U (Z2 (Z1 (Z1 (Z0 (Z5 (vI 0) U U (Z2 (Y8 ?_)))))))))
 obtain ⟨a8, a3, a7⟩ := bSm q0
 refine W3 (id := 0) (fun k f w => ∃ a1 H1, Zb3 K a0 k a1 = some a8 ∧ Sub H H1 ∧ St H1 w L ∧ 0 ≤ a1 ∧ Y3 (Y4 .i64) H1 s0 a0 ∧ tv f 0 = s0 ∧ tv f 3 = vI a1) (fun f w => ∃ H1, a8 = .go () ∧ Sub H H1 ∧ St H1 w L) U ?_ ?_ K ?_ ?_
 rintro f w ⟨a1, H1, a3, _⟩
 rw [Zb3] at a3; cases a3
 rintro k _ _ b2 b3 ⟨a1, a9, a3, Z4, hS, _, a6, a5, a4⟩
 rw [Zb3] at a3
 refine Z1 (Z1 (Z0 (Z3 (vI a1) (by exact a4) U (Z3 s0 (by exact a5) U ?_))))
 have b7 := a6.bound
 refine X9 T1 U a6 U (V4 (k := .i64) (a := a1) (b := (a0.length : Int)) U U U (Z2 ?_))
 obtain ⟨b0, a3⟩ | ⟨b0, a3⟩ := ic a3
 refine Z8 (bT b0 U) (Y6 (Z1 (Y8 (Z1 (Z0 (Z3 s0 (by exact a5) U (Z3 (vI a1) (by exact a4) U ?_)))))))
 obtain ⟨_, _, _, _, _, b4, b5, rfl, b6⟩ := a6.elem (i := a1) (by omega) (by omega)
 refine X6 T1 U U b4 U (by omega) (by omega) U (Y1 (vI (rd a0 a1)) ty2 U (hS.froz _ _ b5) (b6 0 (show 0 < 1 by decide)) U (L1 (k := .i64) (a := (rd a0 a1)) (b := 0) U U U (Z2 ?_)))
 obtain ⟨b1, a3⟩ | ⟨b1, a3⟩ := ic a3
 refine Z6 (bN b1 U) (Y6 (X1 (Z0 (Z3 (vI a1) (by exact a4) U (W4 (a1 + 1) U U (i64_in _ (by omega)) U (Z5 (vI (a1 + 1)) U U (Z2 (b2 _ _ ⟨(a1 + 1), a9, a3, Z4, hS, (by omega), a6, a5, U⟩))))))))
 refine Z8 (bO b1 U) (Z1 (Z0 (Z3 (vI a1) (by exact a4) U (Z5 (vI a1) U U (Z2 (Y9 (vs := [vI a1]) func148 Ut ?_))))))
 cases a3
 dsimp only [Ex.elim] at a7
 cases a7
 exact ⟨_, _, U, Z4, hS, U⟩
 refine Z6 (bF b0 U) (W2 U ?_)
 cases a3
 exact b3 _ _ ⟨a9, U, Z4, hS⟩
 exact ⟨0, H, a3, Z4, hS, (by omega), a6, U, U⟩
 rintro _ _ ⟨_, rfl, Z4, hS⟩
 dsimp only [Ex.elim] at a7
 refine Z1 (Z0 (Z5 (vI (-1)) U U (Z2 (Y9 (vs := [vI (-1)]) func148 Ut ?_))))
 cases a7
 exact ⟨_, _, U, Z4, hS, U⟩
def Zq2 (K : Nat) (a0 a1 a2 : Int) : Option Bool := (if a1 ≤ a0 then some (decide (a0 ≤ a2)) else some false)
theorem Yn5 {a0 a1 a2 : Int} {r : Bool} (q0 : Zq2 K a0 a1 a2 = some r) (hS : St H w L) :
 Calls prog 81 #[vI a0, vI a1, vI a2] w (T4 (fun v G => R.bool.p G v r) H L) := by
 have Z4 := Sub.refl H
 refine X0 func81 U ntmps81 U ?_
 unfold Zq2 at q0
 refine Z1 (Z0 (Z5 (vB false) U U (Z2 (Z1 (Z0 (Z3 (vI a0) U U (Z3 (vI a1) U U (Ya4 (k := .i64) (a := a0) (b := a1) U U U (Z3 (vB (decide (a1 ≤ a0))) U U ?_)))))))))
 obtain ⟨a3, q0⟩ | ⟨a3, q0⟩ := ic q0
 refine Y0 U U (bT a3 U) (Z3 (vI a0) U U (Y0 U U (bT a3 U) (Z3 (vI a2) U U (Y0 U U (bT a3 U) (Yj8 (k := .i64) (a := a0) (b := a2) U U U (W5 (t := true) (vB (decide (a0 ≤ a2))) (bT a3 U) ((if_pos U).trans U) U (Z5 (vB (decide (a0 ≤ a2))) U U (Z2 (Y9 (vs := [vB (decide (a0 ≤ a2))]) func81 Ut ?_)))))))))
 cases q0
 exact ⟨_, _, U, Z4, hS, U⟩
 refine Z9 U U (bF a3 U) U U U (Z9 U U (bF a3 U) U U U (Z9 U U (bF a3 U) U U U (W5 (t := false) (vB false) (bF a3 U) ((if_neg Bool.false_ne_true).trans U) U (Z5 (vB false) U U (Z2 (Y9 (vs := [vB false]) func81 Ut ?_))))))
 cases q0
 exact ⟨_, _, U, Z4, hS, U⟩
def Zp3 (K : Nat) (a0 : Int) : Option Int := some (((i64.wrap (((a0).tmod 10007) + 10007))).tmod 10007)
theorem Ye6 {a0 r : Int} (q0 : Zp3 K a0 = some r) (hS : St H w L) :
 Calls prog 206 #[vI a0] w (T4 (fun v G => (R.int .i64).p G v r) H L) := by
 have Z4 := Sub.refl H
 refine X0 func206 U ntmps206 U ?_
 unfold Zp3 at q0
 refine Z1 (Z0 (Z5 (vI 0) U U (Z2 (Z1 (Z0 (Z3 (vI a0) U U (Zd4 ((a0).tmod 10007) U U (by decide) U U (W4 (i64.wrap (((a0).tmod 10007) + 10007)) U U U U (Zd4 (((i64.wrap (((a0).tmod 10007) + 10007))).tmod 10007) U U (by decide) U U (Z5 (vI (((i64.wrap (((a0).tmod 10007) + 10007))).tmod 10007)) U U (Z2 (Y9 (vs := [vI (((i64.wrap (((a0).tmod 10007) + 10007))).tmod 10007)]) func206 Ut ?_))))))))))))
 cases q0
 exact ⟨_, _, U, Z4, hS, U⟩
end Go.Proofs.YtabofnehiclkiaaGreat
