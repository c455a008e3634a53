/- Walks of functions: each computes its pure function, if that gives a value. -/
import Derived.Test.YtabofnehiclkiaaGreatQTy
namespace Go.Proofs.YtabofnehiclkiaaGreat
open Go Go.Proofs.Tryz
set_option linter.unusedSimpArgs false
set_option linter.unusedVariables false
set_option maxRecDepth 100000
set_option maxHeartbeats 8000000
variable {K : Nat} {H : FH} {w : World} {L : OL} {s0 s1 s2 s3 s4 s5 s6 : Value}
def Zs9 (n left : Int) : Int := if n.tmod 2 = 1 then (if 1 < (if 20 < left.tdiv n then 20 else left.tdiv n) then 1 else (if 20 < left.tdiv n then 20 else left.tdiv n)) else (if 20 < left.tdiv n then 20 else left.tdiv n)
def lsF (ds : List Int) (most : Int) : Nat → A8 → Int → List A8 → List A8
  | 0, p, left, out => if most < (out.length : Int) then out else if left = 0 then out ++ [p] else out
  | g + 1, p, left, out => if most < (out.length : Int) then out else
      ((List.range ((Zs9 (rd ds ((ds.length - (g + 1) : Nat) : Int)) left).toNat + 1)).reverse).foldl (fun o (e : Nat) => lsF ds most g (U9 p ((ds.length - (g + 1) : Nat) : Int) (e : Int)) (left - (e : Int) * rd ds ((ds.length - (g + 1) : Nat) : Int)) o) out
theorem Xv0 {most : Int} {f : List A8 → Nat → List A8} (h : ∀ o e, (o.length : Int) ≤ most + 1 → ((f o e).length : Int) ≤ most + 1) : ∀ (es : List Nat) (o : List A8), (o.length : Int) ≤ most + 1 → ((es.foldl f o).length : Int) ≤ most + 1
  | [], _, ho => ho
  | e :: es, o, ho => Xv0 h es (f o e) (h o e ho)
theorem We7 (ds : List Int) (most : Int) : ∀ (g : Nat) (p : A8) (left : Int) (out : List A8), (out.length : Int) ≤ most + 1 → ((lsF ds most g p left out).length : Int) ≤ most + 1
  | 0, p, left, out, h => by
    unfold lsF
    split
    · exact h
    · split
      · rw [List.length_append]; simp; omega
      · exact h
  | g + 1, p, left, out, h => by
    rw [lsF]
    split
    · exact h
    · exact Xv0 (fun o e ho => We7 ds most g _ _ o ho) _ _ h
theorem Xk3 (p : A8) (i x y : Int) : U9 (U9 p i x) i y = U9 p i y := by
  funext j
  unfold U9
  split <;> rfl
theorem Vg9 {n left : Int} (hn : 1 ≤ n ∧ n ≤ 12) (hl : 0 ≤ left ∧ left ≤ 1000) : 0 ≤ Zs9 n left ∧ Zs9 n left ≤ 20 ∧ Zs9 n left * n ≤ left := by
  have h1 : left.tdiv n * n ≤ left := by rw [Int.tdiv_eq_ediv_of_nonneg hl.1]; exact Int.ediv_mul_le left (by omega)
  have h0 : 0 ≤ left.tdiv n := Int.tdiv_nonneg hl.1 (by omega)
  have key : ∀ x : Int, 0 ≤ x → x ≤ left.tdiv n → x * n ≤ left := fun x hx hx' => Int.le_trans (Int.mul_le_mul_of_nonneg_right hx' (by omega)) h1
  unfold Zs9
  obtain ⟨q, hq⟩ : ∃ q, q = left.tdiv n := ⟨_, rfl⟩
  rw [← hq] at h0 h1 key ⊢
  clear hq
  by_cases hp : n.tmod 2 = 1
  · rw [if_pos hp]
    by_cases h20 : 20 < q
    · rw [if_pos h20, if_pos (by decide)]; exact ⟨by omega, by omega, key _ (by omega) (by omega)⟩
    · rw [if_neg h20]
      by_cases h3 : 1 < q
      · rw [if_pos h3]; exact ⟨by omega, by omega, key _ (by omega) (by omega)⟩
      · rw [if_neg h3]; exact ⟨h0, by omega, h1⟩
  · rw [if_neg hp]
    by_cases h20 : 20 < q
    · rw [if_pos h20]; exact ⟨by omega, by omega, key _ (by omega) (by omega)⟩
    · rw [if_neg h20]; exact ⟨h0, by omega, h1⟩
theorem Xl0 {P : Program} {n : Nat} {g : FuncId} {R : Ending → World → Prop} {K : List Item} {f : Fr} {w : World} (h : ∀ f', f' = f → Run P n g R K f' w) : Run P n g R K f w := h f rfl
theorem Wo4 {ds : List Int} {most : Int} (hds : ∀ n, n ∈ ds → 1 ≤ n ∧ n ≤ 12) (hd8 : ds.length ≤ 8) (hmo : 0 ≤ most ∧ most ≤ 1073741824) : ∀ (g : Nat), g ≤ ds.length → ∀ {H : FH} {w : World} {L Co : OL} {vd vo : Value} {bl : Nat} {p : A8} {left : Int} {out : List A8} (hl : 0 ≤ left ∧ left ≤ 1000)
    (hd : Y3 (Y4 .i64) H vd ds) (ho : X8 (P0 .i64) 222 H vo out Co) (hlen : (out.length : Int) ≤ most + 1) (hS : St H w ([(bl, .cells #[vd, vI most, vo] 298)] ++ (Co ++ L))),
    Calls prog 272 #[vP bl, vI ((ds.length - g : Nat) : Int), .agg (Z6 .i64 p).toArray, vI left] w (fun e w' => ∃ H' vo' Co', e = .returned (.tuple #[]) ∧ Sub H H' ∧ St H' w' ([(bl, .cells #[vd, vI most, vo'] 298)] ++ (Co' ++ L)) ∧ X8 (P0 .i64) 222 H' vo' (lsF ds most g p left out) Co') := by
  intro g
  induction g with
  | zero =>
    intro hg H w L Co vd vo bl p left out hl hd ho hlen hS
    refine X0 func272 rfl ntmps272 rfl ?_
    repeat refine Z1 ?_
    refine Z0 ?_
    refine T5 (v := .agg (Z6 .i64 p).toArray) (Z6 .i64 p).toArray rfl rfl hS rfl ?_
    intro bp w1 hS
    refine Z2 ?_
    repeat refine Z1 ?_
    refine W6 10 (S8 [mE 11 (vP bl), mE 12 (vP bl), mE 13 (vQ bl 2), mE 14 vo, mE 15 (vI out.length), mE 16 (vP bl), mE 17 (vP bl), mE 18 (vQ bl 1), mE 19 (vI most), mE 20 (vB (decide (most < (out.length : Int))))]) [] mixed rfl rfl rfl hS (V6 ?_ ?_ ?_ ?_ ?_ ?_ ?_ ?_ (J3 ?_ ?_ V1)) ?_
    · exact X4 fun S B => Z3 _ (evT (B 0 rfl) rfl) rfl (qz S)
    · exact Y8 fun S V => V4 (eM (V 0 11 rfl rfl)) rfl (qz S)
    · exact Y8 fun S V => Y2 Yf1 (eM (V 1 12 rfl rfl)) rfl (qz S)
    · exact Y8 fun S V => Y0 vo Xl4 (eM (V 2 13 rfl rfl)) (S.get (mR (mR mL))) rfl rfl (qz S)
    · exact Q9 fun s S V => Yf0 Yb1 (eM (V 3 14 rfl rfl)) (ho.mono s) rfl (qz S)
    · exact X4 fun S B => Z3 _ (evT (B 0 rfl) rfl) rfl (qz S)
    · exact Y8 fun S V => V4 (eM (V 5 16 rfl rfl)) rfl (qz S)
    · exact Y8 fun S V => Y2 Xv3 (eM (V 6 17 rfl rfl)) rfl (qz S)
    · exact Y8 fun S V => Y0 (vI most) ty3 (eM (V 7 18 rfl rfl)) (S.get (mR (mR mL))) rfl rfl (qz S)
    · exact Y8 fun S V => Zb1 (k := .i64) (a := (out.length : Int)) (b := most) (eM (V 4 15 rfl rfl)) (eM (V 8 19 rfl rfl)) rfl (qz S)
    intro f2 w2 H2 s2 hS hB hV _
    have hS : St H2 w2 ([(bp, .cells (Z6 .i64 p).toArray 222)] ++ ([(bl, .cells #[vd, vI most, vo] 298)] ++ (Co ++ L))) := hS
    refine Z2 ?_
    repeat refine Z1 ?_
    unfold lsF
    by_cases hm : most < (out.length : Int)
    · refine Z8 (bT hm (eM (hV 9 20 (by decide) rfl))) ?_
      rw [if_pos hm]
      exact Y9 (vs := []) func272 trivial ⟨H2, vo, Co, rfl, s2, hS.dropA, ho.mono s2⟩
    rw [if_neg hm]
    refine Z7 (bF hm (eM (hV 9 20 (by decide) rfl))) (Y6 ?_)
    repeat refine Z1 ?_
    refine Z0 (Z3 (vI ((ds.length - 0 : Nat) : Int)) (evT (hB 1 rfl) rfl) rfl (Z3 (vP bl) (evT (hB 0 rfl) rfl) rfl (V4 rfl rfl (Y2 Xd6 rfl rfl ?_))))
    refine Y0 vd P3 rfl (hS.get (mR mL)) rfl rfl ?_
    refine X9 U5 rfl (hd.mono s2) rfl ?_
    refine A9 (k := .i64) (a := ((ds.length - 0 : Nat) : Int)) (b := (ds.length : Int)) rfl rfl rfl (Z2 ?_)
    repeat refine Z1 ?_
    refine Z8 (bT (by omega) rfl) ?_
    repeat refine Z1 ?_
    refine Z0 (Z3 (vI left) (evT (hB 3 rfl) rfl) rfl ?_)
    refine A9 (k := .i64) (a := left) (b := 0) rfl rfl rfl (Z2 ?_)
    repeat refine Z1 ?_
    by_cases h0 : left = 0
    case neg =>
      refine Z7 (bF h0 rfl) (Y6 ?_)
      rw [if_neg h0]
      exact Y9 (vs := []) func272 trivial ⟨H2, vo, Co, rfl, s2, hS.dropA, ho.mono s2⟩
    refine Z8 (bT h0 rfl) ?_
    rw [if_pos h0]
    repeat refine Z1 ?_
    refine Xl0 fun f3 hf3 => ?_
    have t0 : tv f3 0 = vP bl := by rw [hf3]; exact (evT (hB 0 rfl) rfl)
    have t6 : tv f3 6 = vP bp := by rw [hf3]; exact (evT (hB 6 rfl) rfl)
    clear hf3 hB hV
    have hsw : St H2 w2 (Co ++ ([(bp, .cells (Z6 .i64 p).toArray 222)] ++ ([(bl, .cells #[vd, vI most, vo] 298)] ++ L))) := hS.perm (Zb0 (A1 := [(bp, .cells (Z6 .i64 p).toArray 222)]) (A2 := [(bl, .cells #[vd, vI most, vo] 298)]))
    refine Wz4 7 (S8 [mE 30 (vP bl), mE 31 (vP bl), mE 32 (vP bl), mE 33 (vQ bl 2), mE 34 vo, mE 35 (vA (Z6 .i64 p)), (36, MP.sl (P0 .i64) [p])]) (fun G w v => ∃ C', St G w (C' ++ ([(bp, .cells (Z6 .i64 p).toArray 222)] ++ ([(bl, .cells #[vd, vI most, vo] 298)] ++ L))) ∧ X8 (P0 .i64) 222 G v (out ++ [p]) C') mixed
      (Xs5 (by intro p hp v; simp only [List.mem_cons, List.not_mem_nil, or_false] at hp; rcases hp with rfl | rfl | rfl | rfl | rfl | rfl | rfl <;> rfl)) rfl rfl (j0 := 0) rfl rfl rfl rfl rfl rfl rfl (fun _ _ => t0) hsw
      (U1 rfl ?_ (U1 rfl ?_ (U1 rfl ?_ (U1 rfl ?_ (U1 rfl ?_ (U1 rfl ?_ (U1 rfl ?_ V1))))))) ?_ ?_
    · exact X4 fun S B => Z3 _ (evT (B 0 rfl) t0) rfl (qz S)
    · exact X4 fun S B => Z3 _ (evT (B 0 rfl) t0) rfl (qz S)
    · exact Y8 fun S V => V4 (eM (V 1 31 rfl rfl)) rfl (qz S)
    · exact Y8 fun S V => Y2 Yf1 (eM (V 2 32 rfl rfl)) rfl (qz S)
    · exact Y8 fun S V => Y0 vo Xl4 (eM (V 3 33 rfl rfl)) (S.get (mR (mR (mR mL)))) rfl rfl (qz S)
    · exact X4 fun S B => W1 Q6 (evT (B 6 rfl) t6) (S.get (mR (mR mL))) rfl rfl (qz S)
    · intro f w G X s S B V _
      refine Zb9 (τ := (P0 .i64)) Yb1 Zl5 rfl [vA (Z6 .i64 p)] [p] rfl rfl (E8 (eM (V 5 35 rfl rfl))) (Zl4 rfl) (by decide) (by decide) S rfl ?_
      intro u G2 w2 s2 S hl
      exact qn s2 rfl S hl
    · intro f w G s S B V
      have hg : (MP.sl (P0 .i64) [p]).p G (f 36) := V 6 36 (by decide) (by decide) rfl
      refine N5 (τ := P0 .i64) Vg2 rfl (eM (V 4 34 (by decide) (by decide) rfl)) (show ev f (.tmp 36) = f 36 from rfl) ((ho.mono s2).mono s) S hg (by simp; omega) rfl ?_
      intro v' w' C' ho' S'
      exact Z2 ⟨v', G, rfl, .refl _, C', S', ho'⟩
    rintro f4 w4 H4 s4 ⟨C', hS, ho'⟩ hB hV
    refine V4 (eM (hV 0 30 (by decide) rfl)) rfl (Y2 Yf1 rfl rfl ?_)
    have hS : St H4 w4 ([(bl, .cells #[vd, vI most, vo] 298)] ++ (C' ++ ([(bp, .cells (Z6 .i64 p).toArray 222)] ++ L))) := hS.perm (Zb0 (A1 := C') (A2 := [(bp, .cells (Z6 .i64 p).toArray 222)]))
    refine Zd2 (v := f4 37) (cs := #[vd, vI most, vo]) (cs' := #[vd, vI most, f4 37]) Xl4 rfl rfl hS ho'.isOne rfl (nl rfl) rfl ?_
    intro w5 hS
    refine Z2 ?_
    have hS : St H4 w5 ([(bl, .cells #[vd, vI most, f4 37] 298)] ++ (C' ++ L)) := by
      have h1 : St H4 w5 (([(bl, .cells #[vd, vI most, f4 37] 298)] ++ C') ++ ([(bp, .cells (Z6 .i64 p).toArray 222)] ++ L)) := by rw [List.append_assoc]; exact hS
      have h2 := St.dropMid h1
      rw [List.append_assoc] at h2; exact h2
    exact Y9 (vs := []) func272 trivial ⟨H4, f4 37, C', rfl, s2.trans s4, hS, ho'⟩
  | succ g ih =>
    intro hg H w L Co vd vo bl p left out hl hd ho hlen hS
    rw [lsF]
    have hnd := hds _ (show rd ds ((ds.length - (g + 1) : Nat) : Int) ∈ ds by
      unfold rd
      rw [Int.toNat_natCast, List.getD_eq_getElem?_getD, List.getElem?_eq_getElem (show ds.length - (g + 1) < ds.length by omega)]
      exact List.getElem_mem _)
    have hir : ds.length - (g + 1) + 1 + g = ds.length := by omega
    generalize ds.length - (g + 1) = i at *
    obtain ⟨htop0, htop1, htop2⟩ := Vg9 hnd hl
    have hq0 : 0 ≤ left.tdiv (rd ds (i : Int)) := Int.tdiv_nonneg hl.1 (by omega)
    have hq1 : left.tdiv (rd ds (i : Int)) ≤ left := by rw [Int.tdiv_eq_ediv_of_nonneg hl.1]; exact Int.ediv_le_self _ hl.1
    generalize hnn : rd ds (i : Int) = n at *
    refine X0 func272 rfl ntmps272 rfl ?_
    repeat refine Z1 ?_
    refine Z0 ?_
    refine T5 (v := .agg (Z6 .i64 p).toArray) (Z6 .i64 p).toArray rfl rfl hS rfl ?_
    intro bp w1 hS
    refine Z2 ?_
    repeat refine Z1 ?_
    refine W6 10 (S8 [mE 11 (vP bl), mE 12 (vP bl), mE 13 (vQ bl 2), mE 14 vo, mE 15 (vI out.length), mE 16 (vP bl), mE 17 (vP bl), mE 18 (vQ bl 1), mE 19 (vI most), mE 20 (vB (decide (most < (out.length : Int))))]) [] mixed rfl rfl rfl hS (V6 ?_ ?_ ?_ ?_ ?_ ?_ ?_ ?_ (J3 ?_ ?_ V1)) ?_
    · exact X4 fun S B => Z3 _ (evT (B 0 rfl) rfl) rfl (qz S)
    · exact Y8 fun S V => V4 (eM (V 0 11 rfl rfl)) rfl (qz S)
    · exact Y8 fun S V => Y2 Yf1 (eM (V 1 12 rfl rfl)) rfl (qz S)
    · exact Y8 fun S V => Y0 vo Xl4 (eM (V 2 13 rfl rfl)) (S.get (mR (mR mL))) rfl rfl (qz S)
    · exact Q9 fun s S V => Yf0 Yb1 (eM (V 3 14 rfl rfl)) (ho.mono s) rfl (qz S)
    · exact X4 fun S B => Z3 _ (evT (B 0 rfl) rfl) rfl (qz S)
    · exact Y8 fun S V => V4 (eM (V 5 16 rfl rfl)) rfl (qz S)
    · exact Y8 fun S V => Y2 Xv3 (eM (V 6 17 rfl rfl)) rfl (qz S)
    · exact Y8 fun S V => Y0 (vI most) ty3 (eM (V 7 18 rfl rfl)) (S.get (mR (mR mL))) rfl rfl (qz S)
    · exact Y8 fun S V => Zb1 (k := .i64) (a := (out.length : Int)) (b := most) (eM (V 4 15 rfl rfl)) (eM (V 8 19 rfl rfl)) rfl (qz S)
    intro f2 w2 H2 s2 hS hB hV _
    have hS : St H2 w2 ([(bp, .cells (Z6 .i64 p).toArray 222)] ++ ([(bl, .cells #[vd, vI most, vo] 298)] ++ (Co ++ L))) := hS
    refine Z2 ?_
    repeat refine Z1 ?_
    by_cases hm : most < (out.length : Int)
    · refine Z8 (bT hm (eM (hV 9 20 (by decide) rfl))) ?_
      rw [if_pos hm]
      exact Y9 (vs := []) func272 trivial ⟨H2, vo, Co, rfl, s2, hS.dropA, ho.mono s2⟩
    rw [if_neg hm]
    refine Z7 (bF hm (eM (hV 9 20 (by decide) rfl))) (Y6 ?_)
    repeat refine Z1 ?_
    have hd2 := hd.mono s2
    refine Z0 (Z3 (vI (i : Int)) (evT (hB 1 rfl) rfl) rfl (Z3 (vP bl) (evT (hB 0 rfl) rfl) rfl (V4 rfl rfl (Y2 Xd6 rfl rfl ?_))))
    refine Y0 vd P3 rfl (hS.get (mR mL)) rfl rfl ?_
    refine X9 U5 rfl hd2 rfl ?_
    refine A9 (k := .i64) (a := (i : Int)) (b := (ds.length : Int)) rfl rfl rfl (Z2 ?_)
    repeat refine Z1 ?_
    refine Z7 (bF (by omega) rfl) (Y6 ?_)
    repeat refine Z1 ?_
    refine Z0 (Z3 (vP bl) (evT (hB 0 rfl) rfl) rfl (V4 rfl rfl (Y2 Xd6 rfl rfl ?_)))
    refine Y0 vd P3 rfl (hS.get (mR mL)) rfl rfl (Z3 (vI (i : Int)) (evT (hB 1 rfl) rfl) rfl ?_)
    obtain ⟨b, o, cs, E, _, hp, hb, rfl, hc⟩ := hd2.elem (i := (i : Int)) (by omega) (by omega)
    refine X5 U5 rfl rfl hp rfl (by omega) (by omega) rfl ?_
    refine Y0 (vI n) ty2 rfl (hS.froz _ _ hb) (by have h := hc 0 (show 0 < 1 by decide); rw [hnn] at h; exact h) rfl (Z5 (vI n) rfl rfl (Z2 ?_))
    repeat refine Z1 ?_
    refine Z0 (Z3 (vI left) (evT (hB 3 rfl) rfl) rfl (Z3 (vI n) rfl rfl ?_))
    refine Xr5 (left.tdiv n) rfl rfl (by omega) (IntWalk.i64_in _ (by omega)) rfl ?_
    refine Xr7 rfl rfl rfl (Z5 (vI (if 20 < left.tdiv n then 20 else left.tdiv n)) rfl rfl (Z2 ?_))
    repeat refine Z1 ?_
    refine Z0 (Z3 (vI n) rfl rfl ?_)
    refine Zc2 (n.tmod 2) rfl rfl (by decide) rfl rfl ?_
    refine A9 (k := .i64) (a := n.tmod 2) (b := 1) rfl rfl rfl (Z2 ?_)
    repeat refine Z1 ?_
    refine N3 (fun f w => St H2 w ([(bp, .cells (Z6 .i64 p).toArray 222)] ++ ([(bl, .cells #[vd, vI most, vo] 298)] ++ (Co ++ L))) ∧ tv f 0 = vP bl ∧ tv f 1 = vI (i : Int) ∧ tv f 3 = vI left ∧ tv f 6 = vP bp ∧ tv f 8 = vI n ∧ tv f 9 = vI (Zs9 n left)) ?_ ?_
    · rintro f3 w3 ⟨hS, t0, t1, t3, t6, t8, t9⟩
      repeat refine Z1 ?_
      refine Z0 (Z3 (vI (Zs9 n left)) t9 rfl (Z5 (vI (Zs9 n left)) rfl rfl (Z2 ?_)))
      repeat refine Z1 ?_
      refine Y7 ?_
      refine W0 (id := 0) (fun k f w => ∃ (x : Nat) (H1 : FH) (pc : A8) (vo1 : Value) (Co1 : OL) (out1 : List A8), (x : Int) ≤ Zs9 n left + 1 ∧ x < k ∧ Sub H H1 ∧ St H1 w ([(bp, .cells (Z6 .i64 pc).toArray 222)] ++ ([(bl, .cells #[vd, vI most, vo1] 298)] ++ (Co1 ++ L))) ∧ X8 (P0 .i64) 222 H1 vo1 out1 Co1 ∧ (out1.length : Int) ≤ most + 1 ∧ (∀ e, U9 pc (i : Int) e = U9 p (i : Int) e) ∧
          ((List.range x).reverse).foldl (fun o (e : Nat) => lsF ds most g (U9 p (i : Int) (e : Int)) (left - (e : Int) * n) o) out1 = ((List.range ((Zs9 n left).toNat + 1)).reverse).foldl (fun o (e : Nat) => lsF ds most g (U9 p (i : Int) (e : Int)) (left - (e : Int) * n) o) out ∧ tv f 0 = vP bl ∧ tv f 1 = vI (i : Int) ∧ tv f 3 = vI left ∧ tv f 6 = vP bp ∧ tv f 8 = vI n ∧ tv f 10 = vI ((x : Int) - 1))
        (fun f w => ∃ (H1 : FH) (vo1 : Value) (Co1 : OL), Sub H H1 ∧ St H1 w ([(bl, .cells #[vd, vI most, vo1] 298)] ++ (Co1 ++ L)) ∧ X8 (P0 .i64) 222 H1 vo1 (((List.range ((Zs9 n left).toNat + 1)).reverse).foldl (fun o (e : Nat) => lsF ds most g (U9 p (i : Int) (e : Int)) (left - (e : Int) * n) o) out) Co1) rfl ?_ ?_ ((Zs9 n left).toNat + 2) ?_ ?_
      · rintro f w ⟨x, H1, pc, vo1, Co1, out1, h1, h2, _⟩; omega
      · rintro k f w ihk hx ⟨x, H1, pc, vo1, Co1, out1, h1, h2, Z4, hS, ho, hlen, hpc, hfold, t0, t1, t3, t6, t8, t10⟩
        repeat refine Z1 ?_
        refine Z0 (Z3 (vI ((x : Int) - 1)) (by exact t10) rfl ?_)
        refine Ya6 (k := .i64) (a := (x : Int) - 1) (b := 0) rfl rfl rfl (Z2 ?_)
        repeat refine Z1 ?_
        by_cases hx0 : (0 : Int) ≤ (x : Int) - 1
        case neg =>
          refine Z7 (bF hx0 rfl) (X7 rfl ?_)
          have e : x = 0 := by omega
          subst e
          rw [List.range_zero, List.reverse_nil, List.foldl_nil] at hfold
          exact hx _ _ ⟨H1, vo1, Co1, Z4, hS.dropA, by rw [← hfold]; exact ho⟩
        refine Z8 (bT hx0 rfl) (Y6 ?_)
        obtain ⟨y, rfl⟩ : ∃ y, x = y + 1 := ⟨x - 1, by omega⟩
        have t10 : tv f 10 = vI (y : Int) := by rw [t10]; congr 1; omega
        rw [List.range_succ, List.reverse_append, List.reverse_singleton, List.singleton_append, List.foldl_cons] at hfold
        have hyn : 0 ≤ (y : Int) * n ∧ (y : Int) * n ≤ left := by
          have hy : (y : Int) ≤ Zs9 n left := by omega
          exact ⟨Int.mul_nonneg (by omega) (by omega), Int.le_trans (Int.mul_le_mul_of_nonneg_right hy (by omega)) htop2⟩
        repeat refine Z1 ?_
        refine Y7 ?_
        repeat refine Z1 ?_
        refine Z0 (Z3 (vI (i : Int)) (by exact t1) rfl (Z3 (vI (y : Int)) (by exact t10) rfl ?_))
        refine V5 Zl6 (by exact t6) rfl (by omega) (by omega) rfl ?_
        refine K5 (v := vI (y : Int)) (cs := (Z6 .i64 pc).toArray) (cs' := (Z6 .i64 (U9 pc (i : Int) (y : Int))).toArray) ty3 rfl rfl hS rfl (Zt6 rfl) (by simp [Z6]; omega) (Zh2 (by omega) (by omega)) ?_
        intro w4 hS
        refine Z2 ?_
        repeat refine Z1 ?_
        refine Z0 (Z3 (vP bl) (by exact t0) rfl (Z3 (vI (i : Int)) (by exact t1) rfl ?_))
        refine W2 ((i : Int) + 1) rfl rfl (IntWalk.i64_in _ (by omega)) rfl ?_
        refine W1 Q6 (by exact t6) (hS.get mL) rfl rfl (Z3 (vI left) (by exact t3) rfl (Z3 (vI (y : Int)) (by exact t10) rfl (Z3 (vI n) (by exact t8) rfl ?_)))
        refine Zg6 ((y : Int) * n) rfl rfl (IntWalk.i64_in _ (by omega)) rfl ?_
        refine Zj4 (left - (y : Int) * n) rfl rfl (IntWalk.i64_in _ (by omega)) rfl ?_
        have hS := hS.perm (Zb0 (A1 := [(bl, Obj.cells #[vd, vI most, vo1] 298)]) (A2 := Co1)).symm
        refine T1 call272 (Wx5 rfl (congrArg vI (show (i : Int) + 1 = ((ds.length - g : Nat) : Int) by omega)) rfl rfl) rfl (ih (by omega) (p := U9 pc (i : Int) (y : Int)) (left := left - (y : Int) * n) ⟨by omega, by omega⟩ (hd.mono Z4) ho hlen hS) ?_
        rintro e5 w5 ⟨H5, vo5, Co5, rfl, s5, hS, ho5⟩
        refine ⟨_, rfl, Z2 ?_⟩
        have hS := hS.perm (Zb0 (B := [(bp, Obj.cells (Z6 .i64 (U9 pc (i : Int) (y : Int))).toArray 222)]) (A1 := [(bl, Obj.cells #[vd, vI most, vo5] 298)]) (A2 := Co5))
        refine X1 (Z0 (Z3 (vI (y : Int)) (by exact t10) rfl ?_))
        refine Zj4 ((y : Int) - 1) rfl rfl (IntWalk.i64_in _ (by omega)) rfl (Z5 (vI ((y : Int) - 1)) rfl rfl (Z2 ?_))
        rw [hpc (y : Int)] at ho5
        exact ihk _ _ ⟨y, H5, U9 pc (i : Int) (y : Int), vo5, Co5, _, by omega, by omega, Z4.trans s5, hS, ho5, We7 ds most g _ _ _ hlen, fun e => by rw [Xk3]; exact hpc e, hfold, t0, t1, t3, t6, t8, rfl⟩
      · exact ⟨(Zs9 n left).toNat + 1, H2, p, vo, Co, out, by omega, by omega, s2, hS, ho.mono s2, hlen, fun _ => rfl, rfl, t0, t1, t3, t6, t8, by show vI (Zs9 n left) = vI ((((Zs9 n left).toNat + 1 : Nat) : Int) - 1); congr 1; omega⟩
      · rintro f w ⟨H1, vo1, Co1, Z4, hS, ho⟩
        exact Yo5 (vs := []) func272 trivial ⟨H1, vo1, Co1, rfl, Z4, hS, ho⟩
    intro hJ
    by_cases hodd : n.tmod 2 = 1
    · refine Z8 (bT hodd rfl) ?_
      refine Z0 (Z3 (vI (if 20 < left.tdiv n then 20 else left.tdiv n)) rfl rfl ?_)
      refine Xr7 rfl rfl rfl (Z5 (vI (if 1 < (if 20 < left.tdiv n then 20 else left.tdiv n) then 1 else (if 20 < left.tdiv n then 20 else left.tdiv n))) rfl rfl (Z2 ?_))
      exact hJ _ _ ⟨hS, (evT (hB 0 rfl) rfl), (evT (hB 1 rfl) rfl), (evT (hB 3 rfl) rfl), (evT (hB 6 rfl) rfl), rfl, by unfold Zs9; rw [if_pos hodd]; rfl⟩
    · refine Z7 (bF hodd rfl) (Y6 ?_)
      exact hJ _ _ ⟨hS, (evT (hB 0 rfl) rfl), (evT (hB 1 rfl) rfl), (evT (hB 3 rfl) rfl), (evT (hB 6 rfl) rfl), rfl, by unfold Zs9; rw [if_neg hodd]; rfl⟩
def B4 (K : Nat) (a0 : (List Int)) (a1 : (List A8)) : Nat → Int → MpT → Option (Ex MpT (MpT))
 | 0, _, _ => none
 | k + 1, a3, a4 => (if a3 < (a1.length : Int) then (if a3 < (a0.length : Int) then (if (rd a0 a3) = 0 then B4 K a0 a1 k (a3 + 1) a4 else (if a4.length + ([((rd a1 a3), (rd a0 a3))]).length ≤ 1099511627776 then B4 K a0 a1 k (a3 + 1) (a4 ++ [((rd a1 a3), (rd a0 a3))]) else none)) else none) else some (.go a4))
def Zs5 (K : Nat) (a0 : (List Int)) (a1 : (List A8)) : Option MpT := ((B4 K a0 a1 K 0 ([] : List (A8 × Int))).bind (Ex.elim (fun r => some r) (fun s => (fun (b0 : MpT) => some b0) s)))
theorem Yz6 {a0 : (List Int)} {a1 : (List A8)} {r : MpT} (q0 : Zs5 K a0 a1 = some r) (c2 : Y3 (Y4 .i64) H s0 a0) (b9 : Y3 (P0 .u8) H s1 a1) (hS : St H w L) :
 Calls prog 169 #[s0, s1] w (U6 (fun v G => (R.agg (X2 yT)).p G v r) H L) := by
 have Z4 := Sub.refl H
 refine X0 func169 rfl ntmps169 rfl ?_
 unfold Zs5 at q0
 refine Z1 (Z0 ?_)
 refine U4 (z := vA ([vN])) ([vN]).toArray Zn5.zero rfl hS rfl ?_
 intro b1 _ hS
 refine Z2 (Z1 (Z0 ?_))
 refine B8 (vA ([vN])) Yq3 rfl ?_
 refine U4 (z := vA ([vN])) ([vN]).toArray Zn5.zero rfl hS rfl ?_
 intro b4 _ hS
 refine W4 (v := vA ([vN])) (vs := ([vN]).toArray) (cs := ([vN]).toArray) Q4 rfl rfl rfl hS rfl (Zb5 rfl) rfl ?_
 intro _ hS
 refine Z2 (Z1 (Z1 (Z0 (Z5 (vI 0) rfl rfl (Z2 (Y7 ?_))))))
 have d0 : X8 yT 78 H (.slice none 0 0) [] [] := X8.nil _ _ _
 obtain ⟨d1, a7, d2⟩ := bind_some q0
 refine W0 (id := 0) (fun k f w => ∃ (a3 : Int) (a4 : MpT) (H1 : FH) (a6 : OL) (a5 : Value), B4 K a0 a1 k a3 a4 = some d1 ∧ Sub H H1 ∧ St H1 w (a6 ++ ([(b4, cA ([a5]) 45)] ++ ([(b1, cA ([vN]) 45)] ++ L))) ∧ 0 ≤ a3 ∧ X8 yT 78 H1 a5 a4 a6 ∧ Y3 (Y4 .i64) H1 s0 a0 ∧ Y3 (P0 .u8) H1 s1 a1 ∧ tv f 0 = s0 ∧ tv f 1 = s1 ∧ tv f 4 = vP b1 ∧ tv f 5 = vP b4 ∧ tv f 6 = vI a3) (fun f w => ∃ (b0 : MpT) (H1 : FH) (b3 : OL) (a8 : Value), d1 = .go b0 ∧ Sub H H1 ∧ St H1 w (b3 ++ ([(b4, cA ([a8]) 45)] ++ ([(b1, cA ([vN]) 45)] ++ L))) ∧ X8 yT 78 H1 a8 b0 b3 ∧ tv f 4 = vP b1 ∧ tv f 5 = vP b4) rfl ?_ ?_ K ?_ ?_
 rintro f w ⟨a3, a4, H1, a6, a5, a7, _⟩
 rw [B4] at a7; cases a7
 rintro k _ _ e4 f7 ⟨a3, a4, d3, a6, a5, a7, Z4, hS, _, a9, c2, b9, b6, b7, c1, b8, b2⟩
 rw [B4] at a7
 refine Z1 (Z1 (Z0 (Z3 (vI a3) (by exact b2) rfl (Z3 (s1) (by exact b7) rfl ?_))))
 have g2 := b9.bound
 refine X9 Yc6 rfl b9 rfl ?_
 refine W8 (k := .i64) (a := a3) (b := (a1.length : Int)) rfl rfl rfl (Z2 ?_)
 obtain ⟨d4, a7⟩ | ⟨d4, a7⟩ := ic a7
 refine Z8 (bT d4 rfl) (Y6 (Z1 (Y7 (Z1 (Z0 (Z3 (s0) (by exact b6) rfl (Z3 (vI a3) (by exact b2) rfl ?_)))))))
 obtain ⟨_, a7⟩ := gd a7
 obtain ⟨_, _, _, _, _, e5, e6, rfl, e7⟩ := c2.elem (i := a3) (by omega) (by omega)
 refine X5 U5 rfl rfl e5 rfl (by omega) (by omega) rfl ?_
 refine Y0 (vI (rd a0 a3)) ty2 rfl (hS.froz _ _ e6) (e7 0 (show 0 < 1 by decide)) rfl ?_
 refine M3 (k := .i64) (a := (rd a0 a3)) (b := 0) rfl rfl rfl (Z2 ?_)
 obtain ⟨c5, a7⟩ | ⟨c5, a7⟩ := ic a7
 refine Z7 (bN c5 rfl) (Y6 (X1 (Z0 (Z3 (vI a3) (by exact b2) rfl ?_))))
 refine W2 (a3 + 1) rfl rfl (IntWalk.i64_in _ (by omega)) rfl (Z5 (vI (a3 + 1)) rfl rfl (Z2 ?_))
 exact e4 _ _ ⟨(a3 + 1), a4, d3, a6, a5, a7, Z4, hS, (by omega), a9, c2, b9, b6, b7, c1, b8, rfl⟩
 refine Z8 (bO c5 rfl) ?_
 obtain ⟨f8, f9, _, _, _, e8, e9, rfl, f0⟩ := b9.elem (i := a3) (by omega) (by omega)
 obtain ⟨g0, g1, _, _, _, f1, f2, rfl, f3⟩ := c2.elem (i := a3) (by omega) (by omega)
 refine W6 12 (S8 [mE 19 (vP b4), mE 20 (a5), mE 21 (s1), mE 22 (vI a3), mE 23 (vQ f8 f9), mE 24 (vA (Z6 .u8 (rd a1 a3))), mE 25 (s0), mE 26 (vI a3), mE 27 (vQ g0 g1), mE 28 (vI (rd a0 a3)), mE 29 (vA (Z6 .u8 (rd a1 a3) ++ [vI (rd a0 a3)])), (30, MP.sl yT ([((rd a1 a3), (rd a0 a3))]))]) [] mixed rfl rfl rfl hS (V6 ?_ ?_ ?_ ?_ ?_ ?_ ?_ ?_ (I2 ?_ ?_ ?_ ?_ V1)) ?_
 exact X4 fun S B => Y2 U3 (evT (B 5 rfl) b8) rfl (qz S)
 exact Y8 fun S V => Y0 (a5) Q7 (eM (V 0 19 rfl rfl)) (S.get (mR (mR mL))) rfl rfl (qz S)
 exact X4 fun S B => Z3 (s1) (evT (B 1 rfl) b7) rfl (qz S)
 exact X4 fun S B => Z3 (vI a3) (evT (B 6 rfl) b2) rfl (qz S)
 exact Y8 fun S V => X5 Yc6 rfl (eM (V 2 21 rfl rfl)) e8 (eM (V 3 22 rfl rfl)) (by omega) (by omega) rfl (qz S)
 exact Q9 fun s S V => V2 (Z6 .u8 (rd a1 a3)) P5 (eM (V 4 23 rfl rfl)) (S.froz _ _ (s.1 _ _ e9)) rfl f0 rfl (qz S)
 exact X4 fun S B => Z3 (s0) (evT (B 0 rfl) b6) rfl (qz S)
 exact X4 fun S B => Z3 (vI a3) (evT (B 6 rfl) b2) rfl (qz S)
 exact Y8 fun S V => X5 U5 rfl (eM (V 6 25 rfl rfl)) f1 (eM (V 7 26 rfl rfl)) (by omega) (by omega) rfl (qz S)
 exact Q9 fun s S V => Y0 (vI (rd a0 a3)) ty2 (eM (V 8 27 rfl rfl)) (S.froz _ _ (s.1 _ _ f2)) (f3 0 (show 0 < 1 by decide)) rfl (qz S)
 exact Y8 fun S V => Zv0 (Z6 .u8 (rd a1 a3) ++ [vI (rd a0 a3)]) Xm7 (Ya5 (eM (V 5 24 rfl rfl)) (eM (V 9 28 rfl rfl))) (G9 rfl rfl rfl (nl rfl) (G9 rfl rfl rfl (nl rfl) (Zq6 rfl))) rfl (qz S)
 intro _ _ _ _ _ hS _ d7 hcq
 refine Zb9 (τ := yT) R9 Yf6 rfl [vA (Z6 .u8 (rd a1 a3) ++ [vI (rd a0 a3)])] [((rd a1 a3), (rd a0 a3))] rfl rfl (E8 (eM (d7 10 29 rfl rfl))) (Zl4 ⟨_, _, rfl, rfl, rfl⟩) (by decide) (by decide) hS rfl ?_
 intro _ _ _ d8 hS d9
 exact qn d8 rfl hS d9
 intro _ f4 d5 c3 hS c0 c7 hcq
 have hS : St d5 f4 (a6 ++ ([(b4, cA ([a5]) 45)] ++ ([(b1, cA ([vN]) 45)] ++ L))) := hS
 have Z4 := Z4.trans c3
 have c2 := c2.mono c3
 have b9 := b9.mono c3
 have a9 := a9.mono c3
 have d6 := evT (c0 5 rfl) b8
 obtain ⟨_, f5, e0⟩ := gvS (c7 11 30 (by decide) rfl)
 obtain ⟨e1, a7⟩ := gd a7
 refine N5 (τ := yT) Xb4 rfl (by exact (eM (c7 1 20 (by decide) rfl))) (by exact f5) a9 hS e0 e1 rfl ?_
 intro c6 _ f6 c8 hS
 refine Y2 U3 (by exact d6) rfl ?_
 have hS := hS.perm R6
 refine Zd2 (v := c6) (cs := ([a5]).toArray) (cs' := ([c6]).toArray) Q7 rfl rfl hS c8.isOne rfl (nl rfl) rfl ?_
 intro _ hS
 have hS := hS.perm R6.symm
 refine Z2 (X1 (Z0 (Z3 (vI a3) (by exact (evT (c0 6 rfl) b2)) rfl ?_)))
 refine W2 (a3 + 1) rfl rfl (IntWalk.i64_in _ (by omega)) rfl (Z5 (vI (a3 + 1)) rfl rfl (Z2 ?_))
 exact e4 _ _ ⟨(a3 + 1), (a4 ++ [((rd a1 a3), (rd a0 a3))]), d5, f6, c6, a7, Z4, hS, (by omega), c8, c2, b9, (evT (c0 0 rfl) b6), (evT (c0 1 rfl) b7), (evT (c0 4 rfl) c1), d6, rfl⟩
 refine Z7 (bF d4 rfl) ?_
 refine X7 rfl ?_
 obtain rfl := oi a7
 exact f7 _ _ ⟨a4, d3, a6, a5, rfl, Z4, hS, a9, c1, b8⟩
 exact ⟨0, ([] : List (A8 × Int)), H, ([]), (vN), a7, Z4, hS, (by omega), d0, c2, b9, rfl, rfl, rfl, rfl, rfl⟩
 rintro _ _ ⟨b0, _, b3, a8, rfl, Z4, hS, b5, c4, c9⟩
 dsimp only [Ex.elim] at d2
 refine Z1 (Z0 ?_)
 refine W1 Q4 (by exact c9) (hS.get (mR mL)) rfl rfl ?_
 have hS := hS.perm Zb0
 refine W4 (v := vA ([a8])) (vs := ([a8]).toArray) (cs := ([vN]).toArray) Q4 (by exact c4) rfl rfl hS rfl (Zb5 b5.isOne) rfl ?_
 intro _ hS
 have hS := hS.perm Zb0.symm
 refine Z2 ?_
 refine Y9 (vs := [vA ([a8])]) func169 ⟨⟨_, (by exact c4), P1 Q4 (hS.get (mR (mR mL))) rfl⟩, trivial⟩ ?_
 obtain ⟨_, e2, hS, e3⟩ := b5.freeze hS
 have Z4 := Z4.trans e2
 obtain rfl := oi d2
 exact ⟨_, _, rfl, Z4, (St.dropA (St.dropA hS)), ⟨_, rfl, ⟨_, rfl, e3⟩⟩⟩
def P6 (K : Nat) (a0 : A8) (a1 : A8) : Nat → Int → Option (Ex Int (Unit))
 | 0, _ => none
 | k + 1, a3 => (if a3 < 8 then (if (Y5 a0 a3) = (Y5 a1 a3) then P6 K a0 a1 k (a3 + 1) else some (.ret (IntKind.i64.wrap ((Y5 a1 a3) - (Y5 a0 a3))))) else some (.go ()))
def D5 (K : Nat) (a0 : A8) (a1 : A8) : Option Int := ((P6 K a0 a1 K 0).bind (Ex.elim (fun r => some r) (fun s => some 0)))
theorem Zz3 {a0 : A8} {a1 : A8} {r : Int} (q0 : D5 K a0 a1 = some r) (hS : St H w L) :
 Calls prog 213 #[vA (Z6 .i64 a0), vA (Z6 .i64 a1)] w (U6 (fun v G => (R.int .i64).p G v r) H L) := by
 have Z4 := Sub.refl H
 refine X0 func213 rfl ntmps213 rfl ?_
 unfold D5 at q0
 refine Z1 (Z0 ?_)
 refine T5 (v := vA (Z6 .i64 a0)) (Z6 .i64 a0).toArray rfl rfl hS rfl ?_
 intro b1 _ hS
 refine T5 (v := vA (Z6 .i64 a1)) (Z6 .i64 a1).toArray rfl rfl hS rfl ?_
 intro b4 _ hS
 refine Z5 (vI 0) rfl rfl (Z2 (Z1 (Z1 (Z0 (Z3 (vI 0) rfl rfl (Z2 (Y7 ?_)))))))
 obtain ⟨b2, a4, a8⟩ := bind_some q0
 refine W0 (id := 0) (fun k f w => ∃ (a3 : Int) (H1 : FH), P6 K a0 a1 k a3 = some b2 ∧ Sub H H1 ∧ St H1 w ([(b4, cA (Z6 .i64 a1) 222)] ++ ([(b1, cA (Z6 .i64 a0) 222)] ++ L)) ∧ 0 ≤ a3 ∧ tv f 2 = vP b1 ∧ tv f 3 = vP b4 ∧ tv f 6 = vI a3) (fun f w => ∃ (H1 : FH), b2 = .go () ∧ Sub H H1 ∧ St H1 w ([(b4, cA (Z6 .i64 a1) 222)] ++ ([(b1, cA (Z6 .i64 a0) 222)] ++ L))) rfl ?_ ?_ K ?_ ?_
 rintro f w ⟨a3, H1, a4, _⟩
 rw [P6] at a4; cases a4
 rintro k _ _ c8 c9 ⟨a3, c3, a4, Z4, hS, _, a6, a7, a5⟩
 rw [P6] at a4
 refine Z1 (Z0 ?_)
 refine W8 (k := .i64) (a := a3) (b := 8) (by exact a5) rfl rfl (Z2 (Z1 ?_))
 obtain ⟨b3, a4⟩ | ⟨b3, a4⟩ := ic a4
 refine Z8 (bT b3 rfl) (Y6 (Z1 (Y7 (Z1 (Z0 (Z3 (vI a3) (by exact a5) rfl (Z5 (vI a3) rfl rfl (Z2 (Z1 ?_)))))))))
 refine W6 7 (S8 [mE 9 (vI a3), mE 10 (vQ b1 (0 + (a3).toNat * 1)), mE 11 (vI (Y5 a0 a3)), mE 12 (vI a3), mE 13 (vQ b4 (0 + (a3).toNat * 1)), mE 14 (vI (Y5 a1 a3)), mE 15 (vB (!decide ((Y5 a0 a3) = (Y5 a1 a3))))]) [] mixed rfl rfl rfl hS (I2 ?_ ?_ ?_ ?_ (J3 ?_ ?_ (F8 ?_ V1))) ?_
 exact X4 fun S B => Z3 (vI a3) (evT (B 5 rfl) rfl) rfl (qz S)
 exact L4 fun S B V => V5 Zl6 (evT (B 2 rfl) a6) (eM (V 0 9 rfl rfl)) (by omega) (by omega) rfl (qz S)
 exact Y8 fun S V => Y0 (vI (Y5 a0 a3)) ty3 (eM (V 1 10 rfl rfl)) (S.get (o := cA (Z6 .i64 a0) 222) (mR (mR mL))) (J2 ([]) ([]) (by omega) (by omega)) rfl (qz S)
 exact X4 fun S B => Z3 (vI a3) (evT (B 5 rfl) rfl) rfl (qz S)
 exact L4 fun S B V => V5 Zl6 (evT (B 3 rfl) a7) (eM (V 3 12 rfl rfl)) (by omega) (by omega) rfl (qz S)
 exact Y8 fun S V => Y0 (vI (Y5 a1 a3)) ty3 (eM (V 4 13 rfl rfl)) (S.get (o := cA (Z6 .i64 a1) 222) (mR mL)) (J2 ([]) ([]) (by omega) (by omega)) rfl (qz S)
 exact Y8 fun S V => M3 (k := .i64) (a := (Y5 a0 a3)) (b := (Y5 a1 a3)) (eM (V 2 11 rfl rfl)) (eM (V 5 14 rfl rfl)) rfl (qz S)
 intro b7 d0 b8 c4 hS a9 c5 hcq
 have hS : St b8 d0 ([(b4, cA (Z6 .i64 a1) 222)] ++ ([(b1, cA (Z6 .i64 a0) 222)] ++ L)) := hS
 have Z4 := Z4.trans c4
 have b9 := evT (a9 2 rfl) a6
 have c0 := evT (a9 3 rfl) a7
 have c1 : tv b7 5 = vI a3 := Eq.trans (a9 5 rfl) rfl
 have c2 : tv b7 15 = vB (!decide ((Y5 a0 a3) = (Y5 a1 a3))) := c5 6 15 (by decide) rfl
 refine Z2 ?_
 obtain ⟨b0, a4⟩ | ⟨b0, a4⟩ := ic a4
 refine Z7 (bN b0 (by exact c2)) (Y6 (X1 (Z0 ?_)))
 refine W2 (a3 + 1) (by exact (evT (a9 6 rfl) a5)) rfl (IntWalk.i64_in _ (by omega)) rfl (Z3 (vI (a3 + 1)) rfl rfl (Z2 ?_))
 exact c8 _ _ ⟨(a3 + 1), b8, a4, Z4, hS, (by omega), b9, c0, rfl⟩
 refine Z8 (bO b0 (by exact c2)) (Z1 ?_)
 refine W6 8 (S8 [mE 16 (vI a3), mE 17 (vQ b4 (0 + (a3).toNat * 1)), mE 18 (vI (Y5 a1 a3)), mE 19 (vI a3), mE 20 (vQ b1 (0 + (a3).toNat * 1)), mE 21 (vI (Y5 a0 a3)), mE 22 (vI (IntKind.i64.wrap ((Y5 a1 a3) - (Y5 a0 a3)))), mE 4 (vI (IntKind.i64.wrap ((Y5 a1 a3) - (Y5 a0 a3))))]) [] mixed rfl rfl rfl hS (V6 ?_ ?_ ?_ ?_ ?_ ?_ ?_ ?_ V1) ?_
 exact X4 fun S B => Z3 (vI a3) (evT (B 5 rfl) c1) rfl (qz S)
 exact L4 fun S B V => V5 Zl6 (evT (B 3 rfl) c0) (eM (V 0 16 rfl rfl)) (by omega) (by omega) rfl (qz S)
 exact Y8 fun S V => Y0 (vI (Y5 a1 a3)) ty3 (eM (V 1 17 rfl rfl)) (S.get (o := cA (Z6 .i64 a1) 222) (mR mL)) (J2 ([]) ([]) (by omega) (by omega)) rfl (qz S)
 exact X4 fun S B => Z3 (vI a3) (evT (B 5 rfl) c1) rfl (qz S)
 exact L4 fun S B V => V5 Zl6 (evT (B 2 rfl) b9) (eM (V 3 19 rfl rfl)) (by omega) (by omega) rfl (qz S)
 exact Y8 fun S V => Y0 (vI (Y5 a0 a3)) ty3 (eM (V 4 20 rfl rfl)) (S.get (o := cA (Z6 .i64 a0) 222) (mR (mR mL))) (J2 ([]) ([]) (by omega) (by omega)) rfl (qz S)
 exact Y8 fun S V => Zj4 (IntKind.i64.wrap ((Y5 a1 a3) - (Y5 a0 a3))) (eM (V 2 18 rfl rfl)) (eM (V 5 21 rfl rfl)) rfl rfl (qz S)
 exact Y8 fun S V => Z5 (vI (IntKind.i64.wrap ((Y5 a1 a3) - (Y5 a0 a3)))) (eM (V 6 22 rfl rfl)) rfl (qz S)
 intro _ c6 c7 b5 hS _ b6 hcq
 have hS : St c7 c6 ([(b4, cA (Z6 .i64 a1) 222)] ++ ([(b1, cA (Z6 .i64 a0) 222)] ++ L)) := hS
 have Z4 := Z4.trans b5
 refine Z2 ?_
 refine Y9 (vs := [vI (IntKind.i64.wrap ((Y5 a1 a3) - (Y5 a0 a3)))]) func213 ⟨(by exact (eM (b6 7 4 (by decide) rfl))), trivial⟩ ?_
 obtain rfl := oi a4
 dsimp only [Ex.elim] at a8
 obtain rfl := oi a8
 exact ⟨_, _, rfl, Z4, (St.dropA (St.dropA hS)), rfl⟩
 refine Z7 (bF b3 rfl) ?_
 refine X7 rfl ?_
 obtain rfl := oi a4
 exact c9 _ _ ⟨c3, rfl, Z4, hS⟩
 exact ⟨0, H, a4, Z4, hS, (by omega), rfl, rfl, rfl⟩
 rintro _ _ ⟨_, rfl, Z4, hS⟩
 dsimp only [Ex.elim] at a8
 refine Z1 (Z0 (Z5 (vI 0) rfl rfl (Z2 ?_)))
 refine Y9 (vs := [vI 0]) func213 ⟨rfl, trivial⟩ ?_
 obtain rfl := oi a8
 exact ⟨_, _, rfl, Z4, (St.dropA (St.dropA hS)), rfl⟩
def L0 (K : Nat) (a0 : (List Int)) (a1 : (List Int)) : Nat → Int → Option (Ex Bool (Unit))
 | 0, _ => none
 | k + 1, a3 => (if a3 < (a0.length : Int) then (if a3 < (a1.length : Int) then (if (rd a0 a3) = (rd a1 a3) then L0 K a0 a1 k (a3 + 1) else some (.ret false)) else none) else some (.go ()))
def Zp4 (K : Nat) (a0 : (List Int)) (a1 : (List Int)) : Option Bool := (if (a0.length : Int) = (a1.length : Int) then ((L0 K a0 a1 K 0).bind (Ex.elim (fun r => some r) (fun s => some true))) else some false)
theorem Yw9 {a0 : (List Int)} {a1 : (List Int)} {r : Bool} (q0 : Zp4 K a0 a1 = some r) (a6 : Y3 (Y4 .i64) H s0 a0) (a8 : Y3 (Y4 .i64) H s1 a1) (hS : St H w L) :
 Calls prog 19 #[s0, s1] w (U6 (fun v G => R.bool.p G v r) H L) := by
 have Z4 := Sub.refl H
 refine X0 func19 rfl ntmps19 rfl ?_
 unfold Zp4 at q0
 refine Z1 (Z0 (Z5 (vB false) rfl rfl (Z2 (Z1 (Z1 (Z0 (Z3 (s0) rfl rfl ?_)))))))
 have d5 := a6.bound
 refine X9 U5 rfl a6 rfl (Z3 (s1) rfl rfl ?_)
 have d6 := a8.bound
 refine X9 U5 rfl a8 rfl ?_
 refine M3 (k := .i64) (a := (a0.length : Int)) (b := (a1.length : Int)) rfl rfl rfl (Z2 ?_)
 obtain ⟨b4, q0⟩ | ⟨b4, q0⟩ := ic q0
 refine Z7 (bN b4 rfl) (Y6 (Z1 (Z1 (Z0 (Z5 (vI 0) rfl rfl (Z2 (Y7 ?_)))))))
 obtain ⟨b5, a4, b0⟩ := bind_some q0
 refine W0 (id := 0) (fun k f w => ∃ (a3 : Int) (H1 : FH), L0 K a0 a1 k a3 = some b5 ∧ Sub H H1 ∧ St H1 w (L) ∧ 0 ≤ a3 ∧ Y3 (Y4 .i64) H1 s0 a0 ∧ Y3 (Y4 .i64) H1 s1 a1 ∧ tv f 0 = s0 ∧ tv f 1 = s1 ∧ tv f 5 = vI a3) (fun f w => ∃ (H1 : FH), b5 = .go () ∧ Sub H H1 ∧ St H1 w (L)) rfl ?_ ?_ K ?_ ?_
 rintro f w ⟨a3, H1, a4, _⟩
 rw [L0] at a4; cases a4
 rintro k _ _ c9 d0 ⟨a3, c0, a4, Z4, hS, _, a6, a8, a7, a9, a5⟩
 rw [L0] at a4
 refine Z1 (Z1 (Z0 (Z3 (vI a3) (by exact a5) rfl (Z3 (s0) (by exact a7) rfl ?_))))
 have d7 := a6.bound
 refine X9 U5 rfl a6 rfl ?_
 refine W8 (k := .i64) (a := a3) (b := (a0.length : Int)) rfl rfl rfl (Z2 ?_)
 obtain ⟨b6, a4⟩ | ⟨b6, a4⟩ := ic a4
 refine Z8 (bT b6 rfl) (Y6 (Z1 (Y7 (Z1 ?_))))
 obtain ⟨d1, d2, _, _, _, c1, c2, rfl, c3⟩ := a6.elem (i := a3) (by omega) (by omega)
 obtain ⟨_, a4⟩ := gd a4
 obtain ⟨d3, d4, _, _, _, c4, c5, rfl, c6⟩ := a8.elem (i := a3) (by omega) (by omega)
 refine W6 9 (S8 [mE 17 (s0), mE 18 (vI a3), mE 19 (vQ d1 d2), mE 20 (vI (rd a0 a3)), mE 21 (s1), mE 22 (vI a3), mE 23 (vQ d3 d4), mE 24 (vI (rd a1 a3)), mE 25 (vB (!decide ((rd a0 a3) = (rd a1 a3))))]) [] mixed rfl rfl rfl hS (V6 ?_ ?_ ?_ ?_ ?_ ?_ ?_ ?_ (F8 ?_ V1)) ?_
 exact X4 fun S B => Z3 (s0) (evT (B 0 rfl) a7) rfl (qz S)
 exact X4 fun S B => Z3 (vI a3) (evT (B 5 rfl) a5) rfl (qz S)
 exact Y8 fun S V => X5 U5 rfl (eM (V 0 17 rfl rfl)) c1 (eM (V 1 18 rfl rfl)) (by omega) (by omega) rfl (qz S)
 exact Q9 fun s S V => Y0 (vI (rd a0 a3)) ty2 (eM (V 2 19 rfl rfl)) (S.froz _ _ (s.1 _ _ c2)) (c3 0 (show 0 < 1 by decide)) rfl (qz S)
 exact X4 fun S B => Z3 (s1) (evT (B 1 rfl) a9) rfl (qz S)
 exact X4 fun S B => Z3 (vI a3) (evT (B 5 rfl) a5) rfl (qz S)
 exact Y8 fun S V => X5 U5 rfl (eM (V 4 21 rfl rfl)) c4 (eM (V 5 22 rfl rfl)) (by omega) (by omega) rfl (qz S)
 exact Q9 fun s S V => Y0 (vI (rd a1 a3)) ty2 (eM (V 6 23 rfl rfl)) (S.froz _ _ (s.1 _ _ c5)) (c6 0 (show 0 < 1 by decide)) rfl (qz S)
 exact Y8 fun S V => M3 (k := .i64) (a := (rd a0 a3)) (b := (rd a1 a3)) (eM (V 3 20 rfl rfl)) (eM (V 7 24 rfl rfl)) rfl (qz S)
 intro c7 c8 b7 b1 hS b2 b9 hcq
 have hS : St b7 c8 (L) := hS
 have Z4 := Z4.trans b1
 have a6 := a6.mono b1
 have a8 := a8.mono b1
 have b8 : tv c7 25 = vB (!decide ((rd a0 a3) = (rd a1 a3))) := b9 8 25 (by decide) rfl
 refine Z2 ?_
 obtain ⟨b3, a4⟩ | ⟨b3, a4⟩ := ic a4
 refine Z7 (bN b3 (by exact b8)) (Y6 (X1 (Z0 (Z3 (vI a3) (by exact (evT (b2 5 rfl) a5)) rfl ?_))))
 refine W2 (a3 + 1) rfl rfl (IntWalk.i64_in _ (by omega)) rfl (Z5 (vI (a3 + 1)) rfl rfl (Z2 ?_))
 exact c9 _ _ ⟨(a3 + 1), b7, a4, Z4, hS, (by omega), a6, a8, (evT (b2 0 rfl) a7), (evT (b2 1 rfl) a9), rfl⟩
 refine Z8 (bO b3 (by exact b8)) (Z1 (Z0 (Z5 (vB false) rfl rfl (Z2 ?_))))
 refine Y9 (vs := [vB false]) func19 ⟨rfl, trivial⟩ ?_
 obtain rfl := oi a4
 dsimp only [Ex.elim] at b0
 obtain rfl := oi b0
 exact ⟨_, _, rfl, Z4, hS, rfl⟩
 refine Z7 (bF b6 rfl) ?_
 refine X7 rfl ?_
 obtain rfl := oi a4
 exact d0 _ _ ⟨c0, rfl, Z4, hS⟩
 exact ⟨0, H, a4, Z4, hS, (by omega), a6, a8, rfl, rfl, rfl⟩
 rintro _ _ ⟨_, rfl, Z4, hS⟩
 dsimp only [Ex.elim] at b0
 refine Z1 (Z0 (Z5 (vB true) rfl rfl (Z2 ?_)))
 refine Y9 (vs := [vB true]) func19 ⟨rfl, trivial⟩ ?_
 obtain rfl := oi b0
 exact ⟨_, _, rfl, Z4, hS, rfl⟩
 refine Z8 (bO b4 rfl) (Z1 (Z0 (Z5 (vB false) rfl rfl (Z2 ?_))))
 refine Y9 (vs := [vB false]) func19 ⟨rfl, trivial⟩ ?_
 obtain rfl := oi q0
 exact ⟨_, _, rfl, Z4, hS, rfl⟩
def Zj7 (K : Nat) (c3 : Int → Int → Int → Option (Ex Int (Int))) (a1 : Int) (a3 : Int) (a6 : Int) : Option (Ex Int (Int)) := c3 (((IntKind.i64.wrap (a1 * a1))).tmod 10007) a6 (IntKind.i64.wrap ((a3).tdiv 2))
def M6 (K : Nat) : Nat → Int → Int → Int → Option (Ex Int (Int))
 | 0, _, _, _ => none
 | k + 1, a1, a4, a3 => (if 0 < a3 then (if ((a3).tmod 2) = 1 then Zj7 K (M6 K k) a1 a3 (((IntKind.i64.wrap (a4 * a1))).tmod 10007) else Zj7 K (M6 K k) a1 a3 a4) else some (.go a4))
def Zs2 (K : Nat) (a0 : Int) : Option Int := ((M6 K K a0 1 10005).bind (Ex.elim (fun r => some r) (fun s => (fun (a7 : Int) => some a7) s)))
theorem Yz8 {a0 : Int} {r : Int} (q0 : Zs2 K a0 = some r) (hS : St H w L) :
 Calls prog 234 #[vI a0] w (U6 (fun v G => (R.int .i64).p G v r) H L) := by
 have Z4 := Sub.refl H
 refine X0 func234 rfl ntmps234 rfl ?_
 unfold Zs2 at q0
 refine Z1 (Z0 (Z5 (vI 0) rfl rfl (Z2 (Z1 (Z0 (Z5 (vI 1) rfl rfl (Z2 (Z1 (Z1 (Z0 (Z5 (vI 10005) rfl rfl (Z2 (Y7 ?_)))))))))))))
 obtain ⟨b2, a5, b6⟩ := bind_some q0
 refine W0 (id := 0) (fun k f w => ∃ (a1 : Int) (a4 : Int) (a3 : Int) (H1 : FH), M6 K k a1 a4 a3 = some b2 ∧ Sub H H1 ∧ St H1 w (L) ∧ tv f 0 = vI a1 ∧ tv f 3 = vI a4 ∧ tv f 4 = vI a3) (fun f w => ∃ (a7 : Int) (H1 : FH), b2 = .go a7 ∧ Sub H H1 ∧ St H1 w (L) ∧ tv f 3 = vI a7) rfl ?_ ?_ K ?_ ?_
 rintro f w ⟨a1, a4, a3, H1, a5, _⟩
 rw [M6] at a5; cases a5
 rintro k _ _ c4 c5 ⟨a1, a4, a3, b3, a5, Z4, hS, a9, b0, a8⟩
 rw [M6] at a5
 refine Z1 (Z1 (Z0 (Z3 (vI a3) (by exact a8) rfl ?_)))
 refine Zb1 (k := .i64) (a := a3) (b := 0) rfl rfl rfl (Z2 ?_)
 obtain ⟨b7, a5⟩ | ⟨b7, a5⟩ := ic a5
 refine Z8 (bT b7 rfl) (Y6 (Z1 (Y7 (Z1 (Z1 (Z0 (Z3 (vI a3) (by exact a8) rfl ?_)))))))
 refine Zc2 ((a3).tmod 2) rfl rfl (by decide) rfl rfl ?_
 refine A9 (k := .i64) (a := ((a3).tmod 2)) (b := 1) rfl rfl rfl (Z2 ?_)
 refine N3 (fun f w => ∃ (a6 : Int) (H1 : FH), Zj7 K (M6 K k) a1 a3 a6 = some b2 ∧ Sub H H1 ∧ St H1 w (L) ∧ tv f 0 = vI a1 ∧ tv f 3 = vI a6 ∧ tv f 4 = vI a3) ?_ ?_
 rintro _ _ ⟨a6, c1, b4, Z4, hS, b1, b8, b9⟩
 unfold Zj7 at b4
 refine Z0 (Z3 (vI a1) (by exact b1) rfl (Z3 (vI a1) (by exact b1) rfl ?_))
 refine Zg6 (IntKind.i64.wrap (a1 * a1)) rfl rfl rfl rfl ?_
 refine Zc2 (((IntKind.i64.wrap (a1 * a1))).tmod 10007) rfl rfl (by decide) rfl rfl (Z5 (vI (((IntKind.i64.wrap (a1 * a1))).tmod 10007)) rfl rfl (Z2 (X1 (Z0 (Z3 (vI a3) (by exact b9) rfl ?_)))))
 refine Xr5 (IntKind.i64.wrap ((a3).tdiv 2)) rfl rfl (by decide) rfl rfl (Z5 (vI (IntKind.i64.wrap ((a3).tdiv 2))) rfl rfl (Z2 ?_))
 exact c4 _ _ ⟨(((IntKind.i64.wrap (a1 * a1))).tmod 10007), a6, (IntKind.i64.wrap ((a3).tdiv 2)), c1, b4, Z4, hS, rfl, b8, rfl⟩
 intro c2
 obtain ⟨c0, a5⟩ | ⟨c0, a5⟩ := ic a5
 refine Z8 (bT c0 rfl) (Z0 (Z3 (vI a4) (by exact b0) rfl (Z3 (vI a1) (by exact a9) rfl ?_)))
 refine Zg6 (IntKind.i64.wrap (a4 * a1)) rfl rfl rfl rfl ?_
 refine Zc2 (((IntKind.i64.wrap (a4 * a1))).tmod 10007) rfl rfl (by decide) rfl rfl (Z5 (vI (((IntKind.i64.wrap (a4 * a1))).tmod 10007)) rfl rfl (Z2 ?_))
 exact c2 _ _ ⟨(((IntKind.i64.wrap (a4 * a1))).tmod 10007), b3, a5, Z4, hS, a9, rfl, a8⟩
 refine Z7 (bF c0 rfl) (Y6 ?_)
 exact c2 _ _ ⟨a4, b3, a5, Z4, hS, a9, b0, a8⟩
 refine Z7 (bF b7 rfl) ?_
 refine X7 rfl ?_
 obtain rfl := oi a5
 exact c5 _ _ ⟨a4, b3, rfl, Z4, hS, b0⟩
 exact ⟨a0, 1, 10005, H, a5, Z4, hS, rfl, rfl, rfl⟩
 rintro _ _ ⟨a7, _, rfl, Z4, hS, b5⟩
 dsimp only [Ex.elim] at b6
 refine Z1 (Z0 (Z3 (vI a7) (by exact b5) rfl (Z5 (vI a7) rfl rfl (Z2 ?_))))
 refine Y9 (vs := [vI a7]) func234 ⟨rfl, trivial⟩ ?_
 obtain rfl := oi b6
 exact ⟨_, _, rfl, Z4, hS, rfl⟩
def V0 (K : Nat) (a0 : (List Int)) (a1 : (Int → Option Bool)) : Nat → Int → Option (Ex Int (Unit))
 | 0, _ => none
 | k + 1, a3 => (if a3 < (a0.length : Int) then ((a1 (rd a0 a3)).bind fun r4 => (if r4 = true then some (.ret a3) else V0 K a0 a1 k (a3 + 1))) else some (.go ()))
def N4 (K : Nat) (a0 : (List Int)) (a1 : (Int → Option Bool)) : Option Int := ((V0 K a0 a1 K 0).bind (Ex.elim (fun r => some r) (fun s => some (-1))))
theorem Zk3 {a0 : (List Int)} {a1 : (Int → Option Bool)} {r : Int} (q0 : N4 K a0 a1 = some r) (a6 : Y3 (Y4 .i64) H s0 a0) (a7 : FnQ prog s1 (R.int .i64) a1 H) (hS : St H w L) :
 Calls prog 235 #[s0, s1] w (U6 (fun v G => (R.int .i64).p G v r) H L) := by
 have Z4 := Sub.refl H
 refine X0 func235 rfl ntmps235 rfl ?_
 unfold N4 at q0
 refine Z1 (Z0 (Z5 (vI 0) rfl rfl (Z2 (Z1 (Z1 (Z0 (Z3 (s0) rfl rfl ?_)))))))
 have c3 := a6.bound
 refine X9 U5 rfl a6 rfl (Z3 (vI 0) rfl rfl (Z2 (Y7 ?_)))
 obtain ⟨b2, a4, b1⟩ := bind_some q0
 refine W0 (id := 0) (fun k f w => ∃ (a3 : Int) (H1 : FH), V0 K a0 a1 k a3 = some b2 ∧ Sub H H1 ∧ St H1 w (L) ∧ 0 ≤ a3 ∧ Y3 (Y4 .i64) H1 s0 a0 ∧ FnQ prog s1 (R.int .i64) a1 H1 ∧ tv f 0 = s0 ∧ tv f 1 = s1 ∧ tv f 7 = vI (a0.length : Int) ∧ tv f 8 = vI a3) (fun f w => ∃ (H1 : FH), b2 = .go () ∧ Sub H H1 ∧ St H1 w (L)) rfl ?_ ?_ K ?_ ?_
 rintro f w ⟨a3, H1, a4, _⟩
 rw [V0] at a4; cases a4
 rintro k _ _ b7 b8 ⟨a3, b6, a4, Z4, hS, _, a6, a7, a8, a9, b0, a5⟩
 rw [V0] at a4
 refine Z1 (Z0 ?_)
 refine W8 (k := .i64) (a := a3) (b := (a0.length : Int)) (by exact a5) (by exact b0) rfl (Z2 (Z1 ?_))
 obtain ⟨b3, a4⟩ | ⟨b3, a4⟩ := ic a4
 refine Z8 (bT b3 rfl) (Y6 (Z1 (Y7 (Z1 (Z0 (Z3 (vI a3) (by exact a5) rfl (Z5 (vI a3) rfl rfl (Z2 (Z1 (Z0 (Z3 (s1) (by exact a9) rfl (Z3 (s0) (by exact a8) rfl (Z3 (vI a3) rfl rfl ?_)))))))))))))
 obtain ⟨_, _, _, _, _, b9, c0, rfl, c1⟩ := a6.elem (i := a3) (by omega) (by omega)
 refine X5 U5 rfl rfl b9 rfl (by omega) (by omega) rfl ?_
 refine Y0 (vI (rd a0 a3)) ty2 rfl (hS.froz _ _ c0) (c1 0 (show 0 < 1 by decide)) rfl ?_
 obtain ⟨_, c2, a4⟩ := bind_some a4
 refine Wc2 a7 rfl rfl hS rfl c2 rfl ?_
 intro H4 _ b4 hS
 have Z4 := Z4.trans b4
 have a6 := a6.mono b4
 have a7 := a7.mono b4
 refine Z2 ?_
 obtain ⟨b5, a4⟩ | ⟨b5, a4⟩ := ic a4
 refine Z8 (Eq.trans rfl (congrArg vB b5)) (Z1 (Z0 (Z3 (vI a3) rfl rfl (Z5 (vI a3) rfl rfl (Z2 ?_)))))
 refine Y9 (vs := [vI a3]) func235 ⟨rfl, trivial⟩ ?_
 obtain rfl := oi a4
 dsimp only [Ex.elim] at b1
 obtain rfl := oi b1
 exact ⟨_, _, rfl, Z4, hS, rfl⟩
 refine Z7 (Eq.trans rfl (congrArg vB (W3 b5))) (Y6 (X1 (Z0 ?_)))
 refine W2 (a3 + 1) (by exact a5) rfl (IntWalk.i64_in _ (by omega)) rfl (Z3 (vI (a3 + 1)) rfl rfl (Z2 ?_))
 exact b7 _ _ ⟨(a3 + 1), H4, a4, Z4, hS, (by omega), a6, a7, a8, a9, b0, rfl⟩
 refine Z7 (bF b3 rfl) ?_
 refine X7 rfl ?_
 obtain rfl := oi a4
 exact b8 _ _ ⟨b6, rfl, Z4, hS⟩
 exact ⟨0, H, a4, Z4, hS, (by omega), a6, a7, rfl, rfl, rfl, rfl⟩
 rintro _ _ ⟨_, rfl, Z4, hS⟩
 dsimp only [Ex.elim] at b1
 refine Z1 (Z0 (Z5 (vI (-1)) rfl rfl (Z2 ?_)))
 refine Y9 (vs := [vI (-1)]) func235 ⟨rfl, trivial⟩ ?_
 obtain rfl := oi b1
 exact ⟨_, _, rfl, Z4, hS, rfl⟩
def Zw0 (K : Nat) (a0 : (List Int)) (a1 : Int) : Option Int := (if (IntKind.i64.wrap (a1 - (a0.length : Int))) < 0 then some (-1) else some (IntKind.i64.wrap (a1 - (a0.length : Int))))
theorem Yu9 {a0 : (List Int)} {a1 : Int} {r : Int} (q0 : Zw0 K a0 a1 = some r) (a4 : Y3 (Y4 .i64) H s0 a0) (hS : St H w L) :
 Calls prog 71 #[s0, vI a1] w (U6 (fun v G => (R.int .i64).p G v r) H L) := by
 have Z4 := Sub.refl H
 refine X0 func71 rfl ntmps71 rfl ?_
 unfold Zw0 at q0
 refine Z1 (Z0 (Z5 (vI 0) rfl rfl (Z2 (Z1 (Z0 (Z3 (vI a1) rfl rfl (Z3 (s0) rfl rfl ?_)))))))
 have a5 := a4.bound
 refine X9 U5 rfl a4 rfl ?_
 refine Zj4 (IntKind.i64.wrap (a1 - (a0.length : Int))) rfl rfl rfl rfl (Z5 (vI (IntKind.i64.wrap (a1 - (a0.length : Int)))) rfl rfl (Z2 (Z1 (Z1 (Z0 (Z3 (vI (IntKind.i64.wrap (a1 - (a0.length : Int)))) rfl rfl ?_))))))
 refine W8 (k := .i64) (a := (IntKind.i64.wrap (a1 - (a0.length : Int)))) (b := 0) rfl rfl rfl (Z2 ?_)
 obtain ⟨a3, q0⟩ | ⟨a3, q0⟩ := ic q0
 refine Z8 (bT a3 rfl) (Z1 (Z0 (Z5 (vI (-1)) rfl rfl (Z2 ?_))))
 refine Y9 (vs := [vI (-1)]) func71 ⟨rfl, trivial⟩ ?_
 obtain rfl := oi q0
 exact ⟨_, _, rfl, Z4, hS, rfl⟩
 refine Z7 (bF a3 rfl) (Y6 (Z1 (Z0 (Z3 (vI (IntKind.i64.wrap (a1 - (a0.length : Int)))) rfl rfl (Z5 (vI (IntKind.i64.wrap (a1 - (a0.length : Int)))) rfl rfl (Z2 ?_))))))
 refine Y9 (vs := [vI (IntKind.i64.wrap (a1 - (a0.length : Int)))]) func71 ⟨rfl, trivial⟩ ?_
 obtain rfl := oi q0
 exact ⟨_, _, rfl, Z4, hS, rfl⟩
def Zm7 (K : Nat) (a0 : Int) (a1 : Int) (a2 : Int) : Option Bool := (if a1 ≤ a0 then some (decide (a0 ≤ a2)) else some false)
theorem Zq0 {a0 : Int} {a1 : Int} {a2 : Int} {r : Bool} (q0 : Zm7 K a0 a1 a2 = some r) (hS : St H w L) :
 Calls prog 73 #[vI a0, vI a1, vI a2] w (U6 (fun v G => R.bool.p G v r) H L) := by
 have Z4 := Sub.refl H
 refine X0 func73 rfl ntmps73 rfl ?_
 unfold Zm7 at q0
 refine Z1 (Z0 (Z5 (vB false) rfl rfl (Z2 (Z1 (Z0 (Z3 (vI a0) rfl rfl (Z3 (vI a1) rfl rfl ?_)))))))
 refine Ya6 (k := .i64) (a := a0) (b := a1) rfl rfl rfl (Z3 (vB (decide (a1 ≤ a0))) rfl rfl ?_)
 obtain ⟨a3, q0⟩ | ⟨a3, q0⟩ := ic q0
 refine Y1 rfl rfl (bT a3 rfl) (Z3 (vI a0) rfl rfl ?_)
 refine Y1 rfl rfl (bT a3 rfl) (Z3 (vI a2) rfl rfl ?_)
 refine Y1 rfl rfl (bT a3 rfl) ?_
 refine Yi2 (k := .i64) (a := a0) (b := a2) rfl rfl rfl ?_
 refine W7 (t := true) (vB (decide (a0 ≤ a2))) (bT a3 rfl) ((if_pos rfl).trans rfl) rfl (Z5 (vB (decide (a0 ≤ a2))) rfl rfl (Z2 ?_))
 refine Y9 (vs := [vB (decide (a0 ≤ a2))]) func73 ⟨rfl, trivial⟩ ?_
 obtain rfl := oi q0
 exact ⟨_, _, rfl, Z4, hS, rfl⟩
 refine Z9 rfl rfl (bF a3 rfl) rfl rfl rfl (Z9 rfl rfl (bF a3 rfl) rfl rfl rfl (Z9 rfl rfl (bF a3 rfl) rfl rfl rfl ?_))
 refine W7 (t := false) (vB false) (bF a3 rfl) ((if_neg Bool.false_ne_true).trans rfl) rfl (Z5 (vB false) rfl rfl (Z2 ?_))
 refine Y9 (vs := [vB false]) func73 ⟨rfl, trivial⟩ ?_
 obtain rfl := oi q0
 exact ⟨_, _, rfl, Z4, hS, rfl⟩
def Zs7 (K : Nat) (a0 : Int) : Option Bool := some (!decide (a0 = 0))
theorem Xa3 {a0 : Int} {r : Bool} (q0 : Zs7 K a0 = some r) (hS : St H w L) :
 Calls prog 236 #[vI a0] w (U6 (fun v G => R.bool.p G v r) H L) := by
 have Z4 := Sub.refl H
 refine X0 func236 rfl ntmps236 rfl ?_
 unfold Zs7 at q0
 refine Z1 (Z0 (Z5 (vB false) rfl rfl (Z2 (Z1 (Z0 (Z3 (vI a0) rfl rfl ?_))))))
 refine M3 (k := .i64) (a := a0) (b := 0) rfl rfl rfl (Z5 (vB (!decide (a0 = 0))) rfl rfl (Z2 ?_))
 refine Y9 (vs := [vB (!decide (a0 = 0))]) func236 ⟨rfl, trivial⟩ ?_
 obtain rfl := oi q0
 exact ⟨_, _, rfl, Z4, hS, rfl⟩
end Go.Proofs.YtabofnehiclkiaaGreat
