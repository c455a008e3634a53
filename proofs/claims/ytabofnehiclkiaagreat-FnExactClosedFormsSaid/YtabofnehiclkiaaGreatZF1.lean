/- Walks of functions: each computes its pure function, if that gives a value. -/
import Derived.Test.YtabofnehiclkiaaGreatZTy
namespace Go.Proofs.YtabofnehiclkiaaGreat
open Go Go.Proofs.Tryz
set_option linter.unusedSimpArgs false
set_option linter.unusedVariables false
set_option maxRecDepth 100000
set_option maxHeartbeats 8000000
variable {K : Nat} {H : FH} {w : World} {L : OL} {s0 s1 s2 s3 s4 s5 s6 : Value}
def Zr1 (n left : Int) : Int := if n.tmod 2 = 1 then (if 1 < (if 20 < left.tdiv n then 20 else left.tdiv n) then 1 else (if 20 < left.tdiv n then 20 else left.tdiv n)) else (if 20 < left.tdiv n then 20 else left.tdiv n)
def lsF (ds : List Int) (most : Int) : Nat → A8 → Int → List A8 → List A8
  | 0, p, left, out => if most < (out.length : Int) then out else if left = 0 then out ++ [p] else out
  | g + 1, p, left, out => if most < (out.length : Int) then out else
      ((List.range ((Zr1 (rd ds ((ds.length - (g + 1) : Nat) : Int)) left).toNat + 1)).reverse).foldl (fun o (e : Nat) => lsF ds most g (U8 p ((ds.length - (g + 1) : Nat) : Int) (e : Int)) (left - (e : Int) * rd ds ((ds.length - (g + 1) : Nat) : Int)) o) out
theorem Xr7 {most : Int} {f : List A8 → Nat → List A8} (h : ∀ o e, (o.length : Int) ≤ most + 1 → ((f o e).length : Int) ≤ most + 1) : ∀ (es : List Nat) (o : List A8), (o.length : Int) ≤ most + 1 → ((es.foldl f o).length : Int) ≤ most + 1
  | [], _, ho => ho
  | e :: es, o, ho => Xr7 h es (f o e) (h o e ho)
theorem Wd2 (ds : List Int) (most : Int) : ∀ (g : Nat) (p : A8) (left : Int) (out : List A8), (out.length : Int) ≤ most + 1 → ((lsF ds most g p left out).length : Int) ≤ most + 1
  | 0, p, left, out, h => by
    unfold lsF
    split
    · exact h
    · split
      · rw [List.length_append]; simp; omega
      · exact h
  | g + 1, p, left, out, h => by
    rw [lsF]
    split
    · exact h
    · exact Xr7 (fun o e ho => Wd2 ds most g _ _ o ho) _ _ h
theorem Xh3 (p : A8) (i x y : Int) : U8 (U8 p i x) i y = U8 p i y := by
  funext j
  unfold U8
  split <;> rfl
theorem Vg2 {n left : Int} (hn : 1 ≤ n ∧ n ≤ 12) (hl : 0 ≤ left ∧ left ≤ 1000) : 0 ≤ Zr1 n left ∧ Zr1 n left ≤ 20 ∧ Zr1 n left * n ≤ left := by
  have h1 : left.tdiv n * n ≤ left := by rw [Int.tdiv_eq_ediv_of_nonneg hl.1]; exact Int.ediv_mul_le left (by omega)
  have h0 : 0 ≤ left.tdiv n := Int.tdiv_nonneg hl.1 (by omega)
  have key : ∀ x : Int, 0 ≤ x → x ≤ left.tdiv n → x * n ≤ left := fun x hx hx' => Int.le_trans (Int.mul_le_mul_of_nonneg_right hx' (by omega)) h1
  unfold Zr1
  obtain ⟨q, hq⟩ : ∃ q, q = left.tdiv n := ⟨_, rfl⟩
  rw [← hq] at h0 h1 key ⊢
  clear hq
  by_cases hp : n.tmod 2 = 1
  · rw [if_pos hp]
    by_cases h20 : 20 < q
    · rw [if_pos h20, if_pos (by decide)]; exact ⟨by omega, by omega, key _ (by omega) (by omega)⟩
    · rw [if_neg h20]
      by_cases h3 : 1 < q
      · rw [if_pos h3]; exact ⟨by omega, by omega, key _ (by omega) (by omega)⟩
      · rw [if_neg h3]; exact ⟨h0, by omega, h1⟩
  · rw [if_neg hp]
    by_cases h20 : 20 < q
    · rw [if_pos h20]; exact ⟨by omega, by omega, key _ (by omega) (by omega)⟩
    · rw [if_neg h20]; exact ⟨h0, by omega, h1⟩
theorem Xk6 {P : Program} {n : Nat} {g : FuncId} {R : Ending → World → Prop} {K : List Item} {f : Fr} {w : World} (h : ∀ f', f' = f → Run P n g R K f' w) : Run P n g R K f w := h f rfl
theorem Wm7 {ds : List Int} {most : Int} (hds : ∀ n, n ∈ ds → 1 ≤ n ∧ n ≤ 12) (hd8 : ds.length ≤ 8) (hmo : 0 ≤ most ∧ most ≤ 1073741824) : ∀ (g : Nat), g ≤ ds.length → ∀ {H : FH} {w : World} {L Co : OL} {vd vo : Value} {bl : Nat} {p : A8} {left : Int} {out : List A8} (hl : 0 ≤ left ∧ left ≤ 1000)
    (hd : Y3 (Y5 .i64) H vd ds) (ho : X8 (Q9 .i64) 222 H vo out Co) (hlen : (out.length : Int) ≤ most + 1) (hS : St H w ([(bl, .cells #[vd, vI most, vo] 298)] ++ (Co ++ L))),
    Calls prog 272 #[vP bl, vI ((ds.length - g : Nat) : Int), .agg (Z6 .i64 p).toArray, vI left] w (fun e w' => ∃ H' vo' Co', e = .returned (.tuple #[]) ∧ Sub H H' ∧ St H' w' ([(bl, .cells #[vd, vI most, vo'] 298)] ++ (Co' ++ L)) ∧ X8 (Q9 .i64) 222 H' vo' (lsF ds most g p left out) Co') := by
  intro g
  induction g with
  | zero =>
    intro hg H w L Co vd vo bl p left out hl hd ho hlen hS
    refine X0 func272 rfl ntmps272 rfl ?_
    repeat refine Z1 ?_
    refine Z0 ?_
    refine T7 (v := .agg (Z6 .i64 p).toArray) (Z6 .i64 p).toArray rfl rfl hS rfl ?_
    intro bp w1 hS
    refine Z2 ?_
    repeat refine Z1 ?_
    refine W7 10 (S9 [mE 11 (vP bl), mE 12 (vP bl), mE 13 (vQ bl 2), mE 14 vo, mE 15 (vI out.length), mE 16 (vP bl), mE 17 (vP bl), mE 18 (vQ bl 1), mE 19 (vI most), mE 20 (vB (decide (most < (out.length : Int))))]) [] mixed rfl rfl rfl hS (V9 ?_ ?_ ?_ ?_ ?_ ?_ ?_ ?_ (J2 ?_ ?_ V1)) ?_
    · exact X4 fun S B => Z3 _ (evT (B 0 rfl) rfl) rfl (qz S)
    · exact Y7 fun S V => V4 (eM (V 0 11 rfl rfl)) rfl (qz S)
    · exact Y7 fun S V => Y2 Yf0 (eM (V 1 12 rfl rfl)) rfl (qz S)
    · exact Y7 fun S V => Y0 vo Xj9 (eM (V 2 13 rfl rfl)) (S.get (mR (mR mL))) rfl rfl (qz S)
    · exact P0 fun s S V => Yd0 Ya2 (eM (V 3 14 rfl rfl)) (ho.mono s) rfl (qz S)
    · exact X4 fun S B => Z3 _ (evT (B 0 rfl) rfl) rfl (qz S)
    · exact Y7 fun S V => V4 (eM (V 5 16 rfl rfl)) rfl (qz S)
    · exact Y7 fun S V => Y2 Xx5 (eM (V 6 17 rfl rfl)) rfl (qz S)
    · exact Y7 fun S V => Y0 (vI most) ty3 (eM (V 7 18 rfl rfl)) (S.get (mR (mR mL))) rfl rfl (qz S)
    · exact Y7 fun S V => Za9 (k := .i64) (a := (out.length : Int)) (b := most) (eM (V 4 15 rfl rfl)) (eM (V 8 19 rfl rfl)) rfl (qz S)
    intro f2 w2 H2 s2 hS hB hV _
    have hS : St H2 w2 ([(bp, .cells (Z6 .i64 p).toArray 222)] ++ ([(bl, .cells #[vd, vI most, vo] 298)] ++ (Co ++ L))) := hS
    refine Z2 ?_
    repeat refine Z1 ?_
    unfold lsF
    by_cases hm : most < (out.length : Int)
    · refine Z8 (bT hm (eM (hV 9 20 (by decide) rfl))) ?_
      rw [if_pos hm]
      exact Y9 (vs := []) func272 trivial ⟨H2, vo, Co, rfl, s2, hS.dropA, ho.mono s2⟩
    rw [if_neg hm]
    refine Z7 (bF hm (eM (hV 9 20 (by decide) rfl))) (Y6 ?_)
    repeat refine Z1 ?_
    refine Z0 (Z3 (vI ((ds.length - 0 : Nat) : Int)) (evT (hB 1 rfl) rfl) rfl (Z3 (vP bl) (evT (hB 0 rfl) rfl) rfl (V4 rfl rfl (Y2 Xc5 rfl rfl ?_))))
    refine Y0 vd P4 rfl (hS.get (mR mL)) rfl rfl ?_
    refine X9 U5 rfl (hd.mono s2) rfl ?_
    refine Za0 (k := .i64) (a := ((ds.length - 0 : Nat) : Int)) (b := (ds.length : Int)) rfl rfl rfl (Z2 ?_)
    repeat refine Z1 ?_
    refine Z8 (bT (by omega) rfl) ?_
    repeat refine Z1 ?_
    refine Z0 (Z3 (vI left) (evT (hB 3 rfl) rfl) rfl ?_)
    refine Za0 (k := .i64) (a := left) (b := 0) rfl rfl rfl (Z2 ?_)
    repeat refine Z1 ?_
    by_cases h0 : left = 0
    case neg =>
      refine Z7 (bF h0 rfl) (Y6 ?_)
      rw [if_neg h0]
      exact Y9 (vs := []) func272 trivial ⟨H2, vo, Co, rfl, s2, hS.dropA, ho.mono s2⟩
    refine Z8 (bT h0 rfl) ?_
    rw [if_pos h0]
    repeat refine Z1 ?_
    refine Xk6 fun f3 hf3 => ?_
    have t0 : tv f3 0 = vP bl := by rw [hf3]; exact (evT (hB 0 rfl) rfl)
    have t6 : tv f3 6 = vP bp := by rw [hf3]; exact (evT (hB 6 rfl) rfl)
    clear hf3 hB hV
    have hsw : St H2 w2 (Co ++ ([(bp, .cells (Z6 .i64 p).toArray 222)] ++ ([(bl, .cells #[vd, vI most, vo] 298)] ++ L))) := hS.perm (Zb1 (A1 := [(bp, .cells (Z6 .i64 p).toArray 222)]) (A2 := [(bl, .cells #[vd, vI most, vo] 298)]))
    refine Wy6 7 (S9 [mE 30 (vP bl), mE 31 (vP bl), mE 32 (vP bl), mE 33 (vQ bl 2), mE 34 vo, mE 35 (vA (Z6 .i64 p)), (36, MP.sl (Q9 .i64) [p])]) (fun G w v => ∃ C', St G w (C' ++ ([(bp, .cells (Z6 .i64 p).toArray 222)] ++ ([(bl, .cells #[vd, vI most, vo] 298)] ++ L))) ∧ X8 (Q9 .i64) 222 G v (out ++ [p]) C') mixed
      (Xr6 (by intro p hp v; simp only [List.mem_cons, List.not_mem_nil, or_false] at hp; rcases hp with rfl | rfl | rfl | rfl | rfl | rfl | rfl <;> rfl)) rfl rfl (j0 := 0) rfl rfl rfl rfl rfl rfl rfl (fun _ _ => t0) hsw
      (U1 rfl ?_ (U1 rfl ?_ (U1 rfl ?_ (U1 rfl ?_ (U1 rfl ?_ (U1 rfl ?_ (U1 rfl ?_ V1))))))) ?_ ?_
    · exact X4 fun S B => Z3 _ (evT (B 0 rfl) t0) rfl (qz S)
    · exact X4 fun S B => Z3 _ (evT (B 0 rfl) t0) rfl (qz S)
    · exact Y7 fun S V => V4 (eM (V 1 31 rfl rfl)) rfl (qz S)
    · exact Y7 fun S V => Y2 Yf0 (eM (V 2 32 rfl rfl)) rfl (qz S)
    · exact Y7 fun S V => Y0 vo Xj9 (eM (V 3 33 rfl rfl)) (S.get (mR (mR (mR mL)))) rfl rfl (qz S)
    · exact X4 fun S B => W3 Q6 (evT (B 6 rfl) t6) (S.get (mR (mR mL))) rfl rfl (qz S)
    · intro f w G X s S B V _
      refine Zc2 (τ := (Q9 .i64)) Ya2 Zk4 rfl [vA (Z6 .i64 p)] [p] rfl rfl (E7 (eM (V 5 35 rfl rfl))) (Zk6 rfl) (by decide) (by decide) S rfl ?_
      intro u G2 w2 s2 S hl
      exact qn s2 rfl S hl
    · intro f w G s S B V
      have hg : (MP.sl (Q9 .i64) [p]).p G (f 36) := V 6 36 (by decide) (by decide) rfl
      refine N6 (τ := Q9 .i64) Vg9 rfl (eM (V 4 34 (by decide) (by decide) rfl)) (show ev f (.tmp 36) = f 36 from rfl) ((ho.mono s2).mono s) S hg (by simp; omega) rfl ?_
      intro v' w' C' ho' S'
      exact Z2 ⟨v', G, rfl, .refl _, C', S', ho'⟩
    rintro f4 w4 H4 s4 ⟨C', hS, ho'⟩ hB hV
    refine V4 (eM (hV 0 30 (by decide) rfl)) rfl (Y2 Yf0 rfl rfl ?_)
    have hS : St H4 w4 ([(bl, .cells #[vd, vI most, vo] 298)] ++ (C' ++ ([(bp, .cells (Z6 .i64 p).toArray 222)] ++ L))) := hS.perm (Zb1 (A1 := C') (A2 := [(bp, .cells (Z6 .i64 p).toArray 222)]))
    refine Zd3 (v := f4 37) (cs := #[vd, vI most, vo]) (cs' := #[vd, vI most, f4 37]) Xj9 rfl rfl hS ho'.isOne rfl (nl rfl) rfl ?_
    intro w5 hS
    refine Z2 ?_
    have hS : St H4 w5 ([(bl, .cells #[vd, vI most, f4 37] 298)] ++ (C' ++ L)) := by
      have h1 : St H4 w5 (([(bl, .cells #[vd, vI most, f4 37] 298)] ++ C') ++ ([(bp, .cells (Z6 .i64 p).toArray 222)] ++ L)) := by rw [List.append_assoc]; exact hS
      have h2 := St.dropMid h1
      rw [List.append_assoc] at h2; exact h2
    exact Y9 (vs := []) func272 trivial ⟨H4, f4 37, C', rfl, s2.trans s4, hS, ho'⟩
  | succ g ih =>
    intro hg H w L Co vd vo bl p left out hl hd ho hlen hS
    rw [lsF]
    have hnd := hds _ (show rd ds ((ds.length - (g + 1) : Nat) : Int) ∈ ds by
      unfold rd
      rw [Int.toNat_natCast, List.getD_eq_getElem?_getD, List.getElem?_eq_getElem (show ds.length - (g + 1) < ds.length by omega)]
      exact List.getElem_mem _)
    have hir : ds.length - (g + 1) + 1 + g = ds.length := by omega
    generalize ds.length - (g + 1) = i at *
    obtain ⟨htop0, htop1, htop2⟩ := Vg2 hnd hl
    have hq0 : 0 ≤ left.tdiv (rd ds (i : Int)) := Int.tdiv_nonneg hl.1 (by omega)
    have hq1 : left.tdiv (rd ds (i : Int)) ≤ left := by rw [Int.tdiv_eq_ediv_of_nonneg hl.1]; exact Int.ediv_le_self _ hl.1
    generalize hnn : rd ds (i : Int) = n at *
    refine X0 func272 rfl ntmps272 rfl ?_
    repeat refine Z1 ?_
    refine Z0 ?_
    refine T7 (v := .agg (Z6 .i64 p).toArray) (Z6 .i64 p).toArray rfl rfl hS rfl ?_
    intro bp w1 hS
    refine Z2 ?_
    repeat refine Z1 ?_
    refine W7 10 (S9 [mE 11 (vP bl), mE 12 (vP bl), mE 13 (vQ bl 2), mE 14 vo, mE 15 (vI out.length), mE 16 (vP bl), mE 17 (vP bl), mE 18 (vQ bl 1), mE 19 (vI most), mE 20 (vB (decide (most < (out.length : Int))))]) [] mixed rfl rfl rfl hS (V9 ?_ ?_ ?_ ?_ ?_ ?_ ?_ ?_ (J2 ?_ ?_ V1)) ?_
    · exact X4 fun S B => Z3 _ (evT (B 0 rfl) rfl) rfl (qz S)
    · exact Y7 fun S V => V4 (eM (V 0 11 rfl rfl)) rfl (qz S)
    · exact Y7 fun S V => Y2 Yf0 (eM (V 1 12 rfl rfl)) rfl (qz S)
    · exact Y7 fun S V => Y0 vo Xj9 (eM (V 2 13 rfl rfl)) (S.get (mR (mR mL))) rfl rfl (qz S)
    · exact P0 fun s S V => Yd0 Ya2 (eM (V 3 14 rfl rfl)) (ho.mono s) rfl (qz S)
    · exact X4 fun S B => Z3 _ (evT (B 0 rfl) rfl) rfl (qz S)
    · exact Y7 fun S V => V4 (eM (V 5 16 rfl rfl)) rfl (qz S)
    · exact Y7 fun S V => Y2 Xx5 (eM (V 6 17 rfl rfl)) rfl (qz S)
    · exact Y7 fun S V => Y0 (vI most) ty3 (eM (V 7 18 rfl rfl)) (S.get (mR (mR mL))) rfl rfl (qz S)
    · exact Y7 fun S V => Za9 (k := .i64) (a := (out.length : Int)) (b := most) (eM (V 4 15 rfl rfl)) (eM (V 8 19 rfl rfl)) rfl (qz S)
    intro f2 w2 H2 s2 hS hB hV _
    have hS : St H2 w2 ([(bp, .cells (Z6 .i64 p).toArray 222)] ++ ([(bl, .cells #[vd, vI most, vo] 298)] ++ (Co ++ L))) := hS
    refine Z2 ?_
    repeat refine Z1 ?_
    by_cases hm : most < (out.length : Int)
    · refine Z8 (bT hm (eM (hV 9 20 (by decide) rfl))) ?_
      rw [if_pos hm]
      exact Y9 (vs := []) func272 trivial ⟨H2, vo, Co, rfl, s2, hS.dropA, ho.mono s2⟩
    rw [if_neg hm]
    refine Z7 (bF hm (eM (hV 9 20 (by decide) rfl))) (Y6 ?_)
    repeat refine Z1 ?_
    have hd2 := hd.mono s2
    refine Z0 (Z3 (vI (i : Int)) (evT (hB 1 rfl) rfl) rfl (Z3 (vP bl) (evT (hB 0 rfl) rfl) rfl (V4 rfl rfl (Y2 Xc5 rfl rfl ?_))))
    refine Y0 vd P4 rfl (hS.get (mR mL)) rfl rfl ?_
    refine X9 U5 rfl hd2 rfl ?_
    refine Za0 (k := .i64) (a := (i : Int)) (b := (ds.length : Int)) rfl rfl rfl (Z2 ?_)
    repeat refine Z1 ?_
    refine Z7 (bF (by omega) rfl) (Y6 ?_)
    repeat refine Z1 ?_
    refine Z0 (Z3 (vP bl) (evT (hB 0 rfl) rfl) rfl (V4 rfl rfl (Y2 Xc5 rfl rfl ?_)))
    refine Y0 vd P4 rfl (hS.get (mR mL)) rfl rfl (Z3 (vI (i : Int)) (evT (hB 1 rfl) rfl) rfl ?_)
    obtain ⟨b, o, cs, E, _, hp, hb, rfl, hc⟩ := hd2.elem (i := (i : Int)) (by omega) (by omega)
    refine X5 U5 rfl rfl hp rfl (by omega) (by omega) rfl ?_
    refine Y0 (vI n) ty2 rfl (hS.froz _ _ hb) (by have h := hc 0 (show 0 < 1 by decide); rw [hnn] at h; exact h) rfl (Z5 (vI n) rfl rfl (Z2 ?_))
    repeat refine Z1 ?_
    refine Z0 (Z3 (vI left) (evT (hB 3 rfl) rfl) rfl (Z3 (vI n) rfl rfl ?_))
    refine Xq0 (left.tdiv n) rfl rfl (by omega) (IntWalk.i64_in _ (by omega)) rfl ?_
    refine Xq1 rfl rfl rfl (Z5 (vI (if 20 < left.tdiv n then 20 else left.tdiv n)) rfl rfl (Z2 ?_))
    repeat refine Z1 ?_
    refine Z0 (Z3 (vI n) rfl rfl ?_)
    refine Zc1 (n.tmod 2) rfl rfl (by decide) rfl rfl ?_
    refine Za0 (k := .i64) (a := n.tmod 2) (b := 1) rfl rfl rfl (Z2 ?_)
    repeat refine Z1 ?_
    refine N4 (fun f w => St H2 w ([(bp, .cells (Z6 .i64 p).toArray 222)] ++ ([(bl, .cells #[vd, vI most, vo] 298)] ++ (Co ++ L))) ∧ tv f 0 = vP bl ∧ tv f 1 = vI (i : Int) ∧ tv f 3 = vI left ∧ tv f 6 = vP bp ∧ tv f 8 = vI n ∧ tv f 9 = vI (Zr1 n left)) ?_ ?_
    · rintro f3 w3 ⟨hS, t0, t1, t3, t6, t8, t9⟩
      repeat refine Z1 ?_
      refine Z0 (Z3 (vI (Zr1 n left)) t9 rfl (Z5 (vI (Zr1 n left)) rfl rfl (Z2 ?_)))
      repeat refine Z1 ?_
      refine Y8 ?_
      refine W0 (id := 0) (fun k f w => ∃ (x : Nat) (H1 : FH) (pc : A8) (vo1 : Value) (Co1 : OL) (out1 : List A8), (x : Int) ≤ Zr1 n left + 1 ∧ x < k ∧ Sub H H1 ∧ St H1 w ([(bp, .cells (Z6 .i64 pc).toArray 222)] ++ ([(bl, .cells #[vd, vI most, vo1] 298)] ++ (Co1 ++ L))) ∧ X8 (Q9 .i64) 222 H1 vo1 out1 Co1 ∧ (out1.length : Int) ≤ most + 1 ∧ (∀ e, U8 pc (i : Int) e = U8 p (i : Int) e) ∧
          ((List.range x).reverse).foldl (fun o (e : Nat) => lsF ds most g (U8 p (i : Int) (e : Int)) (left - (e : Int) * n) o) out1 = ((List.range ((Zr1 n left).toNat + 1)).reverse).foldl (fun o (e : Nat) => lsF ds most g (U8 p (i : Int) (e : Int)) (left - (e : Int) * n) o) out ∧ tv f 0 = vP bl ∧ tv f 1 = vI (i : Int) ∧ tv f 3 = vI left ∧ tv f 6 = vP bp ∧ tv f 8 = vI n ∧ tv f 10 = vI ((x : Int) - 1))
        (fun f w => ∃ (H1 : FH) (vo1 : Value) (Co1 : OL), Sub H H1 ∧ St H1 w ([(bl, .cells #[vd, vI most, vo1] 298)] ++ (Co1 ++ L)) ∧ X8 (Q9 .i64) 222 H1 vo1 (((List.range ((Zr1 n left).toNat + 1)).reverse).foldl (fun o (e : Nat) => lsF ds most g (U8 p (i : Int) (e : Int)) (left - (e : Int) * n) o) out) Co1) rfl ?_ ?_ ((Zr1 n left).toNat + 2) ?_ ?_
      · rintro f w ⟨x, H1, pc, vo1, Co1, out1, h1, h2, _⟩; omega
      · rintro k f w ihk hx ⟨x, H1, pc, vo1, Co1, out1, h1, h2, Z4, hS, ho, hlen, hpc, hfold, t0, t1, t3, t6, t8, t10⟩
        repeat refine Z1 ?_
        refine Z0 (Z3 (vI ((x : Int) - 1)) (by exact t10) rfl ?_)
        refine Ya0 (k := .i64) (a := (x : Int) - 1) (b := 0) rfl rfl rfl (Z2 ?_)
        repeat refine Z1 ?_
        by_cases hx0 : (0 : Int) ≤ (x : Int) - 1
        case neg =>
          refine Z7 (bF hx0 rfl) (X7 rfl ?_)
          have e : x = 0 := by omega
          subst e
          rw [List.range_zero, List.reverse_nil, List.foldl_nil] at hfold
          exact hx _ _ ⟨H1, vo1, Co1, Z4, hS.dropA, by rw [← hfold]; exact ho⟩
        refine Z8 (bT hx0 rfl) (Y6 ?_)
        obtain ⟨y, rfl⟩ : ∃ y, x = y + 1 := ⟨x - 1, by omega⟩
        have t10 : tv f 10 = vI (y : Int) := by rw [t10]; congr 1; omega
        rw [List.range_succ, List.reverse_append, List.reverse_singleton, List.singleton_append, List.foldl_cons] at hfold
        have hyn : 0 ≤ (y : Int) * n ∧ (y : Int) * n ≤ left := by
          have hy : (y : Int) ≤ Zr1 n left := by omega
          exact ⟨Int.mul_nonneg (by omega) (by omega), Int.le_trans (Int.mul_le_mul_of_nonneg_right hy (by omega)) htop2⟩
        repeat refine Z1 ?_
        refine Y8 ?_
        repeat refine Z1 ?_
        refine Z0 (Z3 (vI (i : Int)) (by exact t1) rfl (Z3 (vI (y : Int)) (by exact t10) rfl ?_))
        refine V5 Zk7 (by exact t6) rfl (by omega) (by omega) rfl ?_
        refine K6 (v := vI (y : Int)) (cs := (Z6 .i64 pc).toArray) (cs' := (Z6 .i64 (U8 pc (i : Int) (y : Int))).toArray) ty3 rfl rfl hS rfl (Zs5 rfl) (by simp [Z6]; omega) (Zh7 (by omega) (by omega)) ?_
        intro w4 hS
        refine Z2 ?_
        repeat refine Z1 ?_
        refine Z0 (Z3 (vP bl) (by exact t0) rfl (Z3 (vI (i : Int)) (by exact t1) rfl ?_))
        refine W2 ((i : Int) + 1) rfl rfl (IntWalk.i64_in _ (by omega)) rfl ?_
        refine W3 Q6 (by exact t6) (hS.get mL) rfl rfl (Z3 (vI left) (by exact t3) rfl (Z3 (vI (y : Int)) (by exact t10) rfl (Z3 (vI n) (by exact t8) rfl ?_)))
        refine Zg4 ((y : Int) * n) rfl rfl (IntWalk.i64_in _ (by omega)) rfl ?_
        refine Zk8 (left - (y : Int) * n) rfl rfl (IntWalk.i64_in _ (by omega)) rfl ?_
        have hS := hS.perm (Zb1 (A1 := [(bl, Obj.cells #[vd, vI most, vo1] 298)]) (A2 := Co1)).symm
        refine U9 call272 (Ww8 rfl (congrArg vI (show (i : Int) + 1 = ((ds.length - g : Nat) : Int) by omega)) rfl rfl) rfl (ih (by omega) (p := U8 pc (i : Int) (y : Int)) (left := left - (y : Int) * n) ⟨by omega, by omega⟩ (hd.mono Z4) ho hlen hS) ?_
        rintro e5 w5 ⟨H5, vo5, Co5, rfl, s5, hS, ho5⟩
        refine ⟨_, rfl, Z2 ?_⟩
        have hS := hS.perm (Zb1 (B := [(bp, Obj.cells (Z6 .i64 (U8 pc (i : Int) (y : Int))).toArray 222)]) (A1 := [(bl, Obj.cells #[vd, vI most, vo5] 298)]) (A2 := Co5))
        refine X1 (Z0 (Z3 (vI (y : Int)) (by exact t10) rfl ?_))
        refine Zk8 ((y : Int) - 1) rfl rfl (IntWalk.i64_in _ (by omega)) rfl (Z5 (vI ((y : Int) - 1)) rfl rfl (Z2 ?_))
        rw [hpc (y : Int)] at ho5
        exact ihk _ _ ⟨y, H5, U8 pc (i : Int) (y : Int), vo5, Co5, _, by omega, by omega, Z4.trans s5, hS, ho5, Wd2 ds most g _ _ _ hlen, fun e => by rw [Xh3]; exact hpc e, hfold, t0, t1, t3, t6, t8, rfl⟩
      · exact ⟨(Zr1 n left).toNat + 1, H2, p, vo, Co, out, by omega, by omega, s2, hS, ho.mono s2, hlen, fun _ => rfl, rfl, t0, t1, t3, t6, t8, by show vI (Zr1 n left) = vI ((((Zr1 n left).toNat + 1 : Nat) : Int) - 1); congr 1; omega⟩
      · rintro f w ⟨H1, vo1, Co1, Z4, hS, ho⟩
        exact Yo7 (vs := []) func272 trivial ⟨H1, vo1, Co1, rfl, Z4, hS, ho⟩
    intro hJ
    by_cases hodd : n.tmod 2 = 1
    · refine Z8 (bT hodd rfl) ?_
      refine Z0 (Z3 (vI (if 20 < left.tdiv n then 20 else left.tdiv n)) rfl rfl ?_)
      refine Xq1 rfl rfl rfl (Z5 (vI (if 1 < (if 20 < left.tdiv n then 20 else left.tdiv n) then 1 else (if 20 < left.tdiv n then 20 else left.tdiv n))) rfl rfl (Z2 ?_))
      exact hJ _ _ ⟨hS, (evT (hB 0 rfl) rfl), (evT (hB 1 rfl) rfl), (evT (hB 3 rfl) rfl), (evT (hB 6 rfl) rfl), rfl, by unfold Zr1; rw [if_pos hodd]; rfl⟩
    · refine Z7 (bF hodd rfl) (Y6 ?_)
      exact hJ _ _ ⟨hS, (evT (hB 0 rfl) rfl), (evT (hB 1 rfl) rfl), (evT (hB 3 rfl) rfl), (evT (hB 6 rfl) rfl), rfl, by unfold Zr1; rw [if_neg hodd]; rfl⟩
def B0 (K : Nat) (a0 : (List Int)) (a1 : (List A8)) : Nat → Int → MpT → Option (Ex MpT (MpT))
 | 0, _, _ => none
 | k + 1, a3, a4 => (if a3 < (a1.length : Int) then (if a3 < (a0.length : Int) then (if (rd a0 a3) = 0 then B0 K a0 a1 k (a3 + 1) a4 else (if a4.length + ([((rd a1 a3), (rd a0 a3))]).length ≤ 1099511627776 then B0 K a0 a1 k (a3 + 1) (a4 ++ [((rd a1 a3), (rd a0 a3))]) else none)) else none) else some (.go a4))
def Zr7 (K : Nat) (a0 : (List Int)) (a1 : (List A8)) : Option MpT := ((B0 K a0 a1 K 0 ([] : List (A8 × Int))).bind (Ex.elim (fun r => some r) (fun s => (fun (b0 : MpT) => some b0) s)))
theorem Yz0 {a0 : (List Int)} {a1 : (List A8)} {r : MpT} (q0 : Zr7 K a0 a1 = some r) (c2 : Y3 (Y5 .i64) H s0 a0) (b9 : Y3 (Q9 .u8) H s1 a1) (hS : St H w L) :
 Calls prog 169 #[s0, s1] w (U7 (fun v G => (R.agg (X2 yT)).p G v r) H L) := by
 have Z4 := Sub.refl H
 refine X0 func169 rfl ntmps169 rfl ?_
 unfold Zr7 at q0
 refine Z1 (Z0 ?_)
 refine U4 (z := vA ([vN])) ([vN]).toArray Zl9.zero rfl hS rfl ?_
 intro b1 _ hS
 refine Z2 (Z1 (Z0 ?_))
 refine B5 (vA ([vN])) Yr1 rfl ?_
 refine U4 (z := vA ([vN])) ([vN]).toArray Zl9.zero rfl hS rfl ?_
 intro b4 _ hS
 refine W4 (v := vA ([vN])) (vs := ([vN]).toArray) (cs := ([vN]).toArray) Q4 rfl rfl rfl hS rfl (Zb5 rfl) rfl ?_
 intro _ hS
 refine Z2 (Z1 (Z1 (Z0 (Z5 (vI 0) rfl rfl (Z2 (Y8 ?_))))))
 have d0 : X8 yT 78 H (.slice none 0 0) [] [] := X8.nil _ _ _
 obtain ⟨d1, a7, d2⟩ := bind_some q0
 refine W0 (id := 0) (fun k f w => ∃ (a3 : Int) (a4 : MpT) (H1 : FH) (a6 : OL) (a5 : Value), B0 K a0 a1 k a3 a4 = some d1 ∧ Sub H H1 ∧ St H1 w (a6 ++ ([(b4, cA ([a5]) 45)] ++ ([(b1, cA ([vN]) 45)] ++ L))) ∧ 0 ≤ a3 ∧ X8 yT 78 H1 a5 a4 a6 ∧ Y3 (Y5 .i64) H1 s0 a0 ∧ Y3 (Q9 .u8) H1 s1 a1 ∧ tv f 0 = s0 ∧ tv f 1 = s1 ∧ tv f 4 = vP b1 ∧ tv f 5 = vP b4 ∧ tv f 6 = vI a3) (fun f w => ∃ (b0 : MpT) (H1 : FH) (b3 : OL) (a8 : Value), d1 = .go b0 ∧ Sub H H1 ∧ St H1 w (b3 ++ ([(b4, cA ([a8]) 45)] ++ ([(b1, cA ([vN]) 45)] ++ L))) ∧ X8 yT 78 H1 a8 b0 b3 ∧ tv f 4 = vP b1 ∧ tv f 5 = vP b4) rfl ?_ ?_ K ?_ ?_
 rintro f w ⟨a3, a4, H1, a6, a5, a7, _⟩
 rw [B0] at a7; cases a7
 rintro k _ _ e4 f7 ⟨a3, a4, d3, a6, a5, a7, Z4, hS, _, a9, c2, b9, b6, b7, c1, b8, b2⟩
 rw [B0] at a7
 refine Z1 (Z1 (Z0 (Z3 (vI a3) (by exact b2) rfl (Z3 (s1) (by exact b7) rfl ?_))))
 have g2 := b9.bound
 refine X9 Yb1 rfl b9 rfl ?_
 refine W8 (k := .i64) (a := a3) (b := (a1.length : Int)) rfl rfl rfl (Z2 ?_)
 obtain ⟨d4, a7⟩ | ⟨d4, a7⟩ := ic a7
 refine Z8 (bT d4 rfl) (Y6 (Z1 (Y8 (Z1 (Z0 (Z3 (s0) (by exact b6) rfl (Z3 (vI a3) (by exact b2) rfl ?_)))))))
 obtain ⟨_, a7⟩ := gd a7
 obtain ⟨_, _, _, _, _, e5, e6, rfl, e7⟩ := c2.elem (i := a3) (by omega) (by omega)
 refine X5 U5 rfl rfl e5 rfl (by omega) (by omega) rfl ?_
 refine Y0 (vI (rd a0 a3)) ty2 rfl (hS.froz _ _ e6) (e7 0 (show 0 < 1 by decide)) rfl ?_
 refine M0 (k := .i64) (a := (rd a0 a3)) (b := 0) rfl rfl rfl (Z2 ?_)
 obtain ⟨c5, a7⟩ | ⟨c5, a7⟩ := ic a7
 refine Z7 (bN c5 rfl) (Y6 (X1 (Z0 (Z3 (vI a3) (by exact b2) rfl ?_))))
 refine W2 (a3 + 1) rfl rfl (IntWalk.i64_in _ (by omega)) rfl (Z5 (vI (a3 + 1)) rfl rfl (Z2 ?_))
 exact e4 _ _ ⟨(a3 + 1), a4, d3, a6, a5, a7, Z4, hS, (by omega), a9, c2, b9, b6, b7, c1, b8, rfl⟩
 refine Z8 (bO c5 rfl) ?_
 obtain ⟨f8, f9, _, _, _, e8, e9, rfl, f0⟩ := b9.elem (i := a3) (by omega) (by omega)
 obtain ⟨g0, g1, _, _, _, f1, f2, rfl, f3⟩ := c2.elem (i := a3) (by omega) (by omega)
 refine W7 12 (S9 [mE 19 (vP b4), mE 20 (a5), mE 21 (s1), mE 22 (vI a3), mE 23 (vQ f8 f9), mE 24 (vA (Z6 .u8 (rd a1 a3))), mE 25 (s0), mE 26 (vI a3), mE 27 (vQ g0 g1), mE 28 (vI (rd a0 a3)), mE 29 (vA (Z6 .u8 (rd a1 a3) ++ [vI (rd a0 a3)])), (30, MP.sl yT ([((rd a1 a3), (rd a0 a3))]))]) [] mixed rfl rfl rfl hS (V9 ?_ ?_ ?_ ?_ ?_ ?_ ?_ ?_ (J9 ?_ ?_ ?_ ?_ V1)) ?_
 exact X4 fun S B => Y2 U3 (evT (B 5 rfl) b8) rfl (qz S)
 exact Y7 fun S V => Y0 (a5) Q7 (eM (V 0 19 rfl rfl)) (S.get (mR (mR mL))) rfl rfl (qz S)
 exact X4 fun S B => Z3 (s1) (evT (B 1 rfl) b7) rfl (qz S)
 exact X4 fun S B => Z3 (vI a3) (evT (B 6 rfl) b2) rfl (qz S)
 exact Y7 fun S V => X5 Yb1 rfl (eM (V 2 21 rfl rfl)) e8 (eM (V 3 22 rfl rfl)) (by omega) (by omega) rfl (qz S)
 exact P0 fun s S V => V0 (Z6 .u8 (rd a1 a3)) P5 (eM (V 4 23 rfl rfl)) (S.froz _ _ (s.1 _ _ e9)) rfl f0 rfl (qz S)
 exact X4 fun S B => Z3 (s0) (evT (B 0 rfl) b6) rfl (qz S)
 exact X4 fun S B => Z3 (vI a3) (evT (B 6 rfl) b2) rfl (qz S)
 exact Y7 fun S V => X5 U5 rfl (eM (V 6 25 rfl rfl)) f1 (eM (V 7 26 rfl rfl)) (by omega) (by omega) rfl (qz S)
 exact P0 fun s S V => Y0 (vI (rd a0 a3)) ty2 (eM (V 8 27 rfl rfl)) (S.froz _ _ (s.1 _ _ f2)) (f3 0 (show 0 < 1 by decide)) rfl (qz S)
 exact Y7 fun S V => Zu1 (Z6 .u8 (rd a1 a3) ++ [vI (rd a0 a3)]) Xl8 (Zz7 (eM (V 5 24 rfl rfl)) (eM (V 9 28 rfl rfl))) (F2 rfl rfl rfl (nl rfl) (F2 rfl rfl rfl (nl rfl) (Zp8 rfl))) rfl (qz S)
 intro _ _ _ _ _ hS _ d7 hcq
 refine Zc2 (τ := yT) R9 Ye6 rfl [vA (Z6 .u8 (rd a1 a3) ++ [vI (rd a0 a3)])] [((rd a1 a3), (rd a0 a3))] rfl rfl (E7 (eM (d7 10 29 rfl rfl))) (Zk6 ⟨_, _, rfl, rfl, rfl⟩) (by decide) (by decide) hS rfl ?_
 intro _ _ _ d8 hS d9
 exact qn d8 rfl hS d9
 intro _ f4 d5 c3 hS c0 c7 hcq
 have hS : St d5 f4 (a6 ++ ([(b4, cA ([a5]) 45)] ++ ([(b1, cA ([vN]) 45)] ++ L))) := hS
 have Z4 := Z4.trans c3
 have c2 := c2.mono c3
 have b9 := b9.mono c3
 have a9 := a9.mono c3
 have d6 := evT (c0 5 rfl) b8
 obtain ⟨_, f5, e0⟩ := gvS (c7 11 30 (by decide) rfl)
 obtain ⟨e1, a7⟩ := gd a7
 refine N6 (τ := yT) Xa7 rfl (by exact (eM (c7 1 20 (by decide) rfl))) (by exact f5) a9 hS e0 e1 rfl ?_
 intro c6 _ f6 c8 hS
 refine Y2 U3 (by exact d6) rfl ?_
 have hS := hS.perm R6
 refine Zd3 (v := c6) (cs := ([a5]).toArray) (cs' := ([c6]).toArray) Q7 rfl rfl hS c8.isOne rfl (nl rfl) rfl ?_
 intro _ hS
 have hS := hS.perm R6.symm
 refine Z2 (X1 (Z0 (Z3 (vI a3) (by exact (evT (c0 6 rfl) b2)) rfl ?_)))
 refine W2 (a3 + 1) rfl rfl (IntWalk.i64_in _ (by omega)) rfl (Z5 (vI (a3 + 1)) rfl rfl (Z2 ?_))
 exact e4 _ _ ⟨(a3 + 1), (a4 ++ [((rd a1 a3), (rd a0 a3))]), d5, f6, c6, a7, Z4, hS, (by omega), c8, c2, b9, (evT (c0 0 rfl) b6), (evT (c0 1 rfl) b7), (evT (c0 4 rfl) c1), d6, rfl⟩
 refine Z7 (bF d4 rfl) ?_
 refine X7 rfl ?_
 obtain rfl := oi a7
 exact f7 _ _ ⟨a4, d3, a6, a5, rfl, Z4, hS, a9, c1, b8⟩
 exact ⟨0, ([] : List (A8 × Int)), H, ([]), (vN), a7, Z4, hS, (by omega), d0, c2, b9, rfl, rfl, rfl, rfl, rfl⟩
 rintro _ _ ⟨b0, _, b3, a8, rfl, Z4, hS, b5, c4, c9⟩
 dsimp only [Ex.elim] at d2
 refine Z1 (Z0 ?_)
 refine W3 Q4 (by exact c9) (hS.get (mR mL)) rfl rfl ?_
 have hS := hS.perm Zb1
 refine W4 (v := vA ([a8])) (vs := ([a8]).toArray) (cs := ([vN]).toArray) Q4 (by exact c4) rfl rfl hS rfl (Zb5 b5.isOne) rfl ?_
 intro _ hS
 have hS := hS.perm Zb1.symm
 refine Z2 ?_
 refine Y9 (vs := [vA ([a8])]) func169 ⟨⟨_, (by exact c4), P1 Q4 (hS.get (mR (mR mL))) rfl⟩, trivial⟩ ?_
 obtain ⟨_, e2, hS, e3⟩ := b5.freeze hS
 have Z4 := Z4.trans e2
 obtain rfl := oi d2
 exact ⟨_, _, rfl, Z4, (St.dropA (St.dropA hS)), ⟨_, rfl, ⟨_, rfl, e3⟩⟩⟩
def P6 (K : Nat) (a0 : A8) (a1 : A8) : Nat → Int → Option (Ex Int (Unit))
 | 0, _ => none
 | k + 1, a3 => (if a3 < 8 then (if (Y4 a0 a3) = (Y4 a1 a3) then P6 K a0 a1 k (a3 + 1) else some (.ret (IntKind.i64.wrap ((Y4 a1 a3) - (Y4 a0 a3))))) else some (.go ()))
def D0 (K : Nat) (a0 : A8) (a1 : A8) : Option Int := ((P6 K a0 a1 K 0).bind (Ex.elim (fun r => some r) (fun s => some 0)))
theorem Zy5 {a0 : A8} {a1 : A8} {r : Int} (q0 : D0 K a0 a1 = some r) (hS : St H w L) :
 Calls prog 213 #[vA (Z6 .i64 a0), vA (Z6 .i64 a1)] w (U7 (fun v G => (R.int .i64).p G v r) H L) := by
 have Z4 := Sub.refl H
 refine X0 func213 rfl ntmps213 rfl ?_
 unfold D0 at q0
 refine Z1 (Z0 ?_)
 refine T7 (v := vA (Z6 .i64 a0)) (Z6 .i64 a0).toArray rfl rfl hS rfl ?_
 intro b1 _ hS
 refine T7 (v := vA (Z6 .i64 a1)) (Z6 .i64 a1).toArray rfl rfl hS rfl ?_
 intro b4 _ hS
 refine Z5 (vI 0) rfl rfl (Z2 (Z1 (Z1 (Z0 (Z3 (vI 0) rfl rfl (Z2 (Y8 ?_)))))))
 obtain ⟨b2, a4, a8⟩ := bind_some q0
 refine W0 (id := 0) (fun k f w => ∃ (a3 : Int) (H1 : FH), P6 K a0 a1 k a3 = some b2 ∧ Sub H H1 ∧ St H1 w ([(b4, cA (Z6 .i64 a1) 222)] ++ ([(b1, cA (Z6 .i64 a0) 222)] ++ L)) ∧ 0 ≤ a3 ∧ tv f 2 = vP b1 ∧ tv f 3 = vP b4 ∧ tv f 6 = vI a3) (fun f w => ∃ (H1 : FH), b2 = .go () ∧ Sub H H1 ∧ St H1 w ([(b4, cA (Z6 .i64 a1) 222)] ++ ([(b1, cA (Z6 .i64 a0) 222)] ++ L))) rfl ?_ ?_ K ?_ ?_
 rintro f w ⟨a3, H1, a4, _⟩
 rw [P6] at a4; cases a4
 rintro k _ _ c8 c9 ⟨a3, c3, a4, Z4, hS, _, a6, a7, a5⟩
 rw [P6] at a4
 refine Z1 (Z0 ?_)
 refine W8 (k := .i64) (a := a3) (b := 8) (by exact a5) rfl rfl (Z2 (Z1 ?_))
 obtain ⟨b3, a4⟩ | ⟨b3, a4⟩ := ic a4
 refine Z8 (bT b3 rfl) (Y6 (Z1 (Y8 (Z1 (Z0 (Z3 (vI a3) (by exact a5) rfl (Z5 (vI a3) rfl rfl (Z2 (Z1 ?_)))))))))
 refine W7 7 (S9 [mE 9 (vI a3), mE 10 (vQ b1 (0 + (a3).toNat * 1)), mE 11 (vI (Y4 a0 a3)), mE 12 (vI a3), mE 13 (vQ b4 (0 + (a3).toNat * 1)), mE 14 (vI (Y4 a1 a3)), mE 15 (vB (!decide ((Y4 a0 a3) = (Y4 a1 a3))))]) [] mixed rfl rfl rfl hS (J9 ?_ ?_ ?_ ?_ (J2 ?_ ?_ (E8 ?_ V1))) ?_
 exact X4 fun S B => Z3 (vI a3) (evT (B 5 rfl) rfl) rfl (qz S)
 exact L3 fun S B V => V5 Zk7 (evT (B 2 rfl) a6) (eM (V 0 9 rfl rfl)) (by omega) (by omega) rfl (qz S)
 exact Y7 fun S V => Y0 (vI (Y4 a0 a3)) ty3 (eM (V 1 10 rfl rfl)) (S.get (o := cA (Z6 .i64 a0) 222) (mR (mR mL))) (J3 ([]) ([]) (by omega) (by omega)) rfl (qz S)
 exact X4 fun S B => Z3 (vI a3) (evT (B 5 rfl) rfl) rfl (qz S)
 exact L3 fun S B V => V5 Zk7 (evT (B 3 rfl) a7) (eM (V 3 12 rfl rfl)) (by omega) (by omega) rfl (qz S)
 exact Y7 fun S V => Y0 (vI (Y4 a1 a3)) ty3 (eM (V 4 13 rfl rfl)) (S.get (o := cA (Z6 .i64 a1) 222) (mR mL)) (J3 ([]) ([]) (by omega) (by omega)) rfl (qz S)
 exact Y7 fun S V => M0 (k := .i64) (a := (Y4 a0 a3)) (b := (Y4 a1 a3)) (eM (V 2 11 rfl rfl)) (eM (V 5 14 rfl rfl)) rfl (qz S)
 intro b7 d0 b8 c4 hS a9 c5 hcq
 have hS : St b8 d0 ([(b4, cA (Z6 .i64 a1) 222)] ++ ([(b1, cA (Z6 .i64 a0) 222)] ++ L)) := hS
 have Z4 := Z4.trans c4
 have b9 := evT (a9 2 rfl) a6
 have c0 := evT (a9 3 rfl) a7
 have c1 : tv b7 5 = vI a3 := Eq.trans (a9 5 rfl) rfl
 have c2 : tv b7 15 = vB (!decide ((Y4 a0 a3) = (Y4 a1 a3))) := c5 6 15 (by decide) rfl
 refine Z2 ?_
 obtain ⟨b0, a4⟩ | ⟨b0, a4⟩ := ic a4
 refine Z7 (bN b0 (by exact c2)) (Y6 (X1 (Z0 ?_)))
 refine W2 (a3 + 1) (by exact (evT (a9 6 rfl) a5)) rfl (IntWalk.i64_in _ (by omega)) rfl (Z3 (vI (a3 + 1)) rfl rfl (Z2 ?_))
 exact c8 _ _ ⟨(a3 + 1), b8, a4, Z4, hS, (by omega), b9, c0, rfl⟩
 refine Z8 (bO b0 (by exact c2)) (Z1 ?_)
 refine W7 8 (S9 [mE 16 (vI a3), mE 17 (vQ b4 (0 + (a3).toNat * 1)), mE 18 (vI (Y4 a1 a3)), mE 19 (vI a3), mE 20 (vQ b1 (0 + (a3).toNat * 1)), mE 21 (vI (Y4 a0 a3)), mE 22 (vI (IntKind.i64.wrap ((Y4 a1 a3) - (Y4 a0 a3)))), mE 4 (vI (IntKind.i64.wrap ((Y4 a1 a3) - (Y4 a0 a3))))]) [] mixed rfl rfl rfl hS (V9 ?_ ?_ ?_ ?_ ?_ ?_ ?_ ?_ V1) ?_
 exact X4 fun S B => Z3 (vI a3) (evT (B 5 rfl) c1) rfl (qz S)
 exact L3 fun S B V => V5 Zk7 (evT (B 3 rfl) c0) (eM (V 0 16 rfl rfl)) (by omega) (by omega) rfl (qz S)
 exact Y7 fun S V => Y0 (vI (Y4 a1 a3)) ty3 (eM (V 1 17 rfl rfl)) (S.get (o := cA (Z6 .i64 a1) 222) (mR mL)) (J3 ([]) ([]) (by omega) (by omega)) rfl (qz S)
 exact X4 fun S B => Z3 (vI a3) (evT (B 5 rfl) c1) rfl (qz S)
 exact L3 fun S B V => V5 Zk7 (evT (B 2 rfl) b9) (eM (V 3 19 rfl rfl)) (by omega) (by omega) rfl (qz S)
 exact Y7 fun S V => Y0 (vI (Y4 a0 a3)) ty3 (eM (V 4 20 rfl rfl)) (S.get (o := cA (Z6 .i64 a0) 222) (mR (mR mL))) (J3 ([]) ([]) (by omega) (by omega)) rfl (qz S)
 exact Y7 fun S V => Zk8 (IntKind.i64.wrap ((Y4 a1 a3) - (Y4 a0 a3))) (eM (V 2 18 rfl rfl)) (eM (V 5 21 rfl rfl)) rfl rfl (qz S)
 exact Y7 fun S V => Z5 (vI (IntKind.i64.wrap ((Y4 a1 a3) - (Y4 a0 a3)))) (eM (V 6 22 rfl rfl)) rfl (qz S)
 intro _ c6 c7 b5 hS _ b6 hcq
 have hS : St c7 c6 ([(b4, cA (Z6 .i64 a1) 222)] ++ ([(b1, cA (Z6 .i64 a0) 222)] ++ L)) := hS
 have Z4 := Z4.trans b5
 refine Z2 ?_
 refine Y9 (vs := [vI (IntKind.i64.wrap ((Y4 a1 a3) - (Y4 a0 a3)))]) func213 ⟨(by exact (eM (b6 7 4 (by decide) rfl))), trivial⟩ ?_
 obtain rfl := oi a4
 dsimp only [Ex.elim] at a8
 obtain rfl := oi a8
 exact ⟨_, _, rfl, Z4, (St.dropA (St.dropA hS)), rfl⟩
 refine Z7 (bF b3 rfl) ?_
 refine X7 rfl ?_
 obtain rfl := oi a4
 exact c9 _ _ ⟨c3, rfl, Z4, hS⟩
 exact ⟨0, H, a4, Z4, hS, (by omega), rfl, rfl, rfl⟩
 rintro _ _ ⟨_, rfl, Z4, hS⟩
 dsimp only [Ex.elim] at a8
 refine Z1 (Z0 (Z5 (vI 0) rfl rfl (Z2 ?_)))
 refine Y9 (vs := [vI 0]) func213 ⟨rfl, trivial⟩ ?_
 obtain rfl := oi a8
 exact ⟨_, _, rfl, Z4, (St.dropA (St.dropA hS)), rfl⟩
def L1 (K : Nat) (a0 : (List Int)) (a1 : (List Int)) : Nat → Int → Option (Ex Bool (Unit))
 | 0, _ => none
 | k + 1, a3 => (if a3 < (a0.length : Int) then (if a3 < (a1.length : Int) then (if (rd a0 a3) = (rd a1 a3) then L1 K a0 a1 k (a3 + 1) else some (.ret false)) else none) else some (.go ()))
def Zo8 (K : Nat) (a0 : (List Int)) (a1 : (List Int)) : Option Bool := (if (a0.length : Int) = (a1.length : Int) then ((L1 K a0 a1 K 0).bind (Ex.elim (fun r => some r) (fun s => some true))) else some false)
theorem Yw5 {a0 : (List Int)} {a1 : (List Int)} {r : Bool} (q0 : Zo8 K a0 a1 = some r) (a6 : Y3 (Y5 .i64) H s0 a0) (a8 : Y3 (Y5 .i64) H s1 a1) (hS : St H w L) :
 Calls prog 19 #[s0, s1] w (U7 (fun v G => R.bool.p G v r) H L) := by
 have Z4 := Sub.refl H
 refine X0 func19 rfl ntmps19 rfl ?_
 unfold Zo8 at q0
 refine Z1 (Z0 (Z5 (vB false) rfl rfl (Z2 (Z1 (Z1 (Z0 (Z3 (s0) rfl rfl ?_)))))))
 have d5 := a6.bound
 refine X9 U5 rfl a6 rfl (Z3 (s1) rfl rfl ?_)
 have d6 := a8.bound
 refine X9 U5 rfl a8 rfl ?_
 refine M0 (k := .i64) (a := (a0.length : Int)) (b := (a1.length : Int)) rfl rfl rfl (Z2 ?_)
 obtain ⟨b4, q0⟩ | ⟨b4, q0⟩ := ic q0
 refine Z7 (bN b4 rfl) (Y6 (Z1 (Z1 (Z0 (Z5 (vI 0) rfl rfl (Z2 (Y8 ?_)))))))
 obtain ⟨b5, a4, b0⟩ := bind_some q0
 refine W0 (id := 0) (fun k f w => ∃ (a3 : Int) (H1 : FH), L1 K a0 a1 k a3 = some b5 ∧ Sub H H1 ∧ St H1 w (L) ∧ 0 ≤ a3 ∧ Y3 (Y5 .i64) H1 s0 a0 ∧ Y3 (Y5 .i64) H1 s1 a1 ∧ tv f 0 = s0 ∧ tv f 1 = s1 ∧ tv f 5 = vI a3) (fun f w => ∃ (H1 : FH), b5 = .go () ∧ Sub H H1 ∧ St H1 w (L)) rfl ?_ ?_ K ?_ ?_
 rintro f w ⟨a3, H1, a4, _⟩
 rw [L1] at a4; cases a4
 rintro k _ _ c9 d0 ⟨a3, c0, a4, Z4, hS, _, a6, a8, a7, a9, a5⟩
 rw [L1] at a4
 refine Z1 (Z1 (Z0 (Z3 (vI a3) (by exact a5) rfl (Z3 (s0) (by exact a7) rfl ?_))))
 have d7 := a6.bound
 refine X9 U5 rfl a6 rfl ?_
 refine W8 (k := .i64) (a := a3) (b := (a0.length : Int)) rfl rfl rfl (Z2 ?_)
 obtain ⟨b6, a4⟩ | ⟨b6, a4⟩ := ic a4
 refine Z8 (bT b6 rfl) (Y6 (Z1 (Y8 (Z1 ?_))))
 obtain ⟨d1, d2, _, _, _, c1, c2, rfl, c3⟩ := a6.elem (i := a3) (by omega) (by omega)
 obtain ⟨_, a4⟩ := gd a4
 obtain ⟨d3, d4, _, _, _, c4, c5, rfl, c6⟩ := a8.elem (i := a3) (by omega) (by omega)
 refine W7 9 (S9 [mE 17 (s0), mE 18 (vI a3), mE 19 (vQ d1 d2), mE 20 (vI (rd a0 a3)), mE 21 (s1), mE 22 (vI a3), mE 23 (vQ d3 d4), mE 24 (vI (rd a1 a3)), mE 25 (vB (!decide ((rd a0 a3) = (rd a1 a3))))]) [] mixed rfl rfl rfl hS (V9 ?_ ?_ ?_ ?_ ?_ ?_ ?_ ?_ (E8 ?_ V1)) ?_
 exact X4 fun S B => Z3 (s0) (evT (B 0 rfl) a7) rfl (qz S)
 exact X4 fun S B => Z3 (vI a3) (evT (B 5 rfl) a5) rfl (qz S)
 exact Y7 fun S V => X5 U5 rfl (eM (V 0 17 rfl rfl)) c1 (eM (V 1 18 rfl rfl)) (by omega) (by omega) rfl (qz S)
 exact P0 fun s S V => Y0 (vI (rd a0 a3)) ty2 (eM (V 2 19 rfl rfl)) (S.froz _ _ (s.1 _ _ c2)) (c3 0 (show 0 < 1 by decide)) rfl (qz S)
 exact X4 fun S B => Z3 (s1) (evT (B 1 rfl) a9) rfl (qz S)
 exact X4 fun S B => Z3 (vI a3) (evT (B 5 rfl) a5) rfl (qz S)
 exact Y7 fun S V => X5 U5 rfl (eM (V 4 21 rfl rfl)) c4 (eM (V 5 22 rfl rfl)) (by omega) (by omega) rfl (qz S)
 exact P0 fun s S V => Y0 (vI (rd a1 a3)) ty2 (eM (V 6 23 rfl rfl)) (S.froz _ _ (s.1 _ _ c5)) (c6 0 (show 0 < 1 by decide)) rfl (qz S)
 exact Y7 fun S V => M0 (k := .i64) (a := (rd a0 a3)) (b := (rd a1 a3)) (eM (V 3 20 rfl rfl)) (eM (V 7 24 rfl rfl)) rfl (qz S)
 intro c7 c8 b7 b1 hS b2 b9 hcq
 have hS : St b7 c8 (L) := hS
 have Z4 := Z4.trans b1
 have a6 := a6.mono b1
 have a8 := a8.mono b1
 have b8 : tv c7 25 = vB (!decide ((rd a0 a3) = (rd a1 a3))) := b9 8 25 (by decide) rfl
 refine Z2 ?_
 obtain ⟨b3, a4⟩ | ⟨b3, a4⟩ := ic a4
 refine Z7 (bN b3 (by exact b8)) (Y6 (X1 (Z0 (Z3 (vI a3) (by exact (evT (b2 5 rfl) a5)) rfl ?_))))
 refine W2 (a3 + 1) rfl rfl (IntWalk.i64_in _ (by omega)) rfl (Z5 (vI (a3 + 1)) rfl rfl (Z2 ?_))
 exact c9 _ _ ⟨(a3 + 1), b7, a4, Z4, hS, (by omega), a6, a8, (evT (b2 0 rfl) a7), (evT (b2 1 rfl) a9), rfl⟩
 refine Z8 (bO b3 (by exact b8)) (Z1 (Z0 (Z5 (vB false) rfl rfl (Z2 ?_))))
 refine Y9 (vs := [vB false]) func19 ⟨rfl, trivial⟩ ?_
 obtain rfl := oi a4
 dsimp only [Ex.elim] at b0
 obtain rfl := oi b0
 exact ⟨_, _, rfl, Z4, hS, rfl⟩
 refine Z7 (bF b6 rfl) ?_
 refine X7 rfl ?_
 obtain rfl := oi a4
 exact d0 _ _ ⟨c0, rfl, Z4, hS⟩
 exact ⟨0, H, a4, Z4, hS, (by omega), a6, a8, rfl, rfl, rfl⟩
 rintro _ _ ⟨_, rfl, Z4, hS⟩
 dsimp only [Ex.elim] at b0
 refine Z1 (Z0 (Z5 (vB true) rfl rfl (Z2 ?_)))
 refine Y9 (vs := [vB true]) func19 ⟨rfl, trivial⟩ ?_
 obtain rfl := oi b0
 exact ⟨_, _, rfl, Z4, hS, rfl⟩
 refine Z8 (bO b4 rfl) (Z1 (Z0 (Z5 (vB false) rfl rfl (Z2 ?_))))
 refine Y9 (vs := [vB false]) func19 ⟨rfl, trivial⟩ ?_
 obtain rfl := oi q0
 exact ⟨_, _, rfl, Z4, hS, rfl⟩
def Zj3 (K : Nat) (c3 : Int → Int → Int → Option (Ex Int (Int))) (a1 : Int) (a3 : Int) (a6 : Int) : Option (Ex Int (Int)) := c3 (((IntKind.i64.wrap (a1 * a1))).tmod 10007) a6 (IntKind.i64.wrap ((a3).tdiv 2))
def M7 (K : Nat) : Nat → Int → Int → Int → Option (Ex Int (Int))
 | 0, _, _, _ => none
 | k + 1, a1, a4, a3 => (if 0 < a3 then (if ((a3).tmod 2) = 1 then Zj3 K (M7 K k) a1 a3 (((IntKind.i64.wrap (a4 * a1))).tmod 10007) else Zj3 K (M7 K k) a1 a3 a4) else some (.go a4))
def Zr9 (K : Nat) (a0 : Int) : Option Int := ((M7 K K a0 1 10005).bind (Ex.elim (fun r => some r) (fun s => (fun (a7 : Int) => some a7) s)))
theorem Yy4 {a0 : Int} {r : Int} (q0 : Zr9 K a0 = some r) (hS : St H w L) :
 Calls prog 234 #[vI a0] w (U7 (fun v G => (R.int .i64).p G v r) H L) := by
 have Z4 := Sub.refl H
 refine X0 func234 rfl ntmps234 rfl ?_
 unfold Zr9 at q0
 refine Z1 (Z0 (Z5 (vI 0) rfl rfl (Z2 (Z1 (Z0 (Z5 (vI 1) rfl rfl (Z2 (Z1 (Z1 (Z0 (Z5 (vI 10005) rfl rfl (Z2 (Y8 ?_)))))))))))))
 obtain ⟨b2, a5, b6⟩ := bind_some q0
 refine W0 (id := 0) (fun k f w => ∃ (a1 : Int) (a4 : Int) (a3 : Int) (H1 : FH), M7 K k a1 a4 a3 = some b2 ∧ Sub H H1 ∧ St H1 w (L) ∧ tv f 0 = vI a1 ∧ tv f 3 = vI a4 ∧ tv f 4 = vI a3) (fun f w => ∃ (a7 : Int) (H1 : FH), b2 = .go a7 ∧ Sub H H1 ∧ St H1 w (L) ∧ tv f 3 = vI a7) rfl ?_ ?_ K ?_ ?_
 rintro f w ⟨a1, a4, a3, H1, a5, _⟩
 rw [M7] at a5; cases a5
 rintro k _ _ c4 c5 ⟨a1, a4, a3, b3, a5, Z4, hS, a9, b0, a8⟩
 rw [M7] at a5
 refine Z1 (Z1 (Z0 (Z3 (vI a3) (by exact a8) rfl ?_)))
 refine Za9 (k := .i64) (a := a3) (b := 0) rfl rfl rfl (Z2 ?_)
 obtain ⟨b7, a5⟩ | ⟨b7, a5⟩ := ic a5
 refine Z8 (bT b7 rfl) (Y6 (Z1 (Y8 (Z1 (Z1 (Z0 (Z3 (vI a3) (by exact a8) rfl ?_)))))))
 refine Zc1 ((a3).tmod 2) rfl rfl (by decide) rfl rfl ?_
 refine Za0 (k := .i64) (a := ((a3).tmod 2)) (b := 1) rfl rfl rfl (Z2 ?_)
 refine N4 (fun f w => ∃ (a6 : Int) (H1 : FH), Zj3 K (M7 K k) a1 a3 a6 = some b2 ∧ Sub H H1 ∧ St H1 w (L) ∧ tv f 0 = vI a1 ∧ tv f 3 = vI a6 ∧ tv f 4 = vI a3) ?_ ?_
 rintro _ _ ⟨a6, c1, b4, Z4, hS, b1, b8, b9⟩
 unfold Zj3 at b4
 refine Z0 (Z3 (vI a1) (by exact b1) rfl (Z3 (vI a1) (by exact b1) rfl ?_))
 refine Zg4 (IntKind.i64.wrap (a1 * a1)) rfl rfl rfl rfl ?_
 refine Zc1 (((IntKind.i64.wrap (a1 * a1))).tmod 10007) rfl rfl (by decide) rfl rfl (Z5 (vI (((IntKind.i64.wrap (a1 * a1))).tmod 10007)) rfl rfl (Z2 (X1 (Z0 (Z3 (vI a3) (by exact b9) rfl ?_)))))
 refine Xq0 (IntKind.i64.wrap ((a3).tdiv 2)) rfl rfl (by decide) rfl rfl (Z5 (vI (IntKind.i64.wrap ((a3).tdiv 2))) rfl rfl (Z2 ?_))
 exact c4 _ _ ⟨(((IntKind.i64.wrap (a1 * a1))).tmod 10007), a6, (IntKind.i64.wrap ((a3).tdiv 2)), c1, b4, Z4, hS, rfl, b8, rfl⟩
 intro c2
 obtain ⟨c0, a5⟩ | ⟨c0, a5⟩ := ic a5
 refine Z8 (bT c0 rfl) (Z0 (Z3 (vI a4) (by exact b0) rfl (Z3 (vI a1) (by exact a9) rfl ?_)))
 refine Zg4 (IntKind.i64.wrap (a4 * a1)) rfl rfl rfl rfl ?_
 refine Zc1 (((IntKind.i64.wrap (a4 * a1))).tmod 10007) rfl rfl (by decide) rfl rfl (Z5 (vI (((IntKind.i64.wrap (a4 * a1))).tmod 10007)) rfl rfl (Z2 ?_))
 exact c2 _ _ ⟨(((IntKind.i64.wrap (a4 * a1))).tmod 10007), b3, a5, Z4, hS, a9, rfl, a8⟩
 refine Z7 (bF c0 rfl) (Y6 ?_)
 exact c2 _ _ ⟨a4, b3, a5, Z4, hS, a9, b0, a8⟩
 refine Z7 (bF b7 rfl) ?_
 refine X7 rfl ?_
 obtain rfl := oi a5
 exact c5 _ _ ⟨a4, b3, rfl, Z4, hS, b0⟩
 exact ⟨a0, 1, 10005, H, a5, Z4, hS, rfl, rfl, rfl⟩
 rintro _ _ ⟨a7, _, rfl, Z4, hS, b5⟩
 dsimp only [Ex.elim] at b6
 refine Z1 (Z0 (Z3 (vI a7) (by exact b5) rfl (Z5 (vI a7) rfl rfl (Z2 ?_))))
 refine Y9 (vs := [vI a7]) func234 ⟨rfl, trivial⟩ ?_
 obtain rfl := oi b6
 exact ⟨_, _, rfl, Z4, hS, rfl⟩
section
variable {P : Program} {n : Nat} {ops : Array Oper} {J : Fr → World → Prop} {r : List Oper} {f : Fr} {w : World} {d : Nat} {T : TypeId} {pos : String} {af : Array Edge} {α : Type} {τ : Ty α} {H : FH} {v : Value} {xs : List α}
theorem Wi6 {X E : TypeId} {s : Nat} {x y : Operand} {a : Option Addr} {m c : Nat} {k : IntKind} {i : Nat} (t : SlI P X E s) (hx : ev f x = .slice a m c) (hy : ev f y = .int k i) (hm : i ≤ m) (hn : Nat.blt d n = true)
 (K : X6 P n ops J r (upd f d (.slice (if c = i then a else a.map (·.add (i * s))) (m - i) (c - i))) w) : X6 P n ops J (⟨some d, .slice X x (some y) none none, T, pos, af, none⟩ :: r) f w :=
 V6 rfl rfl hn (by simp [execOp, hx, hy, Instr.sliceAt, Instr.slice, Instr.sureAddr, Instr.sliceBounds, Instr.sliceBound, asIntOf, t.under, t.sizeOf, hm]) K
theorem Y3.dropA {a : Option Addr} {c i s : Nat} (hs : τ.size = s) (h : Y3 τ H (.slice a xs.length c) xs) (hi : i ≤ xs.length) : Y3 τ H (.slice (if c = i then a else a.map (·.add (i * s))) (xs.length - i) (c - i)) (xs.drop i) := by
 subst hs
 obtain ⟨a', c', ⟨hv, hl, hr⟩, h⟩ := h
 cases hv
 refine ⟨_, c - i, ⟨by rw [List.length_drop], by rw [List.length_drop]; omega⟩, ?_⟩
 by_cases e : i = xs.length
 exact .inl (by rw [e, List.drop_length])
 rcases h with rfl | ⟨b, o, cs, E, rfl, h2, h3⟩
 exact .inl (by simp)
 rw [if_neg (by omega)]
 refine .inr ⟨b, o + i * τ.size, cs, E, by simp [Addr.add], h2, fun j x hx => ?_⟩
 rw [List.getElem?_drop] at hx
 obtain ⟨ecs, hr, hj⟩ := h3 _ x hx
 refine ⟨ecs, hr, fun u hu => ?_⟩
 rw [← hj u hu, Nat.add_mul]
 congr 1; omega
theorem Xz4 {X E : TypeId} {s : Nat} {x y : Operand} {k : IntKind} {i : Int} (t : SlI P X E s) (hs : τ.size = s) (h : Y3 τ H v xs) (hx : ev f x = v) (hy : ev f y = .int k i) (h0 : 0 ≤ i) (hm : i ≤ xs.length) (hn : Nat.blt d n = true)
 (K : ∀ v', Y3 τ H v' (xs.drop i.toNat) → X6 P n ops J r (upd f d v') w) : X6 P n ops J (⟨some d, .slice X x (some y) none none, T, pos, af, none⟩ :: r) f w := by
 obtain ⟨i', rfl⟩ := Int.eq_ofNat_of_zero_le h0
 obtain ⟨a, c, rfl, hr⟩ := h.room
 rw [Int.toNat_natCast] at K
 exact Wi6 t hx hy (by omega) hn (K _ (h.dropA hs (by omega)))
theorem Yf9.done {E : TypeId} {L : OL} {e : Ending} {w' : World} (h : Yf9 τ E xs H L e w') : U7 (fun v G => (R.sl τ).p G v xs) H L e w' := by
 obtain ⟨v, H', C, rfl, Z4, hS, ho⟩ := h
 obtain ⟨H2, s2, hS2, hrd⟩ := ho.freeze hS
 exact ⟨_, _, rfl, Z4.trans s2, hS2, hrd⟩
end
theorem Vb4 {α : Type} {τ : Ty α} {P : Program} {n : Nat} {ops : Array Oper} {J : Fr → World → Prop} {r : List Oper} {f : Fr} {w : World} {d : Nat} {T : TypeId} {pos : String} {af : Array Edge} {H : FH} {L : OL} {X E : TypeId} {s : Nat} {z : Value} (t : SlI P X E s) (tz : ZeI P E s z) (hs : τ.size = s) (hS : St H w L) (hn : Nat.blt d n = true)
 (K : ∀ b w', X8 τ E H (.slice (some ⟨b, 0, none⟩) 0 0) [] [(b, .cells #[] E)] → St H w' ([(b, .cells #[] E)] ++ L) → X6 P n ops J r (upd f d (.slice (some ⟨b, 0, none⟩) 0 0)) w') : X6 P n ops J (⟨some d, .buildSlice X 0 #[], T, pos, af, none⟩ :: r) f w := by
 have hrun := Zr6 (P := P) (w := w) t tz [] rfl (by simp) (by simp)
 refine V6 (v := .slice (some ⟨w.heap.size, 0, none⟩) 0 0) (w' := w.alloc (.cells #[] E)) rfl rfl hn (by have h := hrun; simp only [execOp]; exact I6 (by simpa using h)) (K _ _ ?_ (hS.alloc _))
 exact .inr ⟨w.heap.size, 0, #[], rfl, by simp, by simp [maxLen], by simp, rfl, by simp⟩
def MP.lit0 : MP := ⟨fun _ v => ∃ b, v = .slice (some ⟨b, 0, none⟩) 0 0, fun _ h => h, Ww0 (.cells #[] 22)⟩
def Za6 (K : Nat) (a0 : (List Int)) : Nat → Int → Option (Ex Int (Unit))
 | 0, _ => none
 | k + 1, a1 => (if a1 < (a0.length : Int) then (if (rd a0 a1) = 0 then Za6 K a0 k (a1 + 1) else some (.ret a1)) else some (.go ()))
def B8 (K : Nat) (a0 : (List Int)) : Option Int := ((Za6 K a0 K 0).bind (Ex.elim (fun r => some r) (fun s => some (-1))))
theorem Zo9 {a0 : (List Int)} {r : Int} (q0 : B8 K a0 = some r) (a6 : Y3 (Y5 .i64) H s0 a0) (hS : St H w L) :
 Calls prog 148 #[s0] w (U7 (fun v G => (R.int .i64).p G v r) H L) := by
 have Z4 := Sub.refl H
 refine X0 func148 rfl ntmps148 rfl ?_
 unfold B8 at q0
 refine Z1 (Z0 (Z5 (vI 0) rfl rfl (Z2 (Z1 (Z1 (Z0 (Z5 (vI 0) rfl rfl (Z2 (Y8 ?_)))))))))
 obtain ⟨a8, a3, a7⟩ := bind_some q0
 refine W0 (id := 0) (fun k f w => ∃ (a1 : Int) (H1 : FH), Za6 K a0 k a1 = some a8 ∧ Sub H H1 ∧ St H1 w (L) ∧ 0 ≤ a1 ∧ Y3 (Y5 .i64) H1 s0 a0 ∧ tv f 0 = s0 ∧ tv f 3 = vI a1) (fun f w => ∃ (H1 : FH), a8 = .go () ∧ Sub H H1 ∧ St H1 w (L)) rfl ?_ ?_ K ?_ ?_
 rintro f w ⟨a1, H1, a3, _⟩
 rw [Za6] at a3; cases a3
 rintro k _ _ b2 b3 ⟨a1, a9, a3, Z4, hS, _, a6, a5, a4⟩
 rw [Za6] at a3
 refine Z1 (Z1 (Z0 (Z3 (vI a1) (by exact a4) rfl (Z3 (s0) (by exact a5) rfl ?_))))
 have b7 := a6.bound
 refine X9 U5 rfl a6 rfl ?_
 refine W8 (k := .i64) (a := a1) (b := (a0.length : Int)) rfl rfl rfl (Z2 ?_)
 obtain ⟨b0, a3⟩ | ⟨b0, a3⟩ := ic a3
 refine Z8 (bT b0 rfl) (Y6 (Z1 (Y8 (Z1 (Z0 (Z3 (s0) (by exact a5) rfl (Z3 (vI a1) (by exact a4) rfl ?_)))))))
 obtain ⟨_, _, _, _, _, b4, b5, rfl, b6⟩ := a6.elem (i := a1) (by omega) (by omega)
 refine X5 U5 rfl rfl b4 rfl (by omega) (by omega) rfl ?_
 refine Y0 (vI (rd a0 a1)) ty2 rfl (hS.froz _ _ b5) (b6 0 (show 0 < 1 by decide)) rfl ?_
 refine M0 (k := .i64) (a := (rd a0 a1)) (b := 0) rfl rfl rfl (Z2 ?_)
 obtain ⟨b1, a3⟩ | ⟨b1, a3⟩ := ic a3
 refine Z7 (bN b1 rfl) (Y6 (X1 (Z0 (Z3 (vI a1) (by exact a4) rfl ?_))))
 refine W2 (a1 + 1) rfl rfl (IntWalk.i64_in _ (by omega)) rfl (Z5 (vI (a1 + 1)) rfl rfl (Z2 ?_))
 exact b2 _ _ ⟨(a1 + 1), a9, a3, Z4, hS, (by omega), a6, a5, rfl⟩
 refine Z8 (bO b1 rfl) (Z1 (Z0 (Z3 (vI a1) (by exact a4) rfl (Z5 (vI a1) rfl rfl (Z2 ?_)))))
 refine Y9 (vs := [vI a1]) func148 ⟨rfl, trivial⟩ ?_
 obtain rfl := oi a3
 dsimp only [Ex.elim] at a7
 obtain rfl := oi a7
 exact ⟨_, _, rfl, Z4, hS, rfl⟩
 refine Z7 (bF b0 rfl) ?_
 refine X7 rfl ?_
 obtain rfl := oi a3
 exact b3 _ _ ⟨a9, rfl, Z4, hS⟩
 exact ⟨0, H, a3, Z4, hS, (by omega), a6, rfl, rfl⟩
 rintro _ _ ⟨_, rfl, Z4, hS⟩
 dsimp only [Ex.elim] at a7
 refine Z1 (Z0 (Z5 (vI (-1)) rfl rfl (Z2 ?_)))
 refine Y9 (vs := [vI (-1)]) func148 ⟨rfl, trivial⟩ ?_
 obtain rfl := oi a7
 exact ⟨_, _, rfl, Z4, hS, rfl⟩
def F5 (K : Nat) (a0 : Int) : Option Int := some (((IntKind.i64.wrap (((a0).tmod 10007) + 10007))).tmod 10007)
theorem D2 {a0 : Int} {r : Int} (q0 : F5 K a0 = some r) (hS : St H w L) :
 Calls prog 209 #[vI a0] w (U7 (fun v G => (R.int .i64).p G v r) H L) := by
 have Z4 := Sub.refl H
 refine X0 func209 rfl ntmps209 rfl ?_
 unfold F5 at q0
 refine Z1 (Z0 (Z5 (vI 0) rfl rfl (Z2 (Z1 (Z0 (Z3 (vI a0) rfl rfl ?_))))))
 refine Zc1 ((a0).tmod 10007) rfl rfl (by decide) rfl rfl ?_
 refine W2 (IntKind.i64.wrap (((a0).tmod 10007) + 10007)) rfl rfl rfl rfl ?_
 refine Zc1 (((IntKind.i64.wrap (((a0).tmod 10007) + 10007))).tmod 10007) rfl rfl (by decide) rfl rfl (Z5 (vI (((IntKind.i64.wrap (((a0).tmod 10007) + 10007))).tmod 10007)) rfl rfl (Z2 ?_))
 refine Y9 (vs := [vI (((IntKind.i64.wrap (((a0).tmod 10007) + 10007))).tmod 10007)]) func209 ⟨rfl, trivial⟩ ?_
 obtain rfl := oi q0
 exact ⟨_, _, rfl, Z4, hS, rfl⟩
def Zb8 (K : Nat) (a0 : (List Int)) : Option (List Int) := (if ([] : List Int).length + a0.length ≤ 1099511627776 then some (([] : List Int) ++ a0) else none)
end Go.Proofs.YtabofnehiclkiaaGreat
