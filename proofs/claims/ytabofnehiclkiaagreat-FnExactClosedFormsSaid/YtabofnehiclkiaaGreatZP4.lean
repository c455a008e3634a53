/- Plain laws on the pure functions. -/
import Derived.Test.YtabofnehiclkiaaGreatZP3
namespace Go.Proofs.YtabofnehiclkiaaGreat
open Go
set_option linter.unusedSimpArgs false
set_option linter.unusedVariables false
theorem Xh5 : ∀ (n : Nat) (xs ys : List Int) (x y : Int), (∀ j, j < n → xs[j]? = ys[j]?) → xs[n]? = some x → ys[n]? = some y → y < x → Zg3 xs ys = true
 | n, [], ys, x, y, _, h, _, _ => by simp at h
 | n, x0 :: xs, [], x, y, _, _, h, _ => by simp at h
 | 0, x0 :: xs, y0 :: ys, x, y, _, h1, h2, h => by
  simp at h1 h2
  subst h1; subst h2
  unfold Zg3
  rw [if_neg (by omega)]; exact decide_eq_true h
 | n + 1, x0 :: xs, y0 :: ys, x, y, hj, h1, h2, h => by
  have h0 := hj 0 (by omega)
  simp at h0
  subst h0
  unfold Zg3
  rw [if_pos rfl]
  exact Xh5 n xs ys x y (fun j hjn => by have := hj (j + 1) (by omega); simpa using this) (by simpa using h1) (by simpa using h2) h
theorem Xe6 (a : A8) {j : Nat} (h : j < 8) : (l8 a)[j]? = some (Y4 a (j : Int)) := by
 rw [T4 a h]
 match j, h with
 | 0, _ | 1, _ | 2, _ | 3, _ | 4, _ | 5, _ | 6, _ | 7, _ => rfl
theorem Wn1 {a b : A8} {n : Nat} (hn : n < 8) (h : ∀ j : Nat, j < n → Y4 a (j : Int) = Y4 b (j : Int)) (hlt : Y4 b (n : Int) < Y4 a (n : Int)) : bef a b = true :=
 Xh5 n _ _ _ _ (fun j hj => by rw [Xe6 a (by omega), Xe6 b (by omega), h j hj]) (Xe6 a hn) (Xe6 b hn) hlt
theorem Ve6 {a b : A8} (h : ∀ j : Nat, j < 8 → Y4 a (j : Int) = Y4 b (j : Int)) : a = b := by
 funext i
 have := h i.val i.isLt
 rwa [T4 a i.isLt, T4 b i.isLt] at this
theorem Yx3 (a : A8) {j : Nat} (h : ¬ j < 8) : Y4 a (j : Int) = 0 := by simp [Y4, h]
theorem Ya8 (m : A8) {n : Nat} (hn : n < 8) (x : Int) (j : Nat) : Y4 (U8 m n x) (j : Int) = if j = n then x else Y4 m (j : Int) := by
 by_cases hj : j < 8
 rw [T4 _ hj, Zf6 m hn, T4 m hj]
 rw [Yx3 _ hj, if_neg (by omega), Yx3 _ hj]
section
variable {ds : List Int}
theorem Xv9 (hd : okD ds = true) {q : A8} : ∀ (n a : Nat), a ≤ n → n ≤ ds.length → (∀ j : Nat, a ≤ j → j < n → 0 ≤ Y4 q (j : Int)) → wtN ds q a ≤ wtN ds q n
 | 0, a, h, _, _ => by rw [show a = 0 by omega]; exact Int.le_refl _
 | n + 1, a, h, hn, hq => by
  by_cases e : a = n + 1
  subst e; exact Int.le_refl _
  have ih := Xv9 hd n a (by omega) (by omega) fun j h1 h2 => hq j h1 (by omega)
  have h1 := D9 hd _ (T9 (show n < ds.length by omega))
  have h2 : 0 ≤ rd ds (n : Int) * Y4 q (n : Int) := Int.mul_nonneg (by omega) (hq n (by omega) (by omega))
  rw [wtN]; omega
theorem Xb4 {d n e : Int} (hd : 1 ≤ d ∧ d ≤ 12) (hn : 0 ≤ n ∧ n ≤ 1000) (he : 0 ≤ e) : e ≤ Zl0 d n ↔ e ≤ (if d % 2 = 1 then 1 else 20) ∧ e * d ≤ n := by
 have hq : ∀ x : Int, x ≤ n.tdiv d ↔ x * d ≤ n := fun x => by rw [Int.tdiv_eq_ediv_of_nonneg hn.1]; exact Int.le_ediv_iff_mul_le (by omega)
 rw [← hq]
 unfold Zl0
 have hq0 : 0 ≤ n.tdiv d := Int.tdiv_nonneg hn.1 (by omega)
 rw [Int.tmod_eq_emod_of_nonneg (by omega)]
 generalize n.tdiv d = q at hq0
 rcases (show d % 2 = 0 ∨ d % 2 = 1 by omega) with h | h
 rw [h]
 simp only [if_true, show ¬ ((0 : Int) = 1) by decide, if_false]
 by_cases h20 : 20 < q
 rw [if_pos h20]; omega
 rw [if_neg h20]; omega
 rw [h]
 simp only [if_true, show ¬ ((1 : Int) = 0) by decide, if_false]
 by_cases h1 : 1 < q
 simp only [h1, if_true]; rw [if_neg (by decide)]; omega
 simp only [h1, if_false]; rw [if_neg (by omega)]; omega
theorem Yx5 (hd : okD ds = true) : ∀ (g : Nat), g ≤ ds.length → ∀ (p : A8) (left : Int) (q : A8), left ≤ 1000 → 0 ≤ left → (q ∈ itF ds g p left ↔
 (∀ j : Nat, (j < ds.length - g ∨ ds.length ≤ j) → Y4 q (j : Int) = Y4 p (j : Int)) ∧ (∀ j : Nat, ds.length - g ≤ j → j < ds.length → 0 ≤ Y4 q (j : Int) ∧ Y4 q (j : Int) ≤ Zn6 ds j) ∧ wt ds q - wtN ds q (ds.length - g) = left)
 | 0, _, p, left, q, hl, hl0 => by
  unfold itF
  by_cases h : left = 0
  rw [if_pos h, List.mem_singleton]
  constructor
  rintro rfl
  exact ⟨fun _ _ => rfl, fun j h1 h2 => by omega, by unfold wt; rw [Nat.sub_zero]; omega⟩
  rintro ⟨h1, _, _⟩
  exact Ve6 fun j _ => h1 j (by omega)
  rw [if_neg h]
  constructor
  intro hq; cases hq
  rintro ⟨_, _, h3⟩
  unfold wt at h3
  rw [Nat.sub_zero] at h3; omega
 | g + 1, hg, p, left, q, hl, hl0 => by
  have hl8 := J5 hd
  rw [itF, List.mem_flatMap]
  have hi : ds.length - (g + 1) < ds.length := by omega
  have hi8 : ds.length - (g + 1) < 8 := by omega
  have e1 : ds.length - g = ds.length - (g + 1) + 1 := by omega
  have ih := fun (p : A8) (left : Int) h1 h0 => Yx5 hd g (by omega) p left q h1 h0
  rw [e1] at ih
  generalize ds.length - (g + 1) = i at *
  have hdi := D9 hd _ (T9 hi)
  have hmost : Zn6 ds i = if rd ds (i : Int) % 2 = 1 then 1 else 20 := by unfold Zn6; rw [if_pos hi]
  constructor
  rintro ⟨e, he, hq⟩
  have he := List.mem_range.1 (List.mem_reverse.1 he)
  have ht := Yy1 hdi ⟨hl0, hl⟩
  have hte := (Xb4 hdi ⟨hl0, hl⟩ (show 0 ≤ (e : Int) by omega)).1 (by omega)
  have hed : 0 ≤ (e : Int) * rd ds (i : Int) := Int.mul_nonneg (by omega) (by omega)
  obtain ⟨h1, h2, h3⟩ := (ih _ _ (by omega) (by omega)).1 hq
  have hqi : Y4 q (i : Int) = e := by rw [h1 i (by omega), Ya8 p hi8, if_pos rfl]
  refine ⟨fun j hj => ?_, fun j hj1 hj2 => ?_, ?_⟩
  rw [h1 j (by omega), Ya8 p hi8, if_neg (by omega)]
  by_cases e2 : j = i
  subst e2; rw [hqi, hmost]; exact ⟨by omega, hte.1⟩
  exact h2 j (by omega) hj2
  rw [wtN, hqi, Int.mul_comm] at h3; omega
  rintro ⟨h1, h2, h3⟩
  obtain ⟨h2i, h2m⟩ := h2 i (by omega) hi
  have hmono := Xv9 hd (q := q) ds.length (i + 1) (by omega) (Nat.le_refl _) fun j hj1 hj2 => (h2 j (by omega) hj2).1
  have hw : wtN ds q (i + 1) = wtN ds q i + rd ds (i : Int) * Y4 q (i : Int) := rfl
  have hle : Y4 q (i : Int) * rd ds (i : Int) ≤ left := by unfold wt at h3; rw [Int.mul_comm]; omega
  have hte := (Xb4 hdi ⟨hl0, hl⟩ h2i).2 ⟨by rw [← hmost]; exact h2m, hle⟩
  have hc : ((Y4 q (i : Int)).toNat : Int) = Y4 q (i : Int) := Int.toNat_of_nonneg h2i
  have hed : 0 ≤ Y4 q (i : Int) * rd ds (i : Int) := Int.mul_nonneg h2i (by omega)
  refine ⟨(Y4 q (i : Int)).toNat, List.mem_reverse.2 (List.mem_range.2 (by omega)), ?_⟩
  rw [hc]
  refine (ih _ _ (by omega) (by omega)).2 ⟨fun j hj => ?_, fun j hj1 hj2 => h2 j (by omega) hj2, ?_⟩
  rw [Ya8 p hi8]
  by_cases e2 : j = i
  subst e2; rw [if_pos rfl]
  rw [if_neg e2]; exact h1 j (by omega)
  rw [hw, Int.mul_comm (Y4 q _)]; omega
theorem Wa0 (hd : okD ds = true) : ∀ (g : Nat), g ≤ ds.length → ∀ (p : A8) (left : Int), left ≤ 1000 → 0 ≤ left → (itF ds g p left).Pairwise (fun a b => bef a b = true)
 | 0, _, p, left, _, _ => by
  unfold itF
  split
  exact List.pairwise_singleton _ _
  exact .nil
 | g + 1, hg, p, left, hl, hl0 => by
  have hl8 := J5 hd
  have hi : ds.length - (g + 1) < ds.length := by omega
  have hi8 : ds.length - (g + 1) < 8 := by omega
  have e1 : ds.length - g = ds.length - (g + 1) + 1 := by omega
  have hdi := D9 hd _ (T9 hi)
  have hb : ∀ e, e ∈ (List.range ((Zl0 (rd ds ((ds.length - (g + 1) : Nat) : Int)) left).toNat + 1)).reverse → 0 ≤ left - (e : Int) * rd ds ((ds.length - (g + 1) : Nat) : Int) ∧ left - (e : Int) * rd ds ((ds.length - (g + 1) : Nat) : Int) ≤ 1000 := fun e he => by
   have he := List.mem_range.1 (List.mem_reverse.1 he)
   have ht := Yy1 hdi ⟨hl0, hl⟩
   have hte := (Xb4 hdi ⟨hl0, hl⟩ (show 0 ≤ (e : Int) by omega)).1 (by omega)
   have hed : 0 ≤ (e : Int) * rd ds ((ds.length - (g + 1) : Nat) : Int) := Int.mul_nonneg (by omega) (by omega)
   omega
  rw [itF, List.pairwise_flatMap]
  refine ⟨fun e he => Wa0 hd g (by omega) _ _ (hb e he).2 (hb e he).1, ?_⟩
  rw [List.pairwise_reverse]
  refine List.Pairwise.imp_of_mem (fun {a b} ha hb' hab => ?_) List.pairwise_lt_range
  intro x hx y hy
  have hx := ((Yx5 hd g (by omega) _ _ x (hb b (List.mem_reverse.2 hb')).2 (hb b (List.mem_reverse.2 hb')).1).1 hx).1
  have hy := ((Yx5 hd g (by omega) _ _ y (hb a (List.mem_reverse.2 ha)).2 (hb a (List.mem_reverse.2 ha)).1).1 hy).1
  rw [e1] at hx hy
  generalize ds.length - (g + 1) = i at *
  refine Wn1 hi8 (fun j hj => ?_) ?_
  rw [hx j (by omega), hy j (by omega), Ya8 p hi8, Ya8 p hi8, if_neg (by omega), if_neg (by omega)]
  rw [hx i (by omega), hy i (by omega), Ya8 p hi8, Ya8 p hi8, if_pos rfl, if_pos rfl]; omega
theorem Xd0 (hd : okD ds = true) {n : Int} (hn : 0 ≤ n ∧ n ≤ 1000) : (Q3 ds n).Pairwise (fun a b => bef a b = true) := Wa0 hd _ (Nat.le_refl _) _ _ hn.2 hn.1
theorem Yl1 (hd : okD ds = true) {n : Int} (hn : 0 ≤ n ∧ n ≤ 1000) {q : A8} : q ∈ Q3 ds n ↔ Mo 20 ds q ∧ wt ds q = n := by
 have hl8 := J5 hd
 unfold Q3
 rw [Yx5 hd ds.length (Nat.le_refl _) _ _ q hn.2 hn.1, Nat.sub_self]
 constructor
 rintro ⟨h1, h2, h3⟩
 have hz : ∀ j : Nat, ds.length ≤ j → Y4 q (j : Int) = 0 := fun j hj => by rw [h1 j (.inr hj)]; simp [Y4]
 refine ⟨⟨fun i => ?_, fun i => ?_, fun j hj ho => ?_, fun i hi => ?_⟩, by rw [wtN] at h3; omega⟩
 rw [← T4 q i.isLt]
 by_cases h : i.val < ds.length
 exact (h2 i.val (by omega) h).1
 rw [hz i.val (by omega)]; decide
 rw [← T4 q i.isLt]
 by_cases h : i.val < ds.length
 have := (h2 i.val (by omega) h).2
 unfold Zn6 at this
 rw [if_pos h] at this
 split at this <;> omega
 rw [hz i.val (by omega)]; decide
 have := (h2 j (by omega) hj).2
 unfold Zn6 at this
 rwa [if_pos hj, if_pos ho] at this
 rw [← T4 q i.isLt]; exact hz i.val hi
 rintro ⟨hm, hw⟩
 refine ⟨fun j hj => ?_, fun j _ hj => ?_, by rw [wtN]; omega⟩
 have hj : ds.length ≤ j := by omega
 by_cases h8 : j < 8
 rw [T4 q h8, hm.out ⟨j, h8⟩ hj]; simp [Y4]
 rw [Yx3 _ h8, Yx3 _ h8]
 have h8 : j < 8 := by omega
 rw [T4 q h8]
 refine ⟨hm.lo _, ?_⟩
 unfold Zn6
 rw [if_pos hj]
 by_cases ho : rd ds (j : Int) % 2 = 1
 rw [if_pos ho, ← T4 q h8]; exact hm.odd j hj ho
 rw [if_neg ho]; exact hm.hi _
end
section
variable {K : Nat} {ds : List Int} {imgs : List MpT} {m : A8}
theorem Xn3 {m : A8} (hd : okD ds = true) (lo : ∀ i, 0 ≤ m i) : ∀ n : Nat, n ≤ ds.length → ∀ j, j < n → rd ds (j : Int) * Y4 m (j : Int) ≤ wtN ds m n
 | 0, _, j, hj => by omega
 | n + 1, h, j, hj => by
  have h1 := (Yk1 hd lo n (by omega)).1
  have hn := D9 hd _ (T9 (show n < ds.length by omega))
  have hi : 0 ≤ Y4 m (n : Int) := by
   by_cases h8 : n < 8
   rw [T4 m h8]; exact lo _
   have := J5 hd; omega
  have h3 : 0 ≤ rd ds (n : Int) * Y4 m (n : Int) := Int.mul_nonneg (by omega) hi
  rw [wtN]
  by_cases e : j = n
  subst e; omega
  have := Xn3 hd lo n (by omega) j (by omega); omega
theorem Wc2 {B : Int} {m : A8} (hd : okD ds = true) (hm : Mo B ds m) (hw : wt ds m ≤ 26) : Mo 13 ds m := by
 refine ⟨hm.lo, fun i => ?_, hm.odd, hm.out⟩
 by_cases h : i.val < ds.length
 have h1 := Xn3 hd hm.lo ds.length (Nat.le_refl _) i.val h
 have hn := D9 hd _ (T9 h)
 have ho := hm.odd i.val h
 have hl := hm.lo i
 rw [T4 m i.isLt] at h1 ho
 unfold wt at hw
 by_cases hodd : rd ds (i.val : Int) % 2 = 1
 have := ho hodd; exact Int.le_trans this (by decide)
 have h2 : 2 * m ⟨i.val, i.isLt⟩ ≤ rd ds (i.val : Int) * m ⟨i.val, i.isLt⟩ := Int.mul_le_mul_of_nonneg_right (by omega) hl
 have : m ⟨i.val, i.isLt⟩ ≤ 13 := by omega
 exact this
 rw [hm.out i (by omega)]; decide
theorem Wq9 {u v : Int} {p q : A8} (hd : okD ds = true) (huv : u + v ≤ 26) (hp : Mo 13 ds p) (hq : Mo 13 ds q) (hpw : wt ds p = u) (hqw : wt ds q = v) (hn : (I5 ds p q).2 ≠ 0) :
 Mo 13 ds (I5 ds p q).1 ∧ wt ds (I5 ds p q).1 = u + v := by
 have hw : wt ds (I5 ds p q).1 = u + v := by
  rw [(Yy3 hn).1]
  unfold wt at hpw hqw ⊢
  rw [Wb6, hpw, hqw]
 exact ⟨Wc2 hd (hp.mul hq hn) (by omega), hw⟩
theorem Wj9 {u v : Int} {z : B9} {G : MpT} (hd : okD ds = true) (huv : u + v ≤ 26) (hz : Mo 13 ds z.1) (hzw : wt ds z.1 = u) (hG : Hm v ds G) : ∀ r, r ∈ Zv3 ds z G → Mo 13 ds r.1 ∧ wt ds r.1 = u + v := by
 intro r hr
 obtain ⟨q, hq, hn, e⟩ := Xf8 r hr
 rw [e]
 exact Wq9 hd huv hz (hG.mo q hq) hzw (hG.w q hq) hn
theorem Wp3 {u v : Int} {S G : MpT} (hd : okD ds = true) (huv : u + v ≤ 26) (hS : Hm u ds S) (hG : Hm v ds G) : ∀ r, r ∈ Zm0 ds S G → Mo 13 ds r.1 ∧ wt ds r.1 = u + v := by
 intro r hr
 obtain ⟨z, hz, hr⟩ := List.mem_flatMap.1 hr
 exact Wj9 hd huv (hS.mo z hz) (hS.w z hz) hG r hr
theorem Xw7 {u v : Int} {S G : MpT} (hd : okD ds = true) (huv : u + v ≤ 26) (hS : Hm u ds S) (hG : Hm v ds G) : Hm (u + v) ds (Vj7 ds S G) := Wm4 (Wp3 hd huv hS hG) (Hm.nil _ _)
theorem Wx5 {t : Nat} (ht : t < 8) (m : A8) (n : Nat) : Y4 (lfM m t) n = if n = t then Y4 m t - 1 else if n < t then Y4 m n else 0 := by
 by_cases hn : n < 8
 rw [T4 _ hn]; unfold lfM; rw [Zf6 _ ht]
 by_cases e : n = t
 rw [if_pos e, if_pos e]
 rw [if_neg e, if_neg e, ← T4 (loM m t) hn, Xg0]
 rw [if_neg (by omega), if_neg (by omega)]; simp [Y4, hn]
theorem Xu0 {t : Nat} (ht : t < 8) (m : A8) : ∀ n : Nat, wtN ds (lfM m t) n + wtN ds (hiM m t) n + (if t < n then rd ds (t : Int) else 0) = wtN ds m n
 | 0 => by simp [wtN]
 | n + 1 => by
  have ih := Xu0 ht m n
  rw [wtN, wtN, wtN, Wx5 ht, Wn9]
  by_cases e : n = t
  subst e
  rw [if_neg (by omega)] at ih
  rw [if_pos rfl, if_neg (by omega), if_pos (by omega), Int.mul_sub]
  omega
  by_cases h : n < t
  rw [if_neg (by omega)] at ih
  rw [if_neg e, if_pos h, if_neg (by omega), if_neg (by omega)]
  omega
  rw [if_pos (by omega)] at ih
  rw [if_neg e, if_neg h, if_pos (by omega), if_pos (by omega)]
  omega
theorem Wb1 {p : A8} (hp : Mo 13 ds p) : Hm (wt ds p) ds [(p, 1)] :=
 ⟨Yg3 (List.pairwise_singleton _ _) (fun q hq => by cases List.mem_singleton.1 hq; exact (show (1 : Int) ≤ 1 ∧ (1 : Int) ≤ 10006 by decide)), fun t ht => by cases List.mem_singleton.1 ht; exact hp, fun t ht => by cases List.mem_singleton.1 ht; rfl⟩
theorem Vg0 {t : Nat} {img : MpT} (hd : okD ds = true) (hm : Mo 13 ds m) (hw : wt ds m ≤ 25) (ht : t < ds.length) (h1 : 0 < Y4 m t) (hi : Hm (rd ds (t : Int) + 1) ds img) : Hm (wt ds m + 1) ds (dT ds img m t) := by
 have hl := J5 hd
 have ht8 : t < 8 := by omega
 have hlf := Xq2 hm (by decide) ht8 h1
 have hhi := Wg9 hm (by decide) t
 have hp := Xu0 (ds := ds) ht8 m ds.length
 rw [if_pos ht] at hp
 have p1 := (Yk1 hd hlf.lo ds.length (Nat.le_refl _)).1
 have p2 := (Yk1 hd hhi.lo ds.length (Nat.le_refl _)).1
 unfold wt at hw ⊢
 have e : wtN ds m ds.length + 1 = (wtN ds (lfM m t) ds.length + (rd ds (t : Int) + 1)) + wtN ds (hiM m t) ds.length := by omega
 rw [e]
 exact Xw7 hd (by omega) (Xw7 hd (by omega) (Wb1 hlf) hi) (Wb1 hhi)
theorem Yu2 {z : B9} (hd : okD ds = true) (hlen : imgs.length = ds.length) (hI : ∀ j, j < imgs.length → Hm (rd ds (j : Int) + 1) ds (rd imgs (j : Int))) (hm : Mo 13 ds z.1) (hw : wt ds z.1 ≤ 25) : ∀ (n t : Nat) (out : MpT), t + n ≤ ds.length → Hm (wt ds z.1 + 1) ds out →
 Hm (wt ds z.1 + 1) ds (Zx8 ds imgs z n t out)
 | 0, _, _, _, h => h
 | n + 1, t, out, ht, h => by
  rw [Zx8]
  by_cases h0 : Y4 z.1 (t : Int) = 0
  rw [if_pos h0]; exact Yu2 hd hlen hI hm hw n (t + 1) out (by omega) h
  rw [if_neg h0]
  have hlo := (Xj7 hm.lo hm.hi (by decide) t).1
  have hdt := Vg0 hd hm hw (show t < ds.length by omega) (by omega) (hI t (by omega))
  refine Yu2 hd hlen hI hm hw n (t + 1) _ (by omega) (Wm4 (fun r hr => ?_) h)
  obtain ⟨q, hq, rfl⟩ := List.mem_map.1 hr
  exact ⟨hdt.mo q hq, hdt.w q hq⟩
theorem Xw8 {u : Int} (hd : okD ds = true) (hlen : imgs.length = ds.length) (hI : ∀ j, j < imgs.length → Hm (rd ds (j : Int) + 1) ds (rd imgs (j : Int))) (hu : u ≤ 25) : ∀ (f out : MpT), MoL 13 ds f → (∀ t, t ∈ f → wt ds t.1 = u) → Hm (u + 1) ds out → Hm (u + 1) ds (Zw7 ds imgs f out)
 | [], _, _, _, h => h
 | z :: f, out, hm, hw, h => by
  have h1 := hw z (List.mem_cons_self ..)
  rw [Zw7]
  refine Xw8 hd hlen hI hu f _ (fun t ht => hm t (List.mem_cons_of_mem _ ht)) (fun t ht => hw t (List.mem_cons_of_mem _ ht)) ?_
  have := Yu2 (z := z) hd hlen hI (hm z (List.mem_cons_self ..)) (by omega) ds.length 0 out (by omega) (by rw [h1]; exact h)
  rwa [h1] at this
/-! rows and forms -/
def Ze6 : List A8 → List Int → MpT
 | p :: ps, x :: xs => if x = 0 then Ze6 ps xs else (p, x) :: Ze6 ps xs
 | _, _ => []
theorem Yi8 : ∀ (M : List A8) (row : List Int) (z : A8 × Int), z ∈ Ze6 M row → z.1 ∈ M ∧ z.2 ∈ row ∧ z.2 ≠ 0
 | [], _, z, h => by simp [Ze6] at h
 | _ :: _, [], z, h => by simp [Ze6] at h
 | p :: ps, x :: xs, z, h => by
  unfold Ze6 at h
  split at h
  obtain ⟨h1, h2, h3⟩ := Yi8 ps xs z h
  exact ⟨List.mem_cons_of_mem _ h1, List.mem_cons_of_mem _ h2, h3⟩
  rename_i hx
  rcases List.mem_cons.1 h with rfl | h
  exact ⟨List.mem_cons_self .., List.mem_cons_self .., hx⟩
  obtain ⟨h1, h2, h3⟩ := Yi8 ps xs z h
  exact ⟨List.mem_cons_of_mem _ h1, List.mem_cons_of_mem _ h2, h3⟩
theorem Xc1 : ∀ (M : List A8) (row : List Int), M.Pairwise (fun a b => bef a b = true) → Srt (Ze6 M row)
 | [], _, _ => by unfold Ze6; exact List.Pairwise.nil
 | _ :: _, [], _ => by unfold Ze6; exact List.Pairwise.nil
 | p :: ps, x :: xs, h => by
  have h' := List.pairwise_cons.1 h
  unfold Ze6
  split
  exact Xc1 ps xs h'.2
  exact List.pairwise_cons.2 ⟨fun z hz => h'.1 _ (Yi8 ps xs z hz).1, Xc1 ps xs h'.2⟩
theorem Xd6 : ∀ (M : List A8) (row : List Int), (Ze6 M row).length ≤ M.length
 | [], _ => by simp [Ze6]
 | _ :: _, [] => by simp [Ze6]
 | p :: ps, x :: xs => by
  have := Xd6 ps xs
  unfold Ze6
  split <;> simp <;> omega
theorem Wz9 {M : List A8} {row : List Int} (hM : M.Pairwise (fun a b => bef a b = true)) {n : Nat} (h : ∀ x, x ∈ row → 0 ≤ x ∧ x < 10007) : nfm (Ze6 M row) = true :=
 Yg3 (Xc1 M row hM) fun q hq => by
  obtain ⟨_, h2, h3⟩ := Yi8 M row q hq
  have := h _ h2
  omega
end
theorem Xx7 {α : Type} : ∀ (xs ys : List α), xs.Nodup → (∀ x, x ∈ xs → x ∈ ys) → xs.length ≤ ys.length
 | [], _, _, _ => Nat.zero_le _
 | x :: xs, ys, hn, h => by
  have hn' := List.nodup_cons.1 hn
  have dec : DecidableEq α := fun a b => Classical.propDecidable (a = b)
  have hx := h x (List.mem_cons_self ..)
  have := Xx7 xs (ys.erase x) hn'.2 fun y hy => (List.mem_erase_of_ne (fun e => hn'.1 (by rw [← e]; exact hy))).2 (h y (List.mem_cons_of_mem _ hy))
  rw [List.length_erase_of_mem hx] at this
  have := List.length_pos_of_mem hx
  rw [List.length_cons]; omega
section
variable {K : Nat} {a : A0} {n : Int}
theorem Xm0 (K : Nat) (b : Bool) (c : Int) : Zq0 K b c = some (if b = true then c else 0) := by unfold Zq0; split <;> rfl
theorem Vc0 (hi : Inp K a) : Zi1 K a [] = some (if okA a = true then 0 else 1) := by
 have hK := hi.big
 unfold Zi1
 rw [show (a.1, a.2) = a from rfl, Ve7 hi, Option.bind_some]
 by_cases hA : okA a = true
 case neg =>
  rw [if_neg hA, if_neg hA, Xm0, Option.bind_some]; rfl
 rw [if_pos hA, if_pos hA, Xm3 (q := fun _ => false) (by simp; omega) (fun x hx => by cases hx), Option.bind_some, Xm0, Option.bind_some]; rfl
theorem Vc2 (hi : Inp K a) (hB : okB a = true) : ∀ j, j < a.2.length → Hm (rd a.1 (j : Int) + 1) a.1 (rd a.2 (j : Int)) := by
 intro j hj
 have hd := Wb3 hB
 have hv := Xf0 hi hB
 have hpos := D9 hd _ (T9 (show j < a.1.length by have := hv.len; omega))
 unfold okB at hB
 rw [Bool.and_eq_true, Bool.and_eq_true] at hB
 have h := List.all_eq_true.1 hB.2.2 j (List.mem_range.2 hj)
 unfold okI okG at h
 rw [Bool.and_eq_true] at h
 exact Vi4 hd (hv.all _ (T9 hj)) (fun t ht => of_decide_eq_true (List.all_eq_true.1 h.2 t ht)) (by omega)
structure Vw (a : A0) : Prop where
 dg : okD a.1 = true
 len : a.2.length = a.1.length
 hm : ∀ j, j < a.2.length → Hm (rd a.1 (j : Int) + 1) a.1 (rd a.2 (j : Int))
 vi : VI a.1 a.2
theorem Xr8 (hi : Inp K a) (hA : okA a = true) : Vw a := by
 have hB : okB a = true := by unfold okA at hA; rw [Bool.and_eq_true] at hA; exact hA.1
 have hv := Xf0 hi hB
 exact ⟨Wb3 hB, hv.len, Vc2 hi hB, hv⟩
def dmR (a : A0) (p : A8) : MpT := Zw7 a.1 a.2 [(p, 1)] []
theorem Wl9 {ds : List Int} {p : A8} (hp : Mo 20 ds p) : VF ds [(p, 1)] :=
 ⟨Yg3 (List.pairwise_singleton _ _) (fun q hq => by cases List.mem_singleton.1 hq; exact (show (1 : Int) ≤ 1 ∧ (1 : Int) ≤ 10006 by decide)), fun t ht => by cases List.mem_singleton.1 ht; exact hp, by simp⟩
theorem Wg3 (hV : Vw a) (hn : 0 ≤ n ∧ n ≤ 25) {p : A8} (hp : p ∈ Q3 a.1 n) : Hm (n + 1) a.1 (dmR a p) := by
 obtain ⟨h1, h2⟩ := (Yl1 hV.dg (by omega)).1 hp
 have h13 := Wc2 hV.dg h1 (by omega)
 exact Xw8 hV.dg hV.len hV.hm hn.2 [(p, 1)] [] (fun t ht => by cases List.mem_singleton.1 ht; exact h13) (fun t ht => by cases List.mem_singleton.1 ht; exact h2) (Hm.nil _ _)
theorem Wv8 (hV : Vw a) (hn : 0 ≤ n ∧ n ≤ 25) {p : A8} (hp : p ∈ Q3 a.1 n) : ∀ z, z ∈ dmR a p → z.1 ∈ Q3 a.1 (n + 1) := fun z hz => by
 have h := Wg3 hV hn hp
 have hm := h.mo z hz
 exact (Yl1 hV.dg (by omega)).2 ⟨⟨hm.lo, fun i => Int.le_trans (hm.hi i) (by decide), hm.odd, hm.out⟩, h.w z hz⟩
theorem Wu1 (p : A8) : Zb4 ([] : MpT) p 1 = [(p, 1)] := Xc8 (s := []) (List.pairwise_singleton _ _)
theorem Wx7 (hd : okD a.1 = true) (hn : 0 ≤ n ∧ n ≤ 1000) : (Q3 a.1 n).Nodup := (Xd0 hd hn).imp fun {x y} h e => by subst e; rw [Zf3] at h; cases h
def Yw9 (a : A0) (n : Int) : List Vc := (Q3 a.1 n).map fun p => Zf0 (Q3 a.1 (n + 1)) (dmR a p)
theorem Wx8 {M : List A8} {s : MpT} (hs : nfm s = true) : Okv M.length (Zf0 M s) := ⟨by simp [Zf0], fun x hx => by
 obtain ⟨p, _, rfl⟩ := List.mem_map.1 hx
 have := Yi1 hs p
 omega⟩
theorem Yo2 (hV : Vw a) (hn : 0 ≤ n ∧ n ≤ 25) : ∀ r, r ∈ Yw9 a n → Okv (Q3 a.1 (n + 1)).length r := fun r hr => by
 obtain ⟨p, hp, rfl⟩ := List.mem_map.1 hr
 exact Wx8 (Wg3 hV hn hp).nf
theorem Xs8 (hK : 1099511627776 ≤ K) (hV : Vw a) (hn : 0 ≤ n ∧ n ≤ 25) (hl : (Q3 a.1 (n + 1)).length ≤ 120) : ∀ (ps : List A8), (∀ p, p ∈ ps → p ∈ Q3 a.1 n) →
 Yq3 K a (Q3 a.1 (n + 1)) ps = some (ps.map fun p => Zf0 (Q3 a.1 (n + 1)) (dmR a p))
 | [], _ => rfl
 | p :: ps, h => by
  have hp := h p (List.mem_cons_self ..)
  have hm := ((Yl1 hV.dg (by omega)).1 hp).1
  have hd : Za2 K a [(p, 1)] = some (dmR a p) := Vd2 (ds := a.1) (imgs := a.2) (by omega) hV.dg hV.vi (Wl9 hm)
  have hrow : Zm5 K (Q3 a.1 (n + 1)) (dmR a p) = some (Zf0 (Q3 a.1 (n + 1)) (dmR a p)) := by
   unfold Zm5
   rw [if_pos (show Wr7 _ _ = true from decide_eq_true ⟨Wx7 hV.dg (by omega), by omega, Wv8 hV hn hp⟩)]
  rw [Yq3, Wu1, hd, Option.bind_some, hrow, Option.bind_some, Xs8 hK hV hn hl ps (fun q hq => h q (List.mem_cons_of_mem _ hq)), Option.bind_some]
  rfl
theorem Xt7 (hd : okD a.1 = true) (hn : n ≤ 1000) : Zh5 K a.1 n 120 = some (lsM a.1 n 120, decide (((lsM a.1 n 120).length : Int) ≤ 120)) := by
 unfold Zh5
 rw [if_pos (show Wr5 _ _ _ = true from decide_eq_true ⟨D9 hd, J5 hd, hn, by decide, by decide⟩)]
theorem Xi6 (hd : okD a.1 = true) (hn : 0 ≤ n ∧ n ≤ 1000) (hl : (Q3 a.1 n).length ≤ 120) : lv0 K a n = some (Q3 a.1 n) := by
 unfold lv0
 rw [Xt7 hd hn.2, (Xn2 (D9 hd) hn).2 hl]; rfl
theorem Wb4 (hK : 1099511627776 ≤ K) (hV : Vw a) (hn : 0 ≤ n ∧ n ≤ 25) (hl : (Q3 a.1 n).length ≤ 120) (hl1 : (Q3 a.1 (n + 1)).length ≤ 120) : Yq0 K a n = some (Yw9 a n) := by
 unfold Yq0
 rw [Xi6 hV.dg (by omega) hl, Option.bind_some, Xi6 hV.dg (by omega) hl1, Option.bind_some, if_pos (by omega), Xs8 hK hV hn hl1 _ (fun p hp => hp)]; rfl
/-! kernels -/
def Zw4 (width : Nat) (R : List Vc) : List Vc := (R.filter fun r => decide (width ≤ fs r)).map fun r => r.drop width
theorem Xw9 {w : Nat} {r : Vc} {R : List Vc} (h : w ≤ fs r) : Zw4 w (r :: R) = r.drop w :: Zw4 w R := by
 unfold Zw4
 rw [List.filter_cons_of_pos (by simpa using h), List.map_cons]
theorem Xt5 {w : Nat} {r : Vc} {R : List Vc} (h : ¬ w ≤ fs r) : Zw4 w (r :: R) = Zw4 w R := by
 unfold Zw4
 rw [List.filter_cons_of_neg (by simpa using h)]
def Wi2 (rows : List Vc) (width : Nat) : List Vc := Yb9 (Zw4 width (Yb9 (Zf4 rows.length 0 rows)))
theorem Vb6 {m k : Nat} {u v : Vc} (hu : Okv m u) (hv : Okv k v) : Okv (m + k) (u ++ v) := ⟨by rw [List.length_append, hu.len, hv.len], fun x hx => (List.mem_append.1 hx).elim (hu.rng x) (hv.rng x)⟩
theorem Wp4 (m i : Nat) : Okv m (Zx5 m i) := ⟨by simp [Zx5], fun x hx => by
 unfold Zx5 at hx
 rcases List.mem_or_eq_of_mem_set hx with h | h
 rw [(List.mem_replicate.1 h).2]; decide
 rw [h]; decide⟩
theorem Yq2 {width m : Nat} : ∀ (rows : List Vc) (i : Nat), (∀ r, r ∈ rows → Okv width r) → ∀ r, r ∈ Zf4 m i rows → Okv (width + m) r
 | [], i, _, r, hr => by cases hr
 | s :: ss, i, h, r, hr => by
  rcases List.mem_cons.1 hr with rfl | hr
  exact Vb6 (h s (List.mem_cons_self ..)) (Wp4 m i)
  exact Yq2 ss (i + 1) (fun t ht => h t (List.mem_cons_of_mem _ ht)) r hr
theorem Ws2 {w m : Nat} {r : Vc} (h : Okv (w + m) r) : Okv m (r.drop w) := ⟨by rw [List.length_drop, h.len]; omega, fun x hx => h.rng x (List.mem_of_mem_drop hx)⟩
theorem Xk8 {w m : Nat} {R : List Vc} (h : ∀ r, r ∈ R → Okv (w + m) r) : ∀ r, r ∈ Zw4 w R → Okv m r := fun r hr => by
 obtain ⟨s, hs, rfl⟩ := List.mem_map.1 hr
 exact Ws2 (h s (List.mem_filter.1 hs).1)
theorem Wy3 {rows : List Vc} {w : Nat} (h : ∀ r, r ∈ rows → Okv w r) : Rr rows.length (Wi2 rows w) := by
 have h1 := (Yd5 (Yq2 (m := rows.length) rows 0 h)).1
 exact (Yd5 (Xk8 h1.ok)).1
theorem Rr.short {m : Nat} {R : List Vc} (h : Rr m R) : R.length ≤ m := by
 have h1 : (R.map fs).Nodup := by
  rw [List.nodup_iff_pairwise_ne, List.pairwise_map]
  exact h.srt.imp fun {x y} hxy => by omega
 have h2 : ∀ x, x ∈ R.map fs → x ∈ List.range m := fun x hx => by
  obtain ⟨r, hr, rfl⟩ := List.mem_map.1 hx
  exact List.mem_range.2 (h.ld r hr).1
 have := Xx7 _ _ h1 h2
 simpa using this
theorem Wx3 {r : Vc} {w : Nat} (hw : w ≤ r.length) : fs (r.take w) < w ↔ fs r < w := by
 have hl : (r.take w).length = w := by rw [List.length_take]; omega
 have hg : ∀ k, k < w → at_ (r.take w) k = at_ r k := fun k hk => by
  unfold at_
  rw [List.getD_eq_getElem?_getD, List.getD_eq_getElem?_getD, List.getElem?_take, if_pos hk]
 constructor
 intro h
 have h1 := Yx2 (r.take w) (by omega)
 rw [hg _ h] at h1
 rcases Nat.lt_or_ge (fs r) w with h2 | h2
 exact h2
 exact absurd (Zi3 r _ (by omega)) h1
 intro h
 have h1 := Yx2 r (by omega)
 rw [← hg _ h] at h1
 rcases Nat.lt_or_ge (fs (r.take w)) w with h2 | h2
 exact h2
 exact absurd (Zi3 (r.take w) _ (by omega)) h1
end
section
variable {K n : Nat} {R : List Vc}
theorem rdV {xs : List Vc} {i : Nat} (h : i < xs.length) : rd xs (i : Int) = xs[i] := by rw [Zu2 h, Q8 h]
theorem Zz8 {α : Type} {xs : List α} {i : Nat} (h : i < xs.length) : xs.drop i = xs[i] :: xs.drop (i + 1) := (List.getElem_cons_drop ..).symm
theorem Xs3 {u : Vc} {lk : Bool → Int → List Vc → Option (Ex (List Vc) (Bool × List Vc))} (hR : Rr n R) (hu : Okv n u) (hf : fs u < n) (hK : n < K) (h40 : n ≤ 1099511627776) {i : Nat} (hi : i < R.length) {b : Bool} {out : List Vc} (ho : out.length + 1 ≤ 1099511627776) :
 Zh6 K lk R u (fs u : Int) (i : Int) b out = lk b ((i : Int) + 1) (out ++ [Yd3 u R[i]]) := by
 have hs := hR.ok _ (List.getElem_mem hi)
 have hsl := hs.len
 have hul := hu.len
 unfold Zh6
 rw [rdV hi, if_pos (by omega), Zl4, Xj8 (fun j => hs.inF j) (fun j => hu.inF j) (hs.inF _) (by omega) (by omega) (by omega), Option.bind_some, if_pos (by simpa using ho)]
 rfl
theorem Xf9 {u : Vc} (hR : Rr n R) (hu : Okv n u) (hf : fs u < n) (hK : n < K) (h40 : n ≤ 1099511627776) : ∀ (k i : Nat) (b : Bool) (out : List Vc), i ≤ R.length → R.length < i + k → out.length + (R.length - i) + (if b = true then 0 else 1) + 1 ≤ 1099511627776 →
 ∃ b' out', L8 K R u (fs u : Int) k b (i : Int) out = some (.go (b', out')) ∧ out'.length + 1 ≤ 1099511627777 ∧ (b' = false → out'.length + 1 ≤ 1099511627776) ∧ (if b' = true then out' else out' ++ [u]) = (if b = true then out ++ (R.drop i).map (Yd3 u) else out ++ Yb3 u (R.drop i))
 | 0, i, b, out, h1, h2, _ => by omega
 | k + 1, i, b, out, h1, h2, h3 => by
  rw [L8]
  by_cases hi : i < R.length
  rw [if_pos (by omega)]
  have hs := hR.ok _ (List.getElem_mem hi)
  have hsf := (hR.ld _ (List.getElem_mem hi)).1
  have hsl := hs.len
  have e1 : (i : Int) + 1 = ((i + 1 : Nat) : Int) := rfl
  by_cases hb : b = true
  subst hb
  rw [if_pos rfl] at h3 ⊢
  unfold Zh4
  rw [if_neg (by decide), Xs3 hR hu hf hK h40 hi (by omega), e1]
  obtain ⟨b', out', g1, g2, g3, g4⟩ := Xf9 hR hu hf hK h40 k (i + 1) true (out ++ [Yd3 u R[i]]) (by omega) (by omega) (by rw [if_pos rfl]; simp; omega)
  refine ⟨b', out', g1, g2, g3, ?_⟩
  rw [g4, if_pos rfl, if_pos rfl, Zz8 hi, List.map_cons, List.append_assoc]; rfl
  have hb : b = false := by simpa using hb
  subst hb
  rw [if_neg (by decide)] at h3 ⊢
  rw [rdV hi, Yp3 (by omega), if_pos (by omega), Option.bind_some]
  unfold Zh4
  by_cases hlt : fs u < fs R[i]
  rw [if_pos (decide_eq_true (show (fs u : Int) < (fs R[i] : Int) by omega)), if_pos (by simp; omega), Xs3 hR hu hf hK h40 hi (by simp; omega), e1]
  obtain ⟨b', out', g1, g2, g3, g4⟩ := Xf9 hR hu hf hK h40 k (i + 1) true (out ++ [u] ++ [Yd3 u R[i]]) (by omega) (by omega) (by rw [if_pos rfl]; simp; omega)
  refine ⟨b', out', g1, g2, g3, ?_⟩
  rw [g4, if_pos rfl, if_neg (by decide), Zz8 hi]
  unfold Yb3
  rw [if_pos hlt]
  simp only [List.map_cons, List.append_assoc, List.cons_append, List.nil_append]
  rw [if_neg (by rw [decide_eq_false (show ¬ (fs u : Int) < (fs R[i] : Int) by omega)]; decide), Xs3 hR hu hf hK h40 hi (by omega), e1]
  obtain ⟨b', out', g1, g2, g3, g4⟩ := Xf9 hR hu hf hK h40 k (i + 1) false (out ++ [Yd3 u R[i]]) (by omega) (by omega) (by rw [if_neg (by decide)]; simp; omega)
  refine ⟨b', out', g1, g2, g3, ?_⟩
  rw [g4, if_neg (by decide), if_neg (by decide), Zz8 hi]
  conv => rhs; unfold Yb3
  rw [if_neg hlt]
  simp only [List.append_assoc, List.cons_append, List.nil_append]
  have e : i = R.length := by omega
  subst e
  rw [if_neg (by omega), List.drop_length]
  refine ⟨b, out, rfl, by omega, fun hb => ?_, ?_⟩
  subst hb; rw [if_neg (by decide)] at h3; omega
  cases b with
  | true => simp
  | false => simp [Yb3]
theorem Vg5 (hR : Rr n R) {row : Vc} (hrow : Okv n row) (hK : 1099511627776 ≤ K) (hn : n ≤ 1000000) (hl : R.length ≤ 1000000) : Zt8 K R row = some (Yj6 R row) := by
 have hro := Xh1 R row hrow
 have hz := Xa2 R row hrow hR
 unfold Zt8 Yj6
 rw [Vh9 (fun s hs => ⟨hR.ok s hs, (hR.ld s hs).1⟩) hrow (by omega) (by omega) (by omega), Option.bind_some]
 generalize byR R row = r at *
 have hrl := hro.len
 rw [Yp3 (by omega), Option.bind_some]
 by_cases hf : fs r < r.length
 obtain ⟨hN, hfs⟩ := Wc6 (R := R) hro (by omega) hz
 have hx := Yx2 r hf
 have hxr := hro.at (fs r)
 have hxe : rd r (fs r : Int) = at_ r (fs r) := Zl4 ..
 have hiv := Wc4 (c := at_ r (fs r)) (by omega)
 rw [if_pos hf, if_neg (by omega), if_pos (by omega), if_pos (by omega), if_pos (by omega), hxe, Wh8 hK (by omega), Option.bind_some, Yg9, Option.bind_some]
 have hw : IntKind.i64.wrap (0 - inv (at_ r (fs r))) = -inv (at_ r (fs r)) := by rw [IntWalk.i64_in _ (by omega)]; omega
 have hrep : ∀ j, inF ((List.replicate r.length (0 : Int)).getD j 0) := fun j => by
  have : (List.replicate r.length (0 : Int)).getD j 0 = 0 := by
   rw [List.getD_eq_getElem?_getD, List.getElem?_replicate]; split <;> rfl
  rw [this]; unfold inF; omega
 rw [hw, Int.toNat_natCast, Xj8 hrep (fun j => hro.inF j) (by unfold inF; omega) (by simp) (by simp; omega) (by simp; omega), Option.bind_some]
 show ((L8 K R (Ya5 r) (fs r : Int) K false 0 []).bind _) = _
 obtain ⟨b', out', g1, g2, g3, g4⟩ := Xf9 (K := K) hR hN.ok hN.ld.1 (by omega) (by omega) K 0 false [] (by omega) (by omega) (by rw [if_neg (by decide)]; simp; omega)
 rw [hfs] at g1
 rw [show ((0 : Nat) : Int) = 0 from rfl] at g1
 rw [g1, Option.bind_some]
 rw [if_neg (show ¬ (false = true) by decide), List.drop_zero, List.nil_append] at g4
 rw [if_pos hf, ← g4]
 show (if b' = true then some out' else if out'.length + [Ya5 r].length ≤ 1099511627776 then some (out' ++ [Ya5 r]) else none) = _
 cases b' with
 | true => rfl
 | false => rw [if_neg (by decide), if_pos (by have := g3 rfl; simpa using this)]; rfl
 rw [if_neg hf, if_pos (by omega), if_neg hf]
theorem Xe9 {rows : List Vc} (hr : ∀ r, r ∈ rows → Okv n r) (hK : 1099511627776 ≤ K) (hn : n ≤ 1000000) : ∀ (k i : Nat) (out : List Vc), i ≤ rows.length → rows.length < i + k → Rr n out →
 B7 K rows k out (i : Int) = some (.go ((rows.drop i).foldl Yj6 out))
 | 0, i, out, h1, h2, _ => by omega
 | k + 1, i, out, h1, h2, ho => by
  rw [B7]
  by_cases hi : i < rows.length
  have hro := hr _ (List.getElem_mem hi)
  rw [if_pos (by omega), rdV hi, Vg5 ho hro hK hn (Nat.le_trans ho.short hn), Option.bind_some, Zz8 hi, List.foldl_cons]
  exact Xe9 hr hK hn k (i + 1) _ (by omega) (by omega) (Wc7 ho hro).1
  have e : i = rows.length := by omega
  subst e
  rw [if_neg (by omega), List.drop_length]; rfl
theorem Xi8 {rows : List Vc} (hr : ∀ r, r ∈ rows → Okv n r) (hK : 1099511627776 ≤ K) (hn : n ≤ 1000000) (hl : rows.length ≤ 1000000) : Za7 K rows = some (Yb9 rows) := by
 have := Xe9 (K := K) hr hK hn K 0 [] (by omega) (by omega) Xx9
 unfold Za7
 rw [show ((0 : Nat) : Int) = 0 from rfl] at this
 rw [this, List.drop_zero]; rfl
/-! kernels -/
theorem Wq8 {w : Nat} {r : Vc} (m i : Nat) (hr : r.length = w) : ((([] : List Int) ++ r) ++ List.replicate m 0).set (w + i) 1 = r ++ Zx5 m i := by
 subst hr
 rw [List.nil_append, List.set_append_right _ _ (by omega), show r.length + i - r.length = i by omega]; rfl
theorem Wd4 {rows : List Vc} {w : Nat} (hr : ∀ r, r ∈ rows → Okv w r) (hw : w ≤ 1000000) (hl : rows.length ≤ 1000000) : ∀ (k i : Nat) (out : List Vc), i ≤ rows.length → rows.length < i + k → out.length = i →
 B6 K rows (w : Int) k (i : Int) out = some (.go (out ++ Zf4 rows.length i (rows.drop i)))
 | 0, i, out, h1, h2, _ => by omega
 | k + 1, i, out, h1, h2, ho => by
  rw [B6]
  by_cases hi : i < rows.length
  have hro := hr _ (List.getElem_mem hi)
  have hrl := hro.len
  have hwr : IntKind.i64.wrap ((w : Int) + (i : Int)) = ((w + i : Nat) : Int) := by rw [IntWalk.i64_in _ (by omega)]; rfl
  rw [if_pos (by omega), rdV hi, hwr, Int.toNat_natCast, Int.toNat_natCast, if_pos (by simp; omega), if_pos ⟨by omega, by simp; omega⟩, if_pos (by omega), if_pos (by simp; omega), if_pos (by simp; omega), Wq8 _ _ hrl]
  rw [show (i : Int) + 1 = ((i + 1 : Nat) : Int) from rfl, Wd4 hr hw hl k (i + 1) _ (by omega) (by omega) (by simp [ho]), Zz8 hi]
  simp [Zf4]
  have e : i = rows.length := by omega
  subst e
  rw [if_neg (by omega), List.drop_length]; simp [Zf4]
theorem We3 {T : List Vc} {w m : Nat} (hT : Rr (w + m) T) (hK : 1099511627776 ≤ K) (hw : w ≤ 1000000) (hm : m ≤ 1000000) : ∀ (k i : Nat) (out : List Vc), i ≤ T.length → T.length < i + k → out.length ≤ i →
 F0 K (w : Int) T k (i : Int) out = some (.go (out ++ Zw4 w (T.drop i)))
 | 0, i, out, h1, h2, _ => by omega
 | k + 1, i, out, h1, h2, ho => by
  have hsh := hT.short
  rw [F0]
  by_cases hi : i < T.length
  have hro := hT.ok _ (List.getElem_mem hi)
  have hrl := hro.len
  have hld := (hT.ld _ (List.getElem_mem hi)).1
  rw [if_pos (by omega), rdV hi, Yp3 (by omega), if_pos (by omega), Option.bind_some, Zz8 hi]
  have e1 : (i : Int) + 1 = ((i + 1 : Nat) : Int) := rfl
  have ih := fun o ho => We3 hT hK hw hm k (i + 1) o (by omega) (by omega) ho
  by_cases hf : w ≤ fs T[i]
  rw [if_pos (by omega), if_pos (by omega), if_pos (by omega), Int.toNat_natCast, if_pos (by simp; omega), if_pos (by simp; omega), e1, ih _ (by simp; omega), Xw9 hf]
  simp only [List.append_assoc, List.cons_append, List.nil_append]
  rw [if_neg (by omega), e1, ih _ (by omega), Xt5 hf]
  have e : i = T.length := by omega
  subst e
  rw [if_neg (by omega), List.drop_length]; simp [Zw4]
theorem Wf9 {rows : List Vc} {w : Nat} (hr : ∀ r, r ∈ rows → Okv w r) (hK : 1099511627776 ≤ K) (hw : w ≤ 400000) (hl : rows.length ≤ 400000) : Zl5 K rows (w : Int) = some (Wi2 rows w) := by
 have h0 := Wd4 (K := K) hr (by omega) (by omega) K 0 [] (by omega) (by omega) rfl
 rw [show ((0 : Nat) : Int) = 0 from rfl, List.drop_zero, List.nil_append] at h0
 have hwo := Yq2 (m := rows.length) rows 0 hr
 have hT := (Yd5 hwo).1
 have hsh := hT.short
 have hwl := Yg6 rows.length rows 0
 unfold Zl5
 rw [h0, Option.bind_some]
 show ((Za7 K (Zf4 rows.length 0 rows)).bind _) = _
 rw [Xi8 hwo hK (by omega) (by omega), Option.bind_some]
 have h1 := We3 (K := K) hT hK (by omega) (by omega) K 0 [] (by omega) (by omega) (by simp)
 rw [show ((0 : Nat) : Int) = 0 from rfl, List.drop_zero, List.nil_append] at h1
 rw [h1, Option.bind_some]
 show ((Za7 K (Zw4 w (Yb9 (Zf4 rows.length 0 rows)))).bind _) = _
 have hql : (Zw4 w (Yb9 (Zf4 rows.length 0 rows))).length ≤ (Yb9 (Zf4 rows.length 0 rows)).length := by
  unfold Zw4; rw [List.length_map]; exact List.length_filter_le ..
 rw [Xi8 (Xk8 hT.ok) hK (by omega) (by omega), Option.bind_some]; rfl
/-! vectors -/
def Yn2 : List A8 → MpT → List Int
 | [], _ => []
 | m :: ms, [] => 0 :: Yn2 ms []
 | m :: ms, z :: f => if eq8 z.1 m = true then z.2 :: Yn2 ms f else 0 :: Yn2 ms (z :: f)
theorem Xd3 : ∀ M : List A8, Yn2 M [] = List.replicate M.length 0
 | [] => rfl
 | m :: ms => by rw [Yn2, Xd3 ms]; rfl
theorem Vb5 (pre : List Int) (x : Int) (m : Nat) : (pre ++ List.replicate (m + 1) (0 : Int)).set pre.length x = (pre ++ [x]) ++ List.replicate m 0 := by
 rw [List.set_append_right _ _ (by omega), Nat.sub_self, List.replicate_succ, List.set_cons_zero]; simp
theorem Xu6 {M : List A8} {f : MpT} (hM : M.length ≤ 1000000) (hf : f.length ≤ 1000000) : ∀ (k i j : Nat) (pre : List Int), i ≤ M.length → M.length < i + k → j ≤ f.length → pre.length = i →
 K3 K f M k (j : Int) (i : Int) (pre ++ List.replicate (M.length - i) 0) = some (.go (pre ++ Yn2 (M.drop i) (f.drop j)))
 | 0, i, j, pre, h1, h2, _, _ => by omega
 | k + 1, i, j, pre, h1, h2, h3, h4 => by
  rw [K3]
  have e1 : (i : Int) + 1 = ((i + 1 : Nat) : Int) := rfl
  by_cases hi : i < M.length
  have hMi : rd M (i : Int) = M[i] := Ze2 hi
  rw [if_pos (by omega)]
  unfold Zc5
  by_cases hj : j < f.length
  have hfj : rd f (j : Int) = f[j] := Ze2 hj
  rw [if_pos (decide_eq_true (show (j : Int) < (f.length : Int) by omega)), if_pos (by omega), if_pos (by omega), if_pos (by omega), hMi, hfj, Zz8 hi, Zz8 hj, Yn2]
  have hlen : (pre ++ List.replicate (M.length - i) (0 : Int)).length = M.length := by simp; omega
  have e2 : M.length - i = (M.length - (i + 1)) + 1 := by omega
  by_cases he : eq8 f[j].1 M[i] = true
  have hwr : IntKind.i64.wrap ((j : Int) + 1) = ((j + 1 : Nat) : Int) := by rw [IntWalk.i64_in _ (by omega)]; rfl
  rw [if_pos he, if_pos (by omega), if_pos he, Int.toNat_natCast, hwr, e1]
  have hs := Vb5 pre f[j].2 (M.length - (i + 1))
  rw [h4] at hs
  rw [e2, hs, Xu6 hM hf k (i + 1) (j + 1) _ (by omega) (by omega) (by omega) (by simp [h4])]
  simp
  rw [if_neg he, if_neg he, e1, e2, List.replicate_succ]
  have := Xu6 hM hf k (i + 1) j (pre ++ [0]) (by omega) (by omega) (by omega) (by simp [h4])
  rw [Zz8 hj] at this
  simpa using this
  have e : j = f.length := by omega
  subst e
  rw [if_neg (by rw [decide_eq_false (by omega)]; decide), List.drop_length, Xd3, List.length_drop]
  have e : i = M.length := by omega
  subst e
  rw [if_neg (by omega)]
  unfold Zc5
  rw [if_neg (by decide), List.drop_length, Yn2, Nat.sub_self, List.replicate_zero]
theorem Xm2 : ∀ (M : List A8) (f : MpT), M.Pairwise (fun a b => bef a b = true) → Srt f → (∀ z, z ∈ f → z.1 ∈ M) → Yn2 M f = Zf0 M f
 | [], f, _, _, h => rfl
 | m :: ms, [], hM, _, _ => by
  rw [Xd3]
  unfold Zf0
  have : ∀ xs : List A8, List.replicate xs.length (0 : Int) = xs.map fun p => N5 [] p := fun xs => by
   induction xs with
   | nil => rfl
   | cons x xs ih => rw [List.length_cons, List.replicate_succ, List.map_cons, ih]; rfl
  exact this _
 | m :: ms, z :: f, hM, hf, h => by
  have hM' := List.pairwise_cons.1 hM
  have hf' := List.pairwise_cons.1 hf
  rw [Yn2]
  by_cases he : eq8 z.1 m = true
  have e := Ze0.1 he
  rw [if_pos he, Xm2 ms f hM'.2 hf'.2 (fun y hy => by
   rcases List.mem_cons.1 (h y (List.mem_cons_of_mem _ hy)) with e2 | h2
   have := hf'.1 y hy
   rw [e, ← e2, Zf3] at this; cases this
   exact h2)]
  unfold Zf0
  rw [List.map_cons, Yv7, if_pos e.symm]
  congr 1
  refine List.map_congr_left fun p hp => ?_
  rw [Yv7, if_neg (fun e2 => by have := hM'.1 p hp; rw [e2, e, Zf3] at this; cases this)]
  have hne : z.1 ≠ m := fun e => he (Ze0.2 e)
  have hz : z.1 ∈ ms := by
   rcases List.mem_cons.1 (h z (List.mem_cons_self ..)) with e | h2
   exact absurd e hne
   exact h2
  have hall : ∀ y, y ∈ z :: f → y.1 ∈ ms := fun y hy => by
   rcases List.mem_cons.1 hy with rfl | hy
   exact hz
   rcases List.mem_cons.1 (h y (List.mem_cons_of_mem _ hy)) with e | h2
   have h3 := hf'.1 y hy
   have h4 := hM'.1 _ hz
   rw [e] at h3
   have := Zp5 h4 h3
   rw [Zf3] at this; cases this
   exact h2
  rw [if_neg he, Xm2 ms (z :: f) hM'.2 hf hall]
  unfold Zf0
  rw [List.map_cons, Zi4 (a := m) (fun hm => by
   obtain ⟨y, hy, e⟩ := List.mem_map.1 hm
   have h1 := hM'.1 _ (hall y hy)
   rw [e, Zf3] at h1; cases h1)]
theorem Wm1 {M : List A8} {f : MpT} (hK : 1099511627776 ≤ K) (hM : M.length ≤ 1000000) (hf : f.length ≤ 1000000) (hMs : M.Pairwise (fun a b => bef a b = true)) (hfs : Srt f) (h : ∀ z, z ∈ f → z.1 ∈ M) : Zn1 K f M = some (Zf0 M f) := by
 have := Xu6 (K := K) hM hf K 0 0 [] (by omega) (by omega) (by omega) rfl
 rw [show ((0 : Nat) : Int) = 0 from rfl, List.nil_append, List.nil_append, List.drop_zero, List.drop_zero, Nat.sub_zero, Xm2 M f hMs hfs h] at this
 unfold Zn1
 rw [if_pos (by omega), Int.toNat_natCast, this]; rfl
/-! forms -/
theorem Xb6 {M : List A8} {row : Vc} (hl : row.length = M.length) (hM : M.length ≤ 1000000) : ∀ (k i : Nat) (out : MpT), i ≤ M.length → M.length < i + k → out.length ≤ i →
 B0 K row M k (i : Int) out = some (.go (out ++ Ze6 (M.drop i) (row.drop i)))
 | 0, i, out, h1, h2, _ => by omega
 | k + 1, i, out, h1, h2, ho => by
  rw [B0]
  have e1 : (i : Int) + 1 = ((i + 1 : Nat) : Int) := rfl
  by_cases hi : i < M.length
  have hi' : i < row.length := by omega
  have hr : rd row (i : Int) = row[i] := Ze2 hi'
  rw [if_pos (by omega), if_pos (by omega), hr, Ze2 hi, Zz8 hi, Zz8 hi', Ze6]
  by_cases hz : row[i] = 0
  rw [if_pos hz, if_pos hz, e1]
  exact Xb6 hl hM k (i + 1) out (by omega) (by omega) (by omega)
  rw [if_neg hz, if_neg hz, if_pos (by simp; omega), e1, Xb6 hl hM k (i + 1) _ (by omega) (by omega) (by simp; omega)]
  simp
  have e : i = M.length := by omega
  subst e
  rw [if_neg (by omega), List.drop_length]
  have : row.drop M.length = [] := by rw [← hl]; exact List.drop_length
  rw [this]; simp [Ze6]
theorem Wu7 {M : List A8} {row : Vc} (hK : 1099511627776 ≤ K) (hl : row.length = M.length) (hM : M.length ≤ 1000000) : Zr7 K row M = some (Ze6 M row) := by
 have := Xb6 (K := K) hl hM K 0 [] (by omega) (by omega) (by simp)
 rw [show ((0 : Nat) : Int) = 0 from rfl, List.drop_zero, List.drop_zero, List.nil_append] at this
 unfold Zr7
 rw [this]; rfl
theorem Xm9 {M : List A8} {rows : List Vc} (hK : 1099511627776 ≤ K) (hr : ∀ r, r ∈ rows → r.length = M.length) (hM : M.length ≤ 1000000) (hR : rows.length ≤ 1000000) : ∀ (k i : Nat) (out : List MpT), i ≤ rows.length → rows.length < i + k → out.length ≤ i →
 Za3 K rows M k (i : Int) out = some (.go (out ++ (rows.drop i).map (Ze6 M)))
 | 0, i, out, h1, h2, _ => by omega
 | k + 1, i, out, h1, h2, ho => by
  rw [Za3]
  have e1 : (i : Int) + 1 = ((i + 1 : Nat) : Int) := rfl
  by_cases hi : i < rows.length
  rw [if_pos (by omega), rdV hi, Wu7 hK (hr _ (List.getElem_mem hi)) hM, Option.bind_some, if_pos (by simp; omega), e1, Xm9 hK hr hM hR k (i + 1) _ (by omega) (by omega) (by simp; omega), Zz8 hi]
  simp only [List.map_cons, List.append_assoc, List.cons_append, List.nil_append]
  have e : i = rows.length := by omega
  subst e
  rw [if_neg (by omega), List.drop_length]; simp
theorem Wl1 {M : List A8} {rows : List Vc} (hK : 1099511627776 ≤ K) (hr : ∀ r, r ∈ rows → r.length = M.length) (hM : M.length ≤ 1000000) (hR : rows.length ≤ 1000000) : Zj0 K rows M = some (rows.map (Ze6 M)) := by
 have := Xm9 (K := K) hK hr hM hR K 0 [] (by omega) (by omega) (by simp)
 rw [show ((0 : Nat) : Int) = 0 from rfl, List.drop_zero, List.nil_append] at this
 unfold Zj0
 rw [this]; rfl
end
section
variable {K m : Nat} {a : A0} {n : Int} {R : List Vc}
theorem Wb7 (r : Vc) : ∀ (k j : Nat), j ≤ r.length → r.length < j + k → (∀ i, i < j → at_ r i = 0) →
 W9 K r (fun x => Zr4 K x) k (j : Int) = some (if fs r < r.length then .ret (fs r : Int) else .go ())
 | 0, j, h1, h2, _ => by omega
 | k + 1, j, h1, h2, h0 => by
  rw [W9]
  by_cases hj : j < r.length
  rw [if_pos (by omega), Zl4]
  unfold Zr4
  rw [Option.bind_some]
  by_cases hz : r.getD j 0 = 0
  rw [if_neg (by rw [hz]; decide)]
  have := Wb7 r k (j + 1) (by omega) (by omega) (fun i hi => by
   by_cases e : i = j
   subst e; exact hz
   exact h0 i (by omega))
  rw [Int.natCast_add] at this
  exact this
  have e : fs r = j := Yp5 r j h0 hz
  rw [if_pos (by rw [decide_eq_false hz]; rfl), e, if_pos hj]
  have e : j = r.length := by omega
  subst e
  rw [if_neg (by omega)]
  have : fs r = r.length := Xx2 r (fun k => by
   by_cases hk : k < r.length
   exact h0 k hk
   exact Zt5 r k (by omega))
  rw [this, if_neg (by omega)]
theorem Wa9 {r : Vc} (hK : r.length < K) : Zu4 K r = some (if fs r < r.length then (fs r : Int) else -1) := by
 unfold Zu4 N2
 have := Wb7 (K := K) r K 0 (by omega) (by omega) (fun i hi => by omega)
 rw [show ((0 : Nat) : Int) = 0 from rfl] at this
 rw [this]
 by_cases h : fs r < r.length
 rw [if_pos h, if_pos h]; rfl
 rw [if_neg h, if_neg h]; rfl
theorem Xy6 {r : Vc} {w : Nat} (hK : r.length < K) (hw : w ≤ r.length) : Zu0 K (r.take w) = some (decide (w ≤ fs r)) := by
 have hl : (r.take w).length = w := by rw [List.length_take]; omega
 unfold Zu0
 rw [Wa9 (by omega), Option.bind_some, hl]
 have h := Wx3 hw
 by_cases hf : fs r < w
 rw [if_pos (h.2 hf)]
 congr 1
 rw [decide_eq_false (show ¬ w ≤ fs r by omega)]
 exact decide_eq_false (by omega)
 rw [if_neg (fun x => hf (h.1 x))]
 congr 1
 rw [decide_eq_true (show w ≤ fs r by omega)]; rfl
theorem Wa8 {w : Nat} : ∀ (R : List Vc) (acc : List Vc), (∀ r, r ∈ R → Okv (w + m) r ∧ 0 < w + m) → w + m < K → Yu5 K w acc R = some (acc ++ Zw4 w R)
 | [], acc, _, _ => by simp [Yu5, Zw4]
 | r :: R, acc, h, hK => by
  obtain ⟨hr, h0⟩ := h r (List.mem_cons_self ..)
  have hrl := hr.len
  have ih := fun acc => Wa8 R acc (fun x hx => h x (List.mem_cons_of_mem _ hx)) hK
  rw [Yu5, if_pos (by omega), Xy6 (by omega) (by omega), Option.bind_some, ih]
  by_cases hf : w ≤ fs r
  rw [Xw9 hf, if_pos (decide_eq_true hf)]
  simp only [List.append_assoc, List.cons_append, List.nil_append]
  rw [Xt5 hf, if_neg (by simpa using hf)]
theorem Wg6 {rows : List Vc} {w : Nat} (hr : ∀ r, r ∈ rows → Okv w r) (hK : 1099511627776 ≤ K) (hw : w ≤ 400000) (hl : rows.length ≤ 400000) : Zt6 K rows (w : Int) = some (Wi2 rows w) := by
 have hwo := Yq2 (m := rows.length) rows 0 hr
 have hT := (Yd5 hwo).1
 have hsh := hT.short
 have hwl := Yg6 rows.length rows 0
 unfold Zt6
 rw [if_pos (show okK rows (w : Int) = true from decide_eq_true ⟨by omega, by omega, by omega, fun r h => by have := (hr r h).len; omega⟩), Yf8 hK hwo (by omega) (by omega), Option.bind_some, if_pos (by omega), Int.toNat_natCast]
 have h0 : ∀ r, r ∈ Yb9 (Zf4 rows.length 0 rows) → 0 < w + rows.length := fun r hr' => by have := (hT.ld r hr').1; omega
 rw [Wa8 (m := rows.length) _ [] (fun r hr' => ⟨hT.ok r hr', h0 r hr'⟩) (by omega), Option.bind_some, List.nil_append]
 have hql : (Zw4 w (Yb9 (Zf4 rows.length 0 rows))).length ≤ (Yb9 (Zf4 rows.length 0 rows)).length := by
  unfold Zw4; rw [List.length_map]; exact List.length_filter_le ..
 rw [Yf8 hK (Xk8 hT.ok) (by omega) (by omega)]; rfl
theorem Vb7 {row s : Vc} (hr : Okv m row) (hs : Okv m s) (hf : fs s < m) : tkN row s (at_ row (fs s)) s.length = if at_ row (fs s) = 0 then row else Zt0 row s (at_ row (fs s)) := by
 have hlen : (tkN row s (at_ row (fs s)) s.length).length = m := by rw [Yi6]; exact hr.len
 have hat : ∀ k, at_ (tkN row s (at_ row (fs s)) s.length) k = (at_ row k - at_ row (fs s) * at_ s k) % 10007 := fun k => by
  show (tkN _ _ _ _).getD k 0 = _
  rw [Xl4 _ _ _ _ (by rw [hs.len, hr.len]; exact Nat.le_refl _)]
  by_cases hk : k < s.length
  rw [if_pos hk]; exact Wm9 (hr.inF k) (hs.inF k) (hr.inF _)
  rw [if_neg hk]
  have z1 : at_ row k = 0 := Zt5 _ _ (by rw [hr.len, ← hs.len]; omega)
  have z2 : at_ s k = 0 := Zt5 _ _ (by omega)
  show at_ row k = _
  rw [z1, z2, Int.mul_zero]; rfl
 have hok : Okv m (tkN row s (at_ row (fs s)) s.length) := Xv5 hlen fun k _ => by rw [hat]; omega
 by_cases hz : at_ row (fs s) = 0
 rw [if_pos hz]
 refine hok.ext hr fun k => ?_
 rw [hat, hz, Int.zero_mul, Int.sub_zero]
 have := hr.at k
 omega
 rw [if_neg hz]
 refine hok.ext (Zv7 hr) fun k => ?_
 rw [hat, Yf2 (by rw [hr.len, hs.len])]
theorem Wj0 : ∀ (rows : List Vc) (row : Vc), Okv m row → (∀ s, s ∈ rows → Okv m s ∧ fs s < m) → m < K → rbL K row rows = some (byR rows row)
 | [], row, _, _, _ => rfl
 | s :: ss, row, hr, h, hK => by
  obtain ⟨hs, hf⟩ := h s (List.mem_cons_self ..)
  have hsl := hs.len
  have hrl := hr.len
  rw [rbL, Wa9 (by omega), if_pos (by omega), Option.bind_some, if_pos (by omega), Zl4, byR]
  have e : row.getD (fs s) 0 = at_ row (fs s) := rfl
  rw [e, Vb7 hr hs hf]
  refine Wj0 ss _ ?_ (fun t ht => h t (List.mem_cons_of_mem _ ht)) hK
  split
  exact hr
  exact Zv7 hr
theorem Xz7 {row : Vc} (hK : 1099511627776 ≤ K) (hr : Okv m row) (hR : Rr m R) (hm : m ≤ 1000000) : Zj1 K row R = some (byR R row) := by
 unfold Zj1
 rw [if_pos (by have := hr.len; omega), Wj0 R row hr (fun s hs => ⟨hR.ok s hs, (hR.ld s hs).1⟩) (by omega)]
theorem Xs9 (hK : 1099511627776 ≤ K) (hR : Rr m R) (hm : m ≤ 1000000) : ∀ (ker : List Vc), (∀ r, r ∈ ker → Okv m r) → Yp1 K R ker = some (ker.map (byR R))
 | [], _ => rfl
 | r :: ker, h => by
  rw [Yp1, Xz7 hK (h r (List.mem_cons_self ..)) hR hm, Option.bind_some, Xs9 hK hR hm ker (fun x hx => h x (List.mem_cons_of_mem _ hx)), Option.bind_some]; rfl
/-! a degree -/
def Zn9 (a : A0) (n : Int) : Bool := decide (n < 0 ∨ (Q3 a.1 n).length ≤ 120)
theorem Xq9 (h0 : 0 ≤ n) (h : Zn9 a n = true) : (Q3 a.1 n).length ≤ 120 := by
 rcases of_decide_eq_true h with h | h
 omega
 exact h
def clR (a : A0) (n : Int) : List Vc := Wi2 (Yw9 a n) (Q3 a.1 (n + 1)).length
def bdR (a : A0) (n : Int) : List Vc := if 0 < n then Yb9 (Yw9 a (n - 1)) else []
def csR (a : A0) (n : Int) : List Vc := Yb9 ((clR a n).map (byR (bdR a n)))
structure Dg (a : A0) (n : Int) : Prop where
 v : Vw a
 r : 0 ≤ n ∧ n ≤ 20
 f0 : Zn9 a (n - 1) = true
 f1 : Zn9 a n = true
 f2 : Zn9 a (n + 1) = true
theorem Dg.l1 (h : Dg a n) : (Q3 a.1 n).length ≤ 120 := Xq9 h.r.1 h.f1
theorem Dg.l2 (h : Dg a n) : (Q3 a.1 (n + 1)).length ≤ 120 := Xq9 (by have := h.r.1; omega) h.f2
theorem Ys0 (a : A0) (n : Int) : (Yw9 a n).length = (Q3 a.1 n).length := by simp [Yw9]
theorem Dg.bd (h : Dg a n) : Rr (Q3 a.1 n).length (bdR a n) := by
 unfold bdR
 have := h.r
 split
 have := Yo2 (n := n - 1) h.v (by omega)
 rw [Int.sub_add_cancel] at this
 exact (Yd5 this).1
 exact Xx9
theorem Dg.cl (h : Dg a n) : Rr (Q3 a.1 n).length (clR a n) := by
 have hr := h.r
 have := Wy3 (Yo2 (n := n) h.v (by omega))
 rwa [Ys0] at this
theorem Dg.left (h : Dg a n) : ∀ r, r ∈ (clR a n).map (byR (bdR a n)) → Okv (Q3 a.1 n).length r := fun r hr => by
 obtain ⟨s, hs, rfl⟩ := List.mem_map.1 hr
 exact Xh1 _ _ (h.cl.ok s hs)
theorem Dg.cs (h : Dg a n) : Rr (Q3 a.1 n).length (csR a n) := (Yd5 h.left).1
theorem Wx1 (hK : 1099511627776 ≤ K) (h : Dg a n) : Xd2 K a n = some (clR a n, bdR a n, csR a n) := by
 have l1 := h.l1
 have l2 := h.l2
 have hr := h.r
 have hmat : Yq0 K a n = some (Yw9 a n) := Wb4 hK h.v (by omega) l1 l2
 have hker : Ws4 K a n = some (clR a n) := by
  unfold Ws4
  rw [hmat, Option.bind_some, Xi6 h.v.dg (by omega) l2, Option.bind_some, Wg6 (Yo2 h.v (by omega)) hK (by omega) (by rw [Ys0]; omega)]; rfl
 have hbd : bdN K a n = some (bdR a n) := by
  unfold bdN bdR
  by_cases hp : 0 < n
  have l0 := Xq9 (by omega) h.f0
  have hm := Yo2 (n := n - 1) h.v (by omega)
  rw [Int.sub_add_cancel] at hm
  rw [if_pos hp, if_pos hp, Wb4 hK h.v (by omega) l0 (by rw [Int.sub_add_cancel]; exact l1), Option.bind_some, Yf8 hK hm (by omega) (by rw [Ys0]; omega)]
  rw [if_neg hp, if_neg hp]
 have hcl := h.cl.short
 unfold Xd2
 rw [if_pos (by omega), hker, Option.bind_some, hbd, Option.bind_some, if_pos (by omega), Xs9 hK h.bd (by omega) _ h.cl.ok, Option.bind_some, Yf8 hK h.left (by omega) (by rw [List.length_map]; omega)]
 rfl
/-! the reference -/
theorem Xw2 (hd : okD a.1 = true) (hn : 0 ≤ n ∧ n ≤ 1000) : ∃ M, P7 K a.1 n = some M ∧ (M.length ≤ 120 ↔ (Q3 a.1 n).length ≤ 120) ∧ ((Q3 a.1 n).length ≤ 120 → M = Q3 a.1 n) := by
 refine ⟨fsF a.1 a.1.length (fun _ => 0) n [], ?_, Xo0.1, fun h => Xo0.2 (by omega)⟩
 unfold P7
 rw [if_pos (show okS _ _ = true from decide_eq_true ⟨D9 hd, J5 hd, hn⟩)]
theorem Ys2 (hd : okD a.1 = true) (hn : 0 ≤ n ∧ n ≤ 1000) (h : (Q3 a.1 n).length ≤ 120) : P7 K a.1 n = some (Q3 a.1 n) := by
 obtain ⟨M, h1, _, h2⟩ := Xw2 (K := K) hd hn
 rw [h1, h2 h]
theorem Xp5 (hK : 1099511627776 ≤ K) (hV : Vw a) (hn : 0 ≤ n ∧ n ≤ 25) (hl : (Q3 a.1 (n + 1)).length ≤ 120) : ∀ (ps : List A8), (∀ p, p ∈ ps → p ∈ Q3 a.1 n) →
 Yj7 K a (Q3 a.1 (n + 1)) ps = some (ps.map fun p => Zf0 (Q3 a.1 (n + 1)) (dmR a p))
 | [], _ => rfl
 | p :: ps, h => by
  have hp := h p (List.mem_cons_self ..)
  have hm := ((Yl1 hV.dg (by omega)).1 hp).1
  have hh := Wg3 hV hn hp
  have hd : Zq3 K a [(p, 1)] = some (dmR a p) := Vf9 (ds := a.1) (imgs := a.2) (by omega) hV.dg hV.vi (Wl9 hm)
  have hsrt := Xd0 hV.dg (n := n + 1) (by omega)
  have Z4 := Wv8 hV hn hp
  have hlen : (dmR a p).length ≤ 1000000 := by
   have h1 : ((dmR a p).map Prod.fst).Nodup := Zs4 (F9 hh.nf)
   have h2 : ∀ x, x ∈ (dmR a p).map Prod.fst → x ∈ Q3 a.1 (n + 1) := fun x hx => by
    obtain ⟨z, hz, rfl⟩ := List.mem_map.1 hx
    exact Z4 z hz
   have := Xx7 _ _ h1 h2
   rw [List.length_map] at this
   omega
  rw [Yj7, Xe4, Option.bind_some, hd, Option.bind_some, Wm1 hK (by omega) hlen hsrt (F9 hh.nf) Z4, Option.bind_some, Xp5 hK hV hn hl ps (fun q hq => h q (List.mem_cons_of_mem _ hq)), Option.bind_some]
  rfl
theorem Wx6 (hK : 1099511627776 ≤ K) (hV : Vw a) (hn : 0 ≤ n ∧ n ≤ 25) (hl : (Q3 a.1 n).length ≤ 120) (hl1 : (Q3 a.1 (n + 1)).length ≤ 120) : Zm6 K a n = some (Yw9 a n) := by
 unfold Zm6
 rw [if_pos (by omega), Ys2 hV.dg (by omega) hl, Option.bind_some, Ys2 hV.dg (by omega) hl1, Option.bind_some, if_pos (by omega), Xp5 hK hV hn hl1 _ (fun p hp => hp)]; rfl
theorem Wg7 (hK : 1099511627776 ≤ K) (h : Dg a n) : Zm9 K a n = some (clR a n) := by
 have l1 := h.l1
 have l2 := h.l2
 have hr := h.r
 unfold Zm9
 rw [IntWalk.i64_in _ (by omega), show (a.1, a.2) = a from rfl, Wx6 hK h.v (by omega) l1 l2, Option.bind_some, Ys2 h.v.dg (by omega) l2, Option.bind_some, Wf9 (Yo2 h.v (by omega)) hK (by omega) (by rw [Ys0]; omega)]
 rfl
/-! codes -/
def cdR (a : A0) (n : Int) : Int := if okA a = true then if 0 ≤ n ∧ n ≤ 20 then if (Zn9 a (n - 1) && Zn9 a n && Zn9 a (n + 1)) = true then 0 else 3 else 2 else 1
theorem Xe7 (hd : okD a.1 = true) {t : Int} (ht : t ≤ 900) : ∀ (k : Nat) (x : Int), 0 ≤ x → x ≤ t + 1 → t + 1 - x < k →
 (I8 K a t k x = some (.go ()) ∧ ∀ m, x ≤ m → m ≤ t → (Q3 a.1 m).length ≤ 120) ∨ (I8 K a t k x = some (.ret false) ∧ ∃ m, x ≤ m ∧ m ≤ t ∧ ¬ (Q3 a.1 m).length ≤ 120)
 | 0, x, h0, h1, h2 => by omega
 | k + 1, x, h0, h1, h2 => by
  rw [I8]
  by_cases hx : x ≤ t
  obtain ⟨M, e, h3, _⟩ := Xw2 (K := K) hd (n := x) (by omega)
  rw [if_pos hx, e, Option.bind_some, IntWalk.i64_in _ (by omega)]
  by_cases hM : (M.length : Int) ≤ 120
  have hA := h3.1 (by omega)
  rw [if_neg (by omega)]
  rcases Xe7 hd ht k (x + 1) (by omega) (by omega) (by omega) with ⟨g1, g2⟩ | ⟨g1, m, g2, g3, g4⟩
  exact .inl ⟨g1, fun m hm1 hm2 => by
   by_cases e : m = x
   rw [e]; exact hA
   exact g2 m (by omega) hm2⟩
  exact .inr ⟨g1, m, by omega, g3, g4⟩
  rw [if_pos (by omega)]
  exact .inr ⟨rfl, x, by omega, hx, fun h => hM (by have := h3.2 h; omega)⟩
  rw [if_neg hx]
  exact .inl ⟨rfl, fun m hm1 hm2 => by omega⟩
theorem Wi1 (hK : 1099511627776 ≤ K) (hd : okD a.1 = true) (hn : 0 ≤ n ∧ n ≤ 20) : Zl6 K a (n - 1) (n + 1) = some (Zn9 a (n - 1) && Zn9 a n && Zn9 a (n + 1)) := by
 unfold Zl6
 have key := Xe7 (K := K) hd (t := n + 1) (by omega) K (if n - 1 < 0 then 0 else n - 1) (by split <;> omega) (by split <;> omega) (by split <;> omega)
 rcases key with ⟨g1, g2⟩ | ⟨g1, m, g2, g3, g4⟩
 rw [g1]
 have f : ∀ m, m = n - 1 ∨ m = n ∨ m = n + 1 → Zn9 a m = true := fun m hm => decide_eq_true (by
  by_cases h0 : m < 0
  exact .inl h0
  exact .inr (g2 m (by split <;> omega) (by omega)))
 rw [f (n - 1) (.inl rfl), f n (.inr (.inl rfl)), f (n + 1) (.inr (.inr rfl))]; rfl
 rw [g1]
 have hm0 : 0 ≤ m ∧ n - 1 ≤ m := by split at g2 <;> omega
 have hf : Zn9 a m = false := decide_eq_false (by omega)
 have : (Zn9 a (n - 1) && Zn9 a n && Zn9 a (n + 1)) = false := by
  have hmm : m = n - 1 ∨ m = n ∨ m = n + 1 := by omega
  rcases hmm with rfl | rfl | rfl <;> rw [hf] <;> simp
 rw [this]; rfl
theorem Wt5 (hK : 1099511627776 ≤ K) (hi : Inp K a) : Zs1 K a n = some (cdR a n) := by
 unfold Zs1 cdR
 rw [show (a.1, a.2) = a from rfl, Vd1 hi, Option.bind_some]
 by_cases hA : okA a = true
 rw [if_pos hA, if_pos hA, Wg0, Option.bind_some]
 by_cases hr : 0 ≤ n ∧ n ≤ 20
 rw [if_pos (decide_eq_true hr), if_pos hr, IntWalk.i64_in _ (by omega), IntWalk.i64_in _ (by omega), Wi1 hK (Xr8 hi hA).dg hr, Option.bind_some]
 split <;> rfl
 rw [if_neg (by simpa using hr), if_neg hr]
 rw [if_neg hA, if_neg hA]
theorem Xd8 (hd : okD a.1 = true) (hn : n ≤ 1000) : A9 K a n = some (Zn9 a n) := by
 unfold A9
 rw [Xt7 hd hn]
 show some (decide _) = some (decide _)
 congr 1
 by_cases h0 : n < 0
 have : lsM a.1 n 120 = [] := by unfold lsM; rw [if_neg (by omega)]
 rw [this, decide_eq_true (by simp), decide_eq_true (.inl h0)]
 have := (Xn2 (ds := a.1) (n := n) (D9 hd) (by omega)).1
 refine decide_eq_decide.2 ?_
 omega
theorem Wk3 (hK : 1099511627776 ≤ K) (hi : Inp K a) : Zw8 K a [n] = some (cdR a n) := by
 unfold Zw8 cdR
 have hc : R8 K [n] (fun x => Zo4 K x) = some ([n].any fun x => !decide (0 ≤ x ∧ x ≤ 20)) := Xt8 (by simp; omega) (fun x _ => by
  unfold Zo4 Zy1
  rw [Yv9]; rfl)
 have hany : ([n].any fun x => !decide (0 ≤ x ∧ x ≤ 20)) = !decide (0 ≤ n ∧ n ≤ 20) := by simp
 rw [hc, Option.bind_some, hany, Vc0 hi, Option.bind_some, Xm0, Option.bind_some]
 have hf : ∀ x y : Int, Zv8 K [x, y] = some (if x = 0 then y else x) := fun x y => by
  obtain ⟨k, rfl⟩ : ∃ k, K = k + 3 := ⟨K - 3, by omega⟩
  unfold Zv8
  have r0 : rd [x, y] 0 = x := rfl
  have r1 : rd [x, y] 1 = y := rfl
  rw [Zc0, if_pos (by simp), r0]
  by_cases hx : x = 0
  rw [if_pos hx, if_pos hx, show (0 : Int) + 1 = 1 from rfl, Zc0, if_pos (by simp), r1]
  by_cases hy : y = 0
  rw [if_pos hy, show (1 : Int) + 1 = 2 from rfl, Zc0, if_neg (by simp), hy]; rfl
  rw [if_neg hy]; rfl
  rw [if_neg hx, if_neg hx]; rfl
 rw [hf, Option.bind_some]
 by_cases hA : okA a = true
 case neg =>
  rw [if_neg hA, if_neg hA]
  have e : (if (1 : Int) = 0 then (if (!decide (0 ≤ n ∧ n ≤ 20)) = true then (2 : Int) else 0) else 1) = 1 := if_neg (by decide)
  rw [e, if_neg (by decide)]
 rw [if_pos hA, if_pos hA, if_pos rfl]
 by_cases hr : 0 ≤ n ∧ n ≤ 20
 case neg =>
  rw [if_neg hr, decide_eq_false hr]
  have e : (if (!false) = true then (2 : Int) else 0) = 2 := rfl
  rw [e, if_neg (by decide)]
 have hd := (Xr8 hi hA).dg
 rw [if_pos hr, decide_eq_true hr]
 have e : (if (!true) = true then (2 : Int) else 0) = 0 := rfl
 rw [e, if_pos rfl]
 show ((Wg4 K a n).bind fun b => if b = true then arN K a [] else some 3) = _
 unfold Wg4
 rw [if_pos (by omega), Xd8 hd (by omega), Option.bind_some]
 cases h1 : Zn9 a (n - 1) with
 | false => rw [if_neg (by decide), Option.bind_some, if_neg (by decide), if_neg (by simp)]
 | true =>
  rw [if_pos rfl, Xd8 hd (by omega), Option.bind_some]
  cases h2 : Zn9 a n with
  | false => rw [if_neg (by decide), Option.bind_some, if_neg (by decide), if_neg (by simp)]
  | true =>
   rw [if_pos rfl, Xd8 hd (by omega), Option.bind_some]
   cases h3 : Zn9 a (n + 1) with
   | false => rw [if_neg (by decide), if_neg (by simp)]
   | true => rw [if_pos rfl, if_pos (by simp)]; rfl
theorem Xw6 (hi : Inp K a) (h : cdR a n = 0) : Dg a n := by
 unfold cdR at h
 by_cases hA : okA a = true
 case neg => rw [if_neg hA] at h; omega
 rw [if_pos hA] at h
 by_cases hr : 0 ≤ n ∧ n ≤ 20
 case neg => rw [if_neg hr] at h; omega
 rw [if_pos hr] at h
 by_cases hf : (Zn9 a (n - 1) && Zn9 a n && Zn9 a (n + 1)) = true
 case neg => rw [if_neg hf] at h; omega
 rw [Bool.and_eq_true, Bool.and_eq_true] at hf
 exact ⟨Xr8 hi hA, hr, hf.1.1, hf.1.2, hf.2⟩
/-! forms -/
theorem Xt2 (hK : 1099511627776 ≤ K) : ∀ (M2 M1 : List A8) (row : Vc) (s : MpT), (M1 ++ M2).Pairwise (fun a b => bef a b = true) → nfm s = true → (∀ z, z ∈ s → z.1 ∈ M1) → (∀ x, x ∈ row → 0 ≤ x ∧ x < 10007) → row.length = M2.length →
 lsN K (M1 ++ M2) row M1.length s = some (s ++ Ze6 M2 row)
 | [], M1, row, s, _, _, _, _, hl => by
  have : row = [] := List.eq_nil_of_length_eq_zero hl
  subst this
  simp [lsN, Ze6]
 | p :: M2, M1, [], s, _, _, _, _, hl => by simp at hl
 | p :: M2, M1, x :: row, s, hM, hs, hk, hr, hl => by
  have hx := hr x (List.mem_cons_self ..)
  have hi : M1.length < (M1 ++ p :: M2).length := by simp
  have hrd : rd (M1 ++ p :: M2) (M1.length : Int) = p := by rw [Ze2 hi]; simp
  have e : M1 ++ p :: M2 = (M1 ++ [p]) ++ M2 := by simp
  have hb : ∀ z, z ∈ s → bef z.1 p = true := fun z hz => (List.pairwise_append.1 hM).2.2 _ (hk z hz) p (List.mem_cons_self ..)
  have hn : p ∉ s.map Prod.fst := fun h => by
   obtain ⟨z, hz, rfl⟩ := List.mem_map.1 h
   have := hb z hz
   rw [Zf3] at this; cases this
  rw [lsN, if_pos hi, hrd, Yk0 ⟨hs, by omega, by omega⟩, Option.bind_some]
  have hg : N5 s p = 0 := Zi4 hn
  unfold Ze6
  unfold Zu9
  rw [hg, Int.zero_add, show x % 10007 = x by omega]
  by_cases h0 : x = 0
  rw [if_pos h0, if_pos h0]
  have hd : Zw1 s p = s := by unfold Zw1; exact Zy0 hn
  rw [hd]
  have := Xt2 hK M2 (M1 ++ [p]) row s (by rw [← e]; exact hM) hs (fun z hz => List.mem_append_left _ (hk z hz)) (fun y hy => hr y (List.mem_cons_of_mem _ hy)) (by simpa using hl)
  rw [← e, List.length_append] at this
  exact this
  have hsrt : Srt (s ++ [(p, x)]) := List.pairwise_append.2 ⟨F9 hs, List.pairwise_singleton _ _, fun z hz y hy => by cases List.mem_singleton.1 hy; exact hb z hz⟩
  rw [if_neg h0, if_neg h0, Xc8 hsrt]
  have := Xt2 hK M2 (M1 ++ [p]) row (s ++ [(p, x)]) (by rw [← e]; exact hM) (Yg3 hsrt fun z hz => by
   rcases List.mem_append.1 hz with hz | hz
   exact Ye0 hs z hz
   cases List.mem_singleton.1 hz; show 1 ≤ x ∧ x ≤ 10006; omega) (fun z hz => by
   rcases List.mem_append.1 hz with hz | hz
   exact List.mem_append_left _ (hk z hz)
   cases List.mem_singleton.1 hz; simp) (fun y hy => hr y (List.mem_cons_of_mem _ hy)) (by simpa using hl)
  rw [← e, List.length_append] at this
  rw [show M1.length + 1 = M1.length + [p].length from rfl, this]; simp
theorem Wy9 (hK : 1099511627776 ≤ K) {M : List A8} {row : Vc} (hM : M.Pairwise (fun a b => bef a b = true)) (hr : Okv M.length row) : Zs7 K M row = some (Ze6 M row) := by
 have := Xt2 hK M [] row [] hM Zx2 (fun z hz => by cases hz) hr.rng hr.len
 simpa [Zs7] using this
theorem Vc7 {ds : List Int} {M : List A8} {row : Vc} (hM : M.Pairwise (fun a b => bef a b = true)) (hr : Okv M.length row) (hm : ∀ p, p ∈ M → Mo 20 ds p) (hl : M.length ≤ 400) : VF ds (Ze6 M row) :=
 ⟨Wz9 hM (n := 0) hr.rng, fun z hz => hm _ (Yi8 M row z hz).1, Nat.le_trans (Xd6 M row) hl⟩
theorem Wo9 (hK : 1099511627776 ≤ K) {ds : List Int} {M : List A8} (hM : M.Pairwise (fun a b => bef a b = true)) (hm : ∀ p, p ∈ M → Mo 20 ds p) (hl : M.length ≤ 400) : ∀ (rows : List Vc) (out : List MpT), (∀ r, r ∈ rows → Okv M.length r) →
 fmL K M rows out = some (out ++ rows.map (Ze6 M), 0)
 | [], out, _ => by simp [fmL]
 | r :: rows, out, h => by
  have hr := h r (List.mem_cons_self ..)
  rw [fmL, Wy9 hK hM hr, Option.bind_some, Ve1 (by omega) (Vc7 hM hr hm hl), Option.bind_some, if_pos rfl, Wo9 hK hM hm hl rows _ fun x hx => h x (List.mem_cons_of_mem _ hx)]
  simp
theorem Wn7 (hK : 1099511627776 ≤ K) (h : Dg a n) {R : List Vc} (hR : Rr (Q3 a.1 n).length R) : Zi0 K (Q3 a.1 n) R = some (R.map (Ze6 (Q3 a.1 n)), 0) := by
 have l1 := h.l1
 have hs := hR.short
 have hr := h.r
 unfold Zi0
 rw [if_pos (by omega), Wo9 hK (Xd0 h.v.dg (by omega)) (fun p hp => ((Yl1 h.v.dg (by omega)).1 hp).1) (by omega) R [] hR.ok]
 rfl
theorem Wm0 (hK : 1099511627776 ≤ K) (h : Dg a n) {R : List Vc} (hR : Rr (Q3 a.1 n).length R) : Zj0 K R (Q3 a.1 n) = some (R.map (Ze6 (Q3 a.1 n))) := by
 have l1 := h.l1
 have hs := hR.short
 exact Wl1 hK (fun r hr => (hR.ok r hr).len) (by omega) (by omega)
def dgR (a : A0) (n : Int) (R : List Vc) : List MpT × Int := if cdR a n = 0 then (R.map (Ze6 (Q3 a.1 n)), 0) else ([], cdR a n)
end
end Go.Proofs.YtabofnehiclkiaaGreat
