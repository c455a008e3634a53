/- Plain laws on the pure functions. -/
import Derived.Test.YtabofnehiclkiaaGreatYP2
import Derived.Test.YtabofnehiclkiaaGreatYP3
import Derived.Test.YtabofnehiclkiaaGreatYF29
import Derived.Test.YtabofnehiclkiaaGreatYF12
import Derived.Test.YtabofnehiclkiaaGreatYF1
import Derived.Test.YtabofnehiclkiaaGreatYF2
import Derived.Test.YtabofnehiclkiaaGreatYF3
import Derived.Test.YtabofnehiclkiaaGreatYF4
import Derived.Test.YtabofnehiclkiaaGreatYF5
import Derived.Test.YtabofnehiclkiaaGreatYF6
import Derived.Test.YtabofnehiclkiaaGreatYF7
import Derived.Test.YtabofnehiclkiaaGreatYF8
import Derived.Test.YtabofnehiclkiaaGreatYF9
import Derived.Test.YtabofnehiclkiaaGreatYF10
import Derived.Test.YtabofnehiclkiaaGreatYF11
import Derived.Test.YtabofnehiclkiaaGreatYF13
import Derived.Test.YtabofnehiclkiaaGreatYF14
import Derived.Test.YtabofnehiclkiaaGreatYF15
import Derived.Test.YtabofnehiclkiaaGreatYF16
import Derived.Test.YtabofnehiclkiaaGreatYF17
import Derived.Test.YtabofnehiclkiaaGreatYF18
import Derived.Test.YtabofnehiclkiaaGreatYF19
import Derived.Test.YtabofnehiclkiaaGreatYF20
import Derived.Test.YtabofnehiclkiaaGreatYF21
import Derived.Test.YtabofnehiclkiaaGreatYF22
import Derived.Test.YtabofnehiclkiaaGreatYF23
import Derived.Test.YtabofnehiclkiaaGreatYF24
import Derived.Test.YtabofnehiclkiaaGreatYF25
import Derived.Test.YtabofnehiclkiaaGreatYF26
import Derived.Test.YtabofnehiclkiaaGreatYF27
import Derived.Test.YtabofnehiclkiaaGreatYF28
import Derived.Test.YtabofnehiclkiaaGreatYF30
namespace Go.Proofs.YtabofnehiclkiaaGreat
open Go
set_option linter.unusedSimpArgs false
set_option linter.unusedVariables false
theorem Xg2 : ∀ (n : Nat) (xs ys : List Int) (x y : Int), (∀ j, j < n → xs[j]? = ys[j]?) → xs[n]? = some x → ys[n]? = some y → y < x → Zf3 xs ys = true
 | n, [], ys, x, y, _, h, _, _ => by simp at h
 | n, x0 :: xs, [], x, y, _, _, h, _ => by simp at h
 | 0, x0 :: xs, y0 :: ys, x, y, _, h1, h2, h => by
  simp at h1 h2
  subst h1; subst h2
  unfold Zf3
  rw [if_neg (by omega)]; exact decide_eq_true h
 | n + 1, x0 :: xs, y0 :: ys, x, y, hj, h1, h2, h => by
  have h0 := hj 0 (by omega)
  simp at h0
  subst h0
  unfold Zf3
  rw [if_pos rfl]
  exact Xg2 n xs ys x y (fun j hjn => by have := hj (j + 1) (by omega); simpa using this) (by simpa using h1) (by simpa using h2) h
theorem Xi3 (a : A8) {j : Nat} (h : j < 8) : (l8 a)[j]? = some (Y5 a (j : Int)) := by
 rw [T2 a h]
 match j, h with
 | 0, _ | 1, _ | 2, _ | 3, _ | 4, _ | 5, _ | 6, _ | 7, _ => rfl
theorem Wi7 {a b : A8} {n : Nat} (hn : n < 8) (h : ∀ j : Nat, j < n → Y5 a (j : Int) = Y5 b (j : Int)) (hlt : Y5 b (n : Int) < Y5 a (n : Int)) : bef a b = true :=
 Xg2 n _ _ _ _ (fun j hj => by rw [Xi3 a (by omega), Xi3 b (by omega), h j hj]) (Xi3 a hn) (Xi3 b hn) hlt
theorem Vb1 {a b : A8} (h : ∀ j : Nat, j < 8 → Y5 a (j : Int) = Y5 b (j : Int)) : a = b := by
 funext i
 have := h i.val i.isLt
 rwa [T2 a i.isLt, T2 b i.isLt] at this
theorem Yw3 (a : A8) {j : Nat} (h : ¬ j < 8) : Y5 a (j : Int) = 0 := by simp [Y5, h]
theorem Zz3 (m : A8) {n : Nat} (hn : n < 8) (x : Int) (j : Nat) : Y5 (U7 m n x) (j : Int) = if j = n then x else Y5 m (j : Int) := by
 by_cases hj : j < 8
 rw [T2 _ hj, Ze5 m hn, T2 m hj]
 rw [Yw3 _ hj, if_neg (by omega), Yw3 _ hj]
section
variable {ds : List Int}
theorem Xq1 (hd : okD ds = true) {q : A8} : ∀ (n a : Nat), a ≤ n → n ≤ ds.length → (∀ j : Nat, a ≤ j → j < n → 0 ≤ Y5 q (j : Int)) → wtN ds q a ≤ wtN ds q n
 | 0, a, h, _, _ => by rw [show a = 0 by omega]; exact Int.le_refl _
 | n + 1, a, h, hn, hq => by
  by_cases e : a = n + 1
  subst e; exact Int.le_refl _
  have ih := Xq1 hd n a (by omega) (by omega) fun j h1 h2 => hq j h1 (by omega)
  have h1 := D1 hd _ (T7 (show n < ds.length by omega))
  have h2 : 0 ≤ rd ds (n : Int) * Y5 q (n : Int) := Int.mul_nonneg (by omega) (hq n (by omega) (by omega))
  rw [wtN]; omega
theorem Yz2 {d n e : Int} (hd : 1 ≤ d ∧ d ≤ 12) (hn : 0 ≤ n ∧ n ≤ 1000) (he : 0 ≤ e) : e ≤ Zj6 d n ↔ e ≤ (if d % 2 = 1 then 1 else 20) ∧ e * d ≤ n := by
 have hq : ∀ x : Int, x ≤ n.tdiv d ↔ x * d ≤ n := fun x => by rw [Int.tdiv_eq_ediv_of_nonneg hn.1]; exact Int.le_ediv_iff_mul_le (by omega)
 rw [← hq]
 unfold Zj6
 have hq0 : 0 ≤ n.tdiv d := Int.tdiv_nonneg hn.1 (by omega)
 rw [Int.tmod_eq_emod_of_nonneg (by omega)]
 generalize n.tdiv d = q at hq0
 rcases (show d % 2 = 0 ∨ d % 2 = 1 by omega) with h | h
 rw [h]
 simp only [if_true, show ¬ ((0 : Int) = 1) by decide, if_false]
 by_cases h20 : 20 < q
 rw [if_pos h20]; omega
 rw [if_neg h20]; omega
 rw [h]
 simp only [if_true, show ¬ ((1 : Int) = 0) by decide, if_false]
 by_cases h1 : 1 < q
 simp only [h1, if_true]; rw [if_neg (by decide)]; omega
 simp only [h1, if_false]; rw [if_neg (by omega)]; omega
theorem Yw4 (hd : okD ds = true) : ∀ (g : Nat), g ≤ ds.length → ∀ (p : A8) (left : Int) (q : A8), left ≤ 1000 → 0 ≤ left → (q ∈ itF ds g p left ↔
 (∀ j : Nat, (j < ds.length - g ∨ ds.length ≤ j) → Y5 q (j : Int) = Y5 p (j : Int)) ∧ (∀ j : Nat, ds.length - g ≤ j → j < ds.length → 0 ≤ Y5 q (j : Int) ∧ Y5 q (j : Int) ≤ Zm4 ds j) ∧ wt ds q - wtN ds q (ds.length - g) = left)
 | 0, _, p, left, q, hl, hl0 => by
  unfold itF
  by_cases h : left = 0
  rw [if_pos h, List.mem_singleton]
  constructor
  rintro rfl
  exact ⟨fun _ _ => rfl, fun j h1 h2 => by omega, by unfold wt; rw [Nat.sub_zero]; omega⟩
  rintro ⟨h1, _, _⟩
  exact Vb1 fun j _ => h1 j (by omega)
  rw [if_neg h]
  constructor
  intro hq; cases hq
  rintro ⟨_, _, h3⟩
  unfold wt at h3
  rw [Nat.sub_zero] at h3; omega
 | g + 1, hg, p, left, q, hl, hl0 => by
  have hl8 := J2 hd
  rw [itF, List.mem_flatMap]
  have hi : ds.length - (g + 1) < ds.length := by omega
  have hi8 : ds.length - (g + 1) < 8 := by omega
  have e1 : ds.length - g = ds.length - (g + 1) + 1 := by omega
  have ih := fun (p : A8) (left : Int) h1 h0 => Yw4 hd g (by omega) p left q h1 h0
  rw [e1] at ih
  generalize ds.length - (g + 1) = i at *
  have hdi := D1 hd _ (T7 hi)
  have hmost : Zm4 ds i = if rd ds (i : Int) % 2 = 1 then 1 else 20 := by unfold Zm4; rw [if_pos hi]
  constructor
  rintro ⟨e, he, hq⟩
  have he := List.mem_range.1 (List.mem_reverse.1 he)
  have ht := Yw9 hdi ⟨hl0, hl⟩
  have hte := (Yz2 hdi ⟨hl0, hl⟩ (show 0 ≤ (e : Int) by omega)).1 (by omega)
  have hed : 0 ≤ (e : Int) * rd ds (i : Int) := Int.mul_nonneg (by omega) (by omega)
  obtain ⟨h1, h2, h3⟩ := (ih _ _ (by omega) (by omega)).1 hq
  have hqi : Y5 q (i : Int) = e := by rw [h1 i (by omega), Zz3 p hi8, if_pos rfl]
  refine ⟨fun j hj => ?_, fun j hj1 hj2 => ?_, ?_⟩
  rw [h1 j (by omega), Zz3 p hi8, if_neg (by omega)]
  by_cases e2 : j = i
  subst e2; rw [hqi, hmost]; exact ⟨by omega, hte.1⟩
  exact h2 j (by omega) hj2
  rw [wtN, hqi, Int.mul_comm] at h3; omega
  rintro ⟨h1, h2, h3⟩
  obtain ⟨h2i, h2m⟩ := h2 i (by omega) hi
  have hmono := Xq1 hd (q := q) ds.length (i + 1) (by omega) (Nat.le_refl _) fun j hj1 hj2 => (h2 j (by omega) hj2).1
  have hw : wtN ds q (i + 1) = wtN ds q i + rd ds (i : Int) * Y5 q (i : Int) := rfl
  have hle : Y5 q (i : Int) * rd ds (i : Int) ≤ left := by unfold wt at h3; rw [Int.mul_comm]; omega
  have hte := (Yz2 hdi ⟨hl0, hl⟩ h2i).2 ⟨by rw [← hmost]; exact h2m, hle⟩
  have hc : ((Y5 q (i : Int)).toNat : Int) = Y5 q (i : Int) := Int.toNat_of_nonneg h2i
  have hed : 0 ≤ Y5 q (i : Int) * rd ds (i : Int) := Int.mul_nonneg h2i (by omega)
  refine ⟨(Y5 q (i : Int)).toNat, List.mem_reverse.2 (List.mem_range.2 (by omega)), ?_⟩
  rw [hc]
  refine (ih _ _ (by omega) (by omega)).2 ⟨fun j hj => ?_, fun j hj1 hj2 => h2 j (by omega) hj2, ?_⟩
  rw [Zz3 p hi8]
  by_cases e2 : j = i
  subst e2; rw [if_pos rfl]
  rw [if_neg e2]; exact h1 j (by omega)
  rw [hw, Int.mul_comm (Y5 q _)]; omega
theorem Xz9 (hd : okD ds = true) : ∀ (g : Nat), g ≤ ds.length → ∀ (p : A8) (left : Int), left ≤ 1000 → 0 ≤ left → (itF ds g p left).Pairwise (fun a b => bef a b = true)
 | 0, _, p, left, _, _ => by
  unfold itF
  split
  exact List.pairwise_singleton _ _
  exact .nil
 | g + 1, hg, p, left, hl, hl0 => by
  have hl8 := J2 hd
  have hi : ds.length - (g + 1) < ds.length := by omega
  have hi8 : ds.length - (g + 1) < 8 := by omega
  have e1 : ds.length - g = ds.length - (g + 1) + 1 := by omega
  have hdi := D1 hd _ (T7 hi)
  have hb : ∀ e, e ∈ (List.range ((Zj6 (rd ds ((ds.length - (g + 1) : Nat) : Int)) left).toNat + 1)).reverse → 0 ≤ left - (e : Int) * rd ds ((ds.length - (g + 1) : Nat) : Int) ∧ left - (e : Int) * rd ds ((ds.length - (g + 1) : Nat) : Int) ≤ 1000 := fun e he => by
   have he := List.mem_range.1 (List.mem_reverse.1 he)
   have ht := Yw9 hdi ⟨hl0, hl⟩
   have hte := (Yz2 hdi ⟨hl0, hl⟩ (show 0 ≤ (e : Int) by omega)).1 (by omega)
   have hed : 0 ≤ (e : Int) * rd ds ((ds.length - (g + 1) : Nat) : Int) := Int.mul_nonneg (by omega) (by omega)
   omega
  rw [itF, List.pairwise_flatMap]
  refine ⟨fun e he => Xz9 hd g (by omega) _ _ (hb e he).2 (hb e he).1, ?_⟩
  rw [List.pairwise_reverse]
  refine List.Pairwise.imp_of_mem (fun {a b} ha hb' hab => ?_) List.pairwise_lt_range
  intro x hx y hy
  have hx := ((Yw4 hd g (by omega) _ _ x (hb b (List.mem_reverse.2 hb')).2 (hb b (List.mem_reverse.2 hb')).1).1 hx).1
  have hy := ((Yw4 hd g (by omega) _ _ y (hb a (List.mem_reverse.2 ha)).2 (hb a (List.mem_reverse.2 ha)).1).1 hy).1
  rw [e1] at hx hy
  generalize ds.length - (g + 1) = i at *
  refine Wi7 hi8 (fun j hj => ?_) ?_
  rw [hx j (by omega), hy j (by omega), Zz3 p hi8, Zz3 p hi8, if_neg (by omega), if_neg (by omega)]
  rw [hx i (by omega), hy i (by omega), Zz3 p hi8, Zz3 p hi8, if_pos rfl, if_pos rfl]; omega
theorem Yz7 (hd : okD ds = true) {n : Int} (hn : 0 ≤ n ∧ n ≤ 1000) : (Q2 ds n).Pairwise (fun a b => bef a b = true) := Xz9 hd _ (Nat.le_refl _) _ _ hn.2 hn.1
theorem Yj3 (hd : okD ds = true) {n : Int} (hn : 0 ≤ n ∧ n ≤ 1000) {q : A8} : q ∈ Q2 ds n ↔ Mo 20 ds q ∧ wt ds q = n := by
 have hl8 := J2 hd
 unfold Q2
 rw [Yw4 hd ds.length (Nat.le_refl _) _ _ q hn.2 hn.1, Nat.sub_self]
 constructor
 rintro ⟨h1, h2, h3⟩
 have hz : ∀ j : Nat, ds.length ≤ j → Y5 q (j : Int) = 0 := fun j hj => by rw [h1 j (.inr hj)]; simp [Y5]
 refine ⟨⟨fun i => ?_, fun i => ?_, fun j hj ho => ?_, fun i hi => ?_⟩, by rw [wtN] at h3; omega⟩
 rw [← T2 q i.isLt]
 by_cases h : i.val < ds.length
 exact (h2 i.val (by omega) h).1
 rw [hz i.val (by omega)]; decide
 rw [← T2 q i.isLt]
 by_cases h : i.val < ds.length
 have := (h2 i.val (by omega) h).2
 unfold Zm4 at this
 rw [if_pos h] at this
 split at this <;> omega
 rw [hz i.val (by omega)]; decide
 have := (h2 j (by omega) hj).2
 unfold Zm4 at this
 rwa [if_pos hj, if_pos ho] at this
 rw [← T2 q i.isLt]; exact hz i.val hi
 rintro ⟨hm, hw⟩
 refine ⟨fun j hj => ?_, fun j _ hj => ?_, by rw [wtN]; omega⟩
 have hj : ds.length ≤ j := by omega
 by_cases h8 : j < 8
 rw [T2 q h8, hm.out ⟨j, h8⟩ hj]; simp [Y5]
 rw [Yw3 _ h8, Yw3 _ h8]
 have h8 : j < 8 := by omega
 rw [T2 q h8]
 refine ⟨hm.lo _, ?_⟩
 unfold Zm4
 rw [if_pos hj]
 by_cases ho : rd ds (j : Int) % 2 = 1
 rw [if_pos ho, ← T2 q h8]; exact hm.odd j hj ho
 rw [if_neg ho]; exact hm.hi _
end
section
variable {K : Nat} {ds : List Int} {imgs : List MpT} {m : A8}
theorem Xn2 {m : A8} (hd : okD ds = true) (lo : ∀ i, 0 ≤ m i) : ∀ n : Nat, n ≤ ds.length → ∀ j, j < n → rd ds (j : Int) * Y5 m (j : Int) ≤ wtN ds m n
 | 0, _, j, hj => by omega
 | n + 1, h, j, hj => by
  have h1 := (Yh7 hd lo n (by omega)).1
  have hn := D1 hd _ (T7 (show n < ds.length by omega))
  have hi : 0 ≤ Y5 m (n : Int) := by
   by_cases h8 : n < 8
   rw [T2 m h8]; exact lo _
   have := J2 hd; omega
  have h3 : 0 ≤ rd ds (n : Int) * Y5 m (n : Int) := Int.mul_nonneg (by omega) hi
  rw [wtN]
  by_cases e : j = n
  subst e; omega
  have := Xn2 hd lo n (by omega) j (by omega); omega
theorem Xz1 {B : Int} {m : A8} (hd : okD ds = true) (hm : Mo B ds m) (hw : wt ds m ≤ 26) : Mo 13 ds m := by
 refine ⟨hm.lo, fun i => ?_, hm.odd, hm.out⟩
 by_cases h : i.val < ds.length
 have h1 := Xn2 hd hm.lo ds.length (Nat.le_refl _) i.val h
 have hn := D1 hd _ (T7 h)
 have ho := hm.odd i.val h
 have hl := hm.lo i
 rw [T2 m i.isLt] at h1 ho
 unfold wt at hw
 by_cases hodd : rd ds (i.val : Int) % 2 = 1
 have := ho hodd; exact Int.le_trans this (by decide)
 have h2 : 2 * m ⟨i.val, i.isLt⟩ ≤ rd ds (i.val : Int) * m ⟨i.val, i.isLt⟩ := Int.mul_le_mul_of_nonneg_right (by omega) hl
 have : m ⟨i.val, i.isLt⟩ ≤ 13 := by omega
 exact this
 rw [hm.out i (by omega)]; decide
theorem Wo9 {u v : Int} {p q : A8} (hd : okD ds = true) (huv : u + v ≤ 26) (hp : Mo 13 ds p) (hq : Mo 13 ds q) (hpw : wt ds p = u) (hqw : wt ds q = v) (hn : (I4 ds p q).2 ≠ 0) :
 Mo 13 ds (I4 ds p q).1 ∧ wt ds (I4 ds p q).1 = u + v := by
 have hw : wt ds (I4 ds p q).1 = u + v := by
  rw [(Yw2 hn).1]
  unfold wt at hpw hqw ⊢
  rw [Wb4, hpw, hqw]
 exact ⟨Xz1 hd (hp.mul hq hn) (by omega), hw⟩
theorem Wl5 {u v : Int} {z : B1} {G : MpT} (hd : okD ds = true) (huv : u + v ≤ 26) (hz : Mo 13 ds z.1) (hzw : wt ds z.1 = u) (hG : Hm v ds G) : ∀ r, r ∈ Zu3 ds z G → Mo 13 ds r.1 ∧ wt ds r.1 = u + v := by
 intro r hr
 obtain ⟨q, hq, hn, e⟩ := Xi1 r hr
 rw [e]
 exact Wo9 hd huv hz (hG.mo q hq) hzw (hG.w q hq) hn
theorem Wq0 {u v : Int} {S G : MpT} (hd : okD ds = true) (huv : u + v ≤ 26) (hS : Hm u ds S) (hG : Hm v ds G) : ∀ r, r ∈ Zl3 ds S G → Mo 13 ds r.1 ∧ wt ds r.1 = u + v := by
 intro r hr
 obtain ⟨z, hz, hr⟩ := List.mem_flatMap.1 hr
 exact Wl5 hd huv (hS.mo z hz) (hS.w z hz) hG r hr
theorem Xw8 {u v : Int} {S G : MpT} (hd : okD ds = true) (huv : u + v ≤ 26) (hS : Hm u ds S) (hG : Hm v ds G) : Hm (u + v) ds (Vi1 ds S G) := Wm8 (Wq0 hd huv hS hG) (Hm.nil _ _)
theorem Wz0 {t : Nat} (ht : t < 8) (m : A8) (n : Nat) : Y5 (lfM m t) n = if n = t then Y5 m t - 1 else if n < t then Y5 m n else 0 := by
 by_cases hn : n < 8
 rw [T2 _ hn]; unfold lfM; rw [Ze5 _ ht]
 by_cases e : n = t
 rw [if_pos e, if_pos e]
 rw [if_neg e, if_neg e, ← T2 (loM m t) hn, Xe9]
 rw [if_neg (by omega), if_neg (by omega)]; simp [Y5, hn]
theorem Xq3 {t : Nat} (ht : t < 8) (m : A8) : ∀ n : Nat, wtN ds (lfM m t) n + wtN ds (hiM m t) n + (if t < n then rd ds (t : Int) else 0) = wtN ds m n
 | 0 => by simp [wtN]
 | n + 1 => by
  have ih := Xq3 ht m n
  rw [wtN, wtN, wtN, Wz0 ht, Wl2]
  by_cases e : n = t
  subst e
  rw [if_neg (by omega)] at ih
  rw [if_pos rfl, if_neg (by omega), if_pos (by omega), Int.mul_sub]
  omega
  by_cases h : n < t
  rw [if_neg (by omega)] at ih
  rw [if_neg e, if_pos h, if_neg (by omega), if_neg (by omega)]
  omega
  rw [if_pos (by omega)] at ih
  rw [if_neg e, if_neg h, if_pos (by omega), if_pos (by omega)]
  omega
theorem Wa6 {p : A8} (hp : Mo 13 ds p) : Hm (wt ds p) ds [(p, 1)] :=
 ⟨Ye8 (List.pairwise_singleton _ _) (fun q hq => by cases List.mem_singleton.1 hq; exact (show (1 : Int) ≤ 1 ∧ (1 : Int) ≤ 10006 by decide)), fun t ht => by cases List.mem_singleton.1 ht; exact hp, fun t ht => by cases List.mem_singleton.1 ht; rfl⟩
theorem Ve6 {t : Nat} {img : MpT} (hd : okD ds = true) (hm : Mo 13 ds m) (hw : wt ds m ≤ 25) (ht : t < ds.length) (h1 : 0 < Y5 m t) (hi : Hm (rd ds (t : Int) + 1) ds img) : Hm (wt ds m + 1) ds (dT ds img m t) := by
 have hl := J2 hd
 have ht8 : t < 8 := by omega
 have hlf := Xp5 hm (by decide) ht8 h1
 have hhi := We3 hm (by decide) t
 have hp := Xq3 (ds := ds) ht8 m ds.length
 rw [if_pos ht] at hp
 have p1 := (Yh7 hd hlf.lo ds.length (Nat.le_refl _)).1
 have p2 := (Yh7 hd hhi.lo ds.length (Nat.le_refl _)).1
 unfold wt at hw ⊢
 have e : wtN ds m ds.length + 1 = (wtN ds (lfM m t) ds.length + (rd ds (t : Int) + 1)) + wtN ds (hiM m t) ds.length := by omega
 rw [e]
 exact Xw8 hd (by omega) (Xw8 hd (by omega) (Wa6 hlf) hi) (Wa6 hhi)
theorem Ys5 {z : B1} (hd : okD ds = true) (hlen : imgs.length = ds.length) (hI : ∀ j, j < imgs.length → Hm (rd ds (j : Int) + 1) ds (rd imgs (j : Int))) (hm : Mo 13 ds z.1) (hw : wt ds z.1 ≤ 25) : ∀ (n t : Nat) (out : MpT), t + n ≤ ds.length → Hm (wt ds z.1 + 1) ds out →
 Hm (wt ds z.1 + 1) ds (Zw6 ds imgs z n t out)
 | 0, _, _, _, h => h
 | n + 1, t, out, ht, h => by
  rw [Zw6]
  by_cases h0 : Y5 z.1 (t : Int) = 0
  rw [if_pos h0]; exact Ys5 hd hlen hI hm hw n (t + 1) out (by omega) h
  rw [if_neg h0]
  have hlo := (Xi6 hm.lo hm.hi (by decide) t).1
  have hdt := Ve6 hd hm hw (show t < ds.length by omega) (by omega) (hI t (by omega))
  refine Ys5 hd hlen hI hm hw n (t + 1) _ (by omega) (Wm8 (fun r hr => ?_) h)
  obtain ⟨q, hq, rfl⟩ := List.mem_map.1 hr
  exact ⟨hdt.mo q hq, hdt.w q hq⟩
theorem Xr1 {u : Int} (hd : okD ds = true) (hlen : imgs.length = ds.length) (hI : ∀ j, j < imgs.length → Hm (rd ds (j : Int) + 1) ds (rd imgs (j : Int))) (hu : u ≤ 25) : ∀ (f out : MpT), MoL 13 ds f → (∀ t, t ∈ f → wt ds t.1 = u) → Hm (u + 1) ds out → Hm (u + 1) ds (Zv9 ds imgs f out)
 | [], _, _, _, h => h
 | z :: f, out, hm, hw, h => by
  have h1 := hw z (List.mem_cons_self ..)
  rw [Zv9]
  refine Xr1 hd hlen hI hu f _ (fun t ht => hm t (List.mem_cons_of_mem _ ht)) (fun t ht => hw t (List.mem_cons_of_mem _ ht)) ?_
  have := Ys5 (z := z) hd hlen hI (hm z (List.mem_cons_self ..)) (by omega) ds.length 0 out (by omega) (by rw [h1]; exact h)
  rwa [h1] at this
/-! rows and forms -/
/-- the form with the factors of a row -/
def Zd5 : List A8 → List Int → MpT
 | p :: ps, x :: xs => if x = 0 then Zd5 ps xs else (p, x) :: Zd5 ps xs
 | _, _ => []
theorem Yi3 : ∀ (M : List A8) (row : List Int) (z : A8 × Int), z ∈ Zd5 M row → z.1 ∈ M ∧ z.2 ∈ row ∧ z.2 ≠ 0
 | [], _, z, h => by simp [Zd5] at h
 | _ :: _, [], z, h => by simp [Zd5] at h
 | p :: ps, x :: xs, z, h => by
  unfold Zd5 at h
  split at h
  obtain ⟨h1, h2, h3⟩ := Yi3 ps xs z h
  exact ⟨List.mem_cons_of_mem _ h1, List.mem_cons_of_mem _ h2, h3⟩
  rename_i hx
  rcases List.mem_cons.1 h with rfl | h
  exact ⟨List.mem_cons_self .., List.mem_cons_self .., hx⟩
  obtain ⟨h1, h2, h3⟩ := Yi3 ps xs z h
  exact ⟨List.mem_cons_of_mem _ h1, List.mem_cons_of_mem _ h2, h3⟩
theorem Xb4 : ∀ (M : List A8) (row : List Int), M.Pairwise (fun a b => bef a b = true) → Srt (Zd5 M row)
 | [], _, _ => by unfold Zd5; exact List.Pairwise.nil
 | _ :: _, [], _ => by unfold Zd5; exact List.Pairwise.nil
 | p :: ps, x :: xs, h => by
  have h' := List.pairwise_cons.1 h
  unfold Zd5
  split
  exact Xb4 ps xs h'.2
  exact List.pairwise_cons.2 ⟨fun z hz => h'.1 _ (Yi3 ps xs z hz).1, Xb4 ps xs h'.2⟩
theorem Xb2 : ∀ (M : List A8) (row : List Int), (Zd5 M row).length ≤ M.length
 | [], _ => by simp [Zd5]
 | _ :: _, [] => by simp [Zd5]
 | p :: ps, x :: xs => by
  have := Xb2 ps xs
  unfold Zd5
  split <;> simp <;> omega
theorem Wz6 {M : List A8} {row : List Int} (hM : M.Pairwise (fun a b => bef a b = true)) {n : Nat} (h : ∀ x, x ∈ row → 0 ≤ x ∧ x < 10007) : nfm (Zd5 M row) = true :=
 Ye8 (Xb4 M row hM) fun q hq => by
  obtain ⟨_, h2, h3⟩ := Yi3 M row q hq
  have := h _ h2
  omega
end
/-- a list without doubles within another one -/
theorem Xu7 {α : Type} : ∀ (xs ys : List α), xs.Nodup → (∀ x, x ∈ xs → x ∈ ys) → xs.length ≤ ys.length
 | [], _, _, _ => Nat.zero_le _
 | x :: xs, ys, hn, h => by
  have hn' := List.nodup_cons.1 hn
  have dec : DecidableEq α := fun a b => Classical.propDecidable (a = b)
  have hx := h x (List.mem_cons_self ..)
  have := Xu7 xs (ys.erase x) hn'.2 fun y hy => (List.mem_erase_of_ne (fun e => hn'.1 (by rw [← e]; exact hy))).2 (h y (List.mem_cons_of_mem _ hy))
  rw [List.length_erase_of_mem hx] at this
  have := List.length_pos_of_mem hx
  rw [List.length_cons]; omega
section
variable {K : Nat} {a : B3} {n : Int}
theorem Xi7 (K : Nat) (b : Bool) (c : Int) : Zp1 K b c = some (if b = true then c else 0) := by unfold Zp1; split <;> rfl
theorem Wx3 (hi : Inp K a) : Zh4 K a [] = some (if okA a = true then 0 else 1) := by
 have hK := hi.big
 unfold Zh4
 rw [show (a.1, a.2) = a from rfl, Vc7 hi, Option.bind_some]
 by_cases hA : okA a = true
 case neg =>
  rw [if_neg hA, if_neg hA, Xi7, Option.bind_some]; rfl
 rw [if_pos hA, if_pos hA, Xn7 (q := fun _ => false) (by simp; omega) (fun x hx => by cases hx), Option.bind_some, Xi7, Option.bind_some]; rfl
theorem Wy4 (hi : Inp K a) (hB : okB a = true) : ∀ j, j < a.2.length → Hm (rd a.1 (j : Int) + 1) a.1 (rd a.2 (j : Int)) := by
 intro j hj
 have hd := Wa1 hB
 have hv := Xe2 hi hB
 have hpos := D1 hd _ (T7 (show j < a.1.length by have := hv.len; omega))
 unfold okB at hB
 rw [Bool.and_eq_true, Bool.and_eq_true] at hB
 have h := List.all_eq_true.1 hB.2.2 j (List.mem_range.2 hj)
 unfold okI okG at h
 rw [Bool.and_eq_true] at h
 exact Vf5 hd (hv.all _ (T7 hj)) (fun t ht => of_decide_eq_true (List.all_eq_true.1 h.2 t ht)) (by omega)
/-- an algebra that passes -/
structure Vw (a : B3) : Prop where
 dg : okD a.1 = true
 len : a.2.length = a.1.length
 hm : ∀ j, j < a.2.length → Hm (rd a.1 (j : Int) + 1) a.1 (rd a.2 (j : Int))
 vi : VI a.1 a.2
theorem Xs3 (hi : Inp K a) (hA : okA a = true) : Vw a := by
 have hB : okB a = true := by unfold okA at hA; rw [Bool.and_eq_true] at hA; exact hA.1
 have hv := Xe2 hi hB
 exact ⟨Wa1 hB, hv.len, Wy4 hi hB, hv⟩
/-- the differential of a monomial -/
def dmR (a : B3) (p : A8) : MpT := Zv9 a.1 a.2 [(p, 1)] []
theorem Wm6 {ds : List Int} {p : A8} (hp : Mo 20 ds p) : VF ds [(p, 1)] :=
 ⟨Ye8 (List.pairwise_singleton _ _) (fun q hq => by cases List.mem_singleton.1 hq; exact (show (1 : Int) ≤ 1 ∧ (1 : Int) ≤ 10006 by decide)), fun t ht => by cases List.mem_singleton.1 ht; exact hp, by simp⟩
theorem We4 (hV : Vw a) (hn : 0 ≤ n ∧ n ≤ 25) {p : A8} (hp : p ∈ Q2 a.1 n) : Hm (n + 1) a.1 (dmR a p) := by
 obtain ⟨h1, h2⟩ := (Yj3 hV.dg (by omega)).1 hp
 have h13 := Xz1 hV.dg h1 (by omega)
 exact Xr1 hV.dg hV.len hV.hm hn.2 [(p, 1)] [] (fun t ht => by cases List.mem_singleton.1 ht; exact h13) (fun t ht => by cases List.mem_singleton.1 ht; exact h2) (Hm.nil _ _)
theorem Wu6 (hV : Vw a) (hn : 0 ≤ n ∧ n ≤ 25) {p : A8} (hp : p ∈ Q2 a.1 n) : ∀ z, z ∈ dmR a p → z.1 ∈ Q2 a.1 (n + 1) := fun z hz => by
 have h := We4 hV hn hp
 have hm := h.mo z hz
 exact (Yj3 hV.dg (by omega)).2 ⟨⟨hm.lo, fun i => Int.le_trans (hm.hi i) (by decide), hm.odd, hm.out⟩, h.w z hz⟩
theorem Wp0 (p : A8) : Za7 ([] : MpT) p 1 = [(p, 1)] := Xd2 (s := []) (List.pairwise_singleton _ _)
theorem Va3 (hd : okD a.1 = true) (hn : 0 ≤ n ∧ n ≤ 1000) : (Q2 a.1 n).Nodup := (Yz7 hd hn).imp fun {x y} h e => by subst e; rw [Ze4] at h; cases h
/-- the matrix of a degree -/
def Yt7 (a : B3) (n : Int) : List Vc := (Q2 a.1 n).map fun p => Zd7 (Q2 a.1 (n + 1)) (dmR a p)
theorem Wy1 {M : List A8} {s : MpT} (hs : nfm s = true) : Okv M.length (Zd7 M s) := ⟨by simp [Zd7], fun x hx => by
 obtain ⟨p, _, rfl⟩ := List.mem_map.1 hx
 have := Yg3 hs p
 omega⟩
theorem Yn1 (hV : Vw a) (hn : 0 ≤ n ∧ n ≤ 25) : ∀ r, r ∈ Yt7 a n → Okv (Q2 a.1 (n + 1)).length r := fun r hr => by
 obtain ⟨p, hp, rfl⟩ := List.mem_map.1 hr
 exact Wy1 (We4 hV hn hp).nf
theorem Xv4 (hK : 1099511627776 ≤ K) (hV : Vw a) (hn : 0 ≤ n ∧ n ≤ 25) (hl : (Q2 a.1 (n + 1)).length ≤ 120) : ∀ (ps : List A8), (∀ p, p ∈ ps → p ∈ Q2 a.1 n) →
 Yp5 K a (Q2 a.1 (n + 1)) ps = some (ps.map fun p => Zd7 (Q2 a.1 (n + 1)) (dmR a p))
 | [], _ => rfl
 | p :: ps, h => by
  have hp := h p (List.mem_cons_self ..)
  have hm := ((Yj3 hV.dg (by omega)).1 hp).1
  have hd : A0 K a [(p, 1)] = some (dmR a p) := Ve4 (ds := a.1) (imgs := a.2) (by omega) hV.dg hV.vi (Wm6 hm)
  have hrow : Zk5 K (Q2 a.1 (n + 1)) (dmR a p) = some (Zd7 (Q2 a.1 (n + 1)) (dmR a p)) := by
   unfold Zk5
   rw [if_pos (show Wr6 _ _ = true from decide_eq_true ⟨Va3 hV.dg (by omega), by omega, Wu6 hV hn hp⟩)]
  rw [Yp5, Wp0, hd, Option.bind_some, hrow, Option.bind_some, Xv4 hK hV hn hl ps (fun q hq => h q (List.mem_cons_of_mem _ hq)), Option.bind_some]
  rfl
theorem Xr4 (hd : okD a.1 = true) (hn : n ≤ 1000) : Zg0 K a.1 n 120 = some (lsM a.1 n 120, decide (((lsM a.1 n 120).length : Int) ≤ 120)) := by
 unfold Zg0
 rw [if_pos (show Wq8 _ _ _ = true from decide_eq_true ⟨D1 hd, J2 hd, hn, by decide, by decide⟩)]
theorem Xf6 (hd : okD a.1 = true) (hn : 0 ≤ n ∧ n ≤ 1000) (hl : (Q2 a.1 n).length ≤ 120) : lv0 K a n = some (Q2 a.1 n) := by
 unfold lv0
 rw [Xr4 hd hn.2, (Xo4 (D1 hd) hn).2 hl]; rfl
theorem Wa4 (hK : 1099511627776 ≤ K) (hV : Vw a) (hn : 0 ≤ n ∧ n ≤ 25) (hl : (Q2 a.1 n).length ≤ 120) (hl1 : (Q2 a.1 (n + 1)).length ≤ 120) : Yq3 K a n = some (Yt7 a n) := by
 unfold Yq3
 rw [Xf6 hV.dg (by omega) hl, Option.bind_some, Xf6 hV.dg (by omega) hl1, Option.bind_some, if_pos (by omega), Xv4 hK hV hn hl1 _ (fun p hp => hp)]; rfl
/-! kernels -/
def Yf4 (width : Nat) (R : List Vc) : List Vc := (R.filter fun r => decide (width ≤ fs r)).map fun r => r.drop width
theorem Wr8 {w : Nat} {r : Vc} {R : List Vc} (h : w ≤ fs r) : Yf4 w (r :: R) = r.drop w :: Yf4 w R := by
 unfold Yf4
 rw [List.filter_cons_of_pos (by simpa using h), List.map_cons]
theorem Wp7 {w : Nat} {r : Vc} {R : List Vc} (h : ¬ w ≤ fs r) : Yf4 w (r :: R) = Yf4 w R := by
 unfold Yf4
 rw [List.filter_cons_of_neg (by simpa using h)]
def Wo0 (rows : List Vc) (width : Nat) : List Vc := Yi6 (Yf4 width (Yi6 (Zp6 rows.length 0 rows)))
theorem Wv3 {m k : Nat} {u v : Vc} (hu : Okv m u) (hv : Okv k v) : Okv (m + k) (u ++ v) := ⟨by rw [List.length_append, hu.len, hv.len], fun x hx => (List.mem_append.1 hx).elim (hu.rng x) (hv.rng x)⟩
theorem Wo1 (m i : Nat) : Okv m (Zy8 m i) := ⟨by simp [Zy8], fun x hx => by
 unfold Zy8 at hx
 rcases List.mem_or_eq_of_mem_set hx with h | h
 rw [(List.mem_replicate.1 h).2]; decide
 rw [h]; decide⟩
theorem Xa0 {width m : Nat} : ∀ (rows : List Vc) (i : Nat), (∀ r, r ∈ rows → Okv width r) → ∀ r, r ∈ Zp6 m i rows → Okv (width + m) r
 | [], i, _, r, hr => by cases hr
 | s :: ss, i, h, r, hr => by
  rcases List.mem_cons.1 hr with rfl | hr
  exact Wv3 (h s (List.mem_cons_self ..)) (Wo1 m i)
  exact Xa0 ss (i + 1) (fun t ht => h t (List.mem_cons_of_mem _ ht)) r hr
theorem Wo3 {w m : Nat} {r : Vc} (h : Okv (w + m) r) : Okv m (r.drop w) := ⟨by rw [List.length_drop, h.len]; omega, fun x hx => h.rng x (List.mem_of_mem_drop hx)⟩
theorem Wb1 {w m : Nat} {R : List Vc} (h : ∀ r, r ∈ R → Okv (w + m) r) : ∀ r, r ∈ Yf4 w R → Okv m r := fun r hr => by
 obtain ⟨s, hs, rfl⟩ := List.mem_map.1 hr
 exact Wo3 (h s (List.mem_filter.1 hs).1)
theorem Wz2 {rows : List Vc} {w : Nat} (h : ∀ r, r ∈ rows → Okv w r) : Rr rows.length (Wo0 rows w) := by
 have h1 := (Yg7 (Xa0 (m := rows.length) rows 0 h)).1
 exact (Yg7 (Wb1 h1.ok)).1
/-- reduced rows are at most as many as they are long -/
theorem Rr.short {m : Nat} {R : List Vc} (h : Rr m R) : R.length ≤ m := by
 have h1 : (R.map fs).Nodup := by
  rw [List.nodup_iff_pairwise_ne, List.pairwise_map]
  exact h.srt.imp fun {x y} hxy => by omega
 have h2 : ∀ x, x ∈ R.map fs → x ∈ List.range m := fun x hx => by
  obtain ⟨r, hr, rfl⟩ := List.mem_map.1 hx
  exact List.mem_range.2 (h.ld r hr).1
 have := Xu7 _ _ h1 h2
 simpa using this
theorem Wx6 {r : Vc} {w : Nat} (hw : w ≤ r.length) : fs (r.take w) < w ↔ fs r < w := by
 have hl : (r.take w).length = w := by rw [List.length_take]; omega
 have hg : ∀ k, k < w → at_ (r.take w) k = at_ r k := fun k hk => by
  unfold at_
  rw [List.getD_eq_getElem?_getD, List.getD_eq_getElem?_getD, List.getElem?_take, if_pos hk]
 constructor
 intro h
 have h1 := Yw7 (r.take w) (by omega)
 rw [hg _ h] at h1
 rcases Nat.lt_or_ge (fs r) w with h2 | h2
 exact h2
 exact absurd (Zh0 r _ (by omega)) h1
 intro h
 have h1 := Yw7 r (by omega)
 rw [← hg _ h] at h1
 rcases Nat.lt_or_ge (fs (r.take w)) w with h2 | h2
 exact h2
 exact absurd (Zh0 (r.take w) _ (by omega)) h1
end
section
variable {K n : Nat} {R : List Vc}
theorem rdV {xs : List Vc} {i : Nat} (h : i < xs.length) : rd xs (i : Int) = xs[i] := by rw [Zt3 h, Q7 h]
theorem Yd4 {α : Type} {xs : List α} {i : Nat} (h : i < xs.length) : xs.drop i = xs[i] :: xs.drop (i + 1) := (List.getElem_cons_drop ..).symm
theorem Xw5 {u : Vc} {lk : Bool → Int → List Vc → Option (Ex (List Vc) (Bool × List Vc))} (hR : Rr n R) (hu : Okv n u) (hf : fs u < n) (hK : n < K) (h40 : n ≤ 1099511627776) {i : Nat} (hi : i < R.length) {b : Bool} {out : List Vc} (ho : out.length + 1 ≤ 1099511627776) :
 Zg1 K lk R u (fs u : Int) (i : Int) b out = lk b ((i : Int) + 1) (out ++ [Yc8 u R[i]]) := by
 have hs := hR.ok _ (List.getElem_mem hi)
 have hsl := hs.len
 have hul := hu.len
 unfold Zg1
 rw [rdV hi, if_pos (by omega), Zk3, Xj8 (fun j => hs.inF j) (fun j => hu.inF j) (hs.inF _) (by omega) (by omega) (by omega), Option.bind_some, if_pos (by simpa using ho)]
 rfl
theorem Xg4 {u : Vc} (hR : Rr n R) (hu : Okv n u) (hf : fs u < n) (hK : n < K) (h40 : n ≤ 1099511627776) : ∀ (k i : Nat) (b : Bool) (out : List Vc), i ≤ R.length → R.length < i + k → out.length + (R.length - i) + (if b = true then 0 else 1) + 1 ≤ 1099511627776 →
 ∃ b' out', L5 K R u (fs u : Int) k b (i : Int) out = some (.go (b', out')) ∧ out'.length + 1 ≤ 1099511627777 ∧ (b' = false → out'.length + 1 ≤ 1099511627776) ∧ (if b' = true then out' else out' ++ [u]) = (if b = true then out ++ (R.drop i).map (Yc8 u) else out ++ Zz8 u (R.drop i))
 | 0, i, b, out, h1, h2, _ => by omega
 | k + 1, i, b, out, h1, h2, h3 => by
  rw [L5]
  by_cases hi : i < R.length
  rw [if_pos (by omega)]
  have hs := hR.ok _ (List.getElem_mem hi)
  have hsf := (hR.ld _ (List.getElem_mem hi)).1
  have hsl := hs.len
  have e1 : (i : Int) + 1 = ((i + 1 : Nat) : Int) := rfl
  by_cases hb : b = true
  subst hb
  rw [if_pos rfl] at h3 ⊢
  unfold Zg5
  rw [if_neg (by decide), Xw5 hR hu hf hK h40 hi (by omega), e1]
  obtain ⟨b', out', g1, g2, g3, g4⟩ := Xg4 hR hu hf hK h40 k (i + 1) true (out ++ [Yc8 u R[i]]) (by omega) (by omega) (by rw [if_pos rfl]; simp; omega)
  refine ⟨b', out', g1, g2, g3, ?_⟩
  rw [g4, if_pos rfl, if_pos rfl, Yd4 hi, List.map_cons, List.append_assoc]; rfl
  have hb : b = false := by simpa using hb
  subst hb
  rw [if_neg (by decide)] at h3 ⊢
  rw [rdV hi, Xb6 (by omega), if_pos (by omega), Option.bind_some]
  unfold Zg5
  by_cases hlt : fs u < fs R[i]
  rw [if_pos (decide_eq_true (show (fs u : Int) < (fs R[i] : Int) by omega)), if_pos (by simp; omega), Xw5 hR hu hf hK h40 hi (by simp; omega), e1]
  obtain ⟨b', out', g1, g2, g3, g4⟩ := Xg4 hR hu hf hK h40 k (i + 1) true (out ++ [u] ++ [Yc8 u R[i]]) (by omega) (by omega) (by rw [if_pos rfl]; simp; omega)
  refine ⟨b', out', g1, g2, g3, ?_⟩
  rw [g4, if_pos rfl, if_neg (by decide), Yd4 hi]
  unfold Zz8
  rw [if_pos hlt]
  simp only [List.map_cons, List.append_assoc, List.cons_append, List.nil_append]
  rw [if_neg (by rw [decide_eq_false (show ¬ (fs u : Int) < (fs R[i] : Int) by omega)]; decide), Xw5 hR hu hf hK h40 hi (by omega), e1]
  obtain ⟨b', out', g1, g2, g3, g4⟩ := Xg4 hR hu hf hK h40 k (i + 1) false (out ++ [Yc8 u R[i]]) (by omega) (by omega) (by rw [if_neg (by decide)]; simp; omega)
  refine ⟨b', out', g1, g2, g3, ?_⟩
  rw [g4, if_neg (by decide), if_neg (by decide), Yd4 hi]
  conv => rhs; unfold Zz8
  rw [if_neg hlt]
  simp only [List.append_assoc, List.cons_append, List.nil_append]
  have e : i = R.length := by omega
  subst e
  rw [if_neg (by omega), List.drop_length]
  refine ⟨b, out, rfl, by omega, fun hb => ?_, ?_⟩
  subst hb; rw [if_neg (by decide)] at h3; omega
  cases b with
  | true => simp
  | false => simp [Zz8]
theorem Vb0 (hR : Rr n R) {row : Vc} (hrow : Okv n row) (hK : 1099511627776 ≤ K) (hn : n ≤ 1000000) (hl : R.length ≤ 1000000) : Zt1 K R row = some (Yj5 R row) := by
 have hro := Xd9 R row hrow
 have hz := Yz5 R row hrow hR
 unfold Zt1 Yj5
 rw [Vg7 (fun s hs => ⟨hR.ok s hs, (hR.ld s hs).1⟩) hrow (by omega) (by omega) (by omega), Option.bind_some]
 generalize byR R row = r at *
 have hrl := hro.len
 rw [Xb6 (by omega), Option.bind_some]
 by_cases hf : fs r < r.length
 obtain ⟨hN, hfs⟩ := Wc4 (R := R) hro (by omega) hz
 have hx := Yw7 r hf
 have hxr := hro.at (fs r)
 have hxe : rd r (fs r : Int) = at_ r (fs r) := Zk3 ..
 have hiv := Wb0 (c := at_ r (fs r)) (by omega)
 rw [if_pos hf, if_neg (by omega), if_pos (by omega), if_pos (by omega), if_pos (by omega), hxe, Wd4 hK (by omega), Option.bind_some, Ye4, Option.bind_some]
 have hw : IntKind.i64.wrap (0 - inv (at_ r (fs r))) = -inv (at_ r (fs r)) := by rw [IntWalk.i64_in _ (by omega)]; omega
 have hrep : ∀ j, inF ((List.replicate r.length (0 : Int)).getD j 0) := fun j => by
  have : (List.replicate r.length (0 : Int)).getD j 0 = 0 := by
   rw [List.getD_eq_getElem?_getD, List.getElem?_replicate]; split <;> rfl
  rw [this]; unfold inF; omega
 rw [hw, Int.toNat_natCast, Xj8 hrep (fun j => hro.inF j) (by unfold inF; omega) (by simp) (by simp; omega) (by simp; omega), Option.bind_some]
 show ((L5 K R (Zz0 r) (fs r : Int) K false 0 []).bind _) = _
 obtain ⟨b', out', g1, g2, g3, g4⟩ := Xg4 (K := K) hR hN.ok hN.ld.1 (by omega) (by omega) K 0 false [] (by omega) (by omega) (by rw [if_neg (by decide)]; simp; omega)
 rw [hfs] at g1
 rw [show ((0 : Nat) : Int) = 0 from rfl] at g1
 rw [g1, Option.bind_some]
 rw [if_neg (show ¬ (false = true) by decide), List.drop_zero, List.nil_append] at g4
 rw [if_pos hf, ← g4]
 show (if b' = true then some out' else if out'.length + [Zz0 r].length ≤ 1099511627776 then some (out' ++ [Zz0 r]) else none) = _
 cases b' with
 | true => rfl
 | false => rw [if_neg (by decide), if_pos (by have := g3 rfl; simpa using this)]; rfl
 rw [if_neg hf, if_pos (by omega), if_neg hf]
theorem Xf2 {rows : List Vc} (hr : ∀ r, r ∈ rows → Okv n r) (hK : 1099511627776 ≤ K) (hn : n ≤ 1000000) : ∀ (k i : Nat) (out : List Vc), i ≤ rows.length → rows.length < i + k → Rr n out →
 D9 K rows k out (i : Int) = some (.go ((rows.drop i).foldl Yj5 out))
 | 0, i, out, h1, h2, _ => by omega
 | k + 1, i, out, h1, h2, ho => by
  rw [D9]
  by_cases hi : i < rows.length
  have hro := hr _ (List.getElem_mem hi)
  rw [if_pos (by omega), rdV hi, Vb0 ho hro hK hn (Nat.le_trans ho.short hn), Option.bind_some, Yd4 hi, List.foldl_cons]
  exact Xf2 hr hK hn k (i + 1) _ (by omega) (by omega) (Xy9 ho hro).1
  have e : i = rows.length := by omega
  subst e
  rw [if_neg (by omega), List.drop_length]; rfl
theorem Wf6 {rows : List Vc} (hr : ∀ r, r ∈ rows → Okv n r) (hK : 1099511627776 ≤ K) (hn : n ≤ 1000000) (hl : rows.length ≤ 1000000) : Zl8 K rows = some (Yi6 rows) := by
 have := Xf2 (K := K) hr hK hn K 0 [] (by omega) (by omega) Xs1
 unfold Zl8
 rw [show ((0 : Nat) : Int) = 0 from rfl] at this
 rw [this, List.drop_zero]; rfl
/-! vectors -/
def Yl4 : List A8 → MpT → List Int
 | [], _ => []
 | m :: ms, [] => 0 :: Yl4 ms []
 | m :: ms, z :: f => if eq8 z.1 m = true then z.2 :: Yl4 ms f else 0 :: Yl4 ms (z :: f)
theorem Xa8 : ∀ M : List A8, Yl4 M [] = List.replicate M.length 0
 | [] => rfl
 | m :: ms => by rw [Yl4, Xa8 ms]; rfl
theorem Ww9 (pre : List Int) (x : Int) (m : Nat) : (pre ++ List.replicate (m + 1) (0 : Int)).set pre.length x = (pre ++ [x]) ++ List.replicate m 0 := by
 rw [List.set_append_right _ _ (by omega), Nat.sub_self, List.replicate_succ, List.set_cons_zero]; simp
theorem Xq2 {M : List A8} {f : MpT} (hM : M.length ≤ 1000000) (hf : f.length ≤ 1000000) : ∀ (k i j : Nat) (pre : List Int), i ≤ M.length → M.length < i + k → j ≤ f.length → pre.length = i →
 L7 K f M k (j : Int) (i : Int) (pre ++ List.replicate (M.length - i) 0) = some (.go (pre ++ Yl4 (M.drop i) (f.drop j)))
 | 0, i, j, pre, h1, h2, _, _ => by omega
 | k + 1, i, j, pre, h1, h2, h3, h4 => by
  rw [L7]
  have e1 : (i : Int) + 1 = ((i + 1 : Nat) : Int) := rfl
  by_cases hi : i < M.length
  have hMi : rd M (i : Int) = M[i] := Zd1 hi
  rw [if_pos (by omega)]
  unfold Zb9
  by_cases hj : j < f.length
  have hfj : rd f (j : Int) = f[j] := Zd1 hj
  rw [if_pos (decide_eq_true (show (j : Int) < (f.length : Int) by omega)), if_pos (by omega), if_pos (by omega), if_pos (by omega), hMi, hfj, Yd4 hi, Yd4 hj, Yl4]
  have hlen : (pre ++ List.replicate (M.length - i) (0 : Int)).length = M.length := by simp; omega
  have e2 : M.length - i = (M.length - (i + 1)) + 1 := by omega
  by_cases he : eq8 f[j].1 M[i] = true
  have hwr : IntKind.i64.wrap ((j : Int) + 1) = ((j + 1 : Nat) : Int) := by rw [IntWalk.i64_in _ (by omega)]; rfl
  rw [if_pos he, if_pos (by omega), if_pos he, Int.toNat_natCast, hwr, e1]
  have hs := Ww9 pre f[j].2 (M.length - (i + 1))
  rw [h4] at hs
  rw [e2, hs, Xq2 hM hf k (i + 1) (j + 1) _ (by omega) (by omega) (by omega) (by simp [h4])]
  simp
  rw [if_neg he, if_neg he, e1, e2, List.replicate_succ]
  have := Xq2 hM hf k (i + 1) j (pre ++ [0]) (by omega) (by omega) (by omega) (by simp [h4])
  rw [Yd4 hj] at this
  simpa using this
  have e : j = f.length := by omega
  subst e
  rw [if_neg (by rw [decide_eq_false (by omega)]; decide), List.drop_length, Xa8, List.length_drop]
  have e : i = M.length := by omega
  subst e
  rw [if_neg (by omega)]
  unfold Zb9
  rw [if_neg (by decide), List.drop_length, Yl4, Nat.sub_self, List.replicate_zero]
theorem Xj1 : ∀ (M : List A8) (f : MpT), M.Pairwise (fun a b => bef a b = true) → Srt f → (∀ z, z ∈ f → z.1 ∈ M) → Yl4 M f = Zd7 M f
 | [], f, _, _, h => rfl
 | m :: ms, [], hM, _, _ => by
  rw [Xa8]
  unfold Zd7
  have : ∀ xs : List A8, List.replicate xs.length (0 : Int) = xs.map fun p => N3 [] p := fun xs => by
   induction xs with
   | nil => rfl
   | cons x xs ih => rw [List.length_cons, List.replicate_succ, List.map_cons, ih]; rfl
  exact this _
 | m :: ms, z :: f, hM, hf, h => by
  have hM' := List.pairwise_cons.1 hM
  have hf' := List.pairwise_cons.1 hf
  rw [Yl4]
  by_cases he : eq8 z.1 m = true
  have e := Zc7.1 he
  rw [if_pos he, Xj1 ms f hM'.2 hf'.2 (fun y hy => by
   rcases List.mem_cons.1 (h y (List.mem_cons_of_mem _ hy)) with e2 | h2
   have := hf'.1 y hy
   rw [e, ← e2, Ze4] at this; cases this
   exact h2)]
  unfold Zd7
  rw [List.map_cons, Yt2, if_pos e.symm]
  congr 1
  refine List.map_congr_left fun p hp => ?_
  rw [Yt2, if_neg (fun e2 => by have := hM'.1 p hp; rw [e2, e, Ze4] at this; cases this)]
  have hne : z.1 ≠ m := fun e => he (Zc7.2 e)
  have hz : z.1 ∈ ms := by
   rcases List.mem_cons.1 (h z (List.mem_cons_self ..)) with e | h2
   exact absurd e hne
   exact h2
  have hall : ∀ y, y ∈ z :: f → y.1 ∈ ms := fun y hy => by
   rcases List.mem_cons.1 hy with rfl | hy
   exact hz
   rcases List.mem_cons.1 (h y (List.mem_cons_of_mem _ hy)) with e | h2
   have h3 := hf'.1 y hy
   have h4 := hM'.1 _ hz
   rw [e] at h3
   have := Zn9 h4 h3
   rw [Ze4] at this; cases this
   exact h2
  rw [if_neg he, Xj1 ms (z :: f) hM'.2 hf hall]
  unfold Zd7
  rw [List.map_cons, Zh2 (a := m) (fun hm => by
   obtain ⟨y, hy, e⟩ := List.mem_map.1 hm
   have h1 := hM'.1 _ (hall y hy)
   rw [e, Ze4] at h1; cases h1)]
theorem Wl4 {M : List A8} {f : MpT} (hK : 1099511627776 ≤ K) (hM : M.length ≤ 1000000) (hf : f.length ≤ 1000000) (hMs : M.Pairwise (fun a b => bef a b = true)) (hfs : Srt f) (h : ∀ z, z ∈ f → z.1 ∈ M) : Zm2 K f M = some (Zd7 M f) := by
 have := Xq2 (K := K) hM hf K 0 0 [] (by omega) (by omega) (by omega) rfl
 rw [show ((0 : Nat) : Int) = 0 from rfl, List.nil_append, List.nil_append, List.drop_zero, List.drop_zero, Nat.sub_zero, Xj1 M f hMs hfs h] at this
 unfold Zm2
 rw [if_pos (by omega), Int.toNat_natCast, this]; rfl
/-! forms -/
theorem Xb7 {M : List A8} {row : Vc} (hl : row.length = M.length) (hM : M.length ≤ 1000000) : ∀ (k i : Nat) (out : MpT), i ≤ M.length → M.length < i + k → out.length ≤ i →
 D3 K row M k (i : Int) out = some (.go (out ++ Zd5 (M.drop i) (row.drop i)))
 | 0, i, out, h1, h2, _ => by omega
 | k + 1, i, out, h1, h2, ho => by
  rw [D3]
  have e1 : (i : Int) + 1 = ((i + 1 : Nat) : Int) := rfl
  by_cases hi : i < M.length
  have hi' : i < row.length := by omega
  have hr : rd row (i : Int) = row[i] := Zd1 hi'
  rw [if_pos (by omega), if_pos (by omega), hr, Zd1 hi, Yd4 hi, Yd4 hi', Zd5]
  by_cases hz : row[i] = 0
  rw [if_pos hz, if_pos hz, e1]
  exact Xb7 hl hM k (i + 1) out (by omega) (by omega) (by omega)
  rw [if_neg hz, if_neg hz, if_pos (by simp; omega), e1, Xb7 hl hM k (i + 1) _ (by omega) (by omega) (by simp; omega)]
  simp
  have e : i = M.length := by omega
  subst e
  rw [if_neg (by omega), List.drop_length]
  have : row.drop M.length = [] := by rw [← hl]; exact List.drop_length
  rw [this]; simp [Zd5]
theorem Wp1 {M : List A8} {row : Vc} (hK : 1099511627776 ≤ K) (hl : row.length = M.length) (hM : M.length ≤ 1000000) : Zq6 K row M = some (Zd5 M row) := by
 have := Xb7 (K := K) hl hM K 0 [] (by omega) (by omega) (by simp)
 rw [show ((0 : Nat) : Int) = 0 from rfl, List.drop_zero, List.drop_zero, List.nil_append] at this
 unfold Zq6
 rw [this]; rfl
theorem Xm5 {M : List A8} {rows : List Vc} (hK : 1099511627776 ≤ K) (hr : ∀ r, r ∈ rows → r.length = M.length) (hM : M.length ≤ 1000000) (hR : rows.length ≤ 1000000) : ∀ (k i : Nat) (out : List MpT), i ≤ rows.length → rows.length < i + k → out.length ≤ i →
 B7 K rows M k (i : Int) out = some (.go (out ++ (rows.drop i).map (Zd5 M)))
 | 0, i, out, h1, h2, _ => by omega
 | k + 1, i, out, h1, h2, ho => by
  rw [B7]
  have e1 : (i : Int) + 1 = ((i + 1 : Nat) : Int) := rfl
  by_cases hi : i < rows.length
  rw [if_pos (by omega), rdV hi, Wp1 hK (hr _ (List.getElem_mem hi)) hM, Option.bind_some, if_pos (by simp; omega), e1, Xm5 hK hr hM hR k (i + 1) _ (by omega) (by omega) (by simp; omega), Yd4 hi]
  simp only [List.map_cons, List.append_assoc, List.cons_append, List.nil_append]
  have e : i = rows.length := by omega
  subst e
  rw [if_neg (by omega), List.drop_length]; simp
theorem Wi0 {M : List A8} {rows : List Vc} (hK : 1099511627776 ≤ K) (hr : ∀ r, r ∈ rows → r.length = M.length) (hM : M.length ≤ 1000000) (hR : rows.length ≤ 1000000) : Zh7 K rows M = some (rows.map (Zd5 M)) := by
 have := Xm5 (K := K) hK hr hM hR K 0 [] (by omega) (by omega) (by simp)
 rw [show ((0 : Nat) : Int) = 0 from rfl, List.drop_zero, List.nil_append] at this
 unfold Zh7
 rw [this]; rfl
end
section
variable {K m : Nat} {a : B3} {n : Int} {R : List Vc}
theorem Xz3 (r : Vc) : ∀ (k j : Nat), j ≤ r.length → r.length < j + k → (∀ i, i < j → at_ r i = 0) →
 V0 K r (fun x => Zr2 K x) k (j : Int) = some (if fs r < r.length then .ret (fs r : Int) else .go ())
 | 0, j, h1, h2, _ => by omega
 | k + 1, j, h1, h2, h0 => by
  rw [V0]
  by_cases hj : j < r.length
  rw [if_pos (by omega), Zk3]
  unfold Zr2
  rw [Option.bind_some]
  by_cases hz : r.getD j 0 = 0
  rw [if_neg (by rw [hz]; decide)]
  have := Xz3 r k (j + 1) (by omega) (by omega) (fun i hi => by
   by_cases e : i = j
   subst e; exact hz
   exact h0 i (by omega))
  rw [Int.natCast_add] at this
  exact this
  have e : fs r = j := Yq1 r j h0 hz
  rw [if_pos (by rw [decide_eq_false hz]; rfl), e, if_pos hj]
  have e : j = r.length := by omega
  subst e
  rw [if_neg (by omega)]
  have : fs r = r.length := Xs8 r (fun k => by
   by_cases hk : k < r.length
   exact h0 k hk
   exact Zs7 r k (by omega))
  rw [this, if_neg (by omega)]
theorem Wc1 {r : Vc} (hK : r.length < K) : Zt6 K r = some (if fs r < r.length then (fs r : Int) else -1) := by
 unfold Zt6 N0
 have := Xz3 (K := K) r K 0 (by omega) (by omega) (fun i hi => by omega)
 rw [show ((0 : Nat) : Int) = 0 from rfl] at this
 rw [this]
 by_cases h : fs r < r.length
 rw [if_pos h, if_pos h]; rfl
 rw [if_neg h, if_neg h]; rfl
theorem Xw9 {r : Vc} {w : Nat} (hK : r.length < K) (hw : w ≤ r.length) : Zs8 K (r.take w) = some (decide (w ≤ fs r)) := by
 have hl : (r.take w).length = w := by rw [List.length_take]; omega
 unfold Zs8
 rw [Wc1 (by omega), Option.bind_some, hl]
 have h := Wx6 hw
 by_cases hf : fs r < w
 rw [if_pos (h.2 hf)]
 congr 1
 rw [decide_eq_false (show ¬ w ≤ fs r by omega)]
 exact decide_eq_false (by omega)
 rw [if_neg (fun x => hf (h.1 x))]
 congr 1
 rw [decide_eq_true (show w ≤ fs r by omega)]; rfl
theorem Wa7 {w : Nat} : ∀ (R : List Vc) (acc : List Vc), (∀ r, r ∈ R → Okv (w + m) r ∧ 0 < w + m) → w + m < K → Yt5 K w acc R = some (acc ++ Yf4 w R)
 | [], acc, _, _ => by simp [Yt5, Yf4]
 | r :: R, acc, h, hK => by
  obtain ⟨hr, h0⟩ := h r (List.mem_cons_self ..)
  have hrl := hr.len
  have ih := fun acc => Wa7 R acc (fun x hx => h x (List.mem_cons_of_mem _ hx)) hK
  rw [Yt5, if_pos (by omega), Xw9 (by omega) (by omega), Option.bind_some, ih]
  by_cases hf : w ≤ fs r
  rw [Wr8 hf, if_pos (decide_eq_true hf)]
  simp only [List.append_assoc, List.cons_append, List.nil_append]
  rw [Wp7 hf, if_neg (by simpa using hf)]
theorem Wf1 {rows : List Vc} {w : Nat} (hr : ∀ r, r ∈ rows → Okv w r) (hK : 1099511627776 ≤ K) (hw : w ≤ 400000) (hl : rows.length ≤ 400000) : Zs4 K rows (w : Int) = some (Wo0 rows w) := by
 have hwo := Xa0 (m := rows.length) rows 0 hr
 have hT := (Yg7 hwo).1
 have hsh := hT.short
 have hwl := Yk1 rows.length rows 0
 unfold Zs4
 rw [if_pos (show okK rows (w : Int) = true from decide_eq_true ⟨by omega, by omega, by omega, fun r h => by have := (hr r h).len; omega⟩), Yd5 hK hwo (by omega) (by omega), Option.bind_some, if_pos (by omega), Int.toNat_natCast]
 have h0 : ∀ r, r ∈ Yi6 (Zp6 rows.length 0 rows) → 0 < w + rows.length := fun r hr' => by have := (hT.ld r hr').1; omega
 rw [Wa7 (m := rows.length) _ [] (fun r hr' => ⟨hT.ok r hr', h0 r hr'⟩) (by omega), Option.bind_some, List.nil_append]
 have hql : (Yf4 w (Yi6 (Zp6 rows.length 0 rows))).length ≤ (Yi6 (Zp6 rows.length 0 rows)).length := by
  unfold Yf4; rw [List.length_map]; exact List.length_filter_le ..
 rw [Yd5 hK (Wb1 hT.ok) (by omega) (by omega)]; rfl
theorem Wy2 {row s : Vc} (hr : Okv m row) (hs : Okv m s) (hf : fs s < m) : tkN row s (at_ row (fs s)) s.length = if at_ row (fs s) = 0 then row else Zr9 row s (at_ row (fs s)) := by
 have hlen : (tkN row s (at_ row (fs s)) s.length).length = m := by rw [Yg8]; exact hr.len
 have hat : ∀ k, at_ (tkN row s (at_ row (fs s)) s.length) k = (at_ row k - at_ row (fs s) * at_ s k) % 10007 := fun k => by
  show (tkN _ _ _ _).getD k 0 = _
  rw [Xk8 _ _ _ _ (by rw [hs.len, hr.len]; exact Nat.le_refl _)]
  by_cases hk : k < s.length
  rw [if_pos hk]; exact Wj4 (hr.inF k) (hs.inF k) (hr.inF _)
  rw [if_neg hk]
  have z1 : at_ row k = 0 := Zs7 _ _ (by rw [hr.len, ← hs.len]; omega)
  have z2 : at_ s k = 0 := Zs7 _ _ (by omega)
  show at_ row k = _
  rw [z1, z2, Int.mul_zero]; rfl
 have hok : Okv m (tkN row s (at_ row (fs s)) s.length) := Xr8 hlen fun k _ => by rw [hat]; omega
 by_cases hz : at_ row (fs s) = 0
 rw [if_pos hz]
 refine hok.ext hr fun k => ?_
 rw [hat, hz, Int.zero_mul, Int.sub_zero]
 have := hr.at k
 omega
 rw [if_neg hz]
 refine hok.ext (Zw0 hr) fun k => ?_
 rw [hat, Yd3 (by rw [hr.len, hs.len])]
theorem Wi2 : ∀ (rows : List Vc) (row : Vc), Okv m row → (∀ s, s ∈ rows → Okv m s ∧ fs s < m) → m < K → rbL K row rows = some (byR rows row)
 | [], row, _, _, _ => rfl
 | s :: ss, row, hr, h, hK => by
  obtain ⟨hs, hf⟩ := h s (List.mem_cons_self ..)
  have hsl := hs.len
  have hrl := hr.len
  rw [rbL, Wc1 (by omega), if_pos (by omega), Option.bind_some, if_pos (by omega), Zk3, byR]
  have e : row.getD (fs s) 0 = at_ row (fs s) := rfl
  rw [e, Wy2 hr hs hf]
  refine Wi2 ss _ ?_ (fun t ht => h t (List.mem_cons_of_mem _ ht)) hK
  split
  exact hr
  exact Zw0 hr
theorem Xx1 {row : Vc} (hK : 1099511627776 ≤ K) (hr : Okv m row) (hR : Rr m R) (hm : m ≤ 1000000) : Zi2 K row R = some (byR R row) := by
 unfold Zi2
 rw [if_pos (by have := hr.len; omega), Wi2 R row hr (fun s hs => ⟨hR.ok s hs, (hR.ld s hs).1⟩) (by omega)]
theorem Xr7 (hK : 1099511627776 ≤ K) (hR : Rr m R) (hm : m ≤ 1000000) : ∀ (ker : List Vc), (∀ r, r ∈ ker → Okv m r) → Yq2 K R ker = some (ker.map (byR R))
 | [], _ => rfl
 | r :: ker, h => by
  rw [Yq2, Xx1 hK (h r (List.mem_cons_self ..)) hR hm, Option.bind_some, Xr7 hK hR hm ker (fun x hx => h x (List.mem_cons_of_mem _ hx)), Option.bind_some]; rfl
/-! a degree -/
/-- there are not too many monomials of a degree -/
def Zm7 (a : B3) (n : Int) : Bool := decide (n < 0 ∨ (Q2 a.1 n).length ≤ 120)
theorem Xh2 (h0 : 0 ≤ n) (h : Zm7 a n = true) : (Q2 a.1 n).length ≤ 120 := by
 rcases of_decide_eq_true h with h | h
 omega
 exact h
/-- closed forms, boundaries and classes as rows -/
def clR (a : B3) (n : Int) : List Vc := Wo0 (Yt7 a n) (Q2 a.1 (n + 1)).length
def bdR (a : B3) (n : Int) : List Vc := if 0 < n then Yi6 (Yt7 a (n - 1)) else []
def csR (a : B3) (n : Int) : List Vc := Yi6 ((clR a n).map (byR (bdR a n)))
structure Dg (a : B3) (n : Int) : Prop where
 v : Vw a
 r : 0 ≤ n ∧ n ≤ 20
 f0 : Zm7 a (n - 1) = true
 f1 : Zm7 a n = true
 f2 : Zm7 a (n + 1) = true
theorem Dg.l1 (h : Dg a n) : (Q2 a.1 n).length ≤ 120 := Xh2 h.r.1 h.f1
theorem Dg.l2 (h : Dg a n) : (Q2 a.1 (n + 1)).length ≤ 120 := Xh2 (by have := h.r.1; omega) h.f2
theorem Yp1 (a : B3) (n : Int) : (Yt7 a n).length = (Q2 a.1 n).length := by simp [Yt7]
theorem Dg.bd (h : Dg a n) : Rr (Q2 a.1 n).length (bdR a n) := by
 unfold bdR
 have := h.r
 split
 have := Yn1 (n := n - 1) h.v (by omega)
 rw [Int.sub_add_cancel] at this
 exact (Yg7 this).1
 exact Xs1
theorem Dg.cl (h : Dg a n) : Rr (Q2 a.1 n).length (clR a n) := by
 have hr := h.r
 have := Wz2 (Yn1 (n := n) h.v (by omega))
 rwa [Yp1] at this
theorem Dg.left (h : Dg a n) : ∀ r, r ∈ (clR a n).map (byR (bdR a n)) → Okv (Q2 a.1 n).length r := fun r hr => by
 obtain ⟨s, hs, rfl⟩ := List.mem_map.1 hr
 exact Xd9 _ _ (h.cl.ok s hs)
theorem Dg.cs (h : Dg a n) : Rr (Q2 a.1 n).length (csR a n) := (Yg7 h.left).1
theorem Wz5 (hK : 1099511627776 ≤ K) (h : Dg a n) : Xc1 K a n = some (clR a n, bdR a n, csR a n) := by
 have l1 := h.l1
 have l2 := h.l2
 have hr := h.r
 have hmat : Yq3 K a n = some (Yt7 a n) := Wa4 hK h.v (by omega) l1 l2
 have hker : Wr0 K a n = some (clR a n) := by
  unfold Wr0
  rw [hmat, Option.bind_some, Xf6 h.v.dg (by omega) l2, Option.bind_some, Wf1 (Yn1 h.v (by omega)) hK (by omega) (by rw [Yp1]; omega)]; rfl
 have hbd : bdN K a n = some (bdR a n) := by
  unfold bdN bdR
  by_cases hp : 0 < n
  have l0 := Xh2 (by omega) h.f0
  have hm := Yn1 (n := n - 1) h.v (by omega)
  rw [Int.sub_add_cancel] at hm
  rw [if_pos hp, if_pos hp, Wa4 hK h.v (by omega) l0 (by rw [Int.sub_add_cancel]; exact l1), Option.bind_some, Yd5 hK hm (by omega) (by rw [Yp1]; omega)]
  rw [if_neg hp, if_neg hp]
 have hcl := h.cl.short
 unfold Xc1
 rw [if_pos (by omega), hker, Option.bind_some, hbd, Option.bind_some, if_pos (by omega), Xr7 hK h.bd (by omega) _ h.cl.ok, Option.bind_some, Yd5 hK h.left (by omega) (by rw [List.length_map]; omega)]
 rfl
/-! the reference -/
theorem Xs4 (hd : okD a.1 = true) (hn : 0 ≤ n ∧ n ≤ 1000) : ∃ M, M0 K a.1 n = some M ∧ (M.length ≤ 120 ↔ (Q2 a.1 n).length ≤ 120) ∧ ((Q2 a.1 n).length ≤ 120 → M = Q2 a.1 n) := by
 refine ⟨fsF a.1 a.1.length (fun _ => 0) n [], ?_, Xo5.1, fun h => Xo5.2 (by omega)⟩
 unfold M0
 rw [if_pos (show okS _ _ = true from decide_eq_true ⟨D1 hd, J2 hd, hn⟩)]
theorem Yz0 (hd : okD a.1 = true) (hn : 0 ≤ n ∧ n ≤ 1000) (h : (Q2 a.1 n).length ≤ 120) : M0 K a.1 n = some (Q2 a.1 n) := by
 obtain ⟨M, h1, _, h2⟩ := Xs4 (K := K) hd hn
 rw [h1, h2 h]
theorem Xo3 (hK : 1099511627776 ≤ K) (hV : Vw a) (hn : 0 ≤ n ∧ n ≤ 25) (hl : (Q2 a.1 (n + 1)).length ≤ 120) : ∀ (ps : List A8), (∀ p, p ∈ ps → p ∈ Q2 a.1 n) →
 Yh6 K a (Q2 a.1 (n + 1)) ps = some (ps.map fun p => Zd7 (Q2 a.1 (n + 1)) (dmR a p))
 | [], _ => rfl
 | p :: ps, h => by
  have hp := h p (List.mem_cons_self ..)
  have hm := ((Yj3 hV.dg (by omega)).1 hp).1
  have hh := We4 hV hn hp
  have hd : Zo8 K a [(p, 1)] = some (dmR a p) := Ve0 (ds := a.1) (imgs := a.2) (by omega) hV.dg hV.vi (Wm6 hm)
  have hsrt := Yz7 hV.dg (n := n + 1) (by omega)
  have Z4 := Wu6 hV hn hp
  have hlen : (dmR a p).length ≤ 1000000 := by
   have h1 : ((dmR a p).map Prod.fst).Nodup := Zr4 (F4 hh.nf)
   have h2 : ∀ x, x ∈ (dmR a p).map Prod.fst → x ∈ Q2 a.1 (n + 1) := fun x hx => by
    obtain ⟨z, hz, rfl⟩ := List.mem_map.1 hx
    exact Z4 z hz
   have := Xu7 _ _ h1 h2
   rw [List.length_map] at this
   omega
  rw [Yh6, Xc6, Option.bind_some, hd, Option.bind_some, Wl4 hK (by omega) hlen hsrt (F4 hh.nf) Z4, Option.bind_some, Xo3 hK hV hn hl ps (fun q hq => h q (List.mem_cons_of_mem _ hq)), Option.bind_some]
  rfl
theorem Ww7 (hK : 1099511627776 ≤ K) (hV : Vw a) (hn : 0 ≤ n ∧ n ≤ 25) (hl : (Q2 a.1 n).length ≤ 120) (hl1 : (Q2 a.1 (n + 1)).length ≤ 120) : Zl9 K a n = some (Yt7 a n) := by
 unfold Zl9
 rw [if_pos (by omega), Yz0 hV.dg (by omega) hl, Option.bind_some, Yz0 hV.dg (by omega) hl1, Option.bind_some, if_pos (by omega), Xo3 hK hV hn hl1 _ (fun p hp => hp)]; rfl
theorem We5 (hK : 1099511627776 ≤ K) (h : Dg a n) : Zk7 K a n = some (bdR a n) := by
 have l1 := h.l1
 have hr := h.r
 unfold Zk7 bdR
 by_cases hp : n = 0
 rw [if_pos hp, if_neg (by omega)]
 have l0 := Xh2 (by omega) h.f0
 have hm := Yn1 (n := n - 1) h.v (by omega)
 rw [Int.sub_add_cancel] at hm
 rw [if_neg hp, if_pos (by omega), IntWalk.i64_in _ (by omega), show (a.1, a.2) = a from rfl, Ww7 hK h.v (by omega) l0 (by rw [Int.sub_add_cancel]; exact l1), Option.bind_some, Wf6 hm hK (by omega) (by rw [Yp1]; omega)]
 rfl
/-! codes -/
def cdR (a : B3) (n : Int) : Int := if okA a = true then if 0 ≤ n ∧ n ≤ 20 then if (Zm7 a (n - 1) && Zm7 a n && Zm7 a (n + 1)) = true then 0 else 3 else 2 else 1
theorem Xf4 (hd : okD a.1 = true) {t : Int} (ht : t ≤ 900) : ∀ (k : Nat) (x : Int), 0 ≤ x → x ≤ t + 1 → t + 1 - x < k →
 (G9 K a t k x = some (.go ()) ∧ ∀ m, x ≤ m → m ≤ t → (Q2 a.1 m).length ≤ 120) ∨ (G9 K a t k x = some (.ret false) ∧ ∃ m, x ≤ m ∧ m ≤ t ∧ ¬ (Q2 a.1 m).length ≤ 120)
 | 0, x, h0, h1, h2 => by omega
 | k + 1, x, h0, h1, h2 => by
  rw [G9]
  by_cases hx : x ≤ t
  obtain ⟨M, e, h3, _⟩ := Xs4 (K := K) hd (n := x) (by omega)
  rw [if_pos hx, e, Option.bind_some, IntWalk.i64_in _ (by omega)]
  by_cases hM : (M.length : Int) ≤ 120
  have hA := h3.1 (by omega)
  rw [if_neg (by omega)]
  rcases Xf4 hd ht k (x + 1) (by omega) (by omega) (by omega) with ⟨g1, g2⟩ | ⟨g1, m, g2, g3, g4⟩
  exact .inl ⟨g1, fun m hm1 hm2 => by
   by_cases e : m = x
   rw [e]; exact hA
   exact g2 m (by omega) hm2⟩
  exact .inr ⟨g1, m, by omega, g3, g4⟩
  rw [if_pos (by omega)]
  exact .inr ⟨rfl, x, by omega, hx, fun h => hM (by have := h3.2 h; omega)⟩
  rw [if_neg hx]
  exact .inl ⟨rfl, fun m hm1 hm2 => by omega⟩
theorem Wf4 (hK : 1099511627776 ≤ K) (hd : okD a.1 = true) (hn : 0 ≤ n ∧ n ≤ 20) : Zm0 K a (n - 1) (n + 1) = some (Zm7 a (n - 1) && Zm7 a n && Zm7 a (n + 1)) := by
 unfold Zm0
 have key := Xf4 (K := K) hd (t := n + 1) (by omega) K (if n - 1 < 0 then 0 else n - 1) (by split <;> omega) (by split <;> omega) (by split <;> omega)
 rcases key with ⟨g1, g2⟩ | ⟨g1, m, g2, g3, g4⟩
 rw [g1]
 have f : ∀ m, m = n - 1 ∨ m = n ∨ m = n + 1 → Zm7 a m = true := fun m hm => decide_eq_true (by
  by_cases h0 : m < 0
  exact .inl h0
  exact .inr (g2 m (by split <;> omega) (by omega)))
 rw [f (n - 1) (.inl rfl), f n (.inr (.inl rfl)), f (n + 1) (.inr (.inr rfl))]; rfl
 rw [g1]
 have hm0 : 0 ≤ m ∧ n - 1 ≤ m := by split at g2 <;> omega
 have hf : Zm7 a m = false := decide_eq_false (by omega)
 have : (Zm7 a (n - 1) && Zm7 a n && Zm7 a (n + 1)) = false := by
  have hmm : m = n - 1 ∨ m = n ∨ m = n + 1 := by omega
  rcases hmm with rfl | rfl | rfl <;> rw [hf] <;> simp
 rw [this]; rfl
theorem Ws4 (hK : 1099511627776 ≤ K) (hi : Inp K a) : Zq3 K a n = some (cdR a n) := by
 unfold Zq3 cdR
 rw [show (a.1, a.2) = a from rfl, Vf2 hi, Option.bind_some]
 by_cases hA : okA a = true
 rw [if_pos hA, if_pos hA, Wf2, Option.bind_some]
 by_cases hr : 0 ≤ n ∧ n ≤ 20
 rw [if_pos (decide_eq_true hr), if_pos hr, IntWalk.i64_in _ (by omega), IntWalk.i64_in _ (by omega), Wf4 hK (Xs3 hi hA).dg hr, Option.bind_some]
 split <;> rfl
 rw [if_neg (by simpa using hr), if_neg hr]
 rw [if_neg hA, if_neg hA]
theorem Xb0 (hd : okD a.1 = true) (hn : n ≤ 1000) : B4 K a n = some (Zm7 a n) := by
 unfold B4
 rw [Xr4 hd hn]
 show some (decide _) = some (decide _)
 congr 1
 by_cases h0 : n < 0
 have : lsM a.1 n 120 = [] := by unfold lsM; rw [if_neg (by omega)]
 rw [this, decide_eq_true (by simp), decide_eq_true (.inl h0)]
 have := (Xo4 (ds := a.1) (n := n) (D1 hd) (by omega)).1
 refine decide_eq_decide.2 ?_
 omega
theorem Wl6 (hK : 1099511627776 ≤ K) (hi : Inp K a) : Zv8 K a [n] = some (cdR a n) := by
 unfold Zv8 cdR
 have hc : R7 K [n] (fun x => Zo2 K x) = some ([n].any fun x => !decide (0 ≤ x ∧ x ≤ 20)) := Xw0 (by simp; omega) (fun x _ => by
  unfold Zo2 Zw8
  rw [Ys9]; rfl)
 have hany : ([n].any fun x => !decide (0 ≤ x ∧ x ≤ 20)) = !decide (0 ≤ n ∧ n ≤ 20) := by simp
 rw [hc, Option.bind_some, hany, Wx3 hi, Option.bind_some, Xi7, Option.bind_some]
 have hf : ∀ x y : Int, Zv6 K [x, y] = some (if x = 0 then y else x) := fun x y => by
  obtain ⟨k, rfl⟩ : ∃ k, K = k + 3 := ⟨K - 3, by omega⟩
  unfold Zv6
  have r0 : rd [x, y] 0 = x := rfl
  have r1 : rd [x, y] 1 = y := rfl
  rw [Zb8, if_pos (by simp), r0]
  by_cases hx : x = 0
  rw [if_pos hx, if_pos hx, show (0 : Int) + 1 = 1 from rfl, Zb8, if_pos (by simp), r1]
  by_cases hy : y = 0
  rw [if_pos hy, show (1 : Int) + 1 = 2 from rfl, Zb8, if_neg (by simp), hy]; rfl
  rw [if_neg hy]; rfl
  rw [if_neg hx, if_neg hx]; rfl
 rw [hf, Option.bind_some]
 by_cases hA : okA a = true
 case neg =>
  rw [if_neg hA, if_neg hA]
  have e : (if (1 : Int) = 0 then (if (!decide (0 ≤ n ∧ n ≤ 20)) = true then (2 : Int) else 0) else 1) = 1 := if_neg (by decide)
  rw [e, if_neg (by decide)]
 rw [if_pos hA, if_pos hA, if_pos rfl]
 by_cases hr : 0 ≤ n ∧ n ≤ 20
 case neg =>
  rw [if_neg hr, decide_eq_false hr]
  have e : (if (!false) = true then (2 : Int) else 0) = 2 := rfl
  rw [e, if_neg (by decide)]
 have hd := (Xs3 hi hA).dg
 rw [if_pos hr, decide_eq_true hr]
 have e : (if (!true) = true then (2 : Int) else 0) = 0 := rfl
 rw [e, if_pos rfl]
 show ((Wd5 K a n).bind fun b => if b = true then arN K a [] else some 3) = _
 unfold Wd5
 rw [if_pos (by omega), Xb0 hd (by omega), Option.bind_some]
 cases h1 : Zm7 a (n - 1) with
 | false => rw [if_neg (by decide), Option.bind_some, if_neg (by decide), if_neg (by simp)]
 | true =>
  rw [if_pos rfl, Xb0 hd (by omega), Option.bind_some]
  cases h2 : Zm7 a n with
  | false => rw [if_neg (by decide), Option.bind_some, if_neg (by decide), if_neg (by simp)]
  | true =>
   rw [if_pos rfl, Xb0 hd (by omega), Option.bind_some]
   cases h3 : Zm7 a (n + 1) with
   | false => rw [if_neg (by decide), if_neg (by simp)]
   | true => rw [if_pos rfl, if_pos (by simp)]; rfl
theorem Xq0 (hi : Inp K a) (h : cdR a n = 0) : Dg a n := by
 unfold cdR at h
 by_cases hA : okA a = true
 case neg => rw [if_neg hA] at h; omega
 rw [if_pos hA] at h
 by_cases hr : 0 ≤ n ∧ n ≤ 20
 case neg => rw [if_neg hr] at h; omega
 rw [if_pos hr] at h
 by_cases hf : (Zm7 a (n - 1) && Zm7 a n && Zm7 a (n + 1)) = true
 case neg => rw [if_neg hf] at h; omega
 rw [Bool.and_eq_true, Bool.and_eq_true] at hf
 exact ⟨Xs3 hi hA, hr, hf.1.1, hf.1.2, hf.2⟩
/-! forms -/
theorem Xu5 (hK : 1099511627776 ≤ K) : ∀ (M2 M1 : List A8) (row : Vc) (s : MpT), (M1 ++ M2).Pairwise (fun a b => bef a b = true) → nfm s = true → (∀ z, z ∈ s → z.1 ∈ M1) → (∀ x, x ∈ row → 0 ≤ x ∧ x < 10007) → row.length = M2.length →
 lsN K (M1 ++ M2) row M1.length s = some (s ++ Zd5 M2 row)
 | [], M1, row, s, _, _, _, _, hl => by
  have : row = [] := List.eq_nil_of_length_eq_zero hl
  subst this
  simp [lsN, Zd5]
 | p :: M2, M1, [], s, _, _, _, _, hl => by simp at hl
 | p :: M2, M1, x :: row, s, hM, hs, hk, hr, hl => by
  have hx := hr x (List.mem_cons_self ..)
  have hi : M1.length < (M1 ++ p :: M2).length := by simp
  have hrd : rd (M1 ++ p :: M2) (M1.length : Int) = p := by rw [Zd1 hi]; simp
  have e : M1 ++ p :: M2 = (M1 ++ [p]) ++ M2 := by simp
  have hb : ∀ z, z ∈ s → bef z.1 p = true := fun z hz => (List.pairwise_append.1 hM).2.2 _ (hk z hz) p (List.mem_cons_self ..)
  have hn : p ∉ s.map Prod.fst := fun h => by
   obtain ⟨z, hz, rfl⟩ := List.mem_map.1 h
   have := hb z hz
   rw [Ze4] at this; cases this
  rw [lsN, if_pos hi, hrd, Yj1 ⟨hs, by omega, by omega⟩, Option.bind_some]
  have hg : N3 s p = 0 := Zh2 hn
  unfold Zd5
  unfold Zu0
  rw [hg, Int.zero_add, show x % 10007 = x by omega]
  by_cases h0 : x = 0
  rw [if_pos h0, if_pos h0]
  have hd : Zv2 s p = s := by unfold Zv2; exact Zw2 hn
  rw [hd]
  have := Xu5 hK M2 (M1 ++ [p]) row s (by rw [← e]; exact hM) hs (fun z hz => List.mem_append_left _ (hk z hz)) (fun y hy => hr y (List.mem_cons_of_mem _ hy)) (by simpa using hl)
  rw [← e, List.length_append] at this
  exact this
  have hsrt : Srt (s ++ [(p, x)]) := List.pairwise_append.2 ⟨F4 hs, List.pairwise_singleton _ _, fun z hz y hy => by cases List.mem_singleton.1 hy; exact hb z hz⟩
  rw [if_neg h0, if_neg h0, Xd2 hsrt]
  have := Xu5 hK M2 (M1 ++ [p]) row (s ++ [(p, x)]) (by rw [← e]; exact hM) (Ye8 hsrt fun z hz => by
   rcases List.mem_append.1 hz with hz | hz
   exact Yc7 hs z hz
   cases List.mem_singleton.1 hz; show 1 ≤ x ∧ x ≤ 10006; omega) (fun z hz => by
   rcases List.mem_append.1 hz with hz | hz
   exact List.mem_append_left _ (hk z hz)
   cases List.mem_singleton.1 hz; simp) (fun y hy => hr y (List.mem_cons_of_mem _ hy)) (by simpa using hl)
  rw [← e, List.length_append] at this
  rw [show M1.length + 1 = M1.length + [p].length from rfl, this]; simp
theorem Va1 (hK : 1099511627776 ≤ K) {M : List A8} {row : Vc} (hM : M.Pairwise (fun a b => bef a b = true)) (hr : Okv M.length row) : Zr8 K M row = some (Zd5 M row) := by
 have := Xu5 hK M [] row [] hM Zx3 (fun z hz => by cases hz) hr.rng hr.len
 simpa [Zr8] using this
theorem Vc6 {ds : List Int} {M : List A8} {row : Vc} (hM : M.Pairwise (fun a b => bef a b = true)) (hr : Okv M.length row) (hm : ∀ p, p ∈ M → Mo 20 ds p) (hl : M.length ≤ 400) : VF ds (Zd5 M row) :=
 ⟨Wz6 hM (n := 0) hr.rng, fun z hz => hm _ (Yi3 M row z hz).1, Nat.le_trans (Xb2 M row) hl⟩
theorem Wk0 (hK : 1099511627776 ≤ K) {ds : List Int} {M : List A8} (hM : M.Pairwise (fun a b => bef a b = true)) (hm : ∀ p, p ∈ M → Mo 20 ds p) (hl : M.length ≤ 400) : ∀ (rows : List Vc) (out : List MpT), (∀ r, r ∈ rows → Okv M.length r) →
 fmL K M rows out = some (out ++ rows.map (Zd5 M), 0)
 | [], out, _ => by simp [fmL]
 | r :: rows, out, h => by
  have hr := h r (List.mem_cons_self ..)
  rw [fmL, Va1 hK hM hr, Option.bind_some, Ve3 (by omega) (Vc6 hM hr hm hl), Option.bind_some, if_pos rfl, Wk0 hK hM hm hl rows _ fun x hx => h x (List.mem_cons_of_mem _ hx)]
  simp
theorem Wk5 (hK : 1099511627776 ≤ K) (h : Dg a n) {R : List Vc} (hR : Rr (Q2 a.1 n).length R) : Zh3 K (Q2 a.1 n) R = some (R.map (Zd5 (Q2 a.1 n)), 0) := by
 have l1 := h.l1
 have hs := hR.short
 have hr := h.r
 unfold Zh3
 rw [if_pos (by omega), Wk0 hK (Yz7 h.v.dg (by omega)) (fun p hp => ((Yj3 h.v.dg (by omega)).1 hp).1) (by omega) R [] hR.ok]
 rfl
theorem Wj6 (hK : 1099511627776 ≤ K) (h : Dg a n) {R : List Vc} (hR : Rr (Q2 a.1 n).length R) : Zh7 K R (Q2 a.1 n) = some (R.map (Zd5 (Q2 a.1 n))) := by
 have l1 := h.l1
 have hs := hR.short
 exact Wi0 hK (fun r hr => (hR.ok r hr).len) (by omega) (by omega)
/-- what both sides answer, for rows of a degree -/
def dgR (a : B3) (n : Int) (R : List Vc) : List MpT × Int := if cdR a n = 0 then (R.map (Zd5 (Q2 a.1 n)), 0) else ([], cdR a n)
end
end Go.Proofs.YtabofnehiclkiaaGreat
