/- Plain laws on the pure functions. -/
import Derived.WalkKit
import Derived.Test.YtabofnehiclkiaaGreatZP1
namespace Go.Proofs.YtabofnehiclkiaaGreat
open Go
set_option linter.unusedSimpArgs false
set_option linter.unusedVariables false
theorem Yh0 {B : Int} {ds : List Int} {p : A8} (h : Mo B ds p) : MoL B ds [(p, 1)] := fun t ht => by cases List.mem_singleton.1 ht; exact h
theorem Ym1 (p : A8) : SmF [(p, 1)] := fun t ht => by cases List.mem_singleton.1 ht; simp
theorem Wh3 (p : A8) : Srt [(p, 1)] := List.pairwise_singleton _ _
theorem Xe4 (K : Nat) (p : A8) : Zd2 K p 1 = some [(p, 1)] := by
 unfold Zd2
 rw [Yg9]; rfl
section
variable {K : Nat} {ds : List Int} {img : MpT} {m : A8} {i : Nat}
theorem Yu3 (hm : Mo 20 ds m) (hi : i < 8) (h1 : 0 < Y4 m i) (hv : VF ds img) : MoL 40 ds (I4 (Zm0 ds [(lfM m i, 1)] img) []) ∧ (I4 (Zm0 ds [(lfM m i, 1)] img) []).length ≤ 400 := by
 refine ⟨Va5 (Vc3 (Yh0 (Xq2 hm (by decide) hi h1)) hv.mo), ?_⟩
 have h2 := Yj1 (Zm0 ds [(lfM m i, 1)] img) []
 have h3 := Xq7 (ds := ds) [(lfM m i, 1)] img
 have h4 := hv.len
 simp only [List.length_cons, List.length_nil] at h2 h3
 omega
theorem Xs5 (hm : Mo 20 ds m) (hi : i < 8) (h1 : 0 < Y4 m i) (hv : VF ds img) : (dT ds img m i).length ≤ 400 := by
 have h0 := (Yu3 hm hi h1 hv).2
 unfold dT
 generalize I4 (Zm0 ds [(lfM m i, 1)] img) [] = T at h0 ⊢
 have h2 := Yj1 (Zm0 ds T [(hiM m i, 1)]) []
 have h3 := Xq7 (ds := ds) T [(hiM m i, 1)]
 simp only [List.length_cons, List.length_nil] at h2 h3
 omega
theorem Xx3 : nfm (dT ds img m i) = true := Zm3 _ Zx2
theorem Yv8 {z : B9} {out : MpT} (hm : Mo 20 ds z.1) (hi : i < 8) (h1 : 0 < Y4 z.1 i) (hv : VF ds img) : (Yq9 ds img z i out).length ≤ out.length + 400 := by
 have h1 := Xs5 hm hi h1 hv
 have h2 := Yj1 (scl (dF ds z i) (dT ds img z.1 i)) out
 unfold Yq9
 have : (scl (dF ds z i) (dT ds img z.1 i)).length = (dT ds img z.1 i).length := by simp [scl]
 omega
theorem Xy0 (m : A8) (i : Nat) : ∀ (k j : Nat) (front back : A8), 8 < j + k → j ≤ 8 → (∀ t : Fin 8, front t = if t.val < j ∧ i ≤ t.val then 0 else m t) → (∀ t : Fin 8, back t = if t.val < j ∧ t.val ≤ i then 0 else m t) →
 E0 K i k j front back = some (.go (loM m i, hiM m i)) := by
 intro k
 induction k with
 | zero => intro j front back h1 h2; omega
 | succ k ih =>
  intro j front back h1 h2 hf hb
  rw [E0]
  by_cases hj : j < 8
  have key : ∀ fr : A8, (∀ t : Fin 8, fr t = if t.val < j + 1 ∧ i ≤ t.val then 0 else m t) → Zi8 K (E0 K i k) i j back fr = some (.go (loM m i, hiM m i)) := by
   intro fr hfr
   unfold Zi8
   by_cases h : j ≤ i
   rw [if_pos (by omega)]
   refine ih (j + 1) _ _ (by omega) (by omega) hfr (fun t => ?_)
   rw [Zf6 _ hj, hb t]
   by_cases e : t.val = j
   rw [if_pos e, if_pos (by omega)]
   rw [if_neg e]
   by_cases h' : t.val < j ∧ t.val ≤ i
   rw [if_pos h', if_pos (by omega)]
   rw [if_neg h', if_neg (by omega)]
   rw [if_neg (by omega)]
   refine ih (j + 1) _ _ (by omega) (by omega) hfr (fun t => ?_)
   rw [hb t]
   by_cases h' : t.val < j ∧ t.val ≤ i
   rw [if_pos h', if_pos (by omega)]
   rw [if_neg h', if_neg (by omega)]
  rw [if_pos (by omega)]
  by_cases h : i ≤ j
  rw [if_pos (by omega)]
  refine key _ (fun t => ?_)
  rw [Zf6 _ hj, hf t]
  by_cases e : t.val = j
  rw [if_pos e, if_pos (by omega)]
  rw [if_neg e]
  by_cases h' : t.val < j ∧ i ≤ t.val
  rw [if_pos h', if_pos (by omega)]
  rw [if_neg h', if_neg (by omega)]
  rw [if_neg (by omega)]
  refine key _ (fun t => ?_)
  rw [hf t]
  by_cases h' : t.val < j ∧ i ≤ t.val
  rw [if_pos h', if_pos (by omega)]
  rw [if_neg h', if_neg (by omega)]
  rw [if_neg (by omega)]
  congr 3
  funext t
  rw [hf t]; unfold loM
  by_cases h : t.val < i
  rw [if_neg (by omega), if_pos h]
  rw [if_pos (by omega), if_neg h]
  funext t
  rw [hb t]; unfold hiM
  by_cases h : i < t.val
  rw [if_neg (by omega), if_pos h]
  rw [if_pos (by omega), if_neg h]
structure VI (ds : List Int) (imgs : List MpT) : Prop where
 len : imgs.length = ds.length
 all : ∀ f, f ∈ imgs → VF ds f
theorem Wz0 {out : MpT} {f : Int} (hK : 1073741824 ≤ K) (hd : okD ds = true) (hm : Mo 20 ds m) (hi : i < 8) (h1 : 0 < Y4 m i) {imgs : List MpT} (hv : VI ds imgs) (hil : i < ds.length) (ho : nfm out = true) (hol : out.length ≤ 100000000)
 (lk : Int → MpT → Option (Ex MpT MpT)) (a1 : MpT) (x0 : Int) (hz : (rd a1 x0).1 = m) :
 Zi7 K lk (ds, imgs) a1 x0 i out (loM m i) (hiM m i) f = lk ((i : Int) + 1) (I4 (scl (f % 10007) (dT ds (rd imgs (i : Int)) m i)) out) := by
 have hl := hv.len
 have hv' := hv.all _ (T9 (show i < imgs.length by omega))
 have hvl := hv'.len
 have hp := Yu3 hm hi h1 hv'
 have hb := hm.hi ⟨i, hi⟩
 rw [← T4 m hi] at hb
 have hw : U8 (loM m i) i (IntKind.u8.wrap (Y4 m i - 1)) = lfM m i := by rw [Wf4 (by omega)]; rfl
 have hn := Xs5 hm hi h1 hv'
 unfold Zi7
 rw [hz, hw, Xe4, Option.bind_some, if_pos (show (i : Int) < imgs.length by omega),
  Xt1 (B := 20) (C := 20) hK hd (by decide) (by decide) (Yh0 (Xq2 hm (by decide) hi h1)) (Ym1 _) hv'.mo hv'.small (F9 hv'.nf) (by omega) (by simp; omega) (by simp; omega), Option.bind_some, Xe4, Option.bind_some,
  Xt1 (B := 40) (C := 20) hK hd (by decide) (by decide) hp.1 (Zv9 (Zm3 _ Zx2)) (Yh0 (Wg9 hm (by decide) i)) (Ym1 _) (Wh3 _) (by simp) (by omega) (by simp; omega), Option.bind_some, Yg9, Option.bind_some]
 have hT : I4 (Zm0 ds (I4 (Zm0 ds [(lfM m i, 1)] (rd imgs (i : Int))) []) [(hiM m i, 1)]) [] = dT ds (rd imgs (i : Int)) m i := rfl
 rw [hT, Ww7 (by omega) (by omega) (by omega) (Zv9 ho) (Zv9 Xx3) (by omega) (by omega), Option.bind_some, Wc8 ho (F9 Xx3)]
theorem Vd6 (x y a : Int) (hx : 0 ≤ x) : sg (x + y * a) = if y % 2 = 1 ∧ a % 2 = 1 then - sg x else sg x := by
 have h : (y * a) % 2 = ((y % 2) * (a % 2)) % 2 := Int.mul_emod y a 2
 have e : sg (y * a) = if y % 2 = 1 ∧ a % 2 = 1 then -1 else 1 := by
  unfold sg
  rw [h]
  rcases Int.emod_two_eq y with h1 | h1 <;> rcases Int.emod_two_eq a with h2 | h2 <;> simp [h1, h2]
 rw [Wi8, e]
 split
 rw [Int.mul_neg, Int.mul_one]
 rw [Int.mul_one]
theorem Va8 (m : A8) {i : Nat} (hi : i < 8) : U8 (loM m i) i (Y4 m i) = loM m (i + 1) := by
 funext t
 rw [Zf6 _ hi, T4 m hi]
 unfold loM
 by_cases e : t.val = i
 rw [if_pos e, if_pos (by omega)]; congr 1; exact Fin.ext e.symm
 rw [if_neg e]
 by_cases h : t.val < i
 rw [if_pos h, if_pos (by omega)]
 rw [if_neg h, if_neg (by omega)]
theorem Xn5 {z : B9} (hm : Mo 20 ds z.1) (hz : -10006 ≤ z.2 ∧ z.2 ≤ 10006) (i : Nat) (hi : i < 8) (s : Int) (hs : s = 1 ∨ s = -1) : (-10006 ≤ s * z.2 ∧ s * z.2 ≤ 10006) ∧ -100120036 ≤ s * z.2 * Y4 z.1 i ∧ s * z.2 * Y4 z.1 i ≤ 100120036 := by
 have h2 := hm.hi ⟨i, hi⟩
 have h3 := hm.lo ⟨i, hi⟩
 rw [← T4 z.1 hi] at h2 h3
 exact Xb2 (.inr hs) hz (by omega)
theorem Xr4 {imgs : List MpT} {f : MpT} {x0 : Int} (hK : 1073741824 ≤ K) (hd : okD ds = true) (hv : VI ds imgs) (hm : Mo 20 ds (rd f x0).1) (hz : -10006 ≤ (rd f x0).2 ∧ (rd f x0).2 ≤ 10006) :
 ∀ (k i : Nat) (out : MpT), ds.length < i + k → i ≤ ds.length → nfm out = true → out.length + 400 * (ds.length - i) ≤ 100000000 →
  J4 K (ds, imgs) f x0 k i out = some (.go (Zx8 ds imgs (rd f x0) (ds.length - i) i out)) := by
 have hl := J5 hd
 intro k
 induction k with
 | zero => intro i out h1 h2; omega
 | succ k ih =>
  intro i out h1 h2 ho hol
  rw [J4]
  by_cases hi : i < ds.length
  obtain ⟨n, hn⟩ : ∃ n, ds.length - i = n + 1 := ⟨ds.length - i - 1, by omega⟩
  have e2 : ds.length - (i + 1) = n := by omega
  have hi8 : i < 8 := by omega
  have hlo := hm.lo ⟨i, hi8⟩
  have hhi := hm.hi ⟨i, hi8⟩
  rw [← T4 (rd f x0).1 hi8] at hlo hhi
  rw [if_pos (show (i : Int) < ds.length by omega), if_pos (by omega), hn, Zx8]
  by_cases h0 : Y4 (rd f x0).1 i = 0
  have := ih (i + 1) out (by omega) (by omega) ho (by omega)
  rw [e2] at this
  rw [if_pos h0, if_pos h0]; exact this
  have h1' : 0 < Y4 (rd f x0).1 i := by omega
  have hv' := hv.all _ (T9 (show i < imgs.length by rw [hv.len]; exact hi))
  have hl2 := Xy0 (K := K) (rd f x0).1 i K 0 (rd f x0).1 (rd f x0).1 (by omega) (by omega) (fun t => by simp) (fun t => by simp)
  replace hl2 : E0 K i K 0 (rd f x0).1 (rd f x0).1 = _ := hl2
  have hsl := Yv8 (out := out) hm hi8 h1' hv'
  have := ih (i + 1) (Yq9 ds (rd imgs (i : Int)) (rd f x0) i out) (by omega) (by omega) (Zm3 _ ho) (by omega)
  rw [e2] at this
  have hwt := Xt4 hd ((Wh1 hm (by decide) i).byt (by decide))
  rw [Wv4 _ _ (by omega)] at hwt
  have hfb := Xn5 hm hz i hi8 1 (.inl rfl)
  rw [Int.one_mul] at hfb
  rw [if_neg h0, if_neg h0, hl2, Option.bind_some]
  show (Za1 K ds (loM (rd f x0).1 i)).bind _ = _
  rw [Xc2 (by omega) hd ((Wh1 hm (by decide) i).byt (by decide)), Option.bind_some, Wv4 _ _ (by omega), Yf7 (by omega), IntWalk.i64_in (Y4 (rd f x0).1 i) (by omega), IntWalk.i64_in ((rd f x0).2 * _) (by omega), IntWalk.i64_in (0 - _) (by omega)]
  have hj := fun g => Wz0 (K := K) (f := g) hK hd hm hi8 h1' hv hi ho (by omega) (J4 K (ds, imgs) f x0 k) f x0 rfl
  rw [hj, hj]
  have hF : dF ds (rd f x0) i = (if wtN ds (rd f x0).1 i % 2 = 0 then (rd f x0).2 * Y4 (rd f x0).1 i else 0 - (rd f x0).2 * Y4 (rd f x0).1 i) % 10007 := by
   unfold dF sg
   by_cases e : wtN ds (rd f x0).1 i % 2 = 0
   rw [if_pos e, if_neg (by omega), Int.one_mul]
   rw [if_neg e, if_pos (by omega), Int.neg_mul, Int.one_mul, Int.neg_mul, Int.zero_sub]
  refine Eq.trans ?_ this
  unfold Yq9
  rw [hF]
  split <;> rfl
  rw [if_neg (show ¬ (i : Int) < ds.length by omega), show ds.length - i = 0 by omega]; rfl
end
section
variable {K : Nat} {ds : List Int} {img : MpT} {m : A8} {i : Nat}
theorem Yf4 {imgs : List MpT} {z : B9} (hd : okD ds = true) (hv : VI ds imgs) (hm : Mo 20 ds z.1) : ∀ (n i : Nat) (out : MpT), i + n ≤ ds.length → nfm out = true →
 nfm (Zx8 ds imgs z n i out) = true ∧ (Zx8 ds imgs z n i out).length ≤ out.length + 400 * n
 | 0, _, out, _, h => ⟨h, Nat.le_refl _⟩
 | n + 1, i, out, hi, h => by
  have hl := J5 hd
  rw [Zx8]
  by_cases h0 : Y4 z.1 (i : Int) = 0
  rw [if_pos h0]
  have := Yf4 hd hv hm n (i + 1) out (by omega) h
  exact ⟨this.1, by omega⟩
  rw [if_neg h0]
  have hv' := hv.all _ (T9 (show i < imgs.length by rw [hv.len]; omega))
  have hlo := (hm.idx i).1
  have h2 := Yv8 (out := out) (z := z) hm (show i < 8 by omega) (by omega) hv'
  have := Yf4 hd hv hm n (i + 1) (Yq9 ds (rd imgs (i : Int)) z i out) (by omega) (Zm3 _ h)
  exact ⟨this.1, by omega⟩
theorem Xu2 {imgs : List MpT} {f : MpT} (hK : 1073741824 ≤ K) (hd : okD ds = true) (hv : VI ds imgs) (hm : MoL 20 ds f) (hz : SmF f) :
 ∀ (k i : Nat) (out : MpT), f.length < i + k → i ≤ f.length → nfm out = true → out.length + 3200 * (f.length - i) ≤ 90000000 → Zd9 K (ds, imgs) f k i out = some (.go (Zw7 ds imgs (f.drop i) out)) := by
 have hl := J5 hd
 intro k
 induction k with
 | zero => intro i out h1 h2; omega
 | succ k ih =>
  intro i out h1 h2 ho hol
  rw [Zd9]
  by_cases hi : i < f.length
  have h3 := Xr4 hK hd hv (hm _ (T9 hi)) (hz _ (T9 hi)) K 0 out (by omega) (by omega) ho (by omega)
  have h4 := Yf4 hd hv (hm _ (T9 hi)) ds.length 0 out (by omega) ho
  replace h3 : J4 K (ds, imgs) f i K 0 out = _ := h3
  rw [if_pos (by omega), h3, Option.bind_some, Zx1 hi, Zw7]
  exact ih (i + 1) _ (by omega) (by omega) h4.1 (by rw [Nat.sub_zero]; omega)
  rw [if_neg (by omega), List.drop_eq_nil_of_le (by omega)]; rfl
theorem Vf9 {imgs : List MpT} {f : MpT} (hK : 1073741824 ≤ K) (hd : okD ds = true) (hv : VI ds imgs) (hf : VF ds f) : Zq3 K (ds, imgs) f = some (Zw7 ds imgs f []) := by
 have hl := hf.len
 have := Xu2 hK hd hv hf.mo hf.small K 0 [] (by omega) (by omega) Zx2 (by simp; omega)
 unfold Zq3
 replace this : Zd9 K (ds, imgs) f K 0 [] = some (.go (Zw7 ds imgs f [])) := this
 rw [this]; rfl
theorem Wk1 (m : A8) {i : Nat} (hi : i < 8) : ∀ (k j : Nat) (box : A8), i + 1 < j + k → j ≤ i + 1 → (∀ t : Fin 8, box t = if t.val < j then 0 else m t) → R4 K i k j box = some (.go (hiM m i)) := by
 intro k
 induction k with
 | zero => intro j box h1 h2; omega
 | succ k ih =>
  intro j box h1 h2 hb
  rw [R4]
  by_cases hj : j < i + 1
  rw [if_pos (by omega), if_pos (by omega)]
  refine ih (j + 1) _ (by omega) (by omega) (fun t => ?_)
  rw [Zf6 _ (show j < 8 by omega), hb t]
  by_cases e : t.val = j
  rw [if_pos e, if_pos (by omega)]
  rw [if_neg e]
  by_cases h : t.val < j
  rw [if_pos h, if_pos (by omega)]
  rw [if_neg h, if_neg (by omega)]
  rw [if_neg (by omega)]
  congr 2
  funext t
  rw [hb t]; unfold hiM
  by_cases h : i < t.val
  rw [if_pos h, if_neg (by omega)]
  rw [if_neg h, if_pos (by omega)]
def sgI (ds : List Int) (m : A8) (i : Nat) : Int := sg (wtN ds m (min i ds.length))
theorem Wo7 {imgs : List MpT} {z : B9} (hd : okD ds = true) (hm : Mo 20 ds z.1) {i : Nat} (hi : i < 8) (lk : Int → Int → A8 → MpT → Option (Ex MpT (A8 × MpT))) (out : MpT) :
 P9 K lk (ds, imgs) (sgI ds z.1 i) i (loM z.1 i) z out = lk (sgI ds z.1 (i + 1)) ((i : Int) + 1) (loM z.1 (i + 1)) out := by
 unfold P9
 dsimp only
 rw [Va8 _ hi]
 by_cases hl : i < ds.length
 have hp := D9 hd _ (T9 hl)
 have hlo := (hm.idx i).1
 have hw := Yh1 hd (hm.byt (by decide)) i (by omega)
 have e : sgI ds z.1 (i + 1) = if rd ds (i : Int) % 2 = 1 ∧ Y4 z.1 i % 2 = 1 then - sgI ds z.1 i else sgI ds z.1 i := by
  unfold sgI
  rw [Nat.min_eq_left (show i + 1 ≤ ds.length by omega), Nat.min_eq_left (show i ≤ ds.length by omega), wtN]
  exact Vd6 _ _ _ hw.1
 rw [if_pos (show (i : Int) < ds.length by omega), Yf7 (by omega), Yf7 (by omega), e]
 have hs : IntKind.i64.wrap (0 - sgI ds z.1 i) = - sgI ds z.1 i := by
  rcases Xj1 (wtN ds z.1 (min i ds.length)) with h | h <;> (unfold sgI; rw [h]; rfl)
 by_cases h1 : rd ds (i : Int) % 2 = 1
 by_cases h2 : Y4 z.1 i % 2 = 1
 rw [if_pos h1, if_pos h2, if_pos ⟨h1, h2⟩, hs]
 rw [if_pos h1, if_neg h2, if_neg (fun h => h2 h.2)]
 rw [if_neg h1, if_neg (fun h => h1 h.1)]
 rw [if_neg (show ¬ (i : Int) < ds.length by omega)]
 unfold sgI
 rw [Nat.min_eq_right (show ds.length ≤ i by omega), Nat.min_eq_right (show ds.length ≤ i + 1 by omega)]
theorem Wo0 {imgs : List MpT} {z : B9} {r6 : M8} (hK : 1073741824 ≤ K) (hd : okD ds = true) (hv : VI ds imgs) (hm : Mo 20 ds z.1) (hz : -10006 ≤ z.2 ∧ z.2 ≤ 10006) (hr : ∀ j, j < imgs.length → Yd9 r6 (j : Int) = rd imgs (j : Int)) :
 ∀ (k i : Nat) (out : MpT), 8 < i + k → i ≤ 8 → nfm out = true → out.length + 400 * (8 - i) ≤ 100000000 →
  ∃ a, T1 K (ds, imgs) r6 z k (sgI ds z.1 i) i (loM z.1 i) out = some (.go (a, Zx8 ds imgs z (ds.length - i) i out)) := by
 have hl := J5 hd
 intro k
 induction k with
 | zero => intro i out h1 h2; omega
 | succ k ih =>
  intro i out h1 h2 ho hol
  rw [T1]
  by_cases hi8 : i < 8
  have hlo := hm.lo ⟨i, hi8⟩
  have hhi := hm.hi ⟨i, hi8⟩
  rw [← T4 z.1 hi8] at hlo hhi
  rw [if_pos (by omega)]
  by_cases h0 : Y4 z.1 i = 0
  rw [if_neg (by omega), Wo7 hd hm hi8]
  obtain ⟨a, ha⟩ := ih (i + 1) out (by omega) (by omega) ho (by omega)
  refine ⟨a, ?_⟩
  replace ha : T1 K (ds, imgs) r6 z k (sgI ds z.1 (i + 1)) ((i : Int) + 1) (loM z.1 (i + 1)) out = _ := ha
  rw [ha]
  by_cases hi : i < ds.length
  obtain ⟨n, hn⟩ : ∃ n, ds.length - i = n + 1 := ⟨ds.length - i - 1, by omega⟩
  have e2 : ds.length - (i + 1) = n := by omega
  rw [hn, e2, Zx8, if_pos h0]
  rw [show ds.length - (i + 1) = 0 by omega, show ds.length - i = 0 by omega]; rfl
  have hi : i < ds.length := by
   rcases Nat.lt_or_ge i ds.length with h | h
   exact h
   exact absurd (by rw [T4 z.1 hi8]; exact hm.out ⟨i, hi8⟩ h) h0
  have h1' : 0 < Y4 z.1 i := by omega
  have hil : i < imgs.length := by rw [hv.len]; exact hi
  have hv' := hv.all _ (T9 hil)
  have hvl := hv'.len
  have hp := Yu3 hm hi8 h1' hv'
  have hn := Xs5 hm hi8 h1' hv'
  have hsl := Yv8 (out := out) hm hi8 h1' hv'
  have hl2 := Wk1 (K := K) z.1 hi8 K 0 z.1 (by omega) (by omega) (fun t => by simp)
  replace hl2 : R4 K i K 0 z.1 = _ := hl2
  have hw : U8 (loM z.1 i) i (IntKind.i64.wrap (Y4 z.1 i - 1)) = lfM z.1 i := by rw [IntWalk.i64_in _ (by omega)]; rfl
  have hfb := Xn5 hm hz i hi8 (sgI ds z.1 i) (Xj1 _)
  have hF : (sgI ds z.1 i * z.2 * Y4 z.1 i) % 10007 = dF ds z i := by unfold dF sgI; rw [Nat.min_eq_left (by omega)]
  have hm1 : ∀ p : A8, Zb4 ([] : MpT) p 1 = [(p, 1)] := fun p => rfl
  rw [if_pos h1', hl2, Option.bind_some]
  obtain ⟨a, ha⟩ := ih (i + 1) (Yq9 ds (rd imgs (i : Int)) z i out) (by omega) (by omega) (Zm3 _ ho) (by omega)
  refine ⟨a, ?_⟩
  show (D4 K (Zb4 ([] : MpT) (U8 (loM z.1 i) i (IntKind.i64.wrap (Y4 z.1 i - 1))) 1) ds (Yd9 r6 i)).bind _ = _
  have hT : I4 (Zm0 ds (I4 (Zm0 ds [(lfM z.1 i, 1)] (rd imgs (i : Int))) []) [(hiM z.1 i, 1)]) [] = dT ds (rd imgs (i : Int)) z.1 i := rfl
  rw [hw, hm1, hm1, hr i hil, Xs2 (B := 20) (C := 20) (by omega) hd (by decide) (by decide) (by decide) (Yh0 (Xq2 hm (by decide) hi8 h1')) (Ym1 _) hv'.mo hv'.small (by simp; omega) (by omega), Option.bind_some,
   Xs2 (B := 40) (C := 20) (by omega) hd (by decide) (by decide) (by decide) hp.1 (Zv9 (Zm3 _ Zx2)) (Yh0 (Wg9 hm (by decide) i)) (Ym1 _) (by omega) (by simp; omega), Option.bind_some, hT,
   IntWalk.i64_in (sgI ds z.1 i * z.2) (by omega), IntWalk.i64_in _ (by omega), Xu8, Option.bind_some, hF, Wq5 (by unfold dF; omega) (by omega) (Zv9 Xx3) ho, Option.bind_some, Wo7 hd hm hi8]
  replace ha : T1 K (ds, imgs) r6 z k (sgI ds z.1 (i + 1)) ((i : Int) + 1) (loM z.1 (i + 1)) (I4 (scl (dF ds z i) (dT ds (rd imgs (i : Int)) z.1 i)) out) = _ := ha
  rw [ha]
  obtain ⟨n, hn⟩ : ∃ n, ds.length - i = n + 1 := ⟨ds.length - i - 1, by omega⟩
  have e2 : ds.length - (i + 1) = n := by omega
  rw [hn, e2, Zx8, if_neg h0]
  rw [if_neg (by omega), show ds.length - i = 0 by omega]; exact ⟨_, rfl⟩
set_option maxRecDepth 100000 in
theorem Xp0 {imgs : List MpT} {r6 : M8} (hK : 1073741824 ≤ K) (hd : okD ds = true) (hv : VI ds imgs) (hr : ∀ j, j < imgs.length → Yd9 r6 (j : Int) = rd imgs (j : Int)) :
 ∀ (k : Nat) (f out : MpT), f.length < k → MoL 20 ds f → SmF f → nfm out = true → out.length + 3200 * f.length ≤ 90000000 → S0 K (ds, imgs) r6 k f out = some (.go (Zw7 ds imgs f out))
 | 0, _, _, h, _, _, _, _ => by omega
 | k + 1, [], out, _, _, _, _, _ => by rw [S0]; rfl
 | k + 1, z :: f, out, h, hm, hz, ho, hol => by
  have hl := J5 hd
  rw [List.length_cons] at hol h
  have hk8 : 8 < 0 + K := by omega
  have hol' : out.length + 400 * (8 - 0) ≤ 100000000 := by rw [Nat.sub_zero]; omega
  obtain ⟨a, ha⟩ := Wo0 hK hd hv (hm z (List.mem_cons_self ..)) (hz z (List.mem_cons_self ..)) hr K 0 out hk8 (Nat.zero_le _) ho hol'
  have h4 := Yf4 hd hv (hm z (List.mem_cons_self ..)) ds.length 0 out (by omega) ho
  have e1 : sgI ds z.1 0 = 1 := by unfold sgI; rw [Nat.zero_min]; rfl
  have e2 : loM z.1 0 = fun _ => 0 := by funext t; unfold loM; rw [if_neg (by omega)]
  rw [e1, e2, Nat.sub_zero] at ha
  replace ha : T1 K (ds, imgs) r6 z K 1 0 (fun _ => 0) out = _ := ha
  rw [S0, ha, Option.bind_some]
  show S0 K (ds, imgs) r6 k f (Zx8 ds imgs z ds.length 0 out) = _
  exact Xp0 hK hd hv hr k f _ (by omega) (fun q hq => hm q (List.mem_cons_of_mem _ hq)) (fun q hq => hz q (List.mem_cons_of_mem _ hq)) h4.1 (by omega)
theorem Vd2 {imgs : List MpT} {f : MpT} (hK : 1073741824 ≤ K) (hd : okD ds = true) (hv : VI ds imgs) (hf : VF ds f) : Za2 K (ds, imgs) f = some (Zw7 ds imgs f []) := by
 have hl := hf.len
 have hdl := J5 hd
 obtain ⟨r6, h1, h2⟩ := Wp7 (K := K) (a := (ds, imgs)) (by omega) (show imgs.length ≤ 8 by rw [hv.len]; exact hdl) (fun g hg => ⟨ds, hv.all g hg⟩)
 unfold Za2
 rw [show ((ds, imgs) : List Int × List MpT).1 = ds from rfl, show ((ds, imgs) : List Int × List MpT).2 = imgs from rfl, h1, Option.bind_some, Xp0 hK hd hv h2 K f [] (by omega) hf.mo hf.small Zx2 (by simp; omega)]
 rfl
end
theorem Xm3 {K : Nat} {xs : List MpT} {p : MpT → Option Bool} {q : MpT → Bool} (hK : xs.length < K) (hp : ∀ x, x ∈ xs → p x = some (q x)) : T5 K xs p = some (xs.any q) := by
 unfold T5 L7
 have := Xt3 (fun k i => W5 K xs p k i) xs.length (fun j => q (rd xs (j : Int))) id (fun k n hn => ?_) (fun k n hn => ?_) K 0 (by omega) (by omega)
 rw [Nat.sub_zero, ← List.range_eq_range', Xp4 xs q] at this
 rcases this with ⟨m, h1, h2, _⟩ | ⟨h1, h2⟩
 replace h1 : W5 K xs p K 0 = _ := h1
 rw [h1, h2]; simp [Ex.elim]
 replace h1 : W5 K xs p K 0 = _ := h1
 rw [h1, h2]; simp [Ex.elim]
 show W5 K xs p (k + 1) n = _
 rw [W5, if_pos (by omega), hp _ (T9 hn)]; rfl
 show W5 K xs p (k + 1) n = _
 rw [W5, if_neg (by omega)]
structure Inp (K : Nat) (a : A0) : Prop where
 big : 1073741824 ≤ K
 dl : a.1.length ≤ 1048576
 il : a.2.length ≤ 1048576
 fl : ∀ f, f ∈ a.2 → f.length ≤ 1048576
 by_ : ∀ f, f ∈ a.2 → Yd6 f
def okI (a : A0) (j : Nat) : Bool := okF a.1 (rd a.2 (j : Int)) && okG a.1 (rd a.2 (j : Int)) (rd a.1 (j : Int) + 1)
def okB (a : A0) : Bool := okD a.1 && (decide (a.2.length = a.1.length) && (List.range a.2.length).all (okI a))
def okC (a : A0) : Bool := a.2.all fun f => decide ((Zw7 a.1 a.2 f []).length = 0)
def okA (a : A0) : Bool := okB a && okC a
section
variable {K : Nat} {a : A0}
theorem Wb3 (h : okB a = true) : okD a.1 = true := by unfold okB at h; rw [Bool.and_eq_true] at h; exact h.1
theorem Xf0 (hi : Inp K a) (h : okB a = true) : VI a.1 a.2 := by
 unfold okB at h
 rw [Bool.and_eq_true, Bool.and_eq_true, decide_eq_true_eq] at h
 refine ⟨h.2.1, fun f hf => ?_⟩
 obtain ⟨j, hj, rfl⟩ := List.getElem_of_mem hf
 have := List.all_eq_true.1 h.2.2 j (List.mem_range.2 hj)
 unfold okI at this
 rw [Ze2 hj, Bool.and_eq_true] at this
 exact Vg1 (hi.by_ _ hf) this.1
theorem Vd1 (hi : Inp K a) : Zw3 K a = some (okA a) := by
 have hK := hi.big
 have hdl := hi.dl
 have hil := hi.il
 unfold Zw3 okA okB
 rw [Vf8 (by omega), Option.bind_some]
 cases hd : okD a.1 with
 | false => rfl
 | true =>
  rw [if_pos rfl]
  unfold Zp3
  by_cases hl : a.2.length = a.1.length
  case neg => rw [if_pos (by simp; omega)]; simp [hl]
  rw [if_neg (by simp; omega), Zc7 (g := ()) (fun k i => I1 K a k i) a.2.length (okI a) false (fun k n hn => ?_) (fun k n hn => ?_) (by omega)]
  cases hb : (List.range a.2.length).all (okI a) with
  | false => simp [Ex.elim, hl]
  | true =>
   have hB : okB a = true := by unfold okB; rw [hd, hb]; simp [hl]
   have hv := Xf0 hi hB
   rw [if_pos rfl, Option.bind_some]
   show ((J6 K a K 0).bind _) = _
   rw [Zc7 (g := ()) (fun k i => J6 K a k i) a.2.length (fun j => decide ((Zw7 a.1 a.2 (rd a.2 (j : Int)) []).length = 0)) false (fun k n hn => ?_) (fun k n hn => ?_) (by omega), Yu6 a.2 (fun f => decide ((Zw7 a.1 a.2 f []).length = 0))]
   unfold okC
   rw [Bool.true_and, decide_eq_true hl, Bool.true_and, Bool.true_and]
   cases a.2.all fun f => decide ((Zw7 a.1 a.2 f []).length = 0) <;> rfl
   show J6 K a (k + 1) n = _
   rw [J6, if_pos (by omega), Vf9 hK hd hv (hv.all _ (T9 hn)), Option.bind_some]
   by_cases h0 : (Zw7 a.1 a.2 (rd a.2 (n : Int)) []).length = 0
   rw [if_neg (by omega), if_pos (by simpa using h0)]
   rw [if_pos (by omega), if_neg (show ¬ decide ((Zw7 a.1 a.2 (rd a.2 (n : Int)) []).length = 0) = true by simpa using h0)]
   show J6 K a (k + 1) n = _
   rw [J6, if_neg (by omega)]
  show I1 K a (k + 1) n = _
  have hb := hi.by_ _ (T9 hn)
  have hfl := hi.fl _ (T9 hn)
  have hp := D9 hd _ (T9 (show n < a.1.length by omega))
  obtain ⟨r, hr, hg⟩ := Wm5 (K := K) (f := rd a.2 (n : Int)) (by omega) (by omega) hd hb
  rw [I1, if_pos (by omega), Vh3 (by omega) (by omega) (by omega) hd hb, Option.bind_some, hr, Option.bind_some, if_pos (show (n : Int) < a.1.length by omega), IntWalk.i64_in _ (by omega)]
  unfold okI
  rw [← hg]
  cases okF a.1 (rd a.2 (n : Int)) with
  | false => rfl
  | true =>
   rw [if_pos rfl, Bool.true_and]
   cases r.2 with
   | false => rfl
   | true =>
    rw [if_pos rfl, Bool.true_and]
    by_cases h0 : (rd a.2 (n : Int)).length = 0
    rw [if_neg (by omega), if_pos (by simp [h0])]
    rw [if_pos (by omega)]
    by_cases h1 : r.1 = rd a.1 (n : Int) + 1
    rw [if_pos h1, if_pos (by simp [h1])]
    rw [if_neg h1, if_neg (by simp [h0, h1])]
  show I1 K a (k + 1) n = _
  rw [I1, if_neg (by omega)]
theorem Ve7 (hi : Inp K a) : Zn0 K a = some (okA a) := by
 have hK := hi.big
 have hdl := hi.dl
 have hil := hi.il
 unfold Zn0 okA okB
 rw [Vd5 (by omega), Option.bind_some]
 cases hd : okD a.1 with
 | false => rfl
 | true =>
  rw [if_pos rfl]
  unfold Zg9
  by_cases hl : a.2.length = a.1.length
  case neg => rw [if_pos (by simp; omega)]; simp [hl]
  rw [if_neg (by simp; omega), Zc7 (g := ()) (fun k i => M4 K a k i) a.2.length (okI a) false (fun k n hn => ?_) (fun k n hn => ?_) (by omega)]
  cases hb : (List.range a.2.length).all (okI a) with
  | false => simp [Ex.elim, hl]
  | true =>
   have hB : okB a = true := by unfold okB; rw [hd, hb]; simp [hl]
   have hv := Xf0 hi hB
   rw [if_pos rfl, Option.bind_some]
   show ((T5 K a.2 fun x => Zg6 K x (a.1, a.2)).bind _) = _
   rw [Xm3 (q := fun f => !decide ((Zw7 a.1 a.2 f []).length = 0)) (by omega) (fun f hf => ?_), Option.bind_some, ← List.not_all_eq_any_not]
   unfold okC
   rw [Bool.true_and, decide_eq_true hl, Bool.true_and, Bool.true_and, Bool.not_not]
   have hvf := hv.all f hf
   have hvl := hvf.len
   unfold Zg6
   rw [Wb5 (by omega) (by omega) hvf.byt (F9 hvf.nf), Option.bind_some]
   show (Za2 K (a.1, a.2) f).bind _ = _
   rw [Vd2 hK hd hv hvf, Option.bind_some]
   congr 1
   rw [← decide_not]
   exact decide_eq_decide.2 (by omega)
  show M4 K a (k + 1) n = _
  have hb := hi.by_ _ (T9 hn)
  have hfl := hi.fl _ (T9 hn)
  have hp := D9 hd _ (T9 (show n < a.1.length by omega))
  rw [M4, if_pos (by omega), Vh8 (by omega) hd hb, Option.bind_some, if_pos (show (n : Int) < a.1.length by omega), IntWalk.i64_in _ (by omega), Wo5 (by omega) (by omega) hd hb (by omega), Option.bind_some]
  unfold okI
  cases okF a.1 (rd a.2 (n : Int)) with
  | false => rfl
  | true => rw [if_pos rfl, Bool.true_and]
  show M4 K a (k + 1) n = _
  rw [M4, if_neg (by omega)]
end
section
variable {K : Nat} {ds : List Int} {i : Nat}
theorem Wh6 {α : Type} [Inhabited α] {xs : List α} {n : Nat} {x : α} (h : xs[n]? = some x) : rd xs (n : Int) = x := by
 unfold rd
 rw [Int.toNat_natCast, List.getD_eq_getElem?_getD, h]; rfl
theorem Xl5 {α : Type} [Inhabited α] {xs : List α} {j : Nat} (h : j < xs.length) : xs.take (j + 1) = xs.take j ++ [rd xs (j : Int)] := by
 rw [Ze2 h, List.take_add_one, List.getElem?_eq_getElem h]; rfl
theorem Va9 {r10 : List A8} {x : Int} {m : A8} (hr : rd r10 x = m) (hm : ∀ j, 0 ≤ m j ∧ m j ≤ 20) : ∀ (k n : Nat) (box : A8), n ≤ 8 → 8 < n + k → (∀ j : Fin 8, j.val < n → box j = m j) → E9 K r10 x k n box = some (.go m) := by
 intro k
 induction k with
 | zero => intro n box h1 h2; omega
 | succ k ih =>
  intro n box h1 h2 hb
  rw [E9, hr]
  by_cases hn : n < 8
  have hmn := hm ⟨n, hn⟩
  rw [if_pos (by omega), T4 m hn, if_neg (by omega)]
  refine ih (n + 1) _ (by omega) (by omega) (fun j hj => ?_)
  rw [Zf6 _ hn]
  by_cases e : j.val = n
  rw [if_pos e, Wf4 (by omega)]
  congr 1; exact Fin.ext e.symm
  rw [if_neg e]; exact hb j (by omega)
  rw [if_neg (by omega)]
  congr 2
  funext j; exact hb j (by omega)
theorem Wy1 {f : MpT} (hK : 1073741824 ≤ K) (hf : VF ds f) : ∀ (k j : Nat), f.length < j + k → j ≤ f.length → E5 K f (f.map Prod.fst) k j (f.take j) = some (.go f) := by
 have hl := hf.len
 intro k
 induction k with
 | zero => intro j h1 h2; omega
 | succ k ih =>
  intro j h1 h2
  rw [E5, List.length_map]
  by_cases hj : j < f.length
  have er : rd (f.map Prod.fst) (j : Int) = (rd f (j : Int)).1 := Wh6 (by rw [List.getElem?_map, List.getElem?_eq_getElem hj, Ze2 hj]; rfl)
  have hm := hf.mo _ (T9 hj)
  have h3 := Va9 (K := K) er (fun t => ⟨hm.lo t, hm.hi t⟩) K 0 (fun _ => 0) (by omega) (by omega) (fun t ht => by omega)
  replace h3 : E9 K (f.map Prod.fst) j K 0 (fun _ => 0) = _ := h3
  have hg : N5 f (rd f (j : Int)).1 = (rd f (j : Int)).2 := Zx6 (F9 hf.nf) (T9 hj)
  rw [if_pos (by omega), h3, Option.bind_some]
  show (if _ then _ else none) = _
  rw [er, hg, if_pos (by simp; omega)]
  have := ih (j + 1) (by omega) (by omega)
  rw [Xl5 hj] at this
  exact this
  rw [if_neg (by omega), List.take_of_length_le (by omega)]
theorem Ve1 {f : MpT} (hK : 1073741824 ≤ K) (hf : VF ds f) : Zp1 K f = some (f, 0) := by
 have hl := hf.len
 have hok : Yx0 f = true := by
  unfold Yx0
  rw [List.all_eq_true]
  intro p hp
  rw [List.all_eq_true]
  intro x hx
  have hm := hf.mo p hp
  have : ∃ t, x = p.1 t := by
   unfold l8 at hx
   simp only [List.mem_cons, List.not_mem_nil, or_false] at hx
   rcases hx with h | h | h | h | h | h | h | h <;> exact ⟨_, h⟩
  obtain ⟨t, rfl⟩ := this
  have h1 := hm.lo t
  have h2 := hm.hi t
  simp; omega
 have := Wy1 hK hf K 0 (by omega) (by omega)
 unfold Zp1 Zq7
 replace this : E5 K f (f.map Prod.fst) K 0 [] = some (.go f) := this
 rw [if_neg (by omega), if_pos ⟨hok, by omega, by omega⟩, Option.bind_some, this]; rfl
end
def lin (h : A8 → Int) : List (A8 × Int) → Int
 | [] => 0
 | t :: ts => t.2 * h t.1 + lin h ts
def Vj7 (ds : List Int) (s t : MpT) : MpT := I4 (Zm0 ds s t) []
/-! how many monomials there are -/
def cd : List Int → Int
 | [] => 0
 | x :: xs => x * 14 ^ xs.length + cd xs
theorem Xm7 (n : Nat) : (0 : Int) < 14 ^ n := Int.pow_pos (by decide)
theorem Yq6 : ∀ xs : List Int, (∀ x, x ∈ xs → 0 ≤ x ∧ x ≤ 13) → 0 ≤ cd xs ∧ cd xs < 14 ^ xs.length
 | [], _ => by simp [cd]
 | x :: xs, h => by
  have hx := h x (List.mem_cons_self ..)
  have ih := Yq6 xs (fun y hy => h y (List.mem_cons_of_mem _ hy))
  have hp := Xm7 xs.length
  have h1 : 0 ≤ x * 14 ^ xs.length := Int.mul_nonneg hx.1 (Int.le_of_lt hp)
  have h2 : x * 14 ^ xs.length ≤ 13 * 14 ^ xs.length := Int.mul_le_mul_of_nonneg_right hx.2 (Int.le_of_lt hp)
  rw [cd, List.length_cons, Int.pow_succ]
  omega
theorem Wv6 : ∀ xs ys : List Int, xs.length = ys.length → (∀ x, x ∈ xs → 0 ≤ x ∧ x ≤ 13) → (∀ x, x ∈ ys → 0 ≤ x ∧ x ≤ 13) → Zg3 xs ys = true → cd ys < cd xs
 | [], [], _, _, _, h => by simp [Zg3] at h
 | x :: xs, y :: ys, hl, hx, hy, h => by
  have hl : xs.length = ys.length := by simpa using hl
  have b1 := Yq6 xs (fun z hz => hx z (List.mem_cons_of_mem _ hz))
  have b2 := Yq6 ys (fun z hz => hy z (List.mem_cons_of_mem _ hz))
  rw [Zg3] at h
  rw [cd, cd, hl]
  by_cases e : x = y
  rw [if_pos e] at h
  have := Wv6 xs ys hl (fun z hz => hx z (List.mem_cons_of_mem _ hz)) (fun z hz => hy z (List.mem_cons_of_mem _ hz)) h
  rw [e]; omega
  rw [if_neg e] at h
  have h := of_decide_eq_true h
  have hp := Xm7 ys.length
  have h1 : (y + 1) * 14 ^ ys.length ≤ x * 14 ^ ys.length := Int.mul_le_mul_of_nonneg_right (by omega) (Int.le_of_lt hp)
  rw [Int.add_mul, Int.one_mul] at h1
  omega
theorem Xx6 {α : Type} {g : α → Int} : ∀ (s : List α) (N : Int), s.Pairwise (fun p q => g q < g p) → (∀ t, t ∈ s → 0 ≤ g t ∧ g t < N) → 0 ≤ N → (s.length : Int) ≤ N
 | [], N, _, _, h0 => by simpa using h0
 | t :: s, N, hp, hb, _ => by
  have hp := List.pairwise_cons.1 hp
  have ht := hb t (List.mem_cons_self ..)
  have := Xx6 s (g t) hp.2 (fun u hu => ⟨(hb u (List.mem_cons_of_mem _ hu)).1, hp.1 u hu⟩) ht.1
  rw [List.length_cons]; omega
theorem Xt9 {ds : List Int} {m : A8} (h : Mo 13 ds m) : ∀ x, x ∈ l8 m → 0 ≤ x ∧ x ≤ 13 := by
 intro x hx
 have : ∃ t, x = m t := by
  unfold l8 at hx
  simp only [List.mem_cons, List.not_mem_nil, or_false] at hx
  rcases hx with h | h | h | h | h | h | h | h <;> exact ⟨_, h⟩
 obtain ⟨t, rfl⟩ := this
 exact ⟨h.lo t, h.hi t⟩
theorem Ve5 {ds : List Int} {s : MpT} (hs : nfm s = true) (hm : MoL 13 ds s) : s.length ≤ 1475789056 := by
 have h1 : s.Pairwise (fun p q => cd (l8 q.1) < cd (l8 p.1)) := by
  refine List.Pairwise.imp_of_mem (fun {p q} hp hq hb => ?_) (F9 hs)
  exact Wv6 _ _ rfl (Xt9 (hm p hp)) (Xt9 (hm q hq)) hb
 have h2 := Xx6 (g := fun t : A8 × Int => cd (l8 t.1)) s 1475789056 h1 (fun t ht => ?_) (by decide)
 omega
 have := Yq6 (l8 t.1) (Xt9 (hm t ht))
 have e : (14 : Int) ^ (l8 t.1).length = 1475789056 := by show (14 : Int) ^ 8 = _; decide
 rw [e] at this; exact this
theorem Wb6 (ds : List Int) (p q : A8) : ∀ n, wtN ds (Ye5 p q) n = wtN ds p n + wtN ds q n
 | 0 => rfl
 | n + 1 => by rw [wtN, wtN, wtN, Wb6 ds p q n, Wd5, Int.mul_add]; omega
theorem Yk1 {ds : List Int} {m : A8} (hd : okD ds = true) (lo : ∀ i, 0 ≤ m i) : ∀ n : Nat, n ≤ ds.length → 0 ≤ wtN ds m n ∧ ∀ j, j < n → Y4 m (j : Int) ≤ wtN ds m n
 | 0, _ => ⟨by simp [wtN], fun j hj => by omega⟩
 | n + 1, h => by
  obtain ⟨h1, h2⟩ := Yk1 hd lo n (by omega)
  have hn := D9 hd _ (T9 (show n < ds.length by omega))
  have hi : 0 ≤ Y4 m (n : Int) := by
   by_cases h8 : n < 8
   rw [T4 m h8]; exact lo _
   have := J5 hd; omega
  have h3 : 1 * Y4 m (n : Int) ≤ rd ds (n : Int) * Y4 m (n : Int) := Int.mul_le_mul_of_nonneg_right hn.1 hi
  rw [Int.one_mul] at h3
  rw [wtN]
  refine ⟨by omega, fun j hj => ?_⟩
  by_cases e : j = n
  subst e; omega
  have := h2 j (by omega); omega
theorem Wq2 {ds : List Int} {B : Int} {m : A8} (hd : okD ds = true) (hm : Mo B ds m) (hw : wt ds m ≤ 13) : Mo 13 ds m := by
 refine ⟨hm.lo, fun i => ?_, hm.odd, hm.out⟩
 by_cases h : i.val < ds.length
 have := (Yk1 hd hm.lo ds.length (Nat.le_refl _)).2 i.val h
 rw [T4 m i.isLt] at this
 unfold wt at hw
 exact Int.le_trans this hw
 rw [hm.out i (by omega)]; decide
structure Hm (u : Int) (ds : List Int) (s : MpT) : Prop where
 nf : nfm s = true
 mo : MoL 13 ds s
 w : ∀ t, t ∈ s → wt ds t.1 = u
theorem Hm.len {u : Int} {ds : List Int} {s : MpT} (h : Hm u ds s) : s.length ≤ 1475789056 := Ve5 h.nf h.mo
theorem Hm.nil (u : Int) (ds : List Int) : Hm u ds [] := ⟨Zx2, fun t ht => (by cases ht), fun t ht => (by cases ht)⟩
theorem Vi4 {u : Int} {ds : List Int} {f : MpT} (hd : okD ds = true) (hf : VF ds f) (hw : ∀ t, t ∈ f → wt ds t.1 = u) (hu : u ≤ 13) : Hm u ds f :=
 ⟨hf.nf, fun t ht => Wq2 hd (hf.mo t ht) (by rw [hw t ht]; exact hu), hw⟩
section
variable {K : Nat} {ds : List Int}
theorem Wm4 {u : Int} {T s : MpT} (hT : ∀ r, r ∈ T → Mo 13 ds r.1 ∧ wt ds r.1 = u) (hs : Hm u ds s) : Hm u ds (I4 T s) := by
 refine ⟨Zm3 _ hs.nf, fun q hq => ?_, fun q hq => ?_⟩
 rcases Yl4 hq with ⟨t, ht, e⟩ | ⟨t, ht, e⟩
 rw [← e]; exact (hT t ht).1
 rw [← e]; exact hs.mo t ht
 rcases Yl4 hq with ⟨t, ht, e⟩ | ⟨t, ht, e⟩
 rw [← e]; exact (hT t ht).2
 rw [← e]; exact hs.w t ht
end
section
variable {K : Nat}
/-! inverses -/
def ivN : Nat → Nat → Nat → Nat → Nat
 | 0, out, _, _ => out
 | n + 1, out, sq, k => ivN n (if k % 2 = 1 then out * sq % 10007 else out) (sq * sq % 10007) (k / 2)
def inv (c : Int) : Int := (ivN 14 1 c.toNat 10005 : Nat)
set_option maxRecDepth 100000 in
theorem Va3 : (List.range 10007).all (fun c => decide (c = 0) || (decide (1 ≤ ivN 14 1 c 10005) && decide (ivN 14 1 c 10005 ≤ 10006))) = true := by decide +kernel
theorem Wc4 {c : Int} (hc : 1 ≤ c ∧ c ≤ 10006) : 1 ≤ inv c ∧ inv c ≤ 10006 := by
 have h := List.all_eq_true.1 Va3 c.toNat (List.mem_range.2 (by omega))
 rw [Bool.or_eq_true, Bool.and_eq_true] at h
 rcases h with h | ⟨h1, h2⟩
 have := of_decide_eq_true h; omega
 have h1 := of_decide_eq_true h1
 have h2 := of_decide_eq_true h2
 unfold inv; omega
theorem Vf2 {a b : Nat} (ha : a ≤ 10006) (hb : b ≤ 10006) : a * b ≤ 100120036 := Nat.mul_le_mul ha hb
theorem Xj0 (a b : Nat) : (((a : Int) * (b : Int))).tmod 10007 = ((a * b % 10007 : Nat) : Int) := by
 rw [← Int.natCast_mul, Int.tmod_eq_emod_of_nonneg (by omega)]; rfl
theorem Wo3 (x : Nat) (h : x ≤ 1000000) : IntKind.i64.wrap ((x : Int).tdiv 2) = ((x / 2 : Nat) : Int) := by
 rw [Int.tdiv_eq_ediv_of_nonneg (by omega)]
 show IntKind.i64.wrap ((x / 2 : Nat) : Int) = _
 exact IntWalk.i64_in _ (by omega)
theorem Xh9 (x : Nat) : ((x : Int).tmod 2 = 1) ↔ x % 2 = 1 := by
 rw [Int.tmod_eq_emod_of_nonneg (by omega)]; omega
theorem Xq4 {a b : Nat} (ha : a ≤ 10006) (hb : b ≤ 10006) : IntKind.i64.wrap ((a : Int) * (b : Int)) = (a : Int) * (b : Int) := by
 have := Vf2 ha hb
 exact IntWalk.i64_in _ (by rw [← Int.natCast_mul]; omega)
theorem Xd5 : ∀ n out sq, ivN n out sq 0 = out
 | 0, _, _ => rfl
 | n + 1, out, sq => by rw [ivN, if_neg (by omega)]; exact Xd5 n _ _
theorem Yh4 : ∀ (n k out sq x : Nat), n < k → x < 2 ^ n → x ≤ 1000000 → out ≤ 10006 → sq ≤ 10006 → P2 K k out sq x = some (.go (ivN n out sq x : Nat))
 | 0, k + 1, out, sq, x, _, h2, _, _, _ => by
  rw [P2, if_neg (by simp at h2; omega)]; rfl
 | n + 1, k + 1, out, sq, x, h1, h2, hx, h3, h4 => by
  have h5 : out * sq % 10007 ≤ 10006 := by omega
  have h6 : sq * sq % 10007 ≤ 10006 := by omega
  have h7 : x / 2 < 2 ^ n := by rw [Nat.pow_succ] at h2; omega
  rw [P2]
  by_cases h0 : 0 < x
  rw [if_pos (by omega), ivN]
  unfold Zf2
  rw [Xq4 h4 h4, Xq4 h3 h4, Xj0, Xj0, Wo3 x hx]
  by_cases ho : x % 2 = 1
  rw [if_pos ((Xh9 x).2 ho), if_pos ho]
  exact Yh4 n k _ _ _ (by omega) h7 (by omega) h5 h6
  rw [if_neg (fun h => ho ((Xh9 x).1 h)), if_neg ho]
  exact Yh4 n k _ _ _ (by omega) h7 (by omega) h3 h6
  rw [if_neg (by omega), show x = 0 by omega, Xd5]
theorem Yh3 : ∀ (n k out sq x : Nat), n < k → x < 2 ^ n → x ≤ 1000000 → out ≤ 10006 → sq ≤ 10006 → M7 K k sq out x = some (.go (ivN n out sq x : Nat))
 | 0, k + 1, out, sq, x, _, h2, _, _, _ => by
  rw [M7, if_neg (by simp at h2; omega)]; rfl
 | n + 1, k + 1, out, sq, x, h1, h2, hx, h3, h4 => by
  have h5 : out * sq % 10007 ≤ 10006 := by omega
  have h6 : sq * sq % 10007 ≤ 10006 := by omega
  have h7 : x / 2 < 2 ^ n := by rw [Nat.pow_succ] at h2; omega
  rw [M7]
  by_cases h0 : 0 < x
  rw [if_pos (by omega), ivN]
  unfold Zj3
  rw [Xq4 h4 h4, Xq4 h3 h4, Xj0, Xj0, Wo3 x hx]
  by_cases ho : x % 2 = 1
  rw [if_pos ((Xh9 x).2 ho), if_pos ho]
  exact Yh3 n k _ _ _ (by omega) h7 (by omega) h5 h6
  rw [if_neg (fun h => ho ((Xh9 x).1 h)), if_neg ho]
  exact Yh3 n k _ _ _ (by omega) h7 (by omega) h3 h6
  rw [if_neg (by omega), show x = 0 by omega, Xd5]
theorem Wh8 {c : Int} (hK : 1099511627776 ≤ K) (hc : 1 ≤ c ∧ c ≤ 10006) : Zk3 K c = some (inv c) := by
 obtain ⟨n, rfl⟩ := Int.eq_ofNat_of_zero_le (show 0 ≤ c by omega)
 have := Yh4 (K := K) 14 K 1 n 10005 (by omega) (by decide) (by decide) (by decide) (by omega)
 unfold Zk3
 replace this : P2 K K 1 n 10005 = _ := this
 rw [this]; rfl
theorem Wh9 {c : Int} (hK : 1099511627776 ≤ K) (hc : 1 ≤ c ∧ c ≤ 10006) : Zr9 K c = some (inv c) := by
 obtain ⟨n, rfl⟩ := Int.eq_ofNat_of_zero_le (show 0 ≤ c by omega)
 have := Yh3 (K := K) 14 K 1 n 10005 (by omega) (by decide) (by decide) (by decide) (by omega)
 unfold Zr9
 replace this : M7 K K n 1 10005 = _ := this
 rw [this]; rfl
end
abbrev Vc := List Int
def Eq7 (a b : Int) : Prop := a % 10007 = b % 10007
theorem Eq7.refl (a : Int) : Eq7 a a := rfl
theorem Eq7.symm {a b : Int} (h : Eq7 a b) : Eq7 b a := Eq.symm h
theorem Eq7.trans {a b c : Int} (h : Eq7 a b) (h' : Eq7 b c) : Eq7 a c := Eq.trans h h'
theorem Eq7.of {a b : Int} (h : a = b) : Eq7 a b := by subst h; rfl
theorem Eq7.add {a b c d : Int} (h : Eq7 a b) (h' : Eq7 c d) : Eq7 (a + c) (b + d) := by unfold Eq7 at *; omega
theorem Eq7.sub {a b c d : Int} (h : Eq7 a b) (h' : Eq7 c d) : Eq7 (a - c) (b - d) := by unfold Eq7 at *; omega
theorem Eq7.mul {a b c d : Int} (h : Eq7 a b) (h' : Eq7 c d) : Eq7 (a * c) (b * d) := by
 unfold Eq7 at *
 rw [Int.mul_emod, h, h', ← Int.mul_emod]
theorem Eq7.mod (a : Int) : Eq7 (a % 10007) a := by unfold Eq7; omega
theorem Eq7.eq {a b : Int} (h : Eq7 a b) (a0 : 0 ≤ a) (a1 : a < 10007) (b0 : 0 ≤ b) (b1 : b < 10007) : a = b := by unfold Eq7 at h; omega
def at_ (v : Vc) (k : Nat) : Int := v.getD k 0
def fs : Vc → Nat
 | [] => 0
 | x :: v => if x = 0 then fs v + 1 else 0
theorem Zi3 : ∀ (v : Vc) (k : Nat), k < fs v → at_ v k = 0
 | [], k, h => by unfold fs at h; omega
 | x :: v, k, h => by
  unfold fs at h
  by_cases e : x = 0
  rw [if_pos e] at h
  cases k with
  | zero => exact e
  | succ k => exact Zi3 v k (by omega)
  rw [if_neg e] at h; omega
theorem Yx2 : ∀ v : Vc, fs v < v.length → at_ v (fs v) ≠ 0
 | [], h => by simp [fs] at h
 | x :: v, h => by
  unfold fs at h ⊢
  by_cases e : x = 0
  rw [if_pos e] at h ⊢
  exact Yx2 v (by simpa using h)
  rw [if_neg e]; exact e
theorem Yp5 : ∀ (v : Vc) (k : Nat), (∀ j, j < k → at_ v j = 0) → at_ v k ≠ 0 → fs v = k
 | [], k, h, h' => absurd (by simp [at_]) h'
 | x :: v, k, h, h' => by
  unfold fs
  cases k with
  | zero => rw [if_neg (by simpa [at_] using h')]
  | succ k =>
   rw [if_pos (by have := h 0 (by omega); simpa [at_] using this), Yp5 v k (fun j hj => by have := h (j + 1) (by omega); simpa [at_] using this) (by simpa [at_] using h')]
theorem Xx2 : ∀ (v : Vc), (∀ k, at_ v k = 0) → fs v = v.length
 | [], _ => rfl
 | x :: v, h => by
  unfold fs
  rw [if_pos (by have := h 0; simpa [at_] using this), Xx2 v (fun k => by have := h (k + 1); simpa [at_] using this)]
  rfl
theorem Zt5 (v : Vc) (k : Nat) (h : v.length ≤ k) : at_ v k = 0 := by unfold at_; rw [List.getD_eq_getElem?_getD, List.getElem?_eq_none h]; rfl
structure Okv (n : Nat) (v : Vc) : Prop where
 len : v.length = n
 rng : ∀ x, x ∈ v → 0 ≤ x ∧ x < 10007
theorem Okv.at {n : Nat} {v : Vc} (h : Okv n v) (k : Nat) : 0 ≤ at_ v k ∧ at_ v k < 10007 := by
 unfold at_
 by_cases hk : k < v.length
 rw [List.getD_eq_getElem?_getD, List.getElem?_eq_getElem hk]
 exact h.rng _ (List.getElem_mem hk)
 rw [List.getD_eq_getElem?_getD, List.getElem?_eq_none (by omega)]; decide
theorem Okv.ext {n : Nat} {v u : Vc} (h : Okv n v) (h' : Okv n u) (he : ∀ k, at_ v k = at_ u k) : v = u := by
 apply List.ext_getElem (by rw [h.len, h'.len])
 intro k h1 h2
 have := he k
 unfold at_ at this
 rw [List.getD_eq_getElem?_getD, List.getD_eq_getElem?_getD, List.getElem?_eq_getElem h1, List.getElem?_eq_getElem h2] at this
 exact this
inductive Sp (R : List Vc) : (Nat → Int) → Prop
 | zero {f : Nat → Int} (h : ∀ k, Eq7 (f k) 0) : Sp R f
 | add {f g : Nat → Int} (r : Vc) (c : Int) (hr : r ∈ R) (hf : Sp R f) (h : ∀ k, Eq7 (g k) (f k + c * at_ r k)) : Sp R g
theorem Sp.congr {R : List Vc} {f g : Nat → Int} (h : Sp R f) (e : ∀ k, Eq7 (g k) (f k)) : Sp R g := by
 cases h with
 | zero h => exact .zero fun k => (e k).trans (h k)
 | add r c hr hf h => exact .add r c hr hf fun k => (e k).trans (h k)
theorem Sp.plus {R : List Vc} {f g : Nat → Int} (hf : Sp R f) (hg : Sp R g) : Sp R (fun k => f k + g k) := by
 induction hg with
 | zero h => exact hf.congr fun k => by have := h k; unfold Eq7 at *; omega
 | @add f' g' r c hr hf' h ih =>
  refine .add r c hr ih fun k => ?_
  have := h k
  unfold Eq7 at *
  generalize c * at_ r k = z at *
  omega
theorem Sp.times {R : List Vc} {f : Nat → Int} (m : Int) (hf : Sp R f) : Sp R (fun k => m * f k) := by
 induction hf with
 | zero h => exact .zero fun k => by have := (Eq7.refl m).mul (h k); rwa [Int.mul_zero] at this
 | @add f' g' r c hr hf' h ih =>
  refine .add r (m * c) hr ih fun k => ?_
  have := (Eq7.refl m).mul (h k)
  rwa [Int.mul_add, ← Int.mul_assoc] at this
theorem Sp.row {R : List Vc} {r : Vc} (h : r ∈ R) : Sp R (at_ r) := .add r 1 h (.zero fun _ => Eq7.refl 0) fun k => by rw [Int.one_mul, Int.zero_add]; exact Eq7.refl _
theorem Sp.lin {R : List Vc} {f g : Nat → Int} (hf : Sp R f) (c : Int) (hg : Sp R g) : Sp R (fun k => f k - c * g k) :=
 (hf.plus (hg.times (-c))).congr fun k => Eq7.of (by rw [Int.neg_mul, Int.sub_eq_add_neg])
theorem Sp.sub {R S : List Vc} {f : Nat → Int} (h : Sp R f) (hs : ∀ r, r ∈ R → Sp S (at_ r)) : Sp S f := by
 induction h with
 | zero h => exact .zero h
 | add r c hr hf h ih => exact (ih.plus ((hs r hr).times c)).congr h
structure Rr (n : Nat) (R : List Vc) : Prop where
 ok : ∀ r, r ∈ R → Okv n r
 ld : ∀ r, r ∈ R → fs r < n ∧ at_ r (fs r) = 1
 srt : R.Pairwise (fun a b => fs a < fs b)
 off : ∀ r s, r ∈ R → s ∈ R → fs r ≠ fs s → at_ s (fs r) = 0
theorem Rr.same {n : Nat} {R : List Vc} (h : Rr n R) : ∀ {r s : Vc}, r ∈ R → s ∈ R → fs r = fs s → r = s := by
 have := h.srt
 clear h
 induction this with
 | nil => intro r s hr; cases hr
 | @cons a R hd tl ih =>
  intro r s hr hs e
  rcases List.mem_cons.1 hr with e1 | hr
  rcases List.mem_cons.1 hs with e2 | hs
  rw [e1, e2]
  have := hd s hs; subst e1; omega
  rcases List.mem_cons.1 hs with e2 | hs
  have := hd r hr; subst e2; omega
  exact ih hr hs e
def cmb (R : List Vc) (f : Nat → Int) (k : Nat) : Int := (R.map fun r => f (fs r) * at_ r k).sum
theorem Wr0 {α : Type} (u v : α → Int) : ∀ (R : List α), (∀ r, r ∈ R → Eq7 (u r) (v r)) → Eq7 (R.map u).sum (R.map v).sum
 | [], _ => Eq7.refl _
 | r :: R, h => by
  simp only [List.map_cons, List.sum_cons]
  exact (h r (List.mem_cons_self ..)).add (Wr0 u v R fun x hx => h x (List.mem_cons_of_mem _ hx))
theorem Ys1 {α : Type} (u : α → Int) : ∀ (R : List α), (∀ r, r ∈ R → u r = 0) → (R.map u).sum = 0
 | [], _ => rfl
 | r :: R, h => by
  simp only [List.map_cons, List.sum_cons]
  rw [h r (List.mem_cons_self ..), Ys1 u R fun x hx => h x (List.mem_cons_of_mem _ hx)]; rfl
theorem Wd7 {α : Type} (u v : α → Int) (c : Int) : ∀ (R : List α), (R.map fun r => u r + c * v r).sum = (R.map u).sum + c * (R.map v).sum
 | [] => by simp
 | r :: R => by
  simp only [List.map_cons, List.sum_cons]
  rw [Wd7 u v c R, Int.mul_add]; omega
theorem Xl3 {α : Type} (u : α → Int) (r : α) : ∀ (R : List α), R.Nodup → r ∈ R → (∀ s, s ∈ R → s ≠ r → u s = 0) → (R.map u).sum = u r
 | [], _, h, _ => by cases h
 | a :: R, hn, h, h0 => by
  simp only [List.map_cons, List.sum_cons]
  have hn' := List.nodup_cons.1 hn
  by_cases e : a = r
  subst e
  rw [Ys1 u R fun s hs => h0 s (List.mem_cons_of_mem _ hs) (fun e => hn'.1 (e ▸ hs))]; omega
  rw [h0 a (List.mem_cons_self ..) e, Xl3 u r R hn'.2 (by rcases List.mem_cons.1 h with h | h; exact absurd h.symm e; exact h) (fun s hs => h0 s (List.mem_cons_of_mem _ hs))]; omega
theorem Rr.nodup {n : Nat} {R : List Vc} (h : Rr n R) : R.Nodup := h.srt.imp (fun {a b} hlt e => by subst e; exact Nat.lt_irrefl _ hlt)
theorem Rr.cmb_row {n : Nat} {R : List Vc} (h : Rr n R) {r : Vc} (hr : r ∈ R) (k : Nat) : cmb R (at_ r) k = at_ r k := by
 unfold cmb
 rw [Xl3 _ r R h.nodup hr (fun s hs hne => by
  rw [h.off s r hs hr (fun e => hne (h.same hs hr e)), Int.zero_mul]), (h.ld r hr).2, Int.one_mul]
theorem Rr.cmb {n : Nat} {R : List Vc} (h : Rr n R) {f : Nat → Int} (hf : Sp R f) (k : Nat) : Eq7 (f k) (cmb R f k) := by
 induction hf with
 | @zero f h0 =>
  refine (h0 k).trans ?_
  have : Eq7 (YtabofnehiclkiaaGreat.cmb R f k) (R.map fun _ => (0 : Int)).sum := Wr0 _ _ R fun r hr => by
   have := (h0 (fs r)).mul (Eq7.refl (at_ r k)); rwa [Int.zero_mul] at this
  rw [Ys1 _ R fun _ _ => rfl] at this
  exact this.symm
 | @add f g r c hr hf hg ih =>
  have h1 : Eq7 (YtabofnehiclkiaaGreat.cmb R g k) (YtabofnehiclkiaaGreat.cmb R f k + c * YtabofnehiclkiaaGreat.cmb R (at_ r) k) := by
   unfold YtabofnehiclkiaaGreat.cmb
   rw [← Wd7]
   refine Wr0 _ _ R fun s hs => ?_
   have := (hg (fs s)).mul (Eq7.refl (at_ s k))
   rwa [Int.add_mul, Int.mul_assoc] at this
  rw [h.cmb_row hr] at h1
  exact (hg k).trans ((ih.add (Eq7.refl _)).trans h1.symm)
theorem Rr.lead {n : Nat} {R S : List Vc} (hS : Rr n S) (hR : Rr n R) (he : ∀ f, Sp R f → Sp S f) {r : Vc} (hr : r ∈ R) : ∃ s, s ∈ S ∧ fs s = fs r := by
 apply Classical.byContradiction
 intro hn
 have hn : ∀ s, s ∈ S → fs s ≠ fs r := fun s hs e => hn ⟨s, hs, e⟩
 have h1 := hS.cmb (he _ (.row hr)) (fs r)
 have h2 : YtabofnehiclkiaaGreat.cmb S (at_ r) (fs r) = 0 := by
  unfold YtabofnehiclkiaaGreat.cmb
  refine Ys1 _ S fun s hs => ?_
  rcases Nat.lt_or_ge (fs s) (fs r) with h | h
  rw [Zi3 r _ h, Int.zero_mul]
  rw [Zi3 s (fs r) (by have := hn s hs; omega), Int.mul_zero]
 rw [h2, (hR.ld r hr).2] at h1
 exact absurd h1 (by unfold Eq7; decide)
theorem Rr.uniq1 {n : Nat} {R S : List Vc} (hR : Rr n R) (hS : Rr n S) (he : ∀ f, Sp R f ↔ Sp S f) {r : Vc} (hr : r ∈ R) : r ∈ S := by
 obtain ⟨s, hs, e⟩ := hS.lead hR (fun f h => (he f).1 h) hr
 have : r = s := by
  refine (hR.ok r hr).ext (hS.ok s hs) fun k => ?_
  have h1 := hS.cmb ((he _).1 (.row hr)) k
  have h2 : YtabofnehiclkiaaGreat.cmb S (at_ r) k = at_ s k := by
   unfold YtabofnehiclkiaaGreat.cmb
   rw [Xl3 _ s S hS.nodup hs (fun t ht hne => by
    obtain ⟨t', ht', e'⟩ := hR.lead hS (fun f h => (he f).2 h) ht
    rw [← e', hR.off t' r ht' hr (fun e2 => hne (hS.same ht hs (by rw [← e', e2, e]))), Int.zero_mul]), e, (hR.ld r hr).2, Int.one_mul]
  rw [h2] at h1
  have a := (hR.ok r hr).at k
  have b := (hS.ok s hs).at k
  exact h1.eq a.1 a.2 b.1 b.2
 exact this ▸ hs
theorem Xw3 : ∀ {R S : List Vc}, R.Pairwise (fun a b => fs a < fs b) → S.Pairwise (fun a b => fs a < fs b) → (∀ r, r ∈ R ↔ r ∈ S) → R = S
 | [], [], _, _, _ => rfl
 | [], s :: S, _, _, h => by have := (h s).2 (List.mem_cons_self ..); cases this
 | r :: R, [], _, _, h => by have := (h r).1 (List.mem_cons_self ..); cases this
 | r :: R, s :: S, hR, hS, h => by
  have hR' := List.pairwise_cons.1 hR
  have hS' := List.pairwise_cons.1 hS
  have e : r = s := by
   rcases List.mem_cons.1 ((h r).1 (List.mem_cons_self ..)) with e | h1
   exact e
   rcases List.mem_cons.1 ((h s).2 (List.mem_cons_self ..)) with e | h2
   exact e.symm
   have := hS'.1 r h1; have := hR'.1 s h2; omega
  subst e
  rw [Xw3 hR'.2 hS'.2 (fun x => ⟨fun hx => ?_, fun hx => ?_⟩)]
  rcases List.mem_cons.1 ((h x).1 (List.mem_cons_of_mem _ hx)) with e | h1
  subst e; have := hR'.1 x hx; omega
  exact h1
  rcases List.mem_cons.1 ((h x).2 (List.mem_cons_of_mem _ hx)) with e | h1
  subst e; have := hS'.1 x hx; omega
  exact h1
theorem Rr.uniq {n : Nat} {R S : List Vc} (hR : Rr n R) (hS : Rr n S) (he : ∀ f, Sp R f ↔ Sp S f) : R = S :=
 Xw3 hR.srt hS.srt fun r => ⟨fun h => hR.uniq1 hS he h, fun h => hS.uniq1 hR (fun f => (he f).symm) h⟩
theorem Vf1 (d n : Int) (hd : 1 ≤ d) (h0 : 0 ≤ n) : Zr1 d n = Zl0 d n := by
 have hq : 0 ≤ n.tdiv d := Int.tdiv_nonneg h0 (by omega)
 have hm : d.tmod 2 = 0 ∨ d.tmod 2 = 1 := by
  rw [Int.tmod_eq_emod_of_nonneg (by omega)]; omega
 unfold Zr1 Zl0
 generalize n.tdiv d = q at hq
 rcases hm with h | h
 rw [h]; simp
 rw [h]
 simp only [if_true, show ¬ ((1 : Int) = 0) by decide, if_false]
 by_cases h1 : 20 < q
 rw [if_pos h1, if_pos (by decide), if_pos (show (1 : Int) < q by omega), if_neg (by decide)]
 rw [if_neg h1]
 by_cases h2 : 1 < q
 rw [if_pos h2, if_neg (by decide)]
 rw [if_neg h2, if_neg h1]
def itF (ds : List Int) : Nat → A8 → Int → List A8
 | 0, p, left => if left = 0 then [p] else []
 | g + 1, p, left => ((List.range ((Zl0 (rd ds ((ds.length - (g + 1) : Nat) : Int)) left).toNat + 1)).reverse).flatMap fun (e : Nat) => itF ds g (U8 p ((ds.length - (g + 1) : Nat) : Int) (e : Int)) (left - (e : Int) * rd ds ((ds.length - (g + 1) : Nat) : Int))
def Yr3 (lim : Int) (r out it : List A8) : Prop := r = out ++ it ∨ (lim < (r.length : Int) ∧ lim < ((out ++ it).length : Int))
theorem Xe1 {lim : Int} {f : List A8 → Nat → List A8} {it : Nat → List A8} (hstop : ∀ o e, lim < (o.length : Int) → f o e = o) : ∀ (es : List Nat) (o : List A8), (∀ o e, e ∈ es → Yr3 lim (f o e) o (it e)) → Yr3 lim (es.foldl f o) o (es.flatMap it)
 | [], o, _ => .inl (by simp)
 | e :: es, o, h => by
  rw [List.foldl_cons, List.flatMap_cons]
  have keep : ∀ (es : List Nat) (o : List A8), lim < (o.length : Int) → es.foldl f o = o := by
   intro es
   induction es with
   | nil => intro o _; rfl
   | cons e es ih => intro o ho; rw [List.foldl_cons, hstop o e ho]; exact ih o ho
  rcases h o e (List.mem_cons_self ..) with h1 | ⟨h1, h2⟩
  rw [h1]
  have := Xe1 hstop es (o ++ it e) (fun o e he => h o e (List.mem_cons_of_mem _ he))
  unfold Yr3 at this ⊢
  rw [List.append_assoc] at this
  exact this
  refine .inr ?_
  rw [keep es _ h1]
  refine ⟨h1, ?_⟩
  rw [← List.append_assoc, List.length_append]
  omega
theorem Wa4 (ds : List Int) : ∀ (g : Nat) (p : A8) (left : Int) (out : List A8), Yr3 400 (fsF ds g p left out) out (itF ds g p left)
 | 0, p, left, out => by
  unfold fsF itF
  by_cases h : left = 0
  rw [if_pos h, if_pos h]; exact .inl rfl
  rw [if_neg h, if_neg h]; exact .inl (by simp)
 | g + 1, p, left, out => by
  rw [fsF, itF]
  refine Xe1 (fun o e ho => if_neg (by omega)) _ _ fun o e he => ?_
  by_cases h : (o.length : Int) ≤ 400
  rw [if_pos h]; exact Wa4 ds g _ _ o
  rw [if_neg h]
  exact .inr ⟨by omega, by rw [List.length_append]; omega⟩
theorem Wr2 (ds : List Int) (most : Int) : ∀ (g : Nat) (p : A8) (left : Int) (out : List A8), most < (out.length : Int) → lsF ds most g p left out = out
 | 0, p, left, out, h => by unfold lsF; rw [if_pos h]
 | g + 1, p, left, out, h => by rw [lsF, if_pos h]
theorem Wd0 (ds : List Int) (most : Int) (hds : ∀ n, n ∈ ds → 1 ≤ n ∧ n ≤ 12) : ∀ (g : Nat), g ≤ ds.length → ∀ (p : A8) (left : Int) (out : List A8), 0 ≤ left ∧ left ≤ 1000 → Yr3 most (lsF ds most g p left out) out (itF ds g p left)
 | 0, _, p, left, out, hl => by
  unfold lsF itF
  by_cases hm : most < (out.length : Int)
  rw [if_pos hm]; exact .inr ⟨hm, by rw [List.length_append]; omega⟩
  rw [if_neg hm]
  by_cases h : left = 0
  rw [if_pos h, if_pos h]; exact .inl rfl
  rw [if_neg h, if_neg h]; exact .inl (by simp)
 | g + 1, hg, p, left, out, hl => by
  rw [lsF, itF]
  by_cases hm : most < (out.length : Int)
  rw [if_pos hm]; exact .inr ⟨hm, by rw [List.length_append]; omega⟩
  rw [if_neg hm]
  have hnd := hds _ (show rd ds ((ds.length - (g + 1) : Nat) : Int) ∈ ds by
   unfold rd
   rw [Int.toNat_natCast, List.getD_eq_getElem?_getD, List.getElem?_eq_getElem (show ds.length - (g + 1) < ds.length by omega)]
   exact List.getElem_mem _)
  rw [Vf1 _ _ hnd.1 hl.1]
  obtain ⟨h0, h1, h2⟩ := Yy1 hnd hl
  refine Xe1 (fun o e ho => Wr2 ds most g _ _ o ho) _ _ fun o e he => Wd0 ds most hds g (by omega) _ _ o ?_
  have he := List.mem_range.1 (List.mem_reverse.1 he)
  have hy : (e : Int) ≤ Zl0 (rd ds ((ds.length - (g + 1) : Nat) : Int)) left := by omega
  have a1 : 0 ≤ (e : Int) * rd ds ((ds.length - (g + 1) : Nat) : Int) := Int.mul_nonneg (by omega) (by omega)
  have a2 := Int.le_trans (Int.mul_le_mul_of_nonneg_right hy (show 0 ≤ rd ds ((ds.length - (g + 1) : Nat) : Int) by omega)) h2
  exact ⟨by omega, by omega⟩
def Q3 (ds : List Int) (n : Int) : List A8 := itF ds ds.length (fun _ => 0) n
theorem Xo0 {ds : List Int} {n : Int} : ((fsF ds ds.length (fun _ => 0) n []).length ≤ 120 ↔ (Q3 ds n).length ≤ 120) ∧ ((Q3 ds n).length ≤ 400 → fsF ds ds.length (fun _ => 0) n [] = Q3 ds n) := by
 have h := Wa4 ds ds.length (fun _ => 0) n []
 unfold Yr3 at h
 rw [List.nil_append] at h
 unfold Q3
 rcases h with h | ⟨h1, h2⟩
 rw [h]; exact ⟨Iff.rfl, fun _ => rfl⟩
 exact ⟨by omega, fun h => by omega⟩
theorem Xn2 {ds : List Int} {n : Int} (hds : ∀ d, d ∈ ds → 1 ≤ d ∧ d ≤ 12) (hn : 0 ≤ n ∧ n ≤ 1000) : ((lsM ds n 120).length ≤ 120 ↔ (Q3 ds n).length ≤ 120) ∧ ((Q3 ds n).length ≤ 120 → lsM ds n 120 = Q3 ds n) := by
 have h := Wd0 ds 120 hds ds.length (Nat.le_refl _) (fun _ => 0) n [] hn
 unfold Yr3 at h
 rw [List.nil_append] at h
 unfold Q3 lsM
 rw [if_pos hn.1]
 rcases h with h | ⟨h1, h2⟩
 rw [h]; exact ⟨Iff.rfl, fun _ => rfl⟩
 exact ⟨by omega, fun h => by omega⟩
end Go.Proofs.YtabofnehiclkiaaGreat
