/- Plain laws on the pure functions. -/
import Derived.Test.YtabofnehiclkiaaGreatXP1
import Derived.Test.YtabofnehiclkiaaGreatXF12
import Derived.Test.YtabofnehiclkiaaGreatXF10
import Derived.Test.YtabofnehiclkiaaGreatXF3
import Derived.Test.YtabofnehiclkiaaGreatXF1
import Derived.Test.YtabofnehiclkiaaGreatXF16
import Derived.Test.YtabofnehiclkiaaGreatXF7
import Derived.Test.YtabofnehiclkiaaGreatXF19
namespace Go.Proofs.YtabofnehiclkiaaGreat
open Go
set_option linter.unusedSimpArgs false
set_option linter.unusedVariables false
theorem Yi5 {B : Int} {ds : List Int} {p : A8} (h : Mo B ds p) : MoL B ds [(p, 1)] := fun t ht => by cases List.mem_singleton.1 ht; exact h
theorem Yo0 (p : A8) : SmF [(p, 1)] := fun t ht => by cases List.mem_singleton.1 ht; simp
theorem We1 (p : A8) : Srt [(p, 1)] := List.pairwise_singleton _ _
theorem Ys6 (K : Nat) (p : A8) : F0 K p 1 = some [(p, 1)] := by
 unfold F0
 rw [Yi2]; rfl
section
variable {K : Nat} {ds : List Int} {img : MpT} {m : A8} {i : Nat}
theorem Yx9 (hm : Mo 20 ds m) (hi : i < 8) (h1 : 0 < Y5 m i) (hv : VF ds img) : MoL 40 ds (T7 (D4 ds [(lfM m i, 1)] img) []) ∧ (T7 (D4 ds [(lfM m i, 1)] img) []).length ≤ 400 := by
 refine ⟨Wv7 (Wx0 (Yi5 (We9 hm (by decide) hi h1)) hv.mo), ?_⟩
 have h2 := Yl5 (D4 ds [(lfM m i, 1)] img) []
 have h3 := Xw2 (ds := ds) [(lfM m i, 1)] img
 have h4 := hv.len
 simp only [List.length_cons, List.length_nil] at h2 h3
 omega
theorem Xx3 (hm : Mo 20 ds m) (hi : i < 8) (h1 : 0 < Y5 m i) (hv : VF ds img) : (dT ds img m i).length ≤ 400 := by
 have h0 := (Yx9 hm hi h1 hv).2
 unfold dT
 generalize T7 (D4 ds [(lfM m i, 1)] img) [] = T at h0 ⊢
 have h2 := Yl5 (D4 ds T [(hiM m i, 1)]) []
 have h3 := Xw2 (ds := ds) T [(hiM m i, 1)]
 simp only [List.length_cons, List.length_nil] at h2 h3
 omega
theorem Xw6 : nfm (dT ds img m i) = true := Zd7 _ B8
theorem Yz5 {z : M5} {out : MpT} (hm : Mo 20 ds z.1) (hi : i < 8) (h1 : 0 < Y5 z.1 i) (hv : VF ds img) : (Yu5 ds img z i out).length ≤ out.length + 400 := by
 have h1 := Xx3 hm hi h1 hv
 have h2 := Yl5 (scl (dF ds z i) (dT ds img z.1 i)) out
 unfold Yu5
 have : (scl (dF ds z i) (dT ds img z.1 i)).length = (dT ds img z.1 i).length := by simp [scl]
 omega
theorem Xy1 (m : A8) (i : Nat) : ∀ (k j : Nat) (front back : A8), 8 < j + k → j ≤ 8 → (∀ t : Fin 8, front t = if t.val < j ∧ i ≤ t.val then 0 else m t) → (∀ t : Fin 8, back t = if t.val < j ∧ t.val ≤ i then 0 else m t) →
 B7 K i k j front back = some (.go (loM m i, hiM m i)) := by
 intro k
 induction k with
 | zero => intro j front back h1 h2; omega
 | succ k ih =>
  intro j front back h1 h2 hf hb
  rw [B7]
  by_cases hj : j < 8
  have key : ∀ fr : A8, (∀ t : Fin 8, fr t = if t.val < j + 1 ∧ i ≤ t.val then 0 else m t) → Zm9 K (B7 K i k) i j back fr = some (.go (loM m i, hiM m i)) := by
   intro fr hfr
   unfold Zm9
   by_cases h : j ≤ i
   rw [if_pos (by omega)]
   refine ih (j + 1) _ _ (by omega) (by omega) hfr (fun t => ?_)
   rw [I4 _ hj, hb t]
   by_cases e : t.val = j
   rw [if_pos e, if_pos (by omega)]
   rw [if_neg e]
   by_cases h' : t.val < j ∧ t.val ≤ i
   rw [if_pos h', if_pos (by omega)]
   rw [if_neg h', if_neg (by omega)]
   rw [if_neg (by omega)]
   refine ih (j + 1) _ _ (by omega) (by omega) hfr (fun t => ?_)
   rw [hb t]
   by_cases h' : t.val < j ∧ t.val ≤ i
   rw [if_pos h', if_pos (by omega)]
   rw [if_neg h', if_neg (by omega)]
  rw [if_pos (by omega)]
  by_cases h : i ≤ j
  rw [if_pos (by omega)]
  refine key _ (fun t => ?_)
  rw [I4 _ hj, hf t]
  by_cases e : t.val = j
  rw [if_pos e, if_pos (by omega)]
  rw [if_neg e]
  by_cases h' : t.val < j ∧ i ≤ t.val
  rw [if_pos h', if_pos (by omega)]
  rw [if_neg h', if_neg (by omega)]
  rw [if_neg (by omega)]
  refine key _ (fun t => ?_)
  rw [hf t]
  by_cases h' : t.val < j ∧ i ≤ t.val
  rw [if_pos h', if_pos (by omega)]
  rw [if_neg h', if_neg (by omega)]
  rw [if_neg (by omega)]
  congr 3
  funext t
  rw [hf t]; unfold loM
  by_cases h : t.val < i
  rw [if_neg (by omega), if_pos h]
  rw [if_pos (by omega), if_neg h]
  funext t
  rw [hb t]; unfold hiM
  by_cases h : i < t.val
  rw [if_neg (by omega), if_pos h]
  rw [if_pos (by omega), if_neg h]
/-- how imgs, the images of an algebra, are -/
structure VI (ds : List Int) (imgs : List MpT) : Prop where
 len : imgs.length = ds.length
 all : ∀ f, f ∈ imgs → VF ds f
theorem Wx1 {out : MpT} {f : Int} (hK : 1073741824 ≤ K) (hd : okD ds = true) (hm : Mo 20 ds m) (hi : i < 8) (h1 : 0 < Y5 m i) {imgs : List MpT} (hv : VI ds imgs) (hil : i < ds.length) (ho : nfm out = true) (hol : out.length ≤ 100000000)
 (lk : Int → MpT → Option (Ex MpT MpT)) (a1 : MpT) (x0 : Int) (hz : (rd a1 x0).1 = m) :
 Zn1 K lk (ds, imgs) a1 x0 i out (loM m i) (hiM m i) f = lk ((i : Int) + 1) (T7 (scl (f % 10007) (dT ds (rd imgs (i : Int)) m i)) out) := by
 have hl := hv.len
 have hv' := hv.all _ (V7 (show i < imgs.length by omega))
 have hvl := hv'.len
 have hp := Yx9 hm hi h1 hv'
 have hb := hm.hi ⟨i, hi⟩
 rw [← T9 m hi] at hb
 have hw : S6 (loM m i) i (IntKind.u8.wrap (Y5 m i - 1)) = lfM m i := by rw [Xr5 (by omega)]; rfl
 have hn := Xx3 hm hi h1 hv'
 unfold Zn1
 rw [hz, hw, Ys6, Option.bind_some, if_pos (show (i : Int) < imgs.length by omega),
  Xu8 (B := 20) (C := 20) hK hd (by decide) (by decide) (Yi5 (We9 hm (by decide) hi h1)) (Yo0 _) hv'.mo hv'.small (P8 hv'.nf) (by omega) (by simp; omega) (by simp; omega), Option.bind_some, Ys6, Option.bind_some,
  Xu8 (B := 40) (C := 20) hK hd (by decide) (by decide) hp.1 (Za8 (Zd7 _ B8)) (Yi5 (Wu2 hm (by decide) i)) (Yo0 _) (We1 _) (by simp) (by omega) (by simp; omega), Option.bind_some, Yi2, Option.bind_some]
 have hT : T7 (D4 ds (T7 (D4 ds [(lfM m i, 1)] (rd imgs (i : Int))) []) [(hiM m i, 1)]) [] = dT ds (rd imgs (i : Int)) m i := rfl
 rw [hT, Xg9 (by omega) (by omega) (by omega) (Za8 ho) (Za8 Xw6) (by omega) (by omega), Option.bind_some, Yp8 ho (P8 Xw6)]
theorem Ve7 (x y a : Int) (hx : 0 ≤ x) : sg (x + y * a) = if y % 2 = 1 ∧ a % 2 = 1 then - sg x else sg x := by
 have h : (y * a) % 2 = ((y % 2) * (a % 2)) % 2 := Int.mul_emod y a 2
 have e : sg (y * a) = if y % 2 = 1 ∧ a % 2 = 1 then -1 else 1 := by
  unfold sg
  rw [h]
  rcases Int.emod_two_eq y with h1 | h1 <;> rcases Int.emod_two_eq a with h2 | h2 <;> simp [h1, h2]
 rw [Wm3, e]
 split
 rw [Int.mul_neg, Int.mul_one]
 rw [Int.mul_one]
theorem Wv4 (m : A8) {i : Nat} (hi : i < 8) : S6 (loM m i) i (Y5 m i) = loM m (i + 1) := by
 funext t
 rw [I4 _ hi, T9 m hi]
 unfold loM
 by_cases e : t.val = i
 rw [if_pos e, if_pos (by omega)]; congr 1; exact Fin.ext e.symm
 rw [if_neg e]
 by_cases h : t.val < i
 rw [if_pos h, if_pos (by omega)]
 rw [if_neg h, if_neg (by omega)]
theorem Xp8 {z : M5} (hm : Mo 20 ds z.1) (hz : -10006 ≤ z.2 ∧ z.2 ≤ 10006) (i : Nat) (hi : i < 8) (s : Int) (hs : s = 1 ∨ s = -1) : (-10006 ≤ s * z.2 ∧ s * z.2 ≤ 10006) ∧ -100120036 ≤ s * z.2 * Y5 z.1 i ∧ s * z.2 * Y5 z.1 i ≤ 100120036 := by
 have h2 := hm.hi ⟨i, hi⟩
 have h3 := hm.lo ⟨i, hi⟩
 rw [← T9 z.1 hi] at h2 h3
 exact Xd8 (.inr hs) hz (by omega)
theorem Xs6 {imgs : List MpT} {f : MpT} {x0 : Int} (hK : 1073741824 ≤ K) (hd : okD ds = true) (hv : VI ds imgs) (hm : Mo 20 ds (rd f x0).1) (hz : -10006 ≤ (rd f x0).2 ∧ (rd f x0).2 ≤ 10006) :
 ∀ (k i : Nat) (out : MpT), ds.length < i + k → i ≤ ds.length → nfm out = true → out.length + 400 * (ds.length - i) ≤ 100000000 →
  F9 K (ds, imgs) f x0 k i out = some (.go (Yd2 ds imgs (rd f x0) (ds.length - i) i out)) := by
 have hl := T6 hd
 intro k
 induction k with
 | zero => intro i out h1 h2; omega
 | succ k ih =>
  intro i out h1 h2 ho hol
  rw [F9]
  by_cases hi : i < ds.length
  obtain ⟨n, hn⟩ : ∃ n, ds.length - i = n + 1 := ⟨ds.length - i - 1, by omega⟩
  have e2 : ds.length - (i + 1) = n := by omega
  have hi8 : i < 8 := by omega
  have hlo := hm.lo ⟨i, hi8⟩
  have hhi := hm.hi ⟨i, hi8⟩
  rw [← T9 (rd f x0).1 hi8] at hlo hhi
  rw [if_pos (show (i : Int) < ds.length by omega), if_pos (by omega), hn, Yd2]
  by_cases h0 : Y5 (rd f x0).1 i = 0
  have := ih (i + 1) out (by omega) (by omega) ho (by omega)
  rw [e2] at this
  rw [if_pos h0, if_pos h0]; exact this
  have h1' : 0 < Y5 (rd f x0).1 i := by omega
  have hv' := hv.all _ (V7 (show i < imgs.length by rw [hv.len]; exact hi))
  have hl2 := Xy1 (K := K) (rd f x0).1 i K 0 (rd f x0).1 (rd f x0).1 (by omega) (by omega) (fun t => by simp) (fun t => by simp)
  replace hl2 : B7 K i K 0 (rd f x0).1 (rd f x0).1 = _ := hl2
  have hsl := Yz5 (out := out) hm hi8 h1' hv'
  have := ih (i + 1) (Yu5 ds (rd imgs (i : Int)) (rd f x0) i out) (by omega) (by omega) (Zd7 _ ho) (by omega)
  rw [e2] at this
  have hwt := Xr7 hd ((Wg4 hm (by decide) i).byt (by decide))
  rw [Ws8 _ _ (by omega)] at hwt
  have hfb := Xp8 hm hz i hi8 1 (.inl rfl)
  rw [Int.one_mul] at hfb
  rw [if_neg h0, if_neg h0, hl2, Option.bind_some]
  show (Zf1 K ds (loM (rd f x0).1 i)).bind _ = _
  rw [Xf7 (by omega) hd ((Wg4 hm (by decide) i).byt (by decide)), Option.bind_some, Ws8 _ _ (by omega), Yg9 (by omega), IntWalk.i64_in (Y5 (rd f x0).1 i) (by omega), IntWalk.i64_in ((rd f x0).2 * _) (by omega), IntWalk.i64_in (0 - _) (by omega)]
  have hj := fun g => Wx1 (K := K) (f := g) hK hd hm hi8 h1' hv hi ho (by omega) (F9 K (ds, imgs) f x0 k) f x0 rfl
  rw [hj, hj]
  have hF : dF ds (rd f x0) i = (if wtN ds (rd f x0).1 i % 2 = 0 then (rd f x0).2 * Y5 (rd f x0).1 i else 0 - (rd f x0).2 * Y5 (rd f x0).1 i) % 10007 := by
   unfold dF sg
   by_cases e : wtN ds (rd f x0).1 i % 2 = 0
   rw [if_pos e, if_neg (by omega), Int.one_mul]
   rw [if_neg e, if_pos (by omega), Int.neg_mul, Int.one_mul, Int.neg_mul, Int.zero_sub]
  refine Eq.trans ?_ this
  unfold Yu5
  rw [hF]
  split <;> rfl
  rw [if_neg (show ¬ (i : Int) < ds.length by omega), show ds.length - i = 0 by omega]; rfl
end
section
variable {K : Nat} {ds : List Int} {img : MpT} {m : A8} {i : Nat}
theorem Yg4 {imgs : List MpT} {z : M5} (hd : okD ds = true) (hv : VI ds imgs) (hm : Mo 20 ds z.1) : ∀ (n i : Nat) (out : MpT), i + n ≤ ds.length → nfm out = true →
 nfm (Yd2 ds imgs z n i out) = true ∧ (Yd2 ds imgs z n i out).length ≤ out.length + 400 * n
 | 0, _, out, _, h => ⟨h, Nat.le_refl _⟩
 | n + 1, i, out, hi, h => by
  have hl := T6 hd
  rw [Yd2]
  by_cases h0 : Y5 z.1 (i : Int) = 0
  rw [if_pos h0]
  have := Yg4 hd hv hm n (i + 1) out (by omega) h
  exact ⟨this.1, by omega⟩
  rw [if_neg h0]
  have hv' := hv.all _ (V7 (show i < imgs.length by rw [hv.len]; omega))
  have hlo := (hm.idx i).1
  have h2 := Yz5 (out := out) (z := z) hm (show i < 8 by omega) (by omega) hv'
  have := Yg4 hd hv hm n (i + 1) (Yu5 ds (rd imgs (i : Int)) z i out) (by omega) (Zd7 _ h)
  exact ⟨this.1, by omega⟩
theorem Xx4 {imgs : List MpT} {f : MpT} (hK : 1073741824 ≤ K) (hd : okD ds = true) (hv : VI ds imgs) (hm : MoL 20 ds f) (hz : SmF f) :
 ∀ (k i : Nat) (out : MpT), f.length < i + k → i ≤ f.length → nfm out = true → out.length + 3200 * (f.length - i) ≤ 90000000 → Zi3 K (ds, imgs) f k i out = some (.go (Yd3 ds imgs (f.drop i) out)) := by
 have hl := T6 hd
 intro k
 induction k with
 | zero => intro i out h1 h2; omega
 | succ k ih =>
  intro i out h1 h2 ho hol
  rw [Zi3]
  by_cases hi : i < f.length
  have h3 := Xs6 hK hd hv (hm _ (V7 hi)) (hz _ (V7 hi)) K 0 out (by omega) (by omega) ho (by omega)
  have h4 := Yg4 hd hv (hm _ (V7 hi)) ds.length 0 out (by omega) ho
  replace h3 : F9 K (ds, imgs) f i K 0 out = _ := h3
  rw [if_pos (by omega), h3, Option.bind_some, Zv6 hi, Yd3]
  exact ih (i + 1) _ (by omega) (by omega) h4.1 (by rw [Nat.sub_zero]; omega)
  rw [if_neg (by omega), List.drop_eq_nil_of_le (by omega)]; rfl
theorem Vi8 {imgs : List MpT} {f : MpT} (hK : 1073741824 ≤ K) (hd : okD ds = true) (hv : VI ds imgs) (hf : VF ds f) : Ya7 K (ds, imgs) f = some (Yd3 ds imgs f []) := by
 have hl := hf.len
 have := Xx4 hK hd hv hf.mo hf.small K 0 [] (by omega) (by omega) B8 (by simp; omega)
 unfold Ya7
 replace this : Zi3 K (ds, imgs) f K 0 [] = some (.go (Yd3 ds imgs f [])) := this
 rw [this]; rfl
theorem Wl4 (m : A8) {i : Nat} (hi : i < 8) : ∀ (k j : Nat) (box : A8), i + 1 < j + k → j ≤ i + 1 → (∀ t : Fin 8, box t = if t.val < j then 0 else m t) → Q2 K i k j box = some (.go (hiM m i)) := by
 intro k
 induction k with
 | zero => intro j box h1 h2; omega
 | succ k ih =>
  intro j box h1 h2 hb
  rw [Q2]
  by_cases hj : j < i + 1
  rw [if_pos (by omega), if_pos (by omega)]
  refine ih (j + 1) _ (by omega) (by omega) (fun t => ?_)
  rw [I4 _ (show j < 8 by omega), hb t]
  by_cases e : t.val = j
  rw [if_pos e, if_pos (by omega)]
  rw [if_neg e]
  by_cases h : t.val < j
  rw [if_pos h, if_pos (by omega)]
  rw [if_neg h, if_neg (by omega)]
  rw [if_neg (by omega)]
  congr 2
  funext t
  rw [hb t]; unfold hiM
  by_cases h : i < t.val
  rw [if_pos h, if_neg (by omega)]
  rw [if_neg h, if_pos (by omega)]
def sgI (ds : List Int) (m : A8) (i : Nat) : Int := sg (wtN ds m (min i ds.length))
theorem Wk1 {imgs : List MpT} {z : M5} (hd : okD ds = true) (hm : Mo 20 ds z.1) {i : Nat} (hi : i < 8) (lk : Int → Int → A8 → MpT → Option (Ex MpT (A8 × MpT))) (out : MpT) :
 L9 K lk (ds, imgs) (sgI ds z.1 i) i (loM z.1 i) z out = lk (sgI ds z.1 (i + 1)) ((i : Int) + 1) (loM z.1 (i + 1)) out := by
 unfold L9
 dsimp only
 rw [Wv4 _ hi]
 by_cases hl : i < ds.length
 have hp := D8 hd _ (V7 hl)
 have hlo := (hm.idx i).1
 have hw := Yh8 hd (hm.byt (by decide)) i (by omega)
 have e : sgI ds z.1 (i + 1) = if rd ds (i : Int) % 2 = 1 ∧ Y5 z.1 i % 2 = 1 then - sgI ds z.1 i else sgI ds z.1 i := by
  unfold sgI
  rw [Nat.min_eq_left (show i + 1 ≤ ds.length by omega), Nat.min_eq_left (show i ≤ ds.length by omega), wtN]
  exact Ve7 _ _ _ hw.1
 rw [if_pos (show (i : Int) < ds.length by omega), Yg9 (by omega), Yg9 (by omega), e]
 have hs : IntKind.i64.wrap (0 - sgI ds z.1 i) = - sgI ds z.1 i := by
  rcases Xi7 (wtN ds z.1 (min i ds.length)) with h | h <;> (unfold sgI; rw [h]; rfl)
 by_cases h1 : rd ds (i : Int) % 2 = 1
 by_cases h2 : Y5 z.1 i % 2 = 1
 rw [if_pos h1, if_pos h2, if_pos ⟨h1, h2⟩, hs]
 rw [if_pos h1, if_neg h2, if_neg (fun h => h2 h.2)]
 rw [if_neg h1, if_neg (fun h => h1 h.1)]
 rw [if_neg (show ¬ (i : Int) < ds.length by omega)]
 unfold sgI
 rw [Nat.min_eq_right (show ds.length ≤ i by omega), Nat.min_eq_right (show ds.length ≤ i + 1 by omega)]
theorem Wh7 {imgs : List MpT} {z : M5} {r6 : M8} (hK : 1073741824 ≤ K) (hd : okD ds = true) (hv : VI ds imgs) (hm : Mo 20 ds z.1) (hz : -10006 ≤ z.2 ∧ z.2 ≤ 10006) (hr : ∀ j, j < imgs.length → Yf4 r6 (j : Int) = rd imgs (j : Int)) :
 ∀ (k i : Nat) (out : MpT), 8 < i + k → i ≤ 8 → nfm out = true → out.length + 400 * (8 - i) ≤ 100000000 →
  ∃ a, T4 K (ds, imgs) r6 z k (sgI ds z.1 i) i (loM z.1 i) out = some (.go (a, Yd2 ds imgs z (ds.length - i) i out)) := by
 have hl := T6 hd
 intro k
 induction k with
 | zero => intro i out h1 h2; omega
 | succ k ih =>
  intro i out h1 h2 ho hol
  rw [T4]
  by_cases hi8 : i < 8
  have hlo := hm.lo ⟨i, hi8⟩
  have hhi := hm.hi ⟨i, hi8⟩
  rw [← T9 z.1 hi8] at hlo hhi
  rw [if_pos (by omega)]
  by_cases h0 : Y5 z.1 i = 0
  rw [if_neg (by omega), Wk1 hd hm hi8]
  obtain ⟨a, ha⟩ := ih (i + 1) out (by omega) (by omega) ho (by omega)
  refine ⟨a, ?_⟩
  replace ha : T4 K (ds, imgs) r6 z k (sgI ds z.1 (i + 1)) ((i : Int) + 1) (loM z.1 (i + 1)) out = _ := ha
  rw [ha]
  by_cases hi : i < ds.length
  obtain ⟨n, hn⟩ : ∃ n, ds.length - i = n + 1 := ⟨ds.length - i - 1, by omega⟩
  have e2 : ds.length - (i + 1) = n := by omega
  rw [hn, e2, Yd2, if_pos h0]
  rw [show ds.length - (i + 1) = 0 by omega, show ds.length - i = 0 by omega]; rfl
  have hi : i < ds.length := by
   rcases Nat.lt_or_ge i ds.length with h | h
   exact h
   exact absurd (by rw [T9 z.1 hi8]; exact hm.out ⟨i, hi8⟩ h) h0
  have h1' : 0 < Y5 z.1 i := by omega
  have hil : i < imgs.length := by rw [hv.len]; exact hi
  have hv' := hv.all _ (V7 hil)
  have hvl := hv'.len
  have hp := Yx9 hm hi8 h1' hv'
  have hn := Xx3 hm hi8 h1' hv'
  have hsl := Yz5 (out := out) hm hi8 h1' hv'
  have hl2 := Wl4 (K := K) z.1 hi8 K 0 z.1 (by omega) (by omega) (fun t => by simp)
  replace hl2 : Q2 K i K 0 z.1 = _ := hl2
  have hw : S6 (loM z.1 i) i (IntKind.i64.wrap (Y5 z.1 i - 1)) = lfM z.1 i := by rw [IntWalk.i64_in _ (by omega)]; rfl
  have hfb := Xp8 hm hz i hi8 (sgI ds z.1 i) (Xi7 _)
  have hF : (sgI ds z.1 i * z.2 * Y5 z.1 i) % 10007 = dF ds z i := by unfold dF sgI; rw [Nat.min_eq_left (by omega)]
  have hm1 : ∀ p : A8, F6 ([] : MpT) p 1 = [(p, 1)] := fun p => rfl
  rw [if_pos h1', hl2, Option.bind_some]
  obtain ⟨a, ha⟩ := ih (i + 1) (Yu5 ds (rd imgs (i : Int)) z i out) (by omega) (by omega) (Zd7 _ ho) (by omega)
  refine ⟨a, ?_⟩
  show (J8 K (F6 ([] : MpT) (S6 (loM z.1 i) i (IntKind.i64.wrap (Y5 z.1 i - 1))) 1) ds (Yf4 r6 i)).bind _ = _
  have hT : T7 (D4 ds (T7 (D4 ds [(lfM z.1 i, 1)] (rd imgs (i : Int))) []) [(hiM z.1 i, 1)]) [] = dT ds (rd imgs (i : Int)) z.1 i := rfl
  rw [hw, hm1, hm1, hr i hil, Xe7 (B := 20) (C := 20) (by omega) hd (by decide) (by decide) (by decide) (Yi5 (We9 hm (by decide) hi8 h1')) (Yo0 _) hv'.mo hv'.small (by simp; omega) (by omega), Option.bind_some,
   Xe7 (B := 40) (C := 20) (by omega) hd (by decide) (by decide) (by decide) hp.1 (Za8 (Zd7 _ B8)) (Yi5 (Wu2 hm (by decide) i)) (Yo0 _) (by omega) (by simp; omega), Option.bind_some, hT,
   IntWalk.i64_in (sgI ds z.1 i * z.2) (by omega), IntWalk.i64_in _ (by omega), Xh7, Option.bind_some, hF, Xd6 (by unfold dF; omega) (by omega) (Za8 Xw6) ho, Option.bind_some, Wk1 hd hm hi8]
  replace ha : T4 K (ds, imgs) r6 z k (sgI ds z.1 (i + 1)) ((i : Int) + 1) (loM z.1 (i + 1)) (T7 (scl (dF ds z i) (dT ds (rd imgs (i : Int)) z.1 i)) out) = _ := ha
  rw [ha]
  obtain ⟨n, hn⟩ : ∃ n, ds.length - i = n + 1 := ⟨ds.length - i - 1, by omega⟩
  have e2 : ds.length - (i + 1) = n := by omega
  rw [hn, e2, Yd2, if_neg h0]
  rw [if_neg (by omega), show ds.length - i = 0 by omega]; exact ⟨_, rfl⟩
set_option maxRecDepth 100000 in
theorem Xn6 {imgs : List MpT} {r6 : M8} (hK : 1073741824 ≤ K) (hd : okD ds = true) (hv : VI ds imgs) (hr : ∀ j, j < imgs.length → Yf4 r6 (j : Int) = rd imgs (j : Int)) :
 ∀ (k : Nat) (f out : MpT), f.length < k → MoL 20 ds f → SmF f → nfm out = true → out.length + 3200 * f.length ≤ 90000000 → R3 K (ds, imgs) r6 k f out = some (.go (Yd3 ds imgs f out))
 | 0, _, _, h, _, _, _, _ => by omega
 | k + 1, [], out, _, _, _, _, _ => by rw [R3]; rfl
 | k + 1, z :: f, out, h, hm, hz, ho, hol => by
  have hl := T6 hd
  rw [List.length_cons] at hol h
  have hk8 : 8 < 0 + K := by omega
  have hol' : out.length + 400 * (8 - 0) ≤ 100000000 := by rw [Nat.sub_zero]; omega
  obtain ⟨a, ha⟩ := Wh7 hK hd hv (hm z (List.mem_cons_self ..)) (hz z (List.mem_cons_self ..)) hr K 0 out hk8 (Nat.zero_le _) ho hol'
  have h4 := Yg4 hd hv (hm z (List.mem_cons_self ..)) ds.length 0 out (by omega) ho
  have e1 : sgI ds z.1 0 = 1 := by unfold sgI; rw [Nat.zero_min]; rfl
  have e2 : loM z.1 0 = fun _ => 0 := by funext t; unfold loM; rw [if_neg (by omega)]
  rw [e1, e2, Nat.sub_zero] at ha
  replace ha : T4 K (ds, imgs) r6 z K 1 0 (fun _ => 0) out = _ := ha
  rw [R3, ha, Option.bind_some]
  show R3 K (ds, imgs) r6 k f (Yd2 ds imgs z ds.length 0 out) = _
  exact Xn6 hK hd hv hr k f _ (by omega) (fun q hq => hm q (List.mem_cons_of_mem _ hq)) (fun q hq => hz q (List.mem_cons_of_mem _ hq)) h4.1 (by omega)
theorem Vi7 {imgs : List MpT} {f : MpT} (hK : 1073741824 ≤ K) (hd : okD ds = true) (hv : VI ds imgs) (hf : VF ds f) : Zl6 K (ds, imgs) f = some (Yd3 ds imgs f []) := by
 have hl := hf.len
 have hdl := T6 hd
 obtain ⟨r6, h1, h2⟩ := Wr7 (K := K) (a := (ds, imgs)) (by omega) (show imgs.length ≤ 8 by rw [hv.len]; exact hdl) (fun g hg => ⟨ds, hv.all g hg⟩)
 unfold Zl6
 rw [show ((ds, imgs) : List Int × List MpT).1 = ds from rfl, show ((ds, imgs) : List Int × List MpT).2 = imgs from rfl, h1, Option.bind_some, Xn6 hK hd hv h2 K f [] (by omega) hf.mo hf.small B8 (by simp; omega)]
 rfl
end
theorem Xn7 {K : Nat} {xs : List MpT} {p : MpT → Option Bool} {q : MpT → Bool} (hK : xs.length < K) (hp : ∀ x, x ∈ xs → p x = some (q x)) : R0 K xs p = some (xs.any q) := by
 unfold R0 G6
 have := Xw5 (fun k i => V3 K xs p k i) xs.length (fun j => q (rd xs (j : Int))) id (fun k n hn => ?_) (fun k n hn => ?_) K 0 (by omega) (by omega)
 rw [Nat.sub_zero, ← List.range_eq_range', Xp3 xs q] at this
 rcases this with ⟨m, h1, h2, _⟩ | ⟨h1, h2⟩
 replace h1 : V3 K xs p K 0 = _ := h1
 rw [h1, h2]; simp [Ex.elim]
 replace h1 : V3 K xs p K 0 = _ := h1
 rw [h1, h2]; simp [Ex.elim]
 show V3 K xs p (k + 1) n = _
 rw [V3, if_pos (by omega), hp _ (V7 hn)]; rfl
 show V3 K xs p (k + 1) n = _
 rw [V3, if_neg (by omega)]
/-- what the arguments are like -/
structure Inp (K : Nat) (a : L4) : Prop where
 big : 1073741824 ≤ K
 dl : a.1.length ≤ 1048576
 il : a.2.length ≤ 1048576
 fl : ∀ f, f ∈ a.2 → f.length ≤ 1048576
 by_ : ∀ f, f ∈ a.2 → Yd0 f
def okI (a : L4) (j : Nat) : Bool := okF a.1 (rd a.2 (j : Int)) && okG a.1 (rd a.2 (j : Int)) (rd a.1 (j : Int) + 1)
def okB (a : L4) : Bool := okD a.1 && (decide (a.2.length = a.1.length) && (List.range a.2.length).all (okI a))
def okC (a : L4) : Bool := a.2.all fun f => decide ((Yd3 a.1 a.2 f []).length = 0)
def okA (a : L4) : Bool := okB a && okC a
section
variable {K : Nat} {a : L4}
theorem Wc0 (h : okB a = true) : okD a.1 = true := by unfold okB at h; rw [Bool.and_eq_true] at h; exact h.1
theorem Xk4 (hi : Inp K a) (h : okB a = true) : VI a.1 a.2 := by
 unfold okB at h
 rw [Bool.and_eq_true, Bool.and_eq_true, decide_eq_true_eq] at h
 refine ⟨h.2.1, fun f hf => ?_⟩
 obtain ⟨j, hj, rfl⟩ := List.getElem_of_mem hf
 have := List.all_eq_true.1 h.2.2 j (List.mem_range.2 hj)
 unfold okI at this
 rw [G0 hj, Bool.and_eq_true] at this
 exact Vf0 (hi.by_ _ hf) this.1
theorem Vd7 (hi : Inp K a) : Zy8 K a = some (okA a) := by
 have hK := hi.big
 have hdl := hi.dl
 have hil := hi.il
 unfold Zy8 okA okB
 rw [Vb7 (by omega), Option.bind_some]
 cases hd : okD a.1 with
 | false => rfl
 | true =>
  rw [if_pos rfl]
  unfold Zs5
  by_cases hl : a.2.length = a.1.length
  case neg => rw [if_pos (by simp; omega)]; simp [hl]
  rw [if_neg (by simp; omega), Zf3 (g := ()) (fun k i => D1 K a k i) a.2.length (okI a) false (fun k n hn => ?_) (fun k n hn => ?_) (by omega)]
  cases hb : (List.range a.2.length).all (okI a) with
  | false => simp [Ex.elim, hl]
  | true =>
   have hB : okB a = true := by unfold okB; rw [hd, hb]; simp [hl]
   have hv := Xk4 hi hB
   rw [if_pos rfl, Option.bind_some]
   show ((E7 K a K 0).bind _) = _
   rw [Zf3 (g := ()) (fun k i => E7 K a k i) a.2.length (fun j => decide ((Yd3 a.1 a.2 (rd a.2 (j : Int)) []).length = 0)) false (fun k n hn => ?_) (fun k n hn => ?_) (by omega), Yo2 a.2 (fun f => decide ((Yd3 a.1 a.2 f []).length = 0))]
   unfold okC
   rw [Bool.true_and, decide_eq_true hl, Bool.true_and, Bool.true_and]
   cases a.2.all fun f => decide ((Yd3 a.1 a.2 f []).length = 0) <;> rfl
   show E7 K a (k + 1) n = _
   rw [E7, if_pos (by omega), Vi8 hK hd hv (hv.all _ (V7 hn)), Option.bind_some]
   by_cases h0 : (Yd3 a.1 a.2 (rd a.2 (n : Int)) []).length = 0
   rw [if_neg (by omega), if_pos (by simpa using h0)]
   rw [if_pos (by omega), if_neg (show ¬ decide ((Yd3 a.1 a.2 (rd a.2 (n : Int)) []).length = 0) = true by simpa using h0)]
   show E7 K a (k + 1) n = _
   rw [E7, if_neg (by omega)]
  show D1 K a (k + 1) n = _
  have hb := hi.by_ _ (V7 hn)
  have hfl := hi.fl _ (V7 hn)
  have hp := D8 hd _ (V7 (show n < a.1.length by omega))
  obtain ⟨r, hr, hg⟩ := Wj0 (K := K) (f := rd a.2 (n : Int)) (by omega) (by omega) hd hb
  rw [D1, if_pos (by omega), Wu3 (by omega) (by omega) (by omega) hd hb, Option.bind_some, hr, Option.bind_some, if_pos (show (n : Int) < a.1.length by omega), IntWalk.i64_in _ (by omega)]
  unfold okI
  rw [← hg]
  cases okF a.1 (rd a.2 (n : Int)) with
  | false => rfl
  | true =>
   rw [if_pos rfl, Bool.true_and]
   cases r.2 with
   | false => rfl
   | true =>
    rw [if_pos rfl, Bool.true_and]
    by_cases h0 : (rd a.2 (n : Int)).length = 0
    rw [if_neg (by omega), if_pos (by simp [h0])]
    rw [if_pos (by omega)]
    by_cases h1 : r.1 = rd a.1 (n : Int) + 1
    rw [if_pos h1, if_pos (by simp [h1])]
    rw [if_neg h1, if_neg (by simp [h0, h1])]
  show D1 K a (k + 1) n = _
  rw [D1, if_neg (by omega)]
theorem Vf3 (hi : Inp K a) : Zq7 K a = some (okA a) := by
 have hK := hi.big
 have hdl := hi.dl
 have hil := hi.il
 unfold Zq7 okA okB
 rw [Vd6 (by omega), Option.bind_some]
 cases hd : okD a.1 with
 | false => rfl
 | true =>
  rw [if_pos rfl]
  unfold Zl3
  by_cases hl : a.2.length = a.1.length
  case neg => rw [if_pos (by simp; omega)]; simp [hl]
  rw [if_neg (by simp; omega), Zf3 (g := ()) (fun k i => J5 K a k i) a.2.length (okI a) false (fun k n hn => ?_) (fun k n hn => ?_) (by omega)]
  cases hb : (List.range a.2.length).all (okI a) with
  | false => simp [Ex.elim, hl]
  | true =>
   have hB : okB a = true := by unfold okB; rw [hd, hb]; simp [hl]
   have hv := Xk4 hi hB
   rw [if_pos rfl, Option.bind_some]
   show ((R0 K a.2 fun x => Zk8 K x (a.1, a.2)).bind _) = _
   rw [Xn7 (q := fun f => !decide ((Yd3 a.1 a.2 f []).length = 0)) (by omega) (fun f hf => ?_), Option.bind_some, ← List.not_all_eq_any_not]
   unfold okC
   rw [Bool.true_and, decide_eq_true hl, Bool.true_and, Bool.true_and, Bool.not_not]
   have hvf := hv.all f hf
   have hvl := hvf.len
   unfold Zk8
   rw [Yg2 (by omega) (by omega) hvf.byt (P8 hvf.nf), Option.bind_some]
   show (Zl6 K (a.1, a.2) f).bind _ = _
   rw [Vi7 hK hd hv hvf, Option.bind_some]
   congr 1
   rw [← decide_not]
   exact decide_eq_decide.2 (by omega)
  show J5 K a (k + 1) n = _
  have hb := hi.by_ _ (V7 hn)
  have hfl := hi.fl _ (V7 hn)
  have hp := D8 hd _ (V7 (show n < a.1.length by omega))
  rw [J5, if_pos (by omega), Vg1 (by omega) hd hb, Option.bind_some, if_pos (show (n : Int) < a.1.length by omega), IntWalk.i64_in _ (by omega), Wl0 (by omega) (by omega) hd hb (by omega), Option.bind_some]
  unfold okI
  cases okF a.1 (rd a.2 (n : Int)) with
  | false => rfl
  | true => rw [if_pos rfl, Bool.true_and]
  show J5 K a (k + 1) n = _
  rw [J5, if_neg (by omega)]
end
section
variable {K : Nat} {ds : List Int} {i : Nat}
theorem Zy2 {α : Type} [Inhabited α] {xs : List α} {n : Nat} {x : α} (h : xs[n]? = some x) : rd xs (n : Int) = x := by
 unfold rd
 rw [Int.toNat_natCast, List.getD_eq_getElem?_getD, h]; rfl
theorem Zl7 {α : Type} [Inhabited α] {xs : List α} {j : Nat} (h : j < xs.length) : xs.take (j + 1) = xs.take j ++ [rd xs (j : Int)] := by
 rw [G0 h, List.take_add_one, List.getElem?_eq_getElem h]; rfl
def gn (t : Nat) (e : Int) : A8 := S6 (fun _ => 0) t e
theorem Xz5 {t : Nat} (ht : t < 8) : Zl1 K (t : Int) = some [(gn t 1, 1)] := by
 unfold Zl1
 rw [if_pos (by omega), if_pos (by omega), Ys6]; rfl
theorem Zv4 {t : Nat} (ht : t < 8) : G8 K (t : Int) = some (gn t 1) := by
 unfold G8
 rw [if_pos (by omega), if_pos (by omega)]; rfl
theorem Zy9 {t : Nat} (ht : t < 8) (e : Int) (n : Nat) : Y5 (gn t e) n = if n = t then e else 0 := by
 by_cases hn : n < 8
 rw [T9 _ hn]; unfold gn; rw [I4 _ ht]
 rw [if_neg (by omega)]; simp [Y5, hn]
theorem Vh2 {t : Nat} {e : Int} (ht : t < 8) (htl : t < ds.length) (h0 : 0 ≤ e) (h20 : e ≤ 20) (ho : rd ds (t : Int) % 2 = 1 → e ≤ 1) : Mo 20 ds (gn t e) := by
 refine ⟨fun j => ?_, fun j => ?_, fun n hn hod => ?_, fun j hj => ?_⟩
 unfold gn; rw [I4 _ ht]; split <;> omega
 unfold gn; rw [I4 _ ht]; split <;> omega
 rw [Zy9 ht]; split
 rename_i e; subst e; exact ho hod
 omega
 unfold gn; rw [I4 _ ht, if_neg (by omega)]
theorem Xe2 {p : A8} {c : Int} (hc : 1 ≤ c ∧ c ≤ 10006) : T7 [(p, c)] [] = [(p, c)] := by
 refine Yc6 (Ye7 (List.pairwise_singleton _ _) (fun q hq => ?_))
 cases List.mem_singleton.1 hq; exact hc
theorem Vf8 : SmF [] := fun t ht => by cases ht
theorem Vc8 {B : Int} {m : A8} (hB : B ≤ 20) (h : Mo B ds m) : okM ds m = true := by
 unfold okM
 rw [List.all_eq_true]
 intro j hj
 have hj := List.mem_range.1 hj
 have h1 := h.hi ⟨j, hj⟩
 rw [← T9 m hj] at h1
 simp only [decide_eq_true_eq]
 unfold Zz9
 split
 rename_i hl
 split
 rename_i ho; exact h.odd j hl ho
 omega
 rename_i hl
 rw [T9 m hj, h.out ⟨j, hj⟩ (by simp; omega)]; omega
theorem Ve0 {f : MpT} (h : VF ds f) : okF ds f = true := by
 unfold okF
 rw [Bool.and_eq_true, List.all_eq_true]
 refine ⟨fun j hj => ?_, by simpa using h.len⟩
 have hj := List.mem_range.1 hj
 unfold okT
 rw [Vc8 (by decide) (h.mo _ (V7 hj)), Bool.true_and, Bool.and_eq_true]
 refine ⟨by simpa using Zu0 h.nf _ (V7 hj), ?_⟩
 by_cases h0 : j = 0
 simp [h0]
 obtain ⟨n, rfl⟩ : ∃ n, j = n + 1 := ⟨j - 1, by omega⟩
 have e : ((n + 1 : Nat) : Int) - 1 = (n : Int) := by omega
 have := List.pairwise_iff_getElem.1 (P8 h.nf) n (n + 1) (by omega) hj (by omega)
 rw [e, G0 hj, G0 (show n < f.length by omega), this]; simp
theorem Wv9 {r10 : List A8} {x : Int} {m : A8} (hr : rd r10 x = m) (hm : ∀ j, 0 ≤ m j ∧ m j ≤ 20) : ∀ (k n : Nat) (box : A8), n ≤ 8 → 8 < n + k → (∀ j : Fin 8, j.val < n → box j = m j) → Za2 K r10 x k n box = some (.go m) := by
 intro k
 induction k with
 | zero => intro n box h1 h2; omega
 | succ k ih =>
  intro n box h1 h2 hb
  rw [Za2, hr]
  by_cases hn : n < 8
  have hmn := hm ⟨n, hn⟩
  rw [if_pos (by omega), T9 m hn, if_neg (by omega)]
  refine ih (n + 1) _ (by omega) (by omega) (fun j hj => ?_)
  rw [I4 _ hn]
  by_cases e : j.val = n
  rw [if_pos e, Xr5 (by omega)]
  congr 1; exact Fin.ext e.symm
  rw [if_neg e]; exact hb j (by omega)
  rw [if_neg (by omega)]
  congr 2
  funext j; exact hb j (by omega)
theorem Wv8 {f : MpT} (hK : 1073741824 ≤ K) (hf : VF ds f) : ∀ (k j : Nat), f.length < j + k → j ≤ f.length → Za7 K f (f.map Prod.fst) k j (f.take j) = some (.go f) := by
 have hl := hf.len
 intro k
 induction k with
 | zero => intro j h1 h2; omega
 | succ k ih =>
  intro j h1 h2
  rw [Za7, List.length_map]
  by_cases hj : j < f.length
  have er : rd (f.map Prod.fst) (j : Int) = (rd f (j : Int)).1 := Zy2 (by rw [List.getElem?_map, List.getElem?_eq_getElem hj, G0 hj]; rfl)
  have hm := hf.mo _ (V7 hj)
  have h3 := Wv9 (K := K) er (fun t => ⟨hm.lo t, hm.hi t⟩) K 0 (fun _ => 0) (by omega) (by omega) (fun t ht => by omega)
  replace h3 : Za2 K (f.map Prod.fst) j K 0 (fun _ => 0) = _ := h3
  have hg : Q1 f (rd f (j : Int)).1 = (rd f (j : Int)).2 := Ya2 (P8 hf.nf) (V7 hj)
  rw [if_pos (by omega), h3, Option.bind_some]
  show (if _ then _ else none) = _
  rw [er, hg, if_pos (by simp; omega)]
  have := ih (j + 1) (by omega) (by omega)
  rw [Zl7 hj] at this
  exact this
  rw [if_neg (by omega), List.take_of_length_le (by omega)]
theorem Ve2 {f : MpT} (hK : 1073741824 ≤ K) (hf : VF ds f) : A9 K f = some (f, 0) := by
 have hl := hf.len
 have hok : Yx1 f = true := by
  unfold Yx1
  rw [List.all_eq_true]
  intro p hp
  rw [List.all_eq_true]
  intro x hx
  have hm := hf.mo p hp
  have : ∃ t, x = p.1 t := by
   unfold l8 at hx
   simp only [List.mem_cons, List.not_mem_nil, or_false] at hx
   rcases hx with h | h | h | h | h | h | h | h <;> exact ⟨_, h⟩
  obtain ⟨t, rfl⟩ := this
  have h1 := hm.lo t
  have h2 := hm.hi t
  simp; omega
 have := Wv8 hK hf K 0 (by omega) (by omega)
 unfold A9 Zt6
 replace this : Za7 K f (f.map Prod.fst) K 0 [] = some (.go f) := this
 rw [if_neg (by omega), if_pos ⟨hok, by omega, by omega⟩, Option.bind_some, this]; rfl
end
/-- a sum over terms -/
def lin (h : A8 → Int) : List (A8 × Int) → Int
 | [] => 0
 | t :: ts => t.2 * h t.1 + lin h ts
theorem Wr9 (h : A8 → Int) {xs ys : List (A8 × Int)} (p : xs.Perm ys) : lin h xs = lin h ys := by
 induction p with
 | nil => rfl
 | cons x _ ih => simp only [lin, ih]
 | swap x y l => simp only [lin]; omega
 | trans _ _ h1 h2 => exact h1.trans h2
theorem Wc8 (h : A8 → Int) (c : Int) : ∀ T, lin h (scl c T) = c * lin h T
 | [] => by simp [scl, lin]
 | t :: T => by
  have ih := Wc8 h c T
  unfold scl at ih ⊢
  rw [List.map_cons, lin, lin, ih, Int.mul_add, Int.mul_assoc]
theorem Xx0 (h : A8 → Int) (p : A8) : ∀ s : MpT, lin h s = lin h (Zk5 s p) + cf p s * h p
 | [] => by simp [lin, Zk5, cf]
 | t :: s => by
  have ih := Xx0 h p s
  unfold Zk5 at ih ⊢
  rw [List.filter_cons]
  by_cases e : t.1 = p
  have e8 : eq8 p t.1 = true := Zi1.2 e.symm
  rw [e8, cf, if_pos e, Int.add_mul, lin, ih, e]
  simp only [Bool.not_true, Bool.false_eq_true, if_false]
  omega
  have e8 : eq8 p t.1 = false := by
   cases hq : eq8 p t.1 with
   | false => rfl
   | true => exact absurd (Zi1.1 hq).symm e
  rw [e8, cf, if_neg e, Int.zero_add]
  simp only [Bool.not_false, if_true, lin]
  rw [ih]; omega
theorem Wr1 {s : MpT} (hs : nfm s = true) (h : A8 → Int) (p : A8) (x : Int) : lin h (Zw6 s p x) % 10007 = (lin h s + x * h p) % 10007 := by
 have h1 := Xx0 h p s
 have h2 := Ya8 p (P8 hs)
 have h3 : ((Q1 s p + x) % 10007) * h p = cf p s * h p + x * h p - 10007 * (((Q1 s p + x) / 10007) * h p) := by
  have e : (Q1 s p + x) % 10007 = (Q1 s p + x) - 10007 * ((Q1 s p + x) / 10007) := by omega
  rw [e, Int.sub_mul, Int.add_mul, h2, Int.mul_assoc]
 unfold Zw6
 split
 rename_i h0
 rw [h0, Int.zero_mul] at h3
 omega
 unfold F6
 rw [Wr9 h (Zt3 _ _), lin]
 dsimp only
 omega
theorem Xt0 (h : A8 → Int) : ∀ (T : List (A8 × Int)) {s : MpT}, nfm s = true → lin h (T7 T s) % 10007 = (lin h s + lin h T) % 10007
 | [], s, _ => by simp [T7, lin]
 | t :: T, s, hs => by
  have h1 := Xt0 h T (Zj3 hs t.1 t.2)
  have h2 := Wr1 hs h t.1 t.2
  rw [T7, h1, lin]
  omega
theorem Ys7 (h : A8 → Int) (T : List (A8 × Int)) : lin h (T7 T []) % 10007 = lin h T % 10007 := by
 have := Xt0 h T B8
 rwa [show lin h [] = 0 from rfl, Int.zero_add] at this
theorem Yq4 (a : A8) (T : List (A8 × Int)) : cf a (T7 T []) % 10007 = cf a T % 10007 := by
 rw [← Ya8 a (P8 (Zd7 T B8)), Yc5 a T B8]
 show (0 + cf a T) % 10007 % 10007 = _
 omega
theorem Wr2 (T : List (A8 × Int)) {s : MpT} (hs : nfm s = true) : T7 (T7 T []) s = T7 T s := by
 refine Xf5 hs hs (fun a => ?_)
 have := Yq4 a T
 omega
/-- the product as a normal sum -/
def Zp0 (ds : List Int) (s t : MpT) : MpT := T7 (D4 ds s t) []
theorem Xs2 (ds : List Int) (a : A8) (z : M5) : ∀ G, cf a (P9 ds z G) = z.2 * cf a (P9 ds (z.1, 1) G)
 | [] => by simp [P9, cf]
 | q :: G => by
  have ih := Xs2 ds a z G
  unfold P9 at ih ⊢
  rw [List.filterMap_cons, List.filterMap_cons]
  dsimp only
  by_cases e : (N4 ds z.1 q.1).2 = 0
  rw [if_pos e, if_pos e]; exact ih
  rw [if_neg e, if_neg e]
  dsimp only
  rw [cf, cf, ih]
  dsimp only
  by_cases e2 : (N4 ds z.1 q.1).1 = a
  rw [if_pos e2, if_pos e2, Int.mul_add, Int.mul_one, Int.mul_comm (N4 ds z.1 q.1).2 z.2, Int.mul_assoc z.2]
  rw [if_neg e2, if_neg e2, Int.mul_add, Int.mul_zero]
theorem Yq6 (ds : List Int) (a : A8) (G : MpT) : ∀ S, cf a (D4 ds S G) = lin (fun p => cf a (P9 ds (p, 1) G)) S
 | [] => rfl
 | z :: S => by
  show cf a (P9 ds z G ++ D4 ds S G) = _
  rw [Yq1, Xs2, Yq6 ds a G S]; rfl
/-- multiples of a factor -/
theorem Wq5 (ds : List Int) (c : Int) (S G : MpT) : Zp0 ds (T7 (scl c S) []) G = T7 (scl c (Zp0 ds S G)) [] := by
 refine Xf5 B8 B8 (fun a => ?_)
 have h1 := Ys7 (fun p => cf a (P9 ds (p, 1) G)) (scl c S)
 have h2 := Yq4 a (D4 ds S G)
 rw [Wc8] at h1
 rw [Yq6] at h2
 rw [Yq6, Yx7]
 show (0 + _) % 10007 = (0 + c * cf a (T7 (D4 ds S G) [])) % 10007
 rw [Int.zero_add, Int.zero_add, h1, Int.mul_emod, ← h2, ← Int.mul_emod]
/-! how many monomials there are -/
def cd : List Int → Int
 | [] => 0
 | x :: xs => x * 14 ^ xs.length + cd xs
theorem Xo4 (n : Nat) : (0 : Int) < 14 ^ n := Int.pow_pos (by decide)
theorem Ys0 : ∀ xs : List Int, (∀ x, x ∈ xs → 0 ≤ x ∧ x ≤ 13) → 0 ≤ cd xs ∧ cd xs < 14 ^ xs.length
 | [], _ => by simp [cd]
 | x :: xs, h => by
  have hx := h x (List.mem_cons_self ..)
  have ih := Ys0 xs (fun y hy => h y (List.mem_cons_of_mem _ hy))
  have hp := Xo4 xs.length
  have h1 : 0 ≤ x * 14 ^ xs.length := Int.mul_nonneg hx.1 (Int.le_of_lt hp)
  have h2 : x * 14 ^ xs.length ≤ 13 * 14 ^ xs.length := Int.mul_le_mul_of_nonneg_right hx.2 (Int.le_of_lt hp)
  rw [cd, List.length_cons, Int.pow_succ]
  omega
theorem Wt7 : ∀ xs ys : List Int, xs.length = ys.length → (∀ x, x ∈ xs → 0 ≤ x ∧ x ≤ 13) → (∀ x, x ∈ ys → 0 ≤ x ∧ x ≤ 13) → Zn5 xs ys = true → cd ys < cd xs
 | [], [], _, _, _, h => by simp [Zn5] at h
 | x :: xs, y :: ys, hl, hx, hy, h => by
  have hl : xs.length = ys.length := by simpa using hl
  have b1 := Ys0 xs (fun z hz => hx z (List.mem_cons_of_mem _ hz))
  have b2 := Ys0 ys (fun z hz => hy z (List.mem_cons_of_mem _ hz))
  rw [Zn5] at h
  rw [cd, cd, hl]
  by_cases e : x = y
  rw [if_pos e] at h
  have := Wt7 xs ys hl (fun z hz => hx z (List.mem_cons_of_mem _ hz)) (fun z hz => hy z (List.mem_cons_of_mem _ hz)) h
  rw [e]; omega
  rw [if_neg e] at h
  have h := of_decide_eq_true h
  have hp := Xo4 ys.length
  have h1 : (y + 1) * 14 ^ ys.length ≤ x * 14 ^ ys.length := Int.mul_le_mul_of_nonneg_right (by omega) (Int.le_of_lt hp)
  rw [Int.add_mul, Int.one_mul] at h1
  omega
theorem Xu2 {α : Type} {g : α → Int} : ∀ (s : List α) (N : Int), s.Pairwise (fun p q => g q < g p) → (∀ t, t ∈ s → 0 ≤ g t ∧ g t < N) → 0 ≤ N → (s.length : Int) ≤ N
 | [], N, _, _, h0 => by simpa using h0
 | t :: s, N, hp, hb, _ => by
  have hp := List.pairwise_cons.1 hp
  have ht := hb t (List.mem_cons_self ..)
  have := Xu2 s (g t) hp.2 (fun u hu => ⟨(hb u (List.mem_cons_of_mem _ hu)).1, hp.1 u hu⟩) ht.1
  rw [List.length_cons]; omega
theorem Xu9 {ds : List Int} {m : A8} (h : Mo 13 ds m) : ∀ x, x ∈ l8 m → 0 ≤ x ∧ x ≤ 13 := by
 intro x hx
 have : ∃ t, x = m t := by
  unfold l8 at hx
  simp only [List.mem_cons, List.not_mem_nil, or_false] at hx
  rcases hx with h | h | h | h | h | h | h | h <;> exact ⟨_, h⟩
 obtain ⟨t, rfl⟩ := this
 exact ⟨h.lo t, h.hi t⟩
theorem Wh1 {ds : List Int} {s : MpT} (hs : nfm s = true) (hm : MoL 13 ds s) : s.length ≤ 1475789056 := by
 have h1 : s.Pairwise (fun p q => cd (l8 q.1) < cd (l8 p.1)) := by
  refine List.Pairwise.imp_of_mem (fun {p q} hp hq hb => ?_) (P8 hs)
  exact Wt7 _ _ rfl (Xu9 (hm p hp)) (Xu9 (hm q hq)) hb
 have h2 := Xu2 (g := fun t : A8 × Int => cd (l8 t.1)) s 1475789056 h1 (fun t ht => ?_) (by decide)
 omega
 have := Ys0 (l8 t.1) (Xu9 (hm t ht))
 have e : (14 : Int) ^ (l8 t.1).length = 1475789056 := by show (14 : Int) ^ 8 = _; decide
 rw [e] at this; exact this
theorem Wb8 (ds : List Int) (p q : A8) : ∀ n, wtN ds (Zq8 p q) n = wtN ds p n + wtN ds q n
 | 0 => rfl
 | n + 1 => by rw [wtN, wtN, wtN, Wb8 ds p q n, Yr4, Int.mul_add]; omega
theorem Wb4 (ds : List Int) : ∀ n, wtN ds (fun _ => 0) n = 0
 | 0 => rfl
 | n + 1 => by rw [wtN, Wb4 ds n]; simp [Y5]
theorem Ys2 {ds : List Int} {m : A8} (hd : okD ds = true) (lo : ∀ i, 0 ≤ m i) : ∀ n : Nat, n ≤ ds.length → 0 ≤ wtN ds m n ∧ ∀ j, j < n → Y5 m (j : Int) ≤ wtN ds m n
 | 0, _ => ⟨by simp [wtN], fun j hj => by omega⟩
 | n + 1, h => by
  obtain ⟨h1, h2⟩ := Ys2 hd lo n (by omega)
  have hn := D8 hd _ (V7 (show n < ds.length by omega))
  have hi : 0 ≤ Y5 m (n : Int) := by
   by_cases h8 : n < 8
   rw [T9 m h8]; exact lo _
   have := T6 hd; omega
  have h3 : 1 * Y5 m (n : Int) ≤ rd ds (n : Int) * Y5 m (n : Int) := Int.mul_le_mul_of_nonneg_right hn.1 hi
  rw [Int.one_mul] at h3
  rw [wtN]
  refine ⟨by omega, fun j hj => ?_⟩
  by_cases e : j = n
  subst e; omega
  have := h2 j (by omega); omega
theorem Xv2 {ds : List Int} {B : Int} {m : A8} (hd : okD ds = true) (hm : Mo B ds m) (hw : wt ds m ≤ 13) : Mo 13 ds m := by
 refine ⟨hm.lo, fun i => ?_, hm.odd, hm.out⟩
 by_cases h : i.val < ds.length
 have := (Ys2 hd hm.lo ds.length (Nat.le_refl _)).2 i.val h
 rw [T9 m i.isLt] at this
 unfold wt at hw
 exact Int.le_trans this hw
 rw [hm.out i (by omega)]; decide
/-- a normal sum, homogeneous of small degree -/
structure Hm (u : Int) (ds : List Int) (s : MpT) : Prop where
 nf : nfm s = true
 mo : MoL 13 ds s
 w : ∀ t, t ∈ s → wt ds t.1 = u
theorem Hm.len {u : Int} {ds : List Int} {s : MpT} (h : Hm u ds s) : s.length ≤ 1475789056 := Wh1 h.nf h.mo
theorem Hm.nil (u : Int) (ds : List Int) : Hm u ds [] := ⟨B8, fun t ht => (by cases ht), fun t ht => (by cases ht)⟩
theorem Hm.vf {u : Int} {ds : List Int} {s : MpT} (h : Hm u ds s) (hl : s.length ≤ 400) : VF ds s :=
 ⟨h.nf, fun t ht => ⟨(h.mo t ht).lo, fun i => Int.le_trans ((h.mo t ht).hi i) (by decide), (h.mo t ht).odd, (h.mo t ht).out⟩, hl⟩
theorem Vg6 {u : Int} {ds : List Int} {f : MpT} (hd : okD ds = true) (hf : VF ds f) (hw : ∀ t, t ∈ f → wt ds t.1 = u) (hu : u ≤ 13) : Hm u ds f :=
 ⟨hf.nf, fun t ht => Xv2 hd (hf.mo t ht) (by rw [hw t ht]; exact hu), hw⟩
section
variable {K : Nat} {ds : List Int}
theorem Ww2 {u v : Int} {p q : A8} (hd : okD ds = true) (huv : u + v ≤ 13) (hp : Mo 13 ds p) (hq : Mo 13 ds q) (hpw : wt ds p = u) (hqw : wt ds q = v) (hn : (N4 ds p q).2 ≠ 0) :
 Mo 13 ds (N4 ds p q).1 ∧ wt ds (N4 ds p q).1 = u + v := by
 have hw : wt ds (N4 ds p q).1 = u + v := by
  rw [(Yf6 hn).1]
  unfold wt at hpw hqw ⊢
  rw [Wb8, hpw, hqw]
 exact ⟨Xv2 hd (hp.mul hq hn) (by omega), hw⟩
theorem Xs4 {u v : Int} {z : M5} {G : MpT} (hd : okD ds = true) (huv : u + v ≤ 13) (hz : Mo 13 ds z.1) (hzw : wt ds z.1 = u) (hG : Hm v ds G) : ∀ r, r ∈ P9 ds z G → Mo 13 ds r.1 ∧ wt ds r.1 = u + v := by
 intro r hr
 obtain ⟨q, hq, hn, e⟩ := Xi9 r hr
 rw [e]
 exact Ww2 hd huv hz (hG.mo q hq) hzw (hG.w q hq) hn
theorem Wu7 {u v : Int} {S G : MpT} (hd : okD ds = true) (huv : u + v ≤ 13) (hS : Hm u ds S) (hG : Hm v ds G) : ∀ r, r ∈ D4 ds S G → Mo 13 ds r.1 ∧ wt ds r.1 = u + v := by
 intro r hr
 obtain ⟨z, hz, hr⟩ := List.mem_flatMap.1 hr
 exact Xs4 hd huv (hS.mo z hz) (hS.w z hz) hG r hr
theorem Yy0 {u : Int} {T s : MpT} (hT : ∀ r, r ∈ T → Mo 13 ds r.1 ∧ wt ds r.1 = u) (hs : Hm u ds s) : Hm u ds (T7 T s) := by
 refine ⟨Zd7 _ hs.nf, fun q hq => ?_, fun q hq => ?_⟩
 rcases Yi6 hq with ⟨t, ht, e⟩ | ⟨t, ht, e⟩
 rw [← e]; exact (hT t ht).1
 rw [← e]; exact hs.mo t ht
 rcases Yi6 hq with ⟨t, ht, e⟩ | ⟨t, ht, e⟩
 rw [← e]; exact (hT t ht).2
 rw [← e]; exact hs.w t ht
theorem Wc9 {u v : Int} {S G : MpT} (hd : okD ds = true) (huv : u + v ≤ 13) (hS : Hm u ds S) (hG : Hm v ds G) : Hm (u + v) ds (Zp0 ds S G) := Yy0 (Wu7 hd huv hS hG) (Hm.nil _ _)
theorem Xy7 {u v : Int} {f g : MpT} (hK : 1099511627776 ≤ K) (hd : okD ds = true) (huv : u + v ≤ 13) (hf : Hm u ds f) (hg : Hm v ds g) :
 ∀ (k i : Nat) (acc : MpT), f.length < i + k → i ≤ f.length → Hm (u + v) ds acc → K7 K ds f g k i acc = some (.go (T7 (D4 ds (f.drop i) g) acc)) := by
 intro k
 induction k with
 | zero => intro i acc h1 h2; omega
 | succ k ih =>
  intro i acc h1 h2 ha
  rw [K7]
  by_cases hi : i < f.length
  have hz := hf.mo _ (V7 hi)
  have hz2 := Za8 hf.nf _ (V7 hi)
  have hgl := hg.len
  have hal := ha.len
  have hsl : (shf ds ((rd f (i : Int)).1, (rd f (i : Int)).2) g).length ≤ g.length := Wa7 _ g
  have ha2 := Yy0 (Xs4 (z := rd f (i : Int)) hd huv hz (hf.w _ (V7 hi)) hg) ha
  rw [if_pos (by omega), Wb3 (B := 13) (C := 13) (z := ((rd f (i : Int)).1, (rd f (i : Int)).2)) (by omega) hd hz hz2 (by decide) hg.mo (Za8 hg.nf) (by omega) (by omega), Option.bind_some,
   Xg9 (by omega) (by omega) (by omega) (Za8 ha.nf) Xp9 (by omega) (by omega), Option.bind_some, Yp8 ha.nf (Xa7 (P8 hg.nf)), Yz9]
  have := ih (i + 1) (T7 (P9 ds (rd f (i : Int)) g) acc) (by omega) (by omega) ha2
  refine Eq.trans this ?_
  rw [Zv6 hi]
  show _ = some (Ex.go (T7 (P9 ds (rd f (i : Int)) g ++ D4 ds (f.drop (i + 1)) g) acc))
  rw [Yf3]
  rw [if_neg (by omega), List.drop_eq_nil_of_le (by omega)]; rfl
theorem Xv0 {u v : Int} {f g : MpT} (hK : 1099511627776 ≤ K) (hd : okD ds = true) (huv : u + v ≤ 13) (hf : Hm u ds f) (hg : Hm v ds g) : A0 K ds f g = some (Zp0 ds f g) := by
 have hl := hf.len
 have := Xy7 (K := K) hK hd huv hf hg K 0 [] (by omega) (by omega) (Hm.nil _ _)
 unfold A0
 replace this : K7 K ds f g K 0 [] = some (.go (Zp0 ds f g)) := this
 rw [this]; rfl
theorem Xo8 {u v : Int} {f g : MpT} (hK : 1099511627776 ≤ K) (hd : okD ds = true) (hf : Hm u ds f) (hg : Hm v ds g) : J8 K f ds g = some (Zp0 ds f g) := by
 have hl := hf.len
 have hl2 := hg.len
 exact Xe7 (B := 13) (C := 13) (by omega) hd (by decide) (by decide) (by decide) hf.mo (Za8 hf.nf) hg.mo (Za8 hg.nf) (by omega) (by omega)
/-! powers -/
def pwL (ds : List Int) (g : MpT) : Nat → MpT
 | 0 => [((fun _ => 0), 1)]
 | n + 1 => Zp0 ds (pwL ds g n) g
theorem Wi1 {c : Int} (hc : 1 ≤ c ∧ c ≤ 10006) : Hm 0 ds [((fun _ => 0), c)] := by
 refine ⟨Ye7 (List.pairwise_singleton _ _) (fun q hq => ?_), fun t ht => ?_, fun t ht => ?_⟩
 cases List.mem_singleton.1 hq; exact hc
 cases List.mem_singleton.1 ht; exact ⟨fun _ => (show (0 : Int) ≤ 0 by decide), fun _ => (show (0 : Int) ≤ 13 by decide), fun n _ _ => by simp [Y5], fun _ _ => rfl⟩
 cases List.mem_singleton.1 ht; exact Wb4 ds _
theorem Yi3 {v : Int} {g : MpT} (hd : okD ds = true) (hv : 0 ≤ v) (hg : Hm v ds g) : ∀ n : Nat, (n : Int) * v ≤ 13 → Hm ((n : Int) * v) ds (pwL ds g n)
 | 0, _ => by rw [show ((0 : Nat) : Int) * v = 0 by simp]; exact Wi1 (by decide)
 | n + 1, h => by
  have e : ((n + 1 : Nat) : Int) * v = (n : Int) * v + v := by rw [Int.natCast_add, Int.add_mul]; simp
  rw [e] at h ⊢
  exact Wc9 hd h (Yi3 hd hv hg n (by omega)) hg
theorem Xy5 {v : Int} {g : MpT} (hK : 1099511627776 ≤ K) (hd : okD ds = true) (hv : 0 ≤ v) (hg : Hm v ds g) : ∀ (k x e : Nat), x < k → x ≤ 255 → ((e + x : Nat) : Int) * v ≤ 13 →
 Za5 K ds g k x (pwL ds g e) = some (.go (pwL ds g (e + x))) := by
 intro k
 induction k with
 | zero => intro x e h; omega
 | succ k ih =>
  intro x e h1 h2 h3
  rw [Za5]
  by_cases hx : 0 < x
  have h4 : ((e : Nat) : Int) * v ≤ ((e + x : Nat) : Int) * v := Int.mul_le_mul_of_nonneg_right (by omega) hv
  have h5 : ((e + 1 : Nat) : Int) * v ≤ ((e + x : Nat) : Int) * v := Int.mul_le_mul_of_nonneg_right (by omega) hv
  have e1 : ((e + 1 : Nat) : Int) * v = (e : Int) * v + v := by rw [Int.natCast_add, Int.add_mul]; simp
  rw [if_pos (by omega), Xv0 hK hd (by omega) (Yi3 hd hv hg e (by omega)) hg, Option.bind_some, Xr5 (by omega)]
  have := ih (x - 1) (e + 1) (by omega) (by omega) (by rw [show e + 1 + (x - 1) = e + x by omega]; exact h3)
  rw [show e + 1 + (x - 1) = e + x by omega] at this
  rw [show (x : Int) - 1 = ((x - 1 : Nat) : Int) by omega]
  exact this
  rw [if_neg (by omega), show x = 0 by omega]; rfl
theorem Wo1 {v : Int} {g : MpT} {e : Nat} (hK : 1099511627776 ≤ K) (hd : okD ds = true) (hv : 0 ≤ v) (hg : Hm v ds g) (he : e ≤ 255) (h : (e : Int) * v ≤ 13) : Zs2 K ds g e = some (pwL ds g e) := by
 have := Xy5 (K := K) hK hd hv hg K e 0 (by omega) he (by rw [Nat.zero_add]; exact h)
 rw [Nat.zero_add] at this
 unfold Zs2
 rw [Ys6, Option.bind_some]
 replace this : Za5 K ds g K e [((fun _ => 0), 1)] = _ := this
 rw [this]; rfl
theorem Wh9 {v : Int} {fr : List Int} {ms : List MpT} {j : Nat} (hK : 1099511627776 ≤ K) (hd : okD ds = true) (hv : 0 ≤ v) (hj : j < ms.length) (hg : Hm v ds (rd ms (j : Int))) :
 ∀ n : Nat, (n : Int) * v ≤ 13 → pwN K (fr, ds, ms) j n = some (pwL ds (rd ms (j : Int)) n)
 | 0, _ => by
  rw [pwN]
  show some (F6 ([] : MpT) (fun _ => 0) 1) = _
  rfl
 | n + 1, h => by
  have e : ((n + 1 : Nat) : Int) * v = (n : Int) * v + v := by rw [Int.natCast_add, Int.add_mul]; simp
  rw [e] at h
  rw [pwN, if_pos ⟨by omega, by exact Int.ofNat_lt.2 hj⟩, Wh9 hK hd hv hj hg n (by omega), Option.bind_some]
  exact Xo8 hK hd (Yi3 hd hv hg n (by omega)) hg
/-! where a monomial is led -/
def prT (ds : List Int) (ms : List MpT) (m : A8) (c : Int) : Nat → MpT
 | 0 => [((fun _ => 0), c)]
 | j + 1 => if 0 < Y5 m (j : Int) then Zp0 ds (prT ds ms m c j) (pwL ds (rd ms (j : Int)) (Y5 m (j : Int)).toNat) else prT ds ms m c j
/-- forms for generators, each of its degree -/
structure Lds (sd ds : List Int) (ms : List MpT) : Prop where
 src : okD sd = true
 dst : okD ds = true
 len : ms.length = sd.length
 hm : ∀ j, j < ms.length → Hm (rd sd (j : Int)) ds (rd ms (j : Int))
variable {sd : List Int} {ms : List MpT}
theorem Wx8 {m : A8} (hd : okD sd = true) (lo : ∀ i, 0 ≤ m i) (hw : wt sd m ≤ 13) : ∀ n, n ≤ sd.length → wtN sd m n ≤ 13 := by
 have key : ∀ d n, n + d = sd.length → wtN sd m n ≤ wt sd m := by
  intro d
  induction d with
  | zero => intro n h; rw [show n = sd.length by omega]; exact Int.le_refl _
  | succ d ih =>
   intro n h
   have h1 := ih (n + 1) (by omega)
   have hn := D8 hd _ (V7 (show n < sd.length by omega))
   have hl := T6 hd
   have hi : 0 ≤ Y5 m (n : Int) := by rw [T9 m (show n < 8 by omega)]; exact lo _
   have := Int.mul_nonneg (show 0 ≤ rd sd (n : Int) by omega) hi
   rw [wtN] at h1; omega
 intro n hn
 exact Int.le_trans (key (sd.length - n) n (by omega)) hw
theorem Xh1 {m : A8} {j : Nat} (hL : Lds sd ds ms) (lo : ∀ i, 0 ≤ m i) (hw : wt sd m ≤ 13) (hj : j < sd.length) :
 0 ≤ rd sd (j : Int) ∧ 0 ≤ Y5 m (j : Int) ∧ Y5 m (j : Int) ≤ 13 ∧ (((Y5 m (j : Int)).toNat : Nat) : Int) * rd sd (j : Int) ≤ 13 ∧ wtN sd m j + (((Y5 m (j : Int)).toNat : Nat) : Int) * rd sd (j : Int) = wtN sd m (j + 1) ∧ wtN sd m (j + 1) ≤ 13 := by
 have hl := T6 hL.src
 have h1 := Wx8 hL.src lo hw (j + 1) (by omega)
 have hn := D8 hL.src _ (V7 hj)
 have hi : 0 ≤ Y5 m (j : Int) := by rw [T9 m (show j < 8 by omega)]; exact lo _
 have h2 := Ys2 hL.src lo j (by omega)
 have h3 := (Ys2 hL.src lo (j + 1) (by omega)).2 j (by omega)
 have e : wtN sd m j + (((Y5 m (j : Int)).toNat : Nat) : Int) * rd sd (j : Int) = wtN sd m (j + 1) := by
  rw [wtN, Int.toNat_of_nonneg hi, Int.mul_comm]
 exact ⟨by omega, hi, by omega, by omega, e, h1⟩
theorem Yh6 {m : A8} {c : Int} (hL : Lds sd ds ms) (lo : ∀ i, 0 ≤ m i) (hw : wt sd m ≤ 13) (hc : 1 ≤ c ∧ c ≤ 10006) : ∀ j, j ≤ sd.length → Hm (wtN sd m j) ds (prT ds ms m c j)
 | 0, _ => Wi1 hc
 | j + 1, h => by
  obtain ⟨h1, h2, h3, h4, h5, h6⟩ := Xh1 hL lo hw (show j < sd.length by omega)
  have ih := Yh6 hL lo hw hc j (by omega)
  rw [prT]
  split
  rw [← h5]
  exact Wc9 hL.dst (by omega) ih (Yi3 hL.dst h1 (hL.hm j (by rw [hL.len]; omega)) _ h4)
  rename_i h0
  have e : Y5 m (j : Int) = 0 := by omega
  rw [wtN, e, Int.mul_zero, Int.add_zero]; exact ih
theorem Xm6 (m : A8) {c : Int} (hc : 1 ≤ c ∧ c ≤ 10006) : ∀ j, prT ds ms m c j = T7 (scl c (prT ds ms m 1 j)) []
 | 0 => by
  show [((fun _ => 0), c)] = T7 [((fun _ => 0), c * 1)] []
  rw [Int.mul_one]
  exact (Yc6 (Ye7 (List.pairwise_singleton _ _) (fun q hq => by cases List.mem_singleton.1 hq; exact hc))).symm
 | j + 1 => by
  rw [prT, prT]
  split
  rw [Xm6 m hc j, Wq5]
  exact Xm6 m hc j
def Yk1 (ds : List Int) (ms : List MpT) (n : Nat) (f : MpT) : MpT := f.flatMap fun t => prT ds ms t.1 t.2 n
/-- a form that can be led -/
structure Led (sd : List Int) (f : MpT) : Prop where
 lo : ∀ t, t ∈ f → ∀ i, 0 ≤ t.1 i
 w : ∀ t, t ∈ f → wt sd t.1 ≤ 13
 c : ∀ t, t ∈ f → 1 ≤ t.2 ∧ t.2 ≤ 10006
theorem Wj7 {f : MpT} {x0 c : Int} (hK : 1099511627776 ≤ K) (hL : Lds sd ds ms) (lo : ∀ i, 0 ≤ (rd f x0).1 i) (hw : wt sd (rd f x0).1 ≤ 13) (hc : 1 ≤ c ∧ c ≤ 10006) :
 ∀ (k j : Nat), ms.length < j + k → j ≤ ms.length → E3 K ds ms f x0 k j (prT ds ms (rd f x0).1 c j) = some (.go (prT ds ms (rd f x0).1 c ms.length)) := by
 have hl := T6 hL.src
 have hml := hL.len
 intro k
 induction k with
 | zero => intro j h1 h2; omega
 | succ k ih =>
  intro j h1 h2
  rw [E3]
  by_cases hj : j < ms.length
  obtain ⟨w1, w2, w3, w4, w5, w6⟩ := Xh1 hL lo hw (show j < sd.length by omega)
  have ih' := ih (j + 1) (by omega) (by omega)
  rw [prT] at ih'
  rw [if_pos (by omega), if_pos (by omega)]
  by_cases h0 : 0 < Y5 (rd f x0).1 (j : Int)
  rw [if_pos h0] at ih' ⊢
  have hpw := Wo1 (K := K) (e := (Y5 (rd f x0).1 (j : Int)).toNat) hK hL.dst w1 (hL.hm j hj) (by omega) w4
  rw [Int.toNat_of_nonneg w2] at hpw
  rw [hpw, Option.bind_some, Xv0 hK hL.dst (by omega) (Yh6 hL lo hw hc j (by omega)) (Yi3 hL.dst w1 (hL.hm j hj) _ w4), Option.bind_some]
  exact ih'
  rw [if_neg h0] at ih' ⊢
  exact ih'
  rw [if_neg (by omega), show j = ms.length by omega]
theorem Wp1 {z : M5} (hK : 1099511627776 ≤ K) (hL : Lds sd ds ms) (lo : ∀ i, 0 ≤ z.1 i) (hw : wt sd z.1 ≤ 13) :
 ∀ (k j : Nat), sd.length < j + k → j ≤ sd.length → S0 K (sd, ds, ms) z k (prT ds ms z.1 1 j) j = some (.go (prT ds ms z.1 1 sd.length)) := by
 have hl := T6 hL.src
 have hml := hL.len
 intro k
 induction k with
 | zero => intro j h1 h2; omega
 | succ k ih =>
  intro j h1 h2
  rw [S0]
  dsimp only
  by_cases hj : j < sd.length
  obtain ⟨w1, w2, w3, w4, w5, w6⟩ := Xh1 hL lo hw hj
  have ih' := ih (j + 1) (by omega) (by omega)
  rw [prT] at ih'
  rw [if_pos (by omega), if_pos (by omega)]
  by_cases h0 : 0 < Y5 z.1 (j : Int)
  rw [if_pos h0] at ih' ⊢
  have hpw : L0 K (sd, ds, ms) j (Y5 z.1 (j : Int)) = some (pwL ds (rd ms (j : Int)) (Y5 z.1 (j : Int)).toNat) := by
   unfold L0
   rw [if_pos (by omega)]
   exact Wh9 hK hL.dst w1 (by omega) (hL.hm j (by omega)) _ w4
  rw [hpw, Option.bind_some, Xo8 hK hL.dst (Yh6 hL lo hw (by decide) j (by omega)) (Yi3 hL.dst w1 (hL.hm j (by omega)) _ w4), Option.bind_some]
  exact ih'
  rw [if_neg h0] at ih' ⊢
  exact ih'
  rw [if_neg (by omega), show j = sd.length by omega]
/-- a sum whose monomials are small -/
theorem Xt9 {T s : MpT} (hT : MoL 13 ds T) (hs : MoL 13 ds s) : MoL 13 ds (T7 T s) := by
 intro q hq
 rcases Yi6 hq with ⟨t, ht, e⟩ | ⟨t, ht, e⟩
 rw [← e]; exact hT t ht
 rw [← e]; exact hs t ht
theorem Wm1 {f : MpT} (hK : 1099511627776 ≤ K) (hL : Lds sd ds ms) (hf : Led sd f) (hfl : f.length ≤ 2000000) :
 ∀ (k j : Nat) (out : MpT), f.length < j + k → j ≤ f.length → nfm out = true → MoL 13 ds out →
  Za3 K ds ms f k j out = some (.go (T7 (Yk1 ds ms ms.length (f.drop j)) out)) := by
 have hl := T6 hL.src
 have hml := hL.len
 intro k
 induction k with
 | zero => intro j out h1 h2; omega
 | succ k ih =>
  intro j out h1 h2 ho hom
  rw [Za3]
  by_cases hj : j < f.length
  have hm := V7 hj
  have hc := hf.c _ hm
  have hs : F0 K (fun _ => 0) (rd f (j : Int)).2 = some (prT ds ms (rd f (j : Int)).1 (rd f (j : Int)).2 0) := by
   unfold F0
   rw [Yi2, Option.bind_some, if_neg (by omega), show (rd f (j : Int)).2 % 10007 = (rd f (j : Int)).2 by omega]; rfl
  have hin := Wj7 (K := K) (f := f) (x0 := j) hK hL (hf.lo _ hm) (hf.w _ hm) hc K 0 (by omega) (by omega)
  replace hin : E3 K ds ms f j K 0 (prT ds ms (rd f (j : Int)).1 (rd f (j : Int)).2 0) = _ := hin
  have hp := Yh6 hL (hf.lo _ hm) (hf.w _ hm) hc ms.length (by omega)
  have hpl := hp.len
  have hol := Wh1 ho hom
  rw [if_pos (by omega), hs, Option.bind_some, hin, Option.bind_some]
  show (Zf6 K out _ 1).bind _ = _
  rw [Xg9 (by omega) (by omega) (by omega) (Za8 ho) (Za8 hp.nf) (by omega) (by omega), Option.bind_some, Yp8 ho (P8 hp.nf)]
  have e1 : scl 1 (prT ds ms (rd f (j : Int)).1 (rd f (j : Int)).2 ms.length) = prT ds ms (rd f (j : Int)).1 (rd f (j : Int)).2 ms.length := by
   unfold scl
   conv => rhs; rw [← List.map_id (prT ds ms (rd f (j : Int)).1 (rd f (j : Int)).2 ms.length)]
   exact List.map_congr_left (fun t _ => by rw [Int.one_mul]; rfl)
  rw [e1]
  have := ih (j + 1) _ (by omega) (by omega) (Zd7 _ ho) (Xt9 hp.mo hom)
  refine Eq.trans this ?_
  rw [Zv6 hj]
  show _ = some (Ex.go (T7 (prT ds ms (rd f (j : Int)).1 (rd f (j : Int)).2 ms.length ++ Yk1 ds ms ms.length (f.drop (j + 1))) out))
  rw [Yf3]
  rw [if_neg (by omega), List.drop_eq_nil_of_le (by omega)]; rfl
/-- where forms lead a form -/
def N8 (ds : List Int) (ms : List MpT) (n : Nat) (f : MpT) : MpT := T7 (Yk1 ds ms n f) []
theorem Xf9 {f : MpT} (hK : 1099511627776 ≤ K) (hL : Lds sd ds ms) (hf : Led sd f) (hfl : f.length ≤ 2000000) : Zj8 K ds ms f = some (N8 ds ms sd.length f) := by
 have := Wm1 (K := K) hK hL hf hfl K 0 [] (by omega) (by omega) B8 (fun t ht => by cases ht)
 rw [hL.len] at this
 unfold Zj8
 replace this : Za3 K ds ms f K 0 [] = some (.go (N8 ds ms sd.length f)) := this
 rw [this]; rfl
theorem Xg0 (hK : 1099511627776 ≤ K) (hL : Lds sd ds ms) :
 ∀ (k : Nat) (f out : MpT), f.length < k → Led sd f → nfm out = true → MoL 13 ds out → S1 K (sd, ds, ms) k f out = some (.go (T7 (Yk1 ds ms sd.length f) out))
 | 0, _, _, h, _, _, _ => by omega
 | k + 1, [], out, _, _, _, _ => by rw [S1]; rfl
 | k + 1, z :: f, out, h, hf, ho, hom => by
  have hl := T6 hL.src
  have hm : z ∈ z :: f := List.mem_cons_self ..
  have hc := hf.c _ hm
  have hin := Wp1 (K := K) hK hL (hf.lo _ hm) (hf.w _ hm) K 0 (by omega) (by omega)
  replace hin : S0 K (sd, ds, ms) z K (F6 ([] : MpT) (fun _ => 0) 1) 0 = _ := hin
  have hp1 := Yh6 hL (hf.lo _ hm) (hf.w _ hm) (show 1 ≤ (1 : Int) ∧ (1 : Int) ≤ 10006 by decide) sd.length (Nat.le_refl _)
  have hp := Yh6 hL (hf.lo _ hm) (hf.w _ hm) hc sd.length (Nat.le_refl _)
  have hpl := hp1.len
  have e1 : T7 (scl z.2 (prT ds ms z.1 1 sd.length)) out = T7 (prT ds ms z.1 z.2 sd.length) out := by rw [Xm6 z.1 hc, Wr2 _ ho]
  rw [List.length_cons] at h
  rw [S1]
  show ((S0 K (sd, ds, ms) z K (F6 ([] : MpT) (fun _ => 0) 1) 0).bind _) = _
  rw [hin, Option.bind_some]
  show (N0 K out (prT ds ms z.1 1 sd.length) z.2).bind _ = _
  rw [Xd6 (by omega) (by omega) (Za8 hp1.nf) ho, Option.bind_some, e1,
   Xg0 hK hL k f _ (by omega) ⟨fun t ht => hf.lo t (List.mem_cons_of_mem _ ht), fun t ht => hf.w t (List.mem_cons_of_mem _ ht), fun t ht => hf.c t (List.mem_cons_of_mem _ ht)⟩ (Zd7 _ ho) (Xt9 hp.mo hom), ← Yf3]
  rfl
theorem Xl6 {f : MpT} (hK : 1099511627776 ≤ K) (hL : Lds sd ds ms) (hf : Led sd f) (hfl : f.length ≤ 2000000) : M4 K (sd, ds, ms) f = some (N8 ds ms sd.length f) := by
 have := Xg0 (K := K) hK hL K f [] (by omega) hf B8 (fun t ht => by cases ht)
 unfold M4
 replace this : S1 K (sd, ds, ms) K f [] = some (.go (N8 ds ms sd.length f)) := this
 rw [this]; rfl
theorem Zz4 {u : Int} {f : MpT} (h : Hm u sd f) (hu : u ≤ 13) : Led sd f := ⟨fun t ht => (h.mo t ht).lo, fun t ht => by rw [h.w t ht]; exact hu, fun t ht => Zu0 h.nf t ht⟩
theorem Zr7 {u : Int} {f : MpT} (hL : Lds sd ds ms) (hf : Hm u sd f) (hu : u ≤ 13) : Hm u ds (N8 ds ms sd.length f) := by
 refine Yy0 (fun r hr => ?_) (Hm.nil _ _)
 obtain ⟨t, ht, hr⟩ := List.mem_flatMap.1 hr
 have hl := Zz4 hf hu
 have hp := Yh6 hL (hl.lo t ht) (hl.w t ht) (hl.c t ht) sd.length (Nat.le_refl _)
 have e : wtN sd t.1 sd.length = u := hf.w t ht
 rw [e] at hp
 exact ⟨hp.mo r hr, hp.w r hr⟩
end
section
variable {K : Nat} {ds : List Int}
theorem Xm9 {u : Int} {f : MpT} (hK : 1099511627776 ≤ K) (hf : Hm u ds f) : A9 K f = some (if 400 < f.length then ([], 3) else (f, 0)) := by
 by_cases h : 400 < f.length
 unfold A9
 rw [if_pos (by omega), if_pos h]
 rw [if_neg h, Ve2 (by omega) (hf.vf (by omega))]
theorem Vh3 {u : Int} {f : MpT} (hK : 1099511627776 ≤ K) (hd : okD ds = true) (hf : Hm u ds f) : Zp7 K ds f = some (decide (f.length ≤ 400)) := by
 have hl := hf.len
 rw [Wu3 (by omega) (by omega) (by omega) hd (fun t ht => (hf.mo t ht).byt (by decide))]
 by_cases h : f.length ≤ 400
 rw [Ve0 (hf.vf h), decide_eq_true h]
 unfold okF
 rw [decide_eq_false h, Bool.and_false]
/-! inverses -/
def ivN : Nat → Nat → Nat → Nat → Nat
 | 0, out, _, _ => out
 | n + 1, out, sq, k => ivN n (if k % 2 = 1 then out * sq % 10007 else out) (sq * sq % 10007) (k / 2)
def inv (c : Int) : Int := (ivN 14 1 c.toNat 10005 : Nat)
set_option maxRecDepth 100000 in
theorem Va3 : (List.range 10007).all (fun c => decide (c = 0) || (decide (1 ≤ ivN 14 1 c 10005) && decide (ivN 14 1 c 10005 ≤ 10006))) = true := by decide +kernel
theorem Ww6 {c : Int} (hc : 1 ≤ c ∧ c ≤ 10006) : 1 ≤ inv c ∧ inv c ≤ 10006 := by
 have h := List.all_eq_true.1 Va3 c.toNat (List.mem_range.2 (by omega))
 rw [Bool.or_eq_true, Bool.and_eq_true] at h
 rcases h with h | ⟨h1, h2⟩
 have := of_decide_eq_true h; omega
 have h1 := of_decide_eq_true h1
 have h2 := of_decide_eq_true h2
 unfold inv; omega
theorem Ve5 {a b : Nat} (ha : a ≤ 10006) (hb : b ≤ 10006) : a * b ≤ 100120036 := Nat.mul_le_mul ha hb
theorem Xi3 (a b : Nat) : (((a : Int) * (b : Int))).tmod 10007 = ((a * b % 10007 : Nat) : Int) := by
 rw [← Int.natCast_mul, Int.tmod_eq_emod_of_nonneg (by omega)]; rfl
theorem Wj9 (x : Nat) (h : x ≤ 1000000) : IntKind.i64.wrap ((x : Int).tdiv 2) = ((x / 2 : Nat) : Int) := by
 rw [Int.tdiv_eq_ediv_of_nonneg (by omega)]
 show IntKind.i64.wrap ((x / 2 : Nat) : Int) = _
 exact IntWalk.i64_in _ (by omega)
theorem Xh4 (x : Nat) : ((x : Int).tmod 2 = 1) ↔ x % 2 = 1 := by
 rw [Int.tmod_eq_emod_of_nonneg (by omega)]; omega
theorem Xr0 {a b : Nat} (ha : a ≤ 10006) (hb : b ≤ 10006) : IntKind.i64.wrap ((a : Int) * (b : Int)) = (a : Int) * (b : Int) := by
 have := Ve5 ha hb
 exact IntWalk.i64_in _ (by rw [← Int.natCast_mul]; omega)
theorem Xf4 : ∀ n out sq, ivN n out sq 0 = out
 | 0, _, _ => rfl
 | n + 1, out, sq => by rw [ivN, if_neg (by omega)]; exact Xf4 n _ _
theorem Yi9 : ∀ (n k out sq x : Nat), n < k → x < 2 ^ n → x ≤ 1000000 → out ≤ 10006 → sq ≤ 10006 → N9 K k out sq x = some (.go (ivN n out sq x : Nat))
 | 0, k + 1, out, sq, x, _, h2, _, _, _ => by
  rw [N9, if_neg (by simp at h2; omega)]; rfl
 | n + 1, k + 1, out, sq, x, h1, h2, hx, h3, h4 => by
  have h5 : out * sq % 10007 ≤ 10006 := by omega
  have h6 : sq * sq % 10007 ≤ 10006 := by omega
  have h7 : x / 2 < 2 ^ n := by rw [Nat.pow_succ] at h2; omega
  rw [N9]
  by_cases h0 : 0 < x
  rw [if_pos (by omega), ivN]
  unfold Zj4
  rw [Xr0 h4 h4, Xr0 h3 h4, Xi3, Xi3, Wj9 x hx]
  by_cases ho : x % 2 = 1
  rw [if_pos ((Xh4 x).2 ho), if_pos ho]
  exact Yi9 n k _ _ _ (by omega) h7 (by omega) h5 h6
  rw [if_neg (fun h => ho ((Xh4 x).1 h)), if_neg ho]
  exact Yi9 n k _ _ _ (by omega) h7 (by omega) h3 h6
  rw [if_neg (by omega), show x = 0 by omega, Xf4]
theorem Yj0 : ∀ (n k out sq x : Nat), n < k → x < 2 ^ n → x ≤ 1000000 → out ≤ 10006 → sq ≤ 10006 → I3 K k sq out x = some (.go (ivN n out sq x : Nat))
 | 0, k + 1, out, sq, x, _, h2, _, _, _ => by
  rw [I3, if_neg (by simp at h2; omega)]; rfl
 | n + 1, k + 1, out, sq, x, h1, h2, hx, h3, h4 => by
  have h5 : out * sq % 10007 ≤ 10006 := by omega
  have h6 : sq * sq % 10007 ≤ 10006 := by omega
  have h7 : x / 2 < 2 ^ n := by rw [Nat.pow_succ] at h2; omega
  rw [I3]
  by_cases h0 : 0 < x
  rw [if_pos (by omega), ivN]
  unfold Zo2
  rw [Xr0 h4 h4, Xr0 h3 h4, Xi3, Xi3, Wj9 x hx]
  by_cases ho : x % 2 = 1
  rw [if_pos ((Xh4 x).2 ho), if_pos ho]
  exact Yj0 n k _ _ _ (by omega) h7 (by omega) h5 h6
  rw [if_neg (fun h => ho ((Xh4 x).1 h)), if_neg ho]
  exact Yj0 n k _ _ _ (by omega) h7 (by omega) h3 h6
  rw [if_neg (by omega), show x = 0 by omega, Xf4]
theorem Wf1 {c : Int} (hK : 1099511627776 ≤ K) (hc : 1 ≤ c ∧ c ≤ 10006) : Zo3 K c = some (inv c) := by
 obtain ⟨n, rfl⟩ := Int.eq_ofNat_of_zero_le (show 0 ≤ c by omega)
 have := Yi9 (K := K) 14 K 1 n 10005 (by omega) (by decide) (by decide) (by decide) (by omega)
 unfold Zo3
 replace this : N9 K K 1 n 10005 = _ := this
 rw [this]; rfl
theorem Wg2 {c : Int} (hK : 1099511627776 ≤ K) (hc : 1 ≤ c ∧ c ≤ 10006) : Zu5 K c = some (inv c) := by
 obtain ⟨n, rfl⟩ := Int.eq_ofNat_of_zero_le (show 0 ≤ c by omega)
 have := Yj0 (K := K) 14 K 1 n 10005 (by omega) (by decide) (by decide) (by decide) (by omega)
 unfold Zu5
 replace this : I3 K K n 1 10005 = _ := this
 rw [this]; rfl
end
/-! lists without some places -/
def M7 (gs : List Int) (x : Int) : Bool := gs.any fun y => decide (y = x)
theorem Yi4 {ρ : Type} {gs : List Int} {x : Int} (L : Nat → Bool → Int → Option (Ex ρ Bool))
 (h : ∀ k b (n : Nat), L (k + 1) b n = if (n : Int) < gs.length then (if b = true then L k true ((n : Int) + 1) else L k (decide (rd gs (n : Int) = x)) ((n : Int) + 1)) else some (.go b)) :
 ∀ (k n : Nat) (b : Bool), gs.length < n + k → n ≤ gs.length → L k b n = some (.go (b || M7 (gs.drop n) x))
 | 0, n, b, h1, h2 => by omega
 | k + 1, n, b, h1, h2 => by
  rw [h]
  by_cases hn : n < gs.length
  rw [if_pos (by omega)]
  have e : M7 (gs.drop n) x = (decide (rd gs (n : Int) = x) || M7 (gs.drop (n + 1)) x) := by
   unfold M7
   rw [List.drop_eq_getElem_cons hn, List.any_cons, G0 hn]
  have e1 : (n : Int) + 1 = ((n + 1 : Nat) : Int) := rfl
  rw [e, e1]
  by_cases hb : b = true
  rw [if_pos hb, Yi4 L h k (n + 1) true (by omega) (by omega), hb]; rfl
  rw [if_neg hb, Yi4 L h k (n + 1) _ (by omega) (by omega)]
  cases b with
  | true => exact absurd rfl hb
  | false => rfl
  rw [if_neg (by omega), List.drop_eq_nil_of_le (by omega)]
  show _ = some (Ex.go (b || false))
  rw [Bool.or_false]
section
variable {K : Nat} {ds sd : List Int} {ms imgs : List MpT} {gs : List Int}
theorem Vi0 {x : Int} (hK : gs.length < K) : E9 K gs x K false 0 = some (.go (M7 gs x)) := by
 have := Yi4 (x := x) (E9 K gs x) (fun k b n => by rw [E9]) K 0 false (by omega) (by omega)
 exact this
theorem Vh4 {x : Int} (hK : gs.length < K) : F4 K gs x K false 0 = some (.go (M7 gs x)) := by
 have := Yi4 (x := x) (F4 K gs x) (fun k b n => by rw [F4]) K 0 false (by omega) (by omega)
 exact this
/-- the places that stay, below n -/
def P1 (gs : List Int) (n : Nat) : List Nat := (List.range n).filter fun j => !M7 gs (j : Int)
theorem Zk4 (gs : List Int) (n : Nat) : P1 gs (n + 1) = if M7 gs (n : Int) = true then P1 gs n else P1 gs n ++ [n] := by
 unfold P1
 rw [List.range_succ, List.filter_append, List.filter_cons, List.filter_nil]
 split
 rename_i h; rw [Bool.not_eq_true', ] at h; rw [if_neg (by rw [h]; decide)]
 rename_i h; rw [if_pos (by simpa using h), List.append_nil]
theorem Zn6 (gs : List Int) (n : Nat) : (P1 gs n).length ≤ n := by
 have := List.length_filter_le (fun j : Nat => !M7 gs (j : Int)) (List.range n)
 rw [List.length_range] at this; exact this
theorem Ys1 (n : Nat) : P1 [] n = List.range n := by
 unfold P1
 exact List.filter_eq_self.2 (fun _ _ => rfl)
/-- the generators as forms, without some -/
def nmG (gs : List Int) (n : Nat) : List MpT := (List.range n).map fun (j : Nat) => if M7 gs (j : Int) = true then [] else [(gn (P1 gs j).length 1, 1)]
theorem Ze1 (gs : List Int) (n : Nat) : (nmG gs n).length = n := by simp [nmG]
theorem Xw7 {n j : Nat} (h : j < n) : rd (nmG gs n) (j : Int) = if M7 gs (j : Int) = true then [] else [(gn (P1 gs j).length 1, 1)] := Zy2 (by simp [nmG, h])
theorem Yt5 (gs : List Int) (n : Nat) : nmG gs (n + 1) = nmG gs n ++ [if M7 gs (n : Int) = true then [] else [(gn (P1 gs n).length 1, 1)]] := by
 unfold nmG; rw [List.range_succ, List.map_append]; rfl
theorem We8 {n : Nat} (hK : gs.length < K) (hn : n ≤ 8) : ∀ (k j : Nat), n < j + k → j ≤ n → E5 K n gs k j (nmG gs j) ((P1 gs j).length : Int) = some (.go (nmG gs n)) := by
 intro k
 induction k with
 | zero => intro j h1 h2; omega
 | succ k ih =>
  intro j h1 h2
  rw [E5]
  by_cases hj : j < n
  have hs := Zn6 gs j
  have hl := Ze1 gs j
  have := ih (j + 1) (by omega) (by omega)
  rw [Yt5, Zk4] at this
  rw [if_pos (by omega), Vi0 hK, Option.bind_some, IntWalk.i64_in ((j : Int) + 1) (by omega)]
  by_cases e : M7 gs (j : Int) = true
  rw [if_pos e, if_pos e] at this
  show (if M7 gs (j : Int) = true then _ else _) = _
  rw [if_pos e, if_pos (by simp; omega)]
  exact this
  rw [if_neg e, if_neg e, List.length_append] at this
  show (if M7 gs (j : Int) = true then _ else _) = _
  rw [if_neg e, Xz5 (by omega), Option.bind_some, if_pos (by simp; omega), IntWalk.i64_in _ (by omega)]
  exact this
  rw [if_neg (by omega), show j = n by omega]
theorem Xw8 {n : Nat} (hK : 1099511627776 ≤ K) (hg : gs.length ≤ 8) (hn : n ≤ 8) : Zn0 K n gs = some (nmG gs n) := by
 have := We8 (K := K) (gs := gs) (by omega) hn K 0 (by omega) (by omega)
 unfold Zn0
 replace this : E5 K n gs K 0 [] 0 = some (.go (nmG gs n)) := this
 rw [this]; rfl
/-- the images of those that stay, led -/
def Zm6 (gs : List Int) (ds : List Int) (ms imgs : List MpT) (n j : Nat) : List MpT := (P1 gs j).map fun (i : Nat) => N8 ds ms n (rd imgs (i : Int))
/-- an algebra out of degrees and images, if all of these are forms -/
def Xf0 (ds : List Int) (fs : List MpT) : L4 × Int := if (fs.all fun f => decide (f.length ≤ 400)) = true then ((ds, fs), 0) else (([], []), 3)
theorem Vf5 {fs : List MpT} {c : MpT → Bool} : (List.range fs.length).all (fun j => c (rd fs (j : Int))) = fs.all c := by
 rw [Bool.eq_iff_iff, List.all_eq_true, List.all_eq_true]
 constructor
 intro h x hx
 obtain ⟨n, hn, rfl⟩ := List.getElem_of_mem hx
 have := h n (List.mem_range.2 hn)
 rwa [G0 hn] at this
 intro h j hj
 exact h _ (V7 (List.mem_range.1 hj))
theorem Xu7 {fs : List MpT} (hK : 1099511627776 ≤ K) (hd : okD ds = true) (hl : fs.length ≤ 8) (hf : ∀ f, f ∈ fs → ∃ u, Hm u ds f) : Zf5 K ds fs = some (if (fs.all fun f => decide (f.length ≤ 400)) = true then (fs, 0) else ([], 3)) := by
 unfold Zf5
 rw [Zf3 (g := ()) (fun k x => D7 K ds fs k x) fs.length (fun j => decide ((rd fs (j : Int)).length ≤ 400)) ([], 3) (fun k n hn => ?_) (fun k n hn => ?_) (by omega), Vf5 (c := fun f => decide (f.length ≤ 400))]
 by_cases h : (fs.all fun f => decide (f.length ≤ 400)) = true
 rw [if_pos h, if_pos h]; rfl
 rw [if_neg h, if_neg h]; rfl
 obtain ⟨u, hu⟩ := hf _ (V7 hn)
 show D7 K ds fs (k + 1) n = _
 rw [D7, if_pos (by omega), Vh3 hK hd hu]; rfl
 show D7 K ds fs (k + 1) n = _
 rw [D7, if_neg (by omega)]
theorem Xu3 (hK : 1099511627776 ≤ K) (hL : Lds sd ds ms) (hg : gs.length ≤ 8) (hil : imgs.length = sd.length) (hI : ∀ f, f ∈ imgs → Led sd f ∧ f.length ≤ 2000000) : ∀ (k j : Nat), sd.length < j + k → j ≤ sd.length →
 F2 K (sd, imgs) ds ms gs k j (Zm6 gs ds ms imgs sd.length j) = some (.go (Zm6 gs ds ms imgs sd.length sd.length)) := by
 have hl := T6 hL.src
 intro k
 induction k with
 | zero => intro j h1 h2; omega
 | succ k ih =>
  intro j h1 h2
  rw [F2]
  dsimp only
  by_cases hj : j < sd.length
  have hs := Zn6 gs j
  have hle : (Zm6 gs ds ms imgs sd.length j).length ≤ 8 := by unfold Zm6; rw [List.length_map]; omega
  have := ih (j + 1) (by omega) (by omega)
  have ho : Zm6 gs ds ms imgs sd.length (j + 1) = if M7 gs (j : Int) = true then Zm6 gs ds ms imgs sd.length j else Zm6 gs ds ms imgs sd.length j ++ [N8 ds ms sd.length (rd imgs (j : Int))] := by
   unfold Zm6; rw [Zk4]; split
   rfl
   rw [List.map_append]; rfl
  rw [ho] at this
  rw [if_pos (by omega), Vh4 (by omega), Option.bind_some]
  by_cases e : M7 gs (j : Int) = true
  rw [if_pos e] at this
  show (if M7 gs (j : Int) = true then _ else _) = _
  rw [if_pos e]; exact this
  rw [if_neg e] at this
  obtain ⟨i1, i2⟩ := hI _ (V7 (show j < imgs.length by omega))
  show (if M7 gs (j : Int) = true then _ else _) = _
  rw [if_neg e, if_pos (by omega), Xf9 hK hL i1 i2, Option.bind_some, if_pos (by simp; omega)]; exact this
  rw [if_neg (by omega), show j = sd.length by omega]
theorem Wk8 (hK : 1099511627776 ≤ K) (hL : Lds sd ds ms) (hg : gs.length ≤ 8) (hil : imgs.length = sd.length) (hI : ∀ j, j < imgs.length → Hm (rd sd (j : Int) + 1) sd (rd imgs (j : Int)) ∧ (rd imgs (j : Int)).length ≤ 2000000) :
 Zm1 K (sd, imgs) ds ms gs = some (Xf0 ds (Zm6 gs ds ms imgs sd.length sd.length)) := by
 have hl := T6 hL.src
 have hpos := D8 hL.src
 have hu : ∀ j, j < imgs.length → rd sd (j : Int) + 1 ≤ 13 := fun j hj => by have := hpos _ (V7 (show j < sd.length by omega)); omega
 have h1 := Xu3 (K := K) (imgs := imgs) hK hL hg hil (fun f hf => by
  obtain ⟨n, hn, rfl⟩ := List.getElem_of_mem hf
  have := hI n hn
  rw [G0 hn] at this
  exact ⟨Zz4 this.1 (hu n hn), this.2⟩) K 0 (by omega) (by omega)
 replace h1 : F2 K (sd, imgs) ds ms gs K 0 [] = _ := h1
 have hs := Zn6 gs sd.length
 have h2 := Xu7 (K := K) (fs := Zm6 gs ds ms imgs sd.length sd.length) hK hL.dst (by unfold Zm6; rw [List.length_map]; omega) (fun f hf => by
  unfold Zm6 at hf
  obtain ⟨i, hi, rfl⟩ := List.mem_map.1 hf
  have hi : i < imgs.length := by have := (List.mem_filter.1 hi).1; rw [hil]; exact List.mem_range.1 this
  exact ⟨_, Zr7 hL (hI i hi).1 (hu i hi)⟩)
 unfold Zm1 Xf0
 rw [h1, Option.bind_some]
 show ((Zf5 K ds _).bind _) = _
 rw [h2, Option.bind_some]
 by_cases h : ((Zm6 gs ds ms imgs sd.length sd.length).all fun f => decide (f.length ≤ 400)) = true
 rw [if_pos h, if_pos h]; rfl
 rw [if_neg h, if_neg h]; rfl
end
theorem Xx8 (ds : List Int) {t : Nat} (ht : t < 8) (e : Int) : ∀ n : Nat, wtN ds (gn t e) n = if t < n then rd ds (t : Int) * e else 0
 | 0 => by rw [if_neg (by omega)]; rfl
 | n + 1 => by
  rw [wtN, Xx8 ds ht e n, Zy9 ht]
  by_cases h : n = t
  subst h
  rw [if_neg (by omega), if_pos rfl, if_pos (by omega)]; omega
  rw [if_neg h, Int.mul_zero, Int.add_zero]
  by_cases h2 : t < n
  rw [if_pos h2, if_pos (by omega)]
  rw [if_neg h2, if_neg (by omega)]
section
variable {K : Nat} {ds sd : List Int} {ms imgs : List MpT}
theorem Yz2 {t : Nat} {c : Int} (hd : okD ds = true) (ht : t < ds.length) (hc : 1 ≤ c ∧ c ≤ 10006) : Hm (rd ds (t : Int)) ds [(gn t 1, c)] := by
 have hl := T6 hd
 refine ⟨Ye7 (List.pairwise_singleton _ _) (fun q hq => by cases List.mem_singleton.1 hq; exact hc), fun q hq => ?_, fun q hq => ?_⟩
 cases List.mem_singleton.1 hq
 have := Vh2 (ds := ds) (e := 1) (show t < 8 by omega) ht (by decide) (by decide) (fun _ => by decide)
 exact ⟨this.lo, fun i => by show gn t 1 i ≤ 13; unfold gn; rw [I4 _ (show t < 8 by omega)]; split <;> omega, this.odd, this.out⟩
 cases List.mem_singleton.1 hq
 show wt ds (gn t 1) = _
 unfold wt
 rw [Xx8 ds (by omega), if_pos ht, Int.mul_one]
theorem Xi0 {n j : Nat} (h : j < n) : rd (nmG [] n) (j : Int) = [(gn j 1, 1)] := by
 rw [Xw7 h, Ys1, List.length_range]; rfl
theorem Yz0 {α : Type} [Inhabited α] {xs : List α} {i j : Nat} {x : α} (hj : j < xs.length) : rd (xs.set i x) (j : Int) = if j = i then x else rd xs (j : Int) := by
 unfold rd
 rw [Int.toNat_natCast, List.getD_eq_getElem?_getD, List.getD_eq_getElem?_getD, List.getElem?_set]
 by_cases e : i = j
 subst e; rw [if_pos rfl, if_pos rfl, if_pos hj]; rfl
 rw [if_neg e, if_neg (fun h => e h.symm)]
/-- generators, one of them replaced -/
theorem Ww3 {i : Nat} {g : MpT} (hd : okD ds = true) (hi : i < ds.length) (hg : Hm (rd ds (i : Int)) ds g) : Lds ds ds ((nmG [] ds.length).set i g) := by
 refine ⟨hd, hd, by rw [List.length_set, Ze1], fun j hj => ?_⟩
 rw [List.length_set, Ze1] at hj
 rw [Yz0 (by rw [Ze1]; exact hj)]
 by_cases e : j = i
 subst e; rw [if_pos rfl]; exact hg
 rw [if_neg e, Xi0 hj]; exact Yz2 hd hj (by decide)
theorem Xs1 {n : Nat} (hn : n ≤ 8) : ∀ (k j : Nat), n < j + k → j ≤ n → Zc6 K n k j (nmG [] j) = some (.go (nmG [] n)) := by
 intro k
 induction k with
 | zero => intro j h1 h2; omega
 | succ k ih =>
  intro j h1 h2
  rw [Zc6]
  by_cases hj : j < n
  have hl := Ze1 [] j
  have := ih (j + 1) (by omega) (by omega)
  rw [Yt5, Ys1, List.length_range] at this
  have e : F6 ([] : MpT) (gn j 1) 1 = [(gn j 1, 1)] := rfl
  rw [if_pos (by omega), Zv4 (by omega), Option.bind_some, IntWalk.i64_in ((j : Int) + 1) (by omega), e, if_pos (by simp; omega)]
  exact this
  rw [if_neg (by omega), show j = n by omega]
theorem Wk3 {n : Nat} (hK : 1099511627776 ≤ K) (hn : n ≤ 8) : Zu3 K n = some (nmG [] n) := by
 have := Xs1 (K := K) hn K 0 (by omega) (by omega)
 unfold Zu3
 replace this : Zc6 K n K 0 [] = some (.go (nmG [] n)) := this
 rw [this]; rfl
theorem Va2 {f : MpT} {x : Int} : ∀ (k j : Nat) (box : A8), 8 < j + k → j ≤ 8 → (∀ t : Fin 8, t.val < j → box t = (rd f x).1 t) → Zd3 K f 0 x k j box = some (.go (rd f x).1) := by
 intro k
 induction k with
 | zero => intro j box h1 h2; omega
 | succ k ih =>
  intro j box h1 h2 hb
  rw [Zd3, Int.add_zero, IntWalk.i64_in (j : Int) (by omega)]
  by_cases hj : j < 8
  rw [if_pos (by omega), if_pos (by omega), if_pos (by omega)]
  refine ih (j + 1) _ (by omega) (by omega) (fun t ht => ?_)
  rw [I4 _ hj]
  by_cases e : t.val = j
  rw [if_pos e, T9 _ hj]; exact congrArg (rd f x).1 (show (⟨j, hj⟩ : Fin 8) = t from Fin.ext e.symm)
  rw [if_neg e]; exact hb t (by omega)
  rw [if_neg (by omega)]
  congr 2
  funext t; exact hb t (by omega)
theorem Wz4 {f : MpT} (hK : 1099511627776 ≤ K) (hf : f.length ≤ 2000000) : ∀ (k j : Nat), f.length < j + k → j ≤ f.length → Zc9 K f 0 k j (f.take j) = some (.go f) := by
 intro k
 induction k with
 | zero => intro j h1 h2; omega
 | succ k ih =>
  intro j h1 h2
  rw [Zc9]
  by_cases hj : j < f.length
  have h3 := Va2 (K := K) (f := f) (x := j) K 0 (fun _ => 0) (by omega) (by omega) (fun t ht => by omega)
  replace h3 : Zd3 K f 0 j K 0 (fun _ => 0) = _ := h3
  have := ih (j + 1) (by omega) (by omega)
  rw [Zl7 hj] at this
  rw [if_pos (by omega), h3, Option.bind_some]
  show (if _ then _ else none) = _
  rw [if_pos (by simp; omega)]
  exact this
  rw [if_neg (by omega), List.take_of_length_le (by omega)]
theorem Vb0 {f : MpT} (hK : 1099511627776 ≤ K) (hf : f.length ≤ 2000000) : Zv8 K f 0 = some f := by
 have := Wz4 (K := K) hK hf K 0 (by omega) (by omega)
 unfold Zv8
 replace this : Zc9 K f 0 K 0 [] = some (.go f) := this
 rw [this]; rfl
theorem Vf4 {a : L4} (hK : 1099511627776 ≤ K) (hl : a.2.length ≤ 8) (hf : ∀ f, f ∈ a.2 → f.length ≤ 2000000) : ∀ (k j : Nat), a.2.length < j + k → j ≤ a.2.length → Zf0 K a k j (a.2.take j) = some (.go a.2) := by
 intro k
 induction k with
 | zero => intro j h1 h2; omega
 | succ k ih =>
  intro j h1 h2
  rw [Zf0]
  by_cases hj : j < a.2.length
  have := ih (j + 1) (by omega) (by omega)
  rw [Zl7 hj] at this
  rw [if_pos (by omega), Vb0 hK (hf _ (V7 hj)), Option.bind_some, if_pos (by simp; omega)]
  exact this
  rw [if_neg (by omega), List.take_of_length_le (by omega)]
theorem Vh9 {a : L4} (hK : 1099511627776 ≤ K) (h1 : a.1.length ≤ 8) (hl : a.2.length ≤ 8) (hf : ∀ f, f ∈ a.2 → f.length ≤ 2000000) : Zx2 K a = some a := by
 have := Vf4 (K := K) hK hl hf K 0 (by omega) (by omega)
 unfold Zx2 Yb2
 replace this : Zf0 K a K 0 [] = some (.go a.2) := this
 rw [if_pos (by simp; omega), Option.bind_some, this]; rfl
end
theorem Xw0 {f g : M5 → Option M5} : ∀ {s : MpT}, (∀ t, t ∈ s → f t = g t) → s.filterMap f = s.filterMap g
 | [], _ => rfl
 | t :: s, h => by rw [List.filterMap_cons, List.filterMap_cons, h t (List.mem_cons_self ..), Xw0 (fun u hu => h u (List.mem_cons_of_mem _ hu))]
theorem Xn9 {f g : M5 → MpT} : ∀ {s : MpT}, (∀ t, t ∈ s → f t = g t) → s.flatMap f = s.flatMap g
 | [], _ => rfl
 | t :: s, h => by rw [List.flatMap_cons, List.flatMap_cons, h t (List.mem_cons_self ..), Xn9 (fun u hu => h u (List.mem_cons_of_mem _ hu))]
theorem Yl6 {T U : MpT} (h : ∀ a, cf a T % 10007 = cf a U % 10007) : T7 T [] = T7 U [] :=
 Xf5 B8 B8 (fun a => by
  show (0 + cf a T) % 10007 = (0 + cf a U) % 10007
  rw [Int.zero_add, Int.zero_add, h a])
theorem Xt3 {s : MpT} {F G : M5 → MpT} (h : ∀ t, t ∈ s → T7 (F t) [] = T7 (G t) []) : T7 (s.flatMap F) [] = T7 (s.flatMap G) [] := by
 refine Yl6 (fun a => ?_)
 induction s with
 | nil => rfl
 | cons t s ih =>
  have h1 := ih (fun t ht => h t (List.mem_cons_of_mem _ ht))
  have h2 := Yq4 a (F t)
  have h3 := Yq4 a (G t)
  rw [h t (List.mem_cons_self ..)] at h2
  rw [List.flatMap_cons, List.flatMap_cons, Yq1, Yq1]
  omega
theorem Xd9 {φ : M5 → MpT} {κ : A8 → A8 → Int} (hφ : ∀ a p c, cf a (φ (p, c)) = c * κ a p) (a : A8) : ∀ T : MpT, cf a (T.flatMap φ) = lin (κ a) T
 | [] => rfl
 | t :: T => by rw [List.flatMap_cons, Yq1, Xd9 hφ a T, hφ a t.1 t.2]; rfl
/-- what is done term by term may be done ahead of adding up -/
theorem Ww8 {φ : M5 → MpT} {κ : A8 → A8 → Int} (hφ : ∀ a p c, cf a (φ (p, c)) = c * κ a p) (T : MpT) : T7 ((T7 T []).flatMap φ) [] = T7 (T.flatMap φ) [] :=
 Yl6 (fun a => by rw [Xd9 hφ, Xd9 hφ]; exact Ys7 _ _)
theorem Yy9 (ds : List Int) (a : A8) (z : M5) : ∀ G : MpT, cf a (P9 ds z G) = lin (fun q => cf a (P9 ds z [(q, 1)])) G
 | [] => rfl
 | q :: G => by
  have ih := Yy9 ds a z G
  rw [lin, ← ih]
  unfold P9
  rw [List.filterMap_cons, List.filterMap_cons]
  dsimp only
  by_cases e : (N4 ds z.1 q.1).2 = 0
  rw [if_pos e, if_pos e]; simp [cf]
  rw [if_neg e, if_neg e]
  simp only [List.filterMap_nil, cf]
  split
  rw [Int.mul_one, Int.add_zero, Int.mul_comm]
  simp
theorem Wo0 (ds : List Int) (S G : MpT) : T7 (D4 ds (T7 S []) (T7 G [])) [] = T7 (D4 ds S G) [] := by
 have h1 : T7 (D4 ds (T7 S []) (T7 G [])) [] = T7 (D4 ds S (T7 G [])) [] := Yl6 (fun a => by rw [Yq6, Yq6]; exact Ys7 _ _)
 rw [h1]
 refine Xt3 (fun z _ => Yl6 (fun a => ?_))
 rw [Yy9, Yy9]; exact Ys7 _ _
/-! products in which nothing passes anything -/
theorem Wu5 {ds : List Int} {p : A8} : ∀ (n j : Nat), (∀ y : Nat, j ≤ y → Y5 p y = 0) → od ds p n j = 0
 | 0, _, _ => rfl
 | n + 1, j, h => by rw [od, h j (Nat.le_refl _), Int.mul_zero, Wu5 n (j + 1) (fun y hy => h y (by omega))]; rfl
theorem Wk7 {ds : List Int} {p q : A8} : ∀ (n x : Nat), (∀ y : Nat, x ≤ y → rd ds (y : Int) % 2 ≠ 0 → 0 < Y5 q y → ∀ u : Nat, y ≤ u → Y5 p u = 0) → tot ds p q n x = some 0
 | 0, _, _ => rfl
 | n + 1, x, h => by
  have ih := Wk7 (p := p) (q := q) n (x + 1) (fun y hy => h y (by omega))
  rw [tot]
  by_cases he : rd ds (x : Int) % 2 = 0
  rw [if_pos he]; exact ih
  rw [if_neg he]
  by_cases hq : 0 < Y5 q x
  have hz := h x (Nat.le_refl _) he hq
  rw [if_neg (by rw [hz x (Nat.le_refl _)]; omega), ih, if_pos hq, Wu5 n (x + 1) (fun y hy => hz y (by omega))]; rfl
  rw [if_neg (fun h => hq h.2), ih, if_neg hq]; rfl
theorem Xm7 {ds : List Int} {p q : A8} (h : ∀ y : Nat, rd ds (y : Int) % 2 ≠ 0 → 0 < Y5 q y → ∀ u : Nat, y ≤ u → Y5 p u = 0) : N4 ds p q = (Zq8 p q, 1) := by
 unfold N4
 rw [Wk7 _ 0 (fun y _ => h y)]; rfl
theorem Wc6 {ds : List Int} {p q : A8} {c : Int} (hc : 1 ≤ c ∧ c ≤ 10006) (h : N4 ds p q = (Zq8 p q, 1)) : Zp0 ds [(p, c)] [(q, 1)] = [(Zq8 p q, c)] := by
 unfold Zp0 D4 P9
 simp only [List.flatMap_cons, List.flatMap_nil, List.filterMap_cons, List.filterMap_nil, List.append_nil, h]
 rw [if_neg (by decide)]
 simp only [Int.mul_one, Int.one_mul]
 exact Xe2 hc
theorem Xf6 (u : Int) : Y5 (fun _ => 0) u = 0 := by unfold Y5; split <;> rfl
theorem Xv8 {ds : List Int} {g : MpT} (hg : nfm g = true) : Zp0 ds [((fun _ => 0), 1)] g = g := by
 have e : D4 ds [((fun _ => 0), 1)] g = g := by
  show P9 ds ((fun _ => 0), 1) g ++ [] = g
  rw [List.append_nil]
  unfold P9
  conv => rhs; rw [← List.filterMap_some (l := g)]
  refine Xw0 (fun q _ => ?_)
  rw [Xm7 (fun y _ _ u _ => Xf6 u), if_neg (show ¬ (1 : Int) = 0 by decide)]
  have : Zq8 (fun _ => 0) q.1 = q.1 := by funext i; show 0 + q.1 i = _; rw [Int.zero_add]
  rw [this, Int.mul_one, Int.one_mul]
 unfold Zp0
 rw [e]; exact Yc6 hg
/-! where forms lead a generator -/
theorem Wy1 {sd ds : List Int} {ms : List MpT} {t : Nat} (hL : Lds sd ds ms) (ht : t < sd.length) : N8 ds ms sd.length [(gn t 1, 1)] = rd ms (t : Int) := by
 have hl := T6 hL.src
 have hg := (hL.hm t (by rw [hL.len]; exact ht)).nf
 have key : ∀ j, j ≤ sd.length → prT ds ms (gn t 1) 1 j = if t < j then rd ms (t : Int) else [((fun _ => 0), 1)] := by
  intro j
  induction j with
  | zero => intro _; rfl
  | succ j ih =>
   intro hj
   have ih := ih (by omega)
   rw [prT, Zy9 (by omega), ih]
   by_cases e : j = t
   subst e
   rw [if_pos rfl, if_pos (by decide), if_neg (by omega), if_pos (by omega)]
   show Zp0 ds _ (Zp0 ds [((fun _ => 0), 1)] (rd ms (j : Int))) = _
   rw [Xv8 hg, Xv8 hg]
   rw [if_neg e, if_neg (by decide)]
   by_cases h : t < j
   rw [if_pos h, if_pos (by omega)]
   rw [if_neg h, if_neg (by omega)]
 unfold N8 Yk1
 rw [List.flatMap_cons, List.flatMap_nil, List.append_nil, key _ (Nat.le_refl _), if_pos ht, Yc6 hg]
/-! each generator to itself -/
def ptA (m : A8) (j : Nat) : A8 := fun t => if t.val < j then m t else 0
theorem Wu8 (m : A8) (j u : Nat) : Y5 (ptA m j) u = if u < j then Y5 m u else 0 := by
 by_cases h : u < 8
 rw [T9 _ h, T9 _ h]; rfl
 have e : ∀ p : A8, Y5 p (u : Int) = 0 := fun p => by simp [Y5, h]
 rw [e, e]; split <;> rfl
theorem Wh8 {ds : List Int} {j : Nat} (hj : j < 8) : ∀ e : Nat, (rd ds (j : Int) % 2 ≠ 0 → e ≤ 1) → pwL ds [(gn j 1, 1)] e = [(gn j e, 1)]
 | 0, _ => by
  have : gn j ((0 : Nat) : Int) = fun _ => 0 := by funext t; unfold gn; rw [I4 _ hj]; split <;> rfl
  rw [this]; rfl
 | e + 1, h => by
  have h1 : pwL ds [(gn j 1, 1)] (e + 1) = Zp0 ds (pwL ds [(gn j 1, 1)] e) [(gn j 1, 1)] := rfl
  rw [h1, Wh8 hj e (fun ho => by have := h ho; omega), Wc6 (by decide) (Xm7 (fun y hy hq u hu => ?_))]
  have : Zq8 (gn j (e : Int)) (gn j 1) = gn j ((e + 1 : Nat) : Int) := by
   funext t
   show gn j e t + gn j 1 t = _
   unfold gn
   rw [I4 _ hj, I4 _ hj, I4 _ hj]
   split <;> simp
  rw [this]
  rw [Zy9 hj] at hq ⊢
  split at hq
  rename_i e1
  subst e1
  have := h hy
  split
  omega
  rfl
  omega
theorem Wq7 {ds : List Int} {f : MpT} {u : Int} (hd : okD ds = true) (hf : Hm u ds f) : N8 ds (nmG [] ds.length) ds.length f = f := by
 have hl := T6 hd
 have key : ∀ t, t ∈ f → ∀ j, j ≤ ds.length → prT ds (nmG [] ds.length) t.1 t.2 j = [(ptA t.1 j, t.2)] := by
  intro t ht j
  have hm := hf.mo t ht
  have hc := Zu0 hf.nf t ht
  induction j with
  | zero =>
   intro _
   have : ptA t.1 0 = fun _ => 0 := by funext u; unfold ptA; rw [if_neg (by omega)]
   rw [this]; rfl
  | succ j ih =>
   intro hj
   have hi : 0 ≤ Y5 t.1 (j : Int) := by rw [T9 t.1 (show j < 8 by omega)]; exact hm.lo _
   rw [prT, ih (by omega), Xi0 (show j < ds.length by omega)]
   have hp : ptA t.1 (j + 1) = Zq8 (ptA t.1 j) (gn j (Y5 t.1 (j : Int))) := by
    funext u
    show _ = ptA t.1 j u + gn j _ u
    unfold ptA gn
    rw [I4 _ (show j < 8 by omega)]
    by_cases e : u.val = j
    rw [if_pos (by omega), if_neg (by omega), if_pos e, T9 _ (show j < 8 by omega), Int.zero_add]
    exact congrArg t.1 (Fin.ext e)
    rw [if_neg e, Int.add_zero]
    by_cases e2 : u.val < j
    rw [if_pos e2, if_pos (by omega)]
    rw [if_neg e2, if_neg (by omega)]
   by_cases h0 : 0 < Y5 t.1 (j : Int)
   rw [if_pos h0]
   have hpw := Wh8 (ds := ds) (show j < 8 by omega) (Y5 t.1 (j : Int)).toNat (fun ho => by
    have := hm.odd j (by omega) (by omega)
    omega)
   rw [Int.toNat_of_nonneg hi] at hpw
   rw [hpw, Wc6 hc (Xm7 (fun y hy hq u hu => ?_)), hp]
   rw [Zy9 (show j < 8 by omega)] at hq
   split at hq
   rename_i e
   rw [Wu8, if_neg (by omega)]
   omega
   rw [if_neg h0]
   have e0 : Y5 t.1 (j : Int) = 0 := by omega
   rw [hp, e0]
   have : Zq8 (ptA t.1 j) (gn j 0) = ptA t.1 j := by
    funext u
    show ptA t.1 j u + gn j 0 u = _
    unfold gn
    rw [I4 _ (show j < 8 by omega)]
    split <;> simp
   rw [this]
 have hfl : Yk1 ds (nmG [] ds.length) ds.length f = f := by
  unfold Yk1
  conv => rhs; rw [← List.flatMap_singleton' f]
  refine Xn9 (fun t ht => ?_)
  rw [key t ht _ (Nat.le_refl _)]
  have : ptA t.1 ds.length = t.1 := by
   funext u
   unfold ptA
   split
   rfl
   rename_i h
   exact ((hf.mo t ht).out u (by omega)).symm
  rw [this]
 unfold N8
 rw [hfl]; exact Yc6 hf.nf
theorem Yq9 {gs : List Int} {j : Nat} (hg : M7 gs (j : Int) = false) : ∀ {n : Nat}, j < n → (P1 gs n)[(P1 gs j).length]? = some j
 | 0, h => by omega
 | n + 1, h => by
  by_cases e : j = n
  subst e
  rw [Zk4, if_neg (by rw [hg]; decide), List.getElem?_append_right (Nat.le_refl _), Nat.sub_self]; rfl
  have ih := Yq9 hg (n := n) (by omega)
  have hl := (List.getElem?_eq_some_iff.1 ih).1
  rw [Zk4]
  split
  exact ih
  rw [List.getElem?_append_left hl]; exact ih
theorem Xm8 {gs : List Int} {j n : Nat} (hg : M7 gs (j : Int) = false) (h : j < n) : (P1 gs j).length < (P1 gs n).length := (List.getElem?_eq_some_iff.1 (Yq9 hg h)).1
theorem Wy5 {gs : List Int} {j n : Nat} (h : j ≤ n) : (P1 gs j).length ≤ (P1 gs n).length := by
 induction n with
 | zero => rw [show j = 0 by omega]; exact Nat.le_refl _
 | succ n ih =>
  by_cases e : j = n + 1
  rw [e]; exact Nat.le_refl _
  have := ih (by omega)
  rw [Zk4]; split
  exact this
  rw [List.length_append]; omega
theorem Vb8 {xs : List Nat} (h : xs.Nodup) {i j : Nat} (hi : i < xs.length) (hj : j < xs.length) (e : xs[i] = xs[j]) : i = j := by
 have hp := List.pairwise_iff_getElem.1 (List.nodup_iff_pairwise_ne.1 h)
 rcases Nat.lt_trichotomy i j with h1 | h1 | h1
 exact absurd e (hp i j hi hj h1)
 exact h1
 exact absurd e.symm (hp j i hj hi h1)
theorem Wf2 (gs : List Int) (n : Nat) : (P1 gs n).Nodup := List.nodup_range.filter _
theorem Ym7 {gs : List Int} {n t : Nat} (h : t ∈ P1 gs n) : t < n ∧ M7 gs (t : Int) = false := by
 have h := List.mem_filter.1 h
 exact ⟨List.mem_range.1 h.1, by simpa using h.2⟩
/-- degrees without some -/
def dsG (gs ds : List Int) : List Int := (P1 gs ds.length).map fun (j : Nat) => rd ds (j : Int)
theorem Yf5 (gs ds : List Int) : (dsG gs ds).length = (P1 gs ds.length).length := by simp [dsG]
theorem Xw4 {gs ds : List Int} {j : Nat} (hg : M7 gs (j : Int) = false) (h : j < ds.length) : rd (dsG gs ds) ((P1 gs j).length : Int) = rd ds (j : Int) :=
 Zy2 (by unfold dsG; rw [List.getElem?_map, Yq9 hg h]; rfl)
theorem Vd9 {gs ds : List Int} (hd : okD ds = true) : okD (dsG gs ds) = true := by
 have hl := T6 hd
 have hp := D8 hd
 have := Zn6 gs ds.length
 unfold okD
 rw [Bool.and_eq_true]
 refine ⟨List.all_eq_true.2 (fun d hd' => ?_), decide_eq_true (by rw [Yf5]; omega)⟩
 obtain ⟨j, hj, rfl⟩ := List.mem_map.1 hd'
 exact decide_eq_true (hp _ (V7 (Ym7 hj).1))
/-- a monomial without some generators -/
def rnA (gs : List Int) (n : Nat) (p : A8) : A8 := fun t => if h : t.val < (P1 gs n).length then Y5 p (((P1 gs n)[t.val] : Nat) : Int) else 0
def noG (gs : List Int) (n : Nat) (p : A8) : Prop := ∀ j : Nat, j < n → M7 gs (j : Int) = true → Y5 p (j : Int) = 0
def Xv5 (gs : List Int) (n : Nat) (p : A8) : Bool := (List.range n).any fun j => M7 gs (j : Int) && !decide (Y5 p (j : Int) = 0)
theorem Wd1 {gs : List Int} {n : Nat} {p : A8} : Xv5 gs n p = false ↔ noG gs n p := by
 unfold Xv5 noG
 rw [List.any_eq_false]
 constructor
 intro h j hj hg
 have := h j (List.mem_range.2 hj)
 rw [hg] at this
 simpa using this
 intro h j hj
 cases hg : M7 gs (j : Int) with
 | false => simp
 | true => simp [h j (List.mem_range.1 hj) hg]
theorem Xj5 {gs : List Int} {n j : Nat} {p : A8} (hn : n ≤ 8) (hg : M7 gs (j : Int) = false) (h : j < n) : Y5 (rnA gs n p) ((P1 gs j).length : Int) = Y5 p (j : Int) := by
 have h1 := Yq9 hg h
 have h2 := (List.getElem?_eq_some_iff.1 h1)
 have h3 := Zn6 gs n
 rw [T9 _ (show (P1 gs j).length < 8 by have := h2.1; omega)]
 unfold rnA
 rw [dif_pos h2.1, h2.2]
section
variable {gs ds : List Int} {p q : A8}
theorem Wt2 (hl : ds.length ≤ 8) (hp : noG gs ds.length p) : ∀ m j : Nat, j + m = ds.length → od (dsG gs ds) (rnA gs ds.length p) ((P1 gs ds.length).length - (P1 gs j).length) (P1 gs j).length = od ds p m j
 | 0, j, h => by rw [show j = ds.length by omega, Nat.sub_self]; rfl
 | m + 1, j, h => by
  have ih := Wt2 hl hp m (j + 1) (by omega)
  rw [Zk4] at ih
  cases hg : M7 gs (j : Int) with
  | true =>
   rw [if_pos hg] at ih
   rw [ih, od, hp j (by omega) hg, Int.mul_zero, Int.zero_add]
  | false =>
   rw [if_neg (by rw [hg]; decide), List.length_append] at ih
   have hlt := Xm8 hg (show j < ds.length by omega)
   rw [show (P1 gs ds.length).length - (P1 gs j).length = ((P1 gs ds.length).length - ((P1 gs j).length + 1)) + 1 by omega, od, od, Xw4 hg (by omega), Xj5 hl hg (by omega)]
   rw [show [j].length = 1 from rfl] at ih
   rw [ih]
theorem Wi9 (hl : ds.length ≤ 8) (hp : noG gs ds.length p) (hq : noG gs ds.length q) : ∀ m j : Nat, j + m = ds.length →
 tot (dsG gs ds) (rnA gs ds.length p) (rnA gs ds.length q) ((P1 gs ds.length).length - (P1 gs j).length) (P1 gs j).length = tot ds p q m j
 | 0, j, h => by rw [show j = ds.length by omega, Nat.sub_self]; rfl
 | m + 1, j, h => by
  have ih := Wi9 hl hp hq m (j + 1) (by omega)
  have io := Wt2 (gs := gs) hl hp m (j + 1) (by omega)
  rw [Zk4] at ih io
  cases hg : M7 gs (j : Int) with
  | true =>
   rw [if_pos hg] at ih
   rw [ih, tot, hp j (by omega) hg, hq j (by omega) hg, if_neg (by omega : ¬ ((0 : Int) < 0 ∧ (0 : Int) < 0)), if_neg (by omega : ¬ (0 : Int) < 0)]
   split
   rfl
   cases tot ds p q m (j + 1) with
   | none => rfl
   | some t => simp
  | false =>
   rw [if_neg (by rw [hg]; decide), List.length_append, show [j].length = 1 from rfl] at ih io
   have hlt := Xm8 hg (show j < ds.length by omega)
   rw [show (P1 gs ds.length).length - (P1 gs j).length = ((P1 gs ds.length).length - ((P1 gs j).length + 1)) + 1 by omega, tot, tot, Xw4 hg (by omega), Xj5 hl hg (by omega), Xj5 hl hg (by omega), ih, io]
theorem Va4 (n : Nat) : Zq8 (rnA gs n p) (rnA gs n q) = rnA gs n (Zq8 p q) := by
 funext t
 show rnA gs n p t + rnA gs n q t = _
 unfold rnA
 split
 rw [Yr4]
 rfl
theorem Wv5 (hl : ds.length ≤ 8) (hp : noG gs ds.length p) (hq : noG gs ds.length q) : (N4 (dsG gs ds) (rnA gs ds.length p) (rnA gs ds.length q)).2 = (N4 ds p q).2 ∧
 ((N4 ds p q).2 ≠ 0 → (N4 (dsG gs ds) (rnA gs ds.length p) (rnA gs ds.length q)).1 = rnA gs ds.length (N4 ds p q).1) := by
 have h := Wi9 hl hp hq ds.length 0 (by omega)
 rw [show (P1 gs 0).length = 0 from rfl, Nat.sub_zero, ← Yf5] at h
 unfold N4
 rw [h]
 cases tot ds p q ds.length 0 with
 | none => exact ⟨rfl, fun h => absurd rfl h⟩
 | some t => exact ⟨rfl, fun _ => Va4 _⟩
theorem Xm0 {n : Nat} (lp : ∀ i, 0 ≤ p i) (lq : ∀ i, 0 ≤ q i) : noG gs n (Zq8 p q) ↔ noG gs n p ∧ noG gs n q := by
 have hi : ∀ (x : A8), (∀ i, 0 ≤ x i) → ∀ j : Nat, 0 ≤ Y5 x (j : Int) := fun x hx j => by
  by_cases h : j < 8
  rw [T9 x h]; exact hx _
  simp [Y5, h]
 constructor
 intro h
 have h0 : ∀ j : Nat, j < n → M7 gs (j : Int) = true → Y5 p (j : Int) = 0 ∧ Y5 q (j : Int) = 0 := fun j hj hg => by
  have := h j hj hg
  rw [Yr4] at this
  have h1 := hi p lp j
  have h2 := hi q lq j
  exact ⟨by omega, by omega⟩
 exact ⟨fun j hj hg => (h0 j hj hg).1, fun j hj hg => (h0 j hj hg).2⟩
 intro h j hj hg
 rw [Yr4, h.1 j hj hg, h.2 j hj hg]; rfl
def rn1 (gs : List Int) (n : Nat) (t : M5) : MpT := if Xv5 gs n t.1 = true then [] else [(rnA gs n t.1, t.2)]
def rnF (gs : List Int) (n : Nat) (s : MpT) : MpT := s.flatMap (rn1 gs n)
def rnL (gs : List Int) (n : Nat) (s : MpT) : MpT := T7 (rnF gs n s) []
theorem Yp7 {n : Nat} {t : M5} (h : noG gs n t.1) : rn1 gs n t = [(rnA gs n t.1, t.2)] := by unfold rn1; rw [Wd1.2 h]; rfl
theorem Yz6 {n : Nat} {t : M5} (h : ¬ noG gs n t.1) : rn1 gs n t = [] := by
 unfold rn1
 cases hq : Xv5 gs n t.1 with
 | true => rfl
 | false => exact absurd (Wd1.1 hq) h
theorem Xx2 (n : Nat) (T : MpT) : rnL gs n (T7 T []) = rnL gs n T := by
 refine Ww8 (κ := fun a p => if Xv5 gs n p = true then 0 else if rnA gs n p = a then 1 else 0) (fun a p c => ?_) T
 unfold rn1
 dsimp only
 split
 simp [cf]
 simp only [cf]
 split <;> simp
def Nn (s : MpT) : Prop := ∀ t, t ∈ s → ∀ i, 0 ≤ t.1 i
theorem Xs7 (hl : ds.length ≤ 8) {z : M5} (hz : ∀ i, 0 ≤ z.1 i) : ∀ {G : MpT}, Nn G → rnF gs ds.length (P9 ds z G) = (rn1 gs ds.length z).flatMap fun z' => P9 (dsG gs ds) z' (rnF gs ds.length G)
 | [], _ => by
  unfold rn1; split <;> rfl
 | q :: G, hG => by
  have ih := Xs7 hl hz (G := G) (fun t ht => hG t (List.mem_cons_of_mem _ ht))
  have hq := hG q (List.mem_cons_self ..)
  have e1 : P9 ds z (q :: G) = P9 ds z [q] ++ P9 ds z G := by unfold P9; rw [← List.filterMap_append]; rfl
  have e2 : rnF gs ds.length (q :: G) = rn1 gs ds.length q ++ rnF gs ds.length G := rfl
  have e3 : ∀ z' A B, P9 (dsG gs ds) z' (A ++ B) = P9 (dsG gs ds) z' A ++ P9 (dsG gs ds) z' B := fun z' A B => by unfold P9; rw [List.filterMap_append]
  have e4 : rnF gs ds.length (P9 ds z [q] ++ P9 ds z G) = rnF gs ds.length (P9 ds z [q]) ++ rnF gs ds.length (P9 ds z G) := by unfold rnF; rw [List.flatMap_append]
  rw [e1, e4, ih, e2]
  by_cases hzn : noG gs ds.length z.1
  rw [Yp7 hzn, List.flatMap_cons, List.flatMap_nil, List.flatMap_cons, List.flatMap_nil, List.append_nil, List.append_nil, e3]
  congr 1
  by_cases hqn : noG gs ds.length q.1
  rw [Yp7 hqn]
  obtain ⟨h1, h2⟩ := Wv5 hl hzn hqn
  unfold P9
  simp only [List.filterMap_cons, List.filterMap_nil]
  rw [h1]
  by_cases hs : (N4 ds z.1 q.1).2 = 0
  rw [if_pos hs, if_pos hs]; rfl
  rw [if_neg hs, if_neg hs, h2 hs]
  have e5 := (Yf6 hs).1
  show rn1 gs ds.length _ ++ [] = _
  rw [List.append_nil, Yp7 (by rw [e5]; exact (Xm0 hz hq).2 ⟨hzn, hqn⟩)]
  rw [Yz6 hqn]
  unfold P9
  simp only [List.filterMap_cons, List.filterMap_nil]
  by_cases hs : (N4 ds z.1 q.1).2 = 0
  rw [if_pos hs]; rfl
  rw [if_neg hs]
  have e5 := (Yf6 hs).1
  show rn1 gs ds.length _ ++ [] = _
  rw [List.append_nil, Yz6 (by rw [e5]; exact fun h => hqn ((Xm0 hz hq).1 h).2)]
  rw [Yz6 hzn, List.flatMap_nil, List.flatMap_nil, List.append_nil]
  unfold P9
  simp only [List.filterMap_cons, List.filterMap_nil]
  by_cases hs : (N4 ds z.1 q.1).2 = 0
  rw [if_pos hs]; rfl
  rw [if_neg hs]
  have e5 := (Yf6 hs).1
  show rn1 gs ds.length _ ++ [] = _
  rw [List.append_nil, Yz6 (by rw [e5]; exact fun h => hzn ((Xm0 hz hq).1 h).1)]
theorem Wb0 (hl : ds.length ≤ 8) {G : MpT} (hG : Nn G) : ∀ {S : MpT}, Nn S → rnF gs ds.length (D4 ds S G) = D4 (dsG gs ds) (rnF gs ds.length S) (rnF gs ds.length G)
 | [], _ => rfl
 | z :: S, hS => by
  have ih := Wb0 hl hG (S := S) (fun t ht => hS t (List.mem_cons_of_mem _ ht))
  have e1 : rnF gs ds.length (D4 ds (z :: S) G) = rnF gs ds.length (P9 ds z G) ++ rnF gs ds.length (D4 ds S G) := by
   show List.flatMap _ (P9 ds z G ++ D4 ds S G) = _
   rw [List.flatMap_append]; rfl
  have e2 : D4 (dsG gs ds) (rnF gs ds.length (z :: S)) (rnF gs ds.length G) = ((rn1 gs ds.length z).flatMap fun z' => P9 (dsG gs ds) z' (rnF gs ds.length G)) ++ D4 (dsG gs ds) (rnF gs ds.length S) (rnF gs ds.length G) := by
   show List.flatMap _ (rn1 gs ds.length z ++ rnF gs ds.length S) = _
   rw [List.flatMap_append]; rfl
  rw [e1, e2, ih, Xs7 hl (hS z (List.mem_cons_self ..)) hG]
/-- leaving out generators is a map of products -/
theorem Wb6 (hl : ds.length ≤ 8) {S G : MpT} (hS : Nn S) (hG : Nn G) : rnL gs ds.length (Zp0 ds S G) = Zp0 (dsG gs ds) (rnL gs ds.length S) (rnL gs ds.length G) := by
 unfold Zp0
 rw [Xx2]
 unfold rnL
 rw [Wo0, Wb0 hl hG hS]
theorem Wq1 (n : Nat) : rnA gs n (fun _ => 0) = fun _ => 0 := by
 funext t; unfold rnA; split
 exact Xf6 _
 rfl
theorem Xr8 {n : Nat} {c : Int} (hc : 1 ≤ c ∧ c ≤ 10006) : rnL gs n [((fun _ => 0), c)] = [((fun _ => 0), c)] := by
 unfold rnL rnF
 rw [List.flatMap_cons, List.flatMap_nil, List.append_nil, Yp7 (fun j _ _ => Xf6 _), Wq1]
 exact Xe2 hc
theorem Xr2 {u : Int} {s : MpT} (h : Hm u ds s) : Nn s := fun t ht => (h.mo t ht).lo
theorem Wh4 (hl : ds.length ≤ 8) (hp : noG gs ds.length p) : ∀ j, j ≤ ds.length → wtN (dsG gs ds) (rnA gs ds.length p) (P1 gs j).length = wtN ds p j
 | 0, _ => rfl
 | j + 1, h => by
  have ih := Wh4 hl hp j (by omega)
  rw [Zk4]
  cases hg : M7 gs (j : Int) with
  | true => rw [if_pos rfl, ih, wtN, hp j (by omega) hg, Int.mul_zero, Int.add_zero]
  | false => rw [if_neg (by decide), List.length_append, show [j].length = 1 from rfl, wtN, wtN, ih, Xw4 hg (by omega), Xj5 hl hg (by omega)]
theorem Vg4 {B : Int} (hB : 0 ≤ B) (hl : ds.length ≤ 8) (hm : Mo B ds p) : Mo B (dsG gs ds) (rnA gs ds.length p) := by
 refine ⟨fun i => ?_, fun i => ?_, fun n hn ho => ?_, fun i hi => ?_⟩
 unfold rnA; split
 exact (Yz8 hm.lo hm.hi hB _).1
 exact Int.le_refl _
 unfold rnA; split
 exact (Yz8 hm.lo hm.hi hB _).2
 exact hB
 rw [Yf5] at hn
 have hm1 := Ym7 (List.getElem_mem hn)
 have h3 := Zn6 gs ds.length
 have e : rd (dsG gs ds) (n : Int) = rd ds (((P1 gs ds.length)[n] : Nat) : Int) := Zy2 (by unfold dsG; rw [List.getElem?_map, List.getElem?_eq_getElem hn]; rfl)
 rw [e] at ho
 have := hm.odd _ hm1.1 ho
 rw [T9 _ (show n < 8 by omega)]
 unfold rnA
 rw [dif_pos hn]; exact this
 rw [Yf5] at hi
 unfold rnA
 rw [dif_neg (by omega)]
theorem Vh0 {u : Int} {f : MpT} (hl : ds.length ≤ 8) (hf : Hm u ds f) : Hm u (dsG gs ds) (rnL gs ds.length f) := by
 refine Yy0 (fun r hr => ?_) (Hm.nil _ _)
 obtain ⟨t, ht, hr⟩ := List.mem_flatMap.1 hr
 by_cases h : noG gs ds.length t.1
 rw [Yp7 h] at hr
 cases List.mem_singleton.1 hr
 refine ⟨Vg4 (by decide) hl (hf.mo t ht), ?_⟩
 have := Wh4 hl h ds.length (Nat.le_refl _)
 have hw := hf.w t ht
 unfold wt at hw ⊢
 rw [Yf5, this, hw]
 rw [Yz6 h] at hr; cases hr
theorem Wt9 {v : Int} {g : MpT} (hd : okD ds = true) (hv : 0 ≤ v) (hg : Hm v ds g) : ∀ n : Nat, (n : Int) * v ≤ 13 → rnL gs ds.length (pwL ds g n) = pwL (dsG gs ds) (rnL gs ds.length g) n
 | 0, _ => Xr8 (by decide)
 | n + 1, h => by
  have e : ((n + 1 : Nat) : Int) * v = (n : Int) * v + v := by rw [Int.natCast_add, Int.add_mul]; simp
  rw [e] at h
  show rnL gs ds.length (Zp0 ds (pwL ds g n) g) = Zp0 (dsG gs ds) (pwL (dsG gs ds) (rnL gs ds.length g) n) (rnL gs ds.length g)
  rw [Wb6 (T6 hd) (Xr2 (Yi3 hd hv hg n (by omega))) (Xr2 hg), Wt9 hd hv hg n (by omega)]
variable {sd : List Int} {ms : List MpT}
theorem Yy2 {F : MpT → MpT} {j : Nat} (h : j < ms.length) : rd (ms.map F) (j : Int) = F (rd ms (j : Int)) := Zy2 (by rw [List.getElem?_map, List.getElem?_eq_getElem h, G0 h]; rfl)
theorem Va6 (hL : Lds sd ds ms) : Lds sd (dsG gs ds) (ms.map (rnL gs ds.length)) :=
 ⟨hL.src, Vd9 hL.dst, by rw [List.length_map]; exact hL.len, fun j hj => by
  rw [List.length_map] at hj
  rw [Yy2 hj]; exact Vh0 (T6 hL.dst) (hL.hm j hj)⟩
theorem Wj5 {m : A8} {c : Int} (hL : Lds sd ds ms) (lo : ∀ i, 0 ≤ m i) (hw : wt sd m ≤ 13) (hc : 1 ≤ c ∧ c ≤ 10006) : ∀ j, j ≤ sd.length →
 rnL gs ds.length (prT ds ms m c j) = prT (dsG gs ds) (ms.map (rnL gs ds.length)) m c j
 | 0, _ => Xr8 hc
 | j + 1, h => by
  obtain ⟨h1, h2, h3, h4, h5, h6⟩ := Xh1 hL lo hw (show j < sd.length by omega)
  have hj : j < ms.length := by rw [hL.len]; omega
  have ih := Wj5 hL lo hw hc j (by omega)
  rw [prT, prT]
  split
  rw [Wb6 (T6 hL.dst) (Xr2 (Yh6 hL lo hw hc j (by omega))) (Xr2 (Yi3 hL.dst h1 (hL.hm j hj) _ h4)), ih, Wt9 hL.dst h1 (hL.hm j hj) _ h4, Yy2 hj]
  exact ih
/-- where forms lead a form, without some generators -/
theorem Xt4 {f : MpT} (hL : Lds sd ds ms) (hf : Led sd f) : rnL gs ds.length (N8 ds ms sd.length f) = N8 (dsG gs ds) (ms.map (rnL gs ds.length)) sd.length f := by
 unfold N8
 rw [Xx2]
 unfold rnL Yk1 rnF
 rw [List.flatMap_assoc]
 refine Xt3 (fun t ht => ?_)
 have h := Wj5 (gs := gs) hL (hf.lo t ht) (hf.w t ht) (hf.c t ht) sd.length (Nat.le_refl _)
 have hnf : nfm (prT (dsG gs ds) (ms.map (rnL gs ds.length)) t.1 t.2 sd.length) = true := by rw [← h]; exact Zd7 _ B8
 show rnL gs ds.length (prT ds ms t.1 t.2 sd.length) = _
 rw [h]; exact (Yc6 hnf).symm
theorem Wi0 {t : Nat} (hl : ds.length ≤ 8) (ht : t < ds.length) : rnL gs ds.length [(gn t 1, 1)] = if M7 gs (t : Int) = true then [] else [(gn (P1 gs t).length 1, 1)] := by
 unfold rnL rnF
 rw [List.flatMap_cons, List.flatMap_nil, List.append_nil]
 cases hg : M7 gs (t : Int) with
 | true =>
  rw [if_pos rfl, Yz6 (fun h => by have := h t ht hg; rw [Zy9 (by omega), if_pos rfl] at this; cases this)]; rfl
 | false =>
  have hlt := Xm8 hg ht
  have h3 := Zn6 gs ds.length
  rw [if_neg (by decide), Yp7 (fun j hj hgj => by
   show Y5 (gn t 1) (j : Int) = 0
   rw [Zy9 (by omega)]
   split
   rename_i e; subst e; rw [hg] at hgj; cases hgj
   rfl)]
  have e : rnA gs ds.length (gn t 1) = gn (P1 gs t).length 1 := by
   funext k
   unfold gn
   rw [I4 _ (show (P1 gs t).length < 8 by omega)]
   show rnA gs ds.length (gn t 1) k = _
   unfold rnA
   by_cases hk : k.val < (P1 gs ds.length).length
   rw [dif_pos hk, Zy9 (by omega)]
   have h4 := (List.getElem?_eq_some_iff.1 (Yq9 hg ht))
   by_cases e : k.val = (P1 gs t).length
   rw [if_pos e, if_pos]
   have : (P1 gs ds.length)[k.val] = (P1 gs ds.length)[(P1 gs t).length] := by congr 1
   rw [this]; exact h4.2
   rw [if_neg e, if_neg]
   intro h5
   apply e
   exact Vb8 (Wf2 gs ds.length) hk h4.1 (h5.trans h4.2.symm)
   rw [dif_neg hk, if_neg (by omega)]
  rw [e]; exact Xe2 (show 1 ≤ (1 : Int) ∧ (1 : Int) ≤ 10006 by decide)
theorem Xu5 (hl : ds.length ≤ 8) : (nmG [] ds.length).map (rnL gs ds.length) = nmG gs ds.length := by
 unfold nmG
 rw [List.map_map]
 refine List.map_congr_left (fun j hj => ?_)
 have := Wi0 (gs := gs) hl (List.mem_range.1 hj)
 show rnL gs ds.length (if M7 [] (j : Int) = true then [] else [(gn (P1 [] j).length 1, 1)]) = _
 rw [Ys1, List.length_range, if_neg (by simp [M7])]
 exact this
theorem Wm0 (hd : okD ds = true) : Lds ds ds (nmG [] ds.length) := ⟨hd, hd, Ze1 _ _, fun j hj => by
 rw [Ze1] at hj
 rw [Xi0 hj]; exact Yz2 hd hj (by decide)⟩
theorem Xk3 (hd : okD ds = true) : Lds ds (dsG gs ds) (nmG gs ds.length) := by
 have := Va6 (gs := gs) (Wm0 hd)
 rwa [Xu5 (T6 hd)] at this
/-- renumbering is leaving out -/
theorem Vf6 {u : Int} {f : MpT} (hd : okD ds = true) (hf : Hm u ds f) (hu : u ≤ 13) : N8 (dsG gs ds) (nmG gs ds.length) ds.length f = rnL gs ds.length f := by
 have h := Xt4 (gs := gs) (Wm0 hd) (Zz4 hf hu)
 rw [Wq7 hd hf, Xu5 (T6 hd)] at h
 exact h.symm
/-- led, then renumbered: led at once -/
theorem Wv1 {u : Int} {f : MpT} (hL : Lds ds ds ms) (hf : Hm u ds f) (hu : u ≤ 13) :
 N8 (dsG gs ds) (nmG gs ds.length) ds.length (N8 ds ms ds.length f) = N8 (dsG gs ds) (ms.map (rnL gs ds.length)) ds.length f := by
 rw [Vf6 hL.dst (Zr7 hL hf hu) hu, Xt4 hL (Zz4 hf hu)]
end
theorem Wj1 (K : Nat) (b : Bool) (c : Int) : Zx6 K b c = some (if b = true then c else 0) := by unfold Zx6; split <;> rfl
section
variable {K : Nat} {a : L4} {i c : Int}
theorem Vf1 (hi : Inp K a) : Zm5 K a [] = some (if okA a = true then 0 else 1) := by
 have hK := hi.big
 unfold Zm5
 rw [show (a.1, a.2) = a from rfl, Vf3 hi, Option.bind_some]
 by_cases hA : okA a = true
 case neg =>
  rw [if_neg hA, if_neg hA, Wj1, Option.bind_some]; rfl
 rw [if_pos hA, if_pos hA, Xn7 (q := fun _ => false) (by simp; omega) (fun x hx => by cases hx), Option.bind_some, Wj1, Option.bind_some]; rfl
theorem Ve3 (hi : Inp K a) (hB : okB a = true) : ∀ j, j < a.2.length → Hm (rd a.1 (j : Int) + 1) a.1 (rd a.2 (j : Int)) := by
 intro j hj
 have hd := Wc0 hB
 have hv := Xk4 hi hB
 have hpos := D8 hd _ (V7 (show j < a.1.length by have := hv.len; omega))
 unfold okB at hB
 rw [Bool.and_eq_true, Bool.and_eq_true] at hB
 have h := List.all_eq_true.1 hB.2.2 j (List.mem_range.2 hj)
 unfold okI okG at h
 rw [Bool.and_eq_true] at h
 exact Vg6 hd (hv.all _ (V7 hj)) (fun t ht => of_decide_eq_true (List.all_eq_true.1 h.2 t ht)) (by omega)
/-- a multiple of a normal sum -/
def Xl2 (c : Int) (f : MpT) : MpT := T7 (scl c f) []
theorem Wa8 {u : Int} {ds : List Int} {f : MpT} (hf : Hm u ds f) : Hm u ds (Xl2 c f) := by
 refine Yy0 (fun r hr => ?_) (Hm.nil _ _)
 obtain ⟨t, ht, rfl⟩ := List.mem_map.1 hr
 exact ⟨hf.mo t ht, hf.w t ht⟩
end
end Go.Proofs.YtabofnehiclkiaaGreat
