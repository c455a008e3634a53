/- Plain laws on the pure functions. -/
import Derived.Test.YtfodlhkoafhplaaGreatWP1
import Derived.Test.YtfodlhkoafhplaaGreatWF12
import Derived.Test.YtfodlhkoafhplaaGreatWF10
import Derived.Test.YtfodlhkoafhplaaGreatWF2
import Derived.Test.YtfodlhkoafhplaaGreatWF1
import Derived.Test.YtfodlhkoafhplaaGreatWF3
import Derived.Test.YtfodlhkoafhplaaGreatWF4
import Derived.Test.YtfodlhkoafhplaaGreatWF5
import Derived.Test.YtfodlhkoafhplaaGreatWF6
import Derived.Test.YtfodlhkoafhplaaGreatWF7
import Derived.Test.YtfodlhkoafhplaaGreatWF8
import Derived.Test.YtfodlhkoafhplaaGreatWF9
import Derived.Test.YtfodlhkoafhplaaGreatWF11
import Derived.Test.YtfodlhkoafhplaaGreatWF13
import Derived.Test.YtfodlhkoafhplaaGreatWF14
import Derived.Test.YtfodlhkoafhplaaGreatWF15
import Derived.Test.YtfodlhkoafhplaaGreatWF16
import Derived.Test.YtfodlhkoafhplaaGreatWF17
import Derived.Test.YtfodlhkoafhplaaGreatWF18
import Derived.Test.YtfodlhkoafhplaaGreatWF19
import Derived.Test.YtfodlhkoafhplaaGreatWF20
namespace Go.Proofs.YtfodlhkoafhplaaGreat
open Go
set_option linter.unusedSimpArgs false
set_option linter.unusedVariables false
theorem Ya3 {B : Int} {ds : List Int} {p : A8} (h : Mo B ds p) : MoL B ds [(p, 1)] := fun t ht => by cases List.mem_singleton.1 ht; exact h
theorem Yf3 (p : A8) : SmF [(p, 1)] := fun t ht => by cases List.mem_singleton.1 ht; simp
theorem Xp5 (p : A8) : Srt [(p, 1)] := List.pairwise_singleton _ _
theorem Yk1 (K : Nat) (p : A8) : L3 K p 1 = some [(p, 1)] := by
 unfold L3
 rw [Yd9]; rfl
section
variable {K : Nat} {ds : List Int} {img : MpT} {m : A8} {i : Nat}
theorem Yn5 (hm : Mo 20 ds m) (hi : i < 8) (h1 : 0 < Y5 m i) (hv : VF ds img) : MoL 40 ds (S7 (Ze4 ds [(lfM m i, 1)] img) []) ∧ (S7 (Ze4 ds [(lfM m i, 1)] img) []).length ≤ 400 := by
 refine ⟨We6 (We8 (Ya3 (Xd3 hm (by decide) hi h1)) hv.mo), ?_⟩
 have h2 := Zx7 (Ze4 ds [(lfM m i, 1)] img) []
 have h3 := Xi5 (ds := ds) [(lfM m i, 1)] img
 have h4 := hv.len
 simp only [List.length_cons, List.length_nil] at h2 h3
 omega
theorem Xh5 (hm : Mo 20 ds m) (hi : i < 8) (h1 : 0 < Y5 m i) (hv : VF ds img) : (dT ds img m i).length ≤ 400 := by
 have h0 := (Yn5 hm hi h1 hv).2
 unfold dT
 generalize S7 (Ze4 ds [(lfM m i, 1)] img) [] = T at h0 ⊢
 have h2 := Zx7 (Ze4 ds T [(hiM m i, 1)]) []
 have h3 := Xi5 (ds := ds) T [(hiM m i, 1)]
 simp only [List.length_cons, List.length_nil] at h2 h3
 omega
theorem Xe9 : nfm (dT ds img m i) = true := Za2 _ Zc1
theorem Yo3 {z : D2} {out : MpT} (hm : Mo 20 ds z.1) (hi : i < 8) (h1 : 0 < Y5 z.1 i) (hv : VF ds img) : (Yk3 ds img z i out).length ≤ out.length + 400 := by
 have h1 := Xh5 hm hi h1 hv
 have h2 := Zx7 (scl (dF ds z i) (dT ds img z.1 i)) out
 unfold Yk3
 have : (scl (dF ds z i) (dT ds img z.1 i)).length = (dT ds img z.1 i).length := by simp [scl]
 omega
theorem Xi8 (m : A8) (i : Nat) : ∀ (k j : Nat) (front back : A8), 8 < j + k → j ≤ 8 → (∀ t : Fin 8, front t = if t.val < j ∧ i ≤ t.val then 0 else m t) → (∀ t : Fin 8, back t = if t.val < j ∧ t.val ≤ i then 0 else m t) →
 G7 K i k j front back = some (.go (loM m i, hiM m i)) := by
 intro k
 induction k with
 | zero => intro j front back h1 h2; omega
 | succ k ih =>
  intro j front back h1 h2 hf hb
  rw [G7]
  by_cases hj : j < 8
  have key : ∀ fr : A8, (∀ t : Fin 8, fr t = if t.val < j + 1 ∧ i ≤ t.val then 0 else m t) → Zh3 K (G7 K i k) i j back fr = some (.go (loM m i, hiM m i)) := by
   intro fr hfr
   unfold Zh3
   by_cases h : j ≤ i
   rw [if_pos (by omega)]
   refine ih (j + 1) _ _ (by omega) (by omega) hfr (fun t => ?_)
   rw [B0 _ hj, hb t]
   by_cases e : t.val = j
   rw [if_pos e, if_pos (by omega)]
   rw [if_neg e]
   by_cases h' : t.val < j ∧ t.val ≤ i
   rw [if_pos h', if_pos (by omega)]
   rw [if_neg h', if_neg (by omega)]
   rw [if_neg (by omega)]
   refine ih (j + 1) _ _ (by omega) (by omega) hfr (fun t => ?_)
   rw [hb t]
   by_cases h' : t.val < j ∧ t.val ≤ i
   rw [if_pos h', if_pos (by omega)]
   rw [if_neg h', if_neg (by omega)]
  rw [if_pos (by omega)]
  by_cases h : i ≤ j
  rw [if_pos (by omega)]
  refine key _ (fun t => ?_)
  rw [B0 _ hj, hf t]
  by_cases e : t.val = j
  rw [if_pos e, if_pos (by omega)]
  rw [if_neg e]
  by_cases h' : t.val < j ∧ i ≤ t.val
  rw [if_pos h', if_pos (by omega)]
  rw [if_neg h', if_neg (by omega)]
  rw [if_neg (by omega)]
  refine key _ (fun t => ?_)
  rw [hf t]
  by_cases h' : t.val < j ∧ i ≤ t.val
  rw [if_pos h', if_pos (by omega)]
  rw [if_neg h', if_neg (by omega)]
  rw [if_neg (by omega)]
  congr 3
  funext t
  rw [hf t]; unfold loM
  by_cases h : t.val < i
  rw [if_neg (by omega), if_pos h]
  rw [if_pos (by omega), if_neg h]
  funext t
  rw [hb t]; unfold hiM
  by_cases h : i < t.val
  rw [if_neg (by omega), if_pos h]
  rw [if_pos (by omega), if_neg h]
/-- how imgs, the images of an algebra, are -/
structure VI (ds : List Int) (imgs : List MpT) : Prop where
 len : imgs.length = ds.length
 all : ∀ f, f ∈ imgs → VF ds f
theorem We7 {out : MpT} {f : Int} (hK : 1073741824 ≤ K) (hd : okD ds = true) (hm : Mo 20 ds m) (hi : i < 8) (h1 : 0 < Y5 m i) {imgs : List MpT} (hv : VI ds imgs) (hil : i < ds.length) (ho : nfm out = true) (hol : out.length ≤ 100000000)
 (lk : Int → MpT → Option (Ex MpT MpT)) (a1 : MpT) (x0 : Int) (hz : (rd a1 x0).1 = m) :
 Zh4 K lk (ds, imgs) a1 x0 i out (loM m i) (hiM m i) f = lk ((i : Int) + 1) (S7 (scl (f % 10007) (dT ds (rd imgs (i : Int)) m i)) out) := by
 have hl := hv.len
 have hv' := hv.all _ (U9 (show i < imgs.length by omega))
 have hvl := hv'.len
 have hp := Yn5 hm hi h1 hv'
 have hb := hm.hi ⟨i, hi⟩
 rw [← R2 m hi] at hb
 have hw : T8 (loM m i) i (IntKind.u8.wrap (Y5 m i - 1)) = lfM m i := by rw [Xe1 (by omega)]; rfl
 have hn := Xh5 hm hi h1 hv'
 unfold Zh4
 rw [hz, hw, Yk1, Option.bind_some, if_pos (show (i : Int) < imgs.length by omega),
  Xh6 (B := 20) (C := 20) hK hd (by decide) (by decide) (Ya3 (Xd3 hm (by decide) hi h1)) (Yf3 _) hv'.mo hv'.small (P7 hv'.nf) (by omega) (by simp; omega) (by simp; omega), Option.bind_some, Yk1, Option.bind_some,
  Xh6 (B := 40) (C := 20) hK hd (by decide) (by decide) hp.1 (E0 (Za2 _ Zc1)) (Ya3 (Xp8 hm (by decide) i)) (Yf3 _) (Xp5 _) (by simp) (by omega) (by simp; omega), Option.bind_some, Yd9, Option.bind_some]
 have hT : S7 (Ze4 ds (S7 (Ze4 ds [(lfM m i, 1)] (rd imgs (i : Int))) []) [(hiM m i, 1)]) [] = dT ds (rd imgs (i : Int)) m i := rfl
 rw [hT, Yq4 (by omega) (by omega) (by omega) (E0 ho) (E0 Xe9) (by omega) (by omega), Option.bind_some, Yc2 ho (P7 Xe9)]
theorem Wi3 (x y a : Int) (hx : 0 ≤ x) : sg (x + y * a) = if y % 2 = 1 ∧ a % 2 = 1 then - sg x else sg x := by
 have h : (y * a) % 2 = ((y % 2) * (a % 2)) % 2 := Int.mul_emod y a 2
 have e : sg (y * a) = if y % 2 = 1 ∧ a % 2 = 1 then -1 else 1 := by
  unfold sg
  rw [h]
  rcases Int.emod_two_eq y with h1 | h1 <;> rcases Int.emod_two_eq a with h2 | h2 <;> simp [h1, h2]
 rw [Xt3, e]
 split
 rw [Int.mul_neg, Int.mul_one]
 rw [Int.mul_one]
theorem Wf9 (m : A8) {i : Nat} (hi : i < 8) : T8 (loM m i) i (Y5 m i) = loM m (i + 1) := by
 funext t
 rw [B0 _ hi, R2 m hi]
 unfold loM
 by_cases e : t.val = i
 rw [if_pos e, if_pos (by omega)]; congr 1; exact Fin.ext e.symm
 rw [if_neg e]
 by_cases h : t.val < i
 rw [if_pos h, if_pos (by omega)]
 rw [if_neg h, if_neg (by omega)]
theorem Xc6 {z : D2} (hm : Mo 20 ds z.1) (hz : -10006 ≤ z.2 ∧ z.2 ≤ 10006) (i : Nat) (hi : i < 8) (s : Int) (hs : s = 1 ∨ s = -1) : (-10006 ≤ s * z.2 ∧ s * z.2 ≤ 10006) ∧ -100120036 ≤ s * z.2 * Y5 z.1 i ∧ s * z.2 * Y5 z.1 i ≤ 100120036 := by
 have h2 := hm.hi ⟨i, hi⟩
 have h3 := hm.lo ⟨i, hi⟩
 rw [← R2 z.1 hi] at h2 h3
 exact Ys6 (.inr hs) hz (by omega)
theorem Xj6 {imgs : List MpT} {f : MpT} {x0 : Int} (hK : 1073741824 ≤ K) (hd : okD ds = true) (hv : VI ds imgs) (hm : Mo 20 ds (rd f x0).1) (hz : -10006 ≤ (rd f x0).2 ∧ (rd f x0).2 ≤ 10006) :
 ∀ (k i : Nat) (out : MpT), ds.length < i + k → i ≤ ds.length → nfm out = true → out.length + 400 * (ds.length - i) ≤ 100000000 →
  J5 K (ds, imgs) f x0 k i out = some (.go (Zt6 ds imgs (rd f x0) (ds.length - i) i out)) := by
 have hl := Q4 hd
 intro k
 induction k with
 | zero => intro i out h1 h2; omega
 | succ k ih =>
  intro i out h1 h2 ho hol
  rw [J5]
  by_cases hi : i < ds.length
  obtain ⟨n, hn⟩ : ∃ n, ds.length - i = n + 1 := ⟨ds.length - i - 1, by omega⟩
  have e2 : ds.length - (i + 1) = n := by omega
  have hi8 : i < 8 := by omega
  have hlo := hm.lo ⟨i, hi8⟩
  have hhi := hm.hi ⟨i, hi8⟩
  rw [← R2 (rd f x0).1 hi8] at hlo hhi
  rw [if_pos (show (i : Int) < ds.length by omega), if_pos (by omega), hn, Zt6]
  by_cases h0 : Y5 (rd f x0).1 i = 0
  have := ih (i + 1) out (by omega) (by omega) ho (by omega)
  rw [e2] at this
  rw [if_pos h0, if_pos h0]; exact this
  have h1' : 0 < Y5 (rd f x0).1 i := by omega
  have hv' := hv.all _ (U9 (show i < imgs.length by rw [hv.len]; exact hi))
  have hl2 := Xi8 (K := K) (rd f x0).1 i K 0 (rd f x0).1 (rd f x0).1 (by omega) (by omega) (fun t => by simp) (fun t => by simp)
  replace hl2 : G7 K i K 0 (rd f x0).1 (rd f x0).1 = _ := hl2
  have hsl := Yo3 (out := out) hm hi8 h1' hv'
  have := ih (i + 1) (Yk3 ds (rd imgs (i : Int)) (rd f x0) i out) (by omega) (by omega) (Za2 _ ho) (by omega)
  rw [e2] at this
  have hwt := Xg0 hd ((Xo8 hm (by decide) i).byt (by decide))
  rw [Wb5 _ _ (by omega)] at hwt
  have hfb := Xc6 hm hz i hi8 1 (.inl rfl)
  rw [Int.one_mul] at hfb
  rw [if_neg h0, if_neg h0, hl2, Option.bind_some]
  show (Za6 K ds (loM (rd f x0).1 i)).bind _ = _
  rw [Ys8 (by omega) hd ((Xo8 hm (by decide) i).byt (by decide)), Option.bind_some, Wb5 _ _ (by omega), Zz2 (by omega), IntWalk.i64_in (Y5 (rd f x0).1 i) (by omega), IntWalk.i64_in ((rd f x0).2 * _) (by omega), IntWalk.i64_in (0 - _) (by omega)]
  have hj := fun g => We7 (K := K) (f := g) hK hd hm hi8 h1' hv hi ho (by omega) (J5 K (ds, imgs) f x0 k) f x0 rfl
  rw [hj, hj]
  have hF : dF ds (rd f x0) i = (if wtN ds (rd f x0).1 i % 2 = 0 then (rd f x0).2 * Y5 (rd f x0).1 i else 0 - (rd f x0).2 * Y5 (rd f x0).1 i) % 10007 := by
   unfold dF sg
   by_cases e : wtN ds (rd f x0).1 i % 2 = 0
   rw [if_pos e, if_neg (by omega), Int.one_mul]
   rw [if_neg e, if_pos (by omega), Int.neg_mul, Int.one_mul, Int.neg_mul, Int.zero_sub]
  refine Eq.trans ?_ this
  unfold Yk3
  rw [hF]
  split <;> rfl
  rw [if_neg (show ¬ (i : Int) < ds.length by omega), show ds.length - i = 0 by omega]; rfl
end
section
variable {K : Nat} {ds : List Int} {img : MpT} {m : A8} {i : Nat}
theorem Zu2 {imgs : List MpT} {z : D2} (hd : okD ds = true) (hv : VI ds imgs) (hm : Mo 20 ds z.1) : ∀ (n i : Nat) (out : MpT), i + n ≤ ds.length → nfm out = true →
 nfm (Zt6 ds imgs z n i out) = true ∧ (Zt6 ds imgs z n i out).length ≤ out.length + 400 * n
 | 0, _, out, _, h => ⟨h, Nat.le_refl _⟩
 | n + 1, i, out, hi, h => by
  have hl := Q4 hd
  rw [Zt6]
  by_cases h0 : Y5 z.1 (i : Int) = 0
  rw [if_pos h0]
  have := Zu2 hd hv hm n (i + 1) out (by omega) h
  exact ⟨this.1, by omega⟩
  rw [if_neg h0]
  have hv' := hv.all _ (U9 (show i < imgs.length by rw [hv.len]; omega))
  have hlo := (hm.idx i).1
  have h2 := Yo3 (out := out) (z := z) hm (show i < 8 by omega) (by omega) hv'
  have := Zu2 hd hv hm n (i + 1) (Yk3 ds (rd imgs (i : Int)) z i out) (by omega) (Za2 _ h)
  exact ⟨this.1, by omega⟩
theorem Yw6 {imgs : List MpT} (hd : okD ds = true) (hv : VI ds imgs) : ∀ (f out : MpT), MoL 20 ds f → nfm out = true → nfm (Zf9 ds imgs f out) = true ∧ (Zf9 ds imgs f out).length ≤ out.length + 3200 * f.length
 | [], out, _, h => ⟨h, Nat.le_refl _⟩
 | z :: f, out, hf, h => by
  have hl := Q4 hd
  have h1 := Zu2 hd hv (hf z (List.mem_cons_self ..)) ds.length 0 out (by omega) h
  have h2 := Yw6 hd hv f _ (fun q hq => hf q (List.mem_cons_of_mem _ hq)) h1.1
  rw [Zf9, List.length_cons]
  exact ⟨h2.1, by omega⟩
theorem Xj9 {imgs : List MpT} {f : MpT} (hK : 1073741824 ≤ K) (hd : okD ds = true) (hv : VI ds imgs) (hm : MoL 20 ds f) (hz : SmF f) :
 ∀ (k i : Nat) (out : MpT), f.length < i + k → i ≤ f.length → nfm out = true → out.length + 3200 * (f.length - i) ≤ 90000000 → Zd4 K (ds, imgs) f k i out = some (.go (Zf9 ds imgs (f.drop i) out)) := by
 have hl := Q4 hd
 intro k
 induction k with
 | zero => intro i out h1 h2; omega
 | succ k ih =>
  intro i out h1 h2 ho hol
  rw [Zd4]
  by_cases hi : i < f.length
  have h3 := Xj6 hK hd hv (hm _ (U9 hi)) (hz _ (U9 hi)) K 0 out (by omega) (by omega) ho (by omega)
  have h4 := Zu2 hd hv (hm _ (U9 hi)) ds.length 0 out (by omega) ho
  replace h3 : J5 K (ds, imgs) f i K 0 out = _ := h3
  rw [if_pos (by omega), h3, Option.bind_some, Zj4 hi, Zf9]
  exact ih (i + 1) _ (by omega) (by omega) h4.1 (by rw [Nat.sub_zero]; omega)
  rw [if_neg (by omega), List.drop_eq_nil_of_le (by omega)]; rfl
theorem Wj0 {imgs : List MpT} {f : MpT} (hK : 1073741824 ≤ K) (hd : okD ds = true) (hv : VI ds imgs) (hf : VF ds f) : Zq5 K (ds, imgs) f = some (Zf9 ds imgs f []) := by
 have hl := hf.len
 have := Xj9 hK hd hv hf.mo hf.small K 0 [] (by omega) (by omega) Zc1 (by simp; omega)
 unfold Zq5
 replace this : Zd4 K (ds, imgs) f K 0 [] = some (.go (Zf9 ds imgs f [])) := this
 rw [this]; rfl
theorem Xv2 (m : A8) {i : Nat} (hi : i < 8) : ∀ (k j : Nat) (box : A8), i + 1 < j + k → j ≤ i + 1 → (∀ t : Fin 8, box t = if t.val < j then 0 else m t) → R5 K i k j box = some (.go (hiM m i)) := by
 intro k
 induction k with
 | zero => intro j box h1 h2; omega
 | succ k ih =>
  intro j box h1 h2 hb
  rw [R5]
  by_cases hj : j < i + 1
  rw [if_pos (by omega), if_pos (by omega)]
  refine ih (j + 1) _ (by omega) (by omega) (fun t => ?_)
  rw [B0 _ (show j < 8 by omega), hb t]
  by_cases e : t.val = j
  rw [if_pos e, if_pos (by omega)]
  rw [if_neg e]
  by_cases h : t.val < j
  rw [if_pos h, if_pos (by omega)]
  rw [if_neg h, if_neg (by omega)]
  rw [if_neg (by omega)]
  congr 2
  funext t
  rw [hb t]; unfold hiM
  by_cases h : i < t.val
  rw [if_pos h, if_neg (by omega)]
  rw [if_neg h, if_pos (by omega)]
def sgI (ds : List Int) (m : A8) (i : Nat) : Int := sg (wtN ds m (min i ds.length))
theorem Xv4 {imgs : List MpT} {z : D2} (hd : okD ds = true) (hm : Mo 20 ds z.1) {i : Nat} (hi : i < 8) (lk : Int → Int → A8 → MpT → Option (Ex MpT (A8 × MpT))) (out : MpT) :
 N3 K lk (ds, imgs) (sgI ds z.1 i) i (loM z.1 i) z out = lk (sgI ds z.1 (i + 1)) ((i : Int) + 1) (loM z.1 (i + 1)) out := by
 unfold N3
 dsimp only
 rw [Wf9 _ hi]
 by_cases hl : i < ds.length
 have hp := Zc2 hd _ (U9 hl)
 have hlo := (hm.idx i).1
 have hw := Ya2 hd (hm.byt (by decide)) i (by omega)
 have e : sgI ds z.1 (i + 1) = if rd ds (i : Int) % 2 = 1 ∧ Y5 z.1 i % 2 = 1 then - sgI ds z.1 i else sgI ds z.1 i := by
  unfold sgI
  rw [Nat.min_eq_left (show i + 1 ≤ ds.length by omega), Nat.min_eq_left (show i ≤ ds.length by omega), wtN]
  exact Wi3 _ _ _ hw.1
 rw [if_pos (show (i : Int) < ds.length by omega), Zz2 (by omega), Zz2 (by omega), e]
 have hs : IntKind.i64.wrap (0 - sgI ds z.1 i) = - sgI ds z.1 i := by
  rcases Yv0 (wtN ds z.1 (min i ds.length)) with h | h <;> (unfold sgI; rw [h]; rfl)
 by_cases h1 : rd ds (i : Int) % 2 = 1
 by_cases h2 : Y5 z.1 i % 2 = 1
 rw [if_pos h1, if_pos h2, if_pos ⟨h1, h2⟩, hs]
 rw [if_pos h1, if_neg h2, if_neg (fun h => h2 h.2)]
 rw [if_neg h1, if_neg (fun h => h1 h.1)]
 rw [if_neg (show ¬ (i : Int) < ds.length by omega)]
 unfold sgI
 rw [Nat.min_eq_right (show ds.length ≤ i by omega), Nat.min_eq_right (show ds.length ≤ i + 1 by omega)]
theorem Xv0 {imgs : List MpT} {z : D2} {r6 : M8} (hK : 1073741824 ≤ K) (hd : okD ds = true) (hv : VI ds imgs) (hm : Mo 20 ds z.1) (hz : -10006 ≤ z.2 ∧ z.2 ≤ 10006) (hr : ∀ j, j < imgs.length → Zk6 r6 (j : Int) = rd imgs (j : Int)) :
 ∀ (k i : Nat) (out : MpT), 8 < i + k → i ≤ 8 → nfm out = true → out.length + 400 * (8 - i) ≤ 100000000 →
  ∃ a, T1 K (ds, imgs) r6 z k (sgI ds z.1 i) i (loM z.1 i) out = some (.go (a, Zt6 ds imgs z (ds.length - i) i out)) := by
 have hl := Q4 hd
 intro k
 induction k with
 | zero => intro i out h1 h2; omega
 | succ k ih =>
  intro i out h1 h2 ho hol
  rw [T1]
  by_cases hi8 : i < 8
  have hlo := hm.lo ⟨i, hi8⟩
  have hhi := hm.hi ⟨i, hi8⟩
  rw [← R2 z.1 hi8] at hlo hhi
  rw [if_pos (by omega)]
  by_cases h0 : Y5 z.1 i = 0
  rw [if_neg (by omega), Xv4 hd hm hi8]
  obtain ⟨a, ha⟩ := ih (i + 1) out (by omega) (by omega) ho (by omega)
  refine ⟨a, ?_⟩
  replace ha : T1 K (ds, imgs) r6 z k (sgI ds z.1 (i + 1)) ((i : Int) + 1) (loM z.1 (i + 1)) out = _ := ha
  rw [ha]
  by_cases hi : i < ds.length
  obtain ⟨n, hn⟩ : ∃ n, ds.length - i = n + 1 := ⟨ds.length - i - 1, by omega⟩
  have e2 : ds.length - (i + 1) = n := by omega
  rw [hn, e2, Zt6, if_pos h0]
  rw [show ds.length - (i + 1) = 0 by omega, show ds.length - i = 0 by omega]; rfl
  have hi : i < ds.length := by
   rcases Nat.lt_or_ge i ds.length with h | h
   exact h
   exact absurd (by rw [R2 z.1 hi8]; exact hm.out ⟨i, hi8⟩ h) h0
  have h1' : 0 < Y5 z.1 i := by omega
  have hil : i < imgs.length := by rw [hv.len]; exact hi
  have hv' := hv.all _ (U9 hil)
  have hvl := hv'.len
  have hp := Yn5 hm hi8 h1' hv'
  have hn := Xh5 hm hi8 h1' hv'
  have hsl := Yo3 (out := out) hm hi8 h1' hv'
  have hl2 := Xv2 (K := K) z.1 hi8 K 0 z.1 (by omega) (by omega) (fun t => by simp)
  replace hl2 : R5 K i K 0 z.1 = _ := hl2
  have hw : T8 (loM z.1 i) i (IntKind.i64.wrap (Y5 z.1 i - 1)) = lfM z.1 i := by rw [IntWalk.i64_in _ (by omega)]; rfl
  have hfb := Xc6 hm hz i hi8 (sgI ds z.1 i) (Yv0 _)
  have hF : (sgI ds z.1 i * z.2 * Y5 z.1 i) % 10007 = dF ds z i := by unfold dF sgI; rw [Nat.min_eq_left (by omega)]
  have hm1 : ∀ p : A8, A9 ([] : MpT) p 1 = [(p, 1)] := fun p => rfl
  rw [if_pos h1', hl2, Option.bind_some]
  obtain ⟨a, ha⟩ := ih (i + 1) (Yk3 ds (rd imgs (i : Int)) z i out) (by omega) (by omega) (Za2 _ ho) (by omega)
  refine ⟨a, ?_⟩
  show (M2 K (A9 ([] : MpT) (T8 (loM z.1 i) i (IntKind.i64.wrap (Y5 z.1 i - 1))) 1) ds (Zk6 r6 i)).bind _ = _
  have hT : S7 (Ze4 ds (S7 (Ze4 ds [(lfM z.1 i, 1)] (rd imgs (i : Int))) []) [(hiM z.1 i, 1)]) [] = dT ds (rd imgs (i : Int)) z.1 i := rfl
  rw [hw, hm1, hm1, hr i hil, Yt4 (B := 20) (C := 20) (by omega) hd (by decide) (by decide) (by decide) (Ya3 (Xd3 hm (by decide) hi8 h1')) (Yf3 _) hv'.mo hv'.small (by simp; omega) (by omega), Option.bind_some,
   Yt4 (B := 40) (C := 20) (by omega) hd (by decide) (by decide) (by decide) hp.1 (E0 (Za2 _ Zc1)) (Ya3 (Xp8 hm (by decide) i)) (Yf3 _) (by omega) (by simp; omega), Option.bind_some, hT,
   IntWalk.i64_in (sgI ds z.1 i * z.2) (by omega), IntWalk.i64_in _ (by omega), Xg8, Option.bind_some, hF, Yi9 (by unfold dF; omega) (by omega) (E0 Xe9) ho, Option.bind_some, Xv4 hd hm hi8]
  replace ha : T1 K (ds, imgs) r6 z k (sgI ds z.1 (i + 1)) ((i : Int) + 1) (loM z.1 (i + 1)) (S7 (scl (dF ds z i) (dT ds (rd imgs (i : Int)) z.1 i)) out) = _ := ha
  rw [ha]
  obtain ⟨n, hn⟩ : ∃ n, ds.length - i = n + 1 := ⟨ds.length - i - 1, by omega⟩
  have e2 : ds.length - (i + 1) = n := by omega
  rw [hn, e2, Zt6, if_neg h0]
  rw [if_neg (by omega), show ds.length - i = 0 by omega]; exact ⟨_, rfl⟩
set_option maxRecDepth 100000 in
theorem Xb3 {imgs : List MpT} {r6 : M8} (hK : 1073741824 ≤ K) (hd : okD ds = true) (hv : VI ds imgs) (hr : ∀ j, j < imgs.length → Zk6 r6 (j : Int) = rd imgs (j : Int)) :
 ∀ (k : Nat) (f out : MpT), f.length < k → MoL 20 ds f → SmF f → nfm out = true → out.length + 3200 * f.length ≤ 90000000 → S4 K (ds, imgs) r6 k f out = some (.go (Zf9 ds imgs f out))
 | 0, _, _, h, _, _, _, _ => by omega
 | k + 1, [], out, _, _, _, _, _ => by rw [S4]; rfl
 | k + 1, z :: f, out, h, hm, hz, ho, hol => by
  have hl := Q4 hd
  rw [List.length_cons] at hol h
  have hk8 : 8 < 0 + K := by omega
  have hol' : out.length + 400 * (8 - 0) ≤ 100000000 := by rw [Nat.sub_zero]; omega
  obtain ⟨a, ha⟩ := Xv0 hK hd hv (hm z (List.mem_cons_self ..)) (hz z (List.mem_cons_self ..)) hr K 0 out hk8 (Nat.zero_le _) ho hol'
  have h4 := Zu2 hd hv (hm z (List.mem_cons_self ..)) ds.length 0 out (by omega) ho
  have e1 : sgI ds z.1 0 = 1 := by unfold sgI; rw [Nat.zero_min]; rfl
  have e2 : loM z.1 0 = fun _ => 0 := by funext t; unfold loM; rw [if_neg (by omega)]
  rw [e1, e2, Nat.sub_zero] at ha
  replace ha : T1 K (ds, imgs) r6 z K 1 0 (fun _ => 0) out = _ := ha
  rw [S4, ha, Option.bind_some]
  show S4 K (ds, imgs) r6 k f (Zt6 ds imgs z ds.length 0 out) = _
  exact Xb3 hK hd hv hr k f _ (by omega) (fun q hq => hm q (List.mem_cons_of_mem _ hq)) (fun q hq => hz q (List.mem_cons_of_mem _ hq)) h4.1 (by omega)
theorem Wg9 {imgs : List MpT} {f : MpT} (hK : 1073741824 ≤ K) (hd : okD ds = true) (hv : VI ds imgs) (hf : VF ds f) : Zd0 K (ds, imgs) f = some (Zf9 ds imgs f []) := by
 have hl := hf.len
 have hdl := Q4 hd
 obtain ⟨r6, h1, h2⟩ := Xg9 (K := K) (a := (ds, imgs)) (by omega) (show imgs.length ≤ 8 by rw [hv.len]; exact hdl) (fun g hg => ⟨ds, hv.all g hg⟩)
 unfold Zd0
 rw [show ((ds, imgs) : List Int × List MpT).1 = ds from rfl, show ((ds, imgs) : List Int × List MpT).2 = imgs from rfl, h1, Option.bind_some, Xb3 hK hd hv h2 K f [] (by omega) hf.mo hf.small Zc1 (by simp; omega)]
 rfl
end
theorem Xc2 {K : Nat} {xs : List MpT} {p : MpT → Option Bool} {q : MpT → Bool} (hK : xs.length < K) (hp : ∀ x, x ∈ xs → p x = some (q x)) : S1 K xs p = some (xs.any q) := by
 unfold S1 L1
 have := Xe2 (fun k i => V2 K xs p k i) xs.length (fun j => q (rd xs (j : Int))) id (fun k n hn => ?_) (fun k n hn => ?_) K 0 (by omega) (by omega)
 rw [Nat.sub_zero, ← List.range_eq_range', Xb5 xs q] at this
 rcases this with ⟨m, h1, h2, _⟩ | ⟨h1, h2⟩
 replace h1 : V2 K xs p K 0 = _ := h1
 rw [h1, h2]; simp [Ex.elim]
 replace h1 : V2 K xs p K 0 = _ := h1
 rw [h1, h2]; simp [Ex.elim]
 show V2 K xs p (k + 1) n = _
 rw [V2, if_pos (by omega), hp _ (U9 hn)]; rfl
 show V2 K xs p (k + 1) n = _
 rw [V2, if_neg (by omega)]
/-- what the arguments are like -/
structure Inp (K : Nat) (a : Zb3) : Prop where
 big : 1073741824 ≤ K
 dl : a.1.length ≤ 1048576
 il : a.2.length ≤ 1048576
 fl : ∀ f, f ∈ a.2 → f.length ≤ 1048576
 by_ : ∀ f, f ∈ a.2 → Zr0 f
def okI (a : Zb3) (j : Nat) : Bool := okF a.1 (rd a.2 (j : Int)) && okG a.1 (rd a.2 (j : Int)) (rd a.1 (j : Int) + 1)
def okB (a : Zb3) : Bool := okD a.1 && (decide (a.2.length = a.1.length) && (List.range a.2.length).all (okI a))
def okC (a : Zb3) : Bool := a.2.all fun f => decide ((Zf9 a.1 a.2 f []).length = 0)
def okA (a : Zb3) : Bool := okB a && okC a
section
variable {K : Nat} {a : Zb3}
theorem Zq6 (h : okB a = true) : okD a.1 = true := by unfold okB at h; rw [Bool.and_eq_true] at h; exact h.1
theorem Yd3 (hi : Inp K a) (h : okB a = true) : VI a.1 a.2 := by
 unfold okB at h
 rw [Bool.and_eq_true, Bool.and_eq_true, decide_eq_true_eq] at h
 refine ⟨h.2.1, fun f hf => ?_⟩
 obtain ⟨j, hj, rfl⟩ := List.getElem_of_mem hf
 have := List.all_eq_true.1 h.2.2 j (List.mem_range.2 hj)
 unfold okI at this
 rw [Zd5 hj, Bool.and_eq_true] at this
 exact Xj2 (hi.by_ _ hf) this.1
theorem Wi4 (hi : Inp K a) : Zs5 K a = some (okA a) := by
 have hK := hi.big
 have hdl := hi.dl
 have hil := hi.il
 unfold Zs5 okA okB
 rw [Wj2 (by omega), Option.bind_some]
 cases hd : okD a.1 with
 | false => rfl
 | true =>
  rw [if_pos rfl]
  unfold Zl8
  by_cases hl : a.2.length = a.1.length
  case neg => rw [if_pos (by simp; omega)]; simp [hl]
  rw [if_neg (by simp; omega), Za8 (g := ()) (fun k i => I4 K a k i) a.2.length (okI a) false (fun k n hn => ?_) (fun k n hn => ?_) (by omega)]
  cases hb : (List.range a.2.length).all (okI a) with
  | false => simp [Ex.elim, hl]
  | true =>
   have hB : okB a = true := by unfold okB; rw [hd, hb]; simp [hl]
   have hv := Yd3 hi hB
   rw [if_pos rfl, Option.bind_some]
   show ((J8 K a K 0).bind _) = _
   rw [Za8 (g := ()) (fun k i => J8 K a k i) a.2.length (fun j => decide ((Zf9 a.1 a.2 (rd a.2 (j : Int)) []).length = 0)) false (fun k n hn => ?_) (fun k n hn => ?_) (by omega), Ym3 a.2 (fun f => decide ((Zf9 a.1 a.2 f []).length = 0))]
   unfold okC
   rw [Bool.true_and, decide_eq_true hl, Bool.true_and, Bool.true_and]
   cases a.2.all fun f => decide ((Zf9 a.1 a.2 f []).length = 0) <;> rfl
   show J8 K a (k + 1) n = _
   rw [J8, if_pos (by omega), Wj0 hK hd hv (hv.all _ (U9 hn)), Option.bind_some]
   by_cases h0 : (Zf9 a.1 a.2 (rd a.2 (n : Int)) []).length = 0
   rw [if_neg (by omega), if_pos (by simpa using h0)]
   rw [if_pos (by omega), if_neg (show ¬ decide ((Zf9 a.1 a.2 (rd a.2 (n : Int)) []).length = 0) = true by simpa using h0)]
   show J8 K a (k + 1) n = _
   rw [J8, if_neg (by omega)]
  show I4 K a (k + 1) n = _
  have hb := hi.by_ _ (U9 hn)
  have hfl := hi.fl _ (U9 hn)
  have hp := Zc2 hd _ (U9 (show n < a.1.length by omega))
  obtain ⟨r, hr, hg⟩ := Xa3 (K := K) (f := rd a.2 (n : Int)) (by omega) (by omega) hd hb
  rw [I4, if_pos (by omega), Xp0 (by omega) (by omega) (by omega) hd hb, Option.bind_some, hr, Option.bind_some, if_pos (show (n : Int) < a.1.length by omega), IntWalk.i64_in _ (by omega)]
  unfold okI
  rw [← hg]
  cases okF a.1 (rd a.2 (n : Int)) with
  | false => rfl
  | true =>
   rw [if_pos rfl, Bool.true_and]
   cases r.2 with
   | false => rfl
   | true =>
    rw [if_pos rfl, Bool.true_and]
    by_cases h0 : (rd a.2 (n : Int)).length = 0
    rw [if_neg (by omega), if_pos (by simp [h0])]
    rw [if_pos (by omega)]
    by_cases h1 : r.1 = rd a.1 (n : Int) + 1
    rw [if_pos h1, if_pos (by simp [h1])]
    rw [if_neg h1, if_neg (by simp [h0, h1])]
  show I4 K a (k + 1) n = _
  rw [I4, if_neg (by omega)]
theorem Wi2 (hi : Inp K a) : Zk8 K a = some (okA a) := by
 have hK := hi.big
 have hdl := hi.dl
 have hil := hi.il
 unfold Zk8 okA okB
 rw [Wj4 (by omega), Option.bind_some]
 cases hd : okD a.1 with
 | false => rfl
 | true =>
  rw [if_pos rfl]
  unfold Zf8
  by_cases hl : a.2.length = a.1.length
  case neg => rw [if_pos (by simp; omega)]; simp [hl]
  rw [if_neg (by simp; omega), Za8 (g := ()) (fun k i => M0 K a k i) a.2.length (okI a) false (fun k n hn => ?_) (fun k n hn => ?_) (by omega)]
  cases hb : (List.range a.2.length).all (okI a) with
  | false => simp [Ex.elim, hl]
  | true =>
   have hB : okB a = true := by unfold okB; rw [hd, hb]; simp [hl]
   have hv := Yd3 hi hB
   rw [if_pos rfl, Option.bind_some]
   show ((S1 K a.2 fun x => Zf4 K x (a.1, a.2)).bind _) = _
   rw [Xc2 (q := fun f => !decide ((Zf9 a.1 a.2 f []).length = 0)) (by omega) (fun f hf => ?_), Option.bind_some, ← List.not_all_eq_any_not]
   unfold okC
   rw [Bool.true_and, decide_eq_true hl, Bool.true_and, Bool.true_and, Bool.not_not]
   have hvf := hv.all f hf
   have hvl := hvf.len
   unfold Zf4
   rw [Yy2 (by omega) (by omega) hvf.byt (P7 hvf.nf), Option.bind_some]
   show (Zd0 K (a.1, a.2) f).bind _ = _
   rw [Wg9 hK hd hv hvf, Option.bind_some]
   congr 1
   rw [← decide_not]
   exact decide_eq_decide.2 (by omega)
  show M0 K a (k + 1) n = _
  have hb := hi.by_ _ (U9 hn)
  have hfl := hi.fl _ (U9 hn)
  have hp := Zc2 hd _ (U9 (show n < a.1.length by omega))
  rw [M0, if_pos (by omega), Wa6 (by omega) hd hb, Option.bind_some, if_pos (show (n : Int) < a.1.length by omega), IntWalk.i64_in _ (by omega), Xb8 (by omega) (by omega) hd hb (by omega), Option.bind_some]
  unfold okI
  cases okF a.1 (rd a.2 (n : Int)) with
  | false => rfl
  | true => rw [if_pos rfl, Bool.true_and]
  show M0 K a (k + 1) n = _
  rw [M0, if_neg (by omega)]
end
section
variable {K : Nat} {ds : List Int} {i : Nat}
theorem Yw1 {α : Type} [Inhabited α] {xs : List α} {n : Nat} {x : α} (h : xs[n]? = some x) : rd xs (n : Int) = x := by
 unfold rd
 rw [Int.toNat_natCast, List.getD_eq_getElem?_getD, h]; rfl
theorem Yg9 {α : Type} [Inhabited α] {xs : List α} {j : Nat} (h : j < xs.length) : xs.take (j + 1) = xs.take j ++ [rd xs (j : Int)] := by
 rw [Zd5 h, List.take_add_one, List.getElem?_eq_getElem h]; rfl
def gn (t : Nat) (e : Int) : A8 := T8 (fun _ => 0) t e
theorem Xl9 {t : Nat} (ht : t < 8) : Zf7 K (t : Int) = some [(gn t 1, 1)] := by
 unfold Zf7
 rw [if_pos (by omega), if_pos (by omega), Yk1]; rfl
theorem Xi4 {t : Nat} (ht : t < 8) : Zj7 K (t : Int) = some (gn t 1) := by
 unfold Zj7
 rw [if_pos (by omega), if_pos (by omega)]; rfl
theorem Xv1 {t : Nat} (ht : t < 8) (e : Int) (n : Nat) : Y5 (gn t e) n = if n = t then e else 0 := by
 by_cases hn : n < 8
 rw [R2 _ hn]; unfold gn; rw [B0 _ ht]
 rw [if_neg (by omega)]; simp [Y5, hn]
theorem Wl5 {t : Nat} {e : Int} (ht : t < 8) (htl : t < ds.length) (h0 : 0 ≤ e) (h20 : e ≤ 20) (ho : rd ds (t : Int) % 2 = 1 → e ≤ 1) : Mo 20 ds (gn t e) := by
 refine ⟨fun j => ?_, fun j => ?_, fun n hn hod => ?_, fun j hj => ?_⟩
 unfold gn; rw [B0 _ ht]; split <;> omega
 unfold gn; rw [B0 _ ht]; split <;> omega
 rw [Xv1 ht]; split
 rename_i e; subst e; exact ho hod
 omega
 unfold gn; rw [B0 _ ht, if_neg (by omega)]
theorem Wh2 {p : A8} {c : Int} (hc : 1 ≤ c ∧ c ≤ 10006) : SmF [(p, c)] := fun t ht => by cases List.mem_singleton.1 ht; simp; omega
theorem Wg8 {B : Int} {m : A8} (hB : B ≤ 20) (h : Mo B ds m) : okM ds m = true := by
 unfold okM
 rw [List.all_eq_true]
 intro j hj
 have hj := List.mem_range.1 hj
 have h1 := h.hi ⟨j, hj⟩
 rw [← R2 m hj] at h1
 simp only [decide_eq_true_eq]
 unfold Zt5
 split
 rename_i hl
 split
 rename_i ho; exact h.odd j hl ho
 omega
 rename_i hl
 rw [R2 m hj, h.out ⟨j, hj⟩ (by simp; omega)]; omega
theorem Wi0 {f : MpT} (h : VF ds f) : okF ds f = true := by
 unfold okF
 rw [Bool.and_eq_true, List.all_eq_true]
 refine ⟨fun j hj => ?_, by simpa using h.len⟩
 have hj := List.mem_range.1 hj
 unfold okT
 rw [Wg8 (by decide) (h.mo _ (U9 hj)), Bool.true_and, Bool.and_eq_true]
 refine ⟨by simpa using Zv4 h.nf _ (U9 hj), ?_⟩
 by_cases h0 : j = 0
 simp [h0]
 obtain ⟨n, rfl⟩ : ∃ n, j = n + 1 := ⟨j - 1, by omega⟩
 have e : ((n + 1 : Nat) : Int) - 1 = (n : Int) := by omega
 have := List.pairwise_iff_getElem.1 (P7 h.nf) n (n + 1) (by omega) hj (by omega)
 rw [e, Zd5 hj, Zd5 (show n < f.length by omega), this]; simp
theorem Wc1 {r10 : List A8} {x : Int} {m : A8} (hr : rd r10 x = m) (hm : ∀ j, 0 ≤ m j ∧ m j ≤ 20) : ∀ (k n : Nat) (box : A8), n ≤ 8 → 8 < n + k → (∀ j : Fin 8, j.val < n → box j = m j) → F9 K r10 x k n box = some (.go m) := by
 intro k
 induction k with
 | zero => intro n box h1 h2; omega
 | succ k ih =>
  intro n box h1 h2 hb
  rw [F9, hr]
  by_cases hn : n < 8
  have hmn := hm ⟨n, hn⟩
  rw [if_pos (by omega), R2 m hn, if_neg (by omega)]
  refine ih (n + 1) _ (by omega) (by omega) (fun j hj => ?_)
  rw [B0 _ hn]
  by_cases e : j.val = n
  rw [if_pos e, Xe1 (by omega)]
  congr 1; exact Fin.ext e.symm
  rw [if_neg e]; exact hb j (by omega)
  rw [if_neg (by omega)]
  congr 2
  funext j; exact hb j (by omega)
theorem Wd6 {f : MpT} (hK : 1073741824 ≤ K) (hf : VF ds f) : ∀ (k j : Nat), f.length < j + k → j ≤ f.length → F8 K f (f.map Prod.fst) k j (f.take j) = some (.go f) := by
 have hl := hf.len
 intro k
 induction k with
 | zero => intro j h1 h2; omega
 | succ k ih =>
  intro j h1 h2
  rw [F8, List.length_map]
  by_cases hj : j < f.length
  have er : rd (f.map Prod.fst) (j : Int) = (rd f (j : Int)).1 := Yw1 (by rw [List.getElem?_map, List.getElem?_eq_getElem hj, Zd5 hj]; rfl)
  have hm := hf.mo _ (U9 hj)
  have h3 := Wc1 (K := K) er (fun t => ⟨hm.lo t, hm.hi t⟩) K 0 (fun _ => 0) (by omega) (by omega) (fun t ht => by omega)
  replace h3 : F9 K (f.map Prod.fst) j K 0 (fun _ => 0) = _ := h3
  have hg : M5 f (rd f (j : Int)).1 = (rd f (j : Int)).2 := Zt7 (P7 hf.nf) (U9 hj)
  rw [if_pos (by omega), h3, Option.bind_some]
  show (if _ then _ else none) = _
  rw [er, hg, if_pos (by simp; omega)]
  have := ih (j + 1) (by omega) (by omega)
  rw [Yg9 hj] at this
  exact this
  rw [if_neg (by omega), List.take_of_length_le (by omega)]
theorem Wh3 {f : MpT} (hK : 1073741824 ≤ K) (hf : VF ds f) : Zd9 K f = some (f, 0) := by
 have hl := hf.len
 have hok : Ym1 f = true := by
  unfold Ym1
  rw [List.all_eq_true]
  intro p hp
  rw [List.all_eq_true]
  intro x hx
  have hm := hf.mo p hp
  have : ∃ t, x = p.1 t := by
   unfold l8 at hx
   simp only [List.mem_cons, List.not_mem_nil, or_false] at hx
   rcases hx with h | h | h | h | h | h | h | h <;> exact ⟨_, h⟩
  obtain ⟨t, rfl⟩ := this
  have h1 := hm.lo t
  have h2 := hm.hi t
  simp; omega
 have := Wd6 hK hf K 0 (by omega) (by omega)
 unfold Zd9 Zn8
 replace this : F8 K f (f.map Prod.fst) K 0 [] = some (.go f) := this
 rw [if_neg (by omega), if_pos ⟨hok, by omega, by omega⟩, Option.bind_some, this]; rfl
end
/-- a sum over terms -/
def lin (h : A8 → Int) : List (A8 × Int) → Int
 | [] => 0
 | t :: ts => t.2 * h t.1 + lin h ts
theorem Xx5 (h : A8 → Int) {xs ys : List (A8 × Int)} (p : xs.Perm ys) : lin h xs = lin h ys := by
 induction p with
 | nil => rfl
 | cons x _ ih => simp only [lin, ih]
 | swap x y l => simp only [lin]; omega
 | trans _ _ h1 h2 => exact h1.trans h2
theorem Xm8 (h : A8 → Int) (c : Int) : ∀ T, lin h (scl c T) = c * lin h T
 | [] => by simp [scl, lin]
 | t :: T => by
  have ih := Xm8 h c T
  unfold scl at ih ⊢
  rw [List.map_cons, lin, lin, ih, Int.mul_add, Int.mul_assoc]
theorem Xk1 (h : A8 → Int) (p : A8) : ∀ s : MpT, lin h s = lin h (Zq8 s p) + cf p s * h p
 | [] => by simp [lin, Zq8, cf]
 | t :: s => by
  have ih := Xk1 h p s
  unfold Zq8 at ih ⊢
  rw [List.filter_cons]
  by_cases e : t.1 = p
  have e8 : eq8 p t.1 = true := Zg2.2 e.symm
  rw [e8, cf, if_pos e, Int.add_mul, lin, ih, e]
  simp only [Bool.not_true, Bool.false_eq_true, if_false]
  omega
  have e8 : eq8 p t.1 = false := by
   cases hq : eq8 p t.1 with
   | false => rfl
   | true => exact absurd (Zg2.1 hq).symm e
  rw [e8, cf, if_neg e, Int.zero_add]
  simp only [Bool.not_false, if_true, lin]
  rw [ih]; omega
theorem Xw7 {s : MpT} (hs : nfm s = true) (h : A8 → Int) (p : A8) (x : Int) : lin h (Zp6 s p x) % 10007 = (lin h s + x * h p) % 10007 := by
 have h1 := Xk1 h p s
 have h2 := Zz5 p (P7 hs)
 have h3 : ((M5 s p + x) % 10007) * h p = cf p s * h p + x * h p - 10007 * (((M5 s p + x) / 10007) * h p) := by
  have e : (M5 s p + x) % 10007 = (M5 s p + x) - 10007 * ((M5 s p + x) / 10007) := by omega
  rw [e, Int.sub_mul, Int.add_mul, h2, Int.mul_assoc]
 unfold Zp6
 split
 rename_i h0
 rw [h0, Int.zero_mul] at h3
 omega
 unfold A9
 rw [Xx5 h (Zn5 _ _), lin]
 dsimp only
 omega
theorem Xi2 (h : A8 → Int) : ∀ (T : List (A8 × Int)) {s : MpT}, nfm s = true → lin h (S7 T s) % 10007 = (lin h s + lin h T) % 10007
 | [], s, _ => by simp [S7, lin]
 | t :: T, s, hs => by
  have h1 := Xi2 h T (Ze3 hs t.1 t.2)
  have h2 := Xw7 hs h t.1 t.2
  rw [S7, h1, lin]
  omega
theorem Xw4 (h : A8 → Int) (T : List (A8 × Int)) : lin h (S7 T []) % 10007 = lin h T % 10007 := by
 have := Xi2 h T Zc1
 rwa [show lin h [] = 0 from rfl, Int.zero_add] at this
theorem Xn0 (a : A8) (T : List (A8 × Int)) : cf a (S7 T []) % 10007 = cf a T % 10007 := by
 rw [← Zz5 a (P7 (Za2 T Zc1)), Zv2 a T Zc1]
 show (0 + cf a T) % 10007 % 10007 = _
 omega
theorem Wa4 (T : List (A8 × Int)) {s : MpT} (hs : nfm s = true) : S7 (S7 T []) s = S7 T s := by
 refine Xf1 hs hs (fun a => ?_)
 have := Xn0 a T
 omega
/-- the product as a normal sum -/
def Yp0 (ds : List Int) (s t : MpT) : MpT := S7 (Ze4 ds s t) []
theorem Xj7 (ds : List Int) (a : A8) (z : D2) : ∀ G, cf a (Ze7 ds z G) = z.2 * cf a (Ze7 ds (z.1, 1) G)
 | [] => by simp [Ze7, cf]
 | q :: G => by
  have ih := Xj7 ds a z G
  unfold Ze7 at ih ⊢
  rw [List.filterMap_cons, List.filterMap_cons]
  dsimp only
  by_cases e : (K7 ds z.1 q.1).2 = 0
  rw [if_pos e, if_pos e]; exact ih
  rw [if_neg e, if_neg e]
  dsimp only
  rw [cf, cf, ih]
  dsimp only
  by_cases e2 : (K7 ds z.1 q.1).1 = a
  rw [if_pos e2, if_pos e2, Int.mul_add, Int.mul_one, Int.mul_comm (K7 ds z.1 q.1).2 z.2, Int.mul_assoc z.2]
  rw [if_neg e2, if_neg e2, Int.mul_add, Int.mul_zero]
theorem Yz2 (ds : List Int) (a : A8) (G : MpT) : ∀ S, cf a (Ze4 ds S G) = lin (fun p => cf a (Ze7 ds (p, 1) G)) S
 | [] => rfl
 | z :: S => by
  show cf a (Ze7 ds z G ++ Ze4 ds S G) = _
  rw [Xs2, Xj7, Yz2 ds a G S]; rfl
/-- multiples of a factor -/
theorem Xx2 (ds : List Int) (c : Int) (S G : MpT) : Yp0 ds (S7 (scl c S) []) G = S7 (scl c (Yp0 ds S G)) [] := by
 refine Xf1 Zc1 Zc1 (fun a => ?_)
 have h1 := Xw4 (fun p => cf a (Ze7 ds (p, 1) G)) (scl c S)
 have h2 := Xn0 a (Ze4 ds S G)
 rw [Xm8] at h1
 rw [Yz2] at h2
 rw [Yz2, Xe3]
 show (0 + _) % 10007 = (0 + c * cf a (S7 (Ze4 ds S G) [])) % 10007
 rw [Int.zero_add, Int.zero_add, h1, Int.mul_emod, ← h2, ← Int.mul_emod]
/-! how many monomials there are -/
def cd : List Int → Int
 | [] => 0
 | x :: xs => x * 14 ^ xs.length + cd xs
theorem Xa0 (n : Nat) : (0 : Int) < 14 ^ n := Int.pow_pos (by decide)
theorem Yi8 : ∀ xs : List Int, (∀ x, x ∈ xs → 0 ≤ x ∧ x ≤ 13) → 0 ≤ cd xs ∧ cd xs < 14 ^ xs.length
 | [], _ => by simp [cd]
 | x :: xs, h => by
  have hx := h x (List.mem_cons_self ..)
  have ih := Yi8 xs (fun y hy => h y (List.mem_cons_of_mem _ hy))
  have hp := Xa0 xs.length
  have h1 : 0 ≤ x * 14 ^ xs.length := Int.mul_nonneg hx.1 (Int.le_of_lt hp)
  have h2 : x * 14 ^ xs.length ≤ 13 * 14 ^ xs.length := Int.mul_le_mul_of_nonneg_right hx.2 (Int.le_of_lt hp)
  rw [cd, List.length_cons, Int.pow_succ]
  omega
theorem Wb6 : ∀ xs ys : List Int, xs.length = ys.length → (∀ x, x ∈ xs → 0 ≤ x ∧ x ≤ 13) → (∀ x, x ∈ ys → 0 ≤ x ∧ x ≤ 13) → Zh6 xs ys = true → cd ys < cd xs
 | [], [], _, _, _, h => by simp [Zh6] at h
 | x :: xs, y :: ys, hl, hx, hy, h => by
  have hl : xs.length = ys.length := by simpa using hl
  have b1 := Yi8 xs (fun z hz => hx z (List.mem_cons_of_mem _ hz))
  have b2 := Yi8 ys (fun z hz => hy z (List.mem_cons_of_mem _ hz))
  rw [Zh6] at h
  rw [cd, cd, hl]
  by_cases e : x = y
  rw [if_pos e] at h
  have := Wb6 xs ys hl (fun z hz => hx z (List.mem_cons_of_mem _ hz)) (fun z hz => hy z (List.mem_cons_of_mem _ hz)) h
  rw [e]; omega
  rw [if_neg e] at h
  have h := of_decide_eq_true h
  have hp := Xa0 ys.length
  have h1 : (y + 1) * 14 ^ ys.length ≤ x * 14 ^ ys.length := Int.mul_le_mul_of_nonneg_right (by omega) (Int.le_of_lt hp)
  rw [Int.add_mul, Int.one_mul] at h1
  omega
theorem Xf9 {α : Type} {g : α → Int} : ∀ (s : List α) (N : Int), s.Pairwise (fun p q => g q < g p) → (∀ t, t ∈ s → 0 ≤ g t ∧ g t < N) → 0 ≤ N → (s.length : Int) ≤ N
 | [], N, _, _, h0 => by simpa using h0
 | t :: s, N, hp, hb, _ => by
  have hp := List.pairwise_cons.1 hp
  have ht := hb t (List.mem_cons_self ..)
  have := Xf9 s (g t) hp.2 (fun u hu => ⟨(hb u (List.mem_cons_of_mem _ hu)).1, hp.1 u hu⟩) ht.1
  rw [List.length_cons]; omega
theorem Xi3 {ds : List Int} {m : A8} (h : Mo 13 ds m) : ∀ x, x ∈ l8 m → 0 ≤ x ∧ x ≤ 13 := by
 intro x hx
 have : ∃ t, x = m t := by
  unfold l8 at hx
  simp only [List.mem_cons, List.not_mem_nil, or_false] at hx
  rcases hx with h | h | h | h | h | h | h | h <;> exact ⟨_, h⟩
 obtain ⟨t, rfl⟩ := this
 exact ⟨h.lo t, h.hi t⟩
theorem Xu3 {ds : List Int} {s : MpT} (hs : nfm s = true) (hm : MoL 13 ds s) : s.length ≤ 1475789056 := by
 have h1 : s.Pairwise (fun p q => cd (l8 q.1) < cd (l8 p.1)) := by
  refine List.Pairwise.imp_of_mem (fun {p q} hp hq hb => ?_) (P7 hs)
  exact Wb6 _ _ rfl (Xi3 (hm p hp)) (Xi3 (hm q hq)) hb
 have h2 := Xf9 (g := fun t : A8 × Int => cd (l8 t.1)) s 1475789056 h1 (fun t ht => ?_) (by decide)
 omega
 have := Yi8 (l8 t.1) (Xi3 (hm t ht))
 have e : (14 : Int) ^ (l8 t.1).length = 1475789056 := by show (14 : Int) ^ 8 = _; decide
 rw [e] at this; exact this
theorem Xm7 (ds : List Int) (p q : A8) : ∀ n, wtN ds (Zy6 p q) n = wtN ds p n + wtN ds q n
 | 0 => rfl
 | n + 1 => by rw [wtN, wtN, wtN, Xm7 ds p q n, Xn9, Int.mul_add]; omega
theorem Xn5 (ds : List Int) : ∀ n, wtN ds (fun _ => 0) n = 0
 | 0 => rfl
 | n + 1 => by rw [wtN, Xn5 ds n]; simp [Y5]
theorem Zy9 {ds : List Int} {m : A8} (hd : okD ds = true) (lo : ∀ i, 0 ≤ m i) : ∀ n : Nat, n ≤ ds.length → 0 ≤ wtN ds m n ∧ ∀ j, j < n → Y5 m (j : Int) ≤ wtN ds m n
 | 0, _ => ⟨by simp [wtN], fun j hj => by omega⟩
 | n + 1, h => by
  obtain ⟨h1, h2⟩ := Zy9 hd lo n (by omega)
  have hn := Zc2 hd _ (U9 (show n < ds.length by omega))
  have hi : 0 ≤ Y5 m (n : Int) := by
   by_cases h8 : n < 8
   rw [R2 m h8]; exact lo _
   have := Q4 hd; omega
  have h3 : 1 * Y5 m (n : Int) ≤ rd ds (n : Int) * Y5 m (n : Int) := Int.mul_le_mul_of_nonneg_right hn.1 hi
  rw [Int.one_mul] at h3
  rw [wtN]
  refine ⟨by omega, fun j hj => ?_⟩
  by_cases e : j = n
  subst e; omega
  have := h2 j (by omega); omega
theorem Xg3 {ds : List Int} {B : Int} {m : A8} (hd : okD ds = true) (hm : Mo B ds m) (hw : wt ds m ≤ 13) : Mo 13 ds m := by
 refine ⟨hm.lo, fun i => ?_, hm.odd, hm.out⟩
 by_cases h : i.val < ds.length
 have := (Zy9 hd hm.lo ds.length (Nat.le_refl _)).2 i.val h
 rw [R2 m i.isLt] at this
 unfold wt at hw
 exact Int.le_trans this hw
 rw [hm.out i (by omega)]; decide
/-- a normal sum, homogeneous of small degree -/
structure Hm (u : Int) (ds : List Int) (s : MpT) : Prop where
 nf : nfm s = true
 mo : MoL 13 ds s
 w : ∀ t, t ∈ s → wt ds t.1 = u
theorem Hm.len {u : Int} {ds : List Int} {s : MpT} (h : Hm u ds s) : s.length ≤ 1475789056 := Xu3 h.nf h.mo
theorem Hm.nil (u : Int) (ds : List Int) : Hm u ds [] := ⟨Zc1, fun t ht => (by cases ht), fun t ht => (by cases ht)⟩
theorem Hm.vf {u : Int} {ds : List Int} {s : MpT} (h : Hm u ds s) (hl : s.length ≤ 400) : VF ds s :=
 ⟨h.nf, fun t ht => ⟨(h.mo t ht).lo, fun i => Int.le_trans ((h.mo t ht).hi i) (by decide), (h.mo t ht).odd, (h.mo t ht).out⟩, hl⟩
theorem Wb1 {u : Int} {ds : List Int} {f : MpT} (hd : okD ds = true) (hf : VF ds f) (hw : ∀ t, t ∈ f → wt ds t.1 = u) (hu : u ≤ 13) : Hm u ds f :=
 ⟨hf.nf, fun t ht => Xg3 hd (hf.mo t ht) (by rw [hw t ht]; exact hu), hw⟩
section
variable {K : Nat} {ds : List Int}
theorem We0 {u v : Int} {p q : A8} (hd : okD ds = true) (huv : u + v ≤ 13) (hp : Mo 13 ds p) (hq : Mo 13 ds q) (hpw : wt ds p = u) (hqw : wt ds q = v) (hn : (K7 ds p q).2 ≠ 0) :
 Mo 13 ds (K7 ds p q).1 ∧ wt ds (K7 ds p q).1 = u + v := by
 have hw : wt ds (K7 ds p q).1 = u + v := by
  rw [(Yq1 hn).1]
  unfold wt at hpw hqw ⊢
  rw [Xm7, hpw, hqw]
 exact ⟨Xg3 hd (hp.mul hq hn) (by omega), hw⟩
theorem Xf6 {u v : Int} {z : D2} {G : MpT} (hd : okD ds = true) (huv : u + v ≤ 13) (hz : Mo 13 ds z.1) (hzw : wt ds z.1 = u) (hG : Hm v ds G) : ∀ r, r ∈ Ze7 ds z G → Mo 13 ds r.1 ∧ wt ds r.1 = u + v := by
 intro r hr
 obtain ⟨q, hq, hn, e⟩ := Yx8 r hr
 rw [e]
 exact We0 hd huv hz (hG.mo q hq) hzw (hG.w q hq) hn
theorem Wc9 {u v : Int} {S G : MpT} (hd : okD ds = true) (huv : u + v ≤ 13) (hS : Hm u ds S) (hG : Hm v ds G) : ∀ r, r ∈ Ze4 ds S G → Mo 13 ds r.1 ∧ wt ds r.1 = u + v := by
 intro r hr
 obtain ⟨z, hz, hr⟩ := List.mem_flatMap.1 hr
 exact Xf6 hd huv (hS.mo z hz) (hS.w z hz) hG r hr
theorem Yo0 {u : Int} {T s : MpT} (hT : ∀ r, r ∈ T → Mo 13 ds r.1 ∧ wt ds r.1 = u) (hs : Hm u ds s) : Hm u ds (S7 T s) := by
 refine ⟨Za2 _ hs.nf, fun q hq => ?_, fun q hq => ?_⟩
 rcases Ya1 hq with ⟨t, ht, e⟩ | ⟨t, ht, e⟩
 rw [← e]; exact (hT t ht).1
 rw [← e]; exact hs.mo t ht
 rcases Ya1 hq with ⟨t, ht, e⟩ | ⟨t, ht, e⟩
 rw [← e]; exact (hT t ht).2
 rw [← e]; exact hs.w t ht
theorem Yq0 {u v : Int} {S G : MpT} (hd : okD ds = true) (huv : u + v ≤ 13) (hS : Hm u ds S) (hG : Hm v ds G) : Hm (u + v) ds (Yp0 ds S G) := Yo0 (Wc9 hd huv hS hG) (Hm.nil _ _)
theorem Xk5 {u v : Int} {f g : MpT} (hK : 1099511627776 ≤ K) (hd : okD ds = true) (huv : u + v ≤ 13) (hf : Hm u ds f) (hg : Hm v ds g) :
 ∀ (k i : Nat) (acc : MpT), f.length < i + k → i ≤ f.length → Hm (u + v) ds acc → N6 K ds f g k i acc = some (.go (S7 (Ze4 ds (f.drop i) g) acc)) := by
 intro k
 induction k with
 | zero => intro i acc h1 h2; omega
 | succ k ih =>
  intro i acc h1 h2 ha
  rw [N6]
  by_cases hi : i < f.length
  have hz := hf.mo _ (U9 hi)
  have hz2 := E0 hf.nf _ (U9 hi)
  have hgl := hg.len
  have hal := ha.len
  have hsl : (shf ds ((rd f (i : Int)).1, (rd f (i : Int)).2) g).length ≤ g.length := Xo4 _ g
  have ha2 := Yo0 (Xf6 (z := rd f (i : Int)) hd huv hz (hf.w _ (U9 hi)) hg) ha
  rw [if_pos (by omega), Xn6 (B := 13) (C := 13) (z := ((rd f (i : Int)).1, (rd f (i : Int)).2)) (by omega) hd hz hz2 (by decide) hg.mo (E0 hg.nf) (by omega) (by omega), Option.bind_some,
   Yq4 (by omega) (by omega) (by omega) (E0 ha.nf) Xc7 (by omega) (by omega), Option.bind_some, Yc2 ha.nf (Yp9 (P7 hg.nf)), Yp7]
  have := ih (i + 1) (S7 (Ze7 ds (rd f (i : Int)) g) acc) (by omega) (by omega) ha2
  refine Eq.trans this ?_
  rw [Zj4 hi]
  show _ = some (Ex.go (S7 (Ze7 ds (rd f (i : Int)) g ++ Ze4 ds (f.drop (i + 1)) g) acc))
  rw [Zy0]
  rw [if_neg (by omega), List.drop_eq_nil_of_le (by omega)]; rfl
theorem Xj8 {u v : Int} {f g : MpT} (hK : 1099511627776 ≤ K) (hd : okD ds = true) (huv : u + v ≤ 13) (hf : Hm u ds f) (hg : Hm v ds g) : F2 K ds f g = some (Yp0 ds f g) := by
 have hl := hf.len
 have := Xk5 (K := K) hK hd huv hf hg K 0 [] (by omega) (by omega) (Hm.nil _ _)
 unfold F2
 replace this : N6 K ds f g K 0 [] = some (.go (Yp0 ds f g)) := this
 rw [this]; rfl
theorem Xa4 {u v : Int} {f g : MpT} (hK : 1099511627776 ≤ K) (hd : okD ds = true) (hf : Hm u ds f) (hg : Hm v ds g) : M2 K f ds g = some (Yp0 ds f g) := by
 have hl := hf.len
 have hl2 := hg.len
 exact Yt4 (B := 13) (C := 13) (by omega) hd (by decide) (by decide) (by decide) hf.mo (E0 hf.nf) hg.mo (E0 hg.nf) (by omega) (by omega)
/-! powers -/
def pwL (ds : List Int) (g : MpT) : Nat → MpT
 | 0 => [((fun _ => 0), 1)]
 | n + 1 => Yp0 ds (pwL ds g n) g
theorem Xv8 {c : Int} (hc : 1 ≤ c ∧ c ≤ 10006) : Hm 0 ds [((fun _ => 0), c)] := by
 refine ⟨Ya0 (List.pairwise_singleton _ _) (fun q hq => ?_), fun t ht => ?_, fun t ht => ?_⟩
 cases List.mem_singleton.1 hq; exact hc
 cases List.mem_singleton.1 ht; exact ⟨fun _ => (show (0 : Int) ≤ 0 by decide), fun _ => (show (0 : Int) ≤ 13 by decide), fun n _ _ => by simp [Y5], fun _ _ => rfl⟩
 cases List.mem_singleton.1 ht; exact Xn5 ds _
theorem Yh5 {v : Int} {g : MpT} (hd : okD ds = true) (hv : 0 ≤ v) (hg : Hm v ds g) : ∀ n : Nat, (n : Int) * v ≤ 13 → Hm ((n : Int) * v) ds (pwL ds g n)
 | 0, _ => by rw [show ((0 : Nat) : Int) * v = 0 by simp]; exact Xv8 (by decide)
 | n + 1, h => by
  have e : ((n + 1 : Nat) : Int) * v = (n : Int) * v + v := by rw [Int.natCast_add, Int.add_mul]; simp
  rw [e] at h ⊢
  exact Yq0 hd h (Yh5 hd hv hg n (by omega)) hg
theorem Xk9 {v : Int} {g : MpT} (hK : 1099511627776 ≤ K) (hd : okD ds = true) (hv : 0 ≤ v) (hg : Hm v ds g) : ∀ (k x e : Nat), x < k → x ≤ 255 → ((e + x : Nat) : Int) * v ≤ 13 →
 F7 K ds g k x (pwL ds g e) = some (.go (pwL ds g (e + x))) := by
 intro k
 induction k with
 | zero => intro x e h; omega
 | succ k ih =>
  intro x e h1 h2 h3
  rw [F7]
  by_cases hx : 0 < x
  have h4 : ((e : Nat) : Int) * v ≤ ((e + x : Nat) : Int) * v := Int.mul_le_mul_of_nonneg_right (by omega) hv
  have h5 : ((e + 1 : Nat) : Int) * v ≤ ((e + x : Nat) : Int) * v := Int.mul_le_mul_of_nonneg_right (by omega) hv
  have e1 : ((e + 1 : Nat) : Int) * v = (e : Int) * v + v := by rw [Int.natCast_add, Int.add_mul]; simp
  rw [if_pos (by omega), Xj8 hK hd (by omega) (Yh5 hd hv hg e (by omega)) hg, Option.bind_some, Xe1 (by omega)]
  have := ih (x - 1) (e + 1) (by omega) (by omega) (by rw [show e + 1 + (x - 1) = e + x by omega]; exact h3)
  rw [show e + 1 + (x - 1) = e + x by omega] at this
  rw [show (x : Int) - 1 = ((x - 1 : Nat) : Int) by omega]
  exact this
  rw [if_neg (by omega), show x = 0 by omega]; rfl
theorem Xz4 {v : Int} {g : MpT} {e : Nat} (hK : 1099511627776 ≤ K) (hd : okD ds = true) (hv : 0 ≤ v) (hg : Hm v ds g) (he : e ≤ 255) (h : (e : Int) * v ≤ 13) : Zm6 K ds g e = some (pwL ds g e) := by
 have := Xk9 (K := K) hK hd hv hg K e 0 (by omega) he (by rw [Nat.zero_add]; exact h)
 rw [Nat.zero_add] at this
 unfold Zm6
 rw [Yk1, Option.bind_some]
 replace this : F7 K ds g K e [((fun _ => 0), 1)] = _ := this
 rw [this]; rfl
theorem Xt1 {v : Int} {fr : List Int} {ms : List MpT} {j : Nat} (hK : 1099511627776 ≤ K) (hd : okD ds = true) (hv : 0 ≤ v) (hj : j < ms.length) (hg : Hm v ds (rd ms (j : Int))) :
 ∀ n : Nat, (n : Int) * v ≤ 13 → pwN K (fr, ds, ms) j n = some (pwL ds (rd ms (j : Int)) n)
 | 0, _ => by
  rw [pwN]
  show some (A9 ([] : MpT) (fun _ => 0) 1) = _
  rfl
 | n + 1, h => by
  have e : ((n + 1 : Nat) : Int) * v = (n : Int) * v + v := by rw [Int.natCast_add, Int.add_mul]; simp
  rw [e] at h
  rw [pwN, if_pos ⟨by omega, by exact Int.ofNat_lt.2 hj⟩, Xt1 hK hd hv hj hg n (by omega), Option.bind_some]
  exact Xa4 hK hd (Yh5 hd hv hg n (by omega)) hg
/-! where a monomial is led -/
def prT (ds : List Int) (ms : List MpT) (m : A8) (c : Int) : Nat → MpT
 | 0 => [((fun _ => 0), c)]
 | j + 1 => if 0 < Y5 m (j : Int) then Yp0 ds (prT ds ms m c j) (pwL ds (rd ms (j : Int)) (Y5 m (j : Int)).toNat) else prT ds ms m c j
/-- forms for generators, each of its degree -/
structure Lds (sd ds : List Int) (ms : List MpT) : Prop where
 src : okD sd = true
 dst : okD ds = true
 len : ms.length = sd.length
 hm : ∀ j, j < ms.length → Hm (rd sd (j : Int)) ds (rd ms (j : Int))
variable {sd : List Int} {ms : List MpT}
theorem Wf8 {m : A8} (hd : okD sd = true) (lo : ∀ i, 0 ≤ m i) (hw : wt sd m ≤ 13) : ∀ n, n ≤ sd.length → wtN sd m n ≤ 13 := by
 have key : ∀ d n, n + d = sd.length → wtN sd m n ≤ wt sd m := by
  intro d
  induction d with
  | zero => intro n h; rw [show n = sd.length by omega]; exact Int.le_refl _
  | succ d ih =>
   intro n h
   have h1 := ih (n + 1) (by omega)
   have hn := Zc2 hd _ (U9 (show n < sd.length by omega))
   have hl := Q4 hd
   have hi : 0 ≤ Y5 m (n : Int) := by rw [R2 m (show n < 8 by omega)]; exact lo _
   have := Int.mul_nonneg (show 0 ≤ rd sd (n : Int) by omega) hi
   rw [wtN] at h1; omega
 intro n hn
 exact Int.le_trans (key (sd.length - n) n (by omega)) hw
theorem Xh9 {m : A8} {j : Nat} (hL : Lds sd ds ms) (lo : ∀ i, 0 ≤ m i) (hw : wt sd m ≤ 13) (hj : j < sd.length) :
 0 ≤ rd sd (j : Int) ∧ 0 ≤ Y5 m (j : Int) ∧ Y5 m (j : Int) ≤ 13 ∧ (((Y5 m (j : Int)).toNat : Nat) : Int) * rd sd (j : Int) ≤ 13 ∧ wtN sd m j + (((Y5 m (j : Int)).toNat : Nat) : Int) * rd sd (j : Int) = wtN sd m (j + 1) ∧ wtN sd m (j + 1) ≤ 13 := by
 have hl := Q4 hL.src
 have h1 := Wf8 hL.src lo hw (j + 1) (by omega)
 have hn := Zc2 hL.src _ (U9 hj)
 have hi : 0 ≤ Y5 m (j : Int) := by rw [R2 m (show j < 8 by omega)]; exact lo _
 have h2 := Zy9 hL.src lo j (by omega)
 have h3 := (Zy9 hL.src lo (j + 1) (by omega)).2 j (by omega)
 have e : wtN sd m j + (((Y5 m (j : Int)).toNat : Nat) : Int) * rd sd (j : Int) = wtN sd m (j + 1) := by
  rw [wtN, Int.toNat_of_nonneg hi, Int.mul_comm]
 exact ⟨by omega, hi, by omega, by omega, e, h1⟩
theorem Yd1 {m : A8} {c : Int} (hL : Lds sd ds ms) (lo : ∀ i, 0 ≤ m i) (hw : wt sd m ≤ 13) (hc : 1 ≤ c ∧ c ≤ 10006) : ∀ j, j ≤ sd.length → Hm (wtN sd m j) ds (prT ds ms m c j)
 | 0, _ => Xv8 hc
 | j + 1, h => by
  obtain ⟨h1, h2, h3, h4, h5, h6⟩ := Xh9 hL lo hw (show j < sd.length by omega)
  have ih := Yd1 hL lo hw hc j (by omega)
  rw [prT]
  split
  rw [← h5]
  exact Yq0 hL.dst (by omega) ih (Yh5 hL.dst h1 (hL.hm j (by rw [hL.len]; omega)) _ h4)
  rename_i h0
  have e : Y5 m (j : Int) = 0 := by omega
  rw [wtN, e, Int.mul_zero, Int.add_zero]; exact ih
theorem Yz1 (m : A8) {c : Int} (hc : 1 ≤ c ∧ c ≤ 10006) : ∀ j, prT ds ms m c j = S7 (scl c (prT ds ms m 1 j)) []
 | 0 => by
  show [((fun _ => 0), c)] = S7 [((fun _ => 0), c * 1)] []
  rw [Int.mul_one]
  exact (Xv7 (Ya0 (List.pairwise_singleton _ _) (fun q hq => by cases List.mem_singleton.1 hq; exact hc))).symm
 | j + 1 => by
  rw [prT, prT]
  split
  rw [Yz1 m hc j, Xx2]
  exact Yz1 m hc j
def Xd6 (ds : List Int) (ms : List MpT) (n : Nat) (f : MpT) : MpT := f.flatMap fun t => prT ds ms t.1 t.2 n
/-- a form that can be led -/
structure Led (sd : List Int) (f : MpT) : Prop where
 lo : ∀ t, t ∈ f → ∀ i, 0 ≤ t.1 i
 w : ∀ t, t ∈ f → wt sd t.1 ≤ 13
 c : ∀ t, t ∈ f → 1 ≤ t.2 ∧ t.2 ≤ 10006
theorem Xt7 {f : MpT} {x0 c : Int} (hK : 1099511627776 ≤ K) (hL : Lds sd ds ms) (lo : ∀ i, 0 ≤ (rd f x0).1 i) (hw : wt sd (rd f x0).1 ≤ 13) (hc : 1 ≤ c ∧ c ≤ 10006) :
 ∀ (k j : Nat), ms.length < j + k → j ≤ ms.length → J7 K ds ms f x0 k j (prT ds ms (rd f x0).1 c j) = some (.go (prT ds ms (rd f x0).1 c ms.length)) := by
 have hl := Q4 hL.src
 have hml := hL.len
 intro k
 induction k with
 | zero => intro j h1 h2; omega
 | succ k ih =>
  intro j h1 h2
  rw [J7]
  by_cases hj : j < ms.length
  obtain ⟨w1, w2, w3, w4, w5, w6⟩ := Xh9 hL lo hw (show j < sd.length by omega)
  have ih' := ih (j + 1) (by omega) (by omega)
  rw [prT] at ih'
  rw [if_pos (by omega), if_pos (by omega)]
  by_cases h0 : 0 < Y5 (rd f x0).1 (j : Int)
  rw [if_pos h0] at ih' ⊢
  have hpw := Xz4 (K := K) (e := (Y5 (rd f x0).1 (j : Int)).toNat) hK hL.dst w1 (hL.hm j hj) (by omega) w4
  rw [Int.toNat_of_nonneg w2] at hpw
  rw [hpw, Option.bind_some, Xj8 hK hL.dst (by omega) (Yd1 hL lo hw hc j (by omega)) (Yh5 hL.dst w1 (hL.hm j hj) _ w4), Option.bind_some]
  exact ih'
  rw [if_neg h0] at ih' ⊢
  exact ih'
  rw [if_neg (by omega), show j = ms.length by omega]
theorem Xz2 {z : D2} (hK : 1099511627776 ≤ K) (hL : Lds sd ds ms) (lo : ∀ i, 0 ≤ z.1 i) (hw : wt sd z.1 ≤ 13) :
 ∀ (k j : Nat), sd.length < j + k → j ≤ sd.length → T5 K (sd, ds, ms) z k (prT ds ms z.1 1 j) j = some (.go (prT ds ms z.1 1 sd.length)) := by
 have hl := Q4 hL.src
 have hml := hL.len
 intro k
 induction k with
 | zero => intro j h1 h2; omega
 | succ k ih =>
  intro j h1 h2
  rw [T5]
  dsimp only
  by_cases hj : j < sd.length
  obtain ⟨w1, w2, w3, w4, w5, w6⟩ := Xh9 hL lo hw hj
  have ih' := ih (j + 1) (by omega) (by omega)
  rw [prT] at ih'
  rw [if_pos (by omega), if_pos (by omega)]
  by_cases h0 : 0 < Y5 z.1 (j : Int)
  rw [if_pos h0] at ih' ⊢
  have hpw : P2 K (sd, ds, ms) j (Y5 z.1 (j : Int)) = some (pwL ds (rd ms (j : Int)) (Y5 z.1 (j : Int)).toNat) := by
   unfold P2
   rw [if_pos (by omega)]
   exact Xt1 hK hL.dst w1 (by omega) (hL.hm j (by omega)) _ w4
  rw [hpw, Option.bind_some, Xa4 hK hL.dst (Yd1 hL lo hw (by decide) j (by omega)) (Yh5 hL.dst w1 (hL.hm j (by omega)) _ w4), Option.bind_some]
  exact ih'
  rw [if_neg h0] at ih' ⊢
  exact ih'
  rw [if_neg (by omega), show j = sd.length by omega]
/-- a sum whose monomials are small -/
theorem Xf8 {T s : MpT} (hT : MoL 13 ds T) (hs : MoL 13 ds s) : MoL 13 ds (S7 T s) := by
 intro q hq
 rcases Ya1 hq with ⟨t, ht, e⟩ | ⟨t, ht, e⟩
 rw [← e]; exact hT t ht
 rw [← e]; exact hs t ht
theorem Xv6 {f : MpT} (hK : 1099511627776 ≤ K) (hL : Lds sd ds ms) (hf : Led sd f) (hfl : f.length ≤ 2000000) :
 ∀ (k j : Nat) (out : MpT), f.length < j + k → j ≤ f.length → nfm out = true → MoL 13 ds out →
  F5 K ds ms f k j out = some (.go (S7 (Xd6 ds ms ms.length (f.drop j)) out)) := by
 have hl := Q4 hL.src
 have hml := hL.len
 intro k
 induction k with
 | zero => intro j out h1 h2; omega
 | succ k ih =>
  intro j out h1 h2 ho hom
  rw [F5]
  by_cases hj : j < f.length
  have hm := U9 hj
  have hc := hf.c _ hm
  have hs : L3 K (fun _ => 0) (rd f (j : Int)).2 = some (prT ds ms (rd f (j : Int)).1 (rd f (j : Int)).2 0) := by
   unfold L3
   rw [Yd9, Option.bind_some, if_neg (by omega), show (rd f (j : Int)).2 % 10007 = (rd f (j : Int)).2 by omega]; rfl
  have hin := Xt7 (K := K) (f := f) (x0 := j) hK hL (hf.lo _ hm) (hf.w _ hm) hc K 0 (by omega) (by omega)
  replace hin : J7 K ds ms f j K 0 (prT ds ms (rd f (j : Int)).1 (rd f (j : Int)).2 0) = _ := hin
  have hp := Yd1 hL (hf.lo _ hm) (hf.w _ hm) hc ms.length (by omega)
  have hpl := hp.len
  have hol := Xu3 ho hom
  rw [if_pos (by omega), hs, Option.bind_some, hin, Option.bind_some]
  show (Zb0 K out _ 1).bind _ = _
  rw [Yq4 (by omega) (by omega) (by omega) (E0 ho) (E0 hp.nf) (by omega) (by omega), Option.bind_some, Yc2 ho (P7 hp.nf)]
  have e1 : scl 1 (prT ds ms (rd f (j : Int)).1 (rd f (j : Int)).2 ms.length) = prT ds ms (rd f (j : Int)).1 (rd f (j : Int)).2 ms.length := by
   unfold scl
   conv => rhs; rw [← List.map_id (prT ds ms (rd f (j : Int)).1 (rd f (j : Int)).2 ms.length)]
   exact List.map_congr_left (fun t _ => by rw [Int.one_mul]; rfl)
  rw [e1]
  have := ih (j + 1) _ (by omega) (by omega) (Za2 _ ho) (Xf8 hp.mo hom)
  refine Eq.trans this ?_
  rw [Zj4 hj]
  show _ = some (Ex.go (S7 (prT ds ms (rd f (j : Int)).1 (rd f (j : Int)).2 ms.length ++ Xd6 ds ms ms.length (f.drop (j + 1))) out))
  rw [Zy0]
  rw [if_neg (by omega), List.drop_eq_nil_of_le (by omega)]; rfl
/-- where forms lead a form -/
def Zw0 (ds : List Int) (ms : List MpT) (n : Nat) (f : MpT) : MpT := S7 (Xd6 ds ms n f) []
theorem Xz7 {f : MpT} (hK : 1099511627776 ≤ K) (hL : Lds sd ds ms) (hf : Led sd f) (hfl : f.length ≤ 2000000) : Zm4 K ds ms f = some (Zw0 ds ms sd.length f) := by
 have := Xv6 (K := K) hK hL hf hfl K 0 [] (by omega) (by omega) Zc1 (fun t ht => by cases ht)
 rw [hL.len] at this
 unfold Zm4
 replace this : F5 K ds ms f K 0 [] = some (.go (Zw0 ds ms sd.length f)) := this
 rw [this]; rfl
theorem Xf7 (hK : 1099511627776 ≤ K) (hL : Lds sd ds ms) :
 ∀ (k : Nat) (f out : MpT), f.length < k → Led sd f → nfm out = true → MoL 13 ds out → T9 K (sd, ds, ms) k f out = some (.go (S7 (Xd6 ds ms sd.length f) out))
 | 0, _, _, h, _, _, _ => by omega
 | k + 1, [], out, _, _, _, _ => by rw [T9]; rfl
 | k + 1, z :: f, out, h, hf, ho, hom => by
  have hl := Q4 hL.src
  have hm : z ∈ z :: f := List.mem_cons_self ..
  have hc := hf.c _ hm
  have hin := Xz2 (K := K) hK hL (hf.lo _ hm) (hf.w _ hm) K 0 (by omega) (by omega)
  replace hin : T5 K (sd, ds, ms) z K (A9 ([] : MpT) (fun _ => 0) 1) 0 = _ := hin
  have hp1 := Yd1 hL (hf.lo _ hm) (hf.w _ hm) (show 1 ≤ (1 : Int) ∧ (1 : Int) ≤ 10006 by decide) sd.length (Nat.le_refl _)
  have hp := Yd1 hL (hf.lo _ hm) (hf.w _ hm) hc sd.length (Nat.le_refl _)
  have hpl := hp1.len
  have e1 : S7 (scl z.2 (prT ds ms z.1 1 sd.length)) out = S7 (prT ds ms z.1 z.2 sd.length) out := by rw [Yz1 z.1 hc, Wa4 _ ho]
  rw [List.length_cons] at h
  rw [T9]
  show ((T5 K (sd, ds, ms) z K (A9 ([] : MpT) (fun _ => 0) 1) 0).bind _) = _
  rw [hin, Option.bind_some]
  show (Q3 K out (prT ds ms z.1 1 sd.length) z.2).bind _ = _
  rw [Yi9 (by omega) (by omega) (E0 hp1.nf) ho, Option.bind_some, e1,
   Xf7 hK hL k f _ (by omega) ⟨fun t ht => hf.lo t (List.mem_cons_of_mem _ ht), fun t ht => hf.w t (List.mem_cons_of_mem _ ht), fun t ht => hf.c t (List.mem_cons_of_mem _ ht)⟩ (Za2 _ ho) (Xf8 hp.mo hom), ← Zy0]
  rfl
theorem Wf4 {f : MpT} (hK : 1099511627776 ≤ K) (hL : Lds sd ds ms) (hf : Led sd f) (hfl : f.length ≤ 2000000) : Zg6 K (sd, ds, ms) f = some (Zw0 ds ms sd.length f) := by
 have := Xf7 (K := K) hK hL K f [] (by omega) hf Zc1 (fun t ht => by cases ht)
 unfold Zg6
 replace this : T9 K (sd, ds, ms) K f [] = some (.go (Zw0 ds ms sd.length f)) := this
 rw [this]; rfl
theorem Xk0 {u : Int} {f : MpT} (h : Hm u sd f) (hu : u ≤ 13) : Led sd f := ⟨fun t ht => (h.mo t ht).lo, fun t ht => by rw [h.w t ht]; exact hu, fun t ht => Zv4 h.nf t ht⟩
theorem Xo3 {u : Int} {f : MpT} (hL : Lds sd ds ms) (hf : Hm u sd f) (hu : u ≤ 13) : Hm u ds (Zw0 ds ms sd.length f) := by
 refine Yo0 (fun r hr => ?_) (Hm.nil _ _)
 obtain ⟨t, ht, hr⟩ := List.mem_flatMap.1 hr
 have hl := Xk0 hf hu
 have hp := Yd1 hL (hl.lo t ht) (hl.w t ht) (hl.c t ht) sd.length (Nat.le_refl _)
 have e : wtN sd t.1 sd.length = u := hf.w t ht
 rw [e] at hp
 exact ⟨hp.mo r hr, hp.w r hr⟩
end
section
variable {K : Nat} {ds : List Int}
theorem Wc6 {u : Int} {f : MpT} (hK : 1099511627776 ≤ K) (hf : Hm u ds f) : Zd9 K f = some (if 400 < f.length then ([], 3) else (f, 0)) := by
 by_cases h : 400 < f.length
 unfold Zd9
 rw [if_pos (by omega), if_pos h]
 rw [if_neg h, Wh3 (by omega) (hf.vf (by omega))]
theorem Wj8 {u : Int} {f : MpT} (hK : 1099511627776 ≤ K) (hd : okD ds = true) (hf : Hm u ds f) : Zg8 K ds f = some (decide (f.length ≤ 400)) := by
 have hl := hf.len
 rw [Xp0 (by omega) (by omega) (by omega) hd (fun t ht => (hf.mo t ht).byt (by decide))]
 by_cases h : f.length ≤ 400
 rw [Wi0 (hf.vf h), decide_eq_true h]
 unfold okF
 rw [decide_eq_false h, Bool.and_false]
end
/-! lists without some places -/
def Zp8 (gs : List Int) (x : Int) : Bool := gs.any fun y => decide (y = x)
theorem Ye9 {ρ : Type} {gs : List Int} {x : Int} (L : Nat → Bool → Int → Option (Ex ρ Bool))
 (h : ∀ k b (n : Nat), L (k + 1) b n = if (n : Int) < gs.length then (if b = true then L k true ((n : Int) + 1) else L k (decide (rd gs (n : Int) = x)) ((n : Int) + 1)) else some (.go b)) :
 ∀ (k n : Nat) (b : Bool), gs.length < n + k → n ≤ gs.length → L k b n = some (.go (b || Zp8 (gs.drop n) x))
 | 0, n, b, h1, h2 => by omega
 | k + 1, n, b, h1, h2 => by
  rw [h]
  by_cases hn : n < gs.length
  rw [if_pos (by omega)]
  have e : Zp8 (gs.drop n) x = (decide (rd gs (n : Int) = x) || Zp8 (gs.drop (n + 1)) x) := by
   unfold Zp8
   rw [List.drop_eq_getElem_cons hn, List.any_cons, Zd5 hn]
  have e1 : (n : Int) + 1 = ((n + 1 : Nat) : Int) := rfl
  rw [e, e1]
  by_cases hb : b = true
  rw [if_pos hb, Ye9 L h k (n + 1) true (by omega) (by omega), hb]; rfl
  rw [if_neg hb, Ye9 L h k (n + 1) _ (by omega) (by omega)]
  cases b with
  | true => exact absurd rfl hb
  | false => rfl
  rw [if_neg (by omega), List.drop_eq_nil_of_le (by omega)]
  show _ = some (Ex.go (b || false))
  rw [Bool.or_false]
section
variable {K : Nat} {ds sd : List Int} {ms imgs : List MpT} {gs : List Int}
theorem Wl6 {x : Int} (hK : gs.length < K) : I0 K gs x K false 0 = some (.go (Zp8 gs x)) := by
 have := Ye9 (x := x) (I0 K gs x) (fun k b n => by rw [I0]) K 0 false (by omega) (by omega)
 exact this
theorem Wk0 {x : Int} (hK : gs.length < K) : L7 K gs x K false 0 = some (.go (Zp8 gs x)) := by
 have := Ye9 (x := x) (L7 K gs x) (fun k b n => by rw [L7]) K 0 false (by omega) (by omega)
 exact this
/-- the places that stay, below n -/
def Zw6 (gs : List Int) (n : Nat) : List Nat := (List.range n).filter fun j => !Zp8 gs (j : Int)
theorem Xa6 (gs : List Int) (n : Nat) : Zw6 gs (n + 1) = if Zp8 gs (n : Int) = true then Zw6 gs n else Zw6 gs n ++ [n] := by
 unfold Zw6
 rw [List.range_succ, List.filter_append, List.filter_cons, List.filter_nil]
 split
 rename_i h; rw [Bool.not_eq_true', ] at h; rw [if_neg (by rw [h]; decide)]
 rename_i h; rw [if_pos (by simpa using h), List.append_nil]
theorem Yk7 (gs : List Int) (n : Nat) : (Zw6 gs n).length ≤ n := by
 have := List.length_filter_le (fun j : Nat => !Zp8 gs (j : Int)) (List.range n)
 rw [List.length_range] at this; exact this
theorem Yt6 (n : Nat) : Zw6 [] n = List.range n := by
 unfold Zw6
 exact List.filter_eq_self.2 (fun _ _ => rfl)
/-- the generators as forms, without some -/
def nmG (gs : List Int) (n : Nat) : List MpT := (List.range n).map fun (j : Nat) => if Zp8 gs (j : Int) = true then [] else [(gn (Zw6 gs j).length 1, 1)]
theorem Zy5 (gs : List Int) (n : Nat) : (nmG gs n).length = n := by simp [nmG]
theorem Wi6 {n j : Nat} (h : j < n) : rd (nmG gs n) (j : Int) = if Zp8 gs (j : Int) = true then [] else [(gn (Zw6 gs j).length 1, 1)] := Yw1 (by simp [nmG, h])
theorem Xk2 (gs : List Int) (n : Nat) : nmG gs (n + 1) = nmG gs n ++ [if Zp8 gs (n : Int) = true then [] else [(gn (Zw6 gs n).length 1, 1)]] := by
 unfold nmG; rw [List.range_succ, List.map_append]; rfl
theorem Xq3 {n : Nat} (hK : gs.length < K) (hn : n ≤ 8) : ∀ (k j : Nat), n < j + k → j ≤ n → I2 K n gs k j (nmG gs j) ((Zw6 gs j).length : Int) = some (.go (nmG gs n)) := by
 intro k
 induction k with
 | zero => intro j h1 h2; omega
 | succ k ih =>
  intro j h1 h2
  rw [I2]
  by_cases hj : j < n
  have hs := Yk7 gs j
  have hl := Zy5 gs j
  have := ih (j + 1) (by omega) (by omega)
  rw [Xk2, Xa6] at this
  rw [if_pos (by omega), Wl6 hK, Option.bind_some, IntWalk.i64_in ((j : Int) + 1) (by omega)]
  by_cases e : Zp8 gs (j : Int) = true
  rw [if_pos e, if_pos e] at this
  show (if Zp8 gs (j : Int) = true then _ else _) = _
  rw [if_pos e, if_pos (by simp; omega)]
  exact this
  rw [if_neg e, if_neg e, List.length_append] at this
  show (if Zp8 gs (j : Int) = true then _ else _) = _
  rw [if_neg e, Xl9 (by omega), Option.bind_some, if_pos (by simp; omega), IntWalk.i64_in _ (by omega)]
  exact this
  rw [if_neg (by omega), show j = n by omega]
theorem Xw3 {n : Nat} (hK : 1099511627776 ≤ K) (hg : gs.length ≤ 8) (hn : n ≤ 8) : Zl9 K n gs = some (nmG gs n) := by
 have := Xq3 (K := K) (gs := gs) (by omega) hn K 0 (by omega) (by omega)
 unfold Zl9
 replace this : I2 K n gs K 0 [] 0 = some (.go (nmG gs n)) := this
 rw [this]; rfl
/-- the images of those that stay, led -/
def Zi7 (gs : List Int) (ds : List Int) (ms imgs : List MpT) (n j : Nat) : List MpT := (Zw6 gs j).map fun (i : Nat) => Zw0 ds ms n (rd imgs (i : Int))
/-- an algebra out of degrees and images, if all of these are forms -/
def Yj6 (ds : List Int) (fs : List MpT) : Zb3 × Int := if (fs.all fun f => decide (f.length ≤ 400)) = true then ((ds, fs), 0) else (([], []), 3)
theorem Wi8 {fs : List MpT} {c : MpT → Bool} : (List.range fs.length).all (fun j => c (rd fs (j : Int))) = fs.all c := by
 rw [Bool.eq_iff_iff, List.all_eq_true, List.all_eq_true]
 constructor
 intro h x hx
 obtain ⟨n, hn, rfl⟩ := List.getElem_of_mem hx
 have := h n (List.mem_range.2 hn)
 rwa [Zd5 hn] at this
 intro h j hj
 exact h _ (U9 (List.mem_range.1 hj))
theorem Wh9 {fs : List MpT} (hK : 1099511627776 ≤ K) (hd : okD ds = true) (hl : fs.length ≤ 8) (hf : ∀ f, f ∈ fs → ∃ u, Hm u ds f) : Zl7 K ds fs = some (if (fs.all fun f => decide (f.length ≤ 400)) = true then (fs, 0) else ([], 3)) := by
 unfold Zl7
 rw [Za8 (g := ()) (fun k x => I7 K ds fs k x) fs.length (fun j => decide ((rd fs (j : Int)).length ≤ 400)) ([], 3) (fun k n hn => ?_) (fun k n hn => ?_) (by omega), Wi8 (c := fun f => decide (f.length ≤ 400))]
 by_cases h : (fs.all fun f => decide (f.length ≤ 400)) = true
 rw [if_pos h, if_pos h]; rfl
 rw [if_neg h, if_neg h]; rfl
 obtain ⟨u, hu⟩ := hf _ (U9 hn)
 show I7 K ds fs (k + 1) n = _
 rw [I7, if_pos (by omega), Wj8 hK hd hu]; rfl
 show I7 K ds fs (k + 1) n = _
 rw [I7, if_neg (by omega)]
theorem Xe7 (hK : 1099511627776 ≤ K) (hL : Lds sd ds ms) (hg : gs.length ≤ 8) (hil : imgs.length = sd.length) (hI : ∀ f, f ∈ imgs → Led sd f ∧ f.length ≤ 2000000) : ∀ (k j : Nat), sd.length < j + k → j ≤ sd.length →
 K2 K (sd, imgs) ds ms gs k j (Zi7 gs ds ms imgs sd.length j) = some (.go (Zi7 gs ds ms imgs sd.length sd.length)) := by
 have hl := Q4 hL.src
 intro k
 induction k with
 | zero => intro j h1 h2; omega
 | succ k ih =>
  intro j h1 h2
  rw [K2]
  dsimp only
  by_cases hj : j < sd.length
  have hs := Yk7 gs j
  have hle : (Zi7 gs ds ms imgs sd.length j).length ≤ 8 := by unfold Zi7; rw [List.length_map]; omega
  have := ih (j + 1) (by omega) (by omega)
  have ho : Zi7 gs ds ms imgs sd.length (j + 1) = if Zp8 gs (j : Int) = true then Zi7 gs ds ms imgs sd.length j else Zi7 gs ds ms imgs sd.length j ++ [Zw0 ds ms sd.length (rd imgs (j : Int))] := by
   unfold Zi7; rw [Xa6]; split
   rfl
   rw [List.map_append]; rfl
  rw [ho] at this
  rw [if_pos (by omega), Wk0 (by omega), Option.bind_some]
  by_cases e : Zp8 gs (j : Int) = true
  rw [if_pos e] at this
  show (if Zp8 gs (j : Int) = true then _ else _) = _
  rw [if_pos e]; exact this
  rw [if_neg e] at this
  obtain ⟨i1, i2⟩ := hI _ (U9 (show j < imgs.length by omega))
  show (if Zp8 gs (j : Int) = true then _ else _) = _
  rw [if_neg e, if_pos (by omega), Xz7 hK hL i1 i2, Option.bind_some, if_pos (by simp; omega)]; exact this
  rw [if_neg (by omega), show j = sd.length by omega]
theorem Xt0 (hK : 1099511627776 ≤ K) (hL : Lds sd ds ms) (hg : gs.length ≤ 8) (hil : imgs.length = sd.length) (hI : ∀ j, j < imgs.length → Hm (rd sd (j : Int) + 1) sd (rd imgs (j : Int)) ∧ (rd imgs (j : Int)).length ≤ 2000000) :
 Zg3 K (sd, imgs) ds ms gs = some (Yj6 ds (Zi7 gs ds ms imgs sd.length sd.length)) := by
 have hl := Q4 hL.src
 have hpos := Zc2 hL.src
 have hu : ∀ j, j < imgs.length → rd sd (j : Int) + 1 ≤ 13 := fun j hj => by have := hpos _ (U9 (show j < sd.length by omega)); omega
 have h1 := Xe7 (K := K) (imgs := imgs) hK hL hg hil (fun f hf => by
  obtain ⟨n, hn, rfl⟩ := List.getElem_of_mem hf
  have := hI n hn
  rw [Zd5 hn] at this
  exact ⟨Xk0 this.1 (hu n hn), this.2⟩) K 0 (by omega) (by omega)
 replace h1 : K2 K (sd, imgs) ds ms gs K 0 [] = _ := h1
 have hs := Yk7 gs sd.length
 have h2 := Wh9 (K := K) (fs := Zi7 gs ds ms imgs sd.length sd.length) hK hL.dst (by unfold Zi7; rw [List.length_map]; omega) (fun f hf => by
  unfold Zi7 at hf
  obtain ⟨i, hi, rfl⟩ := List.mem_map.1 hf
  have hi : i < imgs.length := by have := (List.mem_filter.1 hi).1; rw [hil]; exact List.mem_range.1 this
  exact ⟨_, Xo3 hL (hI i hi).1 (hu i hi)⟩)
 unfold Zg3 Yj6
 rw [h1, Option.bind_some]
 show ((Zl7 K ds _).bind _) = _
 rw [h2, Option.bind_some]
 by_cases h : ((Zi7 gs ds ms imgs sd.length sd.length).all fun f => decide (f.length ≤ 400)) = true
 rw [if_pos h, if_pos h]; rfl
 rw [if_neg h, if_neg h]; rfl
end
theorem Xr8 (ds : List Int) {t : Nat} (ht : t < 8) (e : Int) : ∀ n : Nat, wtN ds (gn t e) n = if t < n then rd ds (t : Int) * e else 0
 | 0 => by rw [if_neg (by omega)]; rfl
 | n + 1 => by
  rw [wtN, Xr8 ds ht e n, Xv1 ht]
  by_cases h : n = t
  subst h
  rw [if_neg (by omega), if_pos rfl, if_pos (by omega)]; omega
  rw [if_neg h, Int.mul_zero, Int.add_zero]
  by_cases h2 : t < n
  rw [if_pos h2, if_pos (by omega)]
  rw [if_neg h2, if_neg (by omega)]
section
variable {K : Nat} {ds sd : List Int} {ms imgs : List MpT}
theorem Yx9 {t : Nat} {c : Int} (hd : okD ds = true) (ht : t < ds.length) (hc : 1 ≤ c ∧ c ≤ 10006) : Hm (rd ds (t : Int)) ds [(gn t 1, c)] := by
 have hl := Q4 hd
 refine ⟨Ya0 (List.pairwise_singleton _ _) (fun q hq => by cases List.mem_singleton.1 hq; exact hc), fun q hq => ?_, fun q hq => ?_⟩
 cases List.mem_singleton.1 hq
 have := Wl5 (ds := ds) (e := 1) (show t < 8 by omega) ht (by decide) (by decide) (fun _ => by decide)
 exact ⟨this.lo, fun i => by show gn t 1 i ≤ 13; unfold gn; rw [B0 _ (show t < 8 by omega)]; split <;> omega, this.odd, this.out⟩
 cases List.mem_singleton.1 hq
 show wt ds (gn t 1) = _
 unfold wt
 rw [Xr8 ds (by omega), if_pos ht, Int.mul_one]
theorem Xp6 {n j : Nat} (h : j < n) : rd (nmG [] n) (j : Int) = [(gn j 1, 1)] := by
 rw [Wi6 h, Yt6, List.length_range]; rfl
theorem Xi6 {α : Type} [Inhabited α] {xs : List α} {i j : Nat} {x : α} (hj : j < xs.length) : rd (xs.set i x) (j : Int) = if j = i then x else rd xs (j : Int) := by
 unfold rd
 rw [Int.toNat_natCast, List.getD_eq_getElem?_getD, List.getD_eq_getElem?_getD, List.getElem?_set]
 by_cases e : i = j
 subst e; rw [if_pos rfl, if_pos rfl, if_pos hj]; rfl
 rw [if_neg e, if_neg (fun h => e h.symm)]
/-- generators, one of them replaced -/
theorem Wf5 {i : Nat} {g : MpT} (hd : okD ds = true) (hi : i < ds.length) (hg : Hm (rd ds (i : Int)) ds g) : Lds ds ds ((nmG [] ds.length).set i g) := by
 refine ⟨hd, hd, by rw [List.length_set, Zy5], fun j hj => ?_⟩
 rw [List.length_set, Zy5] at hj
 rw [Xi6 (by rw [Zy5]; exact hj)]
 by_cases e : j = i
 subst e; rw [if_pos rfl]; exact hg
 rw [if_neg e, Xp6 hj]; exact Yx9 hd hj (by decide)
theorem Xh2 {n : Nat} (hn : n ≤ 8) : ∀ (k j : Nat), n < j + k → j ≤ n → B7 K n k j (nmG [] j) = some (.go (nmG [] n)) := by
 intro k
 induction k with
 | zero => intro j h1 h2; omega
 | succ k ih =>
  intro j h1 h2
  rw [B7]
  by_cases hj : j < n
  have hl := Zy5 [] j
  have := ih (j + 1) (by omega) (by omega)
  rw [Xk2, Yt6, List.length_range] at this
  have e : A9 ([] : MpT) (gn j 1) 1 = [(gn j 1, 1)] := rfl
  rw [if_pos (by omega), Xi4 (by omega), Option.bind_some, IntWalk.i64_in ((j : Int) + 1) (by omega), e, if_pos (by simp; omega)]
  exact this
  rw [if_neg (by omega), show j = n by omega]
theorem Xs4 {n : Nat} (hK : 1099511627776 ≤ K) (hn : n ≤ 8) : Zo2 K n = some (nmG [] n) := by
 have := Xh2 (K := K) hn K 0 (by omega) (by omega)
 unfold Zo2
 replace this : B7 K n K 0 [] = some (.go (nmG [] n)) := this
 rw [this]; rfl
theorem Wd3 {f : MpT} {x : Int} : ∀ (k j : Nat) (box : A8), 8 < j + k → j ≤ 8 → (∀ t : Fin 8, t.val < j → box t = (rd f x).1 t) → B2 K f 0 x k j box = some (.go (rd f x).1) := by
 intro k
 induction k with
 | zero => intro j box h1 h2; omega
 | succ k ih =>
  intro j box h1 h2 hb
  rw [B2, Int.add_zero, IntWalk.i64_in (j : Int) (by omega)]
  by_cases hj : j < 8
  rw [if_pos (by omega), if_pos (by omega), if_pos (by omega)]
  refine ih (j + 1) _ (by omega) (by omega) (fun t ht => ?_)
  rw [B0 _ hj]
  by_cases e : t.val = j
  rw [if_pos e, R2 _ hj]; exact congrArg (rd f x).1 (show (⟨j, hj⟩ : Fin 8) = t from Fin.ext e.symm)
  rw [if_neg e]; exact hb t (by omega)
  rw [if_neg (by omega)]
  congr 2
  funext t; exact hb t (by omega)
theorem Wd1 {f : MpT} (hK : 1099511627776 ≤ K) (hf : f.length ≤ 2000000) : ∀ (k j : Nat), f.length < j + k → j ≤ f.length → B5 K f 0 k j (f.take j) = some (.go f) := by
 intro k
 induction k with
 | zero => intro j h1 h2; omega
 | succ k ih =>
  intro j h1 h2
  rw [B5]
  by_cases hj : j < f.length
  have h3 := Wd3 (K := K) (f := f) (x := j) K 0 (fun _ => 0) (by omega) (by omega) (fun t ht => by omega)
  replace h3 : B2 K f 0 j K 0 (fun _ => 0) = _ := h3
  have := ih (j + 1) (by omega) (by omega)
  rw [Yg9 hj] at this
  rw [if_pos (by omega), h3, Option.bind_some]
  show (if _ then _ else none) = _
  rw [if_pos (by simp; omega)]
  exact this
  rw [if_neg (by omega), List.take_of_length_le (by omega)]
theorem Wh4 {f : MpT} (hK : 1099511627776 ≤ K) (hf : f.length ≤ 2000000) : Zo1 K f 0 = some f := by
 have := Wd1 (K := K) hK hf K 0 (by omega) (by omega)
 unfold Zo1
 replace this : B5 K f 0 K 0 [] = some (.go f) := this
 rw [this]; rfl
theorem Wj3 {a : Zb3} (hK : 1099511627776 ≤ K) (hl : a.2.length ≤ 8) (hf : ∀ f, f ∈ a.2 → f.length ≤ 2000000) : ∀ (k j : Nat), a.2.length < j + k → j ≤ a.2.length → Za3 K a k j (a.2.take j) = some (.go a.2) := by
 intro k
 induction k with
 | zero => intro j h1 h2; omega
 | succ k ih =>
  intro j h1 h2
  rw [Za3]
  by_cases hj : j < a.2.length
  have := ih (j + 1) (by omega) (by omega)
  rw [Yg9 hj] at this
  rw [if_pos (by omega), Wh4 hK (hf _ (U9 hj)), Option.bind_some, if_pos (by simp; omega)]
  exact this
  rw [if_neg (by omega), List.take_of_length_le (by omega)]
theorem Wk3 {a : Zb3} (hK : 1099511627776 ≤ K) (h1 : a.1.length ≤ 8) (hl : a.2.length ≤ 8) (hf : ∀ f, f ∈ a.2 → f.length ≤ 2000000) : Zq2 K a = some a := by
 have := Wj3 (K := K) hK hl hf K 0 (by omega) (by omega)
 unfold Zq2 Zu3
 replace this : Za3 K a K 0 [] = some (.go a.2) := this
 rw [if_pos (by simp; omega), Option.bind_some, this]; rfl
theorem Xd5 (n j : Nat) : Zi7 [] ds ms imgs n j = (List.range j).map fun (i : Nat) => Zw0 ds ms n (rd imgs (i : Int)) := by unfold Zi7; rw [Yt6]
theorem Yw0 {X : List MpT} {M : M8} (hK : 1099511627776 ≤ K) (hL : Lds ds ds ms) (hM : ∀ j, j < ds.length → Zk6 M (j : Int) = rd imgs (j : Int))
 (hI : ∀ j, j < ds.length → Hm (rd ds (j : Int) + 1) ds (rd imgs (j : Int)) ∧ (rd imgs (j : Int)).length ≤ 2000000) : ∀ (k j : Nat), ds.length < j + k → j ≤ ds.length →
 Q6 K (ds, X) M ms k j (Zi7 [] ds ms imgs ds.length j) =
  some (if ((List.range' j (ds.length - j)).all fun i => decide ((Zw0 ds ms ds.length (rd imgs (i : Int))).length ≤ 400)) = true then .go (Zi7 [] ds ms imgs ds.length ds.length) else .ret (([], []), 3)) := by
 have hl := Q4 hL.src
 have hpos := Zc2 hL.src
 intro k
 induction k with
 | zero => intro j h1 h2; omega
 | succ k ih =>
  intro j h1 h2
  rw [Q6]
  dsimp only
  by_cases hj : j < ds.length
  have hu : rd ds (j : Int) + 1 ≤ 13 := by have := hpos _ (U9 hj); omega
  obtain ⟨i1, i2⟩ := hI j hj
  have hh := Xo3 hL i1 hu
  have hle : (Zi7 [] ds ms imgs ds.length j).length = j := by rw [Xd5, List.length_map, List.length_range]
  have ho : Zi7 [] ds ms imgs ds.length (j + 1) = Zi7 [] ds ms imgs ds.length j ++ [Zw0 ds ms ds.length (rd imgs (j : Int))] := by
   rw [Xd5, Xd5, List.range_succ, List.map_append]; rfl
  have := ih (j + 1) (by omega) (by omega)
  have hr : List.range' j (ds.length - j) = j :: List.range' (j + 1) (ds.length - (j + 1)) := by
   rw [show ds.length - j = (ds.length - (j + 1)) + 1 by omega, List.range'_succ]
  have Z2 : Zi4 K ds (rd imgs (j : Int)) ms = some (Zw0 ds ms ds.length (rd imgs (j : Int))) := by
   unfold Zi4
   rw [Wf4 hK hL (Xk0 i1 hu) i2]; rfl
  rw [if_pos (by omega), if_pos (by omega), hM j hj, Z2, Option.bind_some, Wc6 hK hh, Option.bind_some, hr, List.all_cons]
  by_cases h4 : 400 < (Zw0 ds ms ds.length (rd imgs (j : Int))).length
  rw [if_pos h4, decide_eq_false (by omega)]
  rfl
  rw [if_neg h4, decide_eq_true (by omega), Bool.true_and]
  dsimp only
  rw [if_pos rfl, if_pos (by simp; omega), ← ho]
  exact this
  rw [if_neg (by omega), show j = ds.length by omega, Nat.sub_self]; rfl
theorem Xg2 {X : List MpT} {M : M8} (hK : 1099511627776 ≤ K) (hL : Lds ds ds ms) (hM : ∀ j, j < ds.length → Zk6 M (j : Int) = rd imgs (j : Int))
 (hI : ∀ j, j < ds.length → Hm (rd ds (j : Int) + 1) ds (rd imgs (j : Int)) ∧ (rd imgs (j : Int)).length ≤ 2000000) :
 I8 K (ds, X) M ms = some (Yj6 ds (Zi7 [] ds ms imgs ds.length ds.length)) := by
 have hl := Q4 hL.src
 have h1 := Yw0 (K := K) (X := X) hK hL hM hI K 0 (by omega) (by omega)
 rw [Nat.sub_zero, ← List.range_eq_range'] at h1
 have e : ((Zi7 [] ds ms imgs ds.length ds.length).all fun f => decide (f.length ≤ 400)) = (List.range ds.length).all fun i => decide ((Zw0 ds ms ds.length (rd imgs (i : Int))).length ≤ 400) := by
  rw [Xd5, List.all_map]; rfl
 unfold I8 Zb7 Yj6
 replace h1 : Q6 K (ds, X) M ms K 0 [] = _ := h1
 rw [if_pos (by simp; omega), Option.bind_some, h1, Option.bind_some, e]
 by_cases h : ((List.range ds.length).all fun i => decide ((Zw0 ds ms ds.length (rd imgs (i : Int))).length ≤ 400)) = true
 rw [if_pos h, if_pos h]; rfl
 rw [if_neg h, if_neg h]; rfl
end
theorem Xj3 (K : Nat) (b : Bool) (c : Int) : Zn4 K b c = some (if b = true then c else 0) := by unfold Zn4; split <;> rfl
section
variable {K : Nat} {a : Zb3} {i c : Int}
theorem Xg4 (hi : Inp K a) (hB : okB a = true) : ∀ j, j < a.2.length → Hm (rd a.1 (j : Int) + 1) a.1 (rd a.2 (j : Int)) := by
 intro j hj
 have hd := Zq6 hB
 have hv := Yd3 hi hB
 have hpos := Zc2 hd _ (U9 (show j < a.1.length by have := hv.len; omega))
 unfold okB at hB
 rw [Bool.and_eq_true, Bool.and_eq_true] at hB
 have h := List.all_eq_true.1 hB.2.2 j (List.mem_range.2 hj)
 unfold okI okG at h
 rw [Bool.and_eq_true] at h
 exact Wb1 hd (hv.all _ (U9 hj)) (fun t ht => of_decide_eq_true (List.all_eq_true.1 h.2 t ht)) (by omega)
end
end Go.Proofs.YtfodlhkoafhplaaGreat
