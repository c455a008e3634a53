/- Plain laws on the pure functions. -/
import Derived.Test.YtfodlhkoafhplaaGreatUP1
import Derived.Test.YtfodlhkoafhplaaGreatUF11
import Derived.Test.YtfodlhkoafhplaaGreatUF8
import Derived.Test.YtfodlhkoafhplaaGreatUF1
import Derived.Test.YtfodlhkoafhplaaGreatUF2
import Derived.Test.YtfodlhkoafhplaaGreatUF3
import Derived.Test.YtfodlhkoafhplaaGreatUF4
import Derived.Test.YtfodlhkoafhplaaGreatUF5
import Derived.Test.YtfodlhkoafhplaaGreatUF6
import Derived.Test.YtfodlhkoafhplaaGreatUF7
import Derived.Test.YtfodlhkoafhplaaGreatUF9
import Derived.Test.YtfodlhkoafhplaaGreatUF10
import Derived.Test.YtfodlhkoafhplaaGreatUF12
import Derived.Test.YtfodlhkoafhplaaGreatUF13
import Derived.Test.YtfodlhkoafhplaaGreatUF14
import Derived.Test.YtfodlhkoafhplaaGreatUF15
import Derived.Test.YtfodlhkoafhplaaGreatUF16
import Derived.Test.YtfodlhkoafhplaaGreatUF17
import Derived.Test.YtfodlhkoafhplaaGreatUF18
import Derived.Test.YtfodlhkoafhplaaGreatUF19
namespace Go.Proofs.YtfodlhkoafhplaaGreat
open Go
set_option linter.unusedSimpArgs false
set_option linter.unusedVariables false
theorem Zw4 {B : Int} {ds : List Int} {p : A8} (h : Mo B ds p) : MoL B ds [(p, 1)] := fun t ht => by cases List.mem_singleton.1 ht; exact h
theorem Ya6 (p : A8) : SmF [(p, 1)] := fun t ht => by cases List.mem_singleton.1 ht; simp
theorem Xm1 (p : A8) : Srt [(p, 1)] := List.pairwise_singleton _ _
theorem Yf4 (K : Nat) (p : A8) : L0 K p 1 = some [(p, 1)] := by
 unfold L0
 rw [Zz5]; rfl
section
variable {K : Nat} {ds : List Int} {img : MpT} {m : A8} {i : Nat}
theorem Yj1 (hm : Mo 20 ds m) (hi : i < 8) (h1 : 0 < Y5 m i) (hv : VF ds img) : MoL 40 ds (R0 (Zc5 ds [(lfM m i, 1)] img) []) ∧ (R0 (Zc5 ds [(lfM m i, 1)] img) []).length ≤ 400 := by
 refine ⟨Wa9 (Xz9 (Zw4 (Xl2 hm (by decide) hi h1)) hv.mo), ?_⟩
 have h2 := Zz6 (Zc5 ds [(lfM m i, 1)] img) []
 have h3 := Yz2 (ds := ds) [(lfM m i, 1)] img
 have h4 := hv.len
 simp only [List.length_cons, List.length_nil] at h2 h3
 omega
theorem Xd6 (hm : Mo 20 ds m) (hi : i < 8) (h1 : 0 < Y5 m i) (hv : VF ds img) : (dT ds img m i).length ≤ 400 := by
 have h0 := (Yj1 hm hi h1 hv).2
 unfold dT
 generalize R0 (Zc5 ds [(lfM m i, 1)] img) [] = T at h0 ⊢
 have h2 := Zz6 (Zc5 ds T [(hiM m i, 1)]) []
 have h3 := Yz2 (ds := ds) T [(hiM m i, 1)]
 simp only [List.length_cons, List.length_nil] at h2 h3
 omega
theorem Yz6 : nfm (dT ds img m i) = true := B0 _ Zb6
theorem Yk5 {z : F7} {out : MpT} (hm : Mo 20 ds z.1) (hi : i < 8) (h1 : 0 < Y5 z.1 i) (hv : VF ds img) : (Ye9 ds img z i out).length ≤ out.length + 400 := by
 have h1 := Xd6 hm hi h1 hv
 have h2 := Zz6 (scl (dF ds z i) (dT ds img z.1 i)) out
 unfold Ye9
 have : (scl (dF ds z i) (dT ds img z.1 i)).length = (dT ds img z.1 i).length := by simp [scl]
 omega
theorem Xb4 (m : A8) (i : Nat) : ∀ (k j : Nat) (front back : A8), 8 < j + k → j ≤ 8 → (∀ t : Fin 8, front t = if t.val < j ∧ i ≤ t.val then 0 else m t) → (∀ t : Fin 8, back t = if t.val < j ∧ t.val ≤ i then 0 else m t) →
 I9 K i k j front back = some (.go (loM m i, hiM m i)) := by
 intro k
 induction k with
 | zero => intro j front back h1 h2; omega
 | succ k ih =>
  intro j front back h1 h2 hf hb
  rw [I9]
  by_cases hj : j < 8
  have key : ∀ fr : A8, (∀ t : Fin 8, fr t = if t.val < j + 1 ∧ i ≤ t.val then 0 else m t) → Zf0 K (I9 K i k) i j back fr = some (.go (loM m i, hiM m i)) := by
   intro fr hfr
   unfold Zf0
   by_cases h : j ≤ i
   rw [if_pos (by omega)]
   refine ih (j + 1) _ _ (by omega) (by omega) hfr (fun t => ?_)
   rw [B8 _ hj, hb t]
   by_cases e : t.val = j
   rw [if_pos e, if_pos (by omega)]
   rw [if_neg e]
   by_cases h' : t.val < j ∧ t.val ≤ i
   rw [if_pos h', if_pos (by omega)]
   rw [if_neg h', if_neg (by omega)]
   rw [if_neg (by omega)]
   refine ih (j + 1) _ _ (by omega) (by omega) hfr (fun t => ?_)
   rw [hb t]
   by_cases h' : t.val < j ∧ t.val ≤ i
   rw [if_pos h', if_pos (by omega)]
   rw [if_neg h', if_neg (by omega)]
  rw [if_pos (by omega)]
  by_cases h : i ≤ j
  rw [if_pos (by omega)]
  refine key _ (fun t => ?_)
  rw [B8 _ hj, hf t]
  by_cases e : t.val = j
  rw [if_pos e, if_pos (by omega)]
  rw [if_neg e]
  by_cases h' : t.val < j ∧ i ≤ t.val
  rw [if_pos h', if_pos (by omega)]
  rw [if_neg h', if_neg (by omega)]
  rw [if_neg (by omega)]
  refine key _ (fun t => ?_)
  rw [hf t]
  by_cases h' : t.val < j ∧ i ≤ t.val
  rw [if_pos h', if_pos (by omega)]
  rw [if_neg h', if_neg (by omega)]
  rw [if_neg (by omega)]
  congr 3
  funext t
  rw [hf t]; unfold loM
  by_cases h : t.val < i
  rw [if_neg (by omega), if_pos h]
  rw [if_pos (by omega), if_neg h]
  funext t
  rw [hb t]; unfold hiM
  by_cases h : i < t.val
  rw [if_neg (by omega), if_pos h]
  rw [if_pos (by omega), if_neg h]
/-- how imgs, the images of an algebra, are -/
structure VI (ds : List Int) (imgs : List MpT) : Prop where
 len : imgs.length = ds.length
 all : ∀ f, f ∈ imgs → VF ds f
theorem Wb2 {out : MpT} {f : Int} (hK : 1073741824 ≤ K) (hd : okD ds = true) (hm : Mo 20 ds m) (hi : i < 8) (h1 : 0 < Y5 m i) {imgs : List MpT} (hv : VI ds imgs) (hil : i < ds.length) (ho : nfm out = true) (hol : out.length ≤ 100000000)
 (lk : Int → MpT → Option (Ex MpT MpT)) (a1 : MpT) (x0 : Int) (hz : (rd a1 x0).1 = m) :
 Zf1 K lk (ds, imgs) a1 x0 i out (loM m i) (hiM m i) f = lk ((i : Int) + 1) (R0 (scl (f % 10007) (dT ds (rd imgs (i : Int)) m i)) out) := by
 have hl := hv.len
 have hv' := hv.all _ (U7 (show i < imgs.length by omega))
 have hvl := hv'.len
 have hp := Yj1 hm hi h1 hv'
 have hb := hm.hi ⟨i, hi⟩
 rw [← R1 m hi] at hb
 have hw : T7 (loM m i) i (IntKind.u8.wrap (Y5 m i - 1)) = lfM m i := by rw [Yy7 (by omega)]; rfl
 have hn := Xd6 hm hi h1 hv'
 unfold Zf1
 rw [hz, hw, Yf4, Option.bind_some, if_pos (show (i : Int) < imgs.length by omega),
  Xb8 (B := 20) (C := 20) hK hd (by decide) (by decide) (Zw4 (Xl2 hm (by decide) hi h1)) (Ya6 _) hv'.mo hv'.small (N4 hv'.nf) (by omega) (by simp; omega) (by simp; omega), Option.bind_some, Yf4, Option.bind_some,
  Xb8 (B := 40) (C := 20) hK hd (by decide) (by decide) hp.1 (B3 (B0 _ Zb6)) (Zw4 (Xx9 hm (by decide) i)) (Ya6 _) (Xm1 _) (by simp) (by omega) (by simp; omega), Option.bind_some, Zz5, Option.bind_some]
 have hT : R0 (Zc5 ds (R0 (Zc5 ds [(lfM m i, 1)] (rd imgs (i : Int))) []) [(hiM m i, 1)]) [] = dT ds (rd imgs (i : Int)) m i := rfl
 rw [hT, Yy9 (by omega) (by omega) (by omega) (B3 ho) (B3 Yz6) (by omega) (by omega), Option.bind_some, Yl5 ho (N4 Yz6)]
theorem We9 (x y a : Int) (hx : 0 ≤ x) : sg (x + y * a) = if y % 2 = 1 ∧ a % 2 = 1 then - sg x else sg x := by
 have h : (y * a) % 2 = ((y % 2) * (a % 2)) % 2 := Int.mul_emod y a 2
 have e : sg (y * a) = if y % 2 = 1 ∧ a % 2 = 1 then -1 else 1 := by
  unfold sg
  rw [h]
  rcases Int.emod_two_eq y with h1 | h1 <;> rcases Int.emod_two_eq a with h2 | h2 <;> simp [h1, h2]
 rw [Xn8, e]
 split
 rw [Int.mul_neg, Int.mul_one]
 rw [Int.mul_one]
theorem Xz1 (m : A8) {i : Nat} (hi : i < 8) : T7 (loM m i) i (Y5 m i) = loM m (i + 1) := by
 funext t
 rw [B8 _ hi, R1 m hi]
 unfold loM
 by_cases e : t.val = i
 rw [if_pos e, if_pos (by omega)]; congr 1; exact Fin.ext e.symm
 rw [if_neg e]
 by_cases h : t.val < i
 rw [if_pos h, if_pos (by omega)]
 rw [if_neg h, if_neg (by omega)]
theorem Yx7 {z : F7} (hm : Mo 20 ds z.1) (hz : -10006 ≤ z.2 ∧ z.2 ≤ 10006) (i : Nat) (hi : i < 8) (s : Int) (hs : s = 1 ∨ s = -1) : (-10006 ≤ s * z.2 ∧ s * z.2 ≤ 10006) ∧ -100120036 ≤ s * z.2 * Y5 z.1 i ∧ s * z.2 * Y5 z.1 i ≤ 100120036 := by
 have h2 := hm.hi ⟨i, hi⟩
 have h3 := hm.lo ⟨i, hi⟩
 rw [← R1 z.1 hi] at h2 h3
 exact Yo4 (.inr hs) hz (by omega)
theorem Xb0 {imgs : List MpT} {f : MpT} {x0 : Int} (hK : 1073741824 ≤ K) (hd : okD ds = true) (hv : VI ds imgs) (hm : Mo 20 ds (rd f x0).1) (hz : -10006 ≤ (rd f x0).2 ∧ (rd f x0).2 ≤ 10006) :
 ∀ (k i : Nat) (out : MpT), ds.length < i + k → i ≤ ds.length → nfm out = true → out.length + 400 * (ds.length - i) ≤ 100000000 →
  K5 K (ds, imgs) f x0 k i out = some (.go (Zt5 ds imgs (rd f x0) (ds.length - i) i out)) := by
 have hl := R7 hd
 intro k
 induction k with
 | zero => intro i out h1 h2; omega
 | succ k ih =>
  intro i out h1 h2 ho hol
  rw [K5]
  by_cases hi : i < ds.length
  obtain ⟨n, hn⟩ : ∃ n, ds.length - i = n + 1 := ⟨ds.length - i - 1, by omega⟩
  have e2 : ds.length - (i + 1) = n := by omega
  have hi8 : i < 8 := by omega
  have hlo := hm.lo ⟨i, hi8⟩
  have hhi := hm.hi ⟨i, hi8⟩
  rw [← R1 (rd f x0).1 hi8] at hlo hhi
  rw [if_pos (show (i : Int) < ds.length by omega), if_pos (by omega), hn, Zt5]
  by_cases h0 : Y5 (rd f x0).1 i = 0
  have := ih (i + 1) out (by omega) (by omega) ho (by omega)
  rw [e2] at this
  rw [if_pos h0, if_pos h0]; exact this
  have h1' : 0 < Y5 (rd f x0).1 i := by omega
  have hv' := hv.all _ (U7 (show i < imgs.length by rw [hv.len]; exact hi))
  have hl2 := Xb4 (K := K) (rd f x0).1 i K 0 (rd f x0).1 (rd f x0).1 (by omega) (by omega) (fun t => by simp) (fun t => by simp)
  replace hl2 : I9 K i K 0 (rd f x0).1 (rd f x0).1 = _ := hl2
  have hsl := Yk5 (out := out) hm hi8 h1' hv'
  have := ih (i + 1) (Ye9 ds (rd imgs (i : Int)) (rd f x0) i out) (by omega) (by omega) (B0 _ ho) (by omega)
  rw [e2] at this
  have hwt := Xe6 hd ((Xl9 hm (by decide) i).byt (by decide))
  rw [Xx5 _ _ (by omega)] at hwt
  have hfb := Yx7 hm hz i hi8 1 (.inl rfl)
  rw [Int.one_mul] at hfb
  rw [if_neg h0, if_neg h0, hl2, Option.bind_some]
  show (B4 K ds (loM (rd f x0).1 i)).bind _ = _
  rw [Yp7 (by omega) hd ((Xl9 hm (by decide) i).byt (by decide)), Option.bind_some, Xx5 _ _ (by omega), Zv0 (by omega), IntWalk.i64_in (Y5 (rd f x0).1 i) (by omega), IntWalk.i64_in ((rd f x0).2 * _) (by omega), IntWalk.i64_in (0 - _) (by omega)]
  have hj := fun g => Wb2 (K := K) (f := g) hK hd hm hi8 h1' hv hi ho (by omega) (K5 K (ds, imgs) f x0 k) f x0 rfl
  rw [hj, hj]
  have hF : dF ds (rd f x0) i = (if wtN ds (rd f x0).1 i % 2 = 0 then (rd f x0).2 * Y5 (rd f x0).1 i else 0 - (rd f x0).2 * Y5 (rd f x0).1 i) % 10007 := by
   unfold dF sg
   by_cases e : wtN ds (rd f x0).1 i % 2 = 0
   rw [if_pos e, if_neg (by omega), Int.one_mul]
   rw [if_neg e, if_pos (by omega), Int.neg_mul, Int.one_mul, Int.neg_mul, Int.zero_sub]
  refine Eq.trans ?_ this
  unfold Ye9
  rw [hF]
  split <;> rfl
  rw [if_neg (show ¬ (i : Int) < ds.length by omega), show ds.length - i = 0 by omega]; rfl
end
section
variable {K : Nat} {ds : List Int} {img : MpT} {m : A8} {i : Nat}
theorem Zv2 {imgs : List MpT} {z : F7} (hd : okD ds = true) (hv : VI ds imgs) (hm : Mo 20 ds z.1) : ∀ (n i : Nat) (out : MpT), i + n ≤ ds.length → nfm out = true →
 nfm (Zt5 ds imgs z n i out) = true ∧ (Zt5 ds imgs z n i out).length ≤ out.length + 400 * n
 | 0, _, out, _, h => ⟨h, Nat.le_refl _⟩
 | n + 1, i, out, hi, h => by
  have hl := R7 hd
  rw [Zt5]
  by_cases h0 : Y5 z.1 (i : Int) = 0
  rw [if_pos h0]
  have := Zv2 hd hv hm n (i + 1) out (by omega) h
  exact ⟨this.1, by omega⟩
  rw [if_neg h0]
  have hv' := hv.all _ (U7 (show i < imgs.length by rw [hv.len]; omega))
  have hlo := (hm.idx i).1
  have h2 := Yk5 (out := out) (z := z) hm (show i < 8 by omega) (by omega) hv'
  have := Zv2 hd hv hm n (i + 1) (Ye9 ds (rd imgs (i : Int)) z i out) (by omega) (B0 _ h)
  exact ⟨this.1, by omega⟩
theorem Yz9 {imgs : List MpT} {f : MpT} (hK : 1073741824 ≤ K) (hd : okD ds = true) (hv : VI ds imgs) (hm : MoL 20 ds f) (hz : SmF f) :
 ∀ (k i : Nat) (out : MpT), f.length < i + k → i ≤ f.length → nfm out = true → out.length + 3200 * (f.length - i) ≤ 90000000 → Zb9 K (ds, imgs) f k i out = some (.go (Zs3 ds imgs (f.drop i) out)) := by
 have hl := R7 hd
 intro k
 induction k with
 | zero => intro i out h1 h2; omega
 | succ k ih =>
  intro i out h1 h2 ho hol
  rw [Zb9]
  by_cases hi : i < f.length
  have h3 := Xb0 hK hd hv (hm _ (U7 hi)) (hz _ (U7 hi)) K 0 out (by omega) (by omega) ho (by omega)
  have h4 := Zv2 hd hv (hm _ (U7 hi)) ds.length 0 out (by omega) ho
  replace h3 : K5 K (ds, imgs) f i K 0 out = _ := h3
  rw [if_pos (by omega), h3, Option.bind_some, Zk9 hi, Zs3]
  exact ih (i + 1) _ (by omega) (by omega) h4.1 (by rw [Nat.sub_zero]; omega)
  rw [if_neg (by omega), List.drop_eq_nil_of_le (by omega)]; rfl
theorem Wj7 {imgs : List MpT} {f : MpT} (hK : 1073741824 ≤ K) (hd : okD ds = true) (hv : VI ds imgs) (hf : VF ds f) : Zq9 K (ds, imgs) f = some (Zs3 ds imgs f []) := by
 have hl := hf.len
 have := Yz9 hK hd hv hf.mo hf.small K 0 [] (by omega) (by omega) Zb6 (by simp; omega)
 unfold Zq9
 replace this : Zb9 K (ds, imgs) f K 0 [] = some (.go (Zs3 ds imgs f [])) := this
 rw [this]; rfl
theorem Xp5 (m : A8) {i : Nat} (hi : i < 8) : ∀ (k j : Nat) (box : A8), i + 1 < j + k → j ≤ i + 1 → (∀ t : Fin 8, box t = if t.val < j then 0 else m t) → S8 K i k j box = some (.go (hiM m i)) := by
 intro k
 induction k with
 | zero => intro j box h1 h2; omega
 | succ k ih =>
  intro j box h1 h2 hb
  rw [S8]
  by_cases hj : j < i + 1
  rw [if_pos (by omega), if_pos (by omega)]
  refine ih (j + 1) _ (by omega) (by omega) (fun t => ?_)
  rw [B8 _ (show j < 8 by omega), hb t]
  by_cases e : t.val = j
  rw [if_pos e, if_pos (by omega)]
  rw [if_neg e]
  by_cases h : t.val < j
  rw [if_pos h, if_pos (by omega)]
  rw [if_neg h, if_neg (by omega)]
  rw [if_neg (by omega)]
  congr 2
  funext t
  rw [hb t]; unfold hiM
  by_cases h : i < t.val
  rw [if_pos h, if_neg (by omega)]
  rw [if_neg h, if_pos (by omega)]
def sgI (ds : List Int) (m : A8) (i : Nat) : Int := sg (wtN ds m (min i ds.length))
theorem Xo5 {imgs : List MpT} {z : F7} (hd : okD ds = true) (hm : Mo 20 ds z.1) {i : Nat} (hi : i < 8) (lk : Int → Int → A8 → MpT → Option (Ex MpT (A8 × MpT))) (out : MpT) :
 P3 K lk (ds, imgs) (sgI ds z.1 i) i (loM z.1 i) z out = lk (sgI ds z.1 (i + 1)) ((i : Int) + 1) (loM z.1 (i + 1)) out := by
 unfold P3
 dsimp only
 rw [Xz1 _ hi]
 by_cases hl : i < ds.length
 have hp := D9 hd _ (U7 hl)
 have hlo := (hm.idx i).1
 have hw := Zv7 hd (hm.byt (by decide)) i (by omega)
 have e : sgI ds z.1 (i + 1) = if rd ds (i : Int) % 2 = 1 ∧ Y5 z.1 i % 2 = 1 then - sgI ds z.1 i else sgI ds z.1 i := by
  unfold sgI
  rw [Nat.min_eq_left (show i + 1 ≤ ds.length by omega), Nat.min_eq_left (show i ≤ ds.length by omega), wtN]
  exact We9 _ _ _ hw.1
 rw [if_pos (show (i : Int) < ds.length by omega), Zv0 (by omega), Zv0 (by omega), e]
 have hs : IntKind.i64.wrap (0 - sgI ds z.1 i) = - sgI ds z.1 i := by
  rcases Yq1 (wtN ds z.1 (min i ds.length)) with h | h <;> (unfold sgI; rw [h]; rfl)
 by_cases h1 : rd ds (i : Int) % 2 = 1
 by_cases h2 : Y5 z.1 i % 2 = 1
 rw [if_pos h1, if_pos h2, if_pos ⟨h1, h2⟩, hs]
 rw [if_pos h1, if_neg h2, if_neg (fun h => h2 h.2)]
 rw [if_neg h1, if_neg (fun h => h1 h.1)]
 rw [if_neg (show ¬ (i : Int) < ds.length by omega)]
 unfold sgI
 rw [Nat.min_eq_right (show ds.length ≤ i by omega), Nat.min_eq_right (show ds.length ≤ i + 1 by omega)]
theorem Xm9 {imgs : List MpT} {z : F7} {r6 : M8} (hK : 1073741824 ≤ K) (hd : okD ds = true) (hv : VI ds imgs) (hm : Mo 20 ds z.1) (hz : -10006 ≤ z.2 ∧ z.2 ≤ 10006) (hr : ∀ j, j < imgs.length → Zt9 r6 (j : Int) = rd imgs (j : Int)) :
 ∀ (k i : Nat) (out : MpT), 8 < i + k → i ≤ 8 → nfm out = true → out.length + 400 * (8 - i) ≤ 100000000 →
  ∃ a, U8 K (ds, imgs) r6 z k (sgI ds z.1 i) i (loM z.1 i) out = some (.go (a, Zt5 ds imgs z (ds.length - i) i out)) := by
 have hl := R7 hd
 intro k
 induction k with
 | zero => intro i out h1 h2; omega
 | succ k ih =>
  intro i out h1 h2 ho hol
  rw [U8]
  by_cases hi8 : i < 8
  have hlo := hm.lo ⟨i, hi8⟩
  have hhi := hm.hi ⟨i, hi8⟩
  rw [← R1 z.1 hi8] at hlo hhi
  rw [if_pos (by omega)]
  by_cases h0 : Y5 z.1 i = 0
  rw [if_neg (by omega), Xo5 hd hm hi8]
  obtain ⟨a, ha⟩ := ih (i + 1) out (by omega) (by omega) ho (by omega)
  refine ⟨a, ?_⟩
  replace ha : U8 K (ds, imgs) r6 z k (sgI ds z.1 (i + 1)) ((i : Int) + 1) (loM z.1 (i + 1)) out = _ := ha
  rw [ha]
  by_cases hi : i < ds.length
  obtain ⟨n, hn⟩ : ∃ n, ds.length - i = n + 1 := ⟨ds.length - i - 1, by omega⟩
  have e2 : ds.length - (i + 1) = n := by omega
  rw [hn, e2, Zt5, if_pos h0]
  rw [show ds.length - (i + 1) = 0 by omega, show ds.length - i = 0 by omega]; rfl
  have hi : i < ds.length := by
   rcases Nat.lt_or_ge i ds.length with h | h
   exact h
   exact absurd (by rw [R1 z.1 hi8]; exact hm.out ⟨i, hi8⟩ h) h0
  have h1' : 0 < Y5 z.1 i := by omega
  have hil : i < imgs.length := by rw [hv.len]; exact hi
  have hv' := hv.all _ (U7 hil)
  have hvl := hv'.len
  have hp := Yj1 hm hi8 h1' hv'
  have hn := Xd6 hm hi8 h1' hv'
  have hsl := Yk5 (out := out) hm hi8 h1' hv'
  have hl2 := Xp5 (K := K) z.1 hi8 K 0 z.1 (by omega) (by omega) (fun t => by simp)
  replace hl2 : S8 K i K 0 z.1 = _ := hl2
  have hw : T7 (loM z.1 i) i (IntKind.i64.wrap (Y5 z.1 i - 1)) = lfM z.1 i := by rw [IntWalk.i64_in _ (by omega)]; rfl
  have hfb := Yx7 hm hz i hi8 (sgI ds z.1 i) (Yq1 _)
  have hF : (sgI ds z.1 i * z.2 * Y5 z.1 i) % 10007 = dF ds z i := by unfold dF sgI; rw [Nat.min_eq_left (by omega)]
  have hm1 : ∀ p : A8, D5 ([] : MpT) p 1 = [(p, 1)] := fun p => rfl
  rw [if_pos h1', hl2, Option.bind_some]
  obtain ⟨a, ha⟩ := ih (i + 1) (Ye9 ds (rd imgs (i : Int)) z i out) (by omega) (by omega) (B0 _ ho) (by omega)
  refine ⟨a, ?_⟩
  show (N7 K (D5 ([] : MpT) (T7 (loM z.1 i) i (IntKind.i64.wrap (Y5 z.1 i - 1))) 1) ds (Zt9 r6 i)).bind _ = _
  have hT : R0 (Zc5 ds (R0 (Zc5 ds [(lfM z.1 i, 1)] (rd imgs (i : Int))) []) [(hiM z.1 i, 1)]) [] = dT ds (rd imgs (i : Int)) z.1 i := rfl
  rw [hw, hm1, hm1, hr i hil, Yn8 (B := 20) (C := 20) (by omega) hd (by decide) (by decide) (by decide) (Zw4 (Xl2 hm (by decide) hi8 h1')) (Ya6 _) hv'.mo hv'.small (by simp; omega) (by omega), Option.bind_some,
   Yn8 (B := 40) (C := 20) (by omega) hd (by decide) (by decide) (by decide) hp.1 (B3 (B0 _ Zb6)) (Zw4 (Xx9 hm (by decide) i)) (Ya6 _) (by omega) (by simp; omega), Option.bind_some, hT,
   IntWalk.i64_in (sgI ds z.1 i * z.2) (by omega), IntWalk.i64_in _ (by omega), Xd4, Option.bind_some, hF, Xd9 (by unfold dF; omega) (by omega) (B3 Yz6) ho, Option.bind_some, Xo5 hd hm hi8]
  replace ha : U8 K (ds, imgs) r6 z k (sgI ds z.1 (i + 1)) ((i : Int) + 1) (loM z.1 (i + 1)) (R0 (scl (dF ds z i) (dT ds (rd imgs (i : Int)) z.1 i)) out) = _ := ha
  rw [ha]
  obtain ⟨n, hn⟩ : ∃ n, ds.length - i = n + 1 := ⟨ds.length - i - 1, by omega⟩
  have e2 : ds.length - (i + 1) = n := by omega
  rw [hn, e2, Zt5, if_neg h0]
  rw [if_neg (by omega), show ds.length - i = 0 by omega]; exact ⟨_, rfl⟩
set_option maxRecDepth 100000 in
theorem Yv6 {imgs : List MpT} {r6 : M8} (hK : 1073741824 ≤ K) (hd : okD ds = true) (hv : VI ds imgs) (hr : ∀ j, j < imgs.length → Zt9 r6 (j : Int) = rd imgs (j : Int)) :
 ∀ (k : Nat) (f out : MpT), f.length < k → MoL 20 ds f → SmF f → nfm out = true → out.length + 3200 * f.length ≤ 90000000 → S0 K (ds, imgs) r6 k f out = some (.go (Zs3 ds imgs f out))
 | 0, _, _, h, _, _, _, _ => by omega
 | k + 1, [], out, _, _, _, _, _ => by rw [S0]; rfl
 | k + 1, z :: f, out, h, hm, hz, ho, hol => by
  have hl := R7 hd
  rw [List.length_cons] at hol h
  have hk8 : 8 < 0 + K := by omega
  have hol' : out.length + 400 * (8 - 0) ≤ 100000000 := by rw [Nat.sub_zero]; omega
  obtain ⟨a, ha⟩ := Xm9 hK hd hv (hm z (List.mem_cons_self ..)) (hz z (List.mem_cons_self ..)) hr K 0 out hk8 (Nat.zero_le _) ho hol'
  have h4 := Zv2 hd hv (hm z (List.mem_cons_self ..)) ds.length 0 out (by omega) ho
  have e1 : sgI ds z.1 0 = 1 := by unfold sgI; rw [Nat.zero_min]; rfl
  have e2 : loM z.1 0 = fun _ => 0 := by funext t; unfold loM; rw [if_neg (by omega)]
  rw [e1, e2, Nat.sub_zero] at ha
  replace ha : U8 K (ds, imgs) r6 z K 1 0 (fun _ => 0) out = _ := ha
  rw [S0, ha, Option.bind_some]
  show S0 K (ds, imgs) r6 k f (Zt5 ds imgs z ds.length 0 out) = _
  exact Yv6 hK hd hv hr k f _ (by omega) (fun q hq => hm q (List.mem_cons_of_mem _ hq)) (fun q hq => hz q (List.mem_cons_of_mem _ hq)) h4.1 (by omega)
theorem Wj5 {imgs : List MpT} {f : MpT} (hK : 1073741824 ≤ K) (hd : okD ds = true) (hv : VI ds imgs) (hf : VF ds f) : Ze0 K (ds, imgs) f = some (Zs3 ds imgs f []) := by
 have hl := hf.len
 have hdl := R7 hd
 obtain ⟨r6, h1, h2⟩ := Xt7 (K := K) (a := (ds, imgs)) (by omega) (show imgs.length ≤ 8 by rw [hv.len]; exact hdl) (fun g hg => ⟨ds, hv.all g hg⟩)
 unfold Ze0
 rw [show ((ds, imgs) : List Int × List MpT).1 = ds from rfl, show ((ds, imgs) : List Int × List MpT).2 = imgs from rfl, h1, Option.bind_some, Yv6 hK hd hv h2 K f [] (by omega) hf.mo hf.small Zb6 (by simp; omega)]
 rfl
end
theorem Yw4 {K : Nat} {xs : List MpT} {p : MpT → Option Bool} {q : MpT → Bool} (hK : xs.length < K) (hp : ∀ x, x ∈ xs → p x = some (q x)) : T6 K xs p = some (xs.any q) := by
 unfold T6 M9
 have := Xd7 (fun k i => W9 K xs p k i) xs.length (fun j => q (rd xs (j : Int))) id (fun k n hn => ?_) (fun k n hn => ?_) K 0 (by omega) (by omega)
 rw [Nat.sub_zero, ← List.range_eq_range', Yw6 xs q] at this
 rcases this with ⟨m, h1, h2, _⟩ | ⟨h1, h2⟩
 replace h1 : W9 K xs p K 0 = _ := h1
 rw [h1, h2]; simp [Ex.elim]
 replace h1 : W9 K xs p K 0 = _ := h1
 rw [h1, h2]; simp [Ex.elim]
 show W9 K xs p (k + 1) n = _
 rw [W9, if_pos (by omega), hp _ (U7 hn)]; rfl
 show W9 K xs p (k + 1) n = _
 rw [W9, if_neg (by omega)]
/-- what the arguments are like -/
structure Inp (K : Nat) (a : F4) : Prop where
 big : 1073741824 ≤ K
 dl : a.1.length ≤ 1048576
 il : a.2.length ≤ 1048576
 fl : ∀ f, f ∈ a.2 → f.length ≤ 1048576
 by_ : ∀ f, f ∈ a.2 → Zu1 f
def okI (a : F4) (j : Nat) : Bool := okF a.1 (rd a.2 (j : Int)) && okG a.1 (rd a.2 (j : Int)) (rd a.1 (j : Int) + 1)
def okB (a : F4) : Bool := okD a.1 && (decide (a.2.length = a.1.length) && (List.range a.2.length).all (okI a))
def okC (a : F4) : Bool := a.2.all fun f => decide ((Zs3 a.1 a.2 f []).length = 0)
def okA (a : F4) : Bool := okB a && okC a
section
variable {K : Nat} {a : F4}
theorem Xj4 (h : okB a = true) : okD a.1 = true := by unfold okB at h; rw [Bool.and_eq_true] at h; exact h.1
theorem Ys6 (hi : Inp K a) (h : okB a = true) : VI a.1 a.2 := by
 unfold okB at h
 rw [Bool.and_eq_true, Bool.and_eq_true, decide_eq_true_eq] at h
 refine ⟨h.2.1, fun f hf => ?_⟩
 obtain ⟨j, hj, rfl⟩ := List.getElem_of_mem hf
 have := List.all_eq_true.1 h.2.2 j (List.mem_range.2 hj)
 unfold okI at this
 rw [Zb3 hj, Bool.and_eq_true] at this
 exact Wf2 (hi.by_ _ hf) this.1
theorem Wc9 (hi : Inp K a) : Zo4 K a = some (okA a) := by
 have hK := hi.big
 have hdl := hi.dl
 have hil := hi.il
 unfold Zo4 okA okB
 rw [Wd9 (by omega), Option.bind_some]
 cases hd : okD a.1 with
 | false => rfl
 | true =>
  rw [if_pos rfl]
  unfold Zi9
  by_cases hl : a.2.length = a.1.length
  case neg => rw [if_pos (by simp; omega)]; simp [hl]
  rw [if_neg (by simp; omega), B5 (g := ()) (fun k i => K8 K a k i) a.2.length (okI a) false (fun k n hn => ?_) (fun k n hn => ?_) (by omega)]
  cases hb : (List.range a.2.length).all (okI a) with
  | false => simp [Ex.elim, hl]
  | true =>
   have hB : okB a = true := by unfold okB; rw [hd, hb]; simp [hl]
   have hv := Ys6 hi hB
   rw [if_pos rfl, Option.bind_some]
   show ((J3 K a K 0).bind _) = _
   rw [B5 (g := ()) (fun k i => J3 K a k i) a.2.length (fun j => decide ((Zs3 a.1 a.2 (rd a.2 (j : Int)) []).length = 0)) false (fun k n hn => ?_) (fun k n hn => ?_) (by omega), Yi8 a.2 (fun f => decide ((Zs3 a.1 a.2 f []).length = 0))]
   unfold okC
   rw [Bool.true_and, decide_eq_true hl, Bool.true_and, Bool.true_and]
   cases a.2.all fun f => decide ((Zs3 a.1 a.2 f []).length = 0) <;> rfl
   show J3 K a (k + 1) n = _
   rw [J3, if_pos (by omega), Wj7 hK hd hv (hv.all _ (U7 hn)), Option.bind_some]
   by_cases h0 : (Zs3 a.1 a.2 (rd a.2 (n : Int)) []).length = 0
   rw [if_neg (by omega), if_pos (by simpa using h0)]
   rw [if_pos (by omega), if_neg (show ¬ decide ((Zs3 a.1 a.2 (rd a.2 (n : Int)) []).length = 0) = true by simpa using h0)]
   show J3 K a (k + 1) n = _
   rw [J3, if_neg (by omega)]
  show K8 K a (k + 1) n = _
  have hb := hi.by_ _ (U7 hn)
  have hfl := hi.fl _ (U7 hn)
  have hp := D9 hd _ (U7 (show n < a.1.length by omega))
  obtain ⟨r, hr, hg⟩ := Xr6 (K := K) (f := rd a.2 (n : Int)) (by omega) (by omega) hd hb
  rw [K8, if_pos (by omega), Xx2 (by omega) (by omega) (by omega) hd hb, Option.bind_some, hr, Option.bind_some, if_pos (show (n : Int) < a.1.length by omega), IntWalk.i64_in _ (by omega)]
  unfold okI
  rw [← hg]
  cases okF a.1 (rd a.2 (n : Int)) with
  | false => rfl
  | true =>
   rw [if_pos rfl, Bool.true_and]
   cases r.2 with
   | false => rfl
   | true =>
    rw [if_pos rfl, Bool.true_and]
    by_cases h0 : (rd a.2 (n : Int)).length = 0
    rw [if_neg (by omega), if_pos (by simp [h0])]
    rw [if_pos (by omega)]
    by_cases h1 : r.1 = rd a.1 (n : Int) + 1
    rw [if_pos h1, if_pos (by simp [h1])]
    rw [if_neg h1, if_neg (by simp [h0, h1])]
  show K8 K a (k + 1) n = _
  rw [K8, if_neg (by omega)]
theorem Wd0 (hi : Inp K a) : Zg9 K a = some (okA a) := by
 have hK := hi.big
 have hdl := hi.dl
 have hil := hi.il
 unfold Zg9 okA okB
 rw [Wg4 (by omega), Option.bind_some]
 cases hd : okD a.1 with
 | false => rfl
 | true =>
  rw [if_pos rfl]
  unfold Zd6
  by_cases hl : a.2.length = a.1.length
  case neg => rw [if_pos (by simp; omega)]; simp [hl]
  rw [if_neg (by simp; omega), B5 (g := ()) (fun k i => N5 K a k i) a.2.length (okI a) false (fun k n hn => ?_) (fun k n hn => ?_) (by omega)]
  cases hb : (List.range a.2.length).all (okI a) with
  | false => simp [Ex.elim, hl]
  | true =>
   have hB : okB a = true := by unfold okB; rw [hd, hb]; simp [hl]
   have hv := Ys6 hi hB
   rw [if_pos rfl, Option.bind_some]
   show ((T6 K a.2 fun x => Zd7 K x (a.1, a.2)).bind _) = _
   rw [Yw4 (q := fun f => !decide ((Zs3 a.1 a.2 f []).length = 0)) (by omega) (fun f hf => ?_), Option.bind_some, ← List.not_all_eq_any_not]
   unfold okC
   rw [Bool.true_and, decide_eq_true hl, Bool.true_and, Bool.true_and, Bool.not_not]
   have hvf := hv.all f hf
   have hvl := hvf.len
   unfold Zd7
   rw [Yt5 (by omega) (by omega) hvf.byt (N4 hvf.nf), Option.bind_some]
   show (Ze0 K (a.1, a.2) f).bind _ = _
   rw [Wj5 hK hd hv hvf, Option.bind_some]
   congr 1
   rw [← decide_not]
   exact decide_eq_decide.2 (by omega)
  show N5 K a (k + 1) n = _
  have hb := hi.by_ _ (U7 hn)
  have hfl := hi.fl _ (U7 hn)
  have hp := D9 hd _ (U7 (show n < a.1.length by omega))
  rw [N5, if_pos (by omega), Wi9 (by omega) hd hb, Option.bind_some, if_pos (show (n : Int) < a.1.length by omega), IntWalk.i64_in _ (by omega), Xo6 (by omega) (by omega) hd hb (by omega), Option.bind_some]
  unfold okI
  cases okF a.1 (rd a.2 (n : Int)) with
  | false => rfl
  | true => rw [if_pos rfl, Bool.true_and]
  show N5 K a (k + 1) n = _
  rw [N5, if_neg (by omega)]
end
section
variable {K : Nat} {ds : List Int} {i : Nat}
theorem Yb2 {α : Type} [Inhabited α] {xs : List α} {n : Nat} {x : α} (h : xs[n]? = some x) : rd xs (n : Int) = x := by
 unfold rd
 rw [Int.toNat_natCast, List.getD_eq_getElem?_getD, h]; rfl
theorem Yl9 {α : Type} [Inhabited α] {xs : List α} {j : Nat} (h : j < xs.length) : xs.take (j + 1) = xs.take j ++ [rd xs (j : Int)] := by
 rw [Zb3 h, List.take_add_one, List.getElem?_eq_getElem h]; rfl
def gn (t : Nat) (e : Int) : A8 := T7 (fun _ => 0) t e
theorem Xg6 {t : Nat} (ht : t < 8) : Zd5 K (t : Int) = some [(gn t 1, 1)] := by
 unfold Zd5
 rw [if_pos (by omega), if_pos (by omega), Yf4]; rfl
theorem Xe2 {t : Nat} (ht : t < 8) : Zh5 K (t : Int) = some (gn t 1) := by
 unfold Zh5
 rw [if_pos (by omega), if_pos (by omega)]; rfl
theorem Xo1 {t : Nat} (ht : t < 8) (e : Int) (n : Nat) : Y5 (gn t e) n = if n = t then e else 0 := by
 by_cases hn : n < 8
 rw [R1 _ hn]; unfold gn; rw [B8 _ ht]
 rw [if_neg (by omega)]; simp [Y5, hn]
theorem Wh4 {t : Nat} {e : Int} (ht : t < 8) (htl : t < ds.length) (h0 : 0 ≤ e) (h20 : e ≤ 20) (ho : rd ds (t : Int) % 2 = 1 → e ≤ 1) : Mo 20 ds (gn t e) := by
 refine ⟨fun j => ?_, fun j => ?_, fun n hn hod => ?_, fun j hj => ?_⟩
 unfold gn; rw [B8 _ ht]; split <;> omega
 unfold gn; rw [B8 _ ht]; split <;> omega
 rw [Xo1 ht]; split
 rename_i e; subst e; exact ho hod
 omega
 unfold gn; rw [B8 _ ht, if_neg (by omega)]
theorem Wd1 {B : Int} {m : A8} (hB : B ≤ 20) (h : Mo B ds m) : okM ds m = true := by
 unfold okM
 rw [List.all_eq_true]
 intro j hj
 have hj := List.mem_range.1 hj
 have h1 := h.hi ⟨j, hj⟩
 rw [← R1 m hj] at h1
 simp only [decide_eq_true_eq]
 unfold Zp6
 split
 rename_i hl
 split
 rename_i ho; exact h.odd j hl ho
 omega
 rename_i hl
 rw [R1 m hj, h.out ⟨j, hj⟩ (by simp; omega)]; omega
theorem Wf7 {f : MpT} (h : VF ds f) : okF ds f = true := by
 unfold okF
 rw [Bool.and_eq_true, List.all_eq_true]
 refine ⟨fun j hj => ?_, by simpa using h.len⟩
 have hj := List.mem_range.1 hj
 unfold okT
 rw [Wd1 (by decide) (h.mo _ (U7 hj)), Bool.true_and, Bool.and_eq_true]
 refine ⟨by simpa using Zr4 h.nf _ (U7 hj), ?_⟩
 by_cases h0 : j = 0
 simp [h0]
 obtain ⟨n, rfl⟩ : ∃ n, j = n + 1 := ⟨j - 1, by omega⟩
 have e : ((n + 1 : Nat) : Int) - 1 = (n : Int) := by omega
 have := List.pairwise_iff_getElem.1 (N4 h.nf) n (n + 1) (by omega) hj (by omega)
 rw [e, Zb3 hj, Zb3 (show n < f.length by omega), this]; simp
theorem Wc5 {r10 : List A8} {x : Int} {m : A8} (hr : rd r10 x = m) (hm : ∀ j, 0 ≤ m j ∧ m j ≤ 20) : ∀ (k n : Nat) (box : A8), n ≤ 8 → 8 < n + k → (∀ j : Fin 8, j.val < n → box j = m j) → G8 K r10 x k n box = some (.go m) := by
 intro k
 induction k with
 | zero => intro n box h1 h2; omega
 | succ k ih =>
  intro n box h1 h2 hb
  rw [G8, hr]
  by_cases hn : n < 8
  have hmn := hm ⟨n, hn⟩
  rw [if_pos (by omega), R1 m hn, if_neg (by omega)]
  refine ih (n + 1) _ (by omega) (by omega) (fun j hj => ?_)
  rw [B8 _ hn]
  by_cases e : j.val = n
  rw [if_pos e, Yy7 (by omega)]
  congr 1; exact Fin.ext e.symm
  rw [if_neg e]; exact hb j (by omega)
  rw [if_neg (by omega)]
  congr 2
  funext j; exact hb j (by omega)
theorem Wb9 {f : MpT} (hK : 1073741824 ≤ K) (hf : VF ds f) : ∀ (k j : Nat), f.length < j + k → j ≤ f.length → F1 K f (f.map Prod.fst) k j (f.take j) = some (.go f) := by
 have hl := hf.len
 intro k
 induction k with
 | zero => intro j h1 h2; omega
 | succ k ih =>
  intro j h1 h2
  rw [F1, List.length_map]
  by_cases hj : j < f.length
  have er : rd (f.map Prod.fst) (j : Int) = (rd f (j : Int)).1 := Yb2 (by rw [List.getElem?_map, List.getElem?_eq_getElem hj, Zb3 hj]; rfl)
  have hm := hf.mo _ (U7 hj)
  have h3 := Wc5 (K := K) er (fun t => ⟨hm.lo t, hm.hi t⟩) K 0 (fun _ => 0) (by omega) (by omega) (fun t ht => by omega)
  replace h3 : G8 K (f.map Prod.fst) j K 0 (fun _ => 0) = _ := h3
  have hg : N9 f (rd f (j : Int)).1 = (rd f (j : Int)).2 := Zp7 (N4 hf.nf) (U7 hj)
  rw [if_pos (by omega), h3, Option.bind_some]
  show (if _ then _ else none) = _
  rw [er, hg, if_pos (by simp; omega)]
  have := ih (j + 1) (by omega) (by omega)
  rw [Yl9 hj] at this
  exact this
  rw [if_neg (by omega), List.take_of_length_le (by omega)]
theorem Wg5 {f : MpT} (hK : 1073741824 ≤ K) (hf : VF ds f) : Zc7 K f = some (f, 0) := by
 have hl := hf.len
 have hok : Yh9 f = true := by
  unfold Yh9
  rw [List.all_eq_true]
  intro p hp
  rw [List.all_eq_true]
  intro x hx
  have hm := hf.mo p hp
  have : ∃ t, x = p.1 t := by
   unfold l8 at hx
   simp only [List.mem_cons, List.not_mem_nil, or_false] at hx
   rcases hx with h | h | h | h | h | h | h | h <;> exact ⟨_, h⟩
  obtain ⟨t, rfl⟩ := this
  have h1 := hm.lo t
  have h2 := hm.hi t
  simp; omega
 have := Wb9 hK hf K 0 (by omega) (by omega)
 unfold Zc7 Zk4
 replace this : F1 K f (f.map Prod.fst) K 0 [] = some (.go f) := this
 rw [if_neg (by omega), if_pos ⟨hok, by omega, by omega⟩, Option.bind_some, this]; rfl
end
/-- a sum over terms -/
def lin (h : A8 → Int) : List (A8 × Int) → Int
 | [] => 0
 | t :: ts => t.2 * h t.1 + lin h ts
theorem Xt4 (h : A8 → Int) {xs ys : List (A8 × Int)} (p : xs.Perm ys) : lin h xs = lin h ys := by
 induction p with
 | nil => rfl
 | cons x _ ih => simp only [lin, ih]
 | swap x y l => simp only [lin]; omega
 | trans _ _ h1 h2 => exact h1.trans h2
theorem Xj7 (h : A8 → Int) (c : Int) : ∀ T, lin h (scl c T) = c * lin h T
 | [] => by simp [scl, lin]
 | t :: T => by
  have ih := Xj7 h c T
  unfold scl at ih ⊢
  rw [List.map_cons, lin, lin, ih, Int.mul_add, Int.mul_assoc]
theorem Xg0 (h : A8 → Int) (p : A8) : ∀ s : MpT, lin h s = lin h (Zn6 s p) + cf p s * h p
 | [] => by simp [lin, Zn6, cf]
 | t :: s => by
  have ih := Xg0 h p s
  unfold Zn6 at ih ⊢
  rw [List.filter_cons]
  by_cases e : t.1 = p
  have e8 : eq8 p t.1 = true := Zd9.2 e.symm
  rw [e8, cf, if_pos e, Int.add_mul, lin, ih, e]
  simp only [Bool.not_true, Bool.false_eq_true, if_false]
  omega
  have e8 : eq8 p t.1 = false := by
   cases hq : eq8 p t.1 with
   | false => rfl
   | true => exact absurd (Zd9.1 hq).symm e
  rw [e8, cf, if_neg e, Int.zero_add]
  simp only [Bool.not_false, if_true, lin]
  rw [ih]; omega
theorem Xt1 {s : MpT} (hs : nfm s = true) (h : A8 → Int) (p : A8) (x : Int) : lin h (Zm0 s p x) % 10007 = (lin h s + x * h p) % 10007 := by
 have h1 := Xg0 h p s
 have h2 := Zv8 p (N4 hs)
 have h3 : ((N9 s p + x) % 10007) * h p = cf p s * h p + x * h p - 10007 * (((N9 s p + x) / 10007) * h p) := by
  have e : (N9 s p + x) % 10007 = (N9 s p + x) - 10007 * ((N9 s p + x) / 10007) := by omega
  rw [e, Int.sub_mul, Int.add_mul, h2, Int.mul_assoc]
 unfold Zm0
 split
 rename_i h0
 rw [h0, Int.zero_mul] at h3
 omega
 unfold D5
 rw [Xt4 h (Zj9 _ _), lin]
 dsimp only
 omega
theorem Xf8 (h : A8 → Int) : ∀ (T : List (A8 × Int)) {s : MpT}, nfm s = true → lin h (R0 T s) % 10007 = (lin h s + lin h T) % 10007
 | [], s, _ => by simp [R0, lin]
 | t :: T, s, hs => by
  have h1 := Xf8 h T (Zc0 hs t.1 t.2)
  have h2 := Xt1 hs h t.1 t.2
  rw [R0, h1, lin]
  omega
theorem Xs0 (h : A8 → Int) (T : List (A8 × Int)) : lin h (R0 T []) % 10007 = lin h T % 10007 := by
 have := Xf8 h T Zb6
 rwa [show lin h [] = 0 from rfl, Int.zero_add] at this
theorem Xj0 (a : A8) (T : List (A8 × Int)) : cf a (R0 T []) % 10007 = cf a T % 10007 := by
 rw [← Zv8 a (N4 (B0 T Zb6)), Zr6 a T Zb6]
 show (0 + cf a T) % 10007 % 10007 = _
 omega
theorem Xu5 (T : List (A8 × Int)) {s : MpT} (hs : nfm s = true) : R0 (R0 T []) s = R0 T s := by
 refine Xa5 hs hs (fun a => ?_)
 have := Xj0 a T
 omega
/-- the product as a normal sum -/
def Yj7 (ds : List Int) (s t : MpT) : MpT := R0 (Zc5 ds s t) []
theorem Xe0 (ds : List Int) (a : A8) (z : F7) : ∀ G, cf a (Zc6 ds z G) = z.2 * cf a (Zc6 ds (z.1, 1) G)
 | [] => by simp [Zc6, cf]
 | q :: G => by
  have ih := Xe0 ds a z G
  unfold Zc6 at ih ⊢
  rw [List.filterMap_cons, List.filterMap_cons]
  dsimp only
  by_cases e : (L9 ds z.1 q.1).2 = 0
  rw [if_pos e, if_pos e]; exact ih
  rw [if_neg e, if_neg e]
  dsimp only
  rw [cf, cf, ih]
  dsimp only
  by_cases e2 : (L9 ds z.1 q.1).1 = a
  rw [if_pos e2, if_pos e2, Int.mul_add, Int.mul_one, Int.mul_comm (L9 ds z.1 q.1).2 z.2, Int.mul_assoc z.2]
  rw [if_neg e2, if_neg e2, Int.mul_add, Int.mul_zero]
theorem Yu3 (ds : List Int) (a : A8) (G : MpT) : ∀ S, cf a (Zc5 ds S G) = lin (fun p => cf a (Zc6 ds (p, 1) G)) S
 | [] => rfl
 | z :: S => by
  show cf a (Zc6 ds z G ++ Zc5 ds S G) = _
  rw [Xp8, Xe0, Yu3 ds a G S]; rfl
/-- multiples of a factor -/
theorem Xs1 (ds : List Int) (c : Int) (S G : MpT) : Yj7 ds (R0 (scl c S) []) G = R0 (scl c (Yj7 ds S G)) [] := by
 refine Xa5 Zb6 Zb6 (fun a => ?_)
 have h1 := Xs0 (fun p => cf a (Zc6 ds (p, 1) G)) (scl c S)
 have h2 := Xj0 a (Zc5 ds S G)
 rw [Xj7] at h1
 rw [Yu3] at h2
 rw [Yu3, Yz7]
 show (0 + _) % 10007 = (0 + c * cf a (R0 (Zc5 ds S G) [])) % 10007
 rw [Int.zero_add, Int.zero_add, h1, Int.mul_emod, ← h2, ← Int.mul_emod]
/-! how many monomials there are -/
def cd : List Int → Int
 | [] => 0
 | x :: xs => x * 14 ^ xs.length + cd xs
theorem Yw7 (n : Nat) : (0 : Int) < 14 ^ n := Int.pow_pos (by decide)
theorem Yf0 : ∀ xs : List Int, (∀ x, x ∈ xs → 0 ≤ x ∧ x ≤ 13) → 0 ≤ cd xs ∧ cd xs < 14 ^ xs.length
 | [], _ => by simp [cd]
 | x :: xs, h => by
  have hx := h x (List.mem_cons_self ..)
  have ih := Yf0 xs (fun y hy => h y (List.mem_cons_of_mem _ hy))
  have hp := Yw7 xs.length
  have h1 : 0 ≤ x * 14 ^ xs.length := Int.mul_nonneg hx.1 (Int.le_of_lt hp)
  have h2 : x * 14 ^ xs.length ≤ 13 * 14 ^ xs.length := Int.mul_le_mul_of_nonneg_right hx.2 (Int.le_of_lt hp)
  rw [cd, List.length_cons, Int.pow_succ]
  omega
theorem Xx1 : ∀ xs ys : List Int, xs.length = ys.length → (∀ x, x ∈ xs → 0 ≤ x ∧ x ≤ 13) → (∀ x, x ∈ ys → 0 ≤ x ∧ x ≤ 13) → Zf4 xs ys = true → cd ys < cd xs
 | [], [], _, _, _, h => by simp [Zf4] at h
 | x :: xs, y :: ys, hl, hx, hy, h => by
  have hl : xs.length = ys.length := by simpa using hl
  have b1 := Yf0 xs (fun z hz => hx z (List.mem_cons_of_mem _ hz))
  have b2 := Yf0 ys (fun z hz => hy z (List.mem_cons_of_mem _ hz))
  rw [Zf4] at h
  rw [cd, cd, hl]
  by_cases e : x = y
  rw [if_pos e] at h
  have := Xx1 xs ys hl (fun z hz => hx z (List.mem_cons_of_mem _ hz)) (fun z hz => hy z (List.mem_cons_of_mem _ hz)) h
  rw [e]; omega
  rw [if_neg e] at h
  have h := of_decide_eq_true h
  have hp := Yw7 ys.length
  have h1 : (y + 1) * 14 ^ ys.length ≤ x * 14 ^ ys.length := Int.mul_le_mul_of_nonneg_right (by omega) (Int.le_of_lt hp)
  rw [Int.add_mul, Int.one_mul] at h1
  omega
theorem Xd1 {α : Type} {g : α → Int} : ∀ (s : List α) (N : Int), s.Pairwise (fun p q => g q < g p) → (∀ t, t ∈ s → 0 ≤ g t ∧ g t < N) → 0 ≤ N → (s.length : Int) ≤ N
 | [], N, _, _, h0 => by simpa using h0
 | t :: s, N, hp, hb, _ => by
  have hp := List.pairwise_cons.1 hp
  have ht := hb t (List.mem_cons_self ..)
  have := Xd1 s (g t) hp.2 (fun u hu => ⟨(hb u (List.mem_cons_of_mem _ hu)).1, hp.1 u hu⟩) ht.1
  rw [List.length_cons]; omega
theorem Xf5 {ds : List Int} {m : A8} (h : Mo 13 ds m) : ∀ x, x ∈ l8 m → 0 ≤ x ∧ x ≤ 13 := by
 intro x hx
 have : ∃ t, x = m t := by
  unfold l8 at hx
  simp only [List.mem_cons, List.not_mem_nil, or_false] at hx
  rcases hx with h | h | h | h | h | h | h | h <;> exact ⟨_, h⟩
 obtain ⟨t, rfl⟩ := this
 exact ⟨h.lo t, h.hi t⟩
theorem Xr5 {ds : List Int} {s : MpT} (hs : nfm s = true) (hm : MoL 13 ds s) : s.length ≤ 1475789056 := by
 have h1 : s.Pairwise (fun p q => cd (l8 q.1) < cd (l8 p.1)) := by
  refine List.Pairwise.imp_of_mem (fun {p q} hp hq hb => ?_) (N4 hs)
  exact Xx1 _ _ rfl (Xf5 (hm p hp)) (Xf5 (hm q hq)) hb
 have h2 := Xd1 (g := fun t : A8 × Int => cd (l8 t.1)) s 1475789056 h1 (fun t ht => ?_) (by decide)
 omega
 have := Yf0 (l8 t.1) (Xf5 (hm t ht))
 have e : (14 : Int) ^ (l8 t.1).length = 1475789056 := by show (14 : Int) ^ 8 = _; decide
 rw [e] at this; exact this
theorem Xj5 (ds : List Int) (p q : A8) : ∀ n, wtN ds (Zu4 p q) n = wtN ds p n + wtN ds q n
 | 0 => rfl
 | n + 1 => by rw [wtN, wtN, wtN, Xj5 ds p q n, Xh9, Int.mul_add]; omega
theorem Xi0 (ds : List Int) : ∀ n, wtN ds (fun _ => 0) n = 0
 | 0 => rfl
 | n + 1 => by rw [wtN, Xi0 ds n]; simp [Y5]
theorem Yf9 {ds : List Int} {m : A8} (hd : okD ds = true) (lo : ∀ i, 0 ≤ m i) : ∀ n : Nat, n ≤ ds.length → 0 ≤ wtN ds m n ∧ ∀ j, j < n → Y5 m (j : Int) ≤ wtN ds m n
 | 0, _ => ⟨by simp [wtN], fun j hj => by omega⟩
 | n + 1, h => by
  obtain ⟨h1, h2⟩ := Yf9 hd lo n (by omega)
  have hn := D9 hd _ (U7 (show n < ds.length by omega))
  have hi : 0 ≤ Y5 m (n : Int) := by
   by_cases h8 : n < 8
   rw [R1 m h8]; exact lo _
   have := R7 hd; omega
  have h3 : 1 * Y5 m (n : Int) ≤ rd ds (n : Int) * Y5 m (n : Int) := Int.mul_le_mul_of_nonneg_right hn.1 hi
  rw [Int.one_mul] at h3
  rw [wtN]
  refine ⟨by omega, fun j hj => ?_⟩
  by_cases e : j = n
  subst e; omega
  have := h2 j (by omega); omega
theorem Xb7 {ds : List Int} {B : Int} {m : A8} (hd : okD ds = true) (hm : Mo B ds m) (hw : wt ds m ≤ 13) : Mo 13 ds m := by
 refine ⟨hm.lo, fun i => ?_, hm.odd, hm.out⟩
 by_cases h : i.val < ds.length
 have := (Yf9 hd hm.lo ds.length (Nat.le_refl _)).2 i.val h
 rw [R1 m i.isLt] at this
 unfold wt at hw
 exact Int.le_trans this hw
 rw [hm.out i (by omega)]; decide
/-- a normal sum, homogeneous of small degree -/
structure Hm (u : Int) (ds : List Int) (s : MpT) : Prop where
 nf : nfm s = true
 mo : MoL 13 ds s
 w : ∀ t, t ∈ s → wt ds t.1 = u
theorem Hm.len {u : Int} {ds : List Int} {s : MpT} (h : Hm u ds s) : s.length ≤ 1475789056 := Xr5 h.nf h.mo
theorem Hm.nil (u : Int) (ds : List Int) : Hm u ds [] := ⟨Zb6, fun t ht => (by cases ht), fun t ht => (by cases ht)⟩
theorem Hm.vf {u : Int} {ds : List Int} {s : MpT} (h : Hm u ds s) (hl : s.length ≤ 400) : VF ds s :=
 ⟨h.nf, fun t ht => ⟨(h.mo t ht).lo, fun i => Int.le_trans ((h.mo t ht).hi i) (by decide), (h.mo t ht).odd, (h.mo t ht).out⟩, hl⟩
theorem Wi1 {u : Int} {ds : List Int} {f : MpT} (hd : okD ds = true) (hf : VF ds f) (hw : ∀ t, t ∈ f → wt ds t.1 = u) (hu : u ≤ 13) : Hm u ds f :=
 ⟨hf.nf, fun t ht => Xb7 hd (hf.mo t ht) (by rw [hw t ht]; exact hu), hw⟩
section
variable {K : Nat} {ds : List Int}
theorem Wb6 {u v : Int} {p q : A8} (hd : okD ds = true) (huv : u + v ≤ 13) (hp : Mo 13 ds p) (hq : Mo 13 ds q) (hpw : wt ds p = u) (hqw : wt ds q = v) (hn : (L9 ds p q).2 ≠ 0) :
 Mo 13 ds (L9 ds p q).1 ∧ wt ds (L9 ds p q).1 = u + v := by
 have hw : wt ds (L9 ds p q).1 = u + v := by
  rw [(Yl4 hn).1]
  unfold wt at hpw hqw ⊢
  rw [Xj5, hpw, hqw]
 exact ⟨Xb7 hd (hp.mul hq hn) (by omega), hw⟩
theorem Xb2 {u v : Int} {z : F7} {G : MpT} (hd : okD ds = true) (huv : u + v ≤ 13) (hz : Mo 13 ds z.1) (hzw : wt ds z.1 = u) (hG : Hm v ds G) : ∀ r, r ∈ Zc6 ds z G → Mo 13 ds r.1 ∧ wt ds r.1 = u + v := by
 intro r hr
 obtain ⟨q, hq, hn, e⟩ := Ys0 r hr
 rw [e]
 exact Wb6 hd huv hz (hG.mo q hq) hzw (hG.w q hq) hn
theorem Xz8 {u v : Int} {S G : MpT} (hd : okD ds = true) (huv : u + v ≤ 13) (hS : Hm u ds S) (hG : Hm v ds G) : ∀ r, r ∈ Zc5 ds S G → Mo 13 ds r.1 ∧ wt ds r.1 = u + v := by
 intro r hr
 obtain ⟨z, hz, hr⟩ := List.mem_flatMap.1 hr
 exact Xb2 hd huv (hS.mo z hz) (hS.w z hz) hG r hr
theorem Xc0 {u : Int} {T s : MpT} (hT : ∀ r, r ∈ T → Mo 13 ds r.1 ∧ wt ds r.1 = u) (hs : Hm u ds s) : Hm u ds (R0 T s) := by
 refine ⟨B0 _ hs.nf, fun q hq => ?_, fun q hq => ?_⟩
 rcases Zv6 hq with ⟨t, ht, e⟩ | ⟨t, ht, e⟩
 rw [← e]; exact (hT t ht).1
 rw [← e]; exact hs.mo t ht
 rcases Zv6 hq with ⟨t, ht, e⟩ | ⟨t, ht, e⟩
 rw [← e]; exact (hT t ht).2
 rw [← e]; exact hs.w t ht
theorem Xj1 {u v : Int} {S G : MpT} (hd : okD ds = true) (huv : u + v ≤ 13) (hS : Hm u ds S) (hG : Hm v ds G) : Hm (u + v) ds (Yj7 ds S G) := Xc0 (Xz8 hd huv hS hG) (Hm.nil _ _)
theorem Xg9 {u v : Int} {f g : MpT} (hK : 1099511627776 ≤ K) (hd : okD ds = true) (huv : u + v ≤ 13) (hf : Hm u ds f) (hg : Hm v ds g) :
 ∀ (k i : Nat) (acc : MpT), f.length < i + k → i ≤ f.length → Hm (u + v) ds acc → N1 K ds f g k i acc = some (.go (R0 (Zc5 ds (f.drop i) g) acc)) := by
 intro k
 induction k with
 | zero => intro i acc h1 h2; omega
 | succ k ih =>
  intro i acc h1 h2 ha
  rw [N1]
  by_cases hi : i < f.length
  have hz := hf.mo _ (U7 hi)
  have hz2 := B3 hf.nf _ (U7 hi)
  have hgl := hg.len
  have hal := ha.len
  have hsl : (shf ds ((rd f (i : Int)).1, (rd f (i : Int)).2) g).length ≤ g.length := Xi4 _ g
  have ha2 := Xc0 (Xb2 (z := rd f (i : Int)) hd huv hz (hf.w _ (U7 hi)) hg) ha
  rw [if_pos (by omega), Xj9 (B := 13) (C := 13) (z := ((rd f (i : Int)).1, (rd f (i : Int)).2)) (by omega) hd hz hz2 (by decide) hg.mo (B3 hg.nf) (by omega) (by omega), Option.bind_some,
   Yy9 (by omega) (by omega) (by omega) (B3 ha.nf) Yw3 (by omega) (by omega), Option.bind_some, Yl5 ha.nf (Yk9 (N4 hg.nf)), Yk8]
  have := ih (i + 1) (R0 (Zc6 ds (rd f (i : Int)) g) acc) (by omega) (by omega) ha2
  refine Eq.trans this ?_
  rw [Zk9 hi]
  show _ = some (Ex.go (R0 (Zc6 ds (rd f (i : Int)) g ++ Zc5 ds (f.drop (i + 1)) g) acc))
  rw [Zu7]
  rw [if_neg (by omega), List.drop_eq_nil_of_le (by omega)]; rfl
theorem Xf0 {u v : Int} {f g : MpT} (hK : 1099511627776 ≤ K) (hd : okD ds = true) (huv : u + v ≤ 13) (hf : Hm u ds f) (hg : Hm v ds g) : G0 K ds f g = some (Yj7 ds f g) := by
 have hl := hf.len
 have := Xg9 (K := K) hK hd huv hf hg K 0 [] (by omega) (by omega) (Hm.nil _ _)
 unfold G0
 replace this : N1 K ds f g K 0 [] = some (.go (Yj7 ds f g)) := this
 rw [this]; rfl
theorem Yw9 {u v : Int} {f g : MpT} (hK : 1099511627776 ≤ K) (hd : okD ds = true) (hf : Hm u ds f) (hg : Hm v ds g) : N7 K f ds g = some (Yj7 ds f g) := by
 have hl := hf.len
 have hl2 := hg.len
 exact Yn8 (B := 13) (C := 13) (by omega) hd (by decide) (by decide) (by decide) hf.mo (B3 hf.nf) hg.mo (B3 hg.nf) (by omega) (by omega)
/-! powers -/
def pwL (ds : List Int) (g : MpT) : Nat → MpT
 | 0 => [((fun _ => 0), 1)]
 | n + 1 => Yj7 ds (pwL ds g n) g
theorem Xq5 {c : Int} (hc : 1 ≤ c ∧ c ≤ 10006) : Hm 0 ds [((fun _ => 0), c)] := by
 refine ⟨Zz0 (List.pairwise_singleton _ _) (fun q hq => ?_), fun t ht => ?_, fun t ht => ?_⟩
 cases List.mem_singleton.1 hq; exact hc
 cases List.mem_singleton.1 ht; exact ⟨fun _ => (show (0 : Int) ≤ 0 by decide), fun _ => (show (0 : Int) ≤ 13 by decide), fun n _ _ => by simp [Y5], fun _ _ => rfl⟩
 cases List.mem_singleton.1 ht; exact Xi0 ds _
theorem Yd8 {v : Int} {g : MpT} (hd : okD ds = true) (hv : 0 ≤ v) (hg : Hm v ds g) : ∀ n : Nat, (n : Int) * v ≤ 13 → Hm ((n : Int) * v) ds (pwL ds g n)
 | 0, _ => by rw [show ((0 : Nat) : Int) * v = 0 by simp]; exact Xq5 (by decide)
 | n + 1, h => by
  have e : ((n + 1 : Nat) : Int) * v = (n : Int) * v + v := by rw [Int.natCast_add, Int.add_mul]; simp
  rw [e] at h ⊢
  exact Xj1 hd h (Yd8 hd hv hg n (by omega)) hg
theorem Xh2 {v : Int} {g : MpT} (hK : 1099511627776 ≤ K) (hd : okD ds = true) (hv : 0 ≤ v) (hg : Hm v ds g) : ∀ (k x e : Nat), x < k → x ≤ 255 → ((e + x : Nat) : Int) * v ≤ 13 →
 F0 K ds g k x (pwL ds g e) = some (.go (pwL ds g (e + x))) := by
 intro k
 induction k with
 | zero => intro x e h; omega
 | succ k ih =>
  intro x e h1 h2 h3
  rw [F0]
  by_cases hx : 0 < x
  have h4 : ((e : Nat) : Int) * v ≤ ((e + x : Nat) : Int) * v := Int.mul_le_mul_of_nonneg_right (by omega) hv
  have h5 : ((e + 1 : Nat) : Int) * v ≤ ((e + x : Nat) : Int) * v := Int.mul_le_mul_of_nonneg_right (by omega) hv
  have e1 : ((e + 1 : Nat) : Int) * v = (e : Int) * v + v := by rw [Int.natCast_add, Int.add_mul]; simp
  rw [if_pos (by omega), Xf0 hK hd (by omega) (Yd8 hd hv hg e (by omega)) hg, Option.bind_some, Yy7 (by omega)]
  have := ih (x - 1) (e + 1) (by omega) (by omega) (by rw [show e + 1 + (x - 1) = e + x by omega]; exact h3)
  rw [show e + 1 + (x - 1) = e + x by omega] at this
  rw [show (x : Int) - 1 = ((x - 1 : Nat) : Int) by omega]
  exact this
  rw [if_neg (by omega), show x = 0 by omega]; rfl
theorem Xs4 {v : Int} {g : MpT} {e : Nat} (hK : 1099511627776 ≤ K) (hd : okD ds = true) (hv : 0 ≤ v) (hg : Hm v ds g) (he : e ≤ 255) (h : (e : Int) * v ≤ 13) : Zj7 K ds g e = some (pwL ds g e) := by
 have := Xh2 (K := K) hK hd hv hg K e 0 (by omega) he (by rw [Nat.zero_add]; exact h)
 rw [Nat.zero_add] at this
 unfold Zj7
 rw [Yf4, Option.bind_some]
 replace this : F0 K ds g K e [((fun _ => 0), 1)] = _ := this
 rw [this]; rfl
theorem Xq9 {v : Int} {fr : List Int} {ms : List MpT} {j : Nat} (hK : 1099511627776 ≤ K) (hd : okD ds = true) (hv : 0 ≤ v) (hj : j < ms.length) (hg : Hm v ds (rd ms (j : Int))) :
 ∀ n : Nat, (n : Int) * v ≤ 13 → pwN K (fr, ds, ms) j n = some (pwL ds (rd ms (j : Int)) n)
 | 0, _ => by
  rw [pwN]
  show some (D5 ([] : MpT) (fun _ => 0) 1) = _
  rfl
 | n + 1, h => by
  have e : ((n + 1 : Nat) : Int) * v = (n : Int) * v + v := by rw [Int.natCast_add, Int.add_mul]; simp
  rw [e] at h
  rw [pwN, if_pos ⟨by omega, by exact Int.ofNat_lt.2 hj⟩, Xq9 hK hd hv hj hg n (by omega), Option.bind_some]
  exact Yw9 hK hd (Yd8 hd hv hg n (by omega)) hg
/-! where a monomial is led -/
def prT (ds : List Int) (ms : List MpT) (m : A8) (c : Int) : Nat → MpT
 | 0 => [((fun _ => 0), c)]
 | j + 1 => if 0 < Y5 m (j : Int) then Yj7 ds (prT ds ms m c j) (pwL ds (rd ms (j : Int)) (Y5 m (j : Int)).toNat) else prT ds ms m c j
/-- forms for generators, each of its degree -/
structure Lds (sd ds : List Int) (ms : List MpT) : Prop where
 src : okD sd = true
 dst : okD ds = true
 len : ms.length = sd.length
 hm : ∀ j, j < ms.length → Hm (rd sd (j : Int)) ds (rd ms (j : Int))
variable {sd : List Int} {ms : List MpT}
theorem Wb8 {m : A8} (hd : okD sd = true) (lo : ∀ i, 0 ≤ m i) (hw : wt sd m ≤ 13) : ∀ n, n ≤ sd.length → wtN sd m n ≤ 13 := by
 have key : ∀ d n, n + d = sd.length → wtN sd m n ≤ wt sd m := by
  intro d
  induction d with
  | zero => intro n h; rw [show n = sd.length by omega]; exact Int.le_refl _
  | succ d ih =>
   intro n h
   have h1 := ih (n + 1) (by omega)
   have hn := D9 hd _ (U7 (show n < sd.length by omega))
   have hl := R7 hd
   have hi : 0 ≤ Y5 m (n : Int) := by rw [R1 m (show n < 8 by omega)]; exact lo _
   have := Int.mul_nonneg (show 0 ≤ rd sd (n : Int) by omega) hi
   rw [wtN] at h1; omega
 intro n hn
 exact Int.le_trans (key (sd.length - n) n (by omega)) hw
theorem Xe8 {m : A8} {j : Nat} (hL : Lds sd ds ms) (lo : ∀ i, 0 ≤ m i) (hw : wt sd m ≤ 13) (hj : j < sd.length) :
 0 ≤ rd sd (j : Int) ∧ 0 ≤ Y5 m (j : Int) ∧ Y5 m (j : Int) ≤ 13 ∧ (((Y5 m (j : Int)).toNat : Nat) : Int) * rd sd (j : Int) ≤ 13 ∧ wtN sd m j + (((Y5 m (j : Int)).toNat : Nat) : Int) * rd sd (j : Int) = wtN sd m (j + 1) ∧ wtN sd m (j + 1) ≤ 13 := by
 have hl := R7 hL.src
 have h1 := Wb8 hL.src lo hw (j + 1) (by omega)
 have hn := D9 hL.src _ (U7 hj)
 have hi : 0 ≤ Y5 m (j : Int) := by rw [R1 m (show j < 8 by omega)]; exact lo _
 have h2 := Yf9 hL.src lo j (by omega)
 have h3 := (Yf9 hL.src lo (j + 1) (by omega)).2 j (by omega)
 have e : wtN sd m j + (((Y5 m (j : Int)).toNat : Nat) : Int) * rd sd (j : Int) = wtN sd m (j + 1) := by
  rw [wtN, Int.toNat_of_nonneg hi, Int.mul_comm]
 exact ⟨by omega, hi, by omega, by omega, e, h1⟩
theorem Ya2 {m : A8} {c : Int} (hL : Lds sd ds ms) (lo : ∀ i, 0 ≤ m i) (hw : wt sd m ≤ 13) (hc : 1 ≤ c ∧ c ≤ 10006) : ∀ j, j ≤ sd.length → Hm (wtN sd m j) ds (prT ds ms m c j)
 | 0, _ => Xq5 hc
 | j + 1, h => by
  obtain ⟨h1, h2, h3, h4, h5, h6⟩ := Xe8 hL lo hw (show j < sd.length by omega)
  have ih := Ya2 hL lo hw hc j (by omega)
  rw [prT]
  split
  rw [← h5]
  exact Xj1 hL.dst (by omega) ih (Yd8 hL.dst h1 (hL.hm j (by rw [hL.len]; omega)) _ h4)
  rename_i h0
  have e : Y5 m (j : Int) = 0 := by omega
  rw [wtN, e, Int.mul_zero, Int.add_zero]; exact ih
theorem Yu1 (m : A8) {c : Int} (hc : 1 ≤ c ∧ c ≤ 10006) : ∀ j, prT ds ms m c j = R0 (scl c (prT ds ms m 1 j)) []
 | 0 => by
  show [((fun _ => 0), c)] = R0 [((fun _ => 0), c * 1)] []
  rw [Int.mul_one]
  exact (Xp2 (Zz0 (List.pairwise_singleton _ _) (fun q hq => by cases List.mem_singleton.1 hq; exact hc))).symm
 | j + 1 => by
  rw [prT, prT]
  split
  rw [Yu1 m hc j, Xs1]
  exact Yu1 m hc j
def Yy6 (ds : List Int) (ms : List MpT) (n : Nat) (f : MpT) : MpT := f.flatMap fun t => prT ds ms t.1 t.2 n
/-- a form that can be led -/
structure Led (sd : List Int) (f : MpT) : Prop where
 lo : ∀ t, t ∈ f → ∀ i, 0 ≤ t.1 i
 w : ∀ t, t ∈ f → wt sd t.1 ≤ 13
 c : ∀ t, t ∈ f → 1 ≤ t.2 ∧ t.2 ≤ 10006
theorem Xq4 {f : MpT} {x0 c : Int} (hK : 1099511627776 ≤ K) (hL : Lds sd ds ms) (lo : ∀ i, 0 ≤ (rd f x0).1 i) (hw : wt sd (rd f x0).1 ≤ 13) (hc : 1 ≤ c ∧ c ≤ 10006) :
 ∀ (k j : Nat), ms.length < j + k → j ≤ ms.length → K7 K ds ms f x0 k j (prT ds ms (rd f x0).1 c j) = some (.go (prT ds ms (rd f x0).1 c ms.length)) := by
 have hl := R7 hL.src
 have hml := hL.len
 intro k
 induction k with
 | zero => intro j h1 h2; omega
 | succ k ih =>
  intro j h1 h2
  rw [K7]
  by_cases hj : j < ms.length
  obtain ⟨w1, w2, w3, w4, w5, w6⟩ := Xe8 hL lo hw (show j < sd.length by omega)
  have ih' := ih (j + 1) (by omega) (by omega)
  rw [prT] at ih'
  rw [if_pos (by omega), if_pos (by omega)]
  by_cases h0 : 0 < Y5 (rd f x0).1 (j : Int)
  rw [if_pos h0] at ih' ⊢
  have hpw := Xs4 (K := K) (e := (Y5 (rd f x0).1 (j : Int)).toNat) hK hL.dst w1 (hL.hm j hj) (by omega) w4
  rw [Int.toNat_of_nonneg w2] at hpw
  rw [hpw, Option.bind_some, Xf0 hK hL.dst (by omega) (Ya2 hL lo hw hc j (by omega)) (Yd8 hL.dst w1 (hL.hm j hj) _ w4), Option.bind_some]
  exact ih'
  rw [if_neg h0] at ih' ⊢
  exact ih'
  rw [if_neg (by omega), show j = ms.length by omega]
theorem Xv0 {z : F7} (hK : 1099511627776 ≤ K) (hL : Lds sd ds ms) (lo : ∀ i, 0 ≤ z.1 i) (hw : wt sd z.1 ≤ 13) :
 ∀ (k j : Nat), sd.length < j + k → j ≤ sd.length → T2 K (sd, ds, ms) z k (prT ds ms z.1 1 j) j = some (.go (prT ds ms z.1 1 sd.length)) := by
 have hl := R7 hL.src
 have hml := hL.len
 intro k
 induction k with
 | zero => intro j h1 h2; omega
 | succ k ih =>
  intro j h1 h2
  rw [T2]
  dsimp only
  by_cases hj : j < sd.length
  obtain ⟨w1, w2, w3, w4, w5, w6⟩ := Xe8 hL lo hw hj
  have ih' := ih (j + 1) (by omega) (by omega)
  rw [prT] at ih'
  rw [if_pos (by omega), if_pos (by omega)]
  by_cases h0 : 0 < Y5 z.1 (j : Int)
  rw [if_pos h0] at ih' ⊢
  have hpw : Q8 K (sd, ds, ms) j (Y5 z.1 (j : Int)) = some (pwL ds (rd ms (j : Int)) (Y5 z.1 (j : Int)).toNat) := by
   unfold Q8
   rw [if_pos (by omega)]
   exact Xq9 hK hL.dst w1 (by omega) (hL.hm j (by omega)) _ w4
  rw [hpw, Option.bind_some, Yw9 hK hL.dst (Ya2 hL lo hw (by decide) j (by omega)) (Yd8 hL.dst w1 (hL.hm j (by omega)) _ w4), Option.bind_some]
  exact ih'
  rw [if_neg h0] at ih' ⊢
  exact ih'
  rw [if_neg (by omega), show j = sd.length by omega]
/-- a sum whose monomials are small -/
theorem Xd8 {T s : MpT} (hT : MoL 13 ds T) (hs : MoL 13 ds s) : MoL 13 ds (R0 T s) := by
 intro q hq
 rcases Zv6 hq with ⟨t, ht, e⟩ | ⟨t, ht, e⟩
 rw [← e]; exact hT t ht
 rw [← e]; exact hs t ht
theorem Xq3 {f : MpT} (hK : 1099511627776 ≤ K) (hL : Lds sd ds ms) (hf : Led sd f) (hfl : f.length ≤ 1000000) :
 ∀ (k j : Nat) (out : MpT), f.length < j + k → j ≤ f.length → nfm out = true → MoL 13 ds out →
  G7 K ds ms f k j out = some (.go (R0 (Yy6 ds ms ms.length (f.drop j)) out)) := by
 have hl := R7 hL.src
 have hml := hL.len
 intro k
 induction k with
 | zero => intro j out h1 h2; omega
 | succ k ih =>
  intro j out h1 h2 ho hom
  rw [G7]
  by_cases hj : j < f.length
  have hm := U7 hj
  have hc := hf.c _ hm
  have hs : L0 K (fun _ => 0) (rd f (j : Int)).2 = some (prT ds ms (rd f (j : Int)).1 (rd f (j : Int)).2 0) := by
   unfold L0
   rw [Zz5, Option.bind_some, if_neg (by omega), show (rd f (j : Int)).2 % 10007 = (rd f (j : Int)).2 by omega]; rfl
  have hin := Xq4 (K := K) (f := f) (x0 := j) hK hL (hf.lo _ hm) (hf.w _ hm) hc K 0 (by omega) (by omega)
  replace hin : K7 K ds ms f j K 0 (prT ds ms (rd f (j : Int)).1 (rd f (j : Int)).2 0) = _ := hin
  have hp := Ya2 hL (hf.lo _ hm) (hf.w _ hm) hc ms.length (by omega)
  have hpl := hp.len
  have hol := Xr5 ho hom
  rw [if_pos (by omega), hs, Option.bind_some, hin, Option.bind_some]
  show (Zd0 K out _ 1).bind _ = _
  rw [Yy9 (by omega) (by omega) (by omega) (B3 ho) (B3 hp.nf) (by omega) (by omega), Option.bind_some, Yl5 ho (N4 hp.nf)]
  have e1 : scl 1 (prT ds ms (rd f (j : Int)).1 (rd f (j : Int)).2 ms.length) = prT ds ms (rd f (j : Int)).1 (rd f (j : Int)).2 ms.length := by
   unfold scl
   conv => rhs; rw [← List.map_id (prT ds ms (rd f (j : Int)).1 (rd f (j : Int)).2 ms.length)]
   exact List.map_congr_left (fun t _ => by rw [Int.one_mul]; rfl)
  rw [e1]
  have := ih (j + 1) _ (by omega) (by omega) (B0 _ ho) (Xd8 hp.mo hom)
  refine Eq.trans this ?_
  rw [Zk9 hj]
  show _ = some (Ex.go (R0 (prT ds ms (rd f (j : Int)).1 (rd f (j : Int)).2 ms.length ++ Yy6 ds ms ms.length (f.drop (j + 1))) out))
  rw [Zu7]
  rw [if_neg (by omega), List.drop_eq_nil_of_le (by omega)]; rfl
/-- where forms lead a form -/
def Zq8 (ds : List Int) (ms : List MpT) (n : Nat) (f : MpT) : MpT := R0 (Yy6 ds ms n f) []
theorem Xu9 {f : MpT} (hK : 1099511627776 ≤ K) (hL : Lds sd ds ms) (hf : Led sd f) (hfl : f.length ≤ 1000000) : Zi8 K ds ms f = some (Zq8 ds ms sd.length f) := by
 have := Xq3 (K := K) hK hL hf hfl K 0 [] (by omega) (by omega) Zb6 (fun t ht => by cases ht)
 rw [hL.len] at this
 unfold Zi8
 replace this : G7 K ds ms f K 0 [] = some (.go (Zq8 ds ms sd.length f)) := this
 rw [this]; rfl
theorem Xf3 (hK : 1099511627776 ≤ K) (hL : Lds sd ds ms) :
 ∀ (k : Nat) (f out : MpT), f.length < k → Led sd f → nfm out = true → MoL 13 ds out → T5 K (sd, ds, ms) k f out = some (.go (R0 (Yy6 ds ms sd.length f) out))
 | 0, _, _, h, _, _, _ => by omega
 | k + 1, [], out, _, _, _, _ => by rw [T5]; rfl
 | k + 1, z :: f, out, h, hf, ho, hom => by
  have hl := R7 hL.src
  have hm : z ∈ z :: f := List.mem_cons_self ..
  have hc := hf.c _ hm
  have hin := Xv0 (K := K) hK hL (hf.lo _ hm) (hf.w _ hm) K 0 (by omega) (by omega)
  replace hin : T2 K (sd, ds, ms) z K (D5 ([] : MpT) (fun _ => 0) 1) 0 = _ := hin
  have hp1 := Ya2 hL (hf.lo _ hm) (hf.w _ hm) (show 1 ≤ (1 : Int) ∧ (1 : Int) ≤ 10006 by decide) sd.length (Nat.le_refl _)
  have hp := Ya2 hL (hf.lo _ hm) (hf.w _ hm) hc sd.length (Nat.le_refl _)
  have hpl := hp1.len
  have e1 : R0 (scl z.2 (prT ds ms z.1 1 sd.length)) out = R0 (prT ds ms z.1 z.2 sd.length) out := by rw [Yu1 z.1 hc, Xu5 _ ho]
  rw [List.length_cons] at h
  rw [T5]
  show ((T2 K (sd, ds, ms) z K (D5 ([] : MpT) (fun _ => 0) 1) 0).bind _) = _
  rw [hin, Option.bind_some]
  show (P1 K out (prT ds ms z.1 1 sd.length) z.2).bind _ = _
  rw [Xd9 (by omega) (by omega) (B3 hp1.nf) ho, Option.bind_some, e1,
   Xf3 hK hL k f _ (by omega) ⟨fun t ht => hf.lo t (List.mem_cons_of_mem _ ht), fun t ht => hf.w t (List.mem_cons_of_mem _ ht), fun t ht => hf.c t (List.mem_cons_of_mem _ ht)⟩ (B0 _ ho) (Xd8 hp.mo hom), ← Zu7]
  rfl
theorem Xz0 {f : MpT} (hK : 1099511627776 ≤ K) (hL : Lds sd ds ms) (hf : Led sd f) (hfl : f.length ≤ 1000000) : G5 K (sd, ds, ms) f = some (Zq8 ds ms sd.length f) := by
 have := Xf3 (K := K) hK hL K f [] (by omega) hf Zb6 (fun t ht => by cases ht)
 unfold G5
 replace this : T5 K (sd, ds, ms) K f [] = some (.go (Zq8 ds ms sd.length f)) := this
 rw [this]; rfl
theorem Xb9 {u : Int} {f : MpT} (h : Hm u sd f) (hu : u ≤ 13) : Led sd f := ⟨fun t ht => (h.mo t ht).lo, fun t ht => by rw [h.w t ht]; exact hu, fun t ht => Zr4 h.nf t ht⟩
theorem Xk2 {u : Int} {f : MpT} (hL : Lds sd ds ms) (hf : Hm u sd f) (hu : u ≤ 13) : Hm u ds (Zq8 ds ms sd.length f) := by
 refine Xc0 (fun r hr => ?_) (Hm.nil _ _)
 obtain ⟨t, ht, hr⟩ := List.mem_flatMap.1 hr
 have hl := Xb9 hf hu
 have hp := Ya2 hL (hl.lo t ht) (hl.w t ht) (hl.c t ht) sd.length (Nat.le_refl _)
 have e : wtN sd t.1 sd.length = u := hf.w t ht
 rw [e] at hp
 exact ⟨hp.mo r hr, hp.w r hr⟩
end
section
variable {K : Nat} {ds : List Int}
theorem Wb0 {u : Int} {f : MpT} (hK : 1099511627776 ≤ K) (hf : Hm u ds f) : Zc7 K f = some (if 400 < f.length then ([], 3) else (f, 0)) := by
 by_cases h : 400 < f.length
 unfold Zc7
 rw [if_pos (by omega), if_pos h]
 rw [if_neg h, Wg5 (by omega) (hf.vf (by omega))]
theorem Wi6 {u : Int} {f : MpT} (hK : 1099511627776 ≤ K) (hd : okD ds = true) (hf : Hm u ds f) : Zh1 K ds f = some (decide (f.length ≤ 400)) := by
 have hl := hf.len
 rw [Xx2 (by omega) (by omega) (by omega) hd (fun t ht => (hf.mo t ht).byt (by decide))]
 by_cases h : f.length ≤ 400
 rw [Wf7 (hf.vf h), decide_eq_true h]
 unfold okF
 rw [decide_eq_false h, Bool.and_false]
end
/-! lists without some places -/
def Yt1 (gs : List Int) (x : Int) : Bool := gs.any fun y => decide (y = x)
theorem Yi4 {ρ : Type} {gs : List Int} {x : Int} (L : Nat → Bool → Int → Option (Ex ρ Bool))
 (h : ∀ k b (n : Nat), L (k + 1) b n = if (n : Int) < gs.length then (if b = true then L k true ((n : Int) + 1) else L k (decide (rd gs (n : Int) = x)) ((n : Int) + 1)) else some (.go b)) :
 ∀ (k n : Nat) (b : Bool), gs.length < n + k → n ≤ gs.length → L k b n = some (.go (b || Yt1 (gs.drop n) x))
 | 0, n, b, h1, h2 => by omega
 | k + 1, n, b, h1, h2 => by
  rw [h]
  by_cases hn : n < gs.length
  rw [if_pos (by omega)]
  have e : Yt1 (gs.drop n) x = (decide (rd gs (n : Int) = x) || Yt1 (gs.drop (n + 1)) x) := by
   unfold Yt1
   rw [List.drop_eq_getElem_cons hn, List.any_cons, Zb3 hn]
  have e1 : (n : Int) + 1 = ((n + 1 : Nat) : Int) := rfl
  rw [e, e1]
  by_cases hb : b = true
  rw [if_pos hb, Yi4 L h k (n + 1) true (by omega) (by omega), hb]; rfl
  rw [if_neg hb, Yi4 L h k (n + 1) _ (by omega) (by omega)]
  cases b with
  | true => exact absurd rfl hb
  | false => rfl
  rw [if_neg (by omega), List.drop_eq_nil_of_le (by omega)]
  show _ = some (Ex.go (b || false))
  rw [Bool.or_false]
section
variable {K : Nat} {ds sd : List Int} {ms imgs : List MpT} {gs : List Int}
theorem Wg9 {x : Int} (hK : gs.length < K) : L1 K gs x K false 0 = some (.go (Yt1 gs x)) := by
 have := Yi4 (x := x) (L1 K gs x) (fun k b n => by rw [L1]) K 0 false (by omega) (by omega)
 exact this
/-- an algebra out of degrees and images, if all of these are forms -/
def Zw5 (ds : List Int) (fs : List MpT) : F4 × Int := if (fs.all fun f => decide (f.length ≤ 400)) = true then ((ds, fs), 0) else (([], []), 3)
theorem We6 {fs : List MpT} {c : MpT → Bool} : (List.range fs.length).all (fun j => c (rd fs (j : Int))) = fs.all c := by
 rw [Bool.eq_iff_iff, List.all_eq_true, List.all_eq_true]
 constructor
 intro h x hx
 obtain ⟨n, hn, rfl⟩ := List.getElem_of_mem hx
 have := h n (List.mem_range.2 hn)
 rwa [Zb3 hn] at this
 intro h j hj
 exact h _ (U7 (List.mem_range.1 hj))
theorem Wg8 {fs : List MpT} (hK : 1099511627776 ≤ K) (hd : okD ds = true) (hl : fs.length ≤ 8) (hf : ∀ f, f ∈ fs → ∃ u, Hm u ds f) : Zi6 K ds fs = some (if (fs.all fun f => decide (f.length ≤ 400)) = true then (fs, 0) else ([], 3)) := by
 unfold Zi6
 rw [B5 (g := ()) (fun k x => J6 K ds fs k x) fs.length (fun j => decide ((rd fs (j : Int)).length ≤ 400)) ([], 3) (fun k n hn => ?_) (fun k n hn => ?_) (by omega), We6 (c := fun f => decide (f.length ≤ 400))]
 by_cases h : (fs.all fun f => decide (f.length ≤ 400)) = true
 rw [if_pos h, if_pos h]; rfl
 rw [if_neg h, if_neg h]; rfl
 obtain ⟨u, hu⟩ := hf _ (U7 hn)
 show J6 K ds fs (k + 1) n = _
 rw [J6, if_pos (by omega), Wi6 hK hd hu]; rfl
 show J6 K ds fs (k + 1) n = _
 rw [J6, if_neg (by omega)]
end
theorem Xo9 (ds : List Int) {t : Nat} (ht : t < 8) (e : Int) : ∀ n : Nat, wtN ds (gn t e) n = if t < n then rd ds (t : Int) * e else 0
 | 0 => by rw [if_neg (by omega)]; rfl
 | n + 1 => by
  rw [wtN, Xo9 ds ht e n, Xo1 ht]
  by_cases h : n = t
  subst h
  rw [if_neg (by omega), if_pos rfl, if_pos (by omega)]; omega
  rw [if_neg h, Int.mul_zero, Int.add_zero]
  by_cases h2 : t < n
  rw [if_pos h2, if_pos (by omega)]
  rw [if_neg h2, if_neg (by omega)]
section
variable {K : Nat} {ds sd : List Int} {ms imgs : List MpT}
theorem Wg0 {t : Nat} {c : Int} (hd : okD ds = true) (ht : t < ds.length) (hc : 1 ≤ c ∧ c ≤ 10006) : Hm (rd ds (t : Int)) ds [(gn t 1, c)] := by
 have hl := R7 hd
 refine ⟨Zz0 (List.pairwise_singleton _ _) (fun q hq => by cases List.mem_singleton.1 hq; exact hc), fun q hq => ?_, fun q hq => ?_⟩
 cases List.mem_singleton.1 hq
 have := Wh4 (ds := ds) (e := 1) (show t < 8 by omega) ht (by decide) (by decide) (fun _ => by decide)
 exact ⟨this.lo, fun i => by show gn t 1 i ≤ 13; unfold gn; rw [B8 _ (show t < 8 by omega)]; split <;> omega, this.odd, this.out⟩
 cases List.mem_singleton.1 hq
 show wt ds (gn t 1) = _
 unfold wt
 rw [Xo9 ds (by omega), if_pos ht, Int.mul_one]
end
theorem Xo0 (K : Nat) (b : Bool) (c : Int) : Zn2 K b c = some (if b = true then c else 0) := by unfold Zn2; split <;> rfl
section
variable {K : Nat} {a : F4} {i c : Int}
theorem Wg6 (hi : Inp K a) : Ze7 K a [] = some (if okA a = true then 0 else 1) := by
 have hK := hi.big
 unfold Ze7
 rw [show (a.1, a.2) = a from rfl, Wd0 hi, Option.bind_some]
 by_cases hA : okA a = true
 case neg =>
  rw [if_neg hA, if_neg hA, Xo0, Option.bind_some]; rfl
 rw [if_pos hA, if_pos hA, Yw4 (q := fun _ => false) (by simp; omega) (fun x hx => by cases hx), Option.bind_some, Xo0, Option.bind_some]; rfl
theorem Wf8 (hi : Inp K a) (hB : okB a = true) : ∀ j, j < a.2.length → Hm (rd a.1 (j : Int) + 1) a.1 (rd a.2 (j : Int)) := by
 intro j hj
 have hd := Xj4 hB
 have hv := Ys6 hi hB
 have hpos := D9 hd _ (U7 (show j < a.1.length by have := hv.len; omega))
 unfold okB at hB
 rw [Bool.and_eq_true, Bool.and_eq_true] at hB
 have h := List.all_eq_true.1 hB.2.2 j (List.mem_range.2 hj)
 unfold okI okG at h
 rw [Bool.and_eq_true] at h
 exact Wi1 hd (hv.all _ (U7 hj)) (fun t ht => of_decide_eq_true (List.all_eq_true.1 h.2 t ht)) (by omega)
end
end Go.Proofs.YtfodlhkoafhplaaGreat
