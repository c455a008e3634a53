/- Plain laws on the pure functions. -/
import Derived.Test.YtfodlhkoafhplaaGreatWP2
import Derived.Test.YtfodlhkoafhplaaGreatWL
import Derived.Test.YtfodlhkoafhplaaGreatWF17
import Derived.Test.YtfodlhkoafhplaaGreatWF20
namespace Go.Proofs.YtfodlhkoafhplaaGreat
open Go
set_option linter.unusedSimpArgs false
set_option linter.unusedVariables false
section
variable {K : Nat}
/-! comparisons -/
theorem Xl0 (hK : 8 < K) (m : A8) : Zi2 K m m = some true := by
 unfold Zi2
 rw [Za8 (g := ()) (fun k i => N4 K m m k i) 8 (fun _ => true) false (fun k n hn => ?_) (fun k n hn => ?_) hK]
 rw [if_pos (by simp)]; rfl
 show N4 K m m (k + 1) n = _
 rw [N4, if_pos (by omega), if_pos rfl]; rfl
 show N4 K m m (k + 1) n = _
 rw [N4, if_neg (by omega)]
theorem Yo4 (hK : 8 < K) {f : MpT} (hl : f.length < K) : Zo8 K f f = some true := by
 unfold Zo8
 rw [if_pos rfl, Za8 (g := ()) (fun k i => K9 K f f k i) f.length (fun _ => true) false (fun k n hn => ?_) (fun k n hn => ?_) hl]
 rw [if_pos (by simp)]; rfl
 show K9 K f f (k + 1) n = _
 have h : Zq4 K ((rd f (n : Int)).1, (rd f (n : Int)).2) ((rd f (n : Int)).1, (rd f (n : Int)).2) = some true := by
  unfold Zq4
  rw [Xl0 hK]; simp
 rw [K9, if_pos (by omega), if_pos (by omega), h]; rfl
 show K9 K f f (k + 1) n = _
 rw [K9, if_neg (by omega)]
theorem Xf0 (hK : 8 < K) {fs : List MpT} (hl : fs.length < K) (hf : ∀ f, f ∈ fs → f.length < K) : Zo7 K fs fs = some true := by
 unfold Zo7
 rw [if_pos rfl, Za8 (g := ()) (fun k i => K8 K fs fs k i) fs.length (fun _ => true) false (fun k n hn => ?_) (fun k n hn => ?_) hl]
 rw [if_pos (by simp)]; rfl
 show K8 K fs fs (k + 1) n = _
 have h : Ze9 K (rd fs (n : Int)) (rd fs (n : Int)) = some true := by
  unfold Ze9
  rw [Yo4 hK (hf _ (U9 hn))]; rfl
 rw [K8, if_pos (by omega), if_pos (by omega), h]; rfl
 show K8 K fs fs (k + 1) n = _
 rw [K8, if_neg (by omega)]
theorem Xl8 {xs : List Int} (hl : xs.length < K) : Zn2 K xs xs = some true := by
 unfold Zn2
 rw [if_pos rfl, Za8 (g := ()) (fun k i => M6 K xs xs k i) xs.length (fun _ => true) false (fun k n hn => ?_) (fun k n hn => ?_) hl]
 rw [if_pos (by simp)]; rfl
 show M6 K xs xs (k + 1) n = _
 rw [M6, if_pos (by omega), if_pos (by omega), if_pos rfl]; rfl
 show M6 K xs xs (k + 1) n = _
 rw [M6, if_neg (by omega)]
theorem Yw2 (hK : 8 < K) {x : Zb3} (h1 : x.1.length < K) (h2 : x.2.length < K) (h3 : ∀ f, f ∈ x.2 → f.length < K) : Za1 K x x = some true := by
 unfold Za1
 rw [Xl8 h1, Option.bind_some, if_pos rfl, Xf0 hK h2 h3]; rfl
/-! copies -/
theorem Wi9 (hK : 8 < K) (m : A8) : Zi5 K m = some m := by
 have key : ∀ (k n : Nat) (box : A8), n ≤ 8 → 8 < n + k → (∀ j : Fin 8, j.val < n → box j = m j) → I5 K m k n box = some (.go m) := by
  intro k
  induction k with
  | zero => intro n box h1 h2; omega
  | succ k ih =>
   intro n box h1 h2 hb
   rw [I5]
   by_cases hn : n < 8
   rw [if_pos (by omega)]
   refine ih (n + 1) _ (by omega) (by omega) (fun j hj => ?_)
   rw [B0 _ hn, R2 m hn]
   by_cases e : j.val = n
   rw [if_pos e]; congr 1; exact Fin.ext e.symm
   rw [if_neg e]; exact hb j (by omega)
   rw [if_neg (by omega)]
   congr 2
   funext j; exact hb j (by omega)
 have := key K 0 (fun _ => 0) (by omega) (by omega) (fun j hj => by omega)
 unfold Zi5
 replace this : I5 K m K 0 (fun _ => 0) = _ := this
 rw [this]; rfl
theorem Ys4 {α : Type} [Inhabited α] {xs ys : List α} {j : Nat} (hj : j < xs.length) (hl : ys.length = xs.length) (h : ys.take j = xs.take j) : (ys.set j (rd xs (j : Int))).take (j + 1) = xs.take (j + 1) := by
 rw [Yg9 (xs := ys.set j _) (by rw [List.length_set]; omega), Yg9 hj]
 congr 1
 rw [List.take_set_of_le (Nat.le_refl j), h]
 rw [Zd5 (by rw [List.length_set]; omega)]
 simp
theorem Xm5 (hK : 8 < K) {f : MpT} (hl : f.length < K) (hl2 : f.length ≤ 1099511627776) : Zo4 K f = some f := by
 have key : ∀ (k j : Nat) (out : MpT), f.length < j + k → j ≤ f.length → out.length = f.length → out.take j = f.take j → B9 K f k j out = some (.go f) := by
  intro k
  induction k with
  | zero => intro j out h1 h2; omega
  | succ k ih =>
   intro j out h1 h2 h3 h4
   rw [B9]
   by_cases hj : j < f.length
   have ht : Zq3 K ((rd f (j : Int)).1, (rd f (j : Int)).2) = some (rd f (j : Int)) := by
    unfold Zq3
    rw [Wi9 hK]; rfl
   rw [if_pos (by omega), ht, Option.bind_some, if_pos (by omega), Int.toNat_natCast]
   exact ih (j + 1) _ (by omega) (by omega) (by rw [List.length_set]; exact h3) (Ys4 hj h3 h4)
   rw [if_neg (by omega)]
   rw [List.take_of_length_le (by omega), List.take_of_length_le (by omega)] at h4
   rw [h4]
 have := key K 0 (List.replicate f.length ((fun _ => 0), 0)) (by omega) (by omega) (by simp) (by simp)
 unfold Zo4
 rw [if_pos (by omega), Int.toNat_natCast]
 replace this : B9 K f K 0 (List.replicate f.length ((fun _ => 0), 0)) = _ := this
 rw [this]; rfl
theorem We4 (hK : 8 < K) {fs : List MpT} (hl : fs.length < K) (hl2 : fs.length ≤ 1099511627776) (hf : ∀ f, f ∈ fs → f.length < K ∧ f.length ≤ 1099511627776) : Zp3 K fs = some fs := by
 have key : ∀ (k j : Nat) (out : List MpT), fs.length < j + k → j ≤ fs.length → out.length = fs.length → out.take j = fs.take j → B3 K fs k j out = some (.go fs) := by
  intro k
  induction k with
  | zero => intro j out h1 h2; omega
  | succ k ih =>
   intro j out h1 h2 h3 h4
   rw [B3]
   by_cases hj : j < fs.length
   have hff := hf _ (U9 hj)
   have ht : D7 K (rd fs (j : Int)) = some (rd fs (j : Int)) := by
    unfold D7
    rw [Xm5 hK hff.1 hff.2]; rfl
   rw [if_pos (by omega), ht, Option.bind_some, if_pos (by omega), Int.toNat_natCast]
   exact ih (j + 1) _ (by omega) (by omega) (by rw [List.length_set]; exact h3) (Ys4 hj h3 h4)
   rw [if_neg (by omega)]
   rw [List.take_of_length_le (by omega), List.take_of_length_le (by omega)] at h4
   rw [h4]
 have := key K 0 (List.replicate fs.length []) (by omega) (by omega) (by simp) (by simp)
 unfold Zp3
 rw [if_pos (by omega), Int.toNat_natCast]
 replace this : B3 K fs K 0 (List.replicate fs.length []) = _ := this
 rw [this]; rfl
theorem Wg5 {xs : List Int} (hl : xs.length < K) (hl2 : xs.length ≤ 1099511627776) : Zm5 K xs = some xs := by
 have key : ∀ (k j : Nat) (out : List Int), xs.length < j + k → j ≤ xs.length → out.length = xs.length → out.take j = xs.take j → E1 K xs k j out = some (.go xs) := by
  intro k
  induction k with
  | zero => intro j out h1 h2; omega
  | succ k ih =>
   intro j out h1 h2 h3 h4
   rw [E1]
   by_cases hj : j < xs.length
   rw [if_pos (by omega), if_pos (by omega), Int.toNat_natCast]
   exact ih (j + 1) _ (by omega) (by omega) (by rw [List.length_set]; exact h3) (Ys4 hj h3 h4)
   rw [if_neg (by omega)]
   rw [List.take_of_length_le (by omega), List.take_of_length_le (by omega)] at h4
   rw [h4]
 have := key K 0 (List.replicate xs.length 0) (by omega) (by omega) (by simp) (by simp)
 unfold Zm5
 rw [if_pos (by omega), Int.toNat_natCast]
 replace this : E1 K xs K 0 (List.replicate xs.length 0) = _ := this
 rw [this]; rfl
theorem Wk7 {a : Zb3} (hi : Inp K a) : Za5 K a = some a := by
 have h1 := hi.big; have h2 := hi.dl; have h3 := hi.il
 unfold Za5
 rw [Wg5 (by omega) (by omega), Option.bind_some, We4 (by omega) (by omega) (by omega) (fun f hf => by have := hi.fl f hf; omega)]; rfl
/-! marks are there -/
theorem Xz6 (k0 : Int) (m : Nat) (hK : m < K) (h0 : 0 ≤ k0 ∧ k0 + m ≤ 1000000000000000) : Zi3 K (mkI k0 m) k0 = some (k0 + m) := by
 have key : ∀ (k j : Nat), m < j + k → j ≤ m → I3 K (mkI k0 m) k (k0 + j) j = some (.go (k0 + m)) := by
  intro k
  induction k with
  | zero => intro j h1 h2; omega
  | succ k ih =>
   intro j h1 h2
   rw [I3, Yp6]
   by_cases hj : j < m
   have e : rd (mkI k0 m) (j : Int) = k0 + j := Yw1 (by simp [mkI, hj])
   rw [if_pos (by omega), if_pos e, IntWalk.i64_in _ (by omega), Int.add_assoc]
   exact ih (j + 1) (by omega) (by omega)
   rw [if_neg (by omega), show j = m by omega]
 have := key K 0 (by omega) (by omega)
 unfold Zi3
 replace this : I3 K (mkI k0 m) K (k0 + 0) 0 = _ := this
 rw [Int.add_zero] at this
 rw [this]; rfl
theorem Xt2 (k0 : Int) (m : Nat) (hK : m < K) (hK8 : 8 < K) (h0 : 0 ≤ k0 ∧ k0 + 9 * m ≤ 1000000000000000) : Zk7 K (mkT k0 m) k0 = some (k0 + 9 * m) := by
 have e : ∀ j : Nat, j < m → rd (mkT k0 m) (j : Int) = ((fun t : Fin 8 => IntKind.u8.wrap (k0 + 9 * j + t.val)), k0 + 9 * j + 8) := fun j hj => Yw1 (by simp [mkT, hj])
 have inner : ∀ (j : Nat), j < m → ∀ (k t : Nat), 8 < t + k → t ≤ 8 → G4 K (mkT k0 m) j k (k0 + 9 * j + t) t = some (.go (k0 + 9 * j + 8)) := by
  intro j hj k
  induction k with
  | zero => intro t h1 h2; omega
  | succ k ih =>
   intro t h1 h2
   rw [G4, e j hj]
   by_cases ht : t < 8
   rw [if_pos (by omega), R2 _ ht, if_pos rfl, IntWalk.i64_in _ (by omega), Int.add_assoc]
   exact ih (t + 1) (by omega) (by omega)
   rw [if_neg (by omega), show t = 8 by omega]; rfl
 have key : ∀ (k j : Nat), m < j + k → j ≤ m → L8 K (mkT k0 m) k (k0 + 9 * j) j = some (.go (k0 + 9 * m)) := by
  intro k
  induction k with
  | zero => intro j h1 h2; omega
  | succ k ih =>
   intro j h1 h2
   rw [L8, Yq6]
   by_cases hj : j < m
   have hin := inner j hj K 0 (by omega) (by omega)
   replace hin : G4 K (mkT k0 m) j K (k0 + 9 * j + 0) 0 = _ := hin
   rw [Int.add_zero] at hin
   rw [if_pos (by omega), hin, Option.bind_some]
   show (if (rd (mkT k0 m) (j : Int)).2 = k0 + 9 * j + 8 then L8 K (mkT k0 m) k (IntKind.i64.wrap (k0 + 9 * j + 8 + 1)) ((j : Int) + 1) else some (.ret (-1))) = _
   rw [e j hj, if_pos rfl, IntWalk.i64_in _ (by omega)]
   have := ih (j + 1) (by omega) (by omega)
   rw [show k0 + 9 * ((j + 1 : Nat) : Int) = k0 + 9 * j + 8 + 1 by omega] at this
   exact this
   rw [if_neg (by omega), show j = m by omega]
 have := key K 0 (by omega) (by omega)
 unfold Zk7
 replace this : L8 K (mkT k0 m) K (k0 + 9 * 0) 0 = _ := this
 rw [Int.mul_zero, Int.add_zero] at this
 rw [this]; rfl
theorem Xv3 (xs : List MpT) (k0 : Int) (hK8 : 8 < K) (hl : xs.length < K) (hf : ∀ f, f ∈ xs → f.length < K) (h0 : 0 ≤ k0 ∧ k0 + F0 xs ≤ 1000000000000000) : Zj9 K (Zy7 k0 xs) k0 = some (k0 + F0 xs) := by
 have key : ∀ (k j : Nat), xs.length < j + k → j ≤ xs.length → G3 K (Zy7 k0 xs) k (k0 + F0 (xs.take j)) j = some (.go (k0 + F0 xs)) := by
  intro k
  induction k with
  | zero => intro j h1 h2; omega
  | succ k ih =>
   intro j h1 h2
   rw [G3, Yt2]
   by_cases hj : j < xs.length
   have hx : xs[j]? = some xs[j] := List.getElem?_eq_getElem hj
   have e := Yw1 (Yu8 xs k0 j _ hx)
   have h3 := Zt1 (xs.take j)
   have h4 := Yo8 xs (j + 1)
   have h5 := Yb3 xs j _ hx
   have h6 := hf _ (List.getElem_mem hj)
   rw [if_pos (by omega), e, Xt2 _ _ h6 hK8 (by omega), Option.bind_some, if_neg (by omega)]
   have := ih (j + 1) (by omega) (by omega)
   rw [h5, ← Int.add_assoc] at this
   exact this
   rw [if_neg (by omega), List.take_of_length_le (by omega)]
 have := key K 0 (by omega) (by omega)
 unfold Zj9
 replace this : G3 K (Zy7 k0 xs) K (k0 + 0) 0 = _ := this
 rw [Int.add_zero] at this
 rw [this]; rfl
theorem Wc8 {x : Zb3} (hK8 : 8 < K) (h1 : x.1.length < K) (h2 : x.2.length < K) (h3 : ∀ f, f ∈ x.2 → f.length < K) (hb : D6 x ≤ 1000000000000) : Zd7 K (mkA x 1) 1 = some (1 + D6 x) := by
 have hn := Zt1 x.2
 unfold D6 at hb ⊢
 unfold Zd7 mkA
 rw [Xz6 _ _ h1 (by omega), Option.bind_some, if_neg (by omega), Xv3 _ _ hK8 h2 h3 (by omega), Option.bind_some, if_neg (by omega), Int.add_assoc]
/-! sizes -/
theorem Xc4 {f : MpT} {l : Int} (hb : f.length ≤ 9223372036854775807) (hl : 0 ≤ l ∧ l ≤ 1048576) : Zl5 K f l = some (if l < f.length then -1 else l - f.length) := by
 unfold Zl5 Zt4
 rw [IntWalk.i64_in _ (by omega)]
 by_cases h : l < f.length
 rw [if_pos (by omega), if_pos h]; rfl
 rw [if_neg (by omega), if_neg h, Option.bind_some, if_neg (by omega)]
theorem Wf7 {fs : List MpT} (hb : ∀ f, f ∈ fs → f.length ≤ 9223372036854775807) : ∀ (k j : Nat) (l : Int), fs.length < j + k → j ≤ fs.length → 0 ≤ l ∧ l ≤ 1048576 →
 ∃ e r, B6 K fs k l j = some e ∧ Ex.elim (fun r => some r) (fun s => some s) e = some r ∧ (r < 0 ∨ (0 ≤ r ∧ F0 (fs.drop j) ≤ 9 * (l - r) ∧ ∀ f, f ∈ fs.drop j → (f.length : Int) ≤ l)) := by
 intro k
 induction k with
 | zero => intro j l h1 h2; omega
 | succ k ih =>
  intro j l h1 h2 hl
  rw [B6]
  by_cases hj : j < fs.length
  rw [if_pos (by omega), Xc4 (hb _ (U9 hj)) hl, Option.bind_some]
  by_cases h : l < (rd fs (j : Int)).length
  rw [if_pos h, if_pos (by decide)]; exact ⟨_, _, rfl, rfl, .inl (by decide)⟩
  rw [if_neg h, if_neg (by omega)]
  obtain ⟨e, r, h3, h4, h5⟩ := ih (j + 1) (l - (rd fs (j : Int)).length) (by omega) (by omega) (by omega)
  refine ⟨e, r, h3, h4, ?_⟩
  rcases h5 with h5 | ⟨h5, h6, h7⟩
  exact .inl h5
  rw [show fs.drop j = rd fs (j : Int) :: fs.drop (j + 1) by rw [Zd5 hj]; exact List.drop_eq_getElem_cons hj]
  refine .inr ⟨h5, by rw [F0]; omega, fun f hf => ?_⟩
  rcases List.mem_cons.1 hf with rfl | hf
  omega
  have := h7 f hf; omega
  rw [if_neg (by omega), List.drop_eq_nil_of_le (by omega)]
  exact ⟨_, _, rfl, rfl, .inr ⟨hl.1, by rw [F0]; omega, by simp⟩⟩
end
section
variable {K : Nat} {ds : List Int} {imgs : List MpT} {m : A8} {a : Zb3} {i : Int} {f : MpT}
theorem Wj1 {t : Nat} (ht : t < 8) (m : A8) (n : Nat) : Y5 (lfM m t) n = if n = t then Y5 m t - 1 else if n < t then Y5 m n else 0 := by
 by_cases hn : n < 8
 rw [R2 _ hn]; unfold lfM; rw [B0 _ ht]
 by_cases e : n = t
 rw [if_pos e, if_pos e]
 rw [if_neg e, if_neg e, ← R2 (loM m t) hn, Yw5]
 rw [if_neg (by omega), if_neg (by omega)]; simp [Y5, hn]
theorem Xn4 {t : Nat} (ht : t < 8) (m : A8) : ∀ n : Nat, wtN ds (lfM m t) n + wtN ds (hiM m t) n + (if t < n then rd ds (t : Int) else 0) = wtN ds m n
 | 0 => by simp [wtN]
 | n + 1 => by
  have ih := Xn4 ht m n
  rw [wtN, wtN, wtN, Wj1 ht, Xs1]
  by_cases e : n = t
  subst e
  rw [if_neg (by omega)] at ih
  rw [if_pos rfl, if_neg (by omega), if_pos (by omega), Int.mul_sub]
  omega
  by_cases h : n < t
  rw [if_neg (by omega)] at ih
  rw [if_neg e, if_pos h, if_neg (by omega), if_neg (by omega)]
  omega
  rw [if_pos (by omega)] at ih
  rw [if_neg e, if_neg h, if_pos (by omega), if_pos (by omega)]
  omega
theorem Xm4 {p : A8} (hp : Mo 13 ds p) : Hm (wt ds p) ds [(p, 1)] :=
 ⟨Ya0 (List.pairwise_singleton _ _) (fun q hq => by cases List.mem_singleton.1 hq; exact (show (1 : Int) ≤ 1 ∧ (1 : Int) ≤ 10006 by decide)), fun t ht => by cases List.mem_singleton.1 ht; exact hp, fun t ht => by cases List.mem_singleton.1 ht; rfl⟩
theorem Wl9 {t : Nat} {img : MpT} (hd : okD ds = true) (hm : Mo 13 ds m) (hw : wt ds m ≤ 12) (ht : t < ds.length) (h1 : 0 < Y5 m t) (hi : Hm (rd ds (t : Int) + 1) ds img) : Hm (wt ds m + 1) ds (dT ds img m t) := by
 have hl := Q4 hd
 have ht8 : t < 8 := by omega
 have hlf := Xd3 hm (by decide) ht8 h1
 have hhi := Xp8 hm (by decide) t
 have hp := Xn4 (ds := ds) ht8 m ds.length
 rw [if_pos ht] at hp
 have p1 := (Zy9 hd hlf.lo ds.length (Nat.le_refl _)).1
 have p2 := (Zy9 hd hhi.lo ds.length (Nat.le_refl _)).1
 unfold wt at hw ⊢
 have e : wtN ds m ds.length + 1 = (wtN ds (lfM m t) ds.length + (rd ds (t : Int) + 1)) + wtN ds (hiM m t) ds.length := by omega
 rw [e]
 exact Yq0 hd (by omega) (Yq0 hd (by omega) (Xm4 hlf) hi) (Xm4 hhi)
theorem Ys7 {z : D2} (hd : okD ds = true) (hlen : imgs.length = ds.length) (hI : ∀ j, j < imgs.length → Hm (rd ds (j : Int) + 1) ds (rd imgs (j : Int))) (hm : Mo 13 ds z.1) (hw : wt ds z.1 ≤ 12) : ∀ (n t : Nat) (out : MpT), t + n ≤ ds.length → Hm (wt ds z.1 + 1) ds out →
 Hm (wt ds z.1 + 1) ds (Zt6 ds imgs z n t out)
 | 0, _, _, _, h => h
 | n + 1, t, out, ht, h => by
  rw [Zt6]
  by_cases h0 : Y5 z.1 (t : Int) = 0
  rw [if_pos h0]; exact Ys7 hd hlen hI hm hw n (t + 1) out (by omega) h
  rw [if_neg h0]
  have hlo := (Yz6 hm.lo hm.hi (by decide) t).1
  have hdt := Wl9 hd hm hw (show t < ds.length by omega) (by omega) (hI t (by omega))
  refine Ys7 hd hlen hI hm hw n (t + 1) _ (by omega) (Yo0 (fun r hr => ?_) h)
  obtain ⟨q, hq, rfl⟩ := List.mem_map.1 hr
  exact ⟨hdt.mo q hq, hdt.w q hq⟩
theorem Xm9 {u : Int} (hd : okD ds = true) (hlen : imgs.length = ds.length) (hI : ∀ j, j < imgs.length → Hm (rd ds (j : Int) + 1) ds (rd imgs (j : Int))) (hu : u ≤ 12) : ∀ (f out : MpT), MoL 13 ds f → (∀ t, t ∈ f → wt ds t.1 = u) → Hm (u + 1) ds out → Hm (u + 1) ds (Zf9 ds imgs f out)
 | [], _, _, _, h => h
 | z :: f, out, hm, hw, h => by
  have h1 := hw z (List.mem_cons_self ..)
  rw [Zf9]
  refine Xm9 hd hlen hI hu f _ (fun t ht => hm t (List.mem_cons_of_mem _ ht)) (fun t ht => hw t (List.mem_cons_of_mem _ ht)) ?_
  have := Ys7 (z := z) hd hlen hI (hm z (List.mem_cons_self ..)) (by omega) ds.length 0 out (by omega) (by rw [h1]; exact h)
  rwa [h1] at this
/-! which forms may be added -/
def Zr1 (f : MpT) (i : Int) : Bool := f.any fun t => decide (0 < Y5 t.1 i)
theorem Wk4 {n : Nat} (hn : n < 8) (hK : f.length < K) : Zl3 K f n = some (Zr1 f n) := by
 have key : ∀ (k j : Nat), f.length < j + k → j ≤ f.length → Za4 K f n k j = some (if Zr1 (f.drop j) n = true then .ret true else .go ()) := by
  intro k
  induction k with
  | zero => intro j h1 h2; omega
  | succ k ih =>
   intro j h1 h2
   rw [Za4]
   by_cases hj : j < f.length
   have := ih (j + 1) (by omega) (by omega)
   rw [if_pos (by omega), if_pos (by omega), if_pos (by omega), Zj4 hj]
   unfold Zr1 at this ⊢
   rw [List.any_cons]
   by_cases h : 0 < Y5 (rd f (j : Int)).1 n
   rw [if_pos h, decide_eq_true h]; rfl
   rw [if_neg h, decide_eq_false h, Bool.false_or]; exact this
   rw [if_neg (by omega), List.drop_eq_nil_of_le (by omega)]; rfl
 have := key K 0 (by omega) (by omega)
 rw [List.drop_zero] at this
 unfold Zl3
 replace this : Za4 K f n K 0 = _ := this
 rw [this]
 cases h : Zr1 f n <;> rfl
theorem Wc5 {n : Nat} (hn : n < 8) (hK : f.length < K) : Q5 K f (fun x => P5 K x n) = some (Zr1 f n) := by
 have key : ∀ (k j : Nat), f.length < j + k → j ≤ f.length → ∃ r, T2 K f (fun x => P5 K x n) k j = some r ∧ (Zr1 (f.drop j) n = true → ∃ x : Nat, r = .ret (x : Int)) ∧ (Zr1 (f.drop j) n = false → r = .go ()) := by
  intro k
  induction k with
  | zero => intro j h1 h2; omega
  | succ k ih =>
   intro j h1 h2
   rw [T2]
   by_cases hj : j < f.length
   obtain ⟨r, i1, i2, i3⟩ := ih (j + 1) (by omega) (by omega)
   have ec : P5 K ((rd f (j : Int)).1, (rd f (j : Int)).2) n = some (decide (0 < Y5 (rd f (j : Int)).1 n)) := by
    unfold P5; rw [if_pos (by omega), if_pos (by omega)]
   rw [if_pos (by omega), ec, Option.bind_some, Zj4 hj]
   unfold Zr1 at i2 i3 ⊢
   rw [List.any_cons]
   by_cases h : 0 < Y5 (rd f (j : Int)).1 n
   rw [decide_eq_true h, if_pos rfl]
   exact ⟨_, rfl, fun _ => ⟨j, rfl⟩, fun h => by simp at h⟩
   rw [decide_eq_false h, if_neg (by decide), Bool.false_or]
   exact ⟨r, i1, i2, i3⟩
   rw [if_neg (by omega), List.drop_eq_nil_of_le (by omega)]
   exact ⟨_, rfl, fun h => by simp [Zr1] at h, fun _ => rfl⟩
 obtain ⟨r, h1, h2, h3⟩ := key K 0 (by omega) (by omega)
 rw [List.drop_zero] at h2 h3
 unfold Q5 L0
 replace h1 : T2 K f (fun x => P5 K x n) K 0 = _ := h1
 rw [h1]
 cases h : Zr1 f n with
 | true => obtain ⟨x, rfl⟩ := h2 h; simp [Ex.elim]
 | false => rw [h3 h]; rfl
end
theorem Wa3 {K : Nat} (hK : 3 ≤ K) (x y : Int) : Zs6 K [x, y] = some (if x = 0 then y else x) := by
 unfold Zs6
 obtain ⟨k, rfl⟩ : ∃ k, K = k + 3 := ⟨K - 3, by omega⟩
 have e0 : rd [x, y] 0 = x := rfl
 have e1 : rd [x, y] (0 + 1) = y := rfl
 rw [Zb9]
 simp only [List.length_cons, List.length_nil]
 rw [if_pos (by decide), e0]
 by_cases hx : x = 0
 rw [if_pos hx, if_pos hx, Zb9]
 simp only [List.length_cons, List.length_nil]
 rw [if_pos (by decide), e1]
 by_cases hy : y = 0
 rw [if_pos hy, Zb9]
 simp only [List.length_cons, List.length_nil]
 rw [if_neg (by decide), hy]; rfl
 rw [if_neg hy]; rfl
 rw [if_neg hx, if_neg hx]; rfl
def chM (a : Zb3) (n : Nat) (f : MpT) : List MpT := (nmG [] a.1.length).set n (S7 (scl 10006 f) [(gn n 1, 1)])
def chI (a : Zb3) (n : Nat) (f : MpT) : List MpT := a.2.set n (S7 (scl 1 (Zf9 a.1 a.2 f [])) (rd a.2 (n : Int)))
def Zp7 (a : Zb3) (i : Int) (f : MpT) : Zb3 × Int :=
 if okA a = true ∧ okF a.1 f = true then (if 0 ≤ i ∧ i ≤ (a.1.length : Int) - 1 then (if (Zr1 f i || !okG a.1 f (rd a.1 i)) = true then (([], []), 5) else Yj6 a.1 (Zi7 [] a.1 (chM a i.toNat f) (chI a i.toNat f) a.1.length a.1.length)) else (([], []), 2)) else (([], []), 1)
section
variable {K : Nat} {a : Zb3} {i : Int} {f : MpT}
theorem Wc4 (hi : Inp K a) (hf : Zr0 f) : Zg9 K a [f] = some (if okA a = true ∧ okF a.1 f = true then 0 else 1) := by
 have hK := hi.big
 unfold Zg9
 rw [show (a.1, a.2) = a from rfl, Wi2 hi, Option.bind_some]
 by_cases hA : okA a = true
 case neg =>
  rw [if_neg hA, if_neg (fun h => hA h.1), Xj3, Option.bind_some]; rfl
 have hB : okB a = true := by unfold okA at hA; rw [Bool.and_eq_true] at hA; exact hA.1
 rw [if_pos hA, Xc2 (q := fun x => !okF a.1 x) (by simp; omega) (fun x hx => by
  cases List.mem_singleton.1 hx
  unfold Zh2
  rw [Wa6 (by omega) (Zq6 hB) hf]; rfl), Option.bind_some, Xj3, Option.bind_some, List.any_cons, List.any_nil, Bool.or_false]
 cases okF a.1 f with
 | true => simp [hA]
 | false => simp [hA]
theorem Xd4 (hi : Inp K a) (hB : okB a = true) {n : Nat} (hn : n < a.1.length) (hf : VF a.1 f) (hG : okG a.1 f (rd a.1 (n : Int)) = true) :
 Hm (rd a.1 (n : Int)) a.1 f ∧ Hm (rd a.1 (n : Int) + 1) a.1 (Zf9 a.1 a.2 f []) := by
 have hd := Zq6 hB
 have hv := Yd3 hi hB
 have hpos := Zc2 hd _ (U9 hn)
 have h1 : Hm (rd a.1 (n : Int)) a.1 f := Wb1 hd hf (fun t ht => of_decide_eq_true (List.all_eq_true.1 hG t ht)) (by omega)
 exact ⟨h1, Xm9 hd hv.len (Xg4 hi hB) (by omega) f [] h1.mo h1.w (Hm.nil _ _)⟩
theorem Wb4 {u c : Int} {ds : List Int} {g h : MpT} (hg : Hm u ds g) (hh : Hm u ds h) : Hm u ds (S7 (scl c g) h) :=
 Yo0 (fun r hr => by
  obtain ⟨t, ht, rfl⟩ := List.mem_map.1 hr
  exact ⟨hg.mo t ht, hg.w t ht⟩) hh
theorem Xn7 (hi : Inp K a) (hB : okB a = true) {n : Nat} (hn : n < a.1.length) (hf : VF a.1 f) (hG : okG a.1 f (rd a.1 (n : Int)) = true) : ∀ j, j < a.2.length →
 Hm (rd a.1 (j : Int) + 1) a.1 (rd (chI a n f) (j : Int)) ∧ (rd (chI a n f) (j : Int)).length ≤ 2000000 := by
 intro j hj
 have hd := Zq6 hB
 have hv := Yd3 hi hB
 have hl := fun j (hj : j < a.2.length) => (hv.all _ (U9 hj)).len
 unfold chI
 rw [Xi6 hj]
 by_cases e : j = n
 subst e
 rw [if_pos rfl]
 have h1 := Xd4 hi hB hn hf hG
 have h2 := hl j hj
 have h3 := Zx7 (scl 1 (Zf9 a.1 a.2 f [])) (rd a.2 (j : Int))
 have h4 := (Yw6 hd hv f [] hf.mo Zc1).2
 have h5 := hf.len
 have h6 : (scl 1 (Zf9 a.1 a.2 f [])).length = (Zf9 a.1 a.2 f []).length := by unfold scl; rw [List.length_map]
 simp only [List.length_nil] at h4
 exact ⟨Wb4 h1.2 (Xg4 hi hB j hj), by omega⟩
 rw [if_neg e]
 have h2 := hl j hj
 exact ⟨Xg4 hi hB j hj, by omega⟩
theorem Xo1 (hi : Inp K a) (hB : okB a = true) {n : Nat} (hn : n < a.1.length) (hf : VF a.1 f) (hG : okG a.1 f (rd a.1 (n : Int)) = true) : Lds a.1 a.1 (chM a n f) :=
 Wf5 (Zq6 hB) hn (Wb4 (Xd4 hi hB hn hf hG).1 (Yx9 (Zq6 hB) hn (by decide)))
theorem Wg1 (hK : 1099511627776 ≤ K) (hi : Inp K a) (hf : Zr0 f) (hl : f.length ≤ 1048576) : Zc3 K a i f = some (Zp7 a i f) := by
 have hdl := hi.dl
 have hpl : Zm1 K a i = some (if okA a = true then (if 0 ≤ i ∧ i ≤ (a.1.length : Int) - 1 then 0 else 2) else 1) := by
  unfold Zm1
  rw [show (a.1, a.2) = a from rfl, Wi4 hi, Option.bind_some]
  by_cases hA : okA a = true
  have hB : okB a = true := by unfold okA at hA; rw [Bool.and_eq_true] at hA; exact hA.1
  have hl8 := Q4 (Zq6 hB)
  rw [if_pos hA, if_pos hA, IntWalk.i64_in _ (by omega), Xq1, Option.bind_some]
  by_cases hr : 0 ≤ i ∧ i ≤ (a.1.length : Int) - 1
  rw [decide_eq_true hr, if_pos rfl, if_pos hr]
  rw [decide_eq_false hr, if_neg (by decide), if_neg hr]
  rw [if_neg hA, if_neg hA]
 unfold Zc3 Zp7
 rw [show (a.1, a.2) = a from rfl, hpl, Option.bind_some]
 by_cases hA : okA a = true
 case neg =>
  rw [if_neg hA, if_neg (show ¬ (okA a = true ∧ okF a.1 f = true) from fun h => hA h.1), if_pos rfl]
  unfold Q7 P3
  rw [if_neg (by decide), if_neg (by decide)]
 have hB : okB a = true := by unfold okA at hA; rw [Bool.and_eq_true] at hA; exact hA.1
 have hd := Zq6 hB
 have hv := Yd3 hi hB
 have hl8 := Q4 hd
 have hvl := hv.len
 have hF := Xp0 (K := K) (ds := a.1) (f := f) (by omega) (by omega) (by omega) hd hf
 rw [if_pos hA]
 have hne : ¬ ((if 0 ≤ i ∧ i ≤ (a.1.length : Int) - 1 then (0 : Int) else 2) = 1) := by split <;> decide
 rw [if_neg hne, hF, Option.bind_some]
 by_cases hO : okF a.1 f = true
 case neg =>
  have hO' : okF a.1 f = false := by simpa using hO
  rw [if_neg (show ¬ (okA a = true ∧ okF a.1 f = true) from fun h => hO h.2), hO']
  unfold Q7 P3
  rw [if_pos (show (!false) = true from rfl), if_neg (by decide)]
 rw [if_pos (show okA a = true ∧ okF a.1 f = true from ⟨hA, hO⟩), hO]
 by_cases hr : 0 ≤ i ∧ i ≤ (a.1.length : Int) - 1
 case neg =>
  rw [if_neg hr, if_neg hr]
  unfold Q7 P3
  rw [if_neg (by decide), if_neg (by decide)]
 rw [if_pos hr, if_pos hr]
 obtain ⟨n, rfl⟩ := Int.eq_ofNat_of_zero_le hr.1
 have hn : n < a.1.length := by omega
 have hhas := Wk4 (K := K) (f := f) (show n < 8 by omega) (by omega)
 obtain ⟨r, hdr, hg⟩ := Xa3 (K := K) (f := f) (by omega) (by omega) hd hf
 have hg := hg (rd a.1 (n : Int))
 have key : Q7 K a n f 0 (!true) = P6 K a n f (Zr1 f n || !okG a.1 f (rd a.1 (n : Int))) := by
  unfold Q7 P3
  rw [if_neg (by decide), if_pos rfl, hdr, Option.bind_some]
  by_cases h2 : r.2 = true
  rw [if_pos h2]
  rw [h2, Bool.true_and] at hg
  by_cases h0 : 0 < (f.length : Int)
  rw [decide_eq_false (by omega), Bool.false_or] at hg
  rw [if_pos h0, if_pos (by omega), if_pos (by omega)]
  by_cases h3 : r.1 = rd a.1 (n : Int)
  rw [decide_eq_true h3] at hg
  rw [if_pos h3, hhas, Option.bind_some, ← hg, Bool.not_true, Bool.or_false]
  rw [decide_eq_false h3] at hg
  rw [if_neg h3, ← hg, Bool.not_false, Bool.or_true]
  rw [decide_eq_true (by omega), Bool.true_or] at hg
  rw [if_neg h0, hhas, Option.bind_some, ← hg, Bool.not_true, Bool.or_false]
  have h2' : r.2 = false := by simpa using h2
  rw [if_neg h2]
  rw [h2', Bool.false_and] at hg
  rw [← hg, Bool.not_false, Bool.or_true]
 rw [key]
 unfold P6
 by_cases hE : (Zr1 f n || !okG a.1 f (rd a.1 (n : Int))) = true
 rw [if_pos hE, if_pos hE]
 rw [if_neg hE, if_neg hE]
 have hG : okG a.1 f (rd a.1 (n : Int)) = true := by
  cases h : okG a.1 f (rd a.1 (n : Int)) with
  | true => rfl
  | false => rw [h] at hE; simp at hE
 have hvf := Xj2 hf hO
 have hfl := hvf.len
 have hv1 := hv.all _ (U9 (show n < a.2.length by omega))
 have hvl1 := hv1.len
 obtain ⟨hm1, hm2⟩ := Xd4 hi hB hn hvf hG
 have hdl2 := hm2.len
 rw [show (a.1, a.2) = a from rfl, Wk3 hK (by omega) (by omega) (fun g hg => by have := (hv.all g hg).len; omega), Option.bind_some, if_pos (by omega), if_pos (by omega), show a = (a.1, a.2) from rfl, Wj0 (by omega) hd hv hvf, Option.bind_some]
 dsimp only
 rw [Yq4 (by omega) (by omega) (by omega) hv1.small (E0 hm2.nf) (by omega) (by omega), Option.bind_some, Yc2 hv1.nf (P7 hm2.nf), if_pos (by omega), Xw3 hK (by simp) hl8, Option.bind_some, Zy5, if_pos (by omega),
  Xp6 hn, Yq4 (by omega) (by simp; omega) (by omega) (Wh2 (by decide)) hvf.small (by simp) (by omega), Option.bind_some, Yc2 (Yx9 hd hn (by decide)).nf (P7 hvf.nf), Int.toNat_natCast]
 have h6 := Xt0 (K := K) (sd := a.1) (ds := a.1) (ms := chM a n f) (imgs := chI a n f) (gs := []) hK (Xo1 hi hB hn hvf hG) (by simp) (by unfold chI; rw [List.length_set]; exact hvl)
  (fun j hj => Xn7 hi hB hn hvf hG j (by unfold chI at hj; rw [List.length_set] at hj; exact hj))
 replace h6 : Zg3 K (a.1, a.2.set n (S7 (scl 1 (Zf9 a.1 a.2 f [])) (rd a.2 (n : Int)))) a.1 ((nmG [] a.1.length).set n (S7 (scl 10006 f) [(gn n 1, 1)])) [] = _ := h6
 rw [h6]; rfl
theorem Xu1 (hK : 1099511627776 ≤ K) (hi : Inp K a) (hf : Zr0 f) (hl : f.length ≤ 1048576) : D9 K a i f = some (Zp7 a i f) := by
 have hdl := hi.dl
 unfold D9 Zc4 Zp7
 rw [show (a.1, a.2) = a from rfl, Wc4 hi hf, Option.bind_some, IntWalk.i64_in _ (by omega), Ym4, Option.bind_some, Option.bind_some, Xj3, Option.bind_some, Wa3 (by omega), Option.bind_some]
 by_cases hA : okA a = true ∧ okF a.1 f = true
 case neg => rw [if_neg hA, if_neg hA, if_neg (show ¬ (1 : Int) = 0 by decide), if_neg (show ¬ (1 : Int) = 0 by decide)]
 obtain ⟨hA, hO⟩ := hA
 have hB : okB a = true := by unfold okA at hA; rw [Bool.and_eq_true] at hA; exact hA.1
 have hd := Zq6 hB
 have hv := Yd3 hi hB
 have hl8 := Q4 hd
 have hvl := hv.len
 have hAO : okA a = true ∧ okF a.1 f = true := ⟨hA, hO⟩
 rw [if_pos hAO, if_pos hAO, if_pos (show (0 : Int) = 0 from rfl)]
 by_cases hr : 0 ≤ i ∧ i ≤ (a.1.length : Int) - 1
 case neg => rw [decide_eq_false hr, if_pos (show (!false) = true from rfl), if_neg (show ¬ (2 : Int) = 0 by decide), if_neg hr]
 rw [decide_eq_true hr, if_neg (show ¬ (!true) = true by decide), if_pos (show (0 : Int) = 0 from rfl), if_pos hr]
 obtain ⟨n, rfl⟩ := Int.eq_ofNat_of_zero_le hr.1
 have hn : n < a.1.length := by omega
 have hpos := Zc2 hd _ (U9 hn)
 rw [Wc5 (show n < 8 by omega) (by omega), Option.bind_some]
 have key : (if Zr1 f n = true then P4 K a n f true else (if 0 ≤ (n : Int) then (if (n : Int) < (a.1.length : Int) then ((Zb4 K a.1 f (rd a.1 (n : Int))).bind fun c6 => P4 K a n f (!c6)) else none) else none)) = P4 K a n f (Zr1 f n || !okG a.1 f (rd a.1 (n : Int))) := by
  by_cases h : Zr1 f n = true
  rw [if_pos h, h, Bool.true_or]
  have h' : Zr1 f n = false := by simpa using h
  rw [if_neg h, if_pos (by omega), if_pos (by omega), Xb8 (by omega) (by omega) hd hf (by omega), Option.bind_some, h', Bool.false_or]
 rw [key]
 unfold P4
 by_cases hE : (Zr1 f n || !okG a.1 f (rd a.1 (n : Int))) = true
 rw [if_pos hE, if_pos hE]
 rw [if_neg hE, if_neg hE]
 have hG : okG a.1 f (rd a.1 (n : Int)) = true := by
  cases h : okG a.1 f (rd a.1 (n : Int)) with
  | true => rfl
  | false => rw [h] at hE; simp at hE
 have hvf := Xj2 hf hO
 have hfl := hvf.len
 have hv1 := hv.all _ (U9 (show n < a.2.length by omega))
 have hvl1 := hv1.len
 obtain ⟨hm1, hm2⟩ := Xd4 hi hB hn hvf hG
 have hdl2 := hm2.len
 obtain ⟨M, hM, hMr⟩ := Xg9 (K := K) (a := a) (by omega) (by omega) (fun f hf => ⟨_, hv.all f hf⟩)
 have hset : ∀ j, j < a.1.length → Zk6 (Zw9 M (n : Int) (S7 (scl 1 (Zf9 a.1 a.2 f [])) (rd a.2 (n : Int)))) (j : Int) = rd (chI a n f) (j : Int) := by
  intro j hj
  unfold chI
  rw [Xi6 (by omega), Yj0 _ (show j < 8 by omega), Xj1 _ (show n < 8 by omega)]
  by_cases e : j = n
  rw [if_pos e, if_pos e]
  rw [if_neg (show ¬ (⟨j, _⟩ : Fin 8).val = n from e), if_neg e, ← hMr j (by omega), Yj0 _ (show j < 8 by omega)]
 have h6 := Xg2 (K := K) (ds := a.1) (X := a.2) (ms := chM a n f) (imgs := chI a n f) hK (Xo1 hi hB hn hvf hG) hset (fun j hj => Xn7 hi hB hn hvf hG j (by omega))
 replace h6 : I8 K (a.1, a.2) (Zw9 M (n : Int) (S7 (scl 1 (Zf9 a.1 a.2 f [])) (rd a.2 (n : Int)))) ((nmG [] a.1.length).set n (S7 (scl 10006 f) [(gn n 1, 1)])) = _ := h6
 have hso := Yy2 (K := K) (f := f) (by omega) (by omega) hvf.byt (P7 hvf.nf)
 rw [show (a.1, a.2) = a from rfl, hM, Option.bind_some, Xs4 hK hl8, Option.bind_some, if_pos (by omega), if_pos (by omega), hso, Option.bind_some, show a = (a.1, a.2) from rfl, Wg9 (by omega) hd hv hvf, Option.bind_some]
 dsimp only
 rw [hMr n (by omega), Yi9 (by omega) (by omega) (E0 hm2.nf) hv1.nf, Option.bind_some, Zy5, if_pos (by omega), Xp6 hn, Option.bind_some, Yi9 (by omega) (by omega) hvf.small (Yx9 hd hn (by decide)).nf, Option.bind_some, Int.toNat_natCast, h6]; rfl
end
theorem Xn8 : ∀ {fs : List MpT}, (∀ f, f ∈ fs → f.length ≤ 400) → F0 fs ≤ 3600 * fs.length
 | [], _ => by simp [F0]
 | f :: fs, h => by
  have h1 := h f (List.mem_cons_self ..)
  have h2 := Xn8 (fs := fs) (fun g hg => h g (List.mem_cons_of_mem _ hg))
  rw [F0, List.length_cons]; omega
theorem Xo6 {ds : List Int} {fs : List MpT} (hd : ds.length ≤ 8) (hf : fs.length ≤ 8) : (Yj6 ds fs).1.1.length ≤ 8 ∧ (Yj6 ds fs).1.2.length ≤ 8 ∧ ∀ f, f ∈ (Yj6 ds fs).1.2 → f.length ≤ 400 := by
 unfold Yj6
 split
 rename_i h
 exact ⟨hd, hf, fun f hf => by have := List.all_eq_true.1 h f hf; simpa using this⟩
 exact ⟨by simp, by simp, fun f hf => by cases hf⟩
theorem Xp2 {K : Nat} {a : Zb3} {i : Int} {f : MpT} (hi : Inp K a) : (Zp7 a i f).1.1.length ≤ 8 ∧ (Zp7 a i f).1.2.length ≤ 8 ∧ ∀ g, g ∈ (Zp7 a i f).1.2 → g.length ≤ 400 := by
 unfold Zp7
 split
 rename_i hA
 have hB : okB a = true := by have h := hA.1; unfold okA at h; rw [Bool.and_eq_true] at h; exact h.1
 have hl := Q4 (Zq6 hB)
 split
 split
 exact ⟨by simp, by simp, fun f hf => by cases hf⟩
 exact Xo6 hl (by unfold Zi7; rw [List.length_map]; exact Nat.le_trans (Yk7 _ _) hl)
 exact ⟨by simp, by simp, fun f hf => by cases hf⟩
 exact ⟨by simp, by simp, fun f hf => by cases hf⟩
theorem Wd4 {K : Nat} {a : Zb3} (hK : 1073741824 ≤ K) (h1 : a.1.length ≤ 9223372036854775807) (h2 : a.2.length ≤ 9223372036854775807) (h3 : ∀ f, f ∈ a.2 → f.length ≤ 9223372036854775807) :
 ∃ r, Zk1 K a 1048576 = some r ∧ (r < 0 ∨ (a.1.length ≤ 1048576 ∧ a.2.length ≤ 1048576 ∧ (∀ f, f ∈ a.2 → f.length ≤ 1048576) ∧ F0 a.2 ≤ 9437184 ∧ r ≤ 1048576)) := by
 unfold Zk1 Zr7 Zt8
 rw [IntWalk.i64_in (1048576 - (a.1.length : Int)) (by omega)]
 by_cases hd : a.1.length ≤ 1048576
 case neg => rw [if_pos (by omega)]; exact ⟨-1, rfl, .inl (by decide)⟩
 rw [if_neg (by omega), Option.bind_some, if_neg (by omega), IntWalk.i64_in _ (by omega)]
 by_cases hi : (a.1.length : Int) + a.2.length ≤ 1048576
 case neg => rw [if_pos (by omega)]; exact ⟨-1, rfl, .inl (by decide)⟩
 rw [if_neg (by omega)]
 obtain ⟨e, r, h4, h5, h6⟩ := Wf7 (K := K) h3 K 0 (1048576 - (a.1.length : Int) - (a.2.length : Int)) (by omega) (by omega) (by omega)
 replace h4 : B6 K a.2 K (1048576 - (a.1.length : Int) - (a.2.length : Int)) 0 = some e := h4
 rw [h4, Option.bind_some, h5, Option.bind_some]
 have hnn := Zt1 a.2
 rcases h6 with h6 | ⟨h6, h7, h8⟩
 rw [if_pos h6]; exact ⟨-1, rfl, .inl (by decide)⟩
 rw [if_neg (by omega)]
 rw [List.drop_zero] at h7 h8
 exact ⟨r, rfl, .inr ⟨hd, by omega, fun f hf => by have := h8 f hf; omega, by omega, by omega⟩⟩
theorem Xw6 {K : Nat} {a : Zb3} {i : Int} {f : MpT} (hK : 1099511627776 ≤ K) (h1 : a.1.length ≤ 9223372036854775807) (h2 : a.2.length ≤ 9223372036854775807) (h3 : ∀ f, f ∈ a.2 → f.length ≤ 9223372036854775807) (hb : ∀ f, f ∈ a.2 → Zr0 f)
 (h4 : f.length ≤ 9223372036854775807) (hbf : Zr0 f) :
 Za0 K a i f = some true := by
 obtain ⟨r, hr, hs⟩ := Wd4 (K := K) (by omega) h1 h2 h3
 unfold Za0
 rw [show (a.1, a.2) = a from rfl, hr, Option.bind_some]
 by_cases h0 : r < 0
 rw [if_pos h0]
 rw [if_neg h0]
 obtain ⟨s1, s2, s3, s4, hr8⟩ := hs.resolve_left h0
 rw [Xc4 h4 (by omega), Option.bind_some]
 by_cases hq : r < f.length
 rw [if_pos hq, if_pos (by decide)]
 rw [if_neg hq, if_neg (by omega)]
 have hfl : f.length ≤ 1048576 := by omega
 have hi : Inp K a := ⟨by omega, s1, s2, s3, hb⟩
 obtain ⟨d1, d2, d3⟩ := Xp2 (i := i) (f := f) hi
 have d4 := Xn8 d3
 have hcn := Zt1 a.2
 have hcr := Zt1 (Zp7 a i f).1.2
 have hca : D6 a ≤ 1000000000000 := by unfold D6; omega
 have hca0 : 0 ≤ D6 a := by unfold D6; omega
 have hcd0 : 0 ≤ D6 (Zp7 a i f).1 := by unfold D6; omega
 have hcd : D6 (Zp7 a i f).1 ≤ 1000000 := by unfold D6; omega
 have hto := Wk7 hi
 have htf : D7 K f = some f := by unfold D7; rw [Xm5 (by omega) (by omega) (by omega)]; rfl
 have hef : Ze9 K f f = some true := by unfold Ze9; rw [Yo4 (by omega) (by omega), Option.bind_some, if_pos rfl]
 have heq := Yw2 (K := K) (x := (Zp7 a i f).1) (by omega) (by omega) (by omega) (fun f hf => by have := d3 f hf; omega)
 have heqa := Yw2 (K := K) (x := a) (by omega) (by omega) (by omega) (fun f hf => by have := s3 f hf; omega)
 have hheld := Wc8 (K := K) (x := (Zp7 a i f).1) (by omega) (by omega) (by omega) (fun f hf => by have := d3 f hf; omega) (by omega)
 have eP : ((Zp7 a i f).1.1, (Zp7 a i f).1.2) = (Zp7 a i f).1 := rfl
 have eM : ((mkA (Zp7 a i f).1 1).1, (mkA (Zp7 a i f).1 1).2) = mkA (Zp7 a i f).1 1 := rfl
 have eA : (a.1, a.2) = a := rfl
 rw [hto, Option.bind_some, htf, Option.bind_some, eA, Wg1 hK hi hbf hfl, Option.bind_some, Option.bind_some, Option.bind_some, eA, Xu1 hK hi hbf hfl, Option.bind_some]
 dsimp only
 rw [eP, heq, Option.bind_some, if_pos rfl, decide_eq_true rfl]
 unfold L4
 rw [if_neg (by decide), eA, hto, Option.bind_some, eA, heqa, Option.bind_some, if_pos rfl, htf, Option.bind_some, hef, Option.bind_some, if_pos rfl, if_pos (by omega), if_pos (by omega), if_neg (by omega)]
 dsimp only
 rw [eP, heq, Option.bind_some, if_pos rfl, decide_eq_true rfl]
 unfold P8
 rw [if_neg (by decide), if_pos (by omega), eM, hheld, Option.bind_some, if_neg (by omega), if_pos rfl, eA, hto, Option.bind_some, htf, Option.bind_some, eA, Xu1 hK hi hbf hfl, Option.bind_some]
 dsimp only
 rw [eP, heq, Option.bind_some, if_pos rfl, decide_eq_true rfl]
 unfold L5
 rw [if_neg (by decide), eM, hheld, Option.bind_some, if_neg (by omega), if_pos rfl]
end Go.Proofs.YtfodlhkoafhplaaGreat
