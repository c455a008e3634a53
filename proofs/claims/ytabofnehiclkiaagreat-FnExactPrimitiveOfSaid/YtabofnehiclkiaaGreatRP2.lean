/- Walk, rules and plain laws. -/
import Derived.Test.YtabofnehiclkiaaGreatRP1
namespace Go.Proofs.YtabofnehiclkiaaGreat
open Go IntKind IntWalk List
open Option (bind_some)
set_option linter.all false
set_option maxRecDepth 100000
set_option maxHeartbeats 8000000
def inF (x : Int) : Prop := 0 ≤ x ∧ x ≤ 10006
theorem Ve6 {x : Int} (h : -10006 ≤ x ∧ x ≤ 10006) : fld x = x % 10007 := by
 have h1 : x.tmod 10007 = x := by
  rcases Int.le_total 0 x with h0 | h0
  rw [Int.tmod_eq_emod_of_nonneg h0]; omega
  have := Int.neg_tmod (-x) 10007
  rw [Int.neg_neg] at this
  rw [this, Int.tmod_eq_emod_of_nonneg (by omega)]; omega
 unfold fld
 rw [h1, i64_in _ (by omega), Int.tmod_eq_emod_of_nonneg (by omega)]
 omega
theorem Xh3 {x y f : Int} (hx : inF x) (hy : inF y) (hf : inF f) : tk1 x y f = (x - f * y) % 10007 := by
 obtain ⟨x0, x1⟩ := hx
 obtain ⟨y0, y1⟩ := hy
 obtain ⟨f0, f1⟩ := hf
 have hm0 : 0 ≤ f * y := Int.mul_nonneg f0 y0
 have hm1 : f * y ≤ 10006 * 10006 := Int.mul_le_mul f1 y1 y0 (by omega)
 unfold tk1
 rw [i64_in (f * y) (by omega), Int.tmod_eq_emod_of_nonneg hm0]
 generalize f * y = z at hm0 hm1
 rw [i64_in _ (by omega), Ve6 (by omega)]
 omega
theorem Vf8 {x y f : Int} (hx : inF x) (hy : inF y) (hf : inF f) : inF (tk1 x y f) := by
 rw [Xh3 hx hy hf]; unfold inF; omega
theorem Ys1 (row other : List Int) (q : Int) : ∀ (k : Nat), k ≤ row.length → ∀ i, (tkN row other q k).getD i 0 = if i < k then tk1 (row.getD i 0) (other.getD i 0) q else row.getD i 0
 | 0, _, i => by rw [tkN, if_neg (by omega)]
 | k + 1, hk, i => by
  have ih := Ys1 row other q k (by omega)
  rw [tkN, Zi1 _ _ _ _ _ (by rw [Yd3]; omega)]
  have hr : ∀ (xs : List Int) (j : Nat), rd xs (j : Int) = xs.getD j 0 := fun xs j => by unfold rd; rw [Int.toNat_natCast]; rfl
  by_cases e : i = k
  subst e
  rw [if_pos U, if_pos (by omega), hr, hr, ih, if_neg (by omega)]
  rw [if_neg e, ih]
  by_cases h : i < k
  rw [if_pos h, if_pos (by omega)]
  rw [if_neg h, if_neg (by omega)]
theorem Zl0 (xs : List Int) (j : Nat) : rd xs (j : Int) = xs.getD j 0 := by unfold rd; rw [Int.toNat_natCast]; rfl
theorem Xv8 (q : Int) (row : List Int) : ∀ (k : Nat), k ≤ row.length → ∀ i, (Zh4 q row k).getD i 0 = if i < k then (i64.wrap (row.getD i 0 * q)).tmod 10007 else row.getD i 0
 | 0, _, i => by rw [Zh4, if_neg (by omega)]
 | k + 1, hk, i => by
  have ih := Xv8 q row k (by omega)
  rw [Zh4, Zi1 _ _ _ _ _ (by rw [Ym8]; omega)]
  by_cases e : i = k
  subst e
  rw [if_pos U, if_pos (by omega), Zl0, ih, if_neg (by omega)]
  rw [if_neg e, ih]
  by_cases h : i < k
  rw [if_pos h, if_pos (by omega)]
  rw [if_neg h, if_neg (by omega)]
theorem Vj9 {x q : Int} (hx : inF x) (hq : inF q) : (i64.wrap (x * q)).tmod 10007 = (x * q) % 10007 := by
 obtain ⟨x0, x1⟩ := hx
 obtain ⟨q0, q1⟩ := hq
 have hm0 : 0 ≤ x * q := Int.mul_nonneg x0 q0
 have hm1 : x * q ≤ 10006 * 10006 := Int.mul_le_mul x1 q1 q0 (by omega)
 rw [i64_in _ (by omega), Int.tmod_eq_emod_of_nonneg hm0]
theorem Wb2 (d : Nat) (c : Int) (R : List (List Int)) (hd : d < R.length) : ∀ (k : Nat), k ≤ R.length → ∀ i,
 (elmN d c R k).getD i [] = if i < k ∧ i ≠ d ∧ rd (R.getD i []) c ≠ 0 then tkN (R.getD i []) (R.getD d []) (rd (R.getD i []) c) (R.getD d []).length else R.getD i []
 | 0, _, i => by rw [elmN, if_neg (by omega)]
 | k + 1, hk, i => by
  have ih := Wb2 d c R hd k (by omega)
  have hkk : (elmN d c R k).getD k [] = R.getD k [] := by rw [ih, if_neg (by omega)]
  have hdd : (elmN d c R k).getD d [] = R.getD d [] := Wn9 d c R k (by omega)
  rw [elmN]
  unfold Yt5
  rw [hkk, hdd]
  by_cases hc : k ≠ d ∧ rd (R.getD k []) c ≠ 0
  rw [if_pos hc, Zi1 _ _ _ _ _ (by rw [Zy9]; omega)]
  by_cases e : i = k
  subst e
  rw [if_pos U, if_pos ⟨by omega, hc.1, hc.2⟩]
  rw [if_neg e, ih]
  by_cases h : i < k ∧ i ≠ d ∧ rd (R.getD i []) c ≠ 0
  rw [if_pos h, if_pos ⟨by omega, h.2⟩]
  rw [if_neg h, if_neg (fun h' => h ⟨by omega, h'.2⟩)]
  rw [if_neg hc, ih]
  by_cases h : i < k ∧ i ≠ d ∧ rd (R.getD i []) c ≠ 0
  rw [if_pos h, if_pos ⟨by omega, h.2⟩]
  rw [if_neg h]
  by_cases h' : i < k + 1 ∧ i ≠ d ∧ rd (R.getD i []) c ≠ 0
  have e : i = k := by
   by_cases hik : i < k
   exact absurd ⟨hik, h'.2⟩ h
   omega
  subst e
  exact absurd h'.2 hc
  rw [if_neg h']
def Zr0 (a b : List Int) (c : Int) (j : Nat) : List Int := (range a.length).map fun i => if i < j then (a.getD i 0 - c * b.getD i 0) % 10007 else 0
def Zk7 (a b : List Int) (c : Int) : List Int := Zr0 a b c a.length
theorem Wo5 (a b : List Int) (c : Int) {j : Nat} (hj : j < a.length) : (Zr0 a b c j).set j ((a.getD j 0 - c * b.getD j 0) % 10007) = Zr0 a b c (j + 1) := by
 apply ext_getElem
 simp [Zr0]
 intro i h1 h2
 have hi : i < a.length := by simpa [Zr0] using h2
 rw [getElem_set]
 simp only [Zr0, getElem_map, getElem_range]
 by_cases e : j = i
 subst e; rw [if_pos rfl, if_pos (by omega)]
 rw [if_neg e]
 by_cases h : i < j
 rw [if_pos h, if_pos (by omega)]
 rw [if_neg h, if_neg (by omega)]
theorem Wi2 (K : Nat) {a b : List Int} {c : Int} (ha : ∀ i, inF (a.getD i 0)) (hb : ∀ i, inF (b.getD i 0)) (hc : inF c) (hl : a.length ≤ b.length) : ∀ (k j : Nat), j ≤ a.length → a.length < j + k →
 Zd0 K a b c k (j : Int) (Zr0 a b c j) = some (.go (Zk7 a b c))
 | 0, j, h1, h2 => by omega
 | k + 1, j, h1, h2 => by
  rw [Zd0]
  by_cases hj : j < a.length
  have hlp : (Zr0 a b c j).length = a.length := by simp [Zr0]
  obtain ⟨x0, x1⟩ := ha j
  obtain ⟨y0, y1⟩ := hb j
  have hm0 : 0 ≤ c * b.getD j 0 := Int.mul_nonneg hc.1 y0
  have hm1 : c * b.getD j 0 ≤ 10006 * 10006 := Int.mul_le_mul hc.2 y1 y0 (by omega)
  rw [if_pos (by omega), if_pos (by omega), Zl0, Zl0, i64_in (c * b.getD j 0) (by omega), i64_in _ (by omega), Yj0, bind_some, if_pos (by rw [hlp]; omega), Int.toNat_natCast, Wo5 a b c hj]
  have := Wi2 K ha hb hc hl k (j + 1) (by omega) (by omega)
  rw [Int.natCast_add] at this
  exact this
  have e : j = a.length := by omega
  subst e
  rw [if_neg (by omega)]; rfl
theorem Xa4 {K : Nat} {a b : List Int} {c : Int} (ha : ∀ i, inF (a.getD i 0)) (hb : ∀ i, inF (b.getD i 0)) (hc : inF c) (hl : a.length ≤ b.length) (hK : a.length < K) (h40 : a.length ≤ 1099511627776) : Zg2 K a b c = some (Zk7 a b c) := by
 unfold Zg2
 rw [if_pos (by omega)]
 have h0 : replicate ((a.length : Int)).toNat (0 : Int) = Zr0 a b c 0 := by
  rw [Int.toNat_natCast]
  apply ext_getElem
  simp [Zr0]
  intro i h1 h2; simp [Zr0]
 rw [h0]
 have := Wi2 K ha hb hc hl K 0 (by omega) (by omega)
 rw [show ((0 : Nat) : Int) = 0 from U] at this
 rw [this]; rfl
theorem Wb1 (K : Nat) (a : List Int) : ∀ (k j : Nat), j ≤ a.length → a.length < j + k → (∀ i, i < j → at_ a i = 0) →
 Zb3 K a k (j : Int) = some (if fs a < a.length then .ret (fs a : Int) else .go ())
 | 0, j, h1, h2, _ => by omega
 | k + 1, j, h1, h2, h0 => by
  rw [Zb3]
  by_cases hj : j < a.length
  rw [if_pos (by omega), Zl0]
  by_cases hz : a.getD j 0 = 0
  rw [if_pos hz]
  have := Wb1 K a k (j + 1) (by omega) (by omega) (fun i hi => by
   by_cases e : i = j
   subst e; exact hz
   exact h0 i (by omega))
  rw [Int.natCast_add] at this
  exact this
  rw [if_neg hz]
  have e : fs a = j := Yt6 a j h0 hz
  rw [e, if_pos hj]
  have e : j = a.length := by omega
  subst e
  rw [if_neg (by omega)]
  have : fs a = a.length := Xw2 a (fun k => by
   by_cases hk : k < a.length
   exact h0 k hk
   exact Zo4 a k (by omega))
  rw [this, if_neg (by omega)]
theorem Yl7 {K : Nat} {a : List Int} (hK : a.length < K) : D4 K a = some (if fs a < a.length then (fs a : Int) else -1) := by
 unfold D4
 have := Wb1 K a K 0 (by omega) (by omega) (fun i hi => by omega)
 rw [show ((0 : Nat) : Int) = 0 from U] at this
 rw [this]
 by_cases h : fs a < a.length
 rw [if_pos h, if_pos h]; rfl
 rw [if_neg h, if_neg h]; rfl
theorem Okv.inF {n : Nat} {v : Vc} (h : Okv n v) (k : Nat) : YtabofnehiclkiaaGreat.inF (v.getD k 0) := by
 have := h.at k
 unfold at_ at this
 unfold YtabofnehiclkiaaGreat.inF
 omega
theorem Zy4 {a b : List Int} {c : Int} (hl : a.length = b.length) (k : Nat) : at_ (Zk7 a b c) k = (at_ a k - c * at_ b k) % 10007 := by
 unfold Zk7 Zr0
 by_cases hk : k < a.length
 unfold at_
 rw [getD_eq_getElem?_getD, getElem?_map, getElem?_range hk]
 simp [hk]
 rw [Zo4 _ _ (by simp; omega), Zo4 a k (by omega), Zo4 b k (by omega)]
 simp
def byR : List (List Int) → List Int → List Int
 | [], r => r
 | s :: ss, r => byR ss (if at_ r (fs s) = 0 then r else Zk7 r s (at_ r (fs s)))
theorem Zj9 {n : Nat} {a b : List Int} {c : Int} (ha : Okv n a) : Okv n (Zk7 a b c) := by
 refine ⟨by unfold Zk7 Zr0; simp [ha.len], fun x hx => ?_⟩
 unfold Zk7 Zr0 at hx
 obtain ⟨i, hi, rfl⟩ := mem_map.1 hx
 split <;> omega
theorem Wz5 {K n : Nat} {rows : List (List Int)} (hr : ∀ s, s ∈ rows → Okv n s ∧ fs s < n) (hK : n < K) (h40 : n ≤ 1099511627776) : ∀ (k j : Nat) (r : List Int), j ≤ rows.length → rows.length < j + k → Okv n r →
 Zd3 K rows k (j : Int) r = some (.go (byR (rows.drop j) r))
 | 0, j, r, h1, h2, _ => by omega
 | k + 1, j, r, h1, h2, hro => by
  rw [Zd3]
  by_cases hj : j < rows.length
  have hrd : rd rows (j : Int) = rows[j] := by rw [Zs9 hj, P2 hj]
  obtain ⟨hs, hf⟩ := hr _ (getElem_mem hj)
  have hsl := hs.len
  have hrl := hro.len
  have hfe : D4 K rows[j] = some (fs rows[j] : Int) := by rw [Yl7 (by omega), if_pos (by omega)]
  rw [if_pos (by omega), hrd, hfe, bind_some, if_pos (by omega), if_pos (by omega), Zl0, show rows.drop j = rows[j] :: rows.drop (j + 1) from (getElem_cons_drop ..).symm, byR]
  have ih := fun r' (h : Okv n r') => Wz5 (rows := rows) hr hK h40 k (j + 1) r' (by omega) (by omega) h
  by_cases hz : at_ r (fs rows[j]) = 0
  rw [if_pos hz, if_pos (show r.getD (fs rows[j]) 0 = 0 from hz)]
  have := ih r hro
  rw [Int.natCast_add] at this
  exact this
  rw [if_neg hz, if_neg (show ¬ r.getD (fs rows[j]) 0 = 0 from hz), Xa4 (fun i => hro.inF i) (fun i => hs.inF i) (hro.inF _) (by omega) (by omega) (by omega), bind_some]
  have := ih _ (Zj9 (b := rows[j]) (c := r.getD (fs rows[j]) 0) hro)
  rw [Int.natCast_add] at this
  exact this
  have e : j = rows.length := by omega
  subst e
  rw [if_neg (by omega), drop_length, byR]
theorem Wj0 {K n : Nat} {rows : List (List Int)} {r : List Int} (hr : ∀ s, s ∈ rows → Okv n s ∧ fs s < n) (hro : Okv n r) (hK : n < K) (hK2 : rows.length < K) (h40 : n ≤ 1099511627776) : Zo3 K r rows = some (byR rows r) := by
 unfold Zo3
 have := Wz5 (K := K) hr hK h40 K 0 r (by omega) (by omega) hro
 rw [show ((0 : Nat) : Int) = 0 from U] at this
 rw [this, drop_zero]; rfl
theorem Zq7 {n : Nat} : ∀ (rows : List (List Int)) (r : List Int), Okv n r → Okv n (byR rows r)
 | [], r, h => h
 | s :: ss, r, h => by
  rw [byR]
  refine Zq7 ss _ ?_
  split
  exact h
  exact Zj9 h
theorem Xg6 {n p : Nat} : ∀ (rows : List (List Int)) (r : List Int), Okv n r → (∀ s, s ∈ rows → Okv n s ∧ at_ s p = 0) → at_ (byR rows r) p = at_ r p
 | [], r, h, _ => rfl
 | s :: ss, r, h, hs => by
  obtain ⟨hso, hsp⟩ := hs s (mem_cons_self ..)
  rw [byR]
  by_cases hz : at_ r (fs s) = 0
  rw [if_pos hz]
  exact Xg6 ss r h (fun t ht => hs t (mem_cons_of_mem _ ht))
  rw [if_neg hz, Xg6 ss _ (Zj9 h) (fun t ht => hs t (mem_cons_of_mem _ ht)), Zy4 (by rw [h.len, hso.len]), hsp, Int.mul_zero, Int.sub_zero]
  have := h.at p
  omega
theorem Yg8 {n : Nat} : ∀ (rows : List (List Int)) (r : List Int), Okv n r → Rr n rows → ∀ s, s ∈ rows → at_ (byR rows r) (fs s) = 0
 | [], r, h, _, s, hs => by cases hs
 | t :: ts, r, h, hR, s, hs => by
  have hto := hR.ok t (mem_cons_self ..)
  have htl := hR.ld t (mem_cons_self ..)
  have hsrt := pairwise_cons.1 hR.srt
  have hR' : Rr n ts := ⟨fun u hu => hR.ok u (mem_cons_of_mem _ hu), fun u hu => hR.ld u (mem_cons_of_mem _ hu), hsrt.2, fun u v hu hv => hR.off u v (mem_cons_of_mem _ hu) (mem_cons_of_mem _ hv)⟩
  rw [byR]
  have hok : Okv n (if at_ r (fs t) = 0 then r else Zk7 r t (at_ r (fs t))) := by
   split
   exact h
   exact Zj9 h
  rcases mem_cons.1 hs with rfl | hs
  rw [Xg6 ts _ hok (fun u hu => ⟨hR'.ok u hu, hR.off s u (mem_cons_self ..) (mem_cons_of_mem _ hu) (by have := hsrt.1 u hu; omega)⟩)]
  by_cases hz : at_ r (fs s) = 0
  rw [if_pos hz]; exact hz
  rw [if_neg hz, Zy4 (by rw [h.len, hto.len]), htl.2, Int.mul_one, Int.sub_self]; rfl
  exact Yg8 ts _ hok hR' s hs
theorem Xk7 {n : Nat} : ∀ (rows : List (List Int)) (r : List Int) (T : List (List Int)), Okv n r → (∀ s, s ∈ rows → Okv n s ∧ s ∈ T) → (Sp T (at_ (byR rows r)) ↔ Sp T (at_ r))
 | [], r, T, h, _ => Iff.rfl
 | s :: ss, r, T, h, hs => by
  obtain ⟨hso, hsT⟩ := hs s (mem_cons_self ..)
  have hss := fun t (ht : t ∈ ss) => hs t (mem_cons_of_mem _ ht)
  rw [byR]
  by_cases hz : at_ r (fs s) = 0
  rw [if_pos hz]; exact Xk7 ss r T h hss
  rw [if_neg hz, Xk7 ss _ T (Zj9 h) hss]
  have he : ∀ k, Eq7 (at_ (Zk7 r s (at_ r (fs s))) k) (at_ r k - at_ r (fs s) * at_ s k) := fun k => by rw [Zy4 (by rw [h.len, hso.len])]; exact Eq7.mod _
  constructor
  intro hsp
  refine Sp.congr (hsp.plus ((Sp.row hsT).times (at_ r (fs s)))) fun k => ?_
  have := (he k).add (Eq7.refl (at_ r (fs s) * at_ s k))
  refine Eq7.symm (this.trans (Eq7.of ?_))
  omega
  intro hsp
  exact Sp.congr (hsp.lin (at_ r (fs s)) (Sp.row hsT)) he
theorem Vc6 : (range 10007).all (fun c => decide (c = 0) || decide (c * ivN 14 1 c 10005 % 10007 = 1)) = true := by decide +kernel
theorem Xm2 {c : Int} (hc : 1 ≤ c ∧ c ≤ 10006) : (c * inv c) % 10007 = 1 := by
 obtain ⟨m, rfl⟩ := Int.eq_ofNat_of_zero_le (show 0 ≤ c by omega)
 have h := all_eq_true.1 Vc6 m (mem_range.2 (by omega))
 rw [Bool.or_eq_true] at h
 rcases h with h | h
 have := of_decide_eq_true h; omega
 have h := of_decide_eq_true h
 unfold inv
 rw [Int.toNat_natCast, ← Int.natCast_mul]
 omega
abbrev ge (R : List Vc) (i : Nat) : Vc := R.getD i []
theorem Sp.idx {R S : List Vc} {f : Nat → Int} (h : Sp R f) (hs : ∀ i, i < R.length → Sp S (at_ (ge R i))) : Sp S f := h.sub fun r hr => by
 obtain ⟨i, hi, rfl⟩ := getElem_of_mem hr
 have := hs i hi
 rwa [show ge R i = R[i] from P2 hi] at this
theorem Sp.gi {R : List Vc} {i : Nat} (hi : i < R.length) : Sp R (at_ (ge R i)) := Sp.row (by rw [show ge R i = R[i] from P2 hi]; exact getElem_mem hi)
structure RI (n c d : Nat) (R : List Vc) : Prop where
 le : d ≤ R.length
 ok : ∀ i, i < R.length → Okv n (ge R i)
 ld : ∀ i, i < d → fs (ge R i) < c ∧ at_ (ge R i) (fs (ge R i)) = 1
 srt : ∀ i j, i < j → j < d → fs (ge R i) < fs (ge R j)
 off : ∀ i j, i < d → j < R.length → i ≠ j → at_ (ge R j) (fs (ge R i)) = 0
 low : ∀ i, d ≤ i → i < R.length → ∀ k, k < c → at_ (ge R i) k = 0
variable {n c d : Nat} {R S : List Vc}
theorem RI.swp {m : Nat} (h : RI n c d R) (hd : d < R.length) (ha : d ≤ m) (hm : m < R.length) : RI n c d (YtabofnehiclkiaaGreat.swp R d m []) ∧ (∀ f, Sp (YtabofnehiclkiaaGreat.swp R d m []) f ↔ Sp R f) := by
 have hg := fun k => Yk4 R d m [] hd hm k
 have hl : (YtabofnehiclkiaaGreat.swp R d m []).length = R.length := Zw3 ..
 have hp := Xy3 R d m [] hd hm
 generalize YtabofnehiclkiaaGreat.swp R d m [] = S at *
 have hk : ∀ k, k < R.length → ∃ k', k' < R.length ∧ ge S k = ge R k' ∧ (k < d → k' = k) ∧ (d ≤ k → d ≤ k') := by
  intro k hk
  by_cases h1 : k = m
  exact ⟨d, hd, by show S.getD k [] = _; rw [hg, if_pos h1], by omega, by omega⟩
  by_cases h2 : k = d
  exact ⟨m, hm, by show S.getD k [] = _; rw [hg, if_neg h1, if_pos h2], by omega, by omega⟩
  exact ⟨k, hk, by show S.getD k [] = _; rw [hg, if_neg h1, if_neg h2], fun _ => rfl, id⟩
 have hlt : ∀ k, k < d → ge S k = ge R k := fun k hkd => by
  obtain ⟨k', _, e, e1, _⟩ := hk k (by omega)
  rw [e, e1 hkd]
 refine ⟨⟨by rw [hl]; exact h.le, fun i hi => ?_, fun i hi => ?_, fun i j hij hj => ?_, fun i j hi hj hij => ?_, fun i hi hi' k hkc => ?_⟩, fun f => ⟨fun hf => hf.sub fun r hr => Sp.row (hp.mem_iff.1 hr), fun hf => hf.sub fun r hr => Sp.row (hp.mem_iff.2 hr)⟩⟩
 obtain ⟨i', h1, e, _⟩ := hk i (by omega)
 rw [e]; exact h.ok i' h1
 rw [hlt i hi]; exact h.ld i hi
 rw [hlt i (by omega), hlt j hj]; exact h.srt i j hij hj
 obtain ⟨j', h1, e, e1, e2⟩ := hk j (by omega)
 rw [hlt i hi, e]
 refine h.off i j' hi h1 ?_
 by_cases hjd : j < d
 rw [e1 hjd]; exact hij
 have := e2 (by omega); omega
 obtain ⟨i', h1, e, _, e2⟩ := hk i (by omega)
 rw [e]; exact h.low i' (e2 hi) h1 k hkc
theorem RI.elim {R' : List Vc} {q : Int} (h : RI n c d S) (hd : d < S.length) (hq : (at_ (ge S d) c * q) % 10007 = 1) (hl : R'.length = S.length)
 (hok : ∀ i, i < R'.length → Okv n (ge R' i)) (hu : ∀ k, at_ (ge R' d) k = (at_ (ge S d) k * q) % 10007)
 (he : ∀ i, i < S.length → i ≠ d → ∀ k, at_ (ge R' i) k = (at_ (ge S i) k - at_ (ge S i) c * at_ (ge R' d) k) % 10007) : RI n (c + 1) (d + 1) R' ∧ (∀ f, Sp R' f ↔ Sp S f) := by
 have ulow : ∀ k, k < c → at_ (ge R' d) k = 0 := fun k hk => by rw [hu, h.low d (Nat.le_refl _) hd k hk, Int.zero_mul]; rfl
 have uc : at_ (ge R' d) c = 1 := by rw [hu, hq]
 have fu : fs (ge R' d) = c := Yt6 _ _ ulow (by rw [uc]; decide)
 have stay : ∀ i, i < S.length → i ≠ d → ∀ k, k < c → at_ (ge R' i) k = at_ (ge S i) k := fun i hi hid k hk => by
  rw [he i hi hid, ulow k hk, Int.mul_zero, Int.sub_zero]
  have := (h.ok i hi).at k
  omega
 have fsi : ∀ i, i < d → fs (ge R' i) = fs (ge S i) := fun i hi => by
  obtain ⟨l1, l2⟩ := h.ld i hi
  refine Yt6 _ _ (fun j hj => ?_) ?_
  rw [stay i (by omega) (by omega) j (by omega)]; exact Ze9 _ _ hj
  rw [stay i (by omega) (by omega) _ l1, l2]; decide
 have col : ∀ i, i < S.length → i ≠ d → at_ (ge R' i) c = 0 := fun i hi hid => by
  rw [he i hi hid, uc, Int.mul_one, Int.sub_self]; rfl
 refine ⟨⟨by omega, hok, fun i hi => ?_, fun i j hij hj => ?_, fun i j hi hj hij => ?_, fun i hi hi' k hk => ?_⟩, fun f => ⟨fun hf => ?_, fun hf => ?_⟩⟩
 by_cases e : i = d
 subst e; rw [fu, uc]; exact ⟨by omega, rfl⟩
 obtain ⟨l1, l2⟩ := h.ld i (by omega)
 rw [fsi i (by omega), stay i (by omega) e _ l1]
 exact ⟨by omega, l2⟩
 by_cases e : j = d
 subst e; rw [fu, fsi i hij]; exact (h.ld i hij).1
 rw [fsi i (by omega), fsi j (by omega)]; exact h.srt i j hij (by omega)
 by_cases e : i = d
 subst e; rw [fu]; exact col j (by omega) (fun e => hij e.symm)
 have hid : i < d := by omega
 obtain ⟨l1, l2⟩ := h.ld i hid
 rw [fsi i hid]
 by_cases ej : j = d
 subst ej; exact ulow _ l1
 rw [stay j (by omega) ej _ l1]; exact h.off i j hid (by omega) hij
 by_cases e : k = c
 subst e; exact col i (by omega) (by omega)
 rw [stay i (by omega) (by omega) k (by omega)]; exact h.low i (by omega) (by omega) k (by omega)
 refine hf.idx fun i hi => ?_
 have hud : Sp S (at_ (ge R' d)) := ((Sp.gi hd).times q).congr fun k => by
  rw [hu]; exact (Eq7.mod _).trans (Eq7.of (Int.mul_comm ..))
 by_cases e : i = d
 subst e; exact hud
 refine ((Sp.gi (show i < S.length by omega)).lin (at_ (ge S i) c) hud).congr fun k => ?_
 rw [he i (by omega) e]; exact Eq7.mod _
 refine hf.idx fun i hi => ?_
 have hud : Sp R' (at_ (ge R' d)) := Sp.gi (by omega)
 by_cases e : i = d
 subst e
 refine (hud.times (at_ (ge S i) c)).congr fun k => ?_
 have h1 : Eq7 (at_ (ge S i) c * at_ (ge R' i) k) (at_ (ge S i) c * (at_ (ge S i) k * q)) := (Eq7.refl _).mul (by rw [hu]; exact Eq7.mod _)
 have h2 : at_ (ge S i) c * (at_ (ge S i) k * q) = at_ (ge S i) c * q * at_ (ge S i) k := by
  rw [Int.mul_comm (at_ (ge S i) k) q, Int.mul_assoc]
 have h3 : Eq7 (at_ (ge S i) c * q * at_ (ge S i) k) (1 * at_ (ge S i) k) := Eq7.mul (by unfold Eq7; rw [hq]; rfl) (Eq7.refl _)
 rw [Int.one_mul] at h3
 exact ((h1.trans (Eq7.of h2)).trans h3).symm
 refine ((Sp.gi (R := R') (show i < R'.length by omega)).plus (hud.times (at_ (ge S i) c))).congr fun k => ?_
 have h1 : Eq7 (at_ (ge R' i) k) (at_ (ge S i) k - at_ (ge S i) c * at_ (ge R' d) k) := by rw [he i hi e]; exact Eq7.mod _
 have h2 := h1.add (Eq7.refl (at_ (ge S i) c * at_ (ge R' d) k))
 exact (h2.trans (Eq7.of (by omega))).symm
theorem Wf7 (c : Int) : ∀ (rs : List (List Int)) (k : Nat), fi c rs k < 0 → ∀ i, i < rs.length → rd (rs.getD i []) c = 0
 | [], k, h, i, hi => by simp at hi
 | r :: rs, k, h, i, hi => by
  unfold fi at h
  by_cases e : rd r c = 0
  rw [if_pos e] at h
  cases i with
  | zero => simpa using e
  | succ i => have := Wf7 c rs (k + 1) h i (by simpa using hi); simpa using this
  rw [if_neg e] at h; omega
theorem Yx4 {α : Type} (xs : List α) (d i : Nat) (z : α) : (xs.drop d).getD i z = xs.getD (d + i) z := by
 rw [getD_eq_getElem?_getD, getElem?_drop, ← getD_eq_getElem?_getD]
theorem RI.keep (h : RI n c d R) (hz : ∀ i, d ≤ i → i < R.length → at_ (ge R i) c = 0) : RI n (c + 1) d R :=
 ⟨h.le, h.ok, fun i hi => ⟨by have := (h.ld i hi).1; omega, (h.ld i hi).2⟩, h.srt, h.off, fun i hi hi' k hk => by
  by_cases e : k = c
  subst e; exact hz i hi hi'
  exact h.low i hi hi' k (by omega)⟩
theorem Yz1 {v : Vc} (hl : v.length = n) (h : ∀ k, k < n → 0 ≤ at_ v k ∧ at_ v k < 10007) : Okv n v := ⟨hl, fun x hx => by
 obtain ⟨i, hi, rfl⟩ := getElem_of_mem hx
 have := h i (by omega)
 unfold at_ at this
 rw [P2 hi] at this
 exact this⟩
theorem RI.step {K : Nat} (hK : 1099511627776 ≤ K) (h : RI n c d R) (hd : d < R.length) (hc : c < n) :
 ∃ R' d', Wk9 K R d (c : Int) = some (R', d') ∧ RI n (c + 1) d' R' ∧ (∀ f, Sp R' f ↔ Sp R f) ∧ R'.length = R.length := by
 unfold Wk9
 by_cases hf : fi (c : Int) (R.drop d) 0 < 0
 rw [if_pos hf]
 refine ⟨R, d, U, h.keep fun i hi hi' => ?_, fun f => Iff.rfl, U⟩
 have := Wf7 (c : Int) (R.drop d) 0 hf (i - d) (by rw [length_drop]; omega)
 rw [Yx4, show d + (i - d) = i by omega, Zl0] at this
 exact this
 rw [if_neg hf]
 rcases Wj3 (c : Int) (R.drop d) 0 with h1 | ⟨j, h1, h2, h3, _⟩
 rw [h1] at hf; exact absurd (by decide) hf
 rw [h1, Int.toNat_natCast, Nat.zero_add]
 rw [length_drop] at h2
 obtain ⟨hS, hsp⟩ := h.swp hd (Nat.le_add_right d j) (show d + j < R.length by omega)
 have hl : (YtabofnehiclkiaaGreat.swp R d (d + j) []).length = R.length := Zw3 ..
 have hx : at_ (ge (YtabofnehiclkiaaGreat.swp R d (d + j) []) d) c ≠ 0 := by
  have e : ge (YtabofnehiclkiaaGreat.swp R d (d + j) []) d = ge R (d + j) := by
   show (YtabofnehiclkiaaGreat.swp R d (d + j) []).getD d [] = _
   rw [Yk4 R d (d + j) [] hd (by omega)]
   by_cases hj : d = d + j
   rw [if_pos hj]; show R.getD d [] = R.getD (d + j) []; rw [← hj]
   rw [if_neg hj, if_pos U]
  rw [e]
  rw [Yx4, Zl0] at h3
  exact h3
 generalize YtabofnehiclkiaaGreat.swp R d (d + j) [] = S at *
 have hdS : d < S.length := by omega
 have hso := hS.ok d hdS
 have hcr := hso.at c
 have hlen : (S.getD d []).length = n := hso.len
 rw [Zl0, Wj4 hK (show 1 ≤ (S.getD d []).getD c 0 ∧ (S.getD d []).getD c 0 ≤ 10006 by
  have : (S.getD d []).getD c 0 = at_ (ge S d) c := rfl
  omega), bind_some]
 have hiv := Wf9 (c := at_ (ge S d) c) (by omega)
 have hq := Xm2 (c := at_ (ge S d) c) (by omega)
 show ∃ R' d', some (elmN d (c : Int) (S.set d (Zh4 (inv (at_ (ge S d) c)) (S.getD d []) (S.getD d []).length)) R.length, d + 1) = some (R', d') ∧ _
 generalize inv (at_ (ge S d) c) = q at *
 have hu0 : ∀ k, (Zh4 q (S.getD d []) (S.getD d []).length).getD k 0 = (at_ (ge S d) k * q) % 10007 := fun k => by
  rw [Xv8 _ _ _ (Nat.le_refl _)]
  by_cases hk : k < (S.getD d []).length
  rw [if_pos hk]; exact Vj9 (hso.inF k) (by unfold inF; omega)
  rw [if_neg hk]
  have : at_ (ge S d) k = 0 := Zo4 _ _ (Nat.le_of_not_lt hk)
  show at_ (ge S d) k = _
  rw [this, Int.zero_mul]; rfl
 have hul : (Zh4 q (S.getD d []) (S.getD d []).length).length = n := by rw [Ym8]; exact hso.len
 generalize Zh4 q (S.getD d []) (S.getD d []).length = u at *
 have huo : Okv n u := Yz1 hul fun k hk => by
  show 0 ≤ u.getD k 0 ∧ u.getD k 0 < 10007
  rw [hu0]; omega
 have hT : ∀ i, (S.set d u).getD i [] = if i = d then u else S.getD i [] := fun i => Zi1 _ _ _ _ _ hdS
 have hTl : (S.set d u).length = R.length := by rw [length_set]; omega
 have hg := fun i => Wb2 d (c : Int) (S.set d u) (by omega) R.length (by omega) i
 have hRl : (elmN d (c : Int) (S.set d u) R.length).length = R.length := by rw [Zy9]; omega
 generalize elmN d (c : Int) (S.set d u) R.length = R' at *
 have hd' : ge R' d = u := by
  show R'.getD d [] = u
  rw [hg, if_neg (by omega), hT, if_pos U]
 have hi' : ∀ i, i < S.length → i ≠ d → Okv n (ge R' i) ∧ ∀ k, at_ (ge R' i) k = (at_ (ge S i) k - at_ (ge S i) c * at_ u k) % 10007 := by
  intro i hi hid
  have hsi := hS.ok i hi
  have e1 : (S.set d u).getD i [] = ge S i := by rw [hT, if_neg hid]
  have e2 : (S.set d u).getD d [] = u := by rw [hT, if_pos U]
  have hgi := hg i
  rw [e1, e2, Zl0] at hgi
  by_cases hz : at_ (ge S i) c = 0
  rw [if_neg (fun hh => hh.2.2 hz)] at hgi
  have e : ge R' i = ge S i := hgi
  rw [e]
  refine ⟨hsi, fun k => ?_⟩
  rw [hz, Int.zero_mul, Int.sub_zero]
  have := hsi.at k
  omega
  rw [if_pos ⟨by omega, hid, hz⟩] at hgi
  have e : ge R' i = tkN (ge S i) u (at_ (ge S i) c) u.length := hgi
  have ha : ∀ k, at_ (ge R' i) k = (at_ (ge S i) k - at_ (ge S i) c * at_ u k) % 10007 := fun k => by
   rw [e]
   show (tkN _ _ _ _).getD k 0 = _
   rw [Ys1 _ _ _ _ (by rw [hul, hsi.len]; exact Nat.le_refl _)]
   by_cases hk : k < u.length
   rw [if_pos hk]; exact Xh3 (hsi.inF k) (huo.inF k) (hsi.inF c)
   rw [if_neg hk]
   have z1 : at_ (ge S i) k = 0 := Zo4 _ _ (by rw [hsi.len]; omega)
   have z2 : at_ u k = 0 := Zo4 _ _ (by omega)
   show at_ (ge S i) k = _
   rw [z1, z2, Int.mul_zero]; rfl
  refine ⟨Yz1 (by rw [e, Yd3]; exact hsi.len) fun k _ => ?_, ha⟩
  rw [ha]; omega
 obtain ⟨hE, hE2⟩ := hS.elim (R' := R') (q := q) hdS hq (by omega) (fun i hi => by
  by_cases e : i = d
  subst e; rw [hd']; exact huo
  exact (hi' i (by omega) e).1) (fun k => by rw [hd']; exact hu0 k) (fun i hi hid k => by rw [hd']; exact (hi' i hi hid).2 k)
 exact ⟨R', d + 1, U, hE, fun f => (hE2 f).trans (hsp f), by omega⟩
theorem RI.fin (h : RI n c d R) (he : c = n ∨ d = R.length) (hc : c ≤ n) : Rr n (R.take d) ∧ (∀ f, Sp (R.take d) f ↔ Sp R f) := by
 have hle := h.le
 have hm : ∀ r, r ∈ R.take d → ∃ i, i < d ∧ r = ge R i := fun r hr => by
  obtain ⟨i, hi, rfl⟩ := getElem_of_mem hr
  rw [length_take] at hi
  exact ⟨i, by omega, by rw [getElem_take]; exact (P2 (show i < R.length by omega)).symm⟩
 refine ⟨⟨fun r hr => ?_, fun r hr => ?_, ?_, fun r s hr hs hne => ?_⟩, fun f => ⟨fun hf => hf.sub fun r hr => Sp.row (mem_of_mem_take hr), fun hf => hf.idx fun i hi => ?_⟩⟩
 obtain ⟨i, hi, rfl⟩ := hm r hr
 exact h.ok i (by omega)
 obtain ⟨i, hi, rfl⟩ := hm r hr
 have := h.ld i hi
 exact ⟨by omega, this.2⟩
 rw [pairwise_iff_getElem]
 intro i j hi hj hij
 rw [length_take] at hi hj
 rw [getElem_take, getElem_take]
 have := h.srt i j hij (by omega)
 rw [show ge R i = R[i]'(by omega) from P2 (by omega), show ge R j = R[j]'(by omega) from P2 (by omega)] at this
 exact this
 obtain ⟨i, hi, rfl⟩ := hm r hr
 obtain ⟨j, hj, rfl⟩ := hm s hs
 exact h.off i j hi (by omega) (fun e => hne (by rw [e]))
 by_cases hid : i < d
 refine Sp.row ?_
 rw [show ge R i = R[i] from P2 hi]
 exact mem_take_iff_getElem.2 ⟨i, by omega, U⟩
 refine Sp.zero fun k => Eq7.of ?_
 have hc' : c = n := by omega
 by_cases hk : k < n
 exact h.low i (by omega) hi k (by omega)
 exact Zo4 _ _ (by rw [(h.ok i hi).len]; omega)
theorem Wh4 {K : Nat} (hK : 1099511627776 ≤ K) : ∀ (j : Nat) (R : List Vc) (d : Nat), j ≤ n → RI n (n - j) d R → ∃ T, Yq5 K n j R d = some T ∧ Rr n T ∧ ∀ f, Sp T f ↔ Sp R f
 | 0, R, d, _, h => ⟨R.take d, U, h.fin (.inl (Nat.sub_zero _)) (Nat.sub_le ..)⟩
 | j + 1, R, d, hj, h => by
  rw [Yq5]
  by_cases hd : d < R.length
  rw [if_pos hd]
  obtain ⟨R', d', e, h', hs, hl⟩ := h.step hK hd (by omega)
  rw [e, bind_some]
  rw [show n - (j + 1) + 1 = n - j by omega] at h'
  obtain ⟨T, e2, hr, hs2⟩ := Wh4 hK j R' d' (by omega) h'
  exact ⟨T, e2, hr, fun f => (hs2 f).trans (hs f)⟩
  rw [if_neg hd]
  have := h.le
  obtain ⟨a, b⟩ := h.fin (.inr (by omega)) (by omega)
  exact ⟨_, U, a, b⟩
theorem Wc0 {K : Nat} (hK : 1099511627776 ≤ K) (h : ∀ r, r ∈ R → Okv n r) (hn : n ≤ 1099511627776) (hl : R.length ≤ 1099511627776) : ∃ T, B9 K R = some T ∧ Rr n T ∧ ∀ f, Sp T f ↔ Sp R f := by
 cases R with
 | nil => exact ⟨[], rfl, ⟨fun r hr => (by cases hr), fun r hr => (by cases hr), .nil, fun r s hr => (by cases hr)⟩, fun f => Iff.rfl⟩
 | cons r0 R0 =>
  have h0 : ((r0 :: R0).getD 0 []).length = n := (h r0 (mem_cons_self ..)).len
  unfold B9
  have hok : okR (r0 :: R0) = true := by
   unfold okR
   refine decide_eq_true ⟨hl, by rw [h0]; exact hn, fun r hr => by rw [h0, (h r hr).len]⟩
  rw [if_pos hok, h0]
  refine Wh4 hK n _ 0 (Nat.le_refl _) ⟨Nat.zero_le _, fun i hi => ?_, fun i hi => by omega, fun i j _ hj => by omega, fun i j hi => by omega, fun i _ hi k hk => by omega⟩
  rw [show ge (r0 :: R0) i = (r0 :: R0)[i] from P2 hi]
  exact h _ (getElem_mem hi)
variable {n : Nat} {R : List Vc}
def Yf9 (u s : Vc) : Vc := Zk7 s u (at_ s (fs u))
def Yd7 (u : Vc) : List Vc → List Vc
 | [] => [u]
 | s :: ss => if fs u < fs s then u :: (s :: ss).map (Yf9 u) else Yf9 u s :: Yd7 u ss
theorem Zr8 (u : Vc) : ∀ (R : List Vc) (x : Vc), x ∈ Yd7 u R ↔ x = u ∨ ∃ s, s ∈ R ∧ x = Yf9 u s
 | [], x => by unfold Yd7; simp
 | s :: ss, x => by
  unfold Yd7
  split
  rw [mem_cons, mem_map]
  exact ⟨fun h => h.imp_right fun ⟨a, h1, h2⟩ => ⟨a, h1, h2.symm⟩, fun h => h.imp_right fun ⟨a, h1, h2⟩ => ⟨a, h1, h2.symm⟩⟩
  rw [mem_cons, Zr8 u ss x]
  constructor
  rintro (h | h | ⟨a, h1, h2⟩)
  exact .inr ⟨s, mem_cons_self .., h⟩
  exact .inl h
  exact .inr ⟨a, mem_cons_of_mem _ h1, h2⟩
  rintro (h | ⟨a, h1, h2⟩)
  exact .inr (.inl h)
  rcases mem_cons.1 h1 with rfl | h1
  exact .inl h2
  exact .inr (.inr ⟨a, h1, h2⟩)
structure Nw (n : Nat) (R : List Vc) (u : Vc) : Prop where
 ok : Okv n u
 ld : fs u < n ∧ at_ u (fs u) = 1
 z : ∀ s, s ∈ R → at_ u (fs s) = 0
theorem Nw.ne {u : Vc} (h : Nw n R u) {s : Vc} (hs : s ∈ R) : fs s ≠ fs u := fun e => by
 have h1 := h.z s hs
 have h2 := h.ld.2
 rw [e, h2] at h1; exact absurd h1 (by decide)
theorem Yr6 {u s : Vc} (hu : Okv n u) (hs : Okv n s) (k : Nat) : at_ (Yf9 u s) k = (at_ s k - at_ s (fs u) * at_ u k) % 10007 := Zy4 (by rw [hu.len, hs.len]) k
theorem Nw.sub_le {u s : Vc} (h : Nw n R u) (hR : Rr n R) (hs : s ∈ R) {k : Nat} (hk : k ≤ fs s) : at_ (Yf9 u s) k = at_ s k := by
 have hso := hR.ok s hs
 rw [Yr6 h.ok hso]
 have hr := hso.at k
 have hz : at_ s (fs u) * at_ u k = 0 := by
  by_cases hlt : fs u < fs s
  rw [Ze9 s _ hlt, Int.zero_mul]
  have := h.ne hs
  rw [Ze9 u k (by omega), Int.mul_zero]
 rw [hz, Int.sub_zero]; omega
theorem Nw.sub_fs {u s : Vc} (h : Nw n R u) (hR : Rr n R) (hs : s ∈ R) : fs (Yf9 u s) = fs s := by
 refine Yt6 _ _ (fun j hj => ?_) ?_
 rw [h.sub_le hR hs (by omega)]; exact Ze9 _ _ hj
 rw [h.sub_le hR hs (Nat.le_refl _), (hR.ld s hs).2]; decide
theorem Nw.sub_p {u s : Vc} (h : Nw n R u) (hR : Rr n R) (hs : s ∈ R) : at_ (Yf9 u s) (fs u) = 0 := by
 rw [Yr6 h.ok (hR.ok s hs), h.ld.2, Int.mul_one, Int.sub_self]; rfl
theorem Xw9 (u : Vc) : ∀ (R : List Vc), R.Pairwise (fun a b => fs a < fs b) → (∀ s, s ∈ R → fs s ≠ fs u ∧ fs (Yf9 u s) = fs s) → (Yd7 u R).Pairwise (fun a b => fs a < fs b)
 | [], _, _ => pairwise_singleton ..
 | s :: ss, hR, h => by
  have hR' := pairwise_cons.1 hR
  unfold Yd7
  obtain ⟨h1, h2⟩ := h s (mem_cons_self ..)
  split
  rename_i hlt
  refine pairwise_cons.2 ⟨fun x hx => ?_, ?_⟩
  obtain ⟨a, ha, rfl⟩ := mem_map.1 hx
  rw [(h a ha).2]
  rcases mem_cons.1 ha with rfl | ha
  exact hlt
  have := hR'.1 a ha; omega
  rw [pairwise_map]
  refine List.Pairwise.imp_of_mem (fun {a b} ha hb hab => ?_) hR
  rw [(h a ha).2, (h b hb).2]; exact hab
  refine pairwise_cons.2 ⟨fun x hx => ?_, Xw9 u ss hR'.2 fun t ht => h t (mem_cons_of_mem _ ht)⟩
  rw [h2]
  rcases (Zr8 u ss x).1 hx with rfl | ⟨a, ha, rfl⟩
  omega
  rw [(h a (mem_cons_of_mem _ ha)).2]; exact hR'.1 a ha
theorem Nw.rr {u : Vc} (h : Nw n R u) (hR : Rr n R) : Rr n (Yd7 u R) := by
 refine ⟨fun r hr => ?_, fun r hr => ?_, Xw9 u R hR.srt fun s hs => ⟨h.ne hs, h.sub_fs hR hs⟩, fun r s hr hs hne => ?_⟩
 rcases (Zr8 u R r).1 hr with rfl | ⟨a, ha, rfl⟩
 exact h.ok
 exact Zj9 (hR.ok a ha)
 rcases (Zr8 u R r).1 hr with rfl | ⟨a, ha, rfl⟩
 exact h.ld
 rw [h.sub_fs hR ha, h.sub_le hR ha (Nat.le_refl _)]; exact hR.ld a ha
 rcases (Zr8 u R r).1 hr with rfl | ⟨a, ha, rfl⟩
 rcases (Zr8 r R s).1 hs with rfl | ⟨b, hb, rfl⟩
 exact absurd U hne
 exact h.sub_p hR hb
 rw [h.sub_fs hR ha] at hne ⊢
 rcases (Zr8 u R s).1 hs with rfl | ⟨b, hb, rfl⟩
 exact h.z a ha
 rw [h.sub_fs hR hb] at hne
 rw [Yr6 h.ok (hR.ok b hb), h.z a ha, Int.mul_zero, Int.sub_zero, hR.off a b ha hb hne]; rfl
theorem Nw.sp {u : Vc} (h : Nw n R u) (hR : Rr n R) (f : Nat → Int) : Sp (Yd7 u R) f ↔ Sp (u :: R) f := by
 constructor
 refine fun hf => hf.sub fun r hr => ?_
 rcases (Zr8 u R r).1 hr with rfl | ⟨a, ha, rfl⟩
 exact Sp.row (mem_cons_self ..)
 refine ((Sp.row (mem_cons_of_mem _ ha)).lin (at_ a (fs u)) (Sp.row (mem_cons_self ..))).congr fun k => ?_
 rw [Yr6 h.ok (hR.ok a ha)]; exact Eq7.mod _
 refine fun hf => hf.sub fun r hr => ?_
 have hu : Sp (Yd7 u R) (at_ u) := Sp.row ((Zr8 u R u).2 (.inl U))
 rcases mem_cons.1 hr with rfl | hr
 exact hu
 refine ((Sp.row ((Zr8 u R _).2 (.inr ⟨r, hr, U⟩))).plus (hu.times (at_ r (fs u)))).congr fun k => ?_
 rw [Yr6 h.ok (hR.ok r hr)]
 have h2 := (Eq7.mod (at_ r k - at_ r (fs u) * at_ u k)).add (Eq7.refl (at_ r (fs u) * at_ u k))
 exact (h2.trans (Eq7.of (by omega))).symm
def Yc6 (r : Vc) : Vc := Zk7 (replicate r.length 0) r ((-inv (at_ r (fs r))) % 10007)
theorem Wh8 {r : Vc} (k : Nat) : at_ (Yc6 r) k = (0 - ((-inv (at_ r (fs r))) % 10007) * at_ r k) % 10007 := by
 unfold Yc6
 rw [Zy4 (by simp)]
 congr 2
 unfold at_
 by_cases hk : k < (replicate r.length (0 : Int)).length
 rw [P2 hk, getElem_replicate]
 rw [getD_eq_getElem?_getD, getElem?_eq_none (by omega)]; rfl
theorem Xn0 {r : Vc} (k : Nat) : Eq7 (at_ (Yc6 r) k) (inv (at_ r (fs r)) * at_ r k) := by
 rw [Wh8]
 refine (Eq7.mod _).trans ?_
 have h1 : Eq7 ((-inv (at_ r (fs r))) % 10007 * at_ r k) ((-inv (at_ r (fs r))) * at_ r k) := (Eq7.mod _).mul (Eq7.refl _)
 refine ((Eq7.refl 0).sub h1).trans (Eq7.of ?_)
 rw [Int.neg_mul]; omega
def Yn4 (rows : List Vc) (row : Vc) : List Vc := if fs (byR rows row) < (byR rows row).length then Yd7 (Yc6 (byR rows row)) rows else rows
theorem Wf4 {r : Vc} (hr : Okv n r) (hf : fs r < n) (hz : ∀ s, s ∈ R → at_ r (fs s) = 0) : Nw n R (Yc6 r) ∧ fs (Yc6 r) = fs r := by
 have hx := Yt4 r (by rw [hr.len]; exact hf)
 have hxr := hr.at (fs r)
 have ho : Okv n (Yc6 r) := by
  unfold Yc6
  refine ⟨by unfold Zk7 Zr0; simp [hr.len], fun x hx => ?_⟩
  unfold Zk7 Zr0 at hx
  obtain ⟨i, hi, rfl⟩ := mem_map.1 hx
  split <;> omega
 have h1 : at_ (Yc6 r) (fs r) = 1 := by
  have e := Xn0 (r := r) (fs r)
  have := Xm2 (c := at_ r (fs r)) (by omega)
  have ho' := ho.at (fs r)
  rw [Int.mul_comm] at this
  unfold Eq7 at e
  rw [this] at e
  omega
 have h0 : ∀ k, at_ r k = 0 → at_ (Yc6 r) k = 0 := fun k hk => by rw [Wh8, hk, Int.mul_zero]; rfl
 have hfs : fs (Yc6 r) = fs r := Yt6 _ _ (fun j hj => h0 j (Ze9 _ _ hj)) (by rw [h1]; decide)
 exact ⟨⟨ho, by rw [hfs]; exact ⟨hf, h1⟩, fun s hs => h0 _ (hz s hs)⟩, hfs⟩
theorem Xa5 {a b : Vc} (hab : Sp (b :: R) (at_ a)) {f : Nat → Int} (h : Sp (a :: R) f) : Sp (b :: R) f := h.sub fun r hr => by
 rcases mem_cons.1 hr with rfl | hr
 exact hab
 exact Sp.row (mem_cons_of_mem _ hr)
theorem Wg0 (hR : Rr n R) {row : Vc} (hrow : Okv n row) : Rr n (Yn4 R row) ∧ (∀ f, Sp (Yn4 R row) f ↔ Sp (row :: R) f) := by
 have hro := Zq7 R row hrow
 have hz := Yg8 R row hrow hR
 have e1 : Sp (row :: R) (at_ (byR R row)) := (Xk7 R row (row :: R) hrow fun s hs => ⟨hR.ok s hs, mem_cons_of_mem _ hs⟩).2 (Sp.row (mem_cons_self ..))
 have e2 : Sp (byR R row :: R) (at_ row) := (Xk7 R row (byR R row :: R) hrow fun s hs => ⟨hR.ok s hs, mem_cons_of_mem _ hs⟩).1 (Sp.row (mem_cons_self ..))
 have hsw : ∀ f, Sp (byR R row :: R) f ↔ Sp (row :: R) f := fun f => ⟨Xa5 e1, Xa5 e2⟩
 unfold Yn4
 generalize byR R row = r at *
 rw [hro.len]
 by_cases hf : fs r < n
 rw [if_pos hf]
 obtain ⟨hN, hfs⟩ := Wf4 (R := R) hro hf hz
 refine ⟨hN.rr hR, fun f => (hN.sp hR f).trans (Iff.trans ⟨Xa5 ?_, Xa5 ?_⟩ (hsw f))⟩
 refine ((Sp.row (mem_cons_self ..)).times (inv (at_ r (fs r)))).congr fun k => Xn0 k
 refine ((Sp.row (mem_cons_self ..)).times (at_ r (fs r))).congr fun k => ?_
 have hx := Yt4 r (by rw [hro.len]; exact hf)
 have hxr := hro.at (fs r)
 have hq := Xm2 (c := at_ r (fs r)) (by omega)
 have h1 : Eq7 (at_ r (fs r) * at_ (Yc6 r) k) (at_ r (fs r) * (inv (at_ r (fs r)) * at_ r k)) := (Eq7.refl _).mul (Xn0 k)
 rw [← Int.mul_assoc] at h1
 have h3 : Eq7 (at_ r (fs r) * inv (at_ r (fs r)) * at_ r k) (1 * at_ r k) := Eq7.mul (by unfold Eq7; rw [hq]; rfl) (Eq7.refl _)
 rw [Int.one_mul] at h3
 exact (h1.trans h3).symm
 rw [if_neg hf]
 refine ⟨hR, fun f => Iff.trans ⟨fun h => h.sub fun r hr => Sp.row (mem_cons_of_mem _ hr), fun h => h.sub fun s hs => ?_⟩ (hsw f)⟩
 rcases mem_cons.1 hs with rfl | hs
 refine Sp.zero fun k => Eq7.of ?_
 by_cases hk : k < n
 exact Ze9 _ _ (by omega)
 exact Zo4 _ _ (by rw [hro.len]; omega)
 exact Sp.row hs
def F7 (rows : List Vc) : List Vc := rows.foldl Yn4 []
theorem Wi4 : ∀ (rows out T : List Vc), Rr n out → (∀ r, r ∈ rows → Okv n r) → (∀ f, Sp out f ↔ Sp T f) → Rr n (rows.foldl Yn4 out) ∧ ∀ f, Sp (rows.foldl Yn4 out) f ↔ Sp (rows ++ T) f
 | [], out, T, h, _, hs => ⟨h, hs⟩
 | r :: rows, out, T, h, hr, hs => by
  rw [foldl_cons]
  obtain ⟨h1, h2⟩ := Wg0 h (hr r (mem_cons_self ..))
  have e : ∀ f, Sp (Yn4 out r) f ↔ Sp (r :: T) f := fun f => (h2 f).trans ⟨fun h => h.sub fun x hx => by
   rcases mem_cons.1 hx with rfl | hx
   exact Sp.row (mem_cons_self ..)
   exact ((hs _).1 (Sp.row hx)).sub fun y hy => Sp.row (mem_cons_of_mem _ hy), fun h => h.sub fun x hx => by
   rcases mem_cons.1 hx with rfl | hx
   exact Sp.row (mem_cons_self ..)
   exact ((hs _).2 (Sp.row hx)).sub fun y hy => Sp.row (mem_cons_of_mem _ hy)⟩
  obtain ⟨h3, h4⟩ := Wi4 rows (Yn4 out r) (r :: T) h1 (fun x hx => hr x (mem_cons_of_mem _ hx)) e
  refine ⟨h3, fun f => (h4 f).trans ⟨fun h => h.sub fun x hx => Sp.row ?_, fun h => h.sub fun x hx => Sp.row ?_⟩⟩
  simp only [mem_append, mem_cons] at hx ⊢
  rcases hx with hx | rfl | hx
  exact .inl (.inr hx)
  exact .inl (.inl U)
  exact .inr hx
  simp only [mem_append, mem_cons, cons_append] at hx ⊢
  rcases hx with rfl | hx | hx
  exact .inr (.inl U)
  exact .inl hx
  exact .inr (.inr hx)
theorem Xl3 : Rr n [] := ⟨fun r hr => (by cases hr), fun r hr => (by cases hr), .nil, fun r s hr => (by cases hr)⟩
theorem Zj7 {rows : List Vc} (h : ∀ r, r ∈ rows → Okv n r) : Rr n (F7 rows) ∧ ∀ f, Sp (F7 rows) f ↔ Sp rows f := by
 have := Wi4 rows [] [] Xl3 h (fun f => Iff.rfl)
 rw [append_nil] at this
 exact this
theorem Zs0 {K : Nat} {R : List Vc} (hK : 1099511627776 ≤ K) (h : ∀ r, r ∈ R → Okv n r) (hn : n ≤ 1099511627776) (hl : R.length ≤ 1099511627776) : B9 K R = some (F7 R) := by
 obtain ⟨T, e, h1, h2⟩ := Wc0 hK h hn hl
 obtain ⟨h3, h4⟩ := Zj7 h
 rw [e, h1.uniq h3 fun f => (h2 f).trans (h4 f).symm]
theorem Xh9 : ∀ (n : Nat) (xs ys : List Int) (x y : Int), (∀ j, j < n → xs[j]? = ys[j]?) → xs[n]? = some x → ys[n]? = some y → y < x → Zi3 xs ys = true
 | n, [], ys, x, y, _, h, _, _ => by simp at h
 | n, x0 :: xs, [], x, y, _, _, h, _ => by simp at h
 | 0, x0 :: xs, y0 :: ys, x, y, _, h1, h2, h => by
  simp at h1 h2
  subst h1; subst h2
  unfold Zi3
  rw [if_neg (by omega)]; exact decide_eq_true h
 | n + 1, x0 :: xs, y0 :: ys, x, y, hj, h1, h2, h => by
  have h0 := hj 0 (by omega)
  simp at h0
  subst h0
  unfold Zi3
  rw [if_pos U]
  exact Xh9 n xs ys x y (fun j hjn => by have := hj (j + 1) (by omega); simpa using this) (by simpa using h1) (by simpa using h2) h
theorem Xj4 (a : A8) {j : Nat} (h : j < 8) : (l8 a)[j]? = some (Y5 a (j : Int)) := by
 rw [S5 a h]
 match j, h with
 | 0, _ | 1, _ | 2, _ | 3, _ | 4, _ | 5, _ | 6, _ | 7, _ => rfl
theorem Wr2 {a b : A8} {n : Nat} (hn : n < 8) (h : ∀ j : Nat, j < n → Y5 a (j : Int) = Y5 b (j : Int)) (hlt : Y5 b (n : Int) < Y5 a (n : Int)) : bef a b = true :=
 Xh9 n _ _ _ _ (fun j hj => by rw [Xj4 a (by omega), Xj4 b (by omega), h j hj]) (Xj4 a hn) (Xj4 b hn) hlt
theorem Vj5 {a b : A8} (h : ∀ j : Nat, j < 8 → Y5 a (j : Int) = Y5 b (j : Int)) : a = b := by
 funext i
 have := h i.val i.isLt
 rwa [S5 a i.isLt, S5 b i.isLt] at this
theorem Xb2 (a : A8) {j : Nat} (h : ¬ j < 8) : Y5 a (j : Int) = 0 := by simp [Y5, h]
theorem Yc4 (m : A8) {n : Nat} (hn : n < 8) (x : Int) (j : Nat) : Y5 (T3 m n x) (j : Int) = if j = n then x else Y5 m (j : Int) := by
 by_cases hj : j < 8
 rw [S5 _ hj, Zh7 m hn, S5 m hj]
 rw [Xb2 _ hj, if_neg (by omega), Xb2 _ hj]
section
variable {ds : List Int}
theorem Xu8 (hd : okD ds = true) {q : A8} : ∀ (n a : Nat), a ≤ n → n ≤ ds.length → (∀ j : Nat, a ≤ j → j < n → 0 ≤ Y5 q (j : Int)) → wtN ds q a ≤ wtN ds q n
 | 0, a, h, _, _ => by rw [show a = 0 by omega]; exact Int.le_refl _
 | n + 1, a, h, hn, hq => by
  by_cases e : a = n + 1
  subst e; exact Int.le_refl _
  have ih := Xu8 hd n a (by omega) (by omega) fun j h1 h2 => hq j h1 (by omega)
  have h1 := D0 hd _ (S0 (show n < ds.length by omega))
  have h2 : 0 ≤ rd ds (n : Int) * Y5 q (n : Int) := Int.mul_nonneg (by omega) (hq n (by omega) (by omega))
  rw [wtN]; omega
theorem Xe2 {d n e : Int} (hd : 1 ≤ d ∧ d ≤ 12) (hn : 0 ≤ n ∧ n ≤ 1000) (he : 0 ≤ e) : e ≤ Zk5 d n ↔ e ≤ (if d % 2 = 1 then 1 else 20) ∧ e * d ≤ n := by
 have hq : ∀ x : Int, x ≤ n.tdiv d ↔ x * d ≤ n := fun x => by rw [Int.tdiv_eq_ediv_of_nonneg hn.1]; exact Int.le_ediv_iff_mul_le (by omega)
 rw [← hq]
 unfold Zk5
 have hq0 : 0 ≤ n.tdiv d := Int.tdiv_nonneg hn.1 (by omega)
 rw [Int.tmod_eq_emod_of_nonneg (by omega)]
 generalize n.tdiv d = q at hq0
 rcases (show d % 2 = 0 ∨ d % 2 = 1 by omega) with h | h
 rw [h]
 simp only [if_true, show ¬ ((0 : Int) = 1) by decide, if_false]
 by_cases h20 : 20 < q
 rw [if_pos h20]; omega
 rw [if_neg h20]; omega
 rw [h]
 simp only [if_true, show ¬ ((1 : Int) = 0) by decide, if_false]
 by_cases h1 : 1 < q
 simp only [h1, if_true]; rw [if_neg (by decide)]; omega
 simp only [h1, if_false]; rw [if_neg (by omega)]; omega
theorem Xa8 (hd : okD ds = true) : ∀ (g : Nat), g ≤ ds.length → ∀ (p : A8) (left : Int) (q : A8), left ≤ 1000 → 0 ≤ left → (q ∈ itF ds g p left ↔
 (∀ j : Nat, (j < ds.length - g ∨ ds.length ≤ j) → Y5 q (j : Int) = Y5 p (j : Int)) ∧ (∀ j : Nat, ds.length - g ≤ j → j < ds.length → 0 ≤ Y5 q (j : Int) ∧ Y5 q (j : Int) ≤ Zp6 ds j) ∧ wt ds q - wtN ds q (ds.length - g) = left)
 | 0, _, p, left, q, hl, hl0 => by
  unfold itF
  by_cases h : left = 0
  rw [if_pos h, mem_singleton]
  constructor
  rintro rfl
  exact ⟨fun _ _ => rfl, fun j h1 h2 => by omega, by unfold wt; rw [Nat.sub_zero]; omega⟩
  rintro ⟨h1, _, _⟩
  exact Vj5 fun j _ => h1 j (by omega)
  rw [if_neg h]
  constructor
  intro hq; cases hq
  rintro ⟨_, _, h3⟩
  unfold wt at h3
  rw [Nat.sub_zero] at h3; omega
 | g + 1, hg, p, left, q, hl, hl0 => by
  have hl8 := I7 hd
  rw [itF, mem_flatMap]
  have hi : ds.length - (g + 1) < ds.length := by omega
  have hi8 : ds.length - (g + 1) < 8 := by omega
  have e1 : ds.length - g = ds.length - (g + 1) + 1 := by omega
  have ih := fun (p : A8) (left : Int) h1 h0 => Xa8 hd g (by omega) p left q h1 h0
  rw [e1] at ih
  generalize ds.length - (g + 1) = i at *
  have hdi := D0 hd _ (S0 hi)
  have hmost : Zp6 ds i = if rd ds (i : Int) % 2 = 1 then 1 else 20 := by unfold Zp6; rw [if_pos hi]
  constructor
  rintro ⟨e, he, hq⟩
  have he := mem_range.1 (mem_reverse.1 he)
  have ht := Yk6 hdi ⟨hl0, hl⟩
  have hte := (Xe2 hdi ⟨hl0, hl⟩ (show 0 ≤ (e : Int) by omega)).1 (by omega)
  have hed : 0 ≤ (e : Int) * rd ds (i : Int) := Int.mul_nonneg (by omega) (by omega)
  obtain ⟨h1, h2, h3⟩ := (ih _ _ (by omega) (by omega)).1 hq
  have hqi : Y5 q (i : Int) = e := by rw [h1 i (by omega), Yc4 p hi8, if_pos U]
  refine ⟨fun j hj => ?_, fun j hj1 hj2 => ?_, ?_⟩
  rw [h1 j (by omega), Yc4 p hi8, if_neg (by omega)]
  by_cases e2 : j = i
  subst e2; rw [hqi, hmost]; exact ⟨by omega, hte.1⟩
  exact h2 j (by omega) hj2
  rw [wtN, hqi, Int.mul_comm] at h3; omega
  rintro ⟨h1, h2, h3⟩
  obtain ⟨h2i, h2m⟩ := h2 i (by omega) hi
  have hmono := Xu8 hd (q := q) ds.length (i + 1) (by omega) (Nat.le_refl _) fun j hj1 hj2 => (h2 j (by omega) hj2).1
  have hw : wtN ds q (i + 1) = wtN ds q i + rd ds (i : Int) * Y5 q (i : Int) := rfl
  have hle : Y5 q (i : Int) * rd ds (i : Int) ≤ left := by unfold wt at h3; rw [Int.mul_comm]; omega
  have hte := (Xe2 hdi ⟨hl0, hl⟩ h2i).2 ⟨by rw [← hmost]; exact h2m, hle⟩
  have hc : ((Y5 q (i : Int)).toNat : Int) = Y5 q (i : Int) := Int.toNat_of_nonneg h2i
  have hed : 0 ≤ Y5 q (i : Int) * rd ds (i : Int) := Int.mul_nonneg h2i (by omega)
  refine ⟨(Y5 q (i : Int)).toNat, mem_reverse.2 (mem_range.2 (by omega)), ?_⟩
  rw [hc]
  refine (ih _ _ (by omega) (by omega)).2 ⟨fun j hj => ?_, fun j hj1 hj2 => h2 j (by omega) hj2, ?_⟩
  rw [Yc4 p hi8]
  by_cases e2 : j = i
  subst e2; rw [if_pos rfl]
  rw [if_neg e2]; exact h1 j (by omega)
  rw [hw, Int.mul_comm (Y5 q _)]; omega
theorem Wd3 (hd : okD ds = true) : ∀ (g : Nat), g ≤ ds.length → ∀ (p : A8) (left : Int), left ≤ 1000 → 0 ≤ left → (itF ds g p left).Pairwise (fun a b => bef a b = true)
 | 0, _, p, left, _, _ => by
  unfold itF
  split
  exact pairwise_singleton _ _
  exact .nil
 | g + 1, hg, p, left, hl, hl0 => by
  have hl8 := I7 hd
  have hi : ds.length - (g + 1) < ds.length := by omega
  have hi8 : ds.length - (g + 1) < 8 := by omega
  have e1 : ds.length - g = ds.length - (g + 1) + 1 := by omega
  have hdi := D0 hd _ (S0 hi)
  have hb : ∀ e, e ∈ (range ((Zk5 (rd ds ((ds.length - (g + 1) : Nat) : Int)) left).toNat + 1)).reverse → 0 ≤ left - (e : Int) * rd ds ((ds.length - (g + 1) : Nat) : Int) ∧ left - (e : Int) * rd ds ((ds.length - (g + 1) : Nat) : Int) ≤ 1000 := fun e he => by
   have he := mem_range.1 (mem_reverse.1 he)
   have ht := Yk6 hdi ⟨hl0, hl⟩
   have hte := (Xe2 hdi ⟨hl0, hl⟩ (show 0 ≤ (e : Int) by omega)).1 (by omega)
   have hed : 0 ≤ (e : Int) * rd ds ((ds.length - (g + 1) : Nat) : Int) := Int.mul_nonneg (by omega) (by omega)
   omega
  rw [itF, pairwise_flatMap]
  refine ⟨fun e he => Wd3 hd g (by omega) _ _ (hb e he).2 (hb e he).1, ?_⟩
  rw [pairwise_reverse]
  refine List.Pairwise.imp_of_mem (fun {a b} ha hb' hab => ?_) pairwise_lt_range
  intro x hx y hy
  have hx := ((Xa8 hd g (by omega) _ _ x (hb b (mem_reverse.2 hb')).2 (hb b (mem_reverse.2 hb')).1).1 hx).1
  have hy := ((Xa8 hd g (by omega) _ _ y (hb a (mem_reverse.2 ha)).2 (hb a (mem_reverse.2 ha)).1).1 hy).1
  rw [e1] at hx hy
  generalize ds.length - (g + 1) = i at *
  refine Wr2 hi8 (fun j hj => ?_) ?_
  rw [hx j (by omega), hy j (by omega), Yc4 p hi8, Yc4 p hi8, if_neg (by omega), if_neg (by omega)]
  rw [hx i (by omega), hy i (by omega), Yc4 p hi8, Yc4 p hi8, if_pos U, if_pos U]; omega
theorem Yl5 (hd : okD ds = true) {n : Int} (hn : 0 ≤ n ∧ n ≤ 1000) : (V6 ds n).Pairwise (fun a b => bef a b = true) := Wd3 hd _ (Nat.le_refl _) _ _ hn.2 hn.1
theorem Yf8 (hd : okD ds = true) {n : Int} (hn : 0 ≤ n ∧ n ≤ 1000) {q : A8} : q ∈ V6 ds n ↔ Mo 20 ds q ∧ wt ds q = n := by
 have hl8 := I7 hd
 unfold V6
 rw [Xa8 hd ds.length (Nat.le_refl _) _ _ q hn.2 hn.1, Nat.sub_self]
 constructor
 rintro ⟨h1, h2, h3⟩
 have hz : ∀ j : Nat, ds.length ≤ j → Y5 q (j : Int) = 0 := fun j hj => by rw [h1 j (.inr hj)]; simp [Y5]
 refine ⟨⟨fun i => ?_, fun i => ?_, fun j hj ho => ?_, fun i hi => ?_⟩, by rw [wtN] at h3; omega⟩
 rw [← S5 q i.isLt]
 by_cases h : i.val < ds.length
 exact (h2 i.val (by omega) h).1
 rw [hz i.val (by omega)]; decide
 rw [← S5 q i.isLt]
 by_cases h : i.val < ds.length
 have := (h2 i.val (by omega) h).2
 unfold Zp6 at this
 rw [if_pos h] at this
 split at this <;> omega
 rw [hz i.val (by omega)]; decide
 have := (h2 j (by omega) hj).2
 unfold Zp6 at this
 rwa [if_pos hj, if_pos ho] at this
 rw [← S5 q i.isLt]; exact hz i.val hi
 rintro ⟨hm, hw⟩
 refine ⟨fun j hj => ?_, fun j _ hj => ?_, by rw [wtN]; omega⟩
 have hj : ds.length ≤ j := by omega
 by_cases h8 : j < 8
 rw [S5 q h8, hm.out ⟨j, h8⟩ hj]; simp [Y5]
 rw [Xb2 _ h8, Xb2 _ h8]
 have h8 : j < 8 := by omega
 rw [S5 q h8]
 refine ⟨hm.lo _, ?_⟩
 unfold Zp6
 rw [if_pos hj]
 by_cases ho : rd ds (j : Int) % 2 = 1
 rw [if_pos ho, ← S5 q h8]; exact hm.odd j hj ho
 rw [if_neg ho]; exact hm.hi _
end
section
variable {K : Nat} {ds : List Int} {imgs : List MpT} {m : A8}
theorem Xp9 {m : A8} (hd : okD ds = true) (lo : ∀ i, 0 ≤ m i) : ∀ n : Nat, n ≤ ds.length → ∀ j, j < n → rd ds (j : Int) * Y5 m (j : Int) ≤ wtN ds m n
 | 0, _, j, hj => by omega
 | n + 1, h, j, hj => by
  have h1 := (Yn0 hd lo n (by omega)).1
  have hn := D0 hd _ (S0 (show n < ds.length by omega))
  have hi : 0 ≤ Y5 m (n : Int) := by
   by_cases h8 : n < 8
   rw [S5 m h8]; exact lo _
   have := I7 hd; omega
  have h3 : 0 ≤ rd ds (n : Int) * Y5 m (n : Int) := Int.mul_nonneg (by omega) hi
  rw [wtN]
  by_cases e : j = n
  subst e; omega
  have := Xp9 hd lo n (by omega) j (by omega); omega
theorem Wh2 {B : Int} {m : A8} (hd : okD ds = true) (hm : Mo B ds m) (hw : wt ds m ≤ 26) : Mo 13 ds m := by
 refine ⟨hm.lo, fun i => ?_, hm.odd, hm.out⟩
 by_cases h : i.val < ds.length
 have h1 := Xp9 hd hm.lo ds.length (Nat.le_refl _) i.val h
 have hn := D0 hd _ (S0 h)
 have ho := hm.odd i.val h
 have hl := hm.lo i
 rw [S5 m i.isLt] at h1 ho
 unfold wt at hw
 by_cases hodd : rd ds (i.val : Int) % 2 = 1
 have := ho hodd; exact Int.le_trans this (by decide)
 have h2 : 2 * m ⟨i.val, i.isLt⟩ ≤ rd ds (i.val : Int) * m ⟨i.val, i.isLt⟩ := Int.mul_le_mul_of_nonneg_right (by omega) hl
 have : m ⟨i.val, i.isLt⟩ ≤ 13 := by omega
 exact this
 rw [hm.out i (by omega)]; decide
theorem Ww8 {u v : Int} {p q : A8} (hd : okD ds = true) (huv : u + v ≤ 26) (hp : Mo 13 ds p) (hq : Mo 13 ds q) (hpw : wt ds p = u) (hqw : wt ds q = v) (hn : (F1 ds p q).2 ≠ 0) :
 Mo 13 ds (F1 ds p q).1 ∧ wt ds (F1 ds p q).1 = u + v := by
 have hw : wt ds (F1 ds p q).1 = u + v := by
  rw [(Xb4 hn).1]
  unfold wt at hpw hqw ⊢
  rw [Wf6, hpw, hqw]
 exact ⟨Wh2 hd (hp.mul hq hn) (by omega), hw⟩
theorem Wq1 {u v : Int} {z : Zb0} {G : MpT} (hd : okD ds = true) (huv : u + v ≤ 26) (hz : Mo 13 ds z.1) (hzw : wt ds z.1 = u) (hG : Hm v ds G) : ∀ r, r ∈ Zx8 ds z G → Mo 13 ds r.1 ∧ wt ds r.1 = u + v := by
 intro r hr
 obtain ⟨q, hq, hn, e⟩ := Xi6 r hr
 rw [e]
 exact Ww8 hd huv hz (hG.mo q hq) hzw (hG.w q hq) hn
theorem Wt5 {u v : Int} {S G : MpT} (hd : okD ds = true) (huv : u + v ≤ 26) (hS : Hm u ds S) (hG : Hm v ds G) : ∀ r, r ∈ Zp1 ds S G → Mo 13 ds r.1 ∧ wt ds r.1 = u + v := by
 intro r hr
 obtain ⟨z, hz, hr⟩ := mem_flatMap.1 hr
 exact Wq1 hd huv (hS.mo z hz) (hS.w z hz) hG r hr
theorem Wa6 {u v : Int} {S G : MpT} (hd : okD ds = true) (huv : u + v ≤ 26) (hS : Hm u ds S) (hG : Hm v ds G) : Hm (u + v) ds (Vm9 ds S G) := Wr0 (Wt5 hd huv hS hG) (Hm.nil _ _)
theorem Vd1 {t : Nat} (ht : t < 8) (m : A8) (n : Nat) : Y5 (lfM m t) n = if n = t then Y5 m t - 1 else if n < t then Y5 m n else 0 := by
 by_cases hn : n < 8
 rw [S5 _ hn]; unfold lfM; rw [Zh7 _ ht]
 by_cases e : n = t
 rw [if_pos e, if_pos e]
 rw [if_neg e, if_neg e, ← S5 (loM m t) hn, Xl6]
 rw [if_neg (by omega), if_neg (by omega)]; simp [Y5, hn]
theorem Xw6 {t : Nat} (ht : t < 8) (m : A8) : ∀ n : Nat, wtN ds (lfM m t) n + wtN ds (hiM m t) n + (if t < n then rd ds (t : Int) else 0) = wtN ds m n
 | 0 => by simp [wtN]
 | n + 1 => by
  have ih := Xw6 ht m n
  rw [wtN, wtN, wtN, Vd1 ht, Ws3]
  by_cases e : n = t
  subst e
  rw [if_neg (by omega)] at ih
  rw [if_pos U, if_neg (by omega), if_pos (by omega), Int.mul_sub]
  omega
  by_cases h : n < t
  rw [if_neg (by omega)] at ih
  rw [if_neg e, if_pos h, if_neg (by omega), if_neg (by omega)]
  omega
  rw [if_pos (by omega)] at ih
  rw [if_neg e, if_neg h, if_pos (by omega), if_pos (by omega)]
  omega
theorem We0 {p : A8} (hp : Mo 13 ds p) : Hm (wt ds p) ds [(p, 1)] :=
 ⟨Yi7 (pairwise_singleton _ _) (fun q hq => by cases mem_singleton.1 hq; exact (show (1 : Int) ≤ 1 ∧ (1 : Int) ≤ 10006 by decide)), fun t ht => by cases mem_singleton.1 ht; exact hp, fun t ht => by cases mem_singleton.1 ht; rfl⟩
theorem Vj4 {t : Nat} {img : MpT} (hd : okD ds = true) (hm : Mo 13 ds m) (hw : wt ds m ≤ 25) (ht : t < ds.length) (h1 : 0 < Y5 m t) (hi : Hm (rd ds (t : Int) + 1) ds img) : Hm (wt ds m + 1) ds (dT ds img m t) := by
 have hl := I7 hd
 have ht8 : t < 8 := by omega
 have hlf := Xt3 hm (by decide) ht8 h1
 have hhi := Wj5 hm (by decide) t
 have hp := Xw6 (ds := ds) ht8 m ds.length
 rw [if_pos ht] at hp
 have p1 := (Yn0 hd hlf.lo ds.length (Nat.le_refl _)).1
 have p2 := (Yn0 hd hhi.lo ds.length (Nat.le_refl _)).1
 unfold wt at hw ⊢
 have e : wtN ds m ds.length + 1 = (wtN ds (lfM m t) ds.length + (rd ds (t : Int) + 1)) + wtN ds (hiM m t) ds.length := by omega
 rw [e]
 exact Wa6 hd (by omega) (Wa6 hd (by omega) (We0 hlf) hi) (We0 hhi)
theorem Yz0 {z : Zb0} (hd : okD ds = true) (hlen : imgs.length = ds.length) (hI : ∀ j, j < imgs.length → Hm (rd ds (j : Int) + 1) ds (rd imgs (j : Int))) (hm : Mo 13 ds z.1) (hw : wt ds z.1 ≤ 25) : ∀ (n t : Nat) (out : MpT), t + n ≤ ds.length → Hm (wt ds z.1 + 1) ds out →
 Hm (wt ds z.1 + 1) ds (Zz7 ds imgs z n t out)
 | 0, _, _, _, h => h
 | n + 1, t, out, ht, h => by
  rw [Zz7]
  by_cases h0 : Y5 z.1 (t : Int) = 0
  rw [if_pos h0]; exact Yz0 hd hlen hI hm hw n (t + 1) out (by omega) h
  rw [if_neg h0]
  have hlo := (Xo1 hm.lo hm.hi (by decide) t).1
  have hdt := Vj4 hd hm hw (show t < ds.length by omega) (by omega) (hI t (by omega))
  refine Yz0 hd hlen hI hm hw n (t + 1) _ (by omega) (Wr0 (fun r hr => ?_) h)
  obtain ⟨q, hq, rfl⟩ := mem_map.1 hr
  exact ⟨hdt.mo q hq, hdt.w q hq⟩
theorem Xz6 {u : Int} (hd : okD ds = true) (hlen : imgs.length = ds.length) (hI : ∀ j, j < imgs.length → Hm (rd ds (j : Int) + 1) ds (rd imgs (j : Int))) (hu : u ≤ 25) : ∀ (f out : MpT), MoL 13 ds f → (∀ t, t ∈ f → wt ds t.1 = u) → Hm (u + 1) ds out → Hm (u + 1) ds (Zz1 ds imgs f out)
 | [], _, _, _, h => h
 | z :: f, out, hm, hw, h => by
  have h1 := hw z (mem_cons_self ..)
  rw [Zz1]
  refine Xz6 hd hlen hI hu f _ (fun t ht => hm t (mem_cons_of_mem _ ht)) (fun t ht => hw t (mem_cons_of_mem _ ht)) ?_
  have := Yz0 (z := z) hd hlen hI (hm z (mem_cons_self ..)) (by omega) ds.length 0 out (by omega) (by rw [h1]; exact h)
  rwa [h1] at this
/-! rows and forms -/
def Zk0 : List A8 → List Int → MpT
 | p :: ps, x :: xs => if x = 0 then Zk0 ps xs else (p, x) :: Zk0 ps xs
 | _, _ => []
theorem Ym1 : ∀ (M : List A8) (row : List Int) (z : A8 × Int), z ∈ Zk0 M row → z.1 ∈ M ∧ z.2 ∈ row ∧ z.2 ≠ 0
 | [], _, z, h => by simp [Zk0] at h
 | _ :: _, [], z, h => by simp [Zk0] at h
 | p :: ps, x :: xs, z, h => by
  unfold Zk0 at h
  split at h
  obtain ⟨h1, h2, h3⟩ := Ym1 ps xs z h
  exact ⟨mem_cons_of_mem _ h1, mem_cons_of_mem _ h2, h3⟩
  rename_i hx
  rcases mem_cons.1 h with rfl | h
  exact ⟨mem_cons_self .., mem_cons_self .., hx⟩
  obtain ⟨h1, h2, h3⟩ := Ym1 ps xs z h
  exact ⟨mem_cons_of_mem _ h1, mem_cons_of_mem _ h2, h3⟩
theorem Xf7 : ∀ (M : List A8) (row : List Int), M.Pairwise (fun a b => bef a b = true) → Srt (Zk0 M row)
 | [], _, _ => by unfold Zk0; exact List.Pairwise.nil
 | _ :: _, [], _ => by unfold Zk0; exact List.Pairwise.nil
 | p :: ps, x :: xs, h => by
  have h' := pairwise_cons.1 h
  unfold Zk0
  split
  exact Xf7 ps xs h'.2
  exact pairwise_cons.2 ⟨fun z hz => h'.1 _ (Ym1 ps xs z hz).1, Xf7 ps xs h'.2⟩
theorem Xe7 : ∀ (M : List A8) (row : List Int), (Zk0 M row).length ≤ M.length
 | [], _ => by simp [Zk0]
 | _ :: _, [] => by simp [Zk0]
 | p :: ps, x :: xs => by
  have := Xe7 ps xs
  unfold Zk0
  split <;> simp <;> omega
theorem Va6 {M : List A8} {row : List Int} (hM : M.Pairwise (fun a b => bef a b = true)) {n : Nat} (h : ∀ x, x ∈ row → 0 ≤ x ∧ x < 10007) : nfm (Zk0 M row) = true :=
 Yi7 (Xf7 M row hM) fun q hq => by
  obtain ⟨_, h2, h3⟩ := Ym1 M row q hq
  have := h _ h2
  omega
end
theorem Xu7 {α : Type} : ∀ (xs ys : List α), xs.Nodup → (∀ x, x ∈ xs → x ∈ ys) → xs.length ≤ ys.length
 | [], _, _, _ => Nat.zero_le _
 | x :: xs, ys, hn, h => by
  have hn' := nodup_cons.1 hn
  have dec : DecidableEq α := fun a b => Classical.propDecidable (a = b)
  have hx := h x (mem_cons_self ..)
  have := Xu7 xs (ys.erase x) hn'.2 fun y hy => (mem_erase_of_ne (fun e => hn'.1 (by rw [← e]; exact hy))).2 (h y (mem_cons_of_mem _ hy))
  rw [length_erase_of_mem hx] at this
  have := length_pos_of_mem hx
  rw [length_cons]; omega
section
variable {K : Nat} {a : F6} {n : Int}
theorem Wi3 (K : Nat) (b : Bool) (c : Int) : Zw2 K b c = some (if b = true then c else 0) := by unfold Zw2; split <;> rfl
theorem Vd6 (hi : Inp K a) (hB : okB a = true) : ∀ j, j < a.2.length → Hm (rd a.1 (j : Int) + 1) a.1 (rd a.2 (j : Int)) := by
 intro j hj
 have hd := We5 hB
 have hv := Xi4 hi hB
 have hpos := D0 hd _ (S0 (show j < a.1.length by have := hv.len; omega))
 unfold okB at hB
 rw [Bool.and_eq_true, Bool.and_eq_true] at hB
 have h := all_eq_true.1 hB.2.2 j (mem_range.2 hj)
 unfold okI okG at h
 rw [Bool.and_eq_true] at h
 exact Vk0 hd (hv.all _ (S0 hj)) (fun t ht => of_decide_eq_true (all_eq_true.1 h.2 t ht)) (by omega)
structure Vw (a : F6) : Prop where
 dg : okD a.1 = true
 len : a.2.length = a.1.length
 hm : ∀ j, j < a.2.length → Hm (rd a.1 (j : Int) + 1) a.1 (rd a.2 (j : Int))
 vi : VI a.1 a.2
theorem Xi5 (hi : Inp K a) (hA : okA a = true) : Vw a := by
 have hB : okB a = true := by unfold okA at hA; rw [Bool.and_eq_true] at hA; exact hA.1
 have hv := Xi4 hi hB
 exact ⟨We5 hB, hv.len, Vd6 hi hB, hv⟩
def dmR (a : F6) (p : A8) : MpT := Zz1 a.1 a.2 [(p, 1)] []
theorem Wo0 {ds : List Int} {p : A8} (hp : Mo 20 ds p) : VF ds [(p, 1)] :=
 ⟨Yi7 (pairwise_singleton _ _) (fun q hq => by cases mem_singleton.1 hq; exact (show (1 : Int) ≤ 1 ∧ (1 : Int) ≤ 10006 by decide)), fun t ht => by cases mem_singleton.1 ht; exact hp, by simp⟩
theorem Xs8 (hV : Vw a) (hn : 0 ≤ n ∧ n ≤ 25) {p : A8} (hp : p ∈ V6 a.1 n) : Hm (n + 1) a.1 (dmR a p) := by
 obtain ⟨h1, h2⟩ := (Yf8 hV.dg (by omega)).1 hp
 have h13 := Wh2 hV.dg h1 (by omega)
 exact Xz6 hV.dg hV.len hV.hm hn.2 [(p, 1)] [] (fun t ht => by cases mem_singleton.1 ht; exact h13) (fun t ht => by cases mem_singleton.1 ht; exact h2) (Hm.nil _ _)
theorem Wz2 (hV : Vw a) (hn : 0 ≤ n ∧ n ≤ 25) {p : A8} (hp : p ∈ V6 a.1 n) : ∀ z, z ∈ dmR a p → z.1 ∈ V6 a.1 (n + 1) := fun z hz => by
 have h := Xs8 hV hn hp
 have hm := h.mo z hz
 exact (Yf8 hV.dg (by omega)).2 ⟨⟨hm.lo, fun i => Int.le_trans (hm.hi i) (by decide), hm.odd, hm.out⟩, h.w z hz⟩
theorem Wt8 (p : A8) : Zc9 ([] : MpT) p 1 = [(p, 1)] := Xd9 (s := []) (pairwise_singleton _ _)
theorem Wf2 (hd : okD a.1 = true) (hn : 0 ≤ n ∧ n ≤ 1000) : (V6 a.1 n).Nodup := (Yl5 hd hn).imp fun {x y} h e => by subst e; rw [Zh0] at h; cases h
def Zc3 (a : F6) (n : Int) : List Vc := (V6 a.1 n).map fun p => Zc8 (V6 a.1 (n + 1)) (dmR a p)
theorem Xo7 {M : List A8} {s : MpT} (hs : nfm s = true) : Okv M.length (Zc8 M s) := ⟨by simp [Zc8], fun x hx => by
 obtain ⟨p, _, rfl⟩ := mem_map.1 hx
 have := Yk0 hs p
 omega⟩
theorem Yd4 (hV : Vw a) (hn : 0 ≤ n ∧ n ≤ 25) : ∀ r, r ∈ Zc3 a n → Okv (V6 a.1 (n + 1)).length r := fun r hr => by
 obtain ⟨p, hp, rfl⟩ := mem_map.1 hr
 exact Xo7 (Xs8 hV hn hp).nf
theorem Xg1 (hK : 1099511627776 ≤ K) (hV : Vw a) (hn : 0 ≤ n ∧ n ≤ 25) (hl : (V6 a.1 (n + 1)).length ≤ 120) : ∀ (ps : List A8), (∀ p, p ∈ ps → p ∈ V6 a.1 n) →
 Yo9 K a (V6 a.1 (n + 1)) ps = some (ps.map fun p => Zc8 (V6 a.1 (n + 1)) (dmR a p))
 | [], _ => rfl
 | p :: ps, h => by
  have hp := h p (mem_cons_self ..)
  have hm := ((Yf8 hV.dg (by omega)).1 hp).1
  have hd : Zb7 K a [(p, 1)] = some (dmR a p) := Vi2 (ds := a.1) (imgs := a.2) (by omega) hV.dg hV.vi (Wo0 hm)
  have hrow : F3 K (V6 a.1 (n + 1)) (dmR a p) = some (Zc8 (V6 a.1 (n + 1)) (dmR a p)) := by
   unfold F3
   rw [if_pos (show Xv1 _ _ = true from decide_eq_true ⟨Wf2 hV.dg (by omega), by omega, Wz2 hV hn hp⟩)]
  rw [Yo9, Wt8, hd, bind_some, hrow, bind_some, Xg1 hK hV hn hl ps (fun q hq => h q (mem_cons_of_mem _ hq)), bind_some]
  rfl
theorem Xh0 (hd : okD a.1 = true) (hn : n ≤ 1000) : Zj3 K a.1 n 120 = some (lsM a.1 n 120, decide (((lsM a.1 n 120).length : Int) ≤ 120)) := by
 unfold Zj3
 rw [if_pos (show Wx0 _ _ _ = true from decide_eq_true ⟨D0 hd, I7 hd, hn, by decide, by decide⟩)]
theorem Yn2 (hd : okD a.1 = true) (hn : 0 ≤ n ∧ n ≤ 1000) (hl : (V6 a.1 n).length ≤ 120) : lv0 K a n = some (V6 a.1 n) := by
 unfold lv0
 rw [Xh0 hd hn.2, (Xr5 (D0 hd) hn).2 hl]; rfl
theorem Xb5 (hK : 1099511627776 ≤ K) (hV : Vw a) (hn : 0 ≤ n ∧ n ≤ 25) (hl : (V6 a.1 n).length ≤ 120) (hl1 : (V6 a.1 (n + 1)).length ≤ 120) : Ye5 K a n = some (Zc3 a n) := by
 unfold Ye5
 rw [Yn2 hV.dg (by omega) hl, bind_some, Yn2 hV.dg (by omega) hl1, bind_some, if_pos (by omega), Xg1 hK hV hn hl1 _ (fun p hp => hp)]; rfl
/-! kernels -/
def Zv4 (width : Nat) (R : List Vc) : List Vc := (R.filter fun r => decide (width ≤ fs r)).map fun r => r.drop width
theorem Xz5 {w : Nat} {r : Vc} {R : List Vc} (h : w ≤ fs r) : Zv4 w (r :: R) = r.drop w :: Zv4 w R := by
 unfold Zv4
 rw [filter_cons_of_pos (by simpa using h), map_cons]
theorem Xx3 {w : Nat} {r : Vc} {R : List Vc} (h : ¬ w ≤ fs r) : Zv4 w (r :: R) = Zv4 w R := by
 unfold Zv4
 rw [filter_cons_of_neg (by simpa using h)]
def Xy8 (rows : List Vc) (width : Nat) : List Vc := F7 (Zv4 width (F7 (R6 rows.length 0 rows)))
theorem Yr2 {m k : Nat} {u v : Vc} (hu : Okv m u) (hv : Okv k v) : Okv (m + k) (u ++ v) := ⟨by rw [length_append, hu.len, hv.len], fun x hx => (mem_append.1 hx).elim (hu.rng x) (hv.rng x)⟩
theorem Wx5 (m i : Nat) : Okv m (Zk8 m i) := ⟨by simp [Zk8], fun x hx => by
 unfold Zk8 at hx
 rcases mem_or_eq_of_mem_set hx with h | h
 rw [(mem_replicate.1 h).2]; decide
 rw [h]; decide⟩
theorem Zu8 {width m : Nat} : ∀ (rows : List Vc) (i : Nat), (∀ r, r ∈ rows → Okv width r) → ∀ r, r ∈ R6 m i rows → Okv (width + m) r
 | [], i, _, r, hr => by cases hr
 | s :: ss, i, h, r, hr => by
  rcases mem_cons.1 hr with rfl | hr
  exact Yr2 (h s (mem_cons_self ..)) (Wx5 m i)
  exact Zu8 ss (i + 1) (fun t ht => h t (mem_cons_of_mem _ ht)) r hr
theorem Yl6 {w m : Nat} {r : Vc} (h : Okv (w + m) r) : Okv m (r.drop w) := ⟨by rw [length_drop, h.len]; omega, fun x hx => h.rng x (mem_of_mem_drop hx)⟩
theorem Xb0 {w m : Nat} {R : List Vc} (h : ∀ r, r ∈ R → Okv (w + m) r) : ∀ r, r ∈ Zv4 w R → Okv m r := fun r hr => by
 obtain ⟨s, hs, rfl⟩ := mem_map.1 hr
 exact Yl6 (h s (mem_filter.1 hs).1)
theorem Wf8 {rows : List Vc} {w : Nat} (h : ∀ r, r ∈ rows → Okv w r) : Rr rows.length (Xy8 rows w) := by
 have h1 := (Zj7 (Zu8 (m := rows.length) rows 0 h)).1
 exact (Zj7 (Xb0 h1.ok)).1
theorem Rr.short {m : Nat} {R : List Vc} (h : Rr m R) : R.length ≤ m := by
 have h1 : (R.map fs).Nodup := by
  rw [nodup_iff_pairwise_ne, pairwise_map]
  exact h.srt.imp fun {x y} hxy => by omega
 have h2 : ∀ x, x ∈ R.map fs → x ∈ range m := fun x hx => by
  obtain ⟨r, hr, rfl⟩ := mem_map.1 hx
  exact mem_range.2 (h.ld r hr).1
 have := Xu7 _ _ h1 h2
 simpa using this
theorem Wg8 {r : Vc} {w : Nat} (hw : w ≤ r.length) : fs (r.take w) < w ↔ fs r < w := by
 have hl : (r.take w).length = w := by rw [length_take]; omega
 have hg : ∀ k, k < w → at_ (r.take w) k = at_ r k := fun k hk => by
  unfold at_
  rw [getD_eq_getElem?_getD, getD_eq_getElem?_getD, getElem?_take, if_pos hk]
 constructor
 intro h
 have h1 := Yt4 (r.take w) (by omega)
 rw [hg _ h] at h1
 rcases Nat.lt_or_ge (fs r) w with h2 | h2
 exact h2
 exact absurd (Ze9 r _ (by omega)) h1
 intro h
 have h1 := Yt4 r (by omega)
 rw [← hg _ h] at h1
 rcases Nat.lt_or_ge (fs (r.take w)) w with h2 | h2
 exact h2
 exact absurd (Ze9 (r.take w) _ (by omega)) h1
end
section
variable {K n : Nat} {R : List Vc}
theorem rdV {xs : List Vc} {i : Nat} (h : i < xs.length) : rd xs (i : Int) = xs[i] := by rw [Zs9 h, P2 h]
theorem Yc1 {α : Type} {xs : List α} {i : Nat} (h : i < xs.length) : xs.drop i = xs[i] :: xs.drop (i + 1) := (getElem_cons_drop ..).symm
theorem Xw0 {u : Vc} {lk : Bool → Int → List Vc → Option (Ex (List Vc) (Bool × List Vc))} (hR : Rr n R) (hu : Okv n u) (hf : fs u < n) (hK : n < K) (h40 : n ≤ 1099511627776) {i : Nat} (hi : i < R.length) {b : Bool} {out : List Vc} (ho : out.length + 1 ≤ 1099511627776) :
 Zj5 K lk R u (fs u : Int) (i : Int) b out = lk b ((i : Int) + 1) (out ++ [Yf9 u R[i]]) := by
 have hs := hR.ok _ (getElem_mem hi)
 have hsl := hs.len
 have hul := hu.len
 unfold Zj5
 rw [rdV hi, if_pos (by omega), Zl0, Xa4 (fun j => hs.inF j) (fun j => hu.inF j) (hs.inF _) (by omega) (by omega) (by omega), bind_some, if_pos (by simpa using ho)]
 rfl
theorem Xl0 {u : Vc} (hR : Rr n R) (hu : Okv n u) (hf : fs u < n) (hK : n < K) (h40 : n ≤ 1099511627776) : ∀ (k i : Nat) (b : Bool) (out : List Vc), i ≤ R.length → R.length < i + k → out.length + (R.length - i) + (if b = true then 0 else 1) + 1 ≤ 1099511627776 →
 ∃ b' out', J2 K R u (fs u : Int) k b (i : Int) out = some (.go (b', out')) ∧ out'.length + 1 ≤ 1099511627777 ∧ (b' = false → out'.length + 1 ≤ 1099511627776) ∧ (if b' = true then out' else out' ++ [u]) = (if b = true then out ++ (R.drop i).map (Yf9 u) else out ++ Yd7 u (R.drop i))
 | 0, i, b, out, h1, h2, _ => by omega
 | k + 1, i, b, out, h1, h2, h3 => by
  rw [J2]
  by_cases hi : i < R.length
  rw [if_pos (by omega)]
  have hs := hR.ok _ (getElem_mem hi)
  have hsf := (hR.ld _ (getElem_mem hi)).1
  have hsl := hs.len
  have e1 : (i : Int) + 1 = ((i + 1 : Nat) : Int) := rfl
  by_cases hb : b = true
  subst hb
  rw [if_pos U] at h3 ⊢
  unfold Zi9
  rw [if_neg (by decide), Xw0 hR hu hf hK h40 hi (by omega), e1]
  obtain ⟨b', out', g1, g2, g3, g4⟩ := Xl0 hR hu hf hK h40 k (i + 1) true (out ++ [Yf9 u R[i]]) (by omega) (by omega) (by rw [if_pos U]; simp; omega)
  refine ⟨b', out', g1, g2, g3, ?_⟩
  rw [g4, if_pos U, if_pos U, Yc1 hi, map_cons, append_assoc]; rfl
  have hb : b = false := by simpa using hb
  subst hb
  rw [if_neg (by decide)] at h3 ⊢
  rw [rdV hi, Yl7 (by omega), if_pos (by omega), bind_some]
  unfold Zi9
  by_cases hlt : fs u < fs R[i]
  rw [if_pos (decide_eq_true (show (fs u : Int) < (fs R[i] : Int) by omega)), if_pos (by simp; omega), Xw0 hR hu hf hK h40 hi (by simp; omega), e1]
  obtain ⟨b', out', g1, g2, g3, g4⟩ := Xl0 hR hu hf hK h40 k (i + 1) true (out ++ [u] ++ [Yf9 u R[i]]) (by omega) (by omega) (by rw [if_pos U]; simp; omega)
  refine ⟨b', out', g1, g2, g3, ?_⟩
  rw [g4, if_pos U, if_neg (by decide), Yc1 hi]
  unfold Yd7
  rw [if_pos hlt]
  simp only [map_cons, append_assoc, cons_append, nil_append]
  rw [if_neg (by rw [decide_eq_false (show ¬ (fs u : Int) < (fs R[i] : Int) by omega)]; decide), Xw0 hR hu hf hK h40 hi (by omega), e1]
  obtain ⟨b', out', g1, g2, g3, g4⟩ := Xl0 hR hu hf hK h40 k (i + 1) false (out ++ [Yf9 u R[i]]) (by omega) (by omega) (by rw [if_neg (by decide)]; simp; omega)
  refine ⟨b', out', g1, g2, g3, ?_⟩
  rw [g4, if_neg (by decide), if_neg (by decide), Yc1 hi]
  conv => rhs; unfold Yd7
  rw [if_neg hlt]
  simp only [append_assoc, cons_append, nil_append]
  have e : i = R.length := by omega
  subst e
  rw [if_neg (by omega), drop_length]
  refine ⟨b, out, U, by omega, fun hb => ?_, ?_⟩
  subst hb; rw [if_neg (by decide)] at h3; omega
  cases b with
  | true => simp
  | false => simp [Yd7]
theorem Vg5 (hR : Rr n R) {row : Vc} (hrow : Okv n row) (hK : 1099511627776 ≤ K) (hn : n ≤ 1000000) (hl : R.length ≤ 1000000) : Zv7 K R row = some (Yn4 R row) := by
 have hro := Zq7 R row hrow
 have hz := Yg8 R row hrow hR
 unfold Zv7 Yn4
 rw [Wj0 (fun s hs => ⟨hR.ok s hs, (hR.ld s hs).1⟩) hrow (by omega) (by omega) (by omega), bind_some]
 generalize byR R row = r at *
 have hrl := hro.len
 rw [Yl7 (by omega), bind_some]
 by_cases hf : fs r < r.length
 obtain ⟨hN, hfs⟩ := Wf4 (R := R) hro (by omega) hz
 have hx := Yt4 r hf
 have hxr := hro.at (fs r)
 have hxe : rd r (fs r : Int) = at_ r (fs r) := Zl0 ..
 have hiv := Wf9 (c := at_ r (fs r)) (by omega)
 rw [if_pos hf, if_neg (by omega), if_pos (by omega), if_pos (by omega), if_pos (by omega), hxe, Wj9 hK (by omega), bind_some, Yj0, bind_some]
 have hw : i64.wrap (0 - inv (at_ r (fs r))) = -inv (at_ r (fs r)) := by rw [i64_in _ (by omega)]; omega
 have hrep : ∀ j, inF ((replicate r.length (0 : Int)).getD j 0) := fun j => by
  have : (replicate r.length (0 : Int)).getD j 0 = 0 := by
   rw [getD_eq_getElem?_getD, getElem?_replicate]; split <;> rfl
  rw [this]; unfold inF; omega
 rw [hw, Int.toNat_natCast, Xa4 hrep (fun j => hro.inF j) (by unfold inF; omega) (by simp) (by simp; omega) (by simp; omega), bind_some]
 show ((J2 K R (Yc6 r) (fs r : Int) K false 0 []).bind _) = _
 obtain ⟨b', out', g1, g2, g3, g4⟩ := Xl0 (K := K) hR hN.ok hN.ld.1 (by omega) (by omega) K 0 false [] (by omega) (by omega) (by rw [if_neg (by decide)]; simp; omega)
 rw [hfs] at g1
 rw [show ((0 : Nat) : Int) = 0 from U] at g1
 rw [g1, bind_some]
 rw [if_neg (show ¬ (false = true) by decide), drop_zero, nil_append] at g4
 rw [if_pos hf, ← g4]
 show (if b' = true then some out' else if out'.length + [Yc6 r].length ≤ 1099511627776 then some (out' ++ [Yc6 r]) else none) = _
 cases b' with
 | true => rfl
 | false => rw [if_neg (by decide), if_pos (by have := g3 U; simpa using this)]; rfl
 rw [if_neg hf, if_pos (by omega), if_neg hf]
theorem Xj2 {rows : List Vc} (hr : ∀ r, r ∈ rows → Okv n r) (hK : 1099511627776 ≤ K) (hn : n ≤ 1000000) : ∀ (k i : Nat) (out : List Vc), i ≤ rows.length → rows.length < i + k → Rr n out →
 Za8 K rows k out (i : Int) = some (.go ((rows.drop i).foldl Yn4 out))
 | 0, i, out, h1, h2, _ => by omega
 | k + 1, i, out, h1, h2, ho => by
  rw [Za8]
  by_cases hi : i < rows.length
  have hro := hr _ (getElem_mem hi)
  rw [if_pos (by omega), rdV hi, Vg5 ho hro hK hn (Nat.le_trans ho.short hn), bind_some, Yc1 hi, foldl_cons]
  exact Xj2 hr hK hn k (i + 1) _ (by omega) (by omega) (Wg0 ho hro).1
  have e : i = rows.length := by omega
  subst e
  rw [if_neg (by omega), drop_length]; rfl
theorem Yv8 {rows : List Vc} (hr : ∀ r, r ∈ rows → Okv n r) (hK : 1099511627776 ≤ K) (hn : n ≤ 1000000) (hl : rows.length ≤ 1000000) : B5 K rows = some (F7 rows) := by
 have := Xj2 (K := K) hr hK hn K 0 [] (by omega) (by omega) Xl3
 unfold B5
 rw [show ((0 : Nat) : Int) = 0 from U] at this
 rw [this, drop_zero]; rfl
/-! kernels -/
theorem Xv9 {w : Nat} {r : Vc} (m i : Nat) (hr : r.length = w) : ((([] : List Int) ++ r) ++ replicate m 0).set (w + i) 1 = r ++ Zk8 m i := by
 subst hr
 rw [nil_append, set_append_right _ _ (by omega), show r.length + i - r.length = i by omega]; rfl
theorem Wd6 {rows : List Vc} {w : Nat} (hr : ∀ r, r ∈ rows → Okv w r) (hw : w ≤ 1000000) (hl : rows.length ≤ 1000000) : ∀ (k i : Nat) (out : List Vc), i ≤ rows.length → rows.length < i + k → out.length = i →
 Za7 K rows (w : Int) k (i : Int) out = some (.go (out ++ R6 rows.length i (rows.drop i)))
 | 0, i, out, h1, h2, _ => by omega
 | k + 1, i, out, h1, h2, ho => by
  rw [Za7]
  by_cases hi : i < rows.length
  have hro := hr _ (getElem_mem hi)
  have hrl := hro.len
  have hwr : i64.wrap ((w : Int) + (i : Int)) = ((w + i : Nat) : Int) := by rw [i64_in _ (by omega)]; rfl
  rw [if_pos (by omega), rdV hi, hwr, Int.toNat_natCast, Int.toNat_natCast, if_pos (by simp; omega), if_pos ⟨by omega, by simp; omega⟩, if_pos (by omega), if_pos (by simp; omega), if_pos (by simp; omega), Xv9 _ _ hrl]
  rw [show (i : Int) + 1 = ((i + 1 : Nat) : Int) from U, Wd6 hr hw hl k (i + 1) _ (by omega) (by omega) (by simp [ho]), Yc1 hi]
  simp [R6]
  have e : i = rows.length := by omega
  subst e
  rw [if_neg (by omega), drop_length]; simp [R6]
theorem Wg1 {T : List Vc} {w m : Nat} (hT : Rr (w + m) T) (hK : 1099511627776 ≤ K) (hw : w ≤ 1000000) (hm : m ≤ 1000000) : ∀ (k i : Nat) (out : List Vc), i ≤ T.length → T.length < i + k → out.length ≤ i →
 F8 K (w : Int) T k (i : Int) out = some (.go (out ++ Zv4 w (T.drop i)))
 | 0, i, out, h1, h2, _ => by omega
 | k + 1, i, out, h1, h2, ho => by
  have hsh := hT.short
  rw [F8]
  by_cases hi : i < T.length
  have hro := hT.ok _ (getElem_mem hi)
  have hrl := hro.len
  have hld := (hT.ld _ (getElem_mem hi)).1
  rw [if_pos (by omega), rdV hi, Yl7 (by omega), if_pos (by omega), bind_some, Yc1 hi]
  have e1 : (i : Int) + 1 = ((i + 1 : Nat) : Int) := rfl
  have ih := fun o ho => Wg1 hT hK hw hm k (i + 1) o (by omega) (by omega) ho
  by_cases hf : w ≤ fs T[i]
  rw [if_pos (by omega), if_pos (by omega), if_pos (by omega), Int.toNat_natCast, if_pos (by simp; omega), if_pos (by simp; omega), e1, ih _ (by simp; omega), Xz5 hf]
  simp only [append_assoc, cons_append, nil_append]
  rw [if_neg (by omega), e1, ih _ (by omega), Xx3 hf]
  have e : i = T.length := by omega
  subst e
  rw [if_neg (by omega), drop_length]; simp [Zv4]
theorem Wm4 {rows : List Vc} {w : Nat} (hr : ∀ r, r ∈ rows → Okv w r) (hK : 1099511627776 ≤ K) (hw : w ≤ 400000) (hl : rows.length ≤ 400000) : Zp2 K rows (w : Int) = some (Xy8 rows w) := by
 have h0 := Wd6 (K := K) hr (by omega) (by omega) K 0 [] (by omega) (by omega) U
 rw [show ((0 : Nat) : Int) = 0 from U, drop_zero, nil_append] at h0
 have hwo := Zu8 (m := rows.length) rows 0 hr
 have hT := (Zj7 hwo).1
 have hsh := hT.short
 have hwl := Zr2 rows.length rows 0
 unfold Zp2
 rw [h0, bind_some]
 show ((B5 K (R6 rows.length 0 rows)).bind _) = _
 rw [Yv8 hwo hK (by omega) (by omega), bind_some]
 have h1 := Wg1 (K := K) hT hK (by omega) (by omega) K 0 [] (by omega) (by omega) (by simp)
 rw [show ((0 : Nat) : Int) = 0 from U, drop_zero, nil_append] at h1
 rw [h1, bind_some]
 show ((B5 K (Zv4 w (F7 (R6 rows.length 0 rows)))).bind _) = _
 have hql : (Zv4 w (F7 (R6 rows.length 0 rows))).length ≤ (F7 (R6 rows.length 0 rows)).length := by
  unfold Zv4; rw [length_map]; exact length_filter_le ..
 rw [Yv8 (Xb0 hT.ok) hK (by omega) (by omega), bind_some]; rfl
/-! vectors -/
def Yr1 : List A8 → MpT → List Int
 | [], _ => []
 | m :: ms, [] => 0 :: Yr1 ms []
 | m :: ms, z :: f => if eq8 z.1 m = true then z.2 :: Yr1 ms f else 0 :: Yr1 ms (z :: f)
theorem Xe6 : ∀ M : List A8, Yr1 M [] = replicate M.length 0
 | [] => rfl
 | m :: ms => by rw [Yr1, Xe6 ms]; rfl
theorem Ve2 (pre : List Int) (x : Int) (m : Nat) : (pre ++ replicate (m + 1) (0 : Int)).set pre.length x = (pre ++ [x]) ++ replicate m 0 := by
 rw [set_append_right _ _ (by omega), Nat.sub_self, replicate_succ, set_cons_zero]; simp
theorem Xz2 {M : List A8} {f : MpT} (hM : M.length ≤ 1000000) (hf : f.length ≤ 1000000) : ∀ (k i j : Nat) (pre : List Int), i ≤ M.length → M.length < i + k → j ≤ f.length → pre.length = i →
 J4 K f M k (j : Int) (i : Int) (pre ++ replicate (M.length - i) 0) = some (.go (pre ++ Yr1 (M.drop i) (f.drop j)))
 | 0, i, j, pre, h1, h2, _, _ => by omega
 | k + 1, i, j, pre, h1, h2, h3, h4 => by
  rw [J4]
  have e1 : (i : Int) + 1 = ((i + 1 : Nat) : Int) := rfl
  by_cases hi : i < M.length
  have hMi : rd M (i : Int) = M[i] := Ze7 hi
  rw [if_pos (by omega)]
  unfold Zd8
  by_cases hj : j < f.length
  have hfj : rd f (j : Int) = f[j] := Ze7 hj
  rw [if_pos (decide_eq_true (show (j : Int) < (f.length : Int) by omega)), if_pos (by omega), if_pos (by omega), if_pos (by omega), hMi, hfj, Yc1 hi, Yc1 hj, Yr1]
  have hlen : (pre ++ replicate (M.length - i) (0 : Int)).length = M.length := by simp; omega
  have e2 : M.length - i = (M.length - (i + 1)) + 1 := by omega
  by_cases he : eq8 f[j].1 M[i] = true
  have hwr : i64.wrap ((j : Int) + 1) = ((j + 1 : Nat) : Int) := by rw [i64_in _ (by omega)]; rfl
  rw [if_pos he, if_pos (by omega), if_pos he, Int.toNat_natCast, hwr, e1]
  have hs := Ve2 pre f[j].2 (M.length - (i + 1))
  rw [h4] at hs
  rw [e2, hs, Xz2 hM hf k (i + 1) (j + 1) _ (by omega) (by omega) (by omega) (by simp [h4])]
  simp
  rw [if_neg he, if_neg he, e1, e2, replicate_succ]
  have := Xz2 hM hf k (i + 1) j (pre ++ [0]) (by omega) (by omega) (by omega) (by simp [h4])
  rw [Yc1 hj] at this
  simpa using this
  have e : j = f.length := by omega
  subst e
  rw [if_neg (by rw [decide_eq_false (by omega)]; decide), drop_length, Xe6, length_drop]
  have e : i = M.length := by omega
  subst e
  rw [if_neg (by omega)]
  unfold Zd8
  rw [if_neg (by decide), drop_length, Yr1, Nat.sub_self, replicate_zero]
theorem Xm5 : ∀ (M : List A8) (f : MpT), M.Pairwise (fun a b => bef a b = true) → Srt f → (∀ z, z ∈ f → z.1 ∈ M) → Yr1 M f = Zc8 M f
 | [], f, _, _, h => rfl
 | m :: ms, [], hM, _, _ => by
  rw [Xe6]
  unfold Zc8
  have : ∀ xs : List A8, replicate xs.length (0 : Int) = xs.map fun p => N5 [] p := fun xs => by
   induction xs with
   | nil => rfl
   | cons x xs ih => rw [length_cons, replicate_succ, map_cons, ih]; rfl
  exact this _
 | m :: ms, z :: f, hM, hf, h => by
  have hM' := pairwise_cons.1 hM
  have hf' := pairwise_cons.1 hf
  rw [Yr1]
  by_cases he : eq8 z.1 m = true
  have e := Zf3.1 he
  rw [if_pos he, Xm5 ms f hM'.2 hf'.2 (fun y hy => by
   rcases mem_cons.1 (h y (mem_cons_of_mem _ hy)) with e2 | h2
   have := hf'.1 y hy
   rw [e, ← e2, Zh0] at this; cases this
   exact h2)]
  unfold Zc8
  rw [map_cons, Yo7, if_pos e.symm]
  congr 1
  refine map_congr_left fun p hp => ?_
  rw [Yo7, if_neg (fun e2 => by have := hM'.1 p hp; rw [e2, e, Zh0] at this; cases this)]
  have hne : z.1 ≠ m := fun e => he (Zf3.2 e)
  have hz : z.1 ∈ ms := by
   rcases mem_cons.1 (h z (mem_cons_self ..)) with e | h2
   exact absurd e hne
   exact h2
  have hall : ∀ y, y ∈ z :: f → y.1 ∈ ms := fun y hy => by
   rcases mem_cons.1 hy with rfl | hy
   exact hz
   rcases mem_cons.1 (h y (mem_cons_of_mem _ hy)) with e | h2
   have h3 := hf'.1 y hy
   have h4 := hM'.1 _ hz
   rw [e] at h3
   have := Zq6 h4 h3
   rw [Zh0] at this; cases this
   exact h2
  rw [if_neg he, Xm5 ms (z :: f) hM'.2 hf hall]
  unfold Zc8
  rw [map_cons, Zk4 (a := m) (fun hm => by
   obtain ⟨y, hy, e⟩ := mem_map.1 hm
   have h1 := hM'.1 _ (hall y hy)
   rw [e, Zh0] at h1; cases h1)]
theorem Xq4 {M : List A8} {f : MpT} (hK : 1099511627776 ≤ K) (hM : M.length ≤ 1000000) (hf : f.length ≤ 1000000) (hMs : M.Pairwise (fun a b => bef a b = true)) (hfs : Srt f) (h : ∀ z, z ∈ f → z.1 ∈ M) : Zb5 K f M = some (Zc8 M f) := by
 have := Xz2 (K := K) hM hf K 0 0 [] (by omega) (by omega) (by omega) U
 rw [show ((0 : Nat) : Int) = 0 from U, nil_append, nil_append, drop_zero, drop_zero, Nat.sub_zero, Xm5 M f hMs hfs h] at this
 unfold Zb5
 rw [if_pos (by omega), Int.toNat_natCast, this]; rfl
/-! forms -/
theorem Xd8 {M : List A8} {row : Vc} (hl : row.length = M.length) (hM : M.length ≤ 1000000) : ∀ (k i : Nat) (out : MpT), i ≤ M.length → M.length < i + k → out.length ≤ i →
 Za3 K row M k (i : Int) out = some (.go (out ++ Zk0 (M.drop i) (row.drop i)))
 | 0, i, out, h1, h2, _ => by omega
 | k + 1, i, out, h1, h2, ho => by
  rw [Za3]
  have e1 : (i : Int) + 1 = ((i + 1 : Nat) : Int) := rfl
  by_cases hi : i < M.length
  have hi' : i < row.length := by omega
  have hr : rd row (i : Int) = row[i] := Ze7 hi'
  rw [if_pos (by omega), if_pos (by omega), hr, Ze7 hi, Yc1 hi, Yc1 hi', Zk0]
  by_cases hz : row[i] = 0
  rw [if_pos hz, if_pos hz, e1]
  exact Xd8 hl hM k (i + 1) out (by omega) (by omega) (by omega)
  rw [if_neg hz, if_neg hz, if_pos (by simp; omega), e1, Xd8 hl hM k (i + 1) _ (by omega) (by omega) (by simp; omega)]
  simp
  have e : i = M.length := by omega
  subst e
  rw [if_neg (by omega), drop_length]
  have : row.drop M.length = [] := by rw [← hl]; exact drop_length
  rw [this]; simp [Zk0]
theorem Wt7 {M : List A8} {row : Vc} (hK : 1099511627776 ≤ K) (hl : row.length = M.length) (hM : M.length ≤ 1000000) : Zn8 K row M = some (Zk0 M row) := by
 have := Xd8 (K := K) hl hM K 0 [] (by omega) (by omega) (by simp)
 rw [show ((0 : Nat) : Int) = 0 from U, drop_zero, drop_zero, nil_append] at this
 unfold Zn8
 rw [this]; rfl
end
section
variable {K m : Nat} {a : F6} {n : Int} {R : List Vc}
theorem Wg2 (r : Vc) : ∀ (k j : Nat), j ≤ r.length → r.length < j + k → (∀ i, i < j → at_ r i = 0) →
 V7 K r (fun x => Zt3 K x) k (j : Int) = some (if fs r < r.length then .ret (fs r : Int) else .go ())
 | 0, j, h1, h2, _ => by omega
 | k + 1, j, h1, h2, h0 => by
  rw [V7]
  by_cases hj : j < r.length
  rw [if_pos (by omega), Zl0]
  unfold Zt3
  rw [bind_some]
  by_cases hz : r.getD j 0 = 0
  rw [if_neg (by rw [hz]; decide)]
  have := Wg2 r k (j + 1) (by omega) (by omega) (fun i hi => by
   by_cases e : i = j
   subst e; exact hz
   exact h0 i (by omega))
  rw [Int.natCast_add] at this
  exact this
  have e : fs r = j := Yt6 r j h0 hz
  rw [if_pos (by rw [decide_eq_false hz]; rfl), e, if_pos hj]
  have e : j = r.length := by omega
  subst e
  rw [if_neg (by omega)]
  have : fs r = r.length := Xw2 r (fun k => by
   by_cases hk : k < r.length
   exact h0 k hk
   exact Zo4 r k (by omega))
  rw [this, if_neg (by omega)]
theorem Xa6 {r : Vc} (hK : r.length < K) : Zr6 K r = some (if fs r < r.length then (fs r : Int) else -1) := by
 unfold Zr6 N9
 have := Wg2 (K := K) r K 0 (by omega) (by omega) (fun i hi => by omega)
 rw [show ((0 : Nat) : Int) = 0 from U] at this
 rw [this]
 by_cases h : fs r < r.length
 rw [if_pos h, if_pos h]; rfl
 rw [if_neg h, if_neg h]; rfl
theorem Wd1 {r : Vc} {w : Nat} (hK : r.length < K) (hw : w ≤ r.length) : Zl4 K (r.take w) = some (decide (w ≤ fs r)) := by
 have hl : (r.take w).length = w := by rw [length_take]; omega
 unfold Zl4
 rw [Xa6 (by omega), bind_some, hl]
 have h := Wg8 hw
 by_cases hf : fs r < w
 rw [if_pos (h.2 hf)]
 congr 1
 rw [decide_eq_false (show ¬ w ≤ fs r by omega)]
 exact decide_eq_false (by omega)
 rw [if_neg (fun x => hf (h.1 x))]
 congr 1
 rw [decide_eq_true (show w ≤ fs r by omega)]; rfl
theorem Wh5 {w : Nat} : ∀ (R acc : List Vc), (∀ r, r ∈ R → Okv (w + m) r ∧ 0 < w + m) → w + m < K → Yy9 K w acc R = some (acc ++ Zv4 w R)
 | [], acc, _, _ => by simp [Yy9, Zv4]
 | r :: R, acc, h, hK => by
  obtain ⟨hr, h0⟩ := h r (mem_cons_self ..)
  have hrl := hr.len
  have ih := fun acc => Wh5 R acc (fun x hx => h x (mem_cons_of_mem _ hx)) hK
  rw [Yy9, if_pos (by omega), Wd1 (by omega) (by omega), bind_some, ih]
  by_cases hf : w ≤ fs r
  rw [Xz5 hf, if_pos (decide_eq_true hf)]
  simp only [append_assoc, cons_append, nil_append]
  rw [Xx3 hf, if_neg (by simpa using hf)]
theorem Xi9 {rows : List Vc} {w : Nat} (hr : ∀ r, r ∈ rows → Okv w r) (hK : 1099511627776 ≤ K) (hw : w ≤ 400000) (hl : rows.length ≤ 400000) : Zv9 K rows (w : Int) = some (Xy8 rows w) := by
 have hwo := Zu8 (m := rows.length) rows 0 hr
 have hT := (Zj7 hwo).1
 have hsh := hT.short
 have hwl := Zr2 rows.length rows 0
 unfold Zv9
 rw [if_pos (show okK rows (w : Int) = true from decide_eq_true ⟨by omega, by omega, by omega, fun r h => by have := (hr r h).len; omega⟩), Zs0 hK hwo (by omega) (by omega), bind_some, if_pos (by omega), Int.toNat_natCast]
 have h0 : ∀ r, r ∈ F7 (R6 rows.length 0 rows) → 0 < w + rows.length := fun r hr' => by have := (hT.ld r hr').1; omega
 rw [Wh5 (m := rows.length) _ [] (fun r hr' => ⟨hT.ok r hr', h0 r hr'⟩) (by omega), bind_some, nil_append]
 have hql : (Zv4 w (F7 (R6 rows.length 0 rows))).length ≤ (F7 (R6 rows.length 0 rows)).length := by
  unfold Zv4; rw [length_map]; exact length_filter_le ..
 rw [Zs0 hK (Xb0 hT.ok) (by omega) (by omega)]; rfl
theorem Wg5 {row s : Vc} (hr : Okv m row) (hs : Okv m s) (hf : fs s < m) : tkN row s (at_ row (fs s)) s.length = if at_ row (fs s) = 0 then row else Zk7 row s (at_ row (fs s)) := by
 have hlen : (tkN row s (at_ row (fs s)) s.length).length = m := by rw [Yd3]; exact hr.len
 have hat : ∀ k, at_ (tkN row s (at_ row (fs s)) s.length) k = (at_ row k - at_ row (fs s) * at_ s k) % 10007 := fun k => by
  show (tkN _ _ _ _).getD k 0 = _
  rw [Ys1 _ _ _ _ (by rw [hs.len, hr.len]; exact Nat.le_refl _)]
  by_cases hk : k < s.length
  rw [if_pos hk]; exact Xh3 (hr.inF k) (hs.inF k) (hr.inF _)
  rw [if_neg hk]
  have z1 : at_ row k = 0 := Zo4 _ _ (by rw [hr.len, ← hs.len]; omega)
  have z2 : at_ s k = 0 := Zo4 _ _ (by omega)
  show at_ row k = _
  rw [z1, z2, Int.mul_zero]; rfl
 have hok : Okv m (tkN row s (at_ row (fs s)) s.length) := Yz1 hlen fun k _ => by rw [hat]; omega
 by_cases hz : at_ row (fs s) = 0
 rw [if_pos hz]
 refine hok.ext hr fun k => ?_
 rw [hat, hz, Int.zero_mul, Int.sub_zero]
 have := hr.at k
 omega
 rw [if_neg hz]
 refine hok.ext (Zj9 hr) fun k => ?_
 rw [hat, Zy4 (by rw [hr.len, hs.len])]
theorem Wq7 : ∀ (rows : List Vc) (row : Vc), Okv m row → (∀ s, s ∈ rows → Okv m s ∧ fs s < m) → m < K → rbL K row rows = some (byR rows row)
 | [], row, _, _, _ => rfl
 | s :: ss, row, hr, h, hK => by
  obtain ⟨hs, hf⟩ := h s (mem_cons_self ..)
  have hsl := hs.len
  have hrl := hr.len
  rw [rbL, Xa6 (by omega), if_pos (by omega), bind_some, if_pos (by omega), Zl0, byR]
  have e : row.getD (fs s) 0 = at_ row (fs s) := rfl
  rw [e, Wg5 hr hs hf]
  refine Wq7 ss _ ?_ (fun t ht => h t (mem_cons_of_mem _ ht)) hK
  split
  exact hr
  exact Zj9 hr
theorem Yp8 {row : Vc} (hK : 1099511627776 ≤ K) (hr : Okv m row) (hR : Rr m R) (hm : m ≤ 1000000) : Zd5 K row R = some (byR R row) := by
 unfold Zd5
 rw [if_pos (by have := hr.len; omega), Wq7 R row hr (fun s hs => ⟨hR.ok s hs, (hR.ld s hs).1⟩) (by omega)]
theorem Xf9 (hK : 1099511627776 ≤ K) (hR : Rr m R) (hm : m ≤ 1000000) : ∀ (ker : List Vc), (∀ r, r ∈ ker → Okv m r) → Yu5 K R ker = some (ker.map (byR R))
 | [], _ => rfl
 | r :: ker, h => by
  rw [Yu5, Yp8 hK (h r (mem_cons_self ..)) hR hm, bind_some, Xf9 hK hR hm ker (fun x hx => h x (mem_cons_of_mem _ hx)), bind_some]; rfl
/-! a degree -/
def Zj4 (a : F6) (n : Int) : Bool := decide (n < 0 ∨ (V6 a.1 n).length ≤ 120)
theorem Xa0 (h0 : 0 ≤ n) (h : Zj4 a n = true) : (V6 a.1 n).length ≤ 120 := by
 rcases of_decide_eq_true h with h | h
 omega
 exact h
def clR (a : F6) (n : Int) : List Vc := Xy8 (Zc3 a n) (V6 a.1 (n + 1)).length
def bdR (a : F6) (n : Int) : List Vc := if 0 < n then F7 (Zc3 a (n - 1)) else []
def csR (a : F6) (n : Int) : List Vc := F7 ((clR a n).map (byR (bdR a n)))
structure Dg (a : F6) (n : Int) : Prop where
 v : Vw a
 r : 0 ≤ n ∧ n ≤ 20
 f0 : Zj4 a (n - 1) = true
 f1 : Zj4 a n = true
 f2 : Zj4 a (n + 1) = true
theorem Dg.l1 (h : Dg a n) : (V6 a.1 n).length ≤ 120 := Xa0 h.r.1 h.f1
theorem Dg.l2 (h : Dg a n) : (V6 a.1 (n + 1)).length ≤ 120 := Xa0 (by have := h.r.1; omega) h.f2
theorem Zs1 (a : F6) (n : Int) : (Zc3 a n).length = (V6 a.1 n).length := by simp [Zc3]
theorem Dg.bd (h : Dg a n) : Rr (V6 a.1 n).length (bdR a n) := by
 unfold bdR
 have := h.r
 split
 have := Yd4 (n := n - 1) h.v (by omega)
 rw [Int.sub_add_cancel] at this
 exact (Zj7 this).1
 exact Xl3
theorem Dg.cl (h : Dg a n) : Rr (V6 a.1 n).length (clR a n) := by
 have hr := h.r
 have := Wf8 (Yd4 (n := n) h.v (by omega))
 rwa [Zs1] at this
theorem Dg.left (h : Dg a n) : ∀ r, r ∈ (clR a n).map (byR (bdR a n)) → Okv (V6 a.1 n).length r := fun r hr => by
 obtain ⟨s, hs, rfl⟩ := mem_map.1 hr
 exact Zq7 _ _ (h.cl.ok s hs)
theorem Dg.cs (h : Dg a n) : Rr (V6 a.1 n).length (csR a n) := (Zj7 h.left).1
theorem Vd2 (hK : 1099511627776 ≤ K) (h : Dg a n) : Yq1 K a n = some (clR a n, bdR a n, csR a n) := by
 have l1 := h.l1
 have l2 := h.l2
 have hr := h.r
 have hmat : Ye5 K a n = some (Zc3 a n) := Xb5 hK h.v (by omega) l1 l2
 have hker : Wa3 K a n = some (clR a n) := by
  unfold Wa3
  rw [hmat, bind_some, Yn2 h.v.dg (by omega) l2, bind_some, Xi9 (Yd4 h.v (by omega)) hK (by omega) (by rw [Zs1]; omega)]; rfl
 have hbd : bdN K a n = some (bdR a n) := by
  unfold bdN bdR
  by_cases hp : 0 < n
  have l0 := Xa0 (by omega) h.f0
  have hm := Yd4 (n := n - 1) h.v (by omega)
  rw [Int.sub_add_cancel] at hm
  rw [if_pos hp, if_pos hp, Xb5 hK h.v (by omega) l0 (by rw [Int.sub_add_cancel]; exact l1), bind_some, Zs0 hK hm (by omega) (by rw [Zs1]; omega)]
  rw [if_neg hp, if_neg hp]
 have hcl := h.cl.short
 unfold Yq1
 rw [if_pos (by omega), hker, bind_some, hbd, bind_some, if_pos (by omega), Xf9 hK h.bd (by omega) _ h.cl.ok, bind_some, Zs0 hK h.left (by omega) (by rw [length_map]; omega)]
 rfl
/-! the reference -/
theorem Xu2 (hd : okD a.1 = true) (hn : 0 ≤ n ∧ n ≤ 1000) : ∃ M, P4 K a.1 n = some M ∧ (M.length ≤ 120 ↔ (V6 a.1 n).length ≤ 120) ∧ ((V6 a.1 n).length ≤ 120 → M = V6 a.1 n) := by
 refine ⟨fsF a.1 a.1.length (fun _ => 0) n [], ?_, Xr6.1, fun h => Xr6.2 (by omega)⟩
 unfold P4
 rw [if_pos (show okS _ _ = true from decide_eq_true ⟨D0 hd, I7 hd, hn⟩)]
theorem Yo4 (hd : okD a.1 = true) (hn : 0 ≤ n ∧ n ≤ 1000) (h : (V6 a.1 n).length ≤ 120) : P4 K a.1 n = some (V6 a.1 n) := by
 obtain ⟨M, h1, _, h2⟩ := Xu2 (K := K) hd hn
 rw [h1, h2 h]
theorem Xp1 (hK : 1099511627776 ≤ K) (hV : Vw a) (hn : 0 ≤ n ∧ n ≤ 25) (hl : (V6 a.1 (n + 1)).length ≤ 120) : ∀ (ps : List A8), (∀ p, p ∈ ps → p ∈ V6 a.1 n) →
 Ym5 K a (V6 a.1 (n + 1)) ps = some (ps.map fun p => Zc8 (V6 a.1 (n + 1)) (dmR a p))
 | [], _ => rfl
 | p :: ps, h => by
  have hp := h p (mem_cons_self ..)
  have hm := ((Yf8 hV.dg (by omega)).1 hp).1
  have hh := Xs8 hV hn hp
  have hd : Zn6 K a [(p, 1)] = some (dmR a p) := Vj2 (ds := a.1) (imgs := a.2) (by omega) hV.dg hV.vi (Wo0 hm)
  have hsrt := Yl5 hV.dg (n := n + 1) (by omega)
  have Z4 := Wz2 hV hn hp
  have hlen : (dmR a p).length ≤ 1000000 := by
   have h1 : ((dmR a p).map Prod.fst).Nodup := Zu6 (I5 hh.nf)
   have h2 : ∀ x, x ∈ (dmR a p).map Prod.fst → x ∈ V6 a.1 (n + 1) := fun x hx => by
    obtain ⟨z, hz, rfl⟩ := mem_map.1 hx
    exact Z4 z hz
   have := Xu7 _ _ h1 h2
   rw [length_map] at this
   omega
  rw [Ym5, Xf1, bind_some, hd, bind_some, Xq4 hK (by omega) hlen hsrt (I5 hh.nf) Z4, bind_some, Xp1 hK hV hn hl ps (fun q hq => h q (mem_cons_of_mem _ hq)), bind_some]
  rfl
theorem Wh1 (hK : 1099511627776 ≤ K) (hV : Vw a) (hn : 0 ≤ n ∧ n ≤ 25) (hl : (V6 a.1 n).length ≤ 120) (hl1 : (V6 a.1 (n + 1)).length ≤ 120) : Zj2 K a n = some (Zc3 a n) := by
 unfold Zj2
 rw [if_pos (by omega), Yo4 hV.dg (by omega) hl, bind_some, Yo4 hV.dg (by omega) hl1, bind_some, if_pos (by omega), Xp1 hK hV hn hl1 _ (fun p hp => hp)]; rfl
theorem Yv4 (hd : okD a.1 = true) {t : Int} (ht : t ≤ 900) : ∀ (k : Nat) (x : Int), 0 ≤ x → x ≤ t + 1 → t + 1 - x < k →
 (E4 K a t k x = some (.go ()) ∧ ∀ m, x ≤ m → m ≤ t → (V6 a.1 m).length ≤ 120) ∨ (E4 K a t k x = some (.ret false) ∧ ∃ m, x ≤ m ∧ m ≤ t ∧ ¬ (V6 a.1 m).length ≤ 120)
 | 0, x, h0, h1, h2 => by omega
 | k + 1, x, h0, h1, h2 => by
  rw [E4]
  by_cases hx : x ≤ t
  obtain ⟨M, e, h3, _⟩ := Xu2 (K := K) hd (n := x) (by omega)
  rw [if_pos hx, e, bind_some, i64_in _ (by omega)]
  by_cases hM : (M.length : Int) ≤ 120
  have hA := h3.1 (by omega)
  rw [if_neg (by omega)]
  rcases Yv4 hd ht k (x + 1) (by omega) (by omega) (by omega) with ⟨g1, g2⟩ | ⟨g1, m, g2, g3, g4⟩
  exact .inl ⟨g1, fun m hm1 hm2 => by
   by_cases e : m = x
   rw [e]; exact hA
   exact g2 m (by omega) hm2⟩
  exact .inr ⟨g1, m, by omega, g3, g4⟩
  rw [if_pos (by omega)]
  exact .inr ⟨U, x, by omega, hx, fun h => hM (by have := h3.2 h; omega)⟩
  rw [if_neg hx]
  exact .inl ⟨U, fun m hm1 hm2 => by omega⟩
theorem Wk3 (hK : 1099511627776 ≤ K) (hd : okD a.1 = true) (hn : 0 ≤ n ∧ n ≤ 20) : Ze4 K a (n - 1) (n + 1) = some (Zj4 a (n - 1) && Zj4 a n && Zj4 a (n + 1)) := by
 unfold Ze4
 have key := Yv4 (K := K) hd (t := n + 1) (by omega) K (if n - 1 < 0 then 0 else n - 1) (by split <;> omega) (by split <;> omega) (by split <;> omega)
 rcases key with ⟨g1, g2⟩ | ⟨g1, m, g2, g3, g4⟩
 rw [g1]
 have f : ∀ m, m = n - 1 ∨ m = n ∨ m = n + 1 → Zj4 a m = true := fun m hm => decide_eq_true (by
  by_cases h0 : m < 0
  exact .inl h0
  exact .inr (g2 m (by split <;> omega) (by omega)))
 rw [f (n - 1) (.inl U), f n (.inr (.inl U)), f (n + 1) (.inr (.inr U))]; rfl
 rw [g1]
 have hm0 : 0 ≤ m ∧ n - 1 ≤ m := by split at g2 <;> omega
 have hf : Zj4 a m = false := decide_eq_false (by omega)
 have : (Zj4 a (n - 1) && Zj4 a n && Zj4 a (n + 1)) = false := by
  have hmm : m = n - 1 ∨ m = n ∨ m = n + 1 := by omega
  rcases hmm with rfl | rfl | rfl <;> rw [hf] <;> simp
 rw [this]; rfl
theorem Xe1 (hd : okD a.1 = true) (hn : n ≤ 1000) : Zb1 K a n = some (Zj4 a n) := by
 unfold Zb1
 rw [Xh0 hd hn]
 show some (decide _) = some (decide _)
 congr 1
 by_cases h0 : n < 0
 have : lsM a.1 n 120 = [] := by unfold lsM; rw [if_neg (by omega)]
 rw [this, decide_eq_true (by simp), decide_eq_true (.inl h0)]
 have := (Xr5 (ds := a.1) (n := n) (D0 hd) (by omega)).1
 refine decide_eq_decide.2 ?_
 omega
/-! forms -/
theorem Xv4 (hK : 1099511627776 ≤ K) : ∀ (M2 M1 : List A8) (row : Vc) (s : MpT), (M1 ++ M2).Pairwise (fun a b => bef a b = true) → nfm s = true → (∀ z, z ∈ s → z.1 ∈ M1) → (∀ x, x ∈ row → 0 ≤ x ∧ x < 10007) → row.length = M2.length →
 lsN K (M1 ++ M2) row M1.length s = some (s ++ Zk0 M2 row)
 | [], M1, row, s, _, _, _, _, hl => by
  have : row = [] := eq_nil_of_length_eq_zero hl
  subst this
  simp [lsN, Zk0]
 | p :: M2, M1, [], s, _, _, _, _, hl => by simp at hl
 | p :: M2, M1, x :: row, s, hM, hs, hk, hr, hl => by
  have hx := hr x (mem_cons_self ..)
  have hi : M1.length < (M1 ++ p :: M2).length := by simp
  have hrd : rd (M1 ++ p :: M2) (M1.length : Int) = p := by rw [Ze7 hi]; simp
  have e : M1 ++ p :: M2 = (M1 ++ [p]) ++ M2 := by simp
  have hb : ∀ z, z ∈ s → bef z.1 p = true := fun z hz => (pairwise_append.1 hM).2.2 _ (hk z hz) p (mem_cons_self ..)
  have hn : p ∉ s.map Prod.fst := fun h => by
   obtain ⟨z, hz, rfl⟩ := mem_map.1 h
   have := hb z hz
   rw [Zh0] at this; cases this
  rw [lsN, if_pos hi, hrd, Ym7 ⟨hs, by omega, by omega⟩, bind_some]
  have hg : N5 s p = 0 := Zk4 hn
  unfold Zk0
  unfold Zw7
  rw [hg, Int.zero_add, show x % 10007 = x by omega]
  by_cases h0 : x = 0
  rw [if_pos h0, if_pos h0]
  have hd : Zz2 s p = s := by unfold Zz2; exact Ya7 hn
  rw [hd]
  have := Xv4 hK M2 (M1 ++ [p]) row s (by rw [← e]; exact hM) hs (fun z hz => mem_append_left _ (hk z hz)) (fun y hy => hr y (mem_cons_of_mem _ hy)) (by simpa using hl)
  rw [← e, length_append] at this
  exact this
  have hsrt : Srt (s ++ [(p, x)]) := pairwise_append.2 ⟨I5 hs, pairwise_singleton _ _, fun z hz y hy => by cases mem_singleton.1 hy; exact hb z hz⟩
  rw [if_neg h0, if_neg h0, Xd9 hsrt]
  have := Xv4 hK M2 (M1 ++ [p]) row (s ++ [(p, x)]) (by rw [← e]; exact hM) (Yi7 hsrt fun z hz => by
   rcases mem_append.1 hz with hz | hz
   exact Yd1 hs z hz
   cases mem_singleton.1 hz; show 1 ≤ x ∧ x ≤ 10006; omega) (fun z hz => by
   rcases mem_append.1 hz with hz | hz
   exact mem_append_left _ (hk z hz)
   cases mem_singleton.1 hz; simp) (fun y hy => hr y (mem_cons_of_mem _ hy)) (by simpa using hl)
  rw [← e, length_append] at this
  rw [show M1.length + 1 = M1.length + [p].length from U, this]; simp
theorem Vb9 (hK : 1099511627776 ≤ K) {M : List A8} {row : Vc} (hM : M.Pairwise (fun a b => bef a b = true)) (hr : Okv M.length row) : Zu7 K M row = some (Zk0 M row) := by
 have := Xv4 hK M [] row [] hM Ya2 (fun z hz => by cases hz) hr.rng hr.len
 simpa [Zu7] using this
theorem Vj0 {ds : List Int} {M : List A8} {row : Vc} (hM : M.Pairwise (fun a b => bef a b = true)) (hr : Okv M.length row) (hm : ∀ p, p ∈ M → Mo 20 ds p) (hl : M.length ≤ 400) : VF ds (Zk0 M row) :=
 ⟨Va6 hM (n := 0) hr.rng, fun z hz => hm _ (Ym1 M row z hz).1, Nat.le_trans (Xe7 M row) hl⟩
end
end Go.Proofs.YtabofnehiclkiaaGreat
