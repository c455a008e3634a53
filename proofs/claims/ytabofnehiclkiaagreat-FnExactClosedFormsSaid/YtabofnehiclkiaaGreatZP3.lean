/- Plain laws on the pure functions. -/
import Derived.Test.YtabofnehiclkiaaGreatZP2
namespace Go.Proofs.YtabofnehiclkiaaGreat
open Go
set_option linter.unusedSimpArgs false
set_option linter.unusedVariables false
def inF (x : Int) : Prop := 0 ≤ x ∧ x ≤ 10006
theorem Wz6 {x : Int} (h : -10006 ≤ x ∧ x ≤ 10006) : fld x = x % 10007 := by
 have h1 : x.tmod 10007 = x := by
  rcases Int.le_total 0 x with h0 | h0
  rw [Int.tmod_eq_emod_of_nonneg h0]; omega
  have := Int.neg_tmod (-x) 10007
  rw [Int.neg_neg] at this
  rw [this, Int.tmod_eq_emod_of_nonneg (by omega)]; omega
 unfold fld
 rw [h1, IntWalk.i64_in _ (by omega), Int.tmod_eq_emod_of_nonneg (by omega)]
 omega
theorem Wm9 {x y f : Int} (hx : inF x) (hy : inF y) (hf : inF f) : tk1 x y f = (x - f * y) % 10007 := by
 obtain ⟨x0, x1⟩ := hx
 obtain ⟨y0, y1⟩ := hy
 obtain ⟨f0, f1⟩ := hf
 have hm0 : 0 ≤ f * y := Int.mul_nonneg f0 y0
 have hm1 : f * y ≤ 10006 * 10006 := Int.mul_le_mul f1 y1 y0 (by omega)
 unfold tk1
 rw [IntWalk.i64_in (f * y) (by omega), Int.tmod_eq_emod_of_nonneg hm0]
 generalize f * y = z at hm0 hm1
 rw [IntWalk.i64_in _ (by omega), Wz6 (by omega)]
 omega
theorem Xl4 (row other : List Int) (q : Int) : ∀ (k : Nat), k ≤ row.length → ∀ i, (tkN row other q k).getD i 0 = if i < k then tk1 (row.getD i 0) (other.getD i 0) q else row.getD i 0
 | 0, _, i => by rw [tkN, if_neg (by omega)]
 | k + 1, hk, i => by
  have ih := Xl4 row other q k (by omega)
  rw [tkN, Zf9 _ _ _ _ _ (by rw [Yi6]; omega)]
  have hr : ∀ (xs : List Int) (j : Nat), rd xs (j : Int) = xs.getD j 0 := fun xs j => by unfold rd; rw [Int.toNat_natCast]; rfl
  by_cases e : i = k
  subst e
  rw [if_pos rfl, if_pos (by omega), hr, hr, ih, if_neg (by omega)]
  rw [if_neg e, ih]
  by_cases h : i < k
  rw [if_pos h, if_pos (by omega)]
  rw [if_neg h, if_neg (by omega)]
theorem Zl4 (xs : List Int) (j : Nat) : rd xs (j : Int) = xs.getD j 0 := by unfold rd; rw [Int.toNat_natCast]; rfl
theorem Xu5 (q : Int) (row : List Int) : ∀ (k : Nat), k ≤ row.length → ∀ i, (Ze9 q row k).getD i 0 = if i < k then (IntKind.i64.wrap (row.getD i 0 * q)).tmod 10007 else row.getD i 0
 | 0, _, i => by rw [Ze9, if_neg (by omega)]
 | k + 1, hk, i => by
  have ih := Xu5 q row k (by omega)
  rw [Ze9, Zf9 _ _ _ _ _ (by rw [Yj8]; omega)]
  by_cases e : i = k
  subst e
  rw [if_pos rfl, if_pos (by omega), Zl4, ih, if_neg (by omega)]
  rw [if_neg e, ih]
  by_cases h : i < k
  rw [if_pos h, if_pos (by omega)]
  rw [if_neg h, if_neg (by omega)]
theorem Ve2 {x q : Int} (hx : inF x) (hq : inF q) : (IntKind.i64.wrap (x * q)).tmod 10007 = (x * q) % 10007 := by
 obtain ⟨x0, x1⟩ := hx
 obtain ⟨q0, q1⟩ := hq
 have hm0 : 0 ≤ x * q := Int.mul_nonneg x0 q0
 have hm1 : x * q ≤ 10006 * 10006 := Int.mul_le_mul x1 q1 q0 (by omega)
 rw [IntWalk.i64_in _ (by omega), Int.tmod_eq_emod_of_nonneg hm0]
theorem Xw1 (d : Nat) (c : Int) (R : List (List Int)) (hd : d < R.length) : ∀ (k : Nat), k ≤ R.length → ∀ i,
 (elmN d c R k).getD i [] = if i < k ∧ i ≠ d ∧ rd (R.getD i []) c ≠ 0 then tkN (R.getD i []) (R.getD d []) (rd (R.getD i []) c) (R.getD d []).length else R.getD i []
 | 0, _, i => by rw [elmN, if_neg (by omega)]
 | k + 1, hk, i => by
  have ih := Xw1 d c R hd k (by omega)
  have hkk : (elmN d c R k).getD k [] = R.getD k [] := by rw [ih, if_neg (by omega)]
  have hdd : (elmN d c R k).getD d [] = R.getD d [] := Wk2 d c R k (by omega)
  rw [elmN]
  unfold Yp8
  rw [hkk, hdd]
  by_cases hc : k ≠ d ∧ rd (R.getD k []) c ≠ 0
  rw [if_pos hc, Zf9 _ _ _ _ _ (by rw [Zw0]; omega)]
  by_cases e : i = k
  subst e
  rw [if_pos rfl, if_pos ⟨by omega, hc.1, hc.2⟩]
  rw [if_neg e, ih]
  by_cases h : i < k ∧ i ≠ d ∧ rd (R.getD i []) c ≠ 0
  rw [if_pos h, if_pos ⟨by omega, h.2⟩]
  rw [if_neg h, if_neg (fun h' => h ⟨by omega, h'.2⟩)]
  rw [if_neg hc, ih]
  by_cases h : i < k ∧ i ≠ d ∧ rd (R.getD i []) c ≠ 0
  rw [if_pos h, if_pos ⟨by omega, h.2⟩]
  rw [if_neg h]
  by_cases h' : i < k + 1 ∧ i ≠ d ∧ rd (R.getD i []) c ≠ 0
  have e : i = k := by
   by_cases hik : i < k
   exact absurd ⟨hik, h'.2⟩ h
   omega
  subst e
  exact absurd h'.2 hc
  rw [if_neg h']
def Zp2 (a b : List Int) (c : Int) (j : Nat) : List Int := (List.range a.length).map fun i => if i < j then (a.getD i 0 - c * b.getD i 0) % 10007 else 0
def Zt0 (a b : List Int) (c : Int) : List Int := Zp2 a b c a.length
theorem Wn4 (a b : List Int) (c : Int) {j : Nat} (hj : j < a.length) : (Zp2 a b c j).set j ((a.getD j 0 - c * b.getD j 0) % 10007) = Zp2 a b c (j + 1) := by
 apply List.ext_getElem
 simp [Zp2]
 intro i h1 h2
 have hi : i < a.length := by simpa [Zp2] using h2
 rw [List.getElem_set]
 simp only [Zp2, List.getElem_map, List.getElem_range]
 by_cases e : j = i
 subst e; rw [if_pos rfl, if_pos (by omega)]
 rw [if_neg e]
 by_cases h : i < j
 rw [if_pos h, if_pos (by omega)]
 rw [if_neg h, if_neg (by omega)]
theorem We2 (K : Nat) {a b : List Int} {c : Int} (ha : ∀ i, inF (a.getD i 0)) (hb : ∀ i, inF (b.getD i 0)) (hc : inF c) (hl : a.length ≤ b.length) : ∀ (k j : Nat), j ≤ a.length → a.length < j + k →
 Zb7 K a b c k (j : Int) (Zp2 a b c j) = some (.go (Zt0 a b c))
 | 0, j, h1, h2 => by omega
 | k + 1, j, h1, h2 => by
  rw [Zb7]
  by_cases hj : j < a.length
  have hlp : (Zp2 a b c j).length = a.length := by simp [Zp2]
  obtain ⟨x0, x1⟩ := ha j
  obtain ⟨y0, y1⟩ := hb j
  have hm0 : 0 ≤ c * b.getD j 0 := Int.mul_nonneg hc.1 y0
  have hm1 : c * b.getD j 0 ≤ 10006 * 10006 := Int.mul_le_mul hc.2 y1 y0 (by omega)
  rw [if_pos (by omega), if_pos (by omega), Zl4, Zl4, IntWalk.i64_in (c * b.getD j 0) (by omega), IntWalk.i64_in _ (by omega), Yg9, Option.bind_some, if_pos (by rw [hlp]; omega), Int.toNat_natCast, Wn4 a b c hj]
  have := We2 K ha hb hc hl k (j + 1) (by omega) (by omega)
  rw [Int.natCast_add] at this
  exact this
  have e : j = a.length := by omega
  subst e
  rw [if_neg (by omega)]; rfl
theorem Xj8 {K : Nat} {a b : List Int} {c : Int} (ha : ∀ i, inF (a.getD i 0)) (hb : ∀ i, inF (b.getD i 0)) (hc : inF c) (hl : a.length ≤ b.length) (hK : a.length < K) (h40 : a.length ≤ 1099511627776) : Zh0 K a b c = some (Zt0 a b c) := by
 unfold Zh0
 rw [if_pos (by omega)]
 have h0 : List.replicate ((a.length : Int)).toNat (0 : Int) = Zp2 a b c 0 := by
  rw [Int.toNat_natCast]
  apply List.ext_getElem
  simp [Zp2]
  intro i h1 h2; simp [Zp2]
 rw [h0]
 have := We2 K ha hb hc hl K 0 (by omega) (by omega)
 rw [show ((0 : Nat) : Int) = 0 from rfl] at this
 rw [this]; rfl
theorem Xs7 (K : Nat) (a : List Int) : ∀ (k j : Nat), j ≤ a.length → a.length < j + k → (∀ i, i < j → at_ a i = 0) →
 Za6 K a k (j : Int) = some (if fs a < a.length then .ret (fs a : Int) else .go ())
 | 0, j, h1, h2, _ => by omega
 | k + 1, j, h1, h2, h0 => by
  rw [Za6]
  by_cases hj : j < a.length
  rw [if_pos (by omega), Zl4]
  by_cases hz : a.getD j 0 = 0
  rw [if_pos hz]
  have := Xs7 K a k (j + 1) (by omega) (by omega) (fun i hi => by
   by_cases e : i = j
   subst e; exact hz
   exact h0 i (by omega))
  rw [Int.natCast_add] at this
  exact this
  rw [if_neg hz]
  have e : fs a = j := Yp5 a j h0 hz
  rw [e, if_pos hj]
  have e : j = a.length := by omega
  subst e
  rw [if_neg (by omega)]
  have : fs a = a.length := Xx2 a (fun k => by
   by_cases hk : k < a.length
   exact h0 k hk
   exact Zt5 a k (by omega))
  rw [this, if_neg (by omega)]
theorem Yp3 {K : Nat} {a : List Int} (hK : a.length < K) : B8 K a = some (if fs a < a.length then (fs a : Int) else -1) := by
 unfold B8
 have := Xs7 K a K 0 (by omega) (by omega) (fun i hi => by omega)
 rw [show ((0 : Nat) : Int) = 0 from rfl] at this
 rw [this]
 by_cases h : fs a < a.length
 rw [if_pos h, if_pos h]; rfl
 rw [if_neg h, if_neg h]; rfl
theorem Okv.inF {n : Nat} {v : Vc} (h : Okv n v) (k : Nat) : YtabofnehiclkiaaGreat.inF (v.getD k 0) := by
 have := h.at k
 unfold at_ at this
 unfold YtabofnehiclkiaaGreat.inF
 omega
theorem Yf2 {a b : List Int} {c : Int} (hl : a.length = b.length) (k : Nat) : at_ (Zt0 a b c) k = (at_ a k - c * at_ b k) % 10007 := by
 unfold Zt0 Zp2
 by_cases hk : k < a.length
 unfold at_
 rw [List.getD_eq_getElem?_getD, List.getElem?_map, List.getElem?_range hk]
 simp [hk]
 rw [Zt5 _ _ (by simp; omega), Zt5 a k (by omega), Zt5 b k (by omega)]
 simp
def byR : List (List Int) → List Int → List Int
 | [], r => r
 | s :: ss, r => byR ss (if at_ r (fs s) = 0 then r else Zt0 r s (at_ r (fs s)))
theorem Zv7 {n : Nat} {a b : List Int} {c : Int} (ha : Okv n a) : Okv n (Zt0 a b c) := by
 refine ⟨by unfold Zt0 Zp2; simp [ha.len], fun x hx => ?_⟩
 unfold Zt0 Zp2 at hx
 obtain ⟨i, hi, rfl⟩ := List.mem_map.1 hx
 split <;> omega
theorem Wv5 {K n : Nat} {rows : List (List Int)} (hr : ∀ s, s ∈ rows → Okv n s ∧ fs s < n) (hK : n < K) (h40 : n ≤ 1099511627776) : ∀ (k j : Nat) (r : List Int), j ≤ rows.length → rows.length < j + k → Okv n r →
 Zc3 K rows k (j : Int) r = some (.go (byR (rows.drop j) r))
 | 0, j, r, h1, h2, _ => by omega
 | k + 1, j, r, h1, h2, hro => by
  rw [Zc3]
  by_cases hj : j < rows.length
  have hrd : rd rows (j : Int) = rows[j] := by rw [Zu2 hj, Q8 hj]
  obtain ⟨hs, hf⟩ := hr _ (List.getElem_mem hj)
  have hsl := hs.len
  have hrl := hro.len
  have hfe : B8 K rows[j] = some (fs rows[j] : Int) := by rw [Yp3 (by omega), if_pos (by omega)]
  rw [if_pos (by omega), hrd, hfe, Option.bind_some, if_pos (by omega), if_pos (by omega), Zl4, show rows.drop j = rows[j] :: rows.drop (j + 1) from (List.getElem_cons_drop ..).symm, byR]
  have ih := fun r' (h : Okv n r') => Wv5 (rows := rows) hr hK h40 k (j + 1) r' (by omega) (by omega) h
  by_cases hz : at_ r (fs rows[j]) = 0
  rw [if_pos hz, if_pos (show r.getD (fs rows[j]) 0 = 0 from hz)]
  have := ih r hro
  rw [Int.natCast_add] at this
  exact this
  rw [if_neg hz, if_neg (show ¬ r.getD (fs rows[j]) 0 = 0 from hz), Xj8 (fun i => hro.inF i) (fun i => hs.inF i) (hro.inF _) (by omega) (by omega) (by omega), Option.bind_some]
  have := ih _ (Zv7 (b := rows[j]) (c := r.getD (fs rows[j]) 0) hro)
  rw [Int.natCast_add] at this
  exact this
  have e : j = rows.length := by omega
  subst e
  rw [if_neg (by omega), List.drop_length, byR]
theorem Vh9 {K n : Nat} {rows : List (List Int)} {r : List Int} (hr : ∀ s, s ∈ rows → Okv n s ∧ fs s < n) (hro : Okv n r) (hK : n < K) (hK2 : rows.length < K) (h40 : n ≤ 1099511627776) : Zv5 K r rows = some (byR rows r) := by
 unfold Zv5
 have := Wv5 (K := K) hr hK h40 K 0 r (by omega) (by omega) hro
 rw [show ((0 : Nat) : Int) = 0 from rfl] at this
 rw [this, List.drop_zero]; rfl
theorem Xh1 {n : Nat} : ∀ (rows : List (List Int)) (r : List Int), Okv n r → Okv n (byR rows r)
 | [], r, h => h
 | s :: ss, r, h => by
  rw [byR]
  refine Xh1 ss _ ?_
  split
  exact h
  exact Zv7 h
theorem Xa4 {n : Nat} {p : Nat} : ∀ (rows : List (List Int)) (r : List Int), Okv n r → (∀ s, s ∈ rows → Okv n s ∧ at_ s p = 0) → at_ (byR rows r) p = at_ r p
 | [], r, h, _ => rfl
 | s :: ss, r, h, hs => by
  obtain ⟨hso, hsp⟩ := hs s (List.mem_cons_self ..)
  rw [byR]
  by_cases hz : at_ r (fs s) = 0
  rw [if_pos hz]
  exact Xa4 ss r h (fun t ht => hs t (List.mem_cons_of_mem _ ht))
  rw [if_neg hz, Xa4 ss _ (Zv7 h) (fun t ht => hs t (List.mem_cons_of_mem _ ht)), Yf2 (by rw [h.len, hso.len]), hsp, Int.mul_zero, Int.sub_zero]
  have := h.at p
  omega
theorem Xa2 {n : Nat} : ∀ (rows : List (List Int)) (r : List Int), Okv n r → Rr n rows → ∀ s, s ∈ rows → at_ (byR rows r) (fs s) = 0
 | [], r, h, _, s, hs => by cases hs
 | t :: ts, r, h, hR, s, hs => by
  have hto := hR.ok t (List.mem_cons_self ..)
  have htl := hR.ld t (List.mem_cons_self ..)
  have hsrt := List.pairwise_cons.1 hR.srt
  have hR' : Rr n ts := ⟨fun u hu => hR.ok u (List.mem_cons_of_mem _ hu), fun u hu => hR.ld u (List.mem_cons_of_mem _ hu), hsrt.2, fun u v hu hv => hR.off u v (List.mem_cons_of_mem _ hu) (List.mem_cons_of_mem _ hv)⟩
  rw [byR]
  have hok : Okv n (if at_ r (fs t) = 0 then r else Zt0 r t (at_ r (fs t))) := by
   split
   exact h
   exact Zv7 h
  rcases List.mem_cons.1 hs with rfl | hs
  rw [Xa4 ts _ hok (fun u hu => ⟨hR'.ok u hu, hR.off s u (List.mem_cons_self ..) (List.mem_cons_of_mem _ hu) (by have := hsrt.1 u hu; omega)⟩)]
  by_cases hz : at_ r (fs s) = 0
  rw [if_pos hz]; exact hz
  rw [if_neg hz, Yf2 (by rw [h.len, hto.len]), htl.2, Int.mul_one, Int.sub_self]; rfl
  exact Xa2 ts _ hok hR' s hs
theorem Xi5 {n : Nat} : ∀ (rows : List (List Int)) (r : List Int) (T : List (List Int)), Okv n r → (∀ s, s ∈ rows → Okv n s ∧ s ∈ T) → (Sp T (at_ (byR rows r)) ↔ Sp T (at_ r))
 | [], r, T, h, _ => Iff.rfl
 | s :: ss, r, T, h, hs => by
  obtain ⟨hso, hsT⟩ := hs s (List.mem_cons_self ..)
  have hss := fun t (ht : t ∈ ss) => hs t (List.mem_cons_of_mem _ ht)
  rw [byR]
  by_cases hz : at_ r (fs s) = 0
  rw [if_pos hz]; exact Xi5 ss r T h hss
  rw [if_neg hz, Xi5 ss _ T (Zv7 h) hss]
  have he : ∀ k, Eq7 (at_ (Zt0 r s (at_ r (fs s))) k) (at_ r k - at_ r (fs s) * at_ s k) := fun k => by rw [Yf2 (by rw [h.len, hso.len])]; exact Eq7.mod _
  constructor
  intro hsp
  refine Sp.congr (hsp.plus ((Sp.row hsT).times (at_ r (fs s)))) fun k => ?_
  have := (he k).add (Eq7.refl (at_ r (fs s) * at_ s k))
  refine Eq7.symm (this.trans (Eq7.of ?_))
  omega
  intro hsp
  exact Sp.congr (hsp.lin (at_ r (fs s)) (Sp.row hsT)) he
set_option maxRecDepth 100000 in
theorem Wz3 : (List.range 10007).all (fun c => decide (c = 0) || decide (c * ivN 14 1 c 10005 % 10007 = 1)) = true := by decide +kernel
theorem Xk5 {c : Int} (hc : 1 ≤ c ∧ c ≤ 10006) : (c * inv c) % 10007 = 1 := by
 obtain ⟨m, rfl⟩ := Int.eq_ofNat_of_zero_le (show 0 ≤ c by omega)
 have h := List.all_eq_true.1 Wz3 m (List.mem_range.2 (by omega))
 rw [Bool.or_eq_true] at h
 rcases h with h | h
 have := of_decide_eq_true h; omega
 have h := of_decide_eq_true h
 unfold inv
 rw [Int.toNat_natCast, ← Int.natCast_mul]
 omega
abbrev ge (R : List Vc) (i : Nat) : Vc := R.getD i []
theorem Sp.idx {R S : List Vc} {f : Nat → Int} (h : Sp R f) (hs : ∀ i, i < R.length → Sp S (at_ (ge R i))) : Sp S f := h.sub fun r hr => by
 obtain ⟨i, hi, rfl⟩ := List.getElem_of_mem hr
 have := hs i hi
 rwa [show ge R i = R[i] from Q8 hi] at this
theorem Sp.gi {R : List Vc} {i : Nat} (hi : i < R.length) : Sp R (at_ (ge R i)) := Sp.row (by rw [show ge R i = R[i] from Q8 hi]; exact List.getElem_mem hi)
structure RI (n c d : Nat) (R : List Vc) : Prop where
 le : d ≤ R.length
 ok : ∀ i, i < R.length → Okv n (ge R i)
 ld : ∀ i, i < d → fs (ge R i) < c ∧ at_ (ge R i) (fs (ge R i)) = 1
 srt : ∀ i j, i < j → j < d → fs (ge R i) < fs (ge R j)
 off : ∀ i j, i < d → j < R.length → i ≠ j → at_ (ge R j) (fs (ge R i)) = 0
 low : ∀ i, d ≤ i → i < R.length → ∀ k, k < c → at_ (ge R i) k = 0
variable {n c d : Nat} {R S : List Vc}
theorem RI.swp {m : Nat} (h : RI n c d R) (hd : d < R.length) (ha : d ≤ m) (hm : m < R.length) : RI n c d (YtabofnehiclkiaaGreat.swp R d m []) ∧ (∀ f, Sp (YtabofnehiclkiaaGreat.swp R d m []) f ↔ Sp R f) := by
 have hg := fun k => Yi3 R d m [] hd hm k
 have hl : (YtabofnehiclkiaaGreat.swp R d m []).length = R.length := Zu5 ..
 have hp := Xr5 R d m [] hd hm
 generalize YtabofnehiclkiaaGreat.swp R d m [] = S at *
 have hk : ∀ k, k < R.length → ∃ k', k' < R.length ∧ ge S k = ge R k' ∧ (k < d → k' = k) ∧ (d ≤ k → d ≤ k') := by
  intro k hk
  by_cases h1 : k = m
  exact ⟨d, hd, by show S.getD k [] = _; rw [hg, if_pos h1], by omega, by omega⟩
  by_cases h2 : k = d
  exact ⟨m, hm, by show S.getD k [] = _; rw [hg, if_neg h1, if_pos h2], by omega, by omega⟩
  exact ⟨k, hk, by show S.getD k [] = _; rw [hg, if_neg h1, if_neg h2], fun _ => rfl, id⟩
 have hlt : ∀ k, k < d → ge S k = ge R k := fun k hkd => by
  obtain ⟨k', _, e, e1, _⟩ := hk k (by omega)
  rw [e, e1 hkd]
 refine ⟨⟨by rw [hl]; exact h.le, fun i hi => ?_, fun i hi => ?_, fun i j hij hj => ?_, fun i j hi hj hij => ?_, fun i hi hi' k hkc => ?_⟩, fun f => ⟨fun hf => hf.sub fun r hr => Sp.row (hp.mem_iff.1 hr), fun hf => hf.sub fun r hr => Sp.row (hp.mem_iff.2 hr)⟩⟩
 obtain ⟨i', h1, e, _⟩ := hk i (by omega)
 rw [e]; exact h.ok i' h1
 rw [hlt i hi]; exact h.ld i hi
 rw [hlt i (by omega), hlt j hj]; exact h.srt i j hij hj
 obtain ⟨j', h1, e, e1, e2⟩ := hk j (by omega)
 rw [hlt i hi, e]
 refine h.off i j' hi h1 ?_
 by_cases hjd : j < d
 rw [e1 hjd]; exact hij
 have := e2 (by omega); omega
 obtain ⟨i', h1, e, _, e2⟩ := hk i (by omega)
 rw [e]; exact h.low i' (e2 hi) h1 k hkc
theorem RI.elim {R' : List Vc} {q : Int} (h : RI n c d S) (hd : d < S.length) (hq : (at_ (ge S d) c * q) % 10007 = 1) (hl : R'.length = S.length)
 (hok : ∀ i, i < R'.length → Okv n (ge R' i)) (hu : ∀ k, at_ (ge R' d) k = (at_ (ge S d) k * q) % 10007)
 (he : ∀ i, i < S.length → i ≠ d → ∀ k, at_ (ge R' i) k = (at_ (ge S i) k - at_ (ge S i) c * at_ (ge R' d) k) % 10007) : RI n (c + 1) (d + 1) R' ∧ (∀ f, Sp R' f ↔ Sp S f) := by
 have ulow : ∀ k, k < c → at_ (ge R' d) k = 0 := fun k hk => by rw [hu, h.low d (Nat.le_refl _) hd k hk, Int.zero_mul]; rfl
 have uc : at_ (ge R' d) c = 1 := by rw [hu, hq]
 have fu : fs (ge R' d) = c := Yp5 _ _ ulow (by rw [uc]; decide)
 have stay : ∀ i, i < S.length → i ≠ d → ∀ k, k < c → at_ (ge R' i) k = at_ (ge S i) k := fun i hi hid k hk => by
  rw [he i hi hid, ulow k hk, Int.mul_zero, Int.sub_zero]
  have := (h.ok i hi).at k
  omega
 have fsi : ∀ i, i < d → fs (ge R' i) = fs (ge S i) := fun i hi => by
  obtain ⟨l1, l2⟩ := h.ld i hi
  refine Yp5 _ _ (fun j hj => ?_) ?_
  rw [stay i (by omega) (by omega) j (by omega)]; exact Zi3 _ _ hj
  rw [stay i (by omega) (by omega) _ l1, l2]; decide
 have col : ∀ i, i < S.length → i ≠ d → at_ (ge R' i) c = 0 := fun i hi hid => by
  rw [he i hi hid, uc, Int.mul_one, Int.sub_self]; rfl
 refine ⟨⟨by omega, hok, fun i hi => ?_, fun i j hij hj => ?_, fun i j hi hj hij => ?_, fun i hi hi' k hk => ?_⟩, fun f => ⟨fun hf => ?_, fun hf => ?_⟩⟩
 by_cases e : i = d
 subst e; rw [fu, uc]; exact ⟨by omega, rfl⟩
 obtain ⟨l1, l2⟩ := h.ld i (by omega)
 rw [fsi i (by omega), stay i (by omega) e _ l1]
 exact ⟨by omega, l2⟩
 by_cases e : j = d
 subst e; rw [fu, fsi i hij]; exact (h.ld i hij).1
 rw [fsi i (by omega), fsi j (by omega)]; exact h.srt i j hij (by omega)
 by_cases e : i = d
 subst e; rw [fu]; exact col j (by omega) (fun e => hij e.symm)
 have hid : i < d := by omega
 obtain ⟨l1, l2⟩ := h.ld i hid
 rw [fsi i hid]
 by_cases ej : j = d
 subst ej; exact ulow _ l1
 rw [stay j (by omega) ej _ l1]; exact h.off i j hid (by omega) hij
 by_cases e : k = c
 subst e; exact col i (by omega) (by omega)
 rw [stay i (by omega) (by omega) k (by omega)]; exact h.low i (by omega) (by omega) k (by omega)
 refine hf.idx fun i hi => ?_
 have hud : Sp S (at_ (ge R' d)) := ((Sp.gi hd).times q).congr fun k => by
  rw [hu]; exact (Eq7.mod _).trans (Eq7.of (Int.mul_comm ..))
 by_cases e : i = d
 subst e; exact hud
 refine ((Sp.gi (show i < S.length by omega)).lin (at_ (ge S i) c) hud).congr fun k => ?_
 rw [he i (by omega) e]; exact Eq7.mod _
 refine hf.idx fun i hi => ?_
 have hud : Sp R' (at_ (ge R' d)) := Sp.gi (by omega)
 by_cases e : i = d
 subst e
 refine (hud.times (at_ (ge S i) c)).congr fun k => ?_
 have h1 : Eq7 (at_ (ge S i) c * at_ (ge R' i) k) (at_ (ge S i) c * (at_ (ge S i) k * q)) := (Eq7.refl _).mul (by rw [hu]; exact Eq7.mod _)
 have h2 : at_ (ge S i) c * (at_ (ge S i) k * q) = at_ (ge S i) c * q * at_ (ge S i) k := by
  rw [Int.mul_comm (at_ (ge S i) k) q, Int.mul_assoc]
 have h3 : Eq7 (at_ (ge S i) c * q * at_ (ge S i) k) (1 * at_ (ge S i) k) := Eq7.mul (by unfold Eq7; rw [hq]; rfl) (Eq7.refl _)
 rw [Int.one_mul] at h3
 exact ((h1.trans (Eq7.of h2)).trans h3).symm
 refine ((Sp.gi (R := R') (show i < R'.length by omega)).plus (hud.times (at_ (ge S i) c))).congr fun k => ?_
 have h1 : Eq7 (at_ (ge R' i) k) (at_ (ge S i) k - at_ (ge S i) c * at_ (ge R' d) k) := by rw [he i hi e]; exact Eq7.mod _
 have h2 := h1.add (Eq7.refl (at_ (ge S i) c * at_ (ge R' d) k))
 exact (h2.trans (Eq7.of (by omega))).symm
theorem We1 (c : Int) : ∀ (rs : List (List Int)) (k : Nat), fi c rs k < 0 → ∀ i, i < rs.length → rd (rs.getD i []) c = 0
 | [], k, h, i, hi => by simp at hi
 | r :: rs, k, h, i, hi => by
  unfold fi at h
  by_cases e : rd r c = 0
  rw [if_pos e] at h
  cases i with
  | zero => simpa using e
  | succ i => have := We1 c rs (k + 1) h i (by simpa using hi); simpa using this
  rw [if_neg e] at h; omega
theorem Xn9 {α : Type} (xs : List α) (d i : Nat) (z : α) : (xs.drop d).getD i z = xs.getD (d + i) z := by
 rw [List.getD_eq_getElem?_getD, List.getElem?_drop, ← List.getD_eq_getElem?_getD]
theorem RI.keep (h : RI n c d R) (hz : ∀ i, d ≤ i → i < R.length → at_ (ge R i) c = 0) : RI n (c + 1) d R :=
 ⟨h.le, h.ok, fun i hi => ⟨by have := (h.ld i hi).1; omega, (h.ld i hi).2⟩, h.srt, h.off, fun i hi hi' k hk => by
  by_cases e : k = c
  subst e; exact hz i hi hi'
  exact h.low i hi hi' k (by omega)⟩
theorem Xv5 {v : Vc} (hl : v.length = n) (h : ∀ k, k < n → 0 ≤ at_ v k ∧ at_ v k < 10007) : Okv n v := ⟨hl, fun x hx => by
 obtain ⟨i, hi, rfl⟩ := List.getElem_of_mem hx
 have := h i (by omega)
 unfold at_ at this
 rw [Q8 hi] at this
 exact this⟩
theorem RI.step {K : Nat} (hK : 1099511627776 ≤ K) (h : RI n c d R) (hd : d < R.length) (hc : c < n) :
 ∃ R' d', Wf7 K R d (c : Int) = some (R', d') ∧ RI n (c + 1) d' R' ∧ (∀ f, Sp R' f ↔ Sp R f) ∧ R'.length = R.length := by
 unfold Wf7
 by_cases hf : fi (c : Int) (R.drop d) 0 < 0
 rw [if_pos hf]
 refine ⟨R, d, rfl, h.keep fun i hi hi' => ?_, fun f => Iff.rfl, rfl⟩
 have := We1 (c : Int) (R.drop d) 0 hf (i - d) (by rw [List.length_drop]; omega)
 rw [Xn9, show d + (i - d) = i by omega, Zl4] at this
 exact this
 rw [if_neg hf]
 rcases Wh2 (c : Int) (R.drop d) 0 with h1 | ⟨j, h1, h2, h3, _⟩
 rw [h1] at hf; exact absurd (by decide) hf
 rw [h1, Int.toNat_natCast, Nat.zero_add]
 rw [List.length_drop] at h2
 obtain ⟨hS, hsp⟩ := h.swp hd (Nat.le_add_right d j) (show d + j < R.length by omega)
 have hl : (YtabofnehiclkiaaGreat.swp R d (d + j) []).length = R.length := Zu5 ..
 have hx : at_ (ge (YtabofnehiclkiaaGreat.swp R d (d + j) []) d) c ≠ 0 := by
  have e : ge (YtabofnehiclkiaaGreat.swp R d (d + j) []) d = ge R (d + j) := by
   show (YtabofnehiclkiaaGreat.swp R d (d + j) []).getD d [] = _
   rw [Yi3 R d (d + j) [] hd (by omega)]
   by_cases hj : d = d + j
   rw [if_pos hj]; show R.getD d [] = R.getD (d + j) []; rw [← hj]
   rw [if_neg hj, if_pos rfl]
  rw [e]
  rw [Xn9, Zl4] at h3
  exact h3
 generalize YtabofnehiclkiaaGreat.swp R d (d + j) [] = S at *
 have hdS : d < S.length := by omega
 have hso := hS.ok d hdS
 have hcr := hso.at c
 have hlen : (S.getD d []).length = n := hso.len
 rw [Zl4, Wh9 hK (show 1 ≤ (S.getD d []).getD c 0 ∧ (S.getD d []).getD c 0 ≤ 10006 by
  have : (S.getD d []).getD c 0 = at_ (ge S d) c := rfl
  omega), Option.bind_some]
 have hiv := Wc4 (c := at_ (ge S d) c) (by omega)
 have hq := Xk5 (c := at_ (ge S d) c) (by omega)
 show ∃ R' d', some (elmN d (c : Int) (S.set d (Ze9 (inv (at_ (ge S d) c)) (S.getD d []) (S.getD d []).length)) R.length, d + 1) = some (R', d') ∧ _
 generalize inv (at_ (ge S d) c) = q at *
 have hu0 : ∀ k, (Ze9 q (S.getD d []) (S.getD d []).length).getD k 0 = (at_ (ge S d) k * q) % 10007 := fun k => by
  rw [Xu5 _ _ _ (Nat.le_refl _)]
  by_cases hk : k < (S.getD d []).length
  rw [if_pos hk]; exact Ve2 (hso.inF k) (by unfold inF; omega)
  rw [if_neg hk]
  have : at_ (ge S d) k = 0 := Zt5 _ _ (Nat.le_of_not_lt hk)
  show at_ (ge S d) k = _
  rw [this, Int.zero_mul]; rfl
 have hul : (Ze9 q (S.getD d []) (S.getD d []).length).length = n := by rw [Yj8]; exact hso.len
 generalize Ze9 q (S.getD d []) (S.getD d []).length = u at *
 have huo : Okv n u := Xv5 hul fun k hk => by
  show 0 ≤ u.getD k 0 ∧ u.getD k 0 < 10007
  rw [hu0]; omega
 have hT : ∀ i, (S.set d u).getD i [] = if i = d then u else S.getD i [] := fun i => Zf9 _ _ _ _ _ hdS
 have hTl : (S.set d u).length = R.length := by rw [List.length_set]; omega
 have hg := fun i => Xw1 d (c : Int) (S.set d u) (by omega) R.length (by omega) i
 have hRl : (elmN d (c : Int) (S.set d u) R.length).length = R.length := by rw [Zw0]; omega
 generalize elmN d (c : Int) (S.set d u) R.length = R' at *
 have hd' : ge R' d = u := by
  show R'.getD d [] = u
  rw [hg, if_neg (by omega), hT, if_pos rfl]
 have hi' : ∀ i, i < S.length → i ≠ d → Okv n (ge R' i) ∧ ∀ k, at_ (ge R' i) k = (at_ (ge S i) k - at_ (ge S i) c * at_ u k) % 10007 := by
  intro i hi hid
  have hsi := hS.ok i hi
  have e1 : (S.set d u).getD i [] = ge S i := by rw [hT, if_neg hid]
  have e2 : (S.set d u).getD d [] = u := by rw [hT, if_pos rfl]
  have hgi := hg i
  rw [e1, e2, Zl4] at hgi
  by_cases hz : at_ (ge S i) c = 0
  rw [if_neg (fun hh => hh.2.2 hz)] at hgi
  have e : ge R' i = ge S i := hgi
  rw [e]
  refine ⟨hsi, fun k => ?_⟩
  rw [hz, Int.zero_mul, Int.sub_zero]
  have := hsi.at k
  omega
  rw [if_pos ⟨by omega, hid, hz⟩] at hgi
  have e : ge R' i = tkN (ge S i) u (at_ (ge S i) c) u.length := hgi
  have ha : ∀ k, at_ (ge R' i) k = (at_ (ge S i) k - at_ (ge S i) c * at_ u k) % 10007 := fun k => by
   rw [e]
   show (tkN _ _ _ _).getD k 0 = _
   rw [Xl4 _ _ _ _ (by rw [hul, hsi.len]; exact Nat.le_refl _)]
   by_cases hk : k < u.length
   rw [if_pos hk]; exact Wm9 (hsi.inF k) (huo.inF k) (hsi.inF c)
   rw [if_neg hk]
   have z1 : at_ (ge S i) k = 0 := Zt5 _ _ (by rw [hsi.len]; omega)
   have z2 : at_ u k = 0 := Zt5 _ _ (by omega)
   show at_ (ge S i) k = _
   rw [z1, z2, Int.mul_zero]; rfl
  refine ⟨Xv5 (by rw [e, Yi6]; exact hsi.len) fun k _ => ?_, ha⟩
  rw [ha]; omega
 obtain ⟨hE, hE2⟩ := hS.elim (R' := R') (q := q) hdS hq (by omega) (fun i hi => by
  by_cases e : i = d
  subst e; rw [hd']; exact huo
  exact (hi' i (by omega) e).1) (fun k => by rw [hd']; exact hu0 k) (fun i hi hid k => by rw [hd']; exact (hi' i hi hid).2 k)
 exact ⟨R', d + 1, rfl, hE, fun f => (hE2 f).trans (hsp f), by omega⟩
theorem RI.fin (h : RI n c d R) (he : c = n ∨ d = R.length) (hc : c ≤ n) : Rr n (R.take d) ∧ (∀ f, Sp (R.take d) f ↔ Sp R f) := by
 have hle := h.le
 have hm : ∀ r, r ∈ R.take d → ∃ i, i < d ∧ r = ge R i := fun r hr => by
  obtain ⟨i, hi, rfl⟩ := List.getElem_of_mem hr
  rw [List.length_take] at hi
  exact ⟨i, by omega, by rw [List.getElem_take]; exact (Q8 (show i < R.length by omega)).symm⟩
 refine ⟨⟨fun r hr => ?_, fun r hr => ?_, ?_, fun r s hr hs hne => ?_⟩, fun f => ⟨fun hf => hf.sub fun r hr => Sp.row (List.mem_of_mem_take hr), fun hf => hf.idx fun i hi => ?_⟩⟩
 obtain ⟨i, hi, rfl⟩ := hm r hr
 exact h.ok i (by omega)
 obtain ⟨i, hi, rfl⟩ := hm r hr
 have := h.ld i hi
 exact ⟨by omega, this.2⟩
 rw [List.pairwise_iff_getElem]
 intro i j hi hj hij
 rw [List.length_take] at hi hj
 rw [List.getElem_take, List.getElem_take]
 have := h.srt i j hij (by omega)
 rw [show ge R i = R[i]'(by omega) from Q8 (by omega), show ge R j = R[j]'(by omega) from Q8 (by omega)] at this
 exact this
 obtain ⟨i, hi, rfl⟩ := hm r hr
 obtain ⟨j, hj, rfl⟩ := hm s hs
 exact h.off i j hi (by omega) (fun e => hne (by rw [e]))
 by_cases hid : i < d
 refine Sp.row ?_
 rw [show ge R i = R[i] from Q8 hi]
 exact List.mem_take_iff_getElem.2 ⟨i, by omega, rfl⟩
 refine Sp.zero fun k => Eq7.of ?_
 have hc' : c = n := by omega
 by_cases hk : k < n
 exact h.low i (by omega) hi k (by omega)
 exact Zt5 _ _ (by rw [(h.ok i hi).len]; omega)
theorem Wd8 {K : Nat} (hK : 1099511627776 ≤ K) : ∀ (j : Nat) (R : List Vc) (d : Nat), j ≤ n → RI n (n - j) d R → ∃ T, Ym4 K n j R d = some T ∧ Rr n T ∧ ∀ f, Sp T f ↔ Sp R f
 | 0, R, d, _, h => ⟨R.take d, rfl, h.fin (.inl (Nat.sub_zero _)) (Nat.sub_le ..)⟩
 | j + 1, R, d, hj, h => by
  rw [Ym4]
  by_cases hd : d < R.length
  rw [if_pos hd]
  obtain ⟨R', d', e, h', hs, hl⟩ := h.step hK hd (by omega)
  rw [e, Option.bind_some]
  rw [show n - (j + 1) + 1 = n - j by omega] at h'
  obtain ⟨T, e2, hr, hs2⟩ := Wd8 hK j R' d' (by omega) h'
  exact ⟨T, e2, hr, fun f => (hs2 f).trans (hs f)⟩
  rw [if_neg hd]
  have := h.le
  obtain ⟨a, b⟩ := h.fin (.inr (by omega)) (by omega)
  exact ⟨_, rfl, a, b⟩
theorem Xy5 {K : Nat} (hK : 1099511627776 ≤ K) (h : ∀ r, r ∈ R → Okv n r) (hn : n ≤ 1099511627776) (hl : R.length ≤ 1099511627776) : ∃ T, Za8 K R = some T ∧ Rr n T ∧ ∀ f, Sp T f ↔ Sp R f := by
 cases R with
 | nil => exact ⟨[], rfl, ⟨fun r hr => (by cases hr), fun r hr => (by cases hr), .nil, fun r s hr => (by cases hr)⟩, fun f => Iff.rfl⟩
 | cons r0 R0 =>
  have h0 : ((r0 :: R0).getD 0 []).length = n := (h r0 (List.mem_cons_self ..)).len
  unfold Za8
  have hok : okR (r0 :: R0) = true := by
   unfold okR
   refine decide_eq_true ⟨hl, by rw [h0]; exact hn, fun r hr => by rw [h0, (h r hr).len]⟩
  rw [if_pos hok, h0]
  refine Wd8 hK n _ 0 (Nat.le_refl _) ⟨Nat.zero_le _, fun i hi => ?_, fun i hi => by omega, fun i j _ hj => by omega, fun i j hi => by omega, fun i _ hi k hk => by omega⟩
  rw [show ge (r0 :: R0) i = (r0 :: R0)[i] from Q8 hi]
  exact h _ (List.getElem_mem hi)
variable {n : Nat} {R : List Vc}
def Yd3 (u s : Vc) : Vc := Zt0 s u (at_ s (fs u))
def Yb3 (u : Vc) : List Vc → List Vc
 | [] => [u]
 | s :: ss => if fs u < fs s then u :: (s :: ss).map (Yd3 u) else Yd3 u s :: Yb3 u ss
theorem Zp9 (u : Vc) : ∀ (R : List Vc) (x : Vc), x ∈ Yb3 u R ↔ x = u ∨ ∃ s, s ∈ R ∧ x = Yd3 u s
 | [], x => by unfold Yb3; simp
 | s :: ss, x => by
  unfold Yb3
  split
  rw [List.mem_cons, List.mem_map]
  exact ⟨fun h => h.imp_right fun ⟨a, h1, h2⟩ => ⟨a, h1, h2.symm⟩, fun h => h.imp_right fun ⟨a, h1, h2⟩ => ⟨a, h1, h2.symm⟩⟩
  rw [List.mem_cons, Zp9 u ss x]
  constructor
  rintro (h | h | ⟨a, h1, h2⟩)
  exact .inr ⟨s, List.mem_cons_self .., h⟩
  exact .inl h
  exact .inr ⟨a, List.mem_cons_of_mem _ h1, h2⟩
  rintro (h | ⟨a, h1, h2⟩)
  exact .inr (.inl h)
  rcases List.mem_cons.1 h1 with rfl | h1
  exact .inl h2
  exact .inr (.inr ⟨a, h1, h2⟩)
structure Nw (n : Nat) (R : List Vc) (u : Vc) : Prop where
 ok : Okv n u
 ld : fs u < n ∧ at_ u (fs u) = 1
 z : ∀ s, s ∈ R → at_ u (fs s) = 0
theorem Nw.ne {u : Vc} (h : Nw n R u) {s : Vc} (hs : s ∈ R) : fs s ≠ fs u := fun e => by
 have h1 := h.z s hs
 have h2 := h.ld.2
 rw [e, h2] at h1; exact absurd h1 (by decide)
theorem Yn3 {u s : Vc} (hu : Okv n u) (hs : Okv n s) (k : Nat) : at_ (Yd3 u s) k = (at_ s k - at_ s (fs u) * at_ u k) % 10007 := Yf2 (by rw [hu.len, hs.len]) k
theorem Nw.sub_le {u s : Vc} (h : Nw n R u) (hR : Rr n R) (hs : s ∈ R) {k : Nat} (hk : k ≤ fs s) : at_ (Yd3 u s) k = at_ s k := by
 have hso := hR.ok s hs
 rw [Yn3 h.ok hso]
 have hr := hso.at k
 have hz : at_ s (fs u) * at_ u k = 0 := by
  by_cases hlt : fs u < fs s
  rw [Zi3 s _ hlt, Int.zero_mul]
  have := h.ne hs
  rw [Zi3 u k (by omega), Int.mul_zero]
 rw [hz, Int.sub_zero]; omega
theorem Nw.sub_fs {u s : Vc} (h : Nw n R u) (hR : Rr n R) (hs : s ∈ R) : fs (Yd3 u s) = fs s := by
 refine Yp5 _ _ (fun j hj => ?_) ?_
 rw [h.sub_le hR hs (by omega)]; exact Zi3 _ _ hj
 rw [h.sub_le hR hs (Nat.le_refl _), (hR.ld s hs).2]; decide
theorem Nw.sub_p {u s : Vc} (h : Nw n R u) (hR : Rr n R) (hs : s ∈ R) : at_ (Yd3 u s) (fs u) = 0 := by
 rw [Yn3 h.ok (hR.ok s hs), h.ld.2, Int.mul_one, Int.sub_self]; rfl
theorem Xy2 (u : Vc) : ∀ (R : List Vc), R.Pairwise (fun a b => fs a < fs b) → (∀ s, s ∈ R → fs s ≠ fs u ∧ fs (Yd3 u s) = fs s) → (Yb3 u R).Pairwise (fun a b => fs a < fs b)
 | [], _, _ => List.pairwise_singleton ..
 | s :: ss, hR, h => by
  have hR' := List.pairwise_cons.1 hR
  unfold Yb3
  obtain ⟨h1, h2⟩ := h s (List.mem_cons_self ..)
  split
  rename_i hlt
  refine List.pairwise_cons.2 ⟨fun x hx => ?_, ?_⟩
  obtain ⟨a, ha, rfl⟩ := List.mem_map.1 hx
  rw [(h a ha).2]
  rcases List.mem_cons.1 ha with rfl | ha
  exact hlt
  have := hR'.1 a ha; omega
  rw [List.pairwise_map]
  refine List.Pairwise.imp_of_mem (fun {a b} ha hb hab => ?_) hR
  rw [(h a ha).2, (h b hb).2]; exact hab
  refine List.pairwise_cons.2 ⟨fun x hx => ?_, Xy2 u ss hR'.2 fun t ht => h t (List.mem_cons_of_mem _ ht)⟩
  rw [h2]
  rcases (Zp9 u ss x).1 hx with rfl | ⟨a, ha, rfl⟩
  omega
  rw [(h a (List.mem_cons_of_mem _ ha)).2]; exact hR'.1 a ha
theorem Nw.rr {u : Vc} (h : Nw n R u) (hR : Rr n R) : Rr n (Yb3 u R) := by
 refine ⟨fun r hr => ?_, fun r hr => ?_, Xy2 u R hR.srt fun s hs => ⟨h.ne hs, h.sub_fs hR hs⟩, fun r s hr hs hne => ?_⟩
 rcases (Zp9 u R r).1 hr with rfl | ⟨a, ha, rfl⟩
 exact h.ok
 exact Zv7 (hR.ok a ha)
 rcases (Zp9 u R r).1 hr with rfl | ⟨a, ha, rfl⟩
 exact h.ld
 rw [h.sub_fs hR ha, h.sub_le hR ha (Nat.le_refl _)]; exact hR.ld a ha
 rcases (Zp9 u R r).1 hr with rfl | ⟨a, ha, rfl⟩
 rcases (Zp9 r R s).1 hs with rfl | ⟨b, hb, rfl⟩
 exact absurd rfl hne
 exact h.sub_p hR hb
 rw [h.sub_fs hR ha] at hne ⊢
 rcases (Zp9 u R s).1 hs with rfl | ⟨b, hb, rfl⟩
 exact h.z a ha
 rw [h.sub_fs hR hb] at hne
 rw [Yn3 h.ok (hR.ok b hb), h.z a ha, Int.mul_zero, Int.sub_zero, hR.off a b ha hb hne]; rfl
theorem Nw.sp {u : Vc} (h : Nw n R u) (hR : Rr n R) (f : Nat → Int) : Sp (Yb3 u R) f ↔ Sp (u :: R) f := by
 constructor
 refine fun hf => hf.sub fun r hr => ?_
 rcases (Zp9 u R r).1 hr with rfl | ⟨a, ha, rfl⟩
 exact Sp.row (List.mem_cons_self ..)
 refine ((Sp.row (List.mem_cons_of_mem _ ha)).lin (at_ a (fs u)) (Sp.row (List.mem_cons_self ..))).congr fun k => ?_
 rw [Yn3 h.ok (hR.ok a ha)]; exact Eq7.mod _
 refine fun hf => hf.sub fun r hr => ?_
 have hu : Sp (Yb3 u R) (at_ u) := Sp.row ((Zp9 u R u).2 (.inl rfl))
 rcases List.mem_cons.1 hr with rfl | hr
 exact hu
 refine ((Sp.row ((Zp9 u R _).2 (.inr ⟨r, hr, rfl⟩))).plus (hu.times (at_ r (fs u)))).congr fun k => ?_
 rw [Yn3 h.ok (hR.ok r hr)]
 have h2 := (Eq7.mod (at_ r k - at_ r (fs u) * at_ u k)).add (Eq7.refl (at_ r (fs u) * at_ u k))
 exact (h2.trans (Eq7.of (by omega))).symm
def Ya5 (r : Vc) : Vc := Zt0 (List.replicate r.length 0) r ((-inv (at_ r (fs r))) % 10007)
theorem Wd9 {r : Vc} (k : Nat) : at_ (Ya5 r) k = (0 - ((-inv (at_ r (fs r))) % 10007) * at_ r k) % 10007 := by
 unfold Ya5
 rw [Yf2 (by simp)]
 congr 2
 unfold at_
 by_cases hk : k < (List.replicate r.length (0 : Int)).length
 rw [Q8 hk, List.getElem_replicate]
 rw [List.getD_eq_getElem?_getD, List.getElem?_eq_none (by omega)]; rfl
theorem Xl9 {r : Vc} (k : Nat) : Eq7 (at_ (Ya5 r) k) (inv (at_ r (fs r)) * at_ r k) := by
 rw [Wd9]
 refine (Eq7.mod _).trans ?_
 have h1 : Eq7 ((-inv (at_ r (fs r))) % 10007 * at_ r k) ((-inv (at_ r (fs r))) * at_ r k) := (Eq7.mod _).mul (Eq7.refl _)
 refine ((Eq7.refl 0).sub h1).trans (Eq7.of ?_)
 rw [Int.neg_mul]; omega
def Yj6 (rows : List Vc) (row : Vc) : List Vc := if fs (byR rows row) < (byR rows row).length then Yb3 (Ya5 (byR rows row)) rows else rows
theorem Wc6 {r : Vc} (hr : Okv n r) (hf : fs r < n) (hz : ∀ s, s ∈ R → at_ r (fs s) = 0) : Nw n R (Ya5 r) ∧ fs (Ya5 r) = fs r := by
 have hx := Yx2 r (by rw [hr.len]; exact hf)
 have hxr := hr.at (fs r)
 have ho : Okv n (Ya5 r) := by
  unfold Ya5
  refine ⟨by unfold Zt0 Zp2; simp [hr.len], fun x hx => ?_⟩
  unfold Zt0 Zp2 at hx
  obtain ⟨i, hi, rfl⟩ := List.mem_map.1 hx
  split <;> omega
 have h1 : at_ (Ya5 r) (fs r) = 1 := by
  have e := Xl9 (r := r) (fs r)
  have := Xk5 (c := at_ r (fs r)) (by omega)
  have ho' := ho.at (fs r)
  rw [Int.mul_comm] at this
  unfold Eq7 at e
  rw [this] at e
  omega
 have h0 : ∀ k, at_ r k = 0 → at_ (Ya5 r) k = 0 := fun k hk => by rw [Wd9, hk, Int.mul_zero]; rfl
 have hfs : fs (Ya5 r) = fs r := Yp5 _ _ (fun j hj => h0 j (Zi3 _ _ hj)) (by rw [h1]; decide)
 exact ⟨⟨ho, by rw [hfs]; exact ⟨hf, h1⟩, fun s hs => h0 _ (hz s hs)⟩, hfs⟩
theorem Yy0 {a b : Vc} (hab : Sp (b :: R) (at_ a)) {f : Nat → Int} (h : Sp (a :: R) f) : Sp (b :: R) f := h.sub fun r hr => by
 rcases List.mem_cons.1 hr with rfl | hr
 exact hab
 exact Sp.row (List.mem_cons_of_mem _ hr)
theorem Wc7 (hR : Rr n R) {row : Vc} (hrow : Okv n row) : Rr n (Yj6 R row) ∧ (∀ f, Sp (Yj6 R row) f ↔ Sp (row :: R) f) := by
 have hro := Xh1 R row hrow
 have hz := Xa2 R row hrow hR
 have e1 : Sp (row :: R) (at_ (byR R row)) := (Xi5 R row (row :: R) hrow fun s hs => ⟨hR.ok s hs, List.mem_cons_of_mem _ hs⟩).2 (Sp.row (List.mem_cons_self ..))
 have e2 : Sp (byR R row :: R) (at_ row) := (Xi5 R row (byR R row :: R) hrow fun s hs => ⟨hR.ok s hs, List.mem_cons_of_mem _ hs⟩).1 (Sp.row (List.mem_cons_self ..))
 have hsw : ∀ f, Sp (byR R row :: R) f ↔ Sp (row :: R) f := fun f => ⟨Yy0 e1, Yy0 e2⟩
 unfold Yj6
 generalize byR R row = r at *
 rw [hro.len]
 by_cases hf : fs r < n
 rw [if_pos hf]
 obtain ⟨hN, hfs⟩ := Wc6 (R := R) hro hf hz
 refine ⟨hN.rr hR, fun f => (hN.sp hR f).trans (Iff.trans ⟨Yy0 ?_, Yy0 ?_⟩ (hsw f))⟩
 refine ((Sp.row (List.mem_cons_self ..)).times (inv (at_ r (fs r)))).congr fun k => Xl9 k
 refine ((Sp.row (List.mem_cons_self ..)).times (at_ r (fs r))).congr fun k => ?_
 have hx := Yx2 r (by rw [hro.len]; exact hf)
 have hxr := hro.at (fs r)
 have hq := Xk5 (c := at_ r (fs r)) (by omega)
 have h1 : Eq7 (at_ r (fs r) * at_ (Ya5 r) k) (at_ r (fs r) * (inv (at_ r (fs r)) * at_ r k)) := (Eq7.refl _).mul (Xl9 k)
 rw [← Int.mul_assoc] at h1
 have h3 : Eq7 (at_ r (fs r) * inv (at_ r (fs r)) * at_ r k) (1 * at_ r k) := Eq7.mul (by unfold Eq7; rw [hq]; rfl) (Eq7.refl _)
 rw [Int.one_mul] at h3
 exact (h1.trans h3).symm
 rw [if_neg hf]
 refine ⟨hR, fun f => Iff.trans ⟨fun h => h.sub fun r hr => Sp.row (List.mem_cons_of_mem _ hr), fun h => h.sub fun s hs => ?_⟩ (hsw f)⟩
 rcases List.mem_cons.1 hs with rfl | hs
 refine Sp.zero fun k => Eq7.of ?_
 by_cases hk : k < n
 exact Zi3 _ _ (by omega)
 exact Zt5 _ _ (by rw [hro.len]; omega)
 exact Sp.row hs
def Yb9 (rows : List Vc) : List Vc := rows.foldl Yj6 []
theorem Wc0 : ∀ (rows out T : List Vc), Rr n out → (∀ r, r ∈ rows → Okv n r) → (∀ f, Sp out f ↔ Sp T f) → Rr n (rows.foldl Yj6 out) ∧ ∀ f, Sp (rows.foldl Yj6 out) f ↔ Sp (rows ++ T) f
 | [], out, T, h, _, hs => ⟨h, hs⟩
 | r :: rows, out, T, h, hr, hs => by
  rw [List.foldl_cons]
  obtain ⟨h1, h2⟩ := Wc7 h (hr r (List.mem_cons_self ..))
  have e : ∀ f, Sp (Yj6 out r) f ↔ Sp (r :: T) f := fun f => (h2 f).trans ⟨fun h => h.sub fun x hx => by
   rcases List.mem_cons.1 hx with rfl | hx
   exact Sp.row (List.mem_cons_self ..)
   exact ((hs _).1 (Sp.row hx)).sub fun y hy => Sp.row (List.mem_cons_of_mem _ hy), fun h => h.sub fun x hx => by
   rcases List.mem_cons.1 hx with rfl | hx
   exact Sp.row (List.mem_cons_self ..)
   exact ((hs _).2 (Sp.row hx)).sub fun y hy => Sp.row (List.mem_cons_of_mem _ hy)⟩
  obtain ⟨h3, h4⟩ := Wc0 rows (Yj6 out r) (r :: T) h1 (fun x hx => hr x (List.mem_cons_of_mem _ hx)) e
  refine ⟨h3, fun f => (h4 f).trans ⟨fun h => h.sub fun x hx => Sp.row ?_, fun h => h.sub fun x hx => Sp.row ?_⟩⟩
  simp only [List.mem_append, List.mem_cons] at hx ⊢
  rcases hx with hx | rfl | hx
  exact .inl (.inr hx)
  exact .inl (.inl rfl)
  exact .inr hx
  simp only [List.mem_append, List.mem_cons, List.cons_append] at hx ⊢
  rcases hx with rfl | hx | hx
  exact .inr (.inl rfl)
  exact .inl hx
  exact .inr (.inr hx)
theorem Xx9 : Rr n [] := ⟨fun r hr => (by cases hr), fun r hr => (by cases hr), .nil, fun r s hr => (by cases hr)⟩
theorem Yd5 {rows : List Vc} (h : ∀ r, r ∈ rows → Okv n r) : Rr n (Yb9 rows) ∧ ∀ f, Sp (Yb9 rows) f ↔ Sp rows f := by
 have := Wc0 rows [] [] Xx9 h (fun f => Iff.rfl)
 rw [List.append_nil] at this
 exact this
theorem Yf8 {K : Nat} {R : List Vc} (hK : 1099511627776 ≤ K) (h : ∀ r, r ∈ R → Okv n r) (hn : n ≤ 1099511627776) (hl : R.length ≤ 1099511627776) : Za8 K R = some (Yb9 R) := by
 obtain ⟨T, e, h1, h2⟩ := Xy5 hK h hn hl
 obtain ⟨h3, h4⟩ := Yd5 h
 rw [e, h1.uniq h3 fun f => (h2 f).trans (h4 f).symm]
end Go.Proofs.YtabofnehiclkiaaGreat
