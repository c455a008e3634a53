/- Walk, rules and plain laws. -/
import Derived.Test.YtabofnehiclkiaaGreatRP2
import Derived.Test.YtabofnehiclkiaaGreatRL
namespace Go.Proofs.YtabofnehiclkiaaGreat
open Go IntKind IntWalk List
open Option (bind_some)
set_option linter.all false
set_option maxRecDepth 100000
set_option maxHeartbeats 8000000
section
variable {K : Nat} {a : F6} {n : Int}
theorem Ws1 (h : Dg a n) : lv0 K a n = some (V6 a.1 n) := Yn2 h.v.dg (by have := h.r; omega) h.l1
theorem Wt2 (h : Dg a n) : P4 K a.1 n = some (V6 a.1 n) := Yo4 h.v.dg (by have := h.r; omega) h.l1
end
section
variable {K n w m : Nat} {R T : List Vc} {u v : Vc}
theorem Sp.neg {f : Nat → Int} (h : Sp R f) : Sp R (fun k => -f k) := (h.times (-1)).congr fun k => Eq7.of (by omega)
theorem Sp.sub2 {f g : Nat → Int} (h : Sp R f) (h' : Sp R g) : Sp R (fun k => f k - g k) := (h.plus h'.neg).congr fun k => Eq7.of (by omega)
theorem Yc2 : ∀ (R T : List Vc) (v : Vc), Okv n v → (∀ s, s ∈ R → Okv n s ∧ s ∈ T) → Sp T (fun k => at_ v k - at_ (byR R v) k)
 | [], T, v, _, _ => .zero fun k => Eq7.of (by rw [byR]; omega)
 | s :: ss, T, v, hv, h => by
  obtain ⟨hs, hT⟩ := h s (mem_cons_self ..)
  have hss := fun t (ht : t ∈ ss) => h t (mem_cons_of_mem _ ht)
  rw [byR]
  by_cases hz : at_ v (fs s) = 0
  rw [if_pos hz]; exact Yc2 ss T v hv hss
  rw [if_neg hz]
  have h1 := Yc2 ss T _ (Zj9 (b := s) (c := at_ v (fs s)) hv) hss
  refine (h1.plus ((Sp.row hT).times (at_ v (fs s)))).congr fun k => ?_
  have h2 : Eq7 (at_ (Zk7 v s (at_ v (fs s))) k) (at_ v k - at_ v (fs s) * at_ s k) := by rw [Zy4 (by rw [hv.len, hs.len])]; exact Eq7.mod _
  have h3 := (h2.symm.sub (Eq7.refl (at_ (byR ss (Zk7 v s (at_ v (fs s)))) k))).add (Eq7.refl (at_ v (fs s) * at_ s k))
  refine (Eq7.of ?_).trans h3
  omega
theorem Rr.nf (hR : Rr n R) (hu : Okv n u) (hv : Okv n v) (h : Sp R (fun k => at_ u k - at_ v k)) : byR R u = byR R v := by
 have hs : ∀ s, s ∈ R → Okv n s ∧ s ∈ R := fun s hs => ⟨hR.ok s hs, hs⟩
 have h1 := Yc2 R R u hu hs
 have h2 := Yc2 R R v hv hs
 have h3 : Sp R (fun k => at_ (byR R u) k - at_ (byR R v) k) := ((h.sub2 h1).plus h2).congr fun k => Eq7.of (by omega)
 have ho1 := Zq7 R u hu
 have ho2 := Zq7 R v hv
 refine ho1.ext ho2 fun k => ?_
 have h4 := hR.cmb h3 k
 have h5 : YtabofnehiclkiaaGreat.cmb R (fun k => at_ (byR R u) k - at_ (byR R v) k) k = 0 := by
  unfold YtabofnehiclkiaaGreat.cmb
  exact Yg1 _ R fun r hr => by show (at_ (byR R u) (fs r) - at_ (byR R v) (fs r)) * at_ r k = 0; rw [Yg8 R u hu hR r hr, Yg8 R v hv hR r hr]; simp
 rw [h5] at h4
 have a1 := ho1.at k
 have a2 := ho2.at k
 unfold Eq7 at h4
 omega
theorem Yj6 (n : Nat) : Okv n (replicate n 0) := ⟨length_replicate, fun x hx => by rw [(mem_replicate.1 hx).2]; decide⟩
theorem Xb1 (n k : Nat) : at_ (replicate n (0 : Int)) k = 0 := by
 unfold at_
 rw [getD_eq_getElem?_getD, getElem?_replicate]; split <;> rfl
theorem Wg7 : ∀ (R : List Vc), byR R (replicate n 0) = replicate n 0
 | [] => rfl
 | s :: ss => by rw [byR, if_pos (Xb1 n _), Wg7 ss]
theorem Rr.nf0 (hR : Rr n R) (hv : Okv n v) : byR R v = replicate n 0 ↔ Sp R (at_ v) := by
 constructor
 intro h
 have h1 := Yc2 R R v hv fun s hs => ⟨hR.ok s hs, hs⟩
 rw [h] at h1
 exact h1.congr fun k => Eq7.of (by rw [Xb1]; omega)
 intro h
 rw [← Wg7 (n := n) R]
 exact hR.nf hv (Yj6 n) (h.congr fun k => Eq7.of (by rw [Xb1]; omega))
theorem Wd5 : ∀ (v : Vc), ¬ fs v < v.length ↔ v = replicate v.length 0
 | [] => by simp [fs]
 | x :: v => by
  have ih := Wd5 v
  unfold fs
  by_cases e : x = 0
  subst e
  rw [if_pos U, length_cons, replicate_succ, cons.injEq, ← ih]
  constructor
  intro h; exact ⟨U, by omega⟩
  intro h; have := h.2; omega
  rw [if_neg e]
  constructor
  intro h; exact absurd (by simp) h
  intro h; rw [length_cons, replicate_succ, cons.injEq] at h; exact absurd h.1 e
/-! rows with a unit row behind them -/
theorem Xv6 (a b : Vc) (k : Nat) : at_ (a ++ b) k = if k < a.length then at_ a k else at_ b (k - a.length) := by
 unfold at_
 rw [getD_eq_getElem?_getD, getD_eq_getElem?_getD, getD_eq_getElem?_getD]
 by_cases h : k < a.length
 rw [if_pos h, getElem?_append_left h]
 rw [if_neg h, getElem?_append_right (by omega)]
theorem Xj7 : ∀ (rows : List Vc) (i : Nat), (∀ r, r ∈ rows → Okv w r) → ∀ r, r ∈ R6 m i rows → Sp rows (fun k => if k < w then at_ r k else 0)
 | [], i, _, r, hr => by cases hr
 | s :: ss, i, h, r, hr => by
  have hs := h s (mem_cons_self ..)
  rcases mem_cons.1 hr with rfl | hr
  refine (Sp.row (mem_cons_self ..)).congr fun k => Eq7.of ?_
  rw [Xv6, hs.len]
  by_cases hk : k < w
  rw [if_pos hk, if_pos hk]
  rw [if_neg hk, Zo4 s k (by rw [hs.len]; omega)]
  exact (Xj7 ss (i + 1) (fun t ht => h t (mem_cons_of_mem _ ht)) r hr).sub fun t ht => Sp.row (mem_cons_of_mem _ ht)
theorem Wx3 {rows : List Vc} {f : Nat → Int} (h : ∀ r, r ∈ T → Sp rows (fun k => if k < w then at_ r k else 0)) (hf : Sp T f) : Sp rows (fun k => if k < w then f k else 0) := by
 induction hf with
 | @zero f h0 =>
  refine .zero fun k => ?_
  show Eq7 (if k < w then f k else 0) 0
  by_cases hk : k < w
  rw [if_pos hk]; exact h0 k
  rw [if_neg hk]; exact Eq7.refl _
 | @add f g r c hr hf hg ih =>
  refine (ih.plus ((h r hr).times c)).congr fun k => ?_
  show Eq7 (if k < w then g k else 0) ((if k < w then f k else 0) + c * (if k < w then at_ r k else 0))
  by_cases hk : k < w
  rw [if_pos hk, if_pos hk, if_pos hk]; exact hg k
  rw [if_neg hk, if_neg hk, if_neg hk]; exact Eq7.of (by simp)
theorem Wr3 : ∀ (rows : List Vc) (i : Nat), (∀ r, r ∈ rows → Okv w r) → ∀ {f : Nat → Int}, Sp rows f → ∃ g, Sp (R6 m i rows) g ∧ ∀ k, k < w → Eq7 (g k) (f k) := by
 intro rows i h f hf
 have hw : ∀ r, r ∈ rows → ∃ g, Sp (R6 m i rows) g ∧ ∀ k, k < w → Eq7 (g k) (at_ r k) := by
  clear hf
  induction rows generalizing i with
  | nil => intro r hr; cases hr
  | cons s ss ih =>
   intro r hr
   rcases mem_cons.1 hr with rfl | hr
   have hs := h r (mem_cons_self ..)
   exact ⟨_, Sp.row (mem_cons_self ..), fun k hk => Eq7.of (by rw [Xv6, if_pos (by rw [hs.len]; exact hk)])⟩
   obtain ⟨g, h1, h2⟩ := ih (i + 1) (fun t ht => h t (mem_cons_of_mem _ ht)) r hr
   exact ⟨g, h1.sub fun t ht => Sp.row (mem_cons_of_mem _ ht), h2⟩
 induction hf with
 | zero h0 => exact ⟨fun _ => 0, .zero fun _ => Eq7.refl _, fun k _ => (h0 k).symm⟩
 | @add f g r c hr hf hg ih =>
  obtain ⟨f', h1, h2⟩ := ih
  obtain ⟨g', h3, h4⟩ := hw r hr
  exact ⟨_, h1.plus (h3.times c), fun k hk => ((h2 k hk).add ((Eq7.refl c).mul (h4 k hk))).trans (hg k).symm⟩
def Yq2 (w : Nat) (R : List Vc) : List Vc := R.filter fun r => decide (fs r < w)
def hiR (w : Nat) (R : List Vc) : List Vc := R.filter fun r => decide (w ≤ fs r)
theorem We1 (w : Nat) : ∀ (R : List Vc), R.Pairwise (fun a b => fs a < fs b) → R = Yq2 w R ++ hiR w R
 | [], _ => rfl
 | s :: ss, h => by
  have h' := pairwise_cons.1 h
  have ih := We1 w ss h'.2
  unfold Yq2 hiR at ih ⊢
  by_cases hs : fs s < w
  rw [filter_cons_of_pos (by simpa using hs), filter_cons_of_neg (by simpa using hs), cons_append, ← ih]
  have e : ss.filter (fun r => decide (fs r < w)) = [] := filter_eq_nil_iff.2 fun r hr => by have := h'.1 r hr; simp; omega
  rw [e, nil_append] at ih
  rw [filter_cons_of_neg (by simpa using hs), filter_cons_of_pos (by simp; omega), e, nil_append, ← ih]
theorem We6 : ∀ (A B : List Vc) (v : Vc), byR (A ++ B) v = byR B (byR A v)
 | [], B, v => rfl
 | a :: A, B, v => by rw [cons_append, byR, byR, We6 A B]
end
/-! levels whose list is cut -/
theorem Xv7 {f : List A8 → Nat → List A8} {it : Nat → List A8} : ∀ (es : List Nat) (o : List A8), (∀ o e, e ∈ es → ∀ x, x ∈ f o e → x ∈ o ∨ x ∈ it e) → ∀ x, x ∈ es.foldl f o → x ∈ o ∨ x ∈ es.flatMap it
 | [], o, _, x, hx => .inl hx
 | e :: es, o, h, x, hx => by
  rw [foldl_cons] at hx
  rw [flatMap_cons, mem_append]
  rcases Xv7 es (f o e) (fun o e' he => h o e' (mem_cons_of_mem _ he)) x hx with h1 | h1
  rcases h o e (mem_cons_self ..) x h1 with h2 | h2
  exact .inl h2
  exact .inr (.inl h2)
  exact .inr (.inr h1)
theorem Wf1 (ds : List Int) (most : Int) (hds : ∀ n, n ∈ ds → 1 ≤ n ∧ n ≤ 12) : ∀ (g : Nat), g ≤ ds.length → ∀ (p : A8) (left : Int) (out : List A8), 0 ≤ left ∧ left ≤ 1000 → ∀ x, x ∈ lsF ds most g p left out → x ∈ out ∨ x ∈ itF ds g p left
 | 0, _, p, left, out, hl, x, hx => by
  unfold lsF at hx
  unfold itF
  by_cases hm : most < (out.length : Int)
  rw [if_pos hm] at hx; exact .inl hx
  rw [if_neg hm] at hx
  by_cases h : left = 0
  rw [if_pos h] at hx ⊢; exact mem_append.1 hx
  rw [if_neg h] at hx; exact .inl hx
 | g + 1, hg, p, left, out, hl, x, hx => by
  rw [lsF] at hx
  rw [itF]
  by_cases hm : most < (out.length : Int)
  rw [if_pos hm] at hx; exact .inl hx
  rw [if_neg hm] at hx
  have hnd := hds _ (show rd ds ((ds.length - (g + 1) : Nat) : Int) ∈ ds by
   unfold rd
   rw [Int.toNat_natCast, getD_eq_getElem?_getD, getElem?_eq_getElem (show ds.length - (g + 1) < ds.length by omega)]
   exact getElem_mem _)
  rw [Wr9 _ _ hnd.1 hl.1] at hx
  obtain ⟨h0, h1, h2⟩ := Yk6 hnd hl
  refine Xv7 _ _ (fun o e he x hx => Wf1 ds most hds g (by omega) _ _ o ?_ x hx) x hx
  have he := mem_range.1 (mem_reverse.1 he)
  have hy : (e : Int) ≤ Zk5 (rd ds ((ds.length - (g + 1) : Nat) : Int)) left := by omega
  have a1 : 0 ≤ (e : Int) * rd ds ((ds.length - (g + 1) : Nat) : Int) := Int.mul_nonneg (by omega) (by omega)
  have a2 := Int.le_trans (Int.mul_le_mul_of_nonneg_right hy (show 0 ≤ rd ds ((ds.length - (g + 1) : Nat) : Int) by omega)) h2
  exact ⟨by omega, by omega⟩
section
variable {K : Nat} {a : F6} {n : Int}
theorem Wr1 (hK : 1099511627776 ≤ K) (hV : Vw a) (hn : 0 ≤ n ∧ n ≤ 25) (hl : (V6 a.1 (n + 1)).length ≤ 120) : ∀ (ps : List A8), (∀ p, p ∈ ps → p ∈ V6 a.1 n) →
 Yo9 K a (V6 a.1 (n + 1)) ps = some (ps.map fun p => Zc8 (V6 a.1 (n + 1)) (dmR a p)) := Xg1 hK hV hn hl
theorem Wt9 (hK : 1099511627776 ≤ K) (hV : Vw a) (hn : 0 ≤ n ∧ n ≤ 25) (hl1 : (V6 a.1 (n + 1)).length ≤ 120) : ∃ mat, Ye5 K a n = some mat ∧ (∀ r, r ∈ mat → Okv (V6 a.1 (n + 1)).length r) ∧ mat.length ≤ 1000 := by
 have hl0 : lv0 K a n = some (lsM a.1 n 120) := by
  unfold lv0
  rw [Xh0 hV.dg (by omega)]; rfl
 have hlen : ((lsM a.1 n 120).length : Int) ≤ 121 := by
  unfold lsM
  rw [if_pos hn.1]
  exact Xm3 a.1 120 _ _ _ [] (by decide)
 have Z4 : ∀ p, p ∈ lsM a.1 n 120 → p ∈ V6 a.1 n := fun p hp => by
  unfold lsM at hp
  rw [if_pos hn.1] at hp
  rcases Wf1 a.1 120 (D0 hV.dg) _ (Nat.le_refl _) _ _ [] (by omega) p hp with h | h
  cases h
  exact h
 refine ⟨(lsM a.1 n 120).map fun p => Zc8 (V6 a.1 (n + 1)) (dmR a p), ?_, fun r hr => ?_, by rw [length_map]; omega⟩
 unfold Ye5
 rw [hl0, bind_some, Yn2 hV.dg (by omega) hl1, bind_some, if_pos (by omega), Wr1 hK hV hn hl1 _ Z4]
 obtain ⟨p, hp, rfl⟩ := mem_map.1 hr
 exact Xo7 (Xs8 hV hn (Z4 p hp)).nf
structure Dh (a : F6) (n : Int) : Prop where
 v : Vw a
 r : 0 ≤ n ∧ n ≤ 20
 f1 : Zj4 a n = true
 f2 : Zj4 a (n + 1) = true
theorem Dg.dh (h : Dg a n) : Dh a n := ⟨h.v, h.r, h.f1, h.f2⟩
theorem Dh.l1 (h : Dh a n) : (V6 a.1 n).length ≤ 120 := Xa0 h.r.1 h.f1
theorem Dh.l2 (h : Dh a n) : (V6 a.1 (n + 1)).length ≤ 120 := Xa0 (by have := h.r.1; omega) h.f2
theorem Dh.cl (h : Dh a n) : Rr (V6 a.1 n).length (clR a n) := by
 have hr := h.r
 have := Wf8 (Yd4 (n := n) h.v (by omega))
 rwa [Zs1] at this
theorem Wu1 (hK : 1099511627776 ≤ K) (h : Dh a n) : ∃ bd cs, Yq1 K a n = some (clR a n, bd, cs) := by
 have l1 := h.l1
 have l2 := h.l2
 have hr := h.r
 have hmat : Ye5 K a n = some (Zc3 a n) := Xb5 hK h.v (by omega) l1 l2
 have hker : Wa3 K a n = some (clR a n) := by
  unfold Wa3
  rw [hmat, bind_some, Yn2 h.v.dg (by omega) l2, bind_some, Xi9 (Yd4 h.v (by omega)) hK (by omega) (by rw [Zs1]; omega)]; rfl
 obtain ⟨bd, hbd, hbr⟩ : ∃ bd, bdN K a n = some bd ∧ Rr (V6 a.1 n).length bd := by
  unfold bdN
  by_cases hp : 0 < n
  obtain ⟨mt, h1, h2, h3⟩ := Wt9 (K := K) (n := n - 1) hK h.v (by omega) (by rw [Int.sub_add_cancel]; exact l1)
  rw [Int.sub_add_cancel] at h2
  exact ⟨F7 mt, by rw [if_pos hp, h1, bind_some, Zs0 hK h2 (by omega) (by omega)], (Zj7 h2).1⟩
  exact ⟨[], by rw [if_neg hp], Xl3⟩
 have hcl := h.cl.short
 have hleft : ∀ r, r ∈ (clR a n).map (byR bd) → Okv (V6 a.1 n).length r := fun r hr => by
  obtain ⟨s, hs, rfl⟩ := mem_map.1 hr
  exact Zq7 _ _ (h.cl.ok s hs)
 refine ⟨bd, F7 ((clR a n).map (byR bd)), ?_⟩
 unfold Yq1
 rw [if_pos (by omega), hker, bind_some, hbd, bind_some, if_pos (by omega), Xf9 hK hbr (by omega) _ h.cl.ok, bind_some, Zs0 hK hleft (by omega) (by rw [length_map]; omega)]
 rfl
theorem Wc4 (hK : 1099511627776 ≤ K) (h : Dh a n) : Zo9 K a n = some (clR a n) := by
 have l1 := h.l1
 have l2 := h.l2
 have hr := h.r
 unfold Zo9
 rw [i64_in _ (by omega), show (a.1, a.2) = a from U, Wh1 hK h.v (by omega) l1 l2, bind_some, Yo4 h.v.dg (by omega) l2, bind_some, Wm4 (Yd4 h.v (by omega)) hK (by omega) (by rw [Zs1]; omega)]
 rfl
end
/-! the target -/
section
variable {K w m : Nat} {R T : List Vc} {v t : Vc}
theorem Xu5 (hK : w + m < K) : ∀ (rows : List Vc) (t : Vc), Okv (w + m) t → (∀ s, s ∈ rows → Okv (w + m) s ∧ fs s < w + m) → prL K w t rows = some (byR (Yq2 w rows) t)
 | [], t, _, _ => rfl
 | s :: ss, t, ht, h => by
  obtain ⟨hs, hf⟩ := h s (mem_cons_self ..)
  have hss := fun t (ht : t ∈ ss) => h t (mem_cons_of_mem _ ht)
  have hsl := hs.len
  have htl := ht.len
  rw [prL, Xa6 (by omega), if_pos (by omega), bind_some]
  unfold Yq2
  by_cases hlt : fs s < w
  rw [if_pos (by omega), if_pos (by omega), Zl0, filter_cons_of_pos (by simpa using hlt), byR]
  have e : t.getD (fs s) 0 = at_ t (fs s) := rfl
  rw [e, Wg5 ht hs hf]
  refine Xu5 hK ss _ ?_ hss
  split
  exact ht
  exact Zj9 ht
  rw [if_neg (by omega), filter_cons_of_neg (by simpa using hlt)]
  exact Xu5 hK ss t ht hss
theorem Xn5 (v : Vc) (k : Nat) : at_ (v.drop w) k = at_ v (w + k) := Yx4 v w k 0
theorem Vf5 {f : Nat → Int} (h : Sp T f) : Sp (T.map fun r => r.drop w) (fun k => f (w + k)) := by
 induction h with
 | zero h0 => exact .zero fun k => h0 (w + k)
 | add r c hr hf hg ih => exact .add (r.drop w) c (mem_map.2 ⟨r, hr, U⟩) ih fun k => by rw [Xn5]; exact hg (w + k)
theorem Wo4 {rows : List Vc} {row : Vc} (hr : ∀ r, r ∈ rows → Okv w r) (hrow : Okv w row) : w ≤ fs (byR (F7 (R6 m 0 rows)) (row ++ replicate m 0)) ↔ Sp rows (at_ row) := by
 have hwo := Zu8 (m := m) rows 0 hr
 obtain ⟨hR, hSp⟩ := Zj7 hwo
 have hv : Okv (w + m) (row ++ replicate m 0) := Yr2 hrow (Yj6 m)
 have h1 := Yc2 _ _ _ hv (fun s hs => ⟨hR.ok s hs, hs⟩)
 have hz := Yg8 _ _ hv hR
 have ho := Zq7 (F7 (R6 m 0 rows)) _ hv
 have hvk : ∀ k, k < w → at_ (row ++ replicate m 0) k = at_ row k := fun k hk => by rw [Xv6, if_pos (by rw [hrow.len]; exact hk)]
 generalize byR (F7 (R6 m 0 rows)) (row ++ replicate m 0) = y at *
 constructor
 intro h
 refine (Wx3 (w := w) (fun r hr' => Xj7 rows 0 hr r hr') ((hSp _).1 h1)).congr fun k => ?_
 show Eq7 (at_ row k) (if k < w then at_ (row ++ replicate m 0) k - at_ y k else 0)
 by_cases hk : k < w
 rw [if_pos hk, Ze9 y k (by omega), hvk k hk]; exact Eq7.of (by omega)
 rw [if_neg hk, Zo4 row k (by rw [hrow.len]; omega)]; exact Eq7.refl _
 intro h
 obtain ⟨g, g1, g2⟩ := Wr3 (m := m) rows 0 hr h
 have g1 := (hSp _).2 g1
 have hs := g1.sub2 h1
 have hfront : ∀ k, k < w → Eq7 (at_ y k) (g k - (at_ (row ++ replicate m 0) k - at_ y k)) := fun k hk => by
  have := g2 k hk
  rw [hvk k hk]
  unfold Eq7 at *
  omega
 have hzero : ∀ k, k < w → at_ y k = 0 := fun k hk => by
  have h4 := hR.cmb hs k
  have h5 : cmb (F7 (R6 m 0 rows)) (fun k => g k - (at_ (row ++ replicate m 0) k - at_ y k)) k % 10007 = 0 := by
   unfold cmb
   have := Wl8 (fun r => (g (fs r) - (at_ (row ++ replicate m 0) (fs r) - at_ y (fs r))) * at_ r k) (fun _ => 0) (F7 (R6 m 0 rows)) fun r hr => by
    by_cases hrw : fs r < w
    have e1 := hfront (fs r) hrw
    rw [hz r hr] at e1
    have := e1.symm.mul (Eq7.refl (at_ r k))
    rw [hz r hr]
    rwa [Int.zero_mul] at this
    rw [Ze9 r k (by omega), Int.mul_zero]; exact Eq7.refl _
   rw [Yg1 (fun _ => (0 : Int)) _ (fun _ _ => rfl)] at this
   exact this
  have h6 := hfront k hk
  have h7 := ho.at k
  unfold Eq7 at h4 h6
  omega
 rcases Nat.lt_or_ge (fs y) w with hlt | hge
 have hylen := ho.len
 exact absurd (hzero _ hlt) (Yt4 y (by omega))
 exact hge
theorem Wv3 {rows : List Vc} {row : Vc} (hr : ∀ r, r ∈ rows → Okv w r) (hrow : Okv w row) {C : List Vc} (hC : Rr m C) (hCs : ∀ f, Sp C f ↔ Sp (Zv4 w (F7 (R6 m 0 rows))) f) :
 byR C (tkN (replicate m 0) ((byR (Yq2 w (F7 (R6 m 0 rows))) (row ++ replicate m 0)).drop w) 1 m) =
 byR C (Zk7 (replicate m 0) ((byR (F7 (R6 m 0 rows)) (row ++ replicate m 0)).drop w) 1) := by
 have hwo := Zu8 (m := m) rows 0 hr
 obtain ⟨hR, hSp⟩ := Zj7 hwo
 have hv : Okv (w + m) (row ++ replicate m 0) := Yr2 hrow (Yj6 m)
 have hsp := We1 w _ hR.srt
 have hby : byR (F7 (R6 m 0 rows)) (row ++ replicate m 0) = byR (hiR w (F7 (R6 m 0 rows))) (byR (Yq2 w (F7 (R6 m 0 rows))) (row ++ replicate m 0)) := by
  conv => lhs; rw [hsp]
  exact We6 _ _ _
 rw [hby]
 have ht := Zq7 (Yq2 w (F7 (R6 m 0 rows))) _ hv
 generalize byR (Yq2 w (F7 (R6 m 0 rows))) (row ++ replicate m 0) = t at *
 have hd := Yc2 (hiR w (F7 (R6 m 0 rows))) (hiR w (F7 (R6 m 0 rows))) t ht (fun s hs => ⟨hR.ok s (mem_filter.1 hs).1, hs⟩)
 have hy := Zq7 (hiR w (F7 (R6 m 0 rows))) t ht
 generalize byR (hiR w (F7 (R6 m 0 rows))) t = y at *
 have hd2 := (hCs _).2 (Vf5 (w := w) hd)
 have hdt := Yl6 ht
 have hdy := Yl6 hy
 have hz := Yj6 m
 have e1 : ∀ k, at_ (tkN (replicate m 0) (t.drop w) 1 m) k = (0 - at_ t (w + k)) % 10007 := fun k => by
  show (tkN _ _ _ _).getD k 0 = _
  rw [Ys1 _ _ _ _ (by rw [hz.len]; exact Nat.le_refl _)]
  by_cases hk : k < m
  rw [if_pos hk, Xh3 (hz.inF k) (hdt.inF k) (by unfold inF; omega)]
  have a1 : (replicate m (0 : Int)).getD k 0 = 0 := Xb1 m k
  have a2 : (t.drop w).getD k 0 = at_ t (w + k) := Xn5 t k
  rw [a1, a2, Int.one_mul]
  rw [if_neg hk]
  have a1 : (replicate m (0 : Int)).getD k 0 = 0 := Xb1 m k
  rw [a1, Zo4 t (w + k) (by rw [ht.len]; omega)]; rfl
 have e2 : ∀ k, at_ (Zk7 (replicate m 0) (y.drop w) 1) k = (0 - at_ y (w + k)) % 10007 := fun k => by
  rw [Zy4 (by rw [hz.len, hdy.len]), Xb1, Int.one_mul, Xn5]
 refine hC.nf (Yz1 (by rw [Yd3, hz.len]) fun k _ => by rw [e1]; omega) (Zj9 hz) (hd2.neg.congr fun k => ?_)
 rw [e1, e2]
 unfold Eq7
 omega
end
def dgF (ds : List Int) (f : MpT) : Int × Bool := if f.length = 0 then (-1, true) else if f.tail.all (fun t => decide (wt ds t.1 = wt ds (rd f 0).1)) = true then (wt ds (rd f 0).1, true) else (0, false)
theorem Vk6 {K : Nat} {ds : List Int} {f : MpT} (hK : 8 < K) (hl : f.length < K) (hd : okD ds = true) (hf : Zl5 f) : Zb8 K ds f = some (dgF ds f) := by
 unfold Zb8 dgF
 by_cases h0 : f.length = 0
 rw [if_pos (by omega), if_pos h0]
 have hb0 : Byt (rd f 0).1 := hf _ (S0 (n := 0) (by omega))
 rw [if_neg (by omega), if_neg h0, if_pos (by omega), Yn8 hK hd hb0, bind_some]
 have := Yn3 (g := ()) (fun k i => Q7 K ds f (wt ds (rd f 0).1) k i) f.length (fun j => decide (wt ds (rd f (j : Int)).1 = wt ds (rd f 0).1)) (0, false) (fun k n => ?_) K 1 (by omega) (by omega)
 replace this : Q7 K ds f (wt ds (rd f 0).1) K 1 = _ := this
 rw [this, Yj4 (c := fun t => decide (wt ds t.1 = wt ds (rd f 0).1)) (by omega)]
 split <;> rfl
 show Q7 K ds f (wt ds (rd f 0).1) (k + 1) n = _
 rw [Q7]
 by_cases hn : n < f.length
 rw [if_pos (by omega), if_pos (by omega), Yn8 hK hd (hf _ (S0 hn)), bind_some]
 simp only [decide_eq_true_eq]
 rw [if_neg (by omega), if_neg (by omega)]
theorem Vl3 {K : Nat} {ds : List Int} {f : MpT} (hK : 8 < K) (hl : f.length < K) (hd : okD ds = true) (hf : Zl5 f) : Zh1 K ds f = some (dgF ds f) := by
 unfold Zh1 dgF
 by_cases h0 : f.length = 0
 have : f = [] := eq_nil_of_length_eq_zero h0
 subst this
 obtain ⟨k, rfl⟩ : ∃ k, K = k + 1 := ⟨K - 1, by omega⟩
 rw [V9]; rfl
 have step : ∀ (k m : Nat) (out : Int), m < f.length → V9 K ds f (k + 1) out m = if 0 ≤ out ∧ wt ds (rd f (m : Int)).1 ≠ out then some (.ret (0, false)) else V9 K ds f k (wt ds (rd f (m : Int)).1) ((m : Int) + 1) := by
  intro k m out hm
  have hb := hf _ (S0 hm)
  rw [V9, if_pos (by omega), Yh9 hK hb, bind_some, Xx7 hK hd hb, bind_some]
  unfold Zf1
  by_cases h1 : 0 ≤ out
  by_cases h2 : wt ds (rd f (m : Int)).1 = out
  rw [if_pos h1, if_neg (by simp [h2]), if_neg (by simp [h2])]
  rw [if_pos h1, if_pos (by simp [h2]), if_pos ⟨h1, h2⟩]
  rw [if_neg h1, if_neg (by simp), if_neg (by simp [h1])]
 have hw := Yv9 hd (hf _ (S0 (n := 0) (by omega)))
 replace hw : 0 ≤ wt ds (rd f 0).1 ∧ wt ds (rd f 0).1 ≤ 24480 := hw
 obtain ⟨k, rfl⟩ : ∃ k, K = k + 1 := ⟨K - 1, by omega⟩
 have s0 := step k 0 (-1) (by omega)
 rw [if_neg (by simp)] at s0
 replace s0 : V9 (k + 1) ds f (k + 1) (-1) 0 = V9 (k + 1) ds f k (wt ds (rd f 0).1) 1 := s0
 have := Yn3 (g := wt ds (rd f 0).1) (fun k' i => V9 (k + 1) ds f k' (wt ds (rd f 0).1) i) f.length (fun j => decide (wt ds (rd f (j : Int)).1 = wt ds (rd f 0).1)) (0, false) (fun k' m => ?_) k 1 (by omega) (by omega)
 replace this : V9 (k + 1) ds f k (wt ds (rd f 0).1) 1 = _ := this
 rw [s0, this, Yj4 (c := fun t => decide (wt ds t.1 = wt ds (rd f 0).1)) (by omega), if_neg h0]
 cases f.tail.all (fun t => decide (wt ds t.1 = wt ds (rd f 0).1)) with
 | true => rfl
 | false => rfl
 show V9 (k + 1) ds f (k' + 1) (wt ds (rd f 0).1) m = _
 by_cases hm : m < f.length
 rw [step k' m _ hm, if_pos (show (m : Int) < f.length by omega)]
 by_cases h2 : wt ds (rd f (m : Int)).1 = wt ds (rd f 0).1
 rw [if_neg (by simp [h2]), h2]; simp
 rw [if_pos ⟨hw.1, h2⟩, if_neg (by simpa using h2)]
 rw [V9, if_neg (by omega), if_neg (by omega)]
section
variable {K : Nat} {a : F6} {n : Int} {f : MpT}
theorem Vf3 (h : dgF a.1 f = (n, true)) (hf : f.length ≠ 0) : ∀ t, t ∈ f → wt a.1 t.1 = n := by
 unfold dgF at h
 rw [if_neg hf] at h
 obtain ⟨t, f, rfl⟩ : ∃ t f', f = t :: f' := by cases f with | nil => simp at hf | cons t f => exact ⟨t, f, rfl⟩
 by_cases ha : ((t :: f).tail.all fun x => decide (wt a.1 x.1 = wt a.1 (rd (t :: f) 0).1)) = true
 rw [if_pos ha] at h
 have e : wt a.1 t.1 = n := (Prod.mk.inj h).1
 intro x hx
 rcases mem_cons.1 hx with rfl | hx
 exact e
 have := of_decide_eq_true (all_eq_true.1 ha x hx)
 rw [this]; exact e
 rw [if_neg ha] at h; cases h
theorem Vb2 (hi : Inp K a) (hbf : Zl5 f) : Zk3 K a [f] = some (if okA a = true ∧ okF a.1 f = true then 0 else 1) := by
 have hK := hi.big
 unfold Zk3
 rw [show (a.1, a.2) = a from U, Vi9 hi, bind_some]
 by_cases hA : okA a = true
 case neg =>
  rw [if_neg hA, if_neg (fun h => hA h.1), Wi3, bind_some]; rfl
 have hc : T6 K [f] (fun x => Zf6 K x a) = some ([f].any fun x => !okF a.1 x) := Xs0 (by simp; omega) (fun x hx => by
  cases mem_singleton.1 hx
  unfold Zf6
  rw [Wy6 (by omega) (Xi5 hi hA).dg hbf]; rfl)
 rw [if_pos hA, hc, bind_some, Wi3, bind_some]
 by_cases hF : okF a.1 f = true
 have : ([f].any fun x => !okF a.1 x) = false := by simp [hF]
 rw [this, if_neg (by decide), if_pos ⟨hA, hF⟩]
 have : ([f].any fun x => !okF a.1 x) = true := by simpa using hF
 rw [this, if_pos U, if_neg (fun h => hF h.2)]
def hmR (a : F6) (f : MpT) : Int × Int := if okA a = true ∧ okF a.1 f = true then if (dgF a.1 f).2 = true then if (dgF a.1 f).1 < 0 then ((dgF a.1 f).1, 0) else if 20 < (dgF a.1 f).1 then (0, 2) else if (Zj4 a ((dgF a.1 f).1 - 1) && Zj4 a (dgF a.1 f).1 && Zj4 a ((dgF a.1 f).1 + 1)) = true then ((dgF a.1 f).1, 0) else ((dgF a.1 f).1, 3) else (0, 5) else (0, 1)
theorem Xz7 (ds : List Int) : ∀ (g : Nat), g ≤ ds.length → (∀ d, d ∈ ds → 1 ≤ d ∧ d ≤ 12) → ∀ p, (itF ds g p 0).length = 1
 | 0, _, _, p => by unfold itF; rw [if_pos U]; rfl
 | g + 1, hg, h, p => by
  rw [itF]
  have hnd := h _ (show rd ds ((ds.length - (g + 1) : Nat) : Int) ∈ ds by
   unfold rd
   rw [Int.toNat_natCast, getD_eq_getElem?_getD, getElem?_eq_getElem (show ds.length - (g + 1) < ds.length by omega)]
   exact getElem_mem _)
  have ht : Zk5 (rd ds ((ds.length - (g + 1) : Nat) : Int)) 0 = 0 := by
   have h1 := Yk6 hnd (n := 0) (by omega)
   have := Int.mul_le_mul_of_nonneg_left hnd.1 h1.1
   omega
  rw [ht]
  show ([0].flatMap _).length = 1
  rw [flatMap_singleton]
  rw [show ((0 : Nat) : Int) = 0 from U, Int.zero_mul, Int.sub_zero]
  exact Xz7 ds g (by omega) h _
theorem Vb7 (hd : okD a.1 = true) (hn : 0 ≤ n ∧ n ≤ 20) : arN K a [n] = some (if (Zj4 a (n - 1) && Zj4 a n && Zj4 a (n + 1)) = true then 0 else 3) := by
 show ((Wl4 K a n).bind fun b => if b = true then arN K a [] else some 3) = _
 unfold Wl4
 rw [if_pos (by omega), Xe1 hd (by omega), bind_some]
 cases h1 : Zj4 a (n - 1) with
 | false => rw [if_neg (by decide), bind_some, if_neg (by decide), if_neg (by simp)]
 | true =>
  rw [if_pos U, Xe1 hd (by omega), bind_some]
  cases h2 : Zj4 a n with
  | false => rw [if_neg (by decide), bind_some, if_neg (by decide), if_neg (by simp)]
  | true =>
   rw [if_pos U, Xe1 hd (by omega), bind_some]
   cases h3 : Zj4 a (n + 1) with
   | false => rw [if_neg (by decide), if_neg (by simp)]
   | true => rw [if_pos U, if_pos (by simp)]; rfl
theorem Vj1 (hK : 1099511627776 ≤ K) (hi : Inp K a) (hbf : Zl5 f) (hfl : f.length ≤ 1048576) : faN K a f = some (hmR a f) := by
 unfold faN hmR
 rw [Vb2 hi hbf, bind_some]
 by_cases hA : okA a = true ∧ okF a.1 f = true
 case neg => rw [if_neg hA, if_neg hA, if_neg (by decide)]
 have hd := (Xi5 hi hA.1).dg
 rw [if_pos hA, if_pos hA, if_pos U, Vl3 (by omega) (by omega) hd hbf, bind_some]
 by_cases hok : (dgF a.1 f).2 = true
 case neg => rw [if_neg hok, if_neg hok]
 rw [if_pos hok, if_pos hok]
 by_cases hn : (dgF a.1 f).1 < 0
 rw [if_pos hn, if_pos hn]
 rw [if_neg hn, if_neg hn]
 by_cases hb : 20 < (dgF a.1 f).1
 rw [if_pos hb, if_pos hb]
 rw [if_neg hb, if_neg hb, Vb7 hd (by omega), bind_some]
 split <;> rfl
theorem Vh3 (h : (dgF a.1 f).2 = true) (hd : okD a.1 = true) (hbf : Zl5 f) : (dgF a.1 f).1 = -1 ∨ 0 ≤ (dgF a.1 f).1 := by
 unfold dgF at h ⊢
 by_cases h0 : f.length = 0
 rw [if_pos h0]; exact .inl U
 rw [if_neg h0] at h ⊢
 split
 exact .inr (Yv9 hd (hbf _ (S0 (n := 0) (by omega)))).1
 rename_i hx; rw [if_neg hx] at h; cases h
theorem Va9 (hK : 1099511627776 ≤ K) (hi : Inp K a) (hbf : Zl5 f) (hfl : f.length ≤ 1048576) : ∃ r, Zg1 K a f false = some r ∧ r.2 = (hmR a f).2 ∧ (r.2 = 0 → r.1 = (hmR a f).1) := by
 unfold Zg1 hmR
 rw [show (a.1, a.2) = a from U, Vg8 hi, bind_some]
 by_cases hA0 : okA a = true
 case neg =>
  rw [if_neg hA0, if_neg (fun h => hA0 h.1)]
  exact ⟨_, rfl, rfl, fun h => by cases h⟩
 have hd := (Xi5 hi hA0).dg
 rw [if_pos hA0, Wz6 (by omega) (by omega) (by omega) hd hbf, bind_some]
 unfold Zb6
 by_cases hF : okF a.1 f = true
 case neg =>
  rw [if_pos (by simpa using hF), if_neg (fun h => hF h.2)]
  exact ⟨_, rfl, rfl, fun h => by cases h⟩
 rw [if_neg (by simpa using hF), if_pos ⟨hA0, hF⟩, Vk6 (by omega) (by omega) hd hbf, bind_some]
 have hlo := fun h => Vh3 (a := a) (f := f) h hd hbf
 generalize dgF a.1 f = D at *
 by_cases hok : D.2 = true
 case neg =>
  rw [if_neg hok, if_neg hok]
  unfold J3
  exact ⟨_, rfl, rfl, fun h => by cases h⟩
 have hlo := hlo hok
 rw [if_pos hok, if_pos hok, if_neg (by decide)]
 unfold J3
 rw [if_neg (by decide)]
 by_cases hn : D.1 < 0
 have e : D.1 = -1 := by omega
 rw [if_pos hn, if_neg (by omega), i64_in _ (by omega), i64_in _ (by omega), show (a.1, a.2) = a from U, e]
 have hw : Ze4 K a (-1 - 1) (-1 + 1) = some true := by
  unfold Ze4
  have key := Yv4 (K := K) hd (t := -1 + 1) (by decide) K (if (-1 : Int) - 1 < 0 then 0 else -1 - 1) (by decide) (by decide) (by show (0 : Int) + 1 - 0 < K; omega)
  rcases key with ⟨g1, _⟩ | ⟨_, m, g2, g3, g4⟩
  rw [g1]; rfl
  have hm : m = 0 := by
   have e1 : (if (-1 : Int) - 1 < 0 then (0 : Int) else -1 - 1) = 0 := by decide
   omega
  subst hm
  exact absurd (by unfold V6; rw [Xz7 a.1 _ (Nat.le_refl _) (D0 hd)]; decide) g4
 rw [hw, bind_some, if_pos U]
 exact ⟨_, U, U, fun _ => rfl⟩
 rw [if_neg hn]
 by_cases hb : 20 < D.1
 rw [if_pos hb, if_pos hb]
 exact ⟨_, rfl, rfl, fun h => by cases h⟩
 rw [if_neg hb, if_neg hb, i64_in _ (by omega), i64_in _ (by omega), show (a.1, a.2) = a from U, Wk3 hK hd (by omega), bind_some]
 split
 exact ⟨_, U, U, fun _ => rfl⟩
 exact ⟨_, rfl, rfl, fun h => by cases h⟩
structure Hf (a : F6) (n : Int) (f : MpT) : Prop where
 d : Dg a n
 nf : nfm f = true
 inM : ∀ z, z ∈ f → z.1 ∈ V6 a.1 n
 nz : f ≠ []
 len : f.length ≤ 400
theorem Wb3 (hi : Inp K a) (hbf : Zl5 f) (h : (hmR a f).2 = 0) (hn : ¬ (hmR a f).1 < 0) : Hf a (hmR a f).1 f := by
 unfold hmR at h hn ⊢
 by_cases hA : okA a = true ∧ okF a.1 f = true
 case neg => rw [if_neg hA] at h; cases h
 rw [if_pos hA] at h hn ⊢
 by_cases hok : (dgF a.1 f).2 = true
 case neg => rw [if_neg hok] at h; cases h
 rw [if_pos hok] at h hn ⊢
 by_cases h0 : (dgF a.1 f).1 < 0
 rw [if_pos h0] at hn; exact absurd h0 hn
 rw [if_neg h0] at h hn ⊢
 by_cases hb : 20 < (dgF a.1 f).1
 rw [if_pos hb] at h; cases h
 rw [if_neg hb] at h hn ⊢
 by_cases hf : (Zj4 a ((dgF a.1 f).1 - 1) && Zj4 a (dgF a.1 f).1 && Zj4 a ((dgF a.1 f).1 + 1)) = true
 case neg => rw [if_neg hf] at h; cases h
 rw [if_pos hf]
 rw [Bool.and_eq_true, Bool.and_eq_true] at hf
 have hV := Xi5 hi hA.1
 have hvf := Wo9 hbf hA.2
 have hnz : f.length ≠ 0 := fun e => by
  unfold dgF at h0
  rw [if_pos e] at h0
  exact h0 (by decide)
 refine ⟨⟨hV, by omega, hf.1.1, hf.1.2, hf.2⟩, hvf.nf, fun z hz => (Yf8 hV.dg (by omega)).2 ⟨hvf.mo z hz, Vf3 (n := (dgF a.1 f).1) (by rw [← hok]) hnz z hz⟩, fun e => hnz (by rw [e]; rfl), hvf.len⟩
/-! primitives -/
def rwR (a : F6) (n : Int) (f : MpT) : Vc := Zc8 (V6 a.1 n) f
theorem Hf.row (h : Hf a n f) : Okv (V6 a.1 n).length (rwR a n f) := Xo7 h.nf
theorem Hf.lrow (h : Hf a n f) : F3 K (V6 a.1 n) f = some (rwR a n f) := by
 have l1 := h.d.l1
 have hr := h.d.r
 unfold F3
 rw [if_pos (show Xv1 _ _ = true from decide_eq_true ⟨Wf2 h.d.v.dg (by omega), by omega, h.inM⟩)]; rfl
theorem Hf.vec (h : Hf a n f) (hK : 1099511627776 ≤ K) : Zb5 K f (V6 a.1 n) = some (rwR a n f) := by
 have l1 := h.d.l1
 have hr := h.d.r
 have hl := h.len
 exact Xq4 hK (by omega) (by omega) (Yl5 h.d.v.dg (by omega)) (I5 h.nf) h.inM
def bdB (a : F6) (n : Int) (f : MpT) : Bool := decide (byR (bdR a n) (rwR a n f) = replicate (V6 a.1 n).length 0)
theorem Vd4 (hK : 1099511627776 ≤ K) (h : Hf a n f) : Wk6 K a n f = some (bdB a n f) := by
 have l1 := h.d.l1
 unfold Wk6
 rw [Vd2 hK h.d, bind_some, Ws1 h.d, bind_some, h.lrow, bind_some, Yp8 hK h.row h.d.bd (by omega), bind_some]
 have ho := Zq7 (bdR a n) _ h.row
 unfold Zl4 bdB
 rw [Xa6 (by rw [ho.len]; omega), bind_some]
 congr 1
 have hz := Wd5 (byR (bdR a n) (rwR a n f))
 rw [ho.len] at hz
 rw [ho.len]
 by_cases hf : fs (byR (bdR a n) (rwR a n f)) < (V6 a.1 n).length
 rw [if_pos hf, decide_eq_false (show ¬ (fs _ : Int) < 0 by omega), decide_eq_false (fun e => hz.2 e hf)]
 rw [if_neg hf, decide_eq_true (show (-1 : Int) < 0 by decide), decide_eq_true (hz.1 hf)]
theorem Xf3 (h : Hf a n f) (hn : n = 0) : bdB a n f = false := by
 unfold bdB
 refine decide_eq_false fun e => ?_
 have hb : bdR a n = [] := by unfold bdR; rw [if_neg (by omega)]
 rw [hb, byR] at e
 obtain ⟨z, f', rfl⟩ : ∃ z f', f = z :: f' := by
  cases f with
  | nil => exact absurd U h.nz
  | cons z f' => exact ⟨z, f', U⟩
 have hz := h.inM z (mem_cons_self ..)
 have hv := Yd1 h.nf z (mem_cons_self ..)
 have hm : N5 (z :: f') z.1 ∈ rwR a n (z :: f') := mem_map.2 ⟨z.1, hz, U⟩
 rw [e] at hm
 have := (mem_replicate.1 hm).2
 rw [Yo7, if_pos U] at this
 omega
def owR (a : F6) (n : Int) (f : MpT) : Vc := byR (clR a (n - 1)) (Zk7 (replicate (V6 a.1 (n - 1)).length 0) ((byR (F7 (R6 (V6 a.1 (n - 1)).length 0 (Zc3 a (n - 1)))) (rwR a n f ++ replicate (V6 a.1 (n - 1)).length 0)).drop (V6 a.1 n).length) 1)
theorem Hf.dh (h : Hf a n f) (hn : 0 < n) : Dh a (n - 1) := ⟨h.d.v, by have := h.d.r; omega, h.d.f0, by rw [Int.sub_add_cancel]; exact h.d.f1⟩
theorem Hf.mat (h : Hf a n f) (hn : 0 < n) : ∀ r, r ∈ Zc3 a (n - 1) → Okv (V6 a.1 n).length r := by
 have hr := h.d.r
 have := Yd4 (n := n - 1) h.d.v (by omega)
 rwa [Int.sub_add_cancel] at this
theorem Hf.ow (h : Hf a n f) (hn : 0 < n) : Okv (V6 a.1 (n - 1)).length (owR a n f) := Zq7 _ _ (Zj9 (Yj6 _))
theorem Hf.clw (h : Hf a n f) (hn : 0 < n) : ∀ g, Sp (clR a (n - 1)) g ↔ Sp (Zv4 (V6 a.1 n).length (F7 (R6 (V6 a.1 (n - 1)).length 0 (Zc3 a (n - 1))))) g := by
 have hwo := Zu8 (m := (V6 a.1 (n - 1)).length) (Zc3 a (n - 1)) 0 (h.mat hn)
 have hT := (Zj7 hwo).1
 have := (Zj7 (Xb0 hT.ok)).2
 unfold clR Xy8
 rw [Int.sub_add_cancel, Zs1]
 exact this
theorem Wv0 (hK : 1099511627776 ≤ K) (h : Hf a n f) (hn : 0 < n) : Xj0 K a n f = some (Zk0 (V6 a.1 (n - 1)) (owR a n f)) := by
 have hr := h.d.r
 have l1 := h.d.l1
 have hh := h.dh hn
 have l0 := hh.l1
 have hm := h.mat hn
 obtain ⟨bd, cs, hcls⟩ := Wu1 (K := K) hK hh
 have hmat : Ye5 K a (n - 1) = some (Zc3 a (n - 1)) := Xb5 hK h.d.v (by omega) l0 (by rw [Int.sub_add_cancel]; exact l1)
 have hwo := Zu8 (m := (V6 a.1 (n - 1)).length) (Zc3 a (n - 1)) 0 hm
 obtain ⟨hR, hSp⟩ := Zj7 hwo
 have hsh := hR.short
 have hv : Okv ((V6 a.1 n).length + (V6 a.1 (n - 1)).length) (rwR a n f ++ replicate (V6 a.1 (n - 1)).length 0) := Yr2 h.row (Yj6 _)
 have ht := Zq7 (Yq2 (V6 a.1 n).length (F7 (R6 (V6 a.1 (n - 1)).length 0 (Zc3 a (n - 1))))) _ hv
 have hwl := Zr2 (V6 a.1 (n - 1)).length (Zc3 a (n - 1)) 0
 rw [Zs1] at hwl
 unfold Xj0
 rw [if_pos (by omega), hcls, bind_some, hmat, bind_some, Yn2 h.d.v.dg (by omega) l0, bind_some, Ws1 h.d, bind_some,
  if_pos (show okP _ _ _ = true from decide_eq_true ⟨by omega, by omega, by rw [Zs1]; omega, fun r hr' => by have := (hm r hr').len; omega⟩),
  h.lrow, bind_some, Zs0 hK hwo (by omega) (by omega), bind_some, if_pos (by omega),
  Xu5 (by omega) _ _ hv (fun s hs => ⟨hR.ok s hs, (hR.ld s hs).1⟩), bind_some, if_pos ht.len]
 have hz := Yj6 (V6 a.1 (n - 1)).length
 have hdt := Yl6 ht
 have hown : Okv (V6 a.1 (n - 1)).length (tkN (replicate (V6 a.1 (n - 1)).length 0) ((byR (Yq2 (V6 a.1 n).length (F7 (R6 (V6 a.1 (n - 1)).length 0 (Zc3 a (n - 1))))) (rwR a n f ++ replicate (V6 a.1 (n - 1)).length 0)).drop (V6 a.1 n).length) 1 (V6 a.1 (n - 1)).length) := by
  refine Yz1 (by rw [Yd3, hz.len]) fun k hk => ?_
  show 0 ≤ (tkN _ _ _ _).getD k 0 ∧ (tkN _ _ _ _).getD k 0 < 10007
  rw [Ys1 _ _ _ _ (by rw [hz.len]; exact Nat.le_refl _), if_pos hk]
  have := Vf8 (hz.inF k) (hdt.inF k) (show inF 1 by unfold inF; omega)
  unfold inF at this
  omega
 rw [Yp8 hK hown hh.cl (by omega), bind_some, Wv3 hm h.row hh.cl (h.clw hn)]
 exact Vb9 hK (Yl5 h.d.v.dg (by omega)) (h.ow hn)
theorem Wd9 (h : Hf a n f) (hn : 0 < n) : bdB a n f = true ↔ Sp (Zc3 a (n - 1)) (at_ (rwR a n f)) := by
 have hm := h.mat hn
 have hb : bdR a n = F7 (Zc3 a (n - 1)) := by unfold bdR; rw [if_pos hn]
 have hR := h.d.bd
 unfold bdB
 rw [decide_eq_true_iff, hR.nf0 h.row, hb]
 exact (Zj7 hm).2 _
theorem Wu0 (hK : 1099511627776 ≤ K) (h : Hf a n f) (hn : 0 < n) : Zi7 K a n f = some (if bdB a n f = true then (Zk0 (V6 a.1 (n - 1)) (owR a n f), true) else ([], false)) := by
 have hr := h.d.r
 have l1 := h.d.l1
 have hh := h.dh hn
 have l0 := hh.l1
 have hm := h.mat hn
 have hwo := Zu8 (m := (V6 a.1 (n - 1)).length) (Zc3 a (n - 1)) 0 hm
 obtain ⟨hR, hSp⟩ := Zj7 hwo
 have hsh := hR.short
 have hwl := Zr2 (V6 a.1 (n - 1)).length (Zc3 a (n - 1)) 0
 have hml := Zs1 a (n - 1)
 have hv : Okv ((V6 a.1 n).length + (V6 a.1 (n - 1)).length) (rwR a n f ++ replicate (V6 a.1 (n - 1)).length 0) := Yr2 h.row (Yj6 _)
 have hfi := Wo4 (m := (V6 a.1 (n - 1)).length) hm h.row
 have ho := Zq7 (F7 (R6 (V6 a.1 (n - 1)).length 0 (Zc3 a (n - 1)))) _ hv
 have hrl := h.row.len
 have hzl := (Yj6 (V6 a.1 (n - 1)).length)
 have hl0 : K4 K (Zc3 a (n - 1)) (V6 a.1 (n - 1)) (V6 a.1 n) K 0 [] = some (.go (R6 (V6 a.1 (n - 1)).length 0 (Zc3 a (n - 1)))) := by
  have key : ∀ (k i : Nat) (out : List Vc), i ≤ (Zc3 a (n - 1)).length → (Zc3 a (n - 1)).length < i + k → out.length = i →
   K4 K (Zc3 a (n - 1)) (V6 a.1 (n - 1)) (V6 a.1 n) k (i : Int) out = some (.go (out ++ R6 (V6 a.1 (n - 1)).length i ((Zc3 a (n - 1)).drop i))) := by
   intro k
   induction k with
   | zero => intro i out h1 h2; omega
   | succ k ih =>
    intro i out h1 h2 ho
    rw [K4]
    by_cases hi : i < (Zc3 a (n - 1)).length
    have hro := hm _ (getElem_mem hi)
    have hrl := hro.len
    have hwr : i64.wrap (((V6 a.1 n).length : Int) + (i : Int)) = (((V6 a.1 n).length + i : Nat) : Int) := by rw [i64_in _ (by omega)]; rfl
    rw [if_pos (by omega), rdV hi, hwr, Int.toNat_natCast, Int.toNat_natCast, if_pos (by simp; omega), if_pos ⟨by omega, by simp; omega⟩, if_pos (by omega), if_pos (by simp; omega), if_pos (by simp; omega), Xv9 _ _ hrl]
    rw [show (i : Int) + 1 = ((i + 1 : Nat) : Int) from U, ih (i + 1) _ (by omega) (by omega) (by simp [ho]), Yc1 hi]
    simp [R6]
    have e : i = (Zc3 a (n - 1)).length := by omega
    subst e
    rw [if_neg (by omega), drop_length]; simp [R6]
  have := key K 0 [] (by omega) (by omega) U
  rwa [show ((0 : Nat) : Int) = 0 from U, drop_zero, nil_append] at this
 unfold Zi7
 rw [i64_in _ (by omega), show (a.1, a.2) = a from U, Yo4 h.d.v.dg (by omega) l0, bind_some, Wt2 h.d, bind_some, Wh1 hK h.d.v (by omega) l0 (by rw [Int.sub_add_cancel]; exact l1), bind_some, hl0, bind_some]
 show ((Zb5 K f (V6 a.1 n)).bind _) = _
 rw [h.vec hK, bind_some, if_pos (by rw [hrl, Int.toNat_natCast]; omega), Int.toNat_natCast, Int.toNat_natCast, Yv8 hwo hK (by omega) (by omega), bind_some, Wj0 (fun s hs => ⟨hR.ok s hs, (hR.ld s hs).1⟩) hv (by omega) (by omega) (by omega), bind_some]
 have hol := ho.len
 have htl : ((byR (F7 (R6 (V6 a.1 (n - 1)).length 0 (Zc3 a (n - 1)))) (rwR a n f ++ replicate (V6 a.1 (n - 1)).length 0)).take (V6 a.1 n).length).length = (V6 a.1 n).length := by rw [length_take]; omega
 rw [if_pos (by omega), Yl7 (by rw [htl]; omega), bind_some, htl]
 have hft := Wg8 (r := byR (F7 (R6 (V6 a.1 (n - 1)).length 0 (Zc3 a (n - 1)))) (rwR a n f ++ replicate (V6 a.1 (n - 1)).length 0)) (w := (V6 a.1 n).length) (by omega)
 by_cases hB : bdB a n f = true
 have h1 := hfi.2 ((Wd9 h hn).1 hB)
 rw [if_pos hB]
 conv => lhs; arg 1; rw [if_neg (fun x => by have := hft.1 x; omega)]
 rw [if_neg (by decide), if_pos (by omega)]
 have hdt := Yl6 ho
 rw [Xa4 (fun j => hzl.inF j) (fun j => hdt.inF j) (by unfold inF; omega) (by rw [hzl.len, hdt.len]; exact Nat.le_refl _) (by rw [hzl.len]; omega) (by rw [hzl.len]; omega), bind_some, Wc4 hK hh, bind_some,
  Wj0 (n := (V6 a.1 (n - 1)).length) (fun s hs => ⟨hh.cl.ok s hs, (hh.cl.ld s hs).1⟩) (Zj9 hzl) (by omega) (by have := hh.cl.short; omega) (by omega), bind_some]
 show ((Zn8 K (owR a n f) (V6 a.1 (n - 1))).bind _) = _
 rw [Wt7 hK (h.ow hn).len (by omega)]; rfl
 have h1 : ¬ (V6 a.1 n).length ≤ fs (byR (F7 (R6 (V6 a.1 (n - 1)).length 0 (Zc3 a (n - 1)))) (rwR a n f ++ replicate (V6 a.1 (n - 1)).length 0)) := fun x => hB ((Wd9 h hn).2 (hfi.1 x))
 rw [if_neg hB, if_pos (hft.2 (by omega)), if_pos (by omega)]
def pmR (a : F6) (f : MpT) : MpT × Int :=
 if (hmR a f).2 = 0 then if (hmR a f).1 < 0 then ([], 0) else if bdB a (hmR a f).1 f = true then (Zk0 (V6 a.1 ((hmR a f).1 - 1)) (owR a (hmR a f).1 f), 0) else ([], 4) else ([], (hmR a f).2)
theorem Vk4 (hK : 1099511627776 ≤ K) (hi : Inp K a) (hbf : Zl5 f) (hfl : f.length ≤ 1048576) : Zk6 K a f = some (pmR a f) := by
 obtain ⟨r, h1, h2, h3⟩ := Va9 hK hi hbf hfl
 unfold Zk6 pmR
 rw [show (a.1, a.2) = a from U, h1, bind_some, ← h2]
 by_cases hc : r.2 = 0
 case neg => rw [if_neg hc, if_neg hc]
 rw [if_pos hc, if_pos hc, h3 hc]
 by_cases hn : (hmR a f).1 < 0
 rw [if_pos hn, if_pos hn]
 have hf := Wb3 hi hbf (by rw [← h2]; exact hc) hn
 rw [if_neg hn, if_neg hn]
 generalize (hmR a f).1 = n at *
 by_cases h0 : n = 0
 rw [if_pos h0, Xf3 hf h0, if_neg (by decide)]
 rw [if_neg h0, Wu0 hK hf (by omega), bind_some]
 by_cases hB : bdB a n f = true
 rw [if_pos hB, if_pos hB, if_pos U]
 rw [if_neg hB, if_neg hB, if_neg (by decide)]
theorem Vk2 (hK : 1099511627776 ≤ K) (hi : Inp K a) (hbf : Zl5 f) (hfl : f.length ≤ 1048576) : Zf2 K a f = some (pmR a f) := by
 unfold Zf2 pmR
 rw [Vj1 hK hi hbf hfl, bind_some]
 by_cases hc : (hmR a f).2 = 0
 case neg => rw [if_neg (fun h => hc h.1), if_neg hc]
 by_cases hn : (hmR a f).1 < 0
 rw [if_neg (fun h => h.2 hn), if_pos hc, if_pos hn, hc]
 have hf := Wb3 hi hbf hc hn
 rw [if_pos ⟨hc, hn⟩, if_pos hc, if_neg hn, Xo5 (by omega) (by omega) hbf (I5 hf.nf), bind_some]
 generalize (hmR a f).1 = n at *
 rw [Vd4 hK hf, bind_some]
 by_cases hB : bdB a n f = true
 case neg => rw [if_neg hB, if_neg hB]
 have h0 : 0 < n := by
  rcases Int.lt_or_eq_of_le (show 0 ≤ n by omega) with h | h
  exact h
  rw [Xf3 hf h.symm] at hB; cases hB
 have hr := hf.d.r
 have hh := hf.dh h0
 have l0 := hh.l1
 rw [if_pos hB, if_pos hB, Wv0 hK hf h0, bind_some]
 exact Vi4 (ds := a.1) (by omega) (Vj0 (Yl5 hf.d.v.dg (by omega)) (hf.ow h0) (fun p hp => ((Yf8 hf.d.v.dg (by omega)).1 hp).1) (by omega))
theorem Vb0 (hi : Inp K a) (hbf : Zl5 f) : (pmR a f).1.length ≤ 120 := by
 unfold pmR
 by_cases hc : (hmR a f).2 = 0
 case neg => rw [if_neg hc]; simp
 rw [if_pos hc]
 by_cases hn : (hmR a f).1 < 0
 rw [if_pos hn]; simp
 rw [if_neg hn]
 have hf := Wb3 hi hbf hc hn
 generalize (hmR a f).1 = n at *
 by_cases hB : bdB a n f = true
 case neg => rw [if_neg hB]; simp
 have h0 : 0 < n := by
  rcases Int.lt_or_eq_of_le (show 0 ≤ n by omega) with h | h
  exact h
  rw [Xf3 hf h.symm] at hB; cases hB
 rw [if_pos hB]
 exact Nat.le_trans (Xe7 _ _) (hf.dh h0).l1
end
section
variable {K : Nat}
/-! comparisons -/
theorem Wc6 (hK : 8 < K) (m : A8) : Zm4 K m m = some true := by
 unfold Zm4
 rw [Zd9 (g := ()) (fun k i => N6 K m m k i) 8 (fun _ => true) false (fun k n hn => ?_) (fun k n hn => ?_) hK]
 rw [if_pos (by simp)]; rfl
 show N6 K m m (k + 1) n = _
 rw [N6, if_pos (by omega), if_pos U]; rfl
 show N6 K m m (k + 1) n = _
 rw [N6, if_neg (by omega)]
theorem Yl3 (hK : 8 < K) {f : MpT} (hl : f.length < K) : Zt1 K f f = some true := by
 unfold Zt1
 rw [if_pos U, Zd9 (g := ()) (fun k i => I0 K f f k i) f.length (fun _ => true) false (fun k n hn => ?_) (fun k n hn => ?_) hl]
 rw [if_pos (by simp)]; rfl
 show I0 K f f (k + 1) n = _
 have h : Zw0 K ((rd f (n : Int)).1, (rd f (n : Int)).2) ((rd f (n : Int)).1, (rd f (n : Int)).2) = some true := by
  unfold Zw0
  rw [Wc6 hK]; simp
 rw [I0, if_pos (by omega), if_pos (by omega), h]; rfl
 show I0 K f f (k + 1) n = _
 rw [I0, if_neg (by omega)]
theorem Xt6 (hK : 8 < K) {fs : List MpT} (hl : fs.length < K) (hf : ∀ f, f ∈ fs → f.length < K) : Zt8 K fs fs = some true := by
 unfold Zt8
 rw [if_pos U, Zd9 (g := ()) (fun k i => J9 K fs fs k i) fs.length (fun _ => true) false (fun k n hn => ?_) (fun k n hn => ?_) hl]
 rw [if_pos (by simp)]; rfl
 show J9 K fs fs (k + 1) n = _
 have h : I6 K (rd fs (n : Int)) (rd fs (n : Int)) = some true := by
  unfold I6
  rw [Yl3 hK (hf _ (S0 hn))]; rfl
 rw [J9, if_pos (by omega), if_pos (by omega), h]; rfl
 show J9 K fs fs (k + 1) n = _
 rw [J9, if_neg (by omega)]
theorem Wb8 {xs : List Int} (hl : xs.length < K) : Zq9 K xs xs = some true := by
 unfold Zq9
 rw [if_pos U, Zd9 (g := ()) (fun k i => K5 K xs xs k i) xs.length (fun _ => true) false (fun k n hn => ?_) (fun k n hn => ?_) hl]
 rw [if_pos (by simp)]; rfl
 show K5 K xs xs (k + 1) n = _
 rw [K5, if_pos (by omega), if_pos (by omega), if_pos U]; rfl
 show K5 K xs xs (k + 1) n = _
 rw [K5, if_neg (by omega)]
theorem Wj1 (hK : 8 < K) {x : F6} (h1 : x.1.length < K) (h2 : x.2.length < K) (h3 : ∀ f, f ∈ x.2 → f.length < K) : Zo7 K x x = some true := by
 unfold Zo7
 rw [Wb8 h1, bind_some, if_pos U, Xt6 hK h2 h3]; rfl
/-! copies -/
theorem Vh4 (hK : 8 < K) (m : A8) : Zm3 K m = some m := by
 have key : ∀ (k n : Nat) (box : A8), n ≤ 8 → 8 < n + k → (∀ j : Fin 8, j.val < n → box j = m j) → G8 K m k n box = some (.go m) := by
  intro k
  induction k with
  | zero => intro n box h1 h2; omega
  | succ k ih =>
   intro n box h1 h2 hb
   rw [G8]
   by_cases hn : n < 8
   rw [if_pos (by omega)]
   refine ih (n + 1) _ (by omega) (by omega) (fun j hj => ?_)
   rw [Zh7 _ hn, S5 m hn]
   by_cases e : j.val = n
   rw [if_pos e]; congr 1; exact Fin.ext e.symm
   rw [if_neg e]; exact hb j (by omega)
   rw [if_neg (by omega)]
   congr 2
   funext j; exact hb j (by omega)
 have := key K 0 (fun _ => 0) (by omega) (by omega) (fun j hj => by omega)
 unfold Zm3
 replace this : G8 K m K 0 (fun _ => 0) = _ := this
 rw [this]; rfl
theorem Xg2 {α : Type} [Inhabited α] {xs ys : List α} {j : Nat} (hj : j < xs.length) (hl : ys.length = xs.length) (h : ys.take j = xs.take j) : (ys.set j (rd xs (j : Int))).take (j + 1) = xs.take (j + 1) := by
 rw [Xn4 (xs := ys.set j _) (by rw [length_set]; omega), Xn4 hj]
 congr 1
 rw [take_set_of_le (Nat.le_refl j), h]
 rw [Ze7 (by rw [length_set]; omega)]
 simp
theorem Wh0 (hK : 8 < K) {f : MpT} (hl : f.length < K) (hl2 : f.length ≤ 1099511627776) : Zt9 K f = some f := by
 have key : ∀ (k j : Nat) (out : MpT), f.length < j + k → j ≤ f.length → out.length = f.length → out.take j = f.take j → Za6 K f k j out = some (.go f) := by
  intro k
  induction k with
  | zero => intro j out h1 h2; omega
  | succ k ih =>
   intro j out h1 h2 h3 h4
   rw [Za6]
   by_cases hj : j < f.length
   have ht : Zv8 K ((rd f (j : Int)).1, (rd f (j : Int)).2) = some (rd f (j : Int)) := by
    unfold Zv8
    rw [Vh4 hK]; rfl
   rw [if_pos (by omega), ht, bind_some, if_pos (by omega), Int.toNat_natCast]
   exact ih (j + 1) _ (by omega) (by omega) (by rw [length_set]; exact h3) (Xg2 hj h3 h4)
   rw [if_neg (by omega)]
   rw [take_of_length_le (by omega), take_of_length_le (by omega)] at h4
   rw [h4]
 have := key K 0 (replicate f.length ((fun _ => 0), 0)) (by omega) (by omega) (by simp) (by simp)
 unfold Zt9
 rw [if_pos (by omega), Int.toNat_natCast]
 replace this : Za6 K f K 0 (replicate f.length ((fun _ => 0), 0)) = _ := this
 rw [this]; rfl
theorem Va7 (hK : 8 < K) {fs : List MpT} (hl : fs.length < K) (hl2 : fs.length ≤ 1099511627776) (hf : ∀ f, f ∈ fs → f.length < K ∧ f.length ≤ 1099511627776) : Zt6 K fs = some fs := by
 have key : ∀ (k j : Nat) (out : List MpT), fs.length < j + k → j ≤ fs.length → out.length = fs.length → out.take j = fs.take j → Za5 K fs k j out = some (.go fs) := by
  intro k
  induction k with
  | zero => intro j out h1 h2; omega
  | succ k ih =>
   intro j out h1 h2 h3 h4
   rw [Za5]
   by_cases hj : j < fs.length
   have hff := hf _ (S0 hj)
   have ht : B7 K (rd fs (j : Int)) = some (rd fs (j : Int)) := by
    unfold B7
    rw [Wh0 hK hff.1 hff.2]; rfl
   rw [if_pos (by omega), ht, bind_some, if_pos (by omega), Int.toNat_natCast]
   exact ih (j + 1) _ (by omega) (by omega) (by rw [length_set]; exact h3) (Xg2 hj h3 h4)
   rw [if_neg (by omega)]
   rw [take_of_length_le (by omega), take_of_length_le (by omega)] at h4
   rw [h4]
 have := key K 0 (replicate fs.length []) (by omega) (by omega) (by simp) (by simp)
 unfold Zt6
 rw [if_pos (by omega), Int.toNat_natCast]
 replace this : Za5 K fs K 0 (replicate fs.length []) = _ := this
 rw [this]; rfl
theorem Vi7 {xs : List Int} (hl : xs.length < K) (hl2 : xs.length ≤ 1099511627776) : Zq8 K xs = some xs := by
 have key : ∀ (k j : Nat) (out : List Int), xs.length < j + k → j ≤ xs.length → out.length = xs.length → out.take j = xs.take j → D9 K xs k j out = some (.go xs) := by
  intro k
  induction k with
  | zero => intro j out h1 h2; omega
  | succ k ih =>
   intro j out h1 h2 h3 h4
   rw [D9]
   by_cases hj : j < xs.length
   rw [if_pos (by omega), if_pos (by omega), Int.toNat_natCast]
   exact ih (j + 1) _ (by omega) (by omega) (by rw [length_set]; exact h3) (Xg2 hj h3 h4)
   rw [if_neg (by omega)]
   rw [take_of_length_le (by omega), take_of_length_le (by omega)] at h4
   rw [h4]
 have := key K 0 (replicate xs.length 0) (by omega) (by omega) (by simp) (by simp)
 unfold Zq8
 rw [if_pos (by omega), Int.toNat_natCast]
 replace this : D9 K xs K 0 (replicate xs.length 0) = _ := this
 rw [this]; rfl
theorem Vl4 {a : F6} (hi : Inp K a) : Zb4 K a = some a := by
 have h1 := hi.big; have h2 := hi.dl; have h3 := hi.il
 unfold Zb4
 rw [Vi7 (by omega) (by omega), bind_some, Va7 (by omega) (by omega) (by omega) (fun f hf => by have := hi.fl f hf; omega)]; rfl
theorem Wq8 (k0 : Int) (m : Nat) (hK : m < K) (hK8 : 8 < K) (h0 : 0 ≤ k0 ∧ k0 + 9 * m ≤ 1000000000000000) : Zn9 K (mkT k0 m) k0 = some (k0 + 9 * m) := by
 have e : ∀ j : Nat, j < m → rd (mkT k0 m) (j : Int) = ((fun t : Fin 8 => u8.wrap (k0 + 9 * j + t.val)), k0 + 9 * j + 8) := fun j hj => Wy9 (by simp [mkT, hj])
 have inner : ∀ (j : Nat), j < m → ∀ (k t : Nat), 8 < t + k → t ≤ 8 → E3 K (mkT k0 m) j k (k0 + 9 * j + t) t = some (.go (k0 + 9 * j + 8)) := by
  intro j hj k
  induction k with
  | zero => intro t h1 h2; omega
  | succ k ih =>
   intro t h1 h2
   rw [E3, e j hj]
   by_cases ht : t < 8
   rw [if_pos (by omega), S5 _ ht, if_pos U, i64_in _ (by omega), Int.add_assoc]
   exact ih (t + 1) (by omega) (by omega)
   rw [if_neg (by omega), show t = 8 by omega]; rfl
 have key : ∀ (k j : Nat), m < j + k → j ≤ m → J5 K (mkT k0 m) k (k0 + 9 * j) j = some (.go (k0 + 9 * m)) := by
  intro k
  induction k with
  | zero => intro j h1 h2; omega
  | succ k ih =>
   intro j h1 h2
   rw [J5, Xa9]
   by_cases hj : j < m
   have hin := inner j hj K 0 (by omega) (by omega)
   replace hin : E3 K (mkT k0 m) j K (k0 + 9 * j + 0) 0 = _ := hin
   rw [Int.add_zero] at hin
   rw [if_pos (by omega), hin, bind_some]
   show (if (rd (mkT k0 m) (j : Int)).2 = k0 + 9 * j + 8 then J5 K (mkT k0 m) k (i64.wrap (k0 + 9 * j + 8 + 1)) ((j : Int) + 1) else some (.ret (-1))) = _
   rw [e j hj, if_pos U, i64_in _ (by omega)]
   have := ih (j + 1) (by omega) (by omega)
   rw [show k0 + 9 * ((j + 1 : Nat) : Int) = k0 + 9 * j + 8 + 1 by omega] at this
   exact this
   rw [if_neg (by omega), show j = m by omega]
 have := key K 0 (by omega) (by omega)
 unfold Zn9
 replace this : J5 K (mkT k0 m) K (k0 + 9 * 0) 0 = _ := this
 rw [Int.mul_zero, Int.add_zero] at this
 rw [this]; rfl
/-! sizes -/
theorem Xr4 {f : MpT} {l : Int} (hb : f.length ≤ 9223372036854775807) (hl : 0 ≤ l ∧ l ≤ 1048576) : Zq1 K f l = some (if l < f.length then -1 else l - f.length) := by
 unfold Zq1 Ya5
 rw [i64_in _ (by omega)]
 by_cases h : l < f.length
 rw [if_pos (by omega), if_pos h]; rfl
 rw [if_neg (by omega), if_neg h, bind_some, if_neg (by omega)]
theorem Vf6 {fs : List MpT} (hb : ∀ f, f ∈ fs → f.length ≤ 9223372036854775807) : ∀ (k j : Nat) (l : Int), fs.length < j + k → j ≤ fs.length → 0 ≤ l ∧ l ≤ 1048576 →
 ∃ e r, Za1 K fs k l j = some e ∧ Ex.elim (fun r => some r) (fun s => some s) e = some r ∧ (r < 0 ∨ (0 ≤ r ∧ Zc1 (fs.drop j) ≤ 9 * (l - r) ∧ ∀ f, f ∈ fs.drop j → (f.length : Int) ≤ l)) := by
 intro k
 induction k with
 | zero => intro j l h1 h2; omega
 | succ k ih =>
  intro j l h1 h2 hl
  rw [Za1]
  by_cases hj : j < fs.length
  rw [if_pos (by omega), Xr4 (hb _ (S0 hj)) hl, bind_some]
  by_cases h : l < (rd fs (j : Int)).length
  rw [if_pos h, if_pos (by decide)]; exact ⟨_, _, U, U, .inl (by decide)⟩
  rw [if_neg h, if_neg (by omega)]
  obtain ⟨e, r, h3, h4, h5⟩ := ih (j + 1) (l - (rd fs (j : Int)).length) (by omega) (by omega) (by omega)
  refine ⟨e, r, h3, h4, ?_⟩
  rcases h5 with h5 | ⟨h5, h6, h7⟩
  exact .inl h5
  rw [show fs.drop j = rd fs (j : Int) :: fs.drop (j + 1) by rw [Ze7 hj]; exact drop_eq_getElem_cons hj]
  refine .inr ⟨h5, by rw [Zc1]; omega, fun f hf => ?_⟩
  rcases mem_cons.1 hf with rfl | hf
  omega
  have := h7 f hf; omega
  rw [if_neg (by omega), drop_eq_nil_of_le (by omega)]
  exact ⟨_, _, U, U, .inr ⟨hl.1, by rw [Zc1]; omega, by simp⟩⟩
end
theorem Vd7 {K : Nat} {a : F6} (hK : 1073741824 ≤ K) (h1 : a.1.length ≤ 9223372036854775807) (h2 : a.2.length ≤ 9223372036854775807) (h3 : ∀ f, f ∈ a.2 → f.length ≤ 9223372036854775807) :
 ∃ r, Zo2 K a 1048576 = some r ∧ (r < 0 ∨ (a.1.length ≤ 1048576 ∧ a.2.length ≤ 1048576 ∧ (∀ f, f ∈ a.2 → f.length ≤ 1048576) ∧ Zc1 a.2 ≤ 9437184 ∧ r ≤ 1048576)) := by
 unfold Zo2 Zy0 Ya8
 rw [i64_in (1048576 - (a.1.length : Int)) (by omega)]
 by_cases hd : a.1.length ≤ 1048576
 case neg => rw [if_pos (by omega)]; exact ⟨-1, U, .inl (by decide)⟩
 rw [if_neg (by omega), bind_some, if_neg (by omega), i64_in _ (by omega)]
 by_cases hi : (a.1.length : Int) + a.2.length ≤ 1048576
 case neg => rw [if_pos (by omega)]; exact ⟨-1, U, .inl (by decide)⟩
 rw [if_neg (by omega)]
 obtain ⟨e, r, h4, h5, h6⟩ := Vf6 (K := K) h3 K 0 (1048576 - (a.1.length : Int) - (a.2.length : Int)) (by omega) (by omega) (by omega)
 replace h4 : Za1 K a.2 K (1048576 - (a.1.length : Int) - (a.2.length : Int)) 0 = some e := h4
 rw [h4, bind_some, h5, bind_some]
 have hnn := Yk5 a.2
 rcases h6 with h6 | ⟨h6, h7, h8⟩
 rw [if_pos h6]; exact ⟨-1, U, .inl (by decide)⟩
 rw [if_neg (by omega)]
 rw [drop_zero] at h7 h8
 exact ⟨r, U, .inr ⟨hd, by omega, fun f hf => by have := h8 f hf; omega, by omega, by omega⟩⟩
theorem Ww7 {K : Nat} {a : F6} {f : MpT} (hK : 1099511627776 ≤ K) (h1 : a.1.length ≤ 9223372036854775807) (h2 : a.2.length ≤ 9223372036854775807) (h3 : ∀ f, f ∈ a.2 → f.length ≤ 9223372036854775807) (hb : ∀ f, f ∈ a.2 → Zl5 f)
 (h4 : f.length ≤ 9223372036854775807) (hbf : Zl5 f) :
 Zg4 K a f = some true := by
 obtain ⟨r, hr, hs⟩ := Vd7 (K := K) (by omega) h1 h2 h3
 unfold Zg4
 rw [show (a.1, a.2) = a from U, hr, bind_some]
 by_cases h0 : r < 0
 rw [if_pos h0]
 rw [if_neg h0]
 obtain ⟨s1, s2, s3, s4, hr8⟩ := hs.resolve_left h0
 rw [Xr4 h4 (by omega), bind_some]
 by_cases hq : r < f.length
 rw [if_pos hq, if_pos (by decide)]
 rw [if_neg hq, if_neg (by omega)]
 have hfl : f.length ≤ 1048576 := by omega
 have hi : Inp K a := ⟨by omega, s1, s2, s3, hb⟩
 have hS := Vk4 hK hi hbf hfl
 have hI := Vk2 hK hi hbf hfl
 have hrl := Vb0 (f := f) hi hbf
 generalize pmR a f = R at *
 have hcn := Yk5 a.2
 have hca : Zx4 a ≤ 1000000000000 := by unfold Zx4; omega
 have hca0 : 0 ≤ Zx4 a := by unfold Zx4; omega
 have hto := Vl4 hi
 have htf : B7 K f = some f := by unfold B7; rw [Wh0 (by omega) (by omega) (by omega)]; rfl
 have hef : I6 K f f = some true := by unfold I6; rw [Yl3 (by omega) (by omega), bind_some, if_pos U]
 have hex : I6 K R.1 R.1 = some true := by unfold I6; rw [Yl3 (by omega) (by omega), bind_some, if_pos U]
 have heqa := Wj1 (K := K) (x := a) (by omega) (by omega) (by omega) (fun f hf => by have := s3 f hf; omega)
 have hheld : Zl3 K (mkT 1 R.1.length) 1 = some (1 + 9 * (R.1.length : Int)) := by
  unfold Zl3
  rw [Wq8 1 R.1.length (by omega) (by omega) (by omega)]
  first | rfl | (rw [bind_some, if_neg (by omega)])
 have eA : (a.1, a.2) = a := rfl
 rw [hto, bind_some, htf, bind_some, eA, hS, bind_some, bind_some, bind_some, eA, hI, bind_some]
 dsimp only
 rw [hex, bind_some, if_pos U, decide_eq_true U]
 unfold D2
 rw [if_neg (by decide), eA, hto, bind_some, eA, heqa, bind_some, if_pos U, htf, bind_some, hef, bind_some, if_pos U, if_pos (by omega), if_pos (by omega), if_neg (by omega)]
 dsimp only
 rw [hex, bind_some, if_pos U, decide_eq_true U]
 unfold K7
 rw [if_neg (by decide), if_pos (by omega), hheld, bind_some, if_neg (by omega), if_pos U, eA, hto, bind_some, htf, bind_some, eA, hI, bind_some]
 dsimp only
 rw [hex, bind_some, if_pos U, decide_eq_true U]
 unfold D1
 rw [if_neg (by decide), hheld, bind_some, if_neg (by omega), if_pos U]
end Go.Proofs.YtabofnehiclkiaaGreat
