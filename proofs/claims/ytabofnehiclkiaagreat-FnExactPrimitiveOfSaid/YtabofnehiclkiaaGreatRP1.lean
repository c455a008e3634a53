/- Walk, rules and plain laws. -/
import Derived.WalkKit
import Derived.Test.YtabofnehiclkiaaGreatRF20
namespace Go.Proofs.YtabofnehiclkiaaGreat
open Go IntKind IntWalk List
open Option (bind_some)
set_option linter.all false
set_option maxRecDepth 100000
set_option maxHeartbeats 8000000
def cf (a : A8) : List (A8 × Int) → Int
 | [] => 0
 | t :: ts => (if t.1 = a then t.2 else 0) + cf a ts
theorem Wp5 {a : A8} : ∀ {xs : List (A8 × Int)}, (∀ q, q ∈ xs → q.1 ≠ a) → cf a xs = 0
 | [], _ => rfl
 | x :: xs, h => by
  rw [cf, if_neg (h x (mem_cons_self ..)), Wp5 (fun q hq => h q (mem_cons_of_mem _ hq))]; rfl
theorem Xw7 (a : A8) : ∀ {s : MpT}, Srt s → N5 s a = cf a s
 | [], _ => rfl
 | x :: xs, h => by
  have h' := pairwise_cons.1 h
  by_cases e : x.1 = a
  rw [Ya1 (x := x.2) h (by rw [← e]; exact mem_cons_self ..), cf, if_pos e, Wp5 (fun q hq e' => ?_)]
  omega
  have := h'.1 q hq
  rw [e, e', Zh0] at this; cases this
  rw [cf, if_neg e, ← Xw7 a h'.2, Int.zero_add]
  unfold N5
  rw [find?_cons]
  cases hq : eq8 a x.1 with
  | false => rfl
  | true => exact absurd (Zf3.1 hq).symm e
def F5 : List (A8 × Int) → MpT → MpT
 | [], s => s
 | t :: ts, s => F5 ts (Zw7 s t.1 t.2)
theorem Xe0 : ∀ (xs ys : List (A8 × Int)) (s : MpT), F5 (xs ++ ys) s = F5 ys (F5 xs s)
 | [], _, _ => rfl
 | x :: xs, ys, s => Xe0 xs ys _
theorem Zo1 : ∀ (T : List (A8 × Int)) {s : MpT}, nfm s = true → nfm (F5 T s) = true
 | [], _, h => h
 | t :: ts, _, h => Zo1 ts (Zj6 h _ _)
theorem Xp3 (a : A8) : ∀ (T : List (A8 × Int)) {s : MpT}, nfm s = true → N5 (F5 T s) a = (N5 s a + cf a T) % 10007
 | [], s, h => by
  have := Yk0 h a
  simp only [F5, cf]; omega
 | t :: ts, s, h => by
  rw [F5, Xp3 a ts (Zj6 h _ _), Zz6 h, cf]
  by_cases e : a = t.1
  subst e
  simp only [if_true]
  omega
  rw [if_neg e, if_neg (fun h => e h.symm)]; omega
theorem Ya2 : nfm [] = true := rfl
theorem Wy0 (s : MpT) (p : A8) (f : Int) : (Zw7 s p f).length ≤ s.length + 1 := by
 have h1 : (Zz2 s p).length ≤ s.length := length_filter_le _ _
 unfold Zw7
 split
 omega
 unfold Zc9
 rw [(Zv2 _ _).length_eq, length_cons]; omega
theorem Yl8 : ∀ (T : List (A8 × Int)) (s : MpT), (F5 T s).length ≤ s.length + T.length
 | [], s => by simp [F5]
 | t :: ts, s => by
  have h1 := Yl8 ts (Zw7 s t.1 t.2)
  have h2 := Wy0 s t.1 t.2
  rw [F5, length_cons]; omega
def scl (k : Int) (g : List (A8 × Int)) : List (A8 × Int) := g.map fun t => (t.1, k * t.2)
theorem Wm9 (k : Int) (a : A8) : ∀ g, cf a (scl k g) = k * cf a g
 | [] => by simp [scl, cf]
 | t :: g => by
  show (if t.1 = a then k * t.2 else 0) + cf a (scl k g) = k * ((if t.1 = a then t.2 else 0) + cf a g)
  rw [Wm9 k a g, Int.mul_add]
  split <;> simp
/-! two sorted lists, merged -/
def cnz (p : A8) (x : Int) (r : MpT) : MpT := if x = 0 then r else (p, x) :: r
def mrg (k : Int) : MpT → MpT → MpT
 | f, [] => f
 | [], q :: g => cnz q.1 ((k * q.2) % 10007) (mrg k [] g)
 | p :: f, q :: g => if bef p.1 q.1 = true then p :: mrg k f (q :: g) else if bef q.1 p.1 = true then cnz q.1 ((k * q.2) % 10007) (mrg k (p :: f) g) else cnz p.1 ((p.2 + (k * q.2) % 10007) % 10007) (mrg k f g)
termination_by f g => f.length + g.length
theorem Xm8 {p : A8} {x : Int} {r : MpT} {q : A8 × Int} (h : q ∈ cnz p x r) : q.1 = p ∨ q ∈ r := by
 unfold cnz at h
 split at h
 exact .inr h
 rcases mem_cons.1 h with rfl | h
 exact .inl U
 exact .inr h
theorem Yu4 (k : Int) (f g : MpT) : ∀ q, q ∈ mrg k f g → (∃ p, p ∈ f ∧ p.1 = q.1) ∨ ∃ p, p ∈ g ∧ p.1 = q.1 := by
 fun_induction mrg k f g with
 | case1 f => intro q hq; exact .inl ⟨q, hq, U⟩
 | case2 q g ih =>
  intro r hr
  rcases Xm8 hr with h | h
  exact .inr ⟨q, mem_cons_self .., h.symm⟩
  rcases ih r h with ⟨p, hp, e⟩ | ⟨p, hp, e⟩
  cases hp
  exact .inr ⟨p, mem_cons_of_mem _ hp, e⟩
 | case3 p f q g h ih =>
  intro r hr
  rcases mem_cons.1 hr with rfl | hr
  exact .inl ⟨_, mem_cons_self .., U⟩
  rcases ih r hr with ⟨p, hp, e⟩ | ⟨p, hp, e⟩
  exact .inl ⟨p, mem_cons_of_mem _ hp, e⟩
  exact .inr ⟨p, hp, e⟩
 | case4 p f q g h1 h2 ih =>
  intro r hr
  rcases Xm8 hr with h | h
  exact .inr ⟨q, mem_cons_self .., h.symm⟩
  rcases ih r h with ⟨p, hp, e⟩ | ⟨p, hp, e⟩
  exact .inl ⟨p, hp, e⟩
  exact .inr ⟨p, mem_cons_of_mem _ hp, e⟩
 | case5 p f q g h1 h2 ih =>
  intro r hr
  rcases Xm8 hr with h | h
  exact .inl ⟨p, mem_cons_self .., h.symm⟩
  rcases ih r h with ⟨p, hp, e⟩ | ⟨p, hp, e⟩
  exact .inl ⟨p, mem_cons_of_mem _ hp, e⟩
  exact .inr ⟨p, mem_cons_of_mem _ hp, e⟩
theorem Xo6 {p : A8} {x : Int} {r : MpT} (h : Srt r) (hp : ∀ q, q ∈ r → bef p q.1 = true) : Srt (cnz p x r) := by
 unfold cnz
 split
 exact h
 exact pairwise_cons.2 ⟨hp, h⟩
theorem Vb1 (k : Int) (f g : MpT) : Srt f → Srt g → Srt (mrg k f g) := by
 fun_induction mrg k f g with
 | case1 f => intro h _; exact h
 | case2 q g ih =>
  intro h1 h2
  have h2' := pairwise_cons.1 h2
  refine Xo6 (ih h1 h2'.2) (fun r hr => ?_)
  rcases Yu4 _ _ _ r hr with ⟨p, hp, e⟩ | ⟨p, hp, e⟩
  cases hp
  rw [← e]; exact h2'.1 p hp
 | case3 p f q g h ih =>
  intro h1 h2
  have h1' := pairwise_cons.1 h1
  have h2' := pairwise_cons.1 h2
  refine pairwise_cons.2 ⟨fun r hr => ?_, ih h1'.2 h2⟩
  rcases Yu4 _ _ _ r hr with ⟨s, hs, e⟩ | ⟨s, hs, e⟩
  rw [← e]; exact h1'.1 s hs
  rw [← e]
  rcases mem_cons.1 hs with rfl | hs
  exact h
  exact Zq6 h (h2'.1 s hs)
 | case4 p f q g h3 h ih =>
  intro h1 h2
  have h1' := pairwise_cons.1 h1
  have h2' := pairwise_cons.1 h2
  refine Xo6 (ih h1 h2'.2) (fun r hr => ?_)
  rcases Yu4 _ _ _ r hr with ⟨s, hs, e⟩ | ⟨s, hs, e⟩
  rw [← e]
  rcases mem_cons.1 hs with rfl | hs
  exact h
  exact Zq6 h (h1'.1 s hs)
  rw [← e]; exact h2'.1 s hs
 | case5 p f q g h3 h4 ih =>
  intro h1 h2
  have h1' := pairwise_cons.1 h1
  have h2' := pairwise_cons.1 h2
  have e0 : p.1 = q.1 := by
   by_cases e : p.1 = q.1
   exact e
   exact absurd (Yi0 e) (by simp [h3, h4])
  refine Xo6 (ih h1'.2 h2'.2) (fun r hr => ?_)
  rcases Yu4 _ _ _ r hr with ⟨s, hs, e⟩ | ⟨s, hs, e⟩
  rw [← e]; exact h1'.1 s hs
  rw [← e, e0]; exact h2'.1 s hs
theorem Xm9 {p : A8} {x : Int} {r : MpT} (hx : 0 ≤ x ∧ x ≤ 10006) (h : ∀ q, q ∈ r → 1 ≤ q.2 ∧ q.2 ≤ 10006) : ∀ q, q ∈ cnz p x r → 1 ≤ q.2 ∧ q.2 ≤ 10006 := by
 unfold cnz
 split
 exact h
 intro q hq
 rcases mem_cons.1 hq with rfl | hq
 simp only; omega
 exact h q hq
theorem Vd8 (k : Int) (f g : MpT) : (∀ q, q ∈ f → 1 ≤ q.2 ∧ q.2 ≤ 10006) → ∀ q, q ∈ mrg k f g → 1 ≤ q.2 ∧ q.2 ≤ 10006 := by
 fun_induction mrg k f g with
 | case1 f => exact fun h => h
 | case2 q g ih => exact fun h => Xm9 (by omega) (ih h)
 | case3 p f q g h ih =>
  intro hf r hr
  rcases mem_cons.1 hr with rfl | hr
  exact hf _ (mem_cons_self ..)
  exact ih (fun q hq => hf q (mem_cons_of_mem _ hq)) r hr
 | case4 p f q g h3 h ih => exact fun hf => Xm9 (by omega) (ih hf)
 | case5 p f q g h3 h4 ih => exact fun hf => Xm9 (by omega) (ih (fun q hq => hf q (mem_cons_of_mem _ hq)))
theorem Xt7 (a p : A8) (x : Int) (r : MpT) : cf a (cnz p x r) = (if p = a then x else 0) + cf a r := by
 unfold cnz
 split
 rename_i h; subst h; simp
 rfl
theorem Vg9 (k : Int) (a : A8) (f g : MpT) : cf a (mrg k f g) % 10007 = (cf a f + k * cf a g) % 10007 := by
 fun_induction mrg k f g with
 | case1 f => simp [cf]
 | case2 q g ih =>
  rw [Xt7, cf.eq_2 a q g, Int.mul_add]
  generalize k * cf a g = X at ih ⊢
  split <;> omega
 | case3 p f q g h ih =>
  rw [cf, cf]
  omega
 | case4 p f q g h3 h ih =>
  rw [Xt7, cf.eq_2 a q g, Int.mul_add]
  generalize k * cf a g = X at ih ⊢
  split <;> omega
 | case5 p f q g h3 h4 ih =>
  have e0 : p.1 = q.1 := by
   by_cases e : p.1 = q.1
   exact e
   exact absurd (Yi0 e) (by simp [h3, h4])
  rw [Xt7, cf.eq_2 a q g, cf.eq_2 a p f, Int.mul_add, e0]
  generalize k * cf a g = X at ih ⊢
  split <;> omega
theorem Ve5 {k : Int} {f g : MpT} (hf : nfm f = true) (hg : Srt g) : nfm (mrg k f g) = true := Yi7 (Vb1 k f g (I5 hf) hg) (Vd8 k f g (Yd1 hf))
theorem We4 {k : Int} {f g : MpT} (hf : nfm f = true) (hg : Srt g) : mrg k f g = F5 (scl k g) f := by
 have h := Ve5 (k := k) hf hg
 refine Wq0 h (Zo1 _ hf) (fun a => ?_)
 rw [Xp3 a _ hf, Wm9, Xw7 a (I5 hf), ← Vg9]
 have := Yk0 h a
 rw [Xw7 a (I5 h)] at this ⊢
 omega
theorem Yn3 {ρ σ : Type} {g : σ} (L : Nat → Int → Option (Ex ρ σ)) (N : Nat) (c : Nat → Bool) (r : ρ)
 (h : ∀ k (n : Nat), L (k + 1) (n : Int) = if (n : Int) < (N : Int) then (if c n = true then L k ((n : Int) + 1) else some (.ret r)) else some (.go g)) :
 ∀ (k n : Nat), n ≤ N → N < n + k → L k (n : Int) = some (if (range' n (N - n)).all c = true then .go g else .ret r) := by
 intro k
 induction k with
 | zero => intro n h1 h2; omega
 | succ k ih =>
  intro n h1 h2
  rw [h]
  by_cases hn : n < N
  rw [if_pos (by omega)]
  obtain ⟨m, hm⟩ : ∃ m, N - n = m + 1 := ⟨N - n - 1, by omega⟩
  have e : N - (n + 1) = m := by omega
  rw [hm, range'_succ, all_cons]
  cases hc : c n with
  | false => simp
  | true =>
   have := ih (n + 1) (by omega) (by omega)
   rw [e] at this
   rw [if_pos U, Bool.true_and]; exact this
  rw [if_neg (by omega), show N - n = 0 by omega]; simp
theorem Xq7 {ρ σ : Type} {g : σ} (L : Nat → Int → Option (Ex ρ σ)) (N : Nat) (c : Nat → Bool) (r : ρ)
 (h : ∀ k (n : Nat), L (k + 1) (n : Int) = if (n : Int) < (N : Int) then (if c n = true then L k ((n : Int) + 1) else some (.ret r)) else some (.go g))
 {K : Nat} (hK : N < K) : L K 0 = some (if (range N).all c = true then .go g else .ret r) := by
 have := Yn3 L N c r h K 0 (by omega) (by omega)
 rw [range_eq_range']
 exact this
theorem Zd9 {ρ σ : Type} {g : σ} (L : Nat → Int → Option (Ex ρ σ)) (N : Nat) (c : Nat → Bool) (r : ρ)
 (h : ∀ k (n : Nat), n < N → L (k + 1) (n : Int) = if c n = true then L k ((n : Int) + 1) else some (.ret r)) (h' : ∀ k (n : Nat), N ≤ n → L (k + 1) (n : Int) = some (.go g))
 {K : Nat} (hK : N < K) : L K 0 = some (if (range N).all c = true then .go g else .ret r) := by
 refine Xq7 L N c r (fun k n => ?_) hK
 by_cases hn : n < N
 rw [if_pos (by omega), h k n hn]
 rw [if_neg (by omega), h' k n (by omega)]
theorem Ze7 {α : Type} [Inhabited α] {xs : List α} {n : Nat} (h : n < xs.length) : rd xs (n : Int) = xs[n] := by
 unfold rd
 rw [Int.toNat_natCast, getD_eq_getElem?_getD, getElem?_eq_getElem h]; rfl
theorem Yz5 {α : Type} [Inhabited α] (xs : List α) (f : α → Bool) : (range xs.length).all (fun j => f (rd xs (j : Int))) = xs.all f := by
 rw [Bool.eq_iff_iff, all_eq_true, all_eq_true]
 constructor
 intro h x hx
 obtain ⟨i, hi, rfl⟩ := getElem_of_mem hx
 have := h i (mem_range.2 hi)
 rwa [Ze7 hi] at this
 intro h j hj
 have hj := mem_range.1 hj
 rw [Ze7 hj]
 exact h _ (getElem_mem _)
theorem S0 {α : Type} [Inhabited α] {xs : List α} {n : Nat} (h : n < xs.length) : rd xs (n : Int) ∈ xs := by rw [Ze7 h]; exact getElem_mem _
theorem Wy2 (K : Nat) (a b c : Int) : Zu2 K a b c = some (decide (b ≤ a ∧ a ≤ c)) := by
 unfold Zu2; split <;> rename_i h <;> simp [h]
theorem Xs3 (K : Nat) (a b c : Int) : Zq2 K a b c = some (decide (b ≤ a ∧ a ≤ c)) := by
 unfold Zq2; split <;> rename_i h <;> simp [h]
theorem Yj0 (K : Nat) (x : Int) : E7 K x = some (x % 10007) := Xz9 K x
/-! degrees -/
def okD (ds : List Int) : Bool := ds.all (fun d => decide (1 ≤ d ∧ d ≤ 12)) && decide (ds.length ≤ 8)
theorem Vj6 {K : Nat} {ds : List Int} (hK : ds.length < K) : Zm1 K ds = some (okD ds) := by
 unfold Zm1
 rw [Xq7 (g := ()) (fun k i => I9 K ds k i) ds.length (fun j => decide (1 ≤ rd ds (j : Int) ∧ rd ds (j : Int) ≤ 12)) false (fun k n => ?_) hK, Yz5 ds (fun d => decide (1 ≤ d ∧ d ≤ 12))]
 unfold okD
 cases ds.all (fun d => decide (1 ≤ d ∧ d ≤ 12)) with
 | true => simp [Ex.elim]; omega
 | false => rfl
 show I9 K ds (k + 1) n = _
 rw [I9]
 simp only [Wy2, bind_some]
theorem Xx5 {ρ : Type} (L : Nat → Int → Option (Ex ρ Unit)) (N : Nat) (c : Nat → Bool) (r : Int → ρ)
 (h : ∀ k (n : Nat), n < N → L (k + 1) (n : Int) = if c n = true then some (.ret (r n)) else L k ((n : Int) + 1)) (h' : ∀ k (n : Nat), N ≤ n → L (k + 1) (n : Int) = some (.go ())) :
 ∀ (k n : Nat), n ≤ N → N < n + k → (∃ m : Nat, L k (n : Int) = some (.ret (r m)) ∧ (range' n (N - n)).any c = true ∧ m < N) ∨ (L k (n : Int) = some (.go ()) ∧ (range' n (N - n)).any c = false) := by
 intro k
 induction k with
 | zero => intro n h1 h2; omega
 | succ k ih =>
  intro n h1 h2
  by_cases hn : n < N
  rw [h k n hn]
  obtain ⟨m, hm⟩ : ∃ m, N - n = m + 1 := ⟨N - n - 1, by omega⟩
  have e : N - (n + 1) = m := by omega
  rw [hm, range'_succ, any_cons]
  cases hc : c n with
  | true => exact .inl ⟨n, by simp, by simp, hn⟩
  | false =>
   have := ih (n + 1) (by omega) (by omega)
   rw [e] at this
   rw [if_neg (by simp), Bool.false_or]; exact this
  rw [h' k n (by omega), show N - n = 0 by omega]; exact .inr ⟨U, U⟩
theorem Xr9 {α : Type} [Inhabited α] (xs : List α) (f : α → Bool) : (range xs.length).any (fun j => f (rd xs (j : Int))) = xs.any f := by
 have h := Yz5 xs (fun x => !f x)
 rw [← Bool.not_inj_iff, not_any_eq_all_not, not_any_eq_all_not]
 exact h
theorem Ww6 {K : Nat} {xs : List Int} {p : Int → Option Bool} {q : Int → Bool} (hK : xs.length < K) (hp : ∀ x, x ∈ xs → p x = some (q x)) : L3 K xs p = some (xs.any q) := by
 unfold L3 N9
 have := Xx5 (fun k i => V7 K xs p k i) xs.length (fun j => q (rd xs (j : Int))) id (fun k n hn => ?_) (fun k n hn => ?_) K 0 (by omega) (by omega)
 rw [Nat.sub_zero, ← range_eq_range', Xr9 xs q] at this
 rcases this with ⟨m, h1, h2, _⟩ | ⟨h1, h2⟩
 replace h1 : V7 K xs p K 0 = _ := h1
 rw [h1, h2]; simp [Ex.elim]
 replace h1 : V7 K xs p K 0 = _ := h1
 rw [h1, h2]; simp [Ex.elim]
 show V7 K xs p (k + 1) n = _
 rw [V7, if_pos (by omega), hp _ (S0 hn)]; rfl
 show V7 K xs p (k + 1) n = _
 rw [V7, if_neg (by omega)]
theorem Vi0 {K : Nat} {ds : List Int} (hK : ds.length < K) : Zl9 K ds = some (okD ds) := by
 unfold Zl9 okD
 by_cases hl : ds.length ≤ 8
 rw [if_pos (by omega), Ww6 (q := fun x => !decide (1 ≤ x ∧ x ≤ 12)) hK (fun x _ => by unfold Zn1; rw [Xs3]; rfl)]
 rw [← not_all_eq_any_not]
 simp [hl]
 rw [if_neg (by omega)]; simp [hl]
def Byt (m : A8) : Prop := ∀ i, 0 ≤ m i ∧ m i ≤ 255
theorem S5 (m : A8) {n : Nat} (h : n < 8) : Y5 m (n : Int) = m ⟨n, h⟩ := by simp [Y5, h]
theorem Byt.idx {m : A8} (h : Byt m) (n : Nat) : 0 ≤ Y5 m n ∧ Y5 m n ≤ 255 := by
 by_cases hn : n < 8
 rw [S5 m hn]; exact h _
 simp [Y5, hn]
theorem Yh3 {d : Int} (h : 0 ≤ d) : d.tmod 2 = d % 2 := Int.tmod_eq_emod_of_nonneg h
def Zp6 (ds : List Int) (j : Nat) : Int := if j < ds.length then (if rd ds j % 2 = 1 then 1 else 20) else 0
def okM (ds : List Int) (m : A8) : Bool := (range 8).all fun j => decide (Y5 m j ≤ Zp6 ds j)
theorem D0 {ds : List Int} (h : okD ds = true) : ∀ d, d ∈ ds → 1 ≤ d ∧ d ≤ 12 := by
 intro d hd
 unfold okD at h
 rw [Bool.and_eq_true, all_eq_true] at h
 simpa using h.1 d hd
theorem I7 {ds : List Int} (h : okD ds = true) : ds.length ≤ 8 := by
 unfold okD at h
 rw [Bool.and_eq_true] at h
 simpa using h.2
theorem Vb4 {K : Nat} {ds : List Int} {m : A8} (hK : 8 < K) (hd : okD ds = true) (hm : Byt m) : Zt5 K ds m = some (okM ds m) := by
 unfold Zt5 okM
 rw [Zd9 (g := ()) (fun k i => N3 K ds m k i) 8 (fun j => decide (Y5 m j ≤ Zp6 ds j)) false (fun k n hn => ?_) (fun k n hn => ?_) hK]
 cases (range 8).all fun j => decide (Y5 m j ≤ Zp6 ds j) <;> rfl
 show N3 K ds m (k + 1) n = _
 have hb := hm.idx n
 rw [N3, if_pos (by omega)]
 unfold Zp6
 by_cases hl : n < ds.length
 have hp := D0 hd _ (S0 hl)
 rw [if_neg (by omega), if_pos (show (n : Int) < ds.length by omega), if_pos hl, Yh3 (by omega)]
 by_cases ho : rd ds (n : Int) % 2 = 1
 rw [if_pos ho, if_neg (show ¬ rd ds (n : Int) % 2 = 0 by omega)]
 by_cases h1 : Y5 m n ≤ 1
 rw [if_neg (by omega), if_neg (by omega), if_pos (by simpa using h1)]
 rw [if_neg (show ¬ decide (Y5 m n ≤ 1) = true by simpa using h1), if_pos (show 1 < Y5 m n by omega)]; split <;> rfl
 rw [if_neg ho, if_pos (show rd ds (n : Int) % 2 = 0 by omega)]
 by_cases h1 : Y5 m n ≤ 20
 rw [if_neg (by omega), if_pos (by simpa using h1)]
 rw [if_neg (show ¬ decide (Y5 m n ≤ 20) = true by simpa using h1), if_pos (by omega)]
 rw [if_pos (by omega), if_neg hl]
 by_cases h1 : Y5 m n ≤ 0
 rw [if_pos (by omega), if_pos (by simpa using h1)]
 rw [if_neg (by omega), if_neg (show ¬ decide (Y5 m n ≤ 0) = true by simpa using h1)]
 show N3 K ds m (k + 1) n = _
 rw [N3, if_neg (by omega)]
theorem Ve8 {K : Nat} {ds : List Int} {m : A8} (hK : 8 < K) (hd : okD ds = true) (hm : Byt m) : Zm6 K ds m = some (okM ds m) := by
 unfold Zm6 okM
 rw [Zd9 (g := ()) (fun k i => R4 K ds m k i) 8 (fun j => decide (Y5 m j ≤ Zp6 ds j)) false (fun k n hn => ?_) (fun k n hn => ?_) hK]
 cases (range 8).all fun j => decide (Y5 m j ≤ Zp6 ds j) <;> rfl
 show R4 K ds m (k + 1) n = _
 have key : ∀ e : Int, B2 K (R4 K ds m k) m n e = if decide (Y5 m n ≤ e) = true then R4 K ds m k ((n : Int) + 1) else some (.ret false) := by
  intro e
  unfold B2
  by_cases h1 : Y5 m n ≤ e
  rw [if_neg (by omega), if_pos (by simpa using h1)]
  rw [if_neg (show ¬ decide (Y5 m n ≤ e) = true by simpa using h1), if_pos (by omega)]
 rw [R4, if_pos (by omega), key, key, key]
 unfold Zp6
 by_cases hl : n < ds.length
 have hp := D0 hd _ (S0 hl)
 rw [if_pos (show (n : Int) < ds.length by omega), if_pos hl, Yh3 (by omega)]
 by_cases ho : rd ds (n : Int) % 2 = 1
 rw [if_pos ho, if_pos ho]
 rw [if_neg ho, if_neg ho]
 rw [if_neg (show ¬ (n : Int) < ds.length by omega), if_neg hl]
 show R4 K ds m (k + 1) n = _
 rw [R4, if_neg (by omega)]
/-! order -/
theorem Xa7 (a : A8) {n : Nat} (h : n < 8) : (l8 a).drop n = Y5 a n :: (l8 a).drop (n + 1) := by
 match n, h with
 | 0, _ | 1, _ | 2, _ | 3, _ | 4, _ | 5, _ | 6, _ | 7, _ => rfl
theorem Wc1 {K : Nat} (a b : A8) : ∀ (k n : Nat), n ≤ 8 → 8 < n + k → ∃ e, F9 K a b k n = some e ∧ Ex.elim (fun r => some r) (fun _ => some false) e = some (Zi3 ((l8 a).drop n) ((l8 b).drop n)) := by
 intro k
 induction k with
 | zero => intro n h1 h2; omega
 | succ k ih =>
  intro n h1 h2
  rw [F9]
  by_cases hn : n < 8
  rw [if_pos (by omega), Xa7 a hn, Xa7 b hn, Zi3]
  by_cases e : Y5 a n = Y5 b n
  rw [if_pos e, if_pos e]; exact ih (n + 1) (by omega) (by omega)
  rw [if_neg e, if_neg e]; exact ⟨_, U, U⟩
  have : n = 8 := by omega
  subst this
  exact ⟨_, U, U⟩
theorem Xg0 {K : Nat} (hK : 8 < K) (a b : A8) : Ze5 K a b = some (bef a b) := by
 obtain ⟨e, h1, h2⟩ := Wc1 (K := K) a b K 0 (by omega) (by omega)
 unfold Ze5
 replace h1 : F9 K a b K 0 = some e := h1
 rw [h1]; exact h2
theorem Xt8 {K : Nat} {a b : A8} (ha : Byt a) (hb : Byt b) : ∀ (k n : Nat), n ≤ 8 → 8 < n + k →
 ∃ e, P9 K a b k n = some e ∧ ∃ r, Ex.elim (fun r => some r) (fun _ => some 0) e = some r ∧ decide (0 ≤ r) = !Zi3 ((l8 a).drop n) ((l8 b).drop n) := by
 intro k
 induction k with
 | zero => intro n h1 h2; omega
 | succ k ih =>
  intro n h1 h2
  rw [P9]
  by_cases hn : n < 8
  rw [if_pos (by omega), Xa7 a hn, Xa7 b hn, Zi3]
  by_cases e : Y5 a n = Y5 b n
  rw [if_pos e, if_pos e]; exact ih (n + 1) (by omega) (by omega)
  rw [if_neg e, if_neg e]
  refine ⟨_, U, _, U, ?_⟩
  have h3 := ha.idx n
  have h4 := hb.idx n
  rw [i64_in _ (by omega), ← decide_not]
  exact decide_eq_decide.2 (by omega)
  have : n = 8 := by omega
  subst this
  exact ⟨_, U, _, U, U⟩
theorem Wq2 {K : Nat} (hK : 8 < K) {a b : A8} (ha : Byt a) (hb : Byt b) : ∃ r, B1 K a b = some r ∧ decide (0 ≤ r) = !bef a b := by
 obtain ⟨e, h1, r, h2, h3⟩ := Xt8 (K := K) ha hb K 0 (by omega) (by omega)
 unfold B1
 replace h1 : P9 K a b K 0 = some e := h1
 rw [h1]; exact ⟨r, h2, h3⟩
theorem Zh7 (m : A8) {n : Nat} (hn : n < 8) (x : Int) (j : Fin 8) : T3 m n x j = if j.val = n then x else m j := by
 unfold T3
 by_cases h : j.val = n
 rw [if_pos h, if_pos (by omega)]
 rw [if_neg h, if_neg (by omega)]
theorem Xx1 {K : Nat} {m : A8} (hm : Byt m) : ∀ (k n : Nat) (box : A8), n ≤ 8 → 8 < n + k → (∀ j : Fin 8, j.val < n → box j = m j) → Za2 K m k n box = some (.go m) := by
 intro k
 induction k with
 | zero => intro n box h1 h2; omega
 | succ k ih =>
  intro n box h1 h2 hb
  rw [Za2]
  by_cases hn : n < 8
  rw [if_pos (by omega)]
  refine ih (n + 1) _ (by omega) (by omega) (fun j hj => ?_)
  rw [Zh7 _ hn, S5 m hn]
  by_cases e : j.val = n
  have := hm ⟨n, hn⟩
  rw [if_pos e, i64_in _ (by omega)]
  congr 1; exact Fin.ext e.symm
  rw [if_neg e]; exact hb j (by omega)
  rw [if_neg (by omega)]
  congr 2
  funext j; exact hb j (by omega)
theorem Yh9 {K : Nat} (hK : 8 < K) {m : A8} (hm : Byt m) : Zf5 K m = some m := by
 unfold Zf5
 have := Xx1 (K := K) hm K 0 (fun _ => 0) (by omega) (by omega) (fun j hj => by omega)
 replace this : Za2 K m K 0 (fun _ => 0) = _ := this
 rw [this]; rfl
/-! forms -/
def Zl5 (f : MpT) : Prop := ∀ t, t ∈ f → Byt t.1
def okT (ds : List Int) (f : MpT) (j : Nat) : Bool := okM ds (rd f (j : Int)).1 && decide (1 ≤ (rd f (j : Int)).2 ∧ (rd f (j : Int)).2 ≤ 10006) && (decide (j = 0) || bef (rd f ((j : Int) - 1)).1 (rd f (j : Int)).1)
def okF (ds : List Int) (f : MpT) : Bool := (range f.length).all (okT ds f) && decide (f.length ≤ 400)
theorem Wz6 {K : Nat} {ds : List Int} {f : MpT} (hK : 8 < K) (hl : f.length < K) (hl2 : f.length ≤ 1099511627776) (hd : okD ds = true) (hf : Zl5 f) : Zt2 K ds f = some (okF ds f) := by
 unfold Zt2 okF
 rw [Zd9 (g := ()) (fun k i => G7 K ds f k i) f.length (okT ds f) false (fun k n hn => ?_) (fun k n hn => ?_) hl]
 cases (range f.length).all (okT ds f) with
 | true => simp [Ex.elim]; omega
 | false => rfl
 show G7 K ds f (k + 1) n = _
 rw [G7, if_pos (by omega), Vb4 hK hd (hf _ (S0 hn))]
 unfold okT
 rw [bind_some]
 cases okM ds (rd f (n : Int)).1 with
 | false => rfl
 | true =>
  rw [if_pos U, Wy2, bind_some, Bool.true_and]
  cases decide (1 ≤ (rd f (n : Int)).2 ∧ (rd f (n : Int)).2 ≤ 10006) with
  | false => rfl
  | true =>
   rw [if_pos U, Bool.true_and, i64_in _ (by omega), Xg0 hK]
   by_cases h0 : n = 0
   subst h0; rfl
   rw [if_pos (by omega), if_pos (by omega), if_pos (by omega), bind_some]
   simp only [h0, decide_false, Bool.false_or]
 show G7 K ds f (k + 1) n = _
 rw [G7, if_neg (by omega)]
theorem Wy6 {K : Nat} {ds : List Int} {f : MpT} (hK : 400 < K) (hd : okD ds = true) (hf : Zl5 f) : Zp9 K ds f = some (okF ds f) := by
 unfold Zp9 okF
 by_cases hl : f.length ≤ 400
 case neg => rw [if_pos (by omega)]; simp [hl]
 rw [if_neg (by omega), Zd9 (g := ()) (fun k i => L0 K ds f k i) f.length (okT ds f) false (fun k n hn => ?_) (fun k n hn => ?_) (by omega)]
 cases (range f.length).all (okT ds f) with
 | true => simp [Ex.elim, hl]
 | false => rfl
 show L0 K ds f (k + 1) n = _
 have hb := hf _ (S0 hn)
 rw [L0, if_pos (by omega), Ve8 (by omega) hd hb]
 unfold okT
 rw [bind_some]
 cases okM ds (rd f (n : Int)).1 with
 | false => rfl
 | true =>
  unfold Zx5
  rw [if_pos U, Xs3, bind_some, bind_some, Bool.true_and]
  cases decide (1 ≤ (rd f (n : Int)).2 ∧ (rd f (n : Int)).2 ≤ 10006) with
  | false => rfl
  | true =>
   unfold Zo0
   rw [if_neg (by simp), Bool.true_and, i64_in _ (by omega)]
   by_cases h0 : n = 0
   subst h0; rfl
   obtain ⟨m, rfl⟩ : ∃ m, n = m + 1 := ⟨n - 1, by omega⟩
   have e : ((m + 1 : Nat) : Int) - 1 = (m : Int) := by omega
   rw [e]
   have hb' := hf _ (S0 (show m < f.length by omega))
   obtain ⟨r, h1, h2⟩ := Wq2 (K := K) (by omega) hb' hb
   rw [if_pos (by omega), if_pos (by omega), if_pos (by omega), Yh9 (by omega) hb', Yh9 (by omega) hb, bind_some, bind_some, h1, bind_some]
   simp only [Nat.succ_ne_zero, decide_false, Bool.false_or]
   cases hq : bef (rd f (m : Int)).1 (rd f ((m + 1 : Nat) : Int)).1 with
   | true => rw [hq] at h2; rw [if_neg (by simpa using h2)]; rfl
   | false => rw [hq] at h2; rw [if_pos (by simpa using h2)]; rfl
 show L0 K ds f (k + 1) n = _
 rw [L0, if_neg (by omega)]
def wtN (ds : List Int) (m : A8) : Nat → Int
 | 0 => 0
 | n + 1 => wtN ds m n + rd ds (n : Int) * Y5 m (n : Int)
def wt (ds : List Int) (m : A8) : Int := wtN ds m ds.length
theorem Xo0 {ds : List Int} {m : A8} (hd : okD ds = true) (hm : Byt m) {n : Nat} (hn : n < ds.length) : 0 ≤ rd ds (n : Int) * Y5 m n ∧ rd ds (n : Int) * Y5 m n ≤ 3060 := by
 have h1 := D0 hd _ (S0 hn)
 have h2 := hm.idx n
 refine ⟨Int.mul_nonneg (by omega) h2.1, ?_⟩
 calc rd ds (n : Int) * Y5 m n ≤ 12 * Y5 m n := Int.mul_le_mul_of_nonneg_right h1.2 h2.1
  _ ≤ 3060 := by omega
theorem Yi8 {ds : List Int} {m : A8} (hd : okD ds = true) (hm : Byt m) : ∀ n : Nat, n ≤ ds.length → 0 ≤ wtN ds m n ∧ wtN ds m n ≤ 3060 * n
 | 0, _ => by simp [wtN]
 | n + 1, h => by
  have h1 := Yi8 hd hm n (by omega)
  have h2 := Xo0 hd hm (n := n) (by omega)
  rw [wtN]; omega
theorem Yv9 {ds : List Int} {m : A8} (hd : okD ds = true) (hm : Byt m) : 0 ≤ wt ds m ∧ wt ds m ≤ 24480 := by
 have h1 := Yi8 hd hm ds.length (Nat.le_refl _)
 have h2 := I7 hd
 unfold wt; omega
theorem Wc8 {K : Nat} {ds : List Int} {m : A8} (hd : okD ds = true) (hm : Byt m) : ∀ (k n : Nat), n ≤ ds.length → ds.length < n + k → E0 K ds m k (wtN ds m n) n = some (.go (wt ds m)) := by
 have hl := I7 hd
 intro k
 induction k with
 | zero => intro n h1 h2; omega
 | succ k ih =>
  intro n h1 h2
  rw [E0]
  by_cases hn : n < ds.length
  have h3 := Xo0 hd hm hn
  have h4 := Yi8 hd hm n (by omega)
  have h5 := hm.idx n
  rw [if_pos (by omega), if_pos (by omega), i64_in (Y5 m n) (by omega), i64_in (rd ds (n : Int) * Y5 m n) (by omega), i64_in _ (by omega)]
  exact ih (n + 1) (by omega) (by omega)
  rw [if_neg (by omega)]
  have : n = ds.length := by omega
  subst this; rfl
theorem Yn8 {K : Nat} {ds : List Int} {m : A8} (hK : 8 < K) (hd : okD ds = true) (hm : Byt m) : Zb9 K ds m = some (wt ds m) := by
 have hl := I7 hd
 have := Wc8 (K := K) hd hm K 0 (by omega) (by omega)
 unfold Zb9
 replace this : E0 K ds m K 0 0 = _ := this
 rw [this]; rfl
theorem Wb7 {K : Nat} {ds : List Int} {m : A8} (hd : okD ds = true) (hm : Byt m) : ∀ (k n : Nat), n ≤ ds.length → ds.length < n + k → L9 K m ds k (wtN ds m n) n = some (.go (wt ds m)) := by
 have hl := I7 hd
 intro k
 induction k with
 | zero => intro n h1 h2; omega
 | succ k ih =>
  intro n h1 h2
  rw [L9]
  by_cases hn : n < ds.length
  have h3 := Xo0 hd hm hn
  have h4 := Yi8 hd hm n (by omega)
  rw [if_pos (by omega), if_pos (by omega), i64_in (rd ds (n : Int) * Y5 m n) (by omega), i64_in _ (by omega)]
  exact ih (n + 1) (by omega) (by omega)
  rw [if_neg (by omega)]
  have : n = ds.length := by omega
  subst this; rfl
theorem Xx7 {K : Nat} {ds : List Int} {m : A8} (hK : 8 < K) (hd : okD ds = true) (hm : Byt m) : Zi5 K m ds = some (wt ds m) := by
 have hl := I7 hd
 have := Wb7 (K := K) hd hm K 0 (by omega) (by omega)
 unfold Zi5
 replace this : L9 K m ds K 0 0 = _ := this
 rw [this]; rfl
def okG (ds : List Int) (f : MpT) (n : Int) : Bool := f.all fun t => decide (wt ds t.1 = n)
theorem Yj4 {f : MpT} {c : Zb0 → Bool} (h : 0 < f.length) : ((range' 1 (f.length - 1)).all fun j => c (rd f (j : Int))) = f.tail.all c := by
 obtain ⟨t, f, rfl⟩ : ∃ t f', f = t :: f' := by cases f with | nil => simp at h | cons t f => exact ⟨t, f, rfl⟩
 rw [Bool.eq_iff_iff, all_eq_true, all_eq_true, tail_cons, length_cons]
 constructor
 intro h x hx
 obtain ⟨i, hi, rfl⟩ := getElem_of_mem hx
 have := h (i + 1) (by rw [mem_range'_1]; omega)
 rwa [Ze7 (by simp; exact hi), getElem_cons_succ] at this
 intro h j hj
 rw [mem_range'_1] at hj
 obtain ⟨i, rfl⟩ : ∃ i, j = i + 1 := ⟨j - 1, by omega⟩
 rw [Ze7 (by simp; omega), getElem_cons_succ]
 exact h _ (getElem_mem _)
theorem Wa9 {ds : List Int} {f : MpT} {n : Int} (h : 0 < f.length) : okG ds f n = (f.tail.all (fun t => decide (wt ds t.1 = wt ds (rd f 0).1)) && decide (wt ds (rd f 0).1 = n)) := by
 obtain ⟨t, f, rfl⟩ : ∃ t f', f = t :: f' := by cases f with | nil => simp at h | cons t f => exact ⟨t, f, rfl⟩
 have e : rd (t :: f) 0 = t := rfl
 unfold okG
 rw [e, tail_cons, all_cons]
 by_cases hn : wt ds t.1 = n
 subst hn; simp
 simp [hn]
theorem Wn1 {K : Nat} {ds : List Int} {f : MpT} (hK : 8 < K) (hl : f.length < K) (hd : okD ds = true) (hf : Zl5 f) :
 ∃ r, Zb8 K ds f = some r ∧ ∀ n, (r.2 && (decide (f.length = 0) || decide (r.1 = n))) = okG ds f n := by
 unfold Zb8
 by_cases h0 : f.length = 0
 rw [if_pos (by omega)]
 refine ⟨_, U, fun n => ?_⟩
 have : f = [] := eq_nil_of_length_eq_zero h0
 subst this; rfl
 have hb0 : Byt (rd f 0).1 := hf _ (S0 (n := 0) (by omega))
 rw [if_neg (by omega), if_pos (by omega), Yn8 hK hd hb0, bind_some]
 have := Yn3 (g := ()) (fun k i => Q7 K ds f (wt ds (rd f 0).1) k i) f.length (fun j => decide (wt ds (rd f (j : Int)).1 = wt ds (rd f 0).1)) (0, false) (fun k n => ?_) K 1 (by omega) (by omega)
 replace this : Q7 K ds f (wt ds (rd f 0).1) K 1 = _ := this
 refine ⟨if f.tail.all (fun t => decide (wt ds t.1 = wt ds (rd f 0).1)) = true then (wt ds (rd f 0).1, true) else (0, false), ?_, fun n => ?_⟩
 rw [this, Yj4 (c := fun t => decide (wt ds t.1 = wt ds (rd f 0).1)) (by omega)]
 split <;> rfl
 rw [Wa9 (by omega)]
 cases f.tail.all (fun t => decide (wt ds t.1 = wt ds (rd f 0).1)) with
 | true => simp [h0]
 | false => simp
 show Q7 K ds f (wt ds (rd f 0).1) (k + 1) n = _
 rw [Q7]
 by_cases hn : n < f.length
 rw [if_pos (by omega), if_pos (by omega), Yn8 hK hd (hf _ (S0 hn)), bind_some]
 simp only [decide_eq_true_eq]
 rw [if_neg (by omega), if_neg (by omega)]
theorem Wp7 {K : Nat} {ds : List Int} {f : MpT} {n : Int} (hK : 8 < K) (hl : f.length < K) (hd : okD ds = true) (hf : Zl5 f) (hn : 0 ≤ n) : Zm2 K ds f n = some (okG ds f n) := by
 unfold Zm2 Zh1
 by_cases h0 : f.length = 0
 have : f = [] := eq_nil_of_length_eq_zero h0
 subst this
 obtain ⟨k, rfl⟩ : ∃ k, K = k + 1 := ⟨K - 1, by omega⟩
 rw [V9]; rfl
 have step : ∀ (k m : Nat) (out : Int), m < f.length → V9 K ds f (k + 1) out m = if 0 ≤ out ∧ wt ds (rd f (m : Int)).1 ≠ out then some (.ret (0, false)) else V9 K ds f k (wt ds (rd f (m : Int)).1) ((m : Int) + 1) := by
  intro k m out hm
  have hb := hf _ (S0 hm)
  rw [V9, if_pos (by omega), Yh9 hK hb, bind_some, Xx7 hK hd hb, bind_some]
  unfold Zf1
  by_cases h1 : 0 ≤ out
  by_cases h2 : wt ds (rd f (m : Int)).1 = out
  rw [if_pos h1, if_neg (by simp [h2]), if_neg (by simp [h2])]
  rw [if_pos h1, if_pos (by simp [h2]), if_pos ⟨h1, h2⟩]
  rw [if_neg h1, if_neg (by simp), if_neg (by simp [h1])]
 have hw := Yv9 hd (hf _ (S0 (n := 0) (by omega)))
 replace hw : 0 ≤ wt ds (rd f 0).1 ∧ wt ds (rd f 0).1 ≤ 24480 := hw
 obtain ⟨k, rfl⟩ : ∃ k, K = k + 1 := ⟨K - 1, by omega⟩
 have s0 := step k 0 (-1) (by omega)
 rw [if_neg (by simp)] at s0
 replace s0 : V9 (k + 1) ds f (k + 1) (-1) 0 = V9 (k + 1) ds f k (wt ds (rd f 0).1) 1 := s0
 have := Yn3 (g := wt ds (rd f 0).1) (fun k' i => V9 (k + 1) ds f k' (wt ds (rd f 0).1) i) f.length (fun j => decide (wt ds (rd f (j : Int)).1 = wt ds (rd f 0).1)) (0, false) (fun k' m => ?_) k 1 (by omega) (by omega)
 replace this : V9 (k + 1) ds f k (wt ds (rd f 0).1) 1 = _ := this
 rw [s0, this, Yj4 (c := fun t => decide (wt ds t.1 = wt ds (rd f 0).1)) (by omega), Wa9 (by omega)]
 cases f.tail.all (fun t => decide (wt ds t.1 = wt ds (rd f 0).1)) with
 | true =>
  rw [if_pos U]
  simp only [bind_some, Ex.elim, if_true, Bool.true_and]
  rw [if_neg (by omega)]
 | false => rfl
 show V9 (k + 1) ds f (k' + 1) (wt ds (rd f 0).1) m = _
 by_cases hm : m < f.length
 rw [step k' m _ hm, if_pos (show (m : Int) < f.length by omega)]
 by_cases h2 : wt ds (rd f (m : Int)).1 = wt ds (rd f 0).1
 rw [if_neg (by simp [h2]), h2]; simp
 rw [if_pos ⟨hw.1, h2⟩, if_neg (by simpa using h2)]
 rw [V9, if_neg (by omega), if_neg (by omega)]
def SmF (g : MpT) : Prop := ∀ t, t ∈ g → -10006 ≤ t.2 ∧ t.2 ≤ 10006
theorem Yp1 {k x : Int} (hk : -10006 ≤ k ∧ k ≤ 10006) (hx : -10006 ≤ x ∧ x ≤ 10006) : -100120036 ≤ k * x ∧ k * x ≤ 100120036 := by
 have h1 : (k * x).natAbs ≤ 10006 * 10006 := by
  rw [Int.natAbs_mul]
  exact Nat.mul_le_mul (by omega) (by omega)
 omega
theorem Ya6 {f : MpT} {i : Nat} (h : i < f.length) : f.drop i = rd f (i : Int) :: f.drop (i + 1) := by rw [Ze7 h]; exact drop_eq_getElem_cons h
theorem Wv8 {K : Nat} {f g : MpT} {kk : Int} (hK : 8 < K) (hk : -10006 ≤ kk ∧ kk ≤ 10006) (hf : SmF f) (hg : SmF g) (hfl : f.length ≤ 274877906944) (hgl : g.length ≤ 274877906944) :
 ∀ (k i j : Nat) (out : MpT), i ≤ f.length → j ≤ g.length → (f.length - i) + (g.length - j) < k → out.length ≤ i + j →
  Q1 K f g kk k (i : Int) out (j : Int) = some (.go (out ++ mrg kk (f.drop i) (g.drop j))) := by
 intro k
 induction k with
 | zero => intro i j out h1 h2 h3 h4; omega
 | succ k ih =>
  intro i j out h1 h2 h3 h4
  have w1 : ∀ n : Nat, n ≤ 274877906944 → i64.wrap ((n : Int) + 1) = ((n + 1 : Nat) : Int) := fun n hn => by rw [i64_in _ (by omega)]; rfl
  have fF : i < f.length → E6 K (Q1 K f g kk k) f g kk i j out true = some (.go (out ++ (rd f (i : Int) :: mrg kk (f.drop (i + 1)) (g.drop j)))) := by
   intro hi
   unfold E6
   rw [if_pos U, if_pos (by omega), if_pos (by omega), if_pos (by simp; omega), w1 i (by omega), ih (i + 1) j _ (by omega) h2 (by omega) (by simp; omega)]
   simp
  have fG : j < g.length → Za4 K (Q1 K f g kk k) f g kk i j out true = some (.go (out ++ cnz (rd g (j : Int)).1 ((kk * (rd g (j : Int)).2) % 10007) (mrg kk (f.drop i) (g.drop (j + 1))))) := by
   intro hj
   have hm := Yp1 hk (hg _ (S0 hj))
   unfold Za4
   rw [if_pos U, if_pos (by omega), if_pos (by omega), Yj0, bind_some, i64_in _ (by omega), w1 j (by omega)]
   unfold cnz
   by_cases h0 : kk * (rd g (j : Int)).2 % 10007 = 0
   rw [if_pos h0, if_pos h0, ih i (j + 1) _ h1 (by omega) (by omega) (by omega)]
   rw [if_neg h0, if_neg h0, if_pos (by simp; omega), ih i (j + 1) _ h1 (by omega) (by omega) (by simp; omega)]
   simp
  have fB : i < f.length → j < g.length → Za4 K (Q1 K f g kk k) f g kk i j out false = some (.go (out ++ cnz (rd f (i : Int)).1 (((rd f (i : Int)).2 + (kk * (rd g (j : Int)).2) % 10007) % 10007) (mrg kk (f.drop (i + 1)) (g.drop (j + 1))))) := by
   intro hi hj
   have hm := Yp1 hk (hg _ (S0 hj))
   have hm2 := hf _ (S0 hi)
   unfold Za4 Zl8
   rw [if_neg (by simp), if_pos (by omega), if_pos (by omega), if_pos (by omega), if_pos (by omega), Yj0, bind_some, Yj0, bind_some, i64_in (kk * (rd g (j : Int)).2) (by omega), i64_in ((rd f (i : Int)).2 + _) (by omega), w1 j (by omega), w1 i (by omega)]
   unfold cnz
   by_cases h0 : ((rd f (i : Int)).2 + kk * (rd g (j : Int)).2 % 10007) % 10007 = 0
   rw [if_pos h0, if_pos h0, ih (i + 1) (j + 1) _ (by omega) (by omega) (by omega) (by omega)]
   rw [if_neg h0, if_neg h0, if_pos (by simp; omega), ih (i + 1) (j + 1) _ (by omega) (by omega) (by omega) (by simp; omega)]
   simp
  rw [Q1]
  by_cases hi : i < f.length
  rw [if_pos (by omega)]
  unfold Zh8
  rw [if_pos U]
  by_cases hj : j < g.length
  rw [if_neg (by omega), if_pos (by omega), if_pos (by omega), if_pos (by omega), if_pos (by omega), Xg0 hK, bind_some, Ya6 hi, Ya6 hj, mrg]
  cases hb : bef (rd f (i : Int)).1 (rd g (j : Int)).1 with
  | true => rw [fF hi, if_pos U, Ya6 hj]
  | false =>
   rw [if_neg (by simp)]
   unfold E6
   rw [if_neg (by simp), if_neg (by omega), if_pos (by omega), if_pos (by omega), if_pos (by omega), if_pos (by omega), Xg0 hK, bind_some]
   cases hb2 : bef (rd g (j : Int)).1 (rd f (i : Int)).1 with
   | true => rw [fG hj, if_pos U, Ya6 hi]
   | false => rw [fB hi hj, if_neg (by simp)]
  have e : j = g.length := by omega
  rw [if_pos (by omega), fF hi, Ya6 hi]
  subst e
  simp [mrg]
  have e : i = f.length := by omega
  rw [if_neg (by omega)]
  unfold Zh8
  by_cases hj : j < g.length
  rw [if_pos (by simpa using hj), if_neg (by omega), if_neg (by omega)]
  unfold E6
  rw [if_neg (by simp), if_pos (by omega), fG hj, Ya6 hj]
  subst e
  rw [drop_length, mrg]
  rw [if_neg (by simpa using hj)]
  have e2 : j = g.length := by omega
  subst e; subst e2
  simp [mrg]
theorem Wz4 {K : Nat} {f g : MpT} {kk : Int} (hK : 8 < K) (hl : f.length + g.length < K) (hk : -10006 ≤ kk ∧ kk ≤ 10006) (hf : SmF f) (hg : SmF g) (hfl : f.length ≤ 274877906944) (hgl : g.length ≤ 274877906944) :
 Zq0 K f g kk = some (mrg kk f g) := by
 have := Wv8 hK hk hf hg hfl hgl K 0 0 [] (by omega) (by omega) (by omega) (by simp)
 unfold Zq0
 replace this : Q1 K f g kk K 0 [] 0 = some (.go (mrg kk f g)) := this
 rw [this]; rfl
theorem Yt8 {s : MpT} {p : A8} {f f' : Int} (h : f % 10007 = f' % 10007) : Zw7 s p f = Zw7 s p f' := by
 unfold Zw7
 rw [show (N5 s p + f) % 10007 = (N5 s p + f') % 10007 by omega]
theorem Zz3 {s : MpT} (h : nfm s = true) : SmF s := fun t ht => by have := Yd1 h t ht; omega
theorem Xy9 (x : Int) : (x.tmod 10007) % 10007 = x % 10007 := by
 rw [Int.tmod_eq_emod]; split <;> omega
theorem Xc6 {K : Nat} {a : Int} (ha : -10006 ≤ a ∧ a ≤ 10006) : ∀ (k : Nat) (t s : MpT), t.length < k → SmF t → nfm s = true → U6 K a k t s = some (.go (F5 (scl a t) s))
 | 0, _, _, h, _, _ => by omega
 | k + 1, [], s, _, _, _ => by rw [U6]; rfl
 | k + 1, z :: t, s, h, ht, hs => by
  have hz := ht z (mem_cons_self ..)
  have hm := Yp1 hz ha
  have hb : -10006 ≤ (z.2 * a).tmod 10007 ∧ (z.2 * a).tmod 10007 ≤ 10006 := by rw [Int.tmod_eq_emod]; split <;> omega
  rw [U6, i64_in _ (by omega), Ym7 ⟨hs, by omega, by omega⟩, bind_some, Xc6 ha k t _ (by simpa using h) (fun q hq => ht q (mem_cons_of_mem _ hq)) (Zj6 hs _ _)]
  rw [Yt8 (f' := a * z.2) (by rw [Xy9, Int.mul_comm])]
  rfl
theorem Ws8 {K : Nat} {a : Int} {t s : MpT} (ha : -10006 ≤ a ∧ a ≤ 10006) (hl : t.length < K) (ht : SmF t) (hs : nfm s = true) : E5 K s t a = some (F5 (scl a t) s) := by
 unfold E5
 rw [Xc6 ha K t s hl ht hs]; rfl
structure Mo (B : Int) (ds : List Int) (p : A8) : Prop where
 lo : ∀ i, 0 ≤ p i
 hi : ∀ i, p i ≤ B
 odd : ∀ n : Nat, n < ds.length → rd ds (n : Int) % 2 = 1 → Y5 p n ≤ 1
 out : ∀ i : Fin 8, ds.length ≤ i.val → p i = 0
theorem Xo1 {p : A8} {B : Int} (lo : ∀ i, 0 ≤ p i) (hi : ∀ i, p i ≤ B) (h0 : 0 ≤ B) (n : Nat) : 0 ≤ Y5 p n ∧ Y5 p n ≤ B := by
 by_cases hn : n < 8
 rw [S5 p hn]; exact ⟨lo _, hi _⟩
 simp [Y5, hn]; exact h0
def Yg6 (p q : A8) : A8 := fun i => p i + q i
theorem Wh9 (p q : A8) (n : Nat) : Y5 (Yg6 p q) n = Y5 p n + Y5 q n := by
 by_cases hn : n < 8
 rw [S5 _ hn, S5 _ hn, S5 _ hn]; rfl
 simp [Y5, hn]
def od (ds : List Int) (p : A8) : Nat → Nat → Int
 | 0, _ => 0
 | n + 1, j => rd ds (j : Int) % 2 * Y5 p (j : Int) + od ds p n (j + 1)
def tot (ds : List Int) (p q : A8) : Nat → Nat → Option Int
 | 0, _ => some 0
 | n + 1, i => if rd ds (i : Int) % 2 = 0 then tot ds p q n (i + 1) else if 0 < Y5 p i ∧ 0 < Y5 q i then none else (tot ds p q n (i + 1)).map fun t => (if 0 < Y5 q i then od ds p n (i + 1) else 0) + t
def sg (t : Int) : Int := if t % 2 = 1 then -1 else 1
def F1 (ds : List Int) (p q : A8) : A8 × Int :=
 match tot ds p q ds.length 0 with
 | none => ((fun _ => 0), 0)
 | some t => (Yg6 p q, sg t)
theorem Xg3 {ds : List Int} {p : A8} {B : Int} (lo : ∀ i, 0 ≤ p i) (hi : ∀ i, p i ≤ B) (h0 : 0 ≤ B) : ∀ n j : Nat, 0 ≤ od ds p n j ∧ od ds p n j ≤ B * n
 | 0, _ => by simp [od]
 | n + 1, j => by
  have h1 := Xg3 lo hi h0 (ds := ds) n (j + 1)
  have h2 := Xo1 lo hi h0 j
  rw [od, show B * ((n + 1 : Nat) : Int) = B * n + B by rw [Int.natCast_add, Int.mul_add]; simp]
  rcases Int.emod_two_eq (rd ds (j : Int)) with e | e
  rw [e]; omega
  rw [e]; omega
theorem Yz9 {ds : List Int} {p q : A8} {B : Int} (lo : ∀ i, 0 ≤ p i) (hi : ∀ i, p i ≤ B) (h0 : 0 ≤ B) : ∀ (n i : Nat) (t : Int), tot ds p q n i = some t → 0 ≤ t ∧ t ≤ (B * 8) * n ∨ 8 < n
 | 0, i, t, h => by cases h; simp
 | n + 1, i, t, h => by
  rw [tot] at h
  have e : B * 8 * ((n + 1 : Nat) : Int) = B * 8 * n + B * 8 := by rw [Int.natCast_add, Int.mul_add]; simp
  by_cases h8 : 8 < n + 1
  exact .inr h8
  refine .inl ?_
  split at h
  have := Yz9 lo hi h0 n _ t h; omega
  split at h
  cases h
  obtain ⟨u, hu, rfl⟩ := Option.map_eq_some_iff.1 h
  have h1 := Yz9 lo hi h0 n _ u hu
  have h2 := Xg3 lo hi h0 (ds := ds) n (i + 1)
  have h3 : B * (n : Int) ≤ B * 8 := Int.mul_le_mul_of_nonneg_left (by omega) h0
  split <;> omega
section
variable {K : Nat} {ds : List Int} {p q : A8}
theorem Ws7 {B : Int} (hd : okD ds = true) (lo : ∀ i, 0 ≤ p i) (hi : ∀ i, p i ≤ B) (h0 : 0 ≤ B) (hB : B ≤ 1000) : ∀ (k j : Nat) (s : Int), ds.length < j + k → j ≤ ds.length → 0 ≤ s ∧ s ≤ 1000000000 + 1000 * j →
 J8 K p ds k s j = some (.go (s + od ds p (ds.length - j) j)) := by
 have hl := I7 hd
 intro k
 induction k with
 | zero => intro j s h1 h2; omega
 | succ k ih =>
  intro j s h1 h2 hs
  rw [J8]
  by_cases hj : j < ds.length
  have h3 := D0 hd _ (S0 hj)
  have h4 := Xo1 lo hi h0 j
  have h5 : 0 ≤ rd ds (j : Int) % 2 * Y5 p j ∧ rd ds (j : Int) % 2 * Y5 p j ≤ 1000 := by
   rcases Int.emod_two_eq (rd ds (j : Int)) with e | e <;> rw [e] <;> omega
  rw [if_pos (by omega), if_pos (by omega), Yh3 (by omega), i64_in (rd ds (j : Int) % 2 * Y5 p j) (by omega), i64_in _ (by omega)]
  have e := ih (j + 1) (s + rd ds (j : Int) % 2 * Y5 p j) (by omega) (by omega) (by omega)
  obtain ⟨m, hm⟩ : ∃ m, ds.length - j = m + 1 := ⟨ds.length - j - 1, by omega⟩
  have e2 : ds.length - (j + 1) = m := by omega
  rw [e2] at e
  rw [hm, od, ← Int.add_assoc]; exact e
  rw [if_neg (by omega), show ds.length - j = 0 by omega, od, Int.add_zero]
theorem Wx4 {B : Int} (hK : 8 < K) (hd : okD ds = true) (lo : ∀ i, 0 ≤ p i) (hi : ∀ i, p i ≤ B) (h0 : 0 ≤ B) (hB : B ≤ 1000) : ∀ (k i : Nat) (s : Int), ds.length < i + k → i ≤ ds.length → 0 ≤ s ∧ s ≤ 8000 * i →
 S6 K p ds q k i s = some (match tot ds p q (ds.length - i) i with | none => .ret ((fun _ => 0), 0) | some t => .go (s + t)) := by
 have hl := I7 hd
 intro k
 induction k with
 | zero => intro j s h1 h2; omega
 | succ k ih =>
  intro i s h1 h2 hs
  rw [S6]
  by_cases hj : i < ds.length
  have h3 := D0 hd _ (S0 hj)
  obtain ⟨m, hm⟩ : ∃ m, ds.length - i = m + 1 := ⟨ds.length - i - 1, by omega⟩
  have e2 : ds.length - (i + 1) = m := by omega
  rw [if_pos (by omega), Yh3 (by omega), hm, tot]
  by_cases he : rd ds (i : Int) % 2 = 0
  rw [if_pos he, if_pos he]
  have := ih (i + 1) s (by omega) (by omega) (by omega)
  rw [e2] at this; exact this
  rw [if_neg he, if_neg he, if_pos (by omega)]
  have key : E8 K (S6 K p ds q k) p ds q i s false = some (match (tot ds p q m (i + 1)).map fun t => (if 0 < Y5 q i then od ds p m (i + 1) else 0) + t with | none => .ret ((fun _ => 0), 0) | some t => .go (s + t)) := by
   unfold E8
   rw [if_neg (by simp), if_pos (by omega)]
   by_cases hq : 0 < Y5 q i
   have hb := Xg3 lo hi h0 (ds := ds) m (i + 1)
   have hb2 : B * (m : Int) ≤ 1000 * 8 := by
    calc B * (m : Int) ≤ 1000 * m := Int.mul_le_mul_of_nonneg_right hB (by omega)
     _ ≤ 1000 * 8 := by omega
   have h5 := Ws7 (K := K) hd lo hi h0 hB K (i + 1) s (by omega) (by omega) (by omega)
   have h6 := ih (i + 1) (s + od ds p m (i + 1)) (by omega) (by omega) (by omega)
   rw [e2] at h5 h6
   rw [if_pos hq]
   replace h5 : J8 K p ds K s ((i : Int) + 1) = _ := h5
   rw [h5, bind_some]
   show S6 K p ds q k ((i : Int) + 1) (s + od ds p m (i + 1)) = _
   replace h6 : S6 K p ds q k ((i : Int) + 1) (s + od ds p m (i + 1)) = _ := h6
   rw [h6]
   cases tot ds p q m (i + 1) with
   | none => rfl
   | some t => simp only [Option.map_some, hq, if_true, Int.add_assoc]
   have h6 := ih (i + 1) s (by omega) (by omega) (by omega)
   rw [e2] at h6
   rw [if_neg hq]
   replace h6 : S6 K p ds q k ((i : Int) + 1) s = _ := h6
   rw [h6]
   cases tot ds p q m (i + 1) with
   | none => rfl
   | some t => simp only [Option.map_some, hq, if_false, Int.zero_add]
  by_cases hp : 0 < Y5 p i
  rw [if_pos hp]
  by_cases hq : 0 < Y5 q i
  rw [if_pos ⟨hp, hq⟩]
  unfold E8
  rw [if_pos (by simpa using hq)]
  rw [if_neg (fun h => hq h.2), show decide (0 < Y5 q (i : Int)) = false by simpa using hq]; exact key
  rw [if_neg hp, if_neg (fun h => hp h.1)]; exact key
  rw [if_neg (by omega), show ds.length - i = 0 by omega, tot]; simp
theorem Wu3 {B : Int} (lo : ∀ i, 0 ≤ p i) (hi : ∀ i, p i ≤ B) (lo2 : ∀ i, 0 ≤ q i) (hi2 : ∀ i, q i ≤ B) (hB : B ≤ 1000) : ∀ (k n : Nat) (box : A8), n ≤ 8 → 8 < n + k → (∀ j : Fin 8, box j = if j.val < n then p j + q j else p j) →
 M7 K q k n box = some (.go (Yg6 p q)) := by
 intro k
 induction k with
 | zero => intro n box h1 h2; omega
 | succ k ih =>
  intro n box h1 h2 hb
  rw [M7]
  by_cases hn : n < 8
  rw [if_pos (by omega)]
  refine ih (n + 1) _ (by omega) (by omega) (fun j => ?_)
  rw [Zh7 _ hn, S5 _ hn, S5 _ hn]
  by_cases e : j.val = n
  have ej : (⟨n, hn⟩ : Fin 8) = j := Fin.ext e.symm
  rw [if_pos e, if_pos (by omega), ej, hb j, if_neg (by omega)]
  have h3 := lo j; have h4 := hi j; have h5 := lo2 j; have h6 := hi2 j
  exact i64_in _ (by omega)
  rw [if_neg e, hb j]
  by_cases hj : j.val < n
  rw [if_pos hj, if_pos (by omega)]
  rw [if_neg hj, if_neg (by omega)]
  rw [if_neg (by omega)]
  congr 2
  funext j
  rw [hb j, if_pos (by omega)]; rfl
theorem Vf0 {B : Int} (hK : 8 < K) (hd : okD ds = true) (lo : ∀ i, 0 ≤ p i) (hi : ∀ i, p i ≤ B) (lo2 : ∀ i, 0 ≤ q i) (hi2 : ∀ i, q i ≤ B) (h0 : 0 ≤ B) (hB : B ≤ 1000) : D8 K p ds q = some (F1 ds p q) := by
 have hl := I7 hd
 have h1 := Wx4 (K := K) (q := q) hK hd lo hi h0 hB K 0 0 (by omega) (by omega) (by simp)
 unfold D8 F1
 replace h1 : S6 K p ds q K 0 0 = _ := h1
 rw [h1, bind_some, Nat.sub_zero]
 cases ht : tot ds p q ds.length 0 with
 | none => rfl
 | some t =>
  have hb := Yz9 lo hi h0 _ _ _ ht
  have h2 := Wu3 (K := K) lo hi lo2 hi2 hB K 0 p (by omega) (by omega) (fun j => by simp)
  replace h2 : M7 K q K 0 p = _ := h2
  show (M7 K q K 0 p).bind _ = _
  rw [h2, bind_some]
  show (if (0 + t).tmod 2 = 1 then some (Yg6 p q, (-1 : Int)) else some (Yg6 p q, 1)) = _
  rw [Int.zero_add, Yh3 (by omega)]
  unfold sg
  by_cases h : t % 2 = 1 <;> simp [h]
end
theorem Wq5 (a b : Int) : sg (a + b) = sg a * sg b := by
 unfold sg
 rcases Int.emod_two_eq a with h1 | h1 <;> rcases Int.emod_two_eq b with h2 | h2
 rw [if_neg (by omega), if_neg (by omega), if_neg (by omega)]; rfl
 rw [if_pos (by omega), if_neg (by omega), if_pos (by omega)]; rfl
 rw [if_pos (by omega), if_pos (by omega), if_neg (by omega)]; rfl
 rw [if_neg (by omega), if_pos (by omega), if_pos (by omega)]; rfl
theorem Xk1 (a : Int) : sg a = 1 ∨ sg a = -1 := by unfold sg; split <;> simp
section
variable {K : Nat} {ds : List Int} {p q : A8}
theorem Mo.idx {B : Int} (h : Mo B ds p) (n : Nat) : 0 ≤ Y5 p n ∧ (Y5 p n ≤ B ∨ 8 ≤ n) := by
 by_cases hn : n < 8
 rw [S5 p hn]; exact ⟨h.lo _, .inl (h.hi _)⟩
 simp [Y5, hn]; omega
theorem Wp0 {B : Int} (hd : okD ds = true) (hp : Mo B ds p) (i : Int) (h1q : Y5 q i = 1) : ∀ (k j : Nat) (t : Int), ds.length < j + k → j ≤ ds.length →
 R8 K ds p q i k (sg t) j = some (.go (sg (t + od ds p (ds.length - j) j))) := by
 have hl := I7 hd
 intro k
 induction k with
 | zero => intro j s h1 h2; omega
 | succ k ih =>
  intro j t h1 h2
  have w1 : i64.wrap ((j : Int) + 1) = ((j + 1 : Nat) : Int) := by rw [i64_in _ (by omega)]; rfl
  rw [R8]
  by_cases hj : j < ds.length
  obtain ⟨m, hm⟩ : ∃ m, ds.length - j = m + 1 := ⟨ds.length - j - 1, by omega⟩
  have e2 : ds.length - (j + 1) = m := by omega
  have h3 := D0 hd _ (S0 hj)
  have h4 := hp.idx j
  rw [if_pos (by omega)]
  unfold B0
  rw [if_pos (by simpa using h1q), if_pos (by omega), if_pos (by omega), Yh3 (by omega), hm, od, ← Int.add_assoc]
  by_cases he : rd ds (j : Int) % 2 = 0
  rw [if_pos he]
  unfold Zc5
  have := ih (j + 1) t (by omega) (by omega)
  rw [e2] at this
  rw [if_neg (by simp), w1, this, he, Int.zero_mul, Int.add_zero]
  have ho : rd ds (j : Int) % 2 = 1 := by omega
  have h5 := hp.odd j hj ho
  rw [if_neg he, if_pos (by omega), ho, Int.one_mul]
  unfold Zc5
  by_cases h6 : Y5 p j = 1
  have := ih (j + 1) (t + 1) (by omega) (by omega)
  rw [e2] at this
  have e3 : i64.wrap (0 - sg t) = sg (t + 1) := by
   rw [Wq5]
   rcases Xk1 t with e | e <;> rw [e] <;> rfl
  rw [if_pos (by simpa using h6), e3, w1, this, h6]
  have := ih (j + 1) t (by omega) (by omega)
  rw [e2] at this
  have e0 : Y5 p j = 0 := by omega
  rw [if_neg (by simpa using h6), w1, this, e0, Int.add_zero]
  rw [if_neg (by omega)]
  unfold B0
  rw [if_neg (by simp), show ds.length - j = 0 by omega, od, Int.add_zero]
theorem Wm7 (hd : okD ds = true) (i : Int) (h1q : Y5 q i ≠ 1) {k : Nat} (hk : 0 < k) (j : Nat) (s : Int) : R8 K ds p q i k s j = some (.go s) := by
 obtain ⟨k, rfl⟩ : ∃ m, k = m + 1 := ⟨k - 1, by omega⟩
 rw [R8]
 unfold B0
 split
 rw [if_neg (by simpa using h1q)]
 rw [if_neg (by simp)]
theorem Wm2 {x : Int} (h : 0 ≤ x ∧ x ≤ 255) : u8.wrap x = x := by
 show x % 256 = x
 omega
theorem Wn8 {B C : Int} (hK : 8 < K) (hd : okD ds = true) (hp : Mo B ds p) (hq : Mo C ds q) (hBC : B + C ≤ 255) : ∀ (k i : Nat) (t : Int) (box : A8), ds.length < i + k → i ≤ ds.length →
 (∀ j : Fin 8, box j = if j.val < i then p j + q j else 0) →
 Q6 K ds p q k i box (sg t) = some (match tot ds p q (ds.length - i) i with | none => .ret ((fun _ => 0), 0) | some u => .go (sg (t + u), Yg6 p q)) := by
 have hl := I7 hd
 intro k
 induction k with
 | zero => intro j s box h1 h2; omega
 | succ k ih =>
  intro i t box h1 h2 hb
  rw [Q6]
  by_cases hj : i < ds.length
  have h3 := D0 hd _ (S0 hj)
  obtain ⟨m, hm⟩ : ∃ m, ds.length - i = m + 1 := ⟨ds.length - i - 1, by omega⟩
  have e2 : ds.length - (i + 1) = m := by omega
  have hi8 : i < 8 := by omega
  have h4 := hp.idx i
  have h5 := hq.idx i
  have hw : u8.wrap (Y5 p i + Y5 q i) = Y5 p i + Y5 q i := Wm2 (by omega)
  have hbox : ∀ j : Fin 8, T3 box i (Y5 p i + Y5 q i) j = if j.val < i + 1 then p j + q j else 0 := by
   intro j
   rw [Zh7 _ hi8, S5 _ hi8, S5 _ hi8]
   by_cases e : j.val = i
   have ej : (⟨i, hi8⟩ : Fin 8) = j := Fin.ext e.symm
   rw [if_pos e, if_pos (by omega), ej]
   rw [if_neg e, hb j]
   by_cases hj : j.val < i
   rw [if_pos hj, if_pos (by omega)]
   rw [if_neg hj, if_neg (by omega)]
  rw [if_pos (by omega), if_pos (by omega), Yh3 (by omega), hm, tot, hw]
  by_cases he : rd ds (i : Int) % 2 = 0
  rw [if_pos he, if_pos he]
  have := ih (i + 1) t _ (by omega) (by omega) hbox
  rw [e2] at this; exact this
  have ho : rd ds (i : Int) % 2 = 1 := by omega
  have h6 := hp.odd i hj ho
  have h7 := hq.odd i hj ho
  rw [if_neg he, if_neg he]
  have eb : Y5 (T3 box i (Y5 p i + Y5 q i)) i = Y5 p i + Y5 q i := by rw [S5 _ hi8, Zh7 _ hi8, if_pos U]
  rw [eb]
  by_cases hz : 0 < Y5 p i ∧ 0 < Y5 q i
  rw [if_pos (by omega), if_pos hz]
  rw [if_neg (by omega), if_neg hz]
  by_cases h1q : Y5 q i = 1
  have h8 := Wp0 (K := K) hd hp (i : Int) h1q K (i + 1) t (by omega) (by omega)
  rw [e2] at h8
  replace h8 : R8 K ds p q i K (sg t) ((i : Int) + 1) = _ := h8
  rw [h8, bind_some]
  have := ih (i + 1) (t + od ds p m (i + 1)) _ (by omega) (by omega) hbox
  rw [e2] at this
  show Q6 K ds p q k ((i : Int) + 1) _ (sg (t + od ds p m (i + 1))) = _
  replace this : Q6 K ds p q k ((i : Int) + 1) _ (sg (t + od ds p m (i + 1))) = _ := this
  rw [this]
  cases tot ds p q m (i + 1) with
  | none => rfl
  | some u => simp only [Option.map_some, show 0 < Y5 q (i : Int) by omega, if_true, Int.add_assoc]
  have h8 := Wm7 (K := K) (p := p) hd (i : Int) h1q (k := K) (by omega) (i + 1) (sg t)
  replace h8 : R8 K ds p q i K (sg t) ((i : Int) + 1) = _ := h8
  rw [h8, bind_some]
  have := ih (i + 1) t _ (by omega) (by omega) hbox
  rw [e2] at this
  show Q6 K ds p q k ((i : Int) + 1) _ (sg t) = _
  replace this : Q6 K ds p q k ((i : Int) + 1) _ (sg t) = _ := this
  rw [this]
  cases tot ds p q m (i + 1) with
  | none => rfl
  | some u => simp only [Option.map_some, show ¬ 0 < Y5 q (i : Int) by omega, if_false, Int.zero_add]
  rw [if_neg (by omega), show ds.length - i = 0 by omega, tot]
  show some (Ex.go (sg t, box)) = some (Ex.go (sg (t + 0), Yg6 p q))
  rw [Int.add_zero]
  congr 3
  funext j
  rw [hb j]
  by_cases hj : j.val < i
  rw [if_pos hj]; rfl
  rw [if_neg hj]
  show (0 : Int) = p j + q j
  rw [hp.out j (by omega), hq.out j (by omega)]; rfl
theorem Wu4 {B C : Int} (hK : 8 < K) (hd : okD ds = true) (hp : Mo B ds p) (hq : Mo C ds q) (hBC : B + C ≤ 255) : Zp4 K ds p q = some (F1 ds p q) := by
 have hl := I7 hd
 have h1 := Wn8 (K := K) hK hd hp hq hBC K 0 0 (fun _ => 0) (by omega) (by omega) (fun j => by simp)
 unfold Zp4 F1
 replace h1 : Q6 K ds p q K 0 (fun _ => 0) 1 = _ := h1
 rw [h1, bind_some, Nat.sub_zero]
 cases tot ds p q ds.length 0 with
 | none => rfl
 | some u =>
  show some (Yg6 p q, sg (0 + u)) = some (Yg6 p q, sg u)
  rw [Int.zero_add]
theorem Xb4 (h : (F1 ds p q).2 ≠ 0) : (F1 ds p q).1 = Yg6 p q ∧ ∃ t, tot ds p q ds.length 0 = some t := by
 unfold F1 at h ⊢
 cases hq : tot ds p q ds.length 0 with
 | none => rw [hq] at h; exact absurd U h
 | some t => exact ⟨U, t, U⟩
theorem Xq5 : (F1 ds p q).2 = 0 ∨ (F1 ds p q).2 = 1 ∨ (F1 ds p q).2 = -1 := by
 unfold F1
 cases tot ds p q ds.length 0 with
 | none => exact .inl U
 | some t => exact .inr (Xk1 t)
theorem Xm7 : ∀ (n i : Nat) (t : Int), tot ds p q n i = some t → ∀ j, i ≤ j → j < i + n → rd ds (j : Int) % 2 = 1 → ¬ (0 < Y5 p j ∧ 0 < Y5 q j)
 | 0, i, t, _, j, h1, h2, _ => by omega
 | n + 1, i, t, h, j, h1, h2, ho => by
  rw [tot] at h
  by_cases e : i = j
  subst e
  rw [if_neg (by omega)] at h
  split at h
  cases h
  rename_i hn; exact hn
  split at h
  exact Xm7 n (i + 1) t h j (by omega) (by omega) ho
  split at h
  cases h
  obtain ⟨u, hu, _⟩ := Option.map_eq_some_iff.1 h
  exact Xm7 n (i + 1) u hu j (by omega) (by omega) ho
theorem Mo.mul {B C : Int} (hp : Mo B ds p) (hq : Mo C ds q) (h : (F1 ds p q).2 ≠ 0) : Mo (B + C) ds (F1 ds p q).1 := by
 obtain ⟨e, t, ht⟩ := Xb4 h
 rw [e]
 refine ⟨fun i => Int.add_nonneg (hp.lo i) (hq.lo i), fun i => Int.add_le_add (hp.hi i) (hq.hi i), fun n hn ho => ?_, fun i hi => ?_⟩
 rw [Wh9]
 have h1 := hp.odd n hn ho
 have h2 := hq.odd n hn ho
 have h3 := Xm7 _ _ _ ht n (by omega) (by omega) ho
 omega
 show p i + q i = 0
 rw [hp.out i hi, hq.out i hi]; rfl
end
def Zx8 (ds : List Int) (z : Zb0) (t : MpT) : MpT := t.filterMap fun q => if (F1 ds z.1 q.1).2 = 0 then none else some ((F1 ds z.1 q.1).1, (F1 ds z.1 q.1).2 * z.2 * q.2)
def Zp1 (ds : List Int) (s t : MpT) : MpT := s.flatMap fun z => Zx8 ds z t
def MoL (B : Int) (ds : List Int) (s : MpT) : Prop := ∀ t, t ∈ s → Mo B ds t.1
theorem Xd6 {a x y : Int} (ha : a = 0 ∨ a = 1 ∨ a = -1) (hx : -10006 ≤ x ∧ x ≤ 10006) (hy : -10006 ≤ y ∧ y ≤ 10006) : (-10006 ≤ a * x ∧ a * x ≤ 10006) ∧ -100120036 ≤ a * x * y ∧ a * x * y ≤ 100120036 := by
 have h : -10006 ≤ a * x ∧ a * x ≤ 10006 := by rcases ha with rfl | rfl | rfl <;> omega
 exact ⟨h, Yp1 h hy⟩
section
variable {K : Nat} {ds : List Int}
theorem Xr0 {B C : Int} {z : Zb0} (hK : 8 < K) (hd : okD ds = true) (hz : Mo B ds z.1) (hz2 : -10006 ≤ z.2 ∧ z.2 ≤ 10006) (h0 : 0 ≤ B) (h0' : 0 ≤ C) (hBC : B + C ≤ 255) :
 ∀ (k : Nat) (t s : MpT), t.length < k → MoL C ds t → SmF t → nfm s = true → U4 K ds z k t s = some (.go (F5 (Zx8 ds z t) s))
 | 0, _, _, h, _, _, _ => by omega
 | k + 1, [], s, _, _, _, _ => by rw [U4]; rfl
 | k + 1, q :: t, s, h, ht, hf, hs => by
  have hq := ht q (mem_cons_self ..)
  have hq2 := hf q (mem_cons_self ..)
  have hm := Xd6 (Xq5 (ds := ds) (p := z.1) (q := q.1)) hz2 hq2
  have ih := fun s' (hs' : nfm s' = true) => Xr0 (s := s') hK hd hz hz2 h0 h0' hBC k t (by simpa using h) (fun q hq => ht q (mem_cons_of_mem _ hq)) (fun q hq => hf q (mem_cons_of_mem _ hq)) hs'
  rw [U4, Vf0 (B := B + C) hK hd hz.lo (fun i => by have := hz.hi i; omega) hq.lo (fun i => by have := hq.hi i; omega) (by omega) (by omega), bind_some]
  unfold Zx8
  rw [filterMap_cons]
  by_cases e : (F1 ds z.1 q.1).2 = 0
  rw [if_pos e, if_pos e, ih s hs]; rfl
  have hb : -10006 ≤ ((F1 ds z.1 q.1).2 * z.2 * q.2).tmod 10007 ∧ ((F1 ds z.1 q.1).2 * z.2 * q.2).tmod 10007 ≤ 10006 := by rw [Int.tmod_eq_emod]; split <;> omega
  rw [if_neg e, if_neg e, i64_in ((F1 ds z.1 q.1).2 * z.2) (by omega), i64_in _ (by omega), Ym7 ⟨hs, by omega, by omega⟩, bind_some, ih _ (Zj6 hs _ _)]
  rw [Yt8 (Xy9 _)]; rfl
theorem Xr3 {B C : Int} {t : MpT} (hK : 8 < K) (hd : okD ds = true) (h0 : 0 ≤ B) (h0' : 0 ≤ C) (hBC : B + C ≤ 255) (ht : MoL C ds t) (hf : SmF t) (hl : t.length < K) :
 ∀ (k : Nat) (s acc : MpT), s.length < k → MoL B ds s → SmF s → nfm acc = true → R3 K ds t k s acc = some (.go (F5 (Zp1 ds s t) acc))
 | 0, _, _, h, _, _, _ => by omega
 | k + 1, [], s, _, _, _, _ => by rw [R3]; rfl
 | k + 1, z :: s, acc, h, hs, hsf, ha => by
  rw [R3, Xr0 hK hd (hs z (mem_cons_self ..)) (hsf z (mem_cons_self ..)) h0 h0' hBC K t acc hl ht hf ha, bind_some]
  show R3 K ds t k s (F5 (Zx8 ds z t) acc) = _
  rw [Xr3 hK hd h0 h0' hBC ht hf hl k s _ (by simpa using h) (fun q hq => hs q (mem_cons_of_mem _ hq)) (fun q hq => hsf q (mem_cons_of_mem _ hq)) (Zo1 _ ha), ← Xe0]
  rfl
theorem Wa5 {B C : Int} {s t : MpT} (hK : 8 < K) (hd : okD ds = true) (h0 : 0 ≤ B) (h0' : 0 ≤ C) (hBC : B + C ≤ 255) (hs : MoL B ds s) (hsf : SmF s) (ht : MoL C ds t) (hf : SmF t) (hsl : s.length < K) (hl : t.length < K) :
 B4 K s ds t = some (F5 (Zp1 ds s t) []) := by
 unfold B4
 rw [Xr3 hK hd h0 h0' hBC ht hf hl K s [] hsl hs hsf Ya2]; rfl
/-! the other side -/
def shf (ds : List Int) (z : Zb0) (g : MpT) : MpT := g.filterMap fun q => if (F1 ds z.1 q.1).2 = 0 then none else some ((F1 ds z.1 q.1).1, ((F1 ds z.1 q.1).2 * z.2 * q.2) % 10007)
theorem Wl3 {B C : Int} {z : Zb0} {g : MpT} (hK : 8 < K) (hd : okD ds = true) (hz : Mo B ds z.1) (hz2 : -10006 ≤ z.2 ∧ z.2 ≤ 10006) (hBC : B + C ≤ 255) (hg : MoL C ds g) (hf : SmF g) (hl : g.length ≤ 1099511627776) :
 ∀ (k i : Nat) (out : MpT), g.length < i + k → i ≤ g.length → out.length ≤ i → I8 K ds z g k i out = some (.go (out ++ shf ds z (g.drop i))) := by
 intro k
 induction k with
 | zero => intro i out h1 h2; omega
 | succ k ih =>
  intro i out h1 h2 h3
  rw [I8]
  by_cases hi : i < g.length
  have hq := hg _ (S0 hi)
  have hm := Xd6 (Xq5 (ds := ds) (p := z.1) (q := (rd g (i : Int)).1)) hz2 (hf _ (S0 hi))
  rw [if_pos (by omega), Wu4 hK hd hz hq hBC, bind_some, Ya6 hi]
  unfold shf
  rw [filterMap_cons]
  by_cases e : (F1 ds z.1 (rd g (i : Int)).1).2 = 0
  have := ih (i + 1) out (by omega) (by omega) (by omega)
  rw [if_pos e, if_pos e]
  exact this
  have := ih (i + 1) (out ++ [((F1 ds z.1 (rd g (i : Int)).1).1, ((F1 ds z.1 (rd g (i : Int)).1).2 * z.2 * (rd g (i : Int)).2) % 10007)]) (by omega) (by omega) (by simp; omega)
  rw [if_neg e, if_neg e, i64_in ((F1 ds z.1 (rd g (i : Int)).1).2 * z.2) (by omega), i64_in _ (by omega), Yj0, bind_some, if_pos (by simp; omega)]
  refine Eq.trans this ?_
  rw [append_assoc]; rfl
  rw [if_neg (by omega), drop_eq_nil_of_le (by omega)]
  show _ = some (Ex.go (out ++ []))
  rw [append_nil]
theorem Vc7 {B C : Int} {z : Zb0} {g : MpT} (hK : 8 < K) (hd : okD ds = true) (hz : Mo B ds z.1) (hz2 : -10006 ≤ z.2 ∧ z.2 ≤ 10006) (hBC : B + C ≤ 255) (hg : MoL C ds g) (hf : SmF g) (hl : g.length ≤ 1099511627776) (hlK : g.length < K) :
 Zq4 K ds z g = some (shf ds z g) := by
 have := Wl3 (K := K) hK hd hz hz2 hBC hg hf hl K 0 [] (by omega) (by omega) (by simp)
 unfold Zq4
 replace this : I8 K ds z g K 0 [] = some (.go (shf ds z g)) := this
 rw [this]; rfl
theorem Xv2 : ∀ (p q r : List Int), p.length = q.length → q.length = r.length → Zi3 (zipWith (· + ·) p q) (zipWith (· + ·) p r) = Zi3 q r
 | [], [], [], _, _ => rfl
 | a :: p, b :: q, c :: r, h1, h2 => by
  simp only [zipWith_cons_cons, Zi3]
  rw [Xv2 p q r (by simpa using h1) (by simpa using h2)]
  by_cases e : b = c
  rw [if_pos e, if_pos (by omega)]
  rw [if_neg e, if_neg (by omega)]
  exact decide_eq_decide.2 (by omega)
theorem Vc1 (p q r : A8) : bef (Yg6 p q) (Yg6 p r) = bef q r := Xv2 (l8 p) (l8 q) (l8 r) U U
theorem Xy7 {z : Zb0} {g : MpT} : ∀ r, r ∈ shf ds z g → ∃ q, q ∈ g ∧ (F1 ds z.1 q.1).2 ≠ 0 ∧ r = ((F1 ds z.1 q.1).1, ((F1 ds z.1 q.1).2 * z.2 * q.2) % 10007) := by
 intro r hr
 obtain ⟨q, hq, h⟩ := mem_filterMap.1 hr
 by_cases e : (F1 ds z.1 q.1).2 = 0
 rw [if_pos e] at h; cases h
 rw [if_neg e] at h; cases h; exact ⟨q, hq, e, rfl⟩
theorem Xn3 {z : Zb0} : ∀ {g : MpT}, Srt g → Srt (shf ds z g)
 | [], _ => List.Pairwise.nil
 | q :: g, h => by
  have h' := pairwise_cons.1 h
  unfold shf
  rw [filterMap_cons]
  by_cases e : (F1 ds z.1 q.1).2 = 0
  rw [if_pos e]; exact Xn3 h'.2
  rw [if_neg e]
  refine pairwise_cons.2 ⟨fun r hr => ?_, Xn3 h'.2⟩
  obtain ⟨u, hu, hn, rfl⟩ := Xy7 r hr
  show bef (F1 ds z.1 q.1).1 (F1 ds z.1 u.1).1 = true
  rw [(Xb4 e).1, (Xb4 hn).1, Vc1]
  exact h'.1 u hu
theorem Wo2 {z : Zb0} {g : MpT} : SmF (shf ds z g) := by
 intro r hr
 obtain ⟨q, _, _, rfl⟩ := Xy7 r hr
 show -10006 ≤ _ % 10007 ∧ _ % 10007 ≤ (10006 : Int)
 omega
theorem Ve4 (z : Zb0) (g : MpT) : (shf ds z g).length ≤ g.length := length_filterMap_le _ _
theorem Xq0 (z : Zb0) (g : MpT) : (Zx8 ds z g).length ≤ g.length := length_filterMap_le _ _
theorem Xm6 {z : Zb0} : ∀ (g s : MpT), F5 (scl 1 (shf ds z g)) s = F5 (Zx8 ds z g) s
 | [], s => rfl
 | q :: g, s => by
  unfold shf Zx8
  rw [filterMap_cons, filterMap_cons]
  by_cases e : (F1 ds z.1 q.1).2 = 0
  rw [if_pos e, if_pos e]; exact Xm6 g s
  rw [if_neg e, if_neg e]
  show F5 (scl 1 (shf ds z g)) (Zw7 s _ (1 * _)) = F5 (Zx8 ds z g) (Zw7 s _ _)
  rw [Xm6 g, Yt8 (f' := (F1 ds z.1 q.1).2 * z.2 * q.2) (by rw [Int.one_mul, Int.emod_emod])]
theorem Wl1 {B C : Int} {f g : MpT} (hK : 1073741824 ≤ K) (hd : okD ds = true) (h0 : 0 ≤ B) (hBC : B + C ≤ 255) (hf : MoL B ds f) (hff : SmF f) (hg : MoL C ds g) (hgf : SmF g) (hgs : Srt g) (hgl : g.length ≤ 1000000) :
 ∀ (k i : Nat) (acc : MpT), f.length < i + k → i ≤ f.length → nfm acc = true → acc.length + (f.length - i) * g.length ≤ 100000000 →
  D7 K ds f g k i acc = some (.go (F5 (Zp1 ds (f.drop i) g) acc)) := by
 intro k
 induction k with
 | zero => intro i acc h1 h2; omega
 | succ k ih =>
  intro i acc h1 h2 ha hb
  rw [D7]
  by_cases hi : i < f.length
  have hz := hf _ (S0 hi)
  have hz2 := hff _ (S0 hi)
  have hsl : (shf ds ((rd f (i : Int)).1, (rd f (i : Int)).2) g).length ≤ g.length := Ve4 _ g
  have hml := Yl8 (Zx8 ds (rd f (i : Int)) g) acc
  have hml2 := Xq0 (ds := ds) (rd f (i : Int)) g
  have hmul : (f.length - i) * g.length = (f.length - (i + 1)) * g.length + g.length := by
   rw [show f.length - i = (f.length - (i + 1)) + 1 by omega, Nat.add_mul, Nat.one_mul]
  rw [if_pos (by omega), Vc7 (z := ((rd f (i : Int)).1, (rd f (i : Int)).2)) (by omega) hd hz hz2 hBC hg hgf (by omega) (by omega), bind_some,
   Wz4 (by omega) (by omega) (by omega) (Zz3 ha) Wo2 (by omega) (by omega), bind_some, We4 ha (Xn3 hgs), Xm6]
  have := ih (i + 1) (F5 (Zx8 ds (rd f (i : Int)) g) acc) (by omega) (by omega) (Zo1 _ ha) (by omega)
  refine Eq.trans this ?_
  rw [Ya6 hi]
  show _ = some (Ex.go (F5 (Zx8 ds (rd f (i : Int)) g ++ Zp1 ds (f.drop (i + 1)) g) acc))
  rw [Xe0]
  rw [if_neg (by omega), drop_eq_nil_of_le (by omega)]; rfl
theorem Xu9 {B C : Int} {f g : MpT} (hK : 1073741824 ≤ K) (hd : okD ds = true) (h0 : 0 ≤ B) (hBC : B + C ≤ 255) (hf : MoL B ds f) (hff : SmF f) (hg : MoL C ds g) (hgf : SmF g) (hgs : Srt g) (hgl : g.length ≤ 1000000)
 (hfl : f.length < K) (hb : f.length * g.length ≤ 100000000) : Zk9 K ds f g = some (F5 (Zp1 ds f g) []) := by
 have := Wl1 (K := K) hK hd h0 hBC hf hff hg hgf hgs hgl K 0 [] (by omega) (by omega) Ya2 (by simpa using hb)
 unfold Zk9
 replace this : D7 K ds f g K 0 [] = some (.go (F5 (Zp1 ds f g) [])) := this
 rw [this]; rfl
theorem Xi6 {z : Zb0} {g : MpT} : ∀ r, r ∈ Zx8 ds z g → ∃ q, q ∈ g ∧ (F1 ds z.1 q.1).2 ≠ 0 ∧ r.1 = (F1 ds z.1 q.1).1 := by
 intro r hr
 obtain ⟨q, hq, h⟩ := mem_filterMap.1 hr
 by_cases e : (F1 ds z.1 q.1).2 = 0
 rw [if_pos e] at h; cases h
 rw [if_neg e] at h; cases h; exact ⟨q, hq, e, rfl⟩
theorem Vb6 {B C : Int} {f g : MpT} (hf : MoL B ds f) (hg : MoL C ds g) : MoL (B + C) ds (Zp1 ds f g) := by
 intro r hr
 obtain ⟨z, hz, hr⟩ := mem_flatMap.1 hr
 obtain ⟨q, hq, hn, e⟩ := Xi6 r hr
 rw [e]
 exact (hf z hz).mul (hg q hq) hn
theorem Xw3 (f g : MpT) : (Zp1 ds f g).length ≤ f.length * g.length := by
 induction f with
 | nil => simp [Zp1]
 | cons z f ih =>
  show (Zx8 ds z g ++ Zp1 ds f g).length ≤ _
  have := Xq0 (ds := ds) z g
  rw [length_append, length_cons, Nat.add_mul, Nat.one_mul]; omega
theorem Wv9 {s : MpT} {p : A8} {f : Int} {q : Zb0} (h : q ∈ Zw7 s p f) : q.1 = p ∨ q ∈ s := by
 unfold Zw7 at h
 split at h
 exact .inr (Yg5.1 h).1
 rcases Yc8.1 h with rfl | h
 exact .inl U
 exact .inr h.1
theorem Yp0 : ∀ {T s : MpT} {q : Zb0}, q ∈ F5 T s → (∃ t, t ∈ T ∧ t.1 = q.1) ∨ ∃ t, t ∈ s ∧ t.1 = q.1
 | [], s, q, h => .inr ⟨q, h, U⟩
 | t :: T, s, q, h => by
  rcases Yp0 (T := T) h with ⟨u, hu, e⟩ | ⟨u, hu, e⟩
  exact .inl ⟨u, mem_cons_of_mem _ hu, e⟩
  rcases Wv9 hu with h | h
  exact .inl ⟨t, mem_cons_self .., h.symm.trans e⟩
  exact .inr ⟨u, h, e⟩
theorem Vd9 {B : Int} {T : MpT} (hT : MoL B ds T) : MoL B ds (F5 T []) := by
 intro q hq
 rcases Yp0 hq with ⟨t, ht, e⟩ | ⟨t, ht, e⟩
 rw [← e]; exact hT t ht
 cases ht
end
/-! a form that is valid -/
structure VF (ds : List Int) (f : MpT) : Prop where
 nf : nfm f = true
 mo : MoL 20 ds f
 len : f.length ≤ 400
theorem Vg4 {ds : List Int} {m : A8} (hm : Byt m) (h : okM ds m = true) : Mo 20 ds m := by
 have hall : ∀ n : Nat, n < 8 → Y5 m n ≤ Zp6 ds n := fun n hn => by
  have := all_eq_true.1 h n (mem_range.2 hn)
  simpa using this
 have most : ∀ n, Zp6 ds n ≤ 20 := fun n => by unfold Zp6; split; split <;> omega; omega
 refine ⟨fun i => (hm i).1, fun i => ?_, fun n hn ho => ?_, fun i hi => ?_⟩
 have := hall i.val i.isLt
 rw [S5 m i.isLt] at this
 exact Int.le_trans this (most _)
 by_cases h8 : n < 8
 have := hall n h8
 unfold Zp6 at this
 rw [if_pos hn, if_pos ho] at this; exact this
 simp [Y5, h8]
 have := hall i.val i.isLt
 unfold Zp6 at this
 rw [if_neg (by omega), S5 m i.isLt] at this
 have h0 := (hm i).1
 exact Int.le_antisymm this h0
theorem Wo9 {ds : List Int} {f : MpT} (hf : Zl5 f) (h : okF ds f = true) : VF ds f := by
 unfold okF at h
 rw [Bool.and_eq_true, decide_eq_true_eq] at h
 obtain ⟨h, hl⟩ := h
 have hall : ∀ n, n < f.length → okT ds f n = true := fun n hn => all_eq_true.1 h n (mem_range.2 hn)
 have hmem : ∀ t, t ∈ f → okM ds t.1 = true ∧ 1 ≤ t.2 ∧ t.2 ≤ 10006 := by
  intro t ht
  obtain ⟨i, hi, rfl⟩ := getElem_of_mem ht
  have := hall i hi
  unfold okT at this
  rw [Ze7 hi, Bool.and_eq_true, Bool.and_eq_true] at this
  exact ⟨this.1.1, by simpa using this.1.2⟩
 have hadj : ∀ j (hj : j + 1 < f.length), bef f[j].1 f[j + 1].1 = true := by
  intro j hj
  have := hall (j + 1) hj
  unfold okT at this
  rw [Ze7 hj, show ((j + 1 : Nat) : Int) - 1 = (j : Int) by omega, Ze7 (show j < f.length by omega), Bool.and_eq_true] at this
  simpa using this.2
 refine ⟨Yi7 ?_ (fun t ht => (hmem t ht).2), fun t ht => Vg4 (hf t ht) (hmem t ht).1, hl⟩
 rw [Srt, pairwise_iff_getElem]
 intro i j hi hj hij
 obtain ⟨d, rfl⟩ : ∃ d, j = i + 1 + d := ⟨j - i - 1, by omega⟩
 clear hij
 induction d with
 | zero => exact hadj i hj
 | succ d ih => exact Zq6 (ih (by omega)) (hadj (i + 1 + d) hj)
theorem Xd9 {s : MpT} {a : A8} {x : Int} (h : Srt (s ++ [(a, x)])) : Zc9 s a x = s ++ [(a, x)] := by
 have hp := pairwise_append.1 h
 have ha : a ∉ s.map Prod.fst := by
  intro hm
  obtain ⟨q, hq, rfl⟩ := mem_map.1 hm
  have := hp.2.2 q hq (q.1, x) (by simp)
  rw [Zh0] at this; cases this
 refine Xi3 (Yo1 hp.1 a x) h ((Zv2 _ _).trans ?_)
 unfold Zz2
 rw [Ya7 ha]
 exact (perm_append_singleton _ _).symm
theorem Wl6 {K : Nat} {f : MpT} (hK : 8 < K) (hf : Zl5 f) (hs : Srt f) : ∀ (k i : Nat), f.length < i + k → i ≤ f.length → Zd2 K f k i (f.take i) = some (.go f) := by
 intro k
 induction k with
 | zero => intro i h1 h2; omega
 | succ k ih =>
  intro i h1 h2
  rw [Zd2]
  by_cases hi : i < f.length
  have e : f.take (i + 1) = f.take i ++ [((rd f (i : Int)).1, (rd f (i : Int)).2)] := by
   rw [Ze7 hi, take_add_one, getElem?_eq_getElem hi]; rfl
  have Z4 : Srt (f.take (i + 1)) := hs.sublist (take_sublist _ _)
  rw [if_pos (by omega), Yh9 hK (hf _ (S0 hi)), bind_some, Xd9 (by rw [← e]; exact Z4), ← e]
  exact ih (i + 1) (by omega) (by omega)
  rw [if_neg (by omega), take_of_length_le (by omega)]
theorem Xo5 {K : Nat} {f : MpT} (hK : 8 < K) (hl : f.length < K) (hf : Zl5 f) (hs : Srt f) : Zo8 K f = some f := by
 have := Wl6 hK hf hs K 0 (by omega) (by omega)
 unfold Zo8
 replace this : Zd2 K f K 0 [] = some (.go f) := this
 rw [this]; rfl
theorem Mo.byt {B : Int} {ds : List Int} {m : A8} (h : Mo B ds m) (hB : B ≤ 255) : Byt m := fun i => ⟨h.lo i, Int.le_trans (h.hi i) hB⟩
theorem VF.byt {ds : List Int} {f : MpT} (h : VF ds f) : Zl5 f := fun t ht => (h.mo t ht).byt (by decide)
theorem VF.small {ds : List Int} {f : MpT} (h : VF ds f) : SmF f := Zz3 h.nf
/-! all images -/
theorem Xv0 (m : M8) {n : Nat} (h : n < 8) : Yf6 m (n : Int) = m ⟨n, h⟩ := by simp [Yf6, h]
theorem Wv7 (m : M8) {n : Nat} (hn : n < 8) (x : MpT) (j : Fin 8) : Xn2 m n x j = if j.val = n then x else m j := by
 unfold Xn2
 by_cases h : j.val = n
 rw [if_pos h, if_pos (by omega)]
 rw [if_neg h, if_neg (by omega)]
theorem Wc7 {K : Nat} {a : List Int × List MpT} (hK : 400 < K) (hl : a.2.length ≤ 8) (hv : ∀ f, f ∈ a.2 → ∃ ds, VF ds f) : ∀ (k n : Nat) (box : M8), a.2.length < n + k → n ≤ a.2.length → (∀ j, j < n → Yf6 box (j : Int) = rd a.2 (j : Int)) →
 ∃ r, M3 K a k n box = some (.go r) ∧ ∀ j, j < a.2.length → Yf6 r (j : Int) = rd a.2 (j : Int) := by
 intro k
 induction k with
 | zero => intro n box h1 h2; omega
 | succ k ih =>
  intro n box h1 h2 hb
  rw [M3]
  by_cases hn : n < a.2.length
  obtain ⟨ds, v⟩ := hv _ (S0 hn)
  have hvl := v.len
  rw [if_pos (by omega), Xo5 (by omega) (by omega) v.byt (I5 v.nf), bind_some, if_pos (by omega)]
  refine ih (n + 1) _ (by omega) (by omega) (fun j hj => ?_)
  rw [Xv0 _ (show j < 8 by omega), Wv7 _ (by omega)]
  by_cases e : j = n
  rw [if_pos e, e]
  rw [if_neg e, ← hb j (by omega), Xv0 _ (show j < 8 by omega)]
  rw [if_neg (by omega)]
  exact ⟨box, U, fun j hj => hb j (by omega)⟩
theorem Wv6 {K : Nat} {a : List Int × List MpT} (hK : 400 < K) (hl : a.2.length ≤ 8) (hv : ∀ f, f ∈ a.2 → ∃ ds, VF ds f) : ∃ r, Zf4 K a = some r ∧ ∀ j, j < a.2.length → Yf6 r (j : Int) = rd a.2 (j : Int) := by
 obtain ⟨r, h1, h2⟩ := Wc7 hK hl hv K 0 (fun _ => []) (by omega) (by omega) (fun j hj => by omega)
 unfold Zf4
 replace h1 : M3 K a K 0 (fun _ => []) = _ := h1
 rw [h1]; exact ⟨r, U, h2⟩
/-! one factor of a monomial -/
def loM (m : A8) (i : Nat) : A8 := fun j => if j.val < i then m j else 0
def hiM (m : A8) (i : Nat) : A8 := fun j => if i < j.val then m j else 0
def lfM (m : A8) (i : Nat) : A8 := T3 (loM m i) i (Y5 m i - 1)
def dT (ds : List Int) (img : MpT) (m : A8) (i : Nat) : MpT := F5 (Zp1 ds (F5 (Zp1 ds [(lfM m i, 1)] img) []) [(hiM m i, 1)]) []
def dF (ds : List Int) (z : Zb0) (i : Nat) : Int := (sg (wtN ds z.1 i) * z.2 * Y5 z.1 i) % 10007
def Yt1 (ds : List Int) (img : MpT) (z : Zb0) (i : Nat) (out : MpT) : MpT := F5 (scl (dF ds z i) (dT ds img z.1 i)) out
def Zz7 (ds : List Int) (imgs : List MpT) (z : Zb0) : Nat → Nat → MpT → MpT
 | 0, _, out => out
 | n + 1, i, out => Zz7 ds imgs z n (i + 1) (if Y5 z.1 (i : Int) = 0 then out else Yt1 ds (rd imgs (i : Int)) z i out)
def Zz1 (ds : List Int) (imgs : List MpT) : MpT → MpT → MpT
 | [], out => out
 | z :: f, out => Zz1 ds imgs f (Zz7 ds imgs z ds.length 0 out)
section
variable {K : Nat} {ds : List Int} {m : A8} {i : Nat}
theorem Xl6 (m : A8) (i n : Nat) : Y5 (loM m i) n = if n < i then Y5 m n else 0 := by
 by_cases hn : n < 8
 rw [S5 _ hn, S5 _ hn]; rfl
 simp [Y5, hn]
theorem Ws3 (m : A8) (i n : Nat) : Y5 (hiM m i) n = if i < n then Y5 m n else 0 := by
 by_cases hn : n < 8
 rw [S5 _ hn, S5 _ hn]; rfl
 simp [Y5, hn]
theorem Wl5 {B : Int} (h : Mo B ds m) (h0 : 0 ≤ B) (i : Nat) : Mo B ds (loM m i) := by
 refine ⟨fun j => ?_, fun j => ?_, fun n hn ho => ?_, fun j hj => ?_⟩
 unfold loM; split; exact h.lo j; omega
 unfold loM; split; exact h.hi j; omega
 rw [Xl6]; split; exact h.odd n hn ho; omega
 unfold loM; split; exact h.out j hj; rfl
theorem Wj5 {B : Int} (h : Mo B ds m) (h0 : 0 ≤ B) (i : Nat) : Mo B ds (hiM m i) := by
 refine ⟨fun j => ?_, fun j => ?_, fun n hn ho => ?_, fun j hj => ?_⟩
 unfold hiM; split; exact h.lo j; omega
 unfold hiM; split; exact h.hi j; omega
 rw [Ws3]; split; exact h.odd n hn ho; omega
 unfold hiM; split; exact h.out j hj; rfl
theorem Xt3 {B : Int} (h : Mo B ds m) (h0 : 0 ≤ B) (hi : i < 8) (h1 : 0 < Y5 m i) : Mo B ds (lfM m i) := by
 have hl := Wl5 h h0 i
 unfold lfM
 refine ⟨fun j => ?_, fun j => ?_, fun n hn ho => ?_, fun j hj => ?_⟩
 rw [Zh7 _ hi]; split; omega; exact hl.lo j
 rw [Zh7 _ hi]; split
 have := h.hi ⟨i, hi⟩; rw [← S5 m hi] at this; omega
 exact hl.hi j
 by_cases hn8 : n < 8
 rw [S5 _ hn8, Zh7 _ hi]
 by_cases e : n = i
 subst e; rw [if_pos rfl]; have := h.odd n hn ho; omega
 rw [if_neg e, ← S5 (loM m i) hn8]; exact hl.odd n hn ho
 simp [Y5, hn8]
 rw [Zh7 _ hi]; split
 rename_i e
 have := h.out j hj
 rw [S5 m hi, show (⟨i, hi⟩ : Fin 8) = j from Fin.ext e.symm, this] at h1
 omega
 exact hl.out j hj
theorem Wn3 (m : A8) (i : Nat) : ∀ n, n ≤ i → wtN ds (loM m i) n = wtN ds m n
 | 0, _ => rfl
 | n + 1, h => by rw [wtN, wtN, Wn3 m i n (by omega), Xl6, if_pos (by omega)]
theorem Wd4 (m : A8) (i : Nat) : ∀ n, i ≤ n → wtN ds (loM m i) n = wtN ds m i
 | 0, h => by
  have : i = 0 := by omega
  subst this; rfl
 | n + 1, h => by
  by_cases e : i = n + 1
  subst e; exact Wn3 m _ _ (Nat.le_refl _)
  rw [wtN, Wd4 m i n (by omega), Xl6, if_neg (by omega), Int.mul_zero, Int.add_zero]
theorem Wz7 (m : A8) (i : Nat) (h : i ≤ ds.length) : wt ds (loM m i) = wtN ds m i := Wd4 m i _ h
end
theorem Yi4 {B : Int} {ds : List Int} {p : A8} (h : Mo B ds p) : MoL B ds [(p, 1)] := fun t ht => by cases mem_singleton.1 ht; exact h
theorem Yp3 (p : A8) : SmF [(p, 1)] := fun t ht => by cases mem_singleton.1 ht; simp
theorem Wm6 (p : A8) : Srt [(p, 1)] := pairwise_singleton _ _
theorem Xf1 (K : Nat) (p : A8) : Ze3 K p 1 = some [(p, 1)] := by
 unfold Ze3
 rw [Yj0]; rfl
section
variable {K : Nat} {ds : List Int} {img : MpT} {m : A8} {i : Nat}
theorem Yx5 (hm : Mo 20 ds m) (hi : i < 8) (h1 : 0 < Y5 m i) (hv : VF ds img) : MoL 40 ds (F5 (Zp1 ds [(lfM m i, 1)] img) []) ∧ (F5 (Zp1 ds [(lfM m i, 1)] img) []).length ≤ 400 := by
 refine ⟨Vd9 (Vb6 (Yi4 (Xt3 hm (by decide) hi h1)) hv.mo), ?_⟩
 have h2 := Yl8 (Zp1 ds [(lfM m i, 1)] img) []
 have h3 := Xw3 (ds := ds) [(lfM m i, 1)] img
 have h4 := hv.len
 simp only [length_cons, length_nil] at h2 h3
 omega
theorem Xx2 (hm : Mo 20 ds m) (hi : i < 8) (h1 : 0 < Y5 m i) (hv : VF ds img) : (dT ds img m i).length ≤ 400 := by
 have h0 := (Yx5 hm hi h1 hv).2
 unfold dT
 generalize F5 (Zp1 ds [(lfM m i, 1)] img) [] = T at h0 ⊢
 have h2 := Yl8 (Zp1 ds T [(hiM m i, 1)]) []
 have h3 := Xw3 (ds := ds) T [(hiM m i, 1)]
 simp only [length_cons, length_nil] at h2 h3
 omega
theorem Xv3 : nfm (dT ds img m i) = true := Zo1 _ Ya2
theorem Yy2 {z : Zb0} {out : MpT} (hm : Mo 20 ds z.1) (hi : i < 8) (h1 : 0 < Y5 z.1 i) (hv : VF ds img) : (Yt1 ds img z i out).length ≤ out.length + 400 := by
 have h1 := Xx2 hm hi h1 hv
 have h2 := Yl8 (scl (dF ds z i) (dT ds img z.1 i)) out
 unfold Yt1
 have : (scl (dF ds z i) (dT ds img z.1 i)).length = (dT ds img z.1 i).length := by simp [scl]
 omega
theorem Xx8 (m : A8) (i : Nat) : ∀ (k j : Nat) (front back : A8), 8 < j + k → j ≤ 8 → (∀ t : Fin 8, front t = if t.val < j ∧ i ≤ t.val then 0 else m t) → (∀ t : Fin 8, back t = if t.val < j ∧ t.val ≤ i then 0 else m t) →
 E9 K i k j front back = some (.go (loM m i, hiM m i)) := by
 intro k
 induction k with
 | zero => intro j front back h1 h2; omega
 | succ k ih =>
  intro j front back h1 h2 hf hb
  rw [E9]
  by_cases hj : j < 8
  have key : ∀ fr : A8, (∀ t : Fin 8, fr t = if t.val < j + 1 ∧ i ≤ t.val then 0 else m t) → Zl2 K (E9 K i k) i j back fr = some (.go (loM m i, hiM m i)) := by
   intro fr hfr
   unfold Zl2
   by_cases h : j ≤ i
   rw [if_pos (by omega)]
   refine ih (j + 1) _ _ (by omega) (by omega) hfr (fun t => ?_)
   rw [Zh7 _ hj, hb t]
   by_cases e : t.val = j
   rw [if_pos e, if_pos (by omega)]
   rw [if_neg e]
   by_cases h' : t.val < j ∧ t.val ≤ i
   rw [if_pos h', if_pos (by omega)]
   rw [if_neg h', if_neg (by omega)]
   rw [if_neg (by omega)]
   refine ih (j + 1) _ _ (by omega) (by omega) hfr (fun t => ?_)
   rw [hb t]
   by_cases h' : t.val < j ∧ t.val ≤ i
   rw [if_pos h', if_pos (by omega)]
   rw [if_neg h', if_neg (by omega)]
  rw [if_pos (by omega)]
  by_cases h : i ≤ j
  rw [if_pos (by omega)]
  refine key _ (fun t => ?_)
  rw [Zh7 _ hj, hf t]
  by_cases e : t.val = j
  rw [if_pos e, if_pos (by omega)]
  rw [if_neg e]
  by_cases h' : t.val < j ∧ i ≤ t.val
  rw [if_pos h', if_pos (by omega)]
  rw [if_neg h', if_neg (by omega)]
  rw [if_neg (by omega)]
  refine key _ (fun t => ?_)
  rw [hf t]
  by_cases h' : t.val < j ∧ i ≤ t.val
  rw [if_pos h', if_pos (by omega)]
  rw [if_neg h', if_neg (by omega)]
  rw [if_neg (by omega)]
  congr 3
  funext t
  rw [hf t]; unfold loM
  by_cases h : t.val < i
  rw [if_neg (by omega), if_pos h]
  rw [if_pos (by omega), if_neg h]
  funext t
  rw [hb t]; unfold hiM
  by_cases h : i < t.val
  rw [if_neg (by omega), if_pos h]
  rw [if_pos (by omega), if_neg h]
structure VI (ds : List Int) (imgs : List MpT) : Prop where
 len : imgs.length = ds.length
 all : ∀ f, f ∈ imgs → VF ds f
theorem Vc5 {out : MpT} {f : Int} (hK : 1073741824 ≤ K) (hd : okD ds = true) (hm : Mo 20 ds m) (hi : i < 8) (h1 : 0 < Y5 m i) {imgs : List MpT} (hv : VI ds imgs) (hil : i < ds.length) (ho : nfm out = true) (hol : out.length ≤ 100000000)
 (lk : Int → MpT → Option (Ex MpT MpT)) (a1 : MpT) (x0 : Int) (hz : (rd a1 x0).1 = m) :
 Zl1 K lk (ds, imgs) a1 x0 i out (loM m i) (hiM m i) f = lk ((i : Int) + 1) (F5 (scl (f % 10007) (dT ds (rd imgs (i : Int)) m i)) out) := by
 have hl := hv.len
 have hv' := hv.all _ (S0 (show i < imgs.length by omega))
 have hvl := hv'.len
 have hp := Yx5 hm hi h1 hv'
 have hb := hm.hi ⟨i, hi⟩
 rw [← S5 m hi] at hb
 have hw : T3 (loM m i) i (u8.wrap (Y5 m i - 1)) = lfM m i := by rw [Wm2 (by omega)]; rfl
 have hn := Xx2 hm hi h1 hv'
 unfold Zl1
 rw [hz, hw, Xf1, bind_some, if_pos (show (i : Int) < imgs.length by omega),
  Xu9 (B := 20) (C := 20) hK hd (by decide) (by decide) (Yi4 (Xt3 hm (by decide) hi h1)) (Yp3 _) hv'.mo hv'.small (I5 hv'.nf) (by omega) (by simp; omega) (by simp; omega), bind_some, Xf1, bind_some,
  Xu9 (B := 40) (C := 20) hK hd (by decide) (by decide) hp.1 (Zz3 (Zo1 _ Ya2)) (Yi4 (Wj5 hm (by decide) i)) (Yp3 _) (Wm6 _) (by simp) (by omega) (by simp; omega), bind_some, Yj0, bind_some]
 have hT : F5 (Zp1 ds (F5 (Zp1 ds [(lfM m i, 1)] (rd imgs (i : Int))) []) [(hiM m i, 1)]) [] = dT ds (rd imgs (i : Int)) m i := rfl
 rw [hT, Wz4 (by omega) (by omega) (by omega) (Zz3 ho) (Zz3 Xv3) (by omega) (by omega), bind_some, We4 ho (I5 Xv3)]
theorem Vh0 (x y a : Int) (hx : 0 ≤ x) : sg (x + y * a) = if y % 2 = 1 ∧ a % 2 = 1 then - sg x else sg x := by
 have h : (y * a) % 2 = ((y % 2) * (a % 2)) % 2 := Int.mul_emod y a 2
 have e : sg (y * a) = if y % 2 = 1 ∧ a % 2 = 1 then -1 else 1 := by
  unfold sg
  rw [h]
  rcases Int.emod_two_eq y with h1 | h1 <;> rcases Int.emod_two_eq a with h2 | h2 <;> simp [h1, h2]
 rw [Wq5, e]
 split
 rw [Int.mul_neg, Int.mul_one]
 rw [Int.mul_one]
theorem Vf1 (m : A8) {i : Nat} (hi : i < 8) : T3 (loM m i) i (Y5 m i) = loM m (i + 1) := by
 funext t
 rw [Zh7 _ hi, S5 m hi]
 unfold loM
 by_cases e : t.val = i
 rw [if_pos e, if_pos (by omega)]; congr 1; exact Fin.ext e.symm
 rw [if_neg e]
 by_cases h : t.val < i
 rw [if_pos h, if_pos (by omega)]
 rw [if_neg h, if_neg (by omega)]
theorem Xs1 {z : Zb0} (hm : Mo 20 ds z.1) (hz : -10006 ≤ z.2 ∧ z.2 ≤ 10006) (i : Nat) (hi : i < 8) (s : Int) (hs : s = 1 ∨ s = -1) : (-10006 ≤ s * z.2 ∧ s * z.2 ≤ 10006) ∧ -100120036 ≤ s * z.2 * Y5 z.1 i ∧ s * z.2 * Y5 z.1 i ≤ 100120036 := by
 have h2 := hm.hi ⟨i, hi⟩
 have h3 := hm.lo ⟨i, hi⟩
 rw [← S5 z.1 hi] at h2 h3
 exact Xd6 (.inr hs) hz (by omega)
theorem Wa2 {imgs : List MpT} {f : MpT} {x0 : Int} (hK : 1073741824 ≤ K) (hd : okD ds = true) (hv : VI ds imgs) (hm : Mo 20 ds (rd f x0).1) (hz : -10006 ≤ (rd f x0).2 ∧ (rd f x0).2 ≤ 10006) :
 ∀ (k i : Nat) (out : MpT), ds.length < i + k → i ≤ ds.length → nfm out = true → out.length + 400 * (ds.length - i) ≤ 100000000 →
  I4 K (ds, imgs) f x0 k i out = some (.go (Zz7 ds imgs (rd f x0) (ds.length - i) i out)) := by
 have hl := I7 hd
 intro k
 induction k with
 | zero => intro i out h1 h2; omega
 | succ k ih =>
  intro i out h1 h2 ho hol
  rw [I4]
  by_cases hi : i < ds.length
  obtain ⟨n, hn⟩ : ∃ n, ds.length - i = n + 1 := ⟨ds.length - i - 1, by omega⟩
  have e2 : ds.length - (i + 1) = n := by omega
  have hi8 : i < 8 := by omega
  have hlo := hm.lo ⟨i, hi8⟩
  have hhi := hm.hi ⟨i, hi8⟩
  rw [← S5 (rd f x0).1 hi8] at hlo hhi
  rw [if_pos (show (i : Int) < ds.length by omega), if_pos (by omega), hn, Zz7]
  by_cases h0 : Y5 (rd f x0).1 i = 0
  have := ih (i + 1) out (by omega) (by omega) ho (by omega)
  rw [e2] at this
  rw [if_pos h0, if_pos h0]; exact this
  have h1' : 0 < Y5 (rd f x0).1 i := by omega
  have hv' := hv.all _ (S0 (show i < imgs.length by rw [hv.len]; exact hi))
  have hl2 := Xx8 (K := K) (rd f x0).1 i K 0 (rd f x0).1 (rd f x0).1 (by omega) (by omega) (fun t => by simp) (fun t => by simp)
  replace hl2 : E9 K i K 0 (rd f x0).1 (rd f x0).1 = _ := hl2
  have hsl := Yy2 (out := out) hm hi8 h1' hv'
  have := ih (i + 1) (Yt1 ds (rd imgs (i : Int)) (rd f x0) i out) (by omega) (by omega) (Zo1 _ ho) (by omega)
  rw [e2] at this
  have hwt := Yv9 hd ((Wl5 hm (by decide) i).byt (by decide))
  rw [Wz7 _ _ (by omega)] at hwt
  have hfb := Xs1 hm hz i hi8 1 (.inl U)
  rw [Int.one_mul] at hfb
  rw [if_neg h0, if_neg h0, hl2, bind_some]
  show (Zb9 K ds (loM (rd f x0).1 i)).bind _ = _
  rw [Yn8 (by omega) hd ((Wl5 hm (by decide) i).byt (by decide)), bind_some, Wz7 _ _ (by omega), Yh3 (by omega), i64_in (Y5 (rd f x0).1 i) (by omega), i64_in ((rd f x0).2 * _) (by omega), i64_in (0 - _) (by omega)]
  have hj := fun g => Vc5 (K := K) (f := g) hK hd hm hi8 h1' hv hi ho (by omega) (I4 K (ds, imgs) f x0 k) f x0 U
  rw [hj, hj]
  have hF : dF ds (rd f x0) i = (if wtN ds (rd f x0).1 i % 2 = 0 then (rd f x0).2 * Y5 (rd f x0).1 i else 0 - (rd f x0).2 * Y5 (rd f x0).1 i) % 10007 := by
   unfold dF sg
   by_cases e : wtN ds (rd f x0).1 i % 2 = 0
   rw [if_pos e, if_neg (by omega), Int.one_mul]
   rw [if_neg e, if_pos (by omega), Int.neg_mul, Int.one_mul, Int.neg_mul, Int.zero_sub]
  refine Eq.trans ?_ this
  unfold Yt1
  rw [hF]
  split <;> rfl
  rw [if_neg (show ¬ (i : Int) < ds.length by omega), show ds.length - i = 0 by omega]; rfl
end
section
variable {K : Nat} {ds : List Int} {img : MpT} {m : A8} {i : Nat}
theorem Yh2 {imgs : List MpT} {z : Zb0} (hd : okD ds = true) (hv : VI ds imgs) (hm : Mo 20 ds z.1) : ∀ (n i : Nat) (out : MpT), i + n ≤ ds.length → nfm out = true →
 nfm (Zz7 ds imgs z n i out) = true ∧ (Zz7 ds imgs z n i out).length ≤ out.length + 400 * n
 | 0, _, out, _, h => ⟨h, Nat.le_refl _⟩
 | n + 1, i, out, hi, h => by
  have hl := I7 hd
  rw [Zz7]
  by_cases h0 : Y5 z.1 (i : Int) = 0
  rw [if_pos h0]
  have := Yh2 hd hv hm n (i + 1) out (by omega) h
  exact ⟨this.1, by omega⟩
  rw [if_neg h0]
  have hv' := hv.all _ (S0 (show i < imgs.length by rw [hv.len]; omega))
  have hlo := (hm.idx i).1
  have h2 := Yy2 (out := out) (z := z) hm (show i < 8 by omega) (by omega) hv'
  have := Yh2 hd hv hm n (i + 1) (Yt1 ds (rd imgs (i : Int)) z i out) (by omega) (Zo1 _ h)
  exact ⟨this.1, by omega⟩
theorem Wa4 {imgs : List MpT} {f : MpT} (hK : 1073741824 ≤ K) (hd : okD ds = true) (hv : VI ds imgs) (hm : MoL 20 ds f) (hz : SmF f) :
 ∀ (k i : Nat) (out : MpT), f.length < i + k → i ≤ f.length → nfm out = true → out.length + 3200 * (f.length - i) ≤ 90000000 → Zf8 K (ds, imgs) f k i out = some (.go (Zz1 ds imgs (f.drop i) out)) := by
 have hl := I7 hd
 intro k
 induction k with
 | zero => intro i out h1 h2; omega
 | succ k ih =>
  intro i out h1 h2 ho hol
  rw [Zf8]
  by_cases hi : i < f.length
  have h3 := Wa2 hK hd hv (hm _ (S0 hi)) (hz _ (S0 hi)) K 0 out (by omega) (by omega) ho (by omega)
  have h4 := Yh2 hd hv (hm _ (S0 hi)) ds.length 0 out (by omega) ho
  replace h3 : I4 K (ds, imgs) f i K 0 out = _ := h3
  rw [if_pos (by omega), h3, bind_some, Ya6 hi, Zz1]
  exact ih (i + 1) _ (by omega) (by omega) h4.1 (by rw [Nat.sub_zero]; omega)
  rw [if_neg (by omega), drop_eq_nil_of_le (by omega)]; rfl
theorem Vj2 {imgs : List MpT} {f : MpT} (hK : 1073741824 ≤ K) (hd : okD ds = true) (hv : VI ds imgs) (hf : VF ds f) : Zn6 K (ds, imgs) f = some (Zz1 ds imgs f []) := by
 have hl := hf.len
 have := Wa4 hK hd hv hf.mo hf.small K 0 [] (by omega) (by omega) Ya2 (by simp; omega)
 unfold Zn6
 replace this : Zf8 K (ds, imgs) f K 0 [] = some (.go (Zz1 ds imgs f [])) := this
 rw [this]; rfl
theorem Wn4 (m : A8) {i : Nat} (hi : i < 8) : ∀ (k j : Nat) (box : A8), i + 1 < j + k → j ≤ i + 1 → (∀ t : Fin 8, box t = if t.val < j then 0 else m t) → R9 K i k j box = some (.go (hiM m i)) := by
 intro k
 induction k with
 | zero => intro j box h1 h2; omega
 | succ k ih =>
  intro j box h1 h2 hb
  rw [R9]
  by_cases hj : j < i + 1
  rw [if_pos (by omega), if_pos (by omega)]
  refine ih (j + 1) _ (by omega) (by omega) (fun t => ?_)
  rw [Zh7 _ (show j < 8 by omega), hb t]
  by_cases e : t.val = j
  rw [if_pos e, if_pos (by omega)]
  rw [if_neg e]
  by_cases h : t.val < j
  rw [if_pos h, if_pos (by omega)]
  rw [if_neg h, if_neg (by omega)]
  rw [if_neg (by omega)]
  congr 2
  funext t
  rw [hb t]; unfold hiM
  by_cases h : i < t.val
  rw [if_pos h, if_neg (by omega)]
  rw [if_neg h, if_pos (by omega)]
def sgI (ds : List Int) (m : A8) (i : Nat) : Int := sg (wtN ds m (min i ds.length))
theorem Ws4 {imgs : List MpT} {z : Zb0} (hd : okD ds = true) (hm : Mo 20 ds z.1) {i : Nat} (hi : i < 8) (lk : Int → Int → A8 → MpT → Option (Ex MpT (A8 × MpT))) (out : MpT) :
 N4 K lk (ds, imgs) (sgI ds z.1 i) i (loM z.1 i) z out = lk (sgI ds z.1 (i + 1)) ((i : Int) + 1) (loM z.1 (i + 1)) out := by
 unfold N4
 dsimp only
 rw [Vf1 _ hi]
 by_cases hl : i < ds.length
 have hp := D0 hd _ (S0 hl)
 have hlo := (hm.idx i).1
 have hw := Yi8 hd (hm.byt (by decide)) i (by omega)
 have e : sgI ds z.1 (i + 1) = if rd ds (i : Int) % 2 = 1 ∧ Y5 z.1 i % 2 = 1 then - sgI ds z.1 i else sgI ds z.1 i := by
  unfold sgI
  rw [Nat.min_eq_left (show i + 1 ≤ ds.length by omega), Nat.min_eq_left (show i ≤ ds.length by omega), wtN]
  exact Vh0 _ _ _ hw.1
 rw [if_pos (show (i : Int) < ds.length by omega), Yh3 (by omega), Yh3 (by omega), e]
 have hs : i64.wrap (0 - sgI ds z.1 i) = - sgI ds z.1 i := by
  rcases Xk1 (wtN ds z.1 (min i ds.length)) with h | h <;> (unfold sgI; rw [h]; rfl)
 by_cases h1 : rd ds (i : Int) % 2 = 1
 by_cases h2 : Y5 z.1 i % 2 = 1
 rw [if_pos h1, if_pos h2, if_pos ⟨h1, h2⟩, hs]
 rw [if_pos h1, if_neg h2, if_neg (fun h => h2 h.2)]
 rw [if_neg h1, if_neg (fun h => h1 h.1)]
 rw [if_neg (show ¬ (i : Int) < ds.length by omega)]
 unfold sgI
 rw [Nat.min_eq_right (show ds.length ≤ i by omega), Nat.min_eq_right (show ds.length ≤ i + 1 by omega)]
theorem Wm8 {imgs : List MpT} {z : Zb0} {r6 : M8} (hK : 1073741824 ≤ K) (hd : okD ds = true) (hv : VI ds imgs) (hm : Mo 20 ds z.1) (hz : -10006 ≤ z.2 ∧ z.2 ≤ 10006) (hr : ∀ j, j < imgs.length → Yf6 r6 (j : Int) = rd imgs (j : Int)) :
 ∀ (k i : Nat) (out : MpT), 8 < i + k → i ≤ 8 → nfm out = true → out.length + 400 * (8 - i) ≤ 100000000 →
  ∃ a, T5 K (ds, imgs) r6 z k (sgI ds z.1 i) i (loM z.1 i) out = some (.go (a, Zz7 ds imgs z (ds.length - i) i out)) := by
 have hl := I7 hd
 intro k
 induction k with
 | zero => intro i out h1 h2; omega
 | succ k ih =>
  intro i out h1 h2 ho hol
  rw [T5]
  by_cases hi8 : i < 8
  have hlo := hm.lo ⟨i, hi8⟩
  have hhi := hm.hi ⟨i, hi8⟩
  rw [← S5 z.1 hi8] at hlo hhi
  rw [if_pos (by omega)]
  by_cases h0 : Y5 z.1 i = 0
  rw [if_neg (by omega), Ws4 hd hm hi8]
  obtain ⟨a, ha⟩ := ih (i + 1) out (by omega) (by omega) ho (by omega)
  refine ⟨a, ?_⟩
  replace ha : T5 K (ds, imgs) r6 z k (sgI ds z.1 (i + 1)) ((i : Int) + 1) (loM z.1 (i + 1)) out = _ := ha
  rw [ha]
  by_cases hi : i < ds.length
  obtain ⟨n, hn⟩ : ∃ n, ds.length - i = n + 1 := ⟨ds.length - i - 1, by omega⟩
  have e2 : ds.length - (i + 1) = n := by omega
  rw [hn, e2, Zz7, if_pos h0]
  rw [show ds.length - (i + 1) = 0 by omega, show ds.length - i = 0 by omega]; rfl
  have hi : i < ds.length := by
   rcases Nat.lt_or_ge i ds.length with h | h
   exact h
   exact absurd (by rw [S5 z.1 hi8]; exact hm.out ⟨i, hi8⟩ h) h0
  have h1' : 0 < Y5 z.1 i := by omega
  have hil : i < imgs.length := by rw [hv.len]; exact hi
  have hv' := hv.all _ (S0 hil)
  have hvl := hv'.len
  have hp := Yx5 hm hi8 h1' hv'
  have hn := Xx2 hm hi8 h1' hv'
  have hsl := Yy2 (out := out) hm hi8 h1' hv'
  have hl2 := Wn4 (K := K) z.1 hi8 K 0 z.1 (by omega) (by omega) (fun t => by simp)
  replace hl2 : R9 K i K 0 z.1 = _ := hl2
  have hw : T3 (loM z.1 i) i (i64.wrap (Y5 z.1 i - 1)) = lfM z.1 i := by rw [i64_in _ (by omega)]; rfl
  have hfb := Xs1 hm hz i hi8 (sgI ds z.1 i) (Xk1 _)
  have hF : (sgI ds z.1 i * z.2 * Y5 z.1 i) % 10007 = dF ds z i := by unfold dF sgI; rw [Nat.min_eq_left (by omega)]
  have hm1 : ∀ p : A8, Zc9 ([] : MpT) p 1 = [(p, 1)] := fun p => rfl
  rw [if_pos h1', hl2, bind_some]
  obtain ⟨a, ha⟩ := ih (i + 1) (Yt1 ds (rd imgs (i : Int)) z i out) (by omega) (by omega) (Zo1 _ ho) (by omega)
  refine ⟨a, ?_⟩
  show (B4 K (Zc9 ([] : MpT) (T3 (loM z.1 i) i (i64.wrap (Y5 z.1 i - 1))) 1) ds (Yf6 r6 i)).bind _ = _
  have hT : F5 (Zp1 ds (F5 (Zp1 ds [(lfM z.1 i, 1)] (rd imgs (i : Int))) []) [(hiM z.1 i, 1)]) [] = dT ds (rd imgs (i : Int)) z.1 i := rfl
  rw [hw, hm1, hm1, hr i hil, Wa5 (B := 20) (C := 20) (by omega) hd (by decide) (by decide) (by decide) (Yi4 (Xt3 hm (by decide) hi8 h1')) (Yp3 _) hv'.mo hv'.small (by simp; omega) (by omega), bind_some,
   Wa5 (B := 40) (C := 20) (by omega) hd (by decide) (by decide) (by decide) hp.1 (Zz3 (Zo1 _ Ya2)) (Yi4 (Wj5 hm (by decide) i)) (Yp3 _) (by omega) (by simp; omega), bind_some, hT,
   i64_in (sgI ds z.1 i * z.2) (by omega), i64_in _ (by omega), Xz9, bind_some, hF, Ws8 (by unfold dF; omega) (by omega) (Zz3 Xv3) ho, bind_some, Ws4 hd hm hi8]
  replace ha : T5 K (ds, imgs) r6 z k (sgI ds z.1 (i + 1)) ((i : Int) + 1) (loM z.1 (i + 1)) (F5 (scl (dF ds z i) (dT ds (rd imgs (i : Int)) z.1 i)) out) = _ := ha
  rw [ha]
  obtain ⟨n, hn⟩ : ∃ n, ds.length - i = n + 1 := ⟨ds.length - i - 1, by omega⟩
  have e2 : ds.length - (i + 1) = n := by omega
  rw [hn, e2, Zz7, if_neg h0]
  rw [if_neg (by omega), show ds.length - i = 0 by omega]; exact ⟨_, U⟩
theorem Xr8 {imgs : List MpT} {r6 : M8} (hK : 1073741824 ≤ K) (hd : okD ds = true) (hv : VI ds imgs) (hr : ∀ j, j < imgs.length → Yf6 r6 (j : Int) = rd imgs (j : Int)) :
 ∀ (k : Nat) (f out : MpT), f.length < k → MoL 20 ds f → SmF f → nfm out = true → out.length + 3200 * f.length ≤ 90000000 → S9 K (ds, imgs) r6 k f out = some (.go (Zz1 ds imgs f out))
 | 0, _, _, h, _, _, _, _ => by omega
 | k + 1, [], out, _, _, _, _, _ => by rw [S9]; rfl
 | k + 1, z :: f, out, h, hm, hz, ho, hol => by
  have hl := I7 hd
  rw [length_cons] at hol h
  have hk8 : 8 < 0 + K := by omega
  have hol' : out.length + 400 * (8 - 0) ≤ 100000000 := by rw [Nat.sub_zero]; omega
  obtain ⟨a, ha⟩ := Wm8 hK hd hv (hm z (mem_cons_self ..)) (hz z (mem_cons_self ..)) hr K 0 out hk8 (Nat.zero_le _) ho hol'
  have h4 := Yh2 hd hv (hm z (mem_cons_self ..)) ds.length 0 out (by omega) ho
  have e1 : sgI ds z.1 0 = 1 := by unfold sgI; rw [Nat.zero_min]; rfl
  have e2 : loM z.1 0 = fun _ => 0 := by funext t; unfold loM; rw [if_neg (by omega)]
  rw [e1, e2, Nat.sub_zero] at ha
  replace ha : T5 K (ds, imgs) r6 z K 1 0 (fun _ => 0) out = _ := ha
  rw [S9, ha, bind_some]
  show S9 K (ds, imgs) r6 k f (Zz7 ds imgs z ds.length 0 out) = _
  exact Xr8 hK hd hv hr k f _ (by omega) (fun q hq => hm q (mem_cons_of_mem _ hq)) (fun q hq => hz q (mem_cons_of_mem _ hq)) h4.1 (by omega)
theorem Vi2 {imgs : List MpT} {f : MpT} (hK : 1073741824 ≤ K) (hd : okD ds = true) (hv : VI ds imgs) (hf : VF ds f) : Zb7 K (ds, imgs) f = some (Zz1 ds imgs f []) := by
 have hl := hf.len
 have hdl := I7 hd
 obtain ⟨r6, h1, h2⟩ := Wv6 (K := K) (a := (ds, imgs)) (by omega) (show imgs.length ≤ 8 by rw [hv.len]; exact hdl) (fun g hg => ⟨ds, hv.all g hg⟩)
 unfold Zb7
 rw [show ((ds, imgs) : List Int × List MpT).1 = ds from U, show ((ds, imgs) : List Int × List MpT).2 = imgs from U, h1, bind_some, Xr8 hK hd hv h2 K f [] (by omega) hf.mo hf.small Ya2 (by simp; omega)]
 rfl
end
theorem Xs0 {K : Nat} {xs : List MpT} {p : MpT → Option Bool} {q : MpT → Bool} (hK : xs.length < K) (hp : ∀ x, x ∈ xs → p x = some (q x)) : T6 K xs p = some (xs.any q) := by
 unfold T6 J0
 have := Xx5 (fun k i => V3 K xs p k i) xs.length (fun j => q (rd xs (j : Int))) id (fun k n hn => ?_) (fun k n hn => ?_) K 0 (by omega) (by omega)
 rw [Nat.sub_zero, ← range_eq_range', Xr9 xs q] at this
 rcases this with ⟨m, h1, h2, _⟩ | ⟨h1, h2⟩
 replace h1 : V3 K xs p K 0 = _ := h1
 rw [h1, h2]; simp [Ex.elim]
 replace h1 : V3 K xs p K 0 = _ := h1
 rw [h1, h2]; simp [Ex.elim]
 show V3 K xs p (k + 1) n = _
 rw [V3, if_pos (by omega), hp _ (S0 hn)]; rfl
 show V3 K xs p (k + 1) n = _
 rw [V3, if_neg (by omega)]
structure Inp (K : Nat) (a : F6) : Prop where
 big : 1073741824 ≤ K
 dl : a.1.length ≤ 1048576
 il : a.2.length ≤ 1048576
 fl : ∀ f, f ∈ a.2 → f.length ≤ 1048576
 by_ : ∀ f, f ∈ a.2 → Zl5 f
def okI (a : F6) (j : Nat) : Bool := okF a.1 (rd a.2 (j : Int)) && okG a.1 (rd a.2 (j : Int)) (rd a.1 (j : Int) + 1)
def okB (a : F6) : Bool := okD a.1 && (decide (a.2.length = a.1.length) && (range a.2.length).all (okI a))
def okC (a : F6) : Bool := a.2.all fun f => decide ((Zz1 a.1 a.2 f []).length = 0)
def okA (a : F6) : Bool := okB a && okC a
section
variable {K : Nat} {a : F6}
theorem We5 (h : okB a = true) : okD a.1 = true := by unfold okB at h; rw [Bool.and_eq_true] at h; exact h.1
theorem Xi4 (hi : Inp K a) (h : okB a = true) : VI a.1 a.2 := by
 unfold okB at h
 rw [Bool.and_eq_true, Bool.and_eq_true, decide_eq_true_eq] at h
 refine ⟨h.2.1, fun f hf => ?_⟩
 obtain ⟨j, hj, rfl⟩ := getElem_of_mem hf
 have := all_eq_true.1 h.2.2 j (mem_range.2 hj)
 unfold okI at this
 rw [Ze7 hj, Bool.and_eq_true] at this
 exact Wo9 (hi.by_ _ hf) this.1
theorem Vg8 (hi : Inp K a) : Zz5 K a = some (okA a) := by
 have hK := hi.big
 have hdl := hi.dl
 have hil := hi.il
 unfold Zz5 okA okB
 rw [Vj6 (by omega), bind_some]
 cases hd : okD a.1 with
 | false => rfl
 | true =>
  rw [if_pos U]
  unfold Zr4
  by_cases hl : a.2.length = a.1.length
  case neg => rw [if_pos (by simp; omega)]; simp [hl]
  rw [if_neg (by simp; omega), Zd9 (g := ()) (fun k i => G9 K a k i) a.2.length (okI a) false (fun k n hn => ?_) (fun k n hn => ?_) (by omega)]
  cases hb : (range a.2.length).all (okI a) with
  | false => simp [Ex.elim, hl]
  | true =>
   have hB : okB a = true := by unfold okB; rw [hd, hb]; simp [hl]
   have hv := Xi4 hi hB
   rw [if_pos U, bind_some]
   show ((F0 K a K 0).bind _) = _
   rw [Zd9 (g := ()) (fun k i => F0 K a k i) a.2.length (fun j => decide ((Zz1 a.1 a.2 (rd a.2 (j : Int)) []).length = 0)) false (fun k n hn => ?_) (fun k n hn => ?_) (by omega), Yz5 a.2 (fun f => decide ((Zz1 a.1 a.2 f []).length = 0))]
   unfold okC
   rw [Bool.true_and, decide_eq_true hl, Bool.true_and, Bool.true_and]
   cases a.2.all fun f => decide ((Zz1 a.1 a.2 f []).length = 0) <;> rfl
   show F0 K a (k + 1) n = _
   rw [F0, if_pos (by omega), Vj2 hK hd hv (hv.all _ (S0 hn)), bind_some]
   by_cases h0 : (Zz1 a.1 a.2 (rd a.2 (n : Int)) []).length = 0
   rw [if_neg (by omega), if_pos (by simpa using h0)]
   rw [if_pos (by omega), if_neg (show ¬ decide ((Zz1 a.1 a.2 (rd a.2 (n : Int)) []).length = 0) = true by simpa using h0)]
   show F0 K a (k + 1) n = _
   rw [F0, if_neg (by omega)]
  show G9 K a (k + 1) n = _
  have hb := hi.by_ _ (S0 hn)
  have hfl := hi.fl _ (S0 hn)
  have hp := D0 hd _ (S0 (show n < a.1.length by omega))
  obtain ⟨r, hr, hg⟩ := Wn1 (K := K) (f := rd a.2 (n : Int)) (by omega) (by omega) hd hb
  rw [G9, if_pos (by omega), Wz6 (by omega) (by omega) (by omega) hd hb, bind_some, hr, bind_some, if_pos (show (n : Int) < a.1.length by omega), i64_in _ (by omega)]
  unfold okI
  rw [← hg]
  cases okF a.1 (rd a.2 (n : Int)) with
  | false => rfl
  | true =>
   rw [if_pos U, Bool.true_and]
   cases r.2 with
   | false => rfl
   | true =>
    rw [if_pos U, Bool.true_and]
    by_cases h0 : (rd a.2 (n : Int)).length = 0
    rw [if_neg (by omega), if_pos (by simp [h0])]
    rw [if_pos (by omega)]
    by_cases h1 : r.1 = rd a.1 (n : Int) + 1
    rw [if_pos h1, if_pos (by simp [h1])]
    rw [if_neg h1, if_neg (by simp [h0, h1])]
  show G9 K a (k + 1) n = _
  rw [G9, if_neg (by omega)]
theorem Vi9 (hi : Inp K a) : Zo5 K a = some (okA a) := by
 have hK := hi.big
 have hdl := hi.dl
 have hil := hi.il
 unfold Zo5 okA okB
 rw [Vi0 (by omega), bind_some]
 cases hd : okD a.1 with
 | false => rfl
 | true =>
  rw [if_pos U]
  unfold Zi8
  by_cases hl : a.2.length = a.1.length
  case neg => rw [if_pos (by simp; omega)]; simp [hl]
  rw [if_neg (by simp; omega), Zd9 (g := ()) (fun k i => M9 K a k i) a.2.length (okI a) false (fun k n hn => ?_) (fun k n hn => ?_) (by omega)]
  cases hb : (range a.2.length).all (okI a) with
  | false => simp [Ex.elim, hl]
  | true =>
   have hB : okB a = true := by unfold okB; rw [hd, hb]; simp [hl]
   have hv := Xi4 hi hB
   rw [if_pos U, bind_some]
   show ((T6 K a.2 fun x => Zi6 K x (a.1, a.2)).bind _) = _
   rw [Xs0 (q := fun f => !decide ((Zz1 a.1 a.2 f []).length = 0)) (by omega) (fun f hf => ?_), bind_some, ← not_all_eq_any_not]
   unfold okC
   rw [Bool.true_and, decide_eq_true hl, Bool.true_and, Bool.true_and, Bool.not_not]
   have hvf := hv.all f hf
   have hvl := hvf.len
   unfold Zi6
   rw [Xo5 (by omega) (by omega) hvf.byt (I5 hvf.nf), bind_some]
   show (Zb7 K (a.1, a.2) f).bind _ = _
   rw [Vi2 hK hd hv hvf, bind_some]
   congr 1
   rw [← decide_not]
   exact decide_eq_decide.2 (by omega)
  show M9 K a (k + 1) n = _
  have hb := hi.by_ _ (S0 hn)
  have hfl := hi.fl _ (S0 hn)
  have hp := D0 hd _ (S0 (show n < a.1.length by omega))
  rw [M9, if_pos (by omega), Wy6 (by omega) hd hb, bind_some, if_pos (show (n : Int) < a.1.length by omega), i64_in _ (by omega), Wp7 (by omega) (by omega) hd hb (by omega), bind_some]
  unfold okI
  cases okF a.1 (rd a.2 (n : Int)) with
  | false => rfl
  | true => rw [if_pos U, Bool.true_and]
  show M9 K a (k + 1) n = _
  rw [M9, if_neg (by omega)]
end
section
variable {K : Nat} {ds : List Int} {i : Nat}
theorem Wy9 {α : Type} [Inhabited α] {xs : List α} {n : Nat} {x : α} (h : xs[n]? = some x) : rd xs (n : Int) = x := by
 unfold rd
 rw [Int.toNat_natCast, getD_eq_getElem?_getD, h]; rfl
theorem Xn4 {α : Type} [Inhabited α] {xs : List α} {j : Nat} (h : j < xs.length) : xs.take (j + 1) = xs.take j ++ [rd xs (j : Int)] := by
 rw [Ze7 h, take_add_one, getElem?_eq_getElem h]; rfl
theorem Vf2 {r10 : List A8} {x : Int} {m : A8} (hr : rd r10 x = m) (hm : ∀ j, 0 ≤ m j ∧ m j ≤ 20) : ∀ (k n : Nat) (box : A8), n ≤ 8 → 8 < n + k → (∀ j : Fin 8, j.val < n → box j = m j) → D5 K r10 x k n box = some (.go m) := by
 intro k
 induction k with
 | zero => intro n box h1 h2; omega
 | succ k ih =>
  intro n box h1 h2 hb
  rw [D5, hr]
  by_cases hn : n < 8
  have hmn := hm ⟨n, hn⟩
  rw [if_pos (by omega), S5 m hn, if_neg (by omega)]
  refine ih (n + 1) _ (by omega) (by omega) (fun j hj => ?_)
  rw [Zh7 _ hn]
  by_cases e : j.val = n
  rw [if_pos e, Wm2 (by omega)]
  congr 1; exact Fin.ext e.symm
  rw [if_neg e]; exact hb j (by omega)
  rw [if_neg (by omega)]
  congr 2
  funext j; exact hb j (by omega)
theorem Vb3 {f : MpT} (hK : 1073741824 ≤ K) (hf : VF ds f) : ∀ (k j : Nat), f.length < j + k → j ≤ f.length → D6 K f (f.map Prod.fst) k j (f.take j) = some (.go f) := by
 have hl := hf.len
 intro k
 induction k with
 | zero => intro j h1 h2; omega
 | succ k ih =>
  intro j h1 h2
  rw [D6, length_map]
  by_cases hj : j < f.length
  have er : rd (f.map Prod.fst) (j : Int) = (rd f (j : Int)).1 := Wy9 (by rw [getElem?_map, getElem?_eq_getElem hj, Ze7 hj]; rfl)
  have hm := hf.mo _ (S0 hj)
  have h3 := Vf2 (K := K) er (fun t => ⟨hm.lo t, hm.hi t⟩) K 0 (fun _ => 0) (by omega) (by omega) (fun t ht => by omega)
  replace h3 : D5 K (f.map Prod.fst) j K 0 (fun _ => 0) = _ := h3
  have hg : N5 f (rd f (j : Int)).1 = (rd f (j : Int)).2 := Ya1 (I5 hf.nf) (S0 hj)
  rw [if_pos (by omega), h3, bind_some]
  show (if _ then _ else none) = _
  rw [er, hg, if_pos (by simp; omega)]
  have := ih (j + 1) (by omega) (by omega)
  rw [Xn4 hj] at this
  exact this
  rw [if_neg (by omega), take_of_length_le (by omega)]
theorem Vi4 {f : MpT} (hK : 1073741824 ≤ K) (hf : VF ds f) : Zr3 K f = some (f, 0) := by
 have hl := hf.len
 have hok : Yy5 f = true := by
  unfold Yy5
  rw [all_eq_true]
  intro p hp
  rw [all_eq_true]
  intro x hx
  have hm := hf.mo p hp
  have : ∃ t, x = p.1 t := by
   unfold l8 at hx
   simp only [mem_cons, not_mem_nil, or_false] at hx
   rcases hx with h | h | h | h | h | h | h | h <;> exact ⟨_, h⟩
  obtain ⟨t, rfl⟩ := this
  have h1 := hm.lo t
  have h2 := hm.hi t
  simp; omega
 have := Vb3 hK hf K 0 (by omega) (by omega)
 unfold Zr3 Zs6
 replace this : D6 K f (f.map Prod.fst) K 0 [] = some (.go f) := this
 rw [if_neg (by omega), if_pos ⟨hok, by omega, by omega⟩, bind_some, this]; rfl
end
def lin (h : A8 → Int) : List (A8 × Int) → Int
 | [] => 0
 | t :: ts => t.2 * h t.1 + lin h ts
def Vm9 (ds : List Int) (s t : MpT) : MpT := F5 (Zp1 ds s t) []
/-! how many monomials there are -/
def cd : List Int → Int
 | [] => 0
 | x :: xs => x * 14 ^ xs.length + cd xs
theorem Xp0 (n : Nat) : (0 : Int) < 14 ^ n := Int.pow_pos (by decide)
theorem Yt0 : ∀ xs : List Int, (∀ x, x ∈ xs → 0 ≤ x ∧ x ≤ 13) → 0 ≤ cd xs ∧ cd xs < 14 ^ xs.length
 | [], _ => by simp [cd]
 | x :: xs, h => by
  have hx := h x (mem_cons_self ..)
  have ih := Yt0 xs (fun y hy => h y (mem_cons_of_mem _ hy))
  have hp := Xp0 xs.length
  have h1 : 0 ≤ x * 14 ^ xs.length := Int.mul_nonneg hx.1 (Int.le_of_lt hp)
  have h2 : x * 14 ^ xs.length ≤ 13 * 14 ^ xs.length := Int.mul_le_mul_of_nonneg_right hx.2 (Int.le_of_lt hp)
  rw [cd, length_cons, Int.pow_succ]
  omega
theorem Wz3 : ∀ xs ys : List Int, xs.length = ys.length → (∀ x, x ∈ xs → 0 ≤ x ∧ x ≤ 13) → (∀ x, x ∈ ys → 0 ≤ x ∧ x ≤ 13) → Zi3 xs ys = true → cd ys < cd xs
 | [], [], _, _, _, h => by simp [Zi3] at h
 | x :: xs, y :: ys, hl, hx, hy, h => by
  have hl : xs.length = ys.length := by simpa using hl
  have b1 := Yt0 xs (fun z hz => hx z (mem_cons_of_mem _ hz))
  have b2 := Yt0 ys (fun z hz => hy z (mem_cons_of_mem _ hz))
  rw [Zi3] at h
  rw [cd, cd, hl]
  by_cases e : x = y
  rw [if_pos e] at h
  have := Wz3 xs ys hl (fun z hz => hx z (mem_cons_of_mem _ hz)) (fun z hz => hy z (mem_cons_of_mem _ hz)) h
  rw [e]; omega
  rw [if_neg e] at h
  have h := of_decide_eq_true h
  have hp := Xp0 ys.length
  have h1 : (y + 1) * 14 ^ ys.length ≤ x * 14 ^ ys.length := Int.mul_le_mul_of_nonneg_right (by omega) (Int.le_of_lt hp)
  rw [Int.add_mul, Int.one_mul] at h1
  omega
theorem Xx4 {α : Type} {g : α → Int} : ∀ (s : List α) (N : Int), s.Pairwise (fun p q => g q < g p) → (∀ t, t ∈ s → 0 ≤ g t ∧ g t < N) → 0 ≤ N → (s.length : Int) ≤ N
 | [], N, _, _, h0 => by simpa using h0
 | t :: s, N, hp, hb, _ => by
  have hp := pairwise_cons.1 hp
  have ht := hb t (mem_cons_self ..)
  have := Xx4 s (g t) hp.2 (fun u hu => ⟨(hb u (mem_cons_of_mem _ hu)).1, hp.1 u hu⟩) ht.1
  rw [length_cons]; omega
theorem Wb4 {ds : List Int} {m : A8} (h : Mo 13 ds m) : ∀ x, x ∈ l8 m → 0 ≤ x ∧ x ≤ 13 := by
 intro x hx
 have : ∃ t, x = m t := by
  unfold l8 at hx
  simp only [mem_cons, not_mem_nil, or_false] at hx
  rcases hx with h | h | h | h | h | h | h | h <;> exact ⟨_, h⟩
 obtain ⟨t, rfl⟩ := this
 exact ⟨h.lo t, h.hi t⟩
theorem Vh8 {ds : List Int} {s : MpT} (hs : nfm s = true) (hm : MoL 13 ds s) : s.length ≤ 1475789056 := by
 have h1 : s.Pairwise (fun p q => cd (l8 q.1) < cd (l8 p.1)) := by
  refine List.Pairwise.imp_of_mem (fun {p q} hp hq hb => ?_) (I5 hs)
  exact Wz3 _ _ U (Wb4 (hm p hp)) (Wb4 (hm q hq)) hb
 have h2 := Xx4 (g := fun t : A8 × Int => cd (l8 t.1)) s 1475789056 h1 (fun t ht => ?_) (by decide)
 omega
 have := Yt0 (l8 t.1) (Wb4 (hm t ht))
 have e : (14 : Int) ^ (l8 t.1).length = 1475789056 := by show (14 : Int) ^ 8 = _; decide
 rw [e] at this; exact this
theorem Wf6 (ds : List Int) (p q : A8) : ∀ n, wtN ds (Yg6 p q) n = wtN ds p n + wtN ds q n
 | 0 => rfl
 | n + 1 => by rw [wtN, wtN, wtN, Wf6 ds p q n, Wh9, Int.mul_add]; omega
theorem Yn0 {ds : List Int} {m : A8} (hd : okD ds = true) (lo : ∀ i, 0 ≤ m i) : ∀ n : Nat, n ≤ ds.length → 0 ≤ wtN ds m n ∧ ∀ j, j < n → Y5 m (j : Int) ≤ wtN ds m n
 | 0, _ => ⟨by simp [wtN], fun j hj => by omega⟩
 | n + 1, h => by
  obtain ⟨h1, h2⟩ := Yn0 hd lo n (by omega)
  have hn := D0 hd _ (S0 (show n < ds.length by omega))
  have hi : 0 ≤ Y5 m (n : Int) := by
   by_cases h8 : n < 8
   rw [S5 m h8]; exact lo _
   have := I7 hd; omega
  have h3 : 1 * Y5 m (n : Int) ≤ rd ds (n : Int) * Y5 m (n : Int) := Int.mul_le_mul_of_nonneg_right hn.1 hi
  rw [Int.one_mul] at h3
  rw [wtN]
  refine ⟨by omega, fun j hj => ?_⟩
  by_cases e : j = n
  subst e; omega
  have := h2 j (by omega); omega
theorem Wu2 {ds : List Int} {B : Int} {m : A8} (hd : okD ds = true) (hm : Mo B ds m) (hw : wt ds m ≤ 13) : Mo 13 ds m := by
 refine ⟨hm.lo, fun i => ?_, hm.odd, hm.out⟩
 by_cases h : i.val < ds.length
 have := (Yn0 hd hm.lo ds.length (Nat.le_refl _)).2 i.val h
 rw [S5 m i.isLt] at this
 unfold wt at hw
 exact Int.le_trans this hw
 rw [hm.out i (by omega)]; decide
structure Hm (u : Int) (ds : List Int) (s : MpT) : Prop where
 nf : nfm s = true
 mo : MoL 13 ds s
 w : ∀ t, t ∈ s → wt ds t.1 = u
theorem Hm.len {u : Int} {ds : List Int} {s : MpT} (h : Hm u ds s) : s.length ≤ 1475789056 := Vh8 h.nf h.mo
theorem Hm.nil (u : Int) (ds : List Int) : Hm u ds [] := ⟨Ya2, fun t ht => (by cases ht), fun t ht => (by cases ht)⟩
theorem Hm.vf {u : Int} {ds : List Int} {s : MpT} (h : Hm u ds s) (hl : s.length ≤ 400) : VF ds s :=
 ⟨h.nf, fun t ht => ⟨(h.mo t ht).lo, fun i => Int.le_trans ((h.mo t ht).hi i) (by decide), (h.mo t ht).odd, (h.mo t ht).out⟩, hl⟩
theorem Vk0 {u : Int} {ds : List Int} {f : MpT} (hd : okD ds = true) (hf : VF ds f) (hw : ∀ t, t ∈ f → wt ds t.1 = u) (hu : u ≤ 13) : Hm u ds f :=
 ⟨hf.nf, fun t ht => Wu2 hd (hf.mo t ht) (by rw [hw t ht]; exact hu), hw⟩
section
variable {K : Nat} {ds : List Int}
theorem Wr0 {u : Int} {T s : MpT} (hT : ∀ r, r ∈ T → Mo 13 ds r.1 ∧ wt ds r.1 = u) (hs : Hm u ds s) : Hm u ds (F5 T s) := by
 refine ⟨Zo1 _ hs.nf, fun q hq => ?_, fun q hq => ?_⟩
 rcases Yp0 hq with ⟨t, ht, e⟩ | ⟨t, ht, e⟩
 rw [← e]; exact (hT t ht).1
 rw [← e]; exact hs.mo t ht
 rcases Yp0 hq with ⟨t, ht, e⟩ | ⟨t, ht, e⟩
 rw [← e]; exact (hT t ht).2
 rw [← e]; exact hs.w t ht
end
section
variable {K : Nat}
/-! inverses -/
def ivN : Nat → Nat → Nat → Nat → Nat
 | 0, out, _, _ => out
 | n + 1, out, sq, k => ivN n (if k % 2 = 1 then out * sq % 10007 else out) (sq * sq % 10007) (k / 2)
def inv (c : Int) : Int := (ivN 14 1 c.toNat 10005 : Nat)
theorem Vd0 : (range 10007).all (fun c => decide (c = 0) || (decide (1 ≤ ivN 14 1 c 10005) && decide (ivN 14 1 c 10005 ≤ 10006))) = true := by decide +kernel
theorem Wf9 {c : Int} (hc : 1 ≤ c ∧ c ≤ 10006) : 1 ≤ inv c ∧ inv c ≤ 10006 := by
 have h := all_eq_true.1 Vd0 c.toNat (mem_range.2 (by omega))
 rw [Bool.or_eq_true, Bool.and_eq_true] at h
 rcases h with h | ⟨h1, h2⟩
 have := of_decide_eq_true h; omega
 have h1 := of_decide_eq_true h1
 have h2 := of_decide_eq_true h2
 unfold inv; omega
theorem Vj7 {a b : Nat} (ha : a ≤ 10006) (hb : b ≤ 10006) : a * b ≤ 100120036 := Nat.mul_le_mul ha hb
theorem Xi0 (a b : Nat) : (((a : Int) * (b : Int))).tmod 10007 = ((a * b % 10007 : Nat) : Int) := by
 rw [← Int.natCast_mul, Int.tmod_eq_emod_of_nonneg (by omega)]; rfl
theorem Wq9 (x : Nat) (h : x ≤ 1000000) : i64.wrap ((x : Int).tdiv 2) = ((x / 2 : Nat) : Int) := by
 rw [Int.tdiv_eq_ediv_of_nonneg (by omega)]
 show i64.wrap ((x / 2 : Nat) : Int) = _
 exact i64_in _ (by omega)
theorem Xk4 (x : Nat) : ((x : Int).tmod 2 = 1) ↔ x % 2 = 1 := by
 rw [Int.tmod_eq_emod_of_nonneg (by omega)]; omega
theorem Xs9 {a b : Nat} (ha : a ≤ 10006) (hb : b ≤ 10006) : i64.wrap ((a : Int) * (b : Int)) = (a : Int) * (b : Int) := by
 have := Vj7 ha hb
 exact i64_in _ (by rw [← Int.natCast_mul]; omega)
theorem Xf5 : ∀ n out sq, ivN n out sq 0 = out
 | 0, _, _ => rfl
 | n + 1, out, sq => by rw [ivN, if_neg (by omega)]; exact Xf5 n _ _
theorem Yj3 : ∀ (n k out sq x : Nat), n < k → x < 2 ^ n → x ≤ 1000000 → out ≤ 10006 → sq ≤ 10006 → P6 K k out sq x = some (.go (ivN n out sq x : Nat))
 | 0, k + 1, out, sq, x, _, h2, _, _, _ => by
  rw [P6, if_neg (by simp at h2; omega)]; rfl
 | n + 1, k + 1, out, sq, x, h1, h2, hx, h3, h4 => by
  have h5 : out * sq % 10007 ≤ 10006 := by omega
  have h6 : sq * sq % 10007 ≤ 10006 := by omega
  have h7 : x / 2 < 2 ^ n := by rw [Nat.pow_succ] at h2; omega
  rw [P6]
  by_cases h0 : 0 < x
  rw [if_pos (by omega), ivN]
  unfold Zh3
  rw [Xs9 h4 h4, Xs9 h3 h4, Xi0, Xi0, Wq9 x hx]
  by_cases ho : x % 2 = 1
  rw [if_pos ((Xk4 x).2 ho), if_pos ho]
  exact Yj3 n k _ _ _ (by omega) h7 (by omega) h5 h6
  rw [if_neg (fun h => ho ((Xk4 x).1 h)), if_neg ho]
  exact Yj3 n k _ _ _ (by omega) h7 (by omega) h3 h6
  rw [if_neg (by omega), show x = 0 by omega, Xf5]
theorem Yj1 : ∀ (n k out sq x : Nat), n < k → x < 2 ^ n → x ≤ 1000000 → out ≤ 10006 → sq ≤ 10006 → L4 K k sq out x = some (.go (ivN n out sq x : Nat))
 | 0, k + 1, out, sq, x, _, h2, _, _, _ => by
  rw [L4, if_neg (by simp at h2; omega)]; rfl
 | n + 1, k + 1, out, sq, x, h1, h2, hx, h3, h4 => by
  have h5 : out * sq % 10007 ≤ 10006 := by omega
  have h6 : sq * sq % 10007 ≤ 10006 := by omega
  have h7 : x / 2 < 2 ^ n := by rw [Nat.pow_succ] at h2; omega
  rw [L4]
  by_cases h0 : 0 < x
  rw [if_pos (by omega), ivN]
  unfold Zm5
  rw [Xs9 h4 h4, Xs9 h3 h4, Xi0, Xi0, Wq9 x hx]
  by_cases ho : x % 2 = 1
  rw [if_pos ((Xk4 x).2 ho), if_pos ho]
  exact Yj1 n k _ _ _ (by omega) h7 (by omega) h5 h6
  rw [if_neg (fun h => ho ((Xk4 x).1 h)), if_neg ho]
  exact Yj1 n k _ _ _ (by omega) h7 (by omega) h3 h6
  rw [if_neg (by omega), show x = 0 by omega, Xf5]
theorem Wj9 {c : Int} (hK : 1099511627776 ≤ K) (hc : 1 ≤ c ∧ c ≤ 10006) : Zm0 K c = some (inv c) := by
 obtain ⟨n, rfl⟩ := Int.eq_ofNat_of_zero_le (show 0 ≤ c by omega)
 have := Yj3 (K := K) 14 K 1 n 10005 (by omega) (by decide) (by decide) (by decide) (by omega)
 unfold Zm0
 replace this : P6 K K 1 n 10005 = _ := this
 rw [this]; rfl
theorem Wj4 {c : Int} (hK : 1099511627776 ≤ K) (hc : 1 ≤ c ∧ c ≤ 10006) : Zu1 K c = some (inv c) := by
 obtain ⟨n, rfl⟩ := Int.eq_ofNat_of_zero_le (show 0 ≤ c by omega)
 have := Yj1 (K := K) 14 K 1 n 10005 (by omega) (by decide) (by decide) (by decide) (by omega)
 unfold Zu1
 replace this : L4 K K n 1 10005 = _ := this
 rw [this]; rfl
end
abbrev Vc := List Int
def Eq7 (a b : Int) : Prop := a % 10007 = b % 10007
theorem Eq7.refl (a : Int) : Eq7 a a := rfl
theorem Eq7.symm {a b : Int} (h : Eq7 a b) : Eq7 b a := Eq.symm h
theorem Eq7.trans {a b c : Int} (h : Eq7 a b) (h' : Eq7 b c) : Eq7 a c := Eq.trans h h'
theorem Eq7.of {a b : Int} (h : a = b) : Eq7 a b := by subst h; rfl
theorem Eq7.add {a b c d : Int} (h : Eq7 a b) (h' : Eq7 c d) : Eq7 (a + c) (b + d) := by unfold Eq7 at *; omega
theorem Eq7.sub {a b c d : Int} (h : Eq7 a b) (h' : Eq7 c d) : Eq7 (a - c) (b - d) := by unfold Eq7 at *; omega
theorem Eq7.mul {a b c d : Int} (h : Eq7 a b) (h' : Eq7 c d) : Eq7 (a * c) (b * d) := by
 unfold Eq7 at *
 rw [Int.mul_emod, h, h', ← Int.mul_emod]
theorem Eq7.mod (a : Int) : Eq7 (a % 10007) a := by unfold Eq7; omega
theorem Eq7.eq {a b : Int} (h : Eq7 a b) (a0 : 0 ≤ a) (a1 : a < 10007) (b0 : 0 ≤ b) (b1 : b < 10007) : a = b := by unfold Eq7 at h; omega
def at_ (v : Vc) (k : Nat) : Int := v.getD k 0
def fs : Vc → Nat
 | [] => 0
 | x :: v => if x = 0 then fs v + 1 else 0
theorem Ze9 : ∀ (v : Vc) (k : Nat), k < fs v → at_ v k = 0
 | [], k, h => by unfold fs at h; omega
 | x :: v, k, h => by
  unfold fs at h
  by_cases e : x = 0
  rw [if_pos e] at h
  cases k with
  | zero => exact e
  | succ k => exact Ze9 v k (by omega)
  rw [if_neg e] at h; omega
theorem Yt4 : ∀ v : Vc, fs v < v.length → at_ v (fs v) ≠ 0
 | [], h => by simp [fs] at h
 | x :: v, h => by
  unfold fs at h ⊢
  by_cases e : x = 0
  rw [if_pos e] at h ⊢
  exact Yt4 v (by simpa using h)
  rw [if_neg e]; exact e
theorem Yt6 : ∀ (v : Vc) (k : Nat), (∀ j, j < k → at_ v j = 0) → at_ v k ≠ 0 → fs v = k
 | [], k, h, h' => absurd (by simp [at_]) h'
 | x :: v, k, h, h' => by
  unfold fs
  cases k with
  | zero => rw [if_neg (by simpa [at_] using h')]
  | succ k =>
   rw [if_pos (by have := h 0 (by omega); simpa [at_] using this), Yt6 v k (fun j hj => by have := h (j + 1) (by omega); simpa [at_] using this) (by simpa [at_] using h')]
theorem Xw2 : ∀ (v : Vc), (∀ k, at_ v k = 0) → fs v = v.length
 | [], _ => rfl
 | x :: v, h => by
  unfold fs
  rw [if_pos (by have := h 0; simpa [at_] using this), Xw2 v (fun k => by have := h (k + 1); simpa [at_] using this)]
  rfl
theorem Zo4 (v : Vc) (k : Nat) (h : v.length ≤ k) : at_ v k = 0 := by unfold at_; rw [getD_eq_getElem?_getD, getElem?_eq_none h]; rfl
structure Okv (n : Nat) (v : Vc) : Prop where
 len : v.length = n
 rng : ∀ x, x ∈ v → 0 ≤ x ∧ x < 10007
theorem Okv.at {n : Nat} {v : Vc} (h : Okv n v) (k : Nat) : 0 ≤ at_ v k ∧ at_ v k < 10007 := by
 unfold at_
 by_cases hk : k < v.length
 rw [getD_eq_getElem?_getD, getElem?_eq_getElem hk]
 exact h.rng _ (getElem_mem hk)
 rw [getD_eq_getElem?_getD, getElem?_eq_none (by omega)]; decide
theorem Okv.ext {n : Nat} {v u : Vc} (h : Okv n v) (h' : Okv n u) (he : ∀ k, at_ v k = at_ u k) : v = u := by
 apply ext_getElem (by rw [h.len, h'.len])
 intro k h1 h2
 have := he k
 unfold at_ at this
 rw [getD_eq_getElem?_getD, getD_eq_getElem?_getD, getElem?_eq_getElem h1, getElem?_eq_getElem h2] at this
 exact this
inductive Sp (R : List Vc) : (Nat → Int) → Prop
 | zero {f : Nat → Int} (h : ∀ k, Eq7 (f k) 0) : Sp R f
 | add {f g : Nat → Int} (r : Vc) (c : Int) (hr : r ∈ R) (hf : Sp R f) (h : ∀ k, Eq7 (g k) (f k + c * at_ r k)) : Sp R g
theorem Sp.congr {R : List Vc} {f g : Nat → Int} (h : Sp R f) (e : ∀ k, Eq7 (g k) (f k)) : Sp R g := by
 cases h with
 | zero h => exact .zero fun k => (e k).trans (h k)
 | add r c hr hf h => exact .add r c hr hf fun k => (e k).trans (h k)
theorem Sp.plus {R : List Vc} {f g : Nat → Int} (hf : Sp R f) (hg : Sp R g) : Sp R (fun k => f k + g k) := by
 induction hg with
 | zero h => exact hf.congr fun k => by have := h k; unfold Eq7 at *; omega
 | @add f' g' r c hr hf' h ih =>
  refine .add r c hr ih fun k => ?_
  have := h k
  unfold Eq7 at *
  generalize c * at_ r k = z at *
  omega
theorem Sp.times {R : List Vc} {f : Nat → Int} (m : Int) (hf : Sp R f) : Sp R (fun k => m * f k) := by
 induction hf with
 | zero h => exact .zero fun k => by have := (Eq7.refl m).mul (h k); rwa [Int.mul_zero] at this
 | @add f' g' r c hr hf' h ih =>
  refine .add r (m * c) hr ih fun k => ?_
  have := (Eq7.refl m).mul (h k)
  rwa [Int.mul_add, ← Int.mul_assoc] at this
theorem Sp.row {R : List Vc} {r : Vc} (h : r ∈ R) : Sp R (at_ r) := .add r 1 h (.zero fun _ => Eq7.refl 0) fun k => by rw [Int.one_mul, Int.zero_add]; exact Eq7.refl _
theorem Sp.lin {R : List Vc} {f g : Nat → Int} (hf : Sp R f) (c : Int) (hg : Sp R g) : Sp R (fun k => f k - c * g k) :=
 (hf.plus (hg.times (-c))).congr fun k => Eq7.of (by rw [Int.neg_mul, Int.sub_eq_add_neg])
theorem Sp.sub {R S : List Vc} {f : Nat → Int} (h : Sp R f) (hs : ∀ r, r ∈ R → Sp S (at_ r)) : Sp S f := by
 induction h with
 | zero h => exact .zero h
 | add r c hr hf h ih => exact (ih.plus ((hs r hr).times c)).congr h
structure Rr (n : Nat) (R : List Vc) : Prop where
 ok : ∀ r, r ∈ R → Okv n r
 ld : ∀ r, r ∈ R → fs r < n ∧ at_ r (fs r) = 1
 srt : R.Pairwise (fun a b => fs a < fs b)
 off : ∀ r s, r ∈ R → s ∈ R → fs r ≠ fs s → at_ s (fs r) = 0
theorem Rr.same {n : Nat} {R : List Vc} (h : Rr n R) : ∀ {r s : Vc}, r ∈ R → s ∈ R → fs r = fs s → r = s := by
 have := h.srt
 clear h
 induction this with
 | nil => intro r s hr; cases hr
 | @cons a R hd tl ih =>
  intro r s hr hs e
  rcases mem_cons.1 hr with e1 | hr
  rcases mem_cons.1 hs with e2 | hs
  rw [e1, e2]
  have := hd s hs; subst e1; omega
  rcases mem_cons.1 hs with e2 | hs
  have := hd r hr; subst e2; omega
  exact ih hr hs e
def cmb (R : List Vc) (f : Nat → Int) (k : Nat) : Int := (R.map fun r => f (fs r) * at_ r k).sum
theorem Wl8 {α : Type} (u v : α → Int) : ∀ (R : List α), (∀ r, r ∈ R → Eq7 (u r) (v r)) → Eq7 (R.map u).sum (R.map v).sum
 | [], _ => Eq7.refl _
 | r :: R, h => by
  simp only [map_cons, sum_cons]
  exact (h r (mem_cons_self ..)).add (Wl8 u v R fun x hx => h x (mem_cons_of_mem _ hx))
theorem Yg1 {α : Type} (u : α → Int) : ∀ (R : List α), (∀ r, r ∈ R → u r = 0) → (R.map u).sum = 0
 | [], _ => rfl
 | r :: R, h => by
  simp only [map_cons, sum_cons]
  rw [h r (mem_cons_self ..), Yg1 u R fun x hx => h x (mem_cons_of_mem _ hx)]; rfl
theorem Wi5 {α : Type} (u v : α → Int) (c : Int) : ∀ (R : List α), (R.map fun r => u r + c * v r).sum = (R.map u).sum + c * (R.map v).sum
 | [] => by simp
 | r :: R => by
  simp only [map_cons, sum_cons]
  rw [Wi5 u v c R, Int.mul_add]; omega
theorem Xo4 {α : Type} (u : α → Int) (r : α) : ∀ (R : List α), R.Nodup → r ∈ R → (∀ s, s ∈ R → s ≠ r → u s = 0) → (R.map u).sum = u r
 | [], _, h, _ => by cases h
 | a :: R, hn, h, h0 => by
  simp only [map_cons, sum_cons]
  have hn' := nodup_cons.1 hn
  by_cases e : a = r
  subst e
  rw [Yg1 u R fun s hs => h0 s (mem_cons_of_mem _ hs) (fun e => hn'.1 (e ▸ hs))]; omega
  rw [h0 a (mem_cons_self ..) e, Xo4 u r R hn'.2 (by rcases mem_cons.1 h with h | h; exact absurd h.symm e; exact h) (fun s hs => h0 s (mem_cons_of_mem _ hs))]; omega
theorem Rr.nodup {n : Nat} {R : List Vc} (h : Rr n R) : R.Nodup := h.srt.imp (fun {a b} hlt e => by subst e; exact Nat.lt_irrefl _ hlt)
theorem Rr.cmb_row {n : Nat} {R : List Vc} (h : Rr n R) {r : Vc} (hr : r ∈ R) (k : Nat) : cmb R (at_ r) k = at_ r k := by
 unfold cmb
 rw [Xo4 _ r R h.nodup hr (fun s hs hne => by
  rw [h.off s r hs hr (fun e => hne (h.same hs hr e)), Int.zero_mul]), (h.ld r hr).2, Int.one_mul]
theorem Rr.cmb {n : Nat} {R : List Vc} (h : Rr n R) {f : Nat → Int} (hf : Sp R f) (k : Nat) : Eq7 (f k) (cmb R f k) := by
 induction hf with
 | @zero f h0 =>
  refine (h0 k).trans ?_
  have : Eq7 (YtabofnehiclkiaaGreat.cmb R f k) (R.map fun _ => (0 : Int)).sum := Wl8 _ _ R fun r hr => by
   have := (h0 (fs r)).mul (Eq7.refl (at_ r k)); rwa [Int.zero_mul] at this
  rw [Yg1 _ R fun _ _ => rfl] at this
  exact this.symm
 | @add f g r c hr hf hg ih =>
  have h1 : Eq7 (YtabofnehiclkiaaGreat.cmb R g k) (YtabofnehiclkiaaGreat.cmb R f k + c * YtabofnehiclkiaaGreat.cmb R (at_ r) k) := by
   unfold YtabofnehiclkiaaGreat.cmb
   rw [← Wi5]
   refine Wl8 _ _ R fun s hs => ?_
   have := (hg (fs s)).mul (Eq7.refl (at_ s k))
   rwa [Int.add_mul, Int.mul_assoc] at this
  rw [h.cmb_row hr] at h1
  exact (hg k).trans ((ih.add (Eq7.refl _)).trans h1.symm)
theorem Rr.lead {n : Nat} {R S : List Vc} (hS : Rr n S) (hR : Rr n R) (he : ∀ f, Sp R f → Sp S f) {r : Vc} (hr : r ∈ R) : ∃ s, s ∈ S ∧ fs s = fs r := by
 apply Classical.byContradiction
 intro hn
 have hn : ∀ s, s ∈ S → fs s ≠ fs r := fun s hs e => hn ⟨s, hs, e⟩
 have h1 := hS.cmb (he _ (.row hr)) (fs r)
 have h2 : YtabofnehiclkiaaGreat.cmb S (at_ r) (fs r) = 0 := by
  unfold YtabofnehiclkiaaGreat.cmb
  refine Yg1 _ S fun s hs => ?_
  rcases Nat.lt_or_ge (fs s) (fs r) with h | h
  rw [Ze9 r _ h, Int.zero_mul]
  rw [Ze9 s (fs r) (by have := hn s hs; omega), Int.mul_zero]
 rw [h2, (hR.ld r hr).2] at h1
 exact absurd h1 (by unfold Eq7; decide)
theorem Rr.uniq1 {n : Nat} {R S : List Vc} (hR : Rr n R) (hS : Rr n S) (he : ∀ f, Sp R f ↔ Sp S f) {r : Vc} (hr : r ∈ R) : r ∈ S := by
 obtain ⟨s, hs, e⟩ := hS.lead hR (fun f h => (he f).1 h) hr
 have : r = s := by
  refine (hR.ok r hr).ext (hS.ok s hs) fun k => ?_
  have h1 := hS.cmb ((he _).1 (.row hr)) k
  have h2 : YtabofnehiclkiaaGreat.cmb S (at_ r) k = at_ s k := by
   unfold YtabofnehiclkiaaGreat.cmb
   rw [Xo4 _ s S hS.nodup hs (fun t ht hne => by
    obtain ⟨t', ht', e'⟩ := hR.lead hS (fun f h => (he f).2 h) ht
    rw [← e', hR.off t' r ht' hr (fun e2 => hne (hS.same ht hs (by rw [← e', e2, e]))), Int.zero_mul]), e, (hR.ld r hr).2, Int.one_mul]
  rw [h2] at h1
  have a := (hR.ok r hr).at k
  have b := (hS.ok s hs).at k
  exact h1.eq a.1 a.2 b.1 b.2
 exact this ▸ hs
theorem Xw5 : ∀ {R S : List Vc}, R.Pairwise (fun a b => fs a < fs b) → S.Pairwise (fun a b => fs a < fs b) → (∀ r, r ∈ R ↔ r ∈ S) → R = S
 | [], [], _, _, _ => rfl
 | [], s :: S, _, _, h => by have := (h s).2 (mem_cons_self ..); cases this
 | r :: R, [], _, _, h => by have := (h r).1 (mem_cons_self ..); cases this
 | r :: R, s :: S, hR, hS, h => by
  have hR' := pairwise_cons.1 hR
  have hS' := pairwise_cons.1 hS
  have e : r = s := by
   rcases mem_cons.1 ((h r).1 (mem_cons_self ..)) with e | h1
   exact e
   rcases mem_cons.1 ((h s).2 (mem_cons_self ..)) with e | h2
   exact e.symm
   have := hS'.1 r h1; have := hR'.1 s h2; omega
  subst e
  rw [Xw5 hR'.2 hS'.2 (fun x => ⟨fun hx => ?_, fun hx => ?_⟩)]
  rcases mem_cons.1 ((h x).1 (mem_cons_of_mem _ hx)) with e | h1
  subst e; have := hR'.1 x hx; omega
  exact h1
  rcases mem_cons.1 ((h x).2 (mem_cons_of_mem _ hx)) with e | h1
  subst e; have := hS'.1 x hx; omega
  exact h1
theorem Rr.uniq {n : Nat} {R S : List Vc} (hR : Rr n R) (hS : Rr n S) (he : ∀ f, Sp R f ↔ Sp S f) : R = S :=
 Xw5 hR.srt hS.srt fun r => ⟨fun h => hR.uniq1 hS he h, fun h => hS.uniq1 hR (fun f => (he f).symm) h⟩
theorem Wr9 (d n : Int) (hd : 1 ≤ d) (h0 : 0 ≤ n) : Zt7 d n = Zk5 d n := by
 have hq : 0 ≤ n.tdiv d := Int.tdiv_nonneg h0 (by omega)
 have hm : d.tmod 2 = 0 ∨ d.tmod 2 = 1 := by
  rw [Int.tmod_eq_emod_of_nonneg (by omega)]; omega
 unfold Zt7 Zk5
 generalize n.tdiv d = q at hq
 rcases hm with h | h
 rw [h]; simp
 rw [h]
 simp only [if_true, show ¬ ((1 : Int) = 0) by decide, if_false]
 by_cases h1 : 20 < q
 rw [if_pos h1, if_pos (by decide), if_pos (show (1 : Int) < q by omega), if_neg (by decide)]
 rw [if_neg h1]
 by_cases h2 : 1 < q
 rw [if_pos h2, if_neg (by decide)]
 rw [if_neg h2, if_neg h1]
def itF (ds : List Int) : Nat → A8 → Int → List A8
 | 0, p, left => if left = 0 then [p] else []
 | g + 1, p, left => ((range ((Zk5 (rd ds ((ds.length - (g + 1) : Nat) : Int)) left).toNat + 1)).reverse).flatMap fun (e : Nat) => itF ds g (T3 p ((ds.length - (g + 1) : Nat) : Int) (e : Int)) (left - (e : Int) * rd ds ((ds.length - (g + 1) : Nat) : Int))
def Yu8 (lim : Int) (r out it : List A8) : Prop := r = out ++ it ∨ (lim < (r.length : Int) ∧ lim < ((out ++ it).length : Int))
theorem Xe4 {lim : Int} {f : List A8 → Nat → List A8} {it : Nat → List A8} (hstop : ∀ o e, lim < (o.length : Int) → f o e = o) : ∀ (es : List Nat) (o : List A8), (∀ o e, e ∈ es → Yu8 lim (f o e) o (it e)) → Yu8 lim (es.foldl f o) o (es.flatMap it)
 | [], o, _ => .inl (by simp)
 | e :: es, o, h => by
  rw [foldl_cons, flatMap_cons]
  have keep : ∀ (es : List Nat) (o : List A8), lim < (o.length : Int) → es.foldl f o = o := by
   intro es
   induction es with
   | nil => intro o _; rfl
   | cons e es ih => intro o ho; rw [foldl_cons, hstop o e ho]; exact ih o ho
  rcases h o e (mem_cons_self ..) with h1 | ⟨h1, h2⟩
  rw [h1]
  have := Xe4 hstop es (o ++ it e) (fun o e he => h o e (mem_cons_of_mem _ he))
  unfold Yu8 at this ⊢
  rw [append_assoc] at this
  exact this
  refine .inr ?_
  rw [keep es _ h1]
  refine ⟨h1, ?_⟩
  rw [← append_assoc, length_append]
  omega
theorem We9 (ds : List Int) : ∀ (g : Nat) (p : A8) (left : Int) (out : List A8), Yu8 400 (fsF ds g p left out) out (itF ds g p left)
 | 0, p, left, out => by
  unfold fsF itF
  by_cases h : left = 0
  rw [if_pos h, if_pos h]; exact .inl U
  rw [if_neg h, if_neg h]; exact .inl (by simp)
 | g + 1, p, left, out => by
  rw [fsF, itF]
  refine Xe4 (fun o e ho => if_neg (by omega)) _ _ fun o e he => ?_
  by_cases h : (o.length : Int) ≤ 400
  rw [if_pos h]; exact We9 ds g _ _ o
  rw [if_neg h]
  exact .inr ⟨by omega, by rw [length_append]; omega⟩
theorem Ww1 (ds : List Int) (most : Int) : ∀ (g : Nat) (p : A8) (left : Int) (out : List A8), most < (out.length : Int) → lsF ds most g p left out = out
 | 0, p, left, out, h => by unfold lsF; rw [if_pos h]
 | g + 1, p, left, out, h => by rw [lsF, if_pos h]
theorem We8 (ds : List Int) (most : Int) (hds : ∀ n, n ∈ ds → 1 ≤ n ∧ n ≤ 12) : ∀ (g : Nat), g ≤ ds.length → ∀ (p : A8) (left : Int) (out : List A8), 0 ≤ left ∧ left ≤ 1000 → Yu8 most (lsF ds most g p left out) out (itF ds g p left)
 | 0, _, p, left, out, hl => by
  unfold lsF itF
  by_cases hm : most < (out.length : Int)
  rw [if_pos hm]; exact .inr ⟨hm, by rw [length_append]; omega⟩
  rw [if_neg hm]
  by_cases h : left = 0
  rw [if_pos h, if_pos h]; exact .inl U
  rw [if_neg h, if_neg h]; exact .inl (by simp)
 | g + 1, hg, p, left, out, hl => by
  rw [lsF, itF]
  by_cases hm : most < (out.length : Int)
  rw [if_pos hm]; exact .inr ⟨hm, by rw [length_append]; omega⟩
  rw [if_neg hm]
  have hnd := hds _ (show rd ds ((ds.length - (g + 1) : Nat) : Int) ∈ ds by
   unfold rd
   rw [Int.toNat_natCast, getD_eq_getElem?_getD, getElem?_eq_getElem (show ds.length - (g + 1) < ds.length by omega)]
   exact getElem_mem _)
  rw [Wr9 _ _ hnd.1 hl.1]
  obtain ⟨h0, h1, h2⟩ := Yk6 hnd hl
  refine Xe4 (fun o e ho => Ww1 ds most g _ _ o ho) _ _ fun o e he => We8 ds most hds g (by omega) _ _ o ?_
  have he := mem_range.1 (mem_reverse.1 he)
  have hy : (e : Int) ≤ Zk5 (rd ds ((ds.length - (g + 1) : Nat) : Int)) left := by omega
  have a1 : 0 ≤ (e : Int) * rd ds ((ds.length - (g + 1) : Nat) : Int) := Int.mul_nonneg (by omega) (by omega)
  have a2 := Int.le_trans (Int.mul_le_mul_of_nonneg_right hy (show 0 ≤ rd ds ((ds.length - (g + 1) : Nat) : Int) by omega)) h2
  exact ⟨by omega, by omega⟩
def V6 (ds : List Int) (n : Int) : List A8 := itF ds ds.length (fun _ => 0) n
theorem Xr6 {ds : List Int} {n : Int} : ((fsF ds ds.length (fun _ => 0) n []).length ≤ 120 ↔ (V6 ds n).length ≤ 120) ∧ ((V6 ds n).length ≤ 400 → fsF ds ds.length (fun _ => 0) n [] = V6 ds n) := by
 have h := We9 ds ds.length (fun _ => 0) n []
 unfold Yu8 at h
 rw [nil_append] at h
 unfold V6
 rcases h with h | ⟨h1, h2⟩
 rw [h]; exact ⟨Iff.rfl, fun _ => rfl⟩
 exact ⟨by omega, fun h => by omega⟩
theorem Xr5 {ds : List Int} {n : Int} (hds : ∀ d, d ∈ ds → 1 ≤ d ∧ d ≤ 12) (hn : 0 ≤ n ∧ n ≤ 1000) : ((lsM ds n 120).length ≤ 120 ↔ (V6 ds n).length ≤ 120) ∧ ((V6 ds n).length ≤ 120 → lsM ds n 120 = V6 ds n) := by
 have h := We8 ds 120 hds ds.length (Nat.le_refl _) (fun _ => 0) n [] hn
 unfold Yu8 at h
 rw [nil_append] at h
 unfold V6 lsM
 rw [if_pos hn.1]
 rcases h with h | ⟨h1, h2⟩
 rw [h]; exact ⟨Iff.rfl, fun _ => rfl⟩
 exact ⟨by omega, fun h => by omega⟩
end Go.Proofs.YtabofnehiclkiaaGreat
