/- Plain laws on the pure functions. -/
import Derived.Test.YtabofnehiclkiaaGreatZF30
namespace Go.Proofs.YtabofnehiclkiaaGreat
open Go
set_option linter.unusedSimpArgs false
set_option linter.unusedVariables false
def cf (a : A8) : List (A8 × Int) → Int
 | [] => 0
 | t :: ts => (if t.1 = a then t.2 else 0) + cf a ts
theorem Wj4 {a : A8} : ∀ {xs : List (A8 × Int)}, (∀ q, q ∈ xs → q.1 ≠ a) → cf a xs = 0
 | [], _ => rfl
 | x :: xs, h => by
  rw [cf, if_neg (h x (List.mem_cons_self ..)), Wj4 (fun q hq => h q (List.mem_cons_of_mem _ hq))]; rfl
theorem Xr1 (a : A8) : ∀ {s : MpT}, Srt s → N5 s a = cf a s
 | [], _ => rfl
 | x :: xs, h => by
  have h' := List.pairwise_cons.1 h
  by_cases e : x.1 = a
  rw [Zx6 (x := x.2) h (by rw [← e]; exact List.mem_cons_self ..), cf, if_pos e, Wj4 (fun q hq e' => ?_)]
  omega
  have := h'.1 q hq
  rw [e, e', Zf3] at this; cases this
  rw [cf, if_neg e, ← Xr1 a h'.2, Int.zero_add]
  unfold N5
  rw [List.find?_cons]
  cases hq : eq8 a x.1 with
  | false => rfl
  | true => exact absurd (Ze0.1 hq).symm e
def I4 : List (A8 × Int) → MpT → MpT
 | [], s => s
 | t :: ts, s => I4 ts (Zu9 s t.1 t.2)
theorem Xb5 : ∀ (xs ys : List (A8 × Int)) (s : MpT), I4 (xs ++ ys) s = I4 ys (I4 xs s)
 | [], _, _ => rfl
 | x :: xs, ys, s => Xb5 xs ys _
theorem Zm3 : ∀ (T : List (A8 × Int)) {s : MpT}, nfm s = true → nfm (I4 T s) = true
 | [], _, h => h
 | t :: ts, _, h => Zm3 ts (Zh1 h _ _)
theorem Xp3 (a : A8) : ∀ (T : List (A8 × Int)) {s : MpT}, nfm s = true → N5 (I4 T s) a = (N5 s a + cf a T) % 10007
 | [], s, h => by
  have := Yi1 h a
  simp only [I4, cf]; omega
 | t :: ts, s, h => by
  rw [I4, Xp3 a ts (Zh1 h _ _), Zv4 h, cf]
  by_cases e : a = t.1
  subst e
  simp only [if_true]
  omega
  rw [if_neg e, if_neg (fun h => e h.symm)]; omega
theorem Zx2 : nfm [] = true := rfl
theorem Ws3 (s : MpT) (p : A8) (f : Int) : (Zu9 s p f).length ≤ s.length + 1 := by
 have h1 : (Zw1 s p).length ≤ s.length := List.length_filter_le _ _
 unfold Zu9
 split
 omega
 unfold Zb4
 rw [(Zt1 _ _).length_eq, List.length_cons]; omega
theorem Yj1 : ∀ (T : List (A8 × Int)) (s : MpT), (I4 T s).length ≤ s.length + T.length
 | [], s => by simp [I4]
 | t :: ts, s => by
  have h1 := Yj1 ts (Zu9 s t.1 t.2)
  have h2 := Ws3 s t.1 t.2
  rw [I4, List.length_cons]; omega
def scl (k : Int) (g : List (A8 × Int)) : List (A8 × Int) := g.map fun t => (t.1, k * t.2)
theorem Wl3 (k : Int) (a : A8) : ∀ g, cf a (scl k g) = k * cf a g
 | [] => by simp [scl, cf]
 | t :: g => by
  show (if t.1 = a then k * t.2 else 0) + cf a (scl k g) = k * ((if t.1 = a then t.2 else 0) + cf a g)
  rw [Wl3 k a g, Int.mul_add]
  split <;> simp
/-! two sorted lists, merged -/
def cnz (p : A8) (x : Int) (r : MpT) : MpT := if x = 0 then r else (p, x) :: r
def mrg (k : Int) : MpT → MpT → MpT
 | f, [] => f
 | [], q :: g => cnz q.1 ((k * q.2) % 10007) (mrg k [] g)
 | p :: f, q :: g => if bef p.1 q.1 = true then p :: mrg k f (q :: g) else if bef q.1 p.1 = true then cnz q.1 ((k * q.2) % 10007) (mrg k (p :: f) g) else cnz p.1 ((p.2 + (k * q.2) % 10007) % 10007) (mrg k f g)
termination_by f g => f.length + g.length
theorem Xj6 {p : A8} {x : Int} {r : MpT} {q : A8 × Int} (h : q ∈ cnz p x r) : q.1 = p ∨ q ∈ r := by
 unfold cnz at h
 split at h
 exact .inr h
 rcases List.mem_cons.1 h with rfl | h
 exact .inl rfl
 exact .inr h
theorem Yp2 (k : Int) (f g : MpT) : ∀ q, q ∈ mrg k f g → (∃ p, p ∈ f ∧ p.1 = q.1) ∨ ∃ p, p ∈ g ∧ p.1 = q.1 := by
 fun_induction mrg k f g with
 | case1 f => intro q hq; exact .inl ⟨q, hq, rfl⟩
 | case2 q g ih =>
  intro r hr
  rcases Xj6 hr with h | h
  exact .inr ⟨q, List.mem_cons_self .., h.symm⟩
  rcases ih r h with ⟨p, hp, e⟩ | ⟨p, hp, e⟩
  cases hp
  exact .inr ⟨p, List.mem_cons_of_mem _ hp, e⟩
 | case3 p f q g h ih =>
  intro r hr
  rcases List.mem_cons.1 hr with rfl | hr
  exact .inl ⟨_, List.mem_cons_self .., rfl⟩
  rcases ih r hr with ⟨p, hp, e⟩ | ⟨p, hp, e⟩
  exact .inl ⟨p, List.mem_cons_of_mem _ hp, e⟩
  exact .inr ⟨p, hp, e⟩
 | case4 p f q g h1 h2 ih =>
  intro r hr
  rcases Xj6 hr with h | h
  exact .inr ⟨q, List.mem_cons_self .., h.symm⟩
  rcases ih r h with ⟨p, hp, e⟩ | ⟨p, hp, e⟩
  exact .inl ⟨p, hp, e⟩
  exact .inr ⟨p, List.mem_cons_of_mem _ hp, e⟩
 | case5 p f q g h1 h2 ih =>
  intro r hr
  rcases Xj6 hr with h | h
  exact .inl ⟨p, List.mem_cons_self .., h.symm⟩
  rcases ih r h with ⟨p, hp, e⟩ | ⟨p, hp, e⟩
  exact .inl ⟨p, List.mem_cons_of_mem _ hp, e⟩
  exact .inr ⟨p, List.mem_cons_of_mem _ hp, e⟩
theorem Xk0 {p : A8} {x : Int} {r : MpT} (h : Srt r) (hp : ∀ q, q ∈ r → bef p q.1 = true) : Srt (cnz p x r) := by
 unfold cnz
 split
 exact h
 exact List.pairwise_cons.2 ⟨hp, h⟩
theorem Wz4 (k : Int) (f g : MpT) : Srt f → Srt g → Srt (mrg k f g) := by
 fun_induction mrg k f g with
 | case1 f => intro h _; exact h
 | case2 q g ih =>
  intro h1 h2
  have h2' := List.pairwise_cons.1 h2
  refine Xk0 (ih h1 h2'.2) (fun r hr => ?_)
  rcases Yp2 _ _ _ r hr with ⟨p, hp, e⟩ | ⟨p, hp, e⟩
  cases hp
  rw [← e]; exact h2'.1 p hp
 | case3 p f q g h ih =>
  intro h1 h2
  have h1' := List.pairwise_cons.1 h1
  have h2' := List.pairwise_cons.1 h2
  refine List.pairwise_cons.2 ⟨fun r hr => ?_, ih h1'.2 h2⟩
  rcases Yp2 _ _ _ r hr with ⟨s, hs, e⟩ | ⟨s, hs, e⟩
  rw [← e]; exact h1'.1 s hs
  rw [← e]
  rcases List.mem_cons.1 hs with rfl | hs
  exact h
  exact Zp5 h (h2'.1 s hs)
 | case4 p f q g h3 h ih =>
  intro h1 h2
  have h1' := List.pairwise_cons.1 h1
  have h2' := List.pairwise_cons.1 h2
  refine Xk0 (ih h1 h2'.2) (fun r hr => ?_)
  rcases Yp2 _ _ _ r hr with ⟨s, hs, e⟩ | ⟨s, hs, e⟩
  rw [← e]
  rcases List.mem_cons.1 hs with rfl | hs
  exact h
  exact Zp5 h (h1'.1 s hs)
  rw [← e]; exact h2'.1 s hs
 | case5 p f q g h3 h4 ih =>
  intro h1 h2
  have h1' := List.pairwise_cons.1 h1
  have h2' := List.pairwise_cons.1 h2
  have e0 : p.1 = q.1 := by
   by_cases e : p.1 = q.1
   exact e
   exact absurd (Yg4 e) (by simp [h3, h4])
  refine Xk0 (ih h1'.2 h2'.2) (fun r hr => ?_)
  rcases Yp2 _ _ _ r hr with ⟨s, hs, e⟩ | ⟨s, hs, e⟩
  rw [← e]; exact h1'.1 s hs
  rw [← e, e0]; exact h2'.1 s hs
theorem Xl7 {p : A8} {x : Int} {r : MpT} (hx : 0 ≤ x ∧ x ≤ 10006) (h : ∀ q, q ∈ r → 1 ≤ q.2 ∧ q.2 ≤ 10006) : ∀ q, q ∈ cnz p x r → 1 ≤ q.2 ∧ q.2 ≤ 10006 := by
 unfold cnz
 split
 exact h
 intro q hq
 rcases List.mem_cons.1 hq with rfl | hq
 simp only; omega
 exact h q hq
theorem Wy5 (k : Int) (f g : MpT) : (∀ q, q ∈ f → 1 ≤ q.2 ∧ q.2 ≤ 10006) → ∀ q, q ∈ mrg k f g → 1 ≤ q.2 ∧ q.2 ≤ 10006 := by
 fun_induction mrg k f g with
 | case1 f => exact fun h => h
 | case2 q g ih => exact fun h => Xl7 (by omega) (ih h)
 | case3 p f q g h ih =>
  intro hf r hr
  rcases List.mem_cons.1 hr with rfl | hr
  exact hf _ (List.mem_cons_self ..)
  exact ih (fun q hq => hf q (List.mem_cons_of_mem _ hq)) r hr
 | case4 p f q g h3 h ih => exact fun hf => Xl7 (by omega) (ih hf)
 | case5 p f q g h3 h4 ih => exact fun hf => Xl7 (by omega) (ih (fun q hq => hf q (List.mem_cons_of_mem _ hq)))
theorem Xu7 (a p : A8) (x : Int) (r : MpT) : cf a (cnz p x r) = (if p = a then x else 0) + cf a r := by
 unfold cnz
 split
 rename_i h; subst h; simp
 rfl
theorem Ve3 (k : Int) (a : A8) (f g : MpT) : cf a (mrg k f g) % 10007 = (cf a f + k * cf a g) % 10007 := by
 fun_induction mrg k f g with
 | case1 f => simp [cf]
 | case2 q g ih =>
  rw [Xu7, cf.eq_2 a q g, Int.mul_add]
  generalize k * cf a g = X at ih ⊢
  split <;> omega
 | case3 p f q g h ih =>
  rw [cf, cf]
  omega
 | case4 p f q g h3 h ih =>
  rw [Xu7, cf.eq_2 a q g, Int.mul_add]
  generalize k * cf a g = X at ih ⊢
  split <;> omega
 | case5 p f q g h3 h4 ih =>
  have e0 : p.1 = q.1 := by
   by_cases e : p.1 = q.1
   exact e
   exact absurd (Yg4 e) (by simp [h3, h4])
  rw [Xu7, cf.eq_2 a q g, cf.eq_2 a p f, Int.mul_add, e0]
  generalize k * cf a g = X at ih ⊢
  split <;> omega
theorem Wz7 {k : Int} {f g : MpT} (hf : nfm f = true) (hg : Srt g) : nfm (mrg k f g) = true := Yg3 (Wz4 k f g (F9 hf) hg) (Wy5 k f g (Ye0 hf))
theorem Wc8 {k : Int} {f g : MpT} (hf : nfm f = true) (hg : Srt g) : mrg k f g = I4 (scl k g) f := by
 have h := Wz7 (k := k) hf hg
 refine Wj7 h (Zm3 _ hf) (fun a => ?_)
 rw [Xp3 a _ hf, Wl3, Xr1 a (F9 hf), ← Ve3]
 have := Yi1 h a
 rw [Xr1 a (F9 h)] at this ⊢
 omega
theorem Xd7 {ρ σ : Type} {g : σ} (L : Nat → Int → Option (Ex ρ σ)) (N : Nat) (c : Nat → Bool) (r : ρ)
 (h : ∀ k (n : Nat), L (k + 1) (n : Int) = if (n : Int) < (N : Int) then (if c n = true then L k ((n : Int) + 1) else some (.ret r)) else some (.go g)) :
 ∀ (k n : Nat), n ≤ N → N < n + k → L k (n : Int) = some (if (List.range' n (N - n)).all c = true then .go g else .ret r) := by
 intro k
 induction k with
 | zero => intro n h1 h2; omega
 | succ k ih =>
  intro n h1 h2
  rw [h]
  by_cases hn : n < N
  rw [if_pos (by omega)]
  obtain ⟨m, hm⟩ : ∃ m, N - n = m + 1 := ⟨N - n - 1, by omega⟩
  have e : N - (n + 1) = m := by omega
  rw [hm, List.range'_succ, List.all_cons]
  cases hc : c n with
  | false => simp
  | true =>
   have := ih (n + 1) (by omega) (by omega)
   rw [e] at this
   rw [if_pos rfl, Bool.true_and]; exact this
  rw [if_neg (by omega), show N - n = 0 by omega]; simp
theorem Xm5 {ρ σ : Type} {g : σ} (L : Nat → Int → Option (Ex ρ σ)) (N : Nat) (c : Nat → Bool) (r : ρ)
 (h : ∀ k (n : Nat), L (k + 1) (n : Int) = if (n : Int) < (N : Int) then (if c n = true then L k ((n : Int) + 1) else some (.ret r)) else some (.go g))
 {K : Nat} (hK : N < K) : L K 0 = some (if (List.range N).all c = true then .go g else .ret r) := by
 have := Xd7 L N c r h K 0 (by omega) (by omega)
 rw [List.range_eq_range']
 exact this
theorem Zc7 {ρ σ : Type} {g : σ} (L : Nat → Int → Option (Ex ρ σ)) (N : Nat) (c : Nat → Bool) (r : ρ)
 (h : ∀ k (n : Nat), n < N → L (k + 1) (n : Int) = if c n = true then L k ((n : Int) + 1) else some (.ret r)) (h' : ∀ k (n : Nat), N ≤ n → L (k + 1) (n : Int) = some (.go g))
 {K : Nat} (hK : N < K) : L K 0 = some (if (List.range N).all c = true then .go g else .ret r) := by
 refine Xm5 L N c r (fun k n => ?_) hK
 by_cases hn : n < N
 rw [if_pos (by omega), h k n hn]
 rw [if_neg (by omega), h' k n (by omega)]
theorem Ze2 {α : Type} [Inhabited α] {xs : List α} {n : Nat} (h : n < xs.length) : rd xs (n : Int) = xs[n] := by
 unfold rd
 rw [Int.toNat_natCast, List.getD_eq_getElem?_getD, List.getElem?_eq_getElem h]; rfl
theorem Yu6 {α : Type} [Inhabited α] (xs : List α) (f : α → Bool) : (List.range xs.length).all (fun j => f (rd xs (j : Int))) = xs.all f := by
 rw [Bool.eq_iff_iff, List.all_eq_true, List.all_eq_true]
 constructor
 intro h x hx
 obtain ⟨i, hi, rfl⟩ := List.getElem_of_mem hx
 have := h i (List.mem_range.2 hi)
 rwa [Ze2 hi] at this
 intro h j hj
 have hj := List.mem_range.1 hj
 rw [Ze2 hj]
 exact h _ (List.getElem_mem _)
theorem T9 {α : Type} [Inhabited α] {xs : List α} {n : Nat} (h : n < xs.length) : rd xs (n : Int) ∈ xs := by rw [Ze2 h]; exact List.getElem_mem _
theorem Wg0 (K : Nat) (a b c : Int) : Zm7 K a b c = some (decide (b ≤ a ∧ a ≤ c)) := by
 unfold Zm7; split <;> rename_i h <;> simp [h]
theorem Yv9 (K : Nat) (a b c : Int) : Zj2 K a b c = some (decide (b ≤ a ∧ a ≤ c)) := by
 unfold Zj2; split <;> rename_i h <;> simp [h]
theorem Yg9 (K : Nat) (x : Int) : F5 K x = some (x % 10007) := Xu8 K x
/-! degrees -/
def okD (ds : List Int) : Bool := ds.all (fun d => decide (1 ≤ d ∧ d ≤ 12)) && decide (ds.length ≤ 8)
theorem Vf8 {K : Nat} {ds : List Int} (hK : ds.length < K) : Zj7 K ds = some (okD ds) := by
 unfold Zj7
 rw [Xm5 (g := ()) (fun k i => J8 K ds k i) ds.length (fun j => decide (1 ≤ rd ds (j : Int) ∧ rd ds (j : Int) ≤ 12)) false (fun k n => ?_) hK, Yu6 ds (fun d => decide (1 ≤ d ∧ d ≤ 12))]
 unfold okD
 cases ds.all (fun d => decide (1 ≤ d ∧ d ≤ 12)) with
 | true => simp [Ex.elim]; omega
 | false => rfl
 show J8 K ds (k + 1) n = _
 rw [J8]
 simp only [Wg0, Option.bind_some]
theorem Xt3 {ρ : Type} (L : Nat → Int → Option (Ex ρ Unit)) (N : Nat) (c : Nat → Bool) (r : Int → ρ)
 (h : ∀ k (n : Nat), n < N → L (k + 1) (n : Int) = if c n = true then some (.ret (r n)) else L k ((n : Int) + 1)) (h' : ∀ k (n : Nat), N ≤ n → L (k + 1) (n : Int) = some (.go ())) :
 ∀ (k n : Nat), n ≤ N → N < n + k → (∃ m : Nat, L k (n : Int) = some (.ret (r m)) ∧ (List.range' n (N - n)).any c = true ∧ m < N) ∨ (L k (n : Int) = some (.go ()) ∧ (List.range' n (N - n)).any c = false) := by
 intro k
 induction k with
 | zero => intro n h1 h2; omega
 | succ k ih =>
  intro n h1 h2
  by_cases hn : n < N
  rw [h k n hn]
  obtain ⟨m, hm⟩ : ∃ m, N - n = m + 1 := ⟨N - n - 1, by omega⟩
  have e : N - (n + 1) = m := by omega
  rw [hm, List.range'_succ, List.any_cons]
  cases hc : c n with
  | true => exact .inl ⟨n, by simp, by simp, hn⟩
  | false =>
   have := ih (n + 1) (by omega) (by omega)
   rw [e] at this
   rw [if_neg (by simp), Bool.false_or]; exact this
  rw [h' k n (by omega), show N - n = 0 by omega]; exact .inr ⟨rfl, rfl⟩
theorem Xp4 {α : Type} [Inhabited α] (xs : List α) (f : α → Bool) : (List.range xs.length).any (fun j => f (rd xs (j : Int))) = xs.any f := by
 have h := Yu6 xs (fun x => !f x)
 rw [← Bool.not_inj_iff, List.not_any_eq_all_not, List.not_any_eq_all_not]
 exact h
theorem Xt8 {K : Nat} {xs : List Int} {p : Int → Option Bool} {q : Int → Bool} (hK : xs.length < K) (hp : ∀ x, x ∈ xs → p x = some (q x)) : R8 K xs p = some (xs.any q) := by
 unfold R8 N2
 have := Xt3 (fun k i => W9 K xs p k i) xs.length (fun j => q (rd xs (j : Int))) id (fun k n hn => ?_) (fun k n hn => ?_) K 0 (by omega) (by omega)
 rw [Nat.sub_zero, ← List.range_eq_range', Xp4 xs q] at this
 rcases this with ⟨m, h1, h2, _⟩ | ⟨h1, h2⟩
 replace h1 : W9 K xs p K 0 = _ := h1
 rw [h1, h2]; simp [Ex.elim]
 replace h1 : W9 K xs p K 0 = _ := h1
 rw [h1, h2]; simp [Ex.elim]
 show W9 K xs p (k + 1) n = _
 rw [W9, if_pos (by omega), hp _ (T9 hn)]; rfl
 show W9 K xs p (k + 1) n = _
 rw [W9, if_neg (by omega)]
theorem Vd5 {K : Nat} {ds : List Int} (hK : ds.length < K) : Zk1 K ds = some (okD ds) := by
 unfold Zk1 okD
 by_cases hl : ds.length ≤ 8
 rw [if_pos (by omega), Xt8 (q := fun x => !decide (1 ≤ x ∧ x ≤ 12)) hK (fun x _ => by unfold Zl1; rw [Yv9]; rfl)]
 rw [← List.not_all_eq_any_not]
 simp [hl]
 rw [if_neg (by omega)]; simp [hl]
def Byt (m : A8) : Prop := ∀ i, 0 ≤ m i ∧ m i ≤ 255
theorem T4 (m : A8) {n : Nat} (h : n < 8) : Y4 m (n : Int) = m ⟨n, h⟩ := by simp [Y4, h]
theorem Byt.idx {m : A8} (h : Byt m) (n : Nat) : 0 ≤ Y4 m n ∧ Y4 m n ≤ 255 := by
 by_cases hn : n < 8
 rw [T4 m hn]; exact h _
 simp [Y4, hn]
theorem Yf7 {d : Int} (h : 0 ≤ d) : d.tmod 2 = d % 2 := Int.tmod_eq_emod_of_nonneg h
def Zn6 (ds : List Int) (j : Nat) : Int := if j < ds.length then (if rd ds j % 2 = 1 then 1 else 20) else 0
def okM (ds : List Int) (m : A8) : Bool := (List.range 8).all fun j => decide (Y4 m j ≤ Zn6 ds j)
theorem D9 {ds : List Int} (h : okD ds = true) : ∀ d, d ∈ ds → 1 ≤ d ∧ d ≤ 12 := by
 intro d hd
 unfold okD at h
 rw [Bool.and_eq_true, List.all_eq_true] at h
 simpa using h.1 d hd
theorem J5 {ds : List Int} (h : okD ds = true) : ds.length ≤ 8 := by
 unfold okD at h
 rw [Bool.and_eq_true] at h
 simpa using h.2
theorem Wz2 {K : Nat} {ds : List Int} {m : A8} (hK : 8 < K) (hd : okD ds = true) (hm : Byt m) : Zs2 K ds m = some (okM ds m) := by
 unfold Zs2 okM
 rw [Zc7 (g := ()) (fun k i => P8 K ds m k i) 8 (fun j => decide (Y4 m j ≤ Zn6 ds j)) false (fun k n hn => ?_) (fun k n hn => ?_) hK]
 cases (List.range 8).all fun j => decide (Y4 m j ≤ Zn6 ds j) <;> rfl
 show P8 K ds m (k + 1) n = _
 have hb := hm.idx n
 rw [P8, if_pos (by omega)]
 unfold Zn6
 by_cases hl : n < ds.length
 have hp := D9 hd _ (T9 hl)
 rw [if_neg (by omega), if_pos (show (n : Int) < ds.length by omega), if_pos hl, Yf7 (by omega)]
 by_cases ho : rd ds (n : Int) % 2 = 1
 rw [if_pos ho, if_neg (show ¬ rd ds (n : Int) % 2 = 0 by omega)]
 by_cases h1 : Y4 m n ≤ 1
 rw [if_neg (by omega), if_neg (by omega), if_pos (by simpa using h1)]
 rw [if_neg (show ¬ decide (Y4 m n ≤ 1) = true by simpa using h1), if_pos (show 1 < Y4 m n by omega)]; split <;> rfl
 rw [if_neg ho, if_pos (show rd ds (n : Int) % 2 = 0 by omega)]
 by_cases h1 : Y4 m n ≤ 20
 rw [if_neg (by omega), if_pos (by simpa using h1)]
 rw [if_neg (show ¬ decide (Y4 m n ≤ 20) = true by simpa using h1), if_pos (by omega)]
 rw [if_pos (by omega), if_neg hl]
 by_cases h1 : Y4 m n ≤ 0
 rw [if_pos (by omega), if_pos (by simpa using h1)]
 rw [if_neg (by omega), if_neg (show ¬ decide (Y4 m n ≤ 0) = true by simpa using h1)]
 show P8 K ds m (k + 1) n = _
 rw [P8, if_neg (by omega)]
theorem Wx9 {K : Nat} {ds : List Int} {m : A8} (hK : 8 < K) (hd : okD ds = true) (hm : Byt m) : Zk0 K ds m = some (okM ds m) := by
 unfold Zk0 okM
 rw [Zc7 (g := ()) (fun k i => S7 K ds m k i) 8 (fun j => decide (Y4 m j ≤ Zn6 ds j)) false (fun k n hn => ?_) (fun k n hn => ?_) hK]
 cases (List.range 8).all fun j => decide (Y4 m j ≤ Zn6 ds j) <;> rfl
 show S7 K ds m (k + 1) n = _
 have key : ∀ e : Int, D5 K (S7 K ds m k) m n e = if decide (Y4 m n ≤ e) = true then S7 K ds m k ((n : Int) + 1) else some (.ret false) := by
  intro e
  unfold D5
  by_cases h1 : Y4 m n ≤ e
  rw [if_neg (by omega), if_pos (by simpa using h1)]
  rw [if_neg (show ¬ decide (Y4 m n ≤ e) = true by simpa using h1), if_pos (by omega)]
 rw [S7, if_pos (by omega), key, key, key]
 unfold Zn6
 by_cases hl : n < ds.length
 have hp := D9 hd _ (T9 hl)
 rw [if_pos (show (n : Int) < ds.length by omega), if_pos hl, Yf7 (by omega)]
 by_cases ho : rd ds (n : Int) % 2 = 1
 rw [if_pos ho, if_pos ho]
 rw [if_neg ho, if_neg ho]
 rw [if_neg (show ¬ (n : Int) < ds.length by omega), if_neg hl]
 show S7 K ds m (k + 1) n = _
 rw [S7, if_neg (by omega)]
/-! order -/
theorem Yy2 (a : A8) {n : Nat} (h : n < 8) : (l8 a).drop n = Y4 a n :: (l8 a).drop (n + 1) := by
 match n, h with
 | 0, _ | 1, _ | 2, _ | 3, _ | 4, _ | 5, _ | 6, _ | 7, _ => rfl
theorem Xz9 {K : Nat} (a b : A8) : ∀ (k n : Nat), n ≤ 8 → 8 < n + k → ∃ e, G9 K a b k n = some e ∧ Ex.elim (fun r => some r) (fun _ => some false) e = some (Zg3 ((l8 a).drop n) ((l8 b).drop n)) := by
 intro k
 induction k with
 | zero => intro n h1 h2; omega
 | succ k ih =>
  intro n h1 h2
  rw [G9]
  by_cases hn : n < 8
  rw [if_pos (by omega), Yy2 a hn, Yy2 b hn, Zg3]
  by_cases e : Y4 a n = Y4 b n
  rw [if_pos e, if_pos e]; exact ih (n + 1) (by omega) (by omega)
  rw [if_neg e, if_neg e]; exact ⟨_, rfl, rfl⟩
  have : n = 8 := by omega
  subst this
  exact ⟨_, rfl, rfl⟩
theorem Xd1 {K : Nat} (hK : 8 < K) (a b : A8) : Zd1 K a b = some (bef a b) := by
 obtain ⟨e, h1, h2⟩ := Xz9 (K := K) a b K 0 (by omega) (by omega)
 unfold Zd1
 replace h1 : G9 K a b K 0 = some e := h1
 rw [h1]; exact h2
theorem Xu1 {K : Nat} {a b : A8} (ha : Byt a) (hb : Byt b) : ∀ (k n : Nat), n ≤ 8 → 8 < n + k →
 ∃ e, P6 K a b k n = some e ∧ ∃ r, Ex.elim (fun r => some r) (fun _ => some 0) e = some r ∧ decide (0 ≤ r) = !Zg3 ((l8 a).drop n) ((l8 b).drop n) := by
 intro k
 induction k with
 | zero => intro n h1 h2; omega
 | succ k ih =>
  intro n h1 h2
  rw [P6]
  by_cases hn : n < 8
  rw [if_pos (by omega), Yy2 a hn, Yy2 b hn, Zg3]
  by_cases e : Y4 a n = Y4 b n
  rw [if_pos e, if_pos e]; exact ih (n + 1) (by omega) (by omega)
  rw [if_neg e, if_neg e]
  refine ⟨_, rfl, _, rfl, ?_⟩
  have h3 := ha.idx n
  have h4 := hb.idx n
  rw [IntWalk.i64_in _ (by omega), ← decide_not]
  exact decide_eq_decide.2 (by omega)
  have : n = 8 := by omega
  subst this
  exact ⟨_, rfl, _, rfl, rfl⟩
theorem Wo1 {K : Nat} (hK : 8 < K) {a b : A8} (ha : Byt a) (hb : Byt b) : ∃ r, D0 K a b = some r ∧ decide (0 ≤ r) = !bef a b := by
 obtain ⟨e, h1, r, h2, h3⟩ := Xu1 (K := K) ha hb K 0 (by omega) (by omega)
 unfold D0
 replace h1 : P6 K a b K 0 = some e := h1
 rw [h1]; exact ⟨r, h2, h3⟩
theorem Zf6 (m : A8) {n : Nat} (hn : n < 8) (x : Int) (j : Fin 8) : U8 m n x j = if j.val = n then x else m j := by
 unfold U8
 by_cases h : j.val = n
 rw [if_pos h, if_pos (by omega)]
 rw [if_neg h, if_neg (by omega)]
theorem Xv0 {K : Nat} {m : A8} (hm : Byt m) : ∀ (k n : Nat) (box : A8), n ≤ 8 → 8 < n + k → (∀ j : Fin 8, j.val < n → box j = m j) → C7 K m k n box = some (.go m) := by
 intro k
 induction k with
 | zero => intro n box h1 h2; omega
 | succ k ih =>
  intro n box h1 h2 hb
  rw [C7]
  by_cases hn : n < 8
  rw [if_pos (by omega)]
  refine ih (n + 1) _ (by omega) (by omega) (fun j hj => ?_)
  rw [Zf6 _ hn, T4 m hn]
  by_cases e : j.val = n
  have := hm ⟨n, hn⟩
  rw [if_pos e, IntWalk.i64_in _ (by omega)]
  congr 1; exact Fin.ext e.symm
  rw [if_neg e]; exact hb j (by omega)
  rw [if_neg (by omega)]
  congr 2
  funext j; exact hb j (by omega)
theorem Ym0 {K : Nat} (hK : 8 < K) {m : A8} (hm : Byt m) : Zd4 K m = some m := by
 unfold Zd4
 have := Xv0 (K := K) hm K 0 (fun _ => 0) (by omega) (by omega) (fun j hj => by omega)
 replace this : C7 K m K 0 (fun _ => 0) = _ := this
 rw [this]; rfl
/-! forms -/
def Yd6 (f : MpT) : Prop := ∀ t, t ∈ f → Byt t.1
def okT (ds : List Int) (f : MpT) (j : Nat) : Bool := okM ds (rd f (j : Int)).1 && decide (1 ≤ (rd f (j : Int)).2 ∧ (rd f (j : Int)).2 ≤ 10006) && (decide (j = 0) || bef (rd f ((j : Int) - 1)).1 (rd f (j : Int)).1)
def okF (ds : List Int) (f : MpT) : Bool := (List.range f.length).all (okT ds f) && decide (f.length ≤ 400)
theorem Vh3 {K : Nat} {ds : List Int} {f : MpT} (hK : 8 < K) (hl : f.length < K) (hl2 : f.length ≤ 1099511627776) (hd : okD ds = true) (hf : Yd6 f) : Zv6 K ds f = some (okF ds f) := by
 unfold Zv6 okF
 rw [Zc7 (g := ()) (fun k i => I0 K ds f k i) f.length (okT ds f) false (fun k n hn => ?_) (fun k n hn => ?_) hl]
 cases (List.range f.length).all (okT ds f) with
 | true => simp [Ex.elim]; omega
 | false => rfl
 show I0 K ds f (k + 1) n = _
 rw [I0, if_pos (by omega), Wz2 hK hd (hf _ (T9 hn))]
 unfold okT
 rw [Option.bind_some]
 cases okM ds (rd f (n : Int)).1 with
 | false => rfl
 | true =>
  rw [if_pos rfl, Wg0, Option.bind_some, Bool.true_and]
  cases decide (1 ≤ (rd f (n : Int)).2 ∧ (rd f (n : Int)).2 ≤ 10006) with
  | false => rfl
  | true =>
   rw [if_pos rfl, Bool.true_and, IntWalk.i64_in _ (by omega), Xd1 hK]
   by_cases h0 : n = 0
   subst h0; rfl
   rw [if_pos (by omega), if_pos (by omega), if_pos (by omega), Option.bind_some]
   simp only [h0, decide_false, Bool.false_or]
 show I0 K ds f (k + 1) n = _
 rw [I0, if_neg (by omega)]
theorem Vh8 {K : Nat} {ds : List Int} {f : MpT} (hK : 400 < K) (hd : okD ds = true) (hf : Yd6 f) : Zo0 K ds f = some (okF ds f) := by
 unfold Zo0 okF
 by_cases hl : f.length ≤ 400
 case neg => rw [if_pos (by omega)]; simp [hl]
 rw [if_neg (by omega), Zc7 (g := ()) (fun k i => M5 K ds f k i) f.length (okT ds f) false (fun k n hn => ?_) (fun k n hn => ?_) (by omega)]
 cases (List.range f.length).all (okT ds f) with
 | true => simp [Ex.elim, hl]
 | false => rfl
 show M5 K ds f (k + 1) n = _
 have hb := hf _ (T9 hn)
 rw [M5, if_pos (by omega), Wx9 (by omega) hd hb]
 unfold okT
 rw [Option.bind_some]
 cases okM ds (rd f (n : Int)).1 with
 | false => rfl
 | true =>
  unfold Zv1
  rw [if_pos rfl, Yv9, Option.bind_some, Option.bind_some, Bool.true_and]
  cases decide (1 ≤ (rd f (n : Int)).2 ∧ (rd f (n : Int)).2 ≤ 10006) with
  | false => rfl
  | true =>
   unfold Zm1
   rw [if_neg (by simp), Bool.true_and, IntWalk.i64_in _ (by omega)]
   by_cases h0 : n = 0
   subst h0; rfl
   obtain ⟨m, rfl⟩ : ∃ m, n = m + 1 := ⟨n - 1, by omega⟩
   have e : ((m + 1 : Nat) : Int) - 1 = (m : Int) := by omega
   rw [e]
   have hb' := hf _ (T9 (show m < f.length by omega))
   obtain ⟨r, h1, h2⟩ := Wo1 (K := K) (by omega) hb' hb
   rw [if_pos (by omega), if_pos (by omega), if_pos (by omega), Ym0 (by omega) hb', Ym0 (by omega) hb, Option.bind_some, Option.bind_some, h1, Option.bind_some]
   simp only [Nat.succ_ne_zero, decide_false, Bool.false_or]
   cases hq : bef (rd f (m : Int)).1 (rd f ((m + 1 : Nat) : Int)).1 with
   | true => rw [hq] at h2; rw [if_neg (by simpa using h2)]; rfl
   | false => rw [hq] at h2; rw [if_pos (by simpa using h2)]; rfl
 show M5 K ds f (k + 1) n = _
 rw [M5, if_neg (by omega)]
def wtN (ds : List Int) (m : A8) : Nat → Int
 | 0 => 0
 | n + 1 => wtN ds m n + rd ds (n : Int) * Y4 m (n : Int)
def wt (ds : List Int) (m : A8) : Int := wtN ds m ds.length
theorem Xl0 {ds : List Int} {m : A8} (hd : okD ds = true) (hm : Byt m) {n : Nat} (hn : n < ds.length) : 0 ≤ rd ds (n : Int) * Y4 m n ∧ rd ds (n : Int) * Y4 m n ≤ 3060 := by
 have h1 := D9 hd _ (T9 hn)
 have h2 := hm.idx n
 refine ⟨Int.mul_nonneg (by omega) h2.1, ?_⟩
 calc rd ds (n : Int) * Y4 m n ≤ 12 * Y4 m n := Int.mul_le_mul_of_nonneg_right h1.2 h2.1
  _ ≤ 3060 := by omega
theorem Yh1 {ds : List Int} {m : A8} (hd : okD ds = true) (hm : Byt m) : ∀ n : Nat, n ≤ ds.length → 0 ≤ wtN ds m n ∧ wtN ds m n ≤ 3060 * n
 | 0, _ => by simp [wtN]
 | n + 1, h => by
  have h1 := Yh1 hd hm n (by omega)
  have h2 := Xl0 hd hm (n := n) (by omega)
  rw [wtN]; omega
theorem Xt4 {ds : List Int} {m : A8} (hd : okD ds = true) (hm : Byt m) : 0 ≤ wt ds m ∧ wt ds m ≤ 24480 := by
 have h1 := Yh1 hd hm ds.length (Nat.le_refl _)
 have h2 := J5 hd
 unfold wt; omega
theorem Xy8 {K : Nat} {ds : List Int} {m : A8} (hd : okD ds = true) (hm : Byt m) : ∀ (k n : Nat), n ≤ ds.length → ds.length < n + k → F1 K ds m k (wtN ds m n) n = some (.go (wt ds m)) := by
 have hl := J5 hd
 intro k
 induction k with
 | zero => intro n h1 h2; omega
 | succ k ih =>
  intro n h1 h2
  rw [F1]
  by_cases hn : n < ds.length
  have h3 := Xl0 hd hm hn
  have h4 := Yh1 hd hm n (by omega)
  have h5 := hm.idx n
  rw [if_pos (by omega), if_pos (by omega), IntWalk.i64_in (Y4 m n) (by omega), IntWalk.i64_in (rd ds (n : Int) * Y4 m n) (by omega), IntWalk.i64_in _ (by omega)]
  exact ih (n + 1) (by omega) (by omega)
  rw [if_neg (by omega)]
  have : n = ds.length := by omega
  subst this; rfl
theorem Xc2 {K : Nat} {ds : List Int} {m : A8} (hK : 8 < K) (hd : okD ds = true) (hm : Byt m) : Za1 K ds m = some (wt ds m) := by
 have hl := J5 hd
 have := Xy8 (K := K) hd hm K 0 (by omega) (by omega)
 unfold Za1
 replace this : F1 K ds m K 0 0 = _ := this
 rw [this]; rfl
theorem Xz6 {K : Nat} {ds : List Int} {m : A8} (hd : okD ds = true) (hm : Byt m) : ∀ (k n : Nat), n ≤ ds.length → ds.length < n + k → L0 K m ds k (wtN ds m n) n = some (.go (wt ds m)) := by
 have hl := J5 hd
 intro k
 induction k with
 | zero => intro n h1 h2; omega
 | succ k ih =>
  intro n h1 h2
  rw [L0]
  by_cases hn : n < ds.length
  have h3 := Xl0 hd hm hn
  have h4 := Yh1 hd hm n (by omega)
  rw [if_pos (by omega), if_pos (by omega), IntWalk.i64_in (rd ds (n : Int) * Y4 m n) (by omega), IntWalk.i64_in _ (by omega)]
  exact ih (n + 1) (by omega) (by omega)
  rw [if_neg (by omega)]
  have : n = ds.length := by omega
  subst this; rfl
theorem Wu9 {K : Nat} {ds : List Int} {m : A8} (hK : 8 < K) (hd : okD ds = true) (hm : Byt m) : Zg7 K m ds = some (wt ds m) := by
 have hl := J5 hd
 have := Xz6 (K := K) hd hm K 0 (by omega) (by omega)
 unfold Zg7
 replace this : L0 K m ds K 0 0 = _ := this
 rw [this]; rfl
def okG (ds : List Int) (f : MpT) (n : Int) : Bool := f.all fun t => decide (wt ds t.1 = n)
theorem Xg1 {f : MpT} {c : B9 → Bool} (h : 0 < f.length) : ((List.range' 1 (f.length - 1)).all fun j => c (rd f (j : Int))) = f.tail.all c := by
 obtain ⟨t, f, rfl⟩ : ∃ t f', f = t :: f' := by cases f with | nil => simp at h | cons t f => exact ⟨t, f, rfl⟩
 rw [Bool.eq_iff_iff, List.all_eq_true, List.all_eq_true, List.tail_cons, List.length_cons]
 constructor
 intro h x hx
 obtain ⟨i, hi, rfl⟩ := List.getElem_of_mem hx
 have := h (i + 1) (by rw [List.mem_range'_1]; omega)
 rwa [Ze2 (by simp; exact hi), List.getElem_cons_succ] at this
 intro h j hj
 rw [List.mem_range'_1] at hj
 obtain ⟨i, rfl⟩ : ∃ i, j = i + 1 := ⟨j - 1, by omega⟩
 rw [Ze2 (by simp; omega), List.getElem_cons_succ]
 exact h _ (List.getElem_mem _)
theorem Xv8 {ds : List Int} {f : MpT} {n : Int} (h : 0 < f.length) : okG ds f n = (f.tail.all (fun t => decide (wt ds t.1 = wt ds (rd f 0).1)) && decide (wt ds (rd f 0).1 = n)) := by
 obtain ⟨t, f, rfl⟩ : ∃ t f', f = t :: f' := by cases f with | nil => simp at h | cons t f => exact ⟨t, f, rfl⟩
 have e : rd (t :: f) 0 = t := rfl
 unfold okG
 rw [e, List.tail_cons, List.all_cons]
 by_cases hn : wt ds t.1 = n
 subst hn; simp
 simp [hn]
theorem Wm5 {K : Nat} {ds : List Int} {f : MpT} (hK : 8 < K) (hl : f.length < K) (hd : okD ds = true) (hf : Yd6 f) :
 ∃ r, Zm2 K ds f = some r ∧ ∀ n, (r.2 && (decide (f.length = 0) || decide (r.1 = n))) = okG ds f n := by
 unfold Zm2
 by_cases h0 : f.length = 0
 rw [if_pos (by omega)]
 refine ⟨_, rfl, fun n => ?_⟩
 have : f = [] := List.eq_nil_of_length_eq_zero h0
 subst this; rfl
 have hb0 : Byt (rd f 0).1 := hf _ (T9 (n := 0) (by omega))
 rw [if_neg (by omega), if_pos (by omega), Xc2 hK hd hb0, Option.bind_some]
 have := Xd7 (g := ()) (fun k i => L9 K ds f (wt ds (rd f 0).1) k i) f.length (fun j => decide (wt ds (rd f (j : Int)).1 = wt ds (rd f 0).1)) (0, false) (fun k n => ?_) K 1 (by omega) (by omega)
 replace this : L9 K ds f (wt ds (rd f 0).1) K 1 = _ := this
 refine ⟨if f.tail.all (fun t => decide (wt ds t.1 = wt ds (rd f 0).1)) = true then (wt ds (rd f 0).1, true) else (0, false), ?_, fun n => ?_⟩
 rw [this, Xg1 (c := fun t => decide (wt ds t.1 = wt ds (rd f 0).1)) (by omega)]
 split <;> rfl
 rw [Xv8 (by omega)]
 cases f.tail.all (fun t => decide (wt ds t.1 = wt ds (rd f 0).1)) with
 | true => simp [h0]
 | false => simp
 show L9 K ds f (wt ds (rd f 0).1) (k + 1) n = _
 rw [L9]
 by_cases hn : n < f.length
 rw [if_pos (by omega), if_pos (by omega), Xc2 hK hd (hf _ (T9 hn)), Option.bind_some]
 simp only [decide_eq_true_eq]
 rw [if_neg (by omega), if_neg (by omega)]
theorem Wo5 {K : Nat} {ds : List Int} {f : MpT} {n : Int} (hK : 8 < K) (hl : f.length < K) (hd : okD ds = true) (hf : Yd6 f) (hn : 0 ≤ n) : Zj8 K ds f n = some (okG ds f n) := by
 unfold Zj8 Zv0
 by_cases h0 : f.length = 0
 have : f = [] := List.eq_nil_of_length_eq_zero h0
 subst this
 obtain ⟨k, rfl⟩ : ∃ k, K = k + 1 := ⟨K - 1, by omega⟩
 rw [T8]; rfl
 have step : ∀ (k m : Nat) (out : Int), m < f.length → T8 K ds f (k + 1) out m = if 0 ≤ out ∧ wt ds (rd f (m : Int)).1 ≠ out then some (.ret (0, false)) else T8 K ds f k (wt ds (rd f (m : Int)).1) ((m : Int) + 1) := by
  intro k m out hm
  have hb := hf _ (T9 hm)
  rw [T8, if_pos (by omega), Ym0 hK hb, Option.bind_some, Wu9 hK hd hb, Option.bind_some]
  unfold Zi2
  by_cases h1 : 0 ≤ out
  by_cases h2 : wt ds (rd f (m : Int)).1 = out
  rw [if_pos h1, if_neg (by simp [h2]), if_neg (by simp [h2])]
  rw [if_pos h1, if_pos (by simp [h2]), if_pos ⟨h1, h2⟩]
  rw [if_neg h1, if_neg (by simp), if_neg (by simp [h1])]
 have hw := Xt4 hd (hf _ (T9 (n := 0) (by omega)))
 replace hw : 0 ≤ wt ds (rd f 0).1 ∧ wt ds (rd f 0).1 ≤ 24480 := hw
 obtain ⟨k, rfl⟩ : ∃ k, K = k + 1 := ⟨K - 1, by omega⟩
 have s0 := step k 0 (-1) (by omega)
 rw [if_neg (by simp)] at s0
 replace s0 : T8 (k + 1) ds f (k + 1) (-1) 0 = T8 (k + 1) ds f k (wt ds (rd f 0).1) 1 := s0
 have := Xd7 (g := wt ds (rd f 0).1) (fun k' i => T8 (k + 1) ds f k' (wt ds (rd f 0).1) i) f.length (fun j => decide (wt ds (rd f (j : Int)).1 = wt ds (rd f 0).1)) (0, false) (fun k' m => ?_) k 1 (by omega) (by omega)
 replace this : T8 (k + 1) ds f k (wt ds (rd f 0).1) 1 = _ := this
 rw [s0, this, Xg1 (c := fun t => decide (wt ds t.1 = wt ds (rd f 0).1)) (by omega), Xv8 (by omega)]
 cases f.tail.all (fun t => decide (wt ds t.1 = wt ds (rd f 0).1)) with
 | true =>
  rw [if_pos rfl]
  simp only [Option.bind_some, Ex.elim, if_true, Bool.true_and]
  rw [if_neg (by omega)]
 | false => rfl
 show T8 (k + 1) ds f (k' + 1) (wt ds (rd f 0).1) m = _
 by_cases hm : m < f.length
 rw [step k' m _ hm, if_pos (show (m : Int) < f.length by omega)]
 by_cases h2 : wt ds (rd f (m : Int)).1 = wt ds (rd f 0).1
 rw [if_neg (by simp [h2]), h2]; simp
 rw [if_pos ⟨hw.1, h2⟩, if_neg (by simpa using h2)]
 rw [T8, if_neg (by omega), if_neg (by omega)]
def SmF (g : MpT) : Prop := ∀ t, t ∈ g → -10006 ≤ t.2 ∧ t.2 ≤ 10006
theorem Yl7 {k x : Int} (hk : -10006 ≤ k ∧ k ≤ 10006) (hx : -10006 ≤ x ∧ x ≤ 10006) : -100120036 ≤ k * x ∧ k * x ≤ 100120036 := by
 have h1 : (k * x).natAbs ≤ 10006 * 10006 := by
  rw [Int.natAbs_mul]
  exact Nat.mul_le_mul (by omega) (by omega)
 omega
theorem Zx1 {f : MpT} {i : Nat} (h : i < f.length) : f.drop i = rd f (i : Int) :: f.drop (i + 1) := by rw [Ze2 h]; exact List.drop_eq_getElem_cons h
theorem Wr9 {K : Nat} {f g : MpT} {kk : Int} (hK : 8 < K) (hk : -10006 ≤ kk ∧ kk ≤ 10006) (hf : SmF f) (hg : SmF g) (hfl : f.length ≤ 274877906944) (hgl : g.length ≤ 274877906944) :
 ∀ (k i j : Nat) (out : MpT), i ≤ f.length → j ≤ g.length → (f.length - i) + (g.length - j) < k → out.length ≤ i + j →
  Q0 K f g kk k (i : Int) out (j : Int) = some (.go (out ++ mrg kk (f.drop i) (g.drop j))) := by
 intro k
 induction k with
 | zero => intro i j out h1 h2 h3 h4; omega
 | succ k ih =>
  intro i j out h1 h2 h3 h4
  have w1 : ∀ n : Nat, n ≤ 274877906944 → IntKind.i64.wrap ((n : Int) + 1) = ((n + 1 : Nat) : Int) := fun n hn => by rw [IntWalk.i64_in _ (by omega)]; rfl
  have fF : i < f.length → F3 K (Q0 K f g kk k) f g kk i j out true = some (.go (out ++ (rd f (i : Int) :: mrg kk (f.drop (i + 1)) (g.drop j)))) := by
   intro hi
   unfold F3
   rw [if_pos rfl, if_pos (by omega), if_pos (by omega), if_pos (by simp; omega), w1 i (by omega), ih (i + 1) j _ (by omega) h2 (by omega) (by simp; omega)]
   simp
  have fG : j < g.length → B2 K (Q0 K f g kk k) f g kk i j out true = some (.go (out ++ cnz (rd g (j : Int)).1 ((kk * (rd g (j : Int)).2) % 10007) (mrg kk (f.drop i) (g.drop (j + 1))))) := by
   intro hj
   have hm := Yl7 hk (hg _ (T9 hj))
   unfold B2
   rw [if_pos rfl, if_pos (by omega), if_pos (by omega), Yg9, Option.bind_some, IntWalk.i64_in _ (by omega), w1 j (by omega)]
   unfold cnz
   by_cases h0 : kk * (rd g (j : Int)).2 % 10007 = 0
   rw [if_pos h0, if_pos h0, ih i (j + 1) _ h1 (by omega) (by omega) (by omega)]
   rw [if_neg h0, if_neg h0, if_pos (by simp; omega), ih i (j + 1) _ h1 (by omega) (by omega) (by simp; omega)]
   simp
  have fB : i < f.length → j < g.length → B2 K (Q0 K f g kk k) f g kk i j out false = some (.go (out ++ cnz (rd f (i : Int)).1 (((rd f (i : Int)).2 + (kk * (rd g (j : Int)).2) % 10007) % 10007) (mrg kk (f.drop (i + 1)) (g.drop (j + 1))))) := by
   intro hi hj
   have hm := Yl7 hk (hg _ (T9 hj))
   have hm2 := hf _ (T9 hi)
   unfold B2 Zj5
   rw [if_neg (by simp), if_pos (by omega), if_pos (by omega), if_pos (by omega), if_pos (by omega), Yg9, Option.bind_some, Yg9, Option.bind_some, IntWalk.i64_in (kk * (rd g (j : Int)).2) (by omega), IntWalk.i64_in ((rd f (i : Int)).2 + _) (by omega), w1 j (by omega), w1 i (by omega)]
   unfold cnz
   by_cases h0 : ((rd f (i : Int)).2 + kk * (rd g (j : Int)).2 % 10007) % 10007 = 0
   rw [if_pos h0, if_pos h0, ih (i + 1) (j + 1) _ (by omega) (by omega) (by omega) (by omega)]
   rw [if_neg h0, if_neg h0, if_pos (by simp; omega), ih (i + 1) (j + 1) _ (by omega) (by omega) (by omega) (by simp; omega)]
   simp
  rw [Q0]
  by_cases hi : i < f.length
  rw [if_pos (by omega)]
  unfold Zf7
  rw [if_pos rfl]
  by_cases hj : j < g.length
  rw [if_neg (by omega), if_pos (by omega), if_pos (by omega), if_pos (by omega), if_pos (by omega), Xd1 hK, Option.bind_some, Zx1 hi, Zx1 hj, mrg]
  cases hb : bef (rd f (i : Int)).1 (rd g (j : Int)).1 with
  | true => rw [fF hi, if_pos rfl, Zx1 hj]
  | false =>
   rw [if_neg (by simp)]
   unfold F3
   rw [if_neg (by simp), if_neg (by omega), if_pos (by omega), if_pos (by omega), if_pos (by omega), if_pos (by omega), Xd1 hK, Option.bind_some]
   cases hb2 : bef (rd g (j : Int)).1 (rd f (i : Int)).1 with
   | true => rw [fG hj, if_pos rfl, Zx1 hi]
   | false => rw [fB hi hj, if_neg (by simp)]
  have e : j = g.length := by omega
  rw [if_pos (by omega), fF hi, Zx1 hi]
  subst e
  simp [mrg]
  have e : i = f.length := by omega
  rw [if_neg (by omega)]
  unfold Zf7
  by_cases hj : j < g.length
  rw [if_pos (by simpa using hj), if_neg (by omega), if_neg (by omega)]
  unfold F3
  rw [if_neg (by simp), if_pos (by omega), fG hj, Zx1 hj]
  subst e
  rw [List.drop_length, mrg]
  rw [if_neg (by simpa using hj)]
  have e2 : j = g.length := by omega
  subst e; subst e2
  simp [mrg]
theorem Ww7 {K : Nat} {f g : MpT} {kk : Int} (hK : 8 < K) (hl : f.length + g.length < K) (hk : -10006 ≤ kk ∧ kk ≤ 10006) (hf : SmF f) (hg : SmF g) (hfl : f.length ≤ 274877906944) (hgl : g.length ≤ 274877906944) :
 Zo1 K f g kk = some (mrg kk f g) := by
 have := Wr9 hK hk hf hg hfl hgl K 0 0 [] (by omega) (by omega) (by omega) (by simp)
 unfold Zo1
 replace this : Q0 K f g kk K 0 [] 0 = some (.go (mrg kk f g)) := this
 rw [this]; rfl
theorem Yr7 {s : MpT} {p : A8} {f f' : Int} (h : f % 10007 = f' % 10007) : Zu9 s p f = Zu9 s p f' := by
 unfold Zu9
 rw [show (N5 s p + f) % 10007 = (N5 s p + f') % 10007 by omega]
theorem Zv9 {s : MpT} (h : nfm s = true) : SmF s := fun t ht => by have := Ye0 h t ht; omega
theorem Xu4 (x : Int) : (x.tmod 10007) % 10007 = x % 10007 := by
 rw [Int.tmod_eq_emod]; split <;> omega
theorem Yz9 {K : Nat} {a : Int} (ha : -10006 ≤ a ∧ a ≤ 10006) : ∀ (k : Nat) (t s : MpT), t.length < k → SmF t → nfm s = true → U0 K a k t s = some (.go (I4 (scl a t) s))
 | 0, _, _, h, _, _ => by omega
 | k + 1, [], s, _, _, _ => by rw [U0]; rfl
 | k + 1, z :: t, s, h, ht, hs => by
  have hz := ht z (List.mem_cons_self ..)
  have hm := Yl7 hz ha
  have hb : -10006 ≤ (z.2 * a).tmod 10007 ∧ (z.2 * a).tmod 10007 ≤ 10006 := by rw [Int.tmod_eq_emod]; split <;> omega
  rw [U0, IntWalk.i64_in _ (by omega), Yk0 ⟨hs, by omega, by omega⟩, Option.bind_some, Yz9 ha k t _ (by simpa using h) (fun q hq => ht q (List.mem_cons_of_mem _ hq)) (Zh1 hs _ _)]
  rw [Yr7 (f' := a * z.2) (by rw [Xu4, Int.mul_comm])]
  rfl
theorem Wq5 {K : Nat} {a : Int} {t s : MpT} (ha : -10006 ≤ a ∧ a ≤ 10006) (hl : t.length < K) (ht : SmF t) (hs : nfm s = true) : F4 K s t a = some (I4 (scl a t) s) := by
 unfold F4
 rw [Yz9 ha K t s hl ht hs]; rfl
structure Mo (B : Int) (ds : List Int) (p : A8) : Prop where
 lo : ∀ i, 0 ≤ p i
 hi : ∀ i, p i ≤ B
 odd : ∀ n : Nat, n < ds.length → rd ds (n : Int) % 2 = 1 → Y4 p n ≤ 1
 out : ∀ i : Fin 8, ds.length ≤ i.val → p i = 0
theorem Xj7 {p : A8} {B : Int} (lo : ∀ i, 0 ≤ p i) (hi : ∀ i, p i ≤ B) (h0 : 0 ≤ B) (n : Nat) : 0 ≤ Y4 p n ∧ Y4 p n ≤ B := by
 by_cases hn : n < 8
 rw [T4 p hn]; exact ⟨lo _, hi _⟩
 simp [Y4, hn]; exact h0
def Ye5 (p q : A8) : A8 := fun i => p i + q i
theorem Wd5 (p q : A8) (n : Nat) : Y4 (Ye5 p q) n = Y4 p n + Y4 q n := by
 by_cases hn : n < 8
 rw [T4 _ hn, T4 _ hn, T4 _ hn]; rfl
 simp [Y4, hn]
def od (ds : List Int) (p : A8) : Nat → Nat → Int
 | 0, _ => 0
 | n + 1, j => rd ds (j : Int) % 2 * Y4 p (j : Int) + od ds p n (j + 1)
def tot (ds : List Int) (p q : A8) : Nat → Nat → Option Int
 | 0, _ => some 0
 | n + 1, i => if rd ds (i : Int) % 2 = 0 then tot ds p q n (i + 1) else if 0 < Y4 p i ∧ 0 < Y4 q i then none else (tot ds p q n (i + 1)).map fun t => (if 0 < Y4 q i then od ds p n (i + 1) else 0) + t
def sg (t : Int) : Int := if t % 2 = 1 then -1 else 1
def I5 (ds : List Int) (p q : A8) : A8 × Int :=
 match tot ds p q ds.length 0 with
 | none => ((fun _ => 0), 0)
 | some t => (Ye5 p q, sg t)
theorem Xc0 {ds : List Int} {p : A8} {B : Int} (lo : ∀ i, 0 ≤ p i) (hi : ∀ i, p i ≤ B) (h0 : 0 ≤ B) : ∀ n j : Nat, 0 ≤ od ds p n j ∧ od ds p n j ≤ B * n
 | 0, _ => by simp [od]
 | n + 1, j => by
  have h1 := Xc0 lo hi h0 (ds := ds) n (j + 1)
  have h2 := Xj7 lo hi h0 j
  rw [od, show B * ((n + 1 : Nat) : Int) = B * n + B by rw [Int.natCast_add, Int.mul_add]; simp]
  rcases Int.emod_two_eq (rd ds (j : Int)) with e | e
  rw [e]; omega
  rw [e]; omega
theorem Yu8 {ds : List Int} {p q : A8} {B : Int} (lo : ∀ i, 0 ≤ p i) (hi : ∀ i, p i ≤ B) (h0 : 0 ≤ B) : ∀ (n i : Nat) (t : Int), tot ds p q n i = some t → 0 ≤ t ∧ t ≤ (B * 8) * n ∨ 8 < n
 | 0, i, t, h => by cases h; simp
 | n + 1, i, t, h => by
  rw [tot] at h
  have e : B * 8 * ((n + 1 : Nat) : Int) = B * 8 * n + B * 8 := by rw [Int.natCast_add, Int.mul_add]; simp
  by_cases h8 : 8 < n + 1
  exact .inr h8
  refine .inl ?_
  split at h
  have := Yu8 lo hi h0 n _ t h; omega
  split at h
  cases h
  obtain ⟨u, hu, rfl⟩ := Option.map_eq_some_iff.1 h
  have h1 := Yu8 lo hi h0 n _ u hu
  have h2 := Xc0 lo hi h0 (ds := ds) n (i + 1)
  have h3 : B * (n : Int) ≤ B * 8 := Int.mul_le_mul_of_nonneg_left (by omega) h0
  split <;> omega
section
variable {K : Nat} {ds : List Int} {p q : A8}
theorem Ws5 {B : Int} (hd : okD ds = true) (lo : ∀ i, 0 ≤ p i) (hi : ∀ i, p i ≤ B) (h0 : 0 ≤ B) (hB : B ≤ 1000) : ∀ (k j : Nat) (s : Int), ds.length < j + k → j ≤ ds.length → 0 ≤ s ∧ s ≤ 1000000000 + 1000 * j →
 K7 K p ds k s j = some (.go (s + od ds p (ds.length - j) j)) := by
 have hl := J5 hd
 intro k
 induction k with
 | zero => intro j s h1 h2; omega
 | succ k ih =>
  intro j s h1 h2 hs
  rw [K7]
  by_cases hj : j < ds.length
  have h3 := D9 hd _ (T9 hj)
  have h4 := Xj7 lo hi h0 j
  have h5 : 0 ≤ rd ds (j : Int) % 2 * Y4 p j ∧ rd ds (j : Int) % 2 * Y4 p j ≤ 1000 := by
   rcases Int.emod_two_eq (rd ds (j : Int)) with e | e <;> rw [e] <;> omega
  rw [if_pos (by omega), if_pos (by omega), Yf7 (by omega), IntWalk.i64_in (rd ds (j : Int) % 2 * Y4 p j) (by omega), IntWalk.i64_in _ (by omega)]
  have e := ih (j + 1) (s + rd ds (j : Int) % 2 * Y4 p j) (by omega) (by omega) (by omega)
  obtain ⟨m, hm⟩ : ∃ m, ds.length - j = m + 1 := ⟨ds.length - j - 1, by omega⟩
  have e2 : ds.length - (j + 1) = m := by omega
  rw [e2] at e
  rw [hm, od, ← Int.add_assoc]; exact e
  rw [if_neg (by omega), show ds.length - j = 0 by omega, od, Int.add_zero]
theorem Wt8 {B : Int} (hK : 8 < K) (hd : okD ds = true) (lo : ∀ i, 0 ≤ p i) (hi : ∀ i, p i ≤ B) (h0 : 0 ≤ B) (hB : B ≤ 1000) : ∀ (k i : Nat) (s : Int), ds.length < i + k → i ≤ ds.length → 0 ≤ s ∧ s ≤ 8000 * i →
 T6 K p ds q k i s = some (match tot ds p q (ds.length - i) i with | none => .ret ((fun _ => 0), 0) | some t => .go (s + t)) := by
 have hl := J5 hd
 intro k
 induction k with
 | zero => intro j s h1 h2; omega
 | succ k ih =>
  intro i s h1 h2 hs
  rw [T6]
  by_cases hj : i < ds.length
  have h3 := D9 hd _ (T9 hj)
  obtain ⟨m, hm⟩ : ∃ m, ds.length - i = m + 1 := ⟨ds.length - i - 1, by omega⟩
  have e2 : ds.length - (i + 1) = m := by omega
  rw [if_pos (by omega), Yf7 (by omega), hm, tot]
  by_cases he : rd ds (i : Int) % 2 = 0
  rw [if_pos he, if_pos he]
  have := ih (i + 1) s (by omega) (by omega) (by omega)
  rw [e2] at this; exact this
  rw [if_neg he, if_neg he, if_pos (by omega)]
  have key : F6 K (T6 K p ds q k) p ds q i s false = some (match (tot ds p q m (i + 1)).map fun t => (if 0 < Y4 q i then od ds p m (i + 1) else 0) + t with | none => .ret ((fun _ => 0), 0) | some t => .go (s + t)) := by
   unfold F6
   rw [if_neg (by simp), if_pos (by omega)]
   by_cases hq : 0 < Y4 q i
   have hb := Xc0 lo hi h0 (ds := ds) m (i + 1)
   have hb2 : B * (m : Int) ≤ 1000 * 8 := by
    calc B * (m : Int) ≤ 1000 * m := Int.mul_le_mul_of_nonneg_right hB (by omega)
     _ ≤ 1000 * 8 := by omega
   have h5 := Ws5 (K := K) hd lo hi h0 hB K (i + 1) s (by omega) (by omega) (by omega)
   have h6 := ih (i + 1) (s + od ds p m (i + 1)) (by omega) (by omega) (by omega)
   rw [e2] at h5 h6
   rw [if_pos hq]
   replace h5 : K7 K p ds K s ((i : Int) + 1) = _ := h5
   rw [h5, Option.bind_some]
   show T6 K p ds q k ((i : Int) + 1) (s + od ds p m (i + 1)) = _
   replace h6 : T6 K p ds q k ((i : Int) + 1) (s + od ds p m (i + 1)) = _ := h6
   rw [h6]
   cases tot ds p q m (i + 1) with
   | none => rfl
   | some t => simp only [Option.map_some, hq, if_true, Int.add_assoc]
   have h6 := ih (i + 1) s (by omega) (by omega) (by omega)
   rw [e2] at h6
   rw [if_neg hq]
   replace h6 : T6 K p ds q k ((i : Int) + 1) s = _ := h6
   rw [h6]
   cases tot ds p q m (i + 1) with
   | none => rfl
   | some t => simp only [Option.map_some, hq, if_false, Int.zero_add]
  by_cases hp : 0 < Y4 p i
  rw [if_pos hp]
  by_cases hq : 0 < Y4 q i
  rw [if_pos ⟨hp, hq⟩]
  unfold F6
  rw [if_pos (by simpa using hq)]
  rw [if_neg (fun h => hq h.2), show decide (0 < Y4 q (i : Int)) = false by simpa using hq]; exact key
  rw [if_neg hp, if_neg (fun h => hp h.1)]; exact key
  rw [if_neg (by omega), show ds.length - i = 0 by omega, tot]; simp
theorem Wq4 {B : Int} (lo : ∀ i, 0 ≤ p i) (hi : ∀ i, p i ≤ B) (lo2 : ∀ i, 0 ≤ q i) (hi2 : ∀ i, q i ≤ B) (hB : B ≤ 1000) : ∀ (k n : Nat) (box : A8), n ≤ 8 → 8 < n + k → (∀ j : Fin 8, box j = if j.val < n then p j + q j else p j) →
 M3 K q k n box = some (.go (Ye5 p q)) := by
 intro k
 induction k with
 | zero => intro n box h1 h2; omega
 | succ k ih =>
  intro n box h1 h2 hb
  rw [M3]
  by_cases hn : n < 8
  rw [if_pos (by omega)]
  refine ih (n + 1) _ (by omega) (by omega) (fun j => ?_)
  rw [Zf6 _ hn, T4 _ hn, T4 _ hn]
  by_cases e : j.val = n
  have ej : (⟨n, hn⟩ : Fin 8) = j := Fin.ext e.symm
  rw [if_pos e, if_pos (by omega), ej, hb j, if_neg (by omega)]
  have h3 := lo j; have h4 := hi j; have h5 := lo2 j; have h6 := hi2 j
  exact IntWalk.i64_in _ (by omega)
  rw [if_neg e, hb j]
  by_cases hj : j.val < n
  rw [if_pos hj, if_pos (by omega)]
  rw [if_neg hj, if_neg (by omega)]
  rw [if_neg (by omega)]
  congr 2
  funext j
  rw [hb j, if_pos (by omega)]; rfl
theorem Wx2 {B : Int} (hK : 8 < K) (hd : okD ds = true) (lo : ∀ i, 0 ≤ p i) (hi : ∀ i, p i ≤ B) (lo2 : ∀ i, 0 ≤ q i) (hi2 : ∀ i, q i ≤ B) (h0 : 0 ≤ B) (hB : B ≤ 1000) : E3 K p ds q = some (I5 ds p q) := by
 have hl := J5 hd
 have h1 := Wt8 (K := K) (q := q) hK hd lo hi h0 hB K 0 0 (by omega) (by omega) (by simp)
 unfold E3 I5
 replace h1 : T6 K p ds q K 0 0 = _ := h1
 rw [h1, Option.bind_some, Nat.sub_zero]
 cases ht : tot ds p q ds.length 0 with
 | none => rfl
 | some t =>
  have hb := Yu8 lo hi h0 _ _ _ ht
  have h2 := Wq4 (K := K) lo hi lo2 hi2 hB K 0 p (by omega) (by omega) (fun j => by simp)
  replace h2 : M3 K q K 0 p = _ := h2
  show (M3 K q K 0 p).bind _ = _
  rw [h2, Option.bind_some]
  show (if (0 + t).tmod 2 = 1 then some (Ye5 p q, (-1 : Int)) else some (Ye5 p q, 1)) = _
  rw [Int.zero_add, Yf7 (by omega)]
  unfold sg
  by_cases h : t % 2 = 1 <;> simp [h]
end
theorem Wi8 (a b : Int) : sg (a + b) = sg a * sg b := by
 unfold sg
 rcases Int.emod_two_eq a with h1 | h1 <;> rcases Int.emod_two_eq b with h2 | h2
 rw [if_neg (by omega), if_neg (by omega), if_neg (by omega)]; rfl
 rw [if_pos (by omega), if_neg (by omega), if_pos (by omega)]; rfl
 rw [if_pos (by omega), if_pos (by omega), if_neg (by omega)]; rfl
 rw [if_neg (by omega), if_pos (by omega), if_pos (by omega)]; rfl
theorem Xj1 (a : Int) : sg a = 1 ∨ sg a = -1 := by unfold sg; split <;> simp
section
variable {K : Nat} {ds : List Int} {p q : A8}
theorem Mo.idx {B : Int} (h : Mo B ds p) (n : Nat) : 0 ≤ Y4 p n ∧ (Y4 p n ≤ B ∨ 8 ≤ n) := by
 by_cases hn : n < 8
 rw [T4 p hn]; exact ⟨h.lo _, .inl (h.hi _)⟩
 simp [Y4, hn]; omega
theorem Wm3 {B : Int} (hd : okD ds = true) (hp : Mo B ds p) (i : Int) (h1q : Y4 q i = 1) : ∀ (k j : Nat) (t : Int), ds.length < j + k → j ≤ ds.length →
 R5 K ds p q i k (sg t) j = some (.go (sg (t + od ds p (ds.length - j) j))) := by
 have hl := J5 hd
 intro k
 induction k with
 | zero => intro j s h1 h2; omega
 | succ k ih =>
  intro j t h1 h2
  have w1 : IntKind.i64.wrap ((j : Int) + 1) = ((j + 1 : Nat) : Int) := by rw [IntWalk.i64_in _ (by omega)]; rfl
  rw [R5]
  by_cases hj : j < ds.length
  obtain ⟨m, hm⟩ : ∃ m, ds.length - j = m + 1 := ⟨ds.length - j - 1, by omega⟩
  have e2 : ds.length - (j + 1) = m := by omega
  have h3 := D9 hd _ (T9 hj)
  have h4 := hp.idx j
  rw [if_pos (by omega)]
  unfold D3
  rw [if_pos (by simpa using h1q), if_pos (by omega), if_pos (by omega), Yf7 (by omega), hm, od, ← Int.add_assoc]
  by_cases he : rd ds (j : Int) % 2 = 0
  rw [if_pos he]
  unfold Zb0
  have := ih (j + 1) t (by omega) (by omega)
  rw [e2] at this
  rw [if_neg (by simp), w1, this, he, Int.zero_mul, Int.add_zero]
  have ho : rd ds (j : Int) % 2 = 1 := by omega
  have h5 := hp.odd j hj ho
  rw [if_neg he, if_pos (by omega), ho, Int.one_mul]
  unfold Zb0
  by_cases h6 : Y4 p j = 1
  have := ih (j + 1) (t + 1) (by omega) (by omega)
  rw [e2] at this
  have e3 : IntKind.i64.wrap (0 - sg t) = sg (t + 1) := by
   rw [Wi8]
   rcases Xj1 t with e | e <;> rw [e] <;> rfl
  rw [if_pos (by simpa using h6), e3, w1, this, h6]
  have := ih (j + 1) t (by omega) (by omega)
  rw [e2] at this
  have e0 : Y4 p j = 0 := by omega
  rw [if_neg (by simpa using h6), w1, this, e0, Int.add_zero]
  rw [if_neg (by omega)]
  unfold D3
  rw [if_neg (by simp), show ds.length - j = 0 by omega, od, Int.add_zero]
theorem Wi0 (hd : okD ds = true) (i : Int) (h1q : Y4 q i ≠ 1) {k : Nat} (hk : 0 < k) (j : Nat) (s : Int) : R5 K ds p q i k s j = some (.go s) := by
 obtain ⟨k, rfl⟩ : ∃ m, k = m + 1 := ⟨k - 1, by omega⟩
 rw [R5]
 unfold D3
 split
 rw [if_neg (by simpa using h1q)]
 rw [if_neg (by simp)]
theorem Wf4 {x : Int} (h : 0 ≤ x ∧ x ≤ 255) : IntKind.u8.wrap x = x := by
 show x % 256 = x
 omega
theorem Wi9 {B C : Int} (hK : 8 < K) (hd : okD ds = true) (hp : Mo B ds p) (hq : Mo C ds q) (hBC : B + C ≤ 255) : ∀ (k i : Nat) (t : Int) (box : A8), ds.length < i + k → i ≤ ds.length →
 (∀ j : Fin 8, box j = if j.val < i then p j + q j else 0) →
 Q1 K ds p q k i box (sg t) = some (match tot ds p q (ds.length - i) i with | none => .ret ((fun _ => 0), 0) | some u => .go (sg (t + u), Ye5 p q)) := by
 have hl := J5 hd
 intro k
 induction k with
 | zero => intro j s box h1 h2; omega
 | succ k ih =>
  intro i t box h1 h2 hb
  rw [Q1]
  by_cases hj : i < ds.length
  have h3 := D9 hd _ (T9 hj)
  obtain ⟨m, hm⟩ : ∃ m, ds.length - i = m + 1 := ⟨ds.length - i - 1, by omega⟩
  have e2 : ds.length - (i + 1) = m := by omega
  have hi8 : i < 8 := by omega
  have h4 := hp.idx i
  have h5 := hq.idx i
  have hw : IntKind.u8.wrap (Y4 p i + Y4 q i) = Y4 p i + Y4 q i := Wf4 (by omega)
  have hbox : ∀ j : Fin 8, U8 box i (Y4 p i + Y4 q i) j = if j.val < i + 1 then p j + q j else 0 := by
   intro j
   rw [Zf6 _ hi8, T4 _ hi8, T4 _ hi8]
   by_cases e : j.val = i
   have ej : (⟨i, hi8⟩ : Fin 8) = j := Fin.ext e.symm
   rw [if_pos e, if_pos (by omega), ej]
   rw [if_neg e, hb j]
   by_cases hj : j.val < i
   rw [if_pos hj, if_pos (by omega)]
   rw [if_neg hj, if_neg (by omega)]
  rw [if_pos (by omega), if_pos (by omega), Yf7 (by omega), hm, tot, hw]
  by_cases he : rd ds (i : Int) % 2 = 0
  rw [if_pos he, if_pos he]
  have := ih (i + 1) t _ (by omega) (by omega) hbox
  rw [e2] at this; exact this
  have ho : rd ds (i : Int) % 2 = 1 := by omega
  have h6 := hp.odd i hj ho
  have h7 := hq.odd i hj ho
  rw [if_neg he, if_neg he]
  have eb : Y4 (U8 box i (Y4 p i + Y4 q i)) i = Y4 p i + Y4 q i := by rw [T4 _ hi8, Zf6 _ hi8, if_pos rfl]
  rw [eb]
  by_cases hz : 0 < Y4 p i ∧ 0 < Y4 q i
  rw [if_pos (by omega), if_pos hz]
  rw [if_neg (by omega), if_neg hz]
  by_cases h1q : Y4 q i = 1
  have h8 := Wm3 (K := K) hd hp (i : Int) h1q K (i + 1) t (by omega) (by omega)
  rw [e2] at h8
  replace h8 : R5 K ds p q i K (sg t) ((i : Int) + 1) = _ := h8
  rw [h8, Option.bind_some]
  have := ih (i + 1) (t + od ds p m (i + 1)) _ (by omega) (by omega) hbox
  rw [e2] at this
  show Q1 K ds p q k ((i : Int) + 1) _ (sg (t + od ds p m (i + 1))) = _
  replace this : Q1 K ds p q k ((i : Int) + 1) _ (sg (t + od ds p m (i + 1))) = _ := this
  rw [this]
  cases tot ds p q m (i + 1) with
  | none => rfl
  | some u => simp only [Option.map_some, show 0 < Y4 q (i : Int) by omega, if_true, Int.add_assoc]
  have h8 := Wi0 (K := K) (p := p) hd (i : Int) h1q (k := K) (by omega) (i + 1) (sg t)
  replace h8 : R5 K ds p q i K (sg t) ((i : Int) + 1) = _ := h8
  rw [h8, Option.bind_some]
  have := ih (i + 1) t _ (by omega) (by omega) hbox
  rw [e2] at this
  show Q1 K ds p q k ((i : Int) + 1) _ (sg t) = _
  replace this : Q1 K ds p q k ((i : Int) + 1) _ (sg t) = _ := this
  rw [this]
  cases tot ds p q m (i + 1) with
  | none => rfl
  | some u => simp only [Option.map_some, show ¬ 0 < Y4 q (i : Int) by omega, if_false, Int.zero_add]
  rw [if_neg (by omega), show ds.length - i = 0 by omega, tot]
  show some (Ex.go (sg t, box)) = some (Ex.go (sg (t + 0), Ye5 p q))
  rw [Int.add_zero]
  congr 3
  funext j
  rw [hb j]
  by_cases hj : j.val < i
  rw [if_pos hj]; rfl
  rw [if_neg hj]
  show (0 : Int) = p j + q j
  rw [hp.out j (by omega), hq.out j (by omega)]; rfl
theorem Wt2 {B C : Int} (hK : 8 < K) (hd : okD ds = true) (hp : Mo B ds p) (hq : Mo C ds q) (hBC : B + C ≤ 255) : Zm8 K ds p q = some (I5 ds p q) := by
 have hl := J5 hd
 have h1 := Wi9 (K := K) hK hd hp hq hBC K 0 0 (fun _ => 0) (by omega) (by omega) (fun j => by simp)
 unfold Zm8 I5
 replace h1 : Q1 K ds p q K 0 (fun _ => 0) 1 = _ := h1
 rw [h1, Option.bind_some, Nat.sub_zero]
 cases tot ds p q ds.length 0 with
 | none => rfl
 | some u =>
  show some (Ye5 p q, sg (0 + u)) = some (Ye5 p q, sg u)
  rw [Int.zero_add]
theorem Yy3 (h : (I5 ds p q).2 ≠ 0) : (I5 ds p q).1 = Ye5 p q ∧ ∃ t, tot ds p q ds.length 0 = some t := by
 unfold I5 at h ⊢
 cases hq : tot ds p q ds.length 0 with
 | none => rw [hq] at h; exact absurd rfl h
 | some t => exact ⟨rfl, t, rfl⟩
theorem Xp2 : (I5 ds p q).2 = 0 ∨ (I5 ds p q).2 = 1 ∨ (I5 ds p q).2 = -1 := by
 unfold I5
 cases tot ds p q ds.length 0 with
 | none => exact .inl rfl
 | some t => exact .inr (Xj1 t)
theorem Xk9 : ∀ (n i : Nat) (t : Int), tot ds p q n i = some t → ∀ j, i ≤ j → j < i + n → rd ds (j : Int) % 2 = 1 → ¬ (0 < Y4 p j ∧ 0 < Y4 q j)
 | 0, i, t, _, j, h1, h2, _ => by omega
 | n + 1, i, t, h, j, h1, h2, ho => by
  rw [tot] at h
  by_cases e : i = j
  subst e
  rw [if_neg (by omega)] at h
  split at h
  cases h
  rename_i hn; exact hn
  split at h
  exact Xk9 n (i + 1) t h j (by omega) (by omega) ho
  split at h
  cases h
  obtain ⟨u, hu, _⟩ := Option.map_eq_some_iff.1 h
  exact Xk9 n (i + 1) u hu j (by omega) (by omega) ho
theorem Mo.mul {B C : Int} (hp : Mo B ds p) (hq : Mo C ds q) (h : (I5 ds p q).2 ≠ 0) : Mo (B + C) ds (I5 ds p q).1 := by
 obtain ⟨e, t, ht⟩ := Yy3 h
 rw [e]
 refine ⟨fun i => Int.add_nonneg (hp.lo i) (hq.lo i), fun i => Int.add_le_add (hp.hi i) (hq.hi i), fun n hn ho => ?_, fun i hi => ?_⟩
 rw [Wd5]
 have h1 := hp.odd n hn ho
 have h2 := hq.odd n hn ho
 have h3 := Xk9 _ _ _ ht n (by omega) (by omega) ho
 omega
 show p i + q i = 0
 rw [hp.out i hi, hq.out i hi]; rfl
end
def Zv3 (ds : List Int) (z : B9) (t : MpT) : MpT := t.filterMap fun q => if (I5 ds z.1 q.1).2 = 0 then none else some ((I5 ds z.1 q.1).1, (I5 ds z.1 q.1).2 * z.2 * q.2)
def Zm0 (ds : List Int) (s t : MpT) : MpT := s.flatMap fun z => Zv3 ds z t
def MoL (B : Int) (ds : List Int) (s : MpT) : Prop := ∀ t, t ∈ s → Mo B ds t.1
theorem Xb2 {a x y : Int} (ha : a = 0 ∨ a = 1 ∨ a = -1) (hx : -10006 ≤ x ∧ x ≤ 10006) (hy : -10006 ≤ y ∧ y ≤ 10006) : (-10006 ≤ a * x ∧ a * x ≤ 10006) ∧ -100120036 ≤ a * x * y ∧ a * x * y ≤ 100120036 := by
 have h : -10006 ≤ a * x ∧ a * x ≤ 10006 := by rcases ha with rfl | rfl | rfl <;> omega
 exact ⟨h, Yl7 h hy⟩
section
variable {K : Nat} {ds : List Int}
theorem Xo6 {B C : Int} {z : B9} (hK : 8 < K) (hd : okD ds = true) (hz : Mo B ds z.1) (hz2 : -10006 ≤ z.2 ∧ z.2 ≤ 10006) (h0 : 0 ≤ B) (h0' : 0 ≤ C) (hBC : B + C ≤ 255) :
 ∀ (k : Nat) (t s : MpT), t.length < k → MoL C ds t → SmF t → nfm s = true → V7 K ds z k t s = some (.go (I4 (Zv3 ds z t) s))
 | 0, _, _, h, _, _, _ => by omega
 | k + 1, [], s, _, _, _, _ => by rw [V7]; rfl
 | k + 1, q :: t, s, h, ht, hf, hs => by
  have hq := ht q (List.mem_cons_self ..)
  have hq2 := hf q (List.mem_cons_self ..)
  have hm := Xb2 (Xp2 (ds := ds) (p := z.1) (q := q.1)) hz2 hq2
  have ih := fun s' (hs' : nfm s' = true) => Xo6 (s := s') hK hd hz hz2 h0 h0' hBC k t (by simpa using h) (fun q hq => ht q (List.mem_cons_of_mem _ hq)) (fun q hq => hf q (List.mem_cons_of_mem _ hq)) hs'
  rw [V7, Wx2 (B := B + C) hK hd hz.lo (fun i => by have := hz.hi i; omega) hq.lo (fun i => by have := hq.hi i; omega) (by omega) (by omega), Option.bind_some]
  unfold Zv3
  rw [List.filterMap_cons]
  by_cases e : (I5 ds z.1 q.1).2 = 0
  rw [if_pos e, if_pos e, ih s hs]; rfl
  have hb : -10006 ≤ ((I5 ds z.1 q.1).2 * z.2 * q.2).tmod 10007 ∧ ((I5 ds z.1 q.1).2 * z.2 * q.2).tmod 10007 ≤ 10006 := by rw [Int.tmod_eq_emod]; split <;> omega
  rw [if_neg e, if_neg e, IntWalk.i64_in ((I5 ds z.1 q.1).2 * z.2) (by omega), IntWalk.i64_in _ (by omega), Yk0 ⟨hs, by omega, by omega⟩, Option.bind_some, ih _ (Zh1 hs _ _)]
  rw [Yr7 (Xu4 _)]; rfl
theorem Xo8 {B C : Int} {t : MpT} (hK : 8 < K) (hd : okD ds = true) (h0 : 0 ≤ B) (h0' : 0 ≤ C) (hBC : B + C ≤ 255) (ht : MoL C ds t) (hf : SmF t) (hl : t.length < K) :
 ∀ (k : Nat) (s acc : MpT), s.length < k → MoL B ds s → SmF s → nfm acc = true → S6 K ds t k s acc = some (.go (I4 (Zm0 ds s t) acc))
 | 0, _, _, h, _, _, _ => by omega
 | k + 1, [], s, _, _, _, _ => by rw [S6]; rfl
 | k + 1, z :: s, acc, h, hs, hsf, ha => by
  rw [S6, Xo6 hK hd (hs z (List.mem_cons_self ..)) (hsf z (List.mem_cons_self ..)) h0 h0' hBC K t acc hl ht hf ha, Option.bind_some]
  show S6 K ds t k s (I4 (Zv3 ds z t) acc) = _
  rw [Xo8 hK hd h0 h0' hBC ht hf hl k s _ (by simpa using h) (fun q hq => hs q (List.mem_cons_of_mem _ hq)) (fun q hq => hsf q (List.mem_cons_of_mem _ hq)) (Zm3 _ ha), ← Xb5]
  rfl
theorem Xs2 {B C : Int} {s t : MpT} (hK : 8 < K) (hd : okD ds = true) (h0 : 0 ≤ B) (h0' : 0 ≤ C) (hBC : B + C ≤ 255) (hs : MoL B ds s) (hsf : SmF s) (ht : MoL C ds t) (hf : SmF t) (hsl : s.length < K) (hl : t.length < K) :
 D4 K s ds t = some (I4 (Zm0 ds s t) []) := by
 unfold D4
 rw [Xo8 hK hd h0 h0' hBC ht hf hl K s [] hsl hs hsf Zx2]; rfl
/-! the other side -/
def shf (ds : List Int) (z : B9) (g : MpT) : MpT := g.filterMap fun q => if (I5 ds z.1 q.1).2 = 0 then none else some ((I5 ds z.1 q.1).1, ((I5 ds z.1 q.1).2 * z.2 * q.2) % 10007)
theorem We4 {B C : Int} {z : B9} {g : MpT} (hK : 8 < K) (hd : okD ds = true) (hz : Mo B ds z.1) (hz2 : -10006 ≤ z.2 ∧ z.2 ≤ 10006) (hBC : B + C ≤ 255) (hg : MoL C ds g) (hf : SmF g) (hl : g.length ≤ 1099511627776) :
 ∀ (k i : Nat) (out : MpT), g.length < i + k → i ≤ g.length → out.length ≤ i → I2 K ds z g k i out = some (.go (out ++ shf ds z (g.drop i))) := by
 intro k
 induction k with
 | zero => intro i out h1 h2; omega
 | succ k ih =>
  intro i out h1 h2 h3
  rw [I2]
  by_cases hi : i < g.length
  have hq := hg _ (T9 hi)
  have hm := Xb2 (Xp2 (ds := ds) (p := z.1) (q := (rd g (i : Int)).1)) hz2 (hf _ (T9 hi))
  rw [if_pos (by omega), Wt2 hK hd hz hq hBC, Option.bind_some, Zx1 hi]
  unfold shf
  rw [List.filterMap_cons]
  by_cases e : (I5 ds z.1 (rd g (i : Int)).1).2 = 0
  have := ih (i + 1) out (by omega) (by omega) (by omega)
  rw [if_pos e, if_pos e]
  exact this
  have := ih (i + 1) (out ++ [((I5 ds z.1 (rd g (i : Int)).1).1, ((I5 ds z.1 (rd g (i : Int)).1).2 * z.2 * (rd g (i : Int)).2) % 10007)]) (by omega) (by omega) (by simp; omega)
  rw [if_neg e, if_neg e, IntWalk.i64_in ((I5 ds z.1 (rd g (i : Int)).1).2 * z.2) (by omega), IntWalk.i64_in _ (by omega), Yg9, Option.bind_some, if_pos (by simp; omega)]
  refine Eq.trans this ?_
  rw [List.append_assoc]; rfl
  rw [if_neg (by omega), List.drop_eq_nil_of_le (by omega)]
  show _ = some (Ex.go (out ++ []))
  rw [List.append_nil]
theorem Wy8 {B C : Int} {z : B9} {g : MpT} (hK : 8 < K) (hd : okD ds = true) (hz : Mo B ds z.1) (hz2 : -10006 ≤ z.2 ∧ z.2 ≤ 10006) (hBC : B + C ≤ 255) (hg : MoL C ds g) (hf : SmF g) (hl : g.length ≤ 1099511627776) (hlK : g.length < K) :
 Zo3 K ds z g = some (shf ds z g) := by
 have := We4 (K := K) hK hd hz hz2 hBC hg hf hl K 0 [] (by omega) (by omega) (by simp)
 unfold Zo3
 replace this : I2 K ds z g K 0 [] = some (.go (shf ds z g)) := this
 rw [this]; rfl
theorem Xw5 : ∀ (p q r : List Int), p.length = q.length → q.length = r.length → Zg3 (List.zipWith (· + ·) p q) (List.zipWith (· + ·) p r) = Zg3 q r
 | [], [], [], _, _ => rfl
 | a :: p, b :: q, c :: r, h1, h2 => by
  simp only [List.zipWith_cons_cons, Zg3]
  rw [Xw5 p q r (by simpa using h1) (by simpa using h2)]
  by_cases e : b = c
  rw [if_pos e, if_pos (by omega)]
  rw [if_neg e, if_neg (by omega)]
  exact decide_eq_decide.2 (by omega)
theorem Wx4 (p q r : A8) : bef (Ye5 p q) (Ye5 p r) = bef q r := Xw5 (l8 p) (l8 q) (l8 r) rfl rfl
theorem Xv7 {z : B9} {g : MpT} : ∀ r, r ∈ shf ds z g → ∃ q, q ∈ g ∧ (I5 ds z.1 q.1).2 ≠ 0 ∧ r = ((I5 ds z.1 q.1).1, ((I5 ds z.1 q.1).2 * z.2 * q.2) % 10007) := by
 intro r hr
 obtain ⟨q, hq, h⟩ := List.mem_filterMap.1 hr
 by_cases e : (I5 ds z.1 q.1).2 = 0
 rw [if_pos e] at h; cases h
 rw [if_neg e] at h; cases h; exact ⟨q, hq, e, rfl⟩
theorem Xk7 {z : B9} : ∀ {g : MpT}, Srt g → Srt (shf ds z g)
 | [], _ => List.Pairwise.nil
 | q :: g, h => by
  have h' := List.pairwise_cons.1 h
  unfold shf
  rw [List.filterMap_cons]
  by_cases e : (I5 ds z.1 q.1).2 = 0
  rw [if_pos e]; exact Xk7 h'.2
  rw [if_neg e]
  refine List.pairwise_cons.2 ⟨fun r hr => ?_, Xk7 h'.2⟩
  obtain ⟨u, hu, hn, rfl⟩ := Xv7 r hr
  show bef (I5 ds z.1 q.1).1 (I5 ds z.1 u.1).1 = true
  rw [(Yy3 e).1, (Yy3 hn).1, Wx4]
  exact h'.1 u hu
theorem Wn3 {z : B9} {g : MpT} : SmF (shf ds z g) := by
 intro r hr
 obtain ⟨q, _, _, rfl⟩ := Xv7 r hr
 show -10006 ≤ _ % 10007 ∧ _ % 10007 ≤ (10006 : Int)
 omega
theorem Vb9 (z : B9) (g : MpT) : (shf ds z g).length ≤ g.length := List.length_filterMap_le _ _
theorem Xo4 (z : B9) (g : MpT) : (Zv3 ds z g).length ≤ g.length := List.length_filterMap_le _ _
theorem Xk2 {z : B9} : ∀ (g s : MpT), I4 (scl 1 (shf ds z g)) s = I4 (Zv3 ds z g) s
 | [], s => rfl
 | q :: g, s => by
  unfold shf Zv3
  rw [List.filterMap_cons, List.filterMap_cons]
  by_cases e : (I5 ds z.1 q.1).2 = 0
  rw [if_pos e, if_pos e]; exact Xk2 g s
  rw [if_neg e, if_neg e]
  show I4 (scl 1 (shf ds z g)) (Zu9 s _ (1 * _)) = I4 (Zv3 ds z g) (Zu9 s _ _)
  rw [Xk2 g, Yr7 (f' := (I5 ds z.1 q.1).2 * z.2 * q.2) (by rw [Int.one_mul, Int.emod_emod])]
theorem Wg2 {B C : Int} {f g : MpT} (hK : 1073741824 ≤ K) (hd : okD ds = true) (h0 : 0 ≤ B) (hBC : B + C ≤ 255) (hf : MoL B ds f) (hff : SmF f) (hg : MoL C ds g) (hgf : SmF g) (hgs : Srt g) (hgl : g.length ≤ 1000000) :
 ∀ (k i : Nat) (acc : MpT), f.length < i + k → i ≤ f.length → nfm acc = true → acc.length + (f.length - i) * g.length ≤ 100000000 →
  E6 K ds f g k i acc = some (.go (I4 (Zm0 ds (f.drop i) g) acc)) := by
 intro k
 induction k with
 | zero => intro i acc h1 h2; omega
 | succ k ih =>
  intro i acc h1 h2 ha hb
  rw [E6]
  by_cases hi : i < f.length
  have hz := hf _ (T9 hi)
  have hz2 := hff _ (T9 hi)
  have hsl : (shf ds ((rd f (i : Int)).1, (rd f (i : Int)).2) g).length ≤ g.length := Vb9 _ g
  have hml := Yj1 (Zv3 ds (rd f (i : Int)) g) acc
  have hml2 := Xo4 (ds := ds) (rd f (i : Int)) g
  have hmul : (f.length - i) * g.length = (f.length - (i + 1)) * g.length + g.length := by
   rw [show f.length - i = (f.length - (i + 1)) + 1 by omega, Nat.add_mul, Nat.one_mul]
  rw [if_pos (by omega), Wy8 (z := ((rd f (i : Int)).1, (rd f (i : Int)).2)) (by omega) hd hz hz2 hBC hg hgf (by omega) (by omega), Option.bind_some,
   Ww7 (by omega) (by omega) (by omega) (Zv9 ha) Wn3 (by omega) (by omega), Option.bind_some, Wc8 ha (Xk7 hgs), Xk2]
  have := ih (i + 1) (I4 (Zv3 ds (rd f (i : Int)) g) acc) (by omega) (by omega) (Zm3 _ ha) (by omega)
  refine Eq.trans this ?_
  rw [Zx1 hi]
  show _ = some (Ex.go (I4 (Zv3 ds (rd f (i : Int)) g ++ Zm0 ds (f.drop (i + 1)) g) acc))
  rw [Xb5]
  rw [if_neg (by omega), List.drop_eq_nil_of_le (by omega)]; rfl
theorem Xt1 {B C : Int} {f g : MpT} (hK : 1073741824 ≤ K) (hd : okD ds = true) (h0 : 0 ≤ B) (hBC : B + C ≤ 255) (hf : MoL B ds f) (hff : SmF f) (hg : MoL C ds g) (hgf : SmF g) (hgs : Srt g) (hgl : g.length ≤ 1000000)
 (hfl : f.length < K) (hb : f.length * g.length ≤ 100000000) : Zi5 K ds f g = some (I4 (Zm0 ds f g) []) := by
 have := Wg2 (K := K) hK hd h0 hBC hf hff hg hgf hgs hgl K 0 [] (by omega) (by omega) Zx2 (by simpa using hb)
 unfold Zi5
 replace this : E6 K ds f g K 0 [] = some (.go (I4 (Zm0 ds f g) [])) := this
 rw [this]; rfl
theorem Xf8 {z : B9} {g : MpT} : ∀ r, r ∈ Zv3 ds z g → ∃ q, q ∈ g ∧ (I5 ds z.1 q.1).2 ≠ 0 ∧ r.1 = (I5 ds z.1 q.1).1 := by
 intro r hr
 obtain ⟨q, hq, h⟩ := List.mem_filterMap.1 hr
 by_cases e : (I5 ds z.1 q.1).2 = 0
 rw [if_pos e] at h; cases h
 rw [if_neg e] at h; cases h; exact ⟨q, hq, e, rfl⟩
theorem Vc3 {B C : Int} {f g : MpT} (hf : MoL B ds f) (hg : MoL C ds g) : MoL (B + C) ds (Zm0 ds f g) := by
 intro r hr
 obtain ⟨z, hz, hr⟩ := List.mem_flatMap.1 hr
 obtain ⟨q, hq, hn, e⟩ := Xf8 r hr
 rw [e]
 exact (hf z hz).mul (hg q hq) hn
theorem Xq7 (f g : MpT) : (Zm0 ds f g).length ≤ f.length * g.length := by
 induction f with
 | nil => simp [Zm0]
 | cons z f ih =>
  show (Zv3 ds z g ++ Zm0 ds f g).length ≤ _
  have := Xo4 (ds := ds) z g
  rw [List.length_append, List.length_cons, Nat.add_mul, Nat.one_mul]; omega
theorem Ws0 {s : MpT} {p : A8} {f : Int} {q : B9} (h : q ∈ Zu9 s p f) : q.1 = p ∨ q ∈ s := by
 unfold Zu9 at h
 split at h
 exact .inr (Yd1.1 h).1
 rcases Ya6.1 h with rfl | h
 exact .inl rfl
 exact .inr h.1
theorem Yl4 : ∀ {T s : MpT} {q : B9}, q ∈ I4 T s → (∃ t, t ∈ T ∧ t.1 = q.1) ∨ ∃ t, t ∈ s ∧ t.1 = q.1
 | [], s, q, h => .inr ⟨q, h, rfl⟩
 | t :: T, s, q, h => by
  rcases Yl4 (T := T) h with ⟨u, hu, e⟩ | ⟨u, hu, e⟩
  exact .inl ⟨u, List.mem_cons_of_mem _ hu, e⟩
  rcases Ws0 hu with h | h
  exact .inl ⟨t, List.mem_cons_self .., h.symm.trans e⟩
  exact .inr ⟨u, h, e⟩
theorem Va5 {B : Int} {T : MpT} (hT : MoL B ds T) : MoL B ds (I4 T []) := by
 intro q hq
 rcases Yl4 hq with ⟨t, ht, e⟩ | ⟨t, ht, e⟩
 rw [← e]; exact hT t ht
 cases ht
end
/-! a form that is valid -/
structure VF (ds : List Int) (f : MpT) : Prop where
 nf : nfm f = true
 mo : MoL 20 ds f
 len : f.length ≤ 400
theorem Vf4 {ds : List Int} {m : A8} (hm : Byt m) (h : okM ds m = true) : Mo 20 ds m := by
 have hall : ∀ n : Nat, n < 8 → Y4 m n ≤ Zn6 ds n := fun n hn => by
  have := List.all_eq_true.1 h n (List.mem_range.2 hn)
  simpa using this
 have most : ∀ n, Zn6 ds n ≤ 20 := fun n => by unfold Zn6; split; split <;> omega; omega
 refine ⟨fun i => (hm i).1, fun i => ?_, fun n hn ho => ?_, fun i hi => ?_⟩
 have := hall i.val i.isLt
 rw [T4 m i.isLt] at this
 exact Int.le_trans this (most _)
 by_cases h8 : n < 8
 have := hall n h8
 unfold Zn6 at this
 rw [if_pos hn, if_pos ho] at this; exact this
 simp [Y4, h8]
 have := hall i.val i.isLt
 unfold Zn6 at this
 rw [if_neg (by omega), T4 m i.isLt] at this
 have h0 := (hm i).1
 exact Int.le_antisymm this h0
theorem Vg1 {ds : List Int} {f : MpT} (hf : Yd6 f) (h : okF ds f = true) : VF ds f := by
 unfold okF at h
 rw [Bool.and_eq_true, decide_eq_true_eq] at h
 obtain ⟨h, hl⟩ := h
 have hall : ∀ n, n < f.length → okT ds f n = true := fun n hn => List.all_eq_true.1 h n (List.mem_range.2 hn)
 have hmem : ∀ t, t ∈ f → okM ds t.1 = true ∧ 1 ≤ t.2 ∧ t.2 ≤ 10006 := by
  intro t ht
  obtain ⟨i, hi, rfl⟩ := List.getElem_of_mem ht
  have := hall i hi
  unfold okT at this
  rw [Ze2 hi, Bool.and_eq_true, Bool.and_eq_true] at this
  exact ⟨this.1.1, by simpa using this.1.2⟩
 have hadj : ∀ j (hj : j + 1 < f.length), bef f[j].1 f[j + 1].1 = true := by
  intro j hj
  have := hall (j + 1) hj
  unfold okT at this
  rw [Ze2 hj, show ((j + 1 : Nat) : Int) - 1 = (j : Int) by omega, Ze2 (show j < f.length by omega), Bool.and_eq_true] at this
  simpa using this.2
 refine ⟨Yg3 ?_ (fun t ht => (hmem t ht).2), fun t ht => Vf4 (hf t ht) (hmem t ht).1, hl⟩
 rw [Srt, List.pairwise_iff_getElem]
 intro i j hi hj hij
 obtain ⟨d, rfl⟩ : ∃ d, j = i + 1 + d := ⟨j - i - 1, by omega⟩
 clear hij
 induction d with
 | zero => exact hadj i hj
 | succ d ih => exact Zp5 (ih (by omega)) (hadj (i + 1 + d) hj)
theorem Xc8 {s : MpT} {a : A8} {x : Int} (h : Srt (s ++ [(a, x)])) : Zb4 s a x = s ++ [(a, x)] := by
 have hp := List.pairwise_append.1 h
 have ha : a ∉ s.map Prod.fst := by
  intro hm
  obtain ⟨q, hq, rfl⟩ := List.mem_map.1 hm
  have := hp.2.2 q hq (q.1, x) (by simp)
  rw [Zf3] at this; cases this
 refine Xg3 (Yj4 hp.1 a x) h ?_
 refine (Zt1 _ _).trans ?_
 unfold Zw1
 rw [Zy0 ha]
 exact (List.perm_append_singleton _ _).symm
theorem Wi5 {K : Nat} {f : MpT} (hK : 8 < K) (hf : Yd6 f) (hs : Srt f) : ∀ (k i : Nat), f.length < i + k → i ≤ f.length → Zb9 K f k i (f.take i) = some (.go f) := by
 intro k
 induction k with
 | zero => intro i h1 h2; omega
 | succ k ih =>
  intro i h1 h2
  rw [Zb9]
  by_cases hi : i < f.length
  have e : f.take (i + 1) = f.take i ++ [((rd f (i : Int)).1, (rd f (i : Int)).2)] := by
   rw [Ze2 hi, List.take_add_one, List.getElem?_eq_getElem hi]; rfl
  have Z4 : Srt (f.take (i + 1)) := hs.sublist (List.take_sublist _ _)
  rw [if_pos (by omega), Ym0 hK (hf _ (T9 hi)), Option.bind_some, Xc8 (by rw [← e]; exact Z4), ← e]
  exact ih (i + 1) (by omega) (by omega)
  rw [if_neg (by omega), List.take_of_length_le (by omega)]
theorem Wb5 {K : Nat} {f : MpT} (hK : 8 < K) (hl : f.length < K) (hf : Yd6 f) (hs : Srt f) : Zr3 K f = some f := by
 have := Wi5 hK hf hs K 0 (by omega) (by omega)
 unfold Zr3
 replace this : Zb9 K f K 0 [] = some (.go f) := this
 rw [this]; rfl
theorem Mo.byt {B : Int} {ds : List Int} {m : A8} (h : Mo B ds m) (hB : B ≤ 255) : Byt m := fun i => ⟨h.lo i, Int.le_trans (h.hi i) hB⟩
theorem VF.byt {ds : List Int} {f : MpT} (h : VF ds f) : Yd6 f := fun t ht => (h.mo t ht).byt (by decide)
theorem VF.small {ds : List Int} {f : MpT} (h : VF ds f) : SmF f := Zv9 h.nf
/-! all images -/
theorem Xr9 (m : M8) {n : Nat} (h : n < 8) : Yd9 m (n : Int) = m ⟨n, h⟩ := by simp [Yd9, h]
theorem Ws6 (m : M8) {n : Nat} (hn : n < 8) (x : MpT) (j : Fin 8) : Xj4 m n x j = if j.val = n then x else m j := by
 unfold Xj4
 by_cases h : j.val = n
 rw [if_pos h, if_pos (by omega)]
 rw [if_neg h, if_neg (by omega)]
theorem Xy9 {K : Nat} {a : List Int × List MpT} (hK : 400 < K) (hl : a.2.length ≤ 8) (hv : ∀ f, f ∈ a.2 → ∃ ds, VF ds f) : ∀ (k n : Nat) (box : M8), a.2.length < n + k → n ≤ a.2.length → (∀ j, j < n → Yd9 box (j : Int) = rd a.2 (j : Int)) →
 ∃ r, N7 K a k n box = some (.go r) ∧ ∀ j, j < a.2.length → Yd9 r (j : Int) = rd a.2 (j : Int) := by
 intro k
 induction k with
 | zero => intro n box h1 h2; omega
 | succ k ih =>
  intro n box h1 h2 hb
  rw [N7]
  by_cases hn : n < a.2.length
  obtain ⟨ds, v⟩ := hv _ (T9 hn)
  have hvl := v.len
  rw [if_pos (by omega), Wb5 (by omega) (by omega) v.byt (F9 v.nf), Option.bind_some, if_pos (by omega)]
  refine ih (n + 1) _ (by omega) (by omega) (fun j hj => ?_)
  rw [Xr9 _ (show j < 8 by omega), Ws6 _ (by omega)]
  by_cases e : j = n
  rw [if_pos e, e]
  rw [if_neg e, ← hb j (by omega), Xr9 _ (show j < 8 by omega)]
  rw [if_neg (by omega)]
  exact ⟨box, rfl, fun j hj => hb j (by omega)⟩
theorem Wp7 {K : Nat} {a : List Int × List MpT} (hK : 400 < K) (hl : a.2.length ≤ 8) (hv : ∀ f, f ∈ a.2 → ∃ ds, VF ds f) : ∃ r, Zd8 K a = some r ∧ ∀ j, j < a.2.length → Yd9 r (j : Int) = rd a.2 (j : Int) := by
 obtain ⟨r, h1, h2⟩ := Xy9 hK hl hv K 0 (fun _ => []) (by omega) (by omega) (fun j hj => by omega)
 unfold Zd8
 replace h1 : N7 K a K 0 (fun _ => []) = _ := h1
 rw [h1]; exact ⟨r, rfl, h2⟩
/-! one factor of a monomial -/
def loM (m : A8) (i : Nat) : A8 := fun j => if j.val < i then m j else 0
def hiM (m : A8) (i : Nat) : A8 := fun j => if i < j.val then m j else 0
def lfM (m : A8) (i : Nat) : A8 := U8 (loM m i) i (Y4 m i - 1)
def dT (ds : List Int) (img : MpT) (m : A8) (i : Nat) : MpT := I4 (Zm0 ds (I4 (Zm0 ds [(lfM m i, 1)] img) []) [(hiM m i, 1)]) []
def dF (ds : List Int) (z : B9) (i : Nat) : Int := (sg (wtN ds z.1 i) * z.2 * Y4 z.1 i) % 10007
def Yq9 (ds : List Int) (img : MpT) (z : B9) (i : Nat) (out : MpT) : MpT := I4 (scl (dF ds z i) (dT ds img z.1 i)) out
def Zx8 (ds : List Int) (imgs : List MpT) (z : B9) : Nat → Nat → MpT → MpT
 | 0, _, out => out
 | n + 1, i, out => Zx8 ds imgs z n (i + 1) (if Y4 z.1 (i : Int) = 0 then out else Yq9 ds (rd imgs (i : Int)) z i out)
def Zw7 (ds : List Int) (imgs : List MpT) : MpT → MpT → MpT
 | [], out => out
 | z :: f, out => Zw7 ds imgs f (Zx8 ds imgs z ds.length 0 out)
section
variable {K : Nat} {ds : List Int} {m : A8} {i : Nat}
theorem Xg0 (m : A8) (i n : Nat) : Y4 (loM m i) n = if n < i then Y4 m n else 0 := by
 by_cases hn : n < 8
 rw [T4 _ hn, T4 _ hn]; rfl
 simp [Y4, hn]
theorem Wn9 (m : A8) (i n : Nat) : Y4 (hiM m i) n = if i < n then Y4 m n else 0 := by
 by_cases hn : n < 8
 rw [T4 _ hn, T4 _ hn]; rfl
 simp [Y4, hn]
theorem Wh1 {B : Int} (h : Mo B ds m) (h0 : 0 ≤ B) (i : Nat) : Mo B ds (loM m i) := by
 refine ⟨fun j => ?_, fun j => ?_, fun n hn ho => ?_, fun j hj => ?_⟩
 unfold loM; split; exact h.lo j; omega
 unfold loM; split; exact h.hi j; omega
 rw [Xg0]; split; exact h.odd n hn ho; omega
 unfold loM; split; exact h.out j hj; rfl
theorem Wg9 {B : Int} (h : Mo B ds m) (h0 : 0 ≤ B) (i : Nat) : Mo B ds (hiM m i) := by
 refine ⟨fun j => ?_, fun j => ?_, fun n hn ho => ?_, fun j hj => ?_⟩
 unfold hiM; split; exact h.lo j; omega
 unfold hiM; split; exact h.hi j; omega
 rw [Wn9]; split; exact h.odd n hn ho; omega
 unfold hiM; split; exact h.out j hj; rfl
theorem Xq2 {B : Int} (h : Mo B ds m) (h0 : 0 ≤ B) (hi : i < 8) (h1 : 0 < Y4 m i) : Mo B ds (lfM m i) := by
 have hl := Wh1 h h0 i
 unfold lfM
 refine ⟨fun j => ?_, fun j => ?_, fun n hn ho => ?_, fun j hj => ?_⟩
 rw [Zf6 _ hi]; split; omega; exact hl.lo j
 rw [Zf6 _ hi]; split
 have := h.hi ⟨i, hi⟩; rw [← T4 m hi] at this; omega
 exact hl.hi j
 by_cases hn8 : n < 8
 rw [T4 _ hn8, Zf6 _ hi]
 by_cases e : n = i
 subst e; rw [if_pos rfl]; have := h.odd n hn ho; omega
 rw [if_neg e, ← T4 (loM m i) hn8]; exact hl.odd n hn ho
 simp [Y4, hn8]
 rw [Zf6 _ hi]; split
 rename_i e
 have := h.out j hj
 rw [T4 m hi, show (⟨i, hi⟩ : Fin 8) = j from Fin.ext e.symm, this] at h1
 omega
 exact hl.out j hj
theorem Wn5 (m : A8) (i : Nat) : ∀ n, n ≤ i → wtN ds (loM m i) n = wtN ds m n
 | 0, _ => rfl
 | n + 1, h => by rw [wtN, wtN, Wn5 m i n (by omega), Xg0, if_pos (by omega)]
theorem Wa1 (m : A8) (i : Nat) : ∀ n, i ≤ n → wtN ds (loM m i) n = wtN ds m i
 | 0, h => by
  have : i = 0 := by omega
  subst this; rfl
 | n + 1, h => by
  by_cases e : i = n + 1
  subst e; exact Wn5 m _ _ (Nat.le_refl _)
  rw [wtN, Wa1 m i n (by omega), Xg0, if_neg (by omega), Int.mul_zero, Int.add_zero]
theorem Wv4 (m : A8) (i : Nat) (h : i ≤ ds.length) : wt ds (loM m i) = wtN ds m i := Wa1 m i _ h
end
end Go.Proofs.YtabofnehiclkiaaGreat
