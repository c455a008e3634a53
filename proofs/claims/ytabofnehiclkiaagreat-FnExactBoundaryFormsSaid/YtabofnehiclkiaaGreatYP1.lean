/- Plain laws on the pure functions. -/
import Derived.Test.YtabofnehiclkiaaGreatYF10
import Derived.Test.YtabofnehiclkiaaGreatYF13
import Derived.Test.YtabofnehiclkiaaGreatYF18
import Derived.Test.YtabofnehiclkiaaGreatYF14
import Derived.Test.YtabofnehiclkiaaGreatYF11
import Derived.Test.YtabofnehiclkiaaGreatYF1
import Derived.Test.YtabofnehiclkiaaGreatYF2
import Derived.Test.YtabofnehiclkiaaGreatYF3
import Derived.Test.YtabofnehiclkiaaGreatYF4
import Derived.Test.YtabofnehiclkiaaGreatYF5
import Derived.Test.YtabofnehiclkiaaGreatYF6
import Derived.Test.YtabofnehiclkiaaGreatYF7
import Derived.Test.YtabofnehiclkiaaGreatYF8
import Derived.Test.YtabofnehiclkiaaGreatYF9
import Derived.Test.YtabofnehiclkiaaGreatYF12
import Derived.Test.YtabofnehiclkiaaGreatYF15
import Derived.Test.YtabofnehiclkiaaGreatYF16
import Derived.Test.YtabofnehiclkiaaGreatYF17
import Derived.Test.YtabofnehiclkiaaGreatYF19
import Derived.Test.YtabofnehiclkiaaGreatYF20
import Derived.Test.YtabofnehiclkiaaGreatYF21
import Derived.Test.YtabofnehiclkiaaGreatYF22
import Derived.Test.YtabofnehiclkiaaGreatYF23
import Derived.Test.YtabofnehiclkiaaGreatYF24
import Derived.Test.YtabofnehiclkiaaGreatYF25
import Derived.Test.YtabofnehiclkiaaGreatYF26
import Derived.Test.YtabofnehiclkiaaGreatYF27
import Derived.Test.YtabofnehiclkiaaGreatYF28
import Derived.Test.YtabofnehiclkiaaGreatYF29
import Derived.Test.YtabofnehiclkiaaGreatYF30
namespace Go.Proofs.YtabofnehiclkiaaGreat
open Go
set_option linter.unusedSimpArgs false
set_option linter.unusedVariables false
/-- the factor of a monomial in a list of terms -/
def cf (a : A8) : List (A8 × Int) → Int
 | [] => 0
 | t :: ts => (if t.1 = a then t.2 else 0) + cf a ts
theorem Wl3 {a : A8} : ∀ {xs : List (A8 × Int)}, (∀ q, q ∈ xs → q.1 ≠ a) → cf a xs = 0
 | [], _ => rfl
 | x :: xs, h => by
  rw [cf, if_neg (h x (List.mem_cons_self ..)), Wl3 (fun q hq => h q (List.mem_cons_of_mem _ hq))]; rfl
theorem Xq8 (a : A8) : ∀ {s : MpT}, Srt s → N3 s a = cf a s
 | [], _ => rfl
 | x :: xs, h => by
  have h' := List.pairwise_cons.1 h
  by_cases e : x.1 = a
  rw [Zw9 (x := x.2) h (by rw [← e]; exact List.mem_cons_self ..), cf, if_pos e, Wl3 (fun q hq e' => ?_)]
  omega
  have := h'.1 q hq
  rw [e, e', Ze4] at this; cases this
  rw [cf, if_neg e, ← Xq8 a h'.2, Int.zero_add]
  unfold N3
  rw [List.find?_cons]
  cases hq : eq8 a x.1 with
  | false => rfl
  | true => exact absurd (Zc7.1 hq).symm e
def I3 : List (A8 × Int) → MpT → MpT
 | [], s => s
 | t :: ts, s => I3 ts (Zu0 s t.1 t.2)
theorem Xa7 : ∀ (xs ys : List (A8 × Int)) (s : MpT), I3 (xs ++ ys) s = I3 ys (I3 xs s)
 | [], _, _ => rfl
 | x :: xs, ys, s => Xa7 xs ys _
theorem Zl1 : ∀ (T : List (A8 × Int)) {s : MpT}, nfm s = true → nfm (I3 T s) = true
 | [], _, h => h
 | t :: ts, _, h => Zl1 ts (Zg3 h _ _)
theorem Xm6 (a : A8) : ∀ (T : List (A8 × Int)) {s : MpT}, nfm s = true → N3 (I3 T s) a = (N3 s a + cf a T) % 10007
 | [], s, h => by
  have := Yg3 h a
  simp only [I3, cf]; omega
 | t :: ts, s, h => by
  rw [I3, Xm6 a ts (Zg3 h _ _), Zv5 h, cf]
  by_cases e : a = t.1
  subst e
  simp only [if_true]
  omega
  rw [if_neg e, if_neg (fun h => e h.symm)]; omega
theorem Zx3 : nfm [] = true := rfl
theorem Wr2 (s : MpT) (p : A8) (f : Int) : (Zu0 s p f).length ≤ s.length + 1 := by
 have h1 : (Zv2 s p).length ≤ s.length := List.length_filter_le _ _
 unfold Zu0
 split
 omega
 unfold Za7
 rw [(Zs1 _ _).length_eq, List.length_cons]; omega
theorem Yj0 : ∀ (T : List (A8 × Int)) (s : MpT), (I3 T s).length ≤ s.length + T.length
 | [], s => by simp [I3]
 | t :: ts, s => by
  have h1 := Yj0 ts (Zu0 s t.1 t.2)
  have h2 := Wr2 s t.1 t.2
  rw [I3, List.length_cons]; omega
def scl (k : Int) (g : List (A8 × Int)) : List (A8 × Int) := g.map fun t => (t.1, k * t.2)
theorem Wi6 (k : Int) (a : A8) : ∀ g, cf a (scl k g) = k * cf a g
 | [] => by simp [scl, cf]
 | t :: g => by
  show (if t.1 = a then k * t.2 else 0) + cf a (scl k g) = k * ((if t.1 = a then t.2 else 0) + cf a g)
  rw [Wi6 k a g, Int.mul_add]
  split <;> simp
/-! two sorted lists, merged -/
def cnz (p : A8) (x : Int) (r : MpT) : MpT := if x = 0 then r else (p, x) :: r
def mrg (k : Int) : MpT → MpT → MpT
 | f, [] => f
 | [], q :: g => cnz q.1 ((k * q.2) % 10007) (mrg k [] g)
 | p :: f, q :: g => if bef p.1 q.1 = true then p :: mrg k f (q :: g) else if bef q.1 p.1 = true then cnz q.1 ((k * q.2) % 10007) (mrg k (p :: f) g) else cnz p.1 ((p.2 + (k * q.2) % 10007) % 10007) (mrg k f g)
termination_by f g => f.length + g.length
theorem Xj6 {p : A8} {x : Int} {r : MpT} {q : A8 × Int} (h : q ∈ cnz p x r) : q.1 = p ∨ q ∈ r := by
 unfold cnz at h
 split at h
 exact .inr h
 rcases List.mem_cons.1 h with rfl | h
 exact .inl rfl
 exact .inr h
theorem Yq0 (k : Int) (f g : MpT) : ∀ q, q ∈ mrg k f g → (∃ p, p ∈ f ∧ p.1 = q.1) ∨ ∃ p, p ∈ g ∧ p.1 = q.1 := by
 fun_induction mrg k f g with
 | case1 f => intro q hq; exact .inl ⟨q, hq, rfl⟩
 | case2 q g ih =>
  intro r hr
  rcases Xj6 hr with h | h
  exact .inr ⟨q, List.mem_cons_self .., h.symm⟩
  rcases ih r h with ⟨p, hp, e⟩ | ⟨p, hp, e⟩
  cases hp
  exact .inr ⟨p, List.mem_cons_of_mem _ hp, e⟩
 | case3 p f q g h ih =>
  intro r hr
  rcases List.mem_cons.1 hr with rfl | hr
  exact .inl ⟨_, List.mem_cons_self .., rfl⟩
  rcases ih r hr with ⟨p, hp, e⟩ | ⟨p, hp, e⟩
  exact .inl ⟨p, List.mem_cons_of_mem _ hp, e⟩
  exact .inr ⟨p, hp, e⟩
 | case4 p f q g h1 h2 ih =>
  intro r hr
  rcases Xj6 hr with h | h
  exact .inr ⟨q, List.mem_cons_self .., h.symm⟩
  rcases ih r h with ⟨p, hp, e⟩ | ⟨p, hp, e⟩
  exact .inl ⟨p, hp, e⟩
  exact .inr ⟨p, List.mem_cons_of_mem _ hp, e⟩
 | case5 p f q g h1 h2 ih =>
  intro r hr
  rcases Xj6 hr with h | h
  exact .inl ⟨p, List.mem_cons_self .., h.symm⟩
  rcases ih r h with ⟨p, hp, e⟩ | ⟨p, hp, e⟩
  exact .inl ⟨p, List.mem_cons_of_mem _ hp, e⟩
  exact .inr ⟨p, List.mem_cons_of_mem _ hp, e⟩
theorem Xj4 {p : A8} {x : Int} {r : MpT} (h : Srt r) (hp : ∀ q, q ∈ r → bef p q.1 = true) : Srt (cnz p x r) := by
 unfold cnz
 split
 exact h
 exact List.pairwise_cons.2 ⟨hp, h⟩
theorem Va2 (k : Int) (f g : MpT) : Srt f → Srt g → Srt (mrg k f g) := by
 fun_induction mrg k f g with
 | case1 f => intro h _; exact h
 | case2 q g ih =>
  intro h1 h2
  have h2' := List.pairwise_cons.1 h2
  refine Xj4 (ih h1 h2'.2) (fun r hr => ?_)
  rcases Yq0 _ _ _ r hr with ⟨p, hp, e⟩ | ⟨p, hp, e⟩
  cases hp
  rw [← e]; exact h2'.1 p hp
 | case3 p f q g h ih =>
  intro h1 h2
  have h1' := List.pairwise_cons.1 h1
  have h2' := List.pairwise_cons.1 h2
  refine List.pairwise_cons.2 ⟨fun r hr => ?_, ih h1'.2 h2⟩
  rcases Yq0 _ _ _ r hr with ⟨s, hs, e⟩ | ⟨s, hs, e⟩
  rw [← e]; exact h1'.1 s hs
  rw [← e]
  rcases List.mem_cons.1 hs with rfl | hs
  exact h
  exact Zn9 h (h2'.1 s hs)
 | case4 p f q g h3 h ih =>
  intro h1 h2
  have h1' := List.pairwise_cons.1 h1
  have h2' := List.pairwise_cons.1 h2
  refine Xj4 (ih h1 h2'.2) (fun r hr => ?_)
  rcases Yq0 _ _ _ r hr with ⟨s, hs, e⟩ | ⟨s, hs, e⟩
  rw [← e]
  rcases List.mem_cons.1 hs with rfl | hs
  exact h
  exact Zn9 h (h1'.1 s hs)
  rw [← e]; exact h2'.1 s hs
 | case5 p f q g h3 h4 ih =>
  intro h1 h2
  have h1' := List.pairwise_cons.1 h1
  have h2' := List.pairwise_cons.1 h2
  have e0 : p.1 = q.1 := by
   by_cases e : p.1 = q.1
   exact e
   exact absurd (Ye3 e) (by simp [h3, h4])
  refine Xj4 (ih h1'.2 h2'.2) (fun r hr => ?_)
  rcases Yq0 _ _ _ r hr with ⟨s, hs, e⟩ | ⟨s, hs, e⟩
  rw [← e]; exact h1'.1 s hs
  rw [← e, e0]; exact h2'.1 s hs
theorem Xj0 {p : A8} {x : Int} {r : MpT} (hx : 0 ≤ x ∧ x ≤ 10006) (h : ∀ q, q ∈ r → 1 ≤ q.2 ∧ q.2 ≤ 10006) : ∀ q, q ∈ cnz p x r → 1 ≤ q.2 ∧ q.2 ≤ 10006 := by
 unfold cnz
 split
 exact h
 intro q hq
 rcases List.mem_cons.1 hq with rfl | hq
 simp only; omega
 exact h q hq
theorem Wx2 (k : Int) (f g : MpT) : (∀ q, q ∈ f → 1 ≤ q.2 ∧ q.2 ≤ 10006) → ∀ q, q ∈ mrg k f g → 1 ≤ q.2 ∧ q.2 ≤ 10006 := by
 fun_induction mrg k f g with
 | case1 f => exact fun h => h
 | case2 q g ih => exact fun h => Xj0 (by omega) (ih h)
 | case3 p f q g h ih =>
  intro hf r hr
  rcases List.mem_cons.1 hr with rfl | hr
  exact hf _ (List.mem_cons_self ..)
  exact ih (fun q hq => hf q (List.mem_cons_of_mem _ hq)) r hr
 | case4 p f q g h3 h ih => exact fun hf => Xj0 (by omega) (ih hf)
 | case5 p f q g h3 h4 ih => exact fun hf => Xj0 (by omega) (ih (fun q hq => hf q (List.mem_cons_of_mem _ hq)))
theorem Xt9 (a p : A8) (x : Int) (r : MpT) : cf a (cnz p x r) = (if p = a then x else 0) + cf a r := by
 unfold cnz
 split
 rename_i h; subst h; simp
 rfl
theorem Vb5 (k : Int) (a : A8) (f g : MpT) : cf a (mrg k f g) % 10007 = (cf a f + k * cf a g) % 10007 := by
 fun_induction mrg k f g with
 | case1 f => simp [cf]
 | case2 q g ih =>
  rw [Xt9, cf.eq_2 a q g, Int.mul_add]
  generalize k * cf a g = X at ih ⊢
  split <;> omega
 | case3 p f q g h ih =>
  rw [cf, cf]
  omega
 | case4 p f q g h3 h ih =>
  rw [Xt9, cf.eq_2 a q g, Int.mul_add]
  generalize k * cf a g = X at ih ⊢
  split <;> omega
 | case5 p f q g h3 h4 ih =>
  have e0 : p.1 = q.1 := by
   by_cases e : p.1 = q.1
   exact e
   exact absurd (Ye3 e) (by simp [h3, h4])
  rw [Xt9, cf.eq_2 a q g, cf.eq_2 a p f, Int.mul_add, e0]
  generalize k * cf a g = X at ih ⊢
  split <;> omega
theorem Wy3 {k : Int} {f g : MpT} (hf : nfm f = true) (hg : Srt g) : nfm (mrg k f g) = true := Ye8 (Va2 k f g (F4 hf) hg) (Wx2 k f g (Yc7 hf))
theorem Wb5 {k : Int} {f g : MpT} (hf : nfm f = true) (hg : Srt g) : mrg k f g = I3 (scl k g) f := by
 have h := Wy3 (k := k) hf hg
 refine Wk9 h (Zl1 _ hf) (fun a => ?_)
 rw [Xm6 a _ hf, Wi6, Xq8 a (F4 hf), ← Vb5]
 have := Yg3 h a
 rw [Xq8 a (F4 h)] at this ⊢
 omega
theorem Yz8 {ρ σ : Type} {g : σ} (L : Nat → Int → Option (Ex ρ σ)) (N : Nat) (c : Nat → Bool) (r : ρ)
 (h : ∀ k (n : Nat), L (k + 1) (n : Int) = if (n : Int) < (N : Int) then (if c n = true then L k ((n : Int) + 1) else some (.ret r)) else some (.go g)) :
 ∀ (k n : Nat), n ≤ N → N < n + k → L k (n : Int) = some (if (List.range' n (N - n)).all c = true then .go g else .ret r) := by
 intro k
 induction k with
 | zero => intro n h1 h2; omega
 | succ k ih =>
  intro n h1 h2
  rw [h]
  by_cases hn : n < N
  rw [if_pos (by omega)]
  obtain ⟨m, hm⟩ : ∃ m, N - n = m + 1 := ⟨N - n - 1, by omega⟩
  have e : N - (n + 1) = m := by omega
  rw [hm, List.range'_succ, List.all_cons]
  cases hc : c n with
  | false => simp
  | true =>
   have := ih (n + 1) (by omega) (by omega)
   rw [e] at this
   rw [if_pos rfl, Bool.true_and]; exact this
  rw [if_neg (by omega), show N - n = 0 by omega]; simp
theorem Xo2 {ρ σ : Type} {g : σ} (L : Nat → Int → Option (Ex ρ σ)) (N : Nat) (c : Nat → Bool) (r : ρ)
 (h : ∀ k (n : Nat), L (k + 1) (n : Int) = if (n : Int) < (N : Int) then (if c n = true then L k ((n : Int) + 1) else some (.ret r)) else some (.go g))
 {K : Nat} (hK : N < K) : L K 0 = some (if (List.range N).all c = true then .go g else .ret r) := by
 have := Yz8 L N c r h K 0 (by omega) (by omega)
 rw [List.range_eq_range']
 exact this
theorem Zc0 {ρ σ : Type} {g : σ} (L : Nat → Int → Option (Ex ρ σ)) (N : Nat) (c : Nat → Bool) (r : ρ)
 (h : ∀ k (n : Nat), n < N → L (k + 1) (n : Int) = if c n = true then L k ((n : Int) + 1) else some (.ret r)) (h' : ∀ k (n : Nat), N ≤ n → L (k + 1) (n : Int) = some (.go g))
 {K : Nat} (hK : N < K) : L K 0 = some (if (List.range N).all c = true then .go g else .ret r) := by
 refine Xo2 L N c r (fun k n => ?_) hK
 by_cases hn : n < N
 rw [if_pos (by omega), h k n hn]
 rw [if_neg (by omega), h' k n (by omega)]
theorem Zd1 {α : Type} [Inhabited α] {xs : List α} {n : Nat} (h : n < xs.length) : rd xs (n : Int) = xs[n] := by
 unfold rd
 rw [Int.toNat_natCast, List.getD_eq_getElem?_getD, List.getElem?_eq_getElem h]; rfl
theorem Yv3 {α : Type} [Inhabited α] (xs : List α) (f : α → Bool) : (List.range xs.length).all (fun j => f (rd xs (j : Int))) = xs.all f := by
 rw [Bool.eq_iff_iff, List.all_eq_true, List.all_eq_true]
 constructor
 intro h x hx
 obtain ⟨i, hi, rfl⟩ := List.getElem_of_mem hx
 have := h i (List.mem_range.2 hi)
 rwa [Zd1 hi] at this
 intro h j hj
 have hj := List.mem_range.1 hj
 rw [Zd1 hj]
 exact h _ (List.getElem_mem _)
theorem T7 {α : Type} [Inhabited α] {xs : List α} {n : Nat} (h : n < xs.length) : rd xs (n : Int) ∈ xs := by rw [Zd1 h]; exact List.getElem_mem _
theorem Wf2 (K : Nat) (a b c : Int) : Zl5 K a b c = some (decide (b ≤ a ∧ a ≤ c)) := by
 unfold Zl5; split <;> rename_i h <;> simp [h]
theorem Ys9 (K : Nat) (a b c : Int) : Zi3 K a b c = some (decide (b ≤ a ∧ a ≤ c)) := by
 unfold Zi3; split <;> rename_i h <;> simp [h]
theorem Ye4 (K : Nat) (x : Int) : F2 K x = some (x % 10007) := Xw2 K x
/-! degrees -/
def okD (ds : List Int) : Bool := ds.all (fun d => decide (1 ≤ d ∧ d ≤ 12)) && decide (ds.length ≤ 8)
theorem Vc3 {K : Nat} {ds : List Int} (hK : ds.length < K) : Zi6 K ds = some (okD ds) := by
 unfold Zi6
 rw [Xo2 (g := ()) (fun k i => J5 K ds k i) ds.length (fun j => decide (1 ≤ rd ds (j : Int) ∧ rd ds (j : Int) ≤ 12)) false (fun k n => ?_) hK, Yv3 ds (fun d => decide (1 ≤ d ∧ d ≤ 12))]
 unfold okD
 cases ds.all (fun d => decide (1 ≤ d ∧ d ≤ 12)) with
 | true => simp [Ex.elim]; omega
 | false => rfl
 show J5 K ds (k + 1) n = _
 rw [J5]
 simp only [Wf2, Option.bind_some]
/-- a search -/
theorem Xs7 {ρ : Type} (L : Nat → Int → Option (Ex ρ Unit)) (N : Nat) (c : Nat → Bool) (r : Int → ρ)
 (h : ∀ k (n : Nat), n < N → L (k + 1) (n : Int) = if c n = true then some (.ret (r n)) else L k ((n : Int) + 1)) (h' : ∀ k (n : Nat), N ≤ n → L (k + 1) (n : Int) = some (.go ())) :
 ∀ (k n : Nat), n ≤ N → N < n + k → (∃ m : Nat, L k (n : Int) = some (.ret (r m)) ∧ (List.range' n (N - n)).any c = true ∧ m < N) ∨ (L k (n : Int) = some (.go ()) ∧ (List.range' n (N - n)).any c = false) := by
 intro k
 induction k with
 | zero => intro n h1 h2; omega
 | succ k ih =>
  intro n h1 h2
  by_cases hn : n < N
  rw [h k n hn]
  obtain ⟨m, hm⟩ : ∃ m, N - n = m + 1 := ⟨N - n - 1, by omega⟩
  have e : N - (n + 1) = m := by omega
  rw [hm, List.range'_succ, List.any_cons]
  cases hc : c n with
  | true => exact .inl ⟨n, by simp, by simp, hn⟩
  | false =>
   have := ih (n + 1) (by omega) (by omega)
   rw [e] at this
   rw [if_neg (by simp), Bool.false_or]; exact this
  rw [h' k n (by omega), show N - n = 0 by omega]; exact .inr ⟨rfl, rfl⟩
theorem Xn6 {α : Type} [Inhabited α] (xs : List α) (f : α → Bool) : (List.range xs.length).any (fun j => f (rd xs (j : Int))) = xs.any f := by
 have h := Yv3 xs (fun x => !f x)
 rw [← Bool.not_inj_iff, List.not_any_eq_all_not, List.not_any_eq_all_not]
 exact h
theorem Xw0 {K : Nat} {xs : List Int} {p : Int → Option Bool} {q : Int → Bool} (hK : xs.length < K) (hp : ∀ x, x ∈ xs → p x = some (q x)) : R7 K xs p = some (xs.any q) := by
 unfold R7 N0
 have := Xs7 (fun k i => V0 K xs p k i) xs.length (fun j => q (rd xs (j : Int))) id (fun k n hn => ?_) (fun k n hn => ?_) K 0 (by omega) (by omega)
 rw [Nat.sub_zero, ← List.range_eq_range', Xn6 xs q] at this
 rcases this with ⟨m, h1, h2, _⟩ | ⟨h1, h2⟩
 replace h1 : V0 K xs p K 0 = _ := h1
 rw [h1, h2]; simp [Ex.elim]
 replace h1 : V0 K xs p K 0 = _ := h1
 rw [h1, h2]; simp [Ex.elim]
 show V0 K xs p (k + 1) n = _
 rw [V0, if_pos (by omega), hp _ (T7 hn)]; rfl
 show V0 K xs p (k + 1) n = _
 rw [V0, if_neg (by omega)]
theorem Vb4 {K : Nat} {ds : List Int} (hK : ds.length < K) : Zj1 K ds = some (okD ds) := by
 unfold Zj1 okD
 by_cases hl : ds.length ≤ 8
 rw [if_pos (by omega), Xw0 (q := fun x => !decide (1 ≤ x ∧ x ≤ 12)) hK (fun x _ => by unfold Zj7; rw [Ys9]; rfl)]
 rw [← List.not_all_eq_any_not]
 simp [hl]
 rw [if_neg (by omega)]; simp [hl]
def Byt (m : A8) : Prop := ∀ i, 0 ≤ m i ∧ m i ≤ 255
theorem T2 (m : A8) {n : Nat} (h : n < 8) : Y5 m (n : Int) = m ⟨n, h⟩ := by simp [Y5, h]
theorem Byt.idx {m : A8} (h : Byt m) (n : Nat) : 0 ≤ Y5 m n ∧ Y5 m n ≤ 255 := by
 by_cases hn : n < 8
 rw [T2 m hn]; exact h _
 simp [Y5, hn]
theorem Yd9 {d : Int} (h : 0 ≤ d) : d.tmod 2 = d % 2 := Int.tmod_eq_emod_of_nonneg h
def Zm4 (ds : List Int) (j : Nat) : Int := if j < ds.length then (if rd ds j % 2 = 1 then 1 else 20) else 0
def okM (ds : List Int) (m : A8) : Bool := (List.range 8).all fun j => decide (Y5 m j ≤ Zm4 ds j)
theorem D1 {ds : List Int} (h : okD ds = true) : ∀ d, d ∈ ds → 1 ≤ d ∧ d ≤ 12 := by
 intro d hd
 unfold okD at h
 rw [Bool.and_eq_true, List.all_eq_true] at h
 simpa using h.1 d hd
theorem J2 {ds : List Int} (h : okD ds = true) : ds.length ≤ 8 := by
 unfold okD at h
 rw [Bool.and_eq_true] at h
 simpa using h.2
theorem Wv8 {K : Nat} {ds : List Int} {m : A8} (hK : 8 < K) (hd : okD ds = true) (hm : Byt m) : Zq8 K ds m = some (okM ds m) := by
 unfold Zq8 okM
 rw [Zc0 (g := ()) (fun k i => P5 K ds m k i) 8 (fun j => decide (Y5 m j ≤ Zm4 ds j)) false (fun k n hn => ?_) (fun k n hn => ?_) hK]
 cases (List.range 8).all fun j => decide (Y5 m j ≤ Zm4 ds j) <;> rfl
 show P5 K ds m (k + 1) n = _
 have hb := hm.idx n
 rw [P5, if_pos (by omega)]
 unfold Zm4
 by_cases hl : n < ds.length
 have hp := D1 hd _ (T7 hl)
 rw [if_neg (by omega), if_pos (show (n : Int) < ds.length by omega), if_pos hl, Yd9 (by omega)]
 by_cases ho : rd ds (n : Int) % 2 = 1
 rw [if_pos ho, if_neg (show ¬ rd ds (n : Int) % 2 = 0 by omega)]
 by_cases h1 : Y5 m n ≤ 1
 rw [if_neg (by omega), if_neg (by omega), if_pos (by simpa using h1)]
 rw [if_neg (show ¬ decide (Y5 m n ≤ 1) = true by simpa using h1), if_pos (show 1 < Y5 m n by omega)]; split <;> rfl
 rw [if_neg ho, if_pos (show rd ds (n : Int) % 2 = 0 by omega)]
 by_cases h1 : Y5 m n ≤ 20
 rw [if_neg (by omega), if_pos (by simpa using h1)]
 rw [if_neg (show ¬ decide (Y5 m n ≤ 20) = true by simpa using h1), if_pos (by omega)]
 rw [if_pos (by omega), if_neg hl]
 by_cases h1 : Y5 m n ≤ 0
 rw [if_pos (by omega), if_pos (by simpa using h1)]
 rw [if_neg (by omega), if_neg (show ¬ decide (Y5 m n ≤ 0) = true by simpa using h1)]
 show P5 K ds m (k + 1) n = _
 rw [P5, if_neg (by omega)]
theorem Wv4 {K : Nat} {ds : List Int} {m : A8} (hK : 8 < K) (hd : okD ds = true) (hm : Byt m) : Zj4 K ds m = some (okM ds m) := by
 unfold Zj4 okM
 rw [Zc0 (g := ()) (fun k i => S6 K ds m k i) 8 (fun j => decide (Y5 m j ≤ Zm4 ds j)) false (fun k n hn => ?_) (fun k n hn => ?_) hK]
 cases (List.range 8).all fun j => decide (Y5 m j ≤ Zm4 ds j) <;> rfl
 show S6 K ds m (k + 1) n = _
 have key : ∀ e : Int, E8 K (S6 K ds m k) m n e = if decide (Y5 m n ≤ e) = true then S6 K ds m k ((n : Int) + 1) else some (.ret false) := by
  intro e
  unfold E8
  by_cases h1 : Y5 m n ≤ e
  rw [if_neg (by omega), if_pos (by simpa using h1)]
  rw [if_neg (show ¬ decide (Y5 m n ≤ e) = true by simpa using h1), if_pos (by omega)]
 rw [S6, if_pos (by omega), key, key, key]
 unfold Zm4
 by_cases hl : n < ds.length
 have hp := D1 hd _ (T7 hl)
 rw [if_pos (show (n : Int) < ds.length by omega), if_pos hl, Yd9 (by omega)]
 by_cases ho : rd ds (n : Int) % 2 = 1
 rw [if_pos ho, if_pos ho]
 rw [if_neg ho, if_neg ho]
 rw [if_neg (show ¬ (n : Int) < ds.length by omega), if_neg hl]
 show S6 K ds m (k + 1) n = _
 rw [S6, if_neg (by omega)]
/-! order -/
theorem Yw8 (a : A8) {n : Nat} (h : n < 8) : (l8 a).drop n = Y5 a n :: (l8 a).drop (n + 1) := by
 match n, h with
 | 0, _ | 1, _ | 2, _ | 3, _ | 4, _ | 5, _ | 6, _ | 7, _ => rfl
theorem Xx5 {K : Nat} (a b : A8) : ∀ (k n : Nat), n ≤ 8 → 8 < n + k → ∃ e, I9 K a b k n = some e ∧ Ex.elim (fun r => some r) (fun _ => some false) e = some (Zf3 ((l8 a).drop n) ((l8 b).drop n)) := by
 intro k
 induction k with
 | zero => intro n h1 h2; omega
 | succ k ih =>
  intro n h1 h2
  rw [I9]
  by_cases hn : n < 8
  rw [if_pos (by omega), Yw8 a hn, Yw8 b hn, Zf3]
  by_cases e : Y5 a n = Y5 b n
  rw [if_pos e, if_pos e]; exact ih (n + 1) (by omega) (by omega)
  rw [if_neg e, if_neg e]; exact ⟨_, rfl, rfl⟩
  have : n = 8 := by omega
  subst this
  exact ⟨_, rfl, rfl⟩
theorem Xc3 {K : Nat} (hK : 8 < K) (a b : A8) : Zc2 K a b = some (bef a b) := by
 obtain ⟨e, h1, h2⟩ := Xx5 (K := K) a b K 0 (by omega) (by omega)
 unfold Zc2
 replace h1 : I9 K a b K 0 = some e := h1
 rw [h1]; exact h2
theorem Xr9 {K : Nat} {a b : A8} (ha : Byt a) (hb : Byt b) : ∀ (k n : Nat), n ≤ 8 → 8 < n + k →
 ∃ e, P4 K a b k n = some e ∧ ∃ r, Ex.elim (fun r => some r) (fun _ => some 0) e = some r ∧ decide (0 ≤ r) = !Zf3 ((l8 a).drop n) ((l8 b).drop n) := by
 intro k
 induction k with
 | zero => intro n h1 h2; omega
 | succ k ih =>
  intro n h1 h2
  rw [P4]
  by_cases hn : n < 8
  rw [if_pos (by omega), Yw8 a hn, Yw8 b hn, Zf3]
  by_cases e : Y5 a n = Y5 b n
  rw [if_pos e, if_pos e]; exact ih (n + 1) (by omega) (by omega)
  rw [if_neg e, if_neg e]
  refine ⟨_, rfl, _, rfl, ?_⟩
  have h3 := ha.idx n
  have h4 := hb.idx n
  rw [IntWalk.i64_in _ (by omega), ← decide_not]
  exact decide_eq_decide.2 (by omega)
  have : n = 8 := by omega
  subst this
  exact ⟨_, rfl, _, rfl, rfl⟩
theorem Wm9 {K : Nat} (hK : 8 < K) {a b : A8} (ha : Byt a) (hb : Byt b) : ∃ r, E5 K a b = some r ∧ decide (0 ≤ r) = !bef a b := by
 obtain ⟨e, h1, r, h2, h3⟩ := Xr9 (K := K) ha hb K 0 (by omega) (by omega)
 unfold E5
 replace h1 : P4 K a b K 0 = some e := h1
 rw [h1]; exact ⟨r, h2, h3⟩
theorem Ze5 (m : A8) {n : Nat} (hn : n < 8) (x : Int) (j : Fin 8) : U7 m n x j = if j.val = n then x else m j := by
 unfold U7
 by_cases h : j.val = n
 rw [if_pos h, if_pos (by omega)]
 rw [if_neg h, if_neg (by omega)]
theorem Xt3 {K : Nat} {m : A8} (hm : Byt m) : ∀ (k n : Nat) (box : A8), n ≤ 8 → 8 < n + k → (∀ j : Fin 8, j.val < n → box j = m j) → D4 K m k n box = some (.go m) := by
 intro k
 induction k with
 | zero => intro n box h1 h2; omega
 | succ k ih =>
  intro n box h1 h2 hb
  rw [D4]
  by_cases hn : n < 8
  rw [if_pos (by omega)]
  refine ih (n + 1) _ (by omega) (by omega) (fun j hj => ?_)
  rw [Ze5 _ hn, T2 m hn]
  by_cases e : j.val = n
  have := hm ⟨n, hn⟩
  rw [if_pos e, IntWalk.i64_in _ (by omega)]
  congr 1; exact Fin.ext e.symm
  rw [if_neg e]; exact hb j (by omega)
  rw [if_neg (by omega)]
  congr 2
  funext j; exact hb j (by omega)
theorem Yk9 {K : Nat} (hK : 8 < K) {m : A8} (hm : Byt m) : Zc9 K m = some m := by
 unfold Zc9
 have := Xt3 (K := K) hm K 0 (fun _ => 0) (by omega) (by omega) (fun j hj => by omega)
 replace this : D4 K m K 0 (fun _ => 0) = _ := this
 rw [this]; rfl
/-! forms -/
def Yb8 (f : MpT) : Prop := ∀ t, t ∈ f → Byt t.1
def okT (ds : List Int) (f : MpT) (j : Nat) : Bool := okM ds (rd f (j : Int)).1 && decide (1 ≤ (rd f (j : Int)).2 ∧ (rd f (j : Int)).2 ≤ 10006) && (decide (j = 0) || bef (rd f ((j : Int) - 1)).1 (rd f (j : Int)).1)
def okF (ds : List Int) (f : MpT) : Bool := (List.range f.length).all (okT ds f) && decide (f.length ≤ 400)
theorem Vh2 {K : Nat} {ds : List Int} {f : MpT} (hK : 8 < K) (hl : f.length < K) (hl2 : f.length ≤ 1099511627776) (hd : okD ds = true) (hf : Yb8 f) : Zu7 K ds f = some (okF ds f) := by
 unfold Zu7 okF
 rw [Zc0 (g := ()) (fun k i => J4 K ds f k i) f.length (okT ds f) false (fun k n hn => ?_) (fun k n hn => ?_) hl]
 cases (List.range f.length).all (okT ds f) with
 | true => simp [Ex.elim]; omega
 | false => rfl
 show J4 K ds f (k + 1) n = _
 rw [J4, if_pos (by omega), Wv8 hK hd (hf _ (T7 hn))]
 unfold okT
 rw [Option.bind_some]
 cases okM ds (rd f (n : Int)).1 with
 | false => rfl
 | true =>
  rw [if_pos rfl, Wf2, Option.bind_some, Bool.true_and]
  cases decide (1 ≤ (rd f (n : Int)).2 ∧ (rd f (n : Int)).2 ≤ 10006) with
  | false => rfl
  | true =>
   rw [if_pos rfl, Bool.true_and, IntWalk.i64_in _ (by omega), Xc3 hK]
   by_cases h0 : n = 0
   subst h0; rfl
   rw [if_pos (by omega), if_pos (by omega), if_pos (by omega), Option.bind_some]
   simp only [h0, decide_false, Bool.false_or]
 show J4 K ds f (k + 1) n = _
 rw [J4, if_neg (by omega)]
theorem Vg2 {K : Nat} {ds : List Int} {f : MpT} (hK : 400 < K) (hd : okD ds = true) (hf : Yb8 f) : Zm9 K ds f = some (okF ds f) := by
 unfold Zm9 okF
 by_cases hl : f.length ≤ 400
 case neg => rw [if_pos (by omega)]; simp [hl]
 rw [if_neg (by omega), Zc0 (g := ()) (fun k i => M4 K ds f k i) f.length (okT ds f) false (fun k n hn => ?_) (fun k n hn => ?_) (by omega)]
 cases (List.range f.length).all (okT ds f) with
 | true => simp [Ex.elim, hl]
 | false => rfl
 show M4 K ds f (k + 1) n = _
 have hb := hf _ (T7 hn)
 rw [M4, if_pos (by omega), Wv4 (by omega) hd hb]
 unfold okT
 rw [Option.bind_some]
 cases okM ds (rd f (n : Int)).1 with
 | false => rfl
 | true =>
  unfold Zu4
  rw [if_pos rfl, Ys9, Option.bind_some, Option.bind_some, Bool.true_and]
  cases decide (1 ≤ (rd f (n : Int)).2 ∧ (rd f (n : Int)).2 ≤ 10006) with
  | false => rfl
  | true =>
   unfold Zk9
   rw [if_neg (by simp), Bool.true_and, IntWalk.i64_in _ (by omega)]
   by_cases h0 : n = 0
   subst h0; rfl
   obtain ⟨m, rfl⟩ : ∃ m, n = m + 1 := ⟨n - 1, by omega⟩
   have e : ((m + 1 : Nat) : Int) - 1 = (m : Int) := by omega
   rw [e]
   have hb' := hf _ (T7 (show m < f.length by omega))
   obtain ⟨r, h1, h2⟩ := Wm9 (K := K) (by omega) hb' hb
   rw [if_pos (by omega), if_pos (by omega), if_pos (by omega), Yk9 (by omega) hb', Yk9 (by omega) hb, Option.bind_some, Option.bind_some, h1, Option.bind_some]
   simp only [Nat.succ_ne_zero, decide_false, Bool.false_or]
   cases hq : bef (rd f (m : Int)).1 (rd f ((m + 1 : Nat) : Int)).1 with
   | true => rw [hq] at h2; rw [if_neg (by simpa using h2)]; rfl
   | false => rw [hq] at h2; rw [if_pos (by simpa using h2)]; rfl
 show M4 K ds f (k + 1) n = _
 rw [M4, if_neg (by omega)]
def wtN (ds : List Int) (m : A8) : Nat → Int
 | 0 => 0
 | n + 1 => wtN ds m n + rd ds (n : Int) * Y5 m (n : Int)
def wt (ds : List Int) (m : A8) : Int := wtN ds m ds.length
theorem Xk4 {ds : List Int} {m : A8} (hd : okD ds = true) (hm : Byt m) {n : Nat} (hn : n < ds.length) : 0 ≤ rd ds (n : Int) * Y5 m n ∧ rd ds (n : Int) * Y5 m n ≤ 3060 := by
 have h1 := D1 hd _ (T7 hn)
 have h2 := hm.idx n
 refine ⟨Int.mul_nonneg (by omega) h2.1, ?_⟩
 calc rd ds (n : Int) * Y5 m n ≤ 12 * Y5 m n := Int.mul_le_mul_of_nonneg_right h1.2 h2.1
  _ ≤ 3060 := by omega
theorem Ye9 {ds : List Int} {m : A8} (hd : okD ds = true) (hm : Byt m) : ∀ n : Nat, n ≤ ds.length → 0 ≤ wtN ds m n ∧ wtN ds m n ≤ 3060 * n
 | 0, _ => by simp [wtN]
 | n + 1, h => by
  have h1 := Ye9 hd hm n (by omega)
  have h2 := Xk4 hd hm (n := n) (by omega)
  rw [wtN]; omega
theorem Xv8 {ds : List Int} {m : A8} (hd : okD ds = true) (hm : Byt m) : 0 ≤ wt ds m ∧ wt ds m ≤ 24480 := by
 have h1 := Ye9 hd hm ds.length (Nat.le_refl _)
 have h2 := J2 hd
 unfold wt; omega
theorem Xx4 {K : Nat} {ds : List Int} {m : A8} (hd : okD ds = true) (hm : Byt m) : ∀ (k n : Nat), n ≤ ds.length → ds.length < n + k → I6 K ds m k (wtN ds m n) n = some (.go (wt ds m)) := by
 have hl := J2 hd
 intro k
 induction k with
 | zero => intro n h1 h2; omega
 | succ k ih =>
  intro n h1 h2
  rw [I6]
  by_cases hn : n < ds.length
  have h3 := Xk4 hd hm hn
  have h4 := Ye9 hd hm n (by omega)
  have h5 := hm.idx n
  rw [if_pos (by omega), if_pos (by omega), IntWalk.i64_in (Y5 m n) (by omega), IntWalk.i64_in (rd ds (n : Int) * Y5 m n) (by omega), IntWalk.i64_in _ (by omega)]
  exact ih (n + 1) (by omega) (by omega)
  rw [if_neg (by omega)]
  have : n = ds.length := by omega
  subst this; rfl
theorem Xb5 {K : Nat} {ds : List Int} {m : A8} (hK : 8 < K) (hd : okD ds = true) (hm : Byt m) : B9 K ds m = some (wt ds m) := by
 have hl := J2 hd
 have := Xx4 (K := K) hd hm K 0 (by omega) (by omega)
 unfold B9
 replace this : I6 K ds m K 0 0 = _ := this
 rw [this]; rfl
theorem Xy1 {K : Nat} {ds : List Int} {m : A8} (hd : okD ds = true) (hm : Byt m) : ∀ (k n : Nat), n ≤ ds.length → ds.length < n + k → L0 K m ds k (wtN ds m n) n = some (.go (wt ds m)) := by
 have hl := J2 hd
 intro k
 induction k with
 | zero => intro n h1 h2; omega
 | succ k ih =>
  intro n h1 h2
  rw [L0]
  by_cases hn : n < ds.length
  have h3 := Xk4 hd hm hn
  have h4 := Ye9 hd hm n (by omega)
  rw [if_pos (by omega), if_pos (by omega), IntWalk.i64_in (rd ds (n : Int) * Y5 m n) (by omega), IntWalk.i64_in _ (by omega)]
  exact ih (n + 1) (by omega) (by omega)
  rw [if_neg (by omega)]
  have : n = ds.length := by omega
  subst this; rfl
theorem Wt2 {K : Nat} {ds : List Int} {m : A8} (hK : 8 < K) (hd : okD ds = true) (hm : Byt m) : Zf6 K m ds = some (wt ds m) := by
 have hl := J2 hd
 have := Xy1 (K := K) hd hm K 0 (by omega) (by omega)
 unfold Zf6
 replace this : L0 K m ds K 0 0 = _ := this
 rw [this]; rfl
/-- all terms of a form have this degree -/
def okG (ds : List Int) (f : MpT) (n : Int) : Bool := f.all fun t => decide (wt ds t.1 = n)
theorem Xh8 {f : MpT} {c : B1 → Bool} (h : 0 < f.length) : ((List.range' 1 (f.length - 1)).all fun j => c (rd f (j : Int))) = f.tail.all c := by
 obtain ⟨t, f, rfl⟩ : ∃ t f', f = t :: f' := by cases f with | nil => simp at h | cons t f => exact ⟨t, f, rfl⟩
 rw [Bool.eq_iff_iff, List.all_eq_true, List.all_eq_true, List.tail_cons, List.length_cons]
 constructor
 intro h x hx
 obtain ⟨i, hi, rfl⟩ := List.getElem_of_mem hx
 have := h (i + 1) (by rw [List.mem_range'_1]; omega)
 rwa [Zd1 (by simp; exact hi), List.getElem_cons_succ] at this
 intro h j hj
 rw [List.mem_range'_1] at hj
 obtain ⟨i, rfl⟩ : ∃ i, j = i + 1 := ⟨j - 1, by omega⟩
 rw [Zd1 (by simp; omega), List.getElem_cons_succ]
 exact h _ (List.getElem_mem _)
theorem Xt0 {ds : List Int} {f : MpT} {n : Int} (h : 0 < f.length) : okG ds f n = (f.tail.all (fun t => decide (wt ds t.1 = wt ds (rd f 0).1)) && decide (wt ds (rd f 0).1 = n)) := by
 obtain ⟨t, f, rfl⟩ : ∃ t f', f = t :: f' := by cases f with | nil => simp at h | cons t f => exact ⟨t, f, rfl⟩
 have e : rd (t :: f) 0 = t := rfl
 unfold okG
 rw [e, List.tail_cons, List.all_cons]
 by_cases hn : wt ds t.1 = n
 subst hn; simp
 simp [hn]
theorem Wk1 {K : Nat} {ds : List Int} {f : MpT} (hK : 8 < K) (hl : f.length < K) (hd : okD ds = true) (hf : Yb8 f) :
 ∃ r, Zk4 K ds f = some r ∧ ∀ n, (r.2 && (decide (f.length = 0) || decide (r.1 = n))) = okG ds f n := by
 unfold Zk4
 by_cases h0 : f.length = 0
 rw [if_pos (by omega)]
 refine ⟨_, rfl, fun n => ?_⟩
 have : f = [] := List.eq_nil_of_length_eq_zero h0
 subst this; rfl
 have hb0 : Byt (rd f 0).1 := hf _ (T7 (n := 0) (by omega))
 rw [if_neg (by omega), if_pos (by omega), Xb5 hK hd hb0, Option.bind_some]
 have := Yz8 (g := ()) (fun k i => L8 K ds f (wt ds (rd f 0).1) k i) f.length (fun j => decide (wt ds (rd f (j : Int)).1 = wt ds (rd f 0).1)) (0, false) (fun k n => ?_) K 1 (by omega) (by omega)
 replace this : L8 K ds f (wt ds (rd f 0).1) K 1 = _ := this
 refine ⟨if f.tail.all (fun t => decide (wt ds t.1 = wt ds (rd f 0).1)) = true then (wt ds (rd f 0).1, true) else (0, false), ?_, fun n => ?_⟩
 rw [this, Xh8 (c := fun t => decide (wt ds t.1 = wt ds (rd f 0).1)) (by omega)]
 split <;> rfl
 rw [Xt0 (by omega)]
 cases f.tail.all (fun t => decide (wt ds t.1 = wt ds (rd f 0).1)) with
 | true => simp [h0]
 | false => simp
 show L8 K ds f (wt ds (rd f 0).1) (k + 1) n = _
 rw [L8]
 by_cases hn : n < f.length
 rw [if_pos (by omega), if_pos (by omega), Xb5 hK hd (hf _ (T7 hn)), Option.bind_some]
 simp only [decide_eq_true_eq]
 rw [if_neg (by omega), if_neg (by omega)]
theorem Wn1 {K : Nat} {ds : List Int} {f : MpT} {n : Int} (hK : 8 < K) (hl : f.length < K) (hd : okD ds = true) (hf : Yb8 f) (hn : 0 ≤ n) : Zj2 K ds f n = some (okG ds f n) := by
 unfold Zj2 Zu2
 by_cases h0 : f.length = 0
 have : f = [] := List.eq_nil_of_length_eq_zero h0
 subst this
 obtain ⟨k, rfl⟩ : ∃ k, K = k + 1 := ⟨K - 1, by omega⟩
 rw [T8]; rfl
 have step : ∀ (k m : Nat) (out : Int), m < f.length → T8 K ds f (k + 1) out m = if 0 ≤ out ∧ wt ds (rd f (m : Int)).1 ≠ out then some (.ret (0, false)) else T8 K ds f k (wt ds (rd f (m : Int)).1) ((m : Int) + 1) := by
  intro k m out hm
  have hb := hf _ (T7 hm)
  rw [T8, if_pos (by omega), Yk9 hK hb, Option.bind_some, Wt2 hK hd hb, Option.bind_some]
  unfold Zh1
  by_cases h1 : 0 ≤ out
  by_cases h2 : wt ds (rd f (m : Int)).1 = out
  rw [if_pos h1, if_neg (by simp [h2]), if_neg (by simp [h2])]
  rw [if_pos h1, if_pos (by simp [h2]), if_pos ⟨h1, h2⟩]
  rw [if_neg h1, if_neg (by simp), if_neg (by simp [h1])]
 have hw := Xv8 hd (hf _ (T7 (n := 0) (by omega)))
 replace hw : 0 ≤ wt ds (rd f 0).1 ∧ wt ds (rd f 0).1 ≤ 24480 := hw
 obtain ⟨k, rfl⟩ : ∃ k, K = k + 1 := ⟨K - 1, by omega⟩
 have s0 := step k 0 (-1) (by omega)
 rw [if_neg (by simp)] at s0
 replace s0 : T8 (k + 1) ds f (k + 1) (-1) 0 = T8 (k + 1) ds f k (wt ds (rd f 0).1) 1 := s0
 have := Yz8 (g := wt ds (rd f 0).1) (fun k' i => T8 (k + 1) ds f k' (wt ds (rd f 0).1) i) f.length (fun j => decide (wt ds (rd f (j : Int)).1 = wt ds (rd f 0).1)) (0, false) (fun k' m => ?_) k 1 (by omega) (by omega)
 replace this : T8 (k + 1) ds f k (wt ds (rd f 0).1) 1 = _ := this
 rw [s0, this, Xh8 (c := fun t => decide (wt ds t.1 = wt ds (rd f 0).1)) (by omega), Xt0 (by omega)]
 cases f.tail.all (fun t => decide (wt ds t.1 = wt ds (rd f 0).1)) with
 | true =>
  rw [if_pos rfl]
  simp only [Option.bind_some, Ex.elim, if_true, Bool.true_and]
  rw [if_neg (by omega)]
 | false => rfl
 show T8 (k + 1) ds f (k' + 1) (wt ds (rd f 0).1) m = _
 by_cases hm : m < f.length
 rw [step k' m _ hm, if_pos (show (m : Int) < f.length by omega)]
 by_cases h2 : wt ds (rd f (m : Int)).1 = wt ds (rd f 0).1
 rw [if_neg (by simp [h2]), h2]; simp
 rw [if_pos ⟨hw.1, h2⟩, if_neg (by simpa using h2)]
 rw [T8, if_neg (by omega), if_neg (by omega)]
/-- factors that are not too large -/
def SmF (g : MpT) : Prop := ∀ t, t ∈ g → -10006 ≤ t.2 ∧ t.2 ≤ 10006
theorem Yk7 {k x : Int} (hk : -10006 ≤ k ∧ k ≤ 10006) (hx : -10006 ≤ x ∧ x ≤ 10006) : -100120036 ≤ k * x ∧ k * x ≤ 100120036 := by
 have h1 : (k * x).natAbs ≤ 10006 * 10006 := by
  rw [Int.natAbs_mul]
  exact Nat.mul_le_mul (by omega) (by omega)
 omega
theorem Zw3 {f : MpT} {i : Nat} (h : i < f.length) : f.drop i = rd f (i : Int) :: f.drop (i + 1) := by rw [Zd1 h]; exact List.drop_eq_getElem_cons h
theorem Wq3 {K : Nat} {f g : MpT} {kk : Int} (hK : 8 < K) (hk : -10006 ≤ kk ∧ kk ≤ 10006) (hf : SmF f) (hg : SmF g) (hfl : f.length ≤ 274877906944) (hgl : g.length ≤ 274877906944) :
 ∀ (k i j : Nat) (out : MpT), i ≤ f.length → j ≤ g.length → (f.length - i) + (g.length - j) < k → out.length ≤ i + j →
  R8 K f g kk k (i : Int) out (j : Int) = some (.go (out ++ mrg kk (f.drop i) (g.drop j))) := by
 intro k
 induction k with
 | zero => intro i j out h1 h2 h3 h4; omega
 | succ k ih =>
  intro i j out h1 h2 h3 h4
  have w1 : ∀ n : Nat, n ≤ 274877906944 → IntKind.i64.wrap ((n : Int) + 1) = ((n + 1 : Nat) : Int) := fun n hn => by rw [IntWalk.i64_in _ (by omega)]; rfl
  -- a term of f
  have fF : i < f.length → F0 K (R8 K f g kk k) f g kk i j out true = some (.go (out ++ (rd f (i : Int) :: mrg kk (f.drop (i + 1)) (g.drop j)))) := by
   intro hi
   unfold F0
   rw [if_pos rfl, if_pos (by omega), if_pos (by omega), if_pos (by simp; omega), w1 i (by omega), ih (i + 1) j _ (by omega) h2 (by omega) (by simp; omega)]
   simp
  -- a term of g
  have fG : j < g.length → D2 K (R8 K f g kk k) f g kk i j out true = some (.go (out ++ cnz (rd g (j : Int)).1 ((kk * (rd g (j : Int)).2) % 10007) (mrg kk (f.drop i) (g.drop (j + 1))))) := by
   intro hj
   have hm := Yk7 hk (hg _ (T7 hj))
   unfold D2
   rw [if_pos rfl, if_pos (by omega), if_pos (by omega), Ye4, Option.bind_some, IntWalk.i64_in _ (by omega), w1 j (by omega)]
   unfold cnz
   by_cases h0 : kk * (rd g (j : Int)).2 % 10007 = 0
   rw [if_pos h0, if_pos h0, ih i (j + 1) _ h1 (by omega) (by omega) (by omega)]
   rw [if_neg h0, if_neg h0, if_pos (by simp; omega), ih i (j + 1) _ h1 (by omega) (by omega) (by simp; omega)]
   simp
  have fB : i < f.length → j < g.length → D2 K (R8 K f g kk k) f g kk i j out false = some (.go (out ++ cnz (rd f (i : Int)).1 (((rd f (i : Int)).2 + (kk * (rd g (j : Int)).2) % 10007) % 10007) (mrg kk (f.drop (i + 1)) (g.drop (j + 1))))) := by
   intro hi hj
   have hm := Yk7 hk (hg _ (T7 hj))
   have hm2 := hf _ (T7 hi)
   unfold D2 Zi8
   rw [if_neg (by simp), if_pos (by omega), if_pos (by omega), if_pos (by omega), if_pos (by omega), Ye4, Option.bind_some, Ye4, Option.bind_some, IntWalk.i64_in (kk * (rd g (j : Int)).2) (by omega), IntWalk.i64_in ((rd f (i : Int)).2 + _) (by omega), w1 j (by omega), w1 i (by omega)]
   unfold cnz
   by_cases h0 : ((rd f (i : Int)).2 + kk * (rd g (j : Int)).2 % 10007) % 10007 = 0
   rw [if_pos h0, if_pos h0, ih (i + 1) (j + 1) _ (by omega) (by omega) (by omega) (by omega)]
   rw [if_neg h0, if_neg h0, if_pos (by simp; omega), ih (i + 1) (j + 1) _ (by omega) (by omega) (by omega) (by simp; omega)]
   simp
  rw [R8]
  by_cases hi : i < f.length
  rw [if_pos (by omega)]
  unfold Ze6
  rw [if_pos rfl]
  by_cases hj : j < g.length
  rw [if_neg (by omega), if_pos (by omega), if_pos (by omega), if_pos (by omega), if_pos (by omega), Xc3 hK, Option.bind_some, Zw3 hi, Zw3 hj, mrg]
  cases hb : bef (rd f (i : Int)).1 (rd g (j : Int)).1 with
  | true => rw [fF hi, if_pos rfl, Zw3 hj]
  | false =>
   rw [if_neg (by simp)]
   unfold F0
   rw [if_neg (by simp), if_neg (by omega), if_pos (by omega), if_pos (by omega), if_pos (by omega), if_pos (by omega), Xc3 hK, Option.bind_some]
   cases hb2 : bef (rd g (j : Int)).1 (rd f (i : Int)).1 with
   | true => rw [fG hj, if_pos rfl, Zw3 hi]
   | false => rw [fB hi hj, if_neg (by simp)]
  have e : j = g.length := by omega
  rw [if_pos (by omega), fF hi, Zw3 hi]
  subst e
  simp [mrg]
  have e : i = f.length := by omega
  rw [if_neg (by omega)]
  unfold Ze6
  by_cases hj : j < g.length
  rw [if_pos (by simpa using hj), if_neg (by omega), if_neg (by omega)]
  unfold F0
  rw [if_neg (by simp), if_pos (by omega), fG hj, Zw3 hj]
  subst e
  rw [List.drop_length, mrg]
  rw [if_neg (by simpa using hj)]
  have e2 : j = g.length := by omega
  subst e; subst e2
  simp [mrg]
theorem Wu2 {K : Nat} {f g : MpT} {kk : Int} (hK : 8 < K) (hl : f.length + g.length < K) (hk : -10006 ≤ kk ∧ kk ≤ 10006) (hf : SmF f) (hg : SmF g) (hfl : f.length ≤ 274877906944) (hgl : g.length ≤ 274877906944) :
 Zn0 K f g kk = some (mrg kk f g) := by
 have := Wq3 hK hk hf hg hfl hgl K 0 0 [] (by omega) (by omega) (by omega) (by simp)
 unfold Zn0
 replace this : R8 K f g kk K 0 [] 0 = some (.go (mrg kk f g)) := this
 rw [this]; rfl
theorem Yq5 {s : MpT} {p : A8} {f f' : Int} (h : f % 10007 = f' % 10007) : Zu0 s p f = Zu0 s p f' := by
 unfold Zu0
 rw [show (N3 s p + f) % 10007 = (N3 s p + f') % 10007 by omega]
theorem Zv0 {s : MpT} (h : nfm s = true) : SmF s := fun t ht => by have := Yc7 h t ht; omega
theorem Xs2 (x : Int) : (x.tmod 10007) % 10007 = x % 10007 := by
 rw [Int.tmod_eq_emod]; split <;> omega
theorem Yy6 {K : Nat} {a : Int} (ha : -10006 ≤ a ∧ a ≤ 10006) : ∀ (k : Nat) (t s : MpT), t.length < k → SmF t → nfm s = true → U0 K a k t s = some (.go (I3 (scl a t) s))
 | 0, _, _, h, _, _ => by omega
 | k + 1, [], s, _, _, _ => by rw [U0]; rfl
 | k + 1, z :: t, s, h, ht, hs => by
  have hz := ht z (List.mem_cons_self ..)
  have hm := Yk7 hz ha
  have hb : -10006 ≤ (z.2 * a).tmod 10007 ∧ (z.2 * a).tmod 10007 ≤ 10006 := by rw [Int.tmod_eq_emod]; split <;> omega
  rw [U0, IntWalk.i64_in _ (by omega), Yj1 ⟨hs, by omega, by omega⟩, Option.bind_some, Yy6 ha k t _ (by simpa using h) (fun q hq => ht q (List.mem_cons_of_mem _ hq)) (Zg3 hs _ _)]
  rw [Yq5 (f' := a * z.2) (by rw [Xs2, Int.mul_comm])]
  rfl
theorem Wr3 {K : Nat} {a : Int} {t s : MpT} (ha : -10006 ≤ a ∧ a ≤ 10006) (hl : t.length < K) (ht : SmF t) (hs : nfm s = true) : F1 K s t a = some (I3 (scl a t) s) := by
 unfold F1
 rw [Yy6 ha K t s hl ht hs]; rfl
/-- exponents at most B, at most 1 for odd generators, none behind the last one -/
structure Mo (B : Int) (ds : List Int) (p : A8) : Prop where
 lo : ∀ i, 0 ≤ p i
 hi : ∀ i, p i ≤ B
 odd : ∀ n : Nat, n < ds.length → rd ds (n : Int) % 2 = 1 → Y5 p n ≤ 1
 out : ∀ i : Fin 8, ds.length ≤ i.val → p i = 0
theorem Xi6 {p : A8} {B : Int} (lo : ∀ i, 0 ≤ p i) (hi : ∀ i, p i ≤ B) (h0 : 0 ≤ B) (n : Nat) : 0 ≤ Y5 p n ∧ Y5 p n ≤ B := by
 by_cases hn : n < 8
 rw [T2 p hn]; exact ⟨lo _, hi _⟩
 simp [Y5, hn]; exact h0
def Yb4 (p q : A8) : A8 := fun i => p i + q i
theorem Wb7 (p q : A8) (n : Nat) : Y5 (Yb4 p q) n = Y5 p n + Y5 q n := by
 by_cases hn : n < 8
 rw [T2 _ hn, T2 _ hn, T2 _ hn]; rfl
 simp [Y5, hn]
def od (ds : List Int) (p : A8) : Nat → Nat → Int
 | 0, _ => 0
 | n + 1, j => rd ds (j : Int) % 2 * Y5 p (j : Int) + od ds p n (j + 1)
def tot (ds : List Int) (p q : A8) : Nat → Nat → Option Int
 | 0, _ => some 0
 | n + 1, i => if rd ds (i : Int) % 2 = 0 then tot ds p q n (i + 1) else if 0 < Y5 p i ∧ 0 < Y5 q i then none else (tot ds p q n (i + 1)).map fun t => (if 0 < Y5 q i then od ds p n (i + 1) else 0) + t
def sg (t : Int) : Int := if t % 2 = 1 then -1 else 1
def I4 (ds : List Int) (p q : A8) : A8 × Int :=
 match tot ds p q ds.length 0 with
 | none => ((fun _ => 0), 0)
 | some t => (Yb4 p q, sg t)
theorem Xd4 {ds : List Int} {p : A8} {B : Int} (lo : ∀ i, 0 ≤ p i) (hi : ∀ i, p i ≤ B) (h0 : 0 ≤ B) : ∀ n j : Nat, 0 ≤ od ds p n j ∧ od ds p n j ≤ B * n
 | 0, _ => by simp [od]
 | n + 1, j => by
  have h1 := Xd4 lo hi h0 (ds := ds) n (j + 1)
  have h2 := Xi6 lo hi h0 j
  rw [od, show B * ((n + 1 : Nat) : Int) = B * n + B by rw [Int.natCast_add, Int.mul_add]; simp]
  rcases Int.emod_two_eq (rd ds (j : Int)) with e | e
  rw [e]; omega
  rw [e]; omega
theorem Yv1 {ds : List Int} {p q : A8} {B : Int} (lo : ∀ i, 0 ≤ p i) (hi : ∀ i, p i ≤ B) (h0 : 0 ≤ B) : ∀ (n i : Nat) (t : Int), tot ds p q n i = some t → 0 ≤ t ∧ t ≤ (B * 8) * n ∨ 8 < n
 | 0, i, t, h => by cases h; simp
 | n + 1, i, t, h => by
  rw [tot] at h
  have e : B * 8 * ((n + 1 : Nat) : Int) = B * 8 * n + B * 8 := by rw [Int.natCast_add, Int.mul_add]; simp
  by_cases h8 : 8 < n + 1
  exact .inr h8
  refine .inl ?_
  split at h
  have := Yv1 lo hi h0 n _ t h; omega
  split at h
  cases h
  obtain ⟨u, hu, rfl⟩ := Option.map_eq_some_iff.1 h
  have h1 := Yv1 lo hi h0 n _ u hu
  have h2 := Xd4 lo hi h0 (ds := ds) n (i + 1)
  have h3 : B * (n : Int) ≤ B * 8 := Int.mul_le_mul_of_nonneg_left (by omega) h0
  split <;> omega
section
variable {K : Nat} {ds : List Int} {p q : A8}
theorem Wr5 {B : Int} (hd : okD ds = true) (lo : ∀ i, 0 ≤ p i) (hi : ∀ i, p i ≤ B) (h0 : 0 ≤ B) (hB : B ≤ 1000) : ∀ (k j : Nat) (s : Int), ds.length < j + k → j ≤ ds.length → 0 ≤ s ∧ s ≤ 1000000000 + 1000 * j →
 K4 K p ds k s j = some (.go (s + od ds p (ds.length - j) j)) := by
 have hl := J2 hd
 intro k
 induction k with
 | zero => intro j s h1 h2; omega
 | succ k ih =>
  intro j s h1 h2 hs
  rw [K4]
  by_cases hj : j < ds.length
  have h3 := D1 hd _ (T7 hj)
  have h4 := Xi6 lo hi h0 j
  have h5 : 0 ≤ rd ds (j : Int) % 2 * Y5 p j ∧ rd ds (j : Int) % 2 * Y5 p j ≤ 1000 := by
   rcases Int.emod_two_eq (rd ds (j : Int)) with e | e <;> rw [e] <;> omega
  rw [if_pos (by omega), if_pos (by omega), Yd9 (by omega), IntWalk.i64_in (rd ds (j : Int) % 2 * Y5 p j) (by omega), IntWalk.i64_in _ (by omega)]
  have e := ih (j + 1) (s + rd ds (j : Int) % 2 * Y5 p j) (by omega) (by omega) (by omega)
  obtain ⟨m, hm⟩ : ∃ m, ds.length - j = m + 1 := ⟨ds.length - j - 1, by omega⟩
  have e2 : ds.length - (j + 1) = m := by omega
  rw [e2] at e
  rw [hm, od, ← Int.add_assoc]; exact e
  rw [if_neg (by omega), show ds.length - j = 0 by omega, od, Int.add_zero]
theorem Wo4 {B : Int} (hK : 8 < K) (hd : okD ds = true) (lo : ∀ i, 0 ≤ p i) (hi : ∀ i, p i ≤ B) (h0 : 0 ≤ B) (hB : B ≤ 1000) : ∀ (k i : Nat) (s : Int), ds.length < i + k → i ≤ ds.length → 0 ≤ s ∧ s ≤ 8000 * i →
 T4 K p ds q k i s = some (match tot ds p q (ds.length - i) i with | none => .ret ((fun _ => 0), 0) | some t => .go (s + t)) := by
 have hl := J2 hd
 intro k
 induction k with
 | zero => intro j s h1 h2; omega
 | succ k ih =>
  intro i s h1 h2 hs
  rw [T4]
  by_cases hj : i < ds.length
  have h3 := D1 hd _ (T7 hj)
  obtain ⟨m, hm⟩ : ∃ m, ds.length - i = m + 1 := ⟨ds.length - i - 1, by omega⟩
  have e2 : ds.length - (i + 1) = m := by omega
  rw [if_pos (by omega), Yd9 (by omega), hm, tot]
  by_cases he : rd ds (i : Int) % 2 = 0
  rw [if_pos he, if_pos he]
  have := ih (i + 1) s (by omega) (by omega) (by omega)
  rw [e2] at this; exact this
  rw [if_neg he, if_neg he, if_pos (by omega)]
  have key : F3 K (T4 K p ds q k) p ds q i s false = some (match (tot ds p q m (i + 1)).map fun t => (if 0 < Y5 q i then od ds p m (i + 1) else 0) + t with | none => .ret ((fun _ => 0), 0) | some t => .go (s + t)) := by
   unfold F3
   rw [if_neg (by simp), if_pos (by omega)]
   by_cases hq : 0 < Y5 q i
   have hb := Xd4 lo hi h0 (ds := ds) m (i + 1)
   have hb2 : B * (m : Int) ≤ 1000 * 8 := by
    calc B * (m : Int) ≤ 1000 * m := Int.mul_le_mul_of_nonneg_right hB (by omega)
     _ ≤ 1000 * 8 := by omega
   have h5 := Wr5 (K := K) hd lo hi h0 hB K (i + 1) s (by omega) (by omega) (by omega)
   have h6 := ih (i + 1) (s + od ds p m (i + 1)) (by omega) (by omega) (by omega)
   rw [e2] at h5 h6
   rw [if_pos hq]
   replace h5 : K4 K p ds K s ((i : Int) + 1) = _ := h5
   rw [h5, Option.bind_some]
   show T4 K p ds q k ((i : Int) + 1) (s + od ds p m (i + 1)) = _
   replace h6 : T4 K p ds q k ((i : Int) + 1) (s + od ds p m (i + 1)) = _ := h6
   rw [h6]
   cases tot ds p q m (i + 1) with
   | none => rfl
   | some t => simp only [Option.map_some, hq, if_true, Int.add_assoc]
   have h6 := ih (i + 1) s (by omega) (by omega) (by omega)
   rw [e2] at h6
   rw [if_neg hq]
   replace h6 : T4 K p ds q k ((i : Int) + 1) s = _ := h6
   rw [h6]
   cases tot ds p q m (i + 1) with
   | none => rfl
   | some t => simp only [Option.map_some, hq, if_false, Int.zero_add]
  by_cases hp : 0 < Y5 p i
  rw [if_pos hp]
  by_cases hq : 0 < Y5 q i
  rw [if_pos ⟨hp, hq⟩]
  unfold F3
  rw [if_pos (by simpa using hq)]
  rw [if_neg (fun h => hq h.2), show decide (0 < Y5 q (i : Int)) = false by simpa using hq]; exact key
  rw [if_neg hp, if_neg (fun h => hp h.1)]; exact key
  rw [if_neg (by omega), show ds.length - i = 0 by omega, tot]; simp
theorem Wo6 {B : Int} (lo : ∀ i, 0 ≤ p i) (hi : ∀ i, p i ≤ B) (lo2 : ∀ i, 0 ≤ q i) (hi2 : ∀ i, q i ≤ B) (hB : B ≤ 1000) : ∀ (k n : Nat) (box : A8), n ≤ 8 → 8 < n + k → (∀ j : Fin 8, box j = if j.val < n then p j + q j else p j) →
 N9 K q k n box = some (.go (Yb4 p q)) := by
 intro k
 induction k with
 | zero => intro n box h1 h2; omega
 | succ k ih =>
  intro n box h1 h2 hb
  rw [N9]
  by_cases hn : n < 8
  rw [if_pos (by omega)]
  refine ih (n + 1) _ (by omega) (by omega) (fun j => ?_)
  rw [Ze5 _ hn, T2 _ hn, T2 _ hn]
  by_cases e : j.val = n
  have ej : (⟨n, hn⟩ : Fin 8) = j := Fin.ext e.symm
  rw [if_pos e, if_pos (by omega), ej, hb j, if_neg (by omega)]
  have h3 := lo j; have h4 := hi j; have h5 := lo2 j; have h6 := hi2 j
  exact IntWalk.i64_in _ (by omega)
  rw [if_neg e, hb j]
  by_cases hj : j.val < n
  rw [if_pos hj, if_pos (by omega)]
  rw [if_neg hj, if_neg (by omega)]
  rw [if_neg (by omega)]
  congr 2
  funext j
  rw [hb j, if_pos (by omega)]; rfl
theorem Wz9 {B : Int} (hK : 8 < K) (hd : okD ds = true) (lo : ∀ i, 0 ≤ p i) (hi : ∀ i, p i ≤ B) (lo2 : ∀ i, 0 ≤ q i) (hi2 : ∀ i, q i ≤ B) (h0 : 0 ≤ B) (hB : B ≤ 1000) : F9 K p ds q = some (I4 ds p q) := by
 have hl := J2 hd
 have h1 := Wo4 (K := K) (q := q) hK hd lo hi h0 hB K 0 0 (by omega) (by omega) (by simp)
 unfold F9 I4
 replace h1 : T4 K p ds q K 0 0 = _ := h1
 rw [h1, Option.bind_some, Nat.sub_zero]
 cases ht : tot ds p q ds.length 0 with
 | none => rfl
 | some t =>
  have hb := Yv1 lo hi h0 _ _ _ ht
  have h2 := Wo6 (K := K) lo hi lo2 hi2 hB K 0 p (by omega) (by omega) (fun j => by simp)
  replace h2 : N9 K q K 0 p = _ := h2
  show (N9 K q K 0 p).bind _ = _
  rw [h2, Option.bind_some]
  show (if (0 + t).tmod 2 = 1 then some (Yb4 p q, (-1 : Int)) else some (Yb4 p q, 1)) = _
  rw [Int.zero_add, Yd9 (by omega)]
  unfold sg
  by_cases h : t % 2 = 1 <;> simp [h]
end
theorem Wn0 (a b : Int) : sg (a + b) = sg a * sg b := by
 unfold sg
 rcases Int.emod_two_eq a with h1 | h1 <;> rcases Int.emod_two_eq b with h2 | h2
 rw [if_neg (by omega), if_neg (by omega), if_neg (by omega)]; rfl
 rw [if_pos (by omega), if_neg (by omega), if_pos (by omega)]; rfl
 rw [if_pos (by omega), if_pos (by omega), if_neg (by omega)]; rfl
 rw [if_neg (by omega), if_pos (by omega), if_pos (by omega)]; rfl
theorem Xi2 (a : Int) : sg a = 1 ∨ sg a = -1 := by unfold sg; split <;> simp
section
variable {K : Nat} {ds : List Int} {p q : A8}
theorem Mo.idx {B : Int} (h : Mo B ds p) (n : Nat) : 0 ≤ Y5 p n ∧ (Y5 p n ≤ B ∨ 8 ≤ n) := by
 by_cases hn : n < 8
 rw [T2 p hn]; exact ⟨h.lo _, .inl (h.hi _)⟩
 simp [Y5, hn]; omega
theorem Wj1 {B : Int} (hd : okD ds = true) (hp : Mo B ds p) (i : Int) (h1q : Y5 q i = 1) : ∀ (k j : Nat) (t : Int), ds.length < j + k → j ≤ ds.length →
 S9 K ds p q i k (sg t) j = some (.go (sg (t + od ds p (ds.length - j) j))) := by
 have hl := J2 hd
 intro k
 induction k with
 | zero => intro j s h1 h2; omega
 | succ k ih =>
  intro j t h1 h2
  have w1 : IntKind.i64.wrap ((j : Int) + 1) = ((j + 1 : Nat) : Int) := by rw [IntWalk.i64_in _ (by omega)]; rfl
  rw [S9]
  by_cases hj : j < ds.length
  obtain ⟨m, hm⟩ : ∃ m, ds.length - j = m + 1 := ⟨ds.length - j - 1, by omega⟩
  have e2 : ds.length - (j + 1) = m := by omega
  have h3 := D1 hd _ (T7 hj)
  have h4 := hp.idx j
  rw [if_pos (by omega)]
  unfold E7
  rw [if_pos (by simpa using h1q), if_pos (by omega), if_pos (by omega), Yd9 (by omega), hm, od, ← Int.add_assoc]
  by_cases he : rd ds (j : Int) % 2 = 0
  rw [if_pos he]
  unfold Za2
  have := ih (j + 1) t (by omega) (by omega)
  rw [e2] at this
  rw [if_neg (by simp), w1, this, he, Int.zero_mul, Int.add_zero]
  have ho : rd ds (j : Int) % 2 = 1 := by omega
  have h5 := hp.odd j hj ho
  rw [if_neg he, if_pos (by omega), ho, Int.one_mul]
  unfold Za2
  by_cases h6 : Y5 p j = 1
  have := ih (j + 1) (t + 1) (by omega) (by omega)
  rw [e2] at this
  have e3 : IntKind.i64.wrap (0 - sg t) = sg (t + 1) := by
   rw [Wn0]
   rcases Xi2 t with e | e <;> rw [e] <;> rfl
  rw [if_pos (by simpa using h6), e3, w1, this, h6]
  have := ih (j + 1) t (by omega) (by omega)
  rw [e2] at this
  have e0 : Y5 p j = 0 := by omega
  rw [if_neg (by simpa using h6), w1, this, e0, Int.add_zero]
  rw [if_neg (by omega)]
  unfold E7
  rw [if_neg (by simp), show ds.length - j = 0 by omega, od, Int.add_zero]
theorem Wg6 (hd : okD ds = true) (i : Int) (h1q : Y5 q i ≠ 1) {k : Nat} (hk : 0 < k) (j : Nat) (s : Int) : S9 K ds p q i k s j = some (.go s) := by
 obtain ⟨k, rfl⟩ : ∃ m, k = m + 1 := ⟨k - 1, by omega⟩
 rw [S9]
 unfold E7
 split
 rw [if_neg (by simpa using h1q)]
 rw [if_neg (by simp)]
theorem Wg8 {x : Int} (h : 0 ≤ x ∧ x ≤ 255) : IntKind.u8.wrap x = x := by
 show x % 256 = x
 omega
theorem Wl0 {B C : Int} (hK : 8 < K) (hd : okD ds = true) (hp : Mo B ds p) (hq : Mo C ds q) (hBC : B + C ≤ 255) : ∀ (k i : Nat) (t : Int) (box : A8), ds.length < i + k → i ≤ ds.length →
 (∀ j : Fin 8, box j = if j.val < i then p j + q j else 0) →
 R9 K ds p q k i box (sg t) = some (match tot ds p q (ds.length - i) i with | none => .ret ((fun _ => 0), 0) | some u => .go (sg (t + u), Yb4 p q)) := by
 have hl := J2 hd
 intro k
 induction k with
 | zero => intro j s box h1 h2; omega
 | succ k ih =>
  intro i t box h1 h2 hb
  rw [R9]
  by_cases hj : i < ds.length
  have h3 := D1 hd _ (T7 hj)
  obtain ⟨m, hm⟩ : ∃ m, ds.length - i = m + 1 := ⟨ds.length - i - 1, by omega⟩
  have e2 : ds.length - (i + 1) = m := by omega
  have hi8 : i < 8 := by omega
  have h4 := hp.idx i
  have h5 := hq.idx i
  have hw : IntKind.u8.wrap (Y5 p i + Y5 q i) = Y5 p i + Y5 q i := Wg8 (by omega)
  have hbox : ∀ j : Fin 8, U7 box i (Y5 p i + Y5 q i) j = if j.val < i + 1 then p j + q j else 0 := by
   intro j
   rw [Ze5 _ hi8, T2 _ hi8, T2 _ hi8]
   by_cases e : j.val = i
   have ej : (⟨i, hi8⟩ : Fin 8) = j := Fin.ext e.symm
   rw [if_pos e, if_pos (by omega), ej]
   rw [if_neg e, hb j]
   by_cases hj : j.val < i
   rw [if_pos hj, if_pos (by omega)]
   rw [if_neg hj, if_neg (by omega)]
  rw [if_pos (by omega), if_pos (by omega), Yd9 (by omega), hm, tot, hw]
  by_cases he : rd ds (i : Int) % 2 = 0
  rw [if_pos he, if_pos he]
  have := ih (i + 1) t _ (by omega) (by omega) hbox
  rw [e2] at this; exact this
  have ho : rd ds (i : Int) % 2 = 1 := by omega
  have h6 := hp.odd i hj ho
  have h7 := hq.odd i hj ho
  rw [if_neg he, if_neg he]
  have eb : Y5 (U7 box i (Y5 p i + Y5 q i)) i = Y5 p i + Y5 q i := by rw [T2 _ hi8, Ze5 _ hi8, if_pos rfl]
  rw [eb]
  by_cases hz : 0 < Y5 p i ∧ 0 < Y5 q i
  rw [if_pos (by omega), if_pos hz]
  rw [if_neg (by omega), if_neg hz]
  by_cases h1q : Y5 q i = 1
  have h8 := Wj1 (K := K) hd hp (i : Int) h1q K (i + 1) t (by omega) (by omega)
  rw [e2] at h8
  replace h8 : S9 K ds p q i K (sg t) ((i : Int) + 1) = _ := h8
  rw [h8, Option.bind_some]
  have := ih (i + 1) (t + od ds p m (i + 1)) _ (by omega) (by omega) hbox
  rw [e2] at this
  show R9 K ds p q k ((i : Int) + 1) _ (sg (t + od ds p m (i + 1))) = _
  replace this : R9 K ds p q k ((i : Int) + 1) _ (sg (t + od ds p m (i + 1))) = _ := this
  rw [this]
  cases tot ds p q m (i + 1) with
  | none => rfl
  | some u => simp only [Option.map_some, show 0 < Y5 q (i : Int) by omega, if_true, Int.add_assoc]
  have h8 := Wg6 (K := K) (p := p) hd (i : Int) h1q (k := K) (by omega) (i + 1) (sg t)
  replace h8 : S9 K ds p q i K (sg t) ((i : Int) + 1) = _ := h8
  rw [h8, Option.bind_some]
  have := ih (i + 1) t _ (by omega) (by omega) hbox
  rw [e2] at this
  show R9 K ds p q k ((i : Int) + 1) _ (sg t) = _
  replace this : R9 K ds p q k ((i : Int) + 1) _ (sg t) = _ := this
  rw [this]
  cases tot ds p q m (i + 1) with
  | none => rfl
  | some u => simp only [Option.map_some, show ¬ 0 < Y5 q (i : Int) by omega, if_false, Int.zero_add]
  rw [if_neg (by omega), show ds.length - i = 0 by omega, tot]
  show some (Ex.go (sg t, box)) = some (Ex.go (sg (t + 0), Yb4 p q))
  rw [Int.add_zero]
  congr 3
  funext j
  rw [hb j]
  by_cases hj : j.val < i
  rw [if_pos hj]; rfl
  rw [if_neg hj]
  show (0 : Int) = p j + q j
  rw [hp.out j (by omega), hq.out j (by omega)]; rfl
theorem Wq1 {B C : Int} (hK : 8 < K) (hd : okD ds = true) (hp : Mo B ds p) (hq : Mo C ds q) (hBC : B + C ≤ 255) : Zk6 K ds p q = some (I4 ds p q) := by
 have hl := J2 hd
 have h1 := Wl0 (K := K) hK hd hp hq hBC K 0 0 (fun _ => 0) (by omega) (by omega) (fun j => by simp)
 unfold Zk6 I4
 replace h1 : R9 K ds p q K 0 (fun _ => 0) 1 = _ := h1
 rw [h1, Option.bind_some, Nat.sub_zero]
 cases tot ds p q ds.length 0 with
 | none => rfl
 | some u =>
  show some (Yb4 p q, sg (0 + u)) = some (Yb4 p q, sg u)
  rw [Int.zero_add]
/-- products that are not 0 -/
theorem Yw2 (h : (I4 ds p q).2 ≠ 0) : (I4 ds p q).1 = Yb4 p q ∧ ∃ t, tot ds p q ds.length 0 = some t := by
 unfold I4 at h ⊢
 cases hq : tot ds p q ds.length 0 with
 | none => rw [hq] at h; exact absurd rfl h
 | some t => exact ⟨rfl, t, rfl⟩
theorem Xn4 : (I4 ds p q).2 = 0 ∨ (I4 ds p q).2 = 1 ∨ (I4 ds p q).2 = -1 := by
 unfold I4
 cases tot ds p q ds.length 0 with
 | none => exact .inl rfl
 | some t => exact .inr (Xi2 t)
theorem Xk3 : ∀ (n i : Nat) (t : Int), tot ds p q n i = some t → ∀ j, i ≤ j → j < i + n → rd ds (j : Int) % 2 = 1 → ¬ (0 < Y5 p j ∧ 0 < Y5 q j)
 | 0, i, t, _, j, h1, h2, _ => by omega
 | n + 1, i, t, h, j, h1, h2, ho => by
  rw [tot] at h
  by_cases e : i = j
  subst e
  rw [if_neg (by omega)] at h
  split at h
  cases h
  rename_i hn; exact hn
  split at h
  exact Xk3 n (i + 1) t h j (by omega) (by omega) ho
  split at h
  cases h
  obtain ⟨u, hu, _⟩ := Option.map_eq_some_iff.1 h
  exact Xk3 n (i + 1) u hu j (by omega) (by omega) ho
theorem Mo.mul {B C : Int} (hp : Mo B ds p) (hq : Mo C ds q) (h : (I4 ds p q).2 ≠ 0) : Mo (B + C) ds (I4 ds p q).1 := by
 obtain ⟨e, t, ht⟩ := Yw2 h
 rw [e]
 refine ⟨fun i => Int.add_nonneg (hp.lo i) (hq.lo i), fun i => Int.add_le_add (hp.hi i) (hq.hi i), fun n hn ho => ?_, fun i hi => ?_⟩
 rw [Wb7]
 have h1 := hp.odd n hn ho
 have h2 := hq.odd n hn ho
 have h3 := Xk3 _ _ _ ht n (by omega) (by omega) ho
 omega
 show p i + q i = 0
 rw [hp.out i hi, hq.out i hi]; rfl
end
def Zu3 (ds : List Int) (z : B1) (t : MpT) : MpT := t.filterMap fun q => if (I4 ds z.1 q.1).2 = 0 then none else some ((I4 ds z.1 q.1).1, (I4 ds z.1 q.1).2 * z.2 * q.2)
def Zl3 (ds : List Int) (s t : MpT) : MpT := s.flatMap fun z => Zu3 ds z t
def MoL (B : Int) (ds : List Int) (s : MpT) : Prop := ∀ t, t ∈ s → Mo B ds t.1
theorem Xc7 {a x y : Int} (ha : a = 0 ∨ a = 1 ∨ a = -1) (hx : -10006 ≤ x ∧ x ≤ 10006) (hy : -10006 ≤ y ∧ y ≤ 10006) : (-10006 ≤ a * x ∧ a * x ≤ 10006) ∧ -100120036 ≤ a * x * y ∧ a * x * y ≤ 100120036 := by
 have h : -10006 ≤ a * x ∧ a * x ≤ 10006 := by rcases ha with rfl | rfl | rfl <;> omega
 exact ⟨h, Yk7 h hy⟩
section
variable {K : Nat} {ds : List Int}
theorem Xl4 {B C : Int} {z : B1} (hK : 8 < K) (hd : okD ds = true) (hz : Mo B ds z.1) (hz2 : -10006 ≤ z.2 ∧ z.2 ≤ 10006) (h0 : 0 ≤ B) (h0' : 0 ≤ C) (hBC : B + C ≤ 255) :
 ∀ (k : Nat) (t s : MpT), t.length < k → MoL C ds t → SmF t → nfm s = true → V7 K ds z k t s = some (.go (I3 (Zu3 ds z t) s))
 | 0, _, _, h, _, _, _ => by omega
 | k + 1, [], s, _, _, _, _ => by rw [V7]; rfl
 | k + 1, q :: t, s, h, ht, hf, hs => by
  have hq := ht q (List.mem_cons_self ..)
  have hq2 := hf q (List.mem_cons_self ..)
  have hm := Xc7 (Xn4 (ds := ds) (p := z.1) (q := q.1)) hz2 hq2
  have ih := fun s' (hs' : nfm s' = true) => Xl4 (s := s') hK hd hz hz2 h0 h0' hBC k t (by simpa using h) (fun q hq => ht q (List.mem_cons_of_mem _ hq)) (fun q hq => hf q (List.mem_cons_of_mem _ hq)) hs'
  rw [V7, Wz9 (B := B + C) hK hd hz.lo (fun i => by have := hz.hi i; omega) hq.lo (fun i => by have := hq.hi i; omega) (by omega) (by omega), Option.bind_some]
  unfold Zu3
  rw [List.filterMap_cons]
  by_cases e : (I4 ds z.1 q.1).2 = 0
  rw [if_pos e, if_pos e, ih s hs]; rfl
  have hb : -10006 ≤ ((I4 ds z.1 q.1).2 * z.2 * q.2).tmod 10007 ∧ ((I4 ds z.1 q.1).2 * z.2 * q.2).tmod 10007 ≤ 10006 := by rw [Int.tmod_eq_emod]; split <;> omega
  rw [if_neg e, if_neg e, IntWalk.i64_in ((I4 ds z.1 q.1).2 * z.2) (by omega), IntWalk.i64_in _ (by omega), Yj1 ⟨hs, by omega, by omega⟩, Option.bind_some, ih _ (Zg3 hs _ _)]
  rw [Yq5 (Xs2 _)]; rfl
theorem Xm4 {B C : Int} {t : MpT} (hK : 8 < K) (hd : okD ds = true) (h0 : 0 ≤ B) (h0' : 0 ≤ C) (hBC : B + C ≤ 255) (ht : MoL C ds t) (hf : SmF t) (hl : t.length < K) :
 ∀ (k : Nat) (s acc : MpT), s.length < k → MoL B ds s → SmF s → nfm acc = true → T9 K ds t k s acc = some (.go (I3 (Zl3 ds s t) acc))
 | 0, _, _, h, _, _, _ => by omega
 | k + 1, [], s, _, _, _, _ => by rw [T9]; rfl
 | k + 1, z :: s, acc, h, hs, hsf, ha => by
  rw [T9, Xl4 hK hd (hs z (List.mem_cons_self ..)) (hsf z (List.mem_cons_self ..)) h0 h0' hBC K t acc hl ht hf ha, Option.bind_some]
  show T9 K ds t k s (I3 (Zu3 ds z t) acc) = _
  rw [Xm4 hK hd h0 h0' hBC ht hf hl k s _ (by simpa using h) (fun q hq => hs q (List.mem_cons_of_mem _ hq)) (fun q hq => hsf q (List.mem_cons_of_mem _ hq)) (Zl1 _ ha), ← Xa7]
  rfl
theorem Xt2 {B C : Int} {s t : MpT} (hK : 8 < K) (hd : okD ds = true) (h0 : 0 ≤ B) (h0' : 0 ≤ C) (hBC : B + C ≤ 255) (hs : MoL B ds s) (hsf : SmF s) (ht : MoL C ds t) (hf : SmF t) (hsl : s.length < K) (hl : t.length < K) :
 E6 K s ds t = some (I3 (Zl3 ds s t) []) := by
 unfold E6
 rw [Xm4 hK hd h0 h0' hBC ht hf hl K s [] hsl hs hsf Zx3]; rfl
/-! the other side -/
def shf (ds : List Int) (z : B1) (g : MpT) : MpT := g.filterMap fun q => if (I4 ds z.1 q.1).2 = 0 then none else some ((I4 ds z.1 q.1).1, ((I4 ds z.1 q.1).2 * z.2 * q.2) % 10007)
theorem Wg7 {B C : Int} {z : B1} {g : MpT} (hK : 8 < K) (hd : okD ds = true) (hz : Mo B ds z.1) (hz2 : -10006 ≤ z.2 ∧ z.2 ≤ 10006) (hBC : B + C ≤ 255) (hg : MoL C ds g) (hf : SmF g) (hl : g.length ≤ 1099511627776) :
 ∀ (k i : Nat) (out : MpT), g.length < i + k → i ≤ g.length → out.length ≤ i → J9 K ds z g k i out = some (.go (out ++ shf ds z (g.drop i))) := by
 intro k
 induction k with
 | zero => intro i out h1 h2; omega
 | succ k ih =>
  intro i out h1 h2 h3
  rw [J9]
  by_cases hi : i < g.length
  have hq := hg _ (T7 hi)
  have hm := Xc7 (Xn4 (ds := ds) (p := z.1) (q := (rd g (i : Int)).1)) hz2 (hf _ (T7 hi))
  rw [if_pos (by omega), Wq1 hK hd hz hq hBC, Option.bind_some, Zw3 hi]
  unfold shf
  rw [List.filterMap_cons]
  by_cases e : (I4 ds z.1 (rd g (i : Int)).1).2 = 0
  have := ih (i + 1) out (by omega) (by omega) (by omega)
  rw [if_pos e, if_pos e]
  exact this
  have := ih (i + 1) (out ++ [((I4 ds z.1 (rd g (i : Int)).1).1, ((I4 ds z.1 (rd g (i : Int)).1).2 * z.2 * (rd g (i : Int)).2) % 10007)]) (by omega) (by omega) (by simp; omega)
  rw [if_neg e, if_neg e, IntWalk.i64_in ((I4 ds z.1 (rd g (i : Int)).1).2 * z.2) (by omega), IntWalk.i64_in _ (by omega), Ye4, Option.bind_some, if_pos (by simp; omega)]
  refine Eq.trans this ?_
  rw [List.append_assoc]; rfl
  rw [if_neg (by omega), List.drop_eq_nil_of_le (by omega)]
  show _ = some (Ex.go (out ++ []))
  rw [List.append_nil]
theorem Wv5 {B C : Int} {z : B1} {g : MpT} (hK : 8 < K) (hd : okD ds = true) (hz : Mo B ds z.1) (hz2 : -10006 ≤ z.2 ∧ z.2 ≤ 10006) (hBC : B + C ≤ 255) (hg : MoL C ds g) (hf : SmF g) (hl : g.length ≤ 1099511627776) (hlK : g.length < K) :
 Zn5 K ds z g = some (shf ds z g) := by
 have := Wg7 (K := K) hK hd hz hz2 hBC hg hf hl K 0 [] (by omega) (by omega) (by simp)
 unfold Zn5
 replace this : J9 K ds z g K 0 [] = some (.go (shf ds z g)) := this
 rw [this]; rfl
theorem Xv9 : ∀ (p q r : List Int), p.length = q.length → q.length = r.length → Zf3 (List.zipWith (· + ·) p q) (List.zipWith (· + ·) p r) = Zf3 q r
 | [], [], [], _, _ => rfl
 | a :: p, b :: q, c :: r, h1, h2 => by
  simp only [List.zipWith_cons_cons, Zf3]
  rw [Xv9 p q r (by simpa using h1) (by simpa using h2)]
  by_cases e : b = c
  rw [if_pos e, if_pos (by omega)]
  rw [if_neg e, if_neg (by omega)]
  exact decide_eq_decide.2 (by omega)
theorem Wv7 (p q r : A8) : bef (Yb4 p q) (Yb4 p r) = bef q r := Xv9 (l8 p) (l8 q) (l8 r) rfl rfl
theorem Xq9 {z : B1} {g : MpT} : ∀ r, r ∈ shf ds z g → ∃ q, q ∈ g ∧ (I4 ds z.1 q.1).2 ≠ 0 ∧ r = ((I4 ds z.1 q.1).1, ((I4 ds z.1 q.1).2 * z.2 * q.2) % 10007) := by
 intro r hr
 obtain ⟨q, hq, h⟩ := List.mem_filterMap.1 hr
 by_cases e : (I4 ds z.1 q.1).2 = 0
 rw [if_pos e] at h; cases h
 rw [if_neg e] at h; cases h; exact ⟨q, hq, e, rfl⟩
theorem Xk9 {z : B1} : ∀ {g : MpT}, Srt g → Srt (shf ds z g)
 | [], _ => List.Pairwise.nil
 | q :: g, h => by
  have h' := List.pairwise_cons.1 h
  unfold shf
  rw [List.filterMap_cons]
  by_cases e : (I4 ds z.1 q.1).2 = 0
  rw [if_pos e]; exact Xk9 h'.2
  rw [if_neg e]
  refine List.pairwise_cons.2 ⟨fun r hr => ?_, Xk9 h'.2⟩
  obtain ⟨u, hu, hn, rfl⟩ := Xq9 r hr
  show bef (I4 ds z.1 q.1).1 (I4 ds z.1 u.1).1 = true
  rw [(Yw2 e).1, (Yw2 hn).1, Wv7]
  exact h'.1 u hu
theorem Wk7 {z : B1} {g : MpT} : SmF (shf ds z g) := by
 intro r hr
 obtain ⟨q, _, _, rfl⟩ := Xq9 r hr
 show -10006 ≤ _ % 10007 ∧ _ % 10007 ≤ (10006 : Int)
 omega
theorem Wz4 (z : B1) (g : MpT) : (shf ds z g).length ≤ g.length := List.length_filterMap_le _ _
theorem Xo1 (z : B1) (g : MpT) : (Zu3 ds z g).length ≤ g.length := List.length_filterMap_le _ _
theorem Xk6 {z : B1} : ∀ (g s : MpT), I3 (scl 1 (shf ds z g)) s = I3 (Zu3 ds z g) s
 | [], s => rfl
 | q :: g, s => by
  unfold shf Zu3
  rw [List.filterMap_cons, List.filterMap_cons]
  by_cases e : (I4 ds z.1 q.1).2 = 0
  rw [if_pos e, if_pos e]; exact Xk6 g s
  rw [if_neg e, if_neg e]
  show I3 (scl 1 (shf ds z g)) (Zu0 s _ (1 * _)) = I3 (Zu3 ds z g) (Zu0 s _ _)
  rw [Xk6 g, Yq5 (f' := (I4 ds z.1 q.1).2 * z.2 * q.2) (by rw [Int.one_mul, Int.emod_emod])]
theorem Wd6 {B C : Int} {f g : MpT} (hK : 1073741824 ≤ K) (hd : okD ds = true) (h0 : 0 ≤ B) (hBC : B + C ≤ 255) (hf : MoL B ds f) (hff : SmF f) (hg : MoL C ds g) (hgf : SmF g) (hgs : Srt g) (hgl : g.length ≤ 1000000) :
 ∀ (k i : Nat) (acc : MpT), f.length < i + k → i ≤ f.length → nfm acc = true → acc.length + (f.length - i) * g.length ≤ 100000000 →
  E0 K ds f g k i acc = some (.go (I3 (Zl3 ds (f.drop i) g) acc)) := by
 intro k
 induction k with
 | zero => intro i acc h1 h2; omega
 | succ k ih =>
  intro i acc h1 h2 ha hb
  rw [E0]
  by_cases hi : i < f.length
  have hz := hf _ (T7 hi)
  have hz2 := hff _ (T7 hi)
  have hsl : (shf ds ((rd f (i : Int)).1, (rd f (i : Int)).2) g).length ≤ g.length := Wz4 _ g
  have hml := Yj0 (Zu3 ds (rd f (i : Int)) g) acc
  have hml2 := Xo1 (ds := ds) (rd f (i : Int)) g
  have hmul : (f.length - i) * g.length = (f.length - (i + 1)) * g.length + g.length := by
   rw [show f.length - i = (f.length - (i + 1)) + 1 by omega, Nat.add_mul, Nat.one_mul]
  rw [if_pos (by omega), Wv5 (z := ((rd f (i : Int)).1, (rd f (i : Int)).2)) (by omega) hd hz hz2 hBC hg hgf (by omega) (by omega), Option.bind_some,
   Wu2 (by omega) (by omega) (by omega) (Zv0 ha) Wk7 (by omega) (by omega), Option.bind_some, Wb5 ha (Xk9 hgs), Xk6]
  have := ih (i + 1) (I3 (Zu3 ds (rd f (i : Int)) g) acc) (by omega) (by omega) (Zl1 _ ha) (by omega)
  refine Eq.trans this ?_
  rw [Zw3 hi]
  show _ = some (Ex.go (I3 (Zu3 ds (rd f (i : Int)) g ++ Zl3 ds (f.drop (i + 1)) g) acc))
  rw [Xa7]
  rw [if_neg (by omega), List.drop_eq_nil_of_le (by omega)]; rfl
theorem Xs9 {B C : Int} {f g : MpT} (hK : 1073741824 ≤ K) (hd : okD ds = true) (h0 : 0 ≤ B) (hBC : B + C ≤ 255) (hf : MoL B ds f) (hff : SmF f) (hg : MoL C ds g) (hgf : SmF g) (hgs : Srt g) (hgl : g.length ≤ 1000000)
 (hfl : f.length < K) (hb : f.length * g.length ≤ 100000000) : Zi0 K ds f g = some (I3 (Zl3 ds f g) []) := by
 have := Wd6 (K := K) hK hd h0 hBC hf hff hg hgf hgs hgl K 0 [] (by omega) (by omega) Zx3 (by simpa using hb)
 unfold Zi0
 replace this : E0 K ds f g K 0 [] = some (.go (I3 (Zl3 ds f g) [])) := this
 rw [this]; rfl
theorem Xi1 {z : B1} {g : MpT} : ∀ r, r ∈ Zu3 ds z g → ∃ q, q ∈ g ∧ (I4 ds z.1 q.1).2 ≠ 0 ∧ r.1 = (I4 ds z.1 q.1).1 := by
 intro r hr
 obtain ⟨q, hq, h⟩ := List.mem_filterMap.1 hr
 by_cases e : (I4 ds z.1 q.1).2 = 0
 rw [if_pos e] at h; cases h
 rw [if_neg e] at h; cases h; exact ⟨q, hq, e, rfl⟩
theorem Va0 {B C : Int} {f g : MpT} (hf : MoL B ds f) (hg : MoL C ds g) : MoL (B + C) ds (Zl3 ds f g) := by
 intro r hr
 obtain ⟨z, hz, hr⟩ := List.mem_flatMap.1 hr
 obtain ⟨q, hq, hn, e⟩ := Xi1 r hr
 rw [e]
 exact (hf z hz).mul (hg q hq) hn
theorem Xr3 (f g : MpT) : (Zl3 ds f g).length ≤ f.length * g.length := by
 induction f with
 | nil => simp [Zl3]
 | cons z f ih =>
  show (Zu3 ds z g ++ Zl3 ds f g).length ≤ _
  have := Xo1 (ds := ds) z g
  rw [List.length_append, List.length_cons, Nat.add_mul, Nat.one_mul]; omega
theorem Wn5 {s : MpT} {p : A8} {f : Int} {q : B1} (h : q ∈ Zu0 s p f) : q.1 = p ∨ q ∈ s := by
 unfold Zu0 at h
 split at h
 exact .inr (Yc0.1 h).1
 rcases Zz1.1 h with rfl | h
 exact .inl rfl
 exact .inr h.1
theorem Yk2 : ∀ {T s : MpT} {q : B1}, q ∈ I3 T s → (∃ t, t ∈ T ∧ t.1 = q.1) ∨ ∃ t, t ∈ s ∧ t.1 = q.1
 | [], s, q, h => .inr ⟨q, h, rfl⟩
 | t :: T, s, q, h => by
  rcases Yk2 (T := T) h with ⟨u, hu, e⟩ | ⟨u, hu, e⟩
  exact .inl ⟨u, List.mem_cons_of_mem _ hu, e⟩
  rcases Wn5 hu with h | h
  exact .inl ⟨t, List.mem_cons_self .., h.symm.trans e⟩
  exact .inr ⟨u, h, e⟩
theorem Wx7 {B : Int} {T : MpT} (hT : MoL B ds T) : MoL B ds (I3 T []) := by
 intro q hq
 rcases Yk2 hq with ⟨t, ht, e⟩ | ⟨t, ht, e⟩
 rw [← e]; exact hT t ht
 cases ht
end
/-! a form that is valid -/
structure VF (ds : List Int) (f : MpT) : Prop where
 nf : nfm f = true
 mo : MoL 20 ds f
 len : f.length ≤ 400
theorem Va8 {ds : List Int} {m : A8} (hm : Byt m) (h : okM ds m = true) : Mo 20 ds m := by
 have hall : ∀ n : Nat, n < 8 → Y5 m n ≤ Zm4 ds n := fun n hn => by
  have := List.all_eq_true.1 h n (List.mem_range.2 hn)
  simpa using this
 have most : ∀ n, Zm4 ds n ≤ 20 := fun n => by unfold Zm4; split; split <;> omega; omega
 refine ⟨fun i => (hm i).1, fun i => ?_, fun n hn ho => ?_, fun i hi => ?_⟩
 have := hall i.val i.isLt
 rw [T2 m i.isLt] at this
 exact Int.le_trans this (most _)
 by_cases h8 : n < 8
 have := hall n h8
 unfold Zm4 at this
 rw [if_pos hn, if_pos ho] at this; exact this
 simp [Y5, h8]
 have := hall i.val i.isLt
 unfold Zm4 at this
 rw [if_neg (by omega), T2 m i.isLt] at this
 have h0 := (hm i).1
 exact Int.le_antisymm this h0
theorem Ve9 {ds : List Int} {f : MpT} (hf : Yb8 f) (h : okF ds f = true) : VF ds f := by
 unfold okF at h
 rw [Bool.and_eq_true, decide_eq_true_eq] at h
 obtain ⟨h, hl⟩ := h
 have hall : ∀ n, n < f.length → okT ds f n = true := fun n hn => List.all_eq_true.1 h n (List.mem_range.2 hn)
 have hmem : ∀ t, t ∈ f → okM ds t.1 = true ∧ 1 ≤ t.2 ∧ t.2 ≤ 10006 := by
  intro t ht
  obtain ⟨i, hi, rfl⟩ := List.getElem_of_mem ht
  have := hall i hi
  unfold okT at this
  rw [Zd1 hi, Bool.and_eq_true, Bool.and_eq_true] at this
  exact ⟨this.1.1, by simpa using this.1.2⟩
 have hadj : ∀ j (hj : j + 1 < f.length), bef f[j].1 f[j + 1].1 = true := by
  intro j hj
  have := hall (j + 1) hj
  unfold okT at this
  rw [Zd1 hj, show ((j + 1 : Nat) : Int) - 1 = (j : Int) by omega, Zd1 (show j < f.length by omega), Bool.and_eq_true] at this
  simpa using this.2
 refine ⟨Ye8 ?_ (fun t ht => (hmem t ht).2), fun t ht => Va8 (hf t ht) (hmem t ht).1, hl⟩
 rw [Srt, List.pairwise_iff_getElem]
 intro i j hi hj hij
 obtain ⟨d, rfl⟩ : ∃ d, j = i + 1 + d := ⟨j - i - 1, by omega⟩
 clear hij
 induction d with
 | zero => exact hadj i hj
 | succ d ih => exact Zn9 (ih (by omega)) (hadj (i + 1 + d) hj)
theorem Xd2 {s : MpT} {a : A8} {x : Int} (h : Srt (s ++ [(a, x)])) : Za7 s a x = s ++ [(a, x)] := by
 have hp := List.pairwise_append.1 h
 have ha : a ∉ s.map Prod.fst := by
  intro hm
  obtain ⟨q, hq, rfl⟩ := List.mem_map.1 hm
  have := hp.2.2 q hq (q.1, x) (by simp)
  rw [Ze4] at this; cases this
 refine Xi0 (Yi7 hp.1 a x) h ?_
 refine (Zs1 _ _).trans ?_
 unfold Zv2
 rw [Zw2 ha]
 exact (List.perm_append_singleton _ _).symm
theorem Wg1 {K : Nat} {f : MpT} (hK : 8 < K) (hf : Yb8 f) (hs : Srt f) : ∀ (k i : Nat), f.length < i + k → i ≤ f.length → Zb2 K f k i (f.take i) = some (.go f) := by
 intro k
 induction k with
 | zero => intro i h1 h2; omega
 | succ k ih =>
  intro i h1 h2
  rw [Zb2]
  by_cases hi : i < f.length
  have e : f.take (i + 1) = f.take i ++ [((rd f (i : Int)).1, (rd f (i : Int)).2)] := by
   rw [Zd1 hi, List.take_add_one, List.getElem?_eq_getElem hi]; rfl
  have Z4 : Srt (f.take (i + 1)) := hs.sublist (List.take_sublist _ _)
  rw [if_pos (by omega), Yk9 hK (hf _ (T7 hi)), Option.bind_some, Xd2 (by rw [← e]; exact Z4), ← e]
  exact ih (i + 1) (by omega) (by omega)
  rw [if_neg (by omega), List.take_of_length_le (by omega)]
theorem Wb2 {K : Nat} {f : MpT} (hK : 8 < K) (hl : f.length < K) (hf : Yb8 f) (hs : Srt f) : Zq4 K f = some f := by
 have := Wg1 hK hf hs K 0 (by omega) (by omega)
 unfold Zq4
 replace this : Zb2 K f K 0 [] = some (.go f) := this
 rw [this]; rfl
theorem Mo.byt {B : Int} {ds : List Int} {m : A8} (h : Mo B ds m) (hB : B ≤ 255) : Byt m := fun i => ⟨h.lo i, Int.le_trans (h.hi i) hB⟩
theorem VF.byt {ds : List Int} {f : MpT} (h : VF ds f) : Yb8 f := fun t ht => (h.mo t ht).byt (by decide)
theorem VF.small {ds : List Int} {f : MpT} (h : VF ds f) : SmF f := Zv0 h.nf
/-! all images -/
theorem Xs6 (m : M8) {n : Nat} (h : n < 8) : Yc6 m (n : Int) = m ⟨n, h⟩ := by simp [Yc6, h]
theorem Wp4 (m : M8) {n : Nat} (hn : n < 8) (x : MpT) (j : Fin 8) : Xj9 m n x j = if j.val = n then x else m j := by
 unfold Xj9
 by_cases h : j.val = n
 rw [if_pos h, if_pos (by omega)]
 rw [if_neg h, if_neg (by omega)]
theorem Xx3 {K : Nat} {a : List Int × List MpT} (hK : 400 < K) (hl : a.2.length ≤ 8) (hv : ∀ f, f ∈ a.2 → ∃ ds, VF ds f) : ∀ (k n : Nat) (box : M8), a.2.length < n + k → n ≤ a.2.length → (∀ j, j < n → Yc6 box (j : Int) = rd a.2 (j : Int)) →
 ∃ r, N4 K a k n box = some (.go r) ∧ ∀ j, j < a.2.length → Yc6 r (j : Int) = rd a.2 (j : Int) := by
 intro k
 induction k with
 | zero => intro n box h1 h2; omega
 | succ k ih =>
  intro n box h1 h2 hb
  rw [N4]
  by_cases hn : n < a.2.length
  obtain ⟨ds, v⟩ := hv _ (T7 hn)
  have hvl := v.len
  rw [if_pos (by omega), Wb2 (by omega) (by omega) v.byt (F4 v.nf), Option.bind_some, if_pos (by omega)]
  refine ih (n + 1) _ (by omega) (by omega) (fun j hj => ?_)
  rw [Xs6 _ (show j < 8 by omega), Wp4 _ (by omega)]
  by_cases e : j = n
  rw [if_pos e, e]
  rw [if_neg e, ← hb j (by omega), Xs6 _ (show j < 8 by omega)]
  rw [if_neg (by omega)]
  exact ⟨box, rfl, fun j hj => hb j (by omega)⟩
theorem Wq4 {K : Nat} {a : List Int × List MpT} (hK : 400 < K) (hl : a.2.length ≤ 8) (hv : ∀ f, f ∈ a.2 → ∃ ds, VF ds f) : ∃ r, Zc8 K a = some r ∧ ∀ j, j < a.2.length → Yc6 r (j : Int) = rd a.2 (j : Int) := by
 obtain ⟨r, h1, h2⟩ := Xx3 hK hl hv K 0 (fun _ => []) (by omega) (by omega) (fun j hj => by omega)
 unfold Zc8
 replace h1 : N4 K a K 0 (fun _ => []) = _ := h1
 rw [h1]; exact ⟨r, rfl, h2⟩
/-! one factor of a monomial -/
def loM (m : A8) (i : Nat) : A8 := fun j => if j.val < i then m j else 0
def hiM (m : A8) (i : Nat) : A8 := fun j => if i < j.val then m j else 0
def lfM (m : A8) (i : Nat) : A8 := U7 (loM m i) i (Y5 m i - 1)
def dT (ds : List Int) (img : MpT) (m : A8) (i : Nat) : MpT := I3 (Zl3 ds (I3 (Zl3 ds [(lfM m i, 1)] img) []) [(hiM m i, 1)]) []
def dF (ds : List Int) (z : B1) (i : Nat) : Int := (sg (wtN ds z.1 i) * z.2 * Y5 z.1 i) % 10007
def Yp9 (ds : List Int) (img : MpT) (z : B1) (i : Nat) (out : MpT) : MpT := I3 (scl (dF ds z i) (dT ds img z.1 i)) out
def Zw6 (ds : List Int) (imgs : List MpT) (z : B1) : Nat → Nat → MpT → MpT
 | 0, _, out => out
 | n + 1, i, out => Zw6 ds imgs z n (i + 1) (if Y5 z.1 (i : Int) = 0 then out else Yp9 ds (rd imgs (i : Int)) z i out)
def Zv9 (ds : List Int) (imgs : List MpT) : MpT → MpT → MpT
 | [], out => out
 | z :: f, out => Zv9 ds imgs f (Zw6 ds imgs z ds.length 0 out)
section
variable {K : Nat} {ds : List Int} {m : A8} {i : Nat}
theorem Xe9 (m : A8) (i n : Nat) : Y5 (loM m i) n = if n < i then Y5 m n else 0 := by
 by_cases hn : n < 8
 rw [T2 _ hn, T2 _ hn]; rfl
 simp [Y5, hn]
theorem Wl2 (m : A8) (i n : Nat) : Y5 (hiM m i) n = if i < n then Y5 m n else 0 := by
 by_cases hn : n < 8
 rw [T2 _ hn, T2 _ hn]; rfl
 simp [Y5, hn]
theorem Wd2 {B : Int} (h : Mo B ds m) (h0 : 0 ≤ B) (i : Nat) : Mo B ds (loM m i) := by
 refine ⟨fun j => ?_, fun j => ?_, fun n hn ho => ?_, fun j hj => ?_⟩
 unfold loM; split; exact h.lo j; omega
 unfold loM; split; exact h.hi j; omega
 rw [Xe9]; split; exact h.odd n hn ho; omega
 unfold loM; split; exact h.out j hj; rfl
theorem We3 {B : Int} (h : Mo B ds m) (h0 : 0 ≤ B) (i : Nat) : Mo B ds (hiM m i) := by
 refine ⟨fun j => ?_, fun j => ?_, fun n hn ho => ?_, fun j hj => ?_⟩
 unfold hiM; split; exact h.lo j; omega
 unfold hiM; split; exact h.hi j; omega
 rw [Wl2]; split; exact h.odd n hn ho; omega
 unfold hiM; split; exact h.out j hj; rfl
theorem Xp5 {B : Int} (h : Mo B ds m) (h0 : 0 ≤ B) (hi : i < 8) (h1 : 0 < Y5 m i) : Mo B ds (lfM m i) := by
 have hl := Wd2 h h0 i
 unfold lfM
 refine ⟨fun j => ?_, fun j => ?_, fun n hn ho => ?_, fun j hj => ?_⟩
 rw [Ze5 _ hi]; split; omega; exact hl.lo j
 rw [Ze5 _ hi]; split
 have := h.hi ⟨i, hi⟩; rw [← T2 m hi] at this; omega
 exact hl.hi j
 by_cases hn8 : n < 8
 rw [T2 _ hn8, Ze5 _ hi]
 by_cases e : n = i
 subst e; rw [if_pos rfl]; have := h.odd n hn ho; omega
 rw [if_neg e, ← T2 (loM m i) hn8]; exact hl.odd n hn ho
 simp [Y5, hn8]
 rw [Ze5 _ hi]; split
 rename_i e
 have := h.out j hj
 rw [T2 m hi, show (⟨i, hi⟩ : Fin 8) = j from Fin.ext e.symm, this] at h1
 omega
 exact hl.out j hj
theorem Wh1 (m : A8) (i : Nat) : ∀ n, n ≤ i → wtN ds (loM m i) n = wtN ds m n
 | 0, _ => rfl
 | n + 1, h => by rw [wtN, wtN, Wh1 m i n (by omega), Xe9, if_pos (by omega)]
theorem Wc6 (m : A8) (i : Nat) : ∀ n, i ≤ n → wtN ds (loM m i) n = wtN ds m i
 | 0, h => by
  have : i = 0 := by omega
  subst this; rfl
 | n + 1, h => by
  by_cases e : i = n + 1
  subst e; exact Wh1 m _ _ (Nat.le_refl _)
  rw [wtN, Wc6 m i n (by omega), Xe9, if_neg (by omega), Int.mul_zero, Int.add_zero]
theorem Wu8 (m : A8) (i : Nat) (h : i ≤ ds.length) : wt ds (loM m i) = wtN ds m i := Wc6 m i _ h
end
end Go.Proofs.YtabofnehiclkiaaGreat
