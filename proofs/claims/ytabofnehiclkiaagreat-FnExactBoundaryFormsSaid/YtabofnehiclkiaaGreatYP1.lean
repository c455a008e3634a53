/- Plain laws on the pure functions. -/
import Derived.Test.YtabofnehiclkiaaGreatYF10
import Derived.Test.YtabofnehiclkiaaGreatYF13
import Derived.Test.YtabofnehiclkiaaGreatYF18
import Derived.Test.YtabofnehiclkiaaGreatYF14
import Derived.Test.YtabofnehiclkiaaGreatYF11
import Derived.Test.YtabofnehiclkiaaGreatYF1
import Derived.Test.YtabofnehiclkiaaGreatYF2
import Derived.Test.YtabofnehiclkiaaGreatYF3
import Derived.Test.YtabofnehiclkiaaGreatYF4
import Derived.Test.YtabofnehiclkiaaGreatYF5
import Derived.Test.YtabofnehiclkiaaGreatYF6
import Derived.Test.YtabofnehiclkiaaGreatYF7
import Derived.Test.YtabofnehiclkiaaGreatYF8
import Derived.Test.YtabofnehiclkiaaGreatYF9
import Derived.Test.YtabofnehiclkiaaGreatYF12
import Derived.Test.YtabofnehiclkiaaGreatYF15
import Derived.Test.YtabofnehiclkiaaGreatYF16
import Derived.Test.YtabofnehiclkiaaGreatYF17
import Derived.Test.YtabofnehiclkiaaGreatYF19
import Derived.Test.YtabofnehiclkiaaGreatYF20
import Derived.Test.YtabofnehiclkiaaGreatYF21
import Derived.Test.YtabofnehiclkiaaGreatYF22
import Derived.Test.YtabofnehiclkiaaGreatYF23
import Derived.Test.YtabofnehiclkiaaGreatYF24
import Derived.Test.YtabofnehiclkiaaGreatYF25
import Derived.Test.YtabofnehiclkiaaGreatYF26
import Derived.Test.YtabofnehiclkiaaGreatYF27
import Derived.Test.YtabofnehiclkiaaGreatYF28
import Derived.Test.YtabofnehiclkiaaGreatYF29
import Derived.Test.YtabofnehiclkiaaGreatYF30
namespace Go.Proofs.YtabofnehiclkiaaGreat
open Go
set_option linter.unusedSimpArgs false
set_option linter.unusedVariables false
/-- the factor of a monomial in a list of terms -/
def cf (a : A8) : List (A8 × Int) → Int
 | [] => 0
 | t :: ts => (if t.1 = a then t.2 else 0) + cf a ts
theorem Wl0 {a : A8} : ∀ {xs : List (A8 × Int)}, (∀ q, q ∈ xs → q.1 ≠ a) → cf a xs = 0
 | [], _ => rfl
 | x :: xs, h => by
  rw [cf, if_neg (h x (List.mem_cons_self ..)), Wl0 (fun q hq => h q (List.mem_cons_of_mem _ hq))]; rfl
theorem Xr3 (a : A8) : ∀ {s : MpT}, Srt s → N3 s a = cf a s
 | [], _ => rfl
 | x :: xs, h => by
  have h' := List.pairwise_cons.1 h
  by_cases e : x.1 = a
  rw [Zw5 (x := x.2) h (by rw [← e]; exact List.mem_cons_self ..), cf, if_pos e, Wl0 (fun q hq e' => ?_)]
  omega
  have := h'.1 q hq
  rw [e, e', Ze4] at this; cases this
  rw [cf, if_neg e, ← Xr3 a h'.2, Int.zero_add]
  unfold N3
  rw [List.find?_cons]
  cases hq : eq8 a x.1 with
  | false => rfl
  | true => exact absurd (Zc9.1 hq).symm e
def I3 : List (A8 × Int) → MpT → MpT
 | [], s => s
 | t :: ts, s => I3 ts (Zt8 s t.1 t.2)
theorem Xb2 : ∀ (xs ys : List (A8 × Int)) (s : MpT), I3 (xs ++ ys) s = I3 ys (I3 xs s)
 | [], _, _ => rfl
 | x :: xs, ys, s => Xb2 xs ys _
theorem Zl6 : ∀ (T : List (A8 × Int)) {s : MpT}, nfm s = true → nfm (I3 T s) = true
 | [], _, h => h
 | t :: ts, _, h => Zl6 ts (Zg1 h _ _)
theorem Xn5 (a : A8) : ∀ (T : List (A8 × Int)) {s : MpT}, nfm s = true → N3 (I3 T s) a = (N3 s a + cf a T) % 10007
 | [], s, h => by
  have := Yg0 h a
  simp only [I3, cf]; omega
 | t :: ts, s, h => by
  rw [I3, Xn5 a ts (Zg1 h _ _), Zu8 h, cf]
  by_cases e : a = t.1
  subst e
  simp only [if_true]
  omega
  rw [if_neg e, if_neg (fun h => e h.symm)]; omega
theorem Zw1 : nfm [] = true := rfl
theorem Wr5 (s : MpT) (p : A8) (f : Int) : (Zt8 s p f).length ≤ s.length + 1 := by
 have h1 : (Zv1 s p).length ≤ s.length := List.length_filter_le _ _
 unfold Zt8
 split
 omega
 unfold Za7
 rw [(Zr7 _ _).length_eq, List.length_cons]; omega
theorem Yj6 : ∀ (T : List (A8 × Int)) (s : MpT), (I3 T s).length ≤ s.length + T.length
 | [], s => by simp [I3]
 | t :: ts, s => by
  have h1 := Yj6 ts (Zt8 s t.1 t.2)
  have h2 := Wr5 s t.1 t.2
  rw [I3, List.length_cons]; omega
def scl (k : Int) (g : List (A8 × Int)) : List (A8 × Int) := g.map fun t => (t.1, k * t.2)
theorem Wi6 (k : Int) (a : A8) : ∀ g, cf a (scl k g) = k * cf a g
 | [] => by simp [scl, cf]
 | t :: g => by
  show (if t.1 = a then k * t.2 else 0) + cf a (scl k g) = k * ((if t.1 = a then t.2 else 0) + cf a g)
  rw [Wi6 k a g, Int.mul_add]
  split <;> simp
/-! two sorted lists, merged -/
def cnz (p : A8) (x : Int) (r : MpT) : MpT := if x = 0 then r else (p, x) :: r
def mrg (k : Int) : MpT → MpT → MpT
 | f, [] => f
 | [], q :: g => cnz q.1 ((k * q.2) % 10007) (mrg k [] g)
 | p :: f, q :: g => if bef p.1 q.1 = true then p :: mrg k f (q :: g) else if bef q.1 p.1 = true then cnz q.1 ((k * q.2) % 10007) (mrg k (p :: f) g) else cnz p.1 ((p.2 + (k * q.2) % 10007) % 10007) (mrg k f g)
termination_by f g => f.length + g.length
theorem Xk3 {p : A8} {x : Int} {r : MpT} {q : A8 × Int} (h : q ∈ cnz p x r) : q.1 = p ∨ q ∈ r := by
 unfold cnz at h
 split at h
 exact .inr h
 rcases List.mem_cons.1 h with rfl | h
 exact .inl rfl
 exact .inr h
theorem Yo3 (k : Int) (f g : MpT) : ∀ q, q ∈ mrg k f g → (∃ p, p ∈ f ∧ p.1 = q.1) ∨ ∃ p, p ∈ g ∧ p.1 = q.1 := by
 fun_induction mrg k f g with
 | case1 f => intro q hq; exact .inl ⟨q, hq, rfl⟩
 | case2 q g ih =>
  intro r hr
  rcases Xk3 hr with h | h
  exact .inr ⟨q, List.mem_cons_self .., h.symm⟩
  rcases ih r h with ⟨p, hp, e⟩ | ⟨p, hp, e⟩
  cases hp
  exact .inr ⟨p, List.mem_cons_of_mem _ hp, e⟩
 | case3 p f q g h ih =>
  intro r hr
  rcases List.mem_cons.1 hr with rfl | hr
  exact .inl ⟨_, List.mem_cons_self .., rfl⟩
  rcases ih r hr with ⟨p, hp, e⟩ | ⟨p, hp, e⟩
  exact .inl ⟨p, List.mem_cons_of_mem _ hp, e⟩
  exact .inr ⟨p, hp, e⟩
 | case4 p f q g h1 h2 ih =>
  intro r hr
  rcases Xk3 hr with h | h
  exact .inr ⟨q, List.mem_cons_self .., h.symm⟩
  rcases ih r h with ⟨p, hp, e⟩ | ⟨p, hp, e⟩
  exact .inl ⟨p, hp, e⟩
  exact .inr ⟨p, List.mem_cons_of_mem _ hp, e⟩
 | case5 p f q g h1 h2 ih =>
  intro r hr
  rcases Xk3 hr with h | h
  exact .inl ⟨p, List.mem_cons_self .., h.symm⟩
  rcases ih r h with ⟨p, hp, e⟩ | ⟨p, hp, e⟩
  exact .inl ⟨p, List.mem_cons_of_mem _ hp, e⟩
  exact .inr ⟨p, List.mem_cons_of_mem _ hp, e⟩
theorem Xk0 {p : A8} {x : Int} {r : MpT} (h : Srt r) (hp : ∀ q, q ∈ r → bef p q.1 = true) : Srt (cnz p x r) := by
 unfold cnz
 split
 exact h
 exact List.pairwise_cons.2 ⟨hp, h⟩
theorem Wz0 (k : Int) (f g : MpT) : Srt f → Srt g → Srt (mrg k f g) := by
 fun_induction mrg k f g with
 | case1 f => intro h _; exact h
 | case2 q g ih =>
  intro h1 h2
  have h2' := List.pairwise_cons.1 h2
  refine Xk0 (ih h1 h2'.2) (fun r hr => ?_)
  rcases Yo3 _ _ _ r hr with ⟨p, hp, e⟩ | ⟨p, hp, e⟩
  cases hp
  rw [← e]; exact h2'.1 p hp
 | case3 p f q g h ih =>
  intro h1 h2
  have h1' := List.pairwise_cons.1 h1
  have h2' := List.pairwise_cons.1 h2
  refine List.pairwise_cons.2 ⟨fun r hr => ?_, ih h1'.2 h2⟩
  rcases Yo3 _ _ _ r hr with ⟨s, hs, e⟩ | ⟨s, hs, e⟩
  rw [← e]; exact h1'.1 s hs
  rw [← e]
  rcases List.mem_cons.1 hs with rfl | hs
  exact h
  exact Zn8 h (h2'.1 s hs)
 | case4 p f q g h3 h ih =>
  intro h1 h2
  have h1' := List.pairwise_cons.1 h1
  have h2' := List.pairwise_cons.1 h2
  refine Xk0 (ih h1 h2'.2) (fun r hr => ?_)
  rcases Yo3 _ _ _ r hr with ⟨s, hs, e⟩ | ⟨s, hs, e⟩
  rw [← e]
  rcases List.mem_cons.1 hs with rfl | hs
  exact h
  exact Zn8 h (h1'.1 s hs)
  rw [← e]; exact h2'.1 s hs
 | case5 p f q g h3 h4 ih =>
  intro h1 h2
  have h1' := List.pairwise_cons.1 h1
  have h2' := List.pairwise_cons.1 h2
  have e0 : p.1 = q.1 := by
   by_cases e : p.1 = q.1
   exact e
   exact absurd (Ye6 e) (by simp [h3, h4])
  refine Xk0 (ih h1'.2 h2'.2) (fun r hr => ?_)
  rcases Yo3 _ _ _ r hr with ⟨s, hs, e⟩ | ⟨s, hs, e⟩
  rw [← e]; exact h1'.1 s hs
  rw [← e, e0]; exact h2'.1 s hs
theorem Xk9 {p : A8} {x : Int} {r : MpT} (hx : 0 ≤ x ∧ x ≤ 10006) (h : ∀ q, q ∈ r → 1 ≤ q.2 ∧ q.2 ≤ 10006) : ∀ q, q ∈ cnz p x r → 1 ≤ q.2 ∧ q.2 ≤ 10006 := by
 unfold cnz
 split
 exact h
 intro q hq
 rcases List.mem_cons.1 hq with rfl | hq
 simp only; omega
 exact h q hq
theorem Va0 (k : Int) (f g : MpT) : (∀ q, q ∈ f → 1 ≤ q.2 ∧ q.2 ≤ 10006) → ∀ q, q ∈ mrg k f g → 1 ≤ q.2 ∧ q.2 ≤ 10006 := by
 fun_induction mrg k f g with
 | case1 f => exact fun h => h
 | case2 q g ih => exact fun h => Xk9 (by omega) (ih h)
 | case3 p f q g h ih =>
  intro hf r hr
  rcases List.mem_cons.1 hr with rfl | hr
  exact hf _ (List.mem_cons_self ..)
  exact ih (fun q hq => hf q (List.mem_cons_of_mem _ hq)) r hr
 | case4 p f q g h3 h ih => exact fun hf => Xk9 (by omega) (ih hf)
 | case5 p f q g h3 h4 ih => exact fun hf => Xk9 (by omega) (ih (fun q hq => hf q (List.mem_cons_of_mem _ hq)))
theorem Xv9 (a p : A8) (x : Int) (r : MpT) : cf a (cnz p x r) = (if p = a then x else 0) + cf a r := by
 unfold cnz
 split
 rename_i h; subst h; simp
 rfl
theorem Vc7 (k : Int) (a : A8) (f g : MpT) : cf a (mrg k f g) % 10007 = (cf a f + k * cf a g) % 10007 := by
 fun_induction mrg k f g with
 | case1 f => simp [cf]
 | case2 q g ih =>
  rw [Xv9, cf.eq_2 a q g, Int.mul_add]
  generalize k * cf a g = X at ih ⊢
  split <;> omega
 | case3 p f q g h ih =>
  rw [cf, cf]
  omega
 | case4 p f q g h3 h ih =>
  rw [Xv9, cf.eq_2 a q g, Int.mul_add]
  generalize k * cf a g = X at ih ⊢
  split <;> omega
 | case5 p f q g h3 h4 ih =>
  have e0 : p.1 = q.1 := by
   by_cases e : p.1 = q.1
   exact e
   exact absurd (Ye6 e) (by simp [h3, h4])
  rw [Xv9, cf.eq_2 a q g, cf.eq_2 a p f, Int.mul_add, e0]
  generalize k * cf a g = X at ih ⊢
  split <;> omega
theorem Ww1 {k : Int} {f g : MpT} (hf : nfm f = true) (hg : Srt g) : nfm (mrg k f g) = true := Ye3 (Wz0 k f g (F5 hf) hg) (Va0 k f g (Yd3 hf))
theorem Xz7 {k : Int} {f g : MpT} (hf : nfm f = true) (hg : Srt g) : mrg k f g = I3 (scl k g) f := by
 have h := Ww1 (k := k) hf hg
 refine Wk6 h (Zl6 _ hf) (fun a => ?_)
 rw [Xn5 a _ hf, Wi6, Xr3 a (F5 hf), ← Vc7]
 have := Yg0 h a
 rw [Xr3 a (F5 h)] at this ⊢
 omega
theorem Xa6 {ρ σ : Type} {g : σ} (L : Nat → Int → Option (Ex ρ σ)) (N : Nat) (c : Nat → Bool) (r : ρ)
 (h : ∀ k (n : Nat), L (k + 1) (n : Int) = if (n : Int) < (N : Int) then (if c n = true then L k ((n : Int) + 1) else some (.ret r)) else some (.go g)) :
 ∀ (k n : Nat), n ≤ N → N < n + k → L k (n : Int) = some (if (List.range' n (N - n)).all c = true then .go g else .ret r) := by
 intro k
 induction k with
 | zero => intro n h1 h2; omega
 | succ k ih =>
  intro n h1 h2
  rw [h]
  by_cases hn : n < N
  rw [if_pos (by omega)]
  obtain ⟨m, hm⟩ : ∃ m, N - n = m + 1 := ⟨N - n - 1, by omega⟩
  have e : N - (n + 1) = m := by omega
  rw [hm, List.range'_succ, List.all_cons]
  cases hc : c n with
  | false => simp
  | true =>
   have := ih (n + 1) (by omega) (by omega)
   rw [e] at this
   rw [if_pos rfl, Bool.true_and]; exact this
  rw [if_neg (by omega), show N - n = 0 by omega]; simp
theorem Xm8 {ρ σ : Type} {g : σ} (L : Nat → Int → Option (Ex ρ σ)) (N : Nat) (c : Nat → Bool) (r : ρ)
 (h : ∀ k (n : Nat), L (k + 1) (n : Int) = if (n : Int) < (N : Int) then (if c n = true then L k ((n : Int) + 1) else some (.ret r)) else some (.go g))
 {K : Nat} (hK : N < K) : L K 0 = some (if (List.range N).all c = true then .go g else .ret r) := by
 have := Xa6 L N c r h K 0 (by omega) (by omega)
 rw [List.range_eq_range']
 exact this
theorem Zc0 {ρ σ : Type} {g : σ} (L : Nat → Int → Option (Ex ρ σ)) (N : Nat) (c : Nat → Bool) (r : ρ)
 (h : ∀ k (n : Nat), n < N → L (k + 1) (n : Int) = if c n = true then L k ((n : Int) + 1) else some (.ret r)) (h' : ∀ k (n : Nat), N ≤ n → L (k + 1) (n : Int) = some (.go g))
 {K : Nat} (hK : N < K) : L K 0 = some (if (List.range N).all c = true then .go g else .ret r) := by
 refine Xm8 L N c r (fun k n => ?_) hK
 by_cases hn : n < N
 rw [if_pos (by omega), h k n hn]
 rw [if_neg (by omega), h' k n (by omega)]
theorem Zc8 {α : Type} [Inhabited α] {xs : List α} {n : Nat} (h : n < xs.length) : rd xs (n : Int) = xs[n] := by
 unfold rd
 rw [Int.toNat_natCast, List.getD_eq_getElem?_getD, List.getElem?_eq_getElem h]; rfl
theorem Yu6 {α : Type} [Inhabited α] (xs : List α) (f : α → Bool) : (List.range xs.length).all (fun j => f (rd xs (j : Int))) = xs.all f := by
 rw [Bool.eq_iff_iff, List.all_eq_true, List.all_eq_true]
 constructor
 intro h x hx
 obtain ⟨i, hi, rfl⟩ := List.getElem_of_mem hx
 have := h i (List.mem_range.2 hi)
 rwa [Zc8 hi] at this
 intro h j hj
 have hj := List.mem_range.1 hj
 rw [Zc8 hj]
 exact h _ (List.getElem_mem _)
theorem T7 {α : Type} [Inhabited α] {xs : List α} {n : Nat} (h : n < xs.length) : rd xs (n : Int) ∈ xs := by rw [Zc8 h]; exact List.getElem_mem _
theorem We6 (K : Nat) (a b c : Int) : Zl4 K a b c = some (decide (b ≤ a ∧ a ≤ c)) := by
 unfold Zl4; split <;> rename_i h <;> simp [h]
theorem Ys5 (K : Nat) (a b c : Int) : Zi3 K a b c = some (decide (b ≤ a ∧ a ≤ c)) := by
 unfold Zi3; split <;> rename_i h <;> simp [h]
theorem Ye5 (K : Nat) (x : Int) : F2 K x = some (x % 10007) := Xu6 K x
/-! degrees -/
def okD (ds : List Int) : Bool := ds.all (fun d => decide (1 ≤ d ∧ d ≤ 12)) && decide (ds.length ≤ 8)
theorem Ve8 {K : Nat} {ds : List Int} (hK : ds.length < K) : Zi6 K ds = some (okD ds) := by
 unfold Zi6
 rw [Xm8 (g := ()) (fun k i => J7 K ds k i) ds.length (fun j => decide (1 ≤ rd ds (j : Int) ∧ rd ds (j : Int) ≤ 12)) false (fun k n => ?_) hK, Yu6 ds (fun d => decide (1 ≤ d ∧ d ≤ 12))]
 unfold okD
 cases ds.all (fun d => decide (1 ≤ d ∧ d ≤ 12)) with
 | true => simp [Ex.elim]; omega
 | false => rfl
 show J7 K ds (k + 1) n = _
 rw [J7]
 simp only [We6, Option.bind_some]
/-- a search -/
theorem Xq8 {ρ : Type} (L : Nat → Int → Option (Ex ρ Unit)) (N : Nat) (c : Nat → Bool) (r : Int → ρ)
 (h : ∀ k (n : Nat), n < N → L (k + 1) (n : Int) = if c n = true then some (.ret (r n)) else L k ((n : Int) + 1)) (h' : ∀ k (n : Nat), N ≤ n → L (k + 1) (n : Int) = some (.go ())) :
 ∀ (k n : Nat), n ≤ N → N < n + k → (∃ m : Nat, L k (n : Int) = some (.ret (r m)) ∧ (List.range' n (N - n)).any c = true ∧ m < N) ∨ (L k (n : Int) = some (.go ()) ∧ (List.range' n (N - n)).any c = false) := by
 intro k
 induction k with
 | zero => intro n h1 h2; omega
 | succ k ih =>
  intro n h1 h2
  by_cases hn : n < N
  rw [h k n hn]
  obtain ⟨m, hm⟩ : ∃ m, N - n = m + 1 := ⟨N - n - 1, by omega⟩
  have e : N - (n + 1) = m := by omega
  rw [hm, List.range'_succ, List.any_cons]
  cases hc : c n with
  | true => exact .inl ⟨n, by simp, by simp, hn⟩
  | false =>
   have := ih (n + 1) (by omega) (by omega)
   rw [e] at this
   rw [if_neg (by simp), Bool.false_or]; exact this
  rw [h' k n (by omega), show N - n = 0 by omega]; exact .inr ⟨rfl, rfl⟩
theorem Xo3 {α : Type} [Inhabited α] (xs : List α) (f : α → Bool) : (List.range xs.length).any (fun j => f (rd xs (j : Int))) = xs.any f := by
 have h := Yu6 xs (fun x => !f x)
 rw [← Bool.not_inj_iff, List.not_any_eq_all_not, List.not_any_eq_all_not]
 exact h
theorem Xv7 {K : Nat} {xs : List Int} {p : Int → Option Bool} {q : Int → Bool} (hK : xs.length < K) (hp : ∀ x, x ∈ xs → p x = some (q x)) : R7 K xs p = some (xs.any q) := by
 unfold R7 N2
 have := Xq8 (fun k i => V0 K xs p k i) xs.length (fun j => q (rd xs (j : Int))) id (fun k n hn => ?_) (fun k n hn => ?_) K 0 (by omega) (by omega)
 rw [Nat.sub_zero, ← List.range_eq_range', Xo3 xs q] at this
 rcases this with ⟨m, h1, h2, _⟩ | ⟨h1, h2⟩
 replace h1 : V0 K xs p K 0 = _ := h1
 rw [h1, h2]; simp [Ex.elim]
 replace h1 : V0 K xs p K 0 = _ := h1
 rw [h1, h2]; simp [Ex.elim]
 show V0 K xs p (k + 1) n = _
 rw [V0, if_pos (by omega), hp _ (T7 hn)]; rfl
 show V0 K xs p (k + 1) n = _
 rw [V0, if_neg (by omega)]
theorem Ve1 {K : Nat} {ds : List Int} (hK : ds.length < K) : Zi5 K ds = some (okD ds) := by
 unfold Zi5 okD
 by_cases hl : ds.length ≤ 8
 rw [if_pos (by omega), Xv7 (q := fun x => !decide (1 ≤ x ∧ x ≤ 12)) hK (fun x _ => by unfold Zj7; rw [Ys5]; rfl)]
 rw [← List.not_all_eq_any_not]
 simp [hl]
 rw [if_neg (by omega)]; simp [hl]
def Byt (m : A8) : Prop := ∀ i, 0 ≤ m i ∧ m i ≤ 255
theorem T2 (m : A8) {n : Nat} (h : n < 8) : Y5 m (n : Int) = m ⟨n, h⟩ := by simp [Y5, h]
theorem Byt.idx {m : A8} (h : Byt m) (n : Nat) : 0 ≤ Y5 m n ∧ Y5 m n ≤ 255 := by
 by_cases hn : n < 8
 rw [T2 m hn]; exact h _
 simp [Y5, hn]
theorem Yd9 {d : Int} (h : 0 ≤ d) : d.tmod 2 = d % 2 := Int.tmod_eq_emod_of_nonneg h
def Zm3 (ds : List Int) (j : Nat) : Int := if j < ds.length then (if rd ds j % 2 = 1 then 1 else 20) else 0
def okM (ds : List Int) (m : A8) : Bool := (List.range 8).all fun j => decide (Y5 m j ≤ Zm3 ds j)
theorem D1 {ds : List Int} (h : okD ds = true) : ∀ d, d ∈ ds → 1 ≤ d ∧ d ≤ 12 := by
 intro d hd
 unfold okD at h
 rw [Bool.and_eq_true, List.all_eq_true] at h
 simpa using h.1 d hd
theorem J0 {ds : List Int} (h : okD ds = true) : ds.length ≤ 8 := by
 unfold okD at h
 rw [Bool.and_eq_true] at h
 simpa using h.2
theorem Va4 {K : Nat} {ds : List Int} {m : A8} (hK : 8 < K) (hd : okD ds = true) (hm : Byt m) : Zr1 K ds m = some (okM ds m) := by
 unfold Zr1 okM
 rw [Zc0 (g := ()) (fun k i => P5 K ds m k i) 8 (fun j => decide (Y5 m j ≤ Zm3 ds j)) false (fun k n hn => ?_) (fun k n hn => ?_) hK]
 cases (List.range 8).all fun j => decide (Y5 m j ≤ Zm3 ds j) <;> rfl
 show P5 K ds m (k + 1) n = _
 have hb := hm.idx n
 rw [P5, if_pos (by omega)]
 unfold Zm3
 by_cases hl : n < ds.length
 have hp := D1 hd _ (T7 hl)
 rw [if_neg (by omega), if_pos (show (n : Int) < ds.length by omega), if_pos hl, Yd9 (by omega)]
 by_cases ho : rd ds (n : Int) % 2 = 1
 rw [if_pos ho, if_neg (show ¬ rd ds (n : Int) % 2 = 0 by omega)]
 by_cases h1 : Y5 m n ≤ 1
 rw [if_neg (by omega), if_neg (by omega), if_pos (by simpa using h1)]
 rw [if_neg (show ¬ decide (Y5 m n ≤ 1) = true by simpa using h1), if_pos (show 1 < Y5 m n by omega)]; split <;> rfl
 rw [if_neg ho, if_pos (show rd ds (n : Int) % 2 = 0 by omega)]
 by_cases h1 : Y5 m n ≤ 20
 rw [if_neg (by omega), if_pos (by simpa using h1)]
 rw [if_neg (show ¬ decide (Y5 m n ≤ 20) = true by simpa using h1), if_pos (by omega)]
 rw [if_pos (by omega), if_neg hl]
 by_cases h1 : Y5 m n ≤ 0
 rw [if_pos (by omega), if_pos (by simpa using h1)]
 rw [if_neg (by omega), if_neg (show ¬ decide (Y5 m n ≤ 0) = true by simpa using h1)]
 show P5 K ds m (k + 1) n = _
 rw [P5, if_neg (by omega)]
theorem Wv3 {K : Nat} {ds : List Int} {m : A8} (hK : 8 < K) (hd : okD ds = true) (hm : Byt m) : Zj1 K ds m = some (okM ds m) := by
 unfold Zj1 okM
 rw [Zc0 (g := ()) (fun k i => S6 K ds m k i) 8 (fun j => decide (Y5 m j ≤ Zm3 ds j)) false (fun k n hn => ?_) (fun k n hn => ?_) hK]
 cases (List.range 8).all fun j => decide (Y5 m j ≤ Zm3 ds j) <;> rfl
 show S6 K ds m (k + 1) n = _
 have key : ∀ e : Int, E4 K (S6 K ds m k) m n e = if decide (Y5 m n ≤ e) = true then S6 K ds m k ((n : Int) + 1) else some (.ret false) := by
  intro e
  unfold E4
  by_cases h1 : Y5 m n ≤ e
  rw [if_neg (by omega), if_pos (by simpa using h1)]
  rw [if_neg (show ¬ decide (Y5 m n ≤ e) = true by simpa using h1), if_pos (by omega)]
 rw [S6, if_pos (by omega), key, key, key]
 unfold Zm3
 by_cases hl : n < ds.length
 have hp := D1 hd _ (T7 hl)
 rw [if_pos (show (n : Int) < ds.length by omega), if_pos hl, Yd9 (by omega)]
 by_cases ho : rd ds (n : Int) % 2 = 1
 rw [if_pos ho, if_pos ho]
 rw [if_neg ho, if_neg ho]
 rw [if_neg (show ¬ (n : Int) < ds.length by omega), if_neg hl]
 show S6 K ds m (k + 1) n = _
 rw [S6, if_neg (by omega)]
/-! order -/
theorem Yw2 (a : A8) {n : Nat} (h : n < 8) : (l8 a).drop n = Y5 a n :: (l8 a).drop (n + 1) := by
 match n, h with
 | 0, _ | 1, _ | 2, _ | 3, _ | 4, _ | 5, _ | 6, _ | 7, _ => rfl
theorem Xx0 {K : Nat} (a b : A8) : ∀ (k n : Nat), n ≤ 8 → 8 < n + k → ∃ e, I6 K a b k n = some e ∧ Ex.elim (fun r => some r) (fun _ => some false) e = some (Zf3 ((l8 a).drop n) ((l8 b).drop n)) := by
 intro k
 induction k with
 | zero => intro n h1 h2; omega
 | succ k ih =>
  intro n h1 h2
  rw [I6]
  by_cases hn : n < 8
  rw [if_pos (by omega), Yw2 a hn, Yw2 b hn, Zf3]
  by_cases e : Y5 a n = Y5 b n
  rw [if_pos e, if_pos e]; exact ih (n + 1) (by omega) (by omega)
  rw [if_neg e, if_neg e]; exact ⟨_, rfl, rfl⟩
  have : n = 8 := by omega
  subst this
  exact ⟨_, rfl, rfl⟩
theorem Xd2 {K : Nat} (hK : 8 < K) (a b : A8) : Zc2 K a b = some (bef a b) := by
 obtain ⟨e, h1, h2⟩ := Xx0 (K := K) a b K 0 (by omega) (by omega)
 unfold Zc2
 replace h1 : I6 K a b K 0 = some e := h1
 rw [h1]; exact h2
theorem Xu0 {K : Nat} {a b : A8} (ha : Byt a) (hb : Byt b) : ∀ (k n : Nat), n ≤ 8 → 8 < n + k →
 ∃ e, P4 K a b k n = some e ∧ ∃ r, Ex.elim (fun r => some r) (fun _ => some 0) e = some r ∧ decide (0 ≤ r) = !Zf3 ((l8 a).drop n) ((l8 b).drop n) := by
 intro k
 induction k with
 | zero => intro n h1 h2; omega
 | succ k ih =>
  intro n h1 h2
  rw [P4]
  by_cases hn : n < 8
  rw [if_pos (by omega), Yw2 a hn, Yw2 b hn, Zf3]
  by_cases e : Y5 a n = Y5 b n
  rw [if_pos e, if_pos e]; exact ih (n + 1) (by omega) (by omega)
  rw [if_neg e, if_neg e]
  refine ⟨_, rfl, _, rfl, ?_⟩
  have h3 := ha.idx n
  have h4 := hb.idx n
  rw [IntWalk.i64_in _ (by omega), ← decide_not]
  exact decide_eq_decide.2 (by omega)
  have : n = 8 := by omega
  subst this
  exact ⟨_, rfl, _, rfl, rfl⟩
theorem Wk7 {K : Nat} (hK : 8 < K) {a b : A8} (ha : Byt a) (hb : Byt b) : ∃ r, E7 K a b = some r ∧ decide (0 ≤ r) = !bef a b := by
 obtain ⟨e, h1, r, h2, h3⟩ := Xu0 (K := K) ha hb K 0 (by omega) (by omega)
 unfold E7
 replace h1 : P4 K a b K 0 = some e := h1
 rw [h1]; exact ⟨r, h2, h3⟩
theorem Ze7 (m : A8) {n : Nat} (hn : n < 8) (x : Int) (j : Fin 8) : U7 m n x j = if j.val = n then x else m j := by
 unfold U7
 by_cases h : j.val = n
 rw [if_pos h, if_pos (by omega)]
 rw [if_neg h, if_neg (by omega)]
theorem Xu2 {K : Nat} {m : A8} (hm : Byt m) : ∀ (k n : Nat) (box : A8), n ≤ 8 → 8 < n + k → (∀ j : Fin 8, j.val < n → box j = m j) → D2 K m k n box = some (.go m) := by
 intro k
 induction k with
 | zero => intro n box h1 h2; omega
 | succ k ih =>
  intro n box h1 h2 hb
  rw [D2]
  by_cases hn : n < 8
  rw [if_pos (by omega)]
  refine ih (n + 1) _ (by omega) (by omega) (fun j hj => ?_)
  rw [Ze7 _ hn, T2 m hn]
  by_cases e : j.val = n
  have := hm ⟨n, hn⟩
  rw [if_pos e, IntWalk.i64_in _ (by omega)]
  congr 1; exact Fin.ext e.symm
  rw [if_neg e]; exact hb j (by omega)
  rw [if_neg (by omega)]
  congr 2
  funext j; exact hb j (by omega)
theorem Yk1 {K : Nat} (hK : 8 < K) {m : A8} (hm : Byt m) : Zc6 K m = some m := by
 unfold Zc6
 have := Xu2 (K := K) hm K 0 (fun _ => 0) (by omega) (by omega) (fun j hj => by omega)
 replace this : D2 K m K 0 (fun _ => 0) = _ := this
 rw [this]; rfl
/-! forms -/
def Yc2 (f : MpT) : Prop := ∀ t, t ∈ f → Byt t.1
def okT (ds : List Int) (f : MpT) (j : Nat) : Bool := okM ds (rd f (j : Int)).1 && decide (1 ≤ (rd f (j : Int)).2 ∧ (rd f (j : Int)).2 ≤ 10006) && (decide (j = 0) || bef (rd f ((j : Int) - 1)).1 (rd f (j : Int)).1)
def okF (ds : List Int) (f : MpT) : Bool := (List.range f.length).all (okT ds f) && decide (f.length ≤ 400)
theorem Vg1 {K : Nat} {ds : List Int} {f : MpT} (hK : 8 < K) (hl : f.length < K) (hl2 : f.length ≤ 1099511627776) (hd : okD ds = true) (hf : Yc2 f) : Zv6 K ds f = some (okF ds f) := by
 unfold Zv6 okF
 rw [Zc0 (g := ()) (fun k i => I0 K ds f k i) f.length (okT ds f) false (fun k n hn => ?_) (fun k n hn => ?_) hl]
 cases (List.range f.length).all (okT ds f) with
 | true => simp [Ex.elim]; omega
 | false => rfl
 show I0 K ds f (k + 1) n = _
 rw [I0, if_pos (by omega), Va4 hK hd (hf _ (T7 hn))]
 unfold okT
 rw [Option.bind_some]
 cases okM ds (rd f (n : Int)).1 with
 | false => rfl
 | true =>
  rw [if_pos rfl, We6, Option.bind_some, Bool.true_and]
  cases decide (1 ≤ (rd f (n : Int)).2 ∧ (rd f (n : Int)).2 ≤ 10006) with
  | false => rfl
  | true =>
   rw [if_pos rfl, Bool.true_and, IntWalk.i64_in _ (by omega), Xd2 hK]
   by_cases h0 : n = 0
   subst h0; rfl
   rw [if_pos (by omega), if_pos (by omega), if_pos (by omega), Option.bind_some]
   simp only [h0, decide_false, Bool.false_or]
 show I0 K ds f (k + 1) n = _
 rw [I0, if_neg (by omega)]
theorem Vf4 {K : Nat} {ds : List Int} {f : MpT} (hK : 400 < K) (hd : okD ds = true) (hf : Yc2 f) : Zn0 K ds f = some (okF ds f) := by
 unfold Zn0 okF
 by_cases hl : f.length ≤ 400
 case neg => rw [if_pos (by omega)]; simp [hl]
 rw [if_neg (by omega), Zc0 (g := ()) (fun k i => M4 K ds f k i) f.length (okT ds f) false (fun k n hn => ?_) (fun k n hn => ?_) (by omega)]
 cases (List.range f.length).all (okT ds f) with
 | true => simp [Ex.elim, hl]
 | false => rfl
 show M4 K ds f (k + 1) n = _
 have hb := hf _ (T7 hn)
 rw [M4, if_pos (by omega), Wv3 (by omega) hd hb]
 unfold okT
 rw [Option.bind_some]
 cases okM ds (rd f (n : Int)).1 with
 | false => rfl
 | true =>
  unfold Zu2
  rw [if_pos rfl, Ys5, Option.bind_some, Option.bind_some, Bool.true_and]
  cases decide (1 ≤ (rd f (n : Int)).2 ∧ (rd f (n : Int)).2 ≤ 10006) with
  | false => rfl
  | true =>
   unfold Zk9
   rw [if_neg (by simp), Bool.true_and, IntWalk.i64_in _ (by omega)]
   by_cases h0 : n = 0
   subst h0; rfl
   obtain ⟨m, rfl⟩ : ∃ m, n = m + 1 := ⟨n - 1, by omega⟩
   have e : ((m + 1 : Nat) : Int) - 1 = (m : Int) := by omega
   rw [e]
   have hb' := hf _ (T7 (show m < f.length by omega))
   obtain ⟨r, h1, h2⟩ := Wk7 (K := K) (by omega) hb' hb
   rw [if_pos (by omega), if_pos (by omega), if_pos (by omega), Yk1 (by omega) hb', Yk1 (by omega) hb, Option.bind_some, Option.bind_some, h1, Option.bind_some]
   simp only [Nat.succ_ne_zero, decide_false, Bool.false_or]
   cases hq : bef (rd f (m : Int)).1 (rd f ((m + 1 : Nat) : Int)).1 with
   | true => rw [hq] at h2; rw [if_neg (by simpa using h2)]; rfl
   | false => rw [hq] at h2; rw [if_pos (by simpa using h2)]; rfl
 show M4 K ds f (k + 1) n = _
 rw [M4, if_neg (by omega)]
def wtN (ds : List Int) (m : A8) : Nat → Int
 | 0 => 0
 | n + 1 => wtN ds m n + rd ds (n : Int) * Y5 m (n : Int)
def wt (ds : List Int) (m : A8) : Int := wtN ds m ds.length
theorem Xj2 {ds : List Int} {m : A8} (hd : okD ds = true) (hm : Byt m) {n : Nat} (hn : n < ds.length) : 0 ≤ rd ds (n : Int) * Y5 m n ∧ rd ds (n : Int) * Y5 m n ≤ 3060 := by
 have h1 := D1 hd _ (T7 hn)
 have h2 := hm.idx n
 refine ⟨Int.mul_nonneg (by omega) h2.1, ?_⟩
 calc rd ds (n : Int) * Y5 m n ≤ 12 * Y5 m n := Int.mul_le_mul_of_nonneg_right h1.2 h2.1
  _ ≤ 3060 := by omega
theorem Ye7 {ds : List Int} {m : A8} (hd : okD ds = true) (hm : Byt m) : ∀ n : Nat, n ≤ ds.length → 0 ≤ wtN ds m n ∧ wtN ds m n ≤ 3060 * n
 | 0, _ => by simp [wtN]
 | n + 1, h => by
  have h1 := Ye7 hd hm n (by omega)
  have h2 := Xj2 hd hm (n := n) (by omega)
  rw [wtN]; omega
theorem Xu8 {ds : List Int} {m : A8} (hd : okD ds = true) (hm : Byt m) : 0 ≤ wt ds m ∧ wt ds m ≤ 24480 := by
 have h1 := Ye7 hd hm ds.length (Nat.le_refl _)
 have h2 := J0 hd
 unfold wt; omega
theorem Xx1 {K : Nat} {ds : List Int} {m : A8} (hd : okD ds = true) (hm : Byt m) : ∀ (k n : Nat), n ≤ ds.length → ds.length < n + k → G9 K ds m k (wtN ds m n) n = some (.go (wt ds m)) := by
 have hl := J0 hd
 intro k
 induction k with
 | zero => intro n h1 h2; omega
 | succ k ih =>
  intro n h1 h2
  rw [G9]
  by_cases hn : n < ds.length
  have h3 := Xj2 hd hm hn
  have h4 := Ye7 hd hm n (by omega)
  have h5 := hm.idx n
  rw [if_pos (by omega), if_pos (by omega), IntWalk.i64_in (Y5 m n) (by omega), IntWalk.i64_in (rd ds (n : Int) * Y5 m n) (by omega), IntWalk.i64_in _ (by omega)]
  exact ih (n + 1) (by omega) (by omega)
  rw [if_neg (by omega)]
  have : n = ds.length := by omega
  subst this; rfl
theorem Xc1 {K : Nat} {ds : List Int} {m : A8} (hK : 8 < K) (hd : okD ds = true) (hm : Byt m) : B5 K ds m = some (wt ds m) := by
 have hl := J0 hd
 have := Xx1 (K := K) hd hm K 0 (by omega) (by omega)
 unfold B5
 replace this : G9 K ds m K 0 0 = _ := this
 rw [this]; rfl
theorem Xy2 {K : Nat} {ds : List Int} {m : A8} (hd : okD ds = true) (hm : Byt m) : ∀ (k n : Nat), n ≤ ds.length → ds.length < n + k → M9 K m ds k (wtN ds m n) n = some (.go (wt ds m)) := by
 have hl := J0 hd
 intro k
 induction k with
 | zero => intro n h1 h2; omega
 | succ k ih =>
  intro n h1 h2
  rw [M9]
  by_cases hn : n < ds.length
  have h3 := Xj2 hd hm hn
  have h4 := Ye7 hd hm n (by omega)
  rw [if_pos (by omega), if_pos (by omega), IntWalk.i64_in (rd ds (n : Int) * Y5 m n) (by omega), IntWalk.i64_in _ (by omega)]
  exact ih (n + 1) (by omega) (by omega)
  rw [if_neg (by omega)]
  have : n = ds.length := by omega
  subst this; rfl
theorem Wt1 {K : Nat} {ds : List Int} {m : A8} (hK : 8 < K) (hd : okD ds = true) (hm : Byt m) : Zf7 K m ds = some (wt ds m) := by
 have hl := J0 hd
 have := Xy2 (K := K) hd hm K 0 (by omega) (by omega)
 unfold Zf7
 replace this : M9 K m ds K 0 0 = _ := this
 rw [this]; rfl
/-- all terms of a form have this degree -/
def okG (ds : List Int) (f : MpT) (n : Int) : Bool := f.all fun t => decide (wt ds t.1 = n)
theorem Xg9 {f : MpT} {c : C7 → Bool} (h : 0 < f.length) : ((List.range' 1 (f.length - 1)).all fun j => c (rd f (j : Int))) = f.tail.all c := by
 obtain ⟨t, f, rfl⟩ : ∃ t f', f = t :: f' := by cases f with | nil => simp at h | cons t f => exact ⟨t, f, rfl⟩
 rw [Bool.eq_iff_iff, List.all_eq_true, List.all_eq_true, List.tail_cons, List.length_cons]
 constructor
 intro h x hx
 obtain ⟨i, hi, rfl⟩ := List.getElem_of_mem hx
 have := h (i + 1) (by rw [List.mem_range'_1]; omega)
 rwa [Zc8 (by simp; exact hi), List.getElem_cons_succ] at this
 intro h j hj
 rw [List.mem_range'_1] at hj
 obtain ⟨i, rfl⟩ : ∃ i, j = i + 1 := ⟨j - 1, by omega⟩
 rw [Zc8 (by simp; omega), List.getElem_cons_succ]
 exact h _ (List.getElem_mem _)
theorem Xr4 {ds : List Int} {f : MpT} {n : Int} (h : 0 < f.length) : okG ds f n = (f.tail.all (fun t => decide (wt ds t.1 = wt ds (rd f 0).1)) && decide (wt ds (rd f 0).1 = n)) := by
 obtain ⟨t, f, rfl⟩ : ∃ t f', f = t :: f' := by cases f with | nil => simp at h | cons t f => exact ⟨t, f, rfl⟩
 have e : rd (t :: f) 0 = t := rfl
 unfold okG
 rw [e, List.tail_cons, List.all_cons]
 by_cases hn : wt ds t.1 = n
 subst hn; simp
 simp [hn]
theorem Wk0 {K : Nat} {ds : List Int} {f : MpT} (hK : 8 < K) (hl : f.length < K) (hd : okD ds = true) (hf : Yc2 f) :
 ∃ r, Zm0 K ds f = some r ∧ ∀ n, (r.2 && (decide (f.length = 0) || decide (r.1 = n))) = okG ds f n := by
 unfold Zm0
 by_cases h0 : f.length = 0
 rw [if_pos (by omega)]
 refine ⟨_, rfl, fun n => ?_⟩
 have : f = [] := List.eq_nil_of_length_eq_zero h0
 subst this; rfl
 have hb0 : Byt (rd f 0).1 := hf _ (T7 (n := 0) (by omega))
 rw [if_neg (by omega), if_pos (by omega), Xc1 hK hd hb0, Option.bind_some]
 have := Xa6 (g := ()) (fun k i => L6 K ds f (wt ds (rd f 0).1) k i) f.length (fun j => decide (wt ds (rd f (j : Int)).1 = wt ds (rd f 0).1)) (0, false) (fun k n => ?_) K 1 (by omega) (by omega)
 replace this : L6 K ds f (wt ds (rd f 0).1) K 1 = _ := this
 refine ⟨if f.tail.all (fun t => decide (wt ds t.1 = wt ds (rd f 0).1)) = true then (wt ds (rd f 0).1, true) else (0, false), ?_, fun n => ?_⟩
 rw [this, Xg9 (c := fun t => decide (wt ds t.1 = wt ds (rd f 0).1)) (by omega)]
 split <;> rfl
 rw [Xr4 (by omega)]
 cases f.tail.all (fun t => decide (wt ds t.1 = wt ds (rd f 0).1)) with
 | true => simp [h0]
 | false => simp
 show L6 K ds f (wt ds (rd f 0).1) (k + 1) n = _
 rw [L6]
 by_cases hn : n < f.length
 rw [if_pos (by omega), if_pos (by omega), Xc1 hK hd (hf _ (T7 hn)), Option.bind_some]
 simp only [decide_eq_true_eq]
 rw [if_neg (by omega), if_neg (by omega)]
theorem Wk5 {K : Nat} {ds : List Int} {f : MpT} {n : Int} (hK : 8 < K) (hl : f.length < K) (hd : okD ds = true) (hf : Yc2 f) (hn : 0 ≤ n) : Zi9 K ds f n = some (okG ds f n) := by
 unfold Zi9 Zu3
 by_cases h0 : f.length = 0
 have : f = [] := List.eq_nil_of_length_eq_zero h0
 subst this
 obtain ⟨k, rfl⟩ : ∃ k, K = k + 1 := ⟨K - 1, by omega⟩
 rw [T8]; rfl
 have step : ∀ (k m : Nat) (out : Int), m < f.length → T8 K ds f (k + 1) out m = if 0 ≤ out ∧ wt ds (rd f (m : Int)).1 ≠ out then some (.ret (0, false)) else T8 K ds f k (wt ds (rd f (m : Int)).1) ((m : Int) + 1) := by
  intro k m out hm
  have hb := hf _ (T7 hm)
  rw [T8, if_pos (by omega), Yk1 hK hb, Option.bind_some, Wt1 hK hd hb, Option.bind_some]
  unfold Zh0
  by_cases h1 : 0 ≤ out
  by_cases h2 : wt ds (rd f (m : Int)).1 = out
  rw [if_pos h1, if_neg (by simp [h2]), if_neg (by simp [h2])]
  rw [if_pos h1, if_pos (by simp [h2]), if_pos ⟨h1, h2⟩]
  rw [if_neg h1, if_neg (by simp), if_neg (by simp [h1])]
 have hw := Xu8 hd (hf _ (T7 (n := 0) (by omega)))
 replace hw : 0 ≤ wt ds (rd f 0).1 ∧ wt ds (rd f 0).1 ≤ 24480 := hw
 obtain ⟨k, rfl⟩ : ∃ k, K = k + 1 := ⟨K - 1, by omega⟩
 have s0 := step k 0 (-1) (by omega)
 rw [if_neg (by simp)] at s0
 replace s0 : T8 (k + 1) ds f (k + 1) (-1) 0 = T8 (k + 1) ds f k (wt ds (rd f 0).1) 1 := s0
 have := Xa6 (g := wt ds (rd f 0).1) (fun k' i => T8 (k + 1) ds f k' (wt ds (rd f 0).1) i) f.length (fun j => decide (wt ds (rd f (j : Int)).1 = wt ds (rd f 0).1)) (0, false) (fun k' m => ?_) k 1 (by omega) (by omega)
 replace this : T8 (k + 1) ds f k (wt ds (rd f 0).1) 1 = _ := this
 rw [s0, this, Xg9 (c := fun t => decide (wt ds t.1 = wt ds (rd f 0).1)) (by omega), Xr4 (by omega)]
 cases f.tail.all (fun t => decide (wt ds t.1 = wt ds (rd f 0).1)) with
 | true =>
  rw [if_pos rfl]
  simp only [Option.bind_some, Ex.elim, if_true, Bool.true_and]
  rw [if_neg (by omega)]
 | false => rfl
 show T8 (k + 1) ds f (k' + 1) (wt ds (rd f 0).1) m = _
 by_cases hm : m < f.length
 rw [step k' m _ hm, if_pos (show (m : Int) < f.length by omega)]
 by_cases h2 : wt ds (rd f (m : Int)).1 = wt ds (rd f 0).1
 rw [if_neg (by simp [h2]), h2]; simp
 rw [if_pos ⟨hw.1, h2⟩, if_neg (by simpa using h2)]
 rw [T8, if_neg (by omega), if_neg (by omega)]
/-- factors that are not too large -/
def SmF (g : MpT) : Prop := ∀ t, t ∈ g → -10006 ≤ t.2 ∧ t.2 ≤ 10006
theorem Yk8 {k x : Int} (hk : -10006 ≤ k ∧ k ≤ 10006) (hx : -10006 ≤ x ∧ x ≤ 10006) : -100120036 ≤ k * x ∧ k * x ≤ 100120036 := by
 have h1 : (k * x).natAbs ≤ 10006 * 10006 := by
  rw [Int.natAbs_mul]
  exact Nat.mul_le_mul (by omega) (by omega)
 omega
theorem Zx2 {f : MpT} {i : Nat} (h : i < f.length) : f.drop i = rd f (i : Int) :: f.drop (i + 1) := by rw [Zc8 h]; exact List.drop_eq_getElem_cons h
theorem Ws9 {K : Nat} {f g : MpT} {kk : Int} (hK : 8 < K) (hk : -10006 ≤ kk ∧ kk ≤ 10006) (hf : SmF f) (hg : SmF g) (hfl : f.length ≤ 274877906944) (hgl : g.length ≤ 274877906944) :
 ∀ (k i j : Nat) (out : MpT), i ≤ f.length → j ≤ g.length → (f.length - i) + (g.length - j) < k → out.length ≤ i + j →
  R6 K f g kk k (i : Int) out (j : Int) = some (.go (out ++ mrg kk (f.drop i) (g.drop j))) := by
 intro k
 induction k with
 | zero => intro i j out h1 h2 h3 h4; omega
 | succ k ih =>
  intro i j out h1 h2 h3 h4
  have w1 : ∀ n : Nat, n ≤ 274877906944 → IntKind.i64.wrap ((n : Int) + 1) = ((n + 1 : Nat) : Int) := fun n hn => by rw [IntWalk.i64_in _ (by omega)]; rfl
  -- a term of f
  have fF : i < f.length → F1 K (R6 K f g kk k) f g kk i j out true = some (.go (out ++ (rd f (i : Int) :: mrg kk (f.drop (i + 1)) (g.drop j)))) := by
   intro hi
   unfold F1
   rw [if_pos rfl, if_pos (by omega), if_pos (by omega), if_pos (by simp; omega), w1 i (by omega), ih (i + 1) j _ (by omega) h2 (by omega) (by simp; omega)]
   simp
  -- a term of g
  have fG : j < g.length → D4 K (R6 K f g kk k) f g kk i j out true = some (.go (out ++ cnz (rd g (j : Int)).1 ((kk * (rd g (j : Int)).2) % 10007) (mrg kk (f.drop i) (g.drop (j + 1))))) := by
   intro hj
   have hm := Yk8 hk (hg _ (T7 hj))
   unfold D4
   rw [if_pos rfl, if_pos (by omega), if_pos (by omega), Ye5, Option.bind_some, IntWalk.i64_in _ (by omega), w1 j (by omega)]
   unfold cnz
   by_cases h0 : kk * (rd g (j : Int)).2 % 10007 = 0
   rw [if_pos h0, if_pos h0, ih i (j + 1) _ h1 (by omega) (by omega) (by omega)]
   rw [if_neg h0, if_neg h0, if_pos (by simp; omega), ih i (j + 1) _ h1 (by omega) (by omega) (by simp; omega)]
   simp
  have fB : i < f.length → j < g.length → D4 K (R6 K f g kk k) f g kk i j out false = some (.go (out ++ cnz (rd f (i : Int)).1 (((rd f (i : Int)).2 + (kk * (rd g (j : Int)).2) % 10007) % 10007) (mrg kk (f.drop (i + 1)) (g.drop (j + 1))))) := by
   intro hi hj
   have hm := Yk8 hk (hg _ (T7 hj))
   have hm2 := hf _ (T7 hi)
   unfold D4 Zj0
   rw [if_neg (by simp), if_pos (by omega), if_pos (by omega), if_pos (by omega), if_pos (by omega), Ye5, Option.bind_some, Ye5, Option.bind_some, IntWalk.i64_in (kk * (rd g (j : Int)).2) (by omega), IntWalk.i64_in ((rd f (i : Int)).2 + _) (by omega), w1 j (by omega), w1 i (by omega)]
   unfold cnz
   by_cases h0 : ((rd f (i : Int)).2 + kk * (rd g (j : Int)).2 % 10007) % 10007 = 0
   rw [if_pos h0, if_pos h0, ih (i + 1) (j + 1) _ (by omega) (by omega) (by omega) (by omega)]
   rw [if_neg h0, if_neg h0, if_pos (by simp; omega), ih (i + 1) (j + 1) _ (by omega) (by omega) (by omega) (by simp; omega)]
   simp
  rw [R6]
  by_cases hi : i < f.length
  rw [if_pos (by omega)]
  unfold Ze5
  rw [if_pos rfl]
  by_cases hj : j < g.length
  rw [if_neg (by omega), if_pos (by omega), if_pos (by omega), if_pos (by omega), if_pos (by omega), Xd2 hK, Option.bind_some, Zx2 hi, Zx2 hj, mrg]
  cases hb : bef (rd f (i : Int)).1 (rd g (j : Int)).1 with
  | true => rw [fF hi, if_pos rfl, Zx2 hj]
  | false =>
   rw [if_neg (by simp)]
   unfold F1
   rw [if_neg (by simp), if_neg (by omega), if_pos (by omega), if_pos (by omega), if_pos (by omega), if_pos (by omega), Xd2 hK, Option.bind_some]
   cases hb2 : bef (rd g (j : Int)).1 (rd f (i : Int)).1 with
   | true => rw [fG hj, if_pos rfl, Zx2 hi]
   | false => rw [fB hi hj, if_neg (by simp)]
  have e : j = g.length := by omega
  rw [if_pos (by omega), fF hi, Zx2 hi]
  subst e
  simp [mrg]
  have e : i = f.length := by omega
  rw [if_neg (by omega)]
  unfold Ze5
  by_cases hj : j < g.length
  rw [if_pos (by simpa using hj), if_neg (by omega), if_neg (by omega)]
  unfold F1
  rw [if_neg (by simp), if_pos (by omega), fG hj, Zx2 hj]
  subst e
  rw [List.drop_length, mrg]
  rw [if_neg (by simpa using hj)]
  have e2 : j = g.length := by omega
  subst e; subst e2
  simp [mrg]
theorem Wu6 {K : Nat} {f g : MpT} {kk : Int} (hK : 8 < K) (hl : f.length + g.length < K) (hk : -10006 ≤ kk ∧ kk ≤ 10006) (hf : SmF f) (hg : SmF g) (hfl : f.length ≤ 274877906944) (hgl : g.length ≤ 274877906944) :
 Zn1 K f g kk = some (mrg kk f g) := by
 have := Ws9 hK hk hf hg hfl hgl K 0 0 [] (by omega) (by omega) (by omega) (by simp)
 unfold Zn1
 replace this : R6 K f g kk K 0 [] 0 = some (.go (mrg kk f g)) := this
 rw [this]; rfl
theorem Yn9 {s : MpT} {p : A8} {f f' : Int} (h : f % 10007 = f' % 10007) : Zt8 s p f = Zt8 s p f' := by
 unfold Zt8
 rw [show (N3 s p + f) % 10007 = (N3 s p + f') % 10007 by omega]
theorem Zv5 {s : MpT} (h : nfm s = true) : SmF s := fun t ht => by have := Yd3 h t ht; omega
theorem Xs9 (x : Int) : (x.tmod 10007) % 10007 = x % 10007 := by
 rw [Int.tmod_eq_emod]; split <;> omega
theorem Yy1 {K : Nat} {a : Int} (ha : -10006 ≤ a ∧ a ≤ 10006) : ∀ (k : Nat) (t s : MpT), t.length < k → SmF t → nfm s = true → U0 K a k t s = some (.go (I3 (scl a t) s))
 | 0, _, _, h, _, _ => by omega
 | k + 1, [], s, _, _, _ => by rw [U0]; rfl
 | k + 1, z :: t, s, h, ht, hs => by
  have hz := ht z (List.mem_cons_self ..)
  have hm := Yk8 hz ha
  have hb : -10006 ≤ (z.2 * a).tmod 10007 ∧ (z.2 * a).tmod 10007 ≤ 10006 := by rw [Int.tmod_eq_emod]; split <;> omega
  rw [U0, IntWalk.i64_in _ (by omega), Yh9 ⟨hs, by omega, by omega⟩, Option.bind_some, Yy1 ha k t _ (by simpa using h) (fun q hq => ht q (List.mem_cons_of_mem _ hq)) (Zg1 hs _ _)]
  rw [Yn9 (f' := a * z.2) (by rw [Xs9, Int.mul_comm])]
  rfl
theorem Wo8 {K : Nat} {a : Int} {t s : MpT} (ha : -10006 ≤ a ∧ a ≤ 10006) (hl : t.length < K) (ht : SmF t) (hs : nfm s = true) : F0 K s t a = some (I3 (scl a t) s) := by
 unfold F0
 rw [Yy1 ha K t s hl ht hs]; rfl
/-- exponents at most B, at most 1 for odd generators, none behind the last one -/
structure Mo (B : Int) (ds : List Int) (p : A8) : Prop where
 lo : ∀ i, 0 ≤ p i
 hi : ∀ i, p i ≤ B
 odd : ∀ n : Nat, n < ds.length → rd ds (n : Int) % 2 = 1 → Y5 p n ≤ 1
 out : ∀ i : Fin 8, ds.length ≤ i.val → p i = 0
theorem Xk1 {p : A8} {B : Int} (lo : ∀ i, 0 ≤ p i) (hi : ∀ i, p i ≤ B) (h0 : 0 ≤ B) (n : Nat) : 0 ≤ Y5 p n ∧ Y5 p n ≤ B := by
 by_cases hn : n < 8
 rw [T2 p hn]; exact ⟨lo _, hi _⟩
 simp [Y5, hn]; exact h0
def Yc6 (p q : A8) : A8 := fun i => p i + q i
theorem Wb7 (p q : A8) (n : Nat) : Y5 (Yc6 p q) n = Y5 p n + Y5 q n := by
 by_cases hn : n < 8
 rw [T2 _ hn, T2 _ hn, T2 _ hn]; rfl
 simp [Y5, hn]
def od (ds : List Int) (p : A8) : Nat → Nat → Int
 | 0, _ => 0
 | n + 1, j => rd ds (j : Int) % 2 * Y5 p (j : Int) + od ds p n (j + 1)
def tot (ds : List Int) (p q : A8) : Nat → Nat → Option Int
 | 0, _ => some 0
 | n + 1, i => if rd ds (i : Int) % 2 = 0 then tot ds p q n (i + 1) else if 0 < Y5 p i ∧ 0 < Y5 q i then none else (tot ds p q n (i + 1)).map fun t => (if 0 < Y5 q i then od ds p n (i + 1) else 0) + t
def sg (t : Int) : Int := if t % 2 = 1 then -1 else 1
def I2 (ds : List Int) (p q : A8) : A8 × Int :=
 match tot ds p q ds.length 0 with
 | none => ((fun _ => 0), 0)
 | some t => (Yc6 p q, sg t)
theorem Xb4 {ds : List Int} {p : A8} {B : Int} (lo : ∀ i, 0 ≤ p i) (hi : ∀ i, p i ≤ B) (h0 : 0 ≤ B) : ∀ n j : Nat, 0 ≤ od ds p n j ∧ od ds p n j ≤ B * n
 | 0, _ => by simp [od]
 | n + 1, j => by
  have h1 := Xb4 lo hi h0 (ds := ds) n (j + 1)
  have h2 := Xk1 lo hi h0 j
  rw [od, show B * ((n + 1 : Nat) : Int) = B * n + B by rw [Int.natCast_add, Int.mul_add]; simp]
  rcases Int.emod_two_eq (rd ds (j : Int)) with e | e
  rw [e]; omega
  rw [e]; omega
theorem Yt8 {ds : List Int} {p q : A8} {B : Int} (lo : ∀ i, 0 ≤ p i) (hi : ∀ i, p i ≤ B) (h0 : 0 ≤ B) : ∀ (n i : Nat) (t : Int), tot ds p q n i = some t → 0 ≤ t ∧ t ≤ (B * 8) * n ∨ 8 < n
 | 0, i, t, h => by cases h; simp
 | n + 1, i, t, h => by
  rw [tot] at h
  have e : B * 8 * ((n + 1 : Nat) : Int) = B * 8 * n + B * 8 := by rw [Int.natCast_add, Int.mul_add]; simp
  by_cases h8 : 8 < n + 1
  exact .inr h8
  refine .inl ?_
  split at h
  have := Yt8 lo hi h0 n _ t h; omega
  split at h
  cases h
  obtain ⟨u, hu, rfl⟩ := Option.map_eq_some_iff.1 h
  have h1 := Yt8 lo hi h0 n _ u hu
  have h2 := Xb4 lo hi h0 (ds := ds) n (i + 1)
  have h3 : B * (n : Int) ≤ B * 8 := Int.mul_le_mul_of_nonneg_left (by omega) h0
  split <;> omega
section
variable {K : Nat} {ds : List Int} {p q : A8}
theorem Ws0 {B : Int} (hd : okD ds = true) (lo : ∀ i, 0 ≤ p i) (hi : ∀ i, p i ≤ B) (h0 : 0 ≤ B) (hB : B ≤ 1000) : ∀ (k j : Nat) (s : Int), ds.length < j + k → j ≤ ds.length → 0 ≤ s ∧ s ≤ 1000000000 + 1000 * j →
 K3 K p ds k s j = some (.go (s + od ds p (ds.length - j) j)) := by
 have hl := J0 hd
 intro k
 induction k with
 | zero => intro j s h1 h2; omega
 | succ k ih =>
  intro j s h1 h2 hs
  rw [K3]
  by_cases hj : j < ds.length
  have h3 := D1 hd _ (T7 hj)
  have h4 := Xk1 lo hi h0 j
  have h5 : 0 ≤ rd ds (j : Int) % 2 * Y5 p j ∧ rd ds (j : Int) % 2 * Y5 p j ≤ 1000 := by
   rcases Int.emod_two_eq (rd ds (j : Int)) with e | e <;> rw [e] <;> omega
  rw [if_pos (by omega), if_pos (by omega), Yd9 (by omega), IntWalk.i64_in (rd ds (j : Int) % 2 * Y5 p j) (by omega), IntWalk.i64_in _ (by omega)]
  have e := ih (j + 1) (s + rd ds (j : Int) % 2 * Y5 p j) (by omega) (by omega) (by omega)
  obtain ⟨m, hm⟩ : ∃ m, ds.length - j = m + 1 := ⟨ds.length - j - 1, by omega⟩
  have e2 : ds.length - (j + 1) = m := by omega
  rw [e2] at e
  rw [hm, od, ← Int.add_assoc]; exact e
  rw [if_neg (by omega), show ds.length - j = 0 by omega, od, Int.add_zero]
theorem Wo1 {B : Int} (hK : 8 < K) (hd : okD ds = true) (lo : ∀ i, 0 ≤ p i) (hi : ∀ i, p i ≤ B) (h0 : 0 ≤ B) (hB : B ≤ 1000) : ∀ (k i : Nat) (s : Int), ds.length < i + k → i ≤ ds.length → 0 ≤ s ∧ s ≤ 8000 * i →
 T5 K p ds q k i s = some (match tot ds p q (ds.length - i) i with | none => .ret ((fun _ => 0), 0) | some t => .go (s + t)) := by
 have hl := J0 hd
 intro k
 induction k with
 | zero => intro j s h1 h2; omega
 | succ k ih =>
  intro i s h1 h2 hs
  rw [T5]
  by_cases hj : i < ds.length
  have h3 := D1 hd _ (T7 hj)
  obtain ⟨m, hm⟩ : ∃ m, ds.length - i = m + 1 := ⟨ds.length - i - 1, by omega⟩
  have e2 : ds.length - (i + 1) = m := by omega
  rw [if_pos (by omega), Yd9 (by omega), hm, tot]
  by_cases he : rd ds (i : Int) % 2 = 0
  rw [if_pos he, if_pos he]
  have := ih (i + 1) s (by omega) (by omega) (by omega)
  rw [e2] at this; exact this
  rw [if_neg he, if_neg he, if_pos (by omega)]
  have key : F3 K (T5 K p ds q k) p ds q i s false = some (match (tot ds p q m (i + 1)).map fun t => (if 0 < Y5 q i then od ds p m (i + 1) else 0) + t with | none => .ret ((fun _ => 0), 0) | some t => .go (s + t)) := by
   unfold F3
   rw [if_neg (by simp), if_pos (by omega)]
   by_cases hq : 0 < Y5 q i
   have hb := Xb4 lo hi h0 (ds := ds) m (i + 1)
   have hb2 : B * (m : Int) ≤ 1000 * 8 := by
    calc B * (m : Int) ≤ 1000 * m := Int.mul_le_mul_of_nonneg_right hB (by omega)
     _ ≤ 1000 * 8 := by omega
   have h5 := Ws0 (K := K) hd lo hi h0 hB K (i + 1) s (by omega) (by omega) (by omega)
   have h6 := ih (i + 1) (s + od ds p m (i + 1)) (by omega) (by omega) (by omega)
   rw [e2] at h5 h6
   rw [if_pos hq]
   replace h5 : K3 K p ds K s ((i : Int) + 1) = _ := h5
   rw [h5, Option.bind_some]
   show T5 K p ds q k ((i : Int) + 1) (s + od ds p m (i + 1)) = _
   replace h6 : T5 K p ds q k ((i : Int) + 1) (s + od ds p m (i + 1)) = _ := h6
   rw [h6]
   cases tot ds p q m (i + 1) with
   | none => rfl
   | some t => simp only [Option.map_some, hq, if_true, Int.add_assoc]
   have h6 := ih (i + 1) s (by omega) (by omega) (by omega)
   rw [e2] at h6
   rw [if_neg hq]
   replace h6 : T5 K p ds q k ((i : Int) + 1) s = _ := h6
   rw [h6]
   cases tot ds p q m (i + 1) with
   | none => rfl
   | some t => simp only [Option.map_some, hq, if_false, Int.zero_add]
  by_cases hp : 0 < Y5 p i
  rw [if_pos hp]
  by_cases hq : 0 < Y5 q i
  rw [if_pos ⟨hp, hq⟩]
  unfold F3
  rw [if_pos (by simpa using hq)]
  rw [if_neg (fun h => hq h.2), show decide (0 < Y5 q (i : Int)) = false by simpa using hq]; exact key
  rw [if_neg hp, if_neg (fun h => hp h.1)]; exact key
  rw [if_neg (by omega), show ds.length - i = 0 by omega, tot]; simp
theorem Wr8 {B : Int} (lo : ∀ i, 0 ≤ p i) (hi : ∀ i, p i ≤ B) (lo2 : ∀ i, 0 ≤ q i) (hi2 : ∀ i, q i ≤ B) (hB : B ≤ 1000) : ∀ (k n : Nat) (box : A8), n ≤ 8 → 8 < n + k → (∀ j : Fin 8, box j = if j.val < n then p j + q j else p j) →
 N9 K q k n box = some (.go (Yc6 p q)) := by
 intro k
 induction k with
 | zero => intro n box h1 h2; omega
 | succ k ih =>
  intro n box h1 h2 hb
  rw [N9]
  by_cases hn : n < 8
  rw [if_pos (by omega)]
  refine ih (n + 1) _ (by omega) (by omega) (fun j => ?_)
  rw [Ze7 _ hn, T2 _ hn, T2 _ hn]
  by_cases e : j.val = n
  have ej : (⟨n, hn⟩ : Fin 8) = j := Fin.ext e.symm
  rw [if_pos e, if_pos (by omega), ej, hb j, if_neg (by omega)]
  have h3 := lo j; have h4 := hi j; have h5 := lo2 j; have h6 := hi2 j
  exact IntWalk.i64_in _ (by omega)
  rw [if_neg e, hb j]
  by_cases hj : j.val < n
  rw [if_pos hj, if_pos (by omega)]
  rw [if_neg hj, if_neg (by omega)]
  rw [if_neg (by omega)]
  congr 2
  funext j
  rw [hb j, if_pos (by omega)]; rfl
theorem Wv9 {B : Int} (hK : 8 < K) (hd : okD ds = true) (lo : ∀ i, 0 ≤ p i) (hi : ∀ i, p i ≤ B) (lo2 : ∀ i, 0 ≤ q i) (hi2 : ∀ i, q i ≤ B) (h0 : 0 ≤ B) (hB : B ≤ 1000) : E1 K p ds q = some (I2 ds p q) := by
 have hl := J0 hd
 have h1 := Wo1 (K := K) (q := q) hK hd lo hi h0 hB K 0 0 (by omega) (by omega) (by simp)
 unfold E1 I2
 replace h1 : T5 K p ds q K 0 0 = _ := h1
 rw [h1, Option.bind_some, Nat.sub_zero]
 cases ht : tot ds p q ds.length 0 with
 | none => rfl
 | some t =>
  have hb := Yt8 lo hi h0 _ _ _ ht
  have h2 := Wr8 (K := K) lo hi lo2 hi2 hB K 0 p (by omega) (by omega) (fun j => by simp)
  replace h2 : N9 K q K 0 p = _ := h2
  show (N9 K q K 0 p).bind _ = _
  rw [h2, Option.bind_some]
  show (if (0 + t).tmod 2 = 1 then some (Yc6 p q, (-1 : Int)) else some (Yc6 p q, 1)) = _
  rw [Int.zero_add, Yd9 (by omega)]
  unfold sg
  by_cases h : t % 2 = 1 <;> simp [h]
end
theorem Wj0 (a b : Int) : sg (a + b) = sg a * sg b := by
 unfold sg
 rcases Int.emod_two_eq a with h1 | h1 <;> rcases Int.emod_two_eq b with h2 | h2
 rw [if_neg (by omega), if_neg (by omega), if_neg (by omega)]; rfl
 rw [if_pos (by omega), if_neg (by omega), if_pos (by omega)]; rfl
 rw [if_pos (by omega), if_pos (by omega), if_neg (by omega)]; rfl
 rw [if_neg (by omega), if_pos (by omega), if_pos (by omega)]; rfl
theorem Xd9 (a : Int) : sg a = 1 ∨ sg a = -1 := by unfold sg; split <;> simp
section
variable {K : Nat} {ds : List Int} {p q : A8}
theorem Mo.idx {B : Int} (h : Mo B ds p) (n : Nat) : 0 ≤ Y5 p n ∧ (Y5 p n ≤ B ∨ 8 ≤ n) := by
 by_cases hn : n < 8
 rw [T2 p hn]; exact ⟨h.lo _, .inl (h.hi _)⟩
 simp [Y5, hn]; omega
theorem Wk9 {B : Int} (hd : okD ds = true) (hp : Mo B ds p) (i : Int) (h1q : Y5 q i = 1) : ∀ (k j : Nat) (t : Int), ds.length < j + k → j ≤ ds.length →
 R4 K ds p q i k (sg t) j = some (.go (sg (t + od ds p (ds.length - j) j))) := by
 have hl := J0 hd
 intro k
 induction k with
 | zero => intro j s h1 h2; omega
 | succ k ih =>
  intro j t h1 h2
  have w1 : IntKind.i64.wrap ((j : Int) + 1) = ((j + 1 : Nat) : Int) := by rw [IntWalk.i64_in _ (by omega)]; rfl
  rw [R4]
  by_cases hj : j < ds.length
  obtain ⟨m, hm⟩ : ∃ m, ds.length - j = m + 1 := ⟨ds.length - j - 1, by omega⟩
  have e2 : ds.length - (j + 1) = m := by omega
  have h3 := D1 hd _ (T7 hj)
  have h4 := hp.idx j
  rw [if_pos (by omega)]
  unfold E6
  rw [if_pos (by simpa using h1q), if_pos (by omega), if_pos (by omega), Yd9 (by omega), hm, od, ← Int.add_assoc]
  by_cases he : rd ds (j : Int) % 2 = 0
  rw [if_pos he]
  unfold Za3
  have := ih (j + 1) t (by omega) (by omega)
  rw [e2] at this
  rw [if_neg (by simp), w1, this, he, Int.zero_mul, Int.add_zero]
  have ho : rd ds (j : Int) % 2 = 1 := by omega
  have h5 := hp.odd j hj ho
  rw [if_neg he, if_pos (by omega), ho, Int.one_mul]
  unfold Za3
  by_cases h6 : Y5 p j = 1
  have := ih (j + 1) (t + 1) (by omega) (by omega)
  rw [e2] at this
  have e3 : IntKind.i64.wrap (0 - sg t) = sg (t + 1) := by
   rw [Wj0]
   rcases Xd9 t with e | e <;> rw [e] <;> rfl
  rw [if_pos (by simpa using h6), e3, w1, this, h6]
  have := ih (j + 1) t (by omega) (by omega)
  rw [e2] at this
  have e0 : Y5 p j = 0 := by omega
  rw [if_neg (by simpa using h6), w1, this, e0, Int.add_zero]
  rw [if_neg (by omega)]
  unfold E6
  rw [if_neg (by simp), show ds.length - j = 0 by omega, od, Int.add_zero]
theorem Wg2 (hd : okD ds = true) (i : Int) (h1q : Y5 q i ≠ 1) {k : Nat} (hk : 0 < k) (j : Nat) (s : Int) : R4 K ds p q i k s j = some (.go s) := by
 obtain ⟨k, rfl⟩ : ∃ m, k = m + 1 := ⟨k - 1, by omega⟩
 rw [R4]
 unfold E6
 split
 rw [if_neg (by simpa using h1q)]
 rw [if_neg (by simp)]
theorem We3 {x : Int} (h : 0 ≤ x ∧ x ≤ 255) : IntKind.u8.wrap x = x := by
 show x % 256 = x
 omega
theorem Wj6 {B C : Int} (hK : 8 < K) (hd : okD ds = true) (hp : Mo B ds p) (hq : Mo C ds q) (hBC : B + C ≤ 255) : ∀ (k i : Nat) (t : Int) (box : A8), ds.length < i + k → i ≤ ds.length →
 (∀ j : Fin 8, box j = if j.val < i then p j + q j else 0) →
 R9 K ds p q k i box (sg t) = some (match tot ds p q (ds.length - i) i with | none => .ret ((fun _ => 0), 0) | some u => .go (sg (t + u), Yc6 p q)) := by
 have hl := J0 hd
 intro k
 induction k with
 | zero => intro j s box h1 h2; omega
 | succ k ih =>
  intro i t box h1 h2 hb
  rw [R9]
  by_cases hj : i < ds.length
  have h3 := D1 hd _ (T7 hj)
  obtain ⟨m, hm⟩ : ∃ m, ds.length - i = m + 1 := ⟨ds.length - i - 1, by omega⟩
  have e2 : ds.length - (i + 1) = m := by omega
  have hi8 : i < 8 := by omega
  have h4 := hp.idx i
  have h5 := hq.idx i
  have hw : IntKind.u8.wrap (Y5 p i + Y5 q i) = Y5 p i + Y5 q i := We3 (by omega)
  have hbox : ∀ j : Fin 8, U7 box i (Y5 p i + Y5 q i) j = if j.val < i + 1 then p j + q j else 0 := by
   intro j
   rw [Ze7 _ hi8, T2 _ hi8, T2 _ hi8]
   by_cases e : j.val = i
   have ej : (⟨i, hi8⟩ : Fin 8) = j := Fin.ext e.symm
   rw [if_pos e, if_pos (by omega), ej]
   rw [if_neg e, hb j]
   by_cases hj : j.val < i
   rw [if_pos hj, if_pos (by omega)]
   rw [if_neg hj, if_neg (by omega)]
  rw [if_pos (by omega), if_pos (by omega), Yd9 (by omega), hm, tot, hw]
  by_cases he : rd ds (i : Int) % 2 = 0
  rw [if_pos he, if_pos he]
  have := ih (i + 1) t _ (by omega) (by omega) hbox
  rw [e2] at this; exact this
  have ho : rd ds (i : Int) % 2 = 1 := by omega
  have h6 := hp.odd i hj ho
  have h7 := hq.odd i hj ho
  rw [if_neg he, if_neg he]
  have eb : Y5 (U7 box i (Y5 p i + Y5 q i)) i = Y5 p i + Y5 q i := by rw [T2 _ hi8, Ze7 _ hi8, if_pos rfl]
  rw [eb]
  by_cases hz : 0 < Y5 p i ∧ 0 < Y5 q i
  rw [if_pos (by omega), if_pos hz]
  rw [if_neg (by omega), if_neg hz]
  by_cases h1q : Y5 q i = 1
  have h8 := Wk9 (K := K) hd hp (i : Int) h1q K (i + 1) t (by omega) (by omega)
  rw [e2] at h8
  replace h8 : R4 K ds p q i K (sg t) ((i : Int) + 1) = _ := h8
  rw [h8, Option.bind_some]
  have := ih (i + 1) (t + od ds p m (i + 1)) _ (by omega) (by omega) hbox
  rw [e2] at this
  show R9 K ds p q k ((i : Int) + 1) _ (sg (t + od ds p m (i + 1))) = _
  replace this : R9 K ds p q k ((i : Int) + 1) _ (sg (t + od ds p m (i + 1))) = _ := this
  rw [this]
  cases tot ds p q m (i + 1) with
  | none => rfl
  | some u => simp only [Option.map_some, show 0 < Y5 q (i : Int) by omega, if_true, Int.add_assoc]
  have h8 := Wg2 (K := K) (p := p) hd (i : Int) h1q (k := K) (by omega) (i + 1) (sg t)
  replace h8 : R4 K ds p q i K (sg t) ((i : Int) + 1) = _ := h8
  rw [h8, Option.bind_some]
  have := ih (i + 1) t _ (by omega) (by omega) hbox
  rw [e2] at this
  show R9 K ds p q k ((i : Int) + 1) _ (sg t) = _
  replace this : R9 K ds p q k ((i : Int) + 1) _ (sg t) = _ := this
  rw [this]
  cases tot ds p q m (i + 1) with
  | none => rfl
  | some u => simp only [Option.map_some, show ¬ 0 < Y5 q (i : Int) by omega, if_false, Int.zero_add]
  rw [if_neg (by omega), show ds.length - i = 0 by omega, tot]
  show some (Ex.go (sg t, box)) = some (Ex.go (sg (t + 0), Yc6 p q))
  rw [Int.add_zero]
  congr 3
  funext j
  rw [hb j]
  by_cases hj : j.val < i
  rw [if_pos hj]; rfl
  rw [if_neg hj]
  show (0 : Int) = p j + q j
  rw [hp.out j (by omega), hq.out j (by omega)]; rfl
theorem Wr0 {B C : Int} (hK : 8 < K) (hd : okD ds = true) (hp : Mo B ds p) (hq : Mo C ds q) (hBC : B + C ≤ 255) : Zk7 K ds p q = some (I2 ds p q) := by
 have hl := J0 hd
 have h1 := Wj6 (K := K) hK hd hp hq hBC K 0 0 (fun _ => 0) (by omega) (by omega) (fun j => by simp)
 unfold Zk7 I2
 replace h1 : R9 K ds p q K 0 (fun _ => 0) 1 = _ := h1
 rw [h1, Option.bind_some, Nat.sub_zero]
 cases tot ds p q ds.length 0 with
 | none => rfl
 | some u =>
  show some (Yc6 p q, sg (0 + u)) = some (Yc6 p q, sg u)
  rw [Int.zero_add]
/-- products that are not 0 -/
theorem Yx0 (h : (I2 ds p q).2 ≠ 0) : (I2 ds p q).1 = Yc6 p q ∧ ∃ t, tot ds p q ds.length 0 = some t := by
 unfold I2 at h ⊢
 cases hq : tot ds p q ds.length 0 with
 | none => rw [hq] at h; exact absurd rfl h
 | some t => exact ⟨rfl, t, rfl⟩
theorem Xo5 : (I2 ds p q).2 = 0 ∨ (I2 ds p q).2 = 1 ∨ (I2 ds p q).2 = -1 := by
 unfold I2
 cases tot ds p q ds.length 0 with
 | none => exact .inl rfl
 | some t => exact .inr (Xd9 t)
theorem Xk4 : ∀ (n i : Nat) (t : Int), tot ds p q n i = some t → ∀ j, i ≤ j → j < i + n → rd ds (j : Int) % 2 = 1 → ¬ (0 < Y5 p j ∧ 0 < Y5 q j)
 | 0, i, t, _, j, h1, h2, _ => by omega
 | n + 1, i, t, h, j, h1, h2, ho => by
  rw [tot] at h
  by_cases e : i = j
  subst e
  rw [if_neg (by omega)] at h
  split at h
  cases h
  rename_i hn; exact hn
  split at h
  exact Xk4 n (i + 1) t h j (by omega) (by omega) ho
  split at h
  cases h
  obtain ⟨u, hu, _⟩ := Option.map_eq_some_iff.1 h
  exact Xk4 n (i + 1) u hu j (by omega) (by omega) ho
theorem Mo.mul {B C : Int} (hp : Mo B ds p) (hq : Mo C ds q) (h : (I2 ds p q).2 ≠ 0) : Mo (B + C) ds (I2 ds p q).1 := by
 obtain ⟨e, t, ht⟩ := Yx0 h
 rw [e]
 refine ⟨fun i => Int.add_nonneg (hp.lo i) (hq.lo i), fun i => Int.add_le_add (hp.hi i) (hq.hi i), fun n hn ho => ?_, fun i hi => ?_⟩
 rw [Wb7]
 have h1 := hp.odd n hn ho
 have h2 := hq.odd n hn ho
 have h3 := Xk4 _ _ _ ht n (by omega) (by omega) ho
 omega
 show p i + q i = 0
 rw [hp.out i hi, hq.out i hi]; rfl
end
def Zu4 (ds : List Int) (z : C7) (t : MpT) : MpT := t.filterMap fun q => if (I2 ds z.1 q.1).2 = 0 then none else some ((I2 ds z.1 q.1).1, (I2 ds z.1 q.1).2 * z.2 * q.2)
def Zl3 (ds : List Int) (s t : MpT) : MpT := s.flatMap fun z => Zu4 ds z t
def MoL (B : Int) (ds : List Int) (s : MpT) : Prop := ∀ t, t ∈ s → Mo B ds t.1
theorem Xc0 {a x y : Int} (ha : a = 0 ∨ a = 1 ∨ a = -1) (hx : -10006 ≤ x ∧ x ≤ 10006) (hy : -10006 ≤ y ∧ y ≤ 10006) : (-10006 ≤ a * x ∧ a * x ≤ 10006) ∧ -100120036 ≤ a * x * y ∧ a * x * y ≤ 100120036 := by
 have h : -10006 ≤ a * x ∧ a * x ≤ 10006 := by rcases ha with rfl | rfl | rfl <;> omega
 exact ⟨h, Yk8 h hy⟩
section
variable {K : Nat} {ds : List Int}
theorem Xl8 {B C : Int} {z : C7} (hK : 8 < K) (hd : okD ds = true) (hz : Mo B ds z.1) (hz2 : -10006 ≤ z.2 ∧ z.2 ≤ 10006) (h0 : 0 ≤ B) (h0' : 0 ≤ C) (hBC : B + C ≤ 255) :
 ∀ (k : Nat) (t s : MpT), t.length < k → MoL C ds t → SmF t → nfm s = true → V7 K ds z k t s = some (.go (I3 (Zu4 ds z t) s))
 | 0, _, _, h, _, _, _ => by omega
 | k + 1, [], s, _, _, _, _ => by rw [V7]; rfl
 | k + 1, q :: t, s, h, ht, hf, hs => by
  have hq := ht q (List.mem_cons_self ..)
  have hq2 := hf q (List.mem_cons_self ..)
  have hm := Xc0 (Xo5 (ds := ds) (p := z.1) (q := q.1)) hz2 hq2
  have ih := fun s' (hs' : nfm s' = true) => Xl8 (s := s') hK hd hz hz2 h0 h0' hBC k t (by simpa using h) (fun q hq => ht q (List.mem_cons_of_mem _ hq)) (fun q hq => hf q (List.mem_cons_of_mem _ hq)) hs'
  rw [V7, Wv9 (B := B + C) hK hd hz.lo (fun i => by have := hz.hi i; omega) hq.lo (fun i => by have := hq.hi i; omega) (by omega) (by omega), Option.bind_some]
  unfold Zu4
  rw [List.filterMap_cons]
  by_cases e : (I2 ds z.1 q.1).2 = 0
  rw [if_pos e, if_pos e, ih s hs]; rfl
  have hb : -10006 ≤ ((I2 ds z.1 q.1).2 * z.2 * q.2).tmod 10007 ∧ ((I2 ds z.1 q.1).2 * z.2 * q.2).tmod 10007 ≤ 10006 := by rw [Int.tmod_eq_emod]; split <;> omega
  rw [if_neg e, if_neg e, IntWalk.i64_in ((I2 ds z.1 q.1).2 * z.2) (by omega), IntWalk.i64_in _ (by omega), Yh9 ⟨hs, by omega, by omega⟩, Option.bind_some, ih _ (Zg1 hs _ _)]
  rw [Yn9 (Xs9 _)]; rfl
theorem Xm7 {B C : Int} {t : MpT} (hK : 8 < K) (hd : okD ds = true) (h0 : 0 ≤ B) (h0' : 0 ≤ C) (hBC : B + C ≤ 255) (ht : MoL C ds t) (hf : SmF t) (hl : t.length < K) :
 ∀ (k : Nat) (s acc : MpT), s.length < k → MoL B ds s → SmF s → nfm acc = true → S0 K ds t k s acc = some (.go (I3 (Zl3 ds s t) acc))
 | 0, _, _, h, _, _, _ => by omega
 | k + 1, [], s, _, _, _, _ => by rw [S0]; rfl
 | k + 1, z :: s, acc, h, hs, hsf, ha => by
  rw [S0, Xl8 hK hd (hs z (List.mem_cons_self ..)) (hsf z (List.mem_cons_self ..)) h0 h0' hBC K t acc hl ht hf ha, Option.bind_some]
  show S0 K ds t k s (I3 (Zu4 ds z t) acc) = _
  rw [Xm7 hK hd h0 h0' hBC ht hf hl k s _ (by simpa using h) (fun q hq => hs q (List.mem_cons_of_mem _ hq)) (fun q hq => hsf q (List.mem_cons_of_mem _ hq)) (Zl6 _ ha), ← Xb2]
  rfl
theorem Xw3 {B C : Int} {s t : MpT} (hK : 8 < K) (hd : okD ds = true) (h0 : 0 ≤ B) (h0' : 0 ≤ C) (hBC : B + C ≤ 255) (hs : MoL B ds s) (hsf : SmF s) (ht : MoL C ds t) (hf : SmF t) (hsl : s.length < K) (hl : t.length < K) :
 E8 K s ds t = some (I3 (Zl3 ds s t) []) := by
 unfold E8
 rw [Xm7 hK hd h0 h0' hBC ht hf hl K s [] hsl hs hsf Zw1]; rfl
/-! the other side -/
def shf (ds : List Int) (z : C7) (g : MpT) : MpT := g.filterMap fun q => if (I2 ds z.1 q.1).2 = 0 then none else some ((I2 ds z.1 q.1).1, ((I2 ds z.1 q.1).2 * z.2 * q.2) % 10007)
theorem Wd4 {B C : Int} {z : C7} {g : MpT} (hK : 8 < K) (hd : okD ds = true) (hz : Mo B ds z.1) (hz2 : -10006 ≤ z.2 ∧ z.2 ≤ 10006) (hBC : B + C ≤ 255) (hg : MoL C ds g) (hf : SmF g) (hl : g.length ≤ 1099511627776) :
 ∀ (k i : Nat) (out : MpT), g.length < i + k → i ≤ g.length → out.length ≤ i → J3 K ds z g k i out = some (.go (out ++ shf ds z (g.drop i))) := by
 intro k
 induction k with
 | zero => intro i out h1 h2; omega
 | succ k ih =>
  intro i out h1 h2 h3
  rw [J3]
  by_cases hi : i < g.length
  have hq := hg _ (T7 hi)
  have hm := Xc0 (Xo5 (ds := ds) (p := z.1) (q := (rd g (i : Int)).1)) hz2 (hf _ (T7 hi))
  rw [if_pos (by omega), Wr0 hK hd hz hq hBC, Option.bind_some, Zx2 hi]
  unfold shf
  rw [List.filterMap_cons]
  by_cases e : (I2 ds z.1 (rd g (i : Int)).1).2 = 0
  have := ih (i + 1) out (by omega) (by omega) (by omega)
  rw [if_pos e, if_pos e]
  exact this
  have := ih (i + 1) (out ++ [((I2 ds z.1 (rd g (i : Int)).1).1, ((I2 ds z.1 (rd g (i : Int)).1).2 * z.2 * (rd g (i : Int)).2) % 10007)]) (by omega) (by omega) (by simp; omega)
  rw [if_neg e, if_neg e, IntWalk.i64_in ((I2 ds z.1 (rd g (i : Int)).1).2 * z.2) (by omega), IntWalk.i64_in _ (by omega), Ye5, Option.bind_some, if_pos (by simp; omega)]
  refine Eq.trans this ?_
  rw [List.append_assoc]; rfl
  rw [if_neg (by omega), List.drop_eq_nil_of_le (by omega)]
  show _ = some (Ex.go (out ++ []))
  rw [List.append_nil]
theorem Wy2 {B C : Int} {z : C7} {g : MpT} (hK : 8 < K) (hd : okD ds = true) (hz : Mo B ds z.1) (hz2 : -10006 ≤ z.2 ∧ z.2 ≤ 10006) (hBC : B + C ≤ 255) (hg : MoL C ds g) (hf : SmF g) (hl : g.length ≤ 1099511627776) (hlK : g.length < K) :
 Zo3 K ds z g = some (shf ds z g) := by
 have := Wd4 (K := K) hK hd hz hz2 hBC hg hf hl K 0 [] (by omega) (by omega) (by simp)
 unfold Zo3
 replace this : J3 K ds z g K 0 [] = some (.go (shf ds z g)) := this
 rw [this]; rfl
theorem Xs4 : ∀ (p q r : List Int), p.length = q.length → q.length = r.length → Zf3 (List.zipWith (· + ·) p q) (List.zipWith (· + ·) p r) = Zf3 q r
 | [], [], [], _, _ => rfl
 | a :: p, b :: q, c :: r, h1, h2 => by
  simp only [List.zipWith_cons_cons, Zf3]
  rw [Xs4 p q r (by simpa using h1) (by simpa using h2)]
  by_cases e : b = c
  rw [if_pos e, if_pos (by omega)]
  rw [if_neg e, if_neg (by omega)]
  exact decide_eq_decide.2 (by omega)
theorem Wx2 (p q r : A8) : bef (Yc6 p q) (Yc6 p r) = bef q r := Xs4 (l8 p) (l8 q) (l8 r) rfl rfl
theorem Xs8 {z : C7} {g : MpT} : ∀ r, r ∈ shf ds z g → ∃ q, q ∈ g ∧ (I2 ds z.1 q.1).2 ≠ 0 ∧ r = ((I2 ds z.1 q.1).1, ((I2 ds z.1 q.1).2 * z.2 * q.2) % 10007) := by
 intro r hr
 obtain ⟨q, hq, h⟩ := List.mem_filterMap.1 hr
 by_cases e : (I2 ds z.1 q.1).2 = 0
 rw [if_pos e] at h; cases h
 rw [if_neg e] at h; cases h; exact ⟨q, hq, e, rfl⟩
theorem Xj9 {z : C7} : ∀ {g : MpT}, Srt g → Srt (shf ds z g)
 | [], _ => List.Pairwise.nil
 | q :: g, h => by
  have h' := List.pairwise_cons.1 h
  unfold shf
  rw [List.filterMap_cons]
  by_cases e : (I2 ds z.1 q.1).2 = 0
  rw [if_pos e]; exact Xj9 h'.2
  rw [if_neg e]
  refine List.pairwise_cons.2 ⟨fun r hr => ?_, Xj9 h'.2⟩
  obtain ⟨u, hu, hn, rfl⟩ := Xs8 r hr
  show bef (I2 ds z.1 q.1).1 (I2 ds z.1 u.1).1 = true
  rw [(Yx0 e).1, (Yx0 hn).1, Wx2]
  exact h'.1 u hu
theorem Wm3 {z : C7} {g : MpT} : SmF (shf ds z g) := by
 intro r hr
 obtain ⟨q, _, _, rfl⟩ := Xs8 r hr
 show -10006 ≤ _ % 10007 ∧ _ % 10007 ≤ (10006 : Int)
 omega
theorem Ww8 (z : C7) (g : MpT) : (shf ds z g).length ≤ g.length := List.length_filterMap_le _ _
theorem Xn2 (z : C7) (g : MpT) : (Zu4 ds z g).length ≤ g.length := List.length_filterMap_le _ _
theorem Xl1 {z : C7} : ∀ (g s : MpT), I3 (scl 1 (shf ds z g)) s = I3 (Zu4 ds z g) s
 | [], s => rfl
 | q :: g, s => by
  unfold shf Zu4
  rw [List.filterMap_cons, List.filterMap_cons]
  by_cases e : (I2 ds z.1 q.1).2 = 0
  rw [if_pos e, if_pos e]; exact Xl1 g s
  rw [if_neg e, if_neg e]
  show I3 (scl 1 (shf ds z g)) (Zt8 s _ (1 * _)) = I3 (Zu4 ds z g) (Zt8 s _ _)
  rw [Xl1 g, Yn9 (f' := (I2 ds z.1 q.1).2 * z.2 * q.2) (by rw [Int.one_mul, Int.emod_emod])]
theorem Wf6 {B C : Int} {f g : MpT} (hK : 1073741824 ≤ K) (hd : okD ds = true) (h0 : 0 ≤ B) (hBC : B + C ≤ 255) (hf : MoL B ds f) (hff : SmF f) (hg : MoL C ds g) (hgf : SmF g) (hgs : Srt g) (hgl : g.length ≤ 1000000) :
 ∀ (k i : Nat) (acc : MpT), f.length < i + k → i ≤ f.length → nfm acc = true → acc.length + (f.length - i) * g.length ≤ 100000000 →
  F7 K ds f g k i acc = some (.go (I3 (Zl3 ds (f.drop i) g) acc)) := by
 intro k
 induction k with
 | zero => intro i acc h1 h2; omega
 | succ k ih =>
  intro i acc h1 h2 ha hb
  rw [F7]
  by_cases hi : i < f.length
  have hz := hf _ (T7 hi)
  have hz2 := hff _ (T7 hi)
  have hsl : (shf ds ((rd f (i : Int)).1, (rd f (i : Int)).2) g).length ≤ g.length := Ww8 _ g
  have hml := Yj6 (Zu4 ds (rd f (i : Int)) g) acc
  have hml2 := Xn2 (ds := ds) (rd f (i : Int)) g
  have hmul : (f.length - i) * g.length = (f.length - (i + 1)) * g.length + g.length := by
   rw [show f.length - i = (f.length - (i + 1)) + 1 by omega, Nat.add_mul, Nat.one_mul]
  rw [if_pos (by omega), Wy2 (z := ((rd f (i : Int)).1, (rd f (i : Int)).2)) (by omega) hd hz hz2 hBC hg hgf (by omega) (by omega), Option.bind_some,
   Wu6 (by omega) (by omega) (by omega) (Zv5 ha) Wm3 (by omega) (by omega), Option.bind_some, Xz7 ha (Xj9 hgs), Xl1]
  have := ih (i + 1) (I3 (Zu4 ds (rd f (i : Int)) g) acc) (by omega) (by omega) (Zl6 _ ha) (by omega)
  refine Eq.trans this ?_
  rw [Zx2 hi]
  show _ = some (Ex.go (I3 (Zu4 ds (rd f (i : Int)) g ++ Zl3 ds (f.drop (i + 1)) g) acc))
  rw [Xb2]
  rw [if_neg (by omega), List.drop_eq_nil_of_le (by omega)]; rfl
theorem Xw8 {B C : Int} {f g : MpT} (hK : 1073741824 ≤ K) (hd : okD ds = true) (h0 : 0 ≤ B) (hBC : B + C ≤ 255) (hf : MoL B ds f) (hff : SmF f) (hg : MoL C ds g) (hgf : SmF g) (hgs : Srt g) (hgl : g.length ≤ 1000000)
 (hfl : f.length < K) (hb : f.length * g.length ≤ 100000000) : Zh5 K ds f g = some (I3 (Zl3 ds f g) []) := by
 have := Wf6 (K := K) hK hd h0 hBC hf hff hg hgf hgs hgl K 0 [] (by omega) (by omega) Zw1 (by simpa using hb)
 unfold Zh5
 replace this : F7 K ds f g K 0 [] = some (.go (I3 (Zl3 ds f g) [])) := this
 rw [this]; rfl
theorem Xf4 {z : C7} {g : MpT} : ∀ r, r ∈ Zu4 ds z g → ∃ q, q ∈ g ∧ (I2 ds z.1 q.1).2 ≠ 0 ∧ r.1 = (I2 ds z.1 q.1).1 := by
 intro r hr
 obtain ⟨q, hq, h⟩ := List.mem_filterMap.1 hr
 by_cases e : (I2 ds z.1 q.1).2 = 0
 rw [if_pos e] at h; cases h
 rw [if_neg e] at h; cases h; exact ⟨q, hq, e, rfl⟩
theorem Va7 {B C : Int} {f g : MpT} (hf : MoL B ds f) (hg : MoL C ds g) : MoL (B + C) ds (Zl3 ds f g) := by
 intro r hr
 obtain ⟨z, hz, hr⟩ := List.mem_flatMap.1 hr
 obtain ⟨q, hq, hn, e⟩ := Xf4 r hr
 rw [e]
 exact (hf z hz).mul (hg q hq) hn
theorem Xu3 (f g : MpT) : (Zl3 ds f g).length ≤ f.length * g.length := by
 induction f with
 | nil => simp [Zl3]
 | cons z f ih =>
  show (Zu4 ds z g ++ Zl3 ds f g).length ≤ _
  have := Xn2 (ds := ds) z g
  rw [List.length_append, List.length_cons, Nat.add_mul, Nat.one_mul]; omega
theorem Wn6 {s : MpT} {p : A8} {f : Int} {q : C7} (h : q ∈ Zt8 s p f) : q.1 = p ∨ q ∈ s := by
 unfold Zt8 at h
 split at h
 exact .inr (Yd1.1 h).1
 rcases Zz0.1 h with rfl | h
 exact .inl rfl
 exact .inr h.1
theorem Yk4 : ∀ {T s : MpT} {q : C7}, q ∈ I3 T s → (∃ t, t ∈ T ∧ t.1 = q.1) ∨ ∃ t, t ∈ s ∧ t.1 = q.1
 | [], s, q, h => .inr ⟨q, h, rfl⟩
 | t :: T, s, q, h => by
  rcases Yk4 (T := T) h with ⟨u, hu, e⟩ | ⟨u, hu, e⟩
  exact .inl ⟨u, List.mem_cons_of_mem _ hu, e⟩
  rcases Wn6 hu with h | h
  exact .inl ⟨t, List.mem_cons_self .., h.symm.trans e⟩
  exact .inr ⟨u, h, e⟩
theorem Wy1 {B : Int} {T : MpT} (hT : MoL B ds T) : MoL B ds (I3 T []) := by
 intro q hq
 rcases Yk4 hq with ⟨t, ht, e⟩ | ⟨t, ht, e⟩
 rw [← e]; exact hT t ht
 cases ht
end
/-! a form that is valid -/
structure VF (ds : List Int) (f : MpT) : Prop where
 nf : nfm f = true
 mo : MoL 20 ds f
 len : f.length ≤ 400
theorem Vd3 {ds : List Int} {m : A8} (hm : Byt m) (h : okM ds m = true) : Mo 20 ds m := by
 have hall : ∀ n : Nat, n < 8 → Y5 m n ≤ Zm3 ds n := fun n hn => by
  have := List.all_eq_true.1 h n (List.mem_range.2 hn)
  simpa using this
 have most : ∀ n, Zm3 ds n ≤ 20 := fun n => by unfold Zm3; split; split <;> omega; omega
 refine ⟨fun i => (hm i).1, fun i => ?_, fun n hn ho => ?_, fun i hi => ?_⟩
 have := hall i.val i.isLt
 rw [T2 m i.isLt] at this
 exact Int.le_trans this (most _)
 by_cases h8 : n < 8
 have := hall n h8
 unfold Zm3 at this
 rw [if_pos hn, if_pos ho] at this; exact this
 simp [Y5, h8]
 have := hall i.val i.isLt
 unfold Zm3 at this
 rw [if_neg (by omega), T2 m i.isLt] at this
 have h0 := (hm i).1
 exact Int.le_antisymm this h0
theorem Vd1 {ds : List Int} {f : MpT} (hf : Yc2 f) (h : okF ds f = true) : VF ds f := by
 unfold okF at h
 rw [Bool.and_eq_true, decide_eq_true_eq] at h
 obtain ⟨h, hl⟩ := h
 have hall : ∀ n, n < f.length → okT ds f n = true := fun n hn => List.all_eq_true.1 h n (List.mem_range.2 hn)
 have hmem : ∀ t, t ∈ f → okM ds t.1 = true ∧ 1 ≤ t.2 ∧ t.2 ≤ 10006 := by
  intro t ht
  obtain ⟨i, hi, rfl⟩ := List.getElem_of_mem ht
  have := hall i hi
  unfold okT at this
  rw [Zc8 hi, Bool.and_eq_true, Bool.and_eq_true] at this
  exact ⟨this.1.1, by simpa using this.1.2⟩
 have hadj : ∀ j (hj : j + 1 < f.length), bef f[j].1 f[j + 1].1 = true := by
  intro j hj
  have := hall (j + 1) hj
  unfold okT at this
  rw [Zc8 hj, show ((j + 1 : Nat) : Int) - 1 = (j : Int) by omega, Zc8 (show j < f.length by omega), Bool.and_eq_true] at this
  simpa using this.2
 refine ⟨Ye3 ?_ (fun t ht => (hmem t ht).2), fun t ht => Vd3 (hf t ht) (hmem t ht).1, hl⟩
 rw [Srt, List.pairwise_iff_getElem]
 intro i j hi hj hij
 obtain ⟨d, rfl⟩ : ∃ d, j = i + 1 + d := ⟨j - i - 1, by omega⟩
 clear hij
 induction d with
 | zero => exact hadj i hj
 | succ d ih => exact Zn8 (ih (by omega)) (hadj (i + 1 + d) hj)
theorem Xd3 {s : MpT} {a : A8} {x : Int} (h : Srt (s ++ [(a, x)])) : Za7 s a x = s ++ [(a, x)] := by
 have hp := List.pairwise_append.1 h
 have ha : a ∉ s.map Prod.fst := by
  intro hm
  obtain ⟨q, hq, rfl⟩ := List.mem_map.1 hm
  have := hp.2.2 q hq (q.1, x) (by simp)
  rw [Ze4] at this; cases this
 refine Xe5 (Yj8 hp.1 a x) h ?_
 refine (Zr7 _ _).trans ?_
 unfold Zv1
 rw [Zw9 ha]
 exact (List.perm_append_singleton _ _).symm
theorem We0 {K : Nat} {f : MpT} (hK : 8 < K) (hf : Yc2 f) (hs : Srt f) : ∀ (k i : Nat), f.length < i + k → i ≤ f.length → Zb6 K f k i (f.take i) = some (.go f) := by
 intro k
 induction k with
 | zero => intro i h1 h2; omega
 | succ k ih =>
  intro i h1 h2
  rw [Zb6]
  by_cases hi : i < f.length
  have e : f.take (i + 1) = f.take i ++ [((rd f (i : Int)).1, (rd f (i : Int)).2)] := by
   rw [Zc8 hi, List.take_add_one, List.getElem?_eq_getElem hi]; rfl
  have Z4 : Srt (f.take (i + 1)) := hs.sublist (List.take_sublist _ _)
  rw [if_pos (by omega), Yk1 hK (hf _ (T7 hi)), Option.bind_some, Xd3 (by rw [← e]; exact Z4), ← e]
  exact ih (i + 1) (by omega) (by omega)
  rw [if_neg (by omega), List.take_of_length_le (by omega)]
theorem Wb8 {K : Nat} {f : MpT} (hK : 8 < K) (hl : f.length < K) (hf : Yc2 f) (hs : Srt f) : Zr2 K f = some f := by
 have := We0 hK hf hs K 0 (by omega) (by omega)
 unfold Zr2
 replace this : Zb6 K f K 0 [] = some (.go f) := this
 rw [this]; rfl
theorem Mo.byt {B : Int} {ds : List Int} {m : A8} (h : Mo B ds m) (hB : B ≤ 255) : Byt m := fun i => ⟨h.lo i, Int.le_trans (h.hi i) hB⟩
theorem VF.byt {ds : List Int} {f : MpT} (h : VF ds f) : Yc2 f := fun t ht => (h.mo t ht).byt (by decide)
theorem VF.small {ds : List Int} {f : MpT} (h : VF ds f) : SmF f := Zv5 h.nf
/-! all images -/
theorem Xt4 (m : M8) {n : Nat} (h : n < 8) : Yb8 m (n : Int) = m ⟨n, h⟩ := by simp [Yb8, h]
theorem Wn8 (m : M8) {n : Nat} (hn : n < 8) (x : MpT) (j : Fin 8) : Xj1 m n x j = if j.val = n then x else m j := by
 unfold Xj1
 by_cases h : j.val = n
 rw [if_pos h, if_pos (by omega)]
 rw [if_neg h, if_neg (by omega)]
theorem Xy3 {K : Nat} {a : List Int × List MpT} (hK : 400 < K) (hl : a.2.length ≤ 8) (hv : ∀ f, f ∈ a.2 → ∃ ds, VF ds f) : ∀ (k n : Nat) (box : M8), a.2.length < n + k → n ≤ a.2.length → (∀ j, j < n → Yb8 box (j : Int) = rd a.2 (j : Int)) →
 ∃ r, N4 K a k n box = some (.go r) ∧ ∀ j, j < a.2.length → Yb8 r (j : Int) = rd a.2 (j : Int) := by
 intro k
 induction k with
 | zero => intro n box h1 h2; omega
 | succ k ih =>
  intro n box h1 h2 hb
  rw [N4]
  by_cases hn : n < a.2.length
  obtain ⟨ds, v⟩ := hv _ (T7 hn)
  have hvl := v.len
  rw [if_pos (by omega), Wb8 (by omega) (by omega) v.byt (F5 v.nf), Option.bind_some, if_pos (by omega)]
  refine ih (n + 1) _ (by omega) (by omega) (fun j hj => ?_)
  rw [Xt4 _ (show j < 8 by omega), Wn8 _ (by omega)]
  by_cases e : j = n
  rw [if_pos e, e]
  rw [if_neg e, ← hb j (by omega), Xt4 _ (show j < 8 by omega)]
  rw [if_neg (by omega)]
  exact ⟨box, rfl, fun j hj => hb j (by omega)⟩
theorem Wo0 {K : Nat} {a : List Int × List MpT} (hK : 400 < K) (hl : a.2.length ≤ 8) (hv : ∀ f, f ∈ a.2 → ∃ ds, VF ds f) : ∃ r, Zc7 K a = some r ∧ ∀ j, j < a.2.length → Yb8 r (j : Int) = rd a.2 (j : Int) := by
 obtain ⟨r, h1, h2⟩ := Xy3 hK hl hv K 0 (fun _ => []) (by omega) (by omega) (fun j hj => by omega)
 unfold Zc7
 replace h1 : N4 K a K 0 (fun _ => []) = _ := h1
 rw [h1]; exact ⟨r, rfl, h2⟩
/-! one factor of a monomial -/
def loM (m : A8) (i : Nat) : A8 := fun j => if j.val < i then m j else 0
def hiM (m : A8) (i : Nat) : A8 := fun j => if i < j.val then m j else 0
def lfM (m : A8) (i : Nat) : A8 := U7 (loM m i) i (Y5 m i - 1)
def dT (ds : List Int) (img : MpT) (m : A8) (i : Nat) : MpT := I3 (Zl3 ds (I3 (Zl3 ds [(lfM m i, 1)] img) []) [(hiM m i, 1)]) []
def dF (ds : List Int) (z : C7) (i : Nat) : Int := (sg (wtN ds z.1 i) * z.2 * Y5 z.1 i) % 10007
def Yq5 (ds : List Int) (img : MpT) (z : C7) (i : Nat) (out : MpT) : MpT := I3 (scl (dF ds z i) (dT ds img z.1 i)) out
def Zw6 (ds : List Int) (imgs : List MpT) (z : C7) : Nat → Nat → MpT → MpT
 | 0, _, out => out
 | n + 1, i, out => Zw6 ds imgs z n (i + 1) (if Y5 z.1 (i : Int) = 0 then out else Yq5 ds (rd imgs (i : Int)) z i out)
def Zu7 (ds : List Int) (imgs : List MpT) : MpT → MpT → MpT
 | [], out => out
 | z :: f, out => Zu7 ds imgs f (Zw6 ds imgs z ds.length 0 out)
section
variable {K : Nat} {ds : List Int} {m : A8} {i : Nat}
theorem Xe0 (m : A8) (i n : Nat) : Y5 (loM m i) n = if n < i then Y5 m n else 0 := by
 by_cases hn : n < 8
 rw [T2 _ hn, T2 _ hn]; rfl
 simp [Y5, hn]
theorem Wn1 (m : A8) (i n : Nat) : Y5 (hiM m i) n = if i < n then Y5 m n else 0 := by
 by_cases hn : n < 8
 rw [T2 _ hn, T2 _ hn]; rfl
 simp [Y5, hn]
theorem We7 {B : Int} (h : Mo B ds m) (h0 : 0 ≤ B) (i : Nat) : Mo B ds (loM m i) := by
 refine ⟨fun j => ?_, fun j => ?_, fun n hn ho => ?_, fun j hj => ?_⟩
 unfold loM; split; exact h.lo j; omega
 unfold loM; split; exact h.hi j; omega
 rw [Xe0]; split; exact h.odd n hn ho; omega
 unfold loM; split; exact h.out j hj; rfl
theorem Wd5 {B : Int} (h : Mo B ds m) (h0 : 0 ≤ B) (i : Nat) : Mo B ds (hiM m i) := by
 refine ⟨fun j => ?_, fun j => ?_, fun n hn ho => ?_, fun j hj => ?_⟩
 unfold hiM; split; exact h.lo j; omega
 unfold hiM; split; exact h.hi j; omega
 rw [Wn1]; split; exact h.odd n hn ho; omega
 unfold hiM; split; exact h.out j hj; rfl
theorem Xp5 {B : Int} (h : Mo B ds m) (h0 : 0 ≤ B) (hi : i < 8) (h1 : 0 < Y5 m i) : Mo B ds (lfM m i) := by
 have hl := We7 h h0 i
 unfold lfM
 refine ⟨fun j => ?_, fun j => ?_, fun n hn ho => ?_, fun j hj => ?_⟩
 rw [Ze7 _ hi]; split; omega; exact hl.lo j
 rw [Ze7 _ hi]; split
 have := h.hi ⟨i, hi⟩; rw [← T2 m hi] at this; omega
 exact hl.hi j
 by_cases hn8 : n < 8
 rw [T2 _ hn8, Ze7 _ hi]
 by_cases e : n = i
 subst e; rw [if_pos rfl]; have := h.odd n hn ho; omega
 rw [if_neg e, ← T2 (loM m i) hn8]; exact hl.odd n hn ho
 simp [Y5, hn8]
 rw [Ze7 _ hi]; split
 rename_i e
 have := h.out j hj
 rw [T2 m hi, show (⟨i, hi⟩ : Fin 8) = j from Fin.ext e.symm, this] at h1
 omega
 exact hl.out j hj
theorem Wh6 (m : A8) (i : Nat) : ∀ n, n ≤ i → wtN ds (loM m i) n = wtN ds m n
 | 0, _ => rfl
 | n + 1, h => by rw [wtN, wtN, Wh6 m i n (by omega), Xe0, if_pos (by omega)]
theorem Wb2 (m : A8) (i : Nat) : ∀ n, i ≤ n → wtN ds (loM m i) n = wtN ds m i
 | 0, h => by
  have : i = 0 := by omega
  subst this; rfl
 | n + 1, h => by
  by_cases e : i = n + 1
  subst e; exact Wh6 m _ _ (Nat.le_refl _)
  rw [wtN, Wb2 m i n (by omega), Xe0, if_neg (by omega), Int.mul_zero, Int.add_zero]
theorem Wv0 (m : A8) (i : Nat) (h : i ≤ ds.length) : wt ds (loM m i) = wtN ds m i := Wb2 m i _ h
end
end Go.Proofs.YtabofnehiclkiaaGreat
