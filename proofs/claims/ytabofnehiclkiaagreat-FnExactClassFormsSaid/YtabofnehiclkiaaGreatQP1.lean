/- Plain laws on the pure functions. -/
import Derived.Test.YtabofnehiclkiaaGreatQF30
namespace Go.Proofs.YtabofnehiclkiaaGreat
open Go
set_option linter.unusedSimpArgs false
set_option linter.unusedVariables false
def cf (a : A8) : List (A8 × Int) → Int
 | [] => 0
 | t :: ts => (if t.1 = a then t.2 else 0) + cf a ts
theorem Wk2 {a : A8} : ∀ {xs : List (A8 × Int)}, (∀ q, q ∈ xs → q.1 ≠ a) → cf a xs = 0
 | [], _ => rfl
 | x :: xs, h => by
  rw [cf, if_neg (h x (List.mem_cons_self ..)), Wk2 (fun q hq => h q (List.mem_cons_of_mem _ hq))]; rfl
theorem Xw6 (a : A8) : ∀ {s : MpT}, Srt s → N7 s a = cf a s
 | [], _ => rfl
 | x :: xs, h => by
  have h' := List.pairwise_cons.1 h
  by_cases e : x.1 = a
  rw [Zx8 (x := x.2) h (by rw [← e]; exact List.mem_cons_self ..), cf, if_pos e, Wk2 (fun q hq e' => ?_)]
  omega
  have := h'.1 q hq
  rw [e, e', Zf0] at this; cases this
  rw [cf, if_neg e, ← Xw6 a h'.2, Int.zero_add]
  unfold N7
  rw [List.find?_cons]
  cases hq : eq8 a x.1 with
  | false => rfl
  | true => exact absurd (Zd5.1 hq).symm e
def I5 : List (A8 × Int) → MpT → MpT
 | [], s => s
 | t :: ts, s => I5 ts (Zv2 s t.1 t.2)
theorem Xe4 : ∀ (xs ys : List (A8 × Int)) (s : MpT), I5 (xs ++ ys) s = I5 ys (I5 xs s)
 | [], _, _ => rfl
 | x :: xs, ys, s => Xe4 xs ys _
theorem Zm9 : ∀ (T : List (A8 × Int)) {s : MpT}, nfm s = true → nfm (I5 T s) = true
 | [], _, h => h
 | t :: ts, _, h => Zm9 ts (Zi0 h _ _)
theorem Xq3 (a : A8) : ∀ (T : List (A8 × Int)) {s : MpT}, nfm s = true → N7 (I5 T s) a = (N7 s a + cf a T) % 10007
 | [], s, h => by
  have := Yi5 h a
  simp only [I5, cf]; omega
 | t :: ts, s, h => by
  rw [I5, Xq3 a ts (Zi0 h _ _), Zw2 h, cf]
  by_cases e : a = t.1
  subst e
  simp only [if_true]
  omega
  rw [if_neg e, if_neg (fun h => e h.symm)]; omega
theorem Zy8 : nfm [] = true := rfl
theorem Ws0 (s : MpT) (p : A8) (f : Int) : (Zv2 s p f).length ≤ s.length + 1 := by
 have h1 : (Zx7 s p).length ≤ s.length := List.length_filter_le _ _
 unfold Zv2
 split
 omega
 unfold Zb7
 rw [(Zt8 _ _).length_eq, List.length_cons]; omega
theorem Yk8 : ∀ (T : List (A8 × Int)) (s : MpT), (I5 T s).length ≤ s.length + T.length
 | [], s => by simp [I5]
 | t :: ts, s => by
  have h1 := Yk8 ts (Zv2 s t.1 t.2)
  have h2 := Ws0 s t.1 t.2
  rw [I5, List.length_cons]; omega
def scl (k : Int) (g : List (A8 × Int)) : List (A8 × Int) := g.map fun t => (t.1, k * t.2)
theorem Wq4 (k : Int) (a : A8) : ∀ g, cf a (scl k g) = k * cf a g
 | [] => by simp [scl, cf]
 | t :: g => by
  show (if t.1 = a then k * t.2 else 0) + cf a (scl k g) = k * ((if t.1 = a then t.2 else 0) + cf a g)
  rw [Wq4 k a g, Int.mul_add]
  split <;> simp
/-! two sorted lists, merged -/
def cnz (p : A8) (x : Int) (r : MpT) : MpT := if x = 0 then r else (p, x) :: r
def mrg (k : Int) : MpT → MpT → MpT
 | f, [] => f
 | [], q :: g => cnz q.1 ((k * q.2) % 10007) (mrg k [] g)
 | p :: f, q :: g => if bef p.1 q.1 = true then p :: mrg k f (q :: g) else if bef q.1 p.1 = true then cnz q.1 ((k * q.2) % 10007) (mrg k (p :: f) g) else cnz p.1 ((p.2 + (k * q.2) % 10007) % 10007) (mrg k f g)
termination_by f g => f.length + g.length
theorem Xm6 {p : A8} {x : Int} {r : MpT} {q : A8 × Int} (h : q ∈ cnz p x r) : q.1 = p ∨ q ∈ r := by
 unfold cnz at h
 split at h
 exact .inr h
 rcases List.mem_cons.1 h with rfl | h
 exact .inl rfl
 exact .inr h
theorem Yr3 (k : Int) (f g : MpT) : ∀ q, q ∈ mrg k f g → (∃ p, p ∈ f ∧ p.1 = q.1) ∨ ∃ p, p ∈ g ∧ p.1 = q.1 := by
 fun_induction mrg k f g with
 | case1 f => intro q hq; exact .inl ⟨q, hq, rfl⟩
 | case2 q g ih =>
  intro r hr
  rcases Xm6 hr with h | h
  exact .inr ⟨q, List.mem_cons_self .., h.symm⟩
  rcases ih r h with ⟨p, hp, e⟩ | ⟨p, hp, e⟩
  cases hp
  exact .inr ⟨p, List.mem_cons_of_mem _ hp, e⟩
 | case3 p f q g h ih =>
  intro r hr
  rcases List.mem_cons.1 hr with rfl | hr
  exact .inl ⟨_, List.mem_cons_self .., rfl⟩
  rcases ih r hr with ⟨p, hp, e⟩ | ⟨p, hp, e⟩
  exact .inl ⟨p, List.mem_cons_of_mem _ hp, e⟩
  exact .inr ⟨p, hp, e⟩
 | case4 p f q g h1 h2 ih =>
  intro r hr
  rcases Xm6 hr with h | h
  exact .inr ⟨q, List.mem_cons_self .., h.symm⟩
  rcases ih r h with ⟨p, hp, e⟩ | ⟨p, hp, e⟩
  exact .inl ⟨p, hp, e⟩
  exact .inr ⟨p, List.mem_cons_of_mem _ hp, e⟩
 | case5 p f q g h1 h2 ih =>
  intro r hr
  rcases Xm6 hr with h | h
  exact .inl ⟨p, List.mem_cons_self .., h.symm⟩
  rcases ih r h with ⟨p, hp, e⟩ | ⟨p, hp, e⟩
  exact .inl ⟨p, List.mem_cons_of_mem _ hp, e⟩
  exact .inr ⟨p, List.mem_cons_of_mem _ hp, e⟩
theorem Xm3 {p : A8} {x : Int} {r : MpT} (h : Srt r) (hp : ∀ q, q ∈ r → bef p q.1 = true) : Srt (cnz p x r) := by
 unfold cnz
 split
 exact h
 exact List.pairwise_cons.2 ⟨hp, h⟩
theorem Vb4 (k : Int) (f g : MpT) : Srt f → Srt g → Srt (mrg k f g) := by
 fun_induction mrg k f g with
 | case1 f => intro h _; exact h
 | case2 q g ih =>
  intro h1 h2
  have h2' := List.pairwise_cons.1 h2
  refine Xm3 (ih h1 h2'.2) (fun r hr => ?_)
  rcases Yr3 _ _ _ r hr with ⟨p, hp, e⟩ | ⟨p, hp, e⟩
  cases hp
  rw [← e]; exact h2'.1 p hp
 | case3 p f q g h ih =>
  intro h1 h2
  have h1' := List.pairwise_cons.1 h1
  have h2' := List.pairwise_cons.1 h2
  refine List.pairwise_cons.2 ⟨fun r hr => ?_, ih h1'.2 h2⟩
  rcases Yr3 _ _ _ r hr with ⟨s, hs, e⟩ | ⟨s, hs, e⟩
  rw [← e]; exact h1'.1 s hs
  rw [← e]
  rcases List.mem_cons.1 hs with rfl | hs
  exact h
  exact Zp5 h (h2'.1 s hs)
 | case4 p f q g h3 h ih =>
  intro h1 h2
  have h1' := List.pairwise_cons.1 h1
  have h2' := List.pairwise_cons.1 h2
  refine Xm3 (ih h1 h2'.2) (fun r hr => ?_)
  rcases Yr3 _ _ _ r hr with ⟨s, hs, e⟩ | ⟨s, hs, e⟩
  rw [← e]
  rcases List.mem_cons.1 hs with rfl | hs
  exact h
  exact Zp5 h (h1'.1 s hs)
  rw [← e]; exact h2'.1 s hs
 | case5 p f q g h3 h4 ih =>
  intro h1 h2
  have h1' := List.pairwise_cons.1 h1
  have h2' := List.pairwise_cons.1 h2
  have e0 : p.1 = q.1 := by
   by_cases e : p.1 = q.1
   exact e
   exact absurd (Yg6 e) (by simp [h3, h4])
  refine Xm3 (ih h1'.2 h2'.2) (fun r hr => ?_)
  rcases Yr3 _ _ _ r hr with ⟨s, hs, e⟩ | ⟨s, hs, e⟩
  rw [← e]; exact h1'.1 s hs
  rw [← e, e0]; exact h2'.1 s hs
theorem Xk6 {p : A8} {x : Int} {r : MpT} (hx : 0 ≤ x ∧ x ≤ 10006) (h : ∀ q, q ∈ r → 1 ≤ q.2 ∧ q.2 ≤ 10006) : ∀ q, q ∈ cnz p x r → 1 ≤ q.2 ∧ q.2 ≤ 10006 := by
 unfold cnz
 split
 exact h
 intro q hq
 rcases List.mem_cons.1 hq with rfl | hq
 simp only; omega
 exact h q hq
theorem Va6 (k : Int) (f g : MpT) : (∀ q, q ∈ f → 1 ≤ q.2 ∧ q.2 ≤ 10006) → ∀ q, q ∈ mrg k f g → 1 ≤ q.2 ∧ q.2 ≤ 10006 := by
 fun_induction mrg k f g with
 | case1 f => exact fun h => h
 | case2 q g ih => exact fun h => Xk6 (by omega) (ih h)
 | case3 p f q g h ih =>
  intro hf r hr
  rcases List.mem_cons.1 hr with rfl | hr
  exact hf _ (List.mem_cons_self ..)
  exact ih (fun q hq => hf q (List.mem_cons_of_mem _ hq)) r hr
 | case4 p f q g h3 h ih => exact fun hf => Xk6 (by omega) (ih hf)
 | case5 p f q g h3 h4 ih => exact fun hf => Xk6 (by omega) (ih (fun q hq => hf q (List.mem_cons_of_mem _ hq)))
theorem Xx0 (a p : A8) (x : Int) (r : MpT) : cf a (cnz p x r) = (if p = a then x else 0) + cf a r := by
 unfold cnz
 split
 rename_i h; subst h; simp
 rfl
theorem Vh9 (k : Int) (a : A8) (f g : MpT) : cf a (mrg k f g) % 10007 = (cf a f + k * cf a g) % 10007 := by
 fun_induction mrg k f g with
 | case1 f => simp [cf]
 | case2 q g ih =>
  rw [Xx0, cf.eq_2 a q g, Int.mul_add]
  generalize k * cf a g = X at ih ⊢
  split <;> omega
 | case3 p f q g h ih =>
  rw [cf, cf]
  omega
 | case4 p f q g h3 h ih =>
  rw [Xx0, cf.eq_2 a q g, Int.mul_add]
  generalize k * cf a g = X at ih ⊢
  split <;> omega
 | case5 p f q g h3 h4 ih =>
  have e0 : p.1 = q.1 := by
   by_cases e : p.1 = q.1
   exact e
   exact absurd (Yg6 e) (by simp [h3, h4])
  rw [Xx0, cf.eq_2 a q g, cf.eq_2 a p f, Int.mul_add, e0]
  generalize k * cf a g = X at ih ⊢
  split <;> omega
theorem Vc5 {k : Int} {f g : MpT} (hf : nfm f = true) (hg : Srt g) : nfm (mrg k f g) = true := Yh5 (Vb4 k f g (F6 hf) hg) (Va6 k f g (Yf5 hf))
theorem Wb4 {k : Int} {f g : MpT} (hf : nfm f = true) (hg : Srt g) : mrg k f g = I5 (scl k g) f := by
 have h := Vc5 (k := k) hf hg
 refine Wn0 h (Zm9 _ hf) (fun a => ?_)
 rw [Xq3 a _ hf, Wq4, Xw6 a (F6 hf), ← Vh9]
 have := Yi5 h a
 rw [Xw6 a (F6 h)] at this ⊢
 omega
theorem Xc8 {ρ σ : Type} {g : σ} (L : Nat → Int → Option (Ex ρ σ)) (N : Nat) (c : Nat → Bool) (r : ρ)
 (h : ∀ k (n : Nat), L (k + 1) (n : Int) = if (n : Int) < (N : Int) then (if c n = true then L k ((n : Int) + 1) else some (.ret r)) else some (.go g)) :
 ∀ (k n : Nat), n ≤ N → N < n + k → L k (n : Int) = some (if (List.range' n (N - n)).all c = true then .go g else .ret r) := by
 intro k
 induction k with
 | zero => intro n h1 h2; omega
 | succ k ih =>
  intro n h1 h2
  rw [h]
  by_cases hn : n < N
  rw [if_pos (by omega)]
  obtain ⟨m, hm⟩ : ∃ m, N - n = m + 1 := ⟨N - n - 1, by omega⟩
  have e : N - (n + 1) = m := by omega
  rw [hm, List.range'_succ, List.all_cons]
  cases hc : c n with
  | false => simp
  | true =>
   have := ih (n + 1) (by omega) (by omega)
   rw [e] at this
   rw [if_pos rfl, Bool.true_and]; exact this
  rw [if_neg (by omega), show N - n = 0 by omega]; simp
theorem Xp1 {ρ σ : Type} {g : σ} (L : Nat → Int → Option (Ex ρ σ)) (N : Nat) (c : Nat → Bool) (r : ρ)
 (h : ∀ k (n : Nat), L (k + 1) (n : Int) = if (n : Int) < (N : Int) then (if c n = true then L k ((n : Int) + 1) else some (.ret r)) else some (.go g))
 {K : Nat} (hK : N < K) : L K 0 = some (if (List.range N).all c = true then .go g else .ret r) := by
 have := Xc8 L N c r h K 0 (by omega) (by omega)
 rw [List.range_eq_range']
 exact this
theorem Zc8 {ρ σ : Type} {g : σ} (L : Nat → Int → Option (Ex ρ σ)) (N : Nat) (c : Nat → Bool) (r : ρ)
 (h : ∀ k (n : Nat), n < N → L (k + 1) (n : Int) = if c n = true then L k ((n : Int) + 1) else some (.ret r)) (h' : ∀ k (n : Nat), N ≤ n → L (k + 1) (n : Int) = some (.go g))
 {K : Nat} (hK : N < K) : L K 0 = some (if (List.range N).all c = true then .go g else .ret r) := by
 refine Xp1 L N c r (fun k n => ?_) hK
 by_cases hn : n < N
 rw [if_pos (by omega), h k n hn]
 rw [if_neg (by omega), h' k n (by omega)]
theorem Ze1 {α : Type} [Inhabited α] {xs : List α} {n : Nat} (h : n < xs.length) : rd xs (n : Int) = xs[n] := by
 unfold rd
 rw [Int.toNat_natCast, List.getD_eq_getElem?_getD, List.getElem?_eq_getElem h]; rfl
theorem Yu6 {α : Type} [Inhabited α] (xs : List α) (f : α → Bool) : (List.range xs.length).all (fun j => f (rd xs (j : Int))) = xs.all f := by
 rw [Bool.eq_iff_iff, List.all_eq_true, List.all_eq_true]
 constructor
 intro h x hx
 obtain ⟨i, hi, rfl⟩ := List.getElem_of_mem hx
 have := h i (List.mem_range.2 hi)
 rwa [Ze1 hi] at this
 intro h j hj
 have hj := List.mem_range.1 hj
 rw [Ze1 hj]
 exact h _ (List.getElem_mem _)
theorem T9 {α : Type} [Inhabited α] {xs : List α} {n : Nat} (h : n < xs.length) : rd xs (n : Int) ∈ xs := by rw [Ze1 h]; exact List.getElem_mem _
theorem Wj7 (K : Nat) (a b c : Int) : Zm7 K a b c = some (decide (b ≤ a ∧ a ≤ c)) := by
 unfold Zm7; split <;> rename_i h <;> simp [h]
theorem Yw4 (K : Nat) (a b c : Int) : Zj5 K a b c = some (decide (b ≤ a ∧ a ≤ c)) := by
 unfold Zj5; split <;> rename_i h <;> simp [h]
theorem Yh3 (K : Nat) (x : Int) : F5 K x = some (x % 10007) := Xu2 K x
/-! degrees -/
def okD (ds : List Int) : Bool := ds.all (fun d => decide (1 ≤ d ∧ d ≤ 12)) && decide (ds.length ≤ 8)
theorem Vg5 {K : Nat} {ds : List Int} (hK : ds.length < K) : Zk6 K ds = some (okD ds) := by
 unfold Zk6
 rw [Xp1 (g := ()) (fun k i => I3 K ds k i) ds.length (fun j => decide (1 ≤ rd ds (j : Int) ∧ rd ds (j : Int) ≤ 12)) false (fun k n => ?_) hK, Yu6 ds (fun d => decide (1 ≤ d ∧ d ≤ 12))]
 unfold okD
 cases ds.all (fun d => decide (1 ≤ d ∧ d ≤ 12)) with
 | true => simp [Ex.elim]; omega
 | false => rfl
 show I3 K ds (k + 1) n = _
 rw [I3]
 simp only [Wj7, Option.bind_some]
theorem Xt9 {ρ : Type} (L : Nat → Int → Option (Ex ρ Unit)) (N : Nat) (c : Nat → Bool) (r : Int → ρ)
 (h : ∀ k (n : Nat), n < N → L (k + 1) (n : Int) = if c n = true then some (.ret (r n)) else L k ((n : Int) + 1)) (h' : ∀ k (n : Nat), N ≤ n → L (k + 1) (n : Int) = some (.go ())) :
 ∀ (k n : Nat), n ≤ N → N < n + k → (∃ m : Nat, L k (n : Int) = some (.ret (r m)) ∧ (List.range' n (N - n)).any c = true ∧ m < N) ∨ (L k (n : Int) = some (.go ()) ∧ (List.range' n (N - n)).any c = false) := by
 intro k
 induction k with
 | zero => intro n h1 h2; omega
 | succ k ih =>
  intro n h1 h2
  by_cases hn : n < N
  rw [h k n hn]
  obtain ⟨m, hm⟩ : ∃ m, N - n = m + 1 := ⟨N - n - 1, by omega⟩
  have e : N - (n + 1) = m := by omega
  rw [hm, List.range'_succ, List.any_cons]
  cases hc : c n with
  | true => exact .inl ⟨n, by simp, by simp, hn⟩
  | false =>
   have := ih (n + 1) (by omega) (by omega)
   rw [e] at this
   rw [if_neg (by simp), Bool.false_or]; exact this
  rw [h' k n (by omega), show N - n = 0 by omega]; exact .inr ⟨rfl, rfl⟩
theorem Xp5 {α : Type} [Inhabited α] (xs : List α) (f : α → Bool) : (List.range xs.length).any (fun j => f (rd xs (j : Int))) = xs.any f := by
 have h := Yu6 xs (fun x => !f x)
 rw [← Bool.not_inj_iff, List.not_any_eq_all_not, List.not_any_eq_all_not]
 exact h
theorem Xt7 {K : Nat} {xs : List Int} {p : Int → Option Bool} {q : Int → Bool} (hK : xs.length < K) (hp : ∀ x, x ∈ xs → p x = some (q x)) : Q0 K xs p = some (xs.any q) := by
 unfold Q0 N4
 have := Xt9 (fun k i => V0 K xs p k i) xs.length (fun j => q (rd xs (j : Int))) id (fun k n hn => ?_) (fun k n hn => ?_) K 0 (by omega) (by omega)
 rw [Nat.sub_zero, ← List.range_eq_range', Xp5 xs q] at this
 rcases this with ⟨m, h1, h2, _⟩ | ⟨h1, h2⟩
 replace h1 : V0 K xs p K 0 = _ := h1
 rw [h1, h2]; simp [Ex.elim]
 replace h1 : V0 K xs p K 0 = _ := h1
 rw [h1, h2]; simp [Ex.elim]
 show V0 K xs p (k + 1) n = _
 rw [V0, if_pos (by omega), hp _ (T9 hn)]; rfl
 show V0 K xs p (k + 1) n = _
 rw [V0, if_neg (by omega)]
theorem Ve3 {K : Nat} {ds : List Int} (hK : ds.length < K) : Zj8 K ds = some (okD ds) := by
 unfold Zj8 okD
 by_cases hl : ds.length ≤ 8
 rw [if_pos (by omega), Xt7 (q := fun x => !decide (1 ≤ x ∧ x ≤ 12)) hK (fun x _ => by unfold Zl1; rw [Yw4]; rfl)]
 rw [← List.not_all_eq_any_not]
 simp [hl]
 rw [if_neg (by omega)]; simp [hl]
def Byt (m : A8) : Prop := ∀ i, 0 ≤ m i ∧ m i ≤ 255
theorem T4 (m : A8) {n : Nat} (h : n < 8) : Y5 m (n : Int) = m ⟨n, h⟩ := by simp [Y5, h]
theorem Byt.idx {m : A8} (h : Byt m) (n : Nat) : 0 ≤ Y5 m n ∧ Y5 m n ≤ 255 := by
 by_cases hn : n < 8
 rw [T4 m hn]; exact h _
 simp [Y5, hn]
theorem Yg3 {d : Int} (h : 0 ≤ d) : d.tmod 2 = d % 2 := Int.tmod_eq_emod_of_nonneg h
def Zo0 (ds : List Int) (j : Nat) : Int := if j < ds.length then (if rd ds j % 2 = 1 then 1 else 20) else 0
def okM (ds : List Int) (m : A8) : Bool := (List.range 8).all fun j => decide (Y5 m j ≤ Zo0 ds j)
theorem B0 {ds : List Int} (h : okD ds = true) : ∀ d, d ∈ ds → 1 ≤ d ∧ d ≤ 12 := by
 intro d hd
 unfold okD at h
 rw [Bool.and_eq_true, List.all_eq_true] at h
 simpa using h.1 d hd
theorem J4 {ds : List Int} (h : okD ds = true) : ds.length ≤ 8 := by
 unfold okD at h
 rw [Bool.and_eq_true] at h
 simpa using h.2
theorem Wy8 {K : Nat} {ds : List Int} {m : A8} (hK : 8 < K) (hd : okD ds = true) (hm : Byt m) : Zs8 K ds m = some (okM ds m) := by
 unfold Zs8 okM
 rw [Zc8 (g := ()) (fun k i => P8 K ds m k i) 8 (fun j => decide (Y5 m j ≤ Zo0 ds j)) false (fun k n hn => ?_) (fun k n hn => ?_) hK]
 cases (List.range 8).all fun j => decide (Y5 m j ≤ Zo0 ds j) <;> rfl
 show P8 K ds m (k + 1) n = _
 have hb := hm.idx n
 rw [P8, if_pos (by omega)]
 unfold Zo0
 by_cases hl : n < ds.length
 have hp := B0 hd _ (T9 hl)
 rw [if_neg (by omega), if_pos (show (n : Int) < ds.length by omega), if_pos hl, Yg3 (by omega)]
 by_cases ho : rd ds (n : Int) % 2 = 1
 rw [if_pos ho, if_neg (show ¬ rd ds (n : Int) % 2 = 0 by omega)]
 by_cases h1 : Y5 m n ≤ 1
 rw [if_neg (by omega), if_neg (by omega), if_pos (by simpa using h1)]
 rw [if_neg (show ¬ decide (Y5 m n ≤ 1) = true by simpa using h1), if_pos (show 1 < Y5 m n by omega)]; split <;> rfl
 rw [if_neg ho, if_pos (show rd ds (n : Int) % 2 = 0 by omega)]
 by_cases h1 : Y5 m n ≤ 20
 rw [if_neg (by omega), if_pos (by simpa using h1)]
 rw [if_neg (show ¬ decide (Y5 m n ≤ 20) = true by simpa using h1), if_pos (by omega)]
 rw [if_pos (by omega), if_neg hl]
 by_cases h1 : Y5 m n ≤ 0
 rw [if_pos (by omega), if_pos (by simpa using h1)]
 rw [if_neg (by omega), if_neg (show ¬ decide (Y5 m n ≤ 0) = true by simpa using h1)]
 show P8 K ds m (k + 1) n = _
 rw [P8, if_neg (by omega)]
theorem Va1 {K : Nat} {ds : List Int} {m : A8} (hK : 8 < K) (hd : okD ds = true) (hm : Byt m) : Zj9 K ds m = some (okM ds m) := by
 unfold Zj9 okM
 rw [Zc8 (g := ()) (fun k i => S7 K ds m k i) 8 (fun j => decide (Y5 m j ≤ Zo0 ds j)) false (fun k n hn => ?_) (fun k n hn => ?_) hK]
 cases (List.range 8).all fun j => decide (Y5 m j ≤ Zo0 ds j) <;> rfl
 show S7 K ds m (k + 1) n = _
 have key : ∀ e : Int, D4 K (S7 K ds m k) m n e = if decide (Y5 m n ≤ e) = true then S7 K ds m k ((n : Int) + 1) else some (.ret false) := by
  intro e
  unfold D4
  by_cases h1 : Y5 m n ≤ e
  rw [if_neg (by omega), if_pos (by simpa using h1)]
  rw [if_neg (show ¬ decide (Y5 m n ≤ e) = true by simpa using h1), if_pos (by omega)]
 rw [S7, if_pos (by omega), key, key, key]
 unfold Zo0
 by_cases hl : n < ds.length
 have hp := B0 hd _ (T9 hl)
 rw [if_pos (show (n : Int) < ds.length by omega), if_pos hl, Yg3 (by omega)]
 by_cases ho : rd ds (n : Int) % 2 = 1
 rw [if_pos ho, if_pos ho]
 rw [if_neg ho, if_neg ho]
 rw [if_neg (show ¬ (n : Int) < ds.length by omega), if_neg hl]
 show S7 K ds m (k + 1) n = _
 rw [S7, if_neg (by omega)]
/-! order -/
theorem Yy3 (a : A8) {n : Nat} (h : n < 8) : (l8 a).drop n = Y5 a n :: (l8 a).drop (n + 1) := by
 match n, h with
 | 0, _ | 1, _ | 2, _ | 3, _ | 4, _ | 5, _ | 6, _ | 7, _ => rfl
theorem Wa7 {K : Nat} (a b : A8) : ∀ (k n : Nat), n ≤ 8 → 8 < n + k → ∃ e, I8 K a b k n = some e ∧ Ex.elim (fun r => some r) (fun _ => some false) e = some (Zg5 ((l8 a).drop n) ((l8 b).drop n)) := by
 intro k
 induction k with
 | zero => intro n h1 h2; omega
 | succ k ih =>
  intro n h1 h2
  rw [I8]
  by_cases hn : n < 8
  rw [if_pos (by omega), Yy3 a hn, Yy3 b hn, Zg5]
  by_cases e : Y5 a n = Y5 b n
  rw [if_pos e, if_pos e]; exact ih (n + 1) (by omega) (by omega)
  rw [if_neg e, if_neg e]; exact ⟨_, rfl, rfl⟩
  have : n = 8 := by omega
  subst this
  exact ⟨_, rfl, rfl⟩
theorem Xd0 {K : Nat} (hK : 8 < K) (a b : A8) : Zd3 K a b = some (bef a b) := by
 obtain ⟨e, h1, h2⟩ := Wa7 (K := K) a b K 0 (by omega) (by omega)
 unfold Zd3
 replace h1 : I8 K a b K 0 = some e := h1
 rw [h1]; exact h2
theorem Xv9 {K : Nat} {a b : A8} (ha : Byt a) (hb : Byt b) : ∀ (k n : Nat), n ≤ 8 → 8 < n + k →
 ∃ e, P6 K a b k n = some e ∧ ∃ r, Ex.elim (fun r => some r) (fun _ => some 0) e = some r ∧ decide (0 ≤ r) = !Zg5 ((l8 a).drop n) ((l8 b).drop n) := by
 intro k
 induction k with
 | zero => intro n h1 h2; omega
 | succ k ih =>
  intro n h1 h2
  rw [P6]
  by_cases hn : n < 8
  rw [if_pos (by omega), Yy3 a hn, Yy3 b hn, Zg5]
  by_cases e : Y5 a n = Y5 b n
  rw [if_pos e, if_pos e]; exact ih (n + 1) (by omega) (by omega)
  rw [if_neg e, if_neg e]
  refine ⟨_, rfl, _, rfl, ?_⟩
  have h3 := ha.idx n
  have h4 := hb.idx n
  rw [IntWalk.i64_in _ (by omega), ← decide_not]
  exact decide_eq_decide.2 (by omega)
  have : n = 8 := by omega
  subst this
  exact ⟨_, rfl, _, rfl, rfl⟩
theorem Wo6 {K : Nat} (hK : 8 < K) {a b : A8} (ha : Byt a) (hb : Byt b) : ∃ r, D5 K a b = some r ∧ decide (0 ≤ r) = !bef a b := by
 obtain ⟨e, h1, r, h2, h3⟩ := Xv9 (K := K) ha hb K 0 (by omega) (by omega)
 unfold D5
 replace h1 : P6 K a b K 0 = some e := h1
 rw [h1]; exact ⟨r, h2, h3⟩
theorem Zf8 (m : A8) {n : Nat} (hn : n < 8) (x : Int) (j : Fin 8) : U9 m n x j = if j.val = n then x else m j := by
 unfold U9
 by_cases h : j.val = n
 rw [if_pos h, if_pos (by omega)]
 rw [if_neg h, if_neg (by omega)]
theorem Xw5 {K : Nat} {m : A8} (hm : Byt m) : ∀ (k n : Nat) (box : A8), n ≤ 8 → 8 < n + k → (∀ j : Fin 8, j.val < n → box j = m j) → B5 K m k n box = some (.go m) := by
 intro k
 induction k with
 | zero => intro n box h1 h2; omega
 | succ k ih =>
  intro n box h1 h2 hb
  rw [B5]
  by_cases hn : n < 8
  rw [if_pos (by omega)]
  refine ih (n + 1) _ (by omega) (by omega) (fun j hj => ?_)
  rw [Zf8 _ hn, T4 m hn]
  by_cases e : j.val = n
  have := hm ⟨n, hn⟩
  rw [if_pos e, IntWalk.i64_in _ (by omega)]
  congr 1; exact Fin.ext e.symm
  rw [if_neg e]; exact hb j (by omega)
  rw [if_neg (by omega)]
  congr 2
  funext j; exact hb j (by omega)
theorem Yn2 {K : Nat} (hK : 8 < K) {m : A8} (hm : Byt m) : Zd7 K m = some m := by
 unfold Zd7
 have := Xw5 (K := K) hm K 0 (fun _ => 0) (by omega) (by omega) (fun j hj => by omega)
 replace this : B5 K m K 0 (fun _ => 0) = _ := this
 rw [this]; rfl
/-! forms -/
def Yf7 (f : MpT) : Prop := ∀ t, t ∈ f → Byt t.1
def okT (ds : List Int) (f : MpT) (j : Nat) : Bool := okM ds (rd f (j : Int)).1 && decide (1 ≤ (rd f (j : Int)).2 ∧ (rd f (j : Int)).2 ≤ 10006) && (decide (j = 0) || bef (rd f ((j : Int) - 1)).1 (rd f (j : Int)).1)
def okF (ds : List Int) (f : MpT) : Bool := (List.range f.length).all (okT ds f) && decide (f.length ≤ 400)
theorem Vj3 {K : Nat} {ds : List Int} {f : MpT} (hK : 8 < K) (hl : f.length < K) (hl2 : f.length ≤ 1099511627776) (hd : okD ds = true) (hf : Yf7 f) : Zx6 K ds f = some (okF ds f) := by
 unfold Zx6 okF
 rw [Zc8 (g := ()) (fun k i => I1 K ds f k i) f.length (okT ds f) false (fun k n hn => ?_) (fun k n hn => ?_) hl]
 cases (List.range f.length).all (okT ds f) with
 | true => simp [Ex.elim]; omega
 | false => rfl
 show I1 K ds f (k + 1) n = _
 rw [I1, if_pos (by omega), Wy8 hK hd (hf _ (T9 hn))]
 unfold okT
 rw [Option.bind_some]
 cases okM ds (rd f (n : Int)).1 with
 | false => rfl
 | true =>
  rw [if_pos rfl, Wj7, Option.bind_some, Bool.true_and]
  cases decide (1 ≤ (rd f (n : Int)).2 ∧ (rd f (n : Int)).2 ≤ 10006) with
  | false => rfl
  | true =>
   rw [if_pos rfl, Bool.true_and, IntWalk.i64_in _ (by omega), Xd0 hK]
   by_cases h0 : n = 0
   subst h0; rfl
   rw [if_pos (by omega), if_pos (by omega), if_pos (by omega), Option.bind_some]
   simp only [h0, decide_false, Bool.false_or]
 show I1 K ds f (k + 1) n = _
 rw [I1, if_neg (by omega)]
theorem Vj2 {K : Nat} {ds : List Int} {f : MpT} (hK : 400 < K) (hd : okD ds = true) (hf : Yf7 f) : Zo4 K ds f = some (okF ds f) := by
 unfold Zo4 okF
 by_cases hl : f.length ≤ 400
 case neg => rw [if_pos (by omega)]; simp [hl]
 rw [if_neg (by omega), Zc8 (g := ()) (fun k i => M5 K ds f k i) f.length (okT ds f) false (fun k n hn => ?_) (fun k n hn => ?_) (by omega)]
 cases (List.range f.length).all (okT ds f) with
 | true => simp [Ex.elim, hl]
 | false => rfl
 show M5 K ds f (k + 1) n = _
 have hb := hf _ (T9 hn)
 rw [M5, if_pos (by omega), Va1 (by omega) hd hb]
 unfold okT
 rw [Option.bind_some]
 cases okM ds (rd f (n : Int)).1 with
 | false => rfl
 | true =>
  unfold Zv8
  rw [if_pos rfl, Yw4, Option.bind_some, Option.bind_some, Bool.true_and]
  cases decide (1 ≤ (rd f (n : Int)).2 ∧ (rd f (n : Int)).2 ≤ 10006) with
  | false => rfl
  | true =>
   unfold Zn8
   rw [if_neg (by simp), Bool.true_and, IntWalk.i64_in _ (by omega)]
   by_cases h0 : n = 0
   subst h0; rfl
   obtain ⟨m, rfl⟩ : ∃ m, n = m + 1 := ⟨n - 1, by omega⟩
   have e : ((m + 1 : Nat) : Int) - 1 = (m : Int) := by omega
   rw [e]
   have hb' := hf _ (T9 (show m < f.length by omega))
   obtain ⟨r, h1, h2⟩ := Wo6 (K := K) (by omega) hb' hb
   rw [if_pos (by omega), if_pos (by omega), if_pos (by omega), Yn2 (by omega) hb', Yn2 (by omega) hb, Option.bind_some, Option.bind_some, h1, Option.bind_some]
   simp only [Nat.succ_ne_zero, decide_false, Bool.false_or]
   cases hq : bef (rd f (m : Int)).1 (rd f ((m + 1 : Nat) : Int)).1 with
   | true => rw [hq] at h2; rw [if_neg (by simpa using h2)]; rfl
   | false => rw [hq] at h2; rw [if_pos (by simpa using h2)]; rfl
 show M5 K ds f (k + 1) n = _
 rw [M5, if_neg (by omega)]
def wtN (ds : List Int) (m : A8) : Nat → Int
 | 0 => 0
 | n + 1 => wtN ds m n + rd ds (n : Int) * Y5 m (n : Int)
def wt (ds : List Int) (m : A8) : Int := wtN ds m ds.length
theorem Xk7 {ds : List Int} {m : A8} (hd : okD ds = true) (hm : Byt m) {n : Nat} (hn : n < ds.length) : 0 ≤ rd ds (n : Int) * Y5 m n ∧ rd ds (n : Int) * Y5 m n ≤ 3060 := by
 have h1 := B0 hd _ (T9 hn)
 have h2 := hm.idx n
 refine ⟨Int.mul_nonneg (by omega) h2.1, ?_⟩
 calc rd ds (n : Int) * Y5 m n ≤ 12 * Y5 m n := Int.mul_le_mul_of_nonneg_right h1.2 h2.1
  _ ≤ 3060 := by omega
theorem Yh2 {ds : List Int} {m : A8} (hd : okD ds = true) (hm : Byt m) : ∀ n : Nat, n ≤ ds.length → 0 ≤ wtN ds m n ∧ wtN ds m n ≤ 3060 * n
 | 0, _ => by simp [wtN]
 | n + 1, h => by
  have h1 := Yh2 hd hm n (by omega)
  have h2 := Xk7 hd hm (n := n) (by omega)
  rw [wtN]; omega
theorem Xw2 {ds : List Int} {m : A8} (hd : okD ds = true) (hm : Byt m) : 0 ≤ wt ds m ∧ wt ds m ≤ 24480 := by
 have h1 := Yh2 hd hm ds.length (Nat.le_refl _)
 have h2 := J4 hd
 unfold wt; omega
theorem Xz3 {K : Nat} {ds : List Int} {m : A8} (hd : okD ds = true) (hm : Byt m) : ∀ (k n : Nat), n ≤ ds.length → ds.length < n + k → F0 K ds m k (wtN ds m n) n = some (.go (wt ds m)) := by
 have hl := J4 hd
 intro k
 induction k with
 | zero => intro n h1 h2; omega
 | succ k ih =>
  intro n h1 h2
  rw [F0]
  by_cases hn : n < ds.length
  have h3 := Xk7 hd hm hn
  have h4 := Yh2 hd hm n (by omega)
  have h5 := hm.idx n
  rw [if_pos (by omega), if_pos (by omega), IntWalk.i64_in (Y5 m n) (by omega), IntWalk.i64_in (rd ds (n : Int) * Y5 m n) (by omega), IntWalk.i64_in _ (by omega)]
  exact ih (n + 1) (by omega) (by omega)
  rw [if_neg (by omega)]
  have : n = ds.length := by omega
  subst this; rfl
theorem Xc4 {K : Nat} {ds : List Int} {m : A8} (hK : 8 < K) (hd : okD ds = true) (hm : Byt m) : Za8 K ds m = some (wt ds m) := by
 have hl := J4 hd
 have := Xz3 (K := K) hd hm K 0 (by omega) (by omega)
 unfold Za8
 replace this : F0 K ds m K 0 0 = _ := this
 rw [this]; rfl
theorem Wa2 {K : Nat} {ds : List Int} {m : A8} (hd : okD ds = true) (hm : Byt m) : ∀ (k n : Nat), n ≤ ds.length → ds.length < n + k → L1 K m ds k (wtN ds m n) n = some (.go (wt ds m)) := by
 have hl := J4 hd
 intro k
 induction k with
 | zero => intro n h1 h2; omega
 | succ k ih =>
  intro n h1 h2
  rw [L1]
  by_cases hn : n < ds.length
  have h3 := Xk7 hd hm hn
  have h4 := Yh2 hd hm n (by omega)
  rw [if_pos (by omega), if_pos (by omega), IntWalk.i64_in (rd ds (n : Int) * Y5 m n) (by omega), IntWalk.i64_in _ (by omega)]
  exact ih (n + 1) (by omega) (by omega)
  rw [if_neg (by omega)]
  have : n = ds.length := by omega
  subst this; rfl
theorem Wr0 {K : Nat} {ds : List Int} {m : A8} (hK : 8 < K) (hd : okD ds = true) (hm : Byt m) : Zg8 K m ds = some (wt ds m) := by
 have hl := J4 hd
 have := Wa2 (K := K) hd hm K 0 (by omega) (by omega)
 unfold Zg8
 replace this : L1 K m ds K 0 0 = _ := this
 rw [this]; rfl
def okG (ds : List Int) (f : MpT) (n : Int) : Bool := f.all fun t => decide (wt ds t.1 = n)
theorem Xh6 {f : MpT} {c : A0 → Bool} (h : 0 < f.length) : ((List.range' 1 (f.length - 1)).all fun j => c (rd f (j : Int))) = f.tail.all c := by
 obtain ⟨t, f, rfl⟩ : ∃ t f', f = t :: f' := by cases f with | nil => simp at h | cons t f => exact ⟨t, f, rfl⟩
 rw [Bool.eq_iff_iff, List.all_eq_true, List.all_eq_true, List.tail_cons, List.length_cons]
 constructor
 intro h x hx
 obtain ⟨i, hi, rfl⟩ := List.getElem_of_mem hx
 have := h (i + 1) (by rw [List.mem_range'_1]; omega)
 rwa [Ze1 (by simp; exact hi), List.getElem_cons_succ] at this
 intro h j hj
 rw [List.mem_range'_1] at hj
 obtain ⟨i, rfl⟩ : ∃ i, j = i + 1 := ⟨j - 1, by omega⟩
 rw [Ze1 (by simp; omega), List.getElem_cons_succ]
 exact h _ (List.getElem_mem _)
theorem Xt8 {ds : List Int} {f : MpT} {n : Int} (h : 0 < f.length) : okG ds f n = (f.tail.all (fun t => decide (wt ds t.1 = wt ds (rd f 0).1)) && decide (wt ds (rd f 0).1 = n)) := by
 obtain ⟨t, f, rfl⟩ : ∃ t f', f = t :: f' := by cases f with | nil => simp at h | cons t f => exact ⟨t, f, rfl⟩
 have e : rd (t :: f) 0 = t := rfl
 unfold okG
 rw [e, List.tail_cons, List.all_cons]
 by_cases hn : wt ds t.1 = n
 subst hn; simp
 simp [hn]
theorem Wl6 {K : Nat} {ds : List Int} {f : MpT} (hK : 8 < K) (hl : f.length < K) (hd : okD ds = true) (hf : Yf7 f) :
 ∃ r, Zn7 K ds f = some r ∧ ∀ n, (r.2 && (decide (f.length = 0) || decide (r.1 = n))) = okG ds f n := by
 unfold Zn7
 by_cases h0 : f.length = 0
 rw [if_pos (by omega)]
 refine ⟨_, rfl, fun n => ?_⟩
 have : f = [] := List.eq_nil_of_length_eq_zero h0
 subst this; rfl
 have hb0 : Byt (rd f 0).1 := hf _ (T9 (n := 0) (by omega))
 rw [if_neg (by omega), if_pos (by omega), Xc4 hK hd hb0, Option.bind_some]
 have := Xc8 (g := ()) (fun k i => L9 K ds f (wt ds (rd f 0).1) k i) f.length (fun j => decide (wt ds (rd f (j : Int)).1 = wt ds (rd f 0).1)) (0, false) (fun k n => ?_) K 1 (by omega) (by omega)
 replace this : L9 K ds f (wt ds (rd f 0).1) K 1 = _ := this
 refine ⟨if f.tail.all (fun t => decide (wt ds t.1 = wt ds (rd f 0).1)) = true then (wt ds (rd f 0).1, true) else (0, false), ?_, fun n => ?_⟩
 rw [this, Xh6 (c := fun t => decide (wt ds t.1 = wt ds (rd f 0).1)) (by omega)]
 split <;> rfl
 rw [Xt8 (by omega)]
 cases f.tail.all (fun t => decide (wt ds t.1 = wt ds (rd f 0).1)) with
 | true => simp [h0]
 | false => simp
 show L9 K ds f (wt ds (rd f 0).1) (k + 1) n = _
 rw [L9]
 by_cases hn : n < f.length
 rw [if_pos (by omega), if_pos (by omega), Xc4 hK hd (hf _ (T9 hn)), Option.bind_some]
 simp only [decide_eq_true_eq]
 rw [if_neg (by omega), if_neg (by omega)]
theorem Wl1 {K : Nat} {ds : List Int} {f : MpT} {n : Int} (hK : 8 < K) (hl : f.length < K) (hd : okD ds = true) (hf : Yf7 f) (hn : 0 ≤ n) : Zk1 K ds f n = some (okG ds f n) := by
 unfold Zk1 Zv7
 by_cases h0 : f.length = 0
 have : f = [] := List.eq_nil_of_length_eq_zero h0
 subst this
 obtain ⟨k, rfl⟩ : ∃ k, K = k + 1 := ⟨K - 1, by omega⟩
 rw [T8]; rfl
 have step : ∀ (k m : Nat) (out : Int), m < f.length → T8 K ds f (k + 1) out m = if 0 ≤ out ∧ wt ds (rd f (m : Int)).1 ≠ out then some (.ret (0, false)) else T8 K ds f k (wt ds (rd f (m : Int)).1) ((m : Int) + 1) := by
  intro k m out hm
  have hb := hf _ (T9 hm)
  rw [T8, if_pos (by omega), Yn2 hK hb, Option.bind_some, Wr0 hK hd hb, Option.bind_some]
  unfold Zi3
  by_cases h1 : 0 ≤ out
  by_cases h2 : wt ds (rd f (m : Int)).1 = out
  rw [if_pos h1, if_neg (by simp [h2]), if_neg (by simp [h2])]
  rw [if_pos h1, if_pos (by simp [h2]), if_pos ⟨h1, h2⟩]
  rw [if_neg h1, if_neg (by simp), if_neg (by simp [h1])]
 have hw := Xw2 hd (hf _ (T9 (n := 0) (by omega)))
 replace hw : 0 ≤ wt ds (rd f 0).1 ∧ wt ds (rd f 0).1 ≤ 24480 := hw
 obtain ⟨k, rfl⟩ : ∃ k, K = k + 1 := ⟨K - 1, by omega⟩
 have s0 := step k 0 (-1) (by omega)
 rw [if_neg (by simp)] at s0
 replace s0 : T8 (k + 1) ds f (k + 1) (-1) 0 = T8 (k + 1) ds f k (wt ds (rd f 0).1) 1 := s0
 have := Xc8 (g := wt ds (rd f 0).1) (fun k' i => T8 (k + 1) ds f k' (wt ds (rd f 0).1) i) f.length (fun j => decide (wt ds (rd f (j : Int)).1 = wt ds (rd f 0).1)) (0, false) (fun k' m => ?_) k 1 (by omega) (by omega)
 replace this : T8 (k + 1) ds f k (wt ds (rd f 0).1) 1 = _ := this
 rw [s0, this, Xh6 (c := fun t => decide (wt ds t.1 = wt ds (rd f 0).1)) (by omega), Xt8 (by omega)]
 cases f.tail.all (fun t => decide (wt ds t.1 = wt ds (rd f 0).1)) with
 | true =>
  rw [if_pos rfl]
  simp only [Option.bind_some, Ex.elim, if_true, Bool.true_and]
  rw [if_neg (by omega)]
 | false => rfl
 show T8 (k + 1) ds f (k' + 1) (wt ds (rd f 0).1) m = _
 by_cases hm : m < f.length
 rw [step k' m _ hm, if_pos (show (m : Int) < f.length by omega)]
 by_cases h2 : wt ds (rd f (m : Int)).1 = wt ds (rd f 0).1
 rw [if_neg (by simp [h2]), h2]; simp
 rw [if_pos ⟨hw.1, h2⟩, if_neg (by simpa using h2)]
 rw [T8, if_neg (by omega), if_neg (by omega)]
def SmF (g : MpT) : Prop := ∀ t, t ∈ g → -10006 ≤ t.2 ∧ t.2 ≤ 10006
theorem Yn1 {k x : Int} (hk : -10006 ≤ k ∧ k ≤ 10006) (hx : -10006 ≤ x ∧ x ≤ 10006) : -100120036 ≤ k * x ∧ k * x ≤ 100120036 := by
 have h1 : (k * x).natAbs ≤ 10006 * 10006 := by
  rw [Int.natAbs_mul]
  exact Nat.mul_le_mul (by omega) (by omega)
 omega
theorem Zy7 {f : MpT} {i : Nat} (h : i < f.length) : f.drop i = rd f (i : Int) :: f.drop (i + 1) := by rw [Ze1 h]; exact List.drop_eq_getElem_cons h
theorem Wr8 {K : Nat} {f g : MpT} {kk : Int} (hK : 8 < K) (hk : -10006 ≤ kk ∧ kk ≤ 10006) (hf : SmF f) (hg : SmF g) (hfl : f.length ≤ 274877906944) (hgl : g.length ≤ 274877906944) :
 ∀ (k i j : Nat) (out : MpT), i ≤ f.length → j ≤ g.length → (f.length - i) + (g.length - j) < k → out.length ≤ i + j →
  R7 K f g kk k (i : Int) out (j : Int) = some (.go (out ++ mrg kk (f.drop i) (g.drop j))) := by
 intro k
 induction k with
 | zero => intro i j out h1 h2 h3 h4; omega
 | succ k ih =>
  intro i j out h1 h2 h3 h4
  have w1 : ∀ n : Nat, n ≤ 274877906944 → IntKind.i64.wrap ((n : Int) + 1) = ((n + 1 : Nat) : Int) := fun n hn => by rw [IntWalk.i64_in _ (by omega)]; rfl
  have fF : i < f.length → F4 K (R7 K f g kk k) f g kk i j out true = some (.go (out ++ (rd f (i : Int) :: mrg kk (f.drop (i + 1)) (g.drop j)))) := by
   intro hi
   unfold F4
   rw [if_pos rfl, if_pos (by omega), if_pos (by omega), if_pos (by simp; omega), w1 i (by omega), ih (i + 1) j _ (by omega) h2 (by omega) (by simp; omega)]
   simp
  have fG : j < g.length → B2 K (R7 K f g kk k) f g kk i j out true = some (.go (out ++ cnz (rd g (j : Int)).1 ((kk * (rd g (j : Int)).2) % 10007) (mrg kk (f.drop i) (g.drop (j + 1))))) := by
   intro hj
   have hm := Yn1 hk (hg _ (T9 hj))
   unfold B2
   rw [if_pos rfl, if_pos (by omega), if_pos (by omega), Yh3, Option.bind_some, IntWalk.i64_in _ (by omega), w1 j (by omega)]
   unfold cnz
   by_cases h0 : kk * (rd g (j : Int)).2 % 10007 = 0
   rw [if_pos h0, if_pos h0, ih i (j + 1) _ h1 (by omega) (by omega) (by omega)]
   rw [if_neg h0, if_neg h0, if_pos (by simp; omega), ih i (j + 1) _ h1 (by omega) (by omega) (by simp; omega)]
   simp
  have fB : i < f.length → j < g.length → B2 K (R7 K f g kk k) f g kk i j out false = some (.go (out ++ cnz (rd f (i : Int)).1 (((rd f (i : Int)).2 + (kk * (rd g (j : Int)).2) % 10007) % 10007) (mrg kk (f.drop (i + 1)) (g.drop (j + 1))))) := by
   intro hi hj
   have hm := Yn1 hk (hg _ (T9 hj))
   have hm2 := hf _ (T9 hi)
   unfold B2 Zk5
   rw [if_neg (by simp), if_pos (by omega), if_pos (by omega), if_pos (by omega), if_pos (by omega), Yh3, Option.bind_some, Yh3, Option.bind_some, IntWalk.i64_in (kk * (rd g (j : Int)).2) (by omega), IntWalk.i64_in ((rd f (i : Int)).2 + _) (by omega), w1 j (by omega), w1 i (by omega)]
   unfold cnz
   by_cases h0 : ((rd f (i : Int)).2 + kk * (rd g (j : Int)).2 % 10007) % 10007 = 0
   rw [if_pos h0, if_pos h0, ih (i + 1) (j + 1) _ (by omega) (by omega) (by omega) (by omega)]
   rw [if_neg h0, if_neg h0, if_pos (by simp; omega), ih (i + 1) (j + 1) _ (by omega) (by omega) (by omega) (by simp; omega)]
   simp
  rw [R7]
  by_cases hi : i < f.length
  rw [if_pos (by omega)]
  unfold Zf6
  rw [if_pos rfl]
  by_cases hj : j < g.length
  rw [if_neg (by omega), if_pos (by omega), if_pos (by omega), if_pos (by omega), if_pos (by omega), Xd0 hK, Option.bind_some, Zy7 hi, Zy7 hj, mrg]
  cases hb : bef (rd f (i : Int)).1 (rd g (j : Int)).1 with
  | true => rw [fF hi, if_pos rfl, Zy7 hj]
  | false =>
   rw [if_neg (by simp)]
   unfold F4
   rw [if_neg (by simp), if_neg (by omega), if_pos (by omega), if_pos (by omega), if_pos (by omega), if_pos (by omega), Xd0 hK, Option.bind_some]
   cases hb2 : bef (rd g (j : Int)).1 (rd f (i : Int)).1 with
   | true => rw [fG hj, if_pos rfl, Zy7 hi]
   | false => rw [fB hi hj, if_neg (by simp)]
  have e : j = g.length := by omega
  rw [if_pos (by omega), fF hi, Zy7 hi]
  subst e
  simp [mrg]
  have e : i = f.length := by omega
  rw [if_neg (by omega)]
  unfold Zf6
  by_cases hj : j < g.length
  rw [if_pos (by simpa using hj), if_neg (by omega), if_neg (by omega)]
  unfold F4
  rw [if_neg (by simp), if_pos (by omega), fG hj, Zy7 hj]
  subst e
  rw [List.drop_length, mrg]
  rw [if_neg (by simpa using hj)]
  have e2 : j = g.length := by omega
  subst e; subst e2
  simp [mrg]
theorem Wy2 {K : Nat} {f g : MpT} {kk : Int} (hK : 8 < K) (hl : f.length + g.length < K) (hk : -10006 ≤ kk ∧ kk ≤ 10006) (hf : SmF f) (hg : SmF g) (hfl : f.length ≤ 274877906944) (hgl : g.length ≤ 274877906944) :
 Zo6 K f g kk = some (mrg kk f g) := by
 have := Wr8 hK hk hf hg hfl hgl K 0 0 [] (by omega) (by omega) (by omega) (by simp)
 unfold Zo6
 replace this : R7 K f g kk K 0 [] 0 = some (.go (mrg kk f g)) := this
 rw [this]; rfl
theorem Yq5 {s : MpT} {p : A8} {f f' : Int} (h : f % 10007 = f' % 10007) : Zv2 s p f = Zv2 s p f' := by
 unfold Zv2
 rw [show (N7 s p + f) % 10007 = (N7 s p + f') % 10007 by omega]
theorem Zw8 {s : MpT} (h : nfm s = true) : SmF s := fun t ht => by have := Yf5 h t ht; omega
theorem Xw9 (x : Int) : (x.tmod 10007) % 10007 = x % 10007 := by
 rw [Int.tmod_eq_emod]; split <;> omega
theorem Xb1 {K : Nat} {a : Int} (ha : -10006 ≤ a ∧ a ≤ 10006) : ∀ (k : Nat) (t s : MpT), t.length < k → SmF t → nfm s = true → U0 K a k t s = some (.go (I5 (scl a t) s))
 | 0, _, _, h, _, _ => by omega
 | k + 1, [], s, _, _, _ => by rw [U0]; rfl
 | k + 1, z :: t, s, h, ht, hs => by
  have hz := ht z (List.mem_cons_self ..)
  have hm := Yn1 hz ha
  have hb : -10006 ≤ (z.2 * a).tmod 10007 ∧ (z.2 * a).tmod 10007 ≤ 10006 := by rw [Int.tmod_eq_emod]; split <;> omega
  rw [U0, IntWalk.i64_in _ (by omega), Yk4 ⟨hs, by omega, by omega⟩, Option.bind_some, Xb1 ha k t _ (by simpa using h) (fun q hq => ht q (List.mem_cons_of_mem _ hq)) (Zi0 hs _ _)]
  rw [Yq5 (f' := a * z.2) (by rw [Xw9, Int.mul_comm])]
  rfl
theorem Wq9 {K : Nat} {a : Int} {t s : MpT} (ha : -10006 ≤ a ∧ a ≤ 10006) (hl : t.length < K) (ht : SmF t) (hs : nfm s = true) : F3 K s t a = some (I5 (scl a t) s) := by
 unfold F3
 rw [Xb1 ha K t s hl ht hs]; rfl
structure Mo (B : Int) (ds : List Int) (p : A8) : Prop where
 lo : ∀ i, 0 ≤ p i
 hi : ∀ i, p i ≤ B
 odd : ∀ n : Nat, n < ds.length → rd ds (n : Int) % 2 = 1 → Y5 p n ≤ 1
 out : ∀ i : Fin 8, ds.length ≤ i.val → p i = 0
theorem Xl3 {p : A8} {B : Int} (lo : ∀ i, 0 ≤ p i) (hi : ∀ i, p i ≤ B) (h0 : 0 ≤ B) (n : Nat) : 0 ≤ Y5 p n ∧ Y5 p n ≤ B := by
 by_cases hn : n < 8
 rw [T4 p hn]; exact ⟨lo _, hi _⟩
 simp [Y5, hn]; exact h0
def Ye1 (p q : A8) : A8 := fun i => p i + q i
theorem Wd1 (p q : A8) (n : Nat) : Y5 (Ye1 p q) n = Y5 p n + Y5 q n := by
 by_cases hn : n < 8
 rw [T4 _ hn, T4 _ hn, T4 _ hn]; rfl
 simp [Y5, hn]
def od (ds : List Int) (p : A8) : Nat → Nat → Int
 | 0, _ => 0
 | n + 1, j => rd ds (j : Int) % 2 * Y5 p (j : Int) + od ds p n (j + 1)
def tot (ds : List Int) (p q : A8) : Nat → Nat → Option Int
 | 0, _ => some 0
 | n + 1, i => if rd ds (i : Int) % 2 = 0 then tot ds p q n (i + 1) else if 0 < Y5 p i ∧ 0 < Y5 q i then none else (tot ds p q n (i + 1)).map fun t => (if 0 < Y5 q i then od ds p n (i + 1) else 0) + t
def sg (t : Int) : Int := if t % 2 = 1 then -1 else 1
def I4 (ds : List Int) (p q : A8) : A8 × Int :=
 match tot ds p q ds.length 0 with
 | none => ((fun _ => 0), 0)
 | some t => (Ye1 p q, sg t)
theorem Xc9 {ds : List Int} {p : A8} {B : Int} (lo : ∀ i, 0 ≤ p i) (hi : ∀ i, p i ≤ B) (h0 : 0 ≤ B) : ∀ n j : Nat, 0 ≤ od ds p n j ∧ od ds p n j ≤ B * n
 | 0, _ => by simp [od]
 | n + 1, j => by
  have h1 := Xc9 lo hi h0 (ds := ds) n (j + 1)
  have h2 := Xl3 lo hi h0 j
  rw [od, show B * ((n + 1 : Nat) : Int) = B * n + B by rw [Int.natCast_add, Int.mul_add]; simp]
  rcases Int.emod_two_eq (rd ds (j : Int)) with e | e
  rw [e]; omega
  rw [e]; omega
theorem Yw7 {ds : List Int} {p q : A8} {B : Int} (lo : ∀ i, 0 ≤ p i) (hi : ∀ i, p i ≤ B) (h0 : 0 ≤ B) : ∀ (n i : Nat) (t : Int), tot ds p q n i = some t → 0 ≤ t ∧ t ≤ (B * 8) * n ∨ 8 < n
 | 0, i, t, h => by cases h; simp
 | n + 1, i, t, h => by
  rw [tot] at h
  have e : B * 8 * ((n + 1 : Nat) : Int) = B * 8 * n + B * 8 := by rw [Int.natCast_add, Int.mul_add]; simp
  by_cases h8 : 8 < n + 1
  exact .inr h8
  refine .inl ?_
  split at h
  have := Yw7 lo hi h0 n _ t h; omega
  split at h
  cases h
  obtain ⟨u, hu, rfl⟩ := Option.map_eq_some_iff.1 h
  have h1 := Yw7 lo hi h0 n _ u hu
  have h2 := Xc9 lo hi h0 (ds := ds) n (i + 1)
  have h3 : B * (n : Int) ≤ B * 8 := Int.mul_le_mul_of_nonneg_left (by omega) h0
  split <;> omega
section
variable {K : Nat} {ds : List Int} {p q : A8}
theorem Wt0 {B : Int} (hd : okD ds = true) (lo : ∀ i, 0 ≤ p i) (hi : ∀ i, p i ≤ B) (h0 : 0 ≤ B) (hB : B ≤ 1000) : ∀ (k j : Nat) (s : Int), ds.length < j + k → j ≤ ds.length → 0 ≤ s ∧ s ≤ 1000000000 + 1000 * j →
 K6 K p ds k s j = some (.go (s + od ds p (ds.length - j) j)) := by
 have hl := J4 hd
 intro k
 induction k with
 | zero => intro j s h1 h2; omega
 | succ k ih =>
  intro j s h1 h2 hs
  rw [K6]
  by_cases hj : j < ds.length
  have h3 := B0 hd _ (T9 hj)
  have h4 := Xl3 lo hi h0 j
  have h5 : 0 ≤ rd ds (j : Int) % 2 * Y5 p j ∧ rd ds (j : Int) % 2 * Y5 p j ≤ 1000 := by
   rcases Int.emod_two_eq (rd ds (j : Int)) with e | e <;> rw [e] <;> omega
  rw [if_pos (by omega), if_pos (by omega), Yg3 (by omega), IntWalk.i64_in (rd ds (j : Int) % 2 * Y5 p j) (by omega), IntWalk.i64_in _ (by omega)]
  have e := ih (j + 1) (s + rd ds (j : Int) % 2 * Y5 p j) (by omega) (by omega) (by omega)
  obtain ⟨m, hm⟩ : ∃ m, ds.length - j = m + 1 := ⟨ds.length - j - 1, by omega⟩
  have e2 : ds.length - (j + 1) = m := by omega
  rw [e2] at e
  rw [hm, od, ← Int.add_assoc]; exact e
  rw [if_neg (by omega), show ds.length - j = 0 by omega, od, Int.add_zero]
theorem Ws1 {B : Int} (hK : 8 < K) (hd : okD ds = true) (lo : ∀ i, 0 ≤ p i) (hi : ∀ i, p i ≤ B) (h0 : 0 ≤ B) (hB : B ≤ 1000) : ∀ (k i : Nat) (s : Int), ds.length < i + k → i ≤ ds.length → 0 ≤ s ∧ s ≤ 8000 * i →
 T6 K p ds q k i s = some (match tot ds p q (ds.length - i) i with | none => .ret ((fun _ => 0), 0) | some t => .go (s + t)) := by
 have hl := J4 hd
 intro k
 induction k with
 | zero => intro j s h1 h2; omega
 | succ k ih =>
  intro i s h1 h2 hs
  rw [T6]
  by_cases hj : i < ds.length
  have h3 := B0 hd _ (T9 hj)
  obtain ⟨m, hm⟩ : ∃ m, ds.length - i = m + 1 := ⟨ds.length - i - 1, by omega⟩
  have e2 : ds.length - (i + 1) = m := by omega
  rw [if_pos (by omega), Yg3 (by omega), hm, tot]
  by_cases he : rd ds (i : Int) % 2 = 0
  rw [if_pos he, if_pos he]
  have := ih (i + 1) s (by omega) (by omega) (by omega)
  rw [e2] at this; exact this
  rw [if_neg he, if_neg he, if_pos (by omega)]
  have key : F7 K (T6 K p ds q k) p ds q i s false = some (match (tot ds p q m (i + 1)).map fun t => (if 0 < Y5 q i then od ds p m (i + 1) else 0) + t with | none => .ret ((fun _ => 0), 0) | some t => .go (s + t)) := by
   unfold F7
   rw [if_neg (by simp), if_pos (by omega)]
   by_cases hq : 0 < Y5 q i
   have hb := Xc9 lo hi h0 (ds := ds) m (i + 1)
   have hb2 : B * (m : Int) ≤ 1000 * 8 := by
    calc B * (m : Int) ≤ 1000 * m := Int.mul_le_mul_of_nonneg_right hB (by omega)
     _ ≤ 1000 * 8 := by omega
   have h5 := Wt0 (K := K) hd lo hi h0 hB K (i + 1) s (by omega) (by omega) (by omega)
   have h6 := ih (i + 1) (s + od ds p m (i + 1)) (by omega) (by omega) (by omega)
   rw [e2] at h5 h6
   rw [if_pos hq]
   replace h5 : K6 K p ds K s ((i : Int) + 1) = _ := h5
   rw [h5, Option.bind_some]
   show T6 K p ds q k ((i : Int) + 1) (s + od ds p m (i + 1)) = _
   replace h6 : T6 K p ds q k ((i : Int) + 1) (s + od ds p m (i + 1)) = _ := h6
   rw [h6]
   cases tot ds p q m (i + 1) with
   | none => rfl
   | some t => simp only [Option.map_some, hq, if_true, Int.add_assoc]
   have h6 := ih (i + 1) s (by omega) (by omega) (by omega)
   rw [e2] at h6
   rw [if_neg hq]
   replace h6 : T6 K p ds q k ((i : Int) + 1) s = _ := h6
   rw [h6]
   cases tot ds p q m (i + 1) with
   | none => rfl
   | some t => simp only [Option.map_some, hq, if_false, Int.zero_add]
  by_cases hp : 0 < Y5 p i
  rw [if_pos hp]
  by_cases hq : 0 < Y5 q i
  rw [if_pos ⟨hp, hq⟩]
  unfold F7
  rw [if_pos (by simpa using hq)]
  rw [if_neg (fun h => hq h.2), show decide (0 < Y5 q (i : Int)) = false by simpa using hq]; exact key
  rw [if_neg hp, if_neg (fun h => hp h.1)]; exact key
  rw [if_neg (by omega), show ds.length - i = 0 by omega, tot]; simp
theorem Wv1 {B : Int} (lo : ∀ i, 0 ≤ p i) (hi : ∀ i, p i ≤ B) (lo2 : ∀ i, 0 ≤ q i) (hi2 : ∀ i, q i ≤ B) (hB : B ≤ 1000) : ∀ (k n : Nat) (box : A8), n ≤ 8 → 8 < n + k → (∀ j : Fin 8, box j = if j.val < n then p j + q j else p j) →
 M0 K q k n box = some (.go (Ye1 p q)) := by
 intro k
 induction k with
 | zero => intro n box h1 h2; omega
 | succ k ih =>
  intro n box h1 h2 hb
  rw [M0]
  by_cases hn : n < 8
  rw [if_pos (by omega)]
  refine ih (n + 1) _ (by omega) (by omega) (fun j => ?_)
  rw [Zf8 _ hn, T4 _ hn, T4 _ hn]
  by_cases e : j.val = n
  have ej : (⟨n, hn⟩ : Fin 8) = j := Fin.ext e.symm
  rw [if_pos e, if_pos (by omega), ej, hb j, if_neg (by omega)]
  have h3 := lo j; have h4 := hi j; have h5 := lo2 j; have h6 := hi2 j
  exact IntWalk.i64_in _ (by omega)
  rw [if_neg e, hb j]
  by_cases hj : j.val < n
  rw [if_pos hj, if_pos (by omega)]
  rw [if_neg hj, if_neg (by omega)]
  rw [if_neg (by omega)]
  congr 2
  funext j
  rw [hb j, if_pos (by omega)]; rfl
theorem Vd2 {B : Int} (hK : 8 < K) (hd : okD ds = true) (lo : ∀ i, 0 ≤ p i) (hi : ∀ i, p i ≤ B) (lo2 : ∀ i, 0 ≤ q i) (hi2 : ∀ i, q i ≤ B) (h0 : 0 ≤ B) (hB : B ≤ 1000) : E6 K p ds q = some (I4 ds p q) := by
 have hl := J4 hd
 have h1 := Ws1 (K := K) (q := q) hK hd lo hi h0 hB K 0 0 (by omega) (by omega) (by simp)
 unfold E6 I4
 replace h1 : T6 K p ds q K 0 0 = _ := h1
 rw [h1, Option.bind_some, Nat.sub_zero]
 cases ht : tot ds p q ds.length 0 with
 | none => rfl
 | some t =>
  have hb := Yw7 lo hi h0 _ _ _ ht
  have h2 := Wv1 (K := K) lo hi lo2 hi2 hB K 0 p (by omega) (by omega) (fun j => by simp)
  replace h2 : M0 K q K 0 p = _ := h2
  show (M0 K q K 0 p).bind _ = _
  rw [h2, Option.bind_some]
  show (if (0 + t).tmod 2 = 1 then some (Ye1 p q, (-1 : Int)) else some (Ye1 p q, 1)) = _
  rw [Int.zero_add, Yg3 (by omega)]
  unfold sg
  by_cases h : t % 2 = 1 <;> simp [h]
end
theorem Wk6 (a b : Int) : sg (a + b) = sg a * sg b := by
 unfold sg
 rcases Int.emod_two_eq a with h1 | h1 <;> rcases Int.emod_two_eq b with h2 | h2
 rw [if_neg (by omega), if_neg (by omega), if_neg (by omega)]; rfl
 rw [if_pos (by omega), if_neg (by omega), if_pos (by omega)]; rfl
 rw [if_pos (by omega), if_pos (by omega), if_neg (by omega)]; rfl
 rw [if_neg (by omega), if_pos (by omega), if_pos (by omega)]; rfl
theorem Xf6 (a : Int) : sg a = 1 ∨ sg a = -1 := by unfold sg; split <;> simp
section
variable {K : Nat} {ds : List Int} {p q : A8}
theorem Mo.idx {B : Int} (h : Mo B ds p) (n : Nat) : 0 ≤ Y5 p n ∧ (Y5 p n ≤ B ∨ 8 ≤ n) := by
 by_cases hn : n < 8
 rw [T4 p hn]; exact ⟨h.lo _, .inl (h.hi _)⟩
 simp [Y5, hn]; omega
theorem Wn6 {B : Int} (hd : okD ds = true) (hp : Mo B ds p) (i : Int) (h1q : Y5 q i = 1) : ∀ (k j : Nat) (t : Int), ds.length < j + k → j ≤ ds.length →
 R4 K ds p q i k (sg t) j = some (.go (sg (t + od ds p (ds.length - j) j))) := by
 have hl := J4 hd
 intro k
 induction k with
 | zero => intro j s h1 h2; omega
 | succ k ih =>
  intro j t h1 h2
  have w1 : IntKind.i64.wrap ((j : Int) + 1) = ((j + 1 : Nat) : Int) := by rw [IntWalk.i64_in _ (by omega)]; rfl
  rw [R4]
  by_cases hj : j < ds.length
  obtain ⟨m, hm⟩ : ∃ m, ds.length - j = m + 1 := ⟨ds.length - j - 1, by omega⟩
  have e2 : ds.length - (j + 1) = m := by omega
  have h3 := B0 hd _ (T9 hj)
  have h4 := hp.idx j
  rw [if_pos (by omega)]
  unfold D0
  rw [if_pos (by simpa using h1q), if_pos (by omega), if_pos (by omega), Yg3 (by omega), hm, od, ← Int.add_assoc]
  by_cases he : rd ds (j : Int) % 2 = 0
  rw [if_pos he]
  unfold Zb2
  have := ih (j + 1) t (by omega) (by omega)
  rw [e2] at this
  rw [if_neg (by simp), w1, this, he, Int.zero_mul, Int.add_zero]
  have ho : rd ds (j : Int) % 2 = 1 := by omega
  have h5 := hp.odd j hj ho
  rw [if_neg he, if_pos (by omega), ho, Int.one_mul]
  unfold Zb2
  by_cases h6 : Y5 p j = 1
  have := ih (j + 1) (t + 1) (by omega) (by omega)
  rw [e2] at this
  have e3 : IntKind.i64.wrap (0 - sg t) = sg (t + 1) := by
   rw [Wk6]
   rcases Xf6 t with e | e <;> rw [e] <;> rfl
  rw [if_pos (by simpa using h6), e3, w1, this, h6]
  have := ih (j + 1) t (by omega) (by omega)
  rw [e2] at this
  have e0 : Y5 p j = 0 := by omega
  rw [if_neg (by simpa using h6), w1, this, e0, Int.add_zero]
  rw [if_neg (by omega)]
  unfold D0
  rw [if_neg (by simp), show ds.length - j = 0 by omega, od, Int.add_zero]
theorem Wh4 (hd : okD ds = true) (i : Int) (h1q : Y5 q i ≠ 1) {k : Nat} (hk : 0 < k) (j : Nat) (s : Int) : R4 K ds p q i k s j = some (.go s) := by
 obtain ⟨k, rfl⟩ : ∃ m, k = m + 1 := ⟨k - 1, by omega⟩
 rw [R4]
 unfold D0
 split
 rw [if_neg (by simpa using h1q)]
 rw [if_neg (by simp)]
theorem Wf8 {x : Int} (h : 0 ≤ x ∧ x ≤ 255) : IntKind.u8.wrap x = x := by
 show x % 256 = x
 omega
theorem Wm5 {B C : Int} (hK : 8 < K) (hd : okD ds = true) (hp : Mo B ds p) (hq : Mo C ds q) (hBC : B + C ≤ 255) : ∀ (k i : Nat) (t : Int) (box : A8), ds.length < i + k → i ≤ ds.length →
 (∀ j : Fin 8, box j = if j.val < i then p j + q j else 0) →
 Q1 K ds p q k i box (sg t) = some (match tot ds p q (ds.length - i) i with | none => .ret ((fun _ => 0), 0) | some u => .go (sg (t + u), Ye1 p q)) := by
 have hl := J4 hd
 intro k
 induction k with
 | zero => intro j s box h1 h2; omega
 | succ k ih =>
  intro i t box h1 h2 hb
  rw [Q1]
  by_cases hj : i < ds.length
  have h3 := B0 hd _ (T9 hj)
  obtain ⟨m, hm⟩ : ∃ m, ds.length - i = m + 1 := ⟨ds.length - i - 1, by omega⟩
  have e2 : ds.length - (i + 1) = m := by omega
  have hi8 : i < 8 := by omega
  have h4 := hp.idx i
  have h5 := hq.idx i
  have hw : IntKind.u8.wrap (Y5 p i + Y5 q i) = Y5 p i + Y5 q i := Wf8 (by omega)
  have hbox : ∀ j : Fin 8, U9 box i (Y5 p i + Y5 q i) j = if j.val < i + 1 then p j + q j else 0 := by
   intro j
   rw [Zf8 _ hi8, T4 _ hi8, T4 _ hi8]
   by_cases e : j.val = i
   have ej : (⟨i, hi8⟩ : Fin 8) = j := Fin.ext e.symm
   rw [if_pos e, if_pos (by omega), ej]
   rw [if_neg e, hb j]
   by_cases hj : j.val < i
   rw [if_pos hj, if_pos (by omega)]
   rw [if_neg hj, if_neg (by omega)]
  rw [if_pos (by omega), if_pos (by omega), Yg3 (by omega), hm, tot, hw]
  by_cases he : rd ds (i : Int) % 2 = 0
  rw [if_pos he, if_pos he]
  have := ih (i + 1) t _ (by omega) (by omega) hbox
  rw [e2] at this; exact this
  have ho : rd ds (i : Int) % 2 = 1 := by omega
  have h6 := hp.odd i hj ho
  have h7 := hq.odd i hj ho
  rw [if_neg he, if_neg he]
  have eb : Y5 (U9 box i (Y5 p i + Y5 q i)) i = Y5 p i + Y5 q i := by rw [T4 _ hi8, Zf8 _ hi8, if_pos rfl]
  rw [eb]
  by_cases hz : 0 < Y5 p i ∧ 0 < Y5 q i
  rw [if_pos (by omega), if_pos hz]
  rw [if_neg (by omega), if_neg hz]
  by_cases h1q : Y5 q i = 1
  have h8 := Wn6 (K := K) hd hp (i : Int) h1q K (i + 1) t (by omega) (by omega)
  rw [e2] at h8
  replace h8 : R4 K ds p q i K (sg t) ((i : Int) + 1) = _ := h8
  rw [h8, Option.bind_some]
  have := ih (i + 1) (t + od ds p m (i + 1)) _ (by omega) (by omega) hbox
  rw [e2] at this
  show Q1 K ds p q k ((i : Int) + 1) _ (sg (t + od ds p m (i + 1))) = _
  replace this : Q1 K ds p q k ((i : Int) + 1) _ (sg (t + od ds p m (i + 1))) = _ := this
  rw [this]
  cases tot ds p q m (i + 1) with
  | none => rfl
  | some u => simp only [Option.map_some, show 0 < Y5 q (i : Int) by omega, if_true, Int.add_assoc]
  have h8 := Wh4 (K := K) (p := p) hd (i : Int) h1q (k := K) (by omega) (i + 1) (sg t)
  replace h8 : R4 K ds p q i K (sg t) ((i : Int) + 1) = _ := h8
  rw [h8, Option.bind_some]
  have := ih (i + 1) t _ (by omega) (by omega) hbox
  rw [e2] at this
  show Q1 K ds p q k ((i : Int) + 1) _ (sg t) = _
  replace this : Q1 K ds p q k ((i : Int) + 1) _ (sg t) = _ := this
  rw [this]
  cases tot ds p q m (i + 1) with
  | none => rfl
  | some u => simp only [Option.map_some, show ¬ 0 < Y5 q (i : Int) by omega, if_false, Int.zero_add]
  rw [if_neg (by omega), show ds.length - i = 0 by omega, tot]
  show some (Ex.go (sg t, box)) = some (Ex.go (sg (t + 0), Ye1 p q))
  rw [Int.add_zero]
  congr 3
  funext j
  rw [hb j]
  by_cases hj : j.val < i
  rw [if_pos hj]; rfl
  rw [if_neg hj]
  show (0 : Int) = p j + q j
  rw [hp.out j (by omega), hq.out j (by omega)]; rfl
theorem Wu8 {B C : Int} (hK : 8 < K) (hd : okD ds = true) (hp : Mo B ds p) (hq : Mo C ds q) (hBC : B + C ≤ 255) : Zm8 K ds p q = some (I4 ds p q) := by
 have hl := J4 hd
 have h1 := Wm5 (K := K) hK hd hp hq hBC K 0 0 (fun _ => 0) (by omega) (by omega) (fun j => by simp)
 unfold Zm8 I4
 replace h1 : Q1 K ds p q K 0 (fun _ => 0) 1 = _ := h1
 rw [h1, Option.bind_some, Nat.sub_zero]
 cases tot ds p q ds.length 0 with
 | none => rfl
 | some u =>
  show some (Ye1 p q, sg (0 + u)) = some (Ye1 p q, sg u)
  rw [Int.zero_add]
theorem Yz2 (h : (I4 ds p q).2 ≠ 0) : (I4 ds p q).1 = Ye1 p q ∧ ∃ t, tot ds p q ds.length 0 = some t := by
 unfold I4 at h ⊢
 cases hq : tot ds p q ds.length 0 with
 | none => rw [hq] at h; exact absurd rfl h
 | some t => exact ⟨rfl, t, rfl⟩
theorem Xn8 : (I4 ds p q).2 = 0 ∨ (I4 ds p q).2 = 1 ∨ (I4 ds p q).2 = -1 := by
 unfold I4
 cases tot ds p q ds.length 0 with
 | none => exact .inl rfl
 | some t => exact .inr (Xf6 t)
theorem Xk4 : ∀ (n i : Nat) (t : Int), tot ds p q n i = some t → ∀ j, i ≤ j → j < i + n → rd ds (j : Int) % 2 = 1 → ¬ (0 < Y5 p j ∧ 0 < Y5 q j)
 | 0, i, t, _, j, h1, h2, _ => by omega
 | n + 1, i, t, h, j, h1, h2, ho => by
  rw [tot] at h
  by_cases e : i = j
  subst e
  rw [if_neg (by omega)] at h
  split at h
  cases h
  rename_i hn; exact hn
  split at h
  exact Xk4 n (i + 1) t h j (by omega) (by omega) ho
  split at h
  cases h
  obtain ⟨u, hu, _⟩ := Option.map_eq_some_iff.1 h
  exact Xk4 n (i + 1) u hu j (by omega) (by omega) ho
theorem Mo.mul {B C : Int} (hp : Mo B ds p) (hq : Mo C ds q) (h : (I4 ds p q).2 ≠ 0) : Mo (B + C) ds (I4 ds p q).1 := by
 obtain ⟨e, t, ht⟩ := Yz2 h
 rw [e]
 refine ⟨fun i => Int.add_nonneg (hp.lo i) (hq.lo i), fun i => Int.add_le_add (hp.hi i) (hq.hi i), fun n hn ho => ?_, fun i hi => ?_⟩
 rw [Wd1]
 have h1 := hp.odd n hn ho
 have h2 := hq.odd n hn ho
 have h3 := Xk4 _ _ _ ht n (by omega) (by omega) ho
 omega
 show p i + q i = 0
 rw [hp.out i hi, hq.out i hi]; rfl
end
def Zv9 (ds : List Int) (z : A0) (t : MpT) : MpT := t.filterMap fun q => if (I4 ds z.1 q.1).2 = 0 then none else some ((I4 ds z.1 q.1).1, (I4 ds z.1 q.1).2 * z.2 * q.2)
def Zn2 (ds : List Int) (s t : MpT) : MpT := s.flatMap fun z => Zv9 ds z t
def MoL (B : Int) (ds : List Int) (s : MpT) : Prop := ∀ t, t ∈ s → Mo B ds t.1
theorem Xb8 {a x y : Int} (ha : a = 0 ∨ a = 1 ∨ a = -1) (hx : -10006 ≤ x ∧ x ≤ 10006) (hy : -10006 ≤ y ∧ y ≤ 10006) : (-10006 ≤ a * x ∧ a * x ≤ 10006) ∧ -100120036 ≤ a * x * y ∧ a * x * y ≤ 100120036 := by
 have h : -10006 ≤ a * x ∧ a * x ≤ 10006 := by rcases ha with rfl | rfl | rfl <;> omega
 exact ⟨h, Yn1 h hy⟩
section
variable {K : Nat} {ds : List Int}
theorem Xp6 {B C : Int} {z : A0} (hK : 8 < K) (hd : okD ds = true) (hz : Mo B ds z.1) (hz2 : -10006 ≤ z.2 ∧ z.2 ≤ 10006) (h0 : 0 ≤ B) (h0' : 0 ≤ C) (hBC : B + C ≤ 255) :
 ∀ (k : Nat) (t s : MpT), t.length < k → MoL C ds t → SmF t → nfm s = true → V9 K ds z k t s = some (.go (I5 (Zv9 ds z t) s))
 | 0, _, _, h, _, _, _ => by omega
 | k + 1, [], s, _, _, _, _ => by rw [V9]; rfl
 | k + 1, q :: t, s, h, ht, hf, hs => by
  have hq := ht q (List.mem_cons_self ..)
  have hq2 := hf q (List.mem_cons_self ..)
  have hm := Xb8 (Xn8 (ds := ds) (p := z.1) (q := q.1)) hz2 hq2
  have ih := fun s' (hs' : nfm s' = true) => Xp6 (s := s') hK hd hz hz2 h0 h0' hBC k t (by simpa using h) (fun q hq => ht q (List.mem_cons_of_mem _ hq)) (fun q hq => hf q (List.mem_cons_of_mem _ hq)) hs'
  rw [V9, Vd2 (B := B + C) hK hd hz.lo (fun i => by have := hz.hi i; omega) hq.lo (fun i => by have := hq.hi i; omega) (by omega) (by omega), Option.bind_some]
  unfold Zv9
  rw [List.filterMap_cons]
  by_cases e : (I4 ds z.1 q.1).2 = 0
  rw [if_pos e, if_pos e, ih s hs]; rfl
  have hb : -10006 ≤ ((I4 ds z.1 q.1).2 * z.2 * q.2).tmod 10007 ∧ ((I4 ds z.1 q.1).2 * z.2 * q.2).tmod 10007 ≤ 10006 := by rw [Int.tmod_eq_emod]; split <;> omega
  rw [if_neg e, if_neg e, IntWalk.i64_in ((I4 ds z.1 q.1).2 * z.2) (by omega), IntWalk.i64_in _ (by omega), Yk4 ⟨hs, by omega, by omega⟩, Option.bind_some, ih _ (Zi0 hs _ _)]
  rw [Yq5 (Xw9 _)]; rfl
theorem Xq6 {B C : Int} {t : MpT} (hK : 8 < K) (hd : okD ds = true) (h0 : 0 ≤ B) (h0' : 0 ≤ C) (hBC : B + C ≤ 255) (ht : MoL C ds t) (hf : SmF t) (hl : t.length < K) :
 ∀ (k : Nat) (s acc : MpT), s.length < k → MoL B ds s → SmF s → nfm acc = true → S0 K ds t k s acc = some (.go (I5 (Zn2 ds s t) acc))
 | 0, _, _, h, _, _, _ => by omega
 | k + 1, [], s, _, _, _, _ => by rw [S0]; rfl
 | k + 1, z :: s, acc, h, hs, hsf, ha => by
  rw [S0, Xp6 hK hd (hs z (List.mem_cons_self ..)) (hsf z (List.mem_cons_self ..)) h0 h0' hBC K t acc hl ht hf ha, Option.bind_some]
  show S0 K ds t k s (I5 (Zv9 ds z t) acc) = _
  rw [Xq6 hK hd h0 h0' hBC ht hf hl k s _ (by simpa using h) (fun q hq => hs q (List.mem_cons_of_mem _ hq)) (fun q hq => hsf q (List.mem_cons_of_mem _ hq)) (Zm9 _ ha), ← Xe4]
  rfl
theorem Xx5 {B C : Int} {s t : MpT} (hK : 8 < K) (hd : okD ds = true) (h0 : 0 ≤ B) (h0' : 0 ≤ C) (hBC : B + C ≤ 255) (hs : MoL B ds s) (hsf : SmF s) (ht : MoL C ds t) (hf : SmF t) (hsl : s.length < K) (hl : t.length < K) :
 D3 K s ds t = some (I5 (Zn2 ds s t) []) := by
 unfold D3
 rw [Xq6 hK hd h0 h0' hBC ht hf hl K s [] hsl hs hsf Zy8]; rfl
/-! the other side -/
def shf (ds : List Int) (z : A0) (g : MpT) : MpT := g.filterMap fun q => if (I4 ds z.1 q.1).2 = 0 then none else some ((I4 ds z.1 q.1).1, ((I4 ds z.1 q.1).2 * z.2 * q.2) % 10007)
theorem Wj5 {B C : Int} {z : A0} {g : MpT} (hK : 8 < K) (hd : okD ds = true) (hz : Mo B ds z.1) (hz2 : -10006 ≤ z.2 ∧ z.2 ≤ 10006) (hBC : B + C ≤ 255) (hg : MoL C ds g) (hf : SmF g) (hl : g.length ≤ 1099511627776) :
 ∀ (k i : Nat) (out : MpT), g.length < i + k → i ≤ g.length → out.length ≤ i → J6 K ds z g k i out = some (.go (out ++ shf ds z (g.drop i))) := by
 intro k
 induction k with
 | zero => intro i out h1 h2; omega
 | succ k ih =>
  intro i out h1 h2 h3
  rw [J6]
  by_cases hi : i < g.length
  have hq := hg _ (T9 hi)
  have hm := Xb8 (Xn8 (ds := ds) (p := z.1) (q := (rd g (i : Int)).1)) hz2 (hf _ (T9 hi))
  rw [if_pos (by omega), Wu8 hK hd hz hq hBC, Option.bind_some, Zy7 hi]
  unfold shf
  rw [List.filterMap_cons]
  by_cases e : (I4 ds z.1 (rd g (i : Int)).1).2 = 0
  have := ih (i + 1) out (by omega) (by omega) (by omega)
  rw [if_pos e, if_pos e]
  exact this
  have := ih (i + 1) (out ++ [((I4 ds z.1 (rd g (i : Int)).1).1, ((I4 ds z.1 (rd g (i : Int)).1).2 * z.2 * (rd g (i : Int)).2) % 10007)]) (by omega) (by omega) (by simp; omega)
  rw [if_neg e, if_neg e, IntWalk.i64_in ((I4 ds z.1 (rd g (i : Int)).1).2 * z.2) (by omega), IntWalk.i64_in _ (by omega), Yh3, Option.bind_some, if_pos (by simp; omega)]
  refine Eq.trans this ?_
  rw [List.append_assoc]; rfl
  rw [if_neg (by omega), List.drop_eq_nil_of_le (by omega)]
  show _ = some (Ex.go (out ++ []))
  rw [List.append_nil]
theorem Wy9 {B C : Int} {z : A0} {g : MpT} (hK : 8 < K) (hd : okD ds = true) (hz : Mo B ds z.1) (hz2 : -10006 ≤ z.2 ∧ z.2 ≤ 10006) (hBC : B + C ≤ 255) (hg : MoL C ds g) (hf : SmF g) (hl : g.length ≤ 1099511627776) (hlK : g.length < K) :
 Zp1 K ds z g = some (shf ds z g) := by
 have := Wj5 (K := K) hK hd hz hz2 hBC hg hf hl K 0 [] (by omega) (by omega) (by simp)
 unfold Zp1
 replace this : J6 K ds z g K 0 [] = some (.go (shf ds z g)) := this
 rw [this]; rfl
theorem Xt0 : ∀ (p q r : List Int), p.length = q.length → q.length = r.length → Zg5 (List.zipWith (· + ·) p q) (List.zipWith (· + ·) p r) = Zg5 q r
 | [], [], [], _, _ => rfl
 | a :: p, b :: q, c :: r, h1, h2 => by
  simp only [List.zipWith_cons_cons, Zg5]
  rw [Xt0 p q r (by simpa using h1) (by simpa using h2)]
  by_cases e : b = c
  rw [if_pos e, if_pos (by omega)]
  rw [if_neg e, if_neg (by omega)]
  exact decide_eq_decide.2 (by omega)
theorem Wz8 (p q r : A8) : bef (Ye1 p q) (Ye1 p r) = bef q r := Xt0 (l8 p) (l8 q) (l8 r) rfl rfl
theorem Xz0 {z : A0} {g : MpT} : ∀ r, r ∈ shf ds z g → ∃ q, q ∈ g ∧ (I4 ds z.1 q.1).2 ≠ 0 ∧ r = ((I4 ds z.1 q.1).1, ((I4 ds z.1 q.1).2 * z.2 * q.2) % 10007) := by
 intro r hr
 obtain ⟨q, hq, h⟩ := List.mem_filterMap.1 hr
 by_cases e : (I4 ds z.1 q.1).2 = 0
 rw [if_pos e] at h; cases h
 rw [if_neg e] at h; cases h; exact ⟨q, hq, e, rfl⟩
theorem Xn1 {z : A0} : ∀ {g : MpT}, Srt g → Srt (shf ds z g)
 | [], _ => List.Pairwise.nil
 | q :: g, h => by
  have h' := List.pairwise_cons.1 h
  unfold shf
  rw [List.filterMap_cons]
  by_cases e : (I4 ds z.1 q.1).2 = 0
  rw [if_pos e]; exact Xn1 h'.2
  rw [if_neg e]
  refine List.pairwise_cons.2 ⟨fun r hr => ?_, Xn1 h'.2⟩
  obtain ⟨u, hu, hn, rfl⟩ := Xz0 r hr
  show bef (I4 ds z.1 q.1).1 (I4 ds z.1 u.1).1 = true
  rw [(Yz2 e).1, (Yz2 hn).1, Wz8]
  exact h'.1 u hu
theorem Wl7 {z : A0} {g : MpT} : SmF (shf ds z g) := by
 intro r hr
 obtain ⟨q, _, _, rfl⟩ := Xz0 r hr
 show -10006 ≤ _ % 10007 ∧ _ % 10007 ≤ (10006 : Int)
 omega
theorem Wy5 (z : A0) (g : MpT) : (shf ds z g).length ≤ g.length := List.length_filterMap_le _ _
theorem Xo7 (z : A0) (g : MpT) : (Zv9 ds z g).length ≤ g.length := List.length_filterMap_le _ _
theorem Xl2 {z : A0} : ∀ (g s : MpT), I5 (scl 1 (shf ds z g)) s = I5 (Zv9 ds z g) s
 | [], s => rfl
 | q :: g, s => by
  unfold shf Zv9
  rw [List.filterMap_cons, List.filterMap_cons]
  by_cases e : (I4 ds z.1 q.1).2 = 0
  rw [if_pos e, if_pos e]; exact Xl2 g s
  rw [if_neg e, if_neg e]
  show I5 (scl 1 (shf ds z g)) (Zv2 s _ (1 * _)) = I5 (Zv9 ds z g) (Zv2 s _ _)
  rw [Xl2 g, Yq5 (f' := (I4 ds z.1 q.1).2 * z.2 * q.2) (by rw [Int.one_mul, Int.emod_emod])]
theorem Wf5 {B C : Int} {f g : MpT} (hK : 1073741824 ≤ K) (hd : okD ds = true) (h0 : 0 ≤ B) (hBC : B + C ≤ 255) (hf : MoL B ds f) (hff : SmF f) (hg : MoL C ds g) (hgf : SmF g) (hgs : Srt g) (hgl : g.length ≤ 1000000) :
 ∀ (k i : Nat) (acc : MpT), f.length < i + k → i ≤ f.length → nfm acc = true → acc.length + (f.length - i) * g.length ≤ 100000000 →
  E3 K ds f g k i acc = some (.go (I5 (Zn2 ds (f.drop i) g) acc)) := by
 intro k
 induction k with
 | zero => intro i acc h1 h2; omega
 | succ k ih =>
  intro i acc h1 h2 ha hb
  rw [E3]
  by_cases hi : i < f.length
  have hz := hf _ (T9 hi)
  have hz2 := hff _ (T9 hi)
  have hsl : (shf ds ((rd f (i : Int)).1, (rd f (i : Int)).2) g).length ≤ g.length := Wy5 _ g
  have hml := Yk8 (Zv9 ds (rd f (i : Int)) g) acc
  have hml2 := Xo7 (ds := ds) (rd f (i : Int)) g
  have hmul : (f.length - i) * g.length = (f.length - (i + 1)) * g.length + g.length := by
   rw [show f.length - i = (f.length - (i + 1)) + 1 by omega, Nat.add_mul, Nat.one_mul]
  rw [if_pos (by omega), Wy9 (z := ((rd f (i : Int)).1, (rd f (i : Int)).2)) (by omega) hd hz hz2 hBC hg hgf (by omega) (by omega), Option.bind_some,
   Wy2 (by omega) (by omega) (by omega) (Zw8 ha) Wl7 (by omega) (by omega), Option.bind_some, Wb4 ha (Xn1 hgs), Xl2]
  have := ih (i + 1) (I5 (Zv9 ds (rd f (i : Int)) g) acc) (by omega) (by omega) (Zm9 _ ha) (by omega)
  refine Eq.trans this ?_
  rw [Zy7 hi]
  show _ = some (Ex.go (I5 (Zv9 ds (rd f (i : Int)) g ++ Zn2 ds (f.drop (i + 1)) g) acc))
  rw [Xe4]
  rw [if_neg (by omega), List.drop_eq_nil_of_le (by omega)]; rfl
theorem Xt3 {B C : Int} {f g : MpT} (hK : 1073741824 ≤ K) (hd : okD ds = true) (h0 : 0 ≤ B) (hBC : B + C ≤ 255) (hf : MoL B ds f) (hff : SmF f) (hg : MoL C ds g) (hgf : SmF g) (hgs : Srt g) (hgl : g.length ≤ 1000000)
 (hfl : f.length < K) (hb : f.length * g.length ≤ 100000000) : Zi7 K ds f g = some (I5 (Zn2 ds f g) []) := by
 have := Wf5 (K := K) hK hd h0 hBC hf hff hg hgf hgs hgl K 0 [] (by omega) (by omega) Zy8 (by simpa using hb)
 unfold Zi7
 replace this : E3 K ds f g K 0 [] = some (.go (I5 (Zn2 ds f g) [])) := this
 rw [this]; rfl
theorem Xk0 {z : A0} {g : MpT} : ∀ r, r ∈ Zv9 ds z g → ∃ q, q ∈ g ∧ (I4 ds z.1 q.1).2 ≠ 0 ∧ r.1 = (I4 ds z.1 q.1).1 := by
 intro r hr
 obtain ⟨q, hq, h⟩ := List.mem_filterMap.1 hr
 by_cases e : (I4 ds z.1 q.1).2 = 0
 rw [if_pos e] at h; cases h
 rw [if_neg e] at h; cases h; exact ⟨q, hq, e, rfl⟩
theorem Vd4 {B C : Int} {f g : MpT} (hf : MoL B ds f) (hg : MoL C ds g) : MoL (B + C) ds (Zn2 ds f g) := by
 intro r hr
 obtain ⟨z, hz, hr⟩ := List.mem_flatMap.1 hr
 obtain ⟨q, hq, hn, e⟩ := Xk0 r hr
 rw [e]
 exact (hf z hz).mul (hg q hq) hn
theorem Xt5 (f g : MpT) : (Zn2 ds f g).length ≤ f.length * g.length := by
 induction f with
 | nil => simp [Zn2]
 | cons z f ih =>
  show (Zv9 ds z g ++ Zn2 ds f g).length ≤ _
  have := Xo7 (ds := ds) z g
  rw [List.length_append, List.length_cons, Nat.add_mul, Nat.one_mul]; omega
theorem Wt2 {s : MpT} {p : A8} {f : Int} {q : A0} (h : q ∈ Zv2 s p f) : q.1 = p ∨ q ∈ s := by
 unfold Zv2 at h
 split at h
 exact .inr (Yd5.1 h).1
 rcases Yb2.1 h with rfl | h
 exact .inl rfl
 exact .inr h.1
theorem Ym5 : ∀ {T s : MpT} {q : A0}, q ∈ I5 T s → (∃ t, t ∈ T ∧ t.1 = q.1) ∨ ∃ t, t ∈ s ∧ t.1 = q.1
 | [], s, q, h => .inr ⟨q, h, rfl⟩
 | t :: T, s, q, h => by
  rcases Ym5 (T := T) h with ⟨u, hu, e⟩ | ⟨u, hu, e⟩
  exact .inl ⟨u, List.mem_cons_of_mem _ hu, e⟩
  rcases Wt2 hu with h | h
  exact .inl ⟨t, List.mem_cons_self .., h.symm.trans e⟩
  exact .inr ⟨u, h, e⟩
theorem Vd3 {B : Int} {T : MpT} (hT : MoL B ds T) : MoL B ds (I5 T []) := by
 intro q hq
 rcases Ym5 hq with ⟨t, ht, e⟩ | ⟨t, ht, e⟩
 rw [← e]; exact hT t ht
 cases ht
end
/-! a form that is valid -/
structure VF (ds : List Int) (f : MpT) : Prop where
 nf : nfm f = true
 mo : MoL 20 ds f
 len : f.length ≤ 400
theorem Vh5 {ds : List Int} {m : A8} (hm : Byt m) (h : okM ds m = true) : Mo 20 ds m := by
 have hall : ∀ n : Nat, n < 8 → Y5 m n ≤ Zo0 ds n := fun n hn => by
  have := List.all_eq_true.1 h n (List.mem_range.2 hn)
  simpa using this
 have most : ∀ n, Zo0 ds n ≤ 20 := fun n => by unfold Zo0; split; split <;> omega; omega
 refine ⟨fun i => (hm i).1, fun i => ?_, fun n hn ho => ?_, fun i hi => ?_⟩
 have := hall i.val i.isLt
 rw [T4 m i.isLt] at this
 exact Int.le_trans this (most _)
 by_cases h8 : n < 8
 have := hall n h8
 unfold Zo0 at this
 rw [if_pos hn, if_pos ho] at this; exact this
 simp [Y5, h8]
 have := hall i.val i.isLt
 unfold Zo0 at this
 rw [if_neg (by omega), T4 m i.isLt] at this
 have h0 := (hm i).1
 exact Int.le_antisymm this h0
theorem Vg0 {ds : List Int} {f : MpT} (hf : Yf7 f) (h : okF ds f = true) : VF ds f := by
 unfold okF at h
 rw [Bool.and_eq_true, decide_eq_true_eq] at h
 obtain ⟨h, hl⟩ := h
 have hall : ∀ n, n < f.length → okT ds f n = true := fun n hn => List.all_eq_true.1 h n (List.mem_range.2 hn)
 have hmem : ∀ t, t ∈ f → okM ds t.1 = true ∧ 1 ≤ t.2 ∧ t.2 ≤ 10006 := by
  intro t ht
  obtain ⟨i, hi, rfl⟩ := List.getElem_of_mem ht
  have := hall i hi
  unfold okT at this
  rw [Ze1 hi, Bool.and_eq_true, Bool.and_eq_true] at this
  exact ⟨this.1.1, by simpa using this.1.2⟩
 have hadj : ∀ j (hj : j + 1 < f.length), bef f[j].1 f[j + 1].1 = true := by
  intro j hj
  have := hall (j + 1) hj
  unfold okT at this
  rw [Ze1 hj, show ((j + 1 : Nat) : Int) - 1 = (j : Int) by omega, Ze1 (show j < f.length by omega), Bool.and_eq_true] at this
  simpa using this.2
 refine ⟨Yh5 ?_ (fun t ht => (hmem t ht).2), fun t ht => Vh5 (hf t ht) (hmem t ht).1, hl⟩
 rw [Srt, List.pairwise_iff_getElem]
 intro i j hi hj hij
 obtain ⟨d, rfl⟩ : ∃ d, j = i + 1 + d := ⟨j - i - 1, by omega⟩
 clear hij
 induction d with
 | zero => exact hadj i hj
 | succ d ih => exact Zp5 (ih (by omega)) (hadj (i + 1 + d) hj)
theorem Xf1 {s : MpT} {a : A8} {x : Int} (h : Srt (s ++ [(a, x)])) : Zb7 s a x = s ++ [(a, x)] := by
 have hp := List.pairwise_append.1 h
 have ha : a ∉ s.map Prod.fst := by
  intro hm
  obtain ⟨q, hq, rfl⟩ := List.mem_map.1 hm
  have := hp.2.2 q hq (q.1, x) (by simp)
  rw [Zf0] at this; cases this
 refine Xj6 (Yl1 hp.1 a x) h ?_
 refine (Zt8 _ _).trans ?_
 unfold Zx7
 rw [Zy2 ha]
 exact (List.perm_append_singleton _ _).symm
theorem Wi1 {K : Nat} {f : MpT} (hK : 8 < K) (hf : Yf7 f) (hs : Srt f) : ∀ (k i : Nat), f.length < i + k → i ≤ f.length → Zc4 K f k i (f.take i) = some (.go f) := by
 intro k
 induction k with
 | zero => intro i h1 h2; omega
 | succ k ih =>
  intro i h1 h2
  rw [Zc4]
  by_cases hi : i < f.length
  have e : f.take (i + 1) = f.take i ++ [((rd f (i : Int)).1, (rd f (i : Int)).2)] := by
   rw [Ze1 hi, List.take_add_one, List.getElem?_eq_getElem hi]; rfl
  have Z4 : Srt (f.take (i + 1)) := hs.sublist (List.take_sublist _ _)
  rw [if_pos (by omega), Yn2 hK (hf _ (T9 hi)), Option.bind_some, Xf1 (by rw [← e]; exact Z4), ← e]
  exact ih (i + 1) (by omega) (by omega)
  rw [if_neg (by omega), List.take_of_length_le (by omega)]
theorem Wb5 {K : Nat} {f : MpT} (hK : 8 < K) (hl : f.length < K) (hf : Yf7 f) (hs : Srt f) : Zr8 K f = some f := by
 have := Wi1 hK hf hs K 0 (by omega) (by omega)
 unfold Zr8
 replace this : Zc4 K f K 0 [] = some (.go f) := this
 rw [this]; rfl
theorem Mo.byt {B : Int} {ds : List Int} {m : A8} (h : Mo B ds m) (hB : B ≤ 255) : Byt m := fun i => ⟨h.lo i, Int.le_trans (h.hi i) hB⟩
theorem VF.byt {ds : List Int} {f : MpT} (h : VF ds f) : Yf7 f := fun t ht => (h.mo t ht).byt (by decide)
theorem VF.small {ds : List Int} {f : MpT} (h : VF ds f) : SmF f := Zw8 h.nf
/-! all images -/
theorem Xv7 (m : M8) {n : Nat} (h : n < 8) : Yd6 m (n : Int) = m ⟨n, h⟩ := by simp [Yd6, h]
theorem Wr5 (m : M8) {n : Nat} (hn : n < 8) (x : MpT) (j : Fin 8) : Xn3 m n x j = if j.val = n then x else m j := by
 unfold Xn3
 by_cases h : j.val = n
 rw [if_pos h, if_pos (by omega)]
 rw [if_neg h, if_neg (by omega)]
theorem Wa8 {K : Nat} {a : List Int × List MpT} (hK : 400 < K) (hl : a.2.length ≤ 8) (hv : ∀ f, f ∈ a.2 → ∃ ds, VF ds f) : ∀ (k n : Nat) (box : M8), a.2.length < n + k → n ≤ a.2.length → (∀ j, j < n → Yd6 box (j : Int) = rd a.2 (j : Int)) →
 ∃ r, N6 K a k n box = some (.go r) ∧ ∀ j, j < a.2.length → Yd6 r (j : Int) = rd a.2 (j : Int) := by
 intro k
 induction k with
 | zero => intro n box h1 h2; omega
 | succ k ih =>
  intro n box h1 h2 hb
  rw [N6]
  by_cases hn : n < a.2.length
  obtain ⟨ds, v⟩ := hv _ (T9 hn)
  have hvl := v.len
  rw [if_pos (by omega), Wb5 (by omega) (by omega) v.byt (F6 v.nf), Option.bind_some, if_pos (by omega)]
  refine ih (n + 1) _ (by omega) (by omega) (fun j hj => ?_)
  rw [Xv7 _ (show j < 8 by omega), Wr5 _ (by omega)]
  by_cases e : j = n
  rw [if_pos e, e]
  rw [if_neg e, ← hb j (by omega), Xv7 _ (show j < 8 by omega)]
  rw [if_neg (by omega)]
  exact ⟨box, rfl, fun j hj => hb j (by omega)⟩
theorem Wv8 {K : Nat} {a : List Int × List MpT} (hK : 400 < K) (hl : a.2.length ≤ 8) (hv : ∀ f, f ∈ a.2 → ∃ ds, VF ds f) : ∃ r, Ze0 K a = some r ∧ ∀ j, j < a.2.length → Yd6 r (j : Int) = rd a.2 (j : Int) := by
 obtain ⟨r, h1, h2⟩ := Wa8 hK hl hv K 0 (fun _ => []) (by omega) (by omega) (fun j hj => by omega)
 unfold Ze0
 replace h1 : N6 K a K 0 (fun _ => []) = _ := h1
 rw [h1]; exact ⟨r, rfl, h2⟩
/-! one factor of a monomial -/
def loM (m : A8) (i : Nat) : A8 := fun j => if j.val < i then m j else 0
def hiM (m : A8) (i : Nat) : A8 := fun j => if i < j.val then m j else 0
def lfM (m : A8) (i : Nat) : A8 := U9 (loM m i) i (Y5 m i - 1)
def dT (ds : List Int) (img : MpT) (m : A8) (i : Nat) : MpT := I5 (Zn2 ds (I5 (Zn2 ds [(lfM m i, 1)] img) []) [(hiM m i, 1)]) []
def dF (ds : List Int) (z : A0) (i : Nat) : Int := (sg (wtN ds z.1 i) * z.2 * Y5 z.1 i) % 10007
def Yt2 (ds : List Int) (img : MpT) (z : A0) (i : Nat) (out : MpT) : MpT := I5 (scl (dF ds z i) (dT ds img z.1 i)) out
def Zy1 (ds : List Int) (imgs : List MpT) (z : A0) : Nat → Nat → MpT → MpT
 | 0, _, out => out
 | n + 1, i, out => Zy1 ds imgs z n (i + 1) (if Y5 z.1 (i : Int) = 0 then out else Yt2 ds (rd imgs (i : Int)) z i out)
def Zw9 (ds : List Int) (imgs : List MpT) : MpT → MpT → MpT
 | [], out => out
 | z :: f, out => Zw9 ds imgs f (Zy1 ds imgs z ds.length 0 out)
section
variable {K : Nat} {ds : List Int} {m : A8} {i : Nat}
theorem Xg9 (m : A8) (i n : Nat) : Y5 (loM m i) n = if n < i then Y5 m n else 0 := by
 by_cases hn : n < 8
 rw [T4 _ hn, T4 _ hn]; rfl
 simp [Y5, hn]
theorem Wo8 (m : A8) (i n : Nat) : Y5 (hiM m i) n = if i < n then Y5 m n else 0 := by
 by_cases hn : n < 8
 rw [T4 _ hn, T4 _ hn]; rfl
 simp [Y5, hn]
theorem Wi7 {B : Int} (h : Mo B ds m) (h0 : 0 ≤ B) (i : Nat) : Mo B ds (loM m i) := by
 refine ⟨fun j => ?_, fun j => ?_, fun n hn ho => ?_, fun j hj => ?_⟩
 unfold loM; split; exact h.lo j; omega
 unfold loM; split; exact h.hi j; omega
 rw [Xg9]; split; exact h.odd n hn ho; omega
 unfold loM; split; exact h.out j hj; rfl
theorem Wi3 {B : Int} (h : Mo B ds m) (h0 : 0 ≤ B) (i : Nat) : Mo B ds (hiM m i) := by
 refine ⟨fun j => ?_, fun j => ?_, fun n hn ho => ?_, fun j hj => ?_⟩
 unfold hiM; split; exact h.lo j; omega
 unfold hiM; split; exact h.hi j; omega
 rw [Wo8]; split; exact h.odd n hn ho; omega
 unfold hiM; split; exact h.out j hj; rfl
theorem Xr6 {B : Int} (h : Mo B ds m) (h0 : 0 ≤ B) (hi : i < 8) (h1 : 0 < Y5 m i) : Mo B ds (lfM m i) := by
 have hl := Wi7 h h0 i
 unfold lfM
 refine ⟨fun j => ?_, fun j => ?_, fun n hn ho => ?_, fun j hj => ?_⟩
 rw [Zf8 _ hi]; split; omega; exact hl.lo j
 rw [Zf8 _ hi]; split
 have := h.hi ⟨i, hi⟩; rw [← T4 m hi] at this; omega
 exact hl.hi j
 by_cases hn8 : n < 8
 rw [T4 _ hn8, Zf8 _ hi]
 by_cases e : n = i
 subst e; rw [if_pos rfl]; have := h.odd n hn ho; omega
 rw [if_neg e, ← T4 (loM m i) hn8]; exact hl.odd n hn ho
 simp [Y5, hn8]
 rw [Zf8 _ hi]; split
 rename_i e
 have := h.out j hj
 rw [T4 m hi, show (⟨i, hi⟩ : Fin 8) = j from Fin.ext e.symm, this] at h1
 omega
 exact hl.out j hj
theorem Wk9 (m : A8) (i : Nat) : ∀ n, n ≤ i → wtN ds (loM m i) n = wtN ds m n
 | 0, _ => rfl
 | n + 1, h => by rw [wtN, wtN, Wk9 m i n (by omega), Xg9, if_pos (by omega)]
theorem Wf1 (m : A8) (i : Nat) : ∀ n, i ≤ n → wtN ds (loM m i) n = wtN ds m i
 | 0, h => by
  have : i = 0 := by omega
  subst this; rfl
 | n + 1, h => by
  by_cases e : i = n + 1
  subst e; exact Wk9 m _ _ (Nat.le_refl _)
  rw [wtN, Wf1 m i n (by omega), Xg9, if_neg (by omega), Int.mul_zero, Int.add_zero]
theorem Wx1 (m : A8) (i : Nat) (h : i ≤ ds.length) : wt ds (loM m i) = wtN ds m i := Wf1 m i _ h
end
end Go.Proofs.YtabofnehiclkiaaGreat
