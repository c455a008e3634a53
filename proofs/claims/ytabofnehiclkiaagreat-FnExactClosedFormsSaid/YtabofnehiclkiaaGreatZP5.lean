/- Plain laws on the pure functions. -/
import Derived.Test.YtabofnehiclkiaaGreatZP4
import Derived.Test.YtabofnehiclkiaaGreatZL
namespace Go.Proofs.YtabofnehiclkiaaGreat
open Go
set_option linter.unusedSimpArgs false
set_option linter.unusedVariables false
section
variable {K : Nat} {a : A0} {n : Int}
theorem Vd4 (h : Dg a n) : lv0 K a n = some (Q3 a.1 n) := Xi6 h.v.dg (by have := h.r; omega) h.l1
theorem Wp2 (h : Dg a n) : P7 K a.1 n = some (Q3 a.1 n) := Ys2 h.v.dg (by have := h.r; omega) h.l1
theorem Vh6 (hK : 1099511627776 ≤ K) (hi : Inp K a) : Zh9 K a n = some (dgR a n (clR a n)) := by
 unfold Zh9 dgR
 rw [show (a.1, a.2) = a from rfl, Wt5 hK hi, Option.bind_some]
 by_cases h : cdR a n = 0
 have hD := Xw6 hi h
 rw [if_pos h, if_pos h, Wg7 hK hD, Option.bind_some, Wp2 hD, Option.bind_some, Wm0 hK hD hD.cl]; rfl
 rw [if_neg h, if_neg h]
theorem Vi9 (hK : 1099511627776 ≤ K) (hi : Inp K a) : Ze1 K a n = some (dgR a n (clR a n)) := by
 unfold Ze1 dgR
 rw [Wk3 hK hi, Option.bind_some]
 by_cases h : cdR a n = 0
 have hD := Xw6 hi h
 rw [if_pos h, if_pos h, Wx1 hK hD, Option.bind_some, Vd4 hD, Option.bind_some, Wn7 hK hD hD.cl]
 rw [if_neg h, if_neg h]
def smF (r : List MpT × Int) : Prop := r.1.length ≤ 120 ∧ ∀ f, f ∈ r.1 → f.length ≤ 120
theorem Vc6 (hi : Inp K a) {R : List Vc} (hR : Dg a n → Rr (Q3 a.1 n).length R) : smF (dgR a n R) := by
 unfold dgR
 by_cases h : cdR a n = 0
 have hD := Xw6 hi h
 have l1 := hD.l1
 have hs := (hR hD).short
 rw [if_pos h]
 refine ⟨by rw [List.length_map]; omega, fun f hf => ?_⟩
 obtain ⟨r, _, rfl⟩ := List.mem_map.1 hf
 have := Xd6 (Q3 a.1 n) r
 omega
 rw [if_neg h]
 exact ⟨by simp, fun f hf => by cases hf⟩
theorem Xt6 : ∀ {fs : List MpT}, (∀ f, f ∈ fs → f.length ≤ 120) → M6 fs ≤ 1080 * fs.length
 | [], _ => by simp [M6]
 | f :: fs, h => by
  have h1 := h f (List.mem_cons_self ..)
  have h2 := Xt6 (fs := fs) (fun g hg => h g (List.mem_cons_of_mem _ hg))
  rw [M6, List.length_cons]; omega
end
section
variable {K : Nat}
/-! comparisons -/
theorem Xz8 (hK : 8 < K) (m : A8) : Zk2 K m m = some true := by
 unfold Zk2
 rw [Zc7 (g := ()) (fun k i => N0 K m m k i) 8 (fun _ => true) false (fun k n hn => ?_) (fun k n hn => ?_) hK]
 rw [if_pos (by simp)]; rfl
 show N0 K m m (k + 1) n = _
 rw [N0, if_pos (by omega), if_pos rfl]; rfl
 show N0 K m m (k + 1) n = _
 rw [N0, if_neg (by omega)]
theorem Xv3 (hK : 8 < K) {f : MpT} (hl : f.length < K) : Zr0 K f f = some true := by
 unfold Zr0
 rw [if_pos rfl, Zc7 (g := ()) (fun k i => K9 K f f k i) f.length (fun _ => true) false (fun k n hn => ?_) (fun k n hn => ?_) hl]
 rw [if_pos (by simp)]; rfl
 show K9 K f f (k + 1) n = _
 have h : Zt2 K ((rd f (n : Int)).1, (rd f (n : Int)).2) ((rd f (n : Int)).1, (rd f (n : Int)).2) = some true := by
  unfold Zt2
  rw [Xz8 hK]; simp
 rw [K9, if_pos (by omega), if_pos (by omega), h]; rfl
 show K9 K f f (k + 1) n = _
 rw [K9, if_neg (by omega)]
theorem Yx1 (hK : 8 < K) {fs : List MpT} (hl : fs.length < K) (hf : ∀ f, f ∈ fs → f.length < K) : Zd7 K fs fs = some true := by
 unfold Zd7
 rw [if_pos rfl, Zc7 (g := ()) (fun k i => K8 K fs fs k i) fs.length (fun _ => true) false (fun k n hn => ?_) (fun k n hn => ?_) hl]
 rw [if_pos (by simp)]; rfl
 show K8 K fs fs (k + 1) n = _
 have h : Zt7 K (rd fs (n : Int)) (rd fs (n : Int)) = some true := by
  unfold Zt7
  rw [Xv3 hK (hf _ (T9 hn))]; rfl
 rw [K8, if_pos (by omega), if_pos (by omega), h]; rfl
 show K8 K fs fs (k + 1) n = _
 rw [K8, if_neg (by omega)]
theorem Xz3 {xs : List Int} (hl : xs.length < K) : Zo8 K xs xs = some true := by
 unfold Zo8
 rw [if_pos rfl, Zc7 (g := ()) (fun k i => L1 K xs xs k i) xs.length (fun _ => true) false (fun k n hn => ?_) (fun k n hn => ?_) hl]
 rw [if_pos (by simp)]; rfl
 show L1 K xs xs (k + 1) n = _
 rw [L1, if_pos (by omega), if_pos (by omega), if_pos rfl]; rfl
 show L1 K xs xs (k + 1) n = _
 rw [L1, if_neg (by omega)]
theorem Wf5 (hK : 8 < K) {x : A0} (h1 : x.1.length < K) (h2 : x.2.length < K) (h3 : ∀ f, f ∈ x.2 → f.length < K) : Zl7 K x x = some true := by
 unfold Zl7
 rw [Xz3 h1, Option.bind_some, if_pos rfl, Yx1 hK h2 h3]; rfl
/-! copies -/
theorem Ve9 (hK : 8 < K) (m : A8) : Zj9 K m = some m := by
 have key : ∀ (k n : Nat) (box : A8), n ≤ 8 → 8 < n + k → (∀ j : Fin 8, j.val < n → box j = m j) → I3 K m k n box = some (.go m) := by
  intro k
  induction k with
  | zero => intro n box h1 h2; omega
  | succ k ih =>
   intro n box h1 h2 hb
   rw [I3]
   by_cases hn : n < 8
   rw [if_pos (by omega)]
   refine ih (n + 1) _ (by omega) (by omega) (fun j hj => ?_)
   rw [Zf6 _ hn, T4 m hn]
   by_cases e : j.val = n
   rw [if_pos e]; congr 1; exact Fin.ext e.symm
   rw [if_neg e]; exact hb j (by omega)
   rw [if_neg (by omega)]
   congr 2
   funext j; exact hb j (by omega)
 have := key K 0 (fun _ => 0) (by omega) (by omega) (fun j hj => by omega)
 unfold Zj9
 replace this : I3 K m K 0 (fun _ => 0) = _ := this
 rw [this]; rfl
theorem Xb9 {α : Type} [Inhabited α] {xs ys : List α} {j : Nat} (hj : j < xs.length) (hl : ys.length = xs.length) (h : ys.take j = xs.take j) : (ys.set j (rd xs (j : Int))).take (j + 1) = xs.take (j + 1) := by
 rw [Xl5 (xs := ys.set j _) (by rw [List.length_set]; omega), Xl5 hj]
 congr 1
 rw [List.take_set_of_le (Nat.le_refl j), h]
 rw [Ze2 (by rw [List.length_set]; omega)]
 simp
theorem Wy2 (hK : 8 < K) {f : MpT} (hl : f.length < K) (hl2 : f.length ≤ 1099511627776) : Zr2 K f = some f := by
 have key : ∀ (k j : Nat) (out : MpT), f.length < j + k → j ≤ f.length → out.length = f.length → out.take j = f.take j → B1 K f k j out = some (.go f) := by
  intro k
  induction k with
  | zero => intro j out h1 h2; omega
  | succ k ih =>
   intro j out h1 h2 h3 h4
   rw [B1]
   by_cases hj : j < f.length
   have ht : Zt3 K ((rd f (j : Int)).1, (rd f (j : Int)).2) = some (rd f (j : Int)) := by
    unfold Zt3
    rw [Ve9 hK]; rfl
   rw [if_pos (by omega), ht, Option.bind_some, if_pos (by omega), Int.toNat_natCast]
   exact ih (j + 1) _ (by omega) (by omega) (by rw [List.length_set]; exact h3) (Xb9 hj h3 h4)
   rw [if_neg (by omega)]
   rw [List.take_of_length_le (by omega), List.take_of_length_le (by omega)] at h4
   rw [h4]
 have := key K 0 (List.replicate f.length ((fun _ => 0), 0)) (by omega) (by omega) (by simp) (by simp)
 unfold Zr2
 rw [if_pos (by omega), Int.toNat_natCast]
 replace this : B1 K f K 0 (List.replicate f.length ((fun _ => 0), 0)) = _ := this
 rw [this]; rfl
theorem Wz1 (hK : 8 < K) {fs : List MpT} (hl : fs.length < K) (hl2 : fs.length ≤ 1099511627776) (hf : ∀ f, f ∈ fs → f.length < K ∧ f.length ≤ 1099511627776) : Zq9 K fs = some fs := by
 have key : ∀ (k j : Nat) (out : List MpT), fs.length < j + k → j ≤ fs.length → out.length = fs.length → out.take j = fs.take j → B4 K fs k j out = some (.go fs) := by
  intro k
  induction k with
  | zero => intro j out h1 h2; omega
  | succ k ih =>
   intro j out h1 h2 h3 h4
   rw [B4]
   by_cases hj : j < fs.length
   have hff := hf _ (T9 hj)
   have ht : Zt9 K (rd fs (j : Int)) = some (rd fs (j : Int)) := by
    unfold Zt9
    rw [Wy2 hK hff.1 hff.2]; rfl
   rw [if_pos (by omega), ht, Option.bind_some, if_pos (by omega), Int.toNat_natCast]
   exact ih (j + 1) _ (by omega) (by omega) (by rw [List.length_set]; exact h3) (Xb9 hj h3 h4)
   rw [if_neg (by omega)]
   rw [List.take_of_length_le (by omega), List.take_of_length_le (by omega)] at h4
   rw [h4]
 have := key K 0 (List.replicate fs.length []) (by omega) (by omega) (by simp) (by simp)
 unfold Zq9
 rw [if_pos (by omega), Int.toNat_natCast]
 replace this : B4 K fs K 0 (List.replicate fs.length []) = _ := this
 rw [this]; rfl
theorem Vf5 {xs : List Int} (hl : xs.length < K) (hl2 : xs.length ≤ 1099511627776) : Zo5 K xs = some xs := by
 have key : ∀ (k j : Nat) (out : List Int), xs.length < j + k → j ≤ xs.length → out.length = xs.length → out.take j = xs.take j → E4 K xs k j out = some (.go xs) := by
  intro k
  induction k with
  | zero => intro j out h1 h2; omega
  | succ k ih =>
   intro j out h1 h2 h3 h4
   rw [E4]
   by_cases hj : j < xs.length
   rw [if_pos (by omega), if_pos (by omega), Int.toNat_natCast]
   exact ih (j + 1) _ (by omega) (by omega) (by rw [List.length_set]; exact h3) (Xb9 hj h3 h4)
   rw [if_neg (by omega)]
   rw [List.take_of_length_le (by omega), List.take_of_length_le (by omega)] at h4
   rw [h4]
 have := key K 0 (List.replicate xs.length 0) (by omega) (by omega) (by simp) (by simp)
 unfold Zo5
 rw [if_pos (by omega), Int.toNat_natCast]
 replace this : E4 K xs K 0 (List.replicate xs.length 0) = _ := this
 rw [this]; rfl
theorem Vi7 {a : A0} (hi : Inp K a) : Za4 K a = some a := by
 have h1 := hi.big; have h2 := hi.dl; have h3 := hi.il
 unfold Za4
 rw [Vf5 (by omega) (by omega), Option.bind_some, Wz1 (by omega) (by omega) (by omega) (fun f hf => by have := hi.fl f hf; omega)]; rfl
theorem Wj2 (k0 : Int) (m : Nat) (hK : m < K) (hK8 : 8 < K) (h0 : 0 ≤ k0 ∧ k0 + 9 * m ≤ 1000000000000000) : Zn2 K (mkT k0 m) k0 = some (k0 + 9 * m) := by
 have e : ∀ j : Nat, j < m → rd (mkT k0 m) (j : Int) = ((fun t : Fin 8 => IntKind.u8.wrap (k0 + 9 * j + t.val)), k0 + 9 * j + 8) := fun j hj => Wh6 (by simp [mkT, hj])
 have inner : ∀ (j : Nat), j < m → ∀ (k t : Nat), 8 < t + k → t ≤ 8 → G8 K (mkT k0 m) j k (k0 + 9 * j + t) t = some (.go (k0 + 9 * j + 8)) := by
  intro j hj k
  induction k with
  | zero => intro t h1 h2; omega
  | succ k ih =>
   intro t h1 h2
   rw [G8, e j hj]
   by_cases ht : t < 8
   rw [if_pos (by omega), T4 _ ht, if_pos rfl, IntWalk.i64_in _ (by omega), Int.add_assoc]
   exact ih (t + 1) (by omega) (by omega)
   rw [if_neg (by omega), show t = 8 by omega]; rfl
 have key : ∀ (k j : Nat), m < j + k → j ≤ m → K4 K (mkT k0 m) k (k0 + 9 * j) j = some (.go (k0 + 9 * m)) := by
  intro k
  induction k with
  | zero => intro j h1 h2; omega
  | succ k ih =>
   intro j h1 h2
   rw [K4, Yx8]
   by_cases hj : j < m
   have hin := inner j hj K 0 (by omega) (by omega)
   replace hin : G8 K (mkT k0 m) j K (k0 + 9 * j + 0) 0 = _ := hin
   rw [Int.add_zero] at hin
   rw [if_pos (by omega), hin, Option.bind_some]
   show (if (rd (mkT k0 m) (j : Int)).2 = k0 + 9 * j + 8 then K4 K (mkT k0 m) k (IntKind.i64.wrap (k0 + 9 * j + 8 + 1)) ((j : Int) + 1) else some (.ret (-1))) = _
   rw [e j hj, if_pos rfl, IntWalk.i64_in _ (by omega)]
   have := ih (j + 1) (by omega) (by omega)
   rw [show k0 + 9 * ((j + 1 : Nat) : Int) = k0 + 9 * j + 8 + 1 by omega] at this
   exact this
   rw [if_neg (by omega), show j = m by omega]
 have := key K 0 (by omega) (by omega)
 unfold Zn2
 replace this : K4 K (mkT k0 m) K (k0 + 9 * 0) 0 = _ := this
 rw [Int.mul_zero, Int.add_zero] at this
 rw [this]; rfl
theorem Wl5 (xs : List MpT) (k0 : Int) (hK8 : 8 < K) (hl : xs.length < K) (hf : ∀ f, f ∈ xs → f.length < K) (h0 : 0 ≤ k0 ∧ k0 + M6 xs ≤ 1000000000000000) : Zh2 K (Zz1 k0 xs) k0 = some (k0 + M6 xs) := by
 have key : ∀ (k j : Nat), xs.length < j + k → j ≤ xs.length → I9 K (Zz1 k0 xs) k (k0 + M6 (xs.take j)) j = some (.go (k0 + M6 xs)) := by
  intro k
  induction k with
  | zero => intro j h1 h2; omega
  | succ k ih =>
   intro j h1 h2
   rw [I9, Xa6]
   by_cases hj : j < xs.length
   have hx : xs[j]? = some xs[j] := List.getElem?_eq_getElem hj
   have e := Wh6 (Xe0 xs k0 j _ hx)
   have h3 := Ye2 (xs.take j)
   have h4 := Yv5 xs (j + 1)
   have h5 := Yh8 xs j _ hx
   have h6 := hf _ (List.getElem_mem hj)
   rw [if_pos (by omega), e, Wj2 _ _ h6 hK8 (by omega), Option.bind_some, if_neg (by omega)]
   have := ih (j + 1) (by omega) (by omega)
   rw [h5, ← Int.add_assoc] at this
   exact this
   rw [if_neg (by omega), List.take_of_length_le (by omega)]
 have := key K 0 (by omega) (by omega)
 unfold Zh2
 replace this : I9 K (Zz1 k0 xs) K (k0 + 0) 0 = _ := this
 rw [Int.add_zero] at this
 rw [this]; rfl
/-! sizes -/
theorem Wn0 {f : MpT} {l : Int} (hb : f.length ≤ 9223372036854775807) (hl : 0 ≤ l ∧ l ≤ 1048576) : Zt4 K f l = some (if l < f.length then -1 else l - f.length) := by
 unfold Zt4 Zy3
 rw [IntWalk.i64_in _ (by omega)]
 by_cases h : l < f.length
 rw [if_pos (by omega), if_pos h]; rfl
 rw [if_neg (by omega), if_neg h, Option.bind_some, if_neg (by omega)]
theorem Wz8 {fs : List MpT} (hb : ∀ f, f ∈ fs → f.length ≤ 9223372036854775807) : ∀ (k j : Nat) (l : Int), fs.length < j + k → j ≤ fs.length → 0 ≤ l ∧ l ≤ 1048576 →
 ∃ e r, B3 K fs k l j = some e ∧ Ex.elim (fun r => some r) (fun s => some s) e = some r ∧ (r < 0 ∨ (0 ≤ r ∧ M6 (fs.drop j) ≤ 9 * (l - r) ∧ ∀ f, f ∈ fs.drop j → (f.length : Int) ≤ l)) := by
 intro k
 induction k with
 | zero => intro j l h1 h2; omega
 | succ k ih =>
  intro j l h1 h2 hl
  rw [B3]
  by_cases hj : j < fs.length
  rw [if_pos (by omega), Wn0 (hb _ (T9 hj)) hl, Option.bind_some]
  by_cases h : l < (rd fs (j : Int)).length
  rw [if_pos h, if_pos (by decide)]; exact ⟨_, _, rfl, rfl, .inl (by decide)⟩
  rw [if_neg h, if_neg (by omega)]
  obtain ⟨e, r, h3, h4, h5⟩ := ih (j + 1) (l - (rd fs (j : Int)).length) (by omega) (by omega) (by omega)
  refine ⟨e, r, h3, h4, ?_⟩
  rcases h5 with h5 | ⟨h5, h6, h7⟩
  exact .inl h5
  rw [show fs.drop j = rd fs (j : Int) :: fs.drop (j + 1) by rw [Ze2 hj]; exact List.drop_eq_getElem_cons hj]
  refine .inr ⟨h5, by rw [M6]; omega, fun f hf => ?_⟩
  rcases List.mem_cons.1 hf with rfl | hf
  omega
  have := h7 f hf; omega
  rw [if_neg (by omega), List.drop_eq_nil_of_le (by omega)]
  exact ⟨_, _, rfl, rfl, .inr ⟨hl.1, by rw [M6]; omega, by simp⟩⟩
theorem Vc8 {a : A0} (hK : 1073741824 ≤ K) (h1 : a.1.length ≤ 9223372036854775807) (h2 : a.2.length ≤ 9223372036854775807) (h3 : ∀ f, f ∈ a.2 → f.length ≤ 9223372036854775807) :
 ∃ r, Zn3 K a 1048576 = some r ∧ (r < 0 ∨ (a.1.length ≤ 1048576 ∧ a.2.length ≤ 1048576 ∧ (∀ f, f ∈ a.2 → f.length ≤ 1048576) ∧ M6 a.2 ≤ 9437184)) := by
 unfold Zn3 Zv2 Zx7
 rw [IntWalk.i64_in (1048576 - (a.1.length : Int)) (by omega)]
 by_cases hd : a.1.length ≤ 1048576
 case neg => rw [if_pos (by omega)]; exact ⟨-1, rfl, .inl (by decide)⟩
 rw [if_neg (by omega), Option.bind_some, if_neg (by omega), IntWalk.i64_in _ (by omega)]
 by_cases hi : (a.1.length : Int) + a.2.length ≤ 1048576
 case neg => rw [if_pos (by omega)]; exact ⟨-1, rfl, .inl (by decide)⟩
 rw [if_neg (by omega)]
 obtain ⟨e, r, h4, h5, h6⟩ := Wz8 (K := K) h3 K 0 (1048576 - (a.1.length : Int) - (a.2.length : Int)) (by omega) (by omega) (by omega)
 replace h4 : B3 K a.2 K (1048576 - (a.1.length : Int) - (a.2.length : Int)) 0 = some e := h4
 rw [h4, Option.bind_some, h5, Option.bind_some]
 rcases h6 with h6 | ⟨h6, h7, h8⟩
 rw [if_pos h6]; exact ⟨-1, rfl, .inl (by decide)⟩
 rw [if_neg (by omega)]
 rw [List.drop_zero] at h7 h8
 exact ⟨r, rfl, .inr ⟨hd, by omega, fun f hf => by have := h8 f hf; omega, by omega⟩⟩
end
theorem Wu6 {K : Nat} {a : A0} {i : Int} (hK : 1099511627776 ≤ K) (h1 : a.1.length ≤ 9223372036854775807) (h2 : a.2.length ≤ 9223372036854775807) (h3 : ∀ f, f ∈ a.2 → f.length ≤ 9223372036854775807) (hb : ∀ f, f ∈ a.2 → Yd6 f) :
 Ze4 K a i = some true := by
 obtain ⟨r, hr, hs⟩ := Vc8 (K := K) (by omega) h1 h2 h3
 unfold Ze4
 rw [show (a.1, a.2) = a from rfl, hr, Option.bind_some]
 by_cases h0 : r < 0
 rw [if_pos h0]
 rw [if_neg h0]
 obtain ⟨s1, s2, s3, s4⟩ := hs.resolve_left h0
 have hi : Inp K a := ⟨by omega, s1, s2, s3, hb⟩
 have hS := Vh6 (n := i) hK hi
 have hI := Vi9 (n := i) hK hi
 obtain ⟨d1, d2⟩ : smF (dgR a i (clR a i)) := Vc6 hi fun h => h.cl
 generalize dgR a i (clR a i) = R at *
 have d4 := Xt6 d2
 have hcn := Ye2 a.2
 have hcr := Ye2 R.1
 have hca : Yf1 a ≤ 1000000000000 := by unfold Yf1; omega
 have hca0 : 0 ≤ Yf1 a := by unfold Yf1; omega
 have hto := Vi7 hi
 have heqi := Yx1 (K := K) (fs := R.1) (by omega) (by omega) (fun f hf => by have := d2 f hf; omega)
 have heqa := Wf5 (K := K) (x := a) (by omega) (by omega) (by omega) (fun f hf => by have := s3 f hf; omega)
 have hheldi := Wl5 (K := K) R.1 1 (by omega) (by omega) (fun f hf => by have := d2 f hf; omega) (by omega)
 have eA : (a.1, a.2) = a := rfl
 rw [hto, Option.bind_some, eA, hS, Option.bind_some, Option.bind_some, eA, hI, Option.bind_some, heqi, Option.bind_some, if_pos rfl, decide_eq_true rfl]
 unfold F8
 rw [if_neg (by decide), eA, hto, Option.bind_some, eA, heqa, Option.bind_some, if_pos rfl, if_pos (by omega), if_neg (by omega), heqi, Option.bind_some, if_pos rfl, decide_eq_true rfl]
 unfold L5
 rw [if_neg (by decide), if_pos (by omega), hheldi, Option.bind_some, if_neg (by omega), if_pos rfl, eA, hto, Option.bind_some, eA, hI, Option.bind_some, heqi, Option.bind_some, if_pos rfl, decide_eq_true rfl]
 unfold F7
 rw [if_neg (by decide), hheldi, Option.bind_some, if_neg (by omega), if_pos rfl]
end Go.Proofs.YtabofnehiclkiaaGreat
