/- Plain laws on the pure functions. -/
import Derived.Test.YtabofnehiclkiaaGreatQP4
import Derived.Test.YtabofnehiclkiaaGreatQL
namespace Go.Proofs.YtabofnehiclkiaaGreat
open Go
set_option linter.unusedSimpArgs false
set_option linter.unusedVariables false
section
variable {K : Nat} {a : Za1} {n : Int}
theorem Vf0 (h : Dg a n) : lv0 K a n = some (Q2 a.1 n) := Xi0 h.v.dg (by have := h.r; omega) h.l1
theorem Wv9 (h : Dg a n) : P7 K a.1 n = some (Q2 a.1 n) := Yq4 h.v.dg (by have := h.r; omega) h.l1
theorem Vd0 (hK : 1099511627776 ≤ K) (hD : Dg a n) : Zf2 K a n = some ((csR a n).map (Zd4 (Q2 a.1 n))) := by
 unfold Zf2
 rw [show (a.1, a.2) = a from rfl, Xz9 hK hD, Option.bind_some, Wv9 hD, Option.bind_some, Wn4 hK hD hD.cs]; rfl
theorem Vi6 (hK : 1099511627776 ≤ K) (hi : Inp K a) : Zj6 K a n = some (dgR a n (csR a n)) := by
 unfold Zj6 dgR
 rw [show (a.1, a.2) = a from rfl, Ww1 hK hi, Option.bind_some]
 by_cases h : cdR a n = 0
 have hD := Xu8 hi h
 rw [if_pos h, if_pos h, Vd0 hK hD]; rfl
 rw [if_neg h, if_neg h]
theorem Vj4 (hK : 1099511627776 ≤ K) (hi : Inp K a) : Zf7 K a n = some (dgR a n (csR a n)) := by
 unfold Zf7 dgR
 rw [Wm8 hK hi, Option.bind_some]
 by_cases h : cdR a n = 0
 have hD := Xu8 hi h
 rw [if_pos h, if_pos h, Wz9 hK hD, Option.bind_some, Vf0 hD, Option.bind_some, Wq0 hK hD hD.cs]
 rw [if_neg h, if_neg h]
def smF (r : List MpT × Int) : Prop := r.1.length ≤ 120 ∧ ∀ f, f ∈ r.1 → f.length ≤ 120
theorem Ve9 (hi : Inp K a) {R : List Vc} (hR : Dg a n → Rr (Q2 a.1 n).length R) : smF (dgR a n R) := by
 unfold dgR
 by_cases h : cdR a n = 0
 have hD := Xu8 hi h
 have l1 := hD.l1
 have hs := (hR hD).short
 rw [if_pos h]
 refine ⟨by rw [List.length_map]; omega, fun f hf => ?_⟩
 obtain ⟨r, _, rfl⟩ := List.mem_map.1 hf
 have := Xe7 (Q2 a.1 n) r
 omega
 rw [if_neg h]
 exact ⟨by simp, fun f hf => by cases hf⟩
theorem Xz1 : ∀ {fs : List MpT}, (∀ f, f ∈ fs → f.length ≤ 120) → M7 fs ≤ 1080 * fs.length
 | [], _ => by simp [M7]
 | f :: fs, h => by
  have h1 := h f (List.mem_cons_self ..)
  have h2 := Xz1 (fs := fs) (fun g hg => h g (List.mem_cons_of_mem _ hg))
  rw [M7, List.length_cons]; omega
end
section
variable {K : Nat}
/-! comparisons -/
theorem Xz6 (hK : 8 < K) (m : A8) : Zk0 K m m = some true := by
 unfold Zk0
 rw [Zc8 (g := ()) (fun k i => N0 K m m k i) 8 (fun _ => true) false (fun k n hn => ?_) (fun k n hn => ?_) hK]
 rw [if_pos (by simp)]; rfl
 show N0 K m m (k + 1) n = _
 rw [N0, if_pos (by omega), if_pos rfl]; rfl
 show N0 K m m (k + 1) n = _
 rw [N0, if_neg (by omega)]
theorem Xu9 (hK : 8 < K) {f : MpT} (hl : f.length < K) : Zs4 K f f = some true := by
 unfold Zs4
 rw [if_pos rfl, Zc8 (g := ()) (fun k i => K8 K f f k i) f.length (fun _ => true) false (fun k n hn => ?_) (fun k n hn => ?_) hl]
 rw [if_pos (by simp)]; rfl
 show K8 K f f (k + 1) n = _
 have h : Zu2 K ((rd f (n : Int)).1, (rd f (n : Int)).2) ((rd f (n : Int)).1, (rd f (n : Int)).2) = some true := by
  unfold Zu2
  rw [Xz6 hK]; simp
 rw [K8, if_pos (by omega), if_pos (by omega), h]; rfl
 show K8 K f f (k + 1) n = _
 rw [K8, if_neg (by omega)]
theorem Yx7 (hK : 8 < K) {fs : List MpT} (hl : fs.length < K) (hf : ∀ f, f ∈ fs → f.length < K) : Zd8 K fs fs = some true := by
 unfold Zd8
 rw [if_pos rfl, Zc8 (g := ()) (fun k i => K9 K fs fs k i) fs.length (fun _ => true) false (fun k n hn => ?_) (fun k n hn => ?_) hl]
 rw [if_pos (by simp)]; rfl
 show K9 K fs fs (k + 1) n = _
 have h : Zu1 K (rd fs (n : Int)) (rd fs (n : Int)) = some true := by
  unfold Zu1
  rw [Xu9 hK (hf _ (T9 hn))]; rfl
 rw [K9, if_pos (by omega), if_pos (by omega), h]; rfl
 show K9 K fs fs (k + 1) n = _
 rw [K9, if_neg (by omega)]
theorem Xz5 {xs : List Int} (hl : xs.length < K) : Zp4 K xs xs = some true := by
 unfold Zp4
 rw [if_pos rfl, Zc8 (g := ()) (fun k i => L0 K xs xs k i) xs.length (fun _ => true) false (fun k n hn => ?_) (fun k n hn => ?_) hl]
 rw [if_pos (by simp)]; rfl
 show L0 K xs xs (k + 1) n = _
 rw [L0, if_pos (by omega), if_pos (by omega), if_pos rfl]; rfl
 show L0 K xs xs (k + 1) n = _
 rw [L0, if_neg (by omega)]
theorem Wf7 (hK : 8 < K) {x : Za1} (h1 : x.1.length < K) (h2 : x.2.length < K) (h3 : ∀ f, f ∈ x.2 → f.length < K) : Zm3 K x x = some true := by
 unfold Zm3
 rw [Xz5 h1, Option.bind_some, if_pos rfl, Yx7 hK h2 h3]; rfl
/-! copies -/
theorem Vf5 (hK : 8 < K) (m : A8) : Zk7 K m = some m := by
 have key : ∀ (k n : Nat) (box : A8), n ≤ 8 → 8 < n + k → (∀ j : Fin 8, j.val < n → box j = m j) → J9 K m k n box = some (.go m) := by
  intro k
  induction k with
  | zero => intro n box h1 h2; omega
  | succ k ih =>
   intro n box h1 h2 hb
   rw [J9]
   by_cases hn : n < 8
   rw [if_pos (by omega)]
   refine ih (n + 1) _ (by omega) (by omega) (fun j hj => ?_)
   rw [Zf8 _ hn, T4 m hn]
   by_cases e : j.val = n
   rw [if_pos e]; congr 1; exact Fin.ext e.symm
   rw [if_neg e]; exact hb j (by omega)
   rw [if_neg (by omega)]
   congr 2
   funext j; exact hb j (by omega)
 have := key K 0 (fun _ => 0) (by omega) (by omega) (fun j hj => by omega)
 unfold Zk7
 replace this : J9 K m K 0 (fun _ => 0) = _ := this
 rw [this]; rfl
theorem Xe3 {α : Type} [Inhabited α] {xs ys : List α} {j : Nat} (hj : j < xs.length) (hl : ys.length = xs.length) (h : ys.take j = xs.take j) : (ys.set j (rd xs (j : Int))).take (j + 1) = xs.take (j + 1) := by
 rw [Xm0 (xs := ys.set j _) (by rw [List.length_set]; omega), Xm0 hj]
 congr 1
 rw [List.take_set_of_le (Nat.le_refl j), h]
 rw [Ze1 (by rw [List.length_set]; omega)]
 simp
theorem Wy7 (hK : 8 < K) {f : MpT} (hl : f.length < K) (hl2 : f.length ≤ 1099511627776) : Zr7 K f = some f := by
 have key : ∀ (k j : Nat) (out : MpT), f.length < j + k → j ≤ f.length → out.length = f.length → out.take j = f.take j → B6 K f k j out = some (.go f) := by
  intro k
  induction k with
  | zero => intro j out h1 h2; omega
  | succ k ih =>
   intro j out h1 h2 h3 h4
   rw [B6]
   by_cases hj : j < f.length
   have ht : Zu6 K ((rd f (j : Int)).1, (rd f (j : Int)).2) = some (rd f (j : Int)) := by
    unfold Zu6
    rw [Vf5 hK]; rfl
   rw [if_pos (by omega), ht, Option.bind_some, if_pos (by omega), Int.toNat_natCast]
   exact ih (j + 1) _ (by omega) (by omega) (by rw [List.length_set]; exact h3) (Xe3 hj h3 h4)
   rw [if_neg (by omega)]
   rw [List.take_of_length_le (by omega), List.take_of_length_le (by omega)] at h4
   rw [h4]
 have := key K 0 (List.replicate f.length ((fun _ => 0), 0)) (by omega) (by omega) (by simp) (by simp)
 unfold Zr7
 rw [if_pos (by omega), Int.toNat_natCast]
 replace this : B6 K f K 0 (List.replicate f.length ((fun _ => 0), 0)) = _ := this
 rw [this]; rfl
theorem Vd1 (hK : 8 < K) {fs : List MpT} (hl : fs.length < K) (hl2 : fs.length ≤ 1099511627776) (hf : ∀ f, f ∈ fs → f.length < K ∧ f.length ≤ 1099511627776) : Zs1 K fs = some fs := by
 have key : ∀ (k j : Nat) (out : List MpT), fs.length < j + k → j ≤ fs.length → out.length = fs.length → out.take j = fs.take j → B3 K fs k j out = some (.go fs) := by
  intro k
  induction k with
  | zero => intro j out h1 h2; omega
  | succ k ih =>
   intro j out h1 h2 h3 h4
   rw [B3]
   by_cases hj : j < fs.length
   have hff := hf _ (T9 hj)
   have ht : Zu5 K (rd fs (j : Int)) = some (rd fs (j : Int)) := by
    unfold Zu5
    rw [Wy7 hK hff.1 hff.2]; rfl
   rw [if_pos (by omega), ht, Option.bind_some, if_pos (by omega), Int.toNat_natCast]
   exact ih (j + 1) _ (by omega) (by omega) (by rw [List.length_set]; exact h3) (Xe3 hj h3 h4)
   rw [if_neg (by omega)]
   rw [List.take_of_length_le (by omega), List.take_of_length_le (by omega)] at h4
   rw [h4]
 have := key K 0 (List.replicate fs.length []) (by omega) (by omega) (by simp) (by simp)
 unfold Zs1
 rw [if_pos (by omega), Int.toNat_natCast]
 replace this : B3 K fs K 0 (List.replicate fs.length []) = _ := this
 rw [this]; rfl
theorem Vg6 {xs : List Int} (hl : xs.length < K) (hl2 : xs.length ≤ 1099511627776) : Zp3 K xs = some xs := by
 have key : ∀ (k j : Nat) (out : List Int), xs.length < j + k → j ≤ xs.length → out.length = xs.length → out.take j = xs.take j → E4 K xs k j out = some (.go xs) := by
  intro k
  induction k with
  | zero => intro j out h1 h2; omega
  | succ k ih =>
   intro j out h1 h2 h3 h4
   rw [E4]
   by_cases hj : j < xs.length
   rw [if_pos (by omega), if_pos (by omega), Int.toNat_natCast]
   exact ih (j + 1) _ (by omega) (by omega) (by rw [List.length_set]; exact h3) (Xe3 hj h3 h4)
   rw [if_neg (by omega)]
   rw [List.take_of_length_le (by omega), List.take_of_length_le (by omega)] at h4
   rw [h4]
 have := key K 0 (List.replicate xs.length 0) (by omega) (by omega) (by simp) (by simp)
 unfold Zp3
 rw [if_pos (by omega), Int.toNat_natCast]
 replace this : E4 K xs K 0 (List.replicate xs.length 0) = _ := this
 rw [this]; rfl
theorem Vj5 {a : Za1} (hi : Inp K a) : Za7 K a = some a := by
 have h1 := hi.big; have h2 := hi.dl; have h3 := hi.il
 unfold Za7
 rw [Vg6 (by omega) (by omega), Option.bind_some, Vd1 (by omega) (by omega) (by omega) (fun f hf => by have := hi.fl f hf; omega)]; rfl
theorem Wp4 (k0 : Int) (m : Nat) (hK : m < K) (hK8 : 8 < K) (h0 : 0 ≤ k0 ∧ k0 + 9 * m ≤ 1000000000000000) : Zn4 K (mkT k0 m) k0 = some (k0 + 9 * m) := by
 have e : ∀ j : Nat, j < m → rd (mkT k0 m) (j : Int) = ((fun t : Fin 8 => IntKind.u8.wrap (k0 + 9 * j + t.val)), k0 + 9 * j + 8) := fun j hj => Wi9 (by simp [mkT, hj])
 have inner : ∀ (j : Nat), j < m → ∀ (k t : Nat), 8 < t + k → t ≤ 8 → G8 K (mkT k0 m) j k (k0 + 9 * j + t) t = some (.go (k0 + 9 * j + 8)) := by
  intro j hj k
  induction k with
  | zero => intro t h1 h2; omega
  | succ k ih =>
   intro t h1 h2
   rw [G8, e j hj]
   by_cases ht : t < 8
   rw [if_pos (by omega), T4 _ ht, if_pos rfl, IntWalk.i64_in _ (by omega), Int.add_assoc]
   exact ih (t + 1) (by omega) (by omega)
   rw [if_neg (by omega), show t = 8 by omega]; rfl
 have key : ∀ (k j : Nat), m < j + k → j ≤ m → L8 K (mkT k0 m) k (k0 + 9 * j) j = some (.go (k0 + 9 * m)) := by
  intro k
  induction k with
  | zero => intro j h1 h2; omega
  | succ k ih =>
   intro j h1 h2
   rw [L8, Yy2]
   by_cases hj : j < m
   have hin := inner j hj K 0 (by omega) (by omega)
   replace hin : G8 K (mkT k0 m) j K (k0 + 9 * j + 0) 0 = _ := hin
   rw [Int.add_zero] at hin
   rw [if_pos (by omega), hin, Option.bind_some]
   show (if (rd (mkT k0 m) (j : Int)).2 = k0 + 9 * j + 8 then L8 K (mkT k0 m) k (IntKind.i64.wrap (k0 + 9 * j + 8 + 1)) ((j : Int) + 1) else some (.ret (-1))) = _
   rw [e j hj, if_pos rfl, IntWalk.i64_in _ (by omega)]
   have := ih (j + 1) (by omega) (by omega)
   rw [show k0 + 9 * ((j + 1 : Nat) : Int) = k0 + 9 * j + 8 + 1 by omega] at this
   exact this
   rw [if_neg (by omega), show j = m by omega]
 have := key K 0 (by omega) (by omega)
 unfold Zn4
 replace this : L8 K (mkT k0 m) K (k0 + 9 * 0) 0 = _ := this
 rw [Int.mul_zero, Int.add_zero] at this
 rw [this]; rfl
theorem Wn7 (xs : List MpT) (k0 : Int) (hK8 : 8 < K) (hl : xs.length < K) (hf : ∀ f, f ∈ xs → f.length < K) (h0 : 0 ≤ k0 ∧ k0 + M7 xs ≤ 1000000000000000) : Zh9 K (Ya1 k0 xs) k0 = some (k0 + M7 xs) := by
 have key : ∀ (k j : Nat), xs.length < j + k → j ≤ xs.length → I9 K (Ya1 k0 xs) k (k0 + M7 (xs.take j)) j = some (.go (k0 + M7 xs)) := by
  intro k
  induction k with
  | zero => intro j h1 h2; omega
  | succ k ih =>
   intro j h1 h2
   rw [I9, Xc5]
   by_cases hj : j < xs.length
   have hx : xs[j]? = some xs[j] := List.getElem?_eq_getElem hj
   have e := Wi9 (Xe1 xs k0 j _ hx)
   have h3 := Yd9 (xs.take j)
   have h4 := Yv5 xs (j + 1)
   have h5 := Yi7 xs j _ hx
   have h6 := hf _ (List.getElem_mem hj)
   rw [if_pos (by omega), e, Wp4 _ _ h6 hK8 (by omega), Option.bind_some, if_neg (by omega)]
   have := ih (j + 1) (by omega) (by omega)
   rw [h5, ← Int.add_assoc] at this
   exact this
   rw [if_neg (by omega), List.take_of_length_le (by omega)]
 have := key K 0 (by omega) (by omega)
 unfold Zh9
 replace this : I9 K (Ya1 k0 xs) K (k0 + 0) 0 = _ := this
 rw [Int.add_zero] at this
 rw [this]; rfl
/-! sizes -/
theorem Wp1 {f : MpT} {l : Int} (hb : f.length ≤ 9223372036854775807) (hl : 0 ≤ l ∧ l ≤ 1048576) : Zu0 K f l = some (if l < f.length then -1 else l - f.length) := by
 unfold Zu0 Zx9
 rw [IntWalk.i64_in _ (by omega)]
 by_cases h : l < f.length
 rw [if_pos (by omega), if_pos h]; rfl
 rw [if_neg (by omega), if_neg h, Option.bind_some, if_neg (by omega)]
theorem Wz6 {fs : List MpT} (hb : ∀ f, f ∈ fs → f.length ≤ 9223372036854775807) : ∀ (k j : Nat) (l : Int), fs.length < j + k → j ≤ fs.length → 0 ≤ l ∧ l ≤ 1048576 →
 ∃ e r, B1 K fs k l j = some e ∧ Ex.elim (fun r => some r) (fun s => some s) e = some r ∧ (r < 0 ∨ (0 ≤ r ∧ M7 (fs.drop j) ≤ 9 * (l - r) ∧ ∀ f, f ∈ fs.drop j → (f.length : Int) ≤ l)) := by
 intro k
 induction k with
 | zero => intro j l h1 h2; omega
 | succ k ih =>
  intro j l h1 h2 hl
  rw [B1]
  by_cases hj : j < fs.length
  rw [if_pos (by omega), Wp1 (hb _ (T9 hj)) hl, Option.bind_some]
  by_cases h : l < (rd fs (j : Int)).length
  rw [if_pos h, if_pos (by decide)]; exact ⟨_, _, rfl, rfl, .inl (by decide)⟩
  rw [if_neg h, if_neg (by omega)]
  obtain ⟨e, r, h3, h4, h5⟩ := ih (j + 1) (l - (rd fs (j : Int)).length) (by omega) (by omega) (by omega)
  refine ⟨e, r, h3, h4, ?_⟩
  rcases h5 with h5 | ⟨h5, h6, h7⟩
  exact .inl h5
  rw [show fs.drop j = rd fs (j : Int) :: fs.drop (j + 1) by rw [Ze1 hj]; exact List.drop_eq_getElem_cons hj]
  refine .inr ⟨h5, by rw [M7]; omega, fun f hf => ?_⟩
  rcases List.mem_cons.1 hf with rfl | hf
  omega
  have := h7 f hf; omega
  rw [if_neg (by omega), List.drop_eq_nil_of_le (by omega)]
  exact ⟨_, _, rfl, rfl, .inr ⟨hl.1, by rw [M7]; omega, by simp⟩⟩
theorem Vf7 {a : Za1} (hK : 1073741824 ≤ K) (h1 : a.1.length ≤ 9223372036854775807) (h2 : a.2.length ≤ 9223372036854775807) (h3 : ∀ f, f ∈ a.2 → f.length ≤ 9223372036854775807) :
 ∃ r, Zm6 K a 1048576 = some r ∧ (r < 0 ∨ (a.1.length ≤ 1048576 ∧ a.2.length ≤ 1048576 ∧ (∀ f, f ∈ a.2 → f.length ≤ 1048576) ∧ M7 a.2 ≤ 9437184)) := by
 unfold Zm6 Zw0 Zz2
 rw [IntWalk.i64_in (1048576 - (a.1.length : Int)) (by omega)]
 by_cases hd : a.1.length ≤ 1048576
 case neg => rw [if_pos (by omega)]; exact ⟨-1, rfl, .inl (by decide)⟩
 rw [if_neg (by omega), Option.bind_some, if_neg (by omega), IntWalk.i64_in _ (by omega)]
 by_cases hi : (a.1.length : Int) + a.2.length ≤ 1048576
 case neg => rw [if_pos (by omega)]; exact ⟨-1, rfl, .inl (by decide)⟩
 rw [if_neg (by omega)]
 obtain ⟨e, r, h4, h5, h6⟩ := Wz6 (K := K) h3 K 0 (1048576 - (a.1.length : Int) - (a.2.length : Int)) (by omega) (by omega) (by omega)
 replace h4 : B1 K a.2 K (1048576 - (a.1.length : Int) - (a.2.length : Int)) 0 = some e := h4
 rw [h4, Option.bind_some, h5, Option.bind_some]
 rcases h6 with h6 | ⟨h6, h7, h8⟩
 rw [if_pos h6]; exact ⟨-1, rfl, .inl (by decide)⟩
 rw [if_neg (by omega)]
 rw [List.drop_zero] at h7 h8
 exact ⟨r, rfl, .inr ⟨hd, by omega, fun f hf => by have := h8 f hf; omega, by omega⟩⟩
end
theorem Wu9 {K : Nat} {a : Za1} {i : Int} (hK : 1099511627776 ≤ K) (h1 : a.1.length ≤ 9223372036854775807) (h2 : a.2.length ≤ 9223372036854775807) (h3 : ∀ f, f ∈ a.2 → f.length ≤ 9223372036854775807) (hb : ∀ f, f ∈ a.2 → Yf7 f) :
 Zf4 K a i = some true := by
 obtain ⟨r, hr, hs⟩ := Vf7 (K := K) (by omega) h1 h2 h3
 unfold Zf4
 rw [show (a.1, a.2) = a from rfl, hr, Option.bind_some]
 by_cases h0 : r < 0
 rw [if_pos h0]
 rw [if_neg h0]
 obtain ⟨s1, s2, s3, s4⟩ := hs.resolve_left h0
 have hi : Inp K a := ⟨by omega, s1, s2, s3, hb⟩
 have hS := Vi6 (n := i) hK hi
 have hI := Vj4 (n := i) hK hi
 obtain ⟨d1, d2⟩ : smF (dgR a i (csR a i)) := Ve9 hi fun h => h.cs
 generalize dgR a i (csR a i) = R at *
 have d4 := Xz1 d2
 have hcn := Yd9 a.2
 have hcr := Yd9 R.1
 have hca : Ye2 a ≤ 1000000000000 := by unfold Ye2; omega
 have hca0 : 0 ≤ Ye2 a := by unfold Ye2; omega
 have hto := Vj5 hi
 have heqi := Yx7 (K := K) (fs := R.1) (by omega) (by omega) (fun f hf => by have := d2 f hf; omega)
 have heqa := Wf7 (K := K) (x := a) (by omega) (by omega) (by omega) (fun f hf => by have := s3 f hf; omega)
 have hheldi := Wn7 (K := K) R.1 1 (by omega) (by omega) (fun f hf => by have := d2 f hf; omega) (by omega)
 have eA : (a.1, a.2) = a := rfl
 rw [hto, Option.bind_some, eA, hS, Option.bind_some, Option.bind_some, eA, hI, Option.bind_some, heqi, Option.bind_some, if_pos rfl, decide_eq_true rfl]
 unfold E1
 rw [if_neg (by decide), eA, hto, Option.bind_some, eA, heqa, Option.bind_some, if_pos rfl, if_pos (by omega), if_neg (by omega), heqi, Option.bind_some, if_pos rfl, decide_eq_true rfl]
 unfold K7
 rw [if_neg (by decide), if_pos (by omega), hheldi, Option.bind_some, if_neg (by omega), if_pos rfl, eA, hto, Option.bind_some, eA, hI, Option.bind_some, heqi, Option.bind_some, if_pos rfl, decide_eq_true rfl]
 unfold E9
 rw [if_neg (by decide), hheldi, Option.bind_some, if_neg (by omega), if_pos rfl]
end Go.Proofs.YtabofnehiclkiaaGreat
