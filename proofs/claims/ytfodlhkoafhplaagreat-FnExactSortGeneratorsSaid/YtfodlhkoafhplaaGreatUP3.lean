/- Plain laws on the pure functions. -/
import Derived.Test.YtfodlhkoafhplaaGreatUP2
import Derived.Test.YtfodlhkoafhplaaGreatUL
import Derived.Test.YtfodlhkoafhplaaGreatUF16
import Derived.Test.YtfodlhkoafhplaaGreatUF18
import Derived.Test.YtfodlhkoafhplaaGreatUF17
import Derived.Test.YtfodlhkoafhplaaGreatUF19
namespace Go.Proofs.YtfodlhkoafhplaaGreat
open Go
set_option linter.unusedSimpArgs false
set_option linter.unusedVariables false
section
variable {K : Nat}
/-! comparisons -/
theorem Xh5 (hK : 8 < K) (m : A8) : Zf6 K m m = some true := by
 unfold Zf6
 rw [B5 (g := ()) (fun k i => P5 K m m k i) 8 (fun _ => true) false (fun k n hn => ?_) (fun k n hn => ?_) hK]
 rw [if_pos (by simp)]; rfl
 show P5 K m m (k + 1) n = _
 rw [P5, if_pos (by omega), if_pos rfl]; rfl
 show P5 K m m (k + 1) n = _
 rw [P5, if_neg (by omega)]
theorem Yz8 (hK : 8 < K) {f : MpT} (hl : f.length < K) : Zl8 K f f = some true := by
 unfold Zl8
 rw [if_pos rfl, B5 (g := ()) (fun k i => K2 K f f k i) f.length (fun _ => true) false (fun k n hn => ?_) (fun k n hn => ?_) hl]
 rw [if_pos (by simp)]; rfl
 show K2 K f f (k + 1) n = _
 have h : Zm6 K ((rd f (n : Int)).1, (rd f (n : Int)).2) ((rd f (n : Int)).1, (rd f (n : Int)).2) = some true := by
  unfold Zm6
  rw [Xh5 hK]; simp
 rw [K2, if_pos (by omega), if_pos (by omega), h]; rfl
 show K2 K f f (k + 1) n = _
 rw [K2, if_neg (by omega)]
theorem Xa7 (hK : 8 < K) {fs : List MpT} (hl : fs.length < K) (hf : ∀ f, f ∈ fs → f.length < K) : Zl6 K fs fs = some true := by
 unfold Zl6
 rw [if_pos rfl, B5 (g := ()) (fun k i => K3 K fs fs k i) fs.length (fun _ => true) false (fun k n hn => ?_) (fun k n hn => ?_) hl]
 rw [if_pos (by simp)]; rfl
 show K3 K fs fs (k + 1) n = _
 have h : Zm7 K (rd fs (n : Int)) (rd fs (n : Int)) = some true := by
  unfold Zm7
  rw [Yz8 hK (hf _ (U7 hn))]; rfl
 rw [K3, if_pos (by omega), if_pos (by omega), h]; rfl
 show K3 K fs fs (k + 1) n = _
 rw [K3, if_neg (by omega)]
theorem Yn3 {xs : List Int} (hl : xs.length < K) : Za1 K xs xs = some true := by
 unfold Za1
 rw [if_pos rfl, B5 (g := ()) (fun k i => M4 K xs xs k i) xs.length (fun _ => true) false (fun k n hn => ?_) (fun k n hn => ?_) hl]
 rw [if_pos (by simp)]; rfl
 show M4 K xs xs (k + 1) n = _
 rw [M4, if_pos (by omega), if_pos (by omega), if_pos rfl]; rfl
 show M4 K xs xs (k + 1) n = _
 rw [M4, if_neg (by omega)]
theorem Yr0 (hK : 8 < K) {x : F4} (h1 : x.1.length < K) (h2 : x.2.length < K) (h3 : ∀ f, f ∈ x.2 → f.length < K) : C9 K x x = some true := by
 unfold C9
 rw [Yn3 h1, Option.bind_some, if_pos rfl, Xa7 hK h2 h3]; rfl
/-! copies -/
theorem Wf6 (hK : 8 < K) (m : A8) : Zf5 K m = some m := by
 have key : ∀ (k n : Nat) (box : A8), n ≤ 8 → 8 < n + k → (∀ j : Fin 8, j.val < n → box j = m j) → J5 K m k n box = some (.go m) := by
  intro k
  induction k with
  | zero => intro n box h1 h2; omega
  | succ k ih =>
   intro n box h1 h2 hb
   rw [J5]
   by_cases hn : n < 8
   rw [if_pos (by omega)]
   refine ih (n + 1) _ (by omega) (by omega) (fun j hj => ?_)
   rw [B8 _ hn, R1 m hn]
   by_cases e : j.val = n
   rw [if_pos e]; congr 1; exact Fin.ext e.symm
   rw [if_neg e]; exact hb j (by omega)
   rw [if_neg (by omega)]
   congr 2
   funext j; exact hb j (by omega)
 have := key K 0 (fun _ => 0) (by omega) (by omega) (fun j hj => by omega)
 unfold Zf5
 replace this : J5 K m K 0 (fun _ => 0) = _ := this
 rw [this]; rfl
theorem Yp2 {α : Type} [Inhabited α] {xs ys : List α} {j : Nat} (hj : j < xs.length) (hl : ys.length = xs.length) (h : ys.take j = xs.take j) : (ys.set j (rd xs (j : Int))).take (j + 1) = xs.take (j + 1) := by
 rw [Yl9 (xs := ys.set j _) (by rw [List.length_set]; omega), Yl9 hj]
 congr 1
 rw [List.take_set_of_le (Nat.le_refl j), h]
 rw [Zb3 (by rw [List.length_set]; omega)]
 simp
theorem Xy4 (hK : 8 < K) {f : MpT} (hl : f.length < K) (hl2 : f.length ≤ 1099511627776) : Zk7 K f = some f := by
 have key : ∀ (k j : Nat) (out : MpT), f.length < j + k → j ≤ f.length → out.length = f.length → out.take j = f.take j → D2 K f k j out = some (.go f) := by
  intro k
  induction k with
  | zero => intro j out h1 h2; omega
  | succ k ih =>
   intro j out h1 h2 h3 h4
   rw [D2]
   by_cases hj : j < f.length
   have ht : Zm9 K ((rd f (j : Int)).1, (rd f (j : Int)).2) = some (rd f (j : Int)) := by
    unfold Zm9
    rw [Wf6 hK]; rfl
   rw [if_pos (by omega), ht, Option.bind_some, if_pos (by omega), Int.toNat_natCast]
   exact ih (j + 1) _ (by omega) (by omega) (by rw [List.length_set]; exact h3) (Yp2 hj h3 h4)
   rw [if_neg (by omega)]
   rw [List.take_of_length_le (by omega), List.take_of_length_le (by omega)] at h4
   rw [h4]
 have := key K 0 (List.replicate f.length ((fun _ => 0), 0)) (by omega) (by omega) (by simp) (by simp)
 unfold Zk7
 rw [if_pos (by omega), Int.toNat_natCast]
 replace this : D2 K f K 0 (List.replicate f.length ((fun _ => 0), 0)) = _ := this
 rw [this]; rfl
theorem Wa0 (hK : 8 < K) {fs : List MpT} (hl : fs.length < K) (hl2 : fs.length ≤ 1099511627776) (hf : ∀ f, f ∈ fs → f.length < K ∧ f.length ≤ 1099511627776) : Zk8 K fs = some fs := by
 have key : ∀ (k j : Nat) (out : List MpT), fs.length < j + k → j ≤ fs.length → out.length = fs.length → out.take j = fs.take j → D3 K fs k j out = some (.go fs) := by
  intro k
  induction k with
  | zero => intro j out h1 h2; omega
  | succ k ih =>
   intro j out h1 h2 h3 h4
   rw [D3]
   by_cases hj : j < fs.length
   have hff := hf _ (U7 hj)
   have ht : Zm8 K (rd fs (j : Int)) = some (rd fs (j : Int)) := by
    unfold Zm8
    rw [Xy4 hK hff.1 hff.2]; rfl
   rw [if_pos (by omega), ht, Option.bind_some, if_pos (by omega), Int.toNat_natCast]
   exact ih (j + 1) _ (by omega) (by omega) (by rw [List.length_set]; exact h3) (Yp2 hj h3 h4)
   rw [if_neg (by omega)]
   rw [List.take_of_length_le (by omega), List.take_of_length_le (by omega)] at h4
   rw [h4]
 have := key K 0 (List.replicate fs.length []) (by omega) (by omega) (by simp) (by simp)
 unfold Zk8
 rw [if_pos (by omega), Int.toNat_natCast]
 replace this : D3 K fs K 0 (List.replicate fs.length []) = _ := this
 rw [this]; rfl
theorem Wd3 {xs : List Int} (hl : xs.length < K) (hl2 : xs.length ≤ 1099511627776) : Zj8 K xs = some xs := by
 have key : ∀ (k j : Nat) (out : List Int), xs.length < j + k → j ≤ xs.length → out.length = xs.length → out.take j = xs.take j → G6 K xs k j out = some (.go xs) := by
  intro k
  induction k with
  | zero => intro j out h1 h2; omega
  | succ k ih =>
   intro j out h1 h2 h3 h4
   rw [G6]
   by_cases hj : j < xs.length
   rw [if_pos (by omega), if_pos (by omega), Int.toNat_natCast]
   exact ih (j + 1) _ (by omega) (by omega) (by rw [List.length_set]; exact h3) (Yp2 hj h3 h4)
   rw [if_neg (by omega)]
   rw [List.take_of_length_le (by omega), List.take_of_length_le (by omega)] at h4
   rw [h4]
 have := key K 0 (List.replicate xs.length 0) (by omega) (by omega) (by simp) (by simp)
 unfold Zj8
 rw [if_pos (by omega), Int.toNat_natCast]
 replace this : G6 K xs K 0 (List.replicate xs.length 0) = _ := this
 rw [this]; rfl
theorem Wh8 {a : F4} (hi : Inp K a) : B2 K a = some a := by
 have h1 := hi.big; have h2 := hi.dl; have h3 := hi.il
 unfold B2
 rw [Wd3 (by omega) (by omega), Option.bind_some, Wa0 (by omega) (by omega) (by omega) (fun f hf => by have := hi.fl f hf; omega)]; rfl
/-! marks are there -/
theorem Xf7 (k0 : Int) (m : Nat) (hK : m < K) (h0 : 0 ≤ k0 ∧ k0 + m ≤ 1000000000000000) : A0 K (mkI k0 m) k0 = some (k0 + m) := by
 have key : ∀ (k j : Nat), m < j + k → j ≤ m → J0 K (mkI k0 m) k (k0 + j) j = some (.go (k0 + m)) := by
  intro k
  induction k with
  | zero => intro j h1 h2; omega
  | succ k ih =>
   intro j h1 h2
   rw [J0, Yl3]
   by_cases hj : j < m
   have e : rd (mkI k0 m) (j : Int) = k0 + j := Yb2 (by simp [mkI, hj])
   rw [if_pos (by omega), if_pos e, IntWalk.i64_in _ (by omega), Int.add_assoc]
   exact ih (j + 1) (by omega) (by omega)
   rw [if_neg (by omega), show j = m by omega]
 have := key K 0 (by omega) (by omega)
 unfold A0
 replace this : J0 K (mkI k0 m) K (k0 + 0) 0 = _ := this
 rw [Int.add_zero] at this
 rw [this]; rfl
theorem Xo7 (k0 : Int) (m : Nat) (hK : m < K) (hK8 : 8 < K) (h0 : 0 ≤ k0 ∧ k0 + 9 * m ≤ 1000000000000000) : Zh3 K (mkT k0 m) k0 = some (k0 + 9 * m) := by
 have e : ∀ j : Nat, j < m → rd (mkT k0 m) (j : Int) = ((fun t : Fin 8 => IntKind.u8.wrap (k0 + 9 * j + t.val)), k0 + 9 * j + 8) := fun j hj => Yb2 (by simp [mkT, hj])
 have inner : ∀ (j : Nat), j < m → ∀ (k t : Nat), 8 < t + k → t ≤ 8 → I2 K (mkT k0 m) j k (k0 + 9 * j + t) t = some (.go (k0 + 9 * j + 8)) := by
  intro j hj k
  induction k with
  | zero => intro t h1 h2; omega
  | succ k ih =>
   intro t h1 h2
   rw [I2, e j hj]
   by_cases ht : t < 8
   rw [if_pos (by omega), R1 _ ht, if_pos rfl, IntWalk.i64_in _ (by omega), Int.add_assoc]
   exact ih (t + 1) (by omega) (by omega)
   rw [if_neg (by omega), show t = 8 by omega]; rfl
 have key : ∀ (k j : Nat), m < j + k → j ≤ m → L4 K (mkT k0 m) k (k0 + 9 * j) j = some (.go (k0 + 9 * m)) := by
  intro k
  induction k with
  | zero => intro j h1 h2; omega
  | succ k ih =>
   intro j h1 h2
   rw [L4, Yl0]
   by_cases hj : j < m
   have hin := inner j hj K 0 (by omega) (by omega)
   replace hin : I2 K (mkT k0 m) j K (k0 + 9 * j + 0) 0 = _ := hin
   rw [Int.add_zero] at hin
   rw [if_pos (by omega), hin, Option.bind_some]
   show (if (rd (mkT k0 m) (j : Int)).2 = k0 + 9 * j + 8 then L4 K (mkT k0 m) k (IntKind.i64.wrap (k0 + 9 * j + 8 + 1)) ((j : Int) + 1) else some (.ret (-1))) = _
   rw [e j hj, if_pos rfl, IntWalk.i64_in _ (by omega)]
   have := ih (j + 1) (by omega) (by omega)
   rw [show k0 + 9 * ((j + 1 : Nat) : Int) = k0 + 9 * j + 8 + 1 by omega] at this
   exact this
   rw [if_neg (by omega), show j = m by omega]
 have := key K 0 (by omega) (by omega)
 unfold Zh3
 replace this : L4 K (mkT k0 m) K (k0 + 9 * 0) 0 = _ := this
 rw [Int.mul_zero, Int.add_zero] at this
 rw [this]; rfl
theorem Xr1 (xs : List MpT) (k0 : Int) (hK8 : 8 < K) (hl : xs.length < K) (hf : ∀ f, f ∈ xs → f.length < K) (h0 : 0 ≤ k0 ∧ k0 + I8 xs ≤ 1000000000000000) : Zg8 K (Zu0 k0 xs) k0 = some (k0 + I8 xs) := by
 have key : ∀ (k j : Nat), xs.length < j + k → j ≤ xs.length → I0 K (Zu0 k0 xs) k (k0 + I8 (xs.take j)) j = some (.go (k0 + I8 xs)) := by
  intro k
  induction k with
  | zero => intro j h1 h2; omega
  | succ k ih =>
   intro j h1 h2
   rw [I0, Yp4]
   by_cases hj : j < xs.length
   have hx : xs[j]? = some xs[j] := List.getElem?_eq_getElem hj
   have e := Yb2 (Yo2 xs k0 j _ hx)
   have h3 := Zr9 (xs.take j)
   have h4 := Yj8 xs (j + 1)
   have h5 := Zx7 xs j _ hx
   have h6 := hf _ (List.getElem_mem hj)
   rw [if_pos (by omega), e, Xo7 _ _ h6 hK8 (by omega), Option.bind_some, if_neg (by omega)]
   have := ih (j + 1) (by omega) (by omega)
   rw [h5, ← Int.add_assoc] at this
   exact this
   rw [if_neg (by omega), List.take_of_length_le (by omega)]
 have := key K 0 (by omega) (by omega)
 unfold Zg8
 replace this : I0 K (Zu0 k0 xs) K (k0 + 0) 0 = _ := this
 rw [Int.add_zero] at this
 rw [this]; rfl
theorem Xy3 {x : F4} (hK8 : 8 < K) (h1 : x.1.length < K) (h2 : x.2.length < K) (h3 : ∀ f, f ∈ x.2 → f.length < K) (hb : G3 x ≤ 1000000000000) : Zb0 K (mkA x 1) 1 = some (1 + G3 x) := by
 have hn := Zr9 x.2
 unfold G3 at hb ⊢
 unfold Zb0 mkA
 rw [Xf7 _ _ h1 (by omega), Option.bind_some, if_neg (by omega), Xr1 _ _ hK8 h2 h3 (by omega), Option.bind_some, if_neg (by omega), Int.add_assoc]
/-! sizes -/
theorem Xq8 {f : MpT} {l : Int} (hb : f.length ≤ 9223372036854775807) (hl : 0 ≤ l ∧ l ≤ 1048576) : Zn0 K f l = some (if l < f.length then -1 else l - f.length) := by
 unfold Zn0 Zp9
 rw [IntWalk.i64_in _ (by omega)]
 by_cases h : l < f.length
 rw [if_pos (by omega), if_pos h]; rfl
 rw [if_neg (by omega), if_neg h, Option.bind_some, if_neg (by omega)]
theorem Xy7 {fs : List MpT} (hb : ∀ f, f ∈ fs → f.length ≤ 9223372036854775807) : ∀ (k j : Nat) (l : Int), fs.length < j + k → j ≤ fs.length → 0 ≤ l ∧ l ≤ 1048576 →
 ∃ e r, D0 K fs k l j = some e ∧ Ex.elim (fun r => some r) (fun s => some s) e = some r ∧ (r < 0 ∨ (0 ≤ r ∧ I8 (fs.drop j) ≤ 9 * (l - r) ∧ ∀ f, f ∈ fs.drop j → (f.length : Int) ≤ l)) := by
 intro k
 induction k with
 | zero => intro j l h1 h2; omega
 | succ k ih =>
  intro j l h1 h2 hl
  rw [D0]
  by_cases hj : j < fs.length
  rw [if_pos (by omega), Xq8 (hb _ (U7 hj)) hl, Option.bind_some]
  by_cases h : l < (rd fs (j : Int)).length
  rw [if_pos h, if_pos (by decide)]; exact ⟨_, _, rfl, rfl, .inl (by decide)⟩
  rw [if_neg h, if_neg (by omega)]
  obtain ⟨e, r, h3, h4, h5⟩ := ih (j + 1) (l - (rd fs (j : Int)).length) (by omega) (by omega) (by omega)
  refine ⟨e, r, h3, h4, ?_⟩
  rcases h5 with h5 | ⟨h5, h6, h7⟩
  exact .inl h5
  rw [show fs.drop j = rd fs (j : Int) :: fs.drop (j + 1) by rw [Zb3 hj]; exact List.drop_eq_getElem_cons hj]
  refine .inr ⟨h5, by rw [I8]; omega, fun f hf => ?_⟩
  rcases List.mem_cons.1 hf with rfl | hf
  omega
  have := h7 f hf; omega
  rw [if_neg (by omega), List.drop_eq_nil_of_le (by omega)]
  exact ⟨_, _, rfl, rfl, .inr ⟨hl.1, by rw [I8]; omega, by simp⟩⟩
theorem We5 {a : F4} (hK : 1073741824 ≤ K) (h1 : a.1.length ≤ 9223372036854775807) (h2 : a.2.length ≤ 9223372036854775807) (h3 : ∀ f, f ∈ a.2 → f.length ≤ 9223372036854775807) :
 ∃ r, Zh7 K a 1048576 = some r ∧ (r < 0 ∨ (a.1.length ≤ 1048576 ∧ a.2.length ≤ 1048576 ∧ (∀ f, f ∈ a.2 → f.length ≤ 1048576) ∧ I8 a.2 ≤ 9437184)) := by
 unfold Zh7 Zn8 Zp4
 rw [IntWalk.i64_in (1048576 - (a.1.length : Int)) (by omega)]
 by_cases hd : a.1.length ≤ 1048576
 case neg => rw [if_pos (by omega)]; exact ⟨-1, rfl, .inl (by decide)⟩
 rw [if_neg (by omega), Option.bind_some, if_neg (by omega), IntWalk.i64_in _ (by omega)]
 by_cases hi : (a.1.length : Int) + a.2.length ≤ 1048576
 case neg => rw [if_pos (by omega)]; exact ⟨-1, rfl, .inl (by decide)⟩
 rw [if_neg (by omega)]
 obtain ⟨e, r, h4, h5, h6⟩ := Xy7 (K := K) h3 K 0 (1048576 - (a.1.length : Int) - (a.2.length : Int)) (by omega) (by omega) (by omega)
 replace h4 : D0 K a.2 K (1048576 - (a.1.length : Int) - (a.2.length : Int)) 0 = some e := h4
 rw [h4, Option.bind_some, h5, Option.bind_some]
 rcases h6 with h6 | ⟨h6, h7, h8⟩
 rw [if_pos h6]; exact ⟨-1, rfl, .inl (by decide)⟩
 rw [if_neg (by omega)]
 rw [List.drop_zero] at h7 h8
 exact ⟨r, rfl, .inr ⟨hd, by omega, fun f hf => by have := h8 f hf; omega, by omega⟩⟩
end
def cst (ps : List Nat) : List Int := ps.map fun (i : Nat) => (i : Int)
theorem Zu3 (ps : List Nat) : (cst ps).length = ps.length := by simp [cst]
theorem Xe1 {ps : List Nat} {j : Nat} (h : j < ps.length) : rd (cst ps) (j : Int) = ((ps[j] : Nat) : Int) := Yb2 (by simp [cst, h])
def tk {α : Type} [Inhabited α] (xs : List α) (ps : List Nat) (j : Nat) : List α := (ps.take j).map fun (i : Nat) => rd xs (i : Int)
theorem Yl7 {α : Type} [Inhabited α] (xs : List α) {ps : List Nat} {j : Nat} (h : j < ps.length) : tk xs ps (j + 1) = tk xs ps j ++ [rd xs ((ps[j] : Nat) : Int)] := by
 unfold tk; rw [List.take_add_one, List.getElem?_eq_getElem h, List.map_append]; rfl
theorem Ys1 {α : Type} [Inhabited α] (xs : List α) (ps : List Nat) (j : Nat) : (tk xs ps j).length ≤ j := by
 unfold tk; rw [List.length_map]; exact List.length_take_le _ _
def mkE {α : Type} (f : Nat → α) (z : α) (n : Nat) (ps : List Nat) (j : Nat) : List α := (List.range n).map fun (i : Nat) => if ps.idxOf i < j then f (ps.idxOf i) else z
theorem Ym0 {α : Type} (f : Nat → α) (z : α) (n : Nat) (ps : List Nat) (j : Nat) : (mkE f z n ps j).length = n := by simp [mkE]
theorem Xb3 {α : Type} (f : Nat → α) (z : α) (n : Nat) (ps : List Nat) : mkE f z n ps 0 = List.replicate n z := by
 unfold mkE
 rw [List.eq_replicate_iff]
 refine ⟨by simp, fun b hb => ?_⟩
 obtain ⟨i, _, rfl⟩ := List.mem_map.1 hb
 rw [if_neg (by omega)]
theorem Xj2 {α : Type} {f : Nat → α} {z : α} {n : Nat} {ps : List Nat} {j : Nat} (hnd : ps.Nodup) (hj : j < ps.length) : (mkE f z n ps j).set ps[j] (f j) = mkE f z n ps (j + 1) := by
 apply List.ext_getElem
 simp [mkE]
 intro i h1 h2
 rw [Ym0] at h2
 rw [List.getElem_set]
 simp only [mkE, List.getElem_map, List.getElem_range]
 by_cases e : ps[j] = i
 subst e
 have := hnd.idxOf_getElem j hj
 rw [if_pos rfl, this, if_pos (by omega)]
 rw [if_neg e]
 have : ps.idxOf i ≠ j := fun h => e (by
  have h3 : ps.idxOf i < ps.length := by omega
  have h4 := List.getElem_idxOf h3
  simp only [h] at h4
  exact h4)
 by_cases h : ps.idxOf i < j
 rw [if_pos h, if_pos (by omega)]
 rw [if_neg h, if_neg (by omega)]
section
variable {K : Nat} {a : F4} {ps : List Nat}
theorem Zm5 (hp : ps.Perm (List.range a.1.length)) : ps.length = a.1.length := by have := hp.length_eq; simpa using this
theorem Xw8 (hp : ps.Perm (List.range a.1.length)) : ps.Nodup := hp.nodup_iff.2 List.nodup_range
theorem Xk7 (hp : ps.Perm (List.range a.1.length)) {j : Nat} (h : j < ps.length) : ps[j] < a.1.length := List.mem_range.1 (hp.mem_iff.1 (List.getElem_mem h))
theorem Yq9 (hp : ps.Perm (List.range a.1.length)) {i : Nat} (h : i < a.1.length) : ps.idxOf i < a.1.length := by
 rw [← Zm5 hp]; exact List.idxOf_lt_length_of_mem (hp.mem_iff.2 (List.mem_range.2 h))
def exD (a : F4) (ps : List Nat) : List Int := ps.map fun (i : Nat) => rd a.1 (i : Int)
def exM (n : Nat) (ps : List Nat) : List MpT := (List.range n).map fun (i : Nat) => [(gn (ps.idxOf i) 1, 1)]
def exO (a : F4) (ps : List Nat) : List MpT := (tk a.2 ps ps.length).map fun f => Zq8 (exD a ps) (exM a.1.length ps) a.1.length f
theorem Wf5 {n i : Nat} (h : i < n) : rd (exM n ps) (i : Int) = [(gn (ps.idxOf i) 1, 1)] := Yb2 (by simp [exM, h])
theorem Yt7 (n : Nat) : (exM n ps).length = n := by simp [exM]
theorem We3 (hp : ps.Perm (List.range a.1.length)) {i : Nat} (h : i < a.1.length) : rd (exD a ps) ((ps.idxOf i : Nat) : Int) = rd a.1 (i : Int) := by
 have h1 := Yq9 hp h
 rw [← Zm5 hp] at h1
 refine Yb2 ?_
 unfold exD
 rw [List.getElem?_map, List.getElem?_eq_getElem h1, List.getElem_idxOf h1]; rfl
theorem Xm8 (hp : ps.Perm (List.range a.1.length)) (hd : okD a.1 = true) : okD (exD a ps) = true := by
 have hl := R7 hd
 have hq := D9 hd
 unfold okD
 rw [Bool.and_eq_true]
 refine ⟨List.all_eq_true.2 (fun d hd' => ?_), decide_eq_true (by unfold exD; rw [List.length_map, Zm5 hp]; exact hl)⟩
 obtain ⟨j, hj, rfl⟩ := List.mem_map.1 hd'
 exact decide_eq_true (hq _ (U7 (List.mem_range.1 (hp.mem_iff.1 hj))))
theorem Xi2 (hp : ps.Perm (List.range a.1.length)) : (exD a ps).length = a.1.length := by unfold exD; rw [List.length_map, Zm5 hp]
theorem Xn4 (hp : ps.Perm (List.range a.1.length)) (hd : okD a.1 = true) : Lds a.1 (exD a ps) (exM a.1.length ps) := ⟨hd, Xm8 hp hd, Yt7 _, fun j hj => by
 rw [Yt7] at hj
 rw [Wf5 hj, ← We3 hp hj]
 exact Wg0 (Xm8 hp hd) (by rw [Xi2 hp]; exact Yq9 hp hj) (by decide)⟩
theorem Xt3 (hp : ps.Perm (List.range a.1.length)) : mkE (fun t => ([(gn t 1, 1)] : MpT)) [] a.1.length ps ps.length = exM a.1.length ps := by
 unfold mkE exM
 refine List.map_congr_left (fun i hi => ?_)
 have := Yq9 hp (List.mem_range.1 hi)
 rw [if_pos (by rw [Zm5 hp]; exact this)]
theorem Xs8 (hK : 1099511627776 ≤ K) (hp : ps.Perm (List.range a.1.length)) (hl : a.1.length ≤ 8) (hvl : a.2.length = a.1.length) : ∀ (k j : Nat), ps.length < j + k → j ≤ ps.length →
 L7 K a (cst ps) k j (tk a.2 ps j) (tk a.1 ps j) (mkE (fun t => ([(gn t 1, 1)] : MpT)) [] a.1.length ps j) = some (.go (tk a.2 ps ps.length, tk a.1 ps ps.length, exM a.1.length ps)) := by
 have hpl := Zm5 hp
 intro k
 induction k with
 | zero => intro j h1 h2; omega
 | succ k ih =>
  intro j h1 h2
  rw [L7, Zu3]
  by_cases hj : j < ps.length
  have := ih (j + 1) (by omega) (by omega)
  have hpj := Xk7 hp hj
  have t1 := Ys1 a.1 ps j
  have t2 := Ys1 a.2 ps j
  rw [Yl7 _ hj, Yl7 _ hj, ← Xj2 (Xw8 hp) hj] at this
  rw [if_pos (by omega), Xe1 hj, if_pos (by omega), if_pos (by omega), if_pos (by simp; omega), if_pos (by omega), if_pos (by simp; omega), Xg6 (by omega), Option.bind_some, Ym0, if_pos (by omega), Int.toNat_natCast]
  exact this
  rw [if_neg (by omega), show j = ps.length by omega, Xt3 hp]
variable {ds xd : List Int} {ms imgs : List MpT} {sd : List Int}
theorem Xd2 (hK : 1099511627776 ≤ K) (hL : Lds sd ds ms) (hx : xd.length = sd.length) (hil : imgs.length = sd.length) (hI : ∀ f, f ∈ imgs → Led sd f ∧ f.length ≤ 1000000) : ∀ (k j : Nat), sd.length < j + k → j ≤ sd.length →
 L3 K (xd, imgs) ds ms [] k j ((imgs.take j).map fun f => Zq8 ds ms sd.length f) = some (.go (imgs.map fun f => Zq8 ds ms sd.length f)) := by
 have hl := R7 hL.src
 intro k
 induction k with
 | zero => intro j h1 h2; omega
 | succ k ih =>
  intro j h1 h2
  rw [L3]
  dsimp only
  by_cases hj : j < sd.length
  have := ih (j + 1) (by omega) (by omega)
  rw [Yl9 (show j < imgs.length by omega), List.map_append] at this
  obtain ⟨i1, i2⟩ := hI _ (U7 (show j < imgs.length by omega))
  have hle : ((imgs.take j).map fun f => Zq8 ds ms sd.length f).length ≤ 8 := by rw [List.length_map, List.length_take]; omega
  rw [if_pos (by omega), Wg9 (by simp; omega), Option.bind_some]
  rw [show Yt1 [] (j : Int) = false from rfl]
  dsimp only [Ex.elim]
  rw [if_neg (by decide), if_pos (by omega), Xu9 hK hL i1 i2, Option.bind_some, if_pos (by simp; omega)]
  exact this
  rw [if_neg (by omega), List.take_of_length_le (show imgs.length ≤ j by omega)]
theorem Xr7 (hK : 1099511627776 ≤ K) (hL : Lds sd ds ms) (hx : xd.length = sd.length) (hil : imgs.length = sd.length) (hI : ∀ f, f ∈ imgs → (∃ u, u ≤ 13 ∧ Hm u sd f) ∧ f.length ≤ 1000000) :
 Ze2 K (xd, imgs) ds ms [] = some (Zw5 ds (imgs.map fun f => Zq8 ds ms sd.length f)) := by
 have hl := R7 hL.src
 have h1 := Xd2 (K := K) (imgs := imgs) hK hL hx hil (fun f hf => by
  obtain ⟨⟨u, hu, h⟩, h2⟩ := hI f hf
  exact ⟨Xb9 h hu, h2⟩) K 0 (by omega) (by omega)
 replace h1 : L3 K (xd, imgs) ds ms [] K 0 [] = _ := h1
 have h2 := Wg8 (K := K) (fs := imgs.map fun f => Zq8 ds ms sd.length f) hK hL.dst (by rw [List.length_map]; omega) (fun f hf => by
  obtain ⟨g, hg, rfl⟩ := List.mem_map.1 hf
  obtain ⟨⟨u, hu, h⟩, h2⟩ := hI g hg
  exact ⟨_, Xk2 hL h hu⟩)
 unfold Ze2 Zw5
 rw [h1, Option.bind_some]
 show ((Zi6 K ds _).bind _) = _
 rw [h2, Option.bind_some]
 by_cases h : ((imgs.map fun f => Zq8 ds ms sd.length f).all fun f => decide (f.length ≤ 400)) = true
 rw [if_pos h, if_pos h]; rfl
 rw [if_neg h, if_neg h]; rfl
/-- images, each homogeneous -/
def ImH (a : F4) : Prop := ∀ f, f ∈ a.2 → (∃ u, u ≤ 13 ∧ Hm u a.1 f) ∧ f.length ≤ 1000000
theorem We8 (hp : ps.Perm (List.range a.1.length)) (hvl : a.2.length = a.1.length) {f : MpT} (h : f ∈ tk a.2 ps ps.length) : f ∈ a.2 := by
 unfold tk at h
 obtain ⟨i, hi, rfl⟩ := List.mem_map.1 h
 have := List.mem_range.1 (hp.mem_iff.1 (List.mem_of_mem_take hi))
 exact U7 (by omega)
theorem Zx8 {α : Type} [Inhabited α] (xs : List α) (ps : List Nat) : tk xs ps ps.length = ps.map fun (i : Nat) => rd xs (i : Int) := by unfold tk; rw [List.take_length]
theorem Wh3 (hK : 1099511627776 ≤ K) (hp : ps.Perm (List.range a.1.length)) (hd : okD a.1 = true) (hvl : a.2.length = a.1.length) (hI : ImH a) : Zb1 K a (cst ps) = some (Zw5 (exD a ps) (exO a ps)) := by
 have hl := R7 hd
 have hpl := Zm5 hp
 have h1 := Xs8 (K := K) (ps := ps) hK hp hl hvl K 0 (by omega) (by omega)
 have h2 := Xr7 (K := K) (xd := tk a.1 ps ps.length) (imgs := tk a.2 ps ps.length) hK (Xn4 hp hd) (by rw [Zx8, List.length_map]; exact hpl) (by rw [Zx8, List.length_map]; exact hpl) (fun f hf => hI f (We8 hp hvl hf))
 have e1 : tk a.1 ps ps.length = exD a ps := Zx8 _ _
 rw [Xb3] at h1
 unfold Zb1
 replace h1 : L7 K a (cst ps) K 0 [] [] (List.replicate a.1.length []) = _ := h1
 rw [Zu3, if_pos (by omega), hpl, Int.toNat_natCast, h1, Option.bind_some]
 show (Ze2 K (tk a.1 ps ps.length, tk a.2 ps ps.length) (tk a.1 ps ps.length) (exM a.1.length ps) []).bind _ = _
 rw [e1] at h2 ⊢
 rw [h2]; rfl
theorem We7 (hK : 1099511627776 ≤ K) (hp : ps.Perm (List.range a.1.length)) (hl : a.1.length ≤ 8) : ∀ (k j : Nat), ps.length < j + k → j ≤ ps.length →
 Q2 K a (cst ps) k j (tk a.1 ps j) (mkE (fun t => (t : Int)) 0 a.1.length ps j) = some (.go (tk a.1 ps ps.length, mkE (fun t => (t : Int)) 0 a.1.length ps ps.length)) := by
 have hpl := Zm5 hp
 intro k
 induction k with
 | zero => intro j h1 h2; omega
 | succ k ih =>
  intro j h1 h2
  rw [Q2, Zu3]
  by_cases hj : j < ps.length
  have := ih (j + 1) (by omega) (by omega)
  have hpj := Xk7 hp hj
  have t1 := Ys1 a.1 ps j
  rw [Yl7 _ hj, ← Xj2 (Xw8 hp) hj] at this
  rw [if_pos (by omega), Xe1 hj, if_pos (by omega), Ym0, if_pos (by omega), if_pos (by omega), if_pos (by simp; omega), Int.toNat_natCast]
  exact this
  rw [if_neg (by omega), show j = ps.length by omega]
theorem Wg3 (hp : ps.Perm (List.range a.1.length)) {i : Nat} (h : i < a.1.length) : rd (mkE (fun t => (t : Int)) 0 a.1.length ps ps.length) (i : Int) = ((ps.idxOf i : Nat) : Int) := by
 have := Yq9 hp h
 refine Yb2 ?_
 unfold mkE
 rw [List.getElem?_map, List.getElem?_range h, Option.map_some, if_pos (by rw [Zm5 hp]; exact this)]
theorem Xs3 {u : Int} {f : MpT} (hK : 1099511627776 ≤ K) (hp : ps.Perm (List.range a.1.length)) (hd : okD a.1 = true) : Zf8 K a.1 f (mkE (fun t => (t : Int)) 0 a.1.length ps ps.length) ds = G5 K (a.1, ds, exM a.1.length ps) f := by
 have hl := R7 hd
 have key : ∀ (k j : Nat), a.1.length < j + k → j ≤ a.1.length → M2 K (mkE (fun t => (t : Int)) 0 a.1.length ps ps.length) k j (exM j ps) = some (.go (exM a.1.length ps)) := by
  intro k
  induction k with
  | zero => intro j h1 h2; omega
  | succ k ih =>
   intro j h1 h2
   rw [M2, Ym0]
   by_cases hj : j < a.1.length
   have := ih (j + 1) (by omega) (by omega)
   have hx := Yq9 hp hj
   have e0 : exM (j + 1) ps = exM j ps ++ [[(gn (ps.idxOf j) 1, 1)]] := by unfold exM; rw [List.range_succ, List.map_append]; rfl
   have e1 : D5 ([] : MpT) (gn (ps.idxOf j) 1) 1 = [(gn (ps.idxOf j) 1, 1)] := rfl
   have hn := Yt7 (ps := ps) j
   rw [e0] at this
   rw [if_pos (by omega), Wg3 hp hj, if_neg (by omega), Xe2 (by omega), Option.bind_some, e1, if_pos (by simp; omega)]
   exact this
   rw [if_neg (by omega), show j = a.1.length by omega]
 have := key K 0 (by omega) (by omega)
 unfold Zf8
 replace this : M2 K (mkE (fun t => (t : Int)) 0 a.1.length ps ps.length) K 0 [] = _ := this
 rw [this, Option.bind_some]
 show (G5 K (a.1, ds, exM a.1.length ps) f).bind _ = _
 cases G5 K (a.1, ds, exM a.1.length ps) f <;> rfl
theorem Wd7 (hK : 1099511627776 ≤ K) (hp : ps.Perm (List.range a.1.length)) (hd : okD a.1 = true) (hvl : a.2.length = a.1.length) (hI : ImH a) : ∀ (k j : Nat), ps.length < j + k → j ≤ ps.length →
 R4 K a (cst ps) (mkE (fun t => (t : Int)) 0 a.1.length ps ps.length) (exD a ps) k j ((tk a.2 ps j).map fun f => Zq8 (exD a ps) (exM a.1.length ps) a.1.length f) =
  some (if ((ps.drop j).all fun (i : Nat) => decide ((Zq8 (exD a ps) (exM a.1.length ps) a.1.length (rd a.2 (i : Int))).length ≤ 400)) = true then .go (exO a ps) else .ret (([], []), 3)) := by
 have hl := R7 hd
 have hpl := Zm5 hp
 have hL := Xn4 hp hd
 intro k
 induction k with
 | zero => intro j h1 h2; omega
 | succ k ih =>
  intro j h1 h2
  rw [R4, Zu3]
  by_cases hj : j < ps.length
  have := ih (j + 1) (by omega) (by omega)
  have hpj := Xk7 hp hj
  obtain ⟨⟨u, hu, hm⟩, hfl⟩ := hI _ (U7 (show ps[j] < a.2.length by omega))
  have hh := Xk2 hL hm hu
  have hle := Ys1 a.2 ps j
  rw [Yl7 _ hj, List.map_append] at this
  rw [if_pos (by omega), Xe1 hj, if_pos (by omega), if_pos (by omega), Yt5 (by omega) (by omega) (fun t ht => (hm.mo t ht).byt (by decide)) (N4 hm.nf), Option.bind_some, Xs3 (u := u) hK hp hd,
   Xz0 hK hL (Xb9 hm hu) hfl, Option.bind_some, Wb0 hK hh, Option.bind_some, List.drop_eq_getElem_cons hj, List.all_cons]
  by_cases h4 : 400 < (Zq8 (exD a ps) (exM a.1.length ps) a.1.length (rd a.2 ((ps[j] : Nat) : Int))).length
  rw [if_pos h4, decide_eq_false (by omega)]
  rfl
  rw [if_neg h4, decide_eq_true (by omega), Bool.true_and]
  dsimp only
  rw [if_pos rfl, if_pos (by simp; omega)]
  exact this
  rw [if_neg (by omega), show j = ps.length by omega, List.drop_length]; rfl
theorem Wi0 (hK : 1099511627776 ≤ K) (hp : ps.Perm (List.range a.1.length)) (hd : okD a.1 = true) (hvl : a.2.length = a.1.length) (hI : ImH a) : B1 K a (cst ps) = some (Zw5 (exD a ps) (exO a ps)) := by
 have hl := R7 hd
 have hpl := Zm5 hp
 have h1 := We7 (K := K) (ps := ps) hK hp hl K 0 (by omega) (by omega)
 have h2 := Wd7 (K := K) hK hp hd hvl hI K 0 (by omega) (by omega)
 have e1 : tk a.1 ps ps.length = exD a ps := Zx8 _ _
 have e2 : ((exO a ps).all fun f => decide (f.length ≤ 400)) = ps.all fun (i : Nat) => decide ((Zq8 (exD a ps) (exM a.1.length ps) a.1.length (rd a.2 (i : Int))).length ≤ 400) := by
  unfold exO; rw [Zx8, List.all_map, List.all_map]; rfl
 rw [Xb3, e1] at h1
 unfold B1 Zw5
 replace h1 : Q2 K a (cst ps) K 0 [] (List.replicate a.1.length 0) = _ := h1
 replace h2 : R4 K a (cst ps) (mkE (fun t => (t : Int)) 0 a.1.length ps ps.length) (exD a ps) K 0 [] = _ := h2
 rw [List.drop_zero] at h2
 rw [Zu3, if_pos (by omega), hpl, Int.toNat_natCast, h1, Option.bind_some]
 show (R4 K a (cst ps) (mkE (fun t => (t : Int)) 0 a.1.length ps ps.length) (exD a ps) K 0 []).bind _ = _
 rw [h2, Option.bind_some, e2]
 split <;> rfl
end
abbrev SoT := (List Int × List MpT) × List Int × Int
def Zc2 (a : F4) : SoT := if okA a = true then (if (Zw5 (exD a (stN a.1)) (exO a (stN a.1))).2 = 0 then ((Zw5 (exD a (stN a.1)) (exO a (stN a.1))).1, stb a.1, 0) else (([], []), [], (Zw5 (exD a (stN a.1)) (exO a (stN a.1))).2)) else (([], []), [], 1)
section
variable {K : Nat} {a : F4}
def stP (ds : List Int) (e : Nat) : List Nat := (List.range e).flatMap fun (d : Nat) => (List.range ds.length).filter fun (i : Nat) => decide (rd ds (i : Int) = (d : Int) + 1)
theorem Wb1 (xs ys : List Nat) : cst (xs ++ ys) = cst xs ++ cst ys := by simp [cst]
theorem Xy5 {d : Int} (hK : 1099511627776 ≤ K) (hl : a.1.length ≤ 8) {xs : List Nat} (hx : xs.length ≤ 1000) : ∀ (k j : Nat), a.1.length < j + k → j ≤ a.1.length →
 Q4 K a d k j (cst (xs ++ (List.range j).filter fun (i : Nat) => decide (rd a.1 (i : Int) = d))) = some (.go (cst (xs ++ (List.range a.1.length).filter fun (i : Nat) => decide (rd a.1 (i : Int) = d)))) := by
 intro k
 induction k with
 | zero => intro j h1 h2; omega
 | succ k ih =>
  intro j h1 h2
  rw [Q4]
  by_cases hj : j < a.1.length
  have := ih (j + 1) (by omega) (by omega)
  rw [List.range_succ, List.filter_append] at this
  rw [if_pos (by omega)]
  by_cases e : rd a.1 (j : Int) = d
  have hf : List.filter (fun (i : Nat) => decide (rd a.1 (i : Int) = d)) [j] = [j] := by simp [e]
  have hle : (List.filter (fun (i : Nat) => decide (rd a.1 (i : Int) = d)) (List.range j)).length ≤ j := by
   have := List.length_filter_le (fun (i : Nat) => decide (rd a.1 (i : Int) = d)) (List.range j)
   rwa [List.length_range] at this
  rw [hf, ← List.append_assoc, Wb1 _ [j]] at this
  rw [if_pos e, if_pos (by rw [Zu3, List.length_append]; simp; omega)]
  exact this
  have hf : List.filter (fun (i : Nat) => decide (rd a.1 (i : Int) = d)) [j] = [] := by simp [e]
  rw [hf, List.append_nil] at this
  rw [if_neg e]
  exact this
  rw [if_neg (by omega), show j = a.1.length by omega]
theorem Yz5 (ds : List Int) (e : Nat) : stP ds (e + 1) = stP ds e ++ (List.range ds.length).filter fun (i : Nat) => decide (rd ds (i : Int) = (e : Int) + 1) := by
 unfold stP; rw [List.range_succ, List.flatMap_append]; simp
theorem Xi6 (ds : List Int) : ∀ e : Nat, (stP ds e).length ≤ ds.length * e
 | 0 => by simp [stP]
 | e + 1 => by
  have := Xi6 ds e
  have h2 := List.length_filter_le (fun (i : Nat) => decide (rd ds (i : Int) = (e : Int) + 1)) (List.range ds.length)
  rw [List.length_range] at h2
  rw [Yz5, List.length_append, Nat.mul_succ]; omega
theorem Wa7 (hK : 1099511627776 ≤ K) (hl : a.1.length ≤ 8) : ∀ (k e : Nat), 12 < e + k → e ≤ 12 →
 Q3 K a k ((e : Int) + 1) (cst (stP a.1 e)) = some (.go (stb a.1)) := by
 intro k
 induction k with
 | zero => intro e h1 h2; omega
 | succ k ih =>
  intro e h1 h2
  rw [Q3]
  by_cases he : e < 12
  have := ih (e + 1) (by omega) (by omega)
  have hle := Xi6 a.1 e
  have h8 : a.1.length * e ≤ 8 * 12 := Nat.mul_le_mul hl h2
  have h3 := Xy5 (K := K) (a := a) (d := (e : Int) + 1) hK hl (xs := stP a.1 e) (by omega) K 0 (by omega) (by omega)
  rw [List.range_zero, List.filter_nil, List.append_nil, ← Yz5] at h3
  replace h3 : Q4 K a ((e : Int) + 1) K 0 (cst (stP a.1 e)) = _ := h3
  rw [if_pos (by omega), h3, Option.bind_some]
  show Q3 K a k (IntKind.i64.wrap ((e : Int) + 1 + 1)) (cst (stP a.1 (e + 1))) = _
  rw [IntWalk.i64_in _ (by omega)]
  exact this
  have : e = 12 := by omega
  subst this
  rw [if_neg (by decide)]; rfl
theorem Yt9 (ds : List Int) : stb ds = cst (stN ds) := rfl
theorem Xb6 (hi : Inp K a) (hA : okA a = true) : okD a.1 = true ∧ a.2.length = a.1.length ∧ ImH a := by
 have hB : okB a = true := by unfold okA at hA; rw [Bool.and_eq_true] at hA; exact hA.1
 have hd := Xj4 hB
 have hv := Ys6 hi hB
 have hvl := hv.len
 refine ⟨hd, hvl, fun f hf => ?_⟩
 obtain ⟨j, hj, rfl⟩ := List.getElem_of_mem hf
 have h1 := Wf8 hi hB j hj
 have h2 := D9 hd _ (U7 (show j < a.1.length by omega))
 have h3 := (hv.all _ (U7 hj)).len
 rw [Zb3 hj] at h1 h3
 exact ⟨⟨_, by omega, h1⟩, by omega⟩
theorem Xz7 (hK : 1099511627776 ≤ K) (hi : Inp K a) : Zb8 K a = some (Zc2 a) := by
 unfold Zb8 Zc2
 rw [show (a.1, a.2) = a from rfl, Wc9 hi, Option.bind_some]
 by_cases hA : okA a = true
 case neg => rw [if_neg hA, if_neg hA]
 obtain ⟨hd, hvl, hI⟩ := Xb6 hi hA
 have hl := R7 hd
 have h0 := Wa7 (K := K) (a := a) hK hl K 0 (by omega) (by omega)
 replace h0 : Q3 K a K 1 [] = _ := h0
 rw [if_pos hA, if_pos hA, h0, Option.bind_some]
 show (Zb1 K a (stb a.1)).bind _ = _
 rw [Yt9, Wh3 hK (Zu2 (D9 hd)).symm hd hvl hI, Option.bind_some]
 split <;> rfl
theorem Xv6 (hK : 1099511627776 ≤ K) (hl : a.1.length ≤ 8) : ∀ (k j : Nat), a.1.length < j + k → j ≤ a.1.length →
 N0 K a k j (idL j) = some (.go (idL a.1.length)) := by
 intro k
 induction k with
 | zero => intro j h1 h2; omega
 | succ k ih =>
  intro j h1 h2
  rw [N0]
  by_cases hj : j < a.1.length
  have := ih (j + 1) (by omega) (by omega)
  have e0 : idL (j + 1) = idL j ++ [(j : Int)] := by unfold idL; rw [List.range_succ, List.map_append]; rfl
  have hle : (idL j).length = j := by simp [idL]
  rw [e0] at this
  rw [if_pos (by omega), if_pos (by simp; omega)]
  exact this
  rw [if_neg (by omega), show j = a.1.length by omega]
theorem Xj8 (hK : 1099511627776 ≤ K) (hi : Inp K a) : D8 K a = some (Zc2 a) := by
 unfold D8 Zc2
 rw [show (a.1, a.2) = a from rfl, Wg6 hi, Option.bind_some]
 by_cases hA : okA a = true
 case neg => rw [if_neg hA, if_neg hA, if_neg (by decide)]
 obtain ⟨hd, hvl, hI⟩ := Xb6 hi hA
 have hl := R7 hd
 have h0 := Xv6 (K := K) (a := a) hK hl K 0 (by omega) (by omega)
 replace h0 : N0 K a K 0 [] = _ := h0
 have hJ : okJ a (idL a.1.length) = true := decide_eq_true ⟨D9 hd, hl, rfl⟩
 rw [if_pos hA, if_pos rfl, if_pos hA, h0, Option.bind_some]
 show (if okJ a (idL a.1.length) = true then _ else none) = _
 rw [if_pos hJ, Yt9, Wi0 hK (Zu2 (D9 hd)).symm hd hvl hI, Option.bind_some]
 split <;> rfl
theorem Xm4 {ds : List Int} {fs : List MpT} (hd : ds.length ≤ 8) (hf : fs.length ≤ 8) : (Zw5 ds fs).1.1.length ≤ 8 ∧ (Zw5 ds fs).1.2.length ≤ 8 ∧ ∀ f, f ∈ (Zw5 ds fs).1.2 → f.length ≤ 400 := by
 unfold Zw5
 split
 rename_i h
 exact ⟨hd, hf, fun f hf => by have := List.all_eq_true.1 h f hf; simpa using this⟩
 exact ⟨by simp, by simp, fun f hf => by cases hf⟩
theorem Xg1 (hi : Inp K a) : (Zc2 a).1.1.length ≤ 8 ∧ (Zc2 a).1.2.length ≤ 8 ∧ (∀ f, f ∈ (Zc2 a).1.2 → f.length ≤ 400) ∧ (Zc2 a).2.1.length ≤ 8 := by
 unfold Zc2
 split
 rename_i hA
 obtain ⟨hd, hvl, hI⟩ := Xb6 hi hA
 have hl := R7 hd
 have hp := (Zu2 (D9 hd)).symm
 have hpl := Zm5 hp
 obtain ⟨r1, r2, r3⟩ := Xm4 (ds := exD a (stN a.1)) (fs := exO a (stN a.1)) (by rw [Xi2 hp]; exact hl) (by unfold exO; rw [Zx8, List.length_map, List.length_map]; omega)
 split
 exact ⟨r1, r2, r3, by rw [Yt9, Zu3]; omega⟩
 exact ⟨by simp, by simp, (fun f hf => by cases hf), by simp⟩
 exact ⟨by simp, by simp, (fun f hf => by cases hf), by simp⟩
end
theorem Xk1 : ∀ {fs : List MpT}, (∀ f, f ∈ fs → f.length ≤ 400) → I8 fs ≤ 3600 * fs.length
 | [], _ => by simp [I8]
 | f :: fs, h => by
  have h1 := h f (List.mem_cons_self ..)
  have h2 := Xk1 (fs := fs) (fun g hg => h g (List.mem_cons_of_mem _ hg))
  rw [I8, List.length_cons]; omega
theorem Xv4 {K : Nat} {a : F4} (hK : 1099511627776 ≤ K) (h1 : a.1.length ≤ 9223372036854775807) (h2 : a.2.length ≤ 9223372036854775807) (h3 : ∀ f, f ∈ a.2 → f.length ≤ 9223372036854775807) (hb : ∀ f, f ∈ a.2 → Zu1 f) :
 B9 K a = some true := by
 obtain ⟨r, hr, hs⟩ := We5 (K := K) (by omega) h1 h2 h3
 unfold B9
 rw [show (a.1, a.2) = a from rfl, hr, Option.bind_some]
 by_cases h0 : r < 0
 rw [if_pos h0]
 rw [if_neg h0]
 obtain ⟨s1, s2, s3, s4⟩ := hs.resolve_left h0
 have hi : Inp K a := ⟨by omega, s1, s2, s3, hb⟩
 obtain ⟨d1, d2, d3, d5⟩ := Xg1 hi
 have d4 := Xk1 d3
 have hcn := Zr9 a.2
 have hcr := Zr9 (Zc2 a).1.2
 have hca : G3 a ≤ 1000000000000 := by unfold G3; omega
 have hca0 : 0 ≤ G3 a := by unfold G3; omega
 have hcd0 : 0 ≤ G3 (Zc2 a).1 := by unfold G3; omega
 have hcd : G3 (Zc2 a).1 ≤ 1000000 := by unfold G3; omega
 have hto := Wh8 hi
 have heq := Yr0 (K := K) (x := (Zc2 a).1) (by omega) (by omega) (by omega) (fun f hf => by have := d3 f hf; omega)
 have heqi := Yn3 (K := K) (xs := (Zc2 a).2.1) (by omega)
 have heqa := Yr0 (K := K) (x := a) (by omega) (by omega) (by omega) (fun f hf => by have := s3 f hf; omega)
 have hheld := Xy3 (K := K) (x := (Zc2 a).1) (by omega) (by omega) (by omega) (fun f hf => by have := d3 f hf; omega) (by omega)
 have hheldi := Xf7 (K := K) (1 + G3 (Zc2 a).1) (Zc2 a).2.1.length (by omega) (by omega)
 have eP : ((Zc2 a).1.1, (Zc2 a).1.2) = (Zc2 a).1 := rfl
 have eM : ((mkA (Zc2 a).1 1).1, (mkA (Zc2 a).1 1).2) = mkA (Zc2 a).1 1 := rfl
 have eA : (a.1, a.2) = a := rfl
 rw [hto, Option.bind_some, eA, Xz7 hK hi, Option.bind_some, Option.bind_some, eA, Xj8 hK hi, Option.bind_some, eP, heq, Option.bind_some, if_pos rfl, heqi, Option.bind_some, if_pos rfl, decide_eq_true rfl]
 unfold P6
 rw [if_neg (by decide), eA, hto, Option.bind_some, eA, heqa, Option.bind_some, if_pos rfl, if_pos (by omega), if_neg (by omega), eP, heq, Option.bind_some, if_pos rfl, heqi, Option.bind_some, if_pos rfl, decide_eq_true rfl]
 unfold Q0
 rw [if_neg (by decide), if_pos (by omega), if_pos (by omega), eM, hheld, Option.bind_some, if_neg (by omega), hheldi, Option.bind_some, if_neg (by omega), if_pos rfl, eA, hto, Option.bind_some, eA, Xj8 hK hi, Option.bind_some, eP, heq, Option.bind_some, if_pos rfl,
  heqi, Option.bind_some, if_pos rfl, decide_eq_true rfl]
 unfold P7
 rw [if_neg (by decide), eM, hheld, Option.bind_some, if_neg (by omega), hheldi, Option.bind_some, if_neg (by omega), if_pos rfl]
end Go.Proofs.YtfodlhkoafhplaaGreat
