/- Plain laws on the pure functions. -/
import Derived.Test.YtabofnehiclkiaaGreatXP2
import Derived.Test.YtabofnehiclkiaaGreatXF9
import Derived.Test.YtabofnehiclkiaaGreatXF13
import Derived.Test.YtabofnehiclkiaaGreatXF17
import Derived.Test.YtabofnehiclkiaaGreatXF20
import Derived.Test.YtabofnehiclkiaaGreatXF18
import Derived.Test.YtabofnehiclkiaaGreatXF21
import Derived.Test.YtabofnehiclkiaaGreatXL
import Derived.Test.YtabofnehiclkiaaGreatXF19
import Derived.Test.YtabofnehiclkiaaGreatXF23
namespace Go.Proofs.YtabofnehiclkiaaGreat
open Go
set_option linter.unusedSimpArgs false
set_option linter.unusedVariables false
/-- degrees, and images that are homogeneous of one degree more -/
structure Vd (a : L4) : Prop where
 dg : okD a.1 = true
 len : a.2.length = a.1.length
 hm : ∀ j, j < a.2.length → Hm (rd a.1 (j : Int) + 1) a.1 (rd a.2 (j : Int))
 short : ∀ f, f ∈ a.2 → f.length ≤ 400
def Zx9 (n : Nat) (f : MpT) : List Int := (List.range n).map fun (j : Nat) => Q1 f (gn j 1)
def Yg0 (a : L4) : List (List Int) := a.2.map (Zx9 a.1.length)
theorem Zp6 (n : Nat) (f : MpT) : (Zx9 n f).length = n := by simp [Zx9]
theorem Yg3 {n j : Nat} {f : MpT} (h : j < n) : rd (Zx9 n f) (j : Int) = Q1 f (gn j 1) := Zy2 (by simp [Zx9, h])
theorem Zh5 (a : L4) : (Yg0 a).length = a.2.length := by simp [Yg0]
theorem Yk6 {a : L4} {i : Nat} (h : i < a.2.length) : rd (Yg0 a) (i : Int) = Zx9 a.1.length (rd a.2 (i : Int)) := Zy2 (by unfold Yg0; rw [List.getElem?_map, List.getElem?_eq_getElem h, G0 h]; rfl)
theorem Yr5 {u : Int} {ds : List Int} {f : MpT} (h : Hm u ds f) : Yd0 f := fun t ht => (h.mo t ht).byt (by decide)
/-! word lengths -/
def wlN (m : A8) : Nat → Int
 | 0 => 0
 | n + 1 => wlN m n + Y5 m (n : Int)
theorem Wa6 {m : A8} (h : Byt m) : ∀ n : Nat, 0 ≤ wlN m n ∧ wlN m n ≤ 255 * n
 | 0 => by simp [wlN]
 | n + 1 => by
  have h1 := Wa6 h n
  have h2 := h.idx n
  rw [wlN]; omega
section
variable {K : Nat} {a : L4}
theorem Wn0 {m : A8} (h : Byt m) : ∀ (k n : Nat), 8 < n + k → n ≤ 8 → Zd4 K m k (wlN m n) n = some (.go (wlN m 8)) := by
 intro k
 induction k with
 | zero => intro n h1 h2; omega
 | succ k ih =>
  intro n h1 h2
  rw [Zd4]
  by_cases hn : n < 8
  have h3 := Wa6 h n
  have h4 := h.idx n
  rw [if_pos (by omega), IntWalk.i64_in (Y5 m (n : Int)) (by omega), IntWalk.i64_in _ (by omega)]
  exact ih (n + 1) (by omega) (by omega)
  rw [if_neg (by omega), show n = 8 by omega]
theorem Wm6 {m : A8} (hK : 8 < K) (h : Byt m) : Zu4 K m = some (wlN m 8) := by
 have := Wn0 (K := K) h K 0 (by omega) (by omega)
 unfold Zu4
 replace this : Zd4 K m K 0 0 = _ := this
 rw [this]; rfl
theorem Wa9 {m : A8} (lo : ∀ i, 0 ≤ m i) : ∀ n : Nat, n ≤ 8 → 0 ≤ wlN m n ∧ (wlN m n = 0 → ∀ j, j < n → Y5 m (j : Int) = 0)
 | 0, _ => ⟨by simp [wlN], fun _ j hj => by omega⟩
 | n + 1, h => by
  obtain ⟨h1, h2⟩ := Wa9 lo n (by omega)
  have hi : 0 ≤ Y5 m (n : Int) := by rw [T9 m (show n < 8 by omega)]; exact lo _
  rw [wlN]
  refine ⟨by omega, fun e j hj => ?_⟩
  by_cases ej : j = n
  subst ej; omega
  exact h2 (by omega) j (by omega)
theorem Wt4 {t : Nat} (ht : t < 8) : ∀ n : Nat, wlN (gn t 1) n = if t < n then 1 else 0
 | 0 => by rw [if_neg (by omega)]; rfl
 | n + 1 => by
  rw [wlN, Wt4 ht n, Zy9 ht]
  by_cases e : n = t
  subst e; rw [if_neg (by omega), if_pos rfl, if_pos (by omega)]; rfl
  by_cases h : t < n
  rw [if_pos h, if_neg e, if_pos (by omega)]; rfl
  rw [if_neg h, if_neg e, if_neg (by omega)]; rfl
theorem Vd1 {m : A8} (lo : ∀ i, 0 ≤ m i) {j : Nat} (hj : j < 8) (hw : wlN m 8 = 1) (h1 : Y5 m (j : Int) = 1) : m = gn j 1 := by
 have key : ∀ n : Nat, n ≤ 8 → ∀ i, i < n → wlN m n ≥ Y5 m (i : Int) ∧ (∀ k, k < n → i ≠ k → wlN m n ≥ Y5 m (i : Int) + Y5 m (k : Int)) := by
  intro n
  induction n with
  | zero => intro _ i hi; omega
  | succ n ih =>
   intro hn i hi
   have hz := Wa9 lo n (by omega)
   have hI : ∀ k : Nat, k < 8 → 0 ≤ Y5 m (k : Int) := fun k hk => by rw [T9 m hk]; exact lo _
   have h0 := hI n (by omega)
   rw [wlN]
   by_cases e : i = n
   subst e
   refine ⟨by omega, fun k hk hik => ?_⟩
   have := (ih (by omega) k (by omega)).1
   omega
   have h2 := ih (by omega) i (by omega)
   refine ⟨by omega, fun k hk hik => ?_⟩
   by_cases ek : k = n
   subst ek; omega
   have := h2.2 k (by omega) hik; omega
 funext i
 have hi := i.isLt
 unfold gn
 rw [I4 _ hj]
 by_cases e : i.val = j
 rw [if_pos e, ← h1, T9 m hj]
 exact congrArg m (Fin.ext e)
 rw [if_neg e]
 have h3 := (key 8 (Nat.le_refl _) j hj).2 i.val hi (fun h => e h.symm)
 have h4 := lo i
 rw [T9 m hi] at h3
 have h5 : m ⟨i.val, hi⟩ = m i := rfl
 omega
/-! the table on the one side -/
def upT (n : Nat) (t : M5) (row : List Int) (k : Nat) : List Int := (List.range n).map fun (j : Nat) => if j < k ∧ Y5 t.1 (j : Int) = 1 then t.2 else rd row (j : Int)
theorem Zv7 (n : Nat) (t : M5) (row : List Int) (k : Nat) : (upT n t row k).length = n := by simp [upT]
theorem Ym9 {n j k : Nat} {t : M5} {row : List Int} (h : j < n) : rd (upT n t row k) (j : Int) = if j < k ∧ Y5 t.1 (j : Int) = 1 then t.2 else rd row (j : Int) := Zy2 (by simp [upT, h])
theorem Yr7 {xs ys : List Int} (hl : xs.length = ys.length) (h : ∀ j : Nat, j < xs.length → rd xs (j : Int) = rd ys (j : Int)) : xs = ys := by
 refine List.ext_getElem hl (fun j h1 h2 => ?_)
 have := h j h1
 rwa [G0 h1, G0 h2] at this
theorem Wk2 {i x : Int} {row : List Int} (hK : 8 < K) (hl : a.1.length ≤ 8) (hr : row.length = a.1.length) (hm : Byt (rd (rd a.2 i) x).1) (hw : wlN (rd (rd a.2 i) x).1 8 = 1) : ∀ (k j : Nat), a.1.length < j + k → j ≤ a.1.length →
 N3 K a i x k j (upT a.1.length (rd (rd a.2 i) x) row j) = some (.go (upT a.1.length (rd (rd a.2 i) x) row a.1.length)) := by
 intro k
 induction k with
 | zero => intro j h1 h2; omega
 | succ k ih =>
  intro j h1 h2
  rw [N3]
  by_cases hj : j < a.1.length
  have := ih (j + 1) (by omega) (by omega)
  have hul := Zv7 a.1.length (rd (rd a.2 i) x) row j
  rw [if_pos (by omega), Wm6 hK hm, Option.bind_some, hw, decide_eq_true rfl]
  unfold Zf9
  rw [if_pos rfl, if_pos (by omega)]
  by_cases h1 : Y5 (rd (rd a.2 i) x).1 (j : Int) = 1
  rw [if_pos h1, if_pos (by omega), Int.toNat_natCast]
  have e : (upT a.1.length (rd (rd a.2 i) x) row j).set j (rd (rd a.2 i) x).2 = upT a.1.length (rd (rd a.2 i) x) row (j + 1) := by
   refine Yr7 (by rw [List.length_set, Zv7, Zv7]) (fun t ht => ?_)
   rw [List.length_set, Zv7] at ht
   rw [Yz0 (by rw [Zv7]; exact ht), Ym9 ht, Ym9 ht]
   by_cases et : t = j
   subst et; rw [if_pos rfl, if_pos ⟨by omega, h1⟩]
   rw [if_neg et]
   by_cases h3 : t < j ∧ Y5 (rd (rd a.2 i) x).1 (t : Int) = 1
   rw [if_pos h3, if_pos ⟨by omega, h3.2⟩]
   rw [if_neg h3, if_neg (fun h => h3 ⟨by omega, h.2⟩)]
  rw [e]; exact this
  rw [if_neg h1]
  have e : upT a.1.length (rd (rd a.2 i) x) row j = upT a.1.length (rd (rd a.2 i) x) row (j + 1) := by
   refine Yr7 (by rw [Zv7, Zv7]) (fun t ht => ?_)
   rw [Zv7] at ht
   rw [Ym9 ht, Ym9 ht]
   by_cases h3 : t < j ∧ Y5 (rd (rd a.2 i) x).1 (t : Int) = 1
   rw [if_pos h3, if_pos ⟨by omega, h3.2⟩]
   rw [if_neg h3, if_neg (fun h => ?_)]
   by_cases et : t = j
   subst et; exact h1 h.2
   exact h3 ⟨by omega, h.2⟩
  rw [e]; exact this
  rw [if_neg (by omega)]
  unfold Zf9
  rw [if_neg (by decide), show j = a.1.length by omega]
theorem Wf3 {i x : Int} {row : List Int} (hK : 8 < K) (hm : Byt (rd (rd a.2 i) x).1) (hw : wlN (rd (rd a.2 i) x).1 8 ≠ 1) {k : Nat} (hk : 0 < k) : N3 K a i x k 0 row = some (.go row) := by
 obtain ⟨k, rfl⟩ : ∃ n, k = n + 1 := ⟨k - 1, by omega⟩
 rw [N3]
 split
 rw [Wm6 hK hm, Option.bind_some, decide_eq_false hw]; rfl
 rfl
theorem Wq4 {n : Nat} (hn : n ≤ 8) {f : MpT} {t : M5} (hs : Srt (f ++ [t])) (lo : ∀ i, 0 ≤ t.1 i) : Zx9 n (f ++ [t]) = if wlN t.1 8 = 1 then upT n t (Zx9 n f) n else Zx9 n f := by
 have hs1 : Srt f := hs.sublist (List.sublist_append_left _ _)
 have hnd := Yc3 hs
 have e : ∀ j : Nat, Q1 (f ++ [t]) (gn j 1) = cf (gn j 1) f + (if t.1 = gn j 1 then t.2 else 0) := fun j => by
  rw [Ya8 _ hs, Yq1]
  show _ + ((if t.1 = gn j 1 then t.2 else 0) + 0) = _
  omega
 refine Yr7 (by split <;> simp [Zp6, Zv7]) (fun j hj => ?_)
 rw [Zp6] at hj
 rw [Yg3 hj, e j]
 by_cases ht : t.1 = gn j 1
 have hz : cf (gn j 1) f = 0 := by
  have : ∀ q, q ∈ f → q.1 ≠ gn j 1 := by
   intro q hq e1
   have hp := List.nodup_append.1 (by simpa [List.map_append] using hnd : (f.map Prod.fst ++ [t.1]).Nodup)
   exact hp.2.2 q.1 (List.mem_map.2 ⟨q, hq, rfl⟩) t.1 (List.mem_singleton.2 rfl) (by rw [e1, ht])
  clear e hs hs1 hnd
  induction f with
  | nil => rfl
  | cons q f ih =>
   rw [cf, if_neg (this q (List.mem_cons_self ..)), ih (fun x hx => this x (List.mem_cons_of_mem _ hx))]; rfl
 rw [if_pos ht, hz, Int.zero_add, ht, Wt4 (by omega), if_pos (by omega), Ym9 hj, if_pos ⟨hj, by rw [ht, Zy9 (by omega), if_pos rfl]⟩]
 rw [if_neg ht, Int.add_zero, ← Ya8 _ hs1]
 split
 rename_i hw
 rw [Ym9 hj, if_neg (fun h => ht (Vd1 lo (by omega) hw h.2)), Yg3 hj]
 rw [Yg3 hj]
theorem Wl7 {i : Int} {u : Int} (hK : 1099511627776 ≤ K) (hl : a.1.length ≤ 8) (hf : Hm u a.1 (rd a.2 i)) (hlen : (rd a.2 i).length ≤ 2000000) : ∀ (k j : Nat), (rd a.2 i).length < j + k → j ≤ (rd a.2 i).length →
 B2 K a i k j (Zx9 a.1.length ((rd a.2 i).take j)) = some (.go (Zx9 a.1.length (rd a.2 i))) := by
 intro k
 induction k with
 | zero => intro j h1 h2; omega
 | succ k ih =>
  intro j h1 h2
  rw [B2]
  by_cases hj : j < (rd a.2 i).length
  have hb := Yr5 hf _ (V7 hj)
  have hs : Srt ((rd a.2 i).take (j + 1)) := (P8 hf.nf).sublist (List.take_sublist _ _)
  have := ih (j + 1) (by omega) (by omega)
  rw [Zl7 hj] at this hs
  rw [Wq4 hl hs (hf.mo _ (V7 hj)).lo] at this
  rw [if_pos (by omega)]
  by_cases hw : wlN (rd (rd a.2 i) (j : Int)).1 8 = 1
  have h0 : upT a.1.length (rd (rd a.2 i) (j : Int)) (Zx9 a.1.length ((rd a.2 i).take j)) 0 = Zx9 a.1.length ((rd a.2 i).take j) := by
   refine Yr7 (by rw [Zv7, Zp6]) (fun t ht => ?_)
   rw [Zv7] at ht
   rw [Ym9 ht, if_neg (by omega)]
  have h3 := Wk2 (K := K) (a := a) (i := i) (x := j) (row := Zx9 a.1.length ((rd a.2 i).take j)) (by omega) hl (Zp6 _ _) hb hw K 0 (by omega) (by omega)
  rw [h0] at h3
  rw [if_pos hw] at this
  replace h3 : N3 K a i j K 0 _ = _ := h3
  rw [h3]; exact this
  rw [if_neg hw] at this
  rw [Wf3 (by omega) hb hw (by omega)]; exact this
  rw [if_neg (by omega), List.take_of_length_le (by omega)]
theorem Xq3 (hK : 1099511627776 ≤ K) (hV : Vd a) : Zl5 K a = some (Yg0 a) := by
 have hl := T6 hV.dg
 have hlen := hV.len
 have key : ∀ (k j : Nat), a.2.length < j + k → j ≤ a.2.length → B4 K a k j ((Yg0 a).take j) = some (.go (Yg0 a)) := by
  intro k
  induction k with
  | zero => intro j h1 h2; omega
  | succ k ih =>
   intro j h1 h2
   rw [B4]
   by_cases hj : j < a.2.length
   have hsh := hV.short _ (V7 hj)
   have h3 := Wl7 (K := K) (i := j) hK hl (hV.hm j hj) (by omega) K 0 (by omega) (by omega)
   have e0 : Zx9 a.1.length ((rd a.2 (j : Int)).take 0) = List.replicate ((a.1.length : Int)).toNat (0 : Int) := by
    rw [Int.toNat_natCast, List.take_zero]
    refine Yr7 (by rw [Zp6, List.length_replicate]) (fun t ht => ?_)
    rw [Zp6] at ht
    rw [Yg3 ht, G0 (by rw [List.length_replicate]; exact ht), List.getElem_replicate]; rfl
   rw [e0] at h3
   replace h3 : B2 K a j K 0 _ = _ := h3
   have := ih (j + 1) (by omega) (by omega)
   rw [Zl7 (by rw [Zh5]; exact hj), Yk6 hj] at this
   rw [if_pos (by omega), if_pos (by omega), h3, Option.bind_some]
   show (if _ then _ else none) = _
   rw [if_pos (by simp; omega)]; exact this
   rw [if_neg (by omega), List.take_of_length_le (by rw [Zh5]; omega)]
 have := key K 0 (by omega) (by omega)
 unfold Zl5
 replace this : B4 K a K 0 [] = _ := this
 rw [this]; rfl
/-! the table on the other side -/
theorem Wa5 {f : MpT} {u : Int} (hK : 1099511627776 ≤ K) (hl : a.1.length ≤ 8) (hf : Hm u a.1 f) (hlen : f.length ≤ 2000000) : Zq3 K a.1 f = some (Zx9 a.1.length f) := by
 have key : ∀ (k j : Nat), a.1.length < j + k → j ≤ a.1.length → C7 K a.1 f k j ((Zx9 a.1.length f).take j) = some (.go (Zx9 a.1.length f)) := by
  intro k
  induction k with
  | zero => intro j h1 h2; omega
  | succ k ih =>
   intro j h1 h2
   rw [C7]
   by_cases hj : j < a.1.length
   have := ih (j + 1) (by omega) (by omega)
   rw [Zl7 (by rw [Zp6]; exact hj), Yg3 hj] at this
   rw [if_pos (by omega), Zv4 (by omega), Option.bind_some, if_pos (by simp; omega)]; exact this
   rw [if_neg (by omega), List.take_of_length_le (by rw [Zp6]; omega)]
 have := key K 0 (by omega) (by omega)
 unfold Zq3
 replace this : C7 K a.1 f K 0 [] = _ := this
 rw [Yg2 (by omega) (by omega) (Yr5 hf) (P8 hf.nf), Option.bind_some, this]; rfl
theorem Wm5 (hK : 1099511627776 ≤ K) (hV : Vd a) : Zb6 K a = some (Yg0 a) := by
 have hl := T6 hV.dg
 have hlen := hV.len
 have key : ∀ (k j : Nat), a.2.length < j + k → j ≤ a.2.length → P4 K a k j ((Yg0 a).take j) = some (.go (Yg0 a)) := by
  intro k
  induction k with
  | zero => intro j h1 h2; omega
  | succ k ih =>
   intro j h1 h2
   rw [P4]
   by_cases hj : j < a.2.length
   have hsh := hV.short _ (V7 hj)
   have := ih (j + 1) (by omega) (by omega)
   rw [Zl7 (by rw [Zh5]; exact hj), Yk6 hj] at this
   rw [if_pos (by omega), Wa5 hK hl (hV.hm j hj) (by omega), Option.bind_some, if_pos (by simp; omega)]; exact this
   rw [if_neg (by omega), List.take_of_length_le (by rw [Zh5]; omega)]
 have := key K 0 (by omega) (by omega)
 unfold Zb6
 replace this : P4 K a K 0 [] = _ := this
 rw [this]; rfl
/-! the first pair -/
def ldR (row : List Int) : Nat → Nat → Option Nat
 | 0, _ => none
 | n + 1, j => if rd row (j : Int) = 0 then ldR row n (j + 1) else some j
def prR (t : List (List Int)) (w : Nat) : Nat → Nat → Int × Int × Bool
 | 0, _ => (0, 0, false)
 | n + 1, i => match ldR (rd t (i : Int)) w 0 with | some k => ((i : Int), (k : Int), true) | none => prR t w n (i + 1)
def Zk6 (a : L4) : Int × Int × Bool := prR (Yg0 a) a.2.length a.2.length 0
theorem Xy0 {row : List Int} : ∀ (n j k : Nat), ldR row n j = some k → j ≤ k ∧ k < j + n ∧ rd row (k : Int) ≠ 0
 | 0, _, _, h => by cases h
 | n + 1, j, k, h => by
  rw [ldR] at h
  split at h
  have := Xy0 n (j + 1) k h; exact ⟨by omega, by omega, this.2.2⟩
  rename_i h0
  cases h; exact ⟨by omega, by omega, h0⟩
theorem Wn2 {t : List (List Int)} {i : Int} (hw : (rd t i).length = t.length) : ∀ (k j : Nat), t.length < j + k → j ≤ t.length →
 Zd5 K t i k j = some (match ldR (rd t i) (t.length - j) j with | some x => .ret (i, (x : Int), true) | none => .go ()) := by
 intro k
 induction k with
 | zero => intro j h1 h2; omega
 | succ k ih =>
  intro j h1 h2
  rw [Zd5]
  by_cases hj : j < t.length
  have := ih (j + 1) (by omega) (by omega)
  rw [if_pos (by omega), if_pos (by omega), show t.length - j = (t.length - (j + 1)) + 1 by omega, ldR]
  by_cases h0 : rd (rd t i) (j : Int) = 0
  rw [if_pos h0, if_pos h0]; exact this
  rw [if_neg h0, if_neg h0]
  rw [if_neg (by omega), show t.length - j = 0 by omega, ldR]
theorem Wp6 {t : List (List Int)} (hK : t.length < K) (hw : ∀ i : Nat, i < t.length → (rd t (i : Int)).length = t.length) : ∀ (k j : Nat), t.length < j + k → j ≤ t.length →
 (Zg2 K t k j).bind (Ex.elim (fun r => some r) (fun _ => some (0, 0, false))) = some (prR t t.length (t.length - j) j) := by
 intro k
 induction k with
 | zero => intro j h1 h2; omega
 | succ k ih =>
  intro j h1 h2
  rw [Zg2]
  by_cases hj : j < t.length
  have := ih (j + 1) (by omega) (by omega)
  have h3 := Wn2 (K := K) (hw j hj) K 0 (by omega) (by omega)
  replace h3 : Zd5 K t j K 0 = _ := h3
  rw [if_pos (by omega), h3, Option.bind_some, show t.length - j = (t.length - (j + 1)) + 1 by omega, prR, Nat.sub_zero]
  cases ldR (rd t (j : Int)) t.length 0 with
  | some x => rfl
  | none => exact this
  rw [if_neg (by omega), show t.length - j = 0 by omega, prR]; rfl
theorem Wv6 (hK : 1099511627776 ≤ K) (hV : Vd a) : Zu1 K a = some (Zk6 a) := by
 have hl := T6 hV.dg
 have hlen := hV.len
 have h1 := Wp6 (K := K) (t := Yg0 a) (by rw [Zh5]; omega) (fun i hi => by
  rw [Zh5] at hi
  rw [Yk6 hi, Zp6, Zh5, hlen]) K 0 (by rw [Zh5]; omega) (by omega)
 unfold Zu1
 rw [Xq3 hK hV, Option.bind_some]
 refine Eq.trans h1 ?_
 rw [Zh5]; rfl
theorem Wk9 {row : List Int} : ∀ (k j : Nat), row.length < j + k → j ≤ row.length →
 (V4 K row (fun x => Zp5 K x) k j).bind (Ex.elim (fun r => some r) (fun _ => some (-1))) = some (match ldR row (row.length - j) j with | some x => (x : Int) | none => -1) := by
 intro k
 induction k with
 | zero => intro j h1 h2; omega
 | succ k ih =>
  intro j h1 h2
  rw [V4]
  by_cases hj : j < row.length
  have := ih (j + 1) (by omega) (by omega)
  rw [if_pos (by omega)]
  unfold Zp5
  rw [Option.bind_some, show row.length - j = (row.length - (j + 1)) + 1 by omega, ldR]
  by_cases h0 : rd row (j : Int) = 0
  rw [decide_eq_true h0, if_neg (by decide), if_pos h0]; exact this
  rw [decide_eq_false h0, if_pos (show (!false) = true from rfl), if_neg h0]; rfl
  rw [if_neg (by omega), show row.length - j = 0 by omega, ldR]; rfl
theorem Vc3 {row : List Int} (hK : row.length < K) : Yb0 K row = some (match ldR row row.length 0 with | some x => (x : Int) | none => -1) := by
 have := Wk9 (K := K) (row := row) K 0 (by omega) (by omega)
 unfold Yb0 K4
 replace this : (V4 K row (fun x => Zp5 K x) K 0).bind _ = _ := this
 rw [this]; rfl
theorem Wp9 {t : List (List Int)} (hK : t.length < K) (hw : ∀ i : Nat, i < t.length → (rd t (i : Int)).length = t.length) : ∀ (k j : Nat), t.length < j + k → j ≤ t.length →
 (D5 K t k j).bind (Ex.elim (fun r => some r) (fun _ => some (0, 0, false))) = some (prR t t.length (t.length - j) j) := by
 intro k
 induction k with
 | zero => intro j h1 h2; omega
 | succ k ih =>
  intro j h1 h2
  rw [D5]
  by_cases hj : j < t.length
  have := ih (j + 1) (by omega) (by omega)
  have hwj := hw j hj
  rw [if_pos (by omega), Vc3 (by omega), Option.bind_some, show t.length - j = (t.length - (j + 1)) + 1 by omega, prR, hwj]
  cases ldR (rd t (j : Int)) t.length 0 with
  | some x => exact congrArg (fun o => Option.bind o _) (if_pos (Int.natCast_nonneg x))
  | none => dsimp only; rw [if_neg (by decide)]; exact this
  rw [if_neg (by omega), show t.length - j = 0 by omega, prR]; rfl
theorem Wz7 (hK : 1099511627776 ≤ K) (hV : Vd a) : Zl0 K a = some (Zk6 a) := by
 have hl := T6 hV.dg
 have hlen := hV.len
 have h1 := Wp9 (K := K) (t := Yg0 a) (by rw [Zh5]; omega) (fun i hi => by
  rw [Zh5] at hi
  rw [Yk6 hi, Zp6, Zh5, hlen]) K 0 (by rw [Zh5]; omega) (by omega)
 unfold Zl0
 rw [show (a.1, a.2) = a from rfl, Wm5 hK hV, Option.bind_some]
 refine Eq.trans h1 ?_
 rw [Zh5]; rfl
theorem Xy4 {t : List (List Int)} {w : Nat} : ∀ (n i : Nat), (prR t w n i).2.2 = true → ∃ x y : Nat, prR t w n i = ((x : Int), (y : Int), true) ∧ i ≤ x ∧ x < i + n ∧ y < w ∧ rd (rd t (x : Int)) (y : Int) ≠ 0
 | 0, i, h => by cases h
 | n + 1, i, h => by
  rw [prR] at h ⊢
  cases hl : ldR (rd t (i : Int)) w 0 with
  | some k =>
   obtain ⟨h1, h2, h3⟩ := Xy0 _ _ _ hl
   exact ⟨i, k, rfl, Nat.le_refl _, by omega, by omega, h3⟩
  | none =>
   rw [hl] at h
   obtain ⟨x, y, h1, h2, h3, h4, h5⟩ := Xy4 n (i + 1) h
   exact ⟨x, y, h1, by omega, by omega, h4, h5⟩
/-- what a pair is -/
structure Pr (a : L4) (i k : Nat) : Prop where
 hi : i < a.1.length
 hk : k < a.1.length
 nz : Q1 (rd a.2 (i : Int)) (gn k 1) ≠ 0
theorem Yy3 (hV : Vd a) (h : (Zk6 a).2.2 = true) : ∃ i k : Nat, Zk6 a = ((i : Int), (k : Int), true) ∧ Pr a i k := by
 obtain ⟨x, y, h1, _, h3, h4, h5⟩ := Xy4 _ _ h
 have hlen := hV.len
 rw [Yk6 (by omega), Yg3 (by omega)] at h5
 exact ⟨x, y, h1, by omega, by omega, h5⟩
theorem Wn1 {s : MpT} {a : A8} (h : Q1 s a ≠ 0) : (a, Q1 s a) ∈ s := by
 unfold Q1 at h ⊢
 cases hq : s.find? (fun p => eq8 a p.1) with
 | none => rw [hq] at h; exact absurd rfl h
 | some p =>
  have hm := List.mem_of_find?_eq_some hq
  have he := Zi1.1 (List.find?_some (p := fun (q : A8 × Int) => eq8 a q.1) hq)
  show (a, p.2) ∈ s
  rw [he]; exact hm
/-- degrees of a pair -/
theorem Yy7 {i k : Nat} (hV : Vd a) (h : Pr a i k) : rd a.1 (k : Int) = rd a.1 (i : Int) + 1 ∧ i ≠ k ∧ 1 ≤ Q1 (rd a.2 (i : Int)) (gn k 1) ∧ Q1 (rd a.2 (i : Int)) (gn k 1) ≤ 10006 := by
 have hl := T6 hV.dg
 have hlen := hV.len
 have hh := hV.hm i (by have := h.hi; omega)
 have hm := Wn1 h.nz
 have hw := hh.w _ hm
 have hc := Zu0 hh.nf _ hm
 have hk := h.hk
 unfold wt at hw
 rw [Xx8 a.1 (by omega), if_pos h.hk, Int.mul_one] at hw
 refine ⟨hw, ?_, hc.1, hc.2⟩
 rintro rfl
 omega
end
section
variable {K : Nat} {gs ds sd : List Int} {ms imgs : List MpT} {a : L4}
/-! lists without some, on both sides -/
theorem Vh8 {x : Int} (hK : gs.length < K) : I6 K gs x K false 0 = some (.go (M7 gs x)) := by
 have := Yi4 (x := x) (I6 K gs x) (fun k b n => by rw [I6]) K 0 false (by omega) (by omega)
 exact this
theorem We7 (hK : 1099511627776 ≤ K) (hg : gs.length ≤ 8) (hl : ds.length ≤ 8) : Zo6 K ds gs = some (dsG gs ds) := by
 have key : ∀ (k j : Nat), ds.length < j + k → j ≤ ds.length → I7 K ds gs k j ((P1 gs j).map fun (j : Nat) => rd ds (j : Int)) = some (.go (dsG gs ds)) := by
  intro k
  induction k with
  | zero => intro j h1 h2; omega
  | succ k ih =>
   intro j h1 h2
   rw [I7]
   by_cases hj : j < ds.length
   have := ih (j + 1) (by omega) (by omega)
   have hs := Zn6 gs j
   rw [Zk4] at this
   rw [if_pos (by omega), Vh8 (by omega), Option.bind_some]
   by_cases e : M7 gs (j : Int) = true
   rw [if_pos e] at this
   show (if M7 gs (j : Int) = true then _ else _) = _
   rw [if_pos e]; exact this
   rw [if_neg e, List.map_append] at this
   show (if M7 gs (j : Int) = true then _ else _) = _
   rw [if_neg e, if_pos (by simp; omega)]; exact this
   rw [if_neg (by omega), show j = ds.length by omega]; rfl
 have := key K 0 (by omega) (by omega)
 unfold Zo6
 replace this : I7 K ds gs K 0 [] = _ := this
 rw [this]; rfl
theorem Wg7 {x : Int} : ∀ (k j : Nat), gs.length < j + k → j ≤ gs.length →
 ((J9 K gs x k j).bind (Ex.elim (fun r => some r) (fun _ => some (-1)))).bind (fun r => some (decide (0 ≤ r))) = some (M7 (gs.drop j) x) := by
 intro k
 induction k with
 | zero => intro j h1 h2; omega
 | succ k ih =>
  intro j h1 h2
  rw [J9]
  by_cases hj : j < gs.length
  have e : M7 (gs.drop j) x = (decide (rd gs (j : Int) = x) || M7 (gs.drop (j + 1)) x) := by
   unfold M7
   rw [List.drop_eq_getElem_cons hj, List.any_cons, G0 hj]
  rw [if_pos (by omega), e]
  by_cases h0 : x = rd gs (j : Int)
  rw [if_pos h0, decide_eq_true h0.symm]
  show some (decide ((0 : Int) ≤ (j : Int))) = _
  rw [decide_eq_true (Int.natCast_nonneg j)]; rfl
  rw [if_neg h0, decide_eq_false (fun h => h0 h.symm)]
  exact ih (j + 1) (by omega) (by omega)
  rw [if_neg (by omega), List.drop_eq_nil_of_le (by omega)]; rfl
theorem Wa4 {x : Int} (hK : gs.length < K) : Zh2 K gs x = some (M7 gs x) := by
 have := Wg7 (K := K) (gs := gs) (x := x) K 0 (by omega) (by omega)
 exact this
/-- the places of the generators -/
def plG (gs : List Int) (n : Nat) : List Int := (List.range n).map fun (j : Nat) => if M7 gs (j : Int) = true then -1 else ((P1 gs j).length : Int)
theorem Wb2 (n : Nat) : (plG gs n).length = n := by simp [plG]
theorem Wq2 (n : Nat) : plG gs (n + 1) = plG gs n ++ [if M7 gs (n : Int) = true then -1 else ((P1 gs n).length : Int)] := by unfold plG; rw [List.range_succ, List.map_append]; rfl
theorem Va5 {n j : Nat} (h : j < n) : rd (plG gs n) (j : Int) = if M7 gs (j : Int) = true then -1 else ((P1 gs j).length : Int) := Zy2 (by simp [plG, h])
theorem Wd5 (hK : 1099511627776 ≤ K) (hg : gs.length ≤ 8) (hl : ds.length ≤ 8) : Zh0 K (ds, imgs) gs = some (dsG gs ds, plG gs ds.length) := by
 have key : ∀ (k j : Nat), ds.length < j + k → j ≤ ds.length → N2 K (ds, imgs) gs k j (plG gs j) ((P1 gs j).map fun (j : Nat) => rd ds (j : Int)) = some (.go (plG gs ds.length, dsG gs ds)) := by
  intro k
  induction k with
  | zero => intro j h1 h2; omega
  | succ k ih =>
   intro j h1 h2
   rw [N2]
   dsimp only
   by_cases hj : j < ds.length
   have := ih (j + 1) (by omega) (by omega)
   have hs := Zn6 gs j
   have hp := Wb2 (gs := gs) j
   rw [Zk4, Wq2] at this
   rw [if_pos (by omega), Wa4 (by omega), Option.bind_some]
   by_cases e : M7 gs (j : Int) = true
   rw [if_pos e, if_pos e] at this
   rw [if_pos e, if_pos (by simp; omega)]; exact this
   rw [if_neg e, if_neg e, List.map_append] at this
   rw [if_neg e, if_pos (by simp; omega), if_pos (by simp; omega), List.length_map]; exact this
   rw [if_neg (by omega), show j = ds.length by omega]; rfl
 have := key K 0 (by omega) (by omega)
 unfold Zh0
 replace this : N2 K (ds, imgs) gs K 0 [] [] = _ := this
 rw [this]; rfl
theorem Wq6 {u : Int} {f : MpT} (hK : 1099511627776 ≤ K) (hd : okD ds = true) (hf : Hm u ds f) (hu : u ≤ 13) (hfl : f.length ≤ 1475789056) : Zj9 K ds f (plG gs ds.length) (dsG gs ds) = (M4 K (ds, dsG gs ds, nmG gs ds.length) f) := by
 have hl := T6 hd
 have key : ∀ (k j : Nat), ds.length < j + k → j ≤ ds.length → I5 K (plG gs ds.length) k j (nmG gs j) = some (.go (nmG gs ds.length)) := by
  intro k
  induction k with
  | zero => intro j h1 h2; omega
  | succ k ih =>
   intro j h1 h2
   have hp := Wb2 (gs := gs) ds.length
   rw [I5]
   by_cases hj : j < ds.length
   have := ih (j + 1) (by omega) (by omega)
   have hs := Zn6 gs j
   have hn := Ze1 gs j
   rw [Yt5] at this
   rw [if_pos (by omega), Va5 hj]
   by_cases e : M7 gs (j : Int) = true
   rw [if_pos e] at this
   rw [if_pos e, if_pos (by decide), if_pos (by simp; omega)]; exact this
   rw [if_neg e] at this
   have e1 : F6 ([] : MpT) (gn (P1 gs j).length 1) 1 = [(gn (P1 gs j).length 1, 1)] := rfl
   rw [if_neg e, if_neg (by omega), Zv4 (by omega), Option.bind_some, e1, if_pos (by simp; omega)]; exact this
   rw [if_neg (by omega), show j = ds.length by omega]
 have := key K 0 (by omega) (by omega)
 unfold Zj9
 replace this : I5 K (plG gs ds.length) K 0 [] = _ := this
 rw [this, Option.bind_some]
 show (M4 K (ds, dsG gs ds, nmG gs ds.length) f).bind _ = _
 cases M4 K (ds, dsG gs ds, nmG gs ds.length) f <;> rfl
/-! multiples, and terms that are led to nothing -/
theorem Vc4 (n : Nat) (c : Int) (X : MpT) : rnL gs n (Xl2 c X) = Xl2 c (rnL gs n X) := by
 unfold Xl2
 rw [Xx2]
 have e : ∀ T : MpT, rnF gs n (scl c T) = scl c (rnF gs n T) := by
  intro T
  induction T with
  | nil => rfl
  | cons t T ih =>
   have e1 : rnF gs n (scl c (t :: T)) = rn1 gs n (t.1, c * t.2) ++ rnF gs n (scl c T) := rfl
   have e2 : scl c (rnF gs n (t :: T)) = scl c (rn1 gs n t) ++ scl c (rnF gs n T) := by
    show scl c (rn1 gs n t ++ rnF gs n T) = _
    unfold scl; rw [List.map_append]
   rw [e1, e2, ih]
   congr 1
   unfold rn1 scl
   split <;> rfl
 unfold rnL
 rw [e]
 refine Yl6 (fun a => ?_)
 rw [Yx7, Yx7, Int.mul_emod, ← Yq4 a (rnF gs n X), ← Int.mul_emod]
theorem Xr9 {k : Nat} {c : Int} (hk : k < 8) (h0 : rd ms (k : Int) = []) : ∀ j, k < j → prT ds ms (gn k 1) c j = []
 | 0, h => by omega
 | j + 1, h => by
  rw [prT, Zy9 hk]
  by_cases e : j = k
  subst e
  rw [if_pos rfl, if_pos (by decide), h0]
  have e1 : ∀ s : MpT, Zp0 ds s [] = [] := fun s => by
   have : D4 ds s [] = [] := by
    induction s with
    | nil => rfl
    | cons z s ih => show P9 ds z [] ++ D4 ds s [] = []; rw [ih]; rfl
   unfold Zp0; rw [this]; rfl
  show Zp0 ds _ (Zp0 ds [((fun _ => 0), 1)] []) = []
  rw [e1, e1]
  rw [if_neg e, if_neg (by decide)]
  exact Xr9 hk h0 j (by omega)
theorem Wn6 {k n : Nat} (hk : k < 8) (hkn : k < n) (h0 : rd ms (k : Int) = []) (f : MpT) : N8 ds ms n (Zk5 f (gn k 1)) = N8 ds ms n f := by
 unfold N8 Yk1
 congr 1
 induction f with
 | nil => rfl
 | cons t f ih =>
  unfold Zk5 at ih ⊢
  rw [List.filter_cons, List.flatMap_cons]
  cases e : eq8 (gn k 1) t.1 with
  | true =>
   rw [← Zi1.1 e, Xr9 hk h0 n hkn]
   simpa using ih
  | false =>
   simp only [Bool.not_false, if_true, List.flatMap_cons]
   rw [ih]
theorem Xl9 {u : Int} {f : MpT} {p : A8} (hf : Hm u ds f) : Hm u ds (Zk5 f p) :=
 ⟨Ye7 (Yu1 (P8 hf.nf) p) (fun q hq => Zu0 hf.nf q (Zw3.1 hq).1), fun q hq => hf.mo q (Zw3.1 hq).1, fun q hq => hf.w q (Zw3.1 hq).1⟩
theorem Wp7 (f : MpT) (p : A8) : (Zk5 f p).length ≤ f.length := List.length_filter_le _ _
/-! what a contracted pair gives -/
def ctK (c : Int) : Int := (0 - inv c) % 10007
def ctW (a : L4) (i k : Nat) : MpT := Xl2 (ctK (Q1 (rd a.2 (i : Int)) (gn k 1))) (N8 (dsG [(i : Int), (k : Int)] a.1) (nmG [(i : Int), (k : Int)] a.1.length) a.1.length (rd a.2 (i : Int)))
def ctM (a : L4) (i k : Nat) : List MpT := (nmG [(i : Int), (k : Int)] a.1.length).set k (ctW a i k)
def ctD (a : L4) (i k : Nat) : List Int := dsG [(i : Int), (k : Int)] a.1
def ctO (a : L4) (i k : Nat) : List MpT := Zm6 [(i : Int), (k : Int)] (ctD a i k) (ctM a i k) a.2 a.1.length a.1.length
def ctB (a : L4) (i k : Nat) : Bool := (ctM a i k).all (fun f => decide (f.length ≤ 400)) && (ctO a i k).all (fun f => decide (f.length ≤ 400))
abbrev CtT := (List Int × List MpT) × List MpT × Int
def ctR (a : L4) (i k : Nat) : CtT := if ctB a i k = true then ((ctD a i k, ctO a i k), ctM a i k, 0) else (([], []), [], 3)
theorem Xh2 {i k : Nat} (j : Nat) : M7 [(i : Int), (k : Int)] (j : Int) = true ↔ j = i ∨ j = k := by
 unfold M7
 simp only [List.any_cons, List.any_nil, Bool.or_false, Bool.or_eq_true, decide_eq_true_eq]
 omega
theorem Wv3 {i k : Nat} (hV : Vd a) (h : Pr a i k) : Hm (rd a.1 (k : Int)) (ctD a i k) (ctW a i k) := by
 have hpos := D8 hV.dg
 have hlen := hV.len
 obtain ⟨h1, h2, h3⟩ := Yy7 hV h
 have hi := h.hi
 have hk := hpos _ (V7 h.hk)
 rw [h1]
 exact Wa8 (Zr7 (Xk3 hV.dg) (hV.hm i (by omega)) (by omega))
theorem Ym3 {i k : Nat} (hV : Vd a) (h : Pr a i k) : Lds a.1 (ctD a i k) (ctM a i k) := by
 have hL := Xk3 (gs := [(i : Int), (k : Int)]) hV.dg
 refine ⟨hL.src, hL.dst, by unfold ctM; rw [List.length_set]; exact hL.len, fun j hj => ?_⟩
 unfold ctM at hj ⊢
 rw [List.length_set] at hj
 rw [Yz0 hj]
 by_cases e : j = k
 subst e; rw [if_pos rfl]; exact Wv3 hV h
 rw [if_neg e]; exact hL.hm j hj
theorem Yk4 {i k : Nat} : (ctM a i k).length = a.1.length := by unfold ctM; rw [List.length_set, Ze1]
theorem Xn0 {c : Int} (hc : 1 ≤ c ∧ c ≤ 10006) : -10006 ≤ 0 - inv c ∧ 0 - inv c ≤ -1 := by have := Ww6 hc; omega
theorem Wb7 {c : Int} (hc : 1 ≤ c ∧ c ≤ 10006) : 1 ≤ ctK c ∧ ctK c ≤ 10006 := by
 have := Xn0 hc
 unfold ctK; omega
theorem Vc7 {i k : Nat} (hK : 1099511627776 ≤ K) (hV : Vd a) (h : Pr a i k) : Zm7 K a i k = some (ctR a i k) := by
 have hl := T6 hV.dg
 have hlen := hV.len
 have hi := h.hi
 have hk := h.hk
 obtain ⟨h1, h2, h3⟩ := Yy7 hV h
 have hpos := D8 hV.dg
 have hwk := hpos _ (V7 hk)
 have hfi := hV.hm i (by omega)
 have hsh := hV.short _ (V7 (show i < a.2.length by omega))
 have hLn := Xk3 (gs := [(i : Int), (k : Int)]) hV.dg
 have hX := Zr7 hLn hfi (by omega)
 have hXl := hX.len
 have hneg := Xn0 h3
 have hcv := Wb7 h3
 unfold Zm7
 rw [We7 hK (by simp) hl, Option.bind_some, Xw8 hK (by simp) hl, Option.bind_some, show (a.1, a.2) = a from rfl, Xq3 hK hV, Option.bind_some, Zh5, if_pos (by omega), if_pos (by omega), if_pos (by omega), Yk6 (by omega), Zp6, if_pos (by omega), if_pos (by omega),
  Xf9 hK hLn (Zz4 hfi (by omega)) (by omega), Option.bind_some, Yg3 hk, Wf1 hK h3, Option.bind_some, Yi2, Option.bind_some, IntWalk.i64_in _ (by omega)]
 show ((Zf6 K [] _ (ctK (Q1 (rd a.2 (i : Int)) (gn k 1)))).bind _) = _
 rw [Xg9 (by omega) (by simp; omega) (by omega) Vf8 (Za8 hX.nf) (by simp) (by omega), Option.bind_some, Yp8 B8 (P8 hX.nf), Ze1, if_pos (by omega), Int.toNat_natCast]
 show ((Zf5 K (ctD a i k) (ctM a i k)).bind _) = _
 have hL := Ym3 hV h
 rw [Xu7 hK hL.dst (by rw [Yk4]; exact hl) (fun f hf => by
  obtain ⟨n, hn, rfl⟩ := List.getElem_of_mem hf
  have := hL.hm n hn
  rw [G0 hn] at this
  exact ⟨_, this⟩), Option.bind_some]
 by_cases hA : ((ctM a i k).all fun f => decide (f.length ≤ 400)) = true
 rw [if_pos hA, if_pos rfl]
 show ((Zm1 K (a.1, a.2) (ctD a i k) (ctM a i k) [(i : Int), (k : Int)]).bind _) = _
 rw [Wk8 hK hL (by simp) hlen (fun j hj => ⟨hV.hm j hj, by have := hV.short _ (V7 hj); omega⟩), Option.bind_some]
 show (if (Xf0 (ctD a i k) (ctO a i k)).2 = 0 then some (((Xf0 (ctD a i k) (ctO a i k)).1.1, (Xf0 (ctD a i k) (ctO a i k)).1.2), ctM a i k, (0 : Int)) else some ((([] : List Int), ([] : List MpT)), ([] : List MpT), (Xf0 (ctD a i k) (ctO a i k)).2)) = _
 unfold Xf0 ctR ctB
 rw [hA, Bool.true_and]
 by_cases hB : ((ctO a i k).all fun f => decide (f.length ≤ 400)) = true
 rw [if_pos hB, if_pos rfl, if_pos hB]
 rw [if_neg hB, if_neg (by decide), if_neg hB]
 rw [if_neg hA, if_neg (by decide)]
 unfold ctR ctB
 rw [if_neg (by simp only [Bool.and_eq_true]; exact fun h => hA h.1)]
/-! the other side -/
def Ys3 (a : L4) (i : Nat) : List MpT := (nmG [] a.1.length).set i []
def Xd7 (a : L4) (i k : Nat) : MpT := Xl2 (ctK (Q1 (rd a.2 (i : Int)) (gn k 1))) (N8 a.1 (Ys3 a i) a.1.length (Zk5 (rd a.2 (i : Int)) (gn k 1)))
def ctY (a : L4) (i k : Nat) : List MpT := (Ys3 a i).set k (Xd7 a i k)
theorem Yt3 {i : Nat} (hV : Vd a) (hi : i < a.1.length) : Lds a.1 a.1 (Ys3 a i) := Ww3 hV.dg hi (Hm.nil _ _)
theorem Wy0 {i k : Nat} (hV : Vd a) (h : Pr a i k) : Hm (rd a.1 (k : Int)) a.1 (Xd7 a i k) := by
 have hpos := D8 hV.dg
 have hlen := hV.len
 obtain ⟨h1, h2, h3⟩ := Yy7 hV h
 have hi := h.hi
 have hk := hpos _ (V7 h.hk)
 rw [h1]
 exact Wa8 (Zr7 (Yt3 hV hi) (Xl9 (hV.hm i (by omega))) (by omega))
theorem Wz3 {i k : Nat} (hV : Vd a) (h : Pr a i k) : Lds a.1 a.1 (ctY a i k) := by
 have hL := Yt3 hV h.hi
 refine ⟨hL.src, hL.dst, by unfold ctY; rw [List.length_set]; exact hL.len, fun j hj => ?_⟩
 unfold ctY at hj ⊢
 rw [List.length_set] at hj
 rw [Yz0 hj]
 by_cases e : j = k
 subst e; rw [if_pos rfl]; exact Wy0 hV h
 rw [if_neg e]; exact hL.hm j hj
theorem Vf2 {xs ys : List MpT} (hl : xs.length = ys.length) (h : ∀ j : Nat, j < xs.length → rd xs (j : Int) = rd ys (j : Int)) : xs = ys := by
 refine List.ext_getElem hl (fun j h1 h2 => ?_)
 have := h j h1
 rwa [G0 h1, G0 h2] at this
theorem Wx2 (n : Nat) : rnL gs n [] = [] := rfl
theorem Wb5 {i k : Nat} (hV : Vd a) (h : Pr a i k) : (Ys3 a i).map (rnL [(i : Int), (k : Int)] a.1.length) = nmG [(i : Int), (k : Int)] a.1.length := by
 have hl := T6 hV.dg
 refine Vf2 (by simp [Ys3, Ze1]) (fun j hj => ?_)
 unfold Ys3 at hj ⊢
 rw [List.length_map, List.length_set, Ze1] at hj
 rw [Yy2 (by rw [List.length_set, Ze1]; exact hj), Yz0 (by rw [Ze1]; exact hj), Xw7 (gs := [(i : Int), (k : Int)]) hj]
 by_cases e : j = i
 subst e; rw [if_pos rfl, if_pos ((Xh2 j).2 (.inl rfl)), Wx2]
 rw [if_neg e, Xi0 hj]; exact Wi0 hl hj
theorem Va7 {i k : Nat} (hV : Vd a) (h : Pr a i k) : (ctY a i k).map (rnL [(i : Int), (k : Int)] a.1.length) = ctM a i k := by
 have hl := T6 hV.dg
 have hlen := hV.len
 have hi := h.hi
 have hk := h.hk
 obtain ⟨h1, h2, h3⟩ := Yy7 hV h
 have hwk := D8 hV.dg _ (V7 hk)
 have e1 : (ctY a i k).map (rnL [(i : Int), (k : Int)] a.1.length) = (nmG [(i : Int), (k : Int)] a.1.length).set k (rnL [(i : Int), (k : Int)] a.1.length (Xd7 a i k)) := by
  unfold ctY
  rw [List.map_set, Wb5 hV h]
 rw [e1]
 unfold ctM ctW Xd7
 rw [Vc4, Xt4 (Yt3 hV hi) (Zz4 (Xl9 (hV.hm i (by omega))) (by omega)), Wb5 hV h, Wn6 (by omega) hk (by rw [Xw7 hk, if_pos ((Xh2 k).2 (.inr rfl))])]
theorem Ve9 {i k : Nat} {u : Int} {s : MpT} (hK : 1099511627776 ≤ K) (hV : Vd a) (h : Pr a i k) (hs : Hm u a.1 s) (hu : u ≤ 13) (hsl : s.length ≤ 2000000) :
 E0 K s a (ctY a i k) (plG [(i : Int), (k : Int)] a.1.length) (ctD a i k) = some (if 400 < (N8 (ctD a i k) (ctM a i k) a.1.length s).length then ([], 3) else (N8 (ctD a i k) (ctM a i k) a.1.length s, 0)) := by
 have hY := Wz3 hV h
 have hX := Zr7 hY hs hu
 have hXl := hX.len
 have hL := Ym3 hV h
 have hZ := Zr7 hL hs hu
 unfold E0 Zc5
 rw [Xl6 hK hY (Zz4 hs hu) hsl, Option.bind_some, Option.bind_some]
 show ((Zj9 K a.1 _ (plG [(i : Int), (k : Int)] a.1.length) (dsG [(i : Int), (k : Int)] a.1)).bind _) = _
 have hp : M4 K (a.1, dsG [(i : Int), (k : Int)] a.1, nmG [(i : Int), (k : Int)] a.1.length) (N8 a.1 (ctY a i k) a.1.length s) = some (N8 (dsG [(i : Int), (k : Int)] a.1) (nmG [(i : Int), (k : Int)] a.1.length) a.1.length (N8 a.1 (ctY a i k) a.1.length s)) := by
  have hLn := Xk3 (gs := [(i : Int), (k : Int)]) hV.dg
  have := Xg0 (K := K) hK hLn K (N8 a.1 (ctY a i k) a.1.length s) [] (by omega) (Zz4 hX hu) B8 (fun t ht => by cases ht)
  unfold M4
  replace this : S1 K (a.1, dsG [(i : Int), (k : Int)] a.1, nmG [(i : Int), (k : Int)] a.1.length) K (N8 a.1 (ctY a i k) a.1.length s) [] = _ := this
  rw [this]; rfl
 rw [Wq6 hK hV.dg hX hu hXl, hp, Option.bind_some, Wv1 hY hs hu, Va7 hV h]
 show ((A9 K (N8 (ctD a i k) (ctM a i k) a.1.length s)).bind _) = _
 rw [Xm9 hK hZ]; rfl
def Yb8 (a : L4) (i k j : Nat) : Bool := decide ((rd (ctM a i k) (j : Int)).length ≤ 400) && (M7 [(i : Int), (k : Int)] (j : Int) || decide ((N8 (ctD a i k) (ctM a i k) a.1.length (rd a.2 (j : Int))).length ≤ 400))
theorem Wn4 {i k : Nat} (hK : 1099511627776 ≤ K) (hV : Vd a) (h : Pr a i k) {f9 : MpT} {r9 : List MpT} {d1 : List Int × List Int} (hY : (r9.set i ([] : MpT)).set k f9 = ctY a i k) (hd1 : d1 = (ctD a i k, plG [(i : Int), (k : Int)] a.1.length)) :
 ∀ (m j : Nat), a.1.length < j + m → j ≤ a.1.length → S8 K a i k f9 d1 r9 m j ((ctM a i k).take j) (Zm6 [(i : Int), (k : Int)] (ctD a i k) (ctM a i k) a.2 a.1.length j) =
  some (if ((List.range' j (a.1.length - j)).all (Yb8 a i k)) = true then .go (ctO a i k, ctM a i k) else .ret (([], []), [], 3)) := by
 have hl := T6 hV.dg
 have hlen := hV.len
 have hL := Ym3 hV h
 intro m
 induction m with
 | zero => intro j h1 h2; omega
 | succ m ih =>
  intro j h1 h2
  rw [S8]
  by_cases hj : j < a.1.length
  have hpj := D8 hV.dg _ (V7 hj)
  have hr : List.range' j (a.1.length - j) = j :: List.range' (j + 1) (a.1.length - (j + 1)) := by
   rw [show a.1.length - j = (a.1.length - (j + 1)) + 1 by omega, List.range'_succ]
  have hml : (ctM a i k).length = a.1.length := Yk4
  have hol : (Zm6 [(i : Int), (k : Int)] (ctD a i k) (ctM a i k) a.2 a.1.length j).length ≤ 8 := by unfold Zm6; rw [List.length_map]; have := Zn6 [(i : Int), (k : Int)] j; omega
  have e1 : F6 ([] : MpT) (gn j 1) 1 = [(gn j 1, 1)] := rfl
  have hc1 := Ve9 (K := K) hK hV h (Yz2 hV.dg hj (show 1 ≤ (1 : Int) ∧ (1 : Int) ≤ 10006 by decide)) (by omega) (by simp)
  rw [Wy1 hL hj] at hc1
  have ih' := ih (j + 1) (by omega) (by omega)
  rw [Zl7 (by rw [hml]; exact hj)] at ih'
  have ho : Zm6 [(i : Int), (k : Int)] (ctD a i k) (ctM a i k) a.2 a.1.length (j + 1) = if M7 [(i : Int), (k : Int)] (j : Int) = true then Zm6 [(i : Int), (k : Int)] (ctD a i k) (ctM a i k) a.2 a.1.length j else Zm6 [(i : Int), (k : Int)] (ctD a i k) (ctM a i k) a.2 a.1.length j ++ [N8 (ctD a i k) (ctM a i k) a.1.length (rd a.2 (j : Int))] := by
   unfold Zm6; rw [Zk4]; split
   rfl
   rw [List.map_append]; rfl
  rw [ho] at ih'
  rw [if_pos (by omega), Zv4 (by omega), Option.bind_some, e1, show (a.1, a.2) = a from rfl, Int.toNat_natCast, Int.toNat_natCast, hY, hd1]
  dsimp only
  rw [hc1, Option.bind_some, hr, List.all_cons]
  rw [hd1] at ih'
  by_cases h4 : 400 < (rd (ctM a i k) (j : Int)).length
  have ek : Yb8 a i k j = false := by unfold Yb8; rw [decide_eq_false (by omega), Bool.false_and]
  rw [if_pos h4, ek]; rfl
  have hnj : (rd (ctM a i k) (j : Int)).length ≤ 400 := by omega
  rw [if_neg h4]
  dsimp only
  rw [if_pos rfl, if_pos (by simp; omega)]
  by_cases hg : M7 [(i : Int), (k : Int)] (j : Int) = true
  have ek : Yb8 a i k j = true := by unfold Yb8; rw [decide_eq_true hnj, hg]; rfl
  rw [if_pos hg] at ih'
  have hij := (Xh2 (i := i) (k := k) j).1 hg
  have goal : S8 K a i k f9 (ctD a i k, plG [(i : Int), (k : Int)] a.1.length) r9 m ((j : Int) + 1) ((ctM a i k).take j ++ [rd (ctM a i k) (j : Int)]) (Zm6 [(i : Int), (k : Int)] (ctD a i k) (ctM a i k) a.2 a.1.length j) = some (if (Yb8 a i k j && (List.range' (j + 1) (a.1.length - (j + 1))).all (Yb8 a i k)) = true then .go (ctO a i k, ctM a i k) else .ret (([], []), [], 3)) := by
   rw [ek, Bool.true_and]; exact ih'
  by_cases ei : (j : Int) = (i : Int)
  rw [if_pos ei]
  unfold J6
  rw [if_pos rfl]; exact goal
  have ek2 : (j : Int) = (k : Int) := by omega
  rw [if_neg ei, decide_eq_true ek2]
  unfold J6
  rw [if_pos rfl]; exact goal
  have hij : ¬ (j = i ∨ j = k) := fun hh => hg ((Xh2 j).2 hh)
  have hgf : M7 [(i : Int), (k : Int)] (j : Int) = false := by simpa using hg
  rw [if_neg hg] at ih'
  have hfj := hV.hm j (by omega)
  have hsj := hV.short _ (V7 (show j < a.2.length by omega))
  rw [if_neg (by omega), decide_eq_false (by omega)]
  unfold J6
  dsimp only
  rw [if_neg (by decide), if_pos (by omega), Yg2 (by omega) (by omega) (Yr5 hfj) (P8 hfj.nf), Option.bind_some, show (a.1, a.2) = a from rfl, Int.toNat_natCast, Int.toNat_natCast, hY, Ve9 hK hV h hfj (by omega) (by omega), Option.bind_some]
  by_cases h5 : 400 < (N8 (ctD a i k) (ctM a i k) a.1.length (rd a.2 (j : Int))).length
  have ek : Yb8 a i k j = false := by unfold Yb8; rw [hgf, Bool.false_or, decide_eq_false (show ¬ (N8 (ctD a i k) (ctM a i k) a.1.length (rd a.2 (j : Int))).length ≤ 400 by omega), Bool.and_false]
  rw [if_pos h5, ek]; rfl
  have ek : Yb8 a i k j = true := by unfold Yb8; rw [decide_eq_true hnj, decide_eq_true (show (N8 (ctD a i k) (ctM a i k) a.1.length (rd a.2 (j : Int))).length ≤ 400 by omega), Bool.or_true]; rfl
  rw [if_neg h5, ek, Bool.true_and]
  dsimp only
  rw [if_pos rfl, if_pos (by simp; omega)]
  exact ih'
  rw [if_neg (by omega), show j = a.1.length by omega, Nat.sub_self, List.take_of_length_le (by rw [Yk4]; exact Nat.le_refl _)]; rfl
theorem Ws4 {i k : Nat} : ((List.range a.1.length).all (Yb8 a i k)) = ctB a i k := by
 rw [Bool.eq_iff_iff]
 unfold ctB
 rw [Bool.and_eq_true, List.all_eq_true, List.all_eq_true, List.all_eq_true]
 constructor
 intro h
 refine ⟨fun f hf => ?_, fun f hf => ?_⟩
 obtain ⟨n, hn, rfl⟩ := List.getElem_of_mem hf
 have := h n (List.mem_range.2 (by rw [Yk4] at hn; exact hn))
 unfold Yb8 at this
 rw [Bool.and_eq_true, G0 hn] at this
 exact this.1
 unfold ctO Zm6 at hf
 obtain ⟨j, hj, rfl⟩ := List.mem_map.1 hf
 have := h j (List.mem_range.2 (Ym7 hj).1)
 unfold Yb8 at this
 rw [Bool.and_eq_true, (Ym7 hj).2, Bool.false_or] at this
 exact this.2
 intro h j hj
 have hj := List.mem_range.1 hj
 unfold Yb8
 rw [Bool.and_eq_true]
 refine ⟨h.1 _ (V7 (by rw [Yk4]; exact hj)), ?_⟩
 cases hg : M7 [(i : Int), (k : Int)] (j : Int) with
 | true => rfl
 | false =>
  rw [Bool.false_or]
  refine h.2 _ ?_
  unfold ctO Zm6
  exact List.mem_map.2 ⟨j, List.mem_filter.2 ⟨List.mem_range.2 hj, by rw [hg]; rfl⟩, rfl⟩
theorem Vb9 {i k : Nat} (hK : 1099511627776 ≤ K) (hV : Vd a) (h : Pr a i k) : Zg1 K a i k = some (ctR a i k) := by
 have hl := T6 hV.dg
 have hlen := hV.len
 have hi := h.hi
 have hk := h.hk
 obtain ⟨h1, h2, h3⟩ := Yy7 hV h
 have hwk := D8 hV.dg _ (V7 hk)
 have hfi := hV.hm i (by omega)
 have hsh := hV.short _ (V7 (show i < a.2.length by omega))
 have hY0 := Yt3 hV hi
 have hmd := Xl9 (p := gn k 1) hfi
 have hml := Wp7 (rd a.2 (i : Int)) (gn k 1)
 have hX := Zr7 hY0 hmd (by omega)
 have hXl := hX.len
 have hneg := Xn0 h3
 have hcv := Wb7 h3
 have Z3 : Zc5 K a.1 (Zk5 (rd a.2 (i : Int)) (gn k 1)) (Ys3 a i) = some (N8 a.1 (Ys3 a i) a.1.length (Zk5 (rd a.2 (i : Int)) (gn k 1))) := by
  unfold Zc5
  rw [Xl6 hK hY0 (Zz4 hmd (by omega)) (by omega)]; rfl
 unfold Zg1
 rw [Wk3 hK hl, Option.bind_some, if_pos (by omega), if_pos (by omega), Yg2 (by omega) (by omega) (Yr5 hfi) (P8 hfi.nf), Option.bind_some, Zv4 (by omega), Option.bind_some, Option.bind_some, Ze1, if_pos (by omega), Int.toNat_natCast]
 show ((Zc5 K a.1 (Zk5 (rd a.2 (i : Int)) (gn k 1)) (Ys3 a i)).bind _) = _
 rw [Z3, Option.bind_some, Wg2 hK h3, Option.bind_some, IntWalk.i64_in _ (by omega), Xh7, Option.bind_some]
 show ((N0 K [] _ (ctK (Q1 (rd a.2 (i : Int)) (gn k 1)))).bind _) = _
 rw [Xd6 (by omega) (by omega) (Za8 hX.nf) B8, Option.bind_some, if_pos (by omega), List.length_set, Ze1, if_pos (by omega), Wd5 hK (by simp) hl, Option.bind_some]
 have hloop := Wn4 (K := K) hK hV h (f9 := Xd7 a i k) (r9 := nmG [] a.1.length) (d1 := (dsG [(i : Int), (k : Int)] a.1, plG [(i : Int), (k : Int)] a.1.length)) rfl rfl K 0 (by omega) (by omega)
 rw [Nat.sub_zero, ← List.range_eq_range', Ws4] at hloop
 replace hloop : S8 K a i k (Xd7 a i k) (dsG [(i : Int), (k : Int)] a.1, plG [(i : Int), (k : Int)] a.1.length) (nmG [] a.1.length) K 0 [] [] = _ := hloop
 show ((S8 K a i k (Xd7 a i k) (dsG [(i : Int), (k : Int)] a.1, plG [(i : Int), (k : Int)] a.1.length) (nmG [] a.1.length) K 0 [] []).bind _) = _
 rw [hloop, Option.bind_some]
 unfold ctR
 by_cases hB : ctB a i k = true
 rw [if_pos hB, if_pos hB]; rfl
 rw [if_neg hB, if_neg hB]; rfl
/-- what is left is again such an algebra, of fewer generators -/
theorem Wf5 {i k : Nat} (hV : Vd a) (h : Pr a i k) (hB : ctB a i k = true) : Vd (ctD a i k, ctO a i k) ∧ (ctD a i k).length < a.1.length := by
 have hL := Ym3 hV h
 have hlen := hV.len
 refine ⟨⟨hL.dst, by unfold ctO Zm6 ctD; rw [List.length_map, Yf5], fun j hj => ?_, fun f hf => ?_⟩, ?_⟩
 unfold ctO Zm6 at hj ⊢
 rw [List.length_map] at hj
 have hm := Ym7 (List.getElem_mem hj)
 have hp := D8 hV.dg _ (V7 hm.1)
 have e1 : rd ((P1 [(i : Int), (k : Int)] a.1.length).map fun (t : Nat) => N8 (ctD a i k) (ctM a i k) a.1.length (rd a.2 (t : Int))) (j : Int) = N8 (ctD a i k) (ctM a i k) a.1.length (rd a.2 (((P1 [(i : Int), (k : Int)] a.1.length)[j] : Nat) : Int)) := Zy2 (by rw [List.getElem?_map, List.getElem?_eq_getElem hj]; rfl)
 have e2 : rd (ctD a i k) (j : Int) = rd a.1 (((P1 [(i : Int), (k : Int)] a.1.length)[j] : Nat) : Int) := Zy2 (by unfold ctD dsG; rw [List.getElem?_map, List.getElem?_eq_getElem hj]; rfl)
 show Hm (rd (ctD a i k) (j : Int) + 1) (ctD a i k) _
 rw [e1, e2]
 exact Zr7 hL (hV.hm _ (by omega)) (by omega)
 unfold ctB at hB
 rw [Bool.and_eq_true] at hB
 exact of_decide_eq_true (List.all_eq_true.1 hB.2 f hf)
 unfold ctD
 rw [Yf5]
 have h1 := Wy5 (gs := [(i : Int), (k : Int)]) (j := i + 1) (n := a.1.length) h.hi
 have hcount : ∀ m, i < m → (P1 [(i : Int), (k : Int)] m).length < m := by
  intro m
  induction m with
  | zero => intro h; omega
  | succ m ih =>
   intro hm
   rw [Zk4]
   by_cases e : i = m
   subst e
   rw [if_pos ((Xh2 i).2 (.inl rfl))]
   have := Zn6 [(i : Int), (k : Int)] i
   omega
   have := ih (by omega)
   split
   omega
   rw [List.length_append]; simp; omega
 exact hcount _ h.hi
end
/-- both sides' reduction, with so many rounds at most -/
def Yo9 : Nat → L4 → List MpT → CtT
 | 0, _, _ => (([], []), [], 3)
 | n + 1, a, pj =>
  if (Zk6 a).2.2 = true then
   if ctB a (Zk6 a).1.toNat (Zk6 a).2.1.toNat = true then
    if ((pj.map fun f => N8 (ctD a (Zk6 a).1.toNat (Zk6 a).2.1.toNat) (ctM a (Zk6 a).1.toNat (Zk6 a).2.1.toNat) a.1.length f).all fun f => decide (f.length ≤ 400)) = true then
     Yo9 n (ctD a (Zk6 a).1.toNat (Zk6 a).2.1.toNat, ctO a (Zk6 a).1.toNat (Zk6 a).2.1.toNat) (pj.map fun f => N8 (ctD a (Zk6 a).1.toNat (Zk6 a).2.1.toNat) (ctM a (Zk6 a).1.toNat (Zk6 a).2.1.toNat) a.1.length f)
    else (([], []), [], 3)
   else (([], []), [], 3)
  else (a, pj, 0)
/-- forms for this algebra -/
structure Pj (ds : List Int) (pj : List MpT) : Prop where
 len : pj.length ≤ 8
 hm : ∀ f, f ∈ pj → (∃ u, u ≤ 13 ∧ Hm u ds f) ∧ f.length ≤ 400
section
variable {K : Nat} {a : L4} {ds : List Int} {pj : List MpT}
theorem Pj.led {sd : List Int} {ms : List MpT} (h : Pj sd pj) (hL : Lds sd ds ms) (hs : ((pj.map fun f => N8 ds ms sd.length f).all fun f => decide (f.length ≤ 400)) = true) : Pj ds (pj.map fun f => N8 ds ms sd.length f) := by
 refine ⟨by rw [List.length_map]; exact h.len, fun g hg => ?_⟩
 have h4 := of_decide_eq_true (List.all_eq_true.1 hs g hg)
 obtain ⟨f, hf, rfl⟩ := List.mem_map.1 hg
 obtain ⟨⟨u, hu, hh⟩, _⟩ := h.hm f hf
 exact ⟨⟨u, hu, Zr7 hL hh hu⟩, h4⟩
theorem Xf2 (hd : okD ds = true) : Pj ds (nmG [] ds.length) := by
 have hl := T6 hd
 refine ⟨by rw [Ze1]; exact hl, fun f hf => ?_⟩
 obtain ⟨n, hn, rfl⟩ := List.getElem_of_mem hf
 have e := Xi0 (show n < ds.length by rwa [Ze1] at hn)
 rw [G0 hn] at e
 rw [e]
 rw [Ze1] at hn
 have hp := D8 hd _ (V7 hn)
 exact ⟨⟨_, by omega, Yz2 hd hn (by decide)⟩, by simp⟩
/-! the one side -/
theorem Wz6 {b3 : CtT} {sd : List Int} (hK : 1099511627776 ≤ K) (hL : Lds sd b3.1.1 b3.2.1) (hp : Pj sd pj) : ∀ (k j : Nat), pj.length < j + k → j ≤ pj.length →
 B5 K b3 pj k j ((pj.map fun f => N8 b3.1.1 b3.2.1 sd.length f).take j) = some (.go (pj.map fun f => N8 b3.1.1 b3.2.1 sd.length f)) := by
 have hlen := hp.len
 intro k
 induction k with
 | zero => intro j h1 h2; omega
 | succ k ih =>
  intro j h1 h2
  rw [B5]
  by_cases hj : j < pj.length
  obtain ⟨⟨u, hu, hh⟩, h4⟩ := hp.hm _ (V7 hj)
  have := ih (j + 1) (by omega) (by omega)
  rw [Zl7 (by rw [List.length_map]; exact hj), Yy2 hj] at this
  rw [if_pos (by omega), Xf9 hK hL (Zz4 hh hu) (by omega), Option.bind_some, if_pos (by simp; omega)]
  exact this
  rw [if_neg (by omega), List.take_of_length_le (by rw [List.length_map]; omega)]
theorem Wc7 (hK : 1099511627776 ≤ K) : ∀ (k : Nat) (a : L4) (pj : List MpT), Vd a → Pj a.1 pj → a.1.length < k → C2 K k pj a.1 a.2 = some (.ret (Yo9 k a pj))
 | 0, _, _, _, _, h => by omega
 | k + 1, a, pj, hV, hp, h => by
  rw [C2, show (a.1, a.2) = a from rfl, Wv6 hK hV, Option.bind_some, Yo9]
  by_cases hpr : (Zk6 a).2.2 = true
  obtain ⟨i, j, he, hP⟩ := Yy3 hV hpr
  rw [if_pos hpr, if_pos hpr, he]
  dsimp only
  rw [Int.toNat_natCast, Int.toNat_natCast, Vc7 hK hV hP, Option.bind_some]
  unfold ctR
  by_cases hB : ctB a i j = true
  have hL := Ym3 hV hP
  obtain ⟨hV2, hlt⟩ := Wf5 hV hP hB
  have h1 := Wz6 (K := K) (b3 := ((ctD a i j, ctO a i j), ctM a i j, 0)) hK hL hp K 0 (by have := hp.len; omega) (by omega)
  replace h1 : B5 K ((ctD a i j, ctO a i j), ctM a i j, 0) pj K 0 [] = _ := h1
  rw [if_pos hB, if_pos hB]
  dsimp only
  rw [if_pos rfl, h1, Option.bind_some]
  show ((Zf5 K (ctD a i j) (pj.map fun f => N8 (ctD a i j) (ctM a i j) a.1.length f)).bind _) = _
  rw [Xu7 hK hL.dst (by rw [List.length_map]; exact hp.len) (fun f hf => by
   obtain ⟨g, hg, rfl⟩ := List.mem_map.1 hf
   obtain ⟨⟨u, hu, hh⟩, _⟩ := hp.hm g hg
   exact ⟨u, Zr7 hL hh hu⟩), Option.bind_some]
  by_cases hs : ((pj.map fun f => N8 (ctD a i j) (ctM a i j) a.1.length f).all fun f => decide (f.length ≤ 400)) = true
  rw [if_pos hs, if_pos hs]
  dsimp only
  rw [if_pos rfl]
  exact Wc7 hK k (ctD a i j, ctO a i j) _ hV2 (hp.led hL hs) (by show (ctD a i j).length < k; omega)
  rw [if_neg hs, if_neg hs]; rfl
  rw [if_neg hB, if_neg hB]; rfl
  rw [if_neg hpr, if_neg hpr]
theorem Va8 (hK : 1099511627776 ≤ K) (hV : Vd a) : Zp8 K a = some (Yo9 K a (nmG [] a.1.length)) := by
 have hl := T6 hV.dg
 have hlen := hV.len
 have h1 := Wc7 (K := K) hK K a (nmG [] a.1.length) hV (Xf2 hV.dg) (by omega)
 unfold Zp8
 rw [show (a.1, a.2) = a from rfl, Vh9 hK hl (by omega) (fun f hf => by have := hV.short f hf; omega), Option.bind_some, Xw8 hK (by simp) hl, Option.bind_some]
 show ((C2 K K (nmG [] a.1.length) a.1 a.2).bind _) = _
 rw [h1]; rfl
/-! the other side -/
theorem We4 {fr to : List Int} {ms : List MpT} (hK : 1099511627776 ≤ K) (hl : ms.length ≤ 8) (hm : ∀ f, f ∈ ms → (∃ u, Hm u to f) ∧ f.length ≤ 400) : Zs3 K fr to ms = some (fr, to, ms) := by
 have key : ∀ (k j : Nat), ms.length < j + k → j ≤ ms.length → Za4 K ms k j (ms.take j) = some (.go ms) := by
  intro k
  induction k with
  | zero => intro j h1 h2; omega
  | succ k ih =>
   intro j h1 h2
   rw [Za4]
   by_cases hj : j < ms.length
   obtain ⟨⟨u, hh⟩, h4⟩ := hm _ (V7 hj)
   have := ih (j + 1) (by omega) (by omega)
   rw [Zl7 hj] at this
   rw [if_pos (by omega), Yg2 (by omega) (by omega) (Yr5 hh) (P8 hh.nf), Option.bind_some, if_pos (by simp; omega)]
   exact this
   rw [if_neg (by omega), List.take_of_length_le (by omega)]
 have := key K 0 (by omega) (by omega)
 unfold Zs3
 replace this : Za4 K ms K 0 [] = _ := this
 rw [this]; rfl
theorem Wh5 {sd : List Int} {ms : List MpT} (hK : 1099511627776 ≤ K) (hL : Lds sd ds ms) (hp : Pj sd pj) :
 Zh9 K (sd, ds, ms) pj = some (if ((pj.map fun f => N8 ds ms sd.length f).all fun f => decide (f.length ≤ 400)) = true then (pj.map fun f => N8 ds ms sd.length f, 0) else ([], 3)) := by
 have hlen := hp.len
 have key : ∀ (k j : Nat), pj.length < j + k → j ≤ pj.length → K8 K (sd, ds, ms) pj k j ((pj.map fun f => N8 ds ms sd.length f).take j) =
  some (if ((List.range' j (pj.length - j)).all fun i => decide ((N8 ds ms sd.length (rd pj (i : Int))).length ≤ 400)) = true then .go (pj.map fun f => N8 ds ms sd.length f) else .ret ([], 3)) := by
  intro k
  induction k with
  | zero => intro j h1 h2; omega
  | succ k ih =>
   intro j h1 h2
   rw [K8]
   by_cases hj : j < pj.length
   obtain ⟨⟨u, hu, hh⟩, h4⟩ := hp.hm _ (V7 hj)
   have hr : List.range' j (pj.length - j) = j :: List.range' (j + 1) (pj.length - (j + 1)) := by
    rw [show pj.length - j = (pj.length - (j + 1)) + 1 by omega, List.range'_succ]
   have := ih (j + 1) (by omega) (by omega)
   rw [Zl7 (by rw [List.length_map]; exact hj), Yy2 hj] at this
   rw [if_pos (by omega), Yg2 (by omega) (by omega) (Yr5 hh) (P8 hh.nf), Option.bind_some]
   dsimp only
   rw [Xl6 hK hL (Zz4 hh hu) (by omega), Option.bind_some, Xm9 hK (Zr7 hL hh hu), Option.bind_some, hr, List.all_cons]
   by_cases h5 : 400 < (N8 ds ms sd.length (rd pj (j : Int))).length
   rw [if_pos h5, decide_eq_false (by omega)]; rfl
   rw [if_neg h5, decide_eq_true (by omega), Bool.true_and]
   dsimp only
   rw [if_pos rfl, if_pos (by simp; omega)]
   exact this
   rw [if_neg (by omega), show j = pj.length by omega, Nat.sub_self, List.take_of_length_le (by rw [List.length_map]; omega)]; rfl
 have h1 := key K 0 (by omega) (by omega)
 rw [Nat.sub_zero, ← List.range_eq_range'] at h1
 have e : ((pj.map fun f => N8 ds ms sd.length f).all fun f => decide (f.length ≤ 400)) = (List.range pj.length).all fun i => decide ((N8 ds ms sd.length (rd pj (i : Int))).length ≤ 400) := by
  rw [List.all_map]; exact (Yo2 pj (fun f => decide ((N8 ds ms sd.length f).length ≤ 400))).symm
 unfold Zh9
 replace h1 : K8 K (sd, ds, ms) pj K 0 [] = _ := h1
 rw [h1, Option.bind_some, e]
 by_cases h : ((List.range pj.length).all fun i => decide ((N8 ds ms sd.length (rd pj (i : Int))).length ≤ 400)) = true
 rw [if_pos h, if_pos h]; rfl
 rw [if_neg h, if_neg h]; rfl
theorem Wc2 (hK : 1099511627776 ≤ K) : ∀ (k : Nat) (a : L4) (pj : List MpT), Vd a → Pj a.1 pj → a.1.length < k → L1 K k pj a.1 a.2 = some (.ret (Yo9 k a pj))
 | 0, _, _, _, _, h => by omega
 | k + 1, a, pj, hV, hp, h => by
  rw [L1, show (a.1, a.2) = a from rfl, Wz7 hK hV, Option.bind_some, Yo9]
  by_cases hpr : (Zk6 a).2.2 = true
  obtain ⟨i, j, he, hP⟩ := Yy3 hV hpr
  rw [if_pos hpr, if_pos hpr, he]
  dsimp only
  rw [Int.toNat_natCast, Int.toNat_natCast, Vb9 hK hV hP, Option.bind_some]
  unfold ctR
  by_cases hB : ctB a i j = true
  have hL := Ym3 hV hP
  obtain ⟨hV2, hlt⟩ := Wf5 hV hP hB
  have hBm : ∀ f, f ∈ ctM a i j → f.length ≤ 400 := fun f hf => by
   unfold ctB at hB
   rw [Bool.and_eq_true] at hB
   exact of_decide_eq_true (List.all_eq_true.1 hB.1 f hf)
  have hld := We4 (K := K) (fr := a.1) (to := ctD a i j) (ms := ctM a i j) hK (by rw [Yk4]; exact T6 hV.dg) (fun f hf => ⟨by
   obtain ⟨n, hn, rfl⟩ := List.getElem_of_mem hf
   have := hL.hm n hn
   rw [G0 hn] at this
   exact ⟨_, this⟩, hBm f hf⟩)
  rw [if_pos hB, if_pos hB]
  dsimp only
  rw [if_pos rfl, hld, Option.bind_some]
  dsimp only
  rw [Wh5 hK hL hp, Option.bind_some]
  by_cases hs : ((pj.map fun f => N8 (ctD a i j) (ctM a i j) a.1.length f).all fun f => decide (f.length ≤ 400)) = true
  rw [if_pos hs, if_pos hs]
  dsimp only
  rw [if_pos rfl]
  exact Wc2 hK k (ctD a i j, ctO a i j) _ hV2 (hp.led hL hs) (by show (ctD a i j).length < k; omega)
  rw [if_neg hs, if_neg hs]; rfl
  rw [if_neg hB, if_neg hB]; rfl
  rw [if_neg hpr, if_neg hpr]
theorem Xu4 {n : Nat} (hK : 1099511627776 ≤ K) (hd : okD ds = true) (hn : n = ds.length) : Zo7 K 0 n = some (nmG [] n) := by
 have hl := T6 hd
 have key : ∀ (k j : Nat), n < j + k → j ≤ n → D3 K 0 n k j (nmG [] j) = some (.go (nmG [] n)) := by
  intro k
  induction k with
  | zero => intro j h1 h2; omega
  | succ k ih =>
   intro j h1 h2
   rw [D3]
   by_cases hj : j < n
   have hnl := Ze1 [] j
   have := ih (j + 1) (by omega) (by omega)
   rw [Yt5, Ys1, List.length_range] at this
   have e1 : F6 ([] : MpT) (gn j 1) 1 = [(gn j 1, 1)] := rfl
   have hg := Yz2 (c := 1) hd (show j < ds.length by omega) (by decide)
   have hform : Zj5 K (j : Int) 1 = some [(gn j 1, 1)] := by
    unfold Zj5
    rw [Zv4 (by omega), Option.bind_some, e1, Xm9 hK hg, if_neg (by simp)]; rfl
   rw [if_pos (by omega), Int.zero_add, IntWalk.i64_in (j : Int) (by omega), hform, Option.bind_some, IntWalk.i64_in ((j : Int) + 1) (by omega), if_pos (by simp; omega)]
   exact this
   rw [if_neg (by omega), show j = n by omega]
 have := key K 0 (by omega) (by omega)
 unfold Zo7
 replace this : D3 K 0 n K 0 [] = _ := this
 rw [this]; rfl
theorem Wm8 {f : MpT} (hK : 1099511627776 ≤ K) (hl : f.length ≤ 2000000) : Zv1 K f 0 = some f := by
 have key : ∀ (k j : Nat), f.length < j + k → j ≤ f.length → Zd2 K f 0 k j (f.take j) = some (.go f) := by
  intro k
  induction k with
  | zero => intro j h1 h2; omega
  | succ k ih =>
   intro j h1 h2
   rw [Zd2]
   by_cases hj : j < f.length
   have := ih (j + 1) (by omega) (by omega)
   rw [Zl7 hj] at this
   rw [if_pos (by omega), if_pos rfl, if_pos (by simp; omega)]
   exact this
   rw [if_neg (by omega), List.take_of_length_le (by omega)]
 have := key K 0 (by omega) (by omega)
 unfold Zv1
 replace this : Zd2 K f 0 K 0 [] = _ := this
 rw [this]; rfl
theorem Vd2 (hK : 1099511627776 ≤ K) (hV : Vd a) : Zg9 K a = some (Yo9 K a (nmG [] a.1.length)) := by
 have hl := T6 hV.dg
 have hlen := hV.len
 have key : ∀ (k j : Nat), a.2.length < j + k → j ≤ a.2.length → L3 K a k j (a.2.take j) = some (.go a.2) := by
  intro k
  induction k with
  | zero => intro j h1 h2; omega
  | succ k ih =>
   intro j h1 h2
   rw [L3]
   by_cases hj : j < a.2.length
   have hs := hV.short _ (V7 hj)
   have := ih (j + 1) (by omega) (by omega)
   rw [Zl7 hj] at this
   rw [if_pos (by omega), Wm8 hK (by omega), Option.bind_some, if_pos (by simp; omega)]
   exact this
   rw [if_neg (by omega), List.take_of_length_le (by omega)]
 have h0 := key K 0 (by omega) (by omega)
 replace h0 : L3 K a K 0 [] = _ := h0
 have h1 := Wc2 (K := K) hK K a (nmG [] a.1.length) hV (Xf2 hV.dg) (by omega)
 unfold Zg9 Zg4
 rw [if_pos (by simp; omega), Option.bind_some, List.nil_append, Xu4 hK hV.dg rfl, Option.bind_some, h0, Option.bind_some]
 show ((L1 K K (nmG [] a.1.length) a.1 a.2).bind _) = _
 rw [h1]; rfl
theorem Xs9 (hi : Inp K a) (hA : okA a = true) : Vd a := by
 have hB : okB a = true := by unfold okA at hA; rw [Bool.and_eq_true] at hA; exact hA.1
 have hv := Xk4 hi hB
 exact ⟨Wc0 hB, hv.len, Ve3 hi hB, fun f hf => (hv.all f hf).len⟩
end
section
variable {K : Nat}
/-! comparisons -/
theorem Xz7 (hK : 8 < K) (m : A8) : Zo1 K m m = some true := by
 unfold Zo1
 rw [Zf3 (g := ()) (fun k i => K3 K m m k i) 8 (fun _ => true) false (fun k n hn => ?_) (fun k n hn => ?_) hK]
 rw [if_pos (by simp)]; rfl
 show K3 K m m (k + 1) n = _
 rw [K3, if_pos (by omega), if_pos rfl]; rfl
 show K3 K m m (k + 1) n = _
 rw [K3, if_neg (by omega)]
theorem Xu0 (hK : 8 < K) {f : MpT} (hl : f.length < K) : Zu2 K f f = some true := by
 unfold Zu2
 rw [if_pos rfl, Zf3 (g := ()) (fun k i => F8 K f f k i) f.length (fun _ => true) false (fun k n hn => ?_) (fun k n hn => ?_) hl]
 rw [if_pos (by simp)]; rfl
 show F8 K f f (k + 1) n = _
 have h : Zx0 K ((rd f (n : Int)).1, (rd f (n : Int)).2) ((rd f (n : Int)).1, (rd f (n : Int)).2) = some true := by
  unfold Zx0
  rw [Xz7 hK]; simp
 rw [F8, if_pos (by omega), if_pos (by omega), h]; rfl
 show F8 K f f (k + 1) n = _
 rw [F8, if_neg (by omega)]
theorem Yz4 (hK : 8 < K) {fs : List MpT} (hl : fs.length < K) (hf : ∀ f, f ∈ fs → f.length < K) : Zh8 K fs fs = some true := by
 unfold Zh8
 rw [if_pos rfl, Zf3 (g := ()) (fun k i => F7 K fs fs k i) fs.length (fun _ => true) false (fun k n hn => ?_) (fun k n hn => ?_) hl]
 rw [if_pos (by simp)]; rfl
 show F7 K fs fs (k + 1) n = _
 have h : Zx3 K (rd fs (n : Int)) (rd fs (n : Int)) = some true := by
  unfold Zx3
  rw [Xu0 hK (hf _ (V7 hn))]; rfl
 rw [F7, if_pos (by omega), if_pos (by omega), h]; rfl
 show F7 K fs fs (k + 1) n = _
 rw [F7, if_neg (by omega)]
theorem Xz2 {xs : List Int} (hl : xs.length < K) : Zs4 K xs xs = some true := by
 unfold Zs4
 rw [if_pos rfl, Zf3 (g := ()) (fun k i => I8 K xs xs k i) xs.length (fun _ => true) false (fun k n hn => ?_) (fun k n hn => ?_) hl]
 rw [if_pos (by simp)]; rfl
 show I8 K xs xs (k + 1) n = _
 rw [I8, if_pos (by omega), if_pos (by omega), if_pos rfl]; rfl
 show I8 K xs xs (k + 1) n = _
 rw [I8, if_neg (by omega)]
theorem Xj4 (hK : 8 < K) {x : L4} (h1 : x.1.length < K) (h2 : x.2.length < K) (h3 : ∀ f, f ∈ x.2 → f.length < K) : Ze4 K x x = some true := by
 unfold Ze4
 rw [Xz2 h1, Option.bind_some, if_pos rfl, Yz4 hK h2 h3]; rfl
/-! copies -/
theorem Vd8 (hK : 8 < K) (m : A8) : Zo9 K m = some m := by
 have key : ∀ (k n : Nat) (box : A8), n ≤ 8 → 8 < n + k → (∀ j : Fin 8, j.val < n → box j = m j) → E4 K m k n box = some (.go m) := by
  intro k
  induction k with
  | zero => intro n box h1 h2; omega
  | succ k ih =>
   intro n box h1 h2 hb
   rw [E4]
   by_cases hn : n < 8
   rw [if_pos (by omega)]
   refine ih (n + 1) _ (by omega) (by omega) (fun j hj => ?_)
   rw [I4 _ hn, T9 m hn]
   by_cases e : j.val = n
   rw [if_pos e]; congr 1; exact Fin.ext e.symm
   rw [if_neg e]; exact hb j (by omega)
   rw [if_neg (by omega)]
   congr 2
   funext j; exact hb j (by omega)
 have := key K 0 (fun _ => 0) (by omega) (by omega) (fun j hj => by omega)
 unfold Zo9
 replace this : E4 K m K 0 (fun _ => 0) = _ := this
 rw [this]; rfl
theorem Xg2 {α : Type} [Inhabited α] {xs ys : List α} {j : Nat} (hj : j < xs.length) (hl : ys.length = xs.length) (h : ys.take j = xs.take j) : (ys.set j (rd xs (j : Int))).take (j + 1) = xs.take (j + 1) := by
 rw [Zl7 (xs := ys.set j _) (by rw [List.length_set]; omega), Zl7 hj]
 congr 1
 rw [List.take_set_of_le (Nat.le_refl j), h]
 rw [G0 (by rw [List.length_set]; omega)]
 simp
theorem Wz0 (hK : 8 < K) {f : MpT} (hl : f.length < K) (hl2 : f.length ≤ 1099511627776) : Zv3 K f = some f := by
 have key : ∀ (k j : Nat) (out : MpT), f.length < j + k → j ≤ f.length → out.length = f.length → out.take j = f.take j → Zc8 K f k j out = some (.go f) := by
  intro k
  induction k with
  | zero => intro j out h1 h2; omega
  | succ k ih =>
   intro j out h1 h2 h3 h4
   rw [Zc8]
   by_cases hj : j < f.length
   have ht : Zx5 K ((rd f (j : Int)).1, (rd f (j : Int)).2) = some (rd f (j : Int)) := by
    unfold Zx5
    rw [Vd8 hK]; rfl
   rw [if_pos (by omega), ht, Option.bind_some, if_pos (by omega), Int.toNat_natCast]
   exact ih (j + 1) _ (by omega) (by omega) (by rw [List.length_set]; exact h3) (Xg2 hj h3 h4)
   rw [if_neg (by omega)]
   rw [List.take_of_length_le (by omega), List.take_of_length_le (by omega)] at h4
   rw [h4]
 have := key K 0 (List.replicate f.length ((fun _ => 0), 0)) (by omega) (by omega) (by simp) (by simp)
 unfold Zv3
 rw [if_pos (by omega), Int.toNat_natCast]
 replace this : Zc8 K f K 0 (List.replicate f.length ((fun _ => 0), 0)) = _ := this
 rw [this]; rfl
theorem Wy6 (hK : 8 < K) {fs : List MpT} (hl : fs.length < K) (hl2 : fs.length ≤ 1099511627776) (hf : ∀ f, f ∈ fs → f.length < K ∧ f.length ≤ 1099511627776) : Zv0 K fs = some fs := by
 have key : ∀ (k j : Nat) (out : List MpT), fs.length < j + k → j ≤ fs.length → out.length = fs.length → out.take j = fs.take j → Zc7 K fs k j out = some (.go fs) := by
  intro k
  induction k with
  | zero => intro j out h1 h2; omega
  | succ k ih =>
   intro j out h1 h2 h3 h4
   rw [Zc7]
   by_cases hj : j < fs.length
   have hff := hf _ (V7 hj)
   have ht : Zw9 K (rd fs (j : Int)) = some (rd fs (j : Int)) := by
    unfold Zw9
    rw [Wz0 hK hff.1 hff.2]; rfl
   rw [if_pos (by omega), ht, Option.bind_some, if_pos (by omega), Int.toNat_natCast]
   exact ih (j + 1) _ (by omega) (by omega) (by rw [List.length_set]; exact h3) (Xg2 hj h3 h4)
   rw [if_neg (by omega)]
   rw [List.take_of_length_le (by omega), List.take_of_length_le (by omega)] at h4
   rw [h4]
 have := key K 0 (List.replicate fs.length []) (by omega) (by omega) (by simp) (by simp)
 unfold Zv0
 rw [if_pos (by omega), Int.toNat_natCast]
 replace this : Zc7 K fs K 0 (List.replicate fs.length []) = _ := this
 rw [this]; rfl
theorem Vc6 {xs : List Int} (hl : xs.length < K) (hl2 : xs.length ≤ 1099511627776) : Zs0 K xs = some xs := by
 have key : ∀ (k j : Nat) (out : List Int), xs.length < j + k → j ≤ xs.length → out.length = xs.length → out.take j = xs.take j → Za9 K xs k j out = some (.go xs) := by
  intro k
  induction k with
  | zero => intro j out h1 h2; omega
  | succ k ih =>
   intro j out h1 h2 h3 h4
   rw [Za9]
   by_cases hj : j < xs.length
   rw [if_pos (by omega), if_pos (by omega), Int.toNat_natCast]
   exact ih (j + 1) _ (by omega) (by omega) (by rw [List.length_set]; exact h3) (Xg2 hj h3 h4)
   rw [if_neg (by omega)]
   rw [List.take_of_length_le (by omega), List.take_of_length_le (by omega)] at h4
   rw [h4]
 have := key K 0 (List.replicate xs.length 0) (by omega) (by omega) (by simp) (by simp)
 unfold Zs0
 rw [if_pos (by omega), Int.toNat_natCast]
 replace this : Za9 K xs K 0 (List.replicate xs.length 0) = _ := this
 rw [this]; rfl
theorem Vh5 {a : L4} (hi : Inp K a) : Ze7 K a = some a := by
 have h1 := hi.big; have h2 := hi.dl; have h3 := hi.il
 unfold Ze7
 rw [Vc6 (by omega) (by omega), Option.bind_some, Wy6 (by omega) (by omega) (by omega) (fun f hf => by have := hi.fl f hf; omega)]; rfl
/-! marks are there -/
theorem Wo4 (k0 : Int) (m : Nat) (hK : m < K) (h0 : 0 ≤ k0 ∧ k0 + m ≤ 1000000000000000) : Zo0 K (mkI k0 m) k0 = some (k0 + m) := by
 have key : ∀ (k j : Nat), m < j + k → j ≤ m → D2 K (mkI k0 m) k (k0 + j) j = some (.go (k0 + m)) := by
  intro k
  induction k with
  | zero => intro j h1 h2; omega
  | succ k ih =>
   intro j h1 h2
   rw [D2, Xa3]
   by_cases hj : j < m
   have e : rd (mkI k0 m) (j : Int) = k0 + j := Zy2 (by simp [mkI, hj])
   rw [if_pos (by omega), if_pos e, IntWalk.i64_in _ (by omega), Int.add_assoc]
   exact ih (j + 1) (by omega) (by omega)
   rw [if_neg (by omega), show j = m by omega]
 have := key K 0 (by omega) (by omega)
 unfold Zo0
 replace this : D2 K (mkI k0 m) K (k0 + 0) 0 = _ := this
 rw [Int.add_zero] at this
 rw [this]; rfl
theorem Wl8 (k0 : Int) (m : Nat) (hK : m < K) (hK8 : 8 < K) (h0 : 0 ≤ k0 ∧ k0 + 9 * m ≤ 1000000000000000) : Zq0 K (mkT k0 m) k0 = some (k0 + 9 * m) := by
 have e : ∀ j : Nat, j < m → rd (mkT k0 m) (j : Int) = ((fun t : Fin 8 => IntKind.u8.wrap (k0 + 9 * j + t.val)), k0 + 9 * j + 8) := fun j hj => Zy2 (by simp [mkT, hj])
 have inner : ∀ (j : Nat), j < m → ∀ (k t : Nat), 8 < t + k → t ≤ 8 → B0 K (mkT k0 m) j k (k0 + 9 * j + t) t = some (.go (k0 + 9 * j + 8)) := by
  intro j hj k
  induction k with
  | zero => intro t h1 h2; omega
  | succ k ih =>
   intro t h1 h2
   rw [B0, e j hj]
   by_cases ht : t < 8
   rw [if_pos (by omega), T9 _ ht, if_pos rfl, IntWalk.i64_in _ (by omega), Int.add_assoc]
   exact ih (t + 1) (by omega) (by omega)
   rw [if_neg (by omega), show t = 8 by omega]; rfl
 have key : ∀ (k j : Nat), m < j + k → j ≤ m → F1 K (mkT k0 m) k (k0 + 9 * j) j = some (.go (k0 + 9 * m)) := by
  intro k
  induction k with
  | zero => intro j h1 h2; omega
  | succ k ih =>
   intro j h1 h2
   rw [F1, Xa9]
   by_cases hj : j < m
   have hin := inner j hj K 0 (by omega) (by omega)
   replace hin : B0 K (mkT k0 m) j K (k0 + 9 * j + 0) 0 = _ := hin
   rw [Int.add_zero] at hin
   rw [if_pos (by omega), hin, Option.bind_some]
   show (if (rd (mkT k0 m) (j : Int)).2 = k0 + 9 * j + 8 then F1 K (mkT k0 m) k (IntKind.i64.wrap (k0 + 9 * j + 8 + 1)) ((j : Int) + 1) else some (.ret (-1))) = _
   rw [e j hj, if_pos rfl, IntWalk.i64_in _ (by omega)]
   have := ih (j + 1) (by omega) (by omega)
   rw [show k0 + 9 * ((j + 1 : Nat) : Int) = k0 + 9 * j + 8 + 1 by omega] at this
   exact this
   rw [if_neg (by omega), show j = m by omega]
 have := key K 0 (by omega) (by omega)
 unfold Zq0
 replace this : F1 K (mkT k0 m) K (k0 + 9 * 0) 0 = _ := this
 rw [Int.mul_zero, Int.add_zero] at this
 rw [this]; rfl
theorem Xq0 (xs : List MpT) (k0 : Int) (hK8 : 8 < K) (hl : xs.length < K) (hf : ∀ f, f ∈ xs → f.length < K) (h0 : 0 ≤ k0 ∧ k0 + I2 xs ≤ 1000000000000000) : Zh3 K (Zz3 k0 xs) k0 = some (k0 + I2 xs) := by
 have key : ∀ (k j : Nat), xs.length < j + k → j ≤ xs.length → C4 K (Zz3 k0 xs) k (k0 + I2 (xs.take j)) j = some (.go (k0 + I2 xs)) := by
  intro k
  induction k with
  | zero => intro j h1 h2; omega
  | succ k ih =>
   intro j h1 h2
   rw [C4, Xd3]
   by_cases hj : j < xs.length
   have hx : xs[j]? = some xs[j] := List.getElem?_eq_getElem hj
   have e := Zy2 (Xg4 xs k0 j _ hx)
   have h3 := Ya0 (xs.take j)
   have h4 := Yx5 xs (j + 1)
   have h5 := Yk3 xs j _ hx
   have h6 := hf _ (List.getElem_mem hj)
   rw [if_pos (by omega), e, Wl8 _ _ h6 hK8 (by omega), Option.bind_some, if_neg (by omega)]
   have := ih (j + 1) (by omega) (by omega)
   rw [h5, ← Int.add_assoc] at this
   exact this
   rw [if_neg (by omega), List.take_of_length_le (by omega)]
 have := key K 0 (by omega) (by omega)
 unfold Zh3
 replace this : C4 K (Zz3 k0 xs) K (k0 + 0) 0 = _ := this
 rw [Int.add_zero] at this
 rw [this]; rfl
theorem Wy7 {x : L4} (hK8 : 8 < K) (h1 : x.1.length < K) (h2 : x.2.length < K) (h3 : ∀ f, f ∈ x.2 → f.length < K) (hb : Zb8 x ≤ 1000000000000) : Zi0 K (mkA x 1) 1 = some (1 + Zb8 x) := by
 have hn := Ya0 x.2
 unfold Zb8 at hb ⊢
 unfold Zi0 mkA
 rw [Wo4 _ _ h1 (by omega), Option.bind_some, if_neg (by omega), Xq0 _ _ hK8 h2 h3 (by omega), Option.bind_some, if_neg (by omega), Int.add_assoc]
/-! sizes -/
theorem Wl6 {f : MpT} {l : Int} (hb : f.length ≤ 9223372036854775807) (hl : 0 ≤ l ∧ l ≤ 1048576) : Zx1 K f l = some (if l < f.length then -1 else l - f.length) := by
 unfold Zx1 Zz7
 rw [IntWalk.i64_in _ (by omega)]
 by_cases h : l < f.length
 rw [if_pos (by omega), if_pos h]; rfl
 rw [if_neg (by omega), if_neg h, Option.bind_some, if_neg (by omega)]
theorem Ww0 {fs : List MpT} (hb : ∀ f, f ∈ fs → f.length ≤ 9223372036854775807) : ∀ (k j : Nat) (l : Int), fs.length < j + k → j ≤ fs.length → 0 ≤ l ∧ l ≤ 1048576 →
 ∃ e r, Zd1 K fs k l j = some e ∧ Ex.elim (fun r => some r) (fun s => some s) e = some r ∧ (r < 0 ∨ (0 ≤ r ∧ I2 (fs.drop j) ≤ 9 * (l - r) ∧ ∀ f, f ∈ fs.drop j → (f.length : Int) ≤ l)) := by
 intro k
 induction k with
 | zero => intro j l h1 h2; omega
 | succ k ih =>
  intro j l h1 h2 hl
  rw [Zd1]
  by_cases hj : j < fs.length
  rw [if_pos (by omega), Wl6 (hb _ (V7 hj)) hl, Option.bind_some]
  by_cases h : l < (rd fs (j : Int)).length
  rw [if_pos h, if_pos (by decide)]; exact ⟨_, _, rfl, rfl, .inl (by decide)⟩
  rw [if_neg h, if_neg (by omega)]
  obtain ⟨e, r, h3, h4, h5⟩ := ih (j + 1) (l - (rd fs (j : Int)).length) (by omega) (by omega) (by omega)
  refine ⟨e, r, h3, h4, ?_⟩
  rcases h5 with h5 | ⟨h5, h6, h7⟩
  exact .inl h5
  rw [show fs.drop j = rd fs (j : Int) :: fs.drop (j + 1) by rw [G0 hj]; exact List.drop_eq_getElem_cons hj]
  refine .inr ⟨h5, by rw [I2]; omega, fun f hf => ?_⟩
  rcases List.mem_cons.1 hf with rfl | hf
  omega
  have := h7 f hf; omega
  rw [if_neg (by omega), List.drop_eq_nil_of_le (by omega)]
  exact ⟨_, _, rfl, rfl, .inr ⟨hl.1, by rw [I2]; omega, by simp⟩⟩
theorem Vc1 {a : L4} (hK : 1073741824 ≤ K) (h1 : a.1.length ≤ 9223372036854775807) (h2 : a.2.length ≤ 9223372036854775807) (h3 : ∀ f, f ∈ a.2 → f.length ≤ 9223372036854775807) :
 ∃ r, Zq6 K a 1048576 = some r ∧ (r < 0 ∨ (a.1.length ≤ 1048576 ∧ a.2.length ≤ 1048576 ∧ (∀ f, f ∈ a.2 → f.length ≤ 1048576) ∧ I2 a.2 ≤ 9437184)) := by
 unfold Zq6 Zy3 Zz8
 rw [IntWalk.i64_in (1048576 - (a.1.length : Int)) (by omega)]
 by_cases hd : a.1.length ≤ 1048576
 case neg => rw [if_pos (by omega)]; exact ⟨-1, rfl, .inl (by decide)⟩
 rw [if_neg (by omega), Option.bind_some, if_neg (by omega), IntWalk.i64_in _ (by omega)]
 by_cases hi : (a.1.length : Int) + a.2.length ≤ 1048576
 case neg => rw [if_pos (by omega)]; exact ⟨-1, rfl, .inl (by decide)⟩
 rw [if_neg (by omega)]
 obtain ⟨e, r, h4, h5, h6⟩ := Ww0 (K := K) h3 K 0 (1048576 - (a.1.length : Int) - (a.2.length : Int)) (by omega) (by omega) (by omega)
 replace h4 : Zd1 K a.2 K (1048576 - (a.1.length : Int) - (a.2.length : Int)) 0 = some e := h4
 rw [h4, Option.bind_some, h5, Option.bind_some]
 rcases h6 with h6 | ⟨h6, h7, h8⟩
 rw [if_pos h6]; exact ⟨-1, rfl, .inl (by decide)⟩
 rw [if_neg (by omega)]
 rw [List.drop_zero] at h7 h8
 exact ⟨r, rfl, .inr ⟨hd, by omega, fun f hf => by have := h8 f hf; omega, by omega⟩⟩
end
theorem Xl0 : ∀ {fs : List MpT}, (∀ f, f ∈ fs → f.length ≤ 400) → I2 fs ≤ 3600 * fs.length
 | [], _ => by simp [I2]
 | f :: fs, h => by
  have h1 := h f (List.mem_cons_self ..)
  have h2 := Xl0 (fs := fs) (fun g hg => h g (List.mem_cons_of_mem _ hg))
  rw [I2, List.length_cons]; omega
def rdR (K : Nat) (a : L4) : CtT := if okA a = true then Yo9 K a (nmG [] a.1.length) else (([], []), [], 1)
section
variable {K : Nat} {a : L4}
theorem Vg7 (hK : 1099511627776 ≤ K) (hi : Inp K a) : Zj0 K a = some (rdR K a) := by
 unfold Zj0 rdR
 rw [show (a.1, a.2) = a from rfl, Vd7 hi, Option.bind_some]
 by_cases hA : okA a = true
 case neg => rw [if_neg hA, if_neg hA]
 rw [if_pos hA, if_pos hA, Va8 hK (Xs9 hi hA)]; rfl
theorem Ws7 (hK : 1099511627776 ≤ K) (hi : Inp K a) : Zf8 K a = some (rdR K a) := by
 unfold Zf8 rdR
 rw [show (a.1, a.2) = a from rfl, Vf1 hi, Option.bind_some]
 by_cases hA : okA a = true
 case neg => rw [if_neg hA, if_neg hA, if_neg (by decide)]
 rw [if_pos hA, if_pos rfl, if_pos hA, Vd2 hK (Xs9 hi hA)]; rfl
def Vc9 (c : CtT) : Prop := c.1.1.length ≤ 8 ∧ c.1.2.length ≤ 8 ∧ (∀ f, f ∈ c.1.2 → f.length ≤ 400) ∧ c.2.1.length ≤ 8 ∧ ∀ f, f ∈ c.2.1 → f.length ≤ 400
theorem Xa4 (c : Int) : Vc9 (([], []), [], c) := ⟨by simp, by simp, (fun f hf => by cases hf), by simp, fun f hf => by cases hf⟩
theorem Xk1 : ∀ (k : Nat) (a : L4) (pj : List MpT), Vd a → Pj a.1 pj → Vc9 (Yo9 k a pj)
 | 0, _, _, _, _ => Xa4 3
 | k + 1, a, pj, hV, hp => by
  rw [Yo9]
  by_cases hpr : (Zk6 a).2.2 = true
  obtain ⟨i, j, he, hP⟩ := Yy3 hV hpr
  rw [if_pos hpr, he]
  dsimp only
  rw [Int.toNat_natCast, Int.toNat_natCast]
  by_cases hB : ctB a i j = true
  have hL := Ym3 hV hP
  obtain ⟨hV2, hlt⟩ := Wf5 hV hP hB
  rw [if_pos hB]
  by_cases hs : ((pj.map fun f => N8 (ctD a i j) (ctM a i j) a.1.length f).all fun f => decide (f.length ≤ 400)) = true
  rw [if_pos hs]
  exact Xk1 k (ctD a i j, ctO a i j) _ hV2 (hp.led hL hs)
  rw [if_neg hs]; exact Xa4 3
  rw [if_neg hB]; exact Xa4 3
  rw [if_neg hpr]
  have hl := T6 hV.dg
  have hlen := hV.len
  exact ⟨hl, by show a.2.length ≤ 8; omega, hV.short, hp.len, fun f hf => (hp.hm f hf).2⟩
theorem Wj4 (hi : Inp K a) : (rdR K a).1.1.length ≤ 8 ∧ (rdR K a).1.2.length ≤ 8 ∧ (∀ f, f ∈ (rdR K a).1.2 → f.length ≤ 400) ∧ (rdR K a).2.1.length ≤ 8 ∧ ∀ f, f ∈ (rdR K a).2.1 → f.length ≤ 400 := by
 unfold rdR
 split
 rename_i hA
 have hV := Xs9 hi hA
 exact Xk1 K a _ hV (Xf2 hV.dg)
 exact Xa4 1
end
theorem Wr5 {K : Nat} {a : L4} (hK : 1099511627776 ≤ K) (h1 : a.1.length ≤ 9223372036854775807) (h2 : a.2.length ≤ 9223372036854775807) (h3 : ∀ f, f ∈ a.2 → f.length ≤ 9223372036854775807) (hb : ∀ f, f ∈ a.2 → Yd0 f) :
 Zg6 K a = some true := by
 obtain ⟨r, hr, hs⟩ := Vc1 (K := K) (by omega) h1 h2 h3
 unfold Zg6
 rw [show (a.1, a.2) = a from rfl, hr, Option.bind_some]
 by_cases h0 : r < 0
 rw [if_pos h0]
 rw [if_neg h0]
 obtain ⟨s1, s2, s3, s4⟩ := hs.resolve_left h0
 have hi : Inp K a := ⟨by omega, s1, s2, s3, hb⟩
 obtain ⟨d1, d2, d3, d5, d6⟩ := Wj4 hi
 have d4 := Xl0 d3
 have d7 := Xl0 d6
 have hcn := Ya0 a.2
 have hcr := Ya0 (rdR K a).1.2
 have hcr2 := Ya0 (rdR K a).2.1
 have hca : Zb8 a ≤ 1000000000000 := by unfold Zb8; omega
 have hca0 : 0 ≤ Zb8 a := by unfold Zb8; omega
 have hcd0 : 0 ≤ Zb8 (rdR K a).1 := by unfold Zb8; omega
 have hcd : Zb8 (rdR K a).1 ≤ 1000000 := by unfold Zb8; omega
 have hto := Vh5 hi
 have heq := Xj4 (K := K) (x := (rdR K a).1) (by omega) (by omega) (by omega) (fun f hf => by have := d3 f hf; omega)
 have heqi := Yz4 (K := K) (fs := (rdR K a).2.1) (by omega) (by omega) (fun f hf => by have := d6 f hf; omega)
 have heqa := Xj4 (K := K) (x := a) (by omega) (by omega) (by omega) (fun f hf => by have := s3 f hf; omega)
 have hheld := Wy7 (K := K) (x := (rdR K a).1) (by omega) (by omega) (by omega) (fun f hf => by have := d3 f hf; omega) (by omega)
 have hheldi := Xq0 (K := K) (rdR K a).2.1 (1 + Zb8 (rdR K a).1) (by omega) (by omega) (fun f hf => by have := d6 f hf; omega) (by omega)
 have eP : ((rdR K a).1.1, (rdR K a).1.2) = (rdR K a).1 := rfl
 have eM : ((mkA (rdR K a).1 1).1, (mkA (rdR K a).1 1).2) = mkA (rdR K a).1 1 := rfl
 have eA : (a.1, a.2) = a := rfl
 rw [hto, Option.bind_some, eA, Vg7 hK hi, Option.bind_some, Option.bind_some, eA, Ws7 hK hi, Option.bind_some, eP, heq, Option.bind_some, if_pos rfl, heqi, Option.bind_some, if_pos rfl, decide_eq_true rfl]
 unfold J3
 rw [if_neg (by decide), eA, hto, Option.bind_some, eA, heqa, Option.bind_some, if_pos rfl, if_pos (by omega), if_neg (by omega), eP, heq, Option.bind_some, if_pos rfl, heqi, Option.bind_some, if_pos rfl, decide_eq_true rfl]
 unfold N6
 rw [if_neg (by decide), if_pos (by omega), if_pos (by omega), eM, hheld, Option.bind_some, if_neg (by omega), hheldi, Option.bind_some, if_neg (by omega), if_pos rfl, eA, hto, Option.bind_some, eA, Ws7 hK hi, Option.bind_some, eP, heq, Option.bind_some, if_pos rfl,
  heqi, Option.bind_some, if_pos rfl, decide_eq_true rfl]
 unfold J4
 rw [if_neg (by decide), eM, hheld, Option.bind_some, if_neg (by omega), hheldi, Option.bind_some, if_neg (by omega), if_pos rfl]
end Go.Proofs.YtabofnehiclkiaaGreat
