/- Plain laws on the pure functions. -/
import Derived.Test.YtfodlhkoafhplaaGreatTP2
import Derived.Test.YtfodlhkoafhplaaGreatTF9
import Derived.Test.YtfodlhkoafhplaaGreatTF13
import Derived.Test.YtfodlhkoafhplaaGreatTF17
import Derived.Test.YtfodlhkoafhplaaGreatTF21
import Derived.Test.YtfodlhkoafhplaaGreatTF18
import Derived.Test.YtfodlhkoafhplaaGreatTF22
import Derived.Test.YtfodlhkoafhplaaGreatTX
import Derived.Test.YtfodlhkoafhplaaGreatTF15
import Derived.Test.YtfodlhkoafhplaaGreatTF16
import Derived.Test.YtfodlhkoafhplaaGreatTF12
import Derived.Test.YtfodlhkoafhplaaGreatTL
namespace Go.Proofs.YtfodlhkoafhplaaGreat
open Go
set_option linter.unusedSimpArgs false
set_option linter.unusedVariables false
/-- degrees, and images that are homogeneous of one degree more -/
structure Vd (a : F1) : Prop where
 dg : okD a.1 = true
 len : a.2.length = a.1.length
 hm : ∀ j, j < a.2.length → Hm (rd a.1 (j : Int) + 1) a.1 (rd a.2 (j : Int))
 short : ∀ f, f ∈ a.2 → f.length ≤ 400
def Zv6 (n : Nat) (f : MpT) : List Int := (List.range n).map fun (j : Nat) => R6 f (gn j 1)
def Yb9 (a : F1) : List (List Int) := a.2.map (Zv6 a.1.length)
theorem Zn7 (n : Nat) (f : MpT) : (Zv6 n f).length = n := by simp [Zv6]
theorem Yc1 {n j : Nat} {f : MpT} (h : j < n) : rd (Zv6 n f) (j : Int) = R6 f (gn j 1) := Ya9 (by simp [Zv6, h])
theorem Zf5 (a : F1) : (Yb9 a).length = a.2.length := by simp [Yb9]
theorem Yh2 {a : F1} {i : Nat} (h : i < a.2.length) : rd (Yb9 a) (i : Int) = Zv6 a.1.length (rd a.2 (i : Int)) := Ya9 (by unfold Yb9; rw [List.getElem?_map, List.getElem?_eq_getElem h, J7 h]; rfl)
theorem Yn3 {u : Int} {ds : List Int} {f : MpT} (h : Hm u ds f) : Ya6 f := fun t ht => (h.mo t ht).byt (by decide)
/-! word lengths -/
def wlN (m : A8) : Nat → Int
 | 0 => 0
 | n + 1 => wlN m n + Y5 m (n : Int)
theorem Xv2 {m : A8} (h : Byt m) : ∀ n : Nat, 0 ≤ wlN m n ∧ wlN m n ≤ 255 * n
 | 0 => by simp [wlN]
 | n + 1 => by
  have h1 := Xv2 h n
  have h2 := h.idx n
  rw [wlN]; omega
section
variable {K : Nat} {a : F1}
theorem Wd5 {m : A8} (h : Byt m) : ∀ (k n : Nat), 8 < n + k → n ≤ 8 → Zb7 K m k (wlN m n) n = some (.go (wlN m 8)) := by
 intro k
 induction k with
 | zero => intro n h1 h2; omega
 | succ k ih =>
  intro n h1 h2
  rw [Zb7]
  by_cases hn : n < 8
  have h3 := Xv2 h n
  have h4 := h.idx n
  rw [if_pos (by omega), IntWalk.i64_in (Y5 m (n : Int)) (by omega), IntWalk.i64_in _ (by omega)]
  exact ih (n + 1) (by omega) (by omega)
  rw [if_neg (by omega), show n = 8 by omega]
theorem Wb6 {m : A8} (hK : 8 < K) (h : Byt m) : Zs8 K m = some (wlN m 8) := by
 have := Wd5 (K := K) h K 0 (by omega) (by omega)
 unfold Zs8
 replace this : Zb7 K m K 0 0 = _ := this
 rw [this]; rfl
theorem Xu7 {m : A8} (lo : ∀ i, 0 ≤ m i) : ∀ n : Nat, n ≤ 8 → 0 ≤ wlN m n ∧ (wlN m n = 0 → ∀ j, j < n → Y5 m (j : Int) = 0)
 | 0, _ => ⟨by simp [wlN], fun _ j hj => by omega⟩
 | n + 1, h => by
  obtain ⟨h1, h2⟩ := Xu7 lo n (by omega)
  have hi : 0 ≤ Y5 m (n : Int) := by rw [S0 m (show n < 8 by omega)]; exact lo _
  rw [wlN]
  refine ⟨by omega, fun e j hj => ?_⟩
  by_cases ej : j = n
  subst ej; omega
  exact h2 (by omega) j (by omega)
theorem Wn2 {t : Nat} (ht : t < 8) : ∀ n : Nat, wlN (gn t 1) n = if t < n then 1 else 0
 | 0 => by rw [if_neg (by omega)]; rfl
 | n + 1 => by
  rw [wlN, Wn2 ht n, Zw2 ht]
  by_cases e : n = t
  subst e; rw [if_neg (by omega), if_pos rfl, if_pos (by omega)]; rfl
  by_cases h : t < n
  rw [if_pos h, if_neg e, if_pos (by omega)]; rfl
  rw [if_neg h, if_neg e, if_neg (by omega)]; rfl
theorem Wu0 {m : A8} (lo : ∀ i, 0 ≤ m i) {j : Nat} (hj : j < 8) (hw : wlN m 8 = 1) (h1 : Y5 m (j : Int) = 1) : m = gn j 1 := by
 have key : ∀ n : Nat, n ≤ 8 → ∀ i, i < n → wlN m n ≥ Y5 m (i : Int) ∧ (∀ k, k < n → i ≠ k → wlN m n ≥ Y5 m (i : Int) + Y5 m (k : Int)) := by
  intro n
  induction n with
  | zero => intro _ i hi; omega
  | succ n ih =>
   intro hn i hi
   have hz := Xu7 lo n (by omega)
   have hI : ∀ k : Nat, k < 8 → 0 ≤ Y5 m (k : Int) := fun k hk => by rw [S0 m hk]; exact lo _
   have h0 := hI n (by omega)
   rw [wlN]
   by_cases e : i = n
   subst e
   refine ⟨by omega, fun k hk hik => ?_⟩
   have := (ih (by omega) k (by omega)).1
   omega
   have h2 := ih (by omega) i (by omega)
   refine ⟨by omega, fun k hk hik => ?_⟩
   by_cases ek : k = n
   subst ek; omega
   have := h2.2 k (by omega) hik; omega
 funext i
 have hi := i.isLt
 unfold gn
 rw [J0 _ hj]
 by_cases e : i.val = j
 rw [if_pos e, ← h1, S0 m hj]
 exact congrArg m (Fin.ext e)
 rw [if_neg e]
 have h3 := (key 8 (Nat.le_refl _) j hj).2 i.val hi (fun h => e h.symm)
 have h4 := lo i
 rw [S0 m hi] at h3
 have h5 : m ⟨i.val, hi⟩ = m i := rfl
 omega
/-! the table on the one side -/
def upT (n : Nat) (t : M2) (row : List Int) (k : Nat) : List Int := (List.range n).map fun (j : Nat) => if j < k ∧ Y5 t.1 (j : Int) = 1 then t.2 else rd row (j : Int)
theorem Zs5 (n : Nat) (t : M2) (row : List Int) (k : Nat) : (upT n t row k).length = n := by simp [upT]
theorem Yi2 {n j k : Nat} {t : M2} {row : List Int} (h : j < n) : rd (upT n t row k) (j : Int) = if j < k ∧ Y5 t.1 (j : Int) = 1 then t.2 else rd row (j : Int) := Ya9 (by simp [upT, h])
theorem Yn6 {xs ys : List Int} (hl : xs.length = ys.length) (h : ∀ j : Nat, j < xs.length → rd xs (j : Int) = rd ys (j : Int)) : xs = ys := by
 refine List.ext_getElem hl (fun j h1 h2 => ?_)
 have := h j h1
 rwa [J7 h1, J7 h2] at this
theorem Wf3 {i x : Int} {row : List Int} (hK : 8 < K) (hl : a.1.length ≤ 8) (hr : row.length = a.1.length) (hm : Byt (rd (rd a.2 i) x).1) (hw : wlN (rd (rd a.2 i) x).1 8 = 1) : ∀ (k j : Nat), a.1.length < j + k → j ≤ a.1.length →
 N0 K a i x k j (upT a.1.length (rd (rd a.2 i) x) row j) = some (.go (upT a.1.length (rd (rd a.2 i) x) row a.1.length)) := by
 intro k
 induction k with
 | zero => intro j h1 h2; omega
 | succ k ih =>
  intro j h1 h2
  rw [N0]
  by_cases hj : j < a.1.length
  have := ih (j + 1) (by omega) (by omega)
  have hul := Zs5 a.1.length (rd (rd a.2 i) x) row j
  rw [if_pos (by omega), Wb6 hK hm, Option.bind_some, hw, decide_eq_true rfl]
  unfold Ze0
  rw [if_pos rfl, if_pos (by omega)]
  by_cases h1 : Y5 (rd (rd a.2 i) x).1 (j : Int) = 1
  rw [if_pos h1, if_pos (by omega), Int.toNat_natCast]
  have e : (upT a.1.length (rd (rd a.2 i) x) row j).set j (rd (rd a.2 i) x).2 = upT a.1.length (rd (rd a.2 i) x) row (j + 1) := by
   refine Yn6 (by rw [List.length_set, Zs5, Zs5]) (fun t ht => ?_)
   rw [List.length_set, Zs5] at ht
   rw [Yu3 (by rw [Zs5]; exact ht), Yi2 ht, Yi2 ht]
   by_cases et : t = j
   subst et; rw [if_pos rfl, if_pos ⟨by omega, h1⟩]
   rw [if_neg et]
   by_cases h3 : t < j ∧ Y5 (rd (rd a.2 i) x).1 (t : Int) = 1
   rw [if_pos h3, if_pos ⟨by omega, h3.2⟩]
   rw [if_neg h3, if_neg (fun h => h3 ⟨by omega, h.2⟩)]
  rw [e]; exact this
  rw [if_neg h1]
  have e : upT a.1.length (rd (rd a.2 i) x) row j = upT a.1.length (rd (rd a.2 i) x) row (j + 1) := by
   refine Yn6 (by rw [Zs5, Zs5]) (fun t ht => ?_)
   rw [Zs5] at ht
   rw [Yi2 ht, Yi2 ht]
   by_cases h3 : t < j ∧ Y5 (rd (rd a.2 i) x).1 (t : Int) = 1
   rw [if_pos h3, if_pos ⟨by omega, h3.2⟩]
   rw [if_neg h3, if_neg (fun h => ?_)]
   by_cases et : t = j
   subst et; exact h1 h.2
   exact h3 ⟨by omega, h.2⟩
  rw [e]; exact this
  rw [if_neg (by omega)]
  unfold Ze0
  rw [if_neg (by decide), show j = a.1.length by omega]
theorem Xz7 {i x : Int} {row : List Int} (hK : 8 < K) (hm : Byt (rd (rd a.2 i) x).1) (hw : wlN (rd (rd a.2 i) x).1 8 ≠ 1) {k : Nat} (hk : 0 < k) : N0 K a i x k 0 row = some (.go row) := by
 obtain ⟨k, rfl⟩ : ∃ n, k = n + 1 := ⟨k - 1, by omega⟩
 rw [N0]
 split
 rw [Wb6 hK hm, Option.bind_some, decide_eq_false hw]; rfl
 rfl
theorem Wj8 {n : Nat} (hn : n ≤ 8) {f : MpT} {t : M2} (hs : Srt (f ++ [t])) (lo : ∀ i, 0 ≤ t.1 i) : Zv6 n (f ++ [t]) = if wlN t.1 8 = 1 then upT n t (Zv6 n f) n else Zv6 n f := by
 have hs1 : Srt f := hs.sublist (List.sublist_append_left _ _)
 have hnd := Zz2 hs
 have e : ∀ j : Nat, R6 (f ++ [t]) (gn j 1) = cf (gn j 1) f + (if t.1 = gn j 1 then t.2 else 0) := fun j => by
  rw [Zy2 _ hs, Ym4]
  show _ + ((if t.1 = gn j 1 then t.2 else 0) + 0) = _
  omega
 refine Yn6 (by split <;> simp [Zn7, Zs5]) (fun j hj => ?_)
 rw [Zn7] at hj
 rw [Yc1 hj, e j]
 by_cases ht : t.1 = gn j 1
 have hz : cf (gn j 1) f = 0 := by
  have : ∀ q, q ∈ f → q.1 ≠ gn j 1 := by
   intro q hq e1
   have hp := List.nodup_append.1 (by simpa [List.map_append] using hnd : (f.map Prod.fst ++ [t.1]).Nodup)
   exact hp.2.2 q.1 (List.mem_map.2 ⟨q, hq, rfl⟩) t.1 (List.mem_singleton.2 rfl) (by rw [e1, ht])
  clear e hs hs1 hnd
  induction f with
  | nil => rfl
  | cons q f ih =>
   rw [cf, if_neg (this q (List.mem_cons_self ..)), ih (fun x hx => this x (List.mem_cons_of_mem _ hx))]; rfl
 rw [if_pos ht, hz, Int.zero_add, ht, Wn2 (by omega), if_pos (by omega), Yi2 hj, if_pos ⟨hj, by rw [ht, Zw2 (by omega), if_pos rfl]⟩]
 rw [if_neg ht, Int.add_zero, ← Zy2 _ hs1]
 split
 rename_i hw
 rw [Yi2 hj, if_neg (fun h => ht (Wu0 lo (by omega) hw h.2)), Yc1 hj]
 rw [Yc1 hj]
theorem Wb1 {i : Int} {u : Int} (hK : 1099511627776 ≤ K) (hl : a.1.length ≤ 8) (hf : Hm u a.1 (rd a.2 i)) (hlen : (rd a.2 i).length ≤ 1000000) : ∀ (k j : Nat), (rd a.2 i).length < j + k → j ≤ (rd a.2 i).length →
 D3 K a i k j (Zv6 a.1.length ((rd a.2 i).take j)) = some (.go (Zv6 a.1.length (rd a.2 i))) := by
 intro k
 induction k with
 | zero => intro j h1 h2; omega
 | succ k ih =>
  intro j h1 h2
  rw [D3]
  by_cases hj : j < (rd a.2 i).length
  have hb := Yn3 hf _ (V7 hj)
  have hs : Srt ((rd a.2 i).take (j + 1)) := (P3 hf.nf).sublist (List.take_sublist _ _)
  have := ih (j + 1) (by omega) (by omega)
  rw [Zj4 hj] at this hs
  rw [Wj8 hl hs (hf.mo _ (V7 hj)).lo] at this
  rw [if_pos (by omega)]
  by_cases hw : wlN (rd (rd a.2 i) (j : Int)).1 8 = 1
  have h0 : upT a.1.length (rd (rd a.2 i) (j : Int)) (Zv6 a.1.length ((rd a.2 i).take j)) 0 = Zv6 a.1.length ((rd a.2 i).take j) := by
   refine Yn6 (by rw [Zs5, Zn7]) (fun t ht => ?_)
   rw [Zs5] at ht
   rw [Yi2 ht, if_neg (by omega)]
  have h3 := Wf3 (K := K) (a := a) (i := i) (x := j) (row := Zv6 a.1.length ((rd a.2 i).take j)) (by omega) hl (Zn7 _ _) hb hw K 0 (by omega) (by omega)
  rw [h0] at h3
  rw [if_pos hw] at this
  replace h3 : N0 K a i j K 0 _ = _ := h3
  rw [h3]; exact this
  rw [if_neg hw] at this
  rw [Xz7 (by omega) hb hw (by omega)]; exact this
  rw [if_neg (by omega), List.take_of_length_le (by omega)]
theorem Xj1 (hK : 1099511627776 ≤ K) (hV : Vd a) : Zj5 K a = some (Yb9 a) := by
 have hl := T6 hV.dg
 have hlen := hV.len
 have key : ∀ (k j : Nat), a.2.length < j + k → j ≤ a.2.length → D7 K a k j ((Yb9 a).take j) = some (.go (Yb9 a)) := by
  intro k
  induction k with
  | zero => intro j h1 h2; omega
  | succ k ih =>
   intro j h1 h2
   rw [D7]
   by_cases hj : j < a.2.length
   have hsh := hV.short _ (V7 hj)
   have h3 := Wb1 (K := K) (i := j) hK hl (hV.hm j hj) (by omega) K 0 (by omega) (by omega)
   have e0 : Zv6 a.1.length ((rd a.2 (j : Int)).take 0) = List.replicate ((a.1.length : Int)).toNat (0 : Int) := by
    rw [Int.toNat_natCast, List.take_zero]
    refine Yn6 (by rw [Zn7, List.length_replicate]) (fun t ht => ?_)
    rw [Zn7] at ht
    rw [Yc1 ht, J7 (by rw [List.length_replicate]; exact ht), List.getElem_replicate]; rfl
   rw [e0] at h3
   replace h3 : D3 K a j K 0 _ = _ := h3
   have := ih (j + 1) (by omega) (by omega)
   rw [Zj4 (by rw [Zf5]; exact hj), Yh2 hj] at this
   rw [if_pos (by omega), if_pos (by omega), h3, Option.bind_some]
   show (if _ then _ else none) = _
   rw [if_pos (by simp; omega)]; exact this
   rw [if_neg (by omega), List.take_of_length_le (by rw [Zf5]; omega)]
 have := key K 0 (by omega) (by omega)
 unfold Zj5
 replace this : D7 K a K 0 [] = _ := this
 rw [this]; rfl
/-! the table on the other side -/
theorem Xt0 {f : MpT} {u : Int} (hK : 1099511627776 ≤ K) (hl : a.1.length ≤ 8) (hf : Hm u a.1 f) (hlen : f.length ≤ 1000000) : Zn6 K a.1 f = some (Zv6 a.1.length f) := by
 have key : ∀ (k j : Nat), a.1.length < j + k → j ≤ a.1.length → D5 K a.1 f k j ((Zv6 a.1.length f).take j) = some (.go (Zv6 a.1.length f)) := by
  intro k
  induction k with
  | zero => intro j h1 h2; omega
  | succ k ih =>
   intro j h1 h2
   rw [D5]
   by_cases hj : j < a.1.length
   have := ih (j + 1) (by omega) (by omega)
   rw [Zj4 (by rw [Zn7]; exact hj), Yc1 hj] at this
   rw [if_pos (by omega), Zs2 (by omega), Option.bind_some, if_pos (by simp; omega)]; exact this
   rw [if_neg (by omega), List.take_of_length_le (by rw [Zn7]; omega)]
 have := key K 0 (by omega) (by omega)
 unfold Zn6
 replace this : D5 K a.1 f K 0 [] = _ := this
 rw [Yc3 (by omega) (by omega) (Yn3 hf) (P3 hf.nf), Option.bind_some, this]; rfl
theorem Wg2 (hK : 1099511627776 ≤ K) (hV : Vd a) : Za7 K a = some (Yb9 a) := by
 have hl := T6 hV.dg
 have hlen := hV.len
 have key : ∀ (k j : Nat), a.2.length < j + k → j ≤ a.2.length → P1 K a k j ((Yb9 a).take j) = some (.go (Yb9 a)) := by
  intro k
  induction k with
  | zero => intro j h1 h2; omega
  | succ k ih =>
   intro j h1 h2
   rw [P1]
   by_cases hj : j < a.2.length
   have hsh := hV.short _ (V7 hj)
   have := ih (j + 1) (by omega) (by omega)
   rw [Zj4 (by rw [Zf5]; exact hj), Yh2 hj] at this
   rw [if_pos (by omega), Xt0 hK hl (hV.hm j hj) (by omega), Option.bind_some, if_pos (by simp; omega)]; exact this
   rw [if_neg (by omega), List.take_of_length_le (by rw [Zf5]; omega)]
 have := key K 0 (by omega) (by omega)
 unfold Za7
 replace this : P1 K a K 0 [] = _ := this
 rw [this]; rfl
/-! the first pair -/
def ldR (row : List Int) : Nat → Nat → Option Nat
 | 0, _ => none
 | n + 1, j => if rd row (j : Int) = 0 then ldR row n (j + 1) else some j
def prR (t : List (List Int)) (w : Nat) : Nat → Nat → Int × Int × Bool
 | 0, _ => (0, 0, false)
 | n + 1, i => match ldR (rd t (i : Int)) w 0 with | some k => ((i : Int), (k : Int), true) | none => prR t w n (i + 1)
def Zj8 (a : F1) : Int × Int × Bool := prR (Yb9 a) a.2.length a.2.length 0
theorem Xr3 {row : List Int} : ∀ (n j k : Nat), ldR row n j = some k → j ≤ k ∧ k < j + n ∧ rd row (k : Int) ≠ 0
 | 0, _, _, h => by cases h
 | n + 1, j, k, h => by
  rw [ldR] at h
  split at h
  have := Xr3 n (j + 1) k h; exact ⟨by omega, by omega, this.2.2⟩
  rename_i h0
  cases h; exact ⟨by omega, by omega, h0⟩
theorem Wg8 {t : List (List Int)} {i : Int} (hw : (rd t i).length = t.length) : ∀ (k j : Nat), t.length < j + k → j ≤ t.length →
 Zb3 K t i k j = some (match ldR (rd t i) (t.length - j) j with | some x => .ret (i, (x : Int), true) | none => .go ()) := by
 intro k
 induction k with
 | zero => intro j h1 h2; omega
 | succ k ih =>
  intro j h1 h2
  rw [Zb3]
  by_cases hj : j < t.length
  have := ih (j + 1) (by omega) (by omega)
  rw [if_pos (by omega), if_pos (by omega), show t.length - j = (t.length - (j + 1)) + 1 by omega, ldR]
  by_cases h0 : rd (rd t i) (j : Int) = 0
  rw [if_pos h0, if_pos h0]; exact this
  rw [if_neg h0, if_neg h0]
  rw [if_neg (by omega), show t.length - j = 0 by omega, ldR]
theorem Wk4 {t : List (List Int)} (hK : t.length < K) (hw : ∀ i : Nat, i < t.length → (rd t (i : Int)).length = t.length) : ∀ (k j : Nat), t.length < j + k → j ≤ t.length →
 (Ze3 K t k j).bind (Ex.elim (fun r => some r) (fun _ => some (0, 0, false))) = some (prR t t.length (t.length - j) j) := by
 intro k
 induction k with
 | zero => intro j h1 h2; omega
 | succ k ih =>
  intro j h1 h2
  rw [Ze3]
  by_cases hj : j < t.length
  have := ih (j + 1) (by omega) (by omega)
  have h3 := Wg8 (K := K) (hw j hj) K 0 (by omega) (by omega)
  replace h3 : Zb3 K t j K 0 = _ := h3
  rw [if_pos (by omega), h3, Option.bind_some, show t.length - j = (t.length - (j + 1)) + 1 by omega, prR, Nat.sub_zero]
  cases ldR (rd t (j : Int)) t.length 0 with
  | some x => rfl
  | none => exact this
  rw [if_neg (by omega), show t.length - j = 0 by omega, prR]; rfl
theorem Ws0 (hK : 1099511627776 ≤ K) (hV : Vd a) : Zr7 K a = some (Zj8 a) := by
 have hl := T6 hV.dg
 have hlen := hV.len
 have h1 := Wk4 (K := K) (t := Yb9 a) (by rw [Zf5]; omega) (fun i hi => by
  rw [Zf5] at hi
  rw [Yh2 hi, Zn7, Zf5, hlen]) K 0 (by rw [Zf5]; omega) (by omega)
 unfold Zr7
 rw [Xj1 hK hV, Option.bind_some]
 refine Eq.trans h1 ?_
 rw [Zf5]; rfl
theorem Wc6 {row : List Int} : ∀ (k j : Nat), row.length < j + k → j ≤ row.length →
 (V5 K row (fun x => Zm9 K x) k j).bind (Ex.elim (fun r => some r) (fun _ => some (-1))) = some (match ldR row (row.length - j) j with | some x => (x : Int) | none => -1) := by
 intro k
 induction k with
 | zero => intro j h1 h2; omega
 | succ k ih =>
  intro j h1 h2
  rw [V5]
  by_cases hj : j < row.length
  have := ih (j + 1) (by omega) (by omega)
  rw [if_pos (by omega)]
  unfold Zm9
  rw [Option.bind_some, show row.length - j = (row.length - (j + 1)) + 1 by omega, ldR]
  by_cases h0 : rd row (j : Int) = 0
  rw [decide_eq_true h0, if_neg (by decide), if_pos h0]; exact this
  rw [decide_eq_false h0, if_pos (show (!false) = true from rfl), if_neg h0]; rfl
  rw [if_neg (by omega), show row.length - j = 0 by omega, ldR]; rfl
theorem Wu5 {row : List Int} (hK : row.length < K) : Zy0 K row = some (match ldR row row.length 0 with | some x => (x : Int) | none => -1) := by
 have := Wc6 (K := K) (row := row) K 0 (by omega) (by omega)
 unfold Zy0 L3
 replace this : (V5 K row (fun x => Zm9 K x) K 0).bind _ = _ := this
 rw [this]; rfl
theorem Wl1 {t : List (List Int)} (hK : t.length < K) (hw : ∀ i : Nat, i < t.length → (rd t (i : Int)).length = t.length) : ∀ (k j : Nat), t.length < j + k → j ≤ t.length →
 (E1 K t k j).bind (Ex.elim (fun r => some r) (fun _ => some (0, 0, false))) = some (prR t t.length (t.length - j) j) := by
 intro k
 induction k with
 | zero => intro j h1 h2; omega
 | succ k ih =>
  intro j h1 h2
  rw [E1]
  by_cases hj : j < t.length
  have := ih (j + 1) (by omega) (by omega)
  have hwj := hw j hj
  rw [if_pos (by omega), Wu5 (by omega), Option.bind_some, show t.length - j = (t.length - (j + 1)) + 1 by omega, prR, hwj]
  cases ldR (rd t (j : Int)) t.length 0 with
  | some x => exact congrArg (fun o => Option.bind o _) (if_pos (Int.natCast_nonneg x))
  | none => dsimp only; rw [if_neg (by decide)]; exact this
  rw [if_neg (by omega), show t.length - j = 0 by omega, prR]; rfl
theorem Wq0 (hK : 1099511627776 ≤ K) (hV : Vd a) : Zj0 K a = some (Zj8 a) := by
 have hl := T6 hV.dg
 have hlen := hV.len
 have h1 := Wl1 (K := K) (t := Yb9 a) (by rw [Zf5]; omega) (fun i hi => by
  rw [Zf5] at hi
  rw [Yh2 hi, Zn7, Zf5, hlen]) K 0 (by rw [Zf5]; omega) (by omega)
 unfold Zj0
 rw [show (a.1, a.2) = a from rfl, Wg2 hK hV, Option.bind_some]
 refine Eq.trans h1 ?_
 rw [Zf5]; rfl
theorem Xs2 {t : List (List Int)} {w : Nat} : ∀ (n i : Nat), (prR t w n i).2.2 = true → ∃ x y : Nat, prR t w n i = ((x : Int), (y : Int), true) ∧ i ≤ x ∧ x < i + n ∧ y < w ∧ rd (rd t (x : Int)) (y : Int) ≠ 0
 | 0, i, h => by cases h
 | n + 1, i, h => by
  rw [prR] at h ⊢
  cases hl : ldR (rd t (i : Int)) w 0 with
  | some k =>
   obtain ⟨h1, h2, h3⟩ := Xr3 _ _ _ hl
   exact ⟨i, k, rfl, Nat.le_refl _, by omega, by omega, h3⟩
  | none =>
   rw [hl] at h
   obtain ⟨x, y, h1, h2, h3, h4, h5⟩ := Xs2 n (i + 1) h
   exact ⟨x, y, h1, by omega, by omega, h4, h5⟩
/-- what a pair is -/
structure Pr (a : F1) (i k : Nat) : Prop where
 hi : i < a.1.length
 hk : k < a.1.length
 nz : R6 (rd a.2 (i : Int)) (gn k 1) ≠ 0
theorem Xk5 (hV : Vd a) (h : (Zj8 a).2.2 = true) : ∃ i k : Nat, Zj8 a = ((i : Int), (k : Int), true) ∧ Pr a i k := by
 obtain ⟨x, y, h1, _, h3, h4, h5⟩ := Xs2 _ _ h
 have hlen := hV.len
 rw [Yh2 (by omega), Yc1 (by omega)] at h5
 exact ⟨x, y, h1, by omega, by omega, h5⟩
theorem Wh3 {s : MpT} {a : A8} (h : R6 s a ≠ 0) : (a, R6 s a) ∈ s := by
 unfold R6 at h ⊢
 cases hq : s.find? (fun p => eq8 a p.1) with
 | none => rw [hq] at h; exact absurd rfl h
 | some p =>
  have hm := List.mem_of_find?_eq_some hq
  have he := Zg2.1 (List.find?_some (p := fun (q : A8 × Int) => eq8 a q.1) hq)
  show (a, p.2) ∈ s
  rw [he]; exact hm
/-- degrees of a pair -/
theorem Yv0 {i k : Nat} (hV : Vd a) (h : Pr a i k) : rd a.1 (k : Int) = rd a.1 (i : Int) + 1 ∧ i ≠ k ∧ 1 ≤ R6 (rd a.2 (i : Int)) (gn k 1) ∧ R6 (rd a.2 (i : Int)) (gn k 1) ≤ 10006 := by
 have hl := T6 hV.dg
 have hlen := hV.len
 have hh := hV.hm i (by have := h.hi; omega)
 have hm := Wh3 h.nz
 have hw := hh.w _ hm
 have hc := Zr2 hh.nf _ hm
 have hk := h.hk
 unfold wt at hw
 rw [Xm9 a.1 (by omega), if_pos h.hk, Int.mul_one] at hw
 refine ⟨hw, ?_, hc.1, hc.2⟩
 rintro rfl
 omega
end
section
variable {K : Nat} {gs ds sd : List Int} {ms imgs : List MpT} {a : F1}
/-! lists without some, on both sides -/
theorem Wz8 {x : Int} (hK : gs.length < K) : J2 K gs x K false 0 = some (.go (N9 gs x)) := by
 have := Ye1 (x := x) (J2 K gs x) (fun k b n => by rw [J2]) K 0 false (by omega) (by omega)
 exact this
theorem Xy9 (hK : 1099511627776 ≤ K) (hg : gs.length ≤ 8) (hl : ds.length ≤ 8) : Zl6 K ds gs = some (dsG gs ds) := by
 have key : ∀ (k j : Nat), ds.length < j + k → j ≤ ds.length → J4 K ds gs k j ((Q9 gs j).map fun (j : Nat) => rd ds (j : Int)) = some (.go (dsG gs ds)) := by
  intro k
  induction k with
  | zero => intro j h1 h2; omega
  | succ k ih =>
   intro j h1 h2
   rw [J4]
   by_cases hj : j < ds.length
   have := ih (j + 1) (by omega) (by omega)
   have hs := Zk9 gs j
   rw [Zi2] at this
   rw [if_pos (by omega), Wz8 (by omega), Option.bind_some]
   by_cases e : N9 gs (j : Int) = true
   rw [if_pos e] at this
   show (if N9 gs (j : Int) = true then _ else _) = _
   rw [if_pos e]; exact this
   rw [if_neg e, List.map_append] at this
   show (if N9 gs (j : Int) = true then _ else _) = _
   rw [if_neg e, if_pos (by simp; omega)]; exact this
   rw [if_neg (by omega), show j = ds.length by omega]; rfl
 have := key K 0 (by omega) (by omega)
 unfold Zl6
 replace this : J4 K ds gs K 0 [] = _ := this
 rw [this]; rfl
theorem Wd4 {x : Int} : ∀ (k j : Nat), gs.length < j + k → j ≤ gs.length →
 ((K4 K gs x k j).bind (Ex.elim (fun r => some r) (fun _ => some (-1)))).bind (fun r => some (decide (0 ≤ r))) = some (N9 (gs.drop j) x) := by
 intro k
 induction k with
 | zero => intro j h1 h2; omega
 | succ k ih =>
  intro j h1 h2
  rw [K4]
  by_cases hj : j < gs.length
  have e : N9 (gs.drop j) x = (decide (rd gs (j : Int) = x) || N9 (gs.drop (j + 1)) x) := by
   unfold N9
   rw [List.drop_eq_getElem_cons hj, List.any_cons, J7 hj]
  rw [if_pos (by omega), e]
  by_cases h0 : x = rd gs (j : Int)
  rw [if_pos h0, decide_eq_true h0.symm]
  show some (decide ((0 : Int) ≤ (j : Int))) = _
  rw [decide_eq_true (Int.natCast_nonneg j)]; rfl
  rw [if_neg h0, decide_eq_false (fun h => h0 h.symm)]
  exact ih (j + 1) (by omega) (by omega)
  rw [if_neg (by omega), List.drop_eq_nil_of_le (by omega)]; rfl
theorem Xt8 {x : Int} (hK : gs.length < K) : Zf3 K gs x = some (N9 gs x) := by
 have := Wd4 (K := K) (gs := gs) (x := x) K 0 (by omega) (by omega)
 exact this
/-- the places of the generators -/
def plG (gs : List Int) (n : Nat) : List Int := (List.range n).map fun (j : Nat) => if N9 gs (j : Int) = true then -1 else ((Q9 gs j).length : Int)
theorem Xv8 (n : Nat) : (plG gs n).length = n := by simp [plG]
theorem Wh6 (n : Nat) : plG gs (n + 1) = plG gs n ++ [if N9 gs (n : Int) = true then -1 else ((Q9 gs n).length : Int)] := by unfold plG; rw [List.range_succ, List.map_append]; rfl
theorem Wu6 {n j : Nat} (h : j < n) : rd (plG gs n) (j : Int) = if N9 gs (j : Int) = true then -1 else ((Q9 gs j).length : Int) := Ya9 (by simp [plG, h])
theorem Xz8 (hK : 1099511627776 ≤ K) (hg : gs.length ≤ 8) (hl : ds.length ≤ 8) : Ze9 K (ds, imgs) gs = some (dsG gs ds, plG gs ds.length) := by
 have key : ∀ (k j : Nat), ds.length < j + k → j ≤ ds.length → P9 K (ds, imgs) gs k j (plG gs j) ((Q9 gs j).map fun (j : Nat) => rd ds (j : Int)) = some (.go (plG gs ds.length, dsG gs ds)) := by
  intro k
  induction k with
  | zero => intro j h1 h2; omega
  | succ k ih =>
   intro j h1 h2
   rw [P9]
   dsimp only
   by_cases hj : j < ds.length
   have := ih (j + 1) (by omega) (by omega)
   have hs := Zk9 gs j
   have hp := Xv8 (gs := gs) j
   rw [Zi2, Wh6] at this
   rw [if_pos (by omega), Xt8 (by omega), Option.bind_some]
   by_cases e : N9 gs (j : Int) = true
   rw [if_pos e, if_pos e] at this
   rw [if_pos e, if_pos (by simp; omega)]; exact this
   rw [if_neg e, if_neg e, List.map_append] at this
   rw [if_neg e, if_pos (by simp; omega), if_pos (by simp; omega), List.length_map]; exact this
   rw [if_neg (by omega), show j = ds.length by omega]; rfl
 have := key K 0 (by omega) (by omega)
 unfold Ze9
 replace this : P9 K (ds, imgs) gs K 0 [] [] = _ := this
 rw [this]; rfl
theorem Wg9 {u : Int} {f : MpT} (hK : 1099511627776 ≤ K) (hd : okD ds = true) (hf : Hm u ds f) (hu : u ≤ 13) (hfl : f.length ≤ 1475789056) : Zh9 K ds f (plG gs ds.length) (dsG gs ds) = (N7 K (ds, dsG gs ds, nmG gs ds.length) f) := by
 have hl := T6 hd
 have key : ∀ (k j : Nat), ds.length < j + k → j ≤ ds.length → J3 K (plG gs ds.length) k j (nmG gs j) = some (.go (nmG gs ds.length)) := by
  intro k
  induction k with
  | zero => intro j h1 h2; omega
  | succ k ih =>
   intro j h1 h2
   have hp := Xv8 (gs := gs) ds.length
   rw [J3]
   by_cases hj : j < ds.length
   have := ih (j + 1) (by omega) (by omega)
   have hs := Zk9 gs j
   have hn := Zc6 gs j
   rw [Yq9] at this
   rw [if_pos (by omega), Wu6 hj]
   by_cases e : N9 gs (j : Int) = true
   rw [if_pos e] at this
   rw [if_pos e, if_pos (by decide), if_pos (by simp; omega)]; exact this
   rw [if_neg e] at this
   have e1 : I9 ([] : MpT) (gn (Q9 gs j).length 1) 1 = [(gn (Q9 gs j).length 1, 1)] := rfl
   rw [if_neg e, if_neg (by omega), Zs2 (by omega), Option.bind_some, e1, if_pos (by simp; omega)]; exact this
   rw [if_neg (by omega), show j = ds.length by omega]
 have := key K 0 (by omega) (by omega)
 unfold Zh9
 replace this : J3 K (plG gs ds.length) K 0 [] = _ := this
 rw [this, Option.bind_some]
 show (N7 K (ds, dsG gs ds, nmG gs ds.length) f).bind _ = _
 cases N7 K (ds, dsG gs ds, nmG gs ds.length) f <;> rfl
/-! multiples, and terms that are led to nothing -/
theorem Wy0 (n : Nat) (c : Int) (X : MpT) : rnL gs n (Xf6 c X) = Xf6 c (rnL gs n X) := by
 unfold Xf6
 rw [Xn9]
 have e : ∀ T : MpT, rnF gs n (scl c T) = scl c (rnF gs n T) := by
  intro T
  induction T with
  | nil => rfl
  | cons t T ih =>
   have e1 : rnF gs n (scl c (t :: T)) = rn1 gs n (t.1, c * t.2) ++ rnF gs n (scl c T) := rfl
   have e2 : scl c (rnF gs n (t :: T)) = scl c (rn1 gs n t) ++ scl c (rnF gs n T) := by
    show scl c (rn1 gs n t ++ rnF gs n T) = _
    unfold scl; rw [List.map_append]
   rw [e1, e2, ih]
   congr 1
   unfold rn1 scl
   split <;> rfl
 unfold rnL
 rw [e]
 refine Yi4 (fun a => ?_)
 rw [Yu1, Yu1, Int.mul_emod, ← Yn1 a (rnF gs n X), ← Int.mul_emod]
theorem Xq0 {k : Nat} {c : Int} (hk : k < 8) (h0 : rd ms (k : Int) = []) : ∀ j, k < j → prT ds ms (gn k 1) c j = []
 | 0, h => by omega
 | j + 1, h => by
  rw [prT, Zw2 hk]
  by_cases e : j = k
  subst e
  rw [if_pos rfl, if_pos (by decide), h0]
  have e1 : ∀ s : MpT, Zm7 ds s [] = [] := fun s => by
   have : F6 ds s [] = [] := by
    induction s with
    | nil => rfl
    | cons z s ih => show P6 ds z [] ++ F6 ds s [] = []; rw [ih]; rfl
   unfold Zm7; rw [this]; rfl
  show Zm7 ds _ (Zm7 ds [((fun _ => 0), 1)] []) = []
  rw [e1, e1]
  rw [if_neg e, if_neg (by decide)]
  exact Xq0 hk h0 j (by omega)
theorem Wi7 {k n : Nat} (hk : k < 8) (hkn : k < n) (h0 : rd ms (k : Int) = []) (f : MpT) : N6 ds ms n (Zi3 f (gn k 1)) = N6 ds ms n f := by
 unfold N6 Yg0
 congr 1
 induction f with
 | nil => rfl
 | cons t f ih =>
  unfold Zi3 at ih ⊢
  rw [List.filter_cons, List.flatMap_cons]
  cases e : eq8 (gn k 1) t.1 with
  | true =>
   rw [← Zg2.1 e, Xq0 hk h0 n hkn]
   simpa using ih
  | false =>
   simp only [Bool.not_false, if_true, List.flatMap_cons]
   rw [ih]
theorem Xg1 {u : Int} {f : MpT} {p : A8} (hf : Hm u ds f) : Hm u ds (Zi3 f p) :=
 ⟨Ya2 (Yq1 (P3 hf.nf) p) (fun q hq => Zr2 hf.nf q (Zu3.1 hq).1), fun q hq => hf.mo q (Zu3.1 hq).1, fun q hq => hf.w q (Zu3.1 hq).1⟩
theorem Wj2 (f : MpT) (p : A8) : (Zi3 f p).length ≤ f.length := List.length_filter_le _ _
/-! what a contracted pair gives -/
def ctK (c : Int) : Int := (0 - inv c) % 10007
def ctW (a : F1) (i k : Nat) : MpT := Xf6 (ctK (R6 (rd a.2 (i : Int)) (gn k 1))) (N6 (dsG [(i : Int), (k : Int)] a.1) (nmG [(i : Int), (k : Int)] a.1.length) a.1.length (rd a.2 (i : Int)))
def ctM (a : F1) (i k : Nat) : List MpT := (nmG [(i : Int), (k : Int)] a.1.length).set k (ctW a i k)
def ctD (a : F1) (i k : Nat) : List Int := dsG [(i : Int), (k : Int)] a.1
def ctO (a : F1) (i k : Nat) : List MpT := Zk2 [(i : Int), (k : Int)] (ctD a i k) (ctM a i k) a.2 a.1.length a.1.length
def ctB (a : F1) (i k : Nat) : Bool := (ctM a i k).all (fun f => decide (f.length ≤ 400)) && (ctO a i k).all (fun f => decide (f.length ≤ 400))
abbrev CtT := (List Int × List MpT) × List MpT × Int
def ctR (a : F1) (i k : Nat) : CtT := if ctB a i k = true then ((ctD a i k, ctO a i k), ctM a i k, 0) else (([], []), [], 3)
theorem Xf0 {i k : Nat} (j : Nat) : N9 [(i : Int), (k : Int)] (j : Int) = true ↔ j = i ∨ j = k := by
 unfold N9
 simp only [List.any_cons, List.any_nil, Bool.or_false, Bool.or_eq_true, decide_eq_true_eq]
 omega
theorem Wo9 {i k : Nat} (hV : Vd a) (h : Pr a i k) : Hm (rd a.1 (k : Int)) (ctD a i k) (ctW a i k) := by
 have hpos := D0 hV.dg
 have hlen := hV.len
 obtain ⟨h1, h2, h3⟩ := Yv0 hV h
 have hi := h.hi
 have hk := hpos _ (V7 h.hk)
 rw [h1]
 exact Xu9 (Zp0 (Xd5 hV.dg) (hV.hm i (by omega)) (by omega))
theorem Yn0 {i k : Nat} (hV : Vd a) (h : Pr a i k) : Lds a.1 (ctD a i k) (ctM a i k) := by
 have hL := Xd5 (gs := [(i : Int), (k : Int)]) hV.dg
 refine ⟨hL.src, hL.dst, by unfold ctM; rw [List.length_set]; exact hL.len, fun j hj => ?_⟩
 unfold ctM at hj ⊢
 rw [List.length_set] at hj
 rw [Yu3 hj]
 by_cases e : j = k
 subst e; rw [if_pos rfl]; exact Wo9 hV h
 rw [if_neg e]; exact hL.hm j hj
theorem Yh1 {i k : Nat} : (ctM a i k).length = a.1.length := by unfold ctM; rw [List.length_set, Zc6]
theorem Xg5 {c : Int} (hc : 1 ≤ c ∧ c ≤ 10006) : -10006 ≤ 0 - inv c ∧ 0 - inv c ≤ -1 := by have := Wp0 hc; omega
theorem Xv3 {c : Int} (hc : 1 ≤ c ∧ c ≤ 10006) : 1 ≤ ctK c ∧ ctK c ≤ 10006 := by
 have := Xg5 hc
 unfold ctK; omega
theorem Wx2 {i k : Nat} (hK : 1099511627776 ≤ K) (hV : Vd a) (h : Pr a i k) : Zk1 K a i k = some (ctR a i k) := by
 have hl := T6 hV.dg
 have hlen := hV.len
 have hi := h.hi
 have hk := h.hk
 obtain ⟨h1, h2, h3⟩ := Yv0 hV h
 have hpos := D0 hV.dg
 have hwk := hpos _ (V7 hk)
 have hfi := hV.hm i (by omega)
 have hsh := hV.short _ (V7 (show i < a.2.length by omega))
 have hLn := Xd5 (gs := [(i : Int), (k : Int)]) hV.dg
 have hX := Zp0 hLn hfi (by omega)
 have hXl := hX.len
 have hneg := Xg5 h3
 have hcv := Xv3 h3
 unfold Zk1
 rw [Xy9 hK (by simp) hl, Option.bind_some, Xn7 hK (by simp) hl, Option.bind_some, show (a.1, a.2) = a from rfl, Xj1 hK hV, Option.bind_some, Zf5, if_pos (by omega), if_pos (by omega), if_pos (by omega), Yh2 (by omega), Zn7, if_pos (by omega), if_pos (by omega),
  Xa8 hK hLn (Zw4 hfi (by omega)) (by omega), Option.bind_some, Yc1 hk, Xz6 hK h3, Option.bind_some, Yd7, Option.bind_some, IntWalk.i64_in _ (by omega)]
 show ((Zd5 K [] _ (ctK (R6 (rd a.2 (i : Int)) (gn k 1)))).bind _) = _
 rw [Xc7 (by omega) (by simp; omega) (by omega) Ww9 (B8 hX.nf) (by simp) (by omega), Option.bind_some, Yn9 B0 (P3 hX.nf), Zc6, if_pos (by omega), Int.toNat_natCast]
 show ((Zd7 K (ctD a i k) (ctM a i k)).bind _) = _
 have hL := Yn0 hV h
 rw [Xs1 hK hL.dst (by rw [Yh1]; exact hl) (fun f hf => by
  obtain ⟨n, hn, rfl⟩ := List.getElem_of_mem hf
  have := hL.hm n hn
  rw [J7 hn] at this
  exact ⟨_, this⟩), Option.bind_some]
 by_cases hA : ((ctM a i k).all fun f => decide (f.length ≤ 400)) = true
 rw [if_pos hA, if_pos rfl]
 show ((Zj3 K (a.1, a.2) (ctD a i k) (ctM a i k) [(i : Int), (k : Int)]).bind _) = _
 rw [Wc0 hK hL (by simp) hlen (fun j hj => ⟨hV.hm j hj, by have := hV.short _ (V7 hj); omega⟩), Option.bind_some]
 show (if (Yz8 (ctD a i k) (ctO a i k)).2 = 0 then some (((Yz8 (ctD a i k) (ctO a i k)).1.1, (Yz8 (ctD a i k) (ctO a i k)).1.2), ctM a i k, (0 : Int)) else some ((([] : List Int), ([] : List MpT)), ([] : List MpT), (Yz8 (ctD a i k) (ctO a i k)).2)) = _
 unfold Yz8 ctR ctB
 rw [hA, Bool.true_and]
 by_cases hB : ((ctO a i k).all fun f => decide (f.length ≤ 400)) = true
 rw [if_pos hB, if_pos rfl, if_pos hB]
 rw [if_neg hB, if_neg (by decide), if_neg hB]
 rw [if_neg hA, if_neg (by decide)]
 unfold ctR ctB
 rw [if_neg (by simp only [Bool.and_eq_true]; exact fun h => hA h.1)]
/-! the other side -/
def Yq8 (a : F1) (i : Nat) : List MpT := (nmG [] a.1.length).set i []
def Xb9 (a : F1) (i k : Nat) : MpT := Xf6 (ctK (R6 (rd a.2 (i : Int)) (gn k 1))) (N6 a.1 (Yq8 a i) a.1.length (Zi3 (rd a.2 (i : Int)) (gn k 1)))
def ctY (a : F1) (i k : Nat) : List MpT := (Yq8 a i).set k (Xb9 a i k)
theorem Yo9 {i : Nat} (hV : Vd a) (hi : i < a.1.length) : Lds a.1 a.1 (Yq8 a i) := Wo5 hV.dg hi (Hm.nil _ _)
theorem Wp1 {i k : Nat} (hV : Vd a) (h : Pr a i k) : Hm (rd a.1 (k : Int)) a.1 (Xb9 a i k) := by
 have hpos := D0 hV.dg
 have hlen := hV.len
 obtain ⟨h1, h2, h3⟩ := Yv0 hV h
 have hi := h.hi
 have hk := hpos _ (V7 h.hk)
 rw [h1]
 exact Xu9 (Zp0 (Yo9 hV hi) (Xg1 (hV.hm i (by omega))) (by omega))
theorem Wo3 {i k : Nat} (hV : Vd a) (h : Pr a i k) : Lds a.1 a.1 (ctY a i k) := by
 have hL := Yo9 hV h.hi
 refine ⟨hL.src, hL.dst, by unfold ctY; rw [List.length_set]; exact hL.len, fun j hj => ?_⟩
 unfold ctY at hj ⊢
 rw [List.length_set] at hj
 rw [Yu3 hj]
 by_cases e : j = k
 subst e; rw [if_pos rfl]; exact Wp1 hV h
 rw [if_neg e]; exact hL.hm j hj
theorem Wy3 {xs ys : List MpT} (hl : xs.length = ys.length) (h : ∀ j : Nat, j < xs.length → rd xs (j : Int) = rd ys (j : Int)) : xs = ys := by
 refine List.ext_getElem hl (fun j h1 h2 => ?_)
 have := h j h1
 rwa [J7 h1, J7 h2] at this
theorem Wq3 (n : Nat) : rnL gs n [] = [] := rfl
theorem Xv6 {i k : Nat} (hV : Vd a) (h : Pr a i k) : (Yq8 a i).map (rnL [(i : Int), (k : Int)] a.1.length) = nmG [(i : Int), (k : Int)] a.1.length := by
 have hl := T6 hV.dg
 refine Wy3 (by simp [Yq8, Zc6]) (fun j hj => ?_)
 unfold Yq8 at hj ⊢
 rw [List.length_map, List.length_set, Zc6] at hj
 rw [Yt6 (by rw [List.length_set, Zc6]; exact hj), Yu3 (by rw [Zc6]; exact hj), Xo1 (gs := [(i : Int), (k : Int)]) hj]
 by_cases e : j = i
 subst e; rw [if_pos rfl, if_pos ((Xf0 j).2 (.inl rfl)), Wq3]
 rw [if_neg e, Xf4 hj]; exact Wd6 hl hj
theorem Wv3 {i k : Nat} (hV : Vd a) (h : Pr a i k) : (ctY a i k).map (rnL [(i : Int), (k : Int)] a.1.length) = ctM a i k := by
 have hl := T6 hV.dg
 have hlen := hV.len
 have hi := h.hi
 have hk := h.hk
 obtain ⟨h1, h2, h3⟩ := Yv0 hV h
 have hwk := D0 hV.dg _ (V7 hk)
 have e1 : (ctY a i k).map (rnL [(i : Int), (k : Int)] a.1.length) = (nmG [(i : Int), (k : Int)] a.1.length).set k (rnL [(i : Int), (k : Int)] a.1.length (Xb9 a i k)) := by
  unfold ctY
  rw [List.map_set, Xv6 hV h]
 rw [e1]
 unfold ctM ctW Xb9
 rw [Wy0, Xo2 (Yo9 hV hi) (Zw4 (Xg1 (hV.hm i (by omega))) (by omega)), Xv6 hV h, Wi7 (by omega) hk (by rw [Xo1 hk, if_pos ((Xf0 k).2 (.inr rfl))])]
theorem Wx7 {i k : Nat} {u : Int} {s : MpT} (hK : 1099511627776 ≤ K) (hV : Vd a) (h : Pr a i k) (hs : Hm u a.1 s) (hu : u ≤ 13) (hsl : s.length ≤ 1000000) :
 G7 K s a (ctY a i k) (plG [(i : Int), (k : Int)] a.1.length) (ctD a i k) = some (if 400 < (N6 (ctD a i k) (ctM a i k) a.1.length s).length then ([], 3) else (N6 (ctD a i k) (ctM a i k) a.1.length s, 0)) := by
 have hY := Wo3 hV h
 have hX := Zp0 hY hs hu
 have hXl := hX.len
 have hL := Yn0 hV h
 have hZ := Zp0 hL hs hu
 unfold G7 Zc0
 rw [Xg2 hK hY (Zw4 hs hu) hsl, Option.bind_some, Option.bind_some]
 show ((Zh9 K a.1 _ (plG [(i : Int), (k : Int)] a.1.length) (dsG [(i : Int), (k : Int)] a.1)).bind _) = _
 have hp : N7 K (a.1, dsG [(i : Int), (k : Int)] a.1, nmG [(i : Int), (k : Int)] a.1.length) (N6 a.1 (ctY a i k) a.1.length s) = some (N6 (dsG [(i : Int), (k : Int)] a.1) (nmG [(i : Int), (k : Int)] a.1.length) a.1.length (N6 a.1 (ctY a i k) a.1.length s)) := by
  have hLn := Xd5 (gs := [(i : Int), (k : Int)]) hV.dg
  have := Xb4 (K := K) hK hLn K (N6 a.1 (ctY a i k) a.1.length s) [] (by omega) (Zw4 hX hu) B0 (fun t ht => by cases ht)
  unfold N7
  replace this : T8 K (a.1, dsG [(i : Int), (k : Int)] a.1, nmG [(i : Int), (k : Int)] a.1.length) K (N6 a.1 (ctY a i k) a.1.length s) [] = _ := this
  rw [this]; rfl
 rw [Wg9 hK hV.dg hX hu hXl, hp, Option.bind_some, Wr8 hY hs hu, Wv3 hV h]
 show ((B5 K (N6 (ctD a i k) (ctM a i k) a.1.length s)).bind _) = _
 rw [Xg4 hK hZ]; rfl
def Zy4 (a : F1) (i k j : Nat) : Bool := decide ((rd (ctM a i k) (j : Int)).length ≤ 400) && (N9 [(i : Int), (k : Int)] (j : Int) || decide ((N6 (ctD a i k) (ctM a i k) a.1.length (rd a.2 (j : Int))).length ≤ 400))
theorem Wi1 {i k : Nat} (hK : 1099511627776 ≤ K) (hV : Vd a) (h : Pr a i k) {f9 : MpT} {r9 : List MpT} {d1 : List Int × List Int} (hY : (r9.set i ([] : MpT)).set k f9 = ctY a i k) (hd1 : d1 = (ctD a i k, plG [(i : Int), (k : Int)] a.1.length)) :
 ∀ (m j : Nat), a.1.length < j + m → j ≤ a.1.length → S6 K a i k f9 d1 r9 m j ((ctM a i k).take j) (Zk2 [(i : Int), (k : Int)] (ctD a i k) (ctM a i k) a.2 a.1.length j) =
  some (if ((List.range' j (a.1.length - j)).all (Zy4 a i k)) = true then .go (ctO a i k, ctM a i k) else .ret (([], []), [], 3)) := by
 have hl := T6 hV.dg
 have hlen := hV.len
 have hL := Yn0 hV h
 intro m
 induction m with
 | zero => intro j h1 h2; omega
 | succ m ih =>
  intro j h1 h2
  rw [S6]
  by_cases hj : j < a.1.length
  have hpj := D0 hV.dg _ (V7 hj)
  have hr : List.range' j (a.1.length - j) = j :: List.range' (j + 1) (a.1.length - (j + 1)) := by
   rw [show a.1.length - j = (a.1.length - (j + 1)) + 1 by omega, List.range'_succ]
  have hml : (ctM a i k).length = a.1.length := Yh1
  have hol : (Zk2 [(i : Int), (k : Int)] (ctD a i k) (ctM a i k) a.2 a.1.length j).length ≤ 8 := by unfold Zk2; rw [List.length_map]; have := Zk9 [(i : Int), (k : Int)] j; omega
  have e1 : I9 ([] : MpT) (gn j 1) 1 = [(gn j 1, 1)] := rfl
  have hc1 := Wx7 (K := K) hK hV h (Yt2 hV.dg hj (show 1 ≤ (1 : Int) ∧ (1 : Int) ≤ 10006 by decide)) (by omega) (by simp)
  rw [Ws5 hL hj] at hc1
  have ih' := ih (j + 1) (by omega) (by omega)
  rw [Zj4 (by rw [hml]; exact hj)] at ih'
  have ho : Zk2 [(i : Int), (k : Int)] (ctD a i k) (ctM a i k) a.2 a.1.length (j + 1) = if N9 [(i : Int), (k : Int)] (j : Int) = true then Zk2 [(i : Int), (k : Int)] (ctD a i k) (ctM a i k) a.2 a.1.length j else Zk2 [(i : Int), (k : Int)] (ctD a i k) (ctM a i k) a.2 a.1.length j ++ [N6 (ctD a i k) (ctM a i k) a.1.length (rd a.2 (j : Int))] := by
   unfold Zk2; rw [Zi2]; split
   rfl
   rw [List.map_append]; rfl
  rw [ho] at ih'
  rw [if_pos (by omega), Zs2 (by omega), Option.bind_some, e1, show (a.1, a.2) = a from rfl, Int.toNat_natCast, Int.toNat_natCast, hY, hd1]
  dsimp only
  rw [hc1, Option.bind_some, hr, List.all_cons]
  rw [hd1] at ih'
  by_cases h4 : 400 < (rd (ctM a i k) (j : Int)).length
  have ek : Zy4 a i k j = false := by unfold Zy4; rw [decide_eq_false (by omega), Bool.false_and]
  rw [if_pos h4, ek]; rfl
  have hnj : (rd (ctM a i k) (j : Int)).length ≤ 400 := by omega
  rw [if_neg h4]
  dsimp only
  rw [if_pos rfl, if_pos (by simp; omega)]
  by_cases hg : N9 [(i : Int), (k : Int)] (j : Int) = true
  have ek : Zy4 a i k j = true := by unfold Zy4; rw [decide_eq_true hnj, hg]; rfl
  rw [if_pos hg] at ih'
  have hij := (Xf0 (i := i) (k := k) j).1 hg
  have goal : S6 K a i k f9 (ctD a i k, plG [(i : Int), (k : Int)] a.1.length) r9 m ((j : Int) + 1) ((ctM a i k).take j ++ [rd (ctM a i k) (j : Int)]) (Zk2 [(i : Int), (k : Int)] (ctD a i k) (ctM a i k) a.2 a.1.length j) = some (if (Zy4 a i k j && (List.range' (j + 1) (a.1.length - (j + 1))).all (Zy4 a i k)) = true then .go (ctO a i k, ctM a i k) else .ret (([], []), [], 3)) := by
   rw [ek, Bool.true_and]; exact ih'
  by_cases ei : (j : Int) = (i : Int)
  rw [if_pos ei]
  unfold K5
  rw [if_pos rfl]; exact goal
  have ek2 : (j : Int) = (k : Int) := by omega
  rw [if_neg ei, decide_eq_true ek2]
  unfold K5
  rw [if_pos rfl]; exact goal
  have hij : ¬ (j = i ∨ j = k) := fun hh => hg ((Xf0 j).2 hh)
  have hgf : N9 [(i : Int), (k : Int)] (j : Int) = false := by simpa using hg
  rw [if_neg hg] at ih'
  have hfj := hV.hm j (by omega)
  have hsj := hV.short _ (V7 (show j < a.2.length by omega))
  rw [if_neg (by omega), decide_eq_false (by omega)]
  unfold K5
  dsimp only
  rw [if_neg (by decide), if_pos (by omega), Yc3 (by omega) (by omega) (Yn3 hfj) (P3 hfj.nf), Option.bind_some, show (a.1, a.2) = a from rfl, Int.toNat_natCast, Int.toNat_natCast, hY, Wx7 hK hV h hfj (by omega) (by omega), Option.bind_some]
  by_cases h5 : 400 < (N6 (ctD a i k) (ctM a i k) a.1.length (rd a.2 (j : Int))).length
  have ek : Zy4 a i k j = false := by unfold Zy4; rw [hgf, Bool.false_or, decide_eq_false (show ¬ (N6 (ctD a i k) (ctM a i k) a.1.length (rd a.2 (j : Int))).length ≤ 400 by omega), Bool.and_false]
  rw [if_pos h5, ek]; rfl
  have ek : Zy4 a i k j = true := by unfold Zy4; rw [decide_eq_true hnj, decide_eq_true (show (N6 (ctD a i k) (ctM a i k) a.1.length (rd a.2 (j : Int))).length ≤ 400 by omega), Bool.or_true]; rfl
  rw [if_neg h5, ek, Bool.true_and]
  dsimp only
  rw [if_pos rfl, if_pos (by simp; omega)]
  exact ih'
  rw [if_neg (by omega), show j = a.1.length by omega, Nat.sub_self, List.take_of_length_le (by rw [Yh1]; exact Nat.le_refl _)]; rfl
theorem Wh9 {i k : Nat} : ((List.range a.1.length).all (Zy4 a i k)) = ctB a i k := by
 rw [Bool.eq_iff_iff]
 unfold ctB
 rw [Bool.and_eq_true, List.all_eq_true, List.all_eq_true, List.all_eq_true]
 constructor
 intro h
 refine ⟨fun f hf => ?_, fun f hf => ?_⟩
 obtain ⟨n, hn, rfl⟩ := List.getElem_of_mem hf
 have := h n (List.mem_range.2 (by rw [Yh1] at hn; exact hn))
 unfold Zy4 at this
 rw [Bool.and_eq_true, J7 hn] at this
 exact this.1
 unfold ctO Zk2 at hf
 obtain ⟨j, hj, rfl⟩ := List.mem_map.1 hf
 have := h j (List.mem_range.2 (Yi6 hj).1)
 unfold Zy4 at this
 rw [Bool.and_eq_true, (Yi6 hj).2, Bool.false_or] at this
 exact this.2
 intro h j hj
 have hj := List.mem_range.1 hj
 unfold Zy4
 rw [Bool.and_eq_true]
 refine ⟨h.1 _ (V7 (by rw [Yh1]; exact hj)), ?_⟩
 cases hg : N9 [(i : Int), (k : Int)] (j : Int) with
 | true => rfl
 | false =>
  rw [Bool.false_or]
  refine h.2 _ ?_
  unfold ctO Zk2
  exact List.mem_map.2 ⟨j, List.mem_filter.2 ⟨List.mem_range.2 hj, by rw [hg]; rfl⟩, rfl⟩
theorem Wt7 {i k : Nat} (hK : 1099511627776 ≤ K) (hV : Vd a) (h : Pr a i k) : Ze2 K a i k = some (ctR a i k) := by
 have hl := T6 hV.dg
 have hlen := hV.len
 have hi := h.hi
 have hk := h.hk
 obtain ⟨h1, h2, h3⟩ := Yv0 hV h
 have hwk := D0 hV.dg _ (V7 hk)
 have hfi := hV.hm i (by omega)
 have hsh := hV.short _ (V7 (show i < a.2.length by omega))
 have hY0 := Yo9 hV hi
 have hmd := Xg1 (p := gn k 1) hfi
 have hml := Wj2 (rd a.2 (i : Int)) (gn k 1)
 have hX := Zp0 hY0 hmd (by omega)
 have hXl := hX.len
 have hneg := Xg5 h3
 have hcv := Xv3 h3
 have Z2 : Zc0 K a.1 (Zi3 (rd a.2 (i : Int)) (gn k 1)) (Yq8 a i) = some (N6 a.1 (Yq8 a i) a.1.length (Zi3 (rd a.2 (i : Int)) (gn k 1))) := by
  unfold Zc0
  rw [Xg2 hK hY0 (Zw4 hmd (by omega)) (by omega)]; rfl
 unfold Ze2
 rw [Wd0 hK hl, Option.bind_some, if_pos (by omega), if_pos (by omega), Yc3 (by omega) (by omega) (Yn3 hfi) (P3 hfi.nf), Option.bind_some, Zs2 (by omega), Option.bind_some, Option.bind_some, Zc6, if_pos (by omega), Int.toNat_natCast]
 show ((Zc0 K a.1 (Zi3 (rd a.2 (i : Int)) (gn k 1)) (Yq8 a i)).bind _) = _
 rw [Z2, Option.bind_some, Xy6 hK h3, Option.bind_some, IntWalk.i64_in _ (by omega), Xf3, Option.bind_some]
 show ((P7 K [] _ (ctK (R6 (rd a.2 (i : Int)) (gn k 1)))).bind _) = _
 rw [Yy9 (by omega) (by omega) (B8 hX.nf) B0, Option.bind_some, if_pos (by omega), List.length_set, Zc6, if_pos (by omega), Xz8 hK (by simp) hl, Option.bind_some]
 have hloop := Wi1 (K := K) hK hV h (f9 := Xb9 a i k) (r9 := nmG [] a.1.length) (d1 := (dsG [(i : Int), (k : Int)] a.1, plG [(i : Int), (k : Int)] a.1.length)) rfl rfl K 0 (by omega) (by omega)
 rw [Nat.sub_zero, ← List.range_eq_range', Wh9] at hloop
 replace hloop : S6 K a i k (Xb9 a i k) (dsG [(i : Int), (k : Int)] a.1, plG [(i : Int), (k : Int)] a.1.length) (nmG [] a.1.length) K 0 [] [] = _ := hloop
 show ((S6 K a i k (Xb9 a i k) (dsG [(i : Int), (k : Int)] a.1, plG [(i : Int), (k : Int)] a.1.length) (nmG [] a.1.length) K 0 [] []).bind _) = _
 rw [hloop, Option.bind_some]
 unfold ctR
 by_cases hB : ctB a i k = true
 rw [if_pos hB, if_pos hB]; rfl
 rw [if_neg hB, if_neg hB]; rfl
/-- what is left is again such an algebra, of fewer generators -/
theorem Wm7 {i k : Nat} (hV : Vd a) (h : Pr a i k) (hB : ctB a i k = true) : Vd (ctD a i k, ctO a i k) ∧ (ctD a i k).length < a.1.length := by
 have hL := Yn0 hV h
 have hlen := hV.len
 refine ⟨⟨hL.dst, by unfold ctO Zk2 ctD; rw [List.length_map, Yb6], fun j hj => ?_, fun f hf => ?_⟩, ?_⟩
 unfold ctO Zk2 at hj ⊢
 rw [List.length_map] at hj
 have hm := Yi6 (List.getElem_mem hj)
 have hp := D0 hV.dg _ (V7 hm.1)
 have e1 : rd ((Q9 [(i : Int), (k : Int)] a.1.length).map fun (t : Nat) => N6 (ctD a i k) (ctM a i k) a.1.length (rd a.2 (t : Int))) (j : Int) = N6 (ctD a i k) (ctM a i k) a.1.length (rd a.2 (((Q9 [(i : Int), (k : Int)] a.1.length)[j] : Nat) : Int)) := Ya9 (by rw [List.getElem?_map, List.getElem?_eq_getElem hj]; rfl)
 have e2 : rd (ctD a i k) (j : Int) = rd a.1 (((Q9 [(i : Int), (k : Int)] a.1.length)[j] : Nat) : Int) := Ya9 (by unfold ctD dsG; rw [List.getElem?_map, List.getElem?_eq_getElem hj]; rfl)
 show Hm (rd (ctD a i k) (j : Int) + 1) (ctD a i k) _
 rw [e1, e2]
 exact Zp0 hL (hV.hm _ (by omega)) (by omega)
 unfold ctB at hB
 rw [Bool.and_eq_true] at hB
 exact of_decide_eq_true (List.all_eq_true.1 hB.2 f hf)
 unfold ctD
 rw [Yb6]
 have h1 := Wo1 (gs := [(i : Int), (k : Int)]) (j := i + 1) (n := a.1.length) h.hi
 have hcount : ∀ m, i < m → (Q9 [(i : Int), (k : Int)] m).length < m := by
  intro m
  induction m with
  | zero => intro h; omega
  | succ m ih =>
   intro hm
   rw [Zi2]
   by_cases e : i = m
   subst e
   rw [if_pos ((Xf0 i).2 (.inl rfl))]
   have := Zk9 [(i : Int), (k : Int)] i
   omega
   have := ih (by omega)
   split
   omega
   rw [List.length_append]; simp; omega
 exact hcount _ h.hi
end
/-- both sides' reduction, with so many rounds at most -/
def Yi8 : Nat → F1 → List MpT → CtT
 | 0, _, _ => (([], []), [], 3)
 | n + 1, a, pj =>
  if (Zj8 a).2.2 = true then
   if ctB a (Zj8 a).1.toNat (Zj8 a).2.1.toNat = true then
    if ((pj.map fun f => N6 (ctD a (Zj8 a).1.toNat (Zj8 a).2.1.toNat) (ctM a (Zj8 a).1.toNat (Zj8 a).2.1.toNat) a.1.length f).all fun f => decide (f.length ≤ 400)) = true then
     Yi8 n (ctD a (Zj8 a).1.toNat (Zj8 a).2.1.toNat, ctO a (Zj8 a).1.toNat (Zj8 a).2.1.toNat) (pj.map fun f => N6 (ctD a (Zj8 a).1.toNat (Zj8 a).2.1.toNat) (ctM a (Zj8 a).1.toNat (Zj8 a).2.1.toNat) a.1.length f)
    else (([], []), [], 3)
   else (([], []), [], 3)
  else (a, pj, 0)
/-- forms for this algebra -/
structure Pj (ds : List Int) (pj : List MpT) : Prop where
 len : pj.length ≤ 8
 hm : ∀ f, f ∈ pj → (∃ u, u ≤ 13 ∧ Hm u ds f) ∧ f.length ≤ 400
section
variable {K : Nat} {a : F1} {ds : List Int} {pj : List MpT}
theorem Pj.led {sd : List Int} {ms : List MpT} (h : Pj sd pj) (hL : Lds sd ds ms) (hs : ((pj.map fun f => N6 ds ms sd.length f).all fun f => decide (f.length ≤ 400)) = true) : Pj ds (pj.map fun f => N6 ds ms sd.length f) := by
 refine ⟨by rw [List.length_map]; exact h.len, fun g hg => ?_⟩
 have h4 := of_decide_eq_true (List.all_eq_true.1 hs g hg)
 obtain ⟨f, hf, rfl⟩ := List.mem_map.1 hg
 obtain ⟨⟨u, hu, hh⟩, _⟩ := h.hm f hf
 exact ⟨⟨u, hu, Zp0 hL hh hu⟩, h4⟩
theorem Xm0 (hd : okD ds = true) : Pj ds (nmG [] ds.length) := by
 have hl := T6 hd
 refine ⟨by rw [Zc6]; exact hl, fun f hf => ?_⟩
 obtain ⟨n, hn, rfl⟩ := List.getElem_of_mem hf
 have e := Xf4 (show n < ds.length by rwa [Zc6] at hn)
 rw [J7 hn] at e
 rw [e]
 rw [Zc6] at hn
 have hp := D0 hd _ (V7 hn)
 exact ⟨⟨_, by omega, Yt2 hd hn (by decide)⟩, by simp⟩
/-! the one side -/
theorem Wq5 {b3 : CtT} {sd : List Int} (hK : 1099511627776 ≤ K) (hL : Lds sd b3.1.1 b3.2.1) (hp : Pj sd pj) : ∀ (k j : Nat), pj.length < j + k → j ≤ pj.length →
 D8 K b3 pj k j ((pj.map fun f => N6 b3.1.1 b3.2.1 sd.length f).take j) = some (.go (pj.map fun f => N6 b3.1.1 b3.2.1 sd.length f)) := by
 have hlen := hp.len
 intro k
 induction k with
 | zero => intro j h1 h2; omega
 | succ k ih =>
  intro j h1 h2
  rw [D8]
  by_cases hj : j < pj.length
  obtain ⟨⟨u, hu, hh⟩, h4⟩ := hp.hm _ (V7 hj)
  have := ih (j + 1) (by omega) (by omega)
  rw [Zj4 (by rw [List.length_map]; exact hj), Yt6 hj] at this
  rw [if_pos (by omega), Xa8 hK hL (Zw4 hh hu) (by omega), Option.bind_some, if_pos (by simp; omega)]
  exact this
  rw [if_neg (by omega), List.take_of_length_le (by rw [List.length_map]; omega)]
theorem Xx2 (hK : 1099511627776 ≤ K) : ∀ (k : Nat) (a : F1) (pj : List MpT), Vd a → Pj a.1 pj → a.1.length < k → D6 K k pj a.1 a.2 = some (.ret (Yi8 k a pj))
 | 0, _, _, _, _, h => by omega
 | k + 1, a, pj, hV, hp, h => by
  rw [D6, show (a.1, a.2) = a from rfl, Ws0 hK hV, Option.bind_some, Yi8]
  by_cases hpr : (Zj8 a).2.2 = true
  obtain ⟨i, j, he, hP⟩ := Xk5 hV hpr
  rw [if_pos hpr, if_pos hpr, he]
  dsimp only
  rw [Int.toNat_natCast, Int.toNat_natCast, Wx2 hK hV hP, Option.bind_some]
  unfold ctR
  by_cases hB : ctB a i j = true
  have hL := Yn0 hV hP
  obtain ⟨hV2, hlt⟩ := Wm7 hV hP hB
  have h1 := Wq5 (K := K) (b3 := ((ctD a i j, ctO a i j), ctM a i j, 0)) hK hL hp K 0 (by have := hp.len; omega) (by omega)
  replace h1 : D8 K ((ctD a i j, ctO a i j), ctM a i j, 0) pj K 0 [] = _ := h1
  rw [if_pos hB, if_pos hB]
  dsimp only
  rw [if_pos rfl, h1, Option.bind_some]
  show ((Zd7 K (ctD a i j) (pj.map fun f => N6 (ctD a i j) (ctM a i j) a.1.length f)).bind _) = _
  rw [Xs1 hK hL.dst (by rw [List.length_map]; exact hp.len) (fun f hf => by
   obtain ⟨g, hg, rfl⟩ := List.mem_map.1 hf
   obtain ⟨⟨u, hu, hh⟩, _⟩ := hp.hm g hg
   exact ⟨u, Zp0 hL hh hu⟩), Option.bind_some]
  by_cases hs : ((pj.map fun f => N6 (ctD a i j) (ctM a i j) a.1.length f).all fun f => decide (f.length ≤ 400)) = true
  rw [if_pos hs, if_pos hs]
  dsimp only
  rw [if_pos rfl]
  exact Xx2 hK k (ctD a i j, ctO a i j) _ hV2 (hp.led hL hs) (by show (ctD a i j).length < k; omega)
  rw [if_neg hs, if_neg hs]; rfl
  rw [if_neg hB, if_neg hB]; rfl
  rw [if_neg hpr, if_neg hpr]
theorem Wy5 (hK : 1099511627776 ≤ K) (hV : Vd a) : Zn9 K a = some (Yi8 K a (nmG [] a.1.length)) := by
 have hl := T6 hV.dg
 have hlen := hV.len
 have h1 := Xx2 (K := K) hK K a (nmG [] a.1.length) hV (Xm0 hV.dg) (by omega)
 unfold Zn9
 rw [show (a.1, a.2) = a from rfl, Va0 hK hl (by omega) (fun f hf => by have := hV.short f hf; omega), Option.bind_some, Xn7 hK (by simp) hl, Option.bind_some]
 show ((D6 K K (nmG [] a.1.length) a.1 a.2).bind _) = _
 rw [h1]; rfl
/-! the other side -/
theorem Xx8 {fr to : List Int} {ms : List MpT} (hK : 1099511627776 ≤ K) (hl : ms.length ≤ 8) (hm : ∀ f, f ∈ ms → (∃ u, Hm u to f) ∧ f.length ≤ 400) : Zp3 K fr to ms = some (fr, to, ms) := by
 have key : ∀ (k j : Nat), ms.length < j + k → j ≤ ms.length → Za1 K ms k j (ms.take j) = some (.go ms) := by
  intro k
  induction k with
  | zero => intro j h1 h2; omega
  | succ k ih =>
   intro j h1 h2
   rw [Za1]
   by_cases hj : j < ms.length
   obtain ⟨⟨u, hh⟩, h4⟩ := hm _ (V7 hj)
   have := ih (j + 1) (by omega) (by omega)
   rw [Zj4 hj] at this
   rw [if_pos (by omega), Yc3 (by omega) (by omega) (Yn3 hh) (P3 hh.nf), Option.bind_some, if_pos (by simp; omega)]
   exact this
   rw [if_neg (by omega), List.take_of_length_le (by omega)]
 have := key K 0 (by omega) (by omega)
 unfold Zp3
 replace this : Za1 K ms K 0 [] = _ := this
 rw [this]; rfl
theorem Wd1 {sd : List Int} {ms : List MpT} (hK : 1099511627776 ≤ K) (hL : Lds sd ds ms) (hp : Pj sd pj) :
 Zg4 K (sd, ds, ms) pj = some (if ((pj.map fun f => N6 ds ms sd.length f).all fun f => decide (f.length ≤ 400)) = true then (pj.map fun f => N6 ds ms sd.length f, 0) else ([], 3)) := by
 have hlen := hp.len
 have key : ∀ (k j : Nat), pj.length < j + k → j ≤ pj.length → L5 K (sd, ds, ms) pj k j ((pj.map fun f => N6 ds ms sd.length f).take j) =
  some (if ((List.range' j (pj.length - j)).all fun i => decide ((N6 ds ms sd.length (rd pj (i : Int))).length ≤ 400)) = true then .go (pj.map fun f => N6 ds ms sd.length f) else .ret ([], 3)) := by
  intro k
  induction k with
  | zero => intro j h1 h2; omega
  | succ k ih =>
   intro j h1 h2
   rw [L5]
   by_cases hj : j < pj.length
   obtain ⟨⟨u, hu, hh⟩, h4⟩ := hp.hm _ (V7 hj)
   have hr : List.range' j (pj.length - j) = j :: List.range' (j + 1) (pj.length - (j + 1)) := by
    rw [show pj.length - j = (pj.length - (j + 1)) + 1 by omega, List.range'_succ]
   have := ih (j + 1) (by omega) (by omega)
   rw [Zj4 (by rw [List.length_map]; exact hj), Yt6 hj] at this
   rw [if_pos (by omega), Yc3 (by omega) (by omega) (Yn3 hh) (P3 hh.nf), Option.bind_some]
   dsimp only
   rw [Xg2 hK hL (Zw4 hh hu) (by omega), Option.bind_some, Xg4 hK (Zp0 hL hh hu), Option.bind_some, hr, List.all_cons]
   by_cases h5 : 400 < (N6 ds ms sd.length (rd pj (j : Int))).length
   rw [if_pos h5, decide_eq_false (by omega)]; rfl
   rw [if_neg h5, decide_eq_true (by omega), Bool.true_and]
   dsimp only
   rw [if_pos rfl, if_pos (by simp; omega)]
   exact this
   rw [if_neg (by omega), show j = pj.length by omega, Nat.sub_self, List.take_of_length_le (by rw [List.length_map]; omega)]; rfl
 have h1 := key K 0 (by omega) (by omega)
 rw [Nat.sub_zero, ← List.range_eq_range'] at h1
 have e : ((pj.map fun f => N6 ds ms sd.length f).all fun f => decide (f.length ≤ 400)) = (List.range pj.length).all fun i => decide ((N6 ds ms sd.length (rd pj (i : Int))).length ≤ 400) := by
  rw [List.all_map]; exact (Yk5 pj (fun f => decide ((N6 ds ms sd.length f).length ≤ 400))).symm
 unfold Zg4
 replace h1 : L5 K (sd, ds, ms) pj K 0 [] = _ := h1
 rw [h1, Option.bind_some, e]
 by_cases h : ((List.range pj.length).all fun i => decide ((N6 ds ms sd.length (rd pj (i : Int))).length ≤ 400)) = true
 rw [if_pos h, if_pos h]; rfl
 rw [if_neg h, if_neg h]; rfl
theorem Xx1 (hK : 1099511627776 ≤ K) : ∀ (k : Nat) (a : F1) (pj : List MpT), Vd a → Pj a.1 pj → a.1.length < k → M3 K k pj a.1 a.2 = some (.ret (Yi8 k a pj))
 | 0, _, _, _, _, h => by omega
 | k + 1, a, pj, hV, hp, h => by
  rw [M3, show (a.1, a.2) = a from rfl, Wq0 hK hV, Option.bind_some, Yi8]
  by_cases hpr : (Zj8 a).2.2 = true
  obtain ⟨i, j, he, hP⟩ := Xk5 hV hpr
  rw [if_pos hpr, if_pos hpr, he]
  dsimp only
  rw [Int.toNat_natCast, Int.toNat_natCast, Wt7 hK hV hP, Option.bind_some]
  unfold ctR
  by_cases hB : ctB a i j = true
  have hL := Yn0 hV hP
  obtain ⟨hV2, hlt⟩ := Wm7 hV hP hB
  have hBm : ∀ f, f ∈ ctM a i j → f.length ≤ 400 := fun f hf => by
   unfold ctB at hB
   rw [Bool.and_eq_true] at hB
   exact of_decide_eq_true (List.all_eq_true.1 hB.1 f hf)
  have hld := Xx8 (K := K) (fr := a.1) (to := ctD a i j) (ms := ctM a i j) hK (by rw [Yh1]; exact T6 hV.dg) (fun f hf => ⟨by
   obtain ⟨n, hn, rfl⟩ := List.getElem_of_mem hf
   have := hL.hm n hn
   rw [J7 hn] at this
   exact ⟨_, this⟩, hBm f hf⟩)
  rw [if_pos hB, if_pos hB]
  dsimp only
  rw [if_pos rfl, hld, Option.bind_some]
  dsimp only
  rw [Wd1 hK hL hp, Option.bind_some]
  by_cases hs : ((pj.map fun f => N6 (ctD a i j) (ctM a i j) a.1.length f).all fun f => decide (f.length ≤ 400)) = true
  rw [if_pos hs, if_pos hs]
  dsimp only
  rw [if_pos rfl]
  exact Xx1 hK k (ctD a i j, ctO a i j) _ hV2 (hp.led hL hs) (by show (ctD a i j).length < k; omega)
  rw [if_neg hs, if_neg hs]; rfl
  rw [if_neg hB, if_neg hB]; rfl
  rw [if_neg hpr, if_neg hpr]
theorem Xp2 {n : Nat} (hK : 1099511627776 ≤ K) (hd : okD ds = true) (hn : n = ds.length) : Zl4 K 0 n = some (nmG [] n) := by
 have hl := T6 hd
 have key : ∀ (k j : Nat), n < j + k → j ≤ n → F7 K 0 n k j (nmG [] j) = some (.go (nmG [] n)) := by
  intro k
  induction k with
  | zero => intro j h1 h2; omega
  | succ k ih =>
   intro j h1 h2
   rw [F7]
   by_cases hj : j < n
   have hnl := Zc6 [] j
   have := ih (j + 1) (by omega) (by omega)
   rw [Yq9, Yp6, List.length_range] at this
   have e1 : I9 ([] : MpT) (gn j 1) 1 = [(gn j 1, 1)] := rfl
   have hg := Yt2 (c := 1) hd (show j < ds.length by omega) (by decide)
   have hform : Zh2 K (j : Int) 1 = some [(gn j 1, 1)] := by
    unfold Zh2
    rw [Zs2 (by omega), Option.bind_some, e1, Xg4 hK hg, if_neg (by simp)]; rfl
   rw [if_pos (by omega), Int.zero_add, IntWalk.i64_in (j : Int) (by omega), hform, Option.bind_some, IntWalk.i64_in ((j : Int) + 1) (by omega), if_pos (by simp; omega)]
   exact this
   rw [if_neg (by omega), show j = n by omega]
 have := key K 0 (by omega) (by omega)
 unfold Zl4
 replace this : F7 K 0 n K 0 [] = _ := this
 rw [this]; rfl
theorem We4 {f : MpT} (hK : 1099511627776 ≤ K) (hl : f.length ≤ 1000000) : Zs0 K f 0 = some f := by
 have key : ∀ (k j : Nat), f.length < j + k → j ≤ f.length → Zb5 K f 0 k j (f.take j) = some (.go f) := by
  intro k
  induction k with
  | zero => intro j h1 h2; omega
  | succ k ih =>
   intro j h1 h2
   rw [Zb5]
   by_cases hj : j < f.length
   have := ih (j + 1) (by omega) (by omega)
   rw [Zj4 hj] at this
   rw [if_pos (by omega), if_pos rfl, if_pos (by simp; omega)]
   exact this
   rw [if_neg (by omega), List.take_of_length_le (by omega)]
 have := key K 0 (by omega) (by omega)
 unfold Zs0
 replace this : Zb5 K f 0 K 0 [] = _ := this
 rw [this]; rfl
theorem Ww7 (hK : 1099511627776 ≤ K) (hV : Vd a) : Zf1 K a = some (Yi8 K a (nmG [] a.1.length)) := by
 have hl := T6 hV.dg
 have hlen := hV.len
 have key : ∀ (k j : Nat), a.2.length < j + k → j ≤ a.2.length → M4 K a k j (a.2.take j) = some (.go a.2) := by
  intro k
  induction k with
  | zero => intro j h1 h2; omega
  | succ k ih =>
   intro j h1 h2
   rw [M4]
   by_cases hj : j < a.2.length
   have hs := hV.short _ (V7 hj)
   have := ih (j + 1) (by omega) (by omega)
   rw [Zj4 hj] at this
   rw [if_pos (by omega), We4 hK (by omega), Option.bind_some, if_pos (by simp; omega)]
   exact this
   rw [if_neg (by omega), List.take_of_length_le (by omega)]
 have h0 := key K 0 (by omega) (by omega)
 replace h0 : M4 K a K 0 [] = _ := h0
 have h1 := Xx1 (K := K) hK K a (nmG [] a.1.length) hV (Xm0 hV.dg) (by omega)
 unfold Zf1 Ze6
 rw [if_pos (by simp; omega), Option.bind_some, List.nil_append, Xp2 hK hV.dg rfl, Option.bind_some, h0, Option.bind_some]
 show ((M3 K K (nmG [] a.1.length) a.1 a.2).bind _) = _
 rw [h1]; rfl
theorem We8 (hi : Inp K a) (hA : okA a = true) : Vd a := by
 have hB : okB a = true := by unfold okA at hA; rw [Bool.and_eq_true] at hA; exact hA.1
 have hv := Xc0 hi hB
 exact ⟨Xw2 hB, hv.len, Wu4 hi hB, fun f hf => (hv.all f hf).len⟩
end
section
variable {K : Nat}
/-! comparisons -/
theorem Xt9 (hK : 8 < K) (m : A8) : Zm5 K m m = some true := by
 unfold Zm5
 rw [Zd6 (g := ()) (fun k i => M9 K m m k i) 8 (fun _ => true) false (fun k n hn => ?_) (fun k n hn => ?_) hK]
 rw [if_pos (by simp)]; rfl
 show M9 K m m (k + 1) n = _
 rw [M9, if_pos (by omega), if_pos rfl]; rfl
 show M9 K m m (k + 1) n = _
 rw [M9, if_neg (by omega)]
theorem Xn6 (hK : 8 < K) {f : MpT} (hl : f.length < K) : Zr0 K f f = some true := by
 unfold Zr0
 rw [if_pos rfl, Zd6 (g := ()) (fun k i => G0 K f f k i) f.length (fun _ => true) false (fun k n hn => ?_) (fun k n hn => ?_) hl]
 rw [if_pos (by simp)]; rfl
 show G0 K f f (k + 1) n = _
 have h : Zu9 K ((rd f (n : Int)).1, (rd f (n : Int)).2) ((rd f (n : Int)).1, (rd f (n : Int)).2) = some true := by
  unfold Zu9
  rw [Xt9 hK]; simp
 rw [G0, if_pos (by omega), if_pos (by omega), h]; rfl
 show G0 K f f (k + 1) n = _
 rw [G0, if_neg (by omega)]
theorem Xn1 (hK : 8 < K) {fs : List MpT} (hl : fs.length < K) (hf : ∀ f, f ∈ fs → f.length < K) : Zr8 K fs fs = some true := by
 unfold Zr8
 rw [if_pos rfl, Zd6 (g := ()) (fun k i => G2 K fs fs k i) fs.length (fun _ => true) false (fun k n hn => ?_) (fun k n hn => ?_) hl]
 rw [if_pos (by simp)]; rfl
 show G2 K fs fs (k + 1) n = _
 have h : Zu7 K (rd fs (n : Int)) (rd fs (n : Int)) = some true := by
  unfold Zu7
  rw [Xn6 hK (hf _ (V7 hn))]; rfl
 rw [G2, if_pos (by omega), if_pos (by omega), h]; rfl
 show G2 K fs fs (k + 1) n = _
 rw [G2, if_neg (by omega)]
theorem Xt7 {xs : List Int} (hl : xs.length < K) : Zp9 K xs xs = some true := by
 unfold Zp9
 rw [if_pos rfl, Zd6 (g := ()) (fun k i => J6 K xs xs k i) xs.length (fun _ => true) false (fun k n hn => ?_) (fun k n hn => ?_) hl]
 rw [if_pos (by simp)]; rfl
 show J6 K xs xs (k + 1) n = _
 rw [J6, if_pos (by omega), if_pos (by omega), if_pos rfl]; rfl
 show J6 K xs xs (k + 1) n = _
 rw [J6, if_neg (by omega)]
theorem Xz0 (hK : 8 < K) {x : F1} (h1 : x.1.length < K) (h2 : x.2.length < K) (h3 : ∀ f, f ∈ x.2 → f.length < K) : Zn4 K x x = some true := by
 unfold Zn4
 rw [Xt7 h1, Option.bind_some, if_pos rfl, Xn1 hK h2 h3]; rfl
/-! copies -/
theorem Wu8 (hK : 8 < K) (m : A8) : Zm0 K m = some m := by
 have key : ∀ (k n : Nat) (box : A8), n ≤ 8 → 8 < n + k → (∀ j : Fin 8, j.val < n → box j = m j) → F0 K m k n box = some (.go m) := by
  intro k
  induction k with
  | zero => intro n box h1 h2; omega
  | succ k ih =>
   intro n box h1 h2 hb
   rw [F0]
   by_cases hn : n < 8
   rw [if_pos (by omega)]
   refine ih (n + 1) _ (by omega) (by omega) (fun j hj => ?_)
   rw [J0 _ hn, S0 m hn]
   by_cases e : j.val = n
   rw [if_pos e]; congr 1; exact Fin.ext e.symm
   rw [if_neg e]; exact hb j (by omega)
   rw [if_neg (by omega)]
   congr 2
   funext j; exact hb j (by omega)
 have := key K 0 (fun _ => 0) (by omega) (by omega) (fun j hj => by omega)
 unfold Zm0
 replace this : F0 K m K 0 (fun _ => 0) = _ := this
 rw [this]; rfl
theorem Yz5 {α : Type} [Inhabited α] {xs ys : List α} {j : Nat} (hj : j < xs.length) (hl : ys.length = xs.length) (h : ys.take j = xs.take j) : (ys.set j (rd xs (j : Int))).take (j + 1) = xs.take (j + 1) := by
 rw [Zj4 (xs := ys.set j _) (by rw [List.length_set]; omega), Zj4 hj]
 congr 1
 rw [List.take_set_of_le (Nat.le_refl j), h]
 rw [J7 (by rw [List.length_set]; omega)]
 simp
theorem Wq9 (hK : 8 < K) {f : MpT} (hl : f.length < K) (hl2 : f.length ≤ 1099511627776) : Zs4 K f = some f := by
 have key : ∀ (k j : Nat) (out : MpT), f.length < j + k → j ≤ f.length → out.length = f.length → out.take j = f.take j → Zb6 K f k j out = some (.go f) := by
  intro k
  induction k with
  | zero => intro j out h1 h2; omega
  | succ k ih =>
   intro j out h1 h2 h3 h4
   rw [Zb6]
   by_cases hj : j < f.length
   have ht : Zv1 K ((rd f (j : Int)).1, (rd f (j : Int)).2) = some (rd f (j : Int)) := by
    unfold Zv1
    rw [Wu8 hK]; rfl
   rw [if_pos (by omega), ht, Option.bind_some, if_pos (by omega), Int.toNat_natCast]
   exact ih (j + 1) _ (by omega) (by omega) (by rw [List.length_set]; exact h3) (Yz5 hj h3 h4)
   rw [if_neg (by omega)]
   rw [List.take_of_length_le (by omega), List.take_of_length_le (by omega)] at h4
   rw [h4]
 have := key K 0 (List.replicate f.length ((fun _ => 0), 0)) (by omega) (by omega) (by simp) (by simp)
 unfold Zs4
 rw [if_pos (by omega), Int.toNat_natCast]
 replace this : Zb6 K f K 0 (List.replicate f.length ((fun _ => 0), 0)) = _ := this
 rw [this]; rfl
theorem Wp5 (hK : 8 < K) {fs : List MpT} (hl : fs.length < K) (hl2 : fs.length ≤ 1099511627776) (hf : ∀ f, f ∈ fs → f.length < K ∧ f.length ≤ 1099511627776) : Zr5 K fs = some fs := by
 have key : ∀ (k j : Nat) (out : List MpT), fs.length < j + k → j ≤ fs.length → out.length = fs.length → out.take j = fs.take j → Zb9 K fs k j out = some (.go fs) := by
  intro k
  induction k with
  | zero => intro j out h1 h2; omega
  | succ k ih =>
   intro j out h1 h2 h3 h4
   rw [Zb9]
   by_cases hj : j < fs.length
   have hff := hf _ (V7 hj)
   have ht : Zu5 K (rd fs (j : Int)) = some (rd fs (j : Int)) := by
    unfold Zu5
    rw [Wq9 hK hff.1 hff.2]; rfl
   rw [if_pos (by omega), ht, Option.bind_some, if_pos (by omega), Int.toNat_natCast]
   exact ih (j + 1) _ (by omega) (by omega) (by rw [List.length_set]; exact h3) (Yz5 hj h3 h4)
   rw [if_neg (by omega)]
   rw [List.take_of_length_le (by omega), List.take_of_length_le (by omega)] at h4
   rw [h4]
 have := key K 0 (List.replicate fs.length []) (by omega) (by omega) (by simp) (by simp)
 unfold Zr5
 rw [if_pos (by omega), Int.toNat_natCast]
 replace this : Zb9 K fs K 0 (List.replicate fs.length []) = _ := this
 rw [this]; rfl
theorem Wt5 {xs : List Int} (hl : xs.length < K) (hl2 : xs.length ≤ 1099511627776) : Zp5 K xs = some xs := by
 have key : ∀ (k j : Nat) (out : List Int), xs.length < j + k → j ≤ xs.length → out.length = xs.length → out.take j = xs.take j → B7 K xs k j out = some (.go xs) := by
  intro k
  induction k with
  | zero => intro j out h1 h2; omega
  | succ k ih =>
   intro j out h1 h2 h3 h4
   rw [B7]
   by_cases hj : j < xs.length
   rw [if_pos (by omega), if_pos (by omega), Int.toNat_natCast]
   exact ih (j + 1) _ (by omega) (by omega) (by rw [List.length_set]; exact h3) (Yz5 hj h3 h4)
   rw [if_neg (by omega)]
   rw [List.take_of_length_le (by omega), List.take_of_length_le (by omega)] at h4
   rw [h4]
 have := key K 0 (List.replicate xs.length 0) (by omega) (by omega) (by simp) (by simp)
 unfold Zp5
 rw [if_pos (by omega), Int.toNat_natCast]
 replace this : B7 K xs K 0 (List.replicate xs.length 0) = _ := this
 rw [this]; rfl
theorem Wz2 {a : F1} (hi : Inp K a) : Zf8 K a = some a := by
 have h1 := hi.big; have h2 := hi.dl; have h3 := hi.il
 unfold Zf8
 rw [Wt5 (by omega) (by omega), Option.bind_some, Wp5 (by omega) (by omega) (by omega) (fun f hf => by have := hi.fl f hf; omega)]; rfl
/-! sizes -/
theorem Wb2 {f : MpT} {l : Int} (hb : f.length ≤ 9223372036854775807) (hl : 0 ≤ l ∧ l ≤ 1048576) : Zv0 K f l = some (if l < f.length then -1 else l - f.length) := by
 unfold Zv0 Zx1
 rw [IntWalk.i64_in _ (by omega)]
 by_cases h : l < f.length
 rw [if_pos (by omega), if_pos h]; rfl
 rw [if_neg (by omega), if_neg h, Option.bind_some, if_neg (by omega)]
theorem Wp6 {fs : List MpT} (hb : ∀ f, f ∈ fs → f.length ≤ 9223372036854775807) : ∀ (k j : Nat) (l : Int), fs.length < j + k → j ≤ fs.length → 0 ≤ l ∧ l ≤ 1048576 →
 ∃ e r, Zc1 K fs k l j = some e ∧ Ex.elim (fun r => some r) (fun s => some s) e = some r ∧ (r < 0 ∨ (0 ≤ r ∧ Xn3 (fs.drop j) ≤ 9 * (l - r) ∧ ∀ f, f ∈ fs.drop j → (f.length : Int) ≤ l)) := by
 intro k
 induction k with
 | zero => intro j l h1 h2; omega
 | succ k ih =>
  intro j l h1 h2 hl
  rw [Zc1]
  by_cases hj : j < fs.length
  rw [if_pos (by omega), Wb2 (hb _ (V7 hj)) hl, Option.bind_some]
  by_cases h : l < (rd fs (j : Int)).length
  rw [if_pos h, if_pos (by decide)]; exact ⟨_, _, rfl, rfl, .inl (by decide)⟩
  rw [if_neg h, if_neg (by omega)]
  obtain ⟨e, r, h3, h4, h5⟩ := ih (j + 1) (l - (rd fs (j : Int)).length) (by omega) (by omega) (by omega)
  refine ⟨e, r, h3, h4, ?_⟩
  rcases h5 with h5 | ⟨h5, h6, h7⟩
  exact .inl h5
  rw [show fs.drop j = rd fs (j : Int) :: fs.drop (j + 1) by rw [J7 hj]; exact List.drop_eq_getElem_cons hj]
  refine .inr ⟨h5, by rw [Xn3]; omega, fun f hf => ?_⟩
  rcases List.mem_cons.1 hf with rfl | hf
  omega
  have := h7 f hf; omega
  rw [if_neg (by omega), List.drop_eq_nil_of_le (by omega)]
  exact ⟨_, _, rfl, rfl, .inr ⟨hl.1, by rw [Xn3]; omega, by simp⟩⟩
theorem Wy4 {a : F1} (hK : 1073741824 ≤ K) (h1 : a.1.length ≤ 9223372036854775807) (h2 : a.2.length ≤ 9223372036854775807) (h3 : ∀ f, f ∈ a.2 → f.length ≤ 9223372036854775807) :
 ∃ r, Zo2 K a 1048576 = some r ∧ (r < 0 ∨ (a.1.length ≤ 1048576 ∧ a.2.length ≤ 1048576 ∧ (∀ f, f ∈ a.2 → f.length ≤ 1048576) ∧ Xn3 a.2 ≤ 9437184)) := by
 unfold Zo2 Zw0 Zx3
 rw [IntWalk.i64_in (1048576 - (a.1.length : Int)) (by omega)]
 by_cases hd : a.1.length ≤ 1048576
 case neg => rw [if_pos (by omega)]; exact ⟨-1, rfl, .inl (by decide)⟩
 rw [if_neg (by omega), Option.bind_some, if_neg (by omega), IntWalk.i64_in _ (by omega)]
 by_cases hi : (a.1.length : Int) + a.2.length ≤ 1048576
 case neg => rw [if_pos (by omega)]; exact ⟨-1, rfl, .inl (by decide)⟩
 rw [if_neg (by omega)]
 obtain ⟨e, r, h4, h5, h6⟩ := Wp6 (K := K) h3 K 0 (1048576 - (a.1.length : Int) - (a.2.length : Int)) (by omega) (by omega) (by omega)
 replace h4 : Zc1 K a.2 K (1048576 - (a.1.length : Int) - (a.2.length : Int)) 0 = some e := h4
 rw [h4, Option.bind_some, h5, Option.bind_some]
 rcases h6 with h6 | ⟨h6, h7, h8⟩
 rw [if_pos h6]; exact ⟨-1, rfl, .inl (by decide)⟩
 rw [if_neg (by omega)]
 rw [List.drop_zero] at h7 h8
 exact ⟨r, rfl, .inr ⟨hd, by omega, fun f hf => by have := h8 f hf; omega, by omega⟩⟩
end
def Xx7 (K : Nat) (a : F1) : Bool × Int :=
 if okA a = true then (if (Yi8 K a (nmG [] a.1.length)).2.2 = 0 then (decide (((Yi8 K a (nmG [] a.1.length)).1.1.length : Int) = 0), (Yi8 K a (nmG [] a.1.length)).2.2) else (false, (Yi8 K a (nmG [] a.1.length)).2.2)) else (false, 1)
section
variable {K : Nat} {a : F1}
theorem Wv1 (hK : 1099511627776 ≤ K) (hi : Inp K a) : Zg0 K a = some (Xx7 K a) := by
 unfold Zg0 Xx7
 rw [show (a.1, a.2) = a from rfl, Ww3 hi, Option.bind_some]
 by_cases hA : okA a = true
 rw [if_pos hA, if_pos hA, Wy5 hK (We8 hi hA), Option.bind_some]
 split <;> rfl
 rw [if_neg hA, if_neg hA]
theorem Ww4 (hK : 1099511627776 ≤ K) (hi : Inp K a) : Zg5 K a = some (Xx7 K a) := by
 unfold Zg5 Xx7
 rw [show (a.1, a.2) = a from rfl, Wy2 hi, Option.bind_some]
 by_cases hA : okA a = true
 rw [if_pos hA, if_pos rfl, if_pos hA, Ww7 hK (We8 hi hA), Option.bind_some]
 split <;> rfl
 rw [if_neg hA, if_neg (by decide), if_neg hA]
end
theorem Wk2 {K : Nat} {a : F1} (hK : 1099511627776 ≤ K) (h1 : a.1.length ≤ 9223372036854775807) (h2 : a.2.length ≤ 9223372036854775807) (h3 : ∀ f, f ∈ a.2 → f.length ≤ 9223372036854775807) (hb : ∀ f, f ∈ a.2 → Ya6 f) :
 Zd9 K a = some true := by
 obtain ⟨r, hr, hs⟩ := Wy4 (K := K) (by omega) h1 h2 h3
 unfold Zd9
 rw [show (a.1, a.2) = a from rfl, hr, Option.bind_some]
 by_cases h0 : r < 0
 rw [if_pos h0]
 rw [if_neg h0]
 obtain ⟨s1, s2, s3, s4⟩ := hs.resolve_left h0
 have hi : Inp K a := ⟨by omega, s1, s2, s3, hb⟩
 have hto := Wz2 hi
 have heqa := Xz0 (K := K) (x := a) (by omega) (by omega) (by omega) (fun f hf => by have := s3 f hf; omega)
 rw [hto, Option.bind_some, show (a.1, a.2) = a from rfl, Wv1 hK hi, Option.bind_some, Option.bind_some, show (a.1, a.2) = a from rfl, Ww4 hK hi, Option.bind_some, if_pos rfl, decide_eq_true rfl]
 unfold G3
 rw [if_neg (by decide), show (a.1, a.2) = a from rfl, hto, Option.bind_some, show (a.1, a.2) = a from rfl, heqa, Option.bind_some, if_pos rfl]
end Go.Proofs.YtfodlhkoafhplaaGreat
