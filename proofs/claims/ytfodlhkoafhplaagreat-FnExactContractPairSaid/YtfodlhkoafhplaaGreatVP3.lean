/- Plain laws on the pure functions. -/
import Derived.Test.YtfodlhkoafhplaaGreatVP2
import Derived.Test.YtfodlhkoafhplaaGreatVF8
import Derived.Test.YtfodlhkoafhplaaGreatVF12
import Derived.Test.YtfodlhkoafhplaaGreatVF16
import Derived.Test.YtfodlhkoafhplaaGreatVF19
import Derived.Test.YtfodlhkoafhplaaGreatVL
import Derived.Test.YtfodlhkoafhplaaGreatVF17
import Derived.Test.YtfodlhkoafhplaaGreatVF21
namespace Go.Proofs.YtfodlhkoafhplaaGreat
open Go
set_option linter.unusedSimpArgs false
set_option linter.unusedVariables false
/-- degrees, and images that are homogeneous of one degree more -/
structure Vd (a : J4) : Prop where
 dg : okD a.1 = true
 len : a.2.length = a.1.length
 hm : ∀ j, j < a.2.length → Hm (rd a.1 (j : Int) + 1) a.1 (rd a.2 (j : Int))
 short : ∀ f, f ∈ a.2 → f.length ≤ 400
def Zu1 (n : Nat) (f : MpT) : List Int := (List.range n).map fun (j : Nat) => R2 f (gn j 1)
def Yb7 (a : J4) : List (List Int) := a.2.map (Zu1 a.1.length)
theorem Zn0 (n : Nat) (f : MpT) : (Zu1 n f).length = n := by simp [Zu1]
theorem Yc1 {n j : Nat} {f : MpT} (h : j < n) : rd (Zu1 n f) (j : Int) = R2 f (gn j 1) := Zu8 (by simp [Zu1, h])
theorem Zf0 (a : J4) : (Yb7 a).length = a.2.length := by simp [Yb7]
theorem Yg2 {a : J4} {i : Nat} (h : i < a.2.length) : rd (Yb7 a) (i : Int) = Zu1 a.1.length (rd a.2 (i : Int)) := Zu8 (by unfold Yb7; rw [List.getElem?_map, List.getElem?_eq_getElem h, I4 h]; rfl)
theorem Xe1 {u : Int} {ds : List Int} {f : MpT} (h : Hm u ds f) : Ya1 f := fun t ht => (h.mo t ht).byt (by decide)
/-! word lengths -/
def wlN (m : A8) : Nat → Int
 | 0 => 0
 | n + 1 => wlN m n + Y5 m (n : Int)
theorem Xw0 {m : A8} (h : Byt m) : ∀ n : Nat, 0 ≤ wlN m n ∧ wlN m n ≤ 255 * n
 | 0 => by simp [wlN]
 | n + 1 => by
  have h1 := Xw0 h n
  have h2 := h.idx n
  rw [wlN]; omega
section
variable {K : Nat} {a : J4}
theorem Wf0 {m : A8} (h : Byt m) : ∀ (k n : Nat), 8 < n + k → n ≤ 8 → Zb5 K m k (wlN m n) n = some (.go (wlN m 8)) := by
 intro k
 induction k with
 | zero => intro n h1 h2; omega
 | succ k ih =>
  intro n h1 h2
  rw [Zb5]
  by_cases hn : n < 8
  have h3 := Xw0 h n
  have h4 := h.idx n
  rw [if_pos (by omega), IntWalk.i64_in (Y5 m (n : Int)) (by omega), IntWalk.i64_in _ (by omega)]
  exact ih (n + 1) (by omega) (by omega)
  rw [if_neg (by omega), show n = 8 by omega]
theorem Wg2 {m : A8} (hK : 8 < K) (h : Byt m) : Zr1 K m = some (wlN m 8) := by
 have := Wf0 (K := K) h K 0 (by omega) (by omega)
 unfold Zr1
 replace this : Zb5 K m K 0 0 = _ := this
 rw [this]; rfl
theorem Xw1 {m : A8} (lo : ∀ i, 0 ≤ m i) : ∀ n : Nat, n ≤ 8 → 0 ≤ wlN m n ∧ (wlN m n = 0 → ∀ j, j < n → Y5 m (j : Int) = 0)
 | 0, _ => ⟨by simp [wlN], fun _ j hj => by omega⟩
 | n + 1, h => by
  obtain ⟨h1, h2⟩ := Xw1 lo n (by omega)
  have hi : 0 ≤ Y5 m (n : Int) := by rw [T7 m (show n < 8 by omega)]; exact lo _
  rw [wlN]
  refine ⟨by omega, fun e j hj => ?_⟩
  by_cases ej : j = n
  subst ej; omega
  exact h2 (by omega) j (by omega)
theorem Wo5 {t : Nat} (ht : t < 8) : ∀ n : Nat, wlN (gn t 1) n = if t < n then 1 else 0
 | 0 => by rw [if_neg (by omega)]; rfl
 | n + 1 => by
  rw [wlN, Wo5 ht n, Zw1 ht]
  by_cases e : n = t
  subst e; rw [if_neg (by omega), if_pos rfl, if_pos (by omega)]; rfl
  by_cases h : t < n
  rw [if_pos h, if_neg e, if_pos (by omega)]; rfl
  rw [if_neg h, if_neg e, if_neg (by omega)]; rfl
theorem Wx8 {m : A8} (lo : ∀ i, 0 ≤ m i) {j : Nat} (hj : j < 8) (hw : wlN m 8 = 1) (h1 : Y5 m (j : Int) = 1) : m = gn j 1 := by
 have key : ∀ n : Nat, n ≤ 8 → ∀ i, i < n → wlN m n ≥ Y5 m (i : Int) ∧ (∀ k, k < n → i ≠ k → wlN m n ≥ Y5 m (i : Int) + Y5 m (k : Int)) := by
  intro n
  induction n with
  | zero => intro _ i hi; omega
  | succ n ih =>
   intro hn i hi
   have hz := Xw1 lo n (by omega)
   have hI : ∀ k : Nat, k < 8 → 0 ≤ Y5 m (k : Int) := fun k hk => by rw [T7 m hk]; exact lo _
   have h0 := hI n (by omega)
   rw [wlN]
   by_cases e : i = n
   subst e
   refine ⟨by omega, fun k hk hik => ?_⟩
   have := (ih (by omega) k (by omega)).1
   omega
   have h2 := ih (by omega) i (by omega)
   refine ⟨by omega, fun k hk hik => ?_⟩
   by_cases ek : k = n
   subst ek; omega
   have := h2.2 k (by omega) hik; omega
 funext i
 have hi := i.isLt
 unfold gn
 rw [K8 _ hj]
 by_cases e : i.val = j
 rw [if_pos e, ← h1, T7 m hj]
 exact congrArg m (Fin.ext e)
 rw [if_neg e]
 have h3 := (key 8 (Nat.le_refl _) j hj).2 i.val hi (fun h => e h.symm)
 have h4 := lo i
 rw [T7 m hi] at h3
 have h5 : m ⟨i.val, hi⟩ = m i := rfl
 omega
/-! the table on the one side -/
def upT (n : Nat) (t : P6) (row : List Int) (k : Nat) : List Int := (List.range n).map fun (j : Nat) => if j < k ∧ Y5 t.1 (j : Int) = 1 then t.2 else rd row (j : Int)
theorem Zq6 (n : Nat) (t : P6) (row : List Int) (k : Nat) : (upT n t row k).length = n := by simp [upT]
theorem Yi4 {n j k : Nat} {t : P6} {row : List Int} (h : j < n) : rd (upT n t row k) (j : Int) = if j < k ∧ Y5 t.1 (j : Int) = 1 then t.2 else rd row (j : Int) := Zu8 (by simp [upT, h])
theorem Ym8 {xs ys : List Int} (hl : xs.length = ys.length) (h : ∀ j : Nat, j < xs.length → rd xs (j : Int) = rd ys (j : Int)) : xs = ys := by
 refine List.ext_getElem hl (fun j h1 h2 => ?_)
 have := h j h1
 rwa [I4 h1, I4 h2] at this
theorem We1 {i x : Int} {row : List Int} (hK : 8 < K) (hl : a.1.length ≤ 8) (hr : row.length = a.1.length) (hm : Byt (rd (rd a.2 i) x).1) (hw : wlN (rd (rd a.2 i) x).1 8 = 1) : ∀ (k j : Nat), a.1.length < j + k → j ≤ a.1.length →
 P0 K a i x k j (upT a.1.length (rd (rd a.2 i) x) row j) = some (.go (upT a.1.length (rd (rd a.2 i) x) row a.1.length)) := by
 intro k
 induction k with
 | zero => intro j h1 h2; omega
 | succ k ih =>
  intro j h1 h2
  rw [P0]
  by_cases hj : j < a.1.length
  have := ih (j + 1) (by omega) (by omega)
  have hul := Zq6 a.1.length (rd (rd a.2 i) x) row j
  rw [if_pos (by omega), Wg2 hK hm, Option.bind_some, hw, decide_eq_true rfl]
  unfold Zc7
  rw [if_pos rfl, if_pos (by omega)]
  by_cases h1 : Y5 (rd (rd a.2 i) x).1 (j : Int) = 1
  rw [if_pos h1, if_pos (by omega), Int.toNat_natCast]
  have e : (upT a.1.length (rd (rd a.2 i) x) row j).set j (rd (rd a.2 i) x).2 = upT a.1.length (rd (rd a.2 i) x) row (j + 1) := by
   refine Ym8 (by rw [List.length_set, Zq6, Zq6]) (fun t ht => ?_)
   rw [List.length_set, Zq6] at ht
   rw [Ys4 (by rw [Zq6]; exact ht), Yi4 ht, Yi4 ht]
   by_cases et : t = j
   subst et; rw [if_pos rfl, if_pos ⟨by omega, h1⟩]
   rw [if_neg et]
   by_cases h3 : t < j ∧ Y5 (rd (rd a.2 i) x).1 (t : Int) = 1
   rw [if_pos h3, if_pos ⟨by omega, h3.2⟩]
   rw [if_neg h3, if_neg (fun h => h3 ⟨by omega, h.2⟩)]
  rw [e]; exact this
  rw [if_neg h1]
  have e : upT a.1.length (rd (rd a.2 i) x) row j = upT a.1.length (rd (rd a.2 i) x) row (j + 1) := by
   refine Ym8 (by rw [Zq6, Zq6]) (fun t ht => ?_)
   rw [Zq6] at ht
   rw [Yi4 ht, Yi4 ht]
   by_cases h3 : t < j ∧ Y5 (rd (rd a.2 i) x).1 (t : Int) = 1
   rw [if_pos h3, if_pos ⟨by omega, h3.2⟩]
   rw [if_neg h3, if_neg (fun h => ?_)]
   by_cases et : t = j
   subst et; exact h1 h.2
   exact h3 ⟨by omega, h.2⟩
  rw [e]; exact this
  rw [if_neg (by omega)]
  unfold Zc7
  rw [if_neg (by decide), show j = a.1.length by omega]
theorem Xz5 {i x : Int} {row : List Int} (hK : 8 < K) (hm : Byt (rd (rd a.2 i) x).1) (hw : wlN (rd (rd a.2 i) x).1 8 ≠ 1) {k : Nat} (hk : 0 < k) : P0 K a i x k 0 row = some (.go row) := by
 obtain ⟨k, rfl⟩ : ∃ n, k = n + 1 := ⟨k - 1, by omega⟩
 rw [P0]
 split
 rw [Wg2 hK hm, Option.bind_some, decide_eq_false hw]; rfl
 rfl
theorem Wh1 {n : Nat} (hn : n ≤ 8) {f : MpT} {t : P6} (hs : Srt (f ++ [t])) (lo : ∀ i, 0 ≤ t.1 i) : Zu1 n (f ++ [t]) = if wlN t.1 8 = 1 then upT n t (Zu1 n f) n else Zu1 n f := by
 have hs1 : Srt f := hs.sublist (List.sublist_append_left _ _)
 have hnd := Zy2 hs
 have e : ∀ j : Nat, R2 (f ++ [t]) (gn j 1) = cf (gn j 1) f + (if t.1 = gn j 1 then t.2 else 0) := fun j => by
  rw [Zx4 _ hs, Ym2]
  show _ + ((if t.1 = gn j 1 then t.2 else 0) + 0) = _
  omega
 refine Ym8 (by split <;> simp [Zn0, Zq6]) (fun j hj => ?_)
 rw [Zn0] at hj
 rw [Yc1 hj, e j]
 by_cases ht : t.1 = gn j 1
 have hz : cf (gn j 1) f = 0 := by
  have : ∀ q, q ∈ f → q.1 ≠ gn j 1 := by
   intro q hq e1
   have hp := List.nodup_append.1 (by simpa [List.map_append] using hnd : (f.map Prod.fst ++ [t.1]).Nodup)
   exact hp.2.2 q.1 (List.mem_map.2 ⟨q, hq, rfl⟩) t.1 (List.mem_singleton.2 rfl) (by rw [e1, ht])
  clear e hs hs1 hnd
  induction f with
  | nil => rfl
  | cons q f ih =>
   rw [cf, if_neg (this q (List.mem_cons_self ..)), ih (fun x hx => this x (List.mem_cons_of_mem _ hx))]; rfl
 rw [if_pos ht, hz, Int.zero_add, ht, Wo5 (by omega), if_pos (by omega), Yi4 hj, if_pos ⟨hj, by rw [ht, Zw1 (by omega), if_pos rfl]⟩]
 rw [if_neg ht, Int.add_zero, ← Zx4 _ hs1]
 split
 rename_i hw
 rw [Yi4 hj, if_neg (fun h => ht (Wx8 lo (by omega) hw h.2)), Yc1 hj]
 rw [Yc1 hj]
theorem We8 {i : Int} {u : Int} (hK : 1099511627776 ≤ K) (hl : a.1.length ≤ 8) (hf : Hm u a.1 (rd a.2 i)) (hlen : (rd a.2 i).length ≤ 1000000) : ∀ (k j : Nat), (rd a.2 i).length < j + k → j ≤ (rd a.2 i).length →
 E1 K a i k j (Zu1 a.1.length ((rd a.2 i).take j)) = some (.go (Zu1 a.1.length (rd a.2 i))) := by
 intro k
 induction k with
 | zero => intro j h1 h2; omega
 | succ k ih =>
  intro j h1 h2
  rw [E1]
  by_cases hj : j < (rd a.2 i).length
  have hb := Xe1 hf _ (U0 hj)
  have hs : Srt ((rd a.2 i).take (j + 1)) := (P1 hf.nf).sublist (List.take_sublist _ _)
  have := ih (j + 1) (by omega) (by omega)
  rw [Zy7 hj] at this hs
  rw [Wh1 hl hs (hf.mo _ (U0 hj)).lo] at this
  rw [if_pos (by omega)]
  by_cases hw : wlN (rd (rd a.2 i) (j : Int)).1 8 = 1
  have h0 : upT a.1.length (rd (rd a.2 i) (j : Int)) (Zu1 a.1.length ((rd a.2 i).take j)) 0 = Zu1 a.1.length ((rd a.2 i).take j) := by
   refine Ym8 (by rw [Zq6, Zn0]) (fun t ht => ?_)
   rw [Zq6] at ht
   rw [Yi4 ht, if_neg (by omega)]
  have h3 := We1 (K := K) (a := a) (i := i) (x := j) (row := Zu1 a.1.length ((rd a.2 i).take j)) (by omega) hl (Zn0 _ _) hb hw K 0 (by omega) (by omega)
  rw [h0] at h3
  rw [if_pos hw] at this
  replace h3 : P0 K a i j K 0 _ = _ := h3
  rw [h3]; exact this
  rw [if_neg hw] at this
  rw [Xz5 (by omega) hb hw (by omega)]; exact this
  rw [if_neg (by omega), List.take_of_length_le (by omega)]
theorem Xh9 (hK : 1099511627776 ≤ K) (hV : Vd a) : Zi6 K a = some (Yb7 a) := by
 have hl := S2 hV.dg
 have hlen := hV.len
 have key : ∀ (k j : Nat), a.2.length < j + k → j ≤ a.2.length → D1 K a k j ((Yb7 a).take j) = some (.go (Yb7 a)) := by
  intro k
  induction k with
  | zero => intro j h1 h2; omega
  | succ k ih =>
   intro j h1 h2
   rw [D1]
   by_cases hj : j < a.2.length
   have hsh := hV.short _ (U0 hj)
   have h3 := We8 (K := K) (i := j) hK hl (hV.hm j hj) (by omega) K 0 (by omega) (by omega)
   have e0 : Zu1 a.1.length ((rd a.2 (j : Int)).take 0) = List.replicate ((a.1.length : Int)).toNat (0 : Int) := by
    rw [Int.toNat_natCast, List.take_zero]
    refine Ym8 (by rw [Zn0, List.length_replicate]) (fun t ht => ?_)
    rw [Zn0] at ht
    rw [Yc1 ht, I4 (by rw [List.length_replicate]; exact ht), List.getElem_replicate]; rfl
   rw [e0] at h3
   replace h3 : E1 K a j K 0 _ = _ := h3
   have := ih (j + 1) (by omega) (by omega)
   rw [Zy7 (by rw [Zf0]; exact hj), Yg2 hj] at this
   rw [if_pos (by omega), if_pos (by omega), h3, Option.bind_some]
   show (if _ then _ else none) = _
   rw [if_pos (by simp; omega)]; exact this
   rw [if_neg (by omega), List.take_of_length_le (by rw [Zf0]; omega)]
 have := key K 0 (by omega) (by omega)
 unfold Zi6
 replace this : D1 K a K 0 [] = _ := this
 rw [this]; rfl
/-! the table on the other side -/
theorem Xu0 {f : MpT} {u : Int} (hK : 1099511627776 ≤ K) (hl : a.1.length ≤ 8) (hf : Hm u a.1 f) (hlen : f.length ≤ 1000000) : Zm6 K a.1 f = some (Zu1 a.1.length f) := by
 have key : ∀ (k j : Nat), a.1.length < j + k → j ≤ a.1.length → E0 K a.1 f k j ((Zu1 a.1.length f).take j) = some (.go (Zu1 a.1.length f)) := by
  intro k
  induction k with
  | zero => intro j h1 h2; omega
  | succ k ih =>
   intro j h1 h2
   rw [E0]
   by_cases hj : j < a.1.length
   have := ih (j + 1) (by omega) (by omega)
   rw [Zy7 (by rw [Zn0]; exact hj), Yc1 hj] at this
   rw [if_pos (by omega), Zv5 (by omega), Option.bind_some, if_pos (by simp; omega)]; exact this
   rw [if_neg (by omega), List.take_of_length_le (by rw [Zn0]; omega)]
 have := key K 0 (by omega) (by omega)
 unfold Zm6
 replace this : E0 K a.1 f K 0 [] = _ := this
 rw [Yl4 (by omega) (by omega) (Xe1 hf) (P1 hf.nf), Option.bind_some, this]; rfl
theorem Wd4 (hK : 1099511627776 ≤ K) (hV : Vd a) : Za0 K a = some (Yb7 a) := by
 have hl := S2 hV.dg
 have hlen := hV.len
 have key : ∀ (k j : Nat), a.2.length < j + k → j ≤ a.2.length → Q3 K a k j ((Yb7 a).take j) = some (.go (Yb7 a)) := by
  intro k
  induction k with
  | zero => intro j h1 h2; omega
  | succ k ih =>
   intro j h1 h2
   rw [Q3]
   by_cases hj : j < a.2.length
   have hsh := hV.short _ (U0 hj)
   have := ih (j + 1) (by omega) (by omega)
   rw [Zy7 (by rw [Zf0]; exact hj), Yg2 hj] at this
   rw [if_pos (by omega), Xu0 hK hl (hV.hm j hj) (by omega), Option.bind_some, if_pos (by simp; omega)]; exact this
   rw [if_neg (by omega), List.take_of_length_le (by rw [Zf0]; omega)]
 have := key K 0 (by omega) (by omega)
 unfold Za0
 replace this : Q3 K a K 0 [] = _ := this
 rw [this]; rfl
/-! the first pair -/
def ldR (row : List Int) : Nat → Nat → Option Nat
 | 0, _ => none
 | n + 1, j => if rd row (j : Int) = 0 then ldR row n (j + 1) else some j
def prR (t : List (List Int)) (w : Nat) : Nat → Nat → Int × Int × Bool
 | 0, _ => (0, 0, false)
 | n + 1, i => match ldR (rd t (i : Int)) w 0 with | some k => ((i : Int), (k : Int), true) | none => prR t w n (i + 1)
def Yf1 (a : J4) : Int × Int × Bool := prR (Yb7 a) a.2.length a.2.length 0
theorem Xp2 {row : List Int} : ∀ (n j k : Nat), ldR row n j = some k → j ≤ k ∧ k < j + n ∧ rd row (k : Int) ≠ 0
 | 0, _, _, h => by cases h
 | n + 1, j, k, h => by
  rw [ldR] at h
  split at h
  have := Xp2 n (j + 1) k h; exact ⟨by omega, by omega, this.2.2⟩
  rename_i h0
  cases h; exact ⟨by omega, by omega, h0⟩
theorem Wj8 {t : List (List Int)} {i : Int} (hw : (rd t i).length = t.length) : ∀ (k j : Nat), t.length < j + k → j ≤ t.length →
 Zb0 K t i k j = some (match ldR (rd t i) (t.length - j) j with | some x => .ret (i, (x : Int), true) | none => .go ()) := by
 intro k
 induction k with
 | zero => intro j h1 h2; omega
 | succ k ih =>
  intro j h1 h2
  rw [Zb0]
  by_cases hj : j < t.length
  have := ih (j + 1) (by omega) (by omega)
  rw [if_pos (by omega), if_pos (by omega), show t.length - j = (t.length - (j + 1)) + 1 by omega, ldR]
  by_cases h0 : rd (rd t i) (j : Int) = 0
  rw [if_pos h0, if_pos h0]; exact this
  rw [if_neg h0, if_neg h0]
  rw [if_neg (by omega), show t.length - j = 0 by omega, ldR]
theorem Wj2 {t : List (List Int)} (hK : t.length < K) (hw : ∀ i : Nat, i < t.length → (rd t (i : Int)).length = t.length) : ∀ (k j : Nat), t.length < j + k → j ≤ t.length →
 (Zd4 K t k j).bind (Ex.elim (fun r => some r) (fun _ => some (0, 0, false))) = some (prR t t.length (t.length - j) j) := by
 intro k
 induction k with
 | zero => intro j h1 h2; omega
 | succ k ih =>
  intro j h1 h2
  rw [Zd4]
  by_cases hj : j < t.length
  have := ih (j + 1) (by omega) (by omega)
  have h3 := Wj8 (K := K) (hw j hj) K 0 (by omega) (by omega)
  replace h3 : Zb0 K t j K 0 = _ := h3
  rw [if_pos (by omega), h3, Option.bind_some, show t.length - j = (t.length - (j + 1)) + 1 by omega, prR, Nat.sub_zero]
  cases ldR (rd t (j : Int)) t.length 0 with
  | some x => rfl
  | none => exact this
  rw [if_neg (by omega), show t.length - j = 0 by omega, prR]; rfl
theorem Wt5 (hK : 1099511627776 ≤ K) (hV : Vd a) : Zq7 K a = some (Yf1 a) := by
 have hl := S2 hV.dg
 have hlen := hV.len
 have h1 := Wj2 (K := K) (t := Yb7 a) (by rw [Zf0]; omega) (fun i hi => by
  rw [Zf0] at hi
  rw [Yg2 hi, Zn0, Zf0, hlen]) K 0 (by rw [Zf0]; omega) (by omega)
 unfold Zq7
 rw [Xh9 hK hV, Option.bind_some]
 refine Eq.trans h1 ?_
 rw [Zf0]; rfl
theorem Wb3 {row : List Int} : ∀ (k j : Nat), row.length < j + k → j ≤ row.length →
 (V4 K row (fun x => Zl9 K x) k j).bind (Ex.elim (fun r => some r) (fun _ => some (-1))) = some (match ldR row (row.length - j) j with | some x => (x : Int) | none => -1) := by
 intro k
 induction k with
 | zero => intro j h1 h2; omega
 | succ k ih =>
  intro j h1 h2
  rw [V4]
  by_cases hj : j < row.length
  have := ih (j + 1) (by omega) (by omega)
  rw [if_pos (by omega)]
  unfold Zl9
  rw [Option.bind_some, show row.length - j = (row.length - (j + 1)) + 1 by omega, ldR]
  by_cases h0 : rd row (j : Int) = 0
  rw [decide_eq_true h0, if_neg (by decide), if_pos h0]; exact this
  rw [decide_eq_false h0, if_pos (show (!false) = true from rfl), if_neg h0]; rfl
  rw [if_neg (by omega), show row.length - j = 0 by omega, ldR]; rfl
theorem Ww2 {row : List Int} (hK : row.length < K) : Zx3 K row = some (match ldR row row.length 0 with | some x => (x : Int) | none => -1) := by
 have := Wb3 (K := K) (row := row) K 0 (by omega) (by omega)
 unfold Zx3 M0
 replace this : (V4 K row (fun x => Zl9 K x) K 0).bind _ = _ := this
 rw [this]; rfl
theorem Wi2 {t : List (List Int)} (hK : t.length < K) (hw : ∀ i : Nat, i < t.length → (rd t (i : Int)).length = t.length) : ∀ (k j : Nat), t.length < j + k → j ≤ t.length →
 (F3 K t k j).bind (Ex.elim (fun r => some r) (fun _ => some (0, 0, false))) = some (prR t t.length (t.length - j) j) := by
 intro k
 induction k with
 | zero => intro j h1 h2; omega
 | succ k ih =>
  intro j h1 h2
  rw [F3]
  by_cases hj : j < t.length
  have := ih (j + 1) (by omega) (by omega)
  have hwj := hw j hj
  rw [if_pos (by omega), Ww2 (by omega), Option.bind_some, show t.length - j = (t.length - (j + 1)) + 1 by omega, prR, hwj]
  cases ldR (rd t (j : Int)) t.length 0 with
  | some x => exact congrArg (fun o => Option.bind o _) (if_pos (Int.natCast_nonneg x))
  | none => dsimp only; rw [if_neg (by decide)]; exact this
  rw [if_neg (by omega), show t.length - j = 0 by omega, prR]; rfl
theorem Wq4 (hK : 1099511627776 ≤ K) (hV : Vd a) : Zi0 K a = some (Yf1 a) := by
 have hl := S2 hV.dg
 have hlen := hV.len
 have h1 := Wi2 (K := K) (t := Yb7 a) (by rw [Zf0]; omega) (fun i hi => by
  rw [Zf0] at hi
  rw [Yg2 hi, Zn0, Zf0, hlen]) K 0 (by rw [Zf0]; omega) (by omega)
 unfold Zi0
 rw [show (a.1, a.2) = a from rfl, Wd4 hK hV, Option.bind_some]
 refine Eq.trans h1 ?_
 rw [Zf0]; rfl
theorem Xn3 {t : List (List Int)} {w : Nat} : ∀ (n i : Nat), (prR t w n i).2.2 = true → ∃ x y : Nat, prR t w n i = ((x : Int), (y : Int), true) ∧ i ≤ x ∧ x < i + n ∧ y < w ∧ rd (rd t (x : Int)) (y : Int) ≠ 0
 | 0, i, h => by cases h
 | n + 1, i, h => by
  rw [prR] at h ⊢
  cases hl : ldR (rd t (i : Int)) w 0 with
  | some k =>
   obtain ⟨h1, h2, h3⟩ := Xp2 _ _ _ hl
   exact ⟨i, k, rfl, Nat.le_refl _, by omega, by omega, h3⟩
  | none =>
   rw [hl] at h
   obtain ⟨x, y, h1, h2, h3, h4, h5⟩ := Xn3 n (i + 1) h
   exact ⟨x, y, h1, by omega, by omega, h4, h5⟩
/-- what a pair is -/
structure Pr (a : J4) (i k : Nat) : Prop where
 hi : i < a.1.length
 hk : k < a.1.length
 nz : R2 (rd a.2 (i : Int)) (gn k 1) ≠ 0
theorem Yr8 (hV : Vd a) (h : (Yf1 a).2.2 = true) : ∃ i k : Nat, Yf1 a = ((i : Int), (k : Int), true) ∧ Pr a i k := by
 obtain ⟨x, y, h1, _, h3, h4, h5⟩ := Xn3 _ _ h
 have hlen := hV.len
 rw [Yg2 (by omega), Yc1 (by omega)] at h5
 exact ⟨x, y, h1, by omega, by omega, h5⟩
theorem Wk6 {s : MpT} {a : A8} (h : R2 s a ≠ 0) : (a, R2 s a) ∈ s := by
 unfold R2 at h ⊢
 cases hq : s.find? (fun p => eq8 a p.1) with
 | none => rw [hq] at h; exact absurd rfl h
 | some p =>
  have hm := List.mem_of_find?_eq_some hq
  have he := Zf7.1 (List.find?_some (p := fun (q : A8 × Int) => eq8 a q.1) hq)
  show (a, p.2) ∈ s
  rw [he]; exact hm
/-- degrees of a pair -/
theorem Ys6 {i k : Nat} (hV : Vd a) (h : Pr a i k) : rd a.1 (k : Int) = rd a.1 (i : Int) + 1 ∧ i ≠ k ∧ 1 ≤ R2 (rd a.2 (i : Int)) (gn k 1) ∧ R2 (rd a.2 (i : Int)) (gn k 1) ≤ 10006 := by
 have hl := S2 hV.dg
 have hlen := hV.len
 have hh := hV.hm i (by have := h.hi; omega)
 have hm := Wk6 h.nz
 have hw := hh.w _ hm
 have hc := Zr9 hh.nf _ hm
 have hk := h.hk
 unfold wt at hw
 rw [Xm3 a.1 (by omega), if_pos h.hk, Int.mul_one] at hw
 refine ⟨hw, ?_, hc.1, hc.2⟩
 rintro rfl
 omega
end
section
variable {K : Nat} {gs ds sd : List Int} {ms imgs : List MpT} {a : J4}
/-! lists without some, on both sides -/
theorem Va4 {x : Int} (hK : gs.length < K) : K3 K gs x K false 0 = some (.go (N0 gs x)) := by
 have := Yd0 (x := x) (K3 K gs x) (fun k b n => by rw [K3]) K 0 false (by omega) (by omega)
 exact this
theorem Wa0 (hK : 1099511627776 ≤ K) (hg : gs.length ≤ 8) (hl : ds.length ≤ 8) : Zl0 K ds gs = some (dsG gs ds) := by
 have key : ∀ (k j : Nat), ds.length < j + k → j ≤ ds.length → K4 K ds gs k j ((R7 gs j).map fun (j : Nat) => rd ds (j : Int)) = some (.go (dsG gs ds)) := by
  intro k
  induction k with
  | zero => intro j h1 h2; omega
  | succ k ih =>
   intro j h1 h2
   rw [K4]
   by_cases hj : j < ds.length
   have := ih (j + 1) (by omega) (by omega)
   have hs := Zk4 gs j
   rw [Zh2] at this
   rw [if_pos (by omega), Va4 (by omega), Option.bind_some]
   by_cases e : N0 gs (j : Int) = true
   rw [if_pos e] at this
   show (if N0 gs (j : Int) = true then _ else _) = _
   rw [if_pos e]; exact this
   rw [if_neg e, List.map_append] at this
   show (if N0 gs (j : Int) = true then _ else _) = _
   rw [if_neg e, if_pos (by simp; omega)]; exact this
   rw [if_neg (by omega), show j = ds.length by omega]; rfl
 have := key K 0 (by omega) (by omega)
 unfold Zl0
 replace this : K4 K ds gs K 0 [] = _ := this
 rw [this]; rfl
theorem Wd6 {x : Int} : ∀ (k j : Nat), gs.length < j + k → j ≤ gs.length →
 ((L3 K gs x k j).bind (Ex.elim (fun r => some r) (fun _ => some (-1)))).bind (fun r => some (decide (0 ≤ r))) = some (N0 (gs.drop j) x) := by
 intro k
 induction k with
 | zero => intro j h1 h2; omega
 | succ k ih =>
  intro j h1 h2
  rw [L3]
  by_cases hj : j < gs.length
  have e : N0 (gs.drop j) x = (decide (rd gs (j : Int) = x) || N0 (gs.drop (j + 1)) x) := by
   unfold N0
   rw [List.drop_eq_getElem_cons hj, List.any_cons, I4 hj]
  rw [if_pos (by omega), e]
  by_cases h0 : x = rd gs (j : Int)
  rw [if_pos h0, decide_eq_true h0.symm]
  show some (decide ((0 : Int) ≤ (j : Int))) = _
  rw [decide_eq_true (Int.natCast_nonneg j)]; rfl
  rw [if_neg h0, decide_eq_false (fun h => h0 h.symm)]
  exact ih (j + 1) (by omega) (by omega)
  rw [if_neg (by omega), List.drop_eq_nil_of_le (by omega)]; rfl
theorem Xt5 {x : Int} (hK : gs.length < K) : Ze4 K gs x = some (N0 gs x) := by
 have := Wd6 (K := K) (gs := gs) (x := x) K 0 (by omega) (by omega)
 exact this
/-- the places of the generators -/
def plG (gs : List Int) (n : Nat) : List Int := (List.range n).map fun (j : Nat) => if N0 gs (j : Int) = true then -1 else ((R7 gs j).length : Int)
theorem Xw9 (n : Nat) : (plG gs n).length = n := by simp [plG]
theorem Wl3 (n : Nat) : plG gs (n + 1) = plG gs n ++ [if N0 gs (n : Int) = true then -1 else ((R7 gs n).length : Int)] := by unfold plG; rw [List.range_succ, List.map_append]; rfl
theorem Wu0 {n j : Nat} (h : j < n) : rd (plG gs n) (j : Int) = if N0 gs (j : Int) = true then -1 else ((R7 gs j).length : Int) := Zu8 (by simp [plG, h])
theorem Xy6 (hK : 1099511627776 ≤ K) (hg : gs.length ≤ 8) (hl : ds.length ≤ 8) : Ze3 K (ds, imgs) gs = some (dsG gs ds, plG gs ds.length) := by
 have key : ∀ (k j : Nat), ds.length < j + k → j ≤ ds.length → Q8 K (ds, imgs) gs k j (plG gs j) ((R7 gs j).map fun (j : Nat) => rd ds (j : Int)) = some (.go (plG gs ds.length, dsG gs ds)) := by
  intro k
  induction k with
  | zero => intro j h1 h2; omega
  | succ k ih =>
   intro j h1 h2
   rw [Q8]
   dsimp only
   by_cases hj : j < ds.length
   have := ih (j + 1) (by omega) (by omega)
   have hs := Zk4 gs j
   have hp := Xw9 (gs := gs) j
   rw [Zh2, Wl3] at this
   rw [if_pos (by omega), Xt5 (by omega), Option.bind_some]
   by_cases e : N0 gs (j : Int) = true
   rw [if_pos e, if_pos e] at this
   rw [if_pos e, if_pos (by simp; omega)]; exact this
   rw [if_neg e, if_neg e, List.map_append] at this
   rw [if_neg e, if_pos (by simp; omega), if_pos (by simp; omega), List.length_map]; exact this
   rw [if_neg (by omega), show j = ds.length by omega]; rfl
 have := key K 0 (by omega) (by omega)
 unfold Ze3
 replace this : Q8 K (ds, imgs) gs K 0 [] [] = _ := this
 rw [this]; rfl
theorem Wl6 {u : Int} {f : MpT} (hK : 1099511627776 ≤ K) (hd : okD ds = true) (hf : Hm u ds f) (hu : u ≤ 13) (hfl : f.length ≤ 1475789056) : Zg7 K ds f (plG gs ds.length) (dsG gs ds) = (M1 K (ds, dsG gs ds, nmG gs ds.length) f) := by
 have hl := S2 hd
 have key : ∀ (k j : Nat), ds.length < j + k → j ≤ ds.length → K2 K (plG gs ds.length) k j (nmG gs j) = some (.go (nmG gs ds.length)) := by
  intro k
  induction k with
  | zero => intro j h1 h2; omega
  | succ k ih =>
   intro j h1 h2
   have hp := Xw9 (gs := gs) ds.length
   rw [K2]
   by_cases hj : j < ds.length
   have := ih (j + 1) (by omega) (by omega)
   have hs := Zk4 gs j
   have hn := Zg8 gs j
   rw [Xb0] at this
   rw [if_pos (by omega), Wu0 hj]
   by_cases e : N0 gs (j : Int) = true
   rw [if_pos e] at this
   rw [if_pos e, if_pos (by decide), if_pos (by simp; omega)]; exact this
   rw [if_neg e] at this
   have e1 : G0 ([] : MpT) (gn (R7 gs j).length 1) 1 = [(gn (R7 gs j).length 1, 1)] := rfl
   rw [if_neg e, if_neg (by omega), Zv5 (by omega), Option.bind_some, e1, if_pos (by simp; omega)]; exact this
   rw [if_neg (by omega), show j = ds.length by omega]
 have := key K 0 (by omega) (by omega)
 unfold Zg7
 replace this : K2 K (plG gs ds.length) K 0 [] = _ := this
 rw [this, Option.bind_some]
 show (M1 K (ds, dsG gs ds, nmG gs ds.length) f).bind _ = _
 cases M1 K (ds, dsG gs ds, nmG gs ds.length) f <;> rfl
/-! multiples, and terms that are led to nothing -/
theorem Wx7 (n : Nat) (c : Int) (X : MpT) : rnL gs n (Xh2 c X) = Xh2 c (rnL gs n X) := by
 unfold Xh2
 rw [Xr8]
 have e : ∀ T : MpT, rnF gs n (scl c T) = scl c (rnF gs n T) := by
  intro T
  induction T with
  | nil => rfl
  | cons t T ih =>
   have e1 : rnF gs n (scl c (t :: T)) = rn1 gs n (t.1, c * t.2) ++ rnF gs n (scl c T) := rfl
   have e2 : scl c (rnF gs n (t :: T)) = scl c (rn1 gs n t) ++ scl c (rnF gs n T) := by
    show scl c (rn1 gs n t ++ rnF gs n T) = _
    unfold scl; rw [List.map_append]
   rw [e1, e2, ih]
   congr 1
   unfold rn1 scl
   split <;> rfl
 unfold rnL
 rw [e]
 refine Yg9 (fun a => ?_)
 rw [Yu4, Yu4, Int.mul_emod, ← Yl1 a (rnF gs n X), ← Int.mul_emod]
theorem Xq2 {k : Nat} {c : Int} (hk : k < 8) (h0 : rd ms (k : Int) = []) : ∀ j, k < j → prT ds ms (gn k 1) c j = []
 | 0, h => by omega
 | j + 1, h => by
  rw [prT, Zw1 hk]
  by_cases e : j = k
  subst e
  rw [if_pos rfl, if_pos (by decide), h0]
  have e1 : ∀ s : MpT, Zl7 ds s [] = [] := fun s => by
   have : G9 ds s [] = [] := by
    induction s with
    | nil => rfl
    | cons z s ih => show Q6 ds z [] ++ G9 ds s [] = []; rw [ih]; rfl
   unfold Zl7; rw [this]; rfl
  show Zl7 ds _ (Zl7 ds [((fun _ => 0), 1)] []) = []
  rw [e1, e1]
  rw [if_neg e, if_neg (by decide)]
  exact Xq2 hk h0 j (by omega)
theorem Wm4 {k n : Nat} (hk : k < 8) (hkn : k < n) (h0 : rd ms (k : Int) = []) (f : MpT) : B9 ds ms n (Zh3 f (gn k 1)) = B9 ds ms n f := by
 unfold B9 Yf3
 congr 1
 induction f with
 | nil => rfl
 | cons t f ih =>
  unfold Zh3 at ih ⊢
  rw [List.filter_cons, List.flatMap_cons]
  cases e : eq8 (gn k 1) t.1 with
  | true =>
   rw [← Zf7.1 e, Xq2 hk h0 n hkn]
   simpa using ih
  | false =>
   simp only [Bool.not_false, if_true, List.flatMap_cons]
   rw [ih]
theorem Xg5 {u : Int} {f : MpT} {p : A8} (hf : Hm u ds f) : Hm u ds (Zh3 f p) :=
 ⟨Zz8 (Yq1 (P1 hf.nf) p) (fun q hq => Zr9 hf.nf q (Zt0.1 hq).1), fun q hq => hf.mo q (Zt0.1 hq).1, fun q hq => hf.w q (Zt0.1 hq).1⟩
theorem Wm1 (f : MpT) (p : A8) : (Zh3 f p).length ≤ f.length := List.length_filter_le _ _
/-! what a contracted pair gives -/
def ctK (c : Int) : Int := (0 - inv c) % 10007
def ctW (a : J4) (i k : Nat) : MpT := Xh2 (ctK (R2 (rd a.2 (i : Int)) (gn k 1))) (B9 (dsG [(i : Int), (k : Int)] a.1) (nmG [(i : Int), (k : Int)] a.1.length) a.1.length (rd a.2 (i : Int)))
def ctM (a : J4) (i k : Nat) : List MpT := (nmG [(i : Int), (k : Int)] a.1.length).set k (ctW a i k)
def ctD (a : J4) (i k : Nat) : List Int := dsG [(i : Int), (k : Int)] a.1
def ctO (a : J4) (i k : Nat) : List MpT := Zj5 [(i : Int), (k : Int)] (ctD a i k) (ctM a i k) a.2 a.1.length a.1.length
def ctB (a : J4) (i k : Nat) : Bool := (ctM a i k).all (fun f => decide (f.length ≤ 400)) && (ctO a i k).all (fun f => decide (f.length ≤ 400))
abbrev CtT := (List Int × List MpT) × List MpT × Int
def ctR (a : J4) (i k : Nat) : CtT := if ctB a i k = true then ((ctD a i k, ctO a i k), ctM a i k, 0) else (([], []), [], 3)
theorem Xc6 {i k : Nat} (j : Nat) : N0 [(i : Int), (k : Int)] (j : Int) = true ↔ j = i ∨ j = k := by
 unfold N0
 simp only [List.any_cons, List.any_nil, Bool.or_false, Bool.or_eq_true, decide_eq_true_eq]
 omega
theorem Wp8 {i k : Nat} (hV : Vd a) (h : Pr a i k) : Hm (rd a.1 (k : Int)) (ctD a i k) (ctW a i k) := by
 have hpos := D8 hV.dg
 have hlen := hV.len
 obtain ⟨h1, h2, h3⟩ := Ys6 hV h
 have hi := h.hi
 have hk := hpos _ (U0 h.hk)
 rw [h1]
 exact Xv9 (Zw5 (Xd7 hV.dg) (hV.hm i (by omega)) (by omega))
theorem Xd1 {i k : Nat} (hV : Vd a) (h : Pr a i k) : Lds a.1 (ctD a i k) (ctM a i k) := by
 have hL := Xd7 (gs := [(i : Int), (k : Int)]) hV.dg
 refine ⟨hL.src, hL.dst, by unfold ctM; rw [List.length_set]; exact hL.len, fun j hj => ?_⟩
 unfold ctM at hj ⊢
 rw [List.length_set] at hj
 rw [Ys4 hj]
 by_cases e : j = k
 subst e; rw [if_pos rfl]; exact Wp8 hV h
 rw [if_neg e]; exact hL.hm j hj
theorem Yg5 {i k : Nat} : (ctM a i k).length = a.1.length := by unfold ctM; rw [List.length_set, Zg8]
theorem Xg4 {c : Int} (hc : 1 ≤ c ∧ c ≤ 10006) : -10006 ≤ 0 - inv c ∧ 0 - inv c ≤ -1 := by have := Ws0 hc; omega
theorem Xv3 {c : Int} (hc : 1 ≤ c ∧ c ≤ 10006) : 1 ≤ ctK c ∧ ctK c ≤ 10006 := by
 have := Xg4 hc
 unfold ctK; omega
theorem Ww1 {i k : Nat} (hK : 1099511627776 ≤ K) (hV : Vd a) (h : Pr a i k) : Zj2 K a i k = some (ctR a i k) := by
 have hl := S2 hV.dg
 have hlen := hV.len
 have hi := h.hi
 have hk := h.hk
 obtain ⟨h1, h2, h3⟩ := Ys6 hV h
 have hpos := D8 hV.dg
 have hwk := hpos _ (U0 hk)
 have hfi := hV.hm i (by omega)
 have hsh := hV.short _ (U0 (show i < a.2.length by omega))
 have hLn := Xd7 (gs := [(i : Int), (k : Int)]) hV.dg
 have hX := Zw5 hLn hfi (by omega)
 have hXl := hX.len
 have hneg := Xg4 h3
 have hcv := Xv3 h3
 unfold Zj2
 rw [Wa0 hK (by simp) hl, Option.bind_some, Wh5 hK (by simp) hl, Option.bind_some, show (a.1, a.2) = a from rfl, Xh9 hK hV, Option.bind_some, Zf0, if_pos (by omega), if_pos (by omega), if_pos (by omega), Yg2 (by omega), Zn0, if_pos (by omega), if_pos (by omega),
  Xr9 hK hLn (Ya0 hfi (by omega)) (by omega), Option.bind_some, Yc1 hk, Xz8 hK h3, Option.bind_some, Ye2, Option.bind_some, IntWalk.i64_in _ (by omega)]
 show ((Zc6 K [] _ (ctK (R2 (rd a.2 (i : Int)) (gn k 1)))).bind _) = _
 rw [Xb9 (by omega) (by simp; omega) (by omega) Wy0 (C2 hX.nf) (by simp) (by omega), Option.bind_some, Yl2 D7 (P1 hX.nf), Zg8, if_pos (by omega), Int.toNat_natCast]
 show ((Zh0 K (ctD a i k) (ctM a i k)).bind _) = _
 have hL := Xd1 hV h
 rw [Wg8 hK hL.dst (by rw [Yg5]; exact hl) (fun f hf => by
  obtain ⟨n, hn, rfl⟩ := List.getElem_of_mem hf
  have := hL.hm n hn
  rw [I4 hn] at this
  exact ⟨_, this⟩), Option.bind_some]
 by_cases hA : ((ctM a i k).all fun f => decide (f.length ≤ 400)) = true
 rw [if_pos hA, if_pos rfl]
 show ((Zi4 K (a.1, a.2) (ctD a i k) (ctM a i k) [(i : Int), (k : Int)]).bind _) = _
 rw [Wb0 hK hL (by simp) hlen (fun j hj => ⟨hV.hm j hj, by have := hV.short _ (U0 hj); omega⟩), Option.bind_some]
 show (if (Yz9 (ctD a i k) (ctO a i k)).2 = 0 then some (((Yz9 (ctD a i k) (ctO a i k)).1.1, (Yz9 (ctD a i k) (ctO a i k)).1.2), ctM a i k, (0 : Int)) else some ((([] : List Int), ([] : List MpT)), ([] : List MpT), (Yz9 (ctD a i k) (ctO a i k)).2)) = _
 unfold Yz9 ctR ctB
 rw [hA, Bool.true_and]
 by_cases hB : ((ctO a i k).all fun f => decide (f.length ≤ 400)) = true
 rw [if_pos hB, if_pos rfl, if_pos hB]
 rw [if_neg hB, if_neg (by decide), if_neg hB]
 rw [if_neg hA, if_neg (by decide)]
 unfold ctR ctB
 rw [if_neg (by simp only [Bool.and_eq_true]; exact fun h => hA h.1)]
/-! the other side -/
def Yn8 (a : J4) (i : Nat) : List MpT := (nmG [] a.1.length).set i []
def Yz6 (a : J4) (i k : Nat) : MpT := Xh2 (ctK (R2 (rd a.2 (i : Int)) (gn k 1))) (B9 a.1 (Yn8 a i) a.1.length (Zh3 (rd a.2 (i : Int)) (gn k 1)))
def ctY (a : J4) (i k : Nat) : List MpT := (Yn8 a i).set k (Yz6 a i k)
theorem Yn5 {i : Nat} (hV : Vd a) (hi : i < a.1.length) : Lds a.1 a.1 (Yn8 a i) := Ws5 hV.dg hi (Hm.nil _ _)
theorem Wt2 {i k : Nat} (hV : Vd a) (h : Pr a i k) : Hm (rd a.1 (k : Int)) a.1 (Yz6 a i k) := by
 have hpos := D8 hV.dg
 have hlen := hV.len
 obtain ⟨h1, h2, h3⟩ := Ys6 hV h
 have hi := h.hi
 have hk := hpos _ (U0 h.hk)
 rw [h1]
 exact Xv9 (Zw5 (Yn5 hV hi) (Xg5 (hV.hm i (by omega))) (by omega))
theorem Wq8 {i k : Nat} (hV : Vd a) (h : Pr a i k) : Lds a.1 a.1 (ctY a i k) := by
 have hL := Yn5 hV h.hi
 refine ⟨hL.src, hL.dst, by unfold ctY; rw [List.length_set]; exact hL.len, fun j hj => ?_⟩
 unfold ctY at hj ⊢
 rw [List.length_set] at hj
 rw [Ys4 hj]
 by_cases e : j = k
 subst e; rw [if_pos rfl]; exact Wt2 hV h
 rw [if_neg e]; exact hL.hm j hj
theorem Ww3 {xs ys : List MpT} (hl : xs.length = ys.length) (h : ∀ j : Nat, j < xs.length → rd xs (j : Int) = rd ys (j : Int)) : xs = ys := by
 refine List.ext_getElem hl (fun j h1 h2 => ?_)
 have := h j h1
 rwa [I4 h1, I4 h2] at this
theorem Ws9 (n : Nat) : rnL gs n [] = [] := rfl
theorem Xw8 {i k : Nat} (hV : Vd a) (h : Pr a i k) : (Yn8 a i).map (rnL [(i : Int), (k : Int)] a.1.length) = nmG [(i : Int), (k : Int)] a.1.length := by
 have hl := S2 hV.dg
 refine Ww3 (by simp [Yn8, Zg8]) (fun j hj => ?_)
 unfold Yn8 at hj ⊢
 rw [List.length_map, List.length_set, Zg8] at hj
 rw [Xm6 (by rw [List.length_set, Zg8]; exact hj), Ys4 (by rw [Zg8]; exact hj), Xp0 (gs := [(i : Int), (k : Int)]) hj]
 by_cases e : j = i
 subst e; rw [if_pos rfl, if_pos ((Xc6 j).2 (.inl rfl)), Ws9]
 rw [if_neg e, Xl9 hj]; exact We5 hl hj
theorem Wx6 {i k : Nat} (hV : Vd a) (h : Pr a i k) : (ctY a i k).map (rnL [(i : Int), (k : Int)] a.1.length) = ctM a i k := by
 have hl := S2 hV.dg
 have hlen := hV.len
 have hi := h.hi
 have hk := h.hk
 obtain ⟨h1, h2, h3⟩ := Ys6 hV h
 have hwk := D8 hV.dg _ (U0 hk)
 have e1 : (ctY a i k).map (rnL [(i : Int), (k : Int)] a.1.length) = (nmG [(i : Int), (k : Int)] a.1.length).set k (rnL [(i : Int), (k : Int)] a.1.length (Yz6 a i k)) := by
  unfold ctY
  rw [List.map_set, Xw8 hV h]
 rw [e1]
 unfold ctM ctW Yz6
 rw [Wx7, Xm4 (Yn5 hV hi) (Ya0 (Xg5 (hV.hm i (by omega))) (by omega)), Xw8 hV h, Wm4 (by omega) hk (by rw [Xp0 hk, if_pos ((Xc6 k).2 (.inr rfl))])]
theorem Ww7 {i k : Nat} {u : Int} {s : MpT} (hK : 1099511627776 ≤ K) (hV : Vd a) (h : Pr a i k) (hs : Hm u a.1 s) (hu : u ≤ 13) (hsl : s.length ≤ 1000000) :
 I8 K s a (ctY a i k) (plG [(i : Int), (k : Int)] a.1.length) (ctD a i k) = some (if 400 < (B9 (ctD a i k) (ctM a i k) a.1.length s).length then ([], 3) else (B9 (ctD a i k) (ctM a i k) a.1.length s, 0)) := by
 have hY := Wq8 hV h
 have hX := Zw5 hY hs hu
 have hXl := hX.len
 have hL := Xd1 hV h
 have hZ := Zw5 hL hs hu
 unfold I8 Zb2
 rw [Xx6 hK hY (Ya0 hs hu) hsl, Option.bind_some, Option.bind_some]
 show ((Zg7 K a.1 _ (plG [(i : Int), (k : Int)] a.1.length) (dsG [(i : Int), (k : Int)] a.1)).bind _) = _
 have hp : M1 K (a.1, dsG [(i : Int), (k : Int)] a.1, nmG [(i : Int), (k : Int)] a.1.length) (B9 a.1 (ctY a i k) a.1.length s) = some (B9 (dsG [(i : Int), (k : Int)] a.1) (nmG [(i : Int), (k : Int)] a.1.length) a.1.length (B9 a.1 (ctY a i k) a.1.length s)) := by
  have hLn := Xd7 (gs := [(i : Int), (k : Int)]) hV.dg
  have := Xa0 (K := K) hK hLn K (B9 a.1 (ctY a i k) a.1.length s) [] (by omega) (Ya0 hX hu) D7 (fun t ht => by cases ht)
  unfold M1
  replace this : T5 K (a.1, dsG [(i : Int), (k : Int)] a.1, nmG [(i : Int), (k : Int)] a.1.length) K (B9 a.1 (ctY a i k) a.1.length s) [] = _ := this
  rw [this]; rfl
 rw [Wl6 hK hV.dg hX hu hXl, hp, Option.bind_some, Wp5 hY hs hu, Wx6 hV h]
 show ((Zd7 K (B9 (ctD a i k) (ctM a i k) a.1.length s)).bind _) = _
 rw [Ws4 hK hZ]; rfl
def Zx7 (a : J4) (i k j : Nat) : Bool := decide ((rd (ctM a i k) (j : Int)).length ≤ 400) && (N0 [(i : Int), (k : Int)] (j : Int) || decide ((B9 (ctD a i k) (ctM a i k) a.1.length (rd a.2 (j : Int))).length ≤ 400))
theorem Wi8 {i k : Nat} (hK : 1099511627776 ≤ K) (hV : Vd a) (h : Pr a i k) {f9 : MpT} {r9 : List MpT} {d1 : List Int × List Int} (hY : (r9.set i ([] : MpT)).set k f9 = ctY a i k) (hd1 : d1 = (ctD a i k, plG [(i : Int), (k : Int)] a.1.length)) :
 ∀ (m j : Nat), a.1.length < j + m → j ≤ a.1.length → T9 K a i k f9 d1 r9 m j ((ctM a i k).take j) (Zj5 [(i : Int), (k : Int)] (ctD a i k) (ctM a i k) a.2 a.1.length j) =
  some (if ((List.range' j (a.1.length - j)).all (Zx7 a i k)) = true then .go (ctO a i k, ctM a i k) else .ret (([], []), [], 3)) := by
 have hl := S2 hV.dg
 have hlen := hV.len
 have hL := Xd1 hV h
 intro m
 induction m with
 | zero => intro j h1 h2; omega
 | succ m ih =>
  intro j h1 h2
  rw [T9]
  by_cases hj : j < a.1.length
  have hpj := D8 hV.dg _ (U0 hj)
  have hr : List.range' j (a.1.length - j) = j :: List.range' (j + 1) (a.1.length - (j + 1)) := by
   rw [show a.1.length - j = (a.1.length - (j + 1)) + 1 by omega, List.range'_succ]
  have hml : (ctM a i k).length = a.1.length := Yg5
  have hol : (Zj5 [(i : Int), (k : Int)] (ctD a i k) (ctM a i k) a.2 a.1.length j).length ≤ 8 := by unfold Zj5; rw [List.length_map]; have := Zk4 [(i : Int), (k : Int)] j; omega
  have e1 : G0 ([] : MpT) (gn j 1) 1 = [(gn j 1, 1)] := rfl
  have hc1 := Ww7 (K := K) hK hV h (Xs4 hV.dg hj (show 1 ≤ (1 : Int) ∧ (1 : Int) ≤ 10006 by decide)) (by omega) (by simp)
  rw [Wr2 hL hj] at hc1
  have ih' := ih (j + 1) (by omega) (by omega)
  rw [Zy7 (by rw [hml]; exact hj)] at ih'
  have ho : Zj5 [(i : Int), (k : Int)] (ctD a i k) (ctM a i k) a.2 a.1.length (j + 1) = if N0 [(i : Int), (k : Int)] (j : Int) = true then Zj5 [(i : Int), (k : Int)] (ctD a i k) (ctM a i k) a.2 a.1.length j else Zj5 [(i : Int), (k : Int)] (ctD a i k) (ctM a i k) a.2 a.1.length j ++ [B9 (ctD a i k) (ctM a i k) a.1.length (rd a.2 (j : Int))] := by
   unfold Zj5; rw [Zh2]; split
   rfl
   rw [List.map_append]; rfl
  rw [ho] at ih'
  rw [if_pos (by omega), Zv5 (by omega), Option.bind_some, e1, show (a.1, a.2) = a from rfl, Int.toNat_natCast, Int.toNat_natCast, hY, hd1]
  dsimp only
  rw [hc1, Option.bind_some, hr, List.all_cons]
  rw [hd1] at ih'
  by_cases h4 : 400 < (rd (ctM a i k) (j : Int)).length
  have ek : Zx7 a i k j = false := by unfold Zx7; rw [decide_eq_false (by omega), Bool.false_and]
  rw [if_pos h4, ek]; rfl
  have hnj : (rd (ctM a i k) (j : Int)).length ≤ 400 := by omega
  rw [if_neg h4]
  dsimp only
  rw [if_pos rfl, if_pos (by simp; omega)]
  by_cases hg : N0 [(i : Int), (k : Int)] (j : Int) = true
  have ek : Zx7 a i k j = true := by unfold Zx7; rw [decide_eq_true hnj, hg]; rfl
  rw [if_pos hg] at ih'
  have hij := (Xc6 (i := i) (k := k) j).1 hg
  have goal : T9 K a i k f9 (ctD a i k, plG [(i : Int), (k : Int)] a.1.length) r9 m ((j : Int) + 1) ((ctM a i k).take j ++ [rd (ctM a i k) (j : Int)]) (Zj5 [(i : Int), (k : Int)] (ctD a i k) (ctM a i k) a.2 a.1.length j) = some (if (Zx7 a i k j && (List.range' (j + 1) (a.1.length - (j + 1))).all (Zx7 a i k)) = true then .go (ctO a i k, ctM a i k) else .ret (([], []), [], 3)) := by
   rw [ek, Bool.true_and]; exact ih'
  by_cases ei : (j : Int) = (i : Int)
  rw [if_pos ei]
  unfold L4
  rw [if_pos rfl]; exact goal
  have ek2 : (j : Int) = (k : Int) := by omega
  rw [if_neg ei, decide_eq_true ek2]
  unfold L4
  rw [if_pos rfl]; exact goal
  have hij : ¬ (j = i ∨ j = k) := fun hh => hg ((Xc6 j).2 hh)
  have hgf : N0 [(i : Int), (k : Int)] (j : Int) = false := by simpa using hg
  rw [if_neg hg] at ih'
  have hfj := hV.hm j (by omega)
  have hsj := hV.short _ (U0 (show j < a.2.length by omega))
  rw [if_neg (by omega), decide_eq_false (by omega)]
  unfold L4
  dsimp only
  rw [if_neg (by decide), if_pos (by omega), Yl4 (by omega) (by omega) (Xe1 hfj) (P1 hfj.nf), Option.bind_some, show (a.1, a.2) = a from rfl, Int.toNat_natCast, Int.toNat_natCast, hY, Ww7 hK hV h hfj (by omega) (by omega), Option.bind_some]
  by_cases h5 : 400 < (B9 (ctD a i k) (ctM a i k) a.1.length (rd a.2 (j : Int))).length
  have ek : Zx7 a i k j = false := by unfold Zx7; rw [hgf, Bool.false_or, decide_eq_false (show ¬ (B9 (ctD a i k) (ctM a i k) a.1.length (rd a.2 (j : Int))).length ≤ 400 by omega), Bool.and_false]
  rw [if_pos h5, ek]; rfl
  have ek : Zx7 a i k j = true := by unfold Zx7; rw [decide_eq_true hnj, decide_eq_true (show (B9 (ctD a i k) (ctM a i k) a.1.length (rd a.2 (j : Int))).length ≤ 400 by omega), Bool.or_true]; rfl
  rw [if_neg h5, ek, Bool.true_and]
  dsimp only
  rw [if_pos rfl, if_pos (by simp; omega)]
  exact ih'
  rw [if_neg (by omega), show j = a.1.length by omega, Nat.sub_self, List.take_of_length_le (by rw [Yg5]; exact Nat.le_refl _)]; rfl
theorem Wi6 {i k : Nat} : ((List.range a.1.length).all (Zx7 a i k)) = ctB a i k := by
 rw [Bool.eq_iff_iff]
 unfold ctB
 rw [Bool.and_eq_true, List.all_eq_true, List.all_eq_true, List.all_eq_true]
 constructor
 intro h
 refine ⟨fun f hf => ?_, fun f hf => ?_⟩
 obtain ⟨n, hn, rfl⟩ := List.getElem_of_mem hf
 have := h n (List.mem_range.2 (by rw [Yg5] at hn; exact hn))
 unfold Zx7 at this
 rw [Bool.and_eq_true, I4 hn] at this
 exact this.1
 unfold ctO Zj5 at hf
 obtain ⟨j, hj, rfl⟩ := List.mem_map.1 hf
 have := h j (List.mem_range.2 (Yi2 hj).1)
 unfold Zx7 at this
 rw [Bool.and_eq_true, (Yi2 hj).2, Bool.false_or] at this
 exact this.2
 intro h j hj
 have hj := List.mem_range.1 hj
 unfold Zx7
 rw [Bool.and_eq_true]
 refine ⟨h.1 _ (U0 (by rw [Yg5]; exact hj)), ?_⟩
 cases hg : N0 [(i : Int), (k : Int)] (j : Int) with
 | true => rfl
 | false =>
  rw [Bool.false_or]
  refine h.2 _ ?_
  unfold ctO Zj5
  exact List.mem_map.2 ⟨j, List.mem_filter.2 ⟨List.mem_range.2 hj, by rw [hg]; rfl⟩, rfl⟩
theorem Wu6 {i k : Nat} (hK : 1099511627776 ≤ K) (hV : Vd a) (h : Pr a i k) : Zd0 K a i k = some (ctR a i k) := by
 have hl := S2 hV.dg
 have hlen := hV.len
 have hi := h.hi
 have hk := h.hk
 obtain ⟨h1, h2, h3⟩ := Ys6 hV h
 have hwk := D8 hV.dg _ (U0 hk)
 have hfi := hV.hm i (by omega)
 have hsh := hV.short _ (U0 (show i < a.2.length by omega))
 have hY0 := Yn5 hV hi
 have hmd := Xg5 (p := gn k 1) hfi
 have hml := Wm1 (rd a.2 (i : Int)) (gn k 1)
 have hX := Zw5 hY0 hmd (by omega)
 have hXl := hX.len
 have hneg := Xg4 h3
 have hcv := Xv3 h3
 have Z2 : Zb2 K a.1 (Zh3 (rd a.2 (i : Int)) (gn k 1)) (Yn8 a i) = some (B9 a.1 (Yn8 a i) a.1.length (Zh3 (rd a.2 (i : Int)) (gn k 1))) := by
  unfold Zb2
  rw [Xx6 hK hY0 (Ya0 hmd (by omega)) (by omega)]; rfl
 unfold Zd0
 rw [Wd9 hK hl, Option.bind_some, if_pos (by omega), if_pos (by omega), Yl4 (by omega) (by omega) (Xe1 hfi) (P1 hfi.nf), Option.bind_some, Zv5 (by omega), Option.bind_some, Option.bind_some, Zg8, if_pos (by omega), Int.toNat_natCast]
 show ((Zb2 K a.1 (Zh3 (rd a.2 (i : Int)) (gn k 1)) (Yn8 a i)).bind _) = _
 rw [Z2, Option.bind_some, Xy8 hK h3, Option.bind_some, IntWalk.i64_in _ (by omega), Xf2, Option.bind_some]
 show ((Q5 K [] _ (ctK (R2 (rd a.2 (i : Int)) (gn k 1)))).bind _) = _
 rw [Xb2 (by omega) (by omega) (C2 hX.nf) D7, Option.bind_some, if_pos (by omega), List.length_set, Zg8, if_pos (by omega), Xy6 hK (by simp) hl, Option.bind_some]
 have hloop := Wi8 (K := K) hK hV h (f9 := Yz6 a i k) (r9 := nmG [] a.1.length) (d1 := (dsG [(i : Int), (k : Int)] a.1, plG [(i : Int), (k : Int)] a.1.length)) rfl rfl K 0 (by omega) (by omega)
 rw [Nat.sub_zero, ← List.range_eq_range', Wi6] at hloop
 replace hloop : T9 K a i k (Yz6 a i k) (dsG [(i : Int), (k : Int)] a.1, plG [(i : Int), (k : Int)] a.1.length) (nmG [] a.1.length) K 0 [] [] = _ := hloop
 show ((T9 K a i k (Yz6 a i k) (dsG [(i : Int), (k : Int)] a.1, plG [(i : Int), (k : Int)] a.1.length) (nmG [] a.1.length) K 0 [] []).bind _) = _
 rw [hloop, Option.bind_some]
 unfold ctR
 by_cases hB : ctB a i k = true
 rw [if_pos hB, if_pos hB]; rfl
 rw [if_neg hB, if_neg hB]; rfl
/-- what is left is again such an algebra, of fewer generators -/
theorem Va0 {i k : Nat} (hV : Vd a) (h : Pr a i k) (hB : ctB a i k = true) : Vd (ctD a i k, ctO a i k) ∧ (ctD a i k).length < a.1.length := by
 have hL := Xd1 hV h
 have hlen := hV.len
 refine ⟨⟨hL.dst, by unfold ctO Zj5 ctD; rw [List.length_map, Yb8], fun j hj => ?_, fun f hf => ?_⟩, ?_⟩
 unfold ctO Zj5 at hj ⊢
 rw [List.length_map] at hj
 have hm := Yi2 (List.getElem_mem hj)
 have hp := D8 hV.dg _ (U0 hm.1)
 have e1 : rd ((R7 [(i : Int), (k : Int)] a.1.length).map fun (t : Nat) => B9 (ctD a i k) (ctM a i k) a.1.length (rd a.2 (t : Int))) (j : Int) = B9 (ctD a i k) (ctM a i k) a.1.length (rd a.2 (((R7 [(i : Int), (k : Int)] a.1.length)[j] : Nat) : Int)) := Zu8 (by rw [List.getElem?_map, List.getElem?_eq_getElem hj]; rfl)
 have e2 : rd (ctD a i k) (j : Int) = rd a.1 (((R7 [(i : Int), (k : Int)] a.1.length)[j] : Nat) : Int) := Zu8 (by unfold ctD dsG; rw [List.getElem?_map, List.getElem?_eq_getElem hj]; rfl)
 show Hm (rd (ctD a i k) (j : Int) + 1) (ctD a i k) _
 rw [e1, e2]
 exact Zw5 hL (hV.hm _ (by omega)) (by omega)
 unfold ctB at hB
 rw [Bool.and_eq_true] at hB
 exact of_decide_eq_true (List.all_eq_true.1 hB.2 f hf)
 unfold ctD
 rw [Yb8]
 have h1 := Wt9 (gs := [(i : Int), (k : Int)]) (j := i + 1) (n := a.1.length) h.hi
 have hcount : ∀ m, i < m → (R7 [(i : Int), (k : Int)] m).length < m := by
  intro m
  induction m with
  | zero => intro h; omega
  | succ m ih =>
   intro hm
   rw [Zh2]
   by_cases e : i = m
   subst e
   rw [if_pos ((Xc6 i).2 (.inl rfl))]
   have := Zk4 [(i : Int), (k : Int)] i
   omega
   have := ih (by omega)
   split
   omega
   rw [List.length_append]; simp; omega
 exact hcount _ h.hi
end
section
variable {K : Nat}
/-! comparisons -/
theorem Xu3 (hK : 8 < K) (m : A8) : Zl6 K m m = some true := by
 unfold Zl6
 rw [Zc5 (g := ()) (fun k i => N5 K m m k i) 8 (fun _ => true) false (fun k n hn => ?_) (fun k n hn => ?_) hK]
 rw [if_pos (by simp)]; rfl
 show N5 K m m (k + 1) n = _
 rw [N5, if_pos (by omega), if_pos rfl]; rfl
 show N5 K m m (k + 1) n = _
 rw [N5, if_neg (by omega)]
theorem Xt0 (hK : 8 < K) {f : MpT} (hl : f.length < K) : Zq9 K f f = some true := by
 unfold Zq9
 rw [if_pos rfl, Zc5 (g := ()) (fun k i => I2 K f f k i) f.length (fun _ => true) false (fun k n hn => ?_) (fun k n hn => ?_) hl]
 rw [if_pos (by simp)]; rfl
 show I2 K f f (k + 1) n = _
 have h : Zt5 K ((rd f (n : Int)).1, (rd f (n : Int)).2) ((rd f (n : Int)).1, (rd f (n : Int)).2) = some true := by
  unfold Zt5
  rw [Xu3 hK]; simp
 rw [I2, if_pos (by omega), if_pos (by omega), h]; rfl
 show I2 K f f (k + 1) n = _
 rw [I2, if_neg (by omega)]
theorem Yt3 (hK : 8 < K) {fs : List MpT} (hl : fs.length < K) (hf : ∀ f, f ∈ fs → f.length < K) : Zf3 K fs fs = some true := by
 unfold Zf3
 rw [if_pos rfl, Zc5 (g := ()) (fun k i => I3 K fs fs k i) fs.length (fun _ => true) false (fun k n hn => ?_) (fun k n hn => ?_) hl]
 rw [if_pos (by simp)]; rfl
 show I3 K fs fs (k + 1) n = _
 have h : Zt2 K (rd fs (n : Int)) (rd fs (n : Int)) = some true := by
  unfold Zt2
  rw [Xt0 hK (hf _ (U0 hn))]; rfl
 rw [I3, if_pos (by omega), if_pos (by omega), h]; rfl
 show I3 K fs fs (k + 1) n = _
 rw [I3, if_neg (by omega)]
theorem Xu5 {xs : List Int} (hl : xs.length < K) : Zp0 K xs xs = some true := by
 unfold Zp0
 rw [if_pos rfl, Zc5 (g := ()) (fun k i => K6 K xs xs k i) xs.length (fun _ => true) false (fun k n hn => ?_) (fun k n hn => ?_) hl]
 rw [if_pos (by simp)]; rfl
 show K6 K xs xs (k + 1) n = _
 rw [K6, if_pos (by omega), if_pos (by omega), if_pos rfl]; rfl
 show K6 K xs xs (k + 1) n = _
 rw [K6, if_neg (by omega)]
theorem Xe2 (hK : 8 < K) {x : J4} (h1 : x.1.length < K) (h2 : x.2.length < K) (h3 : ∀ f, f ∈ x.2 → f.length < K) : Zc4 K x x = some true := by
 unfold Zc4
 rw [Xu5 h1, Option.bind_some, if_pos rfl, Yt3 hK h2 h3]; rfl
/-! copies -/
theorem Wu7 (hK : 8 < K) (m : A8) : Zl5 K m = some m := by
 have key : ∀ (k n : Nat) (box : A8), n ≤ 8 → 8 < n + k → (∀ j : Fin 8, j.val < n → box j = m j) → G7 K m k n box = some (.go m) := by
  intro k
  induction k with
  | zero => intro n box h1 h2; omega
  | succ k ih =>
   intro n box h1 h2 hb
   rw [G7]
   by_cases hn : n < 8
   rw [if_pos (by omega)]
   refine ih (n + 1) _ (by omega) (by omega) (fun j hj => ?_)
   rw [K8 _ hn, T7 m hn]
   by_cases e : j.val = n
   rw [if_pos e]; congr 1; exact Fin.ext e.symm
   rw [if_neg e]; exact hb j (by omega)
   rw [if_neg (by omega)]
   congr 2
   funext j; exact hb j (by omega)
 have := key K 0 (fun _ => 0) (by omega) (by omega) (fun j hj => by omega)
 unfold Zl5
 replace this : G7 K m K 0 (fun _ => 0) = _ := this
 rw [this]; rfl
theorem Yz1 {α : Type} [Inhabited α] {xs ys : List α} {j : Nat} (hj : j < xs.length) (hl : ys.length = xs.length) (h : ys.take j = xs.take j) : (ys.set j (rd xs (j : Int))).take (j + 1) = xs.take (j + 1) := by
 rw [Zy7 (xs := ys.set j _) (by rw [List.length_set]; omega), Zy7 hj]
 congr 1
 rw [List.take_set_of_le (Nat.le_refl j), h]
 rw [I4 (by rw [List.length_set]; omega)]
 simp
theorem Wo9 (hK : 8 < K) {f : MpT} (hl : f.length < K) (hl2 : f.length ≤ 1099511627776) : Zs0 K f = some f := by
 have key : ∀ (k j : Nat) (out : MpT), f.length < j + k → j ≤ f.length → out.length = f.length → out.take j = f.take j → Zb1 K f k j out = some (.go f) := by
  intro k
  induction k with
  | zero => intro j out h1 h2; omega
  | succ k ih =>
   intro j out h1 h2 h3 h4
   rw [Zb1]
   by_cases hj : j < f.length
   have ht : Zt6 K ((rd f (j : Int)).1, (rd f (j : Int)).2) = some (rd f (j : Int)) := by
    unfold Zt6
    rw [Wu7 hK]; rfl
   rw [if_pos (by omega), ht, Option.bind_some, if_pos (by omega), Int.toNat_natCast]
   exact ih (j + 1) _ (by omega) (by omega) (by rw [List.length_set]; exact h3) (Yz1 hj h3 h4)
   rw [if_neg (by omega)]
   rw [List.take_of_length_le (by omega), List.take_of_length_le (by omega)] at h4
   rw [h4]
 have := key K 0 (List.replicate f.length ((fun _ => 0), 0)) (by omega) (by omega) (by simp) (by simp)
 unfold Zs0
 rw [if_pos (by omega), Int.toNat_natCast]
 replace this : Zb1 K f K 0 (List.replicate f.length ((fun _ => 0), 0)) = _ := this
 rw [this]; rfl
theorem Wr9 (hK : 8 < K) {fs : List MpT} (hl : fs.length < K) (hl2 : fs.length ≤ 1099511627776) (hf : ∀ f, f ∈ fs → f.length < K ∧ f.length ≤ 1099511627776) : Zr2 K fs = some fs := by
 have key : ∀ (k j : Nat) (out : List MpT), fs.length < j + k → j ≤ fs.length → out.length = fs.length → out.take j = fs.take j → Za7 K fs k j out = some (.go fs) := by
  intro k
  induction k with
  | zero => intro j out h1 h2; omega
  | succ k ih =>
   intro j out h1 h2 h3 h4
   rw [Za7]
   by_cases hj : j < fs.length
   have hff := hf _ (U0 hj)
   have ht : Zt3 K (rd fs (j : Int)) = some (rd fs (j : Int)) := by
    unfold Zt3
    rw [Wo9 hK hff.1 hff.2]; rfl
   rw [if_pos (by omega), ht, Option.bind_some, if_pos (by omega), Int.toNat_natCast]
   exact ih (j + 1) _ (by omega) (by omega) (by rw [List.length_set]; exact h3) (Yz1 hj h3 h4)
   rw [if_neg (by omega)]
   rw [List.take_of_length_le (by omega), List.take_of_length_le (by omega)] at h4
   rw [h4]
 have := key K 0 (List.replicate fs.length []) (by omega) (by omega) (by simp) (by simp)
 unfold Zr2
 rw [if_pos (by omega), Int.toNat_natCast]
 replace this : Za7 K fs K 0 (List.replicate fs.length []) = _ := this
 rw [this]; rfl
theorem Wv3 {xs : List Int} (hl : xs.length < K) (hl2 : xs.length ≤ 1099511627776) : Zo6 K xs = some xs := by
 have key : ∀ (k j : Nat) (out : List Int), xs.length < j + k → j ≤ xs.length → out.length = xs.length → out.take j = xs.take j → B5 K xs k j out = some (.go xs) := by
  intro k
  induction k with
  | zero => intro j out h1 h2; omega
  | succ k ih =>
   intro j out h1 h2 h3 h4
   rw [B5]
   by_cases hj : j < xs.length
   rw [if_pos (by omega), if_pos (by omega), Int.toNat_natCast]
   exact ih (j + 1) _ (by omega) (by omega) (by rw [List.length_set]; exact h3) (Yz1 hj h3 h4)
   rw [if_neg (by omega)]
   rw [List.take_of_length_le (by omega), List.take_of_length_le (by omega)] at h4
   rw [h4]
 have := key K 0 (List.replicate xs.length 0) (by omega) (by omega) (by simp) (by simp)
 unfold Zo6
 rw [if_pos (by omega), Int.toNat_natCast]
 replace this : B5 K xs K 0 (List.replicate xs.length 0) = _ := this
 rw [this]; rfl
theorem Wz1 {a : J4} (hi : Inp K a) : Zc1 K a = some a := by
 have h1 := hi.big; have h2 := hi.dl; have h3 := hi.il
 unfold Zc1
 rw [Wv3 (by omega) (by omega), Option.bind_some, Wr9 (by omega) (by omega) (by omega) (fun f hf => by have := hi.fl f hf; omega)]; rfl
/-! marks are there -/
theorem Wk2 (k0 : Int) (m : Nat) (hK : m < K) (h0 : 0 ≤ k0 ∧ k0 + m ≤ 1000000000000000) : Zk6 K (mkI k0 m) k0 = some (k0 + m) := by
 have key : ∀ (k j : Nat), m < j + k → j ≤ m → I9 K (mkI k0 m) k (k0 + j) j = some (.go (k0 + m)) := by
  intro k
  induction k with
  | zero => intro j h1 h2; omega
  | succ k ih =>
   intro j h1 h2
   rw [I9, Yv9]
   by_cases hj : j < m
   have e : rd (mkI k0 m) (j : Int) = k0 + j := Zu8 (by simp [mkI, hj])
   rw [if_pos (by omega), if_pos e, IntWalk.i64_in _ (by omega), Int.add_assoc]
   exact ih (j + 1) (by omega) (by omega)
   rw [if_neg (by omega), show j = m by omega]
 have := key K 0 (by omega) (by omega)
 unfold Zk6
 replace this : I9 K (mkI k0 m) K (k0 + 0) 0 = _ := this
 rw [Int.add_zero] at this
 rw [this]; rfl
theorem Wd5 (k0 : Int) (m : Nat) (hK : m < K) (hK8 : 8 < K) (h0 : 0 ≤ k0 ∧ k0 + 9 * m ≤ 1000000000000000) : Zm9 K (mkT k0 m) k0 = some (k0 + 9 * m) := by
 have e : ∀ j : Nat, j < m → rd (mkT k0 m) (j : Int) = ((fun t : Fin 8 => IntKind.u8.wrap (k0 + 9 * j + t.val)), k0 + 9 * j + 8) := fun j hj => Zu8 (by simp [mkT, hj])
 have inner : ∀ (j : Nat), j < m → ∀ (k t : Nat), 8 < t + k → t ≤ 8 → E9 K (mkT k0 m) j k (k0 + 9 * j + t) t = some (.go (k0 + 9 * j + 8)) := by
  intro j hj k
  induction k with
  | zero => intro t h1 h2; omega
  | succ k ih =>
   intro t h1 h2
   rw [E9, e j hj]
   by_cases ht : t < 8
   rw [if_pos (by omega), T7 _ ht, if_pos rfl, IntWalk.i64_in _ (by omega), Int.add_assoc]
   exact ih (t + 1) (by omega) (by omega)
   rw [if_neg (by omega), show t = 8 by omega]; rfl
 have key : ∀ (k j : Nat), m < j + k → j ≤ m → J8 K (mkT k0 m) k (k0 + 9 * j) j = some (.go (k0 + 9 * m)) := by
  intro k
  induction k with
  | zero => intro j h1 h2; omega
  | succ k ih =>
   intro j h1 h2
   rw [J8, Yw0]
   by_cases hj : j < m
   have hin := inner j hj K 0 (by omega) (by omega)
   replace hin : E9 K (mkT k0 m) j K (k0 + 9 * j + 0) 0 = _ := hin
   rw [Int.add_zero] at hin
   rw [if_pos (by omega), hin, Option.bind_some]
   show (if (rd (mkT k0 m) (j : Int)).2 = k0 + 9 * j + 8 then J8 K (mkT k0 m) k (IntKind.i64.wrap (k0 + 9 * j + 8 + 1)) ((j : Int) + 1) else some (.ret (-1))) = _
   rw [e j hj, if_pos rfl, IntWalk.i64_in _ (by omega)]
   have := ih (j + 1) (by omega) (by omega)
   rw [show k0 + 9 * ((j + 1 : Nat) : Int) = k0 + 9 * j + 8 + 1 by omega] at this
   exact this
   rw [if_neg (by omega), show j = m by omega]
 have := key K 0 (by omega) (by omega)
 unfold Zm9
 replace this : J8 K (mkT k0 m) K (k0 + 9 * 0) 0 = _ := this
 rw [Int.mul_zero, Int.add_zero] at this
 rw [this]; rfl
theorem Xk6 (xs : List MpT) (k0 : Int) (hK8 : 8 < K) (hl : xs.length < K) (hf : ∀ f, f ∈ xs → f.length < K) (h0 : 0 ≤ k0 ∧ k0 + M5 xs ≤ 1000000000000000) : Ze7 K (Zv7 k0 xs) k0 = some (k0 + M5 xs) := by
 have key : ∀ (k j : Nat), xs.length < j + k → j ≤ xs.length → F9 K (Zv7 k0 xs) k (k0 + M5 (xs.take j)) j = some (.go (k0 + M5 xs)) := by
  intro k
  induction k with
  | zero => intro j h1 h2; omega
  | succ k ih =>
   intro j h1 h2
   rw [F9, Xb4]
   by_cases hj : j < xs.length
   have hx : xs[j]? = some xs[j] := List.getElem?_eq_getElem hj
   have e := Zu8 (Yy6 xs k0 j _ hx)
   have h3 := Zw8 (xs.take j)
   have h4 := Yt8 xs (j + 1)
   have h5 := Yf7 xs j _ hx
   have h6 := hf _ (List.getElem_mem hj)
   rw [if_pos (by omega), e, Wd5 _ _ h6 hK8 (by omega), Option.bind_some, if_neg (by omega)]
   have := ih (j + 1) (by omega) (by omega)
   rw [h5, ← Int.add_assoc] at this
   exact this
   rw [if_neg (by omega), List.take_of_length_le (by omega)]
 have := key K 0 (by omega) (by omega)
 unfold Ze7
 replace this : F9 K (Zv7 k0 xs) K (k0 + 0) 0 = _ := this
 rw [Int.add_zero] at this
 rw [this]; rfl
theorem Wq3 {x : J4} (hK8 : 8 < K) (h1 : x.1.length < K) (h2 : x.2.length < K) (h3 : ∀ f, f ∈ x.2 → f.length < K) (hb : D3 x ≤ 1000000000000) : Zf2 K (mkA x 1) 1 = some (1 + D3 x) := by
 have hn := Zw8 x.2
 unfold D3 at hb ⊢
 unfold Zf2 mkA
 rw [Wk2 _ _ h1 (by omega), Option.bind_some, if_neg (by omega), Xk6 _ _ hK8 h2 h3 (by omega), Option.bind_some, if_neg (by omega), Int.add_assoc]
/-! sizes -/
theorem Wd2 {f : MpT} {l : Int} (hb : f.length ≤ 9223372036854775807) (hl : 0 ≤ l ∧ l ≤ 1048576) : Zt4 K f l = some (if l < f.length then -1 else l - f.length) := by
 unfold Zt4 Zw6
 rw [IntWalk.i64_in _ (by omega)]
 by_cases h : l < f.length
 rw [if_pos (by omega), if_pos h]; rfl
 rw [if_neg (by omega), if_neg h, Option.bind_some, if_neg (by omega)]
theorem Wr3 {fs : List MpT} (hb : ∀ f, f ∈ fs → f.length ≤ 9223372036854775807) : ∀ (k j : Nat) (l : Int), fs.length < j + k → j ≤ fs.length → 0 ≤ l ∧ l ≤ 1048576 →
 ∃ e r, Zb4 K fs k l j = some e ∧ Ex.elim (fun r => some r) (fun s => some s) e = some r ∧ (r < 0 ∨ (0 ≤ r ∧ M5 (fs.drop j) ≤ 9 * (l - r) ∧ ∀ f, f ∈ fs.drop j → (f.length : Int) ≤ l)) := by
 intro k
 induction k with
 | zero => intro j l h1 h2; omega
 | succ k ih =>
  intro j l h1 h2 hl
  rw [Zb4]
  by_cases hj : j < fs.length
  rw [if_pos (by omega), Wd2 (hb _ (U0 hj)) hl, Option.bind_some]
  by_cases h : l < (rd fs (j : Int)).length
  rw [if_pos h, if_pos (by decide)]; exact ⟨_, _, rfl, rfl, .inl (by decide)⟩
  rw [if_neg h, if_neg (by omega)]
  obtain ⟨e, r, h3, h4, h5⟩ := ih (j + 1) (l - (rd fs (j : Int)).length) (by omega) (by omega) (by omega)
  refine ⟨e, r, h3, h4, ?_⟩
  rcases h5 with h5 | ⟨h5, h6, h7⟩
  exact .inl h5
  rw [show fs.drop j = rd fs (j : Int) :: fs.drop (j + 1) by rw [I4 hj]; exact List.drop_eq_getElem_cons hj]
  refine .inr ⟨h5, by rw [M5]; omega, fun f hf => ?_⟩
  rcases List.mem_cons.1 hf with rfl | hf
  omega
  have := h7 f hf; omega
  rw [if_neg (by omega), List.drop_eq_nil_of_le (by omega)]
  exact ⟨_, _, rfl, rfl, .inr ⟨hl.1, by rw [M5]; omega, by simp⟩⟩
theorem Wx9 {a : J4} (hK : 1073741824 ≤ K) (h1 : a.1.length ≤ 9223372036854775807) (h2 : a.2.length ≤ 9223372036854775807) (h3 : ∀ f, f ∈ a.2 → f.length ≤ 9223372036854775807) :
 ∃ r, Zm5 K a 1048576 = some r ∧ (r < 0 ∨ (a.1.length ≤ 1048576 ∧ a.2.length ≤ 1048576 ∧ (∀ f, f ∈ a.2 → f.length ≤ 1048576) ∧ M5 a.2 ≤ 9437184)) := by
 unfold Zm5 Zu5 Zw7
 rw [IntWalk.i64_in (1048576 - (a.1.length : Int)) (by omega)]
 by_cases hd : a.1.length ≤ 1048576
 case neg => rw [if_pos (by omega)]; exact ⟨-1, rfl, .inl (by decide)⟩
 rw [if_neg (by omega), Option.bind_some, if_neg (by omega), IntWalk.i64_in _ (by omega)]
 by_cases hi : (a.1.length : Int) + a.2.length ≤ 1048576
 case neg => rw [if_pos (by omega)]; exact ⟨-1, rfl, .inl (by decide)⟩
 rw [if_neg (by omega)]
 obtain ⟨e, r, h4, h5, h6⟩ := Wr3 (K := K) h3 K 0 (1048576 - (a.1.length : Int) - (a.2.length : Int)) (by omega) (by omega) (by omega)
 replace h4 : Zb4 K a.2 K (1048576 - (a.1.length : Int) - (a.2.length : Int)) 0 = some e := h4
 rw [h4, Option.bind_some, h5, Option.bind_some]
 rcases h6 with h6 | ⟨h6, h7, h8⟩
 rw [if_pos h6]; exact ⟨-1, rfl, .inl (by decide)⟩
 rw [if_neg (by omega)]
 rw [List.drop_zero] at h7 h8
 exact ⟨r, rfl, .inr ⟨hd, by omega, fun f hf => by have := h8 f hf; omega, by omega⟩⟩
end
theorem Xh0 : ∀ {fs : List MpT}, (∀ f, f ∈ fs → f.length ≤ 400) → M5 fs ≤ 3600 * fs.length
 | [], _ => by simp [M5]
 | f :: fs, h => by
  have h1 := h f (List.mem_cons_self ..)
  have h2 := Xh0 (fs := fs) (fun g hg => h g (List.mem_cons_of_mem _ hg))
  rw [M5, List.length_cons]; omega
def cpR (a : J4) : CtT := if okA a = true then (if (Yf1 a).2.2 = true then ctR a (Yf1 a).1.toNat (Yf1 a).2.1.toNat else (([], []), [], 4)) else (([], []), [], 1)
section
variable {K : Nat} {a : J4}
theorem Xo1 (hi : Inp K a) (hA : okA a = true) : Vd a := by
 have hB : okB a = true := by unfold okA at hA; rw [Bool.and_eq_true] at hA; exact hA.1
 have hv := Xb7 hi hB
 exact ⟨Xx0 hB, hv.len, Ww0 hi hB, fun f hf => (hv.all f hf).len⟩
theorem Wy7 (hK : 1099511627776 ≤ K) (hi : Inp K a) : Zh9 K a = some (cpR a) := by
 unfold Zh9 cpR
 rw [show (a.1, a.2) = a from rfl, Wy2 hi, Option.bind_some]
 by_cases hA : okA a = true
 case neg => rw [if_neg hA, if_neg hA]
 have hV := Xo1 hi hA
 rw [if_pos hA, if_pos hA, Wt5 hK hV, Option.bind_some]
 by_cases hp : (Yf1 a).2.2 = true
 obtain ⟨i, k, e, h⟩ := Yr8 hV hp
 rw [if_pos hp, if_pos hp]
 simp only [e, Int.toNat_natCast]
 rw [Ww1 hK hV h]; rfl
 rw [if_neg hp, if_neg hp]
theorem Wn1 (hK : 1099511627776 ≤ K) (hi : Inp K a) : Ze1 K a = some (cpR a) := by
 unfold Ze1 cpR
 rw [show (a.1, a.2) = a from rfl, Wu1 hi, Option.bind_some]
 by_cases hA : okA a = true
 case neg => rw [if_neg hA, if_neg hA, if_neg (by decide)]
 have hV := Xo1 hi hA
 rw [if_pos hA, if_pos rfl, if_pos hA, Wq4 hK hV, Option.bind_some]
 by_cases hp : (Yf1 a).2.2 = true
 obtain ⟨i, k, e, h⟩ := Yr8 hV hp
 rw [if_pos hp, if_pos hp]
 simp only [e, Int.toNat_natCast]
 rw [Wu6 hK hV h]; rfl
 rw [if_neg hp, if_neg hp]
theorem Wf6 (hi : Inp K a) : (cpR a).1.1.length ≤ 8 ∧ (cpR a).1.2.length ≤ 8 ∧ (∀ f, f ∈ (cpR a).1.2 → f.length ≤ 400) ∧ (cpR a).2.1.length ≤ 8 ∧ ∀ f, f ∈ (cpR a).2.1 → f.length ≤ 400 := by
 have hno : ∀ c : Int, ((([], []), [], c) : CtT).1.1.length ≤ 8 ∧ ((([], []), [], c) : CtT).1.2.length ≤ 8 ∧ (∀ f, f ∈ ((([], []), [], c) : CtT).1.2 → f.length ≤ 400) ∧ ((([], []), [], c) : CtT).2.1.length ≤ 8 ∧ ∀ f, f ∈ ((([], []), [], c) : CtT).2.1 → f.length ≤ 400 :=
  fun c => ⟨by simp, by simp, (fun f hf => by cases hf), by simp, fun f hf => by cases hf⟩
 unfold cpR
 split
 rename_i hA
 have hV := Xo1 hi hA
 have hl := S2 hV.dg
 split
 rename_i hp
 obtain ⟨i, k, e, h⟩ := Yr8 hV hp
 rw [e]
 simp only [Int.toNat_natCast]
 unfold ctR
 split
 rename_i hB
 obtain ⟨hv, hlt⟩ := Va0 hV h hB
 have hvl := hv.len
 unfold ctB at hB
 rw [Bool.and_eq_true] at hB
 refine ⟨by show (ctD a i k).length ≤ 8; omega, by show (ctO a i k).length ≤ 8; have : (ctO a i k).length = (ctD a i k).length := hvl; omega, hv.short, by show (ctM a i k).length ≤ 8; rw [Yg5]; exact hl, fun f hf => of_decide_eq_true (List.all_eq_true.1 hB.1 f hf)⟩
 exact hno 3
 exact hno 4
 exact hno 1
end
theorem Wh7 {K : Nat} {a : J4} (hK : 1099511627776 ≤ K) (h1 : a.1.length ≤ 9223372036854775807) (h2 : a.2.length ≤ 9223372036854775807) (h3 : ∀ f, f ∈ a.2 → f.length ≤ 9223372036854775807) (hb : ∀ f, f ∈ a.2 → Ya1 f) :
 Ze5 K a = some true := by
 obtain ⟨r, hr, hs⟩ := Wx9 (K := K) (by omega) h1 h2 h3
 unfold Ze5
 rw [show (a.1, a.2) = a from rfl, hr, Option.bind_some]
 by_cases h0 : r < 0
 rw [if_pos h0]
 rw [if_neg h0]
 obtain ⟨s1, s2, s3, s4⟩ := hs.resolve_left h0
 have hi : Inp K a := ⟨by omega, s1, s2, s3, hb⟩
 obtain ⟨d1, d2, d3, d5, d6⟩ := Wf6 hi
 have d4 := Xh0 d3
 have d7 := Xh0 d6
 have hcn := Zw8 a.2
 have hcr := Zw8 (cpR a).1.2
 have hcr2 := Zw8 (cpR a).2.1
 have hca : D3 a ≤ 1000000000000 := by unfold D3; omega
 have hca0 : 0 ≤ D3 a := by unfold D3; omega
 have hcd0 : 0 ≤ D3 (cpR a).1 := by unfold D3; omega
 have hcd : D3 (cpR a).1 ≤ 1000000 := by unfold D3; omega
 have hto := Wz1 hi
 have heq := Xe2 (K := K) (x := (cpR a).1) (by omega) (by omega) (by omega) (fun f hf => by have := d3 f hf; omega)
 have heqi := Yt3 (K := K) (fs := (cpR a).2.1) (by omega) (by omega) (fun f hf => by have := d6 f hf; omega)
 have heqa := Xe2 (K := K) (x := a) (by omega) (by omega) (by omega) (fun f hf => by have := s3 f hf; omega)
 have hheld := Wq3 (K := K) (x := (cpR a).1) (by omega) (by omega) (by omega) (fun f hf => by have := d3 f hf; omega) (by omega)
 have hheldi := Xk6 (K := K) (cpR a).2.1 (1 + D3 (cpR a).1) (by omega) (by omega) (fun f hf => by have := d6 f hf; omega) (by omega)
 have eP : ((cpR a).1.1, (cpR a).1.2) = (cpR a).1 := rfl
 have eM : ((mkA (cpR a).1 1).1, (mkA (cpR a).1 1).2) = mkA (cpR a).1 1 := rfl
 have eA : (a.1, a.2) = a := rfl
 rw [hto, Option.bind_some, eA, Wy7 hK hi, Option.bind_some, Option.bind_some, eA, Wn1 hK hi, Option.bind_some, eP, heq, Option.bind_some, if_pos rfl, heqi, Option.bind_some, if_pos rfl, decide_eq_true rfl]
 unfold L8
 rw [if_neg (by decide), eA, hto, Option.bind_some, eA, heqa, Option.bind_some, if_pos rfl, if_pos (by omega), if_neg (by omega), eP, heq, Option.bind_some, if_pos rfl, heqi, Option.bind_some, if_pos rfl, decide_eq_true rfl]
 unfold P5
 rw [if_neg (by decide), if_pos (by omega), if_pos (by omega), eM, hheld, Option.bind_some, if_neg (by omega), hheldi, Option.bind_some, if_neg (by omega), if_pos rfl, eA, hto, Option.bind_some, eA, Wn1 hK hi, Option.bind_some, eP, heq, Option.bind_some, if_pos rfl,
  heqi, Option.bind_some, if_pos rfl, decide_eq_true rfl]
 unfold L7
 rw [if_neg (by decide), eM, hheld, Option.bind_some, if_neg (by omega), hheldi, Option.bind_some, if_neg (by omega), if_pos rfl]
end Go.Proofs.YtfodlhkoafhplaaGreat
