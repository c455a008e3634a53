/- Walks of the functions that mark. -/
import Derived.Test.YtfodlhkoafhplaaGreatUS3
import Derived.Test.YtfodlhkoafhplaaGreatUTy
import Derived.Test.YtfodlhkoafhplaaGreatUF11
namespace Go.Proofs.YtfodlhkoafhplaaGreat
open Go
set_option linter.unusedSimpArgs false
set_option linter.unusedVariables false
/-- a window whose first n cells are marked -/
def Yf8 (mv : Nat → Value) (s : Nat) (v : Value) (m : Nat) (C : OL) (n : Nat) : Prop :=
 (∃ a c, v = .slice a m c ∧ m = 0 ∧ C = []) ∨ ∃ b o c cs E, v = .slice (some ⟨b, o, none⟩) m c ∧ (0 < m → o + m * s ≤ cs.size) ∧ C = [(b, .cells cs E)] ∧ Zs2 mv o cs n
theorem Ya3.start {s : Nat} {v : Value} {m : Nat} {C : OL} (h : Ya3 s v m C) (mv : Nat → Value) : Yf8 mv s v m C 0 := by
 rcases h with h | ⟨b, o, c, cs, E, h1, h2, h3⟩
 exact .inl h
 exact .inr ⟨b, o, c, cs, E, h1, h2, h3, Zs2.nil⟩
theorem Yf8.val {mv : Nat → Value} {s : Nat} {v : Value} {m : Nat} {C : OL} {n : Nat} (h : Yf8 mv s v m C n) : ∃ a c, v = .slice a m c := by
 rcases h with ⟨a, c, h, _⟩ | ⟨b, o, c, cs, E, h, _⟩
 exact ⟨_, c, h⟩
 exact ⟨_, c, h⟩
theorem Xr4 (x : Int) : ∀ u, u ∈ (vI x).cells.toList → u.oneCell' = true := fun u hu => by simp [vI, Value.cells] at hu; subst hu; rfl
set_option maxRecDepth 100000 in
set_option maxHeartbeats 1000000 in
theorem Yn0 {H : FH} {w : World} {L C : OL} {v : Value} {m : Nat} {k : Int} (hv : Ya3 1 v m C) (hb : m ≤ 1000000000000) (hk : 0 ≤ k ∧ k ≤ 1000000000000000) (hS : St H w (C ++ L)) :
 Calls Tryz.prog 25 #[v, vI k] w (fun e w' => ∃ H', e = .returned (vI (k + m)) ∧ Sub H H' ∧ St H' w' L ∧ Y2 (Y8 .i64) H' v (mkI k m)) := by
 refine X2 Tryz.func25 rfl Tryz.ntmps25 rfl ?_
 refine Z3 (Z1 ?_)
 refine Z5 (vI 0) rfl rfl ?_
 refine Z0 (Z3 (Z3 (Z1 ?_)))
 refine Z5 (vI 0) rfl rfl ?_
 refine Z0 (Y7 ?_)
 refine W7 (id := 0) (fun kk f w => ∃ (n : Nat) (C' : OL), n ≤ m ∧ m < n + kk ∧ St H w (C' ++ L) ∧ Yf8 (mvI k) 1 v m C' n ∧ ev f (.tmp 0) = v ∧ ev f (.tmp 1) = vI (k + n) ∧ ev f (.tmp 5) = vI n) (fun f w => ∃ C' : OL, St H w (C' ++ L) ∧ Yf8 (mvI k) 1 v m C' m ∧ ev f (.tmp 1) = vI (k + m)) rfl ?_ ?_ (m + 1) ?_ ?_
 rintro f w ⟨n, C', h1, h2, _⟩; omega
 rintro kk f w ih hx ⟨n, C', h1, h2, hS, hM, t0, t1, t5⟩
 obtain ⟨a, c, hvv⟩ := hM.val
 refine Z3 (Z3 (Z1 ?_))
 refine Z4 (vI n) t5 rfl ?_
 refine Z4 v t0 rfl ?_
 refine Yl1 S9 (show v = .slice a m c from hvv) rfl ?_
 refine U2 (k := .i64) (a := n) (b := m) rfl rfl rfl ?_
 refine Z0 ?_
 by_cases hn : (n : Int) < (m : Int)
 refine Y0 (Eq.trans rfl (congrArg Value.bool (decide_eq_true hn))) ?_
 refine Y6 (Z3 (Y7 (Z3 (Z1 ?_))))
 rcases hM with ⟨_, _, _, h0, _⟩ | ⟨b, o, c, cs, E, hv1, hsz, rfl, hmk⟩
 omega
 refine Z4 v t0 rfl ?_
 refine Z4 (vI n) t5 rfl ?_
 refine Z4 (vI (k + n)) t1 rfl ?_
 refine Zv3 S9 (show v = _ from hv1) rfl (by omega) hn rfl ?_
 have hszm := hsz (by omega)
 refine E0 (v := vI (k + n)) (cs' := cs.setIfInBounds (o + n) (mvI k n)) ty2 rfl rfl hS rfl (Xr4 _) (by omega) (by show cs.setIfInBounds (o + (n : Int).toNat * 1) _ = _; rw [show o + (n : Int).toNat * 1 = o + n by omega]; rfl) ?_
 intro w2 hS
 refine Z0 (Z1 ?_)
 refine Z4 (vI (k + n)) (by exact t1) rfl ?_
 refine W8 (k + n + 1) rfl rfl (IntWalk.i64_in _ (by omega)) rfl ?_
 refine Z5 (vI (k + n + 1)) rfl rfl ?_
 refine Z0 (X3 (Z1 ?_))
 refine Z4 (vI n) (by exact t5) rfl ?_
 refine W8 ((n : Int) + 1) rfl rfl (IntWalk.i64_in _ (by omega)) rfl ?_
 refine Z5 (vI ((n : Int) + 1)) rfl rfl ?_
 refine Z0 ?_
 refine ih _ _ ⟨n + 1, _, by omega, by omega, hS, .inr ⟨b, o, c, _, E, hv1, fun h => by rw [Array.size_setIfInBounds]; exact hsz h, rfl, hmk.step (by omega)⟩, by exact t0, ?_, rfl⟩
 show vI (k + n + 1) = vI (k + ((n + 1 : Nat) : Int))
 exact congrArg vI (by omega)
 refine Z9 (Eq.trans rfl (congrArg Value.bool (decide_eq_false hn))) ?_
 refine W4 rfl ?_
 have e : n = m := by omega
 subst e
 exact hx _ _ ⟨C', hS, hM, by exact t1⟩
 exact ⟨0, C, by omega, by omega, hS, hv.start _, rfl, by show vI k = vI (k + 0); rw [Int.add_zero], rfl⟩
 rintro f w ⟨C', hS, hM, t1⟩
 refine Z3 (Z1 ?_)
 refine Z4 (vI (k + m)) t1 rfl ?_
 refine Z5 (vI (k + m)) rfl rfl ?_
 refine Z0 ?_
 refine Y9 (vs := [vI (k + m)]) Tryz.func25 ⟨rfl, trivial⟩ ?_
 rcases hM with ⟨a, c, rfl, rfl, rfl⟩ | ⟨b, o, c, cs, E, rfl, _, rfl, hmk⟩
 exact ⟨H, rfl, Sub.refl _, hS, Y2.noInts rfl⟩
 obtain ⟨H', h1, h2, h3⟩ := Xh4 hS hmk (by omega)
 exact ⟨H', rfl, h1, h2, h3⟩
theorem Wd5 (x : Int) : ∀ u, u ∈ (Value.int .u8 x).cells.toList → u.oneCell' = true := fun u hu => by simp [Value.cells] at hu; subst hu; rfl
set_option maxRecDepth 100000 in
set_option maxHeartbeats 1000000 in
theorem Xc5 {H : FH} {w : World} {L C : OL} {v : Value} {m : Nat} {k : Int} (hv : Ya3 9 v m C) (hb : m ≤ 1000000000000) (hk : 0 ≤ k ∧ k ≤ 1000000000000000) (hS : St H w (C ++ L)) :
 Calls Tryz.prog 111 #[v, vI k] w (fun e w' => ∃ H', e = .returned (vI (k + 9 * m)) ∧ Sub H H' ∧ St H' w' L ∧ Y2 Zy9 H' v (mkT k m)) := by
 refine X2 Tryz.func111 rfl Tryz.ntmps111 rfl ?_
 refine Z3 (Z1 ?_)
 refine Z5 (vI 0) rfl rfl ?_
 refine Z0 (Z3 (Z3 (Z1 ?_)))
 refine Z5 (vI 0) rfl rfl ?_
 refine Z0 (Y7 ?_)
 refine W7 (id := 0) (fun kk f w => ∃ (i : Nat) (C' : OL), i ≤ m ∧ m < i + kk ∧ St H w (C' ++ L) ∧ Yf8 (mvT k) 9 v m C' (i * 9) ∧ ev f (.tmp 0) = v ∧ ev f (.tmp 1) = vI (k + 9 * i) ∧ ev f (.tmp 5) = vI i) (fun f w => ∃ C' : OL, St H w (C' ++ L) ∧ Yf8 (mvT k) 9 v m C' (m * 9) ∧ ev f (.tmp 1) = vI (k + 9 * m)) rfl ?_ ?_ (m + 1) ?_ ?_
 rintro f w ⟨n, C', h1, h2, _⟩; omega
 rintro kk f w ih hx ⟨i, C', h1, h2, hS, hM, t0, t1, t5⟩
 obtain ⟨a, c, hvv⟩ := hM.val
 refine Z3 (Z3 (Z1 ?_))
 refine Z4 (vI i) t5 rfl ?_
 refine Z4 v t0 rfl ?_
 refine Yl1 R2 (show v = .slice a m c from hvv) rfl ?_
 refine U2 (k := .i64) (a := i) (b := m) rfl rfl rfl ?_
 refine Z0 ?_
 by_cases hn : (i : Int) < (m : Int)
 refine Y0 (Eq.trans rfl (congrArg Value.bool (decide_eq_true hn))) ?_
 refine Y6 (Z3 (Y7 (Z3 (Z3 (Z1 ?_)))))
 refine Z5 (vI 0) rfl rfl ?_
 refine Z0 (Y7 ?_)
 refine W7 (id := 2) (fun kk f w => ∃ (j : Nat) (C' : OL), j ≤ 8 ∧ 8 < j + kk ∧ St H w (C' ++ L) ∧ Yf8 (mvT k) 9 v m C' (i * 9 + j) ∧ ev f (.tmp 0) = v ∧ ev f (.tmp 1) = vI (k + 9 * i + j) ∧ ev f (.tmp 5) = vI i ∧ ev f (.tmp 6) = vI j) (fun f w => ∃ C' : OL, St H w (C' ++ L) ∧ Yf8 (mvT k) 9 v m C' (i * 9 + 8) ∧ ev f (.tmp 0) = v ∧ ev f (.tmp 1) = vI (k + 9 * i + 8) ∧ ev f (.tmp 5) = vI i) rfl ?_ ?_ 9 ?_ ?_
 rintro f w ⟨n, C', h1, h2, _⟩; omega
 rintro kk f w ih2 hx2 ⟨j, C', h3, h4, hS, hM, t0, t1, t5, t6⟩
 refine Z3 (Z3 (Z1 ?_))
 refine Z4 (vI j) t6 rfl ?_
 refine U2 (k := .i64) (a := j) (b := 8) rfl rfl rfl ?_
 refine Z0 ?_
 by_cases hj : (j : Int) < 8
 refine Y0 (Eq.trans rfl (congrArg Value.bool (decide_eq_true hj))) ?_
 refine Y6 (Z3 (Y7 (Z3 (Z1 ?_))))
 rcases hM with ⟨_, _, _, h0, _⟩ | ⟨b, o, c, cs, E, hv1, hsz, rfl, hmk⟩
 omega
 have hszm := hsz (by omega)
 have hmi : i * 9 + 9 ≤ m * 9 := by omega
 refine Z4 v t0 rfl ?_
 refine Z4 (vI i) t5 rfl ?_
 refine Z4 (vI j) t6 rfl ?_
 refine Z4 (vI (k + 9 * i + j)) t1 rfl ?_
 refine Yc7 (s := .i64) (IntKind.u8.wrap (k + 9 * i + j)) Xm7 rfl rfl rfl ?_
 refine Zv3 R2 (show v = _ from hv1) rfl (by omega) hn rfl ?_
 refine Y3 N2 rfl rfl ?_
 refine V3 Za9 rfl rfl (by omega) hj rfl ?_
 have hval : mvT k (i * 9 + j) = .int .u8 (IntKind.u8.wrap (k + 9 * i + j)) := by
  unfold mvT
  rw [if_neg (by omega)]
  congr 2; omega
 have hoff : o + (i : Int).toNat * 9 + 0 + (j : Int).toNat * 1 = o + (i * 9 + j) := by omega
 refine E0 (v := .int .u8 (IntKind.u8.wrap (k + 9 * i + j))) (cs' := cs.setIfInBounds (o + (i * 9 + j)) (mvT k (i * 9 + j))) ty5 rfl rfl hS rfl (Wd5 _) (by omega) (by
  show cs.setIfInBounds (o + (i : Int).toNat * 9 + 0 + (j : Int).toNat * 1) _ = _
  rw [hoff, hval]) ?_
 intro w2 hS
 refine Z0 (Z1 ?_)
 refine Z4 (vI (k + 9 * i + j)) (by exact t1) rfl ?_
 refine W8 (k + 9 * i + j + 1) rfl rfl (IntWalk.i64_in _ (by omega)) rfl ?_
 refine Z5 (vI (k + 9 * i + j + 1)) rfl rfl ?_
 refine Z0 (X3 (Z1 ?_))
 refine Z4 (vI j) (by exact t6) rfl ?_
 refine W8 ((j : Int) + 1) rfl rfl (IntWalk.i64_in _ (by omega)) rfl ?_
 refine Z5 (vI ((j : Int) + 1)) rfl rfl ?_
 refine Z0 ?_
 refine ih2 _ _ ⟨j + 1, _, by omega, by omega, hS, .inr ⟨b, o, c, _, E, hv1, fun h => by rw [Array.size_setIfInBounds]; exact hsz h, rfl, hmk.step (by omega)⟩, by exact t0, ?_, by exact t5, rfl⟩
 show vI (k + 9 * i + j + 1) = vI (k + 9 * i + ((j + 1 : Nat) : Int))
 exact congrArg vI (by omega)
 refine Z9 (Eq.trans rfl (congrArg Value.bool (decide_eq_false hj))) ?_
 refine W4 rfl ?_
 have e : j = 8 := by omega
 subst e
 exact hx2 _ _ ⟨C', hS, hM, by exact t0, by exact t1, by exact t5⟩
 exact ⟨0, C', by omega, by omega, hS, hM, by exact t0, by show ev f (.tmp 1) = vI (k + 9 * i + 0); rw [Int.add_zero]; exact t1, by exact t5, rfl⟩
 rintro f w ⟨C', hS, hM, t0, t1, t5⟩
 refine Z3 (Z1 ?_)
 rcases hM with ⟨_, _, _, h0, _⟩ | ⟨b, o, c, cs, E, hv1, hsz, rfl, hmk⟩
 omega
 have hszm := hsz (by omega)
 have hmi : i * 9 + 9 ≤ m * 9 := by omega
 refine Z4 v t0 rfl ?_
 refine Z4 (vI i) t5 rfl ?_
 refine Z4 (vI (k + 9 * i + 8)) t1 rfl ?_
 refine Zv3 R2 (show v = _ from hv1) rfl (by omega) hn rfl ?_
 refine Y3 Zb5 rfl rfl ?_
 have hval : mvT k (i * 9 + 8) = vI (k + 9 * i + 8) := by
  unfold mvT
  rw [if_pos (by omega)]
  show vI _ = vI _
  exact congrArg vI (by omega)
 have hoff : o + (i : Int).toNat * 9 + 8 = o + (i * 9 + 8) := by omega
 refine E0 (v := vI (k + 9 * i + 8)) (cs' := cs.setIfInBounds (o + (i * 9 + 8)) (mvT k (i * 9 + 8))) ty2 rfl rfl hS rfl (Xr4 _) (by omega) (by
  show cs.setIfInBounds (o + (i : Int).toNat * 9 + 8) _ = _
  rw [hoff, hval]) ?_
 intro w2 hS
 refine Z0 (Z1 ?_)
 refine Z4 (vI (k + 9 * i + 8)) (by exact t1) rfl ?_
 refine W8 (k + 9 * i + 8 + 1) rfl rfl (IntWalk.i64_in _ (by omega)) rfl ?_
 refine Z5 (vI (k + 9 * i + 8 + 1)) rfl rfl ?_
 refine Z0 (X3 (Z1 ?_))
 refine Z4 (vI i) (by exact t5) rfl ?_
 refine W8 ((i : Int) + 1) rfl rfl (IntWalk.i64_in _ (by omega)) rfl ?_
 refine Z5 (vI ((i : Int) + 1)) rfl rfl ?_
 refine Z0 ?_
 have hst := hmk.step (mv := mvT k) (n := i * 9 + 8) (by omega)
 refine ih _ _ ⟨i + 1, _, by omega, by omega, hS, .inr ⟨b, o, c, _, E, hv1, fun h => by rw [Array.size_setIfInBounds]; exact hsz h, rfl, by rw [show (i + 1) * 9 = i * 9 + 8 + 1 by omega]; exact hst⟩, by exact t0, ?_, rfl⟩
 show vI (k + 9 * i + 8 + 1) = vI (k + 9 * ((i + 1 : Nat) : Int))
 exact congrArg vI (by omega)
 refine Z9 (Eq.trans rfl (congrArg Value.bool (decide_eq_false hn))) ?_
 refine W4 rfl ?_
 have e : i = m := by omega
 subst e
 exact hx _ _ ⟨C', hS, hM, by exact t1⟩
 exact ⟨0, C, by omega, by omega, hS, by rw [Nat.zero_mul]; exact hv.start _, rfl, by show vI k = vI (k + 9 * 0); rw [Int.mul_zero, Int.add_zero], rfl⟩
 rintro f w ⟨C', hS, hM, t1⟩
 refine Z3 (Z1 ?_)
 refine Z4 (vI (k + 9 * m)) t1 rfl ?_
 refine Z5 (vI (k + 9 * m)) rfl rfl ?_
 refine Z0 ?_
 refine Y9 (vs := [vI (k + 9 * m)]) Tryz.func111 ⟨rfl, trivial⟩ ?_
 rcases hM with ⟨a, c, rfl, rfl, rfl⟩ | ⟨b, o, c, cs, E, rfl, _, rfl, hmk⟩
 exact ⟨H, rfl, Sub.refl _, hS, Y2.noTerms rfl⟩
 obtain ⟨H', h1, h2, h3⟩ := Xf1 hS hmk (by omega)
 exact ⟨H', rfl, h1, h2, h3⟩
/-- cells as they are -/
def Yr3 : Ty Value := ⟨1, fun _ cs v => cs = [v] ∧ v.oneCell' = true, fun h => by rw [h.1]; rfl, fun _ h => h, fun h u hu => by rw [h.1] at hu; cases List.mem_singleton.1 hu; exact h.2⟩
instance : Inhabited Value := ⟨undef⟩
def I8 : List Zj1 → Int
 | [] => 0
 | f :: fs => 9 * f.length + I8 fs
def G3 (x : F4) : Int := x.1.length + I8 x.2
def Zu0 (k : Int) : List Zj1 → List Zj1
 | [] => []
 | f :: fs => mkT k f.length :: Zu0 (k + 9 * f.length) fs
def mkA (x : F4) (k : Int) : F4 := (mkI k x.1.length, Zu0 (k + x.1.length) x.2)
theorem Zr9 : ∀ xs, 0 ≤ I8 xs
 | [] => Int.le_refl _
 | f :: fs => by have := Zr9 fs; rw [I8]; omega
theorem Yj8 : ∀ (xs : List Zj1) (i : Nat), I8 (xs.take i) ≤ I8 xs
 | xs, 0 => by simpa [I8] using Zr9 xs
 | [], i + 1 => by simp
 | f :: fs, i + 1 => by have := Yj8 fs i; rw [List.take_succ_cons, I8, I8]; omega
theorem Zx7 : ∀ (xs : List Zj1) (i : Nat) (x : Zj1), xs[i]? = some x → I8 (xs.take (i + 1)) = I8 (xs.take i) + 9 * x.length
 | [], i, x, h => by simp at h
 | f :: fs, 0, x, h => by simp at h; subst h; simp [I8]
 | f :: fs, i + 1, x, h => by
  rw [List.take_succ_cons, List.take_succ_cons, I8, I8, Zx7 fs i x (by simpa using h)]; omega
theorem Yp4 : ∀ (xs : List Zj1) (k : Int), (Zu0 k xs).length = xs.length
 | [], _ => rfl
 | f :: fs, k => by rw [Zu0, List.length_cons, List.length_cons, Yp4 fs]
theorem Yo2 : ∀ (xs : List Zj1) (k : Int) (i : Nat) (x : Zj1), xs[i]? = some x → (Zu0 k xs)[i]? = some (mkT (k + I8 (xs.take i)) x.length)
 | [], _, i, x, h => by simp at h
 | f :: fs, k, 0, x, h => by simp at h; subst h; simp [Zu0, I8]
 | f :: fs, k, i + 1, x, h => by
  rw [Zu0, List.getElem?_cons_succ, Yo2 fs _ i x (by simpa using h), List.take_succ_cons, I8, Int.add_assoc]
theorem Yb9 {α : Type} {P : Nat → α → Prop} : ∀ (n : Nat), (∀ j, j < n → ∃ a, P j a) → ∃ l : List α, l.length = n ∧ ∀ j a, l[j]? = some a → P j a
 | 0, _ => ⟨[], rfl, fun j a h => by simp at h⟩
 | n + 1, h => by
  obtain ⟨l, hl, hp⟩ := Yb9 n (fun j hj => h j (by omega))
  obtain ⟨a, ha⟩ := h n (by omega)
  refine ⟨l ++ [a], by simp [hl], fun j b hb => ?_⟩
  by_cases hj : j < n
  rw [List.getElem?_append_left (by omega)] at hb; exact hp j b hb
  have : j = n := by
   have := (List.getElem?_eq_some_iff.1 hb).1
   simp [hl] at this; omega
  subst this
  rw [List.getElem?_append_right (by omega), hl, Nat.sub_self] at hb
  cases hb; exact ha
/-- rows of one's own: their values, and their blocks -/
def Xw6 (xs : List Zj1) (rs : List (Value × OL)) : Prop := rs.length = xs.length ∧ ∀ (j : Nat) (r : Value × OL) (x : Zj1), rs[j]? = some r → xs[j]? = some x → Ya3 9 r.1 x.length r.2
set_option maxRecDepth 100000 in
set_option maxHeartbeats 1000000 in
theorem Xa8 {H : FH} {w : World} {L : OL} {v : Value} {xs : List Zj1} {rs : List (Value × OL)} {k : Int} (hv : Y2 Yr3 H v (rs.map Prod.fst)) (hr : Xw6 xs rs) (hb : I8 xs ≤ 1000000000000) (hk : 0 ≤ k ∧ k ≤ 100000000000000)
 (hS : St H w ((rs.map Prod.snd).flatten ++ L)) :
 Calls Tryz.prog 38 #[v, vI k] w (fun e w' => ∃ H', e = .returned (vI (k + I8 xs)) ∧ Sub H H' ∧ St H' w' L ∧ Y2 Ya0 H' v (Zu0 k xs)) := by
 have hlen := hv.bound
 rw [List.length_map, hr.1] at hlen
 refine X2 Tryz.func38 rfl Tryz.ntmps38 rfl ?_
 refine Z3 (Z1 ?_)
 refine Z5 (vI 0) rfl rfl ?_
 refine Z0 (Z3 (Z3 (Z1 ?_)))
 refine Z5 (vI 0) rfl rfl ?_
 refine Z0 (Y7 ?_)
 refine W7 (id := 0) (fun kk f w => ∃ (i : Nat) (H' : FH), i ≤ xs.length ∧ xs.length < i + kk ∧ Sub H H' ∧ St H' w (((rs.drop i).map Prod.snd).flatten ++ L) ∧ (∀ j r y, j < i → rs[j]? = some r → (Zu0 k xs)[j]? = some y → Y2 Zy9 H' r.1 y) ∧ ev f (.tmp 0) = v ∧ ev f (.tmp 1) = vI (k + I8 (xs.take i)) ∧ ev f (.tmp 5) = vI i)
  (fun f w => ∃ H' : FH, Sub H H' ∧ St H' w L ∧ (∀ (j : Nat) r y, rs[j]? = some r → (Zu0 k xs)[j]? = some y → Y2 Zy9 H' r.1 y) ∧ ev f (.tmp 1) = vI (k + I8 xs)) rfl ?_ ?_ (xs.length + 1) ?_ ?_
 rintro f w ⟨n, C', h1, h2, _⟩; omega
 rintro kk f w ih hx ⟨i, H1, h1, h2, Z2, hS, hD, t0, t1, t5⟩
 have hv1 := hv.mono Z2
 refine Z3 (Z3 (Z1 ?_))
 refine Z4 (vI i) t5 rfl ?_
 refine Z4 v t0 rfl ?_
 refine W6 D7 rfl hv1 rfl ?_
 refine U2 (k := .i64) (a := i) (b := ((rs.map Prod.fst).length : Int)) rfl rfl rfl ?_
 refine Z0 ?_
 by_cases hn : (i : Int) < ((rs.map Prod.fst).length : Int)
 refine Y0 (Eq.trans rfl (congrArg Value.bool (decide_eq_true hn))) ?_
 refine Y6 (Z3 (Y7 (Z1 ?_)))
 have hil : i < rs.length := by rw [List.length_map] at hn; omega
 have hix : i < xs.length := by rw [← hr.1]; exact hil
 have hri : rs[i]? = some rs[i] := List.getElem?_eq_getElem hil
 have hxi : xs[i]? = some xs[i] := List.getElem?_eq_getElem hix
 have hw := hr.2 i _ _ hri hxi
 obtain ⟨b, o, cs, E, _, hp, hbk, ⟨rfl, h1c⟩, hc⟩ := hv1.elem (i := (i : Int)) (by omega) (by omega)
 have hrd : rd (rs.map Prod.fst) (i : Int) = rs[i].1 := by
  unfold rd
  rw [Int.toNat_natCast, List.getD_eq_getElem?_getD, List.getElem?_map, hri]; rfl
 rw [hrd] at hc h1c
 refine Z4 v t0 rfl ?_
 refine Z4 (vI i) t5 rfl ?_
 refine W3 D7 rfl rfl hp rfl (by omega) (by omega) rfl ?_
 refine Y3 U4 rfl rfl ?_
 refine Y4 (rs[i].1) Q1 rfl (hS.froz _ _ hbk) (hc 0 (show 0 < 1 by decide)) rfl ?_
 refine Z4 (vI (k + I8 (xs.take i))) t1 rfl ?_
 have hdrop : rs.drop i = rs[i] :: rs.drop (i + 1) := List.drop_eq_getElem_cons hil
 have h0 := Zr9 (xs.take i)
 have h3 := Yj8 xs (i + 1)
 rw [Zx7 xs i _ hxi] at h3
 rw [hdrop, List.map_cons, List.flatten_cons, List.append_assoc] at hS
 refine X0 Tryz.call111 (T0 rfl rfl) rfl (Xc5 hw (by omega) (by omega) hS) ?_
 rintro e w2 ⟨H2, rfl, sb, hS, hd⟩
 refine ⟨_, rfl, ?_⟩
 refine Z5 (vI (k + I8 (xs.take i) + 9 * (xs[i].length : Int))) rfl rfl ?_
 refine Z0 (X3 (Z1 ?_))
 refine Z4 (vI i) (by exact t5) rfl ?_
 refine W8 ((i : Int) + 1) rfl rfl (IntWalk.i64_in _ (by omega)) rfl ?_
 refine Z5 (vI ((i : Int) + 1)) rfl rfl ?_
 refine Z0 ?_
 refine ih _ _ ⟨i + 1, H2, by omega, by omega, Z2.trans sb, hS, fun j r y hj hrj hy => ?_, by exact t0, ?_, rfl⟩
 by_cases e : j = i
 subst e
 rw [hri] at hrj; cases hrj
 rw [Yo2 xs k j _ hxi] at hy; cases hy
 exact hd
 exact (hD j r y (by omega) hrj hy).mono sb
 show vI _ = vI _
 refine congrArg vI ?_
 rw [Zx7 xs i _ hxi]; omega
 refine Z9 (Eq.trans rfl (congrArg Value.bool (decide_eq_false hn))) ?_
 refine W4 rfl ?_
 rw [List.length_map, hr.1] at hn
 have e : i = xs.length := by omega
 subst e
 refine hx _ _ ⟨H1, Z2, ?_, fun j r y hrj hy => hD j r y ?_ hrj hy, ?_⟩
 rw [← hr.1, List.drop_length] at hS; exact hS
 have := (List.getElem?_eq_some_iff.1 hrj).1; rw [hr.1] at this; exact this
 rw [List.take_length] at t1; exact t1
 exact ⟨0, H, by omega, by omega, Sub.refl _, hS, fun j r y hj => by omega, rfl, by show vI k = vI (k + 0); rw [Int.add_zero], rfl⟩
 rintro f w ⟨H1, Z2, hS, hD, t1⟩
 refine Z3 (Z1 ?_)
 refine Z4 (vI (k + I8 xs)) t1 rfl ?_
 refine Z5 (vI (k + I8 xs)) rfl rfl ?_
 refine Z0 ?_
 refine Y9 (vs := [vI (k + I8 xs)]) Tryz.func38 ⟨rfl, trivial⟩ ?_
 refine ⟨H1, rfl, Z2, hS, ?_⟩
 obtain ⟨a, c, ⟨hvv, _⟩, h⟩ := hv.mono Z2
 have hml := Yp4 xs k
 refine ⟨a, c, ⟨by rw [hvv, hml, List.length_map, hr.1], by rw [hml]; exact hlen⟩, ?_⟩
 rcases h with h2 | ⟨b, o, cs, E, h1, h2, h3⟩
 refine .inl (List.eq_nil_of_length_eq_zero ?_)
 have := congrArg List.length h2
 simp at this
 rw [hml, ← hr.1, this]; rfl
 refine .inr ⟨b, o, cs, E, h1, h2, fun j y hy => ?_⟩
 have hj : j < rs.length := by have := (List.getElem?_eq_some_iff.1 hy).1; rw [hml, ← hr.1] at this; exact this
 have hrj : rs[j]? = some rs[j] := List.getElem?_eq_getElem hj
 obtain ⟨ecs, ⟨rfl, _⟩, hc⟩ := h3 j rs[j].1 (by rw [List.getElem?_map, hrj]; rfl)
 exact ⟨_, ⟨_, rfl, hD j _ y hrj hy⟩, hc⟩
theorem Xc4 (v : Value) : Zc1 [v] = Zg4 v := by simp [Zc1]
theorem Wa8 {Hn : FH} {v : Value} {xs : List Zj1} {bss : List (List Nat)} (hz0 : ∀ b o, Hn b = some o → nz o) (hl : bss.length = xs.length) (hi : Y2 (Zl5 Ya0) Hn v (xs.zip bss)) :
 ∃ rs : List (Value × OL), Xw6 xs rs ∧ Y2 Yr3 Hn v (rs.map Prod.fst) ∧ ((rs.map Prod.snd).flatten).map Prod.fst = bss.flatten ∧ ∀ z, z ∈ (rs.map Prod.snd).flatten → Hn z.1 = some z.2 := by
 obtain ⟨a, c, ⟨hv, hb⟩, h⟩ := hi
 have hz : (xs.zip bss).length = xs.length := by simp [hl]
 rcases h with h2 | ⟨b, o, cs, E, h1, h2, h3⟩
 have hx : xs.length = 0 := by rw [← hz, h2]; rfl
 have hx0 : xs = [] := List.eq_nil_of_length_eq_zero hx
 subst hx0
 have hb0 : bss = [] := List.eq_nil_of_length_eq_zero (by rw [hl]; rfl)
 subst hb0
 exact ⟨[], ⟨rfl, fun j r x h => by simp at h⟩, ⟨a, c, ⟨hv, hb⟩, .inl rfl⟩, rfl, by simp⟩
 obtain ⟨rs, hrl, hP⟩ := Yb9 (P := fun j (r : Value × OL) => ∀ y bs, xs[j]? = some y → bss[j]? = some bs → Ya3 9 r.1 y.length r.2 ∧ r.2.map Prod.fst = bs ∧ (∀ z, z ∈ r.2 → Hn z.1 = some z.2) ∧ r.1.oneCell' = true ∧ cs[o + j * 1 + 0]? = some r.1) xs.length (fun j hj => by
  have hp : (xs.zip bss)[j]? = some (xs[j], bss[j]'(by omega)) := by
   rw [List.getElem?_zip_eq_some]; exact ⟨List.getElem?_eq_getElem hj, List.getElem?_eq_getElem (by omega)⟩
  obtain ⟨ecs, ⟨⟨u, rfl, hr⟩, hroot⟩, hc⟩ := h3 j _ hp
  obtain ⟨C, hw, hf, hm⟩ := Y2.win (τ := Zy9) (s := 9) rfl (by decide) hz0 hr
  refine ⟨(u, C), fun y bs hy hbs => ?_⟩
  rw [List.getElem?_eq_getElem hj] at hy; cases hy
  rw [List.getElem?_eq_getElem (by omega)] at hbs; cases hbs
  refine ⟨hw, ?_, hm, hr.isOne, hc 0 (show 0 < 1 by decide)⟩
  rw [hf, ← Xc4]; exact hroot)
 have hget : ∀ (j : Nat) r, rs[j]? = some r → ∃ y bs, xs[j]? = some y ∧ bss[j]? = some bs := fun j r hr => by
  have hj : j < xs.length := by rw [← hrl]; exact (List.getElem?_eq_some_iff.1 hr).1
  exact ⟨_, _, List.getElem?_eq_getElem hj, List.getElem?_eq_getElem (by omega)⟩
 refine ⟨rs, ⟨hrl, fun j r x hr hx => ?_⟩, ⟨a, c, ⟨by rw [hv, List.length_map, hrl, hz], by rw [List.length_map, hrl, ← hz]; exact hb⟩, .inr ⟨b, o, cs, E, h1, h2, fun j u hu => ?_⟩⟩, ?_, fun z hzm => ?_⟩
 obtain ⟨y, bs, hy, hbs⟩ := hget j r hr
 rw [hx] at hy; cases hy
 exact (hP j r hr _ bs hx hbs).1
 obtain ⟨r, hr, rfl⟩ := Option.map_eq_some_iff.1 (by rw [List.getElem?_map] at hu; exact hu)
 obtain ⟨y, bs, hy, hbs⟩ := hget j r hr
 obtain ⟨_, _, _, h4, h5⟩ := hP j r hr y bs hy hbs
 refine ⟨[r.1], ⟨rfl, h4⟩, fun t ht => ?_⟩
 have ht : t < 1 := ht
 have : t = 0 := by omega
 subst this
 exact h5
 rw [List.map_flatten, List.map_map]
 congr 1
 apply List.ext_getElem?
 intro j
 rw [List.getElem?_map]
 cases hr : rs[j]? with
 | none =>
  have hj := List.getElem?_eq_none_iff.1 hr
  rw [List.getElem?_eq_none (by omega)]; rfl
 | some r =>
  obtain ⟨y, bs, hy, hbs⟩ := hget j r hr
  rw [hbs]
  exact congrArg some (hP j r hr y bs hy hbs).2.1
 obtain ⟨C, hC, hzC⟩ := List.mem_flatten.1 hzm
 obtain ⟨r, hrm, rfl⟩ := List.mem_map.1 hC
 obtain ⟨j, hj, rfl⟩ := List.getElem_of_mem hrm
 have hr : rs[j]? = some rs[j] := List.getElem?_eq_getElem hj
 obtain ⟨y, bs, hy, hbs⟩ := hget j _ hr
 exact (hP j _ hr y bs hy hbs).2.2.1 z hzC
theorem Xr3 {G : FH} {v : Value} {xs : List Value} {bs : List Nat} (h : Y2 Yr3 G v xs) (hb : ∀ b, b ∈ Zg4 v → b ∉ bs) : Y2 Yr3 (G.minus bs) v xs := by
 obtain ⟨a, c, ⟨hv, hl⟩, h⟩ := h
 refine ⟨a, c, ⟨hv, hl⟩, ?_⟩
 rcases h with h | ⟨b, o, cs, E, h1, h2, h3⟩
 exact .inl h
 cases hx : xs.length with
 | zero => exact .inl (List.eq_nil_of_length_eq_zero hx)
 | succ n =>
 refine .inr ⟨b, o, cs, E, h1, Zp2.2 ⟨hb b ?_, h2⟩, h3⟩
 subst h1; rw [hv, hx]; simp [Zg4]
set_option maxRecDepth 100000 in
set_option maxHeartbeats 1000000 in
theorem Ys7 {H0 Hc G : FH} {w : World} {L : OL} {vd vi : Value} {x : F4} {k : Int} (hA : Zi4 H0 Hc (.agg ([vd] ++ [vi]).toArray) x) (hc : Sub Hc G) (hb : G3 x ≤ 1000000000000 ∧ 0 ≤ k ∧ k ≤ 1000000) (hL : ∀ b, b < G.lim → H0 b ≠ none) (hS : St G w L) :
 Calls Tryz.prog 20 #[.agg ([vd] ++ [vi]).toArray, vI k] w (fun e w' => ∃ G', e = .returned (vI (k + G3 x)) ∧ St G' w' L ∧ Y2 (Y8 .i64) G' vd (mkA x k).1 ∧ Y2 Ya0 G' vi (mkA x k).2 ∧
  ∀ A : FH, Sub A G → (∀ b, A.memo b = none) → (∀ b, A b ≠ none → H0 b ≠ none ∨ Hc b = none) → Sub A G') := by
 obtain ⟨hb, hk⟩ := hb
 obtain ⟨vd', vi', e, hd, bss, hl, hi, hnd⟩ := hA
 have e' : vd = vd' ∧ vi = vi' := by simpa using e
 obtain ⟨rfl, rfl⟩ := e'
 have hz0 : ∀ b o, (Hc.new H0) b = some o → nz o := fun b o hb' => by
  obtain ⟨h1, h2, _⟩ := E9.1 hb'
  refine hS.nofz b o (hc.1 _ _ h1) ?_
  rcases Nat.lt_or_ge b G.lim with h | h
  exact absurd h2 (hL b h)
  exact h
 obtain ⟨Cd, hwd, hfd, hmd⟩ := Y2.win (τ := Y8 .i64) (s := 1) rfl (by decide) hz0 hd
 obtain ⟨rs, hrc, hraw, hrf, hrm⟩ := Wa8 hz0 hl hi
 have hcn := Zr9 x.2
 unfold G3 at hb ⊢
 -- all blocks
 have hmem : ∀ z, z ∈ Cd ++ (rs.map Prod.snd).flatten → (Hc.new H0) z.1 = some z.2 := fun z hz => (List.mem_append.1 hz).elim (hmd z) (hrm z)
 have hfst : (Cd ++ (rs.map Prod.snd).flatten).map Prod.fst = Zg4 vd ++ bss.flatten := by rw [List.map_append, hfd, hrf]
 rw [List.append_nil, Xc4, List.nodup_append] at hnd
 obtain ⟨n1, n2, n3⟩ := hnd
 have hn : ((Cd ++ (rs.map Prod.snd).flatten).map Prod.fst).Nodup := by
  rw [hfst]
  exact (List.perm_append_comm.nodup_iff).1 n2
 have hS1 := hS.unfreeze (Cd ++ (rs.map Prod.snd).flatten) (fun z hz => hc.1 _ _ (E9.1 (hmem z hz)).1) hn
 rw [hfst] at hS1
 have hbs : ∀ b, b ∈ Zg4 vd ++ bss.flatten → H0 b = none ∧ Hc b ≠ none := fun b hb' => by
  rw [← hfst] at hb'
  obtain ⟨z, hz, rfl⟩ := List.mem_map.1 hb'
  obtain ⟨h1, h2, _⟩ := E9.1 (hmem z hz)
  exact ⟨h2, by rw [h1]; simp⟩
 have hraw1 : Y2 Yr3 (G.minus (Zg4 vd ++ bss.flatten)) vi (rs.map Prod.fst) := by
  refine Xr3 (hraw.mono ((Zr3 _ _).trans hc)) (fun b hbv hin => ?_)
  rcases List.mem_append.1 hin with h | h
  exact n3 b hbv b (List.mem_append_right _ h) rfl
  exact n3 b hbv b (List.mem_append_left _ h) rfl
 have hkeep : ∀ A : FH, Sub A G → (∀ b, A.memo b = none) → (∀ b, A b ≠ none → H0 b ≠ none ∨ Hc b = none) → Sub A (G.minus (Zg4 vd ++ bss.flatten)) := fun A hA hm hd => by
  refine Yv0 hA hm (fun b hb' => ?_)
  cases hq : A b with
  | none => rfl
  | some o =>
   have h1 := hbs b hb'
   rcases hd b (by rw [hq]; simp) with h | h
   exact absurd h1.1 h
   exact absurd h h1.2
 rw [List.append_assoc] at hS1
 refine X2 Tryz.func20 rfl Tryz.ntmps20 rfl ?_
 refine Z3 (Z1 ?_)
 refine S5 (v := Value.agg ([vd] ++ [vi]).toArray) ([vd] ++ [vi]).toArray rfl rfl hS1 rfl ?_
 intro bx w2 hS1
 refine Z5 (vI 0) rfl rfl ?_
 refine Z0 (Z3 (Z1 ?_))
 refine Y3 R5 rfl rfl ?_
 refine Y4 vd J7 rfl (hS1.get mL) rfl rfl ?_
 refine Z4 (vI k) rfl rfl ?_
 have hS2 := hS1.perm (U1 (A1 := Cd)).symm
 refine X0 Tryz.call25 (T0 rfl rfl) rfl (Yn0 hwd (by omega) (by omega) hS2) ?_
 rintro e w3 ⟨G1, rfl, sb1, hS3, hd1⟩
 refine ⟨_, rfl, ?_⟩
 refine Z5 (vI (k + (x.1.length : Int))) rfl rfl ?_
 refine Z0 (Z3 (Z1 ?_))
 refine Y3 M7 rfl rfl ?_
 refine Y4 vi Ze3 rfl (hS3.get mL) rfl rfl ?_
 refine Z4 (vI (k + (x.1.length : Int))) rfl rfl ?_
 have hS4 := hS3.perm (U1 (A1 := (rs.map Prod.snd).flatten)).symm
 refine X0 Tryz.call38 (T0 rfl rfl) rfl (Xa8 (hraw1.mono sb1) hrc (by omega) (by omega) hS4) ?_
 rintro e w4 ⟨G2, rfl, sb2, hS5, hd2⟩
 refine ⟨_, rfl, ?_⟩
 refine Z5 (vI (k + (x.1.length : Int) + I8 x.2)) rfl rfl ?_
 refine Z0 (Z3 (Z1 ?_))
 refine Z4 (vI (k + (x.1.length : Int) + I8 x.2)) rfl rfl ?_
 refine Z5 (vI (k + (x.1.length : Int) + I8 x.2)) rfl rfl ?_
 refine Z0 ?_
 refine Y9 (vs := [vI (k + (x.1.length : Int) + I8 x.2)]) Tryz.func20 ⟨rfl, trivial⟩ ?_
 exact ⟨G2, by show Ending.returned (vI _) = _; rw [Int.add_assoc], St.dropA (A := [(bx, .cells ([vd] ++ [vi]).toArray 29)]) hS5, hd1.mono sb2, hd2, fun A h1 h2 h3 => ((hkeep A h1 h2 h3).trans sb1).trans sb2⟩
/-! what a marking leaves -/
theorem Zi4.mono {H G G' : FH} {v : Value} {x : F4} (h : Zi4 H G v x) (hs : Sub G G') : Zi4 H G' v x :=
 let ⟨vd, vi, h1, h2, h3⟩ := h; ⟨vd, vi, h1, h2.mono hs, h3.mono hs⟩
theorem Yv1 {H G G' : FH} (h : Sub (G.new H) G') : Sub (G.new H) (G'.new H) :=
 ⟨fun b o e => E9.2 ⟨h.1 b o e, (E9.1 e).2⟩, fun b i e => (by cases e), h.2.2⟩
theorem Zi4.tr {H G G' : FH} {v : Value} {x : F4} (h : Zi4 H G v x) (hs : Sub (G.new H) G') : Zi4 H G' v x :=
 let ⟨vd, vi, h1, h2, bss, h3, h4, h5⟩ := h; ⟨vd, vi, h1, Y2.mono (Yv1 hs) h2, bss, h3, Y2.mono (Yv1 hs) h4, h5⟩
theorem Zi4.rep {H G : FH} {v : Value} {x : F4} (h : Zi4 H G v x) : (R.agg (Zo8 (W0 (Y8 .i64)) (W0 (W0 yT)))).p G v x :=
 let ⟨vd, vi, h1, h2, h3⟩ := h.old; ⟨[vd] ++ [vi], h1, [vd], [vi], rfl, ⟨vd, rfl, h2.old⟩, ⟨vi, rfl, h3.old⟩⟩
theorem Zi4.rd {H G : FH} {vd vi : Value} {x : F4} (h : Zi4 H G (.agg ([vd] ++ [vi]).toArray) x) : Y2 (Y8 .i64) G vd x.1 ∧ Y2 (W0 yT) G vi x.2 := by
 obtain ⟨vd', vi', e, h2, h3⟩ := h.old
 have e' : vd = vd' ∧ vi = vi' := by simpa using e
 obtain ⟨rfl, rfl⟩ := e'
 exact ⟨h2.old, h3.old⟩
theorem Xe4 {H H1 G : FH} (hL : ∀ b, b < H.lim → H b ≠ none) (h1 : Sub H H1) (hg : Sub H G) : ∀ b, b < G.lim → H1 b ≠ none := by
 intro b hb
 have e : G.lim = H.lim := by unfold FH.lim; rw [hg.2.2]
 rw [e] at hb
 cases hq : H b with
 | none => exact absurd hq (hL b hb)
 | some o => rw [h1.1 _ _ hq]; simp
theorem Yd6 {A B : FH} (h : Sub A B) (b : Nat) (hb : A b ≠ none) : B b ≠ none := by
 cases hq : A b with
 | none => exact absurd hq hb
 | some o => rw [h.1 _ _ hq]; simp
theorem Yw8 {H0 Hc H1 G : FH} (h : Sub Hc H1) : ∀ b, (G.new H1) b ≠ none → H0 b ≠ none ∨ Hc b = none := by
 intro b hb
 refine .inr ?_
 cases hq : Hc b with
 | none => rfl
 | some o =>
  cases hn : (G.new H1) b with
  | none => exact absurd hn hb
  | some p => have := (E9.1 hn).2.1; rw [h.1 _ _ hq] at this; cases this
theorem Ya3.mono {s : Nat} {v : Value} {m : Nat} {C : OL} {H G : FH} (h : Ya3 s v m C) (_ : Sub H G) : Ya3 s v m C := h
theorem Xv7 {Hm H1 G : FH} : ∀ b, (G.new Hm) b ≠ none → H1 b ≠ none ∨ Hm b = none := fun b hb => by
 cases hq : (G.new Hm) b with
 | none => exact absurd hq hb
 | some o => exact .inr (E9.1 hq).2.1
theorem Xg4 (v : Value) : (Zg4 v).Nodup := by rw [← Xc4]; exact Zk0 v
theorem Wc2 {H1 Hm G : FH} {w : World} {L : OL} {v : Value} {xs : List Int} (hls : Y2 (Y8 .i64) (Hm.new H1) v xs) (hlv : Sub (Hm.new H1) G) (hL1 : ∀ b, b < G.lim → H1 b ≠ none) (hS : St G w L) :
 ∃ C G', Ya3 1 v xs.length C ∧ St G' w (C ++ L) ∧ ∀ A : FH, Sub A G → (∀ b, A.memo b = none) → (∀ b, A b ≠ none → H1 b ≠ none ∨ Hm b = none) → Sub A G' := by
 have hz0 : ∀ b o, (Hm.new H1) b = some o → nz o := fun b o hb' => by
  obtain ⟨h1, h2, _⟩ := E9.1 hb'
  refine hS.nofz b o (hlv.1 _ _ hb') ?_
  rcases Nat.lt_or_ge b G.lim with h | h
  exact absurd h2 (hL1 b h)
  exact h
 obtain ⟨C, hw, hf, hm⟩ := Y2.win (τ := Y8 .i64) (s := 1) rfl (by decide) hz0 hls
 refine ⟨C, G.minus (C.map Prod.fst), hw, hS.unfreeze C (fun z hz => hlv.1 _ _ (hm z hz)) (by rw [hf]; exact Xg4 v), fun A hA hM hd => Yv0 hA hM (fun b hb => ?_)⟩
 obtain ⟨z, hz, rfl⟩ := List.mem_map.1 hb
 obtain ⟨h1, h2, _⟩ := E9.1 (hm z hz)
 cases hq : A z.1 with
 | none => rfl
 | some o =>
  rcases hd z.1 (by rw [hq]; simp) with h | h
  exact absurd h2 h
  rw [h] at h1; cases h1
end Go.Proofs.YtfodlhkoafhplaaGreat
