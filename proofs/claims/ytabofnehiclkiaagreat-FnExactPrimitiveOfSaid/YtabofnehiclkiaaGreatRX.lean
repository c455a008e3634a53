/- Walk, rules and plain laws. -/
import Derived.Test.YtabofnehiclkiaaGreatRTy
namespace Go.Proofs.YtabofnehiclkiaaGreat
open Go Go.Proofs.Tryz IntKind IntWalk List
set_option linter.all false
set_option maxRecDepth 100000
set_option maxHeartbeats 8000000
def Yt2 (mv : Nat → Value) (s : Nat) (v : Value) (m : Nat) (C : OL) (n : Nat) : Prop :=
 (∃ a c, v = .slice a m c ∧ m = 0 ∧ C = []) ∨ ∃ b o c cs E, v = .slice (some ⟨b, o, none⟩) m c ∧ (0 < m → o + m * s ≤ cs.size) ∧ C = [(b, .cells cs E)] ∧ Yd8 mv o cs n
theorem Yu7.start {s : Nat} {v : Value} {m : Nat} {C : OL} (h : Yu7 s v m C) (mv : Nat → Value) : Yt2 mv s v m C 0 := by
 rcases h with h | ⟨b, o, c, cs, E, h1, h2, h3⟩
 exact .inl h
 exact .inr ⟨b, o, c, cs, E, h1, h2.2, h3, Yd8.nil⟩
theorem Yt2.val {mv : Nat → Value} {s : Nat} {v : Value} {m : Nat} {C : OL} {n : Nat} (h : Yt2 mv s v m C n) : ∃ a c, v = .slice a m c := by
 rcases h with ⟨a, c, h, _⟩ | ⟨b, o, c, cs, E, h, _⟩
 exact ⟨_, c, h⟩
 exact ⟨_, c, h⟩
theorem Wn2 (x : Int) : ∀ u, u ∈ (vI x).cells.toList → u.oneCell' = true := fun u hu => by simp [vI, Value.cells] at hu; subst hu; rfl
theorem Wc9 {H : FH} {w : World} {L C : OL} {v : Value} {m : Nat} {k : Int} (hv : Yu7 1 v m C) (hb : m ≤ 1000000000000) (hk : 0 ≤ k ∧ k ≤ 1000000000000000) (hS : St H w (C ++ L)) :
 Calls prog 22 #[v, vI k] w (fun e w' => ∃ H', e = .returned (vI (k + m)) ∧ Sub H H' ∧ St H' w' L ∧ Y3 (Y4 .i64) H' v (mkI k m)) := by
 refine X0 func22 U ntmps22 U (Z1 (Z0 (Z5 (vI 0) U U (Z2 (Z1 (Z1 (Z0 (Z5 (vI 0) U U (Z2 (Y8 (W3 (id := 0) (fun kk f w => ∃ (n : Nat) (C' : OL), n ≤ m ∧ m < n + kk ∧ St H w (C' ++ L) ∧ Yt2 (mvI k) 1 v m C' n ∧ ev f (.tmp 0) = v ∧ ev f (.tmp 1) = vI (k + n) ∧ ev f (.tmp 5) = vI n) (fun f w => ∃ C' : OL, St H w (C' ++ L) ∧ Yt2 (mvI k) 1 v m C' m ∧ ev f (.tmp 1) = vI (k + m)) U ?_ ?_ (m + 1) ?_ ?_)))))))))))
 rintro f w ⟨n, C', h1, h2, _⟩; omega
 rintro kk f w ih hx ⟨n, C', h1, h2, hS, hM, t0, t1, t5⟩
 obtain ⟨a, c, hvv⟩ := hM.val
 refine Z1 (Z1 (Z0 (Z3 (vI n) t5 U (Z3 v t0 U (Zq3 T1 (show v = .slice a m c from hvv) U (V4 (k := .i64) (a := n) (b := m) U U U (Z2 ?_)))))))
 by_cases hn : (n : Int) < (m : Int)
 refine Z8 (Eq.trans U (congrArg Value.bool (decide_eq_true hn))) (Y6 (Z1 (Y8 (Z1 (Z0 ?_)))))
 rcases hM with ⟨_, _, _, h0, _⟩ | ⟨b, o, c, cs, E, hv1, hsz, rfl, hmk⟩
 omega
 refine Z3 v t0 U (Z3 (vI n) t5 U (Z3 (vI (k + n)) t1 U (Zh9 T1 (show v = _ from hv1) U (by omega) hn U ?_)))
 have hszm := hsz (by omega)
 refine J7 (v := vI (k + n)) (cs' := cs.setIfInBounds (o + n) (mvI k n)) ty2 U U hS U (Wn2 _) (by omega) (by show cs.setIfInBounds (o + (n : Int).toNat * 1) _ = _; rw [show o + (n : Int).toNat * 1 = o + n by omega]; rfl) fun w2 hS => Z2 (Z0 (Z3 (vI (k + n)) (by exact t1) U (W4 (k + n + 1) U U (i64_in _ (by omega)) U (Z5 (vI (k + n + 1)) U U (Z2 (X1 (Z0 (Z3 (vI n) (by exact t5) U (W4 ((n : Int) + 1) U U (i64_in _ (by omega)) U (Z5 (vI ((n : Int) + 1)) U U (Z2 (ih _ _ ⟨n + 1, _, by omega, by omega, hS, .inr ⟨b, o, c, _, E, hv1, fun h => by rw [Array.size_setIfInBounds]; exact hsz h, U, hmk.step (by omega)⟩, by exact t0, ?_, U⟩))))))))))))
 show vI (k + n + 1) = vI (k + ((n + 1 : Nat) : Int))
 exact congrArg vI (by omega)
 refine Z6 (Eq.trans U (congrArg Value.bool (decide_eq_false hn))) (W2 U ?_)
 have e : n = m := by omega
 subst e
 exact hx _ _ ⟨C', hS, hM, by exact t1⟩
 exact ⟨0, C, by omega, by omega, hS, hv.start _, U, by show vI k = vI (k + 0); rw [Int.add_zero], U⟩
 rintro f w ⟨C', hS, hM, t1⟩
 refine Z1 (Z0 (Z3 (vI (k + m)) t1 U (Z5 (vI (k + m)) U U (Z2 (Y9 (vs := [vI (k + m)]) func22 Ut ?_)))))
 rcases hM with ⟨a, c, rfl, rfl, rfl⟩ | ⟨b, o, c, cs, E, rfl, _, rfl, hmk⟩
 exact ⟨H, U, Sub.refl _, hS, Y3.noInts U⟩
 obtain ⟨H', h1, h2, h3⟩ := Wc2 hS hmk (by omega) (hv.room U)
 exact ⟨H', U, h1, h2, h3⟩
theorem Vf9 (x : Int) : ∀ u, u ∈ (Value.int .u8 x).cells.toList → u.oneCell' = true := fun u hu => by simp [Value.cells] at hu; subst hu; rfl
theorem Yy4 {H : FH} {w : World} {L C : OL} {v : Value} {m : Nat} {k : Int} (hv : Yu7 9 v m C) (hb : m ≤ 1000000000000) (hk : 0 ≤ k ∧ k ≤ 1000000000000000) (hS : St H w (C ++ L)) :
 Calls prog 95 #[v, vI k] w (fun e w' => ∃ H', e = .returned (vI (k + 9 * m)) ∧ Sub H H' ∧ St H' w' L ∧ Y3 Ye4 H' v (mkT k m)) := by
 refine X0 func95 U ntmps95 U (Z1 (Z0 (Z5 (vI 0) U U (Z2 (Z1 (Z1 (Z0 (Z5 (vI 0) U U (Z2 (Y8 (W3 (id := 0) (fun kk f w => ∃ (i : Nat) (C' : OL), i ≤ m ∧ m < i + kk ∧ St H w (C' ++ L) ∧ Yt2 (mvT k) 9 v m C' (i * 9) ∧ ev f (.tmp 0) = v ∧ ev f (.tmp 1) = vI (k + 9 * i) ∧ ev f (.tmp 5) = vI i) (fun f w => ∃ C' : OL, St H w (C' ++ L) ∧ Yt2 (mvT k) 9 v m C' (m * 9) ∧ ev f (.tmp 1) = vI (k + 9 * m)) U ?_ ?_ (m + 1) ?_ ?_)))))))))))
 rintro f w ⟨n, C', h1, h2, _⟩; omega
 rintro kk f w ih hx ⟨i, C', h1, h2, hS, hM, t0, t1, t5⟩
 obtain ⟨a, c, hvv⟩ := hM.val
 refine Z1 (Z1 (Z0 (Z3 (vI i) t5 U (Z3 v t0 U (Zq3 Q0 (show v = .slice a m c from hvv) U (V4 (k := .i64) (a := i) (b := m) U U U (Z2 ?_)))))))
 by_cases hn : (i : Int) < (m : Int)
 refine Z8 (Eq.trans U (congrArg Value.bool (decide_eq_true hn))) (Y6 (Z1 (Y8 (Z1 (Z1 (Z0 (Z5 (vI 0) U U (Z2 (Y8 (W3 (id := 2) (fun kk f w => ∃ (j : Nat) (C' : OL), j ≤ 8 ∧ 8 < j + kk ∧ St H w (C' ++ L) ∧ Yt2 (mvT k) 9 v m C' (i * 9 + j) ∧ ev f (.tmp 0) = v ∧ ev f (.tmp 1) = vI (k + 9 * i + j) ∧ ev f (.tmp 5) = vI i ∧ ev f (.tmp 6) = vI j) (fun f w => ∃ C' : OL, St H w (C' ++ L) ∧ Yt2 (mvT k) 9 v m C' (i * 9 + 8) ∧ ev f (.tmp 0) = v ∧ ev f (.tmp 1) = vI (k + 9 * i + 8) ∧ ev f (.tmp 5) = vI i) U ?_ ?_ 9 ?_ ?_))))))))))
 rintro f w ⟨n, C', h1, h2, _⟩; omega
 rintro kk f w ih2 hx2 ⟨j, C', h3, h4, hS, hM, t0, t1, t5, t6⟩
 refine Z1 (Z1 (Z0 (Z3 (vI j) t6 U (V4 (k := .i64) (a := j) (b := 8) U U U (Z2 ?_)))))
 by_cases hj : (j : Int) < 8
 refine Z8 (Eq.trans U (congrArg Value.bool (decide_eq_true hj))) (Y6 (Z1 (Y8 (Z1 (Z0 ?_)))))
 rcases hM with ⟨_, _, _, h0, _⟩ | ⟨b, o, c, cs, E, hv1, hsz, rfl, hmk⟩
 omega
 have hszm := hsz (by omega)
 have hmi : i * 9 + 9 ≤ m * 9 := by omega
 refine Z3 v t0 U (Z3 (vI i) t5 U (Z3 (vI j) t6 U (Z3 (vI (k + 9 * i + j)) t1 U (Ym9 (s := .i64) (u8.wrap (k + 9 * i + j)) Wk4 U U U (Zh9 Q0 (show v = _ from hv1) U (by omega) hn U (Y2 L6 U U (U3 Zh5 U U (by omega) hj U ?_)))))))
 have hval : mvT k (i * 9 + j) = .int .u8 (u8.wrap (k + 9 * i + j)) := by
  unfold mvT
  rw [if_neg (by omega)]
  congr 2; omega
 have hoff : o + (i : Int).toNat * 9 + 0 + (j : Int).toNat * 1 = o + (i * 9 + j) := by omega
 refine J7 (v := .int .u8 (u8.wrap (k + 9 * i + j))) (cs' := cs.setIfInBounds (o + (i * 9 + j)) (mvT k (i * 9 + j))) ty5 U U hS U (Vf9 _) (by omega) (by
  show cs.setIfInBounds (o + (i : Int).toNat * 9 + 0 + (j : Int).toNat * 1) _ = _
  rw [hoff, hval]) ?_
 intro w2 hS
 refine Z2 (Z0 (Z3 (vI (k + 9 * i + j)) (by exact t1) U (W4 (k + 9 * i + j + 1) U U (i64_in _ (by omega)) U (Z5 (vI (k + 9 * i + j + 1)) U U (Z2 (X1 (Z0 (Z3 (vI j) (by exact t6) U (W4 ((j : Int) + 1) U U (i64_in _ (by omega)) U (Z5 (vI ((j : Int) + 1)) U U (Z2 (ih2 _ _ ⟨j + 1, _, by omega, by omega, hS, .inr ⟨b, o, c, _, E, hv1, fun h => by rw [Array.size_setIfInBounds]; exact hsz h, U, hmk.step (by omega)⟩, by exact t0, ?_, by exact t5, U⟩))))))))))))
 show vI (k + 9 * i + j + 1) = vI (k + 9 * i + ((j + 1 : Nat) : Int))
 exact congrArg vI (by omega)
 refine Z6 (Eq.trans U (congrArg Value.bool (decide_eq_false hj))) (W2 U ?_)
 have e : j = 8 := by omega
 subst e
 exact hx2 _ _ ⟨C', hS, hM, by exact t0, by exact t1, by exact t5⟩
 exact ⟨0, C', by omega, by omega, hS, hM, by exact t0, by show ev f (.tmp 1) = vI (k + 9 * i + 0); rw [Int.add_zero]; exact t1, by exact t5, U⟩
 rintro f w ⟨C', hS, hM, t0, t1, t5⟩
 refine Z1 (Z0 ?_)
 rcases hM with ⟨_, _, _, h0, _⟩ | ⟨b, o, c, cs, E, hv1, hsz, rfl, hmk⟩
 omega
 have hszm := hsz (by omega)
 have hmi : i * 9 + 9 ≤ m * 9 := by omega
 refine Z3 v t0 U (Z3 (vI i) t5 U (Z3 (vI (k + 9 * i + 8)) t1 U (Zh9 Q0 (show v = _ from hv1) U (by omega) hn U (Y2 Zf7 U U ?_))))
 have hval : mvT k (i * 9 + 8) = vI (k + 9 * i + 8) := by
  unfold mvT
  rw [if_pos (by omega)]
  show vI _ = vI _
  exact congrArg vI (by omega)
 have hoff : o + (i : Int).toNat * 9 + 8 = o + (i * 9 + 8) := by omega
 refine J7 (v := vI (k + 9 * i + 8)) (cs' := cs.setIfInBounds (o + (i * 9 + 8)) (mvT k (i * 9 + 8))) ty2 U U hS U (Wn2 _) (by omega) (by
  show cs.setIfInBounds (o + (i : Int).toNat * 9 + 8) _ = _
  rw [hoff, hval]) ?_
 intro w2 hS
 refine Z2 (Z0 (Z3 (vI (k + 9 * i + 8)) (by exact t1) U (W4 (k + 9 * i + 8 + 1) U U (i64_in _ (by omega)) U (Z5 (vI (k + 9 * i + 8 + 1)) U U (Z2 (X1 (Z0 (Z3 (vI i) (by exact t5) U (W4 ((i : Int) + 1) U U (i64_in _ (by omega)) U (Z5 (vI ((i : Int) + 1)) U U (Z2 ?_)))))))))))
 have hst := hmk.step (mv := mvT k) (n := i * 9 + 8) (by omega)
 refine ih _ _ ⟨i + 1, _, by omega, by omega, hS, .inr ⟨b, o, c, _, E, hv1, fun h => by rw [Array.size_setIfInBounds]; exact hsz h, U, by rw [show (i + 1) * 9 = i * 9 + 8 + 1 by omega]; exact hst⟩, by exact t0, ?_, U⟩
 show vI (k + 9 * i + 8 + 1) = vI (k + 9 * ((i + 1 : Nat) : Int))
 exact congrArg vI (by omega)
 refine Z6 (Eq.trans U (congrArg Value.bool (decide_eq_false hn))) (W2 U ?_)
 have e : i = m := by omega
 subst e
 exact hx _ _ ⟨C', hS, hM, by exact t1⟩
 exact ⟨0, C, by omega, by omega, hS, by rw [Nat.zero_mul]; exact hv.start _, U, by show vI k = vI (k + 9 * 0); rw [Int.mul_zero, Int.add_zero], U⟩
 rintro f w ⟨C', hS, hM, t1⟩
 refine Z1 (Z0 (Z3 (vI (k + 9 * m)) t1 U (Z5 (vI (k + 9 * m)) U U (Z2 (Y9 (vs := [vI (k + 9 * m)]) func95 Ut ?_)))))
 rcases hM with ⟨a, c, rfl, rfl, rfl⟩ | ⟨b, o, c, cs, E, rfl, _, rfl, hmk⟩
 exact ⟨H, U, Sub.refl _, hS, Y3.noTerms U⟩
 obtain ⟨H', h1, h2, h3⟩ := Xw1 hS hmk (by omega) (hv.room U)
 exact ⟨H', U, h1, h2, h3⟩
def Zn4 : Ty Value := ⟨1, fun _ cs v => cs = [v] ∧ v.oneCell' = true, fun h => by rw [h.1]; rfl, fun _ h => h, fun h u hu => by rw [h.1] at hu; cases mem_singleton.1 hu; exact h.2⟩
instance : Inhabited Value := ⟨undef⟩
def Zc1 : List Zk1 → Int
 | [] => 0
 | f :: fs => 9 * f.length + Zc1 fs
def Zx4 (x : F6) : Int := x.1.length + Zc1 x.2
def Yq6 (k : Int) : List Zk1 → List Zk1
 | [] => []
 | f :: fs => mkT k f.length :: Yq6 (k + 9 * f.length) fs
def mkA (x : F6) (k : Int) : F6 := (mkI k x.1.length, Yq6 (k + x.1.length) x.2)
theorem Yk5 : ∀ xs, 0 ≤ Zc1 xs
 | [] => Int.le_refl _
 | f :: fs => by have := Yk5 fs; rw [Zc1]; omega
theorem Xq9 : ∀ (xs : List Zk1) (i : Nat), Zc1 (xs.take i) ≤ Zc1 xs
 | xs, 0 => by simpa [Zc1] using Yk5 xs
 | [], i + 1 => by simp
 | f :: fs, i + 1 => by have := Xq9 fs i; rw [take_succ_cons, Zc1, Zc1]; omega
theorem Yv1 : ∀ (xs : List Zk1) (i : Nat) (x : Zk1), xs[i]? = some x → Zc1 (xs.take (i + 1)) = Zc1 (xs.take i) + 9 * x.length
 | [], i, x, h => by simp at h
 | f :: fs, 0, x, h => by simp at h; subst h; simp [Zc1]
 | f :: fs, i + 1, x, h => by
  rw [take_succ_cons, take_succ_cons, Zc1, Zc1, Yv1 fs i x (by simpa using h)]; omega
theorem Wb5 : ∀ (xs : List Zk1) (k : Int), (Yq6 k xs).length = xs.length
 | [], _ => rfl
 | f :: fs, k => by rw [Yq6, length_cons, length_cons, Wb5 fs]
theorem Wb0 : ∀ (xs : List Zk1) (k : Int) (i : Nat) (x : Zk1), xs[i]? = some x → (Yq6 k xs)[i]? = some (mkT (k + Zc1 (xs.take i)) x.length)
 | [], _, i, x, h => by simp at h
 | f :: fs, k, 0, x, h => by simp at h; subst h; simp [Yq6, Zc1]
 | f :: fs, k, i + 1, x, h => by
  rw [Yq6, getElem?_cons_succ, Wb0 fs _ i x (by simpa using h), take_succ_cons, Zc1, Int.add_assoc]
theorem Yp7 {α : Type} {P : Nat → α → Prop} : ∀ (n : Nat), (∀ j, j < n → ∃ a, P j a) → ∃ l : List α, l.length = n ∧ ∀ j a, l[j]? = some a → P j a
 | 0, _ => ⟨[], U, fun j a h => by simp at h⟩
 | n + 1, h => by
  obtain ⟨l, hl, hp⟩ := Yp7 n (fun j hj => h j (by omega))
  obtain ⟨a, ha⟩ := h n (by omega)
  refine ⟨l ++ [a], by simp [hl], fun j b hb => ?_⟩
  by_cases hj : j < n
  rw [getElem?_append_left (by omega)] at hb; exact hp j b hb
  have : j = n := by
   have := (List.getElem?_eq_some_iff.1 hb).1
   simp [hl] at this; omega
  subst this
  rw [getElem?_append_right (by omega), hl, Nat.sub_self] at hb
  cases hb; exact ha
def Xk2 (xs : List Zk1) (rs : List (Value × OL)) : Prop := rs.length = xs.length ∧ ∀ (j : Nat) (r : Value × OL) (x : Zk1), rs[j]? = some r → xs[j]? = some x → Yu7 9 r.1 x.length r.2
theorem Xy4 {H : FH} {w : World} {L : OL} {v : Value} {xs : List Zk1} {rs : List (Value × OL)} {k : Int} (hv : Y3 Zn4 H v (rs.map Prod.fst)) (hr : Xk2 xs rs) (hb : Zc1 xs ≤ 1000000000000) (hk : 0 ≤ k ∧ k ≤ 100000000000000)
 (hS : St H w ((rs.map Prod.snd).flatten ++ L)) :
 Calls prog 33 #[v, vI k] w (fun e w' => ∃ H', e = .returned (vI (k + Zc1 xs)) ∧ Sub H H' ∧ St H' w' L ∧ Y3 Yi2 H' v (Yq6 k xs)) := by
 have hlen := hv.bound
 rw [length_map, hr.1] at hlen
 refine X0 func33 U ntmps33 U (Z1 (Z0 (Z5 (vI 0) U U (Z2 (Z1 (Z1 (Z0 (Z5 (vI 0) U U (Z2 (Y8 ?_))))))))))
 refine W3 (id := 0) (fun kk f w => ∃ (i : Nat) (H' : FH), i ≤ xs.length ∧ xs.length < i + kk ∧ Sub H H' ∧ St H' w (((rs.drop i).map Prod.snd).flatten ++ L) ∧ (∀ j r y, j < i → rs[j]? = some r → (Yq6 k xs)[j]? = some y → Y3 Ye4 H' r.1 y) ∧ ev f (.tmp 0) = v ∧ ev f (.tmp 1) = vI (k + Zc1 (xs.take i)) ∧ ev f (.tmp 5) = vI i)
  (fun f w => ∃ H' : FH, Sub H H' ∧ St H' w L ∧ (∀ (j : Nat) r y, rs[j]? = some r → (Yq6 k xs)[j]? = some y → Y3 Ye4 H' r.1 y) ∧ ev f (.tmp 1) = vI (k + Zc1 xs)) U ?_ ?_ (xs.length + 1) ?_ ?_
 rintro f w ⟨n, C', h1, h2, _⟩; omega
 rintro kk f w ih hx ⟨i, H1, h1, h2, Z4, hS, hD, t0, t1, t5⟩
 have hv1 := hv.mono Z4
 refine Z1 (Z1 (Z0 (Z3 (vI i) t5 U (Z3 v t0 U (X9 Zm7 U hv1 U (V4 (k := .i64) (a := i) (b := ((rs.map Prod.fst).length : Int)) U U U (Z2 ?_)))))))
 by_cases hn : (i : Int) < ((rs.map Prod.fst).length : Int)
 refine Z8 (Eq.trans U (congrArg Value.bool (decide_eq_true hn))) (Y6 (Z1 (Y8 (Z0 ?_))))
 have hil : i < rs.length := by rw [length_map] at hn; omega
 have hix : i < xs.length := by rw [← hr.1]; exact hil
 have hri : rs[i]? = some rs[i] := getElem?_eq_getElem hil
 have hxi : xs[i]? = some xs[i] := getElem?_eq_getElem hix
 have hw := hr.2 i _ _ hri hxi
 obtain ⟨b, o, cs, E, _, hp, hbk, ⟨rfl, h1c⟩, hc⟩ := hv1.elem (i := (i : Int)) (by omega) (by omega)
 have hrd : rd (rs.map Prod.fst) (i : Int) = rs[i].1 := by
  unfold rd
  rw [Int.toNat_natCast, getD_eq_getElem?_getD, getElem?_map, hri]; rfl
 rw [hrd] at hc h1c
 refine Z3 v t0 U (Z3 (vI i) t5 U (X6 Zm7 U U hp U (by omega) (by omega) U (Y2 U8 U U (Y1 (rs[i].1) P1 U (hS.froz _ _ hbk) (hc 0 (show 0 < 1 by decide)) U (Z3 (vI (k + Zc1 (xs.take i))) t1 U ?_)))))
 have hdrop : rs.drop i = rs[i] :: rs.drop (i + 1) := drop_eq_getElem_cons hil
 have h0 := Yk5 (xs.take i)
 have h3 := Xq9 xs (i + 1)
 rw [Yv1 xs i _ hxi] at h3
 rw [hdrop, map_cons, flatten_cons, append_assoc] at hS
 refine U9 call95 (W8 U U) U (Yy4 hw (by omega) (by omega) hS) ?_
 rintro e w2 ⟨H2, rfl, sb, hS, hd⟩
 refine ⟨_, U, ?_⟩
 refine Z5 (vI (k + Zc1 (xs.take i) + 9 * (xs[i].length : Int))) U U (Z2 (X1 (Z0 (Z3 (vI i) (by exact t5) U (W4 ((i : Int) + 1) U U (i64_in _ (by omega)) U (Z5 (vI ((i : Int) + 1)) U U (Z2 (ih _ _ ⟨i + 1, H2, by omega, by omega, Z4.trans sb, hS, fun j r y hj hrj hy => ?_, by exact t0, ?_, U⟩))))))))
 by_cases e : j = i
 subst e
 rw [hri] at hrj; cases hrj
 rw [Wb0 xs k j _ hxi] at hy; cases hy
 exact hd
 exact (hD j r y (by omega) hrj hy).mono sb
 show vI _ = vI _
 refine congrArg vI ?_
 rw [Yv1 xs i _ hxi]; omega
 refine Z6 (Eq.trans U (congrArg Value.bool (decide_eq_false hn))) (W2 U ?_)
 rw [length_map, hr.1] at hn
 have e : i = xs.length := by omega
 subst e
 refine hx _ _ ⟨H1, Z4, ?_, fun j r y hrj hy => hD j r y ?_ hrj hy, ?_⟩
 rw [← hr.1, drop_length] at hS; exact hS
 have := (List.getElem?_eq_some_iff.1 hrj).1; rw [hr.1] at this; exact this
 rw [take_length] at t1; exact t1
 exact ⟨0, H, by omega, by omega, Sub.refl _, hS, fun j r y hj => by omega, U, by show vI k = vI (k + 0); rw [Int.add_zero], U⟩
 rintro f w ⟨H1, Z4, hS, hD, t1⟩
 refine Z1 (Z0 (Z3 (vI (k + Zc1 xs)) t1 U (Z5 (vI (k + Zc1 xs)) U U (Z2 (Y9 (vs := [vI (k + Zc1 xs)]) func33 Ut ?_)))))
 refine ⟨H1, U, Z4, hS, ?_⟩
 obtain ⟨a, c, ⟨hvv, hbb⟩, h⟩ := hv.mono Z4
 have hml := Wb5 xs k
 refine ⟨a, c, ⟨by rw [hvv, hml, length_map, hr.1], by rw [hml]; rw [length_map, hr.1] at hbb; exact ⟨hlen, hbb.2⟩⟩, ?_⟩
 rcases h with h2 | ⟨b, o, cs, E, h1, h2, h3⟩
 refine .inl (eq_nil_of_length_eq_zero ?_)
 have := congrArg length h2
 simp at this
 rw [hml, ← hr.1, this]; rfl
 refine .inr ⟨b, o, cs, E, h1, h2, fun j y hy => ?_⟩
 have hj : j < rs.length := by have := (List.getElem?_eq_some_iff.1 hy).1; rw [hml, ← hr.1] at this; exact this
 have hrj : rs[j]? = some rs[j] := getElem?_eq_getElem hj
 obtain ⟨ecs, ⟨rfl, _⟩, hc⟩ := h3 j rs[j].1 (by rw [getElem?_map, hrj]; rfl)
 exact ⟨_, ⟨_, U, hD j _ y hrj hy⟩, hc⟩
theorem Xv5 (v : Value) : Zr1 [v] = Zn3 v := by simp [Zr1]
theorem Vd5 {Hn : FH} {v : Value} {xs : List Zk1} {bss : List (List Nat)} (hz0 : ∀ b o, Hn b = some o → nz o) (hl : bss.length = xs.length) (hi : Y3 (Zw1 Yi2) Hn v (xs.zip bss)) :
 ∃ rs : List (Value × OL), Xk2 xs rs ∧ Y3 Zn4 Hn v (rs.map Prod.fst) ∧ ((rs.map Prod.snd).flatten).map Prod.fst = bss.flatten ∧ ∀ z, z ∈ (rs.map Prod.snd).flatten → Hn z.1 = some z.2 := by
 obtain ⟨a, c, ⟨hv, hb⟩, h⟩ := hi
 have hz : (xs.zip bss).length = xs.length := by simp [hl]
 rcases h with h2 | ⟨b, o, cs, E, h1, h2, h3⟩
 have hx : xs.length = 0 := by rw [← hz, h2]; rfl
 have hx0 : xs = [] := eq_nil_of_length_eq_zero hx
 subst hx0
 have hb0 : bss = [] := eq_nil_of_length_eq_zero (by rw [hl]; rfl)
 subst hb0
 exact ⟨[], ⟨U, fun j r x h => by simp at h⟩, ⟨a, c, ⟨hv, hb⟩, .inl U⟩, U, by simp⟩
 obtain ⟨rs, hrl, hP⟩ := Yp7 (P := fun j (r : Value × OL) => ∀ y bs, xs[j]? = some y → bss[j]? = some bs → Yu7 9 r.1 y.length r.2 ∧ r.2.map Prod.fst = bs ∧ (∀ z, z ∈ r.2 → Hn z.1 = some z.2) ∧ r.1.oneCell' = true ∧ cs[o + j * 1 + 0]? = some r.1) xs.length (fun j hj => by
  have hp : (xs.zip bss)[j]? = some (xs[j], bss[j]'(by omega)) := by
   rw [getElem?_zip_eq_some]; exact ⟨getElem?_eq_getElem hj, getElem?_eq_getElem (by omega)⟩
  obtain ⟨ecs, ⟨⟨u, rfl, hr⟩, hroot⟩, hc⟩ := h3 j _ hp
  obtain ⟨C, hw, hf, hm⟩ := Y3.win (τ := Ye4) (s := 9) U (by decide) hz0 hr
  refine ⟨(u, C), fun y bs hy hbs => ?_⟩
  rw [getElem?_eq_getElem hj] at hy; cases hy
  rw [getElem?_eq_getElem (by omega)] at hbs; cases hbs
  refine ⟨hw, ?_, hm, hr.isOne, hc 0 (show 0 < 1 by decide)⟩
  rw [hf, ← Xv5]; exact hroot)
 have hget : ∀ (j : Nat) r, rs[j]? = some r → ∃ y bs, xs[j]? = some y ∧ bss[j]? = some bs := fun j r hr => by
  have hj : j < xs.length := by rw [← hrl]; exact (List.getElem?_eq_some_iff.1 hr).1
  exact ⟨_, _, getElem?_eq_getElem hj, getElem?_eq_getElem (by omega)⟩
 refine ⟨rs, ⟨hrl, fun j r x hr hx => ?_⟩, ⟨a, c, ⟨by rw [hv, length_map, hrl, hz], by rw [length_map, hrl, ← hz]; exact hb⟩, .inr ⟨b, o, cs, E, h1, h2, fun j u hu => ?_⟩⟩, ?_, fun z hzm => ?_⟩
 obtain ⟨y, bs, hy, hbs⟩ := hget j r hr
 rw [hx] at hy; cases hy
 exact (hP j r hr _ bs hx hbs).1
 obtain ⟨r, hr, rfl⟩ := Option.map_eq_some_iff.1 (by rw [getElem?_map] at hu; exact hu)
 obtain ⟨y, bs, hy, hbs⟩ := hget j r hr
 obtain ⟨_, _, _, h4, h5⟩ := hP j r hr y bs hy hbs
 refine ⟨[r.1], ⟨U, h4⟩, fun t ht => ?_⟩
 have ht : t < 1 := ht
 have : t = 0 := by omega
 subst this
 exact h5
 rw [map_flatten, map_map]
 congr 1
 apply ext_getElem?
 intro j
 rw [getElem?_map]
 cases hr : rs[j]? with
 | none =>
  have hj := getElem?_eq_none_iff.1 hr
  rw [getElem?_eq_none (by omega)]; rfl
 | some r =>
  obtain ⟨y, bs, hy, hbs⟩ := hget j r hr
  rw [hbs]
  exact congrArg some (hP j r hr y bs hy hbs).2.1
 obtain ⟨C, hC, hzC⟩ := mem_flatten.1 hzm
 obtain ⟨r, hrm, rfl⟩ := mem_map.1 hC
 obtain ⟨j, hj, rfl⟩ := getElem_of_mem hrm
 have hr : rs[j]? = some rs[j] := getElem?_eq_getElem hj
 obtain ⟨y, bs, hy, hbs⟩ := hget j _ hr
 exact (hP j _ hr y bs hy hbs).2.2.1 z hzC
theorem Wn5 {G : FH} {v : Value} {xs : List Value} {bs : List Nat} (h : Y3 Zn4 G v xs) (hb : ∀ b, b ∈ Zn3 v → b ∉ bs) : Y3 Zn4 (G.minus bs) v xs := by
 obtain ⟨a, c, ⟨hv, hl⟩, h⟩ := h
 refine ⟨a, c, ⟨hv, hl⟩, ?_⟩
 rcases h with h | ⟨b, o, cs, E, h1, h2, h3⟩
 exact .inl h
 cases hx : xs.length with
 | zero => exact .inl (eq_nil_of_length_eq_zero hx)
 | succ n =>
 refine .inr ⟨b, o, cs, E, h1, Zy7.2 ⟨hb b ?_, h2⟩, h3⟩
 subst h1; rw [hv, hx]; simp [Zn3]
theorem Wj2 {H0 Hc G : FH} {w : World} {L : OL} {vd vi : Value} {x : F6} {k : Int} (hA : Yc7 H0 Hc (.agg ([vd] ++ [vi]).toArray) x) (hc : Sub Hc G) (hb : Zx4 x ≤ 1000000000000 ∧ 0 ≤ k ∧ k ≤ 1000000) (hL : ∀ b, b < G.lim → H0 b ≠ none) (hS : St G w L) :
 Calls prog 21 #[.agg ([vd] ++ [vi]).toArray, vI k] w (fun e w' => ∃ G', e = .returned (vI (k + Zx4 x)) ∧ St G' w' L ∧ Y3 (Y4 .i64) G' vd (mkA x k).1 ∧ Y3 Yi2 G' vi (mkA x k).2 ∧
  ∀ A : FH, Sub A G → (∀ b, A.memo b = none) → (∀ b, A b ≠ none → H0 b ≠ none ∨ Hc b = none) → Sub A G') := by
 obtain ⟨hb, hk⟩ := hb
 obtain ⟨vd', vi', e, hd, bss, hl, hi, hnd⟩ := hA
 have e' : vd = vd' ∧ vi = vi' := by simpa using e
 obtain ⟨rfl, rfl⟩ := e'
 have hz0 : ∀ b o, (Hc.new H0) b = some o → nz o := fun b o hb' => by
  obtain ⟨h1, h2, _⟩ := A9.1 hb'
  refine hS.nofz b o (hc.1 _ _ h1) ?_
  rcases Nat.lt_or_ge b G.lim with h | h
  exact absurd h2 (hL b h)
  exact h
 obtain ⟨Cd, hwd, hfd, hmd⟩ := Y3.win (τ := Y4 .i64) (s := 1) U (by decide) hz0 hd
 obtain ⟨rs, hrc, hraw, hrf, hrm⟩ := Vd5 hz0 hl hi
 have hcn := Yk5 x.2
 unfold Zx4 at hb ⊢
 have hmem : ∀ z, z ∈ Cd ++ (rs.map Prod.snd).flatten → (Hc.new H0) z.1 = some z.2 := fun z hz => (mem_append.1 hz).elim (hmd z) (hrm z)
 have hfst : (Cd ++ (rs.map Prod.snd).flatten).map Prod.fst = Zn3 vd ++ bss.flatten := by rw [map_append, hfd, hrf]
 rw [append_nil, Xv5, nodup_append] at hnd
 obtain ⟨n1, n2, n3⟩ := hnd
 have hn : ((Cd ++ (rs.map Prod.snd).flatten).map Prod.fst).Nodup := by
  rw [hfst]
  exact (perm_append_comm.nodup_iff).1 n2
 have hS1 := hS.unfreeze (Cd ++ (rs.map Prod.snd).flatten) (fun z hz => hc.1 _ _ (A9.1 (hmem z hz)).1) hn
 rw [hfst] at hS1
 have hbs : ∀ b, b ∈ Zn3 vd ++ bss.flatten → H0 b = none ∧ Hc b ≠ none := fun b hb' => by
  rw [← hfst] at hb'
  obtain ⟨z, hz, rfl⟩ := mem_map.1 hb'
  obtain ⟨h1, h2, _⟩ := A9.1 (hmem z hz)
  exact ⟨h2, by rw [h1]; simp⟩
 have hraw1 : Y3 Zn4 (G.minus (Zn3 vd ++ bss.flatten)) vi (rs.map Prod.fst) := by
  refine Wn5 (hraw.mono ((Zw4 _ _).trans hc)) (fun b hbv hin => ?_)
  rcases mem_append.1 hin with h | h
  exact n3 b hbv b (mem_append_right _ h) U
  exact n3 b hbv b (mem_append_left _ h) U
 have hkeep : ∀ A : FH, Sub A G → (∀ b, A.memo b = none) → (∀ b, A b ≠ none → H0 b ≠ none ∨ Hc b = none) → Sub A (G.minus (Zn3 vd ++ bss.flatten)) := fun A hA hm hd => by
  refine Xp2 hA hm (fun b hb' => ?_)
  cases hq : A b with
  | none => rfl
  | some o =>
   have h1 := hbs b hb'
   rcases hd b (by rw [hq]; simp) with h | h
   exact absurd h1.1 h
   exact absurd h h1.2
 rw [append_assoc] at hS1
 refine X0 func21 U ntmps21 U (Z1 (Z0 (T8 (v := Value.agg ([vd] ++ [vi]).toArray) ([vd] ++ [vi]).toArray U U hS1 U (fun bx w2 hS1 => Z5 (vI 0) U U (Z2 (Z1 (Z0 (Y2 N8 U U (Y1 vd Q9 U (hS1.get mL) U U (Z3 (vI k) U U ?_))))))))))
 have hS2 := hS1.perm (R5 (A1 := Cd)).symm
 refine U9 call22 (W8 U U) U (Wc9 hwd (by omega) (by omega) hS2) ?_
 rintro e w3 ⟨G1, rfl, sb1, hS3, hd1⟩
 refine ⟨_, U, ?_⟩
 refine Z5 (vI (k + (x.1.length : Int))) U U (Z2 (Z1 (Z0 (Y2 Zh6 U U (Y1 vi Yb2 U (hS3.get mL) U U (Z3 (vI (k + (x.1.length : Int))) U U ?_))))))
 have hS4 := hS3.perm (R5 (A1 := (rs.map Prod.snd).flatten)).symm
 refine U9 call33 (W8 U U) U (Xy4 (hraw1.mono sb1) hrc (by omega) (by omega) hS4) ?_
 rintro e w4 ⟨G2, rfl, sb2, hS5, hd2⟩
 refine ⟨_, U, ?_⟩
 refine Z5 (vI (k + (x.1.length : Int) + Zc1 x.2)) U U (Z2 (Z1 (Z0 (Z3 (vI (k + (x.1.length : Int) + Zc1 x.2)) U U (Z5 (vI (k + (x.1.length : Int) + Zc1 x.2)) U U (Z2 (Y9 (vs := [vI (k + (x.1.length : Int) + Zc1 x.2)]) func21 Ut ?_)))))))
 exact ⟨G2, by show Ending.returned (vI _) = _; rw [Int.add_assoc], St.dA (A := [(bx, .cells ([vd] ++ [vi]).toArray 31)]) hS5, hd1.mono sb2, hd2, fun A h1 h2 h3 => ((hkeep A h1 h2 h3).trans sb1).trans sb2⟩
/-! what a marking leaves -/
theorem Yc7.mono {H G G' : FH} {v : Value} {x : F6} (h : Yc7 H G v x) (hs : Sub G G') : Yc7 H G' v x :=
 let ⟨vd, vi, h1, h2, h3⟩ := h; ⟨vd, vi, h1, h2.mono hs, h3.mono hs⟩
theorem Xo8 {H G G' : FH} (h : Sub (G.new H) G') : Sub (G.new H) (G'.new H) :=
 ⟨fun b o e => A9.2 ⟨h.1 b o e, (A9.1 e).2⟩, fun b i e => (by cases e), h.2.2⟩
theorem Yc7.rep {H G : FH} {v : Value} {x : F6} (h : Yc7 H G v x) : (R.agg (Yd6 (X3 (Y4 .i64)) (X3 (X3 yT)))).p G v x :=
 let ⟨vd, vi, h1, h2, h3⟩ := h.old; ⟨[vd] ++ [vi], h1, [vd], [vi], U, ⟨vd, U, h2.old⟩, ⟨vi, U, h3.old⟩⟩
theorem Yc7.rd {H G : FH} {vd vi : Value} {x : F6} (h : Yc7 H G (.agg ([vd] ++ [vi]).toArray) x) : Y3 (Y4 .i64) G vd x.1 ∧ Y3 (X3 yT) G vi x.2 := by
 obtain ⟨vd', vi', e, h2, h3⟩ := h.old
 have e' : vd = vd' ∧ vi = vi' := by simpa using e
 obtain ⟨rfl, rfl⟩ := e'
 exact ⟨h2.old, h3.old⟩
theorem Wa0 {H H1 G : FH} (hL : ∀ b, b < H.lim → H b ≠ none) (h1 : Sub H H1) (hg : Sub H G) : ∀ b, b < G.lim → H1 b ≠ none := by
 intro b hb
 have e : G.lim = H.lim := by unfold FH.lim; rw [hg.2.2]
 rw [e] at hb
 cases hq : H b with
 | none => exact absurd hq (hL b hb)
 | some o => rw [h1.1 _ _ hq]; simp
theorem Ys6 {A B : FH} (h : Sub A B) (b : Nat) (hb : A b ≠ none) : B b ≠ none := by
 cases hq : A b with
 | none => exact absurd hq hb
 | some o => rw [h.1 _ _ hq]; simp
theorem Yx3 {H0 Hc H1 G : FH} (h : Sub Hc H1) : ∀ b, (G.new H1) b ≠ none → H0 b ≠ none ∨ Hc b = none := by
 intro b hb
 refine .inr ?_
 cases hq : Hc b with
 | none => rfl
 | some o =>
  cases hn : (G.new H1) b with
  | none => exact absurd hn hb
  | some p => have := (A9.1 hn).2.1; rw [h.1 _ _ hq] at this; cases this
theorem Ze1.start {α : Type} {τ : Ty α} {E : TypeId} {H : FH} {v : Value} {C : OL} (h : W0 τ E H v [] C) : Ze1 τ E H v [] C [] := by
 refine ⟨[], rfl, ?_, nodup_nil, fun b hb => by cases hb⟩
 rcases h with h | ⟨b, c, cs, h1, h2, h3, h4, h5, h6⟩
 exact .inl ⟨h.1, U, h.2.2⟩
 exact .inr ⟨b, c, cs, h1, h2, h3, h4, h5, fun i x hx => by simp at hx⟩
def Yh8 {α : Type} (τ : Ty α) (E : TypeId) (H : FH) (vA : Value) (xs : List α) (CA : OL) (vB : Value) (ys : List α) (CB : OL) (X : List Nat) : Prop :=
 ∃ bA bB : List (List Nat), bA.length = xs.length ∧ bB.length = ys.length ∧ W0 (Zw1 τ) E H vA (xs.zip bA) CA ∧ W0 (Zw1 τ) E H vB (ys.zip bB) CB ∧ (bA.flatten ++ (bB.flatten ++ X)).Nodup ∧ ∀ b, b ∈ X → H b ≠ none
section
variable {α : Type} {τ : Ty α} {E : TypeId} {H H' : FH} {vA vB : Value} {xs ys : List α} {CA CB : OL} {X R : List Nat}
theorem Yh8.start (h : W0 τ E H vA [] CA) (hn : X.Nodup) (hx : ∀ b, b ∈ X → H b ≠ none) : Yh8 τ E H vA [] CA (.slice none 0 0) [] [] X := by
 refine ⟨[], [], U, U, ?_, W0.nil _ _ _, by simpa using hn, hx⟩
 rcases h with h | ⟨b, c, cs, h1, h2, h3, h4, h5, h6⟩
 exact .inl ⟨h.1, U, h.2.2⟩
 exact .inr ⟨b, c, cs, h1, h2, h3, h4, h5, fun i x hx => by simp at hx⟩
theorem Yh8.mono (h : Yh8 τ E H vA xs CA vB ys CB X) (hs : Sub H H') : Yh8 τ E H' vA xs CA vB ys CB X := by
 obtain ⟨bA, bB, l1, l2, oA, oB, hn, hx⟩ := h
 refine ⟨bA, bB, l1, l2, oA.mono hs, oB.mono hs, hn, fun b hb e => ?_⟩
 cases hq : H b with
 | none => exact hx b hb hq
 | some o => rw [hs.1 _ _ hq] at e; cases e
theorem We2 (A B C : List Nat) : (A ++ (B ++ C)).Perm (B ++ (A ++ C)) := by
 rw [← append_assoc, ← append_assoc]; exact List.Perm.append_right _ perm_append_comm
theorem Yh8.keep (hR : Ye2 τ) (h : Yh8 τ E H vA xs CA vB ys CB X) (hs : Sub H H') (h0 : ∀ b, b ∈ R → H b = none) (h1 : ∀ b, b ∈ R → H' b ≠ none) (hn : R.Nodup) : Yh8 τ E H' vA xs CA vB ys CB (R ++ X) := by
 obtain ⟨bA, bB, l1, l2, oA, oB, hnd, hx⟩ := h
 have rA := Yp5 hR l1 oA
 have rB := Yp5 hR l2 oB
 have hup : ∀ b, H b ≠ none → H' b ≠ none := fun b hb e => by
  cases hq : H b with
  | none => exact hb hq
  | some o => rw [hs.1 _ _ hq] at e; cases e
 have hin : ∀ b, b ∈ bA.flatten ++ (bB.flatten ++ X) → H b ≠ none := fun b hb => by
  rcases mem_append.1 hb with hb | hb
  exact rA b hb
  rcases mem_append.1 hb with hb | hb
  exact rB b hb
  exact hx b hb
 refine ⟨bA, bB, l1, l2, oA.mono hs, oB.mono hs, ?_, fun b hb => ?_⟩
 have hp : (bA.flatten ++ (bB.flatten ++ (R ++ X))).Perm (R ++ (bA.flatten ++ (bB.flatten ++ X))) := by
  exact (List.Perm.append_left _ (We2 _ _ _)).trans (We2 _ _ _)
 rw [hp.nodup_iff, nodup_append]
 exact ⟨hn, hnd, fun a ha b hb e => by subst e; exact hin a hb (h0 a ha)⟩
 rcases mem_append.1 hb with hb | hb
 exact h1 b hb
 exact hup b (hx b hb)
end
def Wy7 (H G : FH) (v0 v1 : Value) (x : F6) (ys : List Zk1) : Prop := ∃ Hm, Sub H Hm ∧ Sub Hm G ∧ RdN Yi2 H Hm v1 ys [] ∧ Yc7 Hm G v0 x
theorem Wy7.zero {H G : FH} (hs : Sub H G) : Wy7 H G (.agg #[.slice none 0 0, .slice none 0 0]) (.slice none 0 0) (([], []) : F6) [] :=
 ⟨H, .refl _, hs, RdN.nil nodup_nil, _, _, U, Y3.nil, RdN.nil (by rw [append_nil]; exact Yh1 _)⟩
theorem Xk2.mono {xs : List Zk1} {rs : List (Value × OL)} {H G : FH} (h : Xk2 xs rs) (_ : Sub H G) : Xk2 xs rs := h
end Go.Proofs.YtabofnehiclkiaaGreat
