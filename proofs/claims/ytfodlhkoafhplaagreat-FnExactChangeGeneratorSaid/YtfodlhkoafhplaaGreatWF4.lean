/- Walks of functions: each computes its pure function, if that gives a value. -/
import Derived.Test.YtfodlhkoafhplaaGreatWTy
import Derived.Test.YtfodlhkoafhplaaGreatWS3
namespace Go.Proofs.YtfodlhkoafhplaaGreat
open Go
set_option linter.unusedSimpArgs false
set_option linter.unusedVariables false
set_option maxRecDepth 100000
set_option maxHeartbeats 8000000
def N1 (K : Nat) (a0 : (List Int)) (a1 : A8) : Nat → Int → Option (Ex Bool (Unit))
 | 0, _ => none
 | k + 1, a3 => (if a3 < 8 then (if (a0.length : Int) ≤ a3 then (if (Y5 a1 a3) = 0 then N1 K a0 a1 k (a3 + 1) else some (.ret false)) else (if 20 < (Y5 a1 a3) then some (.ret false) else (if a3 < (a0.length : Int) then (if (((rd a0 a3)).tmod 2) = 0 then N1 K a0 a1 k (a3 + 1) else (if 1 < (Y5 a1 a3) then some (.ret false) else N1 K a0 a1 k (a3 + 1))) else none))) else some (.go ()))
def Zp0 (K : Nat) (a0 : (List Int)) (a1 : A8) : Option Bool := ((N1 K a0 a1 K 0).bind (Ex.elim (fun r => some r) (fun s => some true)))
theorem Zn6 {K : Nat} {a0 : (List Int)} {a1 : A8} {r : Bool} (q0 : Zp0 K a0 a1 = some r) {H : FH} {w : World} {L : OL} {s0 : Value} (b2 : Y3 (X3 .i64) H s0 a0) (hS : St H w L) :
 Calls Tryz.prog 202 #[s0, vA (Z7 .u8 a1)] w (T6 (fun v G => R.bool.p G v r) H L) := by
 have Z2 := Sub.refl H
 refine X0 Tryz.func202 rfl Tryz.ntmps202 rfl ?_
 unfold Zp0 at q0
 refine Z3 (Z1 ?_)
 refine T7 (v := vA (Z7 .u8 a1)) (Z7 .u8 a1).toArray rfl rfl hS rfl ?_
 intro b1 w2 hS
 refine Z6 (Value.bool false) rfl rfl (Z0 (Z3 (Z3 (Z1 (Z6 (vI 0) rfl rfl (Z0 (Y7 ?_)))))))
 obtain ⟨b8, a4, b0⟩ := bind_some q0
 refine W7 (id := 0) (fun k f w => ∃ (a3 : Int) (H1 : FH), N1 K a0 a1 k a3 = some b8 ∧ Sub H H1 ∧ St H1 w ([(b1, cA (Z7 .u8 a1) 70)] ++ L) ∧ 0 ≤ a3 ∧ Y3 (X3 .i64) H1 s0 a0 ∧ ev f (.tmp 0) = s0 ∧ ev f (.tmp 3) = vP b1 ∧ ev f (.tmp 5) = vI a3) (fun f w => ∃ (H1 : FH), b8 = .go () ∧ Sub H H1 ∧ St H1 w ([(b1, cA (Z7 .u8 a1) 70)] ++ L)) rfl ?_ ?_ K ?_ ?_
 rintro f w ⟨a3, H1, a4, _⟩
 rw [N1] at a4; cases a4
 rintro k c5 c6 b9 c3 ⟨a3, b3, a4, Z2, hS, c4, b2, a9, a8, a5⟩
 rw [N1] at a4
 refine Z3 (Z3 (Z1 (Z4 (vI a3) (by exact a5) rfl ?_)))
 refine U5 (k := .i64) (a := a3) (b := 8) rfl rfl rfl (Z0 ?_)
 by_cases b5 : a3 < 8
 rw [if_pos b5] at a4
 refine Y0 (bT b5 rfl) (Y6 (Z3 (Y7 (Y7 (Z3 (Z1 (Z4 (vI a3) (by exact a5) rfl (Z4 (s0) (by exact a9) rfl ?_))))))))
 have d1 := b2.bound
 refine W6 Q9 rfl b2 rfl ?_
 refine Yb5 (k := .i64) (a := a3) (b := (a0.length : Int)) rfl rfl rfl (Z6 (Value.bool (decide ((a0.length : Int) ≤ a3))) rfl rfl (Z0 ?_))
 by_cases b6 : (a0.length : Int) ≤ a3
 rw [if_pos b6] at a4
 refine Y0 (bT b6 rfl) (Z3 (Z1 (Z4 (vI a3) (by exact a5) rfl ?_)))
 refine W8 Za7 (by exact a8) rfl (by omega) (by omega) rfl ?_
 refine Y4 (Value.int .u8 (Y5 a1 a3)) ty5 rfl (hS.get (o := cA (Z7 .u8 a1) 70) mL) (M3 ([]) ([]) (by omega) (by omega)) rfl ?_
 refine L9 (k := .u8) (a := (Y5 a1 a3)) (b := 0) rfl rfl rfl (Z0 ?_)
 by_cases b7 : (Y5 a1 a3) = 0
 rw [if_pos b7] at a4
 refine Z9 (bN b7 rfl) (Y6 (X2 (X2 (Z1 (Z4 (vI a3) (by exact a5) rfl ?_)))))
 refine V0 (a3 + 1) rfl rfl (IntWalk.i64_in _ (by omega)) rfl (Z6 (vI (a3 + 1)) rfl rfl (Z0 ?_))
 exact b9 _ _ ⟨(a3 + 1), b3, a4, Z2, hS, (by omega), b2, a9, a8, rfl⟩
 rw [if_neg b7] at a4
 refine Y0 (bO b7 rfl) (Z3 (Z1 (Z6 (Value.bool false) rfl rfl (Z0 ?_))))
 refine Y9 (vs := [Value.bool false]) Tryz.func202 ⟨rfl, trivial⟩ ?_
 have hz := Option.some.inj a4
 subst hz
 dsimp only [Ex.elim] at b0
 have hz := Option.some.inj b0
 subst hz
 exact ⟨_, _, rfl, Z2, (St.dropA hS), rfl⟩
 rw [if_neg b6] at a4
 refine Z9 (bF b6 rfl) (Z3 (Z1 (Z4 (vI a3) (by exact a5) rfl ?_)))
 refine W8 Za7 (by exact a8) rfl (by omega) (by omega) rfl ?_
 refine Y4 (Value.int .u8 (Y5 a1 a3)) ty5 rfl (hS.get (o := cA (Z7 .u8 a1) 70) mL) (M3 ([]) ([]) (by omega) (by omega)) rfl ?_
 refine Zc5 (k := .u8) (a := (Y5 a1 a3)) (b := 20) rfl rfl rfl (Z4 (Value.bool (decide (20 < (Y5 a1 a3)))) rfl rfl ?_)
 by_cases a6 : 20 < (Y5 a1 a3)
 rw [if_pos a6] at a4
 refine Z8 rfl rfl (bT a6 rfl) rfl rfl rfl (Z8 rfl rfl (bT a6 rfl) rfl rfl rfl (Z8 rfl rfl (bT a6 rfl) rfl rfl rfl (Z8 rfl rfl (bT a6 rfl) rfl rfl rfl (Z8 rfl rfl (bT a6 rfl) rfl rfl rfl (Z8 rfl rfl (bT a6 rfl) rfl rfl rfl (Z8 rfl rfl (bT a6 rfl) rfl rfl rfl ?_))))))
 refine V3 rfl rfl rfl rfl rfl ?_
 refine V3 rfl rfl rfl rfl rfl ?_
 refine V3 rfl rfl rfl rfl rfl ?_
 refine V3 rfl rfl rfl rfl rfl (Z8 rfl rfl (bT a6 rfl) rfl rfl rfl ?_)
 refine V1 (t := true) (Value.bool true) (bT a6 rfl) ((if_pos rfl).trans rfl) rfl (Z6 (Value.bool true) rfl rfl (Z0 (Y0 rfl (Z3 (Z1 (Z6 (Value.bool false) rfl rfl (Z0 ?_)))))))
 refine Y9 (vs := [Value.bool false]) Tryz.func202 ⟨rfl, trivial⟩ ?_
 have hz := Option.some.inj a4
 subst hz
 dsimp only [Ex.elim] at b0
 have hz := Option.some.inj b0
 subst hz
 exact ⟨_, _, rfl, Z2, (St.dropA hS), rfl⟩
 rw [if_neg a6] at a4
 refine Y1 rfl rfl (bF a6 rfl) (Z4 (s0) (by exact a9) rfl ?_)
 refine Y1 rfl rfl (bF a6 rfl) (Z4 (vI a3) (by exact a5) rfl ?_)
 refine Y1 rfl rfl (bF a6 rfl) ?_
 obtain ⟨d2, a4⟩ := gd a4
 obtain ⟨d3, d4, c7, d5, _, c0, c1, rfl, c2⟩ := b2.elem (i := a3) (by omega) (by omega)
 refine W3 Q9 rfl rfl c0 rfl (by omega) (by omega) rfl ?_
 refine Y1 rfl rfl (bF a6 rfl) ?_
 refine Y4 (vI (rd a0 a3)) ty2 rfl (hS.froz _ _ c1) (c2 0 (show 0 < 1 by decide)) rfl ?_
 refine Y1 rfl rfl (bF a6 rfl) ?_
 refine Zo0 (((rd a0 a3)).tmod 2) rfl rfl (by decide) rfl rfl ?_
 refine Y1 rfl rfl (bF a6 rfl) ?_
 refine L9 (k := .i64) (a := (((rd a0 a3)).tmod 2)) (b := 0) rfl rfl rfl ?_
 refine Y1 rfl rfl (bF a6 rfl) (Z4 (Value.bool (!decide ((((rd a0 a3)).tmod 2) = 0))) rfl rfl ?_)
 by_cases a7 : (((rd a0 a3)).tmod 2) = 0
 rw [if_pos a7] at a4
 refine Z8 rfl rfl (bN a7 rfl) rfl rfl rfl (Z8 rfl rfl (bN a7 rfl) rfl rfl rfl (Z8 rfl rfl (bN a7 rfl) rfl rfl rfl (Z8 rfl rfl (bN a7 rfl) rfl rfl rfl ?_)))
 refine Y1 rfl rfl (bF a6 rfl) ?_
 refine V1 (t := false) (Value.bool false) (bN a7 rfl) ((if_neg Bool.false_ne_true).trans rfl) rfl ?_
 refine V1 (t := false) (Value.bool false) (bF a6 rfl) ((if_neg Bool.false_ne_true).trans rfl) rfl (Z6 (Value.bool false) rfl rfl (Z0 (Z9 rfl (Y6 (X2 (X2 (Z1 (Z4 (vI a3) (by exact a5) rfl ?_))))))))
 refine V0 (a3 + 1) rfl rfl (IntWalk.i64_in _ (by omega)) rfl (Z6 (vI (a3 + 1)) rfl rfl (Z0 ?_))
 exact b9 _ _ ⟨(a3 + 1), b3, a4, Z2, hS, (by omega), b2, a9, a8, rfl⟩
 rw [if_neg a7] at a4
 refine Y1 rfl rfl (bO a7 rfl) (Z4 (vI a3) (by exact a5) rfl ?_)
 refine Y1 rfl rfl (bO a7 rfl) ?_
 refine W8 Za7 (by exact a8) rfl (by omega) (by omega) rfl ?_
 refine Y1 rfl rfl (bO a7 rfl) ?_
 refine Y4 (Value.int .u8 (Y5 a1 a3)) ty5 rfl (hS.get (o := cA (Z7 .u8 a1) 70) mL) (M3 ([]) ([]) (by omega) (by omega)) rfl ?_
 refine Y1 rfl rfl (bO a7 rfl) ?_
 refine Zc5 (k := .u8) (a := (Y5 a1 a3)) (b := 1) rfl rfl rfl ?_
 refine Y1 rfl rfl (bF a6 rfl) ?_
 refine V1 (t := true) (Value.bool (decide (1 < (Y5 a1 a3)))) (bO a7 rfl) ((if_pos rfl).trans rfl) rfl ?_
 refine V1 (t := false) (Value.bool (decide (1 < (Y5 a1 a3)))) (bF a6 rfl) ((if_neg Bool.false_ne_true).trans rfl) rfl (Z6 (Value.bool (decide (1 < (Y5 a1 a3)))) rfl rfl (Z0 ?_))
 by_cases b4 : 1 < (Y5 a1 a3)
 rw [if_pos b4] at a4
 refine Y0 (bT b4 rfl) (Z3 (Z1 (Z6 (Value.bool false) rfl rfl (Z0 ?_))))
 refine Y9 (vs := [Value.bool false]) Tryz.func202 ⟨rfl, trivial⟩ ?_
 have hz := Option.some.inj a4
 subst hz
 dsimp only [Ex.elim] at b0
 have hz := Option.some.inj b0
 subst hz
 exact ⟨_, _, rfl, Z2, (St.dropA hS), rfl⟩
 rw [if_neg b4] at a4
 refine Z9 (bF b4 rfl) (Y6 (X2 (X2 (Z1 (Z4 (vI a3) (by exact a5) rfl ?_)))))
 refine V0 (a3 + 1) rfl rfl (IntWalk.i64_in _ (by omega)) rfl (Z6 (vI (a3 + 1)) rfl rfl (Z0 ?_))
 exact b9 _ _ ⟨(a3 + 1), b3, a4, Z2, hS, (by omega), b2, a9, a8, rfl⟩
 rw [if_neg b5] at a4
 refine Z9 (bF b5 rfl) ?_
 refine W4 rfl ?_
 have hz := Option.some.inj a4
 subst hz
 exact c3 _ _ ⟨b3, rfl, Z2, hS⟩
 exact ⟨0, H, a4, Z2, hS, (by omega), b2, rfl, rfl, rfl⟩
 rintro c8 c9 ⟨d0, rfl, Z2, hS⟩
 dsimp only [Ex.elim] at b0
 refine Z3 (Z1 (Z6 (Value.bool true) rfl rfl (Z0 ?_)))
 refine Y9 (vs := [Value.bool true]) Tryz.func202 ⟨rfl, trivial⟩ ?_
 have hz := Option.some.inj b0
 subst hz
 exact ⟨_, _, rfl, Z2, (St.dropA hS), rfl⟩
/-- maps of one's own, each with a block -/
def Zb5 (vs : List Value) (xs : List MpT) (C : OL) : Prop :=
 ∃ Cs : List OL, Cs.length = xs.length ∧ vs.length = xs.length ∧ C.Perm Cs.flatten ∧ ∀ (j : Nat) v m c, vs[j]? = some v → xs[j]? = some m → Cs[j]? = some c → R1 .i64 v m c
theorem Zb5.mono {vs : List Value} {xs : List MpT} {C : OL} {H G : FH} (h : Zb5 vs xs C) (_ : Sub H G) : Zb5 vs xs C := h
theorem Zb5.nil : Zb5 [] [] [] := ⟨[], rfl, rfl, .refl _, fun j v m c h => by simp at h⟩
theorem Zb5.push {vs : List Value} {xs : List MpT} {C c : OL} {v : Value} {m : MpT} (h : Zb5 vs xs C) (hm : R1 .i64 v m c) : Zb5 (vs ++ [v]) (xs ++ [m]) (c ++ C) := by
 obtain ⟨Cs, l1, l2, hp, hf⟩ := h
 refine ⟨Cs ++ [c], by simp [l1], by simp [l2], ?_, fun j v' m' c' h1 h2 h3 => ?_⟩
 rw [List.flatten_append, List.flatten_cons, List.flatten_nil, List.append_nil]
 exact List.perm_append_comm.trans (List.Perm.append_right _ hp)
 by_cases hj : j < xs.length
 rw [List.getElem?_append_left (by omega)] at h1 h2 h3
 exact hf j v' m' c' h1 h2 h3
 have : j = xs.length := by
  have := (List.getElem?_eq_some_iff.1 h2).1
  simp at this; omega
 subst this
 rw [List.getElem?_append_right (by omega)] at h1 h2 h3
 rw [l2, Nat.sub_self] at h1
 rw [Nat.sub_self] at h2
 rw [l1, Nat.sub_self] at h3
 simp at h1 h2 h3
 subst h1; subst h2; subst h3
 exact hm
theorem Xu9 {Cs : List OL} {j : Nat} (hj : j < Cs.length) : ∃ R : OL, Cs.flatten.Perm (Cs[j] ++ R) ∧ ∀ c : OL, (Cs.set j c).flatten.Perm (c ++ R) := by
 refine ⟨(Cs.take j).flatten ++ (Cs.drop (j + 1)).flatten, ?_, fun c => ?_⟩
 have e : Cs = Cs.take j ++ (Cs[j] :: Cs.drop (j + 1)) := by
  rw [← List.drop_eq_getElem_cons hj, List.take_append_drop]
 have e2 : Cs.flatten = (Cs.take j).flatten ++ (Cs[j] ++ (Cs.drop (j + 1)).flatten) := by
  have := congrArg List.flatten e
  rwa [List.flatten_append, List.flatten_cons] at this
 rw [e2, ← List.append_assoc, ← List.append_assoc]
 exact List.Perm.append_right _ List.perm_append_comm
 rw [List.set_eq_take_append_cons_drop, if_pos hj, List.flatten_append, List.flatten_cons, ← List.append_assoc, ← List.append_assoc]
 exact List.Perm.append_right _ List.perm_append_comm
theorem Zb5.take {vs : List Value} {xs : List MpT} {C : OL} (h : Zb5 vs xs C) {j : Nat} (hj : j < xs.length) :
 ∃ v c R, vs[j]? = some v ∧ C.Perm (c ++ R) ∧ R1 .i64 v xs[j] c ∧ ∀ m' c', R1 .i64 v m' c' → Zb5 vs (xs.set j m') (c' ++ R) := by
 obtain ⟨Cs, l1, l2, hp, hf⟩ := h
 obtain ⟨R, r1, r2⟩ := Xu9 (Cs := Cs) (j := j) (by omega)
 refine ⟨vs[j], Cs[j], R, List.getElem?_eq_getElem _, hp.trans r1, hf j _ _ _ (List.getElem?_eq_getElem _) (List.getElem?_eq_getElem _) (List.getElem?_eq_getElem _), fun m' c' hm => ⟨Cs.set j c', by simp [l1], by simp [l2], (r2 c').symm, fun t v m c h1 h2 h3 => ?_⟩⟩
 by_cases e : j = t
 subst e
 rw [List.getElem?_set_self (by omega)] at h2 h3
 rw [List.getElem?_eq_getElem (by omega)] at h1
 cases h1; cases h2; cases h3
 exact hm
 rw [List.getElem?_set_ne e] at h2 h3
 exact hf t v m c h1 h2 h3
theorem Zb5.freeze {L : OL} {w : World} : ∀ {vs : List Value} {xs : List MpT} {C : OL} {H : FH}, Zb5 vs xs C → St H w (C ++ L) → ∃ H', Sub H H' ∧ St H' w L ∧ ∀ (j : Nat) v m, vs[j]? = some v → xs[j]? = some m → Q1 .i64 H' v m := by
 intro vs
 induction vs with
 | nil =>
  rintro xs C H ⟨Cs, l1, l2, hp, hf⟩ hS
  have hx : xs = [] := List.eq_nil_of_length_eq_zero l2.symm
  subst hx
  have hc : Cs = [] := List.eq_nil_of_length_eq_zero l1
  subst hc
  refine ⟨H, .refl _, hS.perm (by simpa using (List.Perm.append_right L hp).symm), fun j v m h => by simp at h⟩
 | cons v vs ih =>
  rintro xs C H ⟨Cs, l1, l2, hp, hf⟩ hS
  cases xs with
  | nil => simp at l2
  | cons x xs =>
   cases Cs with
   | nil => simp at l1
   | cons c Cs =>
    have h0 := hf 0 v x c rfl rfl rfl
    have hS1 := hS.perm (A := c ++ (Cs.flatten ++ L)) (by
     rw [← List.append_assoc]
     exact List.Perm.append_right _ (by rw [← List.flatten_cons]; exact hp.symm))
    obtain ⟨H1, s1, hS2, r0⟩ := h0.freeze hS1
    obtain ⟨H2, s2, hS3, r1⟩ := ih (xs := xs) (C := Cs.flatten) (H := H1) ⟨Cs, by simpa using l1, by simpa using l2, .refl _, fun j v' m' c' e1 e2 e3 => hf (j + 1) v' m' c' (by simpa using e1) (by simpa using e2) (by simpa using e3)⟩ hS2
    refine ⟨H2, s1.trans s2, hS3, fun j v' m' e1 e2 => ?_⟩
    cases j with
    | zero =>
     simp at e1 e2
     subst e1; subst e2
     exact r0.mono s2
    | succ j => exact r1 j v' m' (by simpa using e1) (by simpa using e2)
/-- eight maps of one's own: the first n are maps, the others are nil -/
def Zf3 (n : Nat) (x : V8) (M : M8) (C : OL) : Prop :=
 ∃ vs ms, vs.length = n ∧ ms.length = n ∧ Zb5 vs ms C ∧ ∀ i : Fin 8, (vs[i.1]? = some (x i) ∧ ms[i.1]? = some (M i)) ∨ (n ≤ i.1 ∧ x i = .map none ∧ M i = [])
theorem Zf3.mono {n : Nat} {x : V8} {M : M8} {C : OL} {H G : FH} (h : Zf3 n x M C) (_ : Sub H G) : Zf3 n x M C := h
theorem Zf3.nil : Zf3 0 J4 (fun _ => []) [] := ⟨[], [], rfl, rfl, Zb5.nil, fun i => .inr ⟨Nat.zero_le _, rfl, rfl⟩⟩
theorem Zf3.push {n : Nat} {x : V8} {M : M8} {C c : OL} {v : Value} {m : MpT} (h : Zf3 n x M C) (hn : n < 8) (hm : R1 .i64 v m c) : Zf3 (n + 1) (Yi7 x (n : Int) v) (Zw9 M (n : Int) m) (c ++ C) := by
 obtain ⟨vs, ms, l1, l2, ho, hi⟩ := h
 refine ⟨vs ++ [v], ms ++ [m], by simp [l1], by simp [l2], ho.push hm, fun i => ?_⟩
 unfold Yi7 Zw9
 rw [Int.toNat_natCast]
 by_cases e : i.1 = n
 rw [if_pos e, if_pos e]
 exact .inl ⟨by rw [List.getElem?_append_right (by omega), l1, e, Nat.sub_self]; rfl, by rw [List.getElem?_append_right (by omega), l2, e, Nat.sub_self]; rfl⟩
 rw [if_neg e, if_neg e]
 rcases hi i with ⟨h1, h2⟩ | ⟨h1, h2⟩
 have := (List.getElem?_eq_some_iff.1 h1).1
 exact .inl ⟨by rw [List.getElem?_append_left this]; exact h1, by rw [List.getElem?_append_left (by omega)]; exact h2⟩
 exact .inr ⟨by omega, h2⟩
theorem Zf3.take {n : Nat} {x : V8} {M : M8} {C : OL} (h : Zf3 n x M C) {i : Int} (h0 : 0 ≤ i) (hi : i < n) (h8 : i < 8) :
 ∃ c R, C.Perm (c ++ R) ∧ R1 .i64 (Ya5 x i) (Zk6 M i) c ∧ ∀ m' c', R1 .i64 (Ya5 x i) m' c' → Zf3 n x (Zw9 M i m') (c' ++ R) := by
 obtain ⟨j, rfl⟩ := Int.eq_ofNat_of_zero_le h0
 obtain ⟨vs, ms, l1, l2, ho, hx⟩ := h
 have hj8 : j < 8 := by omega
 have hjn : j < n := by omega
 obtain ⟨v, c, R, e1, hp, hm, hput⟩ := ho.take (j := j) (by omega)
 have hxj := (hx ⟨j, hj8⟩).resolve_right (fun h => by have := h.1; simp at this; omega)
 have ev : v = x ⟨j, hj8⟩ := by have := hxj.1; simp at this; rw [this] at e1; exact (Option.some.inj e1).symm
 have em : ms[j]'(by omega) = M ⟨j, hj8⟩ := by have := hxj.2; simp at this; rw [List.getElem?_eq_getElem (by omega)] at this; exact Option.some.inj this
 have iv : Ya5 x (j : Int) = x ⟨j, hj8⟩ := by unfold Ya5; rw [dif_pos (by omega)]; rfl
 have im : Zk6 M (j : Int) = M ⟨j, hj8⟩ := by unfold Zk6; rw [dif_pos (by omega)]; rfl
 rw [iv, im, ← ev, ← em]
 refine ⟨c, R, hp, hm, fun m' c' hm' => ⟨vs, ms.set j m', l1, by simp [l2], hput m' c' hm', fun t => ?_⟩⟩
 unfold Zw9
 rw [Int.toNat_natCast]
 by_cases e : t.1 = j
 rw [if_pos e]
 rcases hx t with ⟨h1, h2⟩ | ⟨h1, _⟩
 exact .inl ⟨h1, by rw [e, List.getElem?_set_self (by omega)]⟩
 omega
 rw [if_neg e]
 rcases hx t with ⟨h1, h2⟩ | h
 exact .inl ⟨h1, by rw [List.getElem?_set_ne (by omega)]; exact h2⟩
 exact .inr h
theorem Zf3.freeze {n : Nat} {x : V8} {M : M8} {C L : OL} {H : FH} {w : World} (h : Zf3 n x M C) (hS : St H w (C ++ L)) : ∃ H', Sub H H' ∧ St H' w L ∧ RdV .i64 H' x M := by
 obtain ⟨vs, ms, l1, l2, ho, hx⟩ := h
 obtain ⟨H', s, hS', hr⟩ := ho.freeze hS
 refine ⟨H', s, hS', fun i => ?_⟩
 rcases hx i with ⟨h1, h2⟩ | ⟨_, h1, h2⟩
 exact hr _ _ _ h1 h2
 rw [h1, h2]; exact Q1.nil
theorem Zf3.one {n : Nat} {x : V8} {M : M8} {C : OL} (h : Zf3 n x M C) : ∀ u, u ∈ U2 x → u.oneCell' = true := by
 obtain ⟨vs, ms, l1, l2, ⟨Cs, c1, c2, hp, hf⟩, hx⟩ := h
 have h1 : ∀ i, (x i).oneCell' = true := fun i => by
  rcases hx i with ⟨h1, h2⟩ | ⟨_, h1, _⟩
  have hi := (List.getElem?_eq_some_iff.1 h2).1
  exact (hf i.1 _ _ _ h1 h2 (List.getElem?_eq_getElem (by omega))).isOne
  rw [h1]; rfl
 intro u hu
 simp only [U2, List.mem_cons, List.not_mem_nil, or_false] at hu
 rcases hu with rfl | rfl | rfl | rfl | rfl | rfl | rfl | rfl <;> exact h1 _
def G5 (K : Nat) (a0 : A8) (a1 : A8) : Nat → Int → Option (Ex Bool (Unit))
 | 0, _ => none
 | k + 1, a3 => (if a3 < 8 then (if (Y5 a0 a3) = (Y5 a1 a3) then G5 K a0 a1 k (a3 + 1) else some (.ret (decide ((Y5 a1 a3) < (Y5 a0 a3))))) else some (.go ()))
def Zc9 (K : Nat) (a0 : A8) (a1 : A8) : Option Bool := ((G5 K a0 a1 K 0).bind (Ex.elim (fun r => some r) (fun s => some false)))
theorem Zr2 {K : Nat} {a0 : A8} {a1 : A8} {r : Bool} (q0 : Zc9 K a0 a1 = some r) {H : FH} {w : World} {L : OL} (hS : St H w L) :
 Calls Tryz.prog 203 #[vA (Z7 .u8 a0), vA (Z7 .u8 a1)] w (T6 (fun v G => R.bool.p G v r) H L) := by
 have Z2 := Sub.refl H
 refine X0 Tryz.func203 rfl Tryz.ntmps203 rfl ?_
 unfold Zc9 at q0
 refine Z3 (Z1 ?_)
 refine T7 (v := vA (Z7 .u8 a0)) (Z7 .u8 a0).toArray rfl rfl hS rfl ?_
 intro b1 w2 hS
 refine T7 (v := vA (Z7 .u8 a1)) (Z7 .u8 a1).toArray rfl rfl hS rfl ?_
 intro b4 w5 hS
 refine Z6 (Value.bool false) rfl rfl (Z0 (Z3 (Z3 (Z1 (Z6 (vI 0) rfl rfl (Z0 (Y7 ?_)))))))
 obtain ⟨b5, a4, a8⟩ := bind_some q0
 refine W7 (id := 0) (fun k f w => ∃ (a3 : Int) (H1 : FH), G5 K a0 a1 k a3 = some b5 ∧ Sub H H1 ∧ St H1 w ([(b4, cA (Z7 .u8 a1) 70)] ++ ([(b1, cA (Z7 .u8 a0) 70)] ++ L)) ∧ 0 ≤ a3 ∧ ev f (.tmp 2) = vP b1 ∧ ev f (.tmp 3) = vP b4 ∧ ev f (.tmp 5) = vI a3) (fun f w => ∃ (H1 : FH), b5 = .go () ∧ Sub H H1 ∧ St H1 w ([(b4, cA (Z7 .u8 a1) 70)] ++ ([(b1, cA (Z7 .u8 a0) 70)] ++ L))) rfl ?_ ?_ K ?_ ?_
 rintro f w ⟨a3, H1, a4, _⟩
 rw [G5] at a4; cases a4
 rintro k g4 g5 e6 e7 ⟨a3, d1, a4, Z2, hS, e8, a6, a7, a5⟩
 rw [G5] at a4
 refine Z3 (Z3 (Z1 (Z4 (vI a3) (by exact a5) rfl ?_)))
 refine U5 (k := .i64) (a := a3) (b := 8) rfl rfl rfl (Z0 ?_)
 by_cases b2 : a3 < 8
 rw [if_pos b2] at a4
 refine Y0 (bT b2 rfl) (Y6 (Z3 (Y7 (Z3 ?_))))
 refine V4 7 (R9 [(10, MP.eq (vI a3)), (11, MP.eq (Value.pointer (some ⟨b1, 0 + (a3).toNat * 1, none⟩))), (12, MP.eq (Value.int .u8 (Y5 a0 a3))), (13, MP.eq (vI a3)), (14, MP.eq (Value.pointer (some ⟨b4, 0 + (a3).toNat * 1, none⟩))), (15, MP.eq (Value.int .u8 (Y5 a1 a3))), (16, MP.eq (Value.bool (!decide ((Y5 a0 a3) = (Y5 a1 a3)))))]) [] mixed rfl rfl rfl hS (Z5 rfl ?_ (Z5 rfl ?_ (Z5 rfl ?_ (Z5 rfl ?_ (Z5 rfl ?_ (Z5 rfl ?_ (Z5 rfl ?_ V9))))))) ?_
 intro f8 w9 k9 l0 g6 hS d2 g7 hcq
 refine Z4 (vI a3) (evT (d2 5 rfl) a5) rfl ?_
 exact qn (.refl _) rfl hS rfl
 intro l1 l2 l3 l4 g8 hS d3 d4 hcq
 refine W8 Za7 (evT (d3 2 rfl) a6) (eM (d4 0 10 rfl rfl)) (by omega) (by omega) rfl ?_
 exact qn (.refl _) rfl hS rfl
 intro l5 l6 l7 l9 g9 hS h0 d5 hcq
 refine Y4 (Value.int .u8 (Y5 a0 a3)) ty5 (eM (d5 1 11 rfl rfl)) (hS.get (o := cA (Z7 .u8 a0) 70) (mR (mR mL))) (M3 ([]) ([]) (by omega) (by omega)) rfl ?_
 exact qn (.refl _) rfl hS rfl
 intro m0 m1 m2 m3 h1 hS d6 h2 hcq
 refine Z4 (vI a3) (evT (d6 5 rfl) a5) rfl ?_
 exact qn (.refl _) rfl hS rfl
 intro m4 m5 m6 m7 h3 hS d7 d8 hcq
 refine W8 Za7 (evT (d7 3 rfl) a7) (eM (d8 3 13 rfl rfl)) (by omega) (by omega) rfl ?_
 exact qn (.refl _) rfl hS rfl
 intro m8 m9 n0 n1 h4 hS h5 d9 hcq
 refine Y4 (Value.int .u8 (Y5 a1 a3)) ty5 (eM (d9 4 14 rfl rfl)) (hS.get (o := cA (Z7 .u8 a1) 70) (mR mL)) (M3 ([]) ([]) (by omega) (by omega)) rfl ?_
 exact qn (.refl _) rfl hS rfl
 intro n2 n3 n4 n5 h6 hS h7 b6 hcq
 refine L9 (k := .u8) (a := (Y5 a0 a3)) (b := (Y5 a1 a3)) (eM (b6 2 12 rfl rfl)) (eM (b6 5 15 rfl rfl)) rfl ?_
 exact qn (.refl _) rfl hS rfl
 intro e9 f0 c7 e0 hS b0 e1 hcq
 have hS : St c7 f0 ([(b4, cA (Z7 .u8 a1) 70)] ++ ([(b1, cA (Z7 .u8 a0) 70)] ++ L)) := hS
 have Z2 := Z2.trans e0
 have c8 := evT (b0 2 rfl) a6
 have c9 := evT (b0 3 rfl) a7
 have b7 := evT (b0 5 rfl) a5
 have d0 : ev e9 (.tmp 16) = Value.bool (!decide ((Y5 a0 a3) = (Y5 a1 a3))) := e1 6 16 (by decide) rfl
 refine Z0 ?_
 by_cases a9 : (Y5 a0 a3) = (Y5 a1 a3)
 rw [if_pos a9] at a4
 refine Z9 (bN a9 (by exact d0)) (Y6 (X2 (Z1 (Z4 (vI a3) (by exact b7) rfl ?_))))
 refine V0 (a3 + 1) rfl rfl (IntWalk.i64_in _ (by omega)) rfl (Z6 (vI (a3 + 1)) rfl rfl (Z0 ?_))
 exact e6 _ _ ⟨(a3 + 1), c7, a4, Z2, hS, (by omega), c8, c9, rfl⟩
 rw [if_neg a9] at a4
 refine Y0 (bO a9 (by exact d0)) (Z3 ?_)
 refine V4 8 (R9 [(17, MP.eq (vI a3)), (18, MP.eq (Value.pointer (some ⟨b1, 0 + (a3).toNat * 1, none⟩))), (19, MP.eq (Value.int .u8 (Y5 a0 a3))), (20, MP.eq (vI a3)), (21, MP.eq (Value.pointer (some ⟨b4, 0 + (a3).toNat * 1, none⟩))), (22, MP.eq (Value.int .u8 (Y5 a1 a3))), (23, MP.eq (Value.bool (decide ((Y5 a1 a3) < (Y5 a0 a3))))), (4, MP.eq (Value.bool (decide ((Y5 a1 a3) < (Y5 a0 a3)))))]) [] mixed rfl rfl rfl hS (Z5 rfl ?_ (Z5 rfl ?_ (Z5 rfl ?_ (Z5 rfl ?_ (Z5 rfl ?_ (Z5 rfl ?_ (Z5 rfl ?_ (Z5 rfl ?_ V9)))))))) ?_
 intro n6 n7 n8 n9 h8 hS e2 h9 hcq
 refine Z4 (vI a3) (evT (e2 5 rfl) b7) rfl ?_
 exact qn (.refl _) rfl hS rfl
 intro o0 o1 o2 o3 i0 hS e3 b8 hcq
 refine W8 Za7 (evT (e3 2 rfl) c8) (eM (b8 0 17 rfl rfl)) (by omega) (by omega) rfl ?_
 exact qn (.refl _) rfl hS rfl
 intro i1 i2 i3 i4 f1 hS f2 b9 hcq
 refine Y4 (Value.int .u8 (Y5 a0 a3)) ty5 (eM (b9 1 18 rfl rfl)) (hS.get (o := cA (Z7 .u8 a0) 70) (mR (mR mL))) (M3 ([]) ([]) (by omega) (by omega)) rfl ?_
 exact qn (.refl _) rfl hS rfl
 intro i5 i6 i7 i8 f3 hS c0 f4 hcq
 refine Z4 (vI a3) (evT (c0 5 rfl) b7) rfl ?_
 exact qn (.refl _) rfl hS rfl
 intro i9 j0 j1 j2 f5 hS c1 c2 hcq
 refine W8 Za7 (evT (c1 3 rfl) c9) (eM (c2 3 20 rfl rfl)) (by omega) (by omega) rfl ?_
 exact qn (.refl _) rfl hS rfl
 intro j3 j4 j5 j6 f6 hS f7 c3 hcq
 refine Y4 (Value.int .u8 (Y5 a1 a3)) ty5 (eM (c3 4 21 rfl rfl)) (hS.get (o := cA (Z7 .u8 a1) 70) (mR mL)) (M3 ([]) ([]) (by omega) (by omega)) rfl ?_
 exact qn (.refl _) rfl hS rfl
 intro j7 j8 j9 k0 f9 hS g0 b3 hcq
 refine Zc5 (k := .u8) (a := (Y5 a0 a3)) (b := (Y5 a1 a3)) (eM (b3 2 19 rfl rfl)) (eM (b3 5 22 rfl rfl)) rfl ?_
 exact qn (.refl _) rfl hS rfl
 intro k1 k2 k3 k4 g1 hS g2 c4 hcq
 refine Z6 (Value.bool (decide ((Y5 a1 a3) < (Y5 a0 a3)))) (eM (c4 6 23 rfl rfl)) rfl ?_
 exact qn (.refl _) rfl hS rfl
 intro k5 e4 e5 c5 hS g3 c6 hcq
 have hS : St e5 e4 ([(b4, cA (Z7 .u8 a1) 70)] ++ ([(b1, cA (Z7 .u8 a0) 70)] ++ L)) := hS
 have Z2 := Z2.trans c5
 refine Z0 ?_
 refine Y9 (vs := [Value.bool (decide ((Y5 a1 a3) < (Y5 a0 a3)))]) Tryz.func203 ⟨(by exact (eM (c6 7 4 (by decide) rfl))), trivial⟩ ?_
 have hz := Option.some.inj a4
 subst hz
 dsimp only [Ex.elim] at a8
 have hz := Option.some.inj a8
 subst hz
 exact ⟨_, _, rfl, Z2, (St.dropA (St.dropA hS)), rfl⟩
 rw [if_neg b2] at a4
 refine Z9 (bF b2 rfl) ?_
 refine W4 rfl ?_
 have hz := Option.some.inj a4
 subst hz
 exact e7 _ _ ⟨d1, rfl, Z2, hS⟩
 exact ⟨0, H, a4, Z2, hS, (by omega), rfl, rfl, rfl⟩
 rintro k6 k7 ⟨k8, rfl, Z2, hS⟩
 dsimp only [Ex.elim] at a8
 refine Z3 (Z1 (Z6 (Value.bool false) rfl rfl (Z0 ?_)))
 refine Y9 (vs := [Value.bool false]) Tryz.func203 ⟨rfl, trivial⟩ ?_
 have hz := Option.some.inj a8
 subst hz
 exact ⟨_, _, rfl, Z2, (St.dropA (St.dropA hS)), rfl⟩
def D1 (K : Nat) (c7 : Int → Option (Ex Bool (Unit))) (a1 : A8) (a3 : Int) (a5 : Int) : Option (Ex Bool (Unit)) := (if a5 < (Y5 a1 a3) then some (.ret false) else c7 (a3 + 1))
def S6 (K : Nat) (a0 : (List Int)) (a1 : A8) : Nat → Int → Option (Ex Bool (Unit))
 | 0, _ => none
 | k + 1, a3 => (if a3 < 8 then (if a3 < (a0.length : Int) then (if (((rd a0 a3)).tmod 2) = 1 then D1 K (S6 K a0 a1 k) a1 a3 1 else D1 K (S6 K a0 a1 k) a1 a3 20) else D1 K (S6 K a0 a1 k) a1 a3 0) else some (.go ()))
def Zi0 (K : Nat) (a0 : (List Int)) (a1 : A8) : Option Bool := ((S6 K a0 a1 K 0).bind (Ex.elim (fun r => some r) (fun s => some true)))
theorem Yk8 {K : Nat} {a0 : (List Int)} {a1 : A8} {r : Bool} (q0 : Zi0 K a0 a1 = some r) {H : FH} {w : World} {L : OL} {s0 : Value} (a9 : Y3 (X3 .i64) H s0 a0) (hS : St H w L) :
 Calls Tryz.prog 220 #[s0, vA (Z7 .u8 a1)] w (T6 (fun v G => R.bool.p G v r) H L) := by
 have Z2 := Sub.refl H
 refine X0 Tryz.func220 rfl Tryz.ntmps220 rfl ?_
 unfold Zi0 at q0
 refine Z3 (Z1 ?_)
 refine T7 (v := vA (Z7 .u8 a1)) (Z7 .u8 a1).toArray rfl rfl hS rfl ?_
 intro b1 w2 hS
 refine Z6 (Value.bool false) rfl rfl (Z0 (Z3 (Z3 (Z1 ?_))))
 refine X8 N0 rfl (hS.get mL) rfl rfl (Z4 (vI 0) rfl rfl (Z0 (Y7 ?_)))
 obtain ⟨b4, a4, b2⟩ := bind_some q0
 refine W7 (id := 0) (fun k f w => ∃ (a3 : Int) (H1 : FH), S6 K a0 a1 k a3 = some b4 ∧ Sub H H1 ∧ St H1 w ([(b1, cA (Z7 .u8 a1) 70)] ++ L) ∧ 0 ≤ a3 ∧ Y3 (X3 .i64) H1 s0 a0 ∧ ev f (.tmp 0) = s0 ∧ ev f (.tmp 8) = vA (Z7 .u8 a1) ∧ ev f (.tmp 9) = vI a3) (fun f w => ∃ (H1 : FH), b4 = .go () ∧ Sub H H1 ∧ St H1 w ([(b1, cA (Z7 .u8 a1) 70)] ++ L)) rfl ?_ ?_ K ?_ ?_
 rintro f w ⟨a3, H1, a4, _⟩
 rw [S6] at a4; cases a4
 rintro k d5 d6 c8 c9 ⟨a3, b3, a4, Z2, hS, d0, a9, a7, a8, a6⟩
 rw [S6] at a4
 refine Z3 (Z1 ?_)
 refine U5 (k := .i64) (a := a3) (b := 8) (by exact a6) rfl rfl (Z0 (Z3 ?_))
 by_cases b5 : a3 < 8
 rw [if_pos b5] at a4
 refine Y0 (bT b5 rfl) (Y6 (Z3 (Y7 (Z3 (Z1 (Z4 (vI a3) (by exact a6) rfl ?_))))))
 refine Ye6 (Value.int .u8 (Y5 a1 a3)) Za7 (by exact a8) (by exact a6) (by omega) (by omega) (Yc7 (by omega) (by omega)) rfl (Z6 (vI a3) rfl rfl (Z6 (Value.int .u8 (Y5 a1 a3)) rfl rfl (Z0 (Z3 (Z1 (Z6 (Value.int .u8 0) rfl rfl (Z0 (Z3 (Z3 (Z1 (Z4 (vI a3) rfl rfl (Z4 (s0) (by exact a7) rfl ?_))))))))))))
 have e0 := a9.bound
 refine W6 Q9 rfl a9 rfl ?_
 refine U5 (k := .i64) (a := a3) (b := (a0.length : Int)) rfl rfl rfl (Z0 ?_)
 refine E9 (fun f w => ∃ (a5 : Int) (H1 : FH), D1 K (S6 K a0 a1 k) a1 a3 a5 = some b4 ∧ Sub H H1 ∧ St H1 w ([(b1, cA (Z7 .u8 a1) 70)] ++ L) ∧ Y3 (X3 .i64) H1 s0 a0 ∧ ev f (.tmp 0) = s0 ∧ ev f (.tmp 6) = Value.int .u8 (Y5 a1 a3) ∧ ev f (.tmp 7) = Value.int .u8 a5 ∧ ev f (.tmp 8) = vA (Z7 .u8 a1) ∧ ev f (.tmp 9) = vI a3) ?_ ?_
 rintro e1 d4 ⟨a5, c6, b0, Z2, hS, a9, c0, c1, c2, c3, c4⟩
 unfold D1 at b0
 refine Z3 (Z1 (Z4 (Value.int .u8 (Y5 a1 a3)) (by exact c1) rfl (Z4 (Value.int .u8 a5) (by exact c2) rfl ?_)))
 refine Zc5 (k := .u8) (a := (Y5 a1 a3)) (b := a5) rfl rfl rfl (Z0 ?_)
 by_cases b6 : a5 < (Y5 a1 a3)
 rw [if_pos b6] at b0
 refine Y0 (bT b6 rfl) (Z3 (Z1 (Z6 (Value.bool false) rfl rfl (Z0 ?_))))
 refine Y9 (vs := [Value.bool false]) Tryz.func220 ⟨rfl, trivial⟩ ?_
 have hz := Option.some.inj b0
 subst hz
 dsimp only [Ex.elim] at b2
 have hz := Option.some.inj b2
 subst hz
 exact ⟨_, _, rfl, Z2, (St.dropA hS), rfl⟩
 rw [if_neg b6] at b0
 refine Z9 (bF b6 rfl) (Y6 (X2 (Z1 ?_)))
 refine V0 (a3 + 1) (by exact c4) rfl (IntWalk.i64_in _ (by omega)) rfl (Z4 (vI (a3 + 1)) rfl rfl (Z0 ?_))
 exact c8 _ _ ⟨(a3 + 1), c6, b0, Z2, hS, (by omega), a9, c0, c3, rfl⟩
 intro c5
 by_cases b7 : a3 < (a0.length : Int)
 rw [if_pos b7] at a4
 refine Y0 (bT b7 rfl) (Z3 (Z1 (Z6 (Value.int .u8 20) rfl rfl (Z0 (Z3 (Z1 (Z4 (s0) (by exact a7) rfl (Z4 (vI a3) rfl rfl ?_))))))))
 obtain ⟨b8, o8, e2, E8, _, d1, d2, rfl, d3⟩ := a9.elem (i := a3) (by omega) (by omega)
 refine W3 Q9 rfl rfl d1 rfl (by omega) (by omega) rfl ?_
 refine Y4 (vI (rd a0 a3)) ty2 rfl (hS.froz _ _ d2) (d3 0 (show 0 < 1 by decide)) rfl ?_
 refine Zo0 (((rd a0 a3)).tmod 2) rfl rfl (by decide) rfl rfl ?_
 refine Zf2 (k := .i64) (a := (((rd a0 a3)).tmod 2)) (b := 1) rfl rfl rfl (Z0 ?_)
 by_cases b9 : (((rd a0 a3)).tmod 2) = 1
 rw [if_pos b9] at a4
 refine Y0 (bT b9 rfl) (Z1 (Z6 (Value.int .u8 1) rfl rfl (Z0 ?_)))
 exact c5 _ _ ⟨1, b3, a4, Z2, hS, a9, a7, rfl, rfl, a8, a6⟩
 rw [if_neg b9] at a4
 refine Z9 (bF b9 rfl) (Y6 ?_)
 exact c5 _ _ ⟨20, b3, a4, Z2, hS, a9, a7, rfl, rfl, a8, a6⟩
 rw [if_neg b7] at a4
 refine Z9 (bF b7 rfl) (Y6 ?_)
 exact c5 _ _ ⟨0, b3, a4, Z2, hS, a9, a7, rfl, rfl, a8, a6⟩
 rw [if_neg b5] at a4
 refine Z9 (bF b5 rfl) ?_
 refine W4 rfl ?_
 have hz := Option.some.inj a4
 subst hz
 exact c9 _ _ ⟨b3, rfl, Z2, hS⟩
 exact ⟨0, H, a4, Z2, hS, (by omega), a9, rfl, rfl, rfl⟩
 rintro d7 d8 ⟨d9, rfl, Z2, hS⟩
 dsimp only [Ex.elim] at b2
 refine Z3 (Z1 (Z6 (Value.bool true) rfl rfl (Z0 ?_)))
 refine Y9 (vs := [Value.bool true]) Tryz.func220 ⟨rfl, trivial⟩ ?_
 have hz := Option.some.inj b2
 subst hz
 exact ⟨_, _, rfl, Z2, (St.dropA hS), rfl⟩
def T2 (K : Nat) (a0 : MpT) (a1 : ((A8 × Int) → Option Bool)) : Nat → Int → Option (Ex Int (Unit))
 | 0, _ => none
 | k + 1, a3 => (if a3 < (a0.length : Int) then ((a1 ((rd a0 a3).1, (rd a0 a3).2)).bind fun r4 => (if r4 = true then some (.ret a3) else T2 K a0 a1 k (a3 + 1))) else some (.go ()))
def L0 (K : Nat) (a0 : MpT) (a1 : ((A8 × Int) → Option Bool)) : Option Int := ((T2 K a0 a1 K 0).bind (Ex.elim (fun r => some r) (fun s => some (-1))))
theorem Zo5 {K : Nat} {a0 : MpT} {a1 : ((A8 × Int) → Option Bool)} {r : Int} (q0 : L0 K a0 a1 = some r) {H : FH} {w : World} {L : OL} {s0 : Value} {s1 : Value} (a6 : Y3 yT H s0 a0) (a7 : FnQ Tryz.prog s1 (R.agg yT) a1 H) (hS : St H w L) :
 Calls Tryz.prog 236 #[s0, s1] w (T6 (fun v G => (R.int .i64).p G v r) H L) := by
 have Z2 := Sub.refl H
 refine X0 Tryz.func236 rfl Tryz.ntmps236 rfl ?_
 unfold L0 at q0
 refine Z3 (Z1 (Z6 (vI 0) rfl rfl (Z0 (Z3 (Z3 (Z1 (Z4 (s0) rfl rfl ?_)))))))
 have d0 := a6.bound
 refine W6 S9 rfl a6 rfl (Z4 (vI 0) rfl rfl (Z0 (Y7 ?_)))
 obtain ⟨b5, a4, b1⟩ := bind_some q0
 refine W7 (id := 0) (fun k f w => ∃ (a3 : Int) (H1 : FH), T2 K a0 a1 k a3 = some b5 ∧ Sub H H1 ∧ St H1 w (L) ∧ 0 ≤ a3 ∧ Y3 yT H1 s0 a0 ∧ FnQ Tryz.prog s1 (R.agg yT) a1 H1 ∧ ev f (.tmp 0) = s0 ∧ ev f (.tmp 1) = s1 ∧ ev f (.tmp 7) = vI (a0.length : Int) ∧ ev f (.tmp 8) = vI a3) (fun f w => ∃ (H1 : FH), b5 = .go () ∧ Sub H H1 ∧ St H1 w (L)) rfl ?_ ?_ K ?_ ?_
 rintro f w ⟨a3, H1, a4, _⟩
 rw [T2] at a4; cases a4
 rintro k c5 c6 b8 b9 ⟨a3, b7, a4, Z2, hS, c0, a6, a7, a8, a9, b0, a5⟩
 rw [T2] at a4
 refine Z3 (Z1 ?_)
 refine U5 (k := .i64) (a := a3) (b := (a0.length : Int)) (by exact a5) (by exact b0) rfl (Z0 (Z3 ?_))
 by_cases b2 : a3 < (a0.length : Int)
 rw [if_pos b2] at a4
 refine Y0 (Eq.trans rfl (congrArg Value.bool (decide_eq_true b2))) (Y6 (Z3 (Y7 (Z3 (Z1 (Z4 (vI a3) (by exact a5) rfl (Z6 (vI a3) rfl rfl (Z0 (Z3 (Z1 (Z4 (s1) (by exact a9) rfl (Z4 (s0) (by exact a8) rfl (Z4 (vI a3) rfl rfl ?_)))))))))))))
 obtain ⟨b3, o3, d1, E3, _, c1, c2, ⟨_, _, rfl, rfl, rfl⟩, c3⟩ := a6.elem (i := a3) (by omega) (by omega)
 refine W3 S9 rfl rfl c1 rfl (by omega) (by omega) rfl ?_
 refine V5 (Z7 .u8 ((rd a0 a3).1) ++ [vI ((rd a0 a3).2)]) Zs8 rfl (hS.froz _ _ c2) rfl c3 rfl ?_
 obtain ⟨r4, c4, a4⟩ := bind_some a4
 refine Yy8 a7 rfl rfl hS ⟨_, rfl, ⟨_, _, rfl, rfl, rfl⟩⟩ c4 rfl ?_
 intro H4 w5 b6 hS
 have Z2 := Z2.trans b6
 have a6 := a6.mono b6
 have a7 := a7.mono b6
 refine Z0 ?_
 by_cases b4 : r4 = true
 rw [if_pos b4] at a4
 refine Y0 (Eq.trans rfl (congrArg Value.bool b4)) (Z3 (Z1 (Z4 (vI a3) rfl rfl (Z6 (vI a3) rfl rfl (Z0 ?_)))))
 refine Y9 (vs := [vI a3]) Tryz.func236 ⟨rfl, trivial⟩ ?_
 have hz := Option.some.inj a4
 subst hz
 dsimp only [Ex.elim] at b1
 have hz := Option.some.inj b1
 subst hz
 exact ⟨_, _, rfl, Z2, hS, rfl⟩
 rw [if_neg b4] at a4
 refine Z9 (Eq.trans rfl (congrArg Value.bool (W2 b4))) (Y6 (X2 (Z1 ?_)))
 refine V0 (a3 + 1) (by exact a5) rfl (IntWalk.i64_in _ (by omega)) rfl (Z4 (vI (a3 + 1)) rfl rfl (Z0 ?_))
 exact b8 _ _ ⟨(a3 + 1), H4, a4, Z2, hS, (by omega), a6, a7, a8, a9, b0, rfl⟩
 rw [if_neg b2] at a4
 refine Z9 (Eq.trans rfl (congrArg Value.bool (decide_eq_false b2))) ?_
 refine W4 rfl ?_
 have hz := Option.some.inj a4
 subst hz
 exact b9 _ _ ⟨b7, rfl, Z2, hS⟩
 exact ⟨0, H, a4, Z2, hS, (by omega), a6, a7, rfl, rfl, rfl, rfl⟩
 rintro c7 c8 ⟨c9, rfl, Z2, hS⟩
 dsimp only [Ex.elim] at b1
 refine Z3 (Z1 (Z6 (vI (-1)) rfl rfl (Z0 ?_)))
 refine Y9 (vs := [vI (-1)]) Tryz.func236 ⟨rfl, trivial⟩ ?_
 have hz := Option.some.inj b1
 subst hz
 exact ⟨_, _, rfl, Z2, hS, rfl⟩
def Za4 (K : Nat) (a0 : MpT) (a1 : Int) : Nat → Int → Option (Ex Bool (Unit))
 | 0, _ => none
 | k + 1, a3 => (if a3 < (a0.length : Int) then (if 0 ≤ a1 then (if a1 < 8 then (if 0 < (Y5 ((rd a0 a3).1) a1) then some (.ret true) else Za4 K a0 a1 k (a3 + 1)) else none) else none) else some (.go ()))
def Zl3 (K : Nat) (a0 : MpT) (a1 : Int) : Option Bool := ((Za4 K a0 a1 K 0).bind (Ex.elim (fun r => some r) (fun s => some false)))
theorem Yc5 {K : Nat} {a0 : MpT} {a1 : Int} {r : Bool} (q0 : Zl3 K a0 a1 = some r) {H : FH} {w : World} {L : OL} {s0 : Value} (a7 : Y3 yT H s0 a0) (hS : St H w L) :
 Calls Tryz.prog 141 #[vA ([s0]), vI a1] w (T6 (fun v G => R.bool.p G v r) H L) := by
 have Z2 := Sub.refl H
 refine X0 Tryz.func141 rfl Tryz.ntmps141 rfl ?_
 unfold Zl3 at q0
 refine Z3 (Z1 ?_)
 refine T7 (v := vA ([s0])) ([s0]).toArray rfl rfl hS rfl ?_
 intro b1 w2 hS
 refine Z6 (Value.bool false) rfl rfl (Z0 (Z3 (Z3 (Z1 (Z6 (vI 0) rfl rfl (Z0 (Y7 ?_)))))))
 obtain ⟨b3, a4, a9⟩ := bind_some q0
 refine W7 (id := 0) (fun k f w => ∃ (a3 : Int) (H1 : FH), Za4 K a0 a1 k a3 = some b3 ∧ Sub H H1 ∧ St H1 w ([(b1, cA ([s0]) 47)] ++ L) ∧ 0 ≤ a3 ∧ Y3 yT H1 s0 a0 ∧ ev f (.tmp 1) = vI a1 ∧ ev f (.tmp 2) = vP b1 ∧ ev f (.tmp 5) = vI a3) (fun f w => ∃ (H1 : FH), b3 = .go () ∧ Sub H H1 ∧ St H1 w ([(b1, cA ([s0]) 47)] ++ L) ∧ Y3 yT H1 s0 a0) rfl ?_ ?_ K ?_ ?_
 rintro f w ⟨a3, H1, a4, _⟩
 rw [Za4] at a4; cases a4
 rintro k c2 c3 b5 b7 ⟨a3, b4, a4, Z2, hS, b8, a7, a8, a5, a6⟩
 rw [Za4] at a4
 refine Z3 (Z3 (Z1 (Z4 (vI a3) (by exact a6) rfl (Y2 V6 (by exact a5) rfl ?_))))
 refine Y4 (s0) R7 rfl (hS.get mL) rfl rfl ?_
 have c7 := a7.bound
 refine W6 S9 rfl a7 rfl ?_
 refine U5 (k := .i64) (a := a3) (b := (a0.length : Int)) rfl rfl rfl (Z0 ?_)
 by_cases b0 : a3 < (a0.length : Int)
 rw [if_pos b0] at a4
 refine Y0 (bT b0 rfl) (Y6 (Z3 (Y7 (Z3 (Z1 (Y2 V6 (by exact a5) rfl ?_))))))
 refine Y4 (s0) R7 rfl (hS.get mL) rfl rfl (Z4 (vI a3) (by exact a6) rfl (Z4 (vI a1) (by exact a8) rfl ?_))
 obtain ⟨b6, o6, c8, E6, _, b9, c0, ⟨_, _, rfl, rfl, rfl⟩, c1⟩ := a7.elem (i := a3) (by omega) (by omega)
 refine W3 S9 rfl rfl b9 rfl (by omega) (by omega) rfl (Y2 P0 rfl rfl ?_)
 obtain ⟨c9, a4⟩ := gd a4
 obtain ⟨d0, a4⟩ := gd a4
 refine W8 Za7 rfl rfl (by omega) (by omega) rfl ?_
 refine Y4 (Value.int .u8 (Y5 ((rd a0 a3).1) a1)) ty5 rfl (hS.froz _ _ c0) (Yn2 ([]) (([vI ((rd a0 a3).2)])) c1 (Nat.le_of_ble_eq_true rfl) (by omega) (by omega)) rfl ?_
 refine Zc5 (k := .u8) (a := (Y5 ((rd a0 a3).1) a1)) (b := 0) rfl rfl rfl (Z0 ?_)
 by_cases b2 : 0 < (Y5 ((rd a0 a3).1) a1)
 rw [if_pos b2] at a4
 refine Y0 (bT b2 rfl) (Z3 (Z1 (Z6 (Value.bool true) rfl rfl (Z0 ?_))))
 refine Y9 (vs := [Value.bool true]) Tryz.func141 ⟨rfl, trivial⟩ ?_
 have hz := Option.some.inj a4
 subst hz
 dsimp only [Ex.elim] at a9
 have hz := Option.some.inj a9
 subst hz
 exact ⟨_, _, rfl, Z2, (St.dropA hS), rfl⟩
 rw [if_neg b2] at a4
 refine Z9 (bF b2 rfl) (Y6 (X2 (Z1 (Z4 (vI a3) (by exact a6) rfl ?_))))
 refine V0 (a3 + 1) rfl rfl (IntWalk.i64_in _ (by omega)) rfl (Z6 (vI (a3 + 1)) rfl rfl (Z0 ?_))
 exact b5 _ _ ⟨(a3 + 1), b4, a4, Z2, hS, (by omega), a7, a8, a5, rfl⟩
 rw [if_neg b0] at a4
 refine Z9 (bF b0 rfl) ?_
 refine W4 rfl ?_
 have hz := Option.some.inj a4
 subst hz
 exact b7 _ _ ⟨b4, rfl, Z2, hS, a7⟩
 exact ⟨0, H, a4, Z2, hS, (by omega), a7, rfl, rfl, rfl⟩
 rintro c4 c5 ⟨c6, rfl, Z2, hS, a7⟩
 dsimp only [Ex.elim] at a9
 refine Z3 (Z1 (Z6 (Value.bool false) rfl rfl (Z0 ?_)))
 refine Y9 (vs := [Value.bool false]) Tryz.func141 ⟨rfl, trivial⟩ ?_
 have hz := Option.some.inj a9
 subst hz
 exact ⟨_, _, rfl, Z2, (St.dropA hS), rfl⟩
-- 
def Zb7 (K : Nat) (a0 : (List Int)) : Option (List Int) := (if ([] : List Int).length + a0.length ≤ 1099511627776 then some (([] : List Int) ++ a0) else none)
theorem Zw7 {K : Nat} {a0 : (List Int)} {r : (List Int)} (q0 : Zb7 K a0 = some r) {H : FH} {w : World} {L : OL} {s0 : Value} (hs0 : Y3 (X3 .i64) H s0 a0) (hS : St H w L) :
    Calls Tryz.prog 237 #[s0] w (T6 (fun v G => (R.sl (X3 .i64)).p (G.new H) v r) H L) := by
  have Z2 := Sub.refl H
  refine X0 Tryz.func237 rfl Tryz.ntmps237 rfl ?_
  unfold Zb7 at q0
  refine Z3 ?_
  refine Z1 ?_
  refine Z6 (Value.slice none 0 0) rfl rfl ?_
  refine Z0 ?_
  refine Z3 ?_
  refine Z3 ?_
  refine Z1 ?_
  refine Z4 (s0) rfl rfl ?_
  obtain ⟨ad, cu, ⟨hv0, hl0⟩, hx0⟩ := id hs0
  cases ad with
  | none =>
    have ha : a0 = [] := by
      rcases hx0 with h | ⟨b2, o2, cs2, E2, h, _⟩
      · exact h
      · cases h
    refine Xe8 Q9 hv0 rfl rfl ?_
    refine Z0 ?_
    refine Y0 rfl ?_
    refine Z3 ?_
    refine Z1 ?_
    refine Z6 (Value.slice none 0 0) rfl rfl ?_
    refine Z0 ?_
    refine Y9 (vs := [Value.slice none 0 0]) Tryz.func237 ⟨rfl, trivial⟩ ?_
    subst ha
    rw [if_pos (by decide)] at q0
    have hz := Option.some.inj q0
    subst hz
    exact ⟨_, _, rfl, Z2, hS, Y3.nil⟩
  | some p =>
  refine Xe8 Q9 hv0 rfl rfl ?_
  refine Z0 ?_
  refine Z9 rfl ?_
  refine Y6 ?_
  refine Z3 ?_
  refine Z1 ?_
  refine Yw3 (τ := (X3 .i64)) Q9 ze2 rfl hS rfl ?_
  intro u1 w2 C3 ho4 hS
  have hS : St H w2 (C3 ++ L) := hS
  refine Z4 (s0) rfl rfl ?_
  by_cases hg6 : ([] : List Int).length + a0.length ≤ 1099511627776
  case neg => rw [if_neg hg6] at q0; cases q0
  rw [if_pos hg6] at q0
  refine Zd1 (τ := (X3 .i64)) Xy6 rfl rfl rfl ho4 hS hs0 hg6 rfl ?_
  intro u7 w8 C9 ho10 hS
  have hS : St H w8 (C9 ++ L) := hS
  refine Z6 (u7) rfl rfl ?_
  refine Z0 ?_
  refine Y9 (vs := [u7]) Tryz.func237 ⟨rfl, trivial⟩ ?_
  obtain ⟨H11, sb12, hS, hF14⟩ := U1.freezeF (τ := (X3 .i64)) (H0 := H) ho10 hS Z2
  have hf13 := Y3.old hF14
  have hF14 : RdF (X3 .i64) H H11 u7 (([] : List Int) ++ a0) := hF14
  have Z2 := Z2.trans sb12
  have hz := Option.some.inj q0
  subst hz
  exact ⟨_, _, rfl, Z2, hS, hF14⟩
def Zh8 (K : Nat) (a0 : Int) (a1 : Int) (a2 : Int) : Option Bool := (if a1 ≤ a0 then some (decide (a0 ≤ a2)) else some false)
theorem Zu6 {K : Nat} {a0 : Int} {a1 : Int} {a2 : Int} {r : Bool} (q0 : Zh8 K a0 a1 a2 = some r) {H : FH} {w : World} {L : OL} (hS : St H w L) :
 Calls Tryz.prog 97 #[vI a0, vI a1, vI a2] w (T6 (fun v G => R.bool.p G v r) H L) := by
 have Z2 := Sub.refl H
 refine X0 Tryz.func97 rfl Tryz.ntmps97 rfl ?_
 unfold Zh8 at q0
 refine Z3 (Z1 (Z6 (Value.bool false) rfl rfl (Z0 (Z3 (Z1 (Z4 (vI a0) rfl rfl (Z4 (vI a1) rfl rfl ?_)))))))
 refine Yb5 (k := .i64) (a := a0) (b := a1) rfl rfl rfl (Z4 (Value.bool (decide (a1 ≤ a0))) rfl rfl ?_)
 by_cases a3 : a1 ≤ a0
 rw [if_pos a3] at q0
 refine Y1 rfl rfl (bT a3 rfl) (Z4 (vI a0) rfl rfl ?_)
 refine Y1 rfl rfl (bT a3 rfl) (Z4 (vI a2) rfl rfl ?_)
 refine Y1 rfl rfl (bT a3 rfl) ?_
 refine Yp5 (k := .i64) (a := a0) (b := a2) rfl rfl rfl ?_
 refine V1 (t := true) (Value.bool (decide (a0 ≤ a2))) (bT a3 rfl) ((if_pos rfl).trans rfl) rfl (Z6 (Value.bool (decide (a0 ≤ a2))) rfl rfl (Z0 ?_))
 refine Y9 (vs := [Value.bool (decide (a0 ≤ a2))]) Tryz.func97 ⟨rfl, trivial⟩ ?_
 have hz := Option.some.inj q0
 subst hz
 exact ⟨_, _, rfl, Z2, hS, rfl⟩
 rw [if_neg a3] at q0
 refine Z8 rfl rfl (bF a3 rfl) rfl rfl rfl (Z8 rfl rfl (bF a3 rfl) rfl rfl rfl (Z8 rfl rfl (bF a3 rfl) rfl rfl rfl ?_))
 refine V1 (t := false) (Value.bool false) (bF a3 rfl) ((if_neg Bool.false_ne_true).trans rfl) rfl (Z6 (Value.bool false) rfl rfl (Z0 ?_))
 refine Y9 (vs := [Value.bool false]) Tryz.func97 ⟨rfl, trivial⟩ ?_
 have hz := Option.some.inj q0
 subst hz
 exact ⟨_, _, rfl, Z2, hS, rfl⟩
def Za9 (K : Nat) (a0 : Int) : Option Int := some (((IntKind.i64.wrap (((a0).tmod 10007) + 10007))).tmod 10007)
theorem Zc8 {K : Nat} {a0 : Int} {r : Int} (q0 : Za9 K a0 = some r) {H : FH} {w : World} {L : OL} (hS : St H w L) :
 Calls Tryz.prog 217 #[vI a0] w (T6 (fun v G => (R.int .i64).p G v r) H L) := by
 have Z2 := Sub.refl H
 refine X0 Tryz.func217 rfl Tryz.ntmps217 rfl ?_
 unfold Za9 at q0
 refine Z3 (Z1 (Z6 (vI 0) rfl rfl (Z0 (Z3 (Z1 (Z4 (vI a0) rfl rfl ?_))))))
 refine Zo0 ((a0).tmod 10007) rfl rfl (by decide) rfl rfl ?_
 refine V0 (IntKind.i64.wrap (((a0).tmod 10007) + 10007)) rfl rfl rfl rfl ?_
 refine Zo0 (((IntKind.i64.wrap (((a0).tmod 10007) + 10007))).tmod 10007) rfl rfl (by decide) rfl rfl (Z6 (vI (((IntKind.i64.wrap (((a0).tmod 10007) + 10007))).tmod 10007)) rfl rfl (Z0 ?_))
 refine Y9 (vs := [vI (((IntKind.i64.wrap (((a0).tmod 10007) + 10007))).tmod 10007)]) Tryz.func217 ⟨rfl, trivial⟩ ?_
 have hz := Option.some.inj q0
 subst hz
 exact ⟨_, _, rfl, Z2, hS, rfl⟩
end Go.Proofs.YtfodlhkoafhplaaGreat
