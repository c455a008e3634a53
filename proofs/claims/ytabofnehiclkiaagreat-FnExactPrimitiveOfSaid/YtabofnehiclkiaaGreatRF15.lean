/- Walk, rules and plain laws. -/
import Derived.Test.YtabofnehiclkiaaGreatRF13
namespace Go.Proofs.YtabofnehiclkiaaGreat
open Go Go.Proofs.Tryz IntKind IntWalk List
set_option linter.all false
set_option maxRecDepth 100000
set_option maxHeartbeats 8000000
variable {K : Nat} {H : FH} {w : World} {L : OL} {s0 s1 s2 s3 s4 s5 s6 : Value}
def J3 (K : Nat) (a0 : ((List Int) × (List MpT))) (r8 : (Int × Bool)) (b2 : Bool) : Option (Int × Int) := (if b2 = true then some (0, 5) else (if 20 < r8.1 then some (0, 2) else ((Ze4 K (a0.1, a0.2) (i64.wrap (r8.1 - 1)) (i64.wrap (r8.1 + 1))).bind fun c9 => (if c9 = true then some (r8.1, 0) else some (0, 3)))))
def Zb6 (K : Nat) (a0 : ((List Int) × (List MpT))) (a1 : MpT) (a2 b3 : Bool) : Option (Int × Int) := (if b3 = true then some (0, 1) else ((Zb8 K a0.1 a1).bind fun r8 => (if r8.2 = true then (if a2 = true then ((Zn6 K (a0.1, a0.2) a1).bind fun b7 => J3 K a0 r8 (decide (0 < (b7.length : Int)))) else J3 K a0 r8 false) else J3 K a0 r8 true)))
def Zg1 (K : Nat) (a0 : ((List Int) × (List MpT))) (a1 : MpT) (a2 : Bool) : Option (Int × Int) := ((Zz5 K (a0.1, a0.2)).bind fun d0 => (if d0 = true then ((Zt2 K a0.1 a1).bind fun c3 => Zb6 K a0 a1 a2 (!c3)) else Zb6 K a0 a1 a2 true))
theorem Yl2 {a0 : ((List Int) × (List MpT))} {a1 : MpT} {a2 : Bool} {r : (Int × Int)} (q0 : Zg1 K a0 a1 a2 = some r) (a5 : Y3 (Y4 .i64) H s0 a0.1) (a6 : Y3 (X3 yT) H s1 a0.2) (a7 : Y3 yT H s2 a1) (hS : St H w L) :
 Calls prog 106 #[vA ([s0] ++ [s1]), vA [s2], vB a2] w (T4 (fun v G => (R.t2 (R.int .i64) (R.int .i64)).p G v r) H L) := by
 have Z4 := Sub.refl H
 refine X0 func106 U ntmps106 U ?_
 unfold Zg1 at q0
 refine Z1 (Z0 (T8 (v := vA ([s0] ++ [s1])) ([s0] ++ [s1]).toArray U U hS U (fun b1 _ hS => T8 (v := vA [s2]) [s2].toArray U U hS U (fun b4 _ hS => Z5 (vI 0) U U (Z5 (vI 0) U U (Z2 (Z1 (Z1 (N1 (fun f w => ∃ b3 H1, Zb6 K a0 a1 a2 b3 = some r ∧ Sub H H1 ∧ St H1 w ([(b4, cA [s2] 45)] ++ ([(b1, cA ([s0] ++ [s1]) 31)] ++ L)) ∧ Y3 (Y4 .i64) H1 s0 a0.1 ∧ Y3 (X3 yT) H1 s1 a0.2 ∧ Y3 yT H1 s2 a1 ∧ tv f 2 = vB a2 ∧ tv f 3 = vP b1 ∧ tv f 4 = vP b4 ∧ tv f 19 = vB b3) ?_ ?_)))))))))
 rintro _ _ ⟨b3, _, a8, Z4, hS, a5, a6, a7, d2, b5, c4, b8⟩
 unfold Zb6 at a8
 obtain ⟨d3, a8⟩ | ⟨d3, a8⟩ := ic a8
 refine Z8 (Eq.trans (by exact b8) (congrArg vB d3)) (Z1 (Z0 (Z5 (vI 0) U U (Z5 (vI 1) U U (Z2 (Y9 (vs := [vI 0, vI 1]) func106 ⟨U, U, trivial⟩ ?_))))))
 cases a8
 exact ⟨_, _, U, Z4, (St.dA (St.dA hS)), ⟨_, _, U, U, U⟩⟩
 refine Z6 (Eq.trans (by exact b8) (congrArg vB (X8 d3))) (Y6 (Z1 (Z0 (Y2 N8 (by exact b5) U (Y1 s0 Q9 U (hS.get (mR mL)) U U (X5 U7 (by exact c4) (hS.get mL) U U ?_))))))
 obtain ⟨r8, e3, a8⟩ := bSm a8
 refine X2 call146 (W8 U U) U (Yf3 e3 a5 a7 hS) ?_
 rintro _ H8 _ d1 hS ⟨_, _, rfl, rfl, rfl⟩
 have Z4 := Z4.trans d1
 have a5 := a5.mono d1
 have a7 := a7.mono d1
 have a6 := a6.mono d1
 refine Z3 (Value.tuple #[vI r8.1, vB r8.2]) U U (V1 (vI r8.1) U U U (V1 (vB r8.2) U U U (Z5 (vI r8.1) U U (Z5 (vB r8.2) U U (Z2 (Z1 (Y8 (Z1 (N1 (fun f w => ∃ b2 H1, J3 K a0 r8 b2 = some r ∧ Sub H H1 ∧ St H1 w ([(b4, cA [s2] 45)] ++ ([(b1, cA ([s0] ++ [s1]) 31)] ++ L)) ∧ Y3 (Y4 .i64) H1 s0 a0.1 ∧ Y3 (X3 yT) H1 s1 a0.2 ∧ Y3 yT H1 s2 a1 ∧ tv f 3 = vP b1 ∧ tv f 8 = vI r8.1 ∧ tv f 27 = vB b2) ?_ ?_)))))))))
 rintro _ _ ⟨b2, _, a3, Z4, hS, a5, a6, a7, d4, b6, b9⟩
 unfold J3 at a3
 obtain ⟨c6, a3⟩ | ⟨c6, a3⟩ := ic a3
 refine Z8 (Eq.trans (by exact b9) (congrArg vB c6)) (Z1 (Z0 (Z5 (vI 0) U U (Z5 (vI 5) U U (Z2 (Y9 (vs := [vI 0, vI 5]) func106 ⟨U, U, trivial⟩ ?_))))))
 cases a3
 exact ⟨_, _, U, Z4, (St.dA (St.dA hS)), ⟨_, _, U, U, U⟩⟩
 refine Z6 (Eq.trans (by exact b9) (congrArg vB (X8 c6))) (Z1 (Z0 (Z3 (vI r8.1) (by exact b6) U (A0 (k := .i64) (a := r8.1) (b := 20) U U U (Z5 (vB (decide (20 < r8.1))) U U (Z2 ?_))))))
 obtain ⟨c7, a3⟩ | ⟨c7, a3⟩ := ic a3
 refine Z8 (bT c7 U) (Z1 (Z0 (Z5 (vI 0) U U (Z5 (vI 2) U U (Z2 (Y9 (vs := [vI 0, vI 2]) func106 ⟨U, U, trivial⟩ ?_))))))
 cases a3
 exact ⟨_, _, U, Z4, (St.dA (St.dA hS)), ⟨_, _, U, U, U⟩⟩
 refine Z6 (bF c7 U) (Z1 (Z0 (X5 Zx2 (by exact d4) (hS.get (mR mL)) U U (Z3 (vI r8.1) (by exact b6) U (Zg8 (i64.wrap (r8.1 - 1)) U U U U (Z3 (vI r8.1) (by exact b6) U (W4 (i64.wrap (r8.1 + 1)) U U U U ?_)))))))
 obtain ⟨c9, d8, a3⟩ := bSm a3
 refine X2 call74 (I3 U U U) U (Yw8 d8 a5 a6 hS) ?_
 rintro _ _ _ d9 hS rfl
 have Z4 := Z4.trans d9
 refine P5 (b := c9) U U (Z5 (vB (!c9)) U U (Z2 ?_))
 obtain ⟨c8, a3⟩ | ⟨c8, a3⟩ := ic a3
 refine Z6 (nT c8) (Y6 (X1 (Z1 (Z0 (Z3 (vI r8.1) (by exact b6) U (Z5 (vI r8.1) U U (Z5 (vI 0) U U (Z2 (Y9 (vs := [vI r8.1, vI 0]) func106 ⟨U, U, trivial⟩ ?_)))))))))
 cases a3
 exact ⟨_, _, U, Z4, (St.dA (St.dA hS)), ⟨_, _, U, U, U⟩⟩
 refine Z8 (nT (X8 c8)) (Z1 (Z0 (Z5 (vI 0) U U (Z5 (vI 3) U U (Z2 (Y9 (vs := [vI 0, vI 3]) func106 ⟨U, U, trivial⟩ ?_))))))
 cases a3
 exact ⟨_, _, U, Z4, (St.dA (St.dA hS)), ⟨_, _, U, U, U⟩⟩
 intro d5
 refine Z0 (Z3 (vB r8.2) U U (P5 (b := r8.2) U U (Z3 (vB (!r8.2)) U U ?_)))
 obtain ⟨b0, a8⟩ | ⟨b0, a8⟩ := ic a8
 refine Y0 U U (nT b0) (Z3 (vB a2) (by exact d2) U (Y0 U U (nT b0) (Z3 (vB a2) U U ?_)))
 obtain ⟨a4, a8⟩ | ⟨a4, a8⟩ := ic a8
 refine Y0 U U (Eq.trans U (congrArg vB a4)) (X5 Zx2 (by exact b5) (hS.get (mR mL)) U U (Y0 U U (Eq.trans U (congrArg vB a4)) (X5 U7 (by exact c4) (hS.get mL) U U ?_)))
 obtain ⟨b7, e0, a8⟩ := bSm a8
 refine Y0 U U (Eq.trans U (congrArg vB a4)) (X2 call119 (W8 U U) U (Yg0 e0 a5 a6 a7 hS) ?_)
 rintro _ e4 _ c0 hS ⟨_, rfl, ⟨d6, rfl, c5⟩⟩
 have Z4 := Z4.trans c0
 have a5 := a5.mono c0
 have a6 := a6.mono c0
 have a7 := a7.mono c0
 refine Y0 U U (Eq.trans U (congrArg vB a4)) (Xh7 d6 Wf5 U U U ?_)
 have e7 := c5.bound
 refine Y0 U U (Eq.trans U (congrArg vB a4)) (X9 Q0 U c5 U (Y0 U U (Eq.trans U (congrArg vB a4)) (A0 (k := .i64) (a := (b7.length : Int)) (b := 0) U U U (Y0 U U (nT b0) (W5 (t := true) (vB (decide (0 < (b7.length : Int)))) (Eq.trans U (congrArg vB a4)) ((if_pos U).trans U) U (W5 (t := false) (vB (decide (0 < (b7.length : Int)))) (nT b0) ((if_neg Bool.false_ne_true).trans U) U (Z5 (vB (decide (0 < (b7.length : Int)))) U U (Z2 (d5 _ _ ⟨(decide (0 < (b7.length : Int))), e4, a8, Z4, hS, a5, a6, a7, b5, U, U⟩)))))))))
 refine Z9 U U (Eq.trans U (congrArg vB (X8 a4))) U U U (Z9 U U (Eq.trans U (congrArg vB (X8 a4))) U U U (Z9 U U (Eq.trans U (congrArg vB (X8 a4))) U U U (Z9 U U (Eq.trans U (congrArg vB (X8 a4))) U U U (Z9 U U (Eq.trans U (congrArg vB (X8 a4))) U U U (Z9 U U (Eq.trans U (congrArg vB (X8 a4))) U U U (Y0 U U (nT b0) (W5 (t := false) (vB false) (Eq.trans U (congrArg vB (X8 a4))) ((if_neg Bool.false_ne_true).trans U) U (W5 (t := false) (vB false) (nT b0) ((if_neg Bool.false_ne_true).trans U) U (Z5 (vB false) U U (Z2 (d5 _ _ ⟨false, H8, a8, Z4, hS, a5, a6, a7, b5, U, U⟩)))))))))))
 refine Z9 U U (nT (X8 b0)) U U U (Z9 U U (nT (X8 b0)) U U U (V2 U U U U U (V2 U U U U U (V2 U U U U U (V2 U U U U U (V2 U U U U U (V2 U U U U U (Z9 U U (nT (X8 b0)) U U U (W5 (t := true) (vB true) (nT (X8 b0)) ((if_pos U).trans U) U (Z5 (vB true) U U (Z2 (d5 _ _ ⟨true, H8, a8, Z4, hS, a5, a6, a7, b5, U, U⟩))))))))))))
 intro d7
 refine Z0 (X5 Zx2 U (hS.get (mR mL)) U U ?_)
 obtain ⟨d0, e1, q0⟩ := bSm q0
 refine X2 call72 (S4 U) U (Xj3 e1 a5 a6 hS) ?_
 rintro _ e5 _ c1 hS rfl
 have Z4 := Z4.trans c1
 have a5 := a5.mono c1
 have a6 := a6.mono c1
 have a7 := a7.mono c1
 refine P5 (b := d0) U U (Z3 (vB (!d0)) U U ?_)
 obtain ⟨a9, q0⟩ | ⟨a9, q0⟩ := ic q0
 refine Y0 U U (nT a9) (Y2 N8 U U (Y0 U U (nT a9) (Y1 s0 Q9 U (hS.get (mR mL)) U U (Y0 U U (nT a9) (X5 U7 U (hS.get mL) U U ?_)))))
 obtain ⟨c3, e2, q0⟩ := bSm q0
 refine Y0 U U (nT a9) (X2 call145 (W8 U U) U (Yp4 e2 a5 a7 hS) ?_)
 rintro _ e6 _ c2 hS rfl
 have Z4 := Z4.trans c2
 have a5 := a5.mono c2
 have a6 := a6.mono c2
 have a7 := a7.mono c2
 refine Y0 U U (nT a9) (P5 (b := c3) U U (W5 (t := false) (vB (!c3)) (nT a9) ((if_neg Bool.false_ne_true).trans U) U (Z2 (d7 _ _ ⟨(!c3), e6, q0, Z4, hS, a5, a6, a7, U, U, U, U⟩))))
 refine Z9 U U (nT (X8 a9)) U U U (Z9 U U (nT (X8 a9)) U U U (Z9 U U (nT (X8 a9)) U U U (Z9 U U (nT (X8 a9)) U U U (Z9 U U (nT (X8 a9)) U U U (W5 (t := true) (vB true) (nT (X8 a9)) ((if_pos U).trans U) U (Z2 (d7 _ _ ⟨true, e5, q0, Z4, hS, a5, a6, a7, U, U, U, U⟩)))))))
structure N7 (H : FH) (v : Value) (vals : List Value) (rows : List (List Int)) (C0 : OL) (Cs : List OL) : Prop where
 out : W0 Zn4 22 H v vals C0
 lv : vals.length = rows.length
 lc : Cs.length = rows.length
 row : ∀ i, i < rows.length → W0 (Y4 .i64) 2 H (vals.getD i undef) (rows.getD i []) (Cs.getD i [])
theorem Zi1 {α : Type} (xs : List α) (i j : Nat) (x z : α) (h : i < xs.length) : (xs.set i x).getD j z = if j = i then x else xs.getD j z := by
 rw [getD_eq_getElem?_getD, getElem?_set]
 by_cases e : i = j
 subst e; rw [if_pos rfl, if_pos h, if_pos rfl]; rfl
 rw [if_neg e, if_neg (fun h => e h.symm), getD_eq_getElem?_getD]
theorem P2 {α : Type} {xs : List α} {i : Nat} {z : α} (h : i < xs.length) : xs.getD i z = xs[i] := by
 rw [getD_eq_getElem?_getD, getElem?_eq_getElem h]; rfl
theorem Xe9 {α : Type} {xs : List α} {i : Nat} {z : α} (h : i < xs.length) : xs.getD i z ∈ xs := by rw [P2 h]; exact getElem_mem h
theorem Yz6 {α : Type} : ∀ (Cs : List (List α)) (i : Nat), i < Cs.length → (Cs.flatten).Perm (Cs.getD i [] ++ (Cs.eraseIdx i).flatten)
 | [], i, h => by simp at h
 | C :: Cs, 0, _ => by simp
 | C :: Cs, i + 1, h => by
  have := Yz6 Cs i (by simpa using h)
  simp only [flatten_cons, getD_cons_succ, eraseIdx_cons_succ]
  exact (List.Perm.append_left C this).trans (by
   rw [← append_assoc, ← append_assoc]; exact List.Perm.append_right _ perm_append_comm)
theorem Ww9 {α : Type} (Cs : List (List α)) (i : Nat) (C : List α) (h : i < Cs.length) : ((Cs.set i C).flatten).Perm (C ++ (Cs.eraseIdx i).flatten) := by
 have := Yz6 (Cs.set i C) i (by simpa using h)
 rw [Zi1 _ _ _ _ _ h, if_pos U] at this
 rwa [show (Cs.set i C).eraseIdx i = Cs.eraseIdx i from by
  apply ext_getElem?
  intro k
  rw [getElem?_eraseIdx, getElem?_eraseIdx]
  split
  rw [getElem?_set_ne (by omega)]
  rw [getElem?_set_ne (by omega)]] at this
def swp {α : Type} (xs : List α) (i j : Nat) (z : α) : List α := (xs.set i (xs.getD j z)).set j (xs.getD i z)
theorem Zw3 {α : Type} (xs : List α) (i j : Nat) (z : α) : (swp xs i j z).length = xs.length := by unfold swp; simp
theorem Yk4 {α : Type} (xs : List α) (i j : Nat) (z : α) (hi : i < xs.length) (hj : j < xs.length) (k : Nat) : (swp xs i j z).getD k z = if k = j then xs.getD i z else if k = i then xs.getD j z else xs.getD k z := by
 unfold swp
 rw [Zi1 _ _ _ _ _ (by simpa using hj), Zi1 _ _ _ _ _ hi]
theorem Xy3 {α : Type} (xs : List α) (i j : Nat) (z : α) (hi : i < xs.length) (hj : j < xs.length) : (swp xs i j z).Perm xs := by
 unfold swp
 rw [P2 hi, P2 hj]
 exact set_set_perm hi hj
section
variable {H H' : FH} {v : Value} {vals : List Value} {rows : List (List Int)} {C0 : OL} {Cs : List OL} {w : World} {L L' : OL} {i : Nat}
theorem N7.mono (h : N7 H v vals rows C0 Cs) (hs : Sub H H') : N7 H' v vals rows C0 Cs := ⟨h.out.mono hs, h.lv, h.lc, fun i hi => (h.row i hi).mono hs⟩
theorem N7.inRow (h : N7 H v vals rows C0 Cs) (hi : i < rows.length) (hin : ∀ x, x ∈ Cs.flatten → x ∈ L') : ∀ x, x ∈ Cs.getD i [] → x ∈ L' :=
 fun x hx => hin x (mem_flatten.2 ⟨_, Xe9 (by rw [h.lc]; exact hi), hx⟩)
theorem N7.rb (h : N7 H v vals rows C0 Cs) (hi : i < rows.length) (hin : ∀ x, x ∈ Cs.flatten → x ∈ L') : Rb H L' (vals.getD i undef) (rows.getD i []) :=
 Rb.ofOwn (h.row i hi) (h.inRow hi hin)
theorem N7.one (h : N7 H v vals rows C0 Cs) (hi : i < rows.length) : (vals.getD i undef).oneCell' = true := by
 rcases h.out with ⟨_, rfl, _⟩ | ⟨b, c, cs, hv, h1, h2, h3, rfl, h5⟩
 have := h.lv; simp at this; omega
 have hv' : i < vals.length := by rw [h.lv]; exact hi
 obtain ⟨ecs, hr, _⟩ := h5 i _ (getElem?_eq_getElem hv')
 rw [P2 hv']; exact hr.2
theorem Wg6 (hS : St H w (C0 ++ (Cs.flatten ++ L))) (hi : i < Cs.length) : St H w (Cs.getD i [] ++ (C0 ++ ((Cs.eraseIdx i).flatten ++ L))) := by
 refine hS.perm ?_
 have := (Yz6 Cs i hi).append_right L
 rw [append_assoc] at this
 exact R5.trans (this.symm.append_left C0)
theorem Wd7 {C : OL} (hS : St H w (C ++ (C0 ++ ((Cs.eraseIdx i).flatten ++ L)))) (hi : i < Cs.length) : St H w (C0 ++ ((Cs.set i C).flatten ++ L)) := by
 refine hS.perm ?_
 have := (Ww9 Cs i C hi).append_right L
 rw [append_assoc] at this
 exact (this.append_left C0).trans R5.symm
theorem N7.put {row : List Int} {C : OL} (h : N7 H v vals rows C0 Cs) (hi : i < rows.length) (ho : W0 (Y4 .i64) 2 H (vals.getD i undef) row C) : N7 H v vals (rows.set i row) C0 (Cs.set i C) := by
 refine ⟨h.out, by rw [length_set]; exact h.lv, by rw [length_set, length_set]; exact h.lc, fun j hj => ?_⟩
 rw [length_set] at hj
 rw [Zi1 _ _ _ _ _ hi, Zi1 _ _ _ _ _ (by rw [h.lc]; exact hi)]
 by_cases e : j = i
 subst e; rw [if_pos rfl, if_pos rfl]; exact ho
 rw [if_neg e, if_neg e]; exact h.row j hj
theorem N7.swap {k : Nat} {C : OL} (h : N7 H v vals rows C0 Cs) (hi : i < rows.length) (hk : k < rows.length) (ho : W0 Zn4 22 H v (swp vals i k undef) C) : N7 H v (swp vals i k undef) (swp rows i k []) C (swp Cs i k []) := by
 have h1 := h.lv; have h2 := h.lc
 refine ⟨ho, by rw [Zw3, Zw3]; exact h1, by rw [Zw3, Zw3]; exact h2, fun j hj => ?_⟩
 rw [Zw3] at hj
 rw [Yk4 _ _ _ _ (by omega) (by omega), Yk4 _ _ _ _ (by omega) (by omega), Yk4 _ _ _ _ (by omega) (by omega)]
 by_cases e : j = k
 subst e; rw [if_pos rfl, if_pos rfl, if_pos rfl]; exact h.row i hi
 rw [if_neg e, if_neg e, if_neg e]
 by_cases e2 : j = i
 subst e2; rw [if_pos rfl, if_pos rfl, if_pos rfl]; exact h.row k hk
 rw [if_neg e2, if_neg e2, if_neg e2]; exact h.row j hj
theorem N7.app {u : Value} {row : List Int} {C C1 : OL} (h : N7 H v vals rows C0 Cs) {v' : Value} (ho : W0 Zn4 22 H v' (vals ++ [u]) C) (hu : W0 (Y4 .i64) 2 H u row C1) : N7 H v' (vals ++ [u]) (rows ++ [row]) C (Cs ++ [C1]) := by
 have h1 := h.lv; have h2 := h.lc
 refine ⟨ho, by simp [h1], by simp [h2], fun j hj => ?_⟩
 rw [length_append] at hj
 simp only [length_singleton] at hj
 rw [getD_eq_getElem?_getD, getD_eq_getElem?_getD, getD_eq_getElem?_getD]
 by_cases e : j < rows.length
 rw [getElem?_append_left (by omega), getElem?_append_left (by omega), getElem?_append_left (by omega), ← getD_eq_getElem?_getD, ← getD_eq_getElem?_getD, ← getD_eq_getElem?_getD]
 exact h.row j e
 have e : j = rows.length := by omega
 subst e
 rw [getElem?_append_right (by omega), getElem?_append_right (by omega), getElem?_append_right (by omega)]
 rw [h1, h2, Nat.sub_self]
 exact hu
def Xb3 {α : Type} (τ : Ty α) : Ty (List α) :=
 ⟨1, fun H cs xs => ∃ v, cs = [v] ∧ Y3 τ H v xs ∧ ∃ a c, v = .slice a xs.length c ∧ xs.length ≤ c, fun ⟨_, h, _⟩ => by rw [h]; rfl, fun hs ⟨v, h, hr, hc⟩ => ⟨v, h, hr.mono hs, hc⟩,
  fun ⟨v, h, ⟨a, c, ⟨hv, _⟩, _⟩, _⟩ u hu => by rw [h] at hu; simp at hu; subst hu; subst hv; rfl⟩
theorem Y3.ofCap {α : Type} {τ : Ty α} {H : FH} {v : Value} {xs : List (List α)} (h : Y3 (Xb3 τ) H v xs) : Y3 (X3 τ) H v xs := by
 obtain ⟨a, c, hv, h⟩ := h
 refine ⟨a, c, hv, ?_⟩
 rcases h with h | ⟨b, o, cs, E, ha, hb, hc⟩
 exact .inl h
 exact .inr ⟨b, o, cs, E, ha, hb, fun i x hx => let ⟨ecs, ⟨u, h1, h2, _⟩, hj⟩ := hc i x hx; ⟨ecs, ⟨u, h1, h2⟩, hj⟩⟩
theorem W0.room {α : Type} {τ : Ty α} {E : TypeId} {H : FH} {v : Value} {xs : List α} {C : OL} (h : W0 τ E H v xs C) : ∃ a c, v = .slice a xs.length c ∧ xs.length ≤ c := by
 rcases h with ⟨rfl, rfl, _⟩ | ⟨b, c, cs, rfl, h1, _⟩
 exact ⟨none, 0, U, by simp⟩
 exact ⟨_, c, U, h1⟩
theorem Xp4 : ∀ (n : Nat) (H : FH) (Cs : List OL) (vals : List Value) (rows : List (List Int)), rows.length = n → vals.length = n → Cs.length = n → (∀ i, i < n → W0 (Y4 .i64) 2 H (vals.getD i undef) (rows.getD i []) (Cs.getD i [])) → St H w (Cs.flatten ++ L) →
 ∃ H', Sub H H' ∧ St H' w L ∧ ∀ i, i < n → Y3 (Y4 .i64) H' (vals.getD i undef) (rows.getD i [])
 | 0, H, Cs, vals, rows, _, _, hc, _, hS => ⟨H, .refl _, by
  have : Cs = [] := eq_nil_of_length_eq_zero hc
  subst this; exact hS, fun i hi => by omega⟩
 | n + 1, H, [], vals, rows, _, _, hc, _, hS => by simp at hc
 | n + 1, H, C :: Cs, [], rows, _, hv, _, _, hS => by simp at hv
 | n + 1, H, C :: Cs, u :: vals, [], hr, _, _, _, hS => by simp at hr
 | n + 1, H, C :: Cs, u :: vals, row :: rows, hr, hv, hc, h, hS => by
  have h0 := h 0 (by omega)
  have h0 : W0 (Y4 .i64) 2 H u row C := h0
  rw [flatten_cons, append_assoc] at hS
  obtain ⟨H1, s1, hS1, hrd⟩ := h0.freeze hS
  obtain ⟨H2, s2, hS2, hall⟩ := Xp4 n H1 Cs vals rows (by simpa using hr) (by simpa using hv) (by simpa using hc) (fun i hi => (h (i + 1) (by omega)).mono s1) hS1
  refine ⟨H2, s1.trans s2, hS2, fun i hi => ?_⟩
  cases i with
  | zero => exact hrd.mono s2
  | succ i => exact hall i (by omega)
theorem N7.freeze {b cp d : Nat} (h : N7 H (.slice (some ⟨b, 0, none⟩) vals.length cp) vals rows C0 Cs) (hd : d ≤ rows.length) (hS : St H w (C0 ++ (Cs.flatten ++ L))) :
 ∃ H', Sub H H' ∧ St H' w L ∧ Y3 (Xb3 (Y4 .i64)) H' (.slice (some ⟨b, 0, none⟩) d cp) (rows.take d) := by
 have hS1 := hS.swap
 obtain ⟨H1, s1, hS2, hall⟩ := Xp4 rows.length H Cs vals rows U h.lv h.lc h.row hS1
 have ho := h.out.mono s1
 rcases ho with ⟨h, _⟩ | ⟨b', c', cs, hv, h1, h2, h3, rfl, h5⟩
 cases h
 cases hv
 have hS3 : St H1 w ((b, .cells cs 22) :: L) := hS2
 have Z4 := Sub.add (o := .cells cs 22) hS3.none
 have hlen : (rows.take d).length = d := by rw [length_take]; omega
 have hlv := h.lv
 refine ⟨_, s1.trans Z4, hS3.freeze, _, cp, ⟨by rw [hlen], by rw [hlen]; simp only [maxLen] at h2; omega⟩, .inr ⟨b, 0, cs, (22, 0, 0), U, FH.add_self .., fun i x hx => ?_⟩⟩
 rw [getElem?_take] at hx
 split at hx
 rename_i hid
 have hi : i < rows.length := by omega
 have hiv : i < vals.length := by omega
 have e : x = rows.getD i [] := by rw [getD_eq_getElem?_getD, hx]; rfl
 subst e
 obtain ⟨ecs, ⟨rfl, _⟩, hj⟩ := h5 i _ (getElem?_eq_getElem hiv)
 refine ⟨[vals[i]], ⟨vals[i], U, ?_⟩, fun j hj' => ?_⟩
 have h1 := (hall i hi).mono Z4
 have h2 := (h.row i hi).room
 rw [P2 hiv] at h1 h2
 exact ⟨h1, h2⟩
 have := hj j hj'
 rw [Nat.zero_add]; exact this
 cases hx
end
def Zo7 (K : Nat) (a0 a1 : ((List Int) × (List MpT))) : Option Bool := ((Zq9 K a0.1 a1.1).bind fun r7 => (if r7 = true then ((Zt8 K a0.2 a1.2).bind fun a4 => (if a4 = true then some true else some false)) else some false))
theorem Yx2 {a0 a1 : ((List Int) × (List MpT))} {r : Bool} (q0 : Zo7 K a0 a1 = some r) (b1 : Y3 (Y4 .i64) H s0 a0.1) (a5 : Y3 (X3 yT) H s1 a0.2) (b2 : Y3 (Y4 .i64) H s2 a1.1) (a6 : Y3 (X3 yT) H s3 a1.2) (hS : St H w L) :
 Calls prog 20 #[vA ([s0] ++ [s1]), vA ([s2] ++ [s3])] w (T4 (fun v G => R.bool.p G v r) H L) := by
 have Z4 := Sub.refl H
 refine X0 func20 U ntmps20 U ?_
 unfold Zo7 at q0
 refine Z1 (Z0 (T8 (v := vA ([s0] ++ [s1])) ([s0] ++ [s1]).toArray U U hS U (fun _ _ hS => T8 (v := vA ([s2] ++ [s3])) ([s2] ++ [s3]).toArray U U hS U (fun _ _ hS => Z5 (vB false) U U (Z2 (Z1 (Z1 (Z0 (Y2 N8 U U (Y1 s0 Q9 U (hS.get (mR mL)) U U (Y2 N8 U U (Y1 s2 Q9 U (hS.get mL) U U ?_))))))))))))
 obtain ⟨r7, b3, q0⟩ := bSm q0
 refine X2 call19 (W8 U U) U (Yy8 b3 b1 b2 hS) ?_
 rintro _ _ _ a7 hS rfl
 have Z4 := Z4.trans a7
 have a5 := a5.mono a7
 have a6 := a6.mono a7
 refine P5 (b := r7) U U (Z2 ?_)
 obtain ⟨a8, q0⟩ | ⟨a8, q0⟩ := ic q0
 refine Z6 (nT a8) (Y6 (Z1 (Z1 (Z0 (Y2 Zh6 U U (Y1 s1 Yb2 U (hS.get (mR mL)) U U (Y2 Zh6 U U (Y1 s3 Yb2 U (hS.get mL) U U ?_))))))))
 obtain ⟨a4, a9, q0⟩ := bSm q0
 refine X2 call32 (W8 U U) U (Xc0 a9 a5 a6 hS) ?_
 rintro _ _ _ b0 hS rfl
 have Z4 := Z4.trans b0
 refine P5 (b := a4) U U (Z2 ?_)
 obtain ⟨a3, q0⟩ | ⟨a3, q0⟩ := ic q0
 refine Z6 (nT a3) (Y6 (Z1 (Z0 (Z5 (vB true) U U (Z2 (Y9 (vs := [vB true]) func20 Ut ?_))))))
 cases q0
 exact ⟨_, _, U, Z4, (St.dA (St.dA hS)), U⟩
 refine Z8 (nT (X8 a3)) (Z1 (Z0 (Z5 (vB false) U U (Z2 (Y9 (vs := [vB false]) func20 Ut ?_)))))
 cases q0
 exact ⟨_, _, U, Z4, (St.dA (St.dA hS)), U⟩
 refine Z8 (nT (X8 a8)) (Z1 (Z0 (Z5 (vB false) U U (Z2 (Y9 (vs := [vB false]) func20 Ut ?_)))))
 cases q0
 exact ⟨_, _, U, Z4, (St.dA (St.dA hS)), U⟩
def Zb4 (K : Nat) (a0 : ((List Int) × (List MpT))) : Option ((List Int) × (List MpT)) := ((Zq8 K a0.1).bind fun a9 => ((Zt6 K a0.2).bind fun a8 => some (a9, a8)))
theorem Zp7 {a0 r : ((List Int) × (List MpT))} (q0 : Zb4 K a0 = some r) (b7 : Y3 (Y4 .i64) H s0 a0.1) (b0 : Y3 (X3 yT) H s1 a0.2) (hS : St H w L) :
 Calls prog 17 #[vA ([s0] ++ [s1])] w (T4 (fun v G => Yc7 H G v r) H L) := by
 have Z4 := Sub.refl H
 refine X0 func17 U ntmps17 U ?_
 unfold Zb4 at q0
 refine Z1 (Z0 (T8 (v := vA ([s0] ++ [s1])) ([s0] ++ [s1]).toArray U U hS U (fun _ _ hS => U5 (z := vA ([vN] ++ [vN])) ([vN] ++ [vN]).toArray Wt0.zero U hS U (fun _ _ hS => Z2 (Z1 (Z0 (U5 (z := vA ([vN] ++ [vN])) ([vN] ++ [vN]).toArray Wt0.zero U hS U (fun _ _ hS => Z2 (Z1 (Z0 (Y2 Wh6 U U (Y1 s0 Q9 U (hS.get (mR (mR mL))) U U ?_))))))))))))
 obtain ⟨a9, b4, q0⟩ := bSm q0
 refine X2 call77 (S4 U) U (Yz7 b4 b7 hS) ?_
 rintro a3 b8 _ b1 hS a1
 have b9 := a1
 have a6 : RdF (Y4 .i64) H b8 a3 a9 := Y3.mono (Yo2 Z4) a1
 have a1 := Y3.old a1
 have Z4 := Z4.trans b1
 have b0 := b0.mono b1
 refine Y2 N8 U U (Ze6 (v := a3) (cs := ([vN] ++ [vN]).toArray) (cs' := ([a3] ++ [vN]).toArray) Q9 U U hS a1.isOne U (nl U) U (fun _ hS => Z2 (Z1 (Z0 (Y2 Wg9 U U (Y1 s1 Vi8 U (hS.get (mR (mR mL))) U U ?_))))))
 obtain ⟨a8, b5, q0⟩ := bSm q0
 refine X2 call69 (S4 U) U (Xc1 b5 b0 hS) ?_
 rintro a4 b3 _ a7 hS a5
 have b2 : RdN (X3 yT) H b3 a4 a8 (Zr1 [a3] ++ ([] : List Nat)) := RdN.keepX (Yi1 _) a5 Z4 (by rw [append_nil]; exact Yh1 _) (by rw [append_nil]; exact Y3.rootsIn a1)
 have b6 : RdF (X3 yT) H b3 a4 a8 := RdN.old b2
 have a5 := Y3.old b6
 have Z4 := Z4.trans a7
 have a1 := a1.mono a7
 have a6 := a6.mono a7
 refine Y2 Zh6 U U (Ze6 (v := a4) (cs := ([a3] ++ [vN]).toArray) (cs' := ([a3] ++ [a4]).toArray) Yb2 U U hS a5.isOne U (nl U) U (fun _ hS => Z2 (Z1 (Z0 (X5 Zx2 U (hS.get mL) U U ?_)))))
 have hS := hS.perm R5
 refine W1 (v := vA ([a3] ++ [a4])) (vs := ([a3] ++ [a4]).toArray) (cs := ([vN] ++ [vN]).toArray) Zx2 U U U hS U (Yg4 (K9 a1.isOne) (K9 a5.isOne)) U ?_
 intro _ hS
 have hS := hS.perm R5.symm
 refine Z2 (Y9 (vs := [vA ([a3] ++ [a4])]) func17 ⟨⟨_, U, T9 Zx2 (hS.get (mR mL)) U⟩, trivial⟩ ?_)
 cases q0
 exact ⟨_, _, U, Z4, (St.dA (St.dA (St.dA hS))), ⟨_, _, U, a6, b2⟩⟩
end Go.Proofs.YtabofnehiclkiaaGreat
