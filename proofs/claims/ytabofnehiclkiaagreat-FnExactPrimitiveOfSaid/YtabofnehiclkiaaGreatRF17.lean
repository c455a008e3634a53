/- Walk, rules and plain laws. -/
import Derived.Test.YtabofnehiclkiaaGreatRF16
namespace Go.Proofs.YtabofnehiclkiaaGreat
open Go Go.Proofs.Tryz IntKind IntWalk List
set_option linter.all false
set_option maxRecDepth 100000
set_option maxHeartbeats 8000000
variable {K : Nat} {H : FH} {w : World} {L : OL} {s0 s1 s2 s3 s4 s5 s6 : Value}
theorem Xl8 {α : Type} {τ : Ty α} {E : TypeId} {H G : FH} {v : Value} {xs : List α} {C : OL} (h : W0 τ E H v xs C) : Zn4.rel G v.cells.toList v := ⟨h.cellsL, h.isOne⟩
theorem Wa1 {K : Nat} {xs : List Int} (h : xs.length ≤ 1099511627776) : Zd1 K xs = some xs := by
 unfold Zd1; rw [if_pos (by simpa using h)]; rfl
theorem Zs9 {xs : List (List Int)} {m : Nat} (h : m < xs.length) : rd xs (m : Int) = xs.getD m [] := by
 unfold rd; rw [Int.toNat_natCast, getD_eq_getElem?_getD, getD_eq_getElem?_getD, getElem?_eq_getElem h]; rfl
structure Wa7 (K n : Nat) (r : List (List Int)) (H : FH) (L : OL) (k : Nat) (f : Fr) (w : World) (j : Nat) (R : List (List Int)) (d : Nat) (H1 : FH) (v : Value) (vals : List Value) (C0 : OL) (Cs : List OL) (bc : Nat) : Prop where
 eq : Yq5 K n j R d = some r
 fuel : j < k
 jn : j ≤ n
 sub : Sub H H1
 st : St H1 w ([(bc, .cells #[vI ((n - j : Nat) : Int)] 3)] ++ (C0 ++ (Cs.flatten ++ L)))
 ow : N7 H1 v vals R C0 Cs
 un : Un n R
 le : R.length ≤ 1099511627776
 dl : d ≤ R.length
 nz : ∃ b cp, v = .slice (some ⟨b, 0, none⟩) vals.length cp
 t3 : tv f 3 = v
 t6 : tv f 6 = vI d
 t7 : tv f 7 = vP bc
theorem Xl5 {K n j : Nat} {R r : List (List Int)} {d : Nat} (h : Yq5 K n j R d = some r) (hx : R.length ≤ d ∨ j = 0) : r = R.take d := by
 cases j with
 | zero => rw [Yq5] at h; exact (Option.some.inj h).symm
 | succ j =>
  rcases hx with hx | hx
  rw [Yq5, if_neg (by omega)] at h; exact (Option.some.inj h).symm
  cases hx
theorem Yr4 {α : Type} {τ : Ty α} {P : Program} {n : Nat} {ops : Array Oper} {J : Fr → World → Prop} {r : List Oper} {f : Fr} {w : World} {d : Nat} {T : TypeId} {pos : String} {af : Array Edge} {H : FH} {L : OL} {X E : TypeId} {s : Nat} {z : Value} (t : SlI P X E s) (tz : ZeI P E s z) (hs : τ.size = s) (hS : St H w L) (hn : Nat.blt d n = true)
 (K : ∀ b w', W0 τ E H (.slice (some ⟨b, 0, none⟩) 0 0) [] [(b, .cells #[] E)] → St H w' ([(b, .cells #[] E)] ++ L) → X7 P n ops J r (upd f d (.slice (some ⟨b, 0, none⟩) 0 0)) w') : X7 P n ops J (⟨some d, .buildSlice X 0 #[], T, pos, af, none⟩ :: r) f w := by
 have hrun := Zu4 (P := P) (w := w) t tz [] U (by simp) (by simp)
 refine U2 (v := .slice (some ⟨w.heap.size, 0, none⟩) 0 0) (w' := w.alloc (.cells #[] E)) U U hn (by have h := hrun; simp only [execOp]; exact F4 (by simpa using h)) (K _ _ ?_ (hS.alloc _))
 exact .inr ⟨w.heap.size, 0, #[], U, by simp, by simp [maxLen], by simp, U, by simp⟩
section
variable {K n : Nat} {r : List (List Int)} {H : FH} {L : OL} {k : Nat} {f : Fr} {w : World} {j : Nat} {R : List (List Int)} {d : Nat} {H1 : FH} {v : Value} {vals : List Value} {C0 : OL} {Cs : List OL} {bc : Nat}
theorem Wa7.in0 (h : Wa7 K n r H L k f w j R d H1 v vals C0 Cs bc) : ∀ x, x ∈ C0 → x ∈ [(bc, Obj.cells #[vI ((n - j : Nat) : Int)] 3)] ++ (C0 ++ (Cs.flatten ++ L)) := fun x hx => mem_append_right _ (mem_append_left _ hx)
theorem Wa7.ins (h : Wa7 K n r H L k f w j R d H1 v vals C0 Cs bc) : ∀ x, x ∈ Cs.flatten → x ∈ [(bc, Obj.cells #[vI ((n - j : Nat) : Int)] 3)] ++ (C0 ++ (Cs.flatten ++ L)) := fun x hx => mem_append_right _ (mem_append_right _ (mem_append_left _ hx))
end
theorem Zc7 {P : Program} {n : Nat} {g : FuncId} {R : Ending → World → Prop} {K : List Item} {f : Fr} {w : World} (h : ∀ f', f' = f → Run P n g R K f' w) : Run P n g R K f w := h f U
theorem Ws2 {H : FH} {w : World} {C : OL} {Cs : List OL} {L : OL} {i k : Nat} (hS : St H w (C ++ (Cs.flatten ++ L))) (hi : i < Cs.length) (hk : k < Cs.length) : St H w (C ++ ((swp Cs i k []).flatten ++ L)) :=
 hS.perm (List.Perm.append_left C (List.Perm.append_right L (Xy3 Cs i k [] hi hk).flatten))
theorem Un.mem {n : Nat} {R : List (List Int)} (h : Un n R) {x : List Int} (hx : x ∈ R) : x.length = n := by
 obtain ⟨i, hi, rfl⟩ := getElem_of_mem hx
 have := h i hi
 rwa [P2 hi] at this
theorem Wo7 {H : FH} {v : Value} {vals : List Value} {R : List (List Int)} {C0 : OL} {Cs : List OL} {L' : OL} (h : N7 H v vals R C0 Cs) (hin : ∀ x, x ∈ Cs.flatten → x ∈ L') (d : Nat) :
 ∀ i (hi : i < (R.drop d).length) (hi' : i < (vals.drop d).length), Rb H L' (vals.drop d)[i] (R.drop d)[i] := by
 intro i hi hi'
 rw [length_drop] at hi hi'
 have := h.rb (i := d + i) (L' := L') (by omega) hin
 rw [P2 (by omega), P2 (by omega)] at this
 rw [getElem_drop, getElem_drop]
 exact this
theorem Wt6 {Cs : List OL} {d m : Nat} (hd : d < Cs.length) (hne : d ≠ m) : ∀ x, x ∈ Cs.getD d [] → x ∈ (Cs.eraseIdx m).flatten := by
 intro x hx
 refine mem_flatten.2 ⟨Cs.getD d [], ?_, hx⟩
 rw [P2 hd]
 exact mem_eraseIdx_iff_getElem.2 ⟨d, hd, hne, U⟩
def Vm8 (K n : Nat) (r : List (List Int)) (H : FH) (Lb : OL) (j bc : Nat) (f : Fr) (w : World) : Prop :=
 ∃ R d H1 v vals C0 Cs, Yq5 K n j R d = some r ∧ Sub H H1 ∧ St H1 w (C0 ++ (Cs.flatten ++ Lb)) ∧ N7 H1 v vals R C0 Cs ∧ Un n R ∧ R.length ≤ 1099511627776 ∧ d ≤ R.length ∧ (∃ b cp, v = .slice (some ⟨b, 0, none⟩) vals.length cp) ∧ tv f 3 = v ∧ tv f 6 = vI (d : Int) ∧ tv f 7 = vP bc
theorem Yk2 {K : Nat} {a0 r : List (List Int)} (q0 : B9 K a0 = some r) {H : FH} {w : World} {L : OL} {s0 : Value} (hs0 : Y3 (X3 (Y4 .i64)) H s0 a0) (hS : St H w L) :
 Calls prog 154 #[s0] w (T4 (fun v G => (∃ b l c, v = .slice (some ⟨b, 0, none⟩) l c) ∧ (R.sl (Xb3 (Y4 .i64))).p G v r) H L) := by
 unfold B9 at q0
 by_cases hok : okR a0 = true
 case neg => rw [if_neg hok] at q0; cases q0
 rw [if_pos hok] at q0
 obtain ⟨ok1, ok2, ok3⟩ := of_decide_eq_true hok
 refine X0 func154 U ntmps154 U ?_
 repeat refine Z1 ?_
 refine Z0 (Z5 vN U U (Z2 ?_))
 repeat refine Z1 ?_
 refine Z0 (Yr4 (τ := Zn4) T2 Zj1 U hS U (fun b1 w1 ho1 hS => Z5 (.slice (some ⟨b1, 0, none⟩) 0 0) U U (Z2 ?_)))
 repeat refine Z1 ?_
 refine Z0 (Z3 s0 U U (X9 T2 U hs0 U (Z3 (vI 0) U U (Z2 (Y8 ?_)))))
 refine W3 (id := 0) (fun k f w => ∃ (m : Nat) (H1 : FH) (v : Value) (vals : List Value) (C0 : OL) (Cs : List OL), m ≤ a0.length ∧ a0.length < m + k ∧ Sub H H1 ∧ St H1 w (C0 ++ (Cs.flatten ++ L)) ∧ N7 H1 v vals (a0.take m) C0 Cs ∧ (∃ b cp, v = .slice (some ⟨b, 0, none⟩) vals.length cp) ∧ Y3 (X3 (Y4 .i64)) H1 s0 a0 ∧ tv f 3 = v ∧ tv f 14 = s0 ∧ tv f 15 = vI (a0.length : Int) ∧ tv f 16 = vI (m : Int))
  (fun f w => ∃ H1 v vals C0 Cs, Sub H H1 ∧ St H1 w (C0 ++ (Cs.flatten ++ L)) ∧ N7 H1 v vals a0 C0 Cs ∧ (∃ b cp, v = .slice (some ⟨b, 0, none⟩) vals.length cp) ∧ tv f 3 = v) U ?_ ?_ (a0.length + 1) ?_ ?_
 rintro f w ⟨m, H1, v, vals, C0, Cs, h1, h2, _⟩; omega
 rintro k f w ih hx ⟨m, H1, v, vals, C0, Cs, h1, h2, Z4, hS, hO, hnz, hs0, t3, t14, t15, t16⟩
 repeat refine Z1 ?_
 refine Z0 (V4 (k := .i64) (a := m) (b := a0.length) (by exact t16) (by exact t15) U (Z2 ?_))
 repeat refine Z1 ?_
 by_cases hm : (m : Int) < (a0.length : Int)
 have hm' : m < a0.length := by omega
 refine Z8 (bT hm U) (Y6 ?_)
 repeat refine Z1 ?_
 refine Y8 ?_
 repeat refine Z1 ?_
 refine Z0 ?_
 obtain ⟨b, o, cs, E, _, hp, hb, ⟨u, rfl, hu⟩, hc⟩ := hs0.elem (i := (m : Int)) (by omega) hm
 refine X6 T2 U (by exact t14) hp (by exact t16) (by omega) hm U (Y1 u Q9 U (hS.froz _ _ hb) (hc 0 (show 0 < 1 by decide)) U (Z5 u U U (Z2 (Z0 (Z3 v (by exact t3) U (Z3 u U U ?_))))))
 rw [Zs9 hm'] at hu
 have hlen : (a0.getD m []).length ≤ 1099511627776 := by rw [ok3 _ (Xe9 hm')]; exact ok2
 refine U9 call183 (S4 U) U (Xp6 (K := K) (Wa1 hlen) hu hS) ?_
 rintro e2 w2 ⟨u2, H2, C2, rfl, hs2, hS, ho2⟩
 refine ⟨_, U, ?_⟩
 have hO := hO.mono hs2
 refine Zc4 (τ := Zn4) T2 Zj1 U [u2] [u2] U U (D3 U) (Zl6 (Xl8 ho2)) (by decide) (by decide) hS U ?_
 intro u3 H3 w3 hs3 hS hl3
 have hO := hO.mono hs3
 have ho2 := ho2.mono hs3
 have hS := hS.swap
 refine N2 (τ := Zn4) Ya0 U U U hO.out hS hl3 (by have := hO.lv; rw [length_take] at this; simp; omega) U ?_
 intro v4 w4 C4 ho4 hS
 have hO := hO.app ho4 ho2
 have hnz := ho4.some (i := (0 : Int)) (by omega) (by simp)
 refine Z5 v4 U U (Z2 (X1 (Z0 (W4 ((m : Int) + 1) (by exact t16) U (i64_in _ (by omega)) U (Z3 (vI ((m : Int) + 1)) U U (Z2 ?_))))))
 have ht : a0.take m ++ [a0.getD m []] = a0.take (m + 1) := by rw [take_add_one, getElem?_eq_getElem hm', P2 hm']; rfl
 rw [ht] at hO
 have hS : St H3 w4 (C4 ++ ((Cs ++ [C2]).flatten ++ L)) := by
  refine hS.perm (List.Perm.append_left C4 ?_)
  rw [flatten_append, flatten_cons, flatten_nil, append_nil, ← append_assoc]
  exact List.Perm.append_right L perm_append_comm
 exact ih _ _ ⟨m + 1, H3, v4, _, C4, _, by omega, by omega, (Z4.trans hs2).trans hs3, hS, hO, hnz, (hs0.mono hs2).mono hs3, U, t14, t15, by show vI ((m : Int) + 1) = vI ((m + 1 : Nat) : Int); rw [Int.natCast_add]; rfl⟩
 refine Z6 (bF hm U) (W2 U ?_)
 have e : m = a0.length := by omega
 subst e
 rw [take_length] at hO
 exact hx _ _ ⟨H1, v, vals, C0, Cs, Z4, hS, hO, hnz, t3⟩
 exact ⟨0, H, _, [], _, [], by omega, by omega, .refl _, by simpa using hS, ⟨ho1, U, U, fun i hi => by simp at hi⟩, ⟨_, _, U⟩, hs0, U, U, U, U⟩
 rintro f w ⟨H1, v, vals, C0, Cs, Z4, hS, hO, hnz, t3⟩
 have un0 : Un (a0.getD 0 []).length a0 := fun i hi => ok3 _ (Xe9 hi)
 generalize hn : (a0.getD 0 []).length = n at q0 ok2 un0
 repeat refine Z1 ?_
 refine Z0 (Z5 (vI 0) U U (Z2 ?_))
 repeat refine Z1 ?_
 refine Z0 (U5 (z := vI 0) #[vI 0] ze3.zero U hS U (fun bc w2 hS => J7 (v := vI 0) (cs := #[vI 0]) (cs' := #[vI 0]) ty3 U U hS U (Zv6 U) (Nat.le_of_ble_eq_true U) U (fun w3 hS => Z2 ?_)))
 repeat refine Z1 ?_
 refine Y8 (W3 (id := 2) (fun k f w => ∃ j R d H1 v vals C0 Cs bc, Wa7 K n r H L k f w j R d H1 v vals C0 Cs bc) (fun f w => ∃ R d H1 v vals C0 Cs bc, r = take d R ∧ d ≤ R.length ∧ Sub H H1 ∧ St H1 w ([bc] ++ (C0 ++ (Cs.flatten ++ L))) ∧ N7 H1 v vals R C0 Cs ∧ (∃ b cp, v = .slice (some ⟨b, 0, none⟩) vals.length cp) ∧ tv f 3 = v ∧ tv f 6 = vI (d : Int)) U ?_ ?_ (n + 1) ?_ ?_)
 rintro f w ⟨j, R, d, H1, v, vals, C0, Cs, bc, h⟩; have := h.fuel; omega
 intro k f w ih hx ⟨j, R, d, H1, v, vals, C0, Cs, bc, h⟩
 repeat refine Z1 ?_
 have hS := h.st
 have lv := h.ow.lv
 obtain ⟨b, cp, hv⟩ := h.nz
 have hdl := h.dl
 have hle := h.le
 have hjn := h.jn
 generalize hcc : n - j = c at hS
 by_cases hd : (d : Int) < (vals.length : Int)
 case neg =>
  refine W6 12 (S8 [mE 26 (vI d), mE 27 v, mE 28 (vI vals.length), mE 29 (vB (decide ((d : Int) < (vals.length : Int)))), mE 30 (vB (decide ((d : Int) < (vals.length : Int)))), mE 31 undef, mE 32 undef, mE 33 undef, mE 34 undef, mE 35 undef, mE 36 undef, mE 37 (vB false)]) [] mixed U U U hS (U1 (X4 fun S B => Z3 _ (evT (B 6 U) h.t6) U (qz S)) (X4 fun S B => Z3 _ (evT (B 3 U) h.t3) U (qz S)) (Y7 fun S V => Yh0 T2 (eM (V 1 27 U U)) h.ow.out U (qz S)) (Y7 fun S V => V4 (k := .i64) (a := d) (b := vals.length) (eM (V 0 26 U U)) (eM (V 2 28 U U)) U (qz S)) (Y7 fun S V => Z3 _ (eM (V 3 29 U U)) U (qz S)) (Y7 fun S V => Z9 U U (bF hd (eM (V 4 30 U U))) U U U (qz S)) (Y7 fun S V => Z9 U U (bF hd (eM (V 4 30 U U))) U U U (qz S)) (Y7 fun S V => Z9 U U (bF hd (eM (V 4 30 U U))) U U U (qz S)) (K3 (Y7 fun S V => Z9 U U (bF hd (eM (V 4 30 U U))) U U U (qz S)) (Y7 fun S V => Z9 U U (bF hd (eM (V 4 30 U U))) U U U (qz S)) (Y7 fun S V => Z9 U U (bF hd (eM (V 4 30 U U))) U U U (qz S)) (Y7 fun S V => W5 (t := false) (vB false) (bF hd (eM (V 4 30 U U))) U U (qz S)) W9)) ?_
  intro f2 w2 H2 hs2 hS hB hV hcq
  refine Z2 ?_
  repeat refine Z1 ?_
  refine Z6 (eM (hV 11 37 (by decide) U)) (W2 U (hx _ _ ⟨R, d, H2, v, vals, C0, Cs, _, Xl5 h.eq (.inl (by omega)), hdl, h.sub.trans hs2, hS, h.ow.mono hs2, h.nz, evT (hB 3 U) h.t3, evT (hB 6 U) h.t6⟩))
 have hd' : d < R.length := by omega
 have h0' : 0 < R.length := by omega
 obtain ⟨va, vc, hva⟩ := (h.ow.rb (i := 0) (L' := _) h0' h.ins).lenV
 rw [h.un 0 h0'] at hva
 refine W6 12 (S8 [mE 26 (vI d), mE 27 v, mE 28 (vI vals.length), mE 29 (vB (decide ((d : Int) < (vals.length : Int)))), mE 30 (vB (decide ((d : Int) < (vals.length : Int)))), mE 31 (vI c), mE 32 v, mE 33 (vQ b (0 * 1)), mE 34 (vals.getD 0 undef), mE 35 (vI n), mE 36 (vB (decide ((c : Int) < (n : Int)))), mE 37 (vB (decide ((c : Int) < (n : Int))))]) [] mixed U U U hS (U1 (X4 fun S B => Z3 _ (evT (B 6 U) h.t6) U (qz S)) (X4 fun S B => Z3 _ (evT (B 3 U) h.t3) U (qz S)) (Y7 fun S V => Yh0 T2 (eM (V 1 27 U U)) h.ow.out U (qz S)) (Y7 fun S V => V4 (k := .i64) (a := d) (b := vals.length) (eM (V 0 26 U U)) (eM (V 2 28 U U)) U (qz S)) (Y7 fun S V => Z3 _ (eM (V 3 29 U U)) U (qz S)) (K6 fun S B V => Y0 U U (bT hd (eM (V 4 30 U U))) (Y1 (vI c) ty3 (evT (B 7 U) h.t7) (S.get (mR mL)) U U (qz S))) (K6 fun S B V => Y0 U U (bT hd (eM (V 4 30 U U))) (Z3 _ (evT (B 3 U) h.t3) U (qz S))) (Y7 fun S V => Y0 U U (bT hd (eM (V 4 30 U U))) (Q3 T2 ((eM (V 6 32 U U)).trans hv) U (by omega) (by omega) U (qz S))) (K3 (P0 fun s S V => Y0 U U (bT hd (eM (V 4 30 U U))) (Zq5 hv (h.ow.out.mono s) S (fun x hx => mR (mR (mem_append_left _ hx))) (eM (V 7 33 U U)) (by omega) U (qz S))) (Y7 fun S V => Y0 U U (bT hd (eM (V 4 30 U U))) (Zq3 T1 ((eM (V 8 34 U U)).trans hva) U (qz S))) (Y7 fun S V => Y0 U U (bT hd (eM (V 4 30 U U))) (V4 (k := .i64) (a := c) (b := n) (eM (V 5 31 U U)) (eM (V 9 35 U U)) U (qz S))) (Y7 fun S V => W5 (t := true) _ (bT hd (eM (V 4 30 U U))) ((if_pos U).trans (eM (V 10 36 U U))) U (qz S)) W9)) ?_
 intro f2 w2 H2 hs2 hS hB hV hcq
 refine Z2 ?_
 repeat refine Z1 ?_
 by_cases hj : (c : Int) < (n : Int)
 case neg =>
  refine Z6 (bF hj (eM (hV 11 37 (by decide) U))) (W2 U (hx _ _ ⟨R, d, H2, v, vals, C0, Cs, _, Xl5 h.eq (.inr (by omega)), hdl, h.sub.trans hs2, hS, h.ow.mono hs2, h.nz, evT (hB 3 U) h.t3, evT (hB 6 U) h.t6⟩))
 refine Z8 (bT hj (eM (hV 11 37 (by decide) U))) (Y6 ?_)
 repeat refine Z1 ?_
 have heq := h.eq
 have Z4 := h.sub.trans hs2
 have hO := h.ow.mono hs2
 have t3 : tv f2 3 = v := evT (hB 3 U) h.t3
 have t6 : tv f2 6 = vI d := evT (hB 6 U) h.t6
 have t7 : tv f2 7 = vP bc := evT (hB 7 U) h.t7
 have hun := h.un
 have hfu := h.fuel
 have hnz := h.nz
 clear h
 obtain ⟨j, rfl⟩ : ∃ j', j = j' + 1 := ⟨j - 1, by omega⟩
 rw [Yq5, if_pos hd', hcc] at heq
 obtain ⟨p, hp1, hp2⟩ := bSm heq
 have hS : St H2 w2 (C0 ++ (Cs.flatten ++ ([(bc, .cells #[vI (c : Int)] 3)] ++ L))) := by
  have h1 : St H2 w2 ([(bc, .cells #[vI (c : Int)] 3)] ++ (C0 ++ (Cs.flatten ++ L))) := hS
  exact h1.perm (Zc0 (A1 := C0) (A2 := Cs.flatten)).symm
 generalize hLb : [(bc, Obj.cells #[vI (c : Int)] 3)] ++ L = Lb at hS
 have hbm : (bc, Obj.cells #[vI (c : Int)] 3) ∈ Lb := by rw [← hLb]; exact mL
 refine N1 (fun f w => Vm8 K n r H Lb j bc f w) ?_ ?_
 rintro fz wz ⟨Rz, dz, Hz, vz, valsz, C0z, Csz, hez, hsubz, hSz, hOz, hunz, hlez, hdlz, hnzz, z3, z6, z7⟩
 subst hLb
 repeat refine Z1 ?_
 refine Z0 (Y1 (vI (c : Int)) ty3 (by exact z7) (hSz.own _ (mR (mR mL))) U U (Z2 ?_))
 repeat refine Z1 ?_
 refine Z0 (U5 (z := vI 0) #[vI 0] ze3.zero U hSz U (fun bn wy hSz => J7 (v := vI (c : Int)) (cs := #[vI 0]) (cs' := #[vI (c : Int)]) ty3 U U hSz U (Zv6 U) (Nat.le_of_ble_eq_true U) U (fun wx hSz => Z2 ?_)))
 repeat refine Z1 ?_
 refine Z0 (Y1 (vI (c : Int)) ty3 U (hSz.get mL) U U (W4 ((c : Int) + 1) U U (i64_in _ (by omega)) U (J7 (v := vI ((c : Int) + 1)) (cs := #[vI (c : Int)]) (cs' := #[vI ((c : Int) + 1)]) ty3 U U hSz U (Zv6 U) (Nat.le_of_ble_eq_true U) U ?_)))
 intro wv hSz
 have hSz := (hSz.perm Xl1).dA
 have ec : ((n - j : Nat) : Int) = (c : Int) + 1 := by omega
 refine Z2 (ih _ _ ⟨j, Rz, dz, Hz, vz, valsz, C0z, Csz, bn, ⟨hez, by omega, by omega, hsubz, by rw [ec]; exact hSz, hOz, hunz, hlez, hdlz, hnzz, z3, z6, U⟩⟩)
 intro hJ
 refine Y8 ?_
 repeat refine Z1 ?_
 have in0 : ∀ x, x ∈ C0 → x ∈ C0 ++ (Cs.flatten ++ Lb) := fun x hx => mem_append_left _ hx
 have ins : ∀ x, x ∈ Cs.flatten → x ∈ C0 ++ (Cs.flatten ++ Lb) := fun x hx => mR (mem_append_left _ hx)
 have inb : (bc, Obj.cells #[vI (c : Int)] 3) ∈ C0 ++ (Cs.flatten ++ Lb) := mR (mR hbm)
 refine Z0 (Z3 v (by exact t3) U (Z3 (vI d) (by exact t6) U (Xo9 T2 (show v = _ from hv) U (by omega) U (Yq8 (by exact t7) U ?_))))
 have hout := hO.out
 rw [hv] at hout
 refine X2 call232 (W8 U U) U (Wr6 (RbV.rest hout in0 (by omega)) (by simp [lv]) (Wo7 hO ins d) U inb (by omega) (fun x hx => by rw [hun.mem (mem_of_mem_drop hx)]; exact hj) hS) ?_
 rintro _ H3 w3 hs3 hS rfl
 have Z4 := Z4.trans hs3
 have hO := hO.mono hs3
 clear hout
 refine Z5 (vI (fi (c : Int) (R.drop d) 0)) U U (Z2 ?_)
 repeat refine Z1 ?_
 refine Z0 (Z3 (vI (fi (c : Int) (R.drop d) 0)) U U (V4 (k := .i64) (a := fi (c : Int) (R.drop d) 0) (b := 0) U U U (Z2 ?_)))
 repeat refine Z1 ?_
 unfold Wk9 at hp1
 by_cases hneg : fi (c : Int) (R.drop d) 0 < 0
 rw [if_pos hneg] at hp1
 obtain rfl := oi hp1
 refine Z8 (bT hneg U) (W2 U (hJ _ _ ⟨R, d, H3, v, vals, C0, Cs, hp2, Z4, hS, hO, hun, hle, hdl, hnz, by exact t3, by exact t6, by exact t7⟩))
 rw [if_neg hneg] at hp1
 refine Z6 (bF hneg U) (Y6 ?_)
 repeat refine Z1 ?_
 obtain ⟨a, ha, hal⟩ : ∃ a : Nat, fi (c : Int) (R.drop d) 0 = (a : Int) ∧ a < (R.drop d).length := by
  rcases Wj3 (c : Int) (R.drop d) 0 with h | ⟨a, h1, h2, _⟩
  omega
  exact ⟨a, by rw [h1]; simp, h2⟩
 rw [length_drop] at hal
 rw [ha] at hp1
 rw [Int.toNat_natCast] at hp1
 have hk : d + a < R.length := by omega
 have hkv : d + a < vals.length := by omega
 have hdv : d < vals.length := by omega
 refine Zc7 fun f3 hf3 => ?_
 have t3 : tv f3 3 = v := by rw [hf3]; exact t3
 have t6 : tv f3 6 = vI d := by rw [hf3]; exact t6
 have t7 : tv f3 7 = vP bc := by rw [hf3]; exact t7
 have t8 : tv f3 8 = vI (a : Int) := by rw [hf3]; exact congrArg vI ha
 clear hf3
 refine Wu8 17 (S8 [mE 47 v, mE 48 (vI d), mE 49 v, mE 50 (vI d), mE 51 (vI (a : Int)), mE 52 (vI ((d : Int) + (a : Int))), mE 53 v, mE 54 (vI d), mE 55 (vI (a : Int)), mE 56 (vI ((d : Int) + (a : Int))), mE 57 (vQ b ((d + a) * 1)), mE 58 (vals.getD (d + a) undef), mE 59 v, mE 60 (vI d), mE 61 (vQ b (d * 1)), mE 62 (vals.getD d undef), mE 63 (vQ b (d * 1))])
  (fun i => Nat.ble 2 i && Nat.ble i 5) (fun G w => ∃ C, St G w (C ++ (Cs.flatten ++ Lb)) ∧ W0 Zn4 22 G v (vals.set d (vals.getD (d + a) undef)) C) mixed
  (Xz3 (by intro p hp v; simp only [mem_cons, not_mem_nil, or_false] at hp; rcases hp with rfl | rfl | rfl | rfl | rfl | rfl | rfl | rfl | rfl | rfl | rfl | rfl | rfl | rfl | rfl | rfl | rfl <;> rfl)) rfl rfl rfl rfl rfl rfl ?_ hS
  (W7 U ?_ (W7 U ?_ (W7 U ?_ (W7 U ?_ (W7 U ?_ (W7 U ?_ (W7 U ?_ (W7 U ?_ (W7 U ?_ (W7 U ?_ (W7 U ?_ (W7 U ?_ (W7 U ?_ (W7 U ?_ (W7 U ?_ (W7 U ?_ (W7 U ?_ W9))))))))))))))))) ?_ ?_
 intro i o hi hl ho
 have h4 : i = 2 ∨ i = 3 ∨ i = 4 ∨ i = 5 := by simp at hl; omega
 rcases h4 with rfl | rfl | rfl | rfl <;> cases ho
 exact ⟨49, U, fun f w G hs hB hV => Z3 v (evT (hB 3 U) t3) U (Z2 ⟨_, U, U, U⟩)⟩
 exact ⟨50, U, fun f w G hs hB hV => Z3 (vI d) (evT (hB 6 U) t6) U (Z2 ⟨_, U, U, U⟩)⟩
 exact ⟨51, U, fun f w G hs hB hV => Z3 (vI (a : Int)) (evT (hB 8 U) t8) U (Z2 ⟨_, U, U, U⟩)⟩
 exact ⟨52, U, fun f w G hs hB hV => W4 ((d : Int) + (a : Int)) (eM (hV 3 50 (by decide) U U)) (eM (hV 4 51 (by decide) U U)) (i64_in _ (by omega)) U (Z2 ⟨_, U, U, U⟩)⟩
 exact X4 fun S B => Z3 v (evT (B 3 U) t3) U (qz S)
 exact X4 fun S B => Z3 _ (evT (B 6 U) t6) U (qz S)
 exact X4 fun S B => Z3 v (evT (B 3 U) t3) U (qz S)
 exact X4 fun S B => Z3 _ (evT (B 6 U) t6) U (qz S)
 exact X4 fun S B => Z3 _ (evT (B 8 U) t8) U (qz S)
 exact Y7 fun S V => W4 ((d : Int) + (a : Int)) (eM (V 3 50 U U)) (eM (V 4 51 U U)) (i64_in _ (by omega)) U (qz S)
 exact X4 fun S B => Z3 v (evT (B 3 U) t3) U (qz S)
 exact X4 fun S B => Z3 _ (evT (B 6 U) t6) U (qz S)
 exact X4 fun S B => Z3 _ (evT (B 8 U) t8) U (qz S)
 exact Y7 fun S V => W4 ((d : Int) + (a : Int)) (eM (V 7 54 U U)) (eM (V 8 55 U U)) (i64_in _ (by omega)) U (qz S)
 exact Y7 fun S V => Q3 T2 ((eM (V 6 53 U U)).trans hv) (eM (V 9 56 U U)) (by omega) (by omega) U (qz S)
 exact P0 fun s S V => Zq5 hv (hO.out.mono s) S (fun x hx => mR (in0 x hx)) (eM (V 10 57 U U)) hkv U (qz S)
 exact X4 fun S B => Z3 v (evT (B 3 U) t3) U (qz S)
 exact X4 fun S B => Z3 _ (evT (B 6 U) t6) U (qz S)
 exact Y7 fun S V => Q3 T2 ((eM (V 12 59 U U)).trans hv) (eM (V 13 60 U U)) (by omega) (by omega) U (qz S)
 exact P0 fun s S V => Zq5 hv (hO.out.mono s) S (fun x hx => mR (in0 x hx)) (eM (V 14 61 U U)) hdv U (qz S)
 exact Y7 fun S V => Q3 T2 ((eM (V 0 47 U U)).trans hv) (eM (V 1 48 U U)) (by omega) (by omega) U (qz S)
 intro f w G hs S hB hV
 refine Za9 (τ := Zn4) (v := v) (u := vals.getD (d + a) undef) (vals.getD (d + a) undef) (i := (d : Int)) U Q9 hv (hO.out.mono hs) S (eM (hV 16 63 (by decide) U U)) (eM (hV 11 58 (by decide) U U)) (by omega) (by omega) (Xl8 (hO.row _ hk)) ?_
 intro w' C' ho' S'
 rw [Int.toNat_natCast] at ho'
 exact Z2 ⟨G, U, .refl _, C', S', ho'⟩
 rintro f4 w4 G4 hs4 ⟨C', hS, ho⟩ hB hV
 refine Q3 T2 ((eM (hV 2 49 (by decide) U)).trans hv) (eM (hV 5 52 (by decide) U)) (by omega) (by omega) U (Za9 (τ := Zn4) (v := v) (u := vals.getD d undef) (vals.getD d undef) (i := (d : Int) + (a : Int)) U Q9 hv ho hS U (by exact (eM (hV 15 62 (by decide) U))) (by omega) (by rw [length_set]; omega) (Xl8 (hO.row _ hd')) ?_)
 intro w5 C5 ho5 hS
 rw [show ((d : Int) + (a : Int)).toNat = d + a by omega] at ho5
 have hlc := hO.lc
 have hO := (hO.mono hs4).swap hd' hk ho5
 have hS := Ws2 hS (i := d) (k := d + a) (by omega) (by omega)
 have Z4 := Z4.trans hs4
 have hun := hun.swp hd' hk
 have hv : v = .slice (some ⟨b, 0, none⟩) (swp vals d (d + a) undef).length cp := by rw [Zw3]; exact hv
 have hRl : (swp R d (d + a) []).length = R.length := Zw3 ..
 have hnz : ∃ b cp, v = .slice (some ⟨b, 0, none⟩) (swp vals d (d + a) undef).length cp := ⟨b, cp, hv⟩
 refine Z2 ?_
 repeat refine Z1 ?_
 refine Zc7 fun f5 hf5 => ?_
 have t3 : tv f5 3 = v := by rw [hf5]; exact (evT (hB 3 U) t3)
 have t6 : tv f5 6 = vI d := by rw [hf5]; exact (evT (hB 6 U) t6)
 have t7 : tv f5 7 = vP bc := by rw [hf5]; exact (evT (hB 7 U) t7)
 clear hf5 hB hV ho ho5 t8
 generalize swp vals d (d + a) undef = vals1 at *
 generalize swp R d (d + a) [] = R1 at *
 generalize swp Cs d (d + a) [] = Cs1 at *
 obtain ⟨q, hq1, hp1⟩ := bSm hp1
 have hd1 : d < R1.length := by omega
 have lv1 := hO.lv
 have lc1 := hO.lc
 have hrl := hun d hd1
 have in0 : ∀ x, x ∈ C5 → x ∈ C5 ++ (Cs1.flatten ++ Lb) := fun x hx => mem_append_left _ hx
 have ins : ∀ x, x ∈ Cs1.flatten → x ∈ C5 ++ (Cs1.flatten ++ Lb) := fun x hx => mR (mem_append_left _ hx)
 have inb : (bc, Obj.cells #[vI (c : Int)] 3) ∈ C5 ++ (Cs1.flatten ++ Lb) := mR (mR hbm)
 obtain ⟨bb, cc, hu⟩ := (hO.row d hd1).some (i := (c : Int)) (by omega) (by omega)
 have hrb := hO.rb hd1 ins
 refine W6 8 (S8 [mE 65 v, mE 66 (vI d), mE 67 (vQ b (d * 1)), mE 68 (vals1.getD d undef), mE 69 (vI (c : Int)), mE 70 (vQ bb (0 + c * 1)), mE 71 (vI (rd (R1.getD d []) (c : Int))), mE 72 (vI q)]) [] mixed U U U hS (U1 (X4 fun S B => Z3 v (evT (B 3 U) t3) U (qz S)) (X4 fun S B => Z3 _ (evT (B 6 U) t6) U (qz S)) (Y7 fun S V => Q3 T2 ((eM (V 0 65 U U)).trans hv) (eM (V 1 66 U U)) (by omega) (by omega) U (qz S)) (P0 fun s S V => Zq5 hv (hO.out.mono s) S (fun x hx => mR (in0 x hx)) (eM (V 2 67 U U)) (by omega) U (qz S)) (X4 fun S B => Y1 (vI (c : Int)) ty3 (evT (B 7 U) t7) (S.own _ (mR inb)) U U (qz S)) (Y7 fun S V => Zh9 T1 ((eM (V 3 68 U U)).trans hu) (eM (V 4 69 U U)) (by omega) (by omega) U (qz S)) (P0 fun s S V => Yw0 (i := (c : Int)) hu hrb s S.dA (eM (V 5 70 U U)) (by omega) (by omega) U (qz S)) ?_ W9) ?_
 intro f w G X s S B V _
 refine X2 call234 (S4 (eM (V 6 71 U U))) U (Xb8 hq1 S) ?_
 rintro _ G2 w2 hs2 S rfl
 exact qn hs2 U S U
 intro f6 w6 G6 hs6 hS hB hV _
 refine Z5 (vI q) (eM (hV 7 72 (by decide) U)) U (Z2 ?_)
 have hS : St G6 w6 (C5 ++ (Cs1.flatten ++ Lb)) := hS
 have hO := hO.mono hs6
 have Z4 := Z4.trans hs6
 repeat refine Z1 ?_
 refine Zc7 fun f7 hf7 => ?_
 have t3 : tv f7 3 = v := by rw [hf7]; exact (evT (hB 3 U) t3)
 have t6 : tv f7 6 = vI d := by rw [hf7]; exact (evT (hB 6 U) t6)
 have t7 : tv f7 7 = vP bc := by rw [hf7]; exact (evT (hB 7 U) t7)
 have t9 : tv f7 9 = vI q := by rw [hf7]; rfl
 clear hf7 hB hV
 refine Z0 (Z3 v (by exact t3) U (Z3 (vI d) (by exact t6) U (Q3 T2 (Eq.trans U hv) U (by omega) (by omega) U (Zq5 hv hO.out hS in0 U (by omega) U (Zq3 T1 (Eq.trans U hu) U (Z3 (vI 0) U U (Z2 ?_)))))))
 repeat refine Z1 ?_
 refine Y8 ?_
 have hset : ∀ m, (R1.set d (Zh4 q (R1.getD d []) m)).getD d [] = Zh4 q (R1.getD d []) m := fun m => by rw [Zi1 _ _ _ _ _ hd1, if_pos U]
 refine Zc7 fun f8 hf8 => ?_
 have t3 : tv f8 3 = v := by rw [hf8]; exact t3
 have t6 : tv f8 6 = vI d := by rw [hf8]; exact t6
 have t7 : tv f8 7 = vP bc := by rw [hf8]; exact t7
 have t9 : tv f8 9 = vI q := by rw [hf8]; exact t9
 have t77 : tv f8 77 = vI (n : Int) := by rw [hf8]; show vI ((R1.getD d []).length : Int) = _; rw [hrl]
 have t78 : tv f8 78 = vI ((0 : Nat) : Int) := by rw [hf8]; rfl
 clear hf8
 refine W3 (id := 4) (fun k f w => ∃ (m : Nat) (G : FH) (Cs2 : List OL), m ≤ n ∧ n < m + k ∧ Sub H G ∧ St G w (C5 ++ (Cs2.flatten ++ Lb)) ∧ N7 G v vals1 (R1.set d (Zh4 q (R1.getD d []) m)) C5 Cs2 ∧ tv f 3 = v ∧ tv f 6 = vI d ∧ tv f 7 = vP bc ∧ tv f 9 = vI q ∧ tv f 77 = vI (n : Int) ∧ tv f 78 = vI (m : Int))
  (fun f w => ∃ G Cs2, Sub H G ∧ St G w (C5 ++ (Cs2.flatten ++ Lb)) ∧ N7 G v vals1 (R1.set d (Zh4 q (R1.getD d []) n)) C5 Cs2 ∧ tv f 3 = v ∧ tv f 6 = vI d ∧ tv f 7 = vP bc) U ?_ ?_ (n + 1) ?_ ?_
 rintro f w ⟨m, G, Cs2, h1, h2, _⟩; omega
 rintro k2 f9 w9 ih9 hx9 ⟨m, G, Cs2, h1, h2, Z4, hS, hO, t3, t6, t7, t9, t77, t78⟩
 repeat refine Z1 ?_
 refine Z0 (V4 (k := .i64) (a := m) (b := n) (by exact t78) (by exact t77) U (Z2 ?_))
 repeat refine Z1 ?_
 by_cases hm : (m : Int) < (n : Int)
 case neg =>
  refine Z6 (bF hm U) (W2 U ?_)
  have e : m = n := by omega
  rw [e] at hO
  exact hx9 _ _ ⟨G, Cs2, Z4, hS, hO, by exact t3, by exact t6, by exact t7⟩
 refine Z8 (bT hm U) (Y6 ?_)
 repeat refine Z1 ?_
 refine Y8 ?_
 repeat refine Z1 ?_
 refine Z0 (Z3 (vI m) (by exact t78) U (Z5 (vI m) U U (Z2 (Zc7 fun fa hfa => ?_))))
 have t3 : tv fa 3 = v := by rw [hfa]; exact t3
 have t6 : tv fa 6 = vI d := by rw [hfa]; exact t6
 have t7 : tv fa 7 = vP bc := by rw [hfa]; exact t7
 have t9 : tv fa 9 = vI q := by rw [hfa]; exact t9
 have t10 : tv fa 10 = vI (m : Int) := by rw [hfa]; rfl
 have t77 : tv fa 77 = vI (n : Int) := by rw [hfa]; exact t77
 have t78 : tv fa 78 = vI (m : Int) := by rw [hfa]; exact t78
 clear hfa
 have hdl2 : d < (R1.set d (Zh4 q (R1.getD d []) m)).length := by rw [length_set]; exact hd1
 have lc2 := hO.lc
 have in0 : ∀ x, x ∈ C5 → x ∈ C5 ++ (Cs2.flatten ++ Lb) := fun x hx => mem_append_left _ hx
 have ins : ∀ x, x ∈ Cs2.flatten → x ∈ C5 ++ (Cs2.flatten ++ Lb) := fun x hx => mR (mem_append_left _ hx)
 have hrow := hO.row d hdl2
 rw [hset m] at hrow
 have hlm : (Zh4 q (R1.getD d []) m).length = n := by rw [Ym8]; exact hrl
 obtain ⟨bb, cc, hu⟩ := hrow.some (i := (m : Int)) (by omega) (by omega)
 have hrb := hO.rb hdl2 ins
 rw [hset m] at hrb
 refine W6 16 (S8 [mE 81 v, mE 82 (vI d), mE 83 (vQ b (d * 1)), mE 84 (vals1.getD d undef), mE 85 (vI (m : Int)), mE 86 v, mE 87 (vI d), mE 88 (vQ b (d * 1)), mE 89 (vals1.getD d undef), mE 90 (vI (m : Int)), mE 91 (vQ bb (0 + m * 1)), mE 92 (vI (rd (Zh4 q (R1.getD d []) m) (m : Int))), mE 93 (vI q), mE 94 (vI (i64.wrap (rd (Zh4 q (R1.getD d []) m) (m : Int) * q))), mE 95 (vI ((i64.wrap (rd (Zh4 q (R1.getD d []) m) (m : Int) * q)).tmod 10007)), mE 96 (vQ bb (m * 1))]) [] mixed U U U hS (U1 (X4 fun S B => Z3 v (evT (B 3 U) t3) U (qz S)) (X4 fun S B => Z3 _ (evT (B 6 U) t6) U (qz S)) (Y7 fun S V => Q3 T2 ((eM (V 0 81 U U)).trans hv) (eM (V 1 82 U U)) (by omega) (by omega) U (qz S)) (P0 fun s S V => Zq5 hv (hO.out.mono s) S (fun x hx => mR (in0 x hx)) (eM (V 2 83 U U)) (by omega) U (qz S)) (X4 fun S B => Z3 _ (evT (B 10 U) t10) U (qz S)) (X4 fun S B => Z3 v (evT (B 3 U) t3) U (qz S)) (X4 fun S B => Z3 _ (evT (B 6 U) t6) U (qz S)) (Y7 fun S V => Q3 T2 ((eM (V 5 86 U U)).trans hv) (eM (V 6 87 U U)) (by omega) (by omega) U (qz S)) (U1 (P0 fun s S V => Zq5 hv (hO.out.mono s) S (fun x hx => mR (in0 x hx)) (eM (V 7 88 U U)) (by omega) U (qz S)) (X4 fun S B => Z3 _ (evT (B 10 U) t10) U (qz S)) (Y7 fun S V => Zh9 T1 ((eM (V 8 89 U U)).trans hu) (eM (V 9 90 U U)) (by omega) (by omega) U (qz S)) (P0 fun s S V => Yw0 (i := (m : Int)) hu hrb s S.dA (eM (V 10 91 U U)) (by omega) (by omega) U (qz S)) (X4 fun S B => Z3 _ (evT (B 9 U) t9) U (qz S)) (Y7 fun S V => Zi4 _ (eM (V 11 92 U U)) (eM (V 12 93 U U)) U U (qz S)) (Y7 fun S V => Zd4 _ (eM (V 13 94 U U)) U (by decide) U U (qz S)) (Y7 fun S V => Q3 T1 ((eM (V 3 84 U U)).trans hu) (eM (V 4 85 U U)) (by omega) (by omega) U (qz S)) W9)) ?_
 intro fb wb Gb hsb hS hB hV _
 have hO := hO.mono hsb
 have hS : St Gb wb (C5 ++ (Cs2.flatten ++ Lb)) := hS
 have hS := Wg6 hS (i := d) (by omega)
 refine Za9 (τ := Y4 .i64) (v := vals1.getD d undef) (u := vI ((i64.wrap (rd (Zh4 q (R1.getD d []) m) (m : Int) * q)).tmod 10007)) ((i64.wrap (rd (Zh4 q (R1.getD d []) m) (m : Int) * q)).tmod 10007) (i := (m : Int)) U ty2 hu (hrow.mono hsb) hS (eM (hV 15 96 (by decide) U)) (eM (hV 14 95 (by decide) U)) (by omega) (by omega) U ?_
 intro wc Cc hoc hS
 rw [Int.toNat_natCast] at hoc
 have hS := Wd7 hS (i := d) (by omega)
 have hO := hO.put hdl2 hoc
 rw [set_set] at hO
 refine Z2 (X1 (Z0 (W4 ((m : Int) + 1) (by exact (evT (hB 78 U) t78)) U (i64_in _ (by omega)) U (Z3 (vI ((m : Int) + 1)) U U (Z2 (ih9 _ _ ⟨m + 1, Gb, _, by omega, by omega, Z4.trans hsb, hS, hO, (evT (hB 3 U) t3), (evT (hB 6 U) t6), (evT (hB 7 U) t7), (evT (hB 9 U) t9), (evT (hB 77 U) t77), by show vI ((m : Int) + 1) = vI ((m + 1 : Nat) : Int); rw [Int.natCast_add]; rfl⟩))))))
 refine ⟨0, G6, Cs1, by omega, by omega, Z4, hS, ?_, t3, t6, t7, t9, t77, t78⟩
 have e : R1.set d (Zh4 q (R1.getD d []) 0) = R1 := by
  apply ext_getElem?
  intro i
  rw [getElem?_set]
  split
  rename_i e; subst e; first | rw [Zh4, P2 hd1, getElem?_eq_getElem hd1] | rw [if_pos hd1, Zh4, P2 hd1, getElem?_eq_getElem hd1]
  rfl
 rw [e]; exact hO
 rintro fd wd ⟨Gd, Cs2, Z4, hS, hO, t3, t6, t7⟩
 rw [hrl] at hp1
 have hun2 : Un n (R1.set d (Zh4 q (R1.getD d []) n)) := hun.set hd1 (by rw [Ym8]; exact hrl)
 have hR2l : (R1.set d (Zh4 q (R1.getD d []) n)).length = R.length := by rw [length_set]; exact hRl
 generalize R1.set d (Zh4 q (R1.getD d []) n) = R2 at *
 clear hset hrb hu in0 ins inb
 repeat refine Z1 ?_
 refine Z0 (Z3 v (by exact t3) U (Zq3 T2 (Eq.trans U hv) U (Z3 (vI 0) U U (Z2 ?_))))
 repeat refine Z1 ?_
 refine Y8 (Zc7 fun fe hfe => ?_)
 have t3 : tv fe 3 = v := by rw [hfe]; exact t3
 have t6 : tv fe 6 = vI d := by rw [hfe]; exact t6
 have t7 : tv fe 7 = vP bc := by rw [hfe]; exact t7
 have t98 : tv fe 98 = v := by rw [hfe]; rfl
 have t99 : tv fe 99 = vI (R.length : Int) := by rw [hfe]; show vI (vals1.length : Int) = _; rw [lv1, hRl]
 have t100 : tv fe 100 = vI ((0 : Nat) : Int) := by rw [hfe]; rfl
 clear hfe
 refine W3 (id := 6) (fun k f w => ∃ (m : Nat) (G : FH) (Cs3 : List OL), m ≤ R.length ∧ R.length < m + k ∧ Sub H G ∧ St G w (C5 ++ (Cs3.flatten ++ Lb)) ∧ N7 G v vals1 (elmN d (c : Int) R2 m) C5 Cs3 ∧ tv f 3 = v ∧ tv f 6 = vI d ∧ tv f 7 = vP bc ∧ tv f 98 = v ∧ tv f 99 = vI (R.length : Int) ∧ tv f 100 = vI (m : Int))
  (fun f w => ∃ G Cs3, Sub H G ∧ St G w (C5 ++ (Cs3.flatten ++ Lb)) ∧ N7 G v vals1 (elmN d (c : Int) R2 R.length) C5 Cs3 ∧ tv f 3 = v ∧ tv f 6 = vI d ∧ tv f 7 = vP bc) U ?_ ?_ (R.length + 1) ?_ ?_
 rintro f w ⟨m, G, Cs3, h1, h2, _⟩; omega
 rintro k2 f9 w9 ih9 hx9 ⟨m, G, Cs3, h1, h2, Z4, hS, hO, t3, t6, t7, t98, t99, t100⟩
 repeat refine Z1 ?_
 refine Z0 (V4 (k := .i64) (a := m) (b := R.length) (by exact t100) (by exact t99) U (Z2 ?_))
 repeat refine Z1 ?_
 by_cases hm : (m : Int) < (R.length : Int)
 case neg =>
  refine Z6 (bF hm U) (W2 U ?_)
  have e : m = R.length := by omega
  rw [e] at hO
  exact hx9 _ _ ⟨G, Cs3, Z4, hS, hO, by exact t3, by exact t6, by exact t7⟩
 refine Z8 (bT hm U) (Y6 ?_)
 repeat refine Z1 ?_
 refine Y8 ?_
 repeat refine Z1 ?_
 have hlE : (elmN d (c : Int) R2 m).length = R.length := by rw [Zy9]; exact hR2l
 have hunE : Un n (elmN d (c : Int) R2 m) := hun2.elmN d (c : Int) m (by omega)
 have hmE : m < (elmN d (c : Int) R2 m).length := by omega
 have hdE : d < (elmN d (c : Int) R2 m).length := by omega
 have lc3 := hO.lc
 have in0 : ∀ x, x ∈ C5 → x ∈ C5 ++ (Cs3.flatten ++ Lb) := fun x hx => mem_append_left _ hx
 have ins : ∀ x, x ∈ Cs3.flatten → x ∈ C5 ++ (Cs3.flatten ++ Lb) := fun x hx => mR (mem_append_left _ hx)
 have inb : (bc, Obj.cells #[vI (c : Int)] 3) ∈ C5 ++ (Cs3.flatten ++ Lb) := mR (mR hbm)
 have hlm := hunE m hmE
 have hld := hunE d hdE
 obtain ⟨bm, cm, hum⟩ := (hO.row m hmE).some (i := (c : Int)) (by omega) (by omega)
 have hrbm := hO.rb hmE ins
 have hnext : elmN d (c : Int) R2 (m + 1) = Yt5 d (c : Int) (elmN d (c : Int) R2 m) m := rfl
 unfold Yt5 at hnext
 refine Z0 (Z3 (vI m) (by exact t100) U (Q3 T2 (Eq.trans t98 hv) (by exact t100) (by omega) (by omega) U (Zq5 hv hO.out hS in0 U (by omega) U (Z5 (vI m) U U (Z5 (vals1.getD m undef) U U (Z2 ?_))))))
 repeat refine Z1 ?_
 refine Z0 (Z3 (vI m) U U (Z3 (vI d) (by exact t6) U (L1 (k := .i64) (a := m) (b := d) U U U (Z3 (vB (!decide ((m : Int) = (d : Int)))) U U ?_))))
 by_cases hmd : (m : Int) = (d : Int)
 refine Z9 U U (bN hmd U) U U U (Z9 U U (bN hmd U) U U U (Z9 U U (bN hmd U) U U U (Z9 U U (bN hmd U) U U U (Z9 U U (bN hmd U) U U U (W5 (t := false) (vB false) (bN hmd U) U U (Z2 (Z6 U (Y6 (X1 (Z0 (W4 ((m : Int) + 1) (by exact t100) U (i64_in _ (by omega)) U (Z3 (vI ((m : Int) + 1)) U U (Z2 ?_)))))))))))))
 rw [if_neg (fun h => h.1 (by omega))] at hnext
 exact ih9 _ _ ⟨m + 1, G, Cs3, by omega, by omega, Z4, hS, by rw [hnext]; exact hO, t3, t6, t7, t98, t99, by show vI ((m : Int) + 1) = vI ((m + 1 : Nat) : Int); rw [Int.natCast_add]; rfl⟩
 refine Y0 U U (bO hmd U) (Z3 (vals1.getD m undef) U U (Y0 U U (bO hmd U) (Y1 (vI (c : Int)) ty3 (by exact t7) (hS.own _ inb) U U (Y0 U U (bO hmd U) (Zh9 T1 (Eq.trans U hum) U (by omega) (by omega) U (Y0 U U (bO hmd U) (Yw0 (i := (c : Int)) hum hrbm (.refl _) hS U (by omega) (by omega) U (Y0 U U (bO hmd U) (L1 (k := .i64) (a := rd ((elmN d (c : Int) R2 m).getD m []) (c : Int)) (b := 0) U U U (W5 (t := true) (vB (!decide (rd ((elmN d (c : Int) R2 m).getD m []) (c : Int) = 0))) (bO hmd U) U U (Z2 ?_)))))))))))
 by_cases hz : rd ((elmN d (c : Int) R2 m).getD m []) (c : Int) = 0
 refine Z6 (bN hz U) (Y6 (X1 (Z0 (W4 ((m : Int) + 1) (by exact t100) U (i64_in _ (by omega)) U (Z3 (vI ((m : Int) + 1)) U U (Z2 ?_))))))
 rw [if_neg (fun h => h.2 hz)] at hnext
 exact ih9 _ _ ⟨m + 1, G, Cs3, by omega, by omega, Z4, hS, by rw [hnext]; exact hO, t3, t6, t7, t98, t99, by show vI ((m : Int) + 1) = vI ((m + 1 : Nat) : Int); rw [Int.natCast_add]; rfl⟩
 refine Z8 (bO hz U) ?_
 rw [if_pos ⟨by omega, hz⟩] at hnext
 refine Zc7 fun fg hfg => ?_
 have t3 : tv fg 3 = v := by rw [hfg]; exact t3
 have t6 : tv fg 6 = vI d := by rw [hfg]; exact t6
 have t7 : tv fg 7 = vP bc := by rw [hfg]; exact t7
 have t12 : tv fg 12 = vals1.getD m undef := by rw [hfg]; rfl
 have t98 : tv fg 98 = v := by rw [hfg]; exact t98
 have t99 : tv fg 99 = vI (R.length : Int) := by rw [hfg]; exact t99
 have t100 : tv fg 100 = vI (m : Int) := by rw [hfg]; exact t100
 clear hfg
 refine W6 9 (S8 [mE 115 (vals1.getD m undef), mE 116 v, mE 117 (vI d), mE 118 (vQ b (d * 1)), mE 119 (vals1.getD d undef), mE 120 (vals1.getD m undef), mE 121 (vI (c : Int)), mE 122 (vQ bm (0 + c * 1)), mE 123 (vI (rd ((elmN d (c : Int) R2 m).getD m []) (c : Int)))]) [] mixed U U U hS (U1 (X4 fun S B => Z3 _ (evT (B 12 U) t12) U (qz S)) (X4 fun S B => Z3 v (evT (B 3 U) t3) U (qz S)) (X4 fun S B => Z3 _ (evT (B 6 U) t6) U (qz S)) (Y7 fun S V => Q3 T2 ((eM (V 1 116 U U)).trans hv) (eM (V 2 117 U U)) (by omega) (by omega) U (qz S)) (P0 fun s S V => Zq5 hv (hO.out.mono s) S (fun x hx => mR (in0 x hx)) (eM (V 3 118 U U)) (by omega) U (qz S)) (X4 fun S B => Z3 _ (evT (B 12 U) t12) U (qz S)) (X4 fun S B => Y1 (vI (c : Int)) ty3 (evT (B 7 U) t7) (S.own _ (mR inb)) U U (qz S)) (Y7 fun S V => Zh9 T1 ((eM (V 5 120 U U)).trans hum) (eM (V 6 121 U U)) (by omega) (by omega) U (qz S)) (I2 (P0 fun s S V => Yw0 (i := (c : Int)) hum hrbm s S.dA (eM (V 7 122 U U)) (by omega) (by omega) U (qz S)) W9)) ?_
 intro fh wh Gh hsh hS hB hV _
 have hO := hO.mono hsh
 have hS : St Gh wh (C5 ++ (Cs3.flatten ++ Lb)) := hS
 have hS := Wg6 hS (i := m) (by omega)
 refine U9 call194 (I3 (eM (hV 0 115 (by decide) U)) (eM (hV 4 119 (by decide) U)) (eM (hV 8 123 (by decide) U))) U (Yh4 (hO.row m hmE) (Rb.ofOwn (hO.row d hdE) (fun x hx => mR (mem_append_left _ (Wt6 (by omega) (by omega) x hx)))) (by omega) hS) ?_
 rintro e wi ⟨Gi, Ci, rfl, hsi, hS, hoi⟩
 refine ⟨_, U, Z2 ?_⟩
 have hS := Wd7 hS (i := m) (by omega)
 have hO := (hO.mono hsi).put hmE hoi
 refine X1 (Z0 (W4 ((m : Int) + 1) (by exact (evT (hB 100 U) t100)) U (i64_in _ (by omega)) U (Z3 (vI ((m : Int) + 1)) U U (Z2 (ih9 _ _ ⟨m + 1, Gi, _, by omega, by omega, (Z4.trans hsh).trans hsi, hS, by rw [hnext]; exact hO, (evT (hB 3 U) t3), (evT (hB 6 U) t6), (evT (hB 7 U) t7), (evT (hB 98 U) t98), (evT (hB 99 U) t99), by show vI ((m : Int) + 1) = vI ((m + 1 : Nat) : Int); rw [Int.natCast_add]; rfl⟩)))))
 exact ⟨0, Gd, Cs2, by omega, by omega, Z4, hS, hO, t3, t6, t7, t98, t99, t100⟩
 rintro fj wj ⟨Gj, Cs3, Z4, hS, hO, t3, t6, t7⟩
 obtain rfl := oi hp1
 repeat refine Z1 ?_
 refine Z0 (Z3 (vI d) (by exact t6) U (W4 ((d : Int) + 1) U U (i64_in _ (by omega)) U (Z5 (vI ((d : Int) + 1)) U U (Z2 (X1 (hJ _ _ ⟨_, d + 1, Gj, v, vals1, C5, Cs3, hp2, Z4, hS, hO, hun2.elmN d (c : Int) R.length (by omega), by rw [Zy9]; omega, by rw [Zy9]; omega, hnz, by exact t3, by show vI ((d : Int) + 1) = vI ((d + 1 : Nat) : Int); rw [Int.natCast_add]; rfl, by exact t7⟩))))))
 exact ⟨n, a0, 0, H1, v, vals, C0, Cs, bc, ⟨q0, by omega, Nat.le_refl _, Z4, by rw [Nat.sub_self]; exact hS, hO, un0, ok1, Nat.zero_le _, hnz, t3, U, U⟩⟩
 rintro f w ⟨R, d, H1, v, vals, C0, Cs, bx, hr, hdl, Z4, hS, hO, ⟨b, cp, hv⟩, t3, t6⟩
 subst hv
 have hcp : d ≤ cp := by
  have lv := hO.lv
  rcases hO.out with ⟨h, _⟩ | ⟨b', c', cs, h, h1, _⟩
  cases h
  cases h; omega
 repeat refine Z1 ?_
 refine Z0 (Z3 _ t3 U (Z3 (vI d) (by exact t6) U (Xa1 T2 U U hcp U (Z5 (.slice (some ⟨b, 0, none⟩) d cp) U U (Z2 ?_)))))
 obtain ⟨H2, s2, hS2, hrd⟩ := hO.freeze hdl hS.dA
 exact Y9 (vs := [.slice (some ⟨b, 0, none⟩) d cp]) func154 Ut ⟨_, H2, U, Z4.trans s2, hS2, ⟨b, d, cp, U⟩, by rw [hr]; exact hrd⟩
theorem Ym4 {a0 r : List (List Int)} (q0 : B9 K a0 = some r) (hs0 : Y3 (X3 (Y4 .i64)) H s0 a0) (hS : St H w L) :
 Calls prog 154 #[s0] w (T4 (fun v G => (R.sl (X3 (Y4 .i64))).p G v r) H L) := by
 refine (Yk2 q0 hs0 hS).mono ?_
 rintro e w' ⟨v, H', rfl, Z4, hS, _, h⟩
 exact ⟨_, _, U, Z4, hS, Y3.ofCap h⟩
end Go.Proofs.YtabofnehiclkiaaGreat
