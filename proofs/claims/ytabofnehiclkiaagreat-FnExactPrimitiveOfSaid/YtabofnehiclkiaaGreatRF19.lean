/- Walk, rules and plain laws. -/
import Derived.Test.YtabofnehiclkiaaGreatRF17
import Derived.Test.YtabofnehiclkiaaGreatRF18
namespace Go.Proofs.YtabofnehiclkiaaGreat
open Go Go.Proofs.Tryz IntKind IntWalk List
set_option linter.all false
set_option maxRecDepth 100000
set_option maxHeartbeats 8000000
variable {K : Nat} {H : FH} {w : World} {L : OL} {s0 s1 s2 s3 s4 s5 s6 : Value}
def rbL (K : Nat) : List Int → List (List Int) → Option (List Int)
 | row, [] => some row
 | row, r :: rs => (Zr6 K r).bind fun l => if 0 ≤ l ∧ l < row.length ∧ r.length ≤ row.length then rbL K (tkN row r (rd row l) r.length) rs else none
def Zd5 (K : Nat) (row : List Int) (rows : List (List Int)) : Option (List Int) := if row.length ≤ 1099511627776 then rbL K row rows else none
theorem Xx6 {K : Nat} {a0 : List Int} {a1 : List (List Int)} {r : List Int} (q0 : Zd5 K a0 a1 = some r) {H : FH} {w : World} {L : OL} {s0 s1 : Value} (hs0 : Y3 (Y4 .i64) H s0 a0) (hs1 : Y3 (X3 (Y4 .i64)) H s1 a1) (hS : St H w L) :
 Calls prog 155 #[s0, s1] w (Ye1 (Y4 .i64) 2 r H L) := by
 unfold Zd5 at q0
 by_cases hlen : a0.length ≤ 1099511627776
 case neg => rw [if_neg hlen] at q0; cases q0
 rw [if_pos hlen] at q0
 refine X0 func155 U ntmps155 U ?_
 repeat refine Z1 ?_
 refine Z0 (Z5 vN U U (Z2 ?_))
 repeat refine Z1 ?_
 refine Z0 (Z3 s0 U U (U9 call183 (S4 U) U (Xp6 (K := K) (Wa1 hlen) hs0 hS) ?_))
 rintro e2 w2 ⟨u2, H2, C2, rfl, Z4, hS, ho⟩
 refine ⟨_, U, ?_⟩
 have hs1 := hs1.mono Z4
 refine Z5 u2 U U (Z2 ?_)
 repeat refine Z1 ?_
 refine Z0 (Z3 s1 U U ?_)
 have hb1 := hs1.bound
 refine X9 T2 U hs1 U (Z3 (vI 0) U U (Z2 (Y8 ?_)))
 refine W3 (id := 0) (fun k f w => ∃ (m : Nat) (H1 : FH) (row : List Int) (C : OL), m ≤ a1.length ∧ a1.length < m + k ∧ rbL K row (a1.drop m) = some r ∧ Sub H H1 ∧ St H1 w (C ++ L) ∧ W0 (Y4 .i64) 2 H1 u2 row C ∧ Y3 (X3 (Y4 .i64)) H1 s1 a1 ∧ tv f 0 = u2 ∧ tv f 9 = s1 ∧ tv f 10 = vI (a1.length : Int) ∧ tv f 11 = vI (m : Int))
  (fun f w => ∃ H1 C, Sub H H1 ∧ St H1 w (C ++ L) ∧ W0 (Y4 .i64) 2 H1 u2 r C ∧ tv f 0 = u2) U ?_ ?_ (a1.length + 1) ?_ ?_
 rintro f w ⟨m, H1, row, C, h1, h2, _⟩; omega
 rintro k f w ih hx ⟨m, H1, row, C, h1, h2, heq, Z4, hS, ho, hs1, t0, t9, t10, t11⟩
 repeat refine Z1 ?_
 refine Z0 (V4 (k := .i64) (a := m) (b := a1.length) (by exact t11) (by exact t10) U (Z2 ?_))
 repeat refine Z1 ?_
 by_cases hm : (m : Int) < (a1.length : Int)
 have hm' : m < a1.length := by omega
 rw [show a1.drop m = a1[m] :: a1.drop (m + 1) from (getElem_cons_drop ..).symm, rbL] at heq
 obtain ⟨l, hl, heq⟩ := bSm heq
 by_cases hg : 0 ≤ l ∧ l < row.length ∧ a1[m].length ≤ row.length
 case neg => rw [if_neg hg] at heq; cases heq
 rw [if_pos hg] at heq
 obtain ⟨g1, g2, g3⟩ := hg
 refine Z8 (bT hm U) (Y6 ?_)
 repeat refine Z1 ?_
 refine Y8 ?_
 repeat refine Z1 ?_
 refine Z0 ?_
 obtain ⟨b, o, cs, E, _, hp, hb, ⟨u, rfl, hu⟩, hc⟩ := hs1.elem (i := (m : Int)) (by omega) hm
 refine X6 T2 U (by exact t9) hp (by exact t11) (by omega) hm U (Y1 u Q9 U (hS.froz _ _ hb) (hc 0 (show 0 < 1 by decide)) U (Z5 u U U (Z2 (Z0 ?_))))
 rw [Zs9 hm', P2 hm'] at hu
 refine Z3 u2 (by exact t0) U (Z3 u U U (Z3 u2 (by exact t0) U (Z3 u U U (X2 call159 (S4 U) U (Yf4 hl hu hS) ?_))))
 rintro _ G w1 hsG hS rfl
 have ho := ho.mono hsG
 have hu := hu.mono hsG
 obtain ⟨b1, c1, hv1⟩ := ho.some g1 g2
 refine Q3 T1 (Eq.trans U hv1) U g1 g2 U (Yz3 (u := vI (rd row l)) U ty2 hv1 ho hS U g1 g2 (fun _ h => h) U (U9 call194 (I3 U U U) U (Yh4 ho (Rb.ofRd hu) g3 hS) ?_))
 rintro e wi ⟨Gi, Ci, rfl, hsi, hS, ho⟩
 refine ⟨_, U, Z2 ?_⟩
 refine X1 (Z0 (W4 ((m : Int) + 1) (by exact t11) U (i64_in _ (by omega)) U (Z3 (vI ((m : Int) + 1)) U U (Z2 (ih _ _ ⟨m + 1, Gi, _, Ci, by omega, by omega, heq, (Z4.trans hsG).trans hsi, hS, ho, (hs1.mono hsG).mono hsi, t0, t9, t10, by show vI ((m : Int) + 1) = vI ((m + 1 : Nat) : Int); rw [Int.natCast_add]; rfl⟩)))))
 refine Z6 (bF hm U) (W2 U ?_)
 have e : m = a1.length := by omega
 subst e
 rw [drop_length, rbL] at heq
 obtain rfl := oi heq
 exact hx _ _ ⟨H1, C, Z4, hS, ho, t0⟩
 exact ⟨0, H2, a0, C2, by omega, by omega, q0, Z4, hS, ho, hs1, U, U, U, U⟩
 rintro f w ⟨H1, C, Z4, hS, ho, t0⟩
 repeat refine Z1 ?_
 refine Z0 (Z3 u2 (by exact t0) U (Z5 u2 U U (Z2 (Y9 (vs := [u2]) func155 Ut ⟨_, _, _, U, Z4, hS, ho⟩))))
theorem Zy3 {a0 : List Int} {a1 : List (List Int)} {r : List Int} (q0 : Zd5 K a0 a1 = some r) {s0 s1 : Value} (hs0 : Y3 (Y4 .i64) H s0 a0) (hs1 : Y3 (X3 (Y4 .i64)) H s1 a1) (hS : St H w L) :
 Calls prog 155 #[s0, s1] w (T4 (fun v G => (R.sl (Y4 .i64)).p G v r) H L) := by
 refine (Xx6 q0 hs0 hs1 hS).mono ?_
 rintro e w' ⟨v, H', C, rfl, Z4, hS, ho⟩
 obtain ⟨H2, s2, hS2, hrd⟩ := ho.freeze hS
 exact ⟨_, _, U, Z4.trans s2, hS2, hrd⟩
def Zk3 (K : Nat) (a0 : ((List Int) × (List MpT))) (a1 : List MpT) : Option Int := ((Zo5 K (a0.1, a0.2)).bind fun r8 => (if r8 = true then ((T6 K a1 (fun x => Zf6 K x (a0.1, a0.2))).bind fun a8 => ((Zw2 K a8 1).bind fun b4 => some b4)) else ((Zw2 K true 1).bind fun b5 => some b5)))
theorem Yr7 {a0 : ((List Int) × (List MpT))} {a1 : List MpT} {r : Int} (q0 : Zk3 K a0 a1 = some r) (c7 : Zt4 (Yd6 (X3 (Y4 .i64)) (X3 (X3 yT))) H s0 a0) (a9 : Y3 (X3 yT) H s1 a1) (hS : St H w L) :
 Calls prog 79 #[s0, s1] w (T4 (fun v G => (R.int .i64).p G v r) H L) := by
 obtain ⟨b0, b2, _, _, _, rfl, a6, ⟨_, _, rfl, ⟨b7, rfl, a3⟩, ⟨b8, rfl, a4⟩⟩, b9⟩ := c7
 have Z4 := Sub.refl H
 refine X0 func79 U ntmps79 U ?_
 unfold Zk3 at q0
 refine Z1 (Z0 (T8 (v := vQ b0 b2) [vQ b0 b2].toArray U U hS U (fun b1 w2 hS => Z5 (vI 0) U U (Z2 (Z1 ?_)))))
 obtain ⟨_, b3, hS, b6⟩ := St.freezeBox hS
 have Z4 := Z4.trans b3
 have a9 := a9.mono b3
 have a3 := a3.mono b3
 have a4 := a4.mono b3
 have a6 := b3.1 _ _ a6
 refine Z0 (Y1 (vQ b0 b2) Vh9 U (hS.froz _ _ b6) ((Ys5 [vQ b0 b2] 1) 0 (show 0 < 1 by decide)) U (V0 U U (U0 ([b7] ++ [b8]) Zx2 U (hS.froz _ _ a6) U b9 U ?_)))
 obtain ⟨r8, c8, q0⟩ := bSm q0
 refine X2 call54 (S4 U) U (Yw9 c8 a3 a4 hS) ?_
 rintro _ _ _ a7 hS rfl
 have Z4 := Z4.trans a7
 have a9 := a9.mono a7
 have a3 := a3.mono a7
 have a4 := a4.mono a7
 have b6 := a7.1 _ _ b6
 have a6 := a7.1 _ _ a6
 refine P5 (b := r8) U U (Z3 (vB (!r8)) U U ?_)
 obtain ⟨a5, q0⟩ | ⟨a5, q0⟩ := ic q0
 refine Y0 U U (nT a5) (Z3 s1 U U (Y0 U U (nT a5) (Yq8 U U ?_)))
 obtain ⟨a8, c1, q0⟩ := bSm q0
 refine Y0 rfl rfl (nT a5) (X2 call123 (W8 rfl rfl) rfl (Zd6 c1 a9 ⟨149, #[vP b1], rfl, call149, fun H2 w2 L2 v x b c9 d0 hv d1 => by obtain ⟨_, rfl, ⟨d2, rfl, c0⟩⟩ := hv; exact Yn7 d1 c0 (Zt4.mono c9 ⟨_, _, _, _, _, rfl, b6, ⟨_, rfl, ⟨_, _, _, _, _, rfl, a6, ⟨_, _, rfl, ⟨_, rfl, a3⟩, ⟨_, rfl, a4⟩⟩, b9⟩⟩, (Ys5 [vQ b0 b2] 1)⟩) d0⟩ hS) ?_)
 rintro _ _ _ c2 hS rfl
 have Z4 := Z4.trans c2
 refine W5 (t := false) (vB a8) (nT a5) ((if_neg Bool.false_ne_true).trans U) U (Z5 (vB a8) U U (Z2 (Z1 (Z0 (Z3 (vB a8) U U ?_)))))
 obtain ⟨b4, c3, q0⟩ := bSm q0
 refine X2 call80 (W8 U U) U (Ys0 c3  hS) ?_
 rintro _ _ _ c4 hS rfl
 have Z4 := Z4.trans c4
 refine Z5 (vI b4) U U (Z2 (Y9 (vs := [vI b4]) func79 Ut ?_))
 cases q0
 exact ⟨_, _, U, Z4, hS, U⟩
 refine Z9 U U (nT (X8 a5)) U U U (Z9 U U (nT (X8 a5)) U U U (Z9 U U (nT (X8 a5)) U U U (W5 (t := true) (vB true) (nT (X8 a5)) ((if_pos U).trans U) U (Z5 (vB true) U U (Z2 (Z1 (Z0 (Z3 (vB true) U U ?_))))))))
 obtain ⟨b5, c5, q0⟩ := bSm q0
 refine X2 call80 (W8 U U) U (Ys0 c5  hS) ?_
 rintro _ _ _ c6 hS rfl
 have Z4 := Z4.trans c6
 refine Z5 (vI b5) U U (Z2 (Y9 (vs := [vI b5]) func79 Ut ?_))
 cases q0
 exact ⟨_, _, U, Z4, hS, U⟩
theorem Yp2 {P : Program} (w : World) (t tx ty e : TypeId) (i : TypeInfo) (z : Value) (ht : P.underlying t = some (.slice e)) (hk : P.underlying tx = some (.int .i64)) (hi : P.info? e = some i) (hz : i.zero = some z) (hs : i.size = 1) (hb : i.bytes ≤ 128)
 (n : Nat) (h0 : 0 < n) (hn : n ≤ 1099511627776) :
 (Builtin.append_ #[t, tx] ty #[.slice none 0 0, .int .i64 n]).run P w =
  .ok (.slice (some ⟨w.heap.size, 0, none⟩) n (grownCap w n 0 e)) (w.drew.alloc (.cells (Builtin.zeroCells z.cells n ++ Builtin.zeroCells z.cells (grownCap w n 0 e - n)) e)) := by
 have hw : i64.wrap (n : Int) = n := i64_in _ (by omega)
 have hm : n * i.bytes ≤ 140737488355328 := by
  calc n * i.bytes ≤ 1099511627776 * 128 := Nat.mul_le_mul hn hb
   _ = 140737488355328 := by decide
 have hm' : ¬ (281474976710656 < (n : Int) * (i.bytes : Int)) := by
  have : (n : Int) * (i.bytes : Int) = ((n * i.bytes : Nat) : Int) := by simp
  rw [this]; omega
 have h48' : ¬ (281474976710656 < Builtin.nextslicecap n 0 * i.bytes) := by rw [nextslicecap_zero h0]; omega
 have h1 : ¬ ((n : Int) < 0) := by omega
 have h2 : n ≠ 0 := by omega
 have h63 : ¬ (9223372036854775807 < (n : Int)) := by omega
 simp [Builtin.append_, run_underlying ht, run_underlying hk, sizeOf, typeInfo, zeroValue, hi, hz, hs, asInt, asIntOf, hw, hm', h48', h1, h2, h63, Question.forced, newRow, grownCap, Builtin.firstCells]
section
variable {n : Nat} {ops : Array Oper} {J : Fr → World → Prop} {r : List Oper} {f : Fr} {w : World} {d : Nat} {T : TypeId} {pos : String} {af : Array Edge} {H : FH} {L : OL}
theorem We3 {X E : TypeId} {x : Operand} {a : Option Addr} {m c s : Nat} (t : SlI prog X E s) (hx : ev f x = .slice a m c) (hn : Nat.blt d n = true)
 (K : X7 prog n ops J r (upd f d (.int .i64 c)) w) : X7 prog n ops J (⟨some d, .call ⟨.builtin .cap, #[x], #[X]⟩, T, pos, af, none⟩ :: r) f w :=
 U2 U U hn (by simp [execOp, resolve, invoke, builtin, Builtin.cap_, hx, t.under, goInt]) K
theorem Wm1 {X E : TypeId} {s : Nat} {x y : Operand} {k : IntKind} (t : SlI prog X E s) (hx : ev f x = .slice none 0 0) (hy : ev f y = .int k 0) (hn : Nat.blt d n = true)
 (K : X7 prog n ops J r (upd f d (.slice none 0 0)) w) : X7 prog n ops J (⟨some d, .slice X x none (some y) none, T, pos, af, none⟩ :: r) f w :=
 U2 U U hn (by simp [execOp, hx, hy, Instr.sliceAt, Instr.slice, Instr.sureAddr, Instr.sliceBounds, Instr.sliceBound, asIntOf, t.under, t.sizeOf]) K
theorem Wa8 {α : Type} {τ : Ty α} {x y : Operand} {m : Nat} (h1 : τ.size = 1) (hx : ev f x = .slice none 0 0) (hy : ev f y = vI m) (h0 : 0 < m) (hm : m ≤ 1099511627776) (hS : St H w L) (hn : Nat.blt d n = true)
 (K : ∀ b c w' C, W0 τ 2 H (.slice (some ⟨b, 0, none⟩) 0 c) [] C → St H w' (C ++ L) → X7 prog n ops J r (upd f d (.slice (some ⟨b, 0, none⟩) m c)) w') :
 X7 prog n ops J (⟨some d, .call ⟨.builtin .append, #[x, y], #[22, 3]⟩, T, pos, af, none⟩ :: r) f w := by
 obtain ⟨info, hi, hz, hsz, hby⟩ := Zx1.info
 have hr := Yp2 (P := prog) w 22 3 T 2 info _ Zx1.under underlying3 hi hz hsz (by omega) m h0 hm
 have hA : St H (w.drew.alloc (Obj.cells (Builtin.zeroCells (Value.int IntKind.i64 0).cells m ++ Builtin.zeroCells (Value.int IntKind.i64 0).cells (grownCap w m 0 2 - m)) 2)) ([(w.heap.size, Obj.cells (Builtin.zeroCells (Value.int IntKind.i64 0).cells m ++ Builtin.zeroCells (Value.int IntKind.i64 0).cells (grownCap w m 0 2 - m)) 2)] ++ L) := (hS.drew).alloc _
 generalize (w.drew.alloc (Obj.cells (Builtin.zeroCells (Value.int IntKind.i64 0).cells m ++ Builtin.zeroCells (Value.int IntKind.i64 0).cells (grownCap w m 0 2 - m)) 2)) = w' at hr hA
 refine U2 U U hn ?_ (K w.heap.size (grownCap w m 0 2) w' _ ?_ hA)
 simp only [execOp, resolve, invoke, builtin, Sem.run_bind, Sem.run_pure, Result.andThen_ok, map_toArray, map_cons, map_nil, hx, hy, hr]
 have hg := grownCap_ge w m 0 2
 refine .inr ⟨_, grownCap w m 0 2, _, U, by simp, grownCap_le_maxLen w _ _ _ (by simp only [maxLen]; omega), ?_, U, by simp⟩
 rw [Array.size_append, size_zeroCells, size_zeroCells, h1]
 show m * 1 + (grownCap w m 0 2 - m) * 1 = grownCap w m 0 2 * 1
 omega
end
theorem Wu5 {α : Type} {τ : Ty α} (h1 : τ.size = 1) {m : Nat} (hm : m ≤ 1099511627776) {H : FH} {w : World} {L : OL} (hS : St H w L) :
 Calls prog 256 #[.slice none 0 0, vI m] w (Ye1 τ 2 [] H L) := by
 refine X0 func256 U ntmps256 U ?_
 repeat refine Z1 ?_
 refine Z0 (Z5 vN U U (Z2 ?_))
 repeat refine Z1 ?_
 refine Z0 (Z3 (vI m) U U (V4 (k := .i64) (a := m) (b := 0) U U U (Z2 ?_)))
 repeat refine Z1 ?_
 refine Z6 (bF (by omega) U) (Y6 ?_)
 repeat refine Z1 ?_
 refine Z0 (Z3 (vI m) U U (Z3 (.slice none 0 0) U U (We3 T1 (a := none) (m := 0) (c := 0) U U (Z3 (.slice none 0 0) U U (Zq3 T1 (a := none) (m := 0) (c := 0) U U (Zg8 0 U U U U (Zg8 (m : Int) U U (by rw [Int.sub_zero]; exact i64_in _ (by omega)) U (Z5 (vI m) U U (Z2 ?_)))))))))
 repeat refine Z1 ?_
 refine Z0 (Z3 (vI m) U U (A0 (k := .i64) (a := m) (b := 0) U U U (Z2 ?_)))
 repeat refine Z1 ?_
 by_cases h0 : (0 : Int) < (m : Int)
 refine Z8 (bT h0 U) ?_
 repeat refine Z1 ?_
 refine Z0 (Z3 (.slice none 0 0) U U (Z3 (.slice none 0 0) U U (We3 T1 (a := none) (m := 0) (c := 0) U U (Wm1 T1 U U U (Z3 (vI m) U U (Wa8 h1 U U (by omega) hm hS U (fun b c w' C ho hS => Z3 (.slice none 0 0) U U (Zq3 T1 (a := none) (m := 0) (c := 0) U U (Xa1 T1 (j := 0) (k := .i64) U U (by omega) U (Z5 _ U U (Z2 ?_)))))))))))
 repeat refine Z1 ?_
 refine Z0 (Z3 (.slice (some ⟨b, 0, none⟩) 0 c) U U (Z5 (.slice (some ⟨b, 0, none⟩) 0 c) U U (Z2 (Y9 (vs := [.slice (some ⟨b, 0, none⟩) 0 c]) func256 Ut ⟨_, _, _, U, .refl _, hS, ho⟩))))
 refine Z6 (bF h0 U) (Y6 ?_)
 repeat refine Z1 ?_
 refine Z0 (Z3 (.slice none 0 0) U U (Z5 (.slice none 0 0) U U (Z2 (Y9 (vs := [.slice none 0 0]) func256 Ut ⟨_, H, [], U, .refl _, hS, W0.nil _ _ _⟩))))
theorem Xo2 (n : Nat) : Builtin.zeroCells (Value.int .i64 0).cells n = (replicate n (vI 0)).toArray := by
 apply Array.ext
 rw [size_zeroCells]; simp [Value.cells]
 intro i h1 h2
 have : i < n := by simpa using h2
 simp only [Builtin.zeroCells, Value.cells]
 simp [Nat.mod_one]
theorem Xf8 {H : FH} {w : World} {L C : OL} {v : Value} {xs : List Int} {ty : TypeId} (n : Nat) (ho : W0 (Y4 .i64) 2 H v xs C) (hS : St H w (C ++ L)) (hb : xs.length + n ≤ 1099511627776) :
 ∃ v' w' C', (Builtin.append_ #[22, 3] ty #[v, .int .i64 n]).run prog w = .ok v' w' ∧ W0 (Y4 .i64) 2 H v' (xs ++ replicate n 0) C' ∧ St H w' (C' ++ L) := by
 obtain ⟨info, hi, hz, hsz, hby⟩ := Zx1.info
 have ht := Zx1.under
 have hk := underlying3
 have hw : i64.wrap (n : Int) = n := i64_in _ (by omega)
 have hm : (xs.length + n) * info.bytes ≤ 140737488355328 := by
  rw [hby]
  calc (xs.length + n) * 8 ≤ 1099511627776 * 128 := Nat.mul_le_mul hb (by decide)
   _ = 140737488355328 := by decide
 have hm' : ¬ (281474976710656 < (n : Int) * (info.bytes : Int)) := by
  have h1 : (n : Int) * (info.bytes : Int) = ((n * info.bytes : Nat) : Int) := by simp
  have h2 : n * info.bytes ≤ (xs.length + n) * info.bytes := Nat.mul_le_mul_right _ (by omega)
  rw [h1]; omega
 have h1 : ¬ ((n : Int) < 0) := by omega
 have hw0 : i64.wrap 0 = 0 := i64_in _ (by omega)
 by_cases h0 : n = 0
 subst h0
 refine ⟨v, w, C, ?_, by simpa using ho, hS⟩
 rcases ho with ⟨rfl, rfl, rfl⟩ | ⟨b, c, cs, rfl, k1, k2, k3, rfl, k5⟩
 simp [Builtin.append_, run_underlying ht, run_underlying hk, sizeOf, typeInfo, hi, asInt, asIntOf, hw0, Builtin.firstCells]
 simp [Builtin.append_, run_underlying ht, run_underlying hk, sizeOf, typeInfo, hi, asInt, asIntOf, hw0, Builtin.firstCells, k1, storeCells]
 have hrel : ∀ (ys : List Int) (cells : Array Value) (c : Nat), cells.size = c * 1 → (∀ (i : Nat) (x : Int), ys[i]? = some x → cells[i]? = some (vI x)) → ∀ (i : Nat) (x : Int), ys[i]? = some x → ∃ ecs, (Y4 .i64).rel H ecs x ∧ ∀ j, j < (Y4 .i64).size → cells[i * (Y4 .i64).size + j]? = ecs[j]? := by
  intro ys cells c _ h i x hx
  refine ⟨[vI x], U, fun j hj => ?_⟩
  have hj : j < 1 := hj
  obtain rfl : j = 0 := by omega
  have := h i x hx
  show cells[i * 1 + 0]? = _
  rw [Nat.mul_one, Nat.add_zero, this]; rfl
 rcases ho with ⟨rfl, rfl, rfl⟩ | ⟨b, c, cs, rfl, k1, k2, k3, rfl, k5⟩
 have hr := Yp2 (P := prog) w 22 3 ty 2 info _ ht hk hi hz hsz (by omega) n (by omega) (by simpa using hb)
 have hg := grownCap_ge w n 0 2
 refine ⟨_, _, [(w.heap.size, _)], hr, .inr ⟨_, grownCap w n 0 2, _, by simp, by simpa using hg, grownCap_le_maxLen w _ _ _ (by simp only [maxLen, length_nil] at *; omega), ?_, U, ?_⟩, (hS.drew).alloc _⟩
 rw [Array.size_append, size_zeroCells, size_zeroCells]
 show n * 1 + (grownCap w n 0 2 - n) * 1 = grownCap w n 0 2 * 1
 omega
 refine hrel _ _ (grownCap w n 0 2) ?_ ?_
 rw [Array.size_append, size_zeroCells, size_zeroCells]
 show n * 1 + (grownCap w n 0 2 - n) * 1 = grownCap w n 0 2 * 1
 omega
 intro i x hx
 rw [nil_append, getElem?_replicate] at hx
 split at hx
 rename_i hin
 cases hx
 rw [Xo2, Array.getElem?_append_left (by simpa using hin)]
 simp [hin]
 cases hx
 have hcell : ∀ (i : Nat) (x : Int), xs[i]? = some x → cs[i]? = some (vI x) := by
  intro i x hx
  obtain ⟨ecs, hr, hj⟩ := k5 i x hx
  cases hr
  have := hj 0 (show 0 < 1 by decide)
  simpa [show (Y4 IntKind.i64).size = 1 from U] using this
 have hcs : cs.size = c := by have : cs.size = c * 1 := k3; omega
 have hbw := hS.hd (L := L)
 by_cases hroom : xs.length + n ≤ c
 have hst := Yg7 (P := prog) (b := b) (off := 0 + xs.length * info.size) (E := 2) (replicate n (vI 0)) cs w 0 hbw (by intro u hu; rw [(mem_replicate.1 hu).2]; rfl) (by rw [hsz, length_replicate]; omega)
 rw [if_neg (by simp [h0])] at hst
 refine ⟨.slice (some ⟨b, 0, none⟩) (xs.length + n) c, _, [(b, .cells (B6 cs (0 + xs.length * info.size + 0) (replicate n (vI 0))) 2)], ?_, .inr ⟨b, c, _, by simp, by simpa using hroom, k2, ?_, U, ?_⟩, St.withBlk (L := L) hS _⟩
 rw [hsz] at hst
 have ha : ((⟨b, 0, none⟩ : Addr).add (xs.length * 1)) = ⟨b, 0 + xs.length * 1, none⟩ := Q2 ..
 have hz1 : (Value.int .i64 0).cells = (Value.int .i64 0).cells := rfl
 simp [Builtin.append_, run_underlying ht, run_underlying hk, sizeOf, typeInfo, zeroValue, hi, hz, asInt, asIntOf, hw, hm', h0, h1, hsz, hroom, Xo2]
 simp at hst ha
 rw [ha, hst]
 simp
 rw [Yb9]; exact k3
 refine hrel _ _ c (by rw [Yb9]; exact k3) ?_
 intro i x hx
 rw [Zz8 _ _ _ _ (by rw [hsz, length_replicate]; omega), hsz, length_replicate]
 by_cases hlt : i < xs.length
 rw [getElem?_append_left hlt] at hx
 rw [if_neg (by omega)]
 exact hcell i x hx
 rw [getElem?_append_right (by omega), getElem?_replicate] at hx
 split at hx
 rename_i hin
 cases hx
 rw [if_pos (by omega), getElem?_replicate, if_pos (by omega)]
 cases hx
 have holds : ∀ (j : Nat) (u : Value), (xs.map vI)[j]? = some u → w.drew.cell? ((⟨b, 0, none⟩ : Addr).add j) = some u := fun j u hj => by
  rw [getElem?_map] at hj
  obtain ⟨x, hx, rfl⟩ := Option.map_eq_some_iff.1 hj
  have hbd : w.drew.heap[b]? = some (.cells cs 2) := hbw
  rw [Q2, Yg2 hbd, Nat.zero_add]
  exact hcell j x hx
 have hfo := run_firstCells_some (P := prog) w.drew 1 xs.length ⟨b, 0, none⟩ xs.length c (xs.map vI) (by simp) holds
 have hg := grownCap_ge w (xs.length + n) c 2
 have hfit := growslice_fits (need := xs.length + n) (old := c) (bytes := info.bytes) (by omega) hm
 refine ⟨.slice (some ⟨w.heap.size, 0, none⟩) (xs.length + n) (grownCap w (xs.length + n) c 2), w.drew.alloc (.cells ((xs.map vI).toArray ++ (replicate n (vI 0)).toArray ++ Builtin.zeroCells (Value.int .i64 0).cells (grownCap w (xs.length + n) c 2 - (xs.length + n))) 2), [(w.heap.size, _)], ?_, .inr ⟨_, grownCap w (xs.length + n) c 2, _, by simp, by simpa using hg, grownCap_le_maxLen w _ _ _ (by simp only [maxLen]; omega), ?_, U, ?_⟩, (hS.tl.drew).alloc _⟩
 have h63 : ¬ (9223372036854775807 < ((xs.length : Int) + (n : Int))) := by omega
 have h48 : ¬ (281474976710656 < Builtin.nextslicecap (xs.length + n) c * info.bytes) := by omega
 simp [Builtin.append_, run_underlying ht, run_underlying hk, sizeOf, typeInfo, zeroValue, hi, hz, asInt, asIntOf, hw, hm', h0, h1, hsz, hroom, h63, h48, Xo2, Question.forced, newRow, grownCap, hfo]
 rw [Array.size_append, Array.size_append, size_zeroCells]
 simp only [size_toArray, length_map, length_replicate]
 show xs.length + n + (grownCap w (xs.length + n) c 2 - (xs.length + n)) * 1 = grownCap w (xs.length + n) c 2 * 1
 omega
 refine hrel _ _ (grownCap w (xs.length + n) c 2) ?_ ?_
 rw [Array.size_append, Array.size_append, size_zeroCells]
 simp only [size_toArray, length_map, length_replicate]
 show xs.length + n + (grownCap w (xs.length + n) c 2 - (xs.length + n)) * 1 = grownCap w (xs.length + n) c 2 * 1
 omega
 intro i x hx
 have hlt : i < (xs ++ replicate n (0 : Int)).length := (List.getElem?_eq_some_iff.1 hx).1
 rw [length_append, length_replicate] at hlt
 rw [Array.getElem?_append_left (by simp; omega), append_toArray, getElem?_toArray]
 have e : xs.map vI ++ replicate n (vI 0) = (xs ++ replicate n 0).map vI := by simp
 rw [e, getElem?_map, hx]; rfl
section
variable {n : Nat} {ops : Array Oper} {J : Fr → World → Prop} {r : List Oper} {f : Fr} {w : World} {d : Nat} {T : TypeId} {pos : String} {af : Array Edge} {H : FH} {L C : OL}
theorem Yp6 {x y : Operand} {v : Value} {xs : List Int} {m : Int} (hx : ev f x = v) (hy : ev f y = vI m) (h0 : 0 ≤ m) (ho : W0 (Y4 .i64) 2 H v xs C) (hS : St H w (C ++ L)) (hb : xs.length + m.toNat ≤ 1099511627776) (hn : Nat.blt d n = true)
 (K : ∀ v' w' C', W0 (Y4 .i64) 2 H v' (xs ++ replicate m.toNat 0) C' → St H w' (C' ++ L) → X7 prog n ops J r (upd f d v') w') :
 X7 prog n ops J (⟨some d, .call ⟨.builtin .append, #[x, y], #[22, 3]⟩, T, pos, af, none⟩ :: r) f w := by
 obtain ⟨k, rfl⟩ := Int.eq_ofNat_of_zero_le h0
 rw [Int.toNat_natCast] at hb K
 obtain ⟨v', w', C', hr, ho', hS'⟩ := Xf8 (ty := T) k ho hS hb
 refine U2 U U hn ?_ (K v' w' C' ho' hS')
 simp only [execOp, resolve, invoke, builtin, Sem.run_bind, Sem.run_pure, Result.andThen_ok, map_toArray, map_cons, map_nil, hx, hy, hr]
end
def Zc2 (K : Nat) (xs : List (List Int)) : Option (List Int) := if xs.flatten.length ≤ 1099511627776 then some xs.flatten else none
theorem Xq6 (xs : List (List Int)) {m : Nat} (hm : m < xs.length) : (xs.take (m + 1)).flatten = (xs.take m).flatten ++ xs[m] := by
 rw [take_add_one, getElem?_eq_getElem hm, flatten_append]
 exact congrArg _ (by simp)
theorem Wh3 (xs : List (List Int)) (m : Nat) : (xs.take m).flatten.length ≤ xs.flatten.length := by
 conv => rhs; rw [← take_append_drop m xs, flatten_append, length_append]
 omega
theorem Xh1 {K : Nat} {a0 : List (List Int)} {r : List Int} (q0 : Zc2 K a0 = some r) {H : FH} {w : World} {L : OL} {s0 : Value} (hs0 : Y3 (X3 (Y4 .i64)) H s0 a0) (hS : St H w L) :
 Calls prog 193 #[s0] w (Ye1 (Y4 .i64) 2 r H L) := by
 unfold Zc2 at q0
 by_cases hlen : a0.flatten.length ≤ 1099511627776
 case neg => rw [if_neg hlen] at q0; cases q0
 rw [if_pos hlen] at q0
 cases q0
 have hb0 := hs0.bound
 refine X0 func193 U ntmps193 U ?_
 repeat refine Z1 ?_
 refine Z0 (Z5 vN U U (Z2 ?_))
 repeat refine Z1 ?_
 refine Z0 (Z5 (vI 0) U U (Z2 ?_))
 repeat refine Z1 ?_
 refine Z0 (Z3 s0 U U (X9 T2 U hs0 U (Z3 (vI 0) U U (Z2 (Y8 ?_)))))
 refine W3 (id := 0) (fun k f w => ∃ m : Nat, m ≤ a0.length ∧ a0.length < m + k ∧ St H w L ∧ tv f 0 = s0 ∧ tv f 3 = vI ((a0.take m).flatten.length : Int) ∧ tv f 9 = s0 ∧ tv f 10 = vI (a0.length : Int) ∧ tv f 11 = vI (m : Int))
  (fun f w => St H w L ∧ tv f 0 = s0 ∧ tv f 3 = vI (a0.flatten.length : Int)) U ?_ ?_ (a0.length + 1) ?_ ?_
 rintro f w ⟨m, h1, h2, _⟩; omega
 rintro k f w ih hx ⟨m, h1, h2, hS, t0, t3, t9, t10, t11⟩
 repeat refine Z1 ?_
 refine Z0 (V4 (k := .i64) (a := m) (b := a0.length) (by exact t11) (by exact t10) U (Z2 ?_))
 repeat refine Z1 ?_
 by_cases hm : (m : Int) < (a0.length : Int)
 have hm' : m < a0.length := by omega
 refine Z8 (bT hm U) (Y6 ?_)
 repeat refine Z1 ?_
 refine Y8 ?_
 repeat refine Z1 ?_
 refine Z0 ?_
 obtain ⟨b, o, cs, E, _, hp, hb, ⟨u, rfl, hu⟩, hc⟩ := hs0.elem (i := (m : Int)) (by omega) hm
 refine X6 T2 U (by exact t9) hp (by exact t11) (by omega) hm U (Y1 u Q9 U (hS.froz _ _ hb) (hc 0 (show 0 < 1 by decide)) U (Z5 u U U (Z2 ?_)))
 rw [Zs9 hm', P2 hm'] at hu
 have hle := Wh3 a0 (m + 1)
 have hst := Xq6 a0 hm'
 have hlst : (a0.take (m + 1)).flatten.length = (a0.take m).flatten.length + a0[m].length := by rw [hst, length_append]
 repeat refine Z1 ?_
 refine Z0 (Z3 (vI ((a0.take m).flatten.length : Int)) (by exact t3) U (Z3 u U U (X9 T1 U hu U (W4 ((a0.take (m + 1)).flatten.length : Int) U U (by rw [hlst, Int.natCast_add]; exact i64_in _ (by omega)) U (Z5 _ U U (Z2 ?_))))))
 repeat refine Z1 ?_
 refine Z0 (Z3 _ U U (V4 (k := .i64) (a := ((a0.take (m + 1)).flatten.length : Int)) (b := 0) U U U (Z2 ?_)))
 repeat refine Z1 ?_
 refine Z6 (bF (by omega) U) (Y6 (X1 (Z0 (W4 ((m : Int) + 1) (by exact t11) U (i64_in _ (by omega)) U (Z3 (vI ((m : Int) + 1)) U U (Z2 (ih _ _ ⟨m + 1, by omega, by omega, hS, t0, U, t9, t10, by show vI ((m : Int) + 1) = vI ((m + 1 : Nat) : Int); rw [Int.natCast_add]; rfl⟩)))))))
 refine Z6 (bF hm U) (W2 U ?_)
 have e : m = a0.length := by omega
 subst e
 rw [take_length] at t3
 exact hx _ _ ⟨hS, t0, t3⟩
 exact ⟨0, by omega, by omega, hS, U, U, U, U, U⟩
 rintro f w ⟨hS, t0, t3⟩
 repeat refine Z1 ?_
 refine Z0 (Z3 _ (by exact t3) U (U9 call256 (W8 U U) U (Wu5 (τ := Y4 .i64) U hlen hS) ?_))
 rintro e1 w1 ⟨v, H1, C, rfl, Z4, hS, ho⟩
 refine ⟨_, U, ?_⟩
 have hs0 := hs0.mono Z4
 refine Z5 v U U (Z2 ?_)
 repeat refine Z1 ?_
 refine Z0 (Z3 s0 (by exact t0) U (X9 T2 U hs0 U (Z3 (vI 0) U U (Z2 (Y8 ?_)))))
 refine W3 (id := 2) (fun k f w => ∃ (m : Nat) (v : Value) (C : OL), m ≤ a0.length ∧ a0.length < m + k ∧ St H1 w (C ++ L) ∧ W0 (Y4 .i64) 2 H1 v (a0.take m).flatten C ∧ tv f 6 = v ∧ tv f 25 = s0 ∧ tv f 26 = vI (a0.length : Int) ∧ tv f 27 = vI (m : Int))
  (fun f w => ∃ v C, St H1 w (C ++ L) ∧ W0 (Y4 .i64) 2 H1 v a0.flatten C ∧ tv f 6 = v) U ?_ ?_ (a0.length + 1) ?_ ?_
 rintro f w ⟨m, v, C, h1, h2, _⟩; omega
 rintro k f w ih hx ⟨m, v, C, h1, h2, hS, ho, t6, t25, t26, t27⟩
 repeat refine Z1 ?_
 refine Z0 (V4 (k := .i64) (a := m) (b := a0.length) (by exact t27) (by exact t26) U (Z2 ?_))
 repeat refine Z1 ?_
 by_cases hm : (m : Int) < (a0.length : Int)
 have hm' : m < a0.length := by omega
 refine Z8 (bT hm U) (Y6 ?_)
 repeat refine Z1 ?_
 refine Y8 ?_
 repeat refine Z1 ?_
 refine Z0 ?_
 obtain ⟨b, o, cs, E, _, hp, hb, ⟨u, rfl, hu⟩, hc⟩ := hs0.elem (i := (m : Int)) (by omega) hm
 refine X6 T2 U (by exact t25) hp (by exact t27) (by omega) hm U (Y1 u Q9 U (hS.froz _ _ hb) (hc 0 (show 0 < 1 by decide)) U (Z5 u U U (Z2 ?_)))
 rw [Zs9 hm', P2 hm'] at hu
 have hle := Wh3 a0 (m + 1)
 have hst := Xq6 a0 hm'
 rw [hst, length_append] at hle
 repeat refine Z1 ?_
 refine Z0 (Z3 v (by exact t6) U (Z3 u U U (N2 (τ := Y4 .i64) Zx1 U U U ho hS hu (by omega) U ?_)))
 intro v4 w4 C4 ho hS
 rw [← hst] at ho
 refine Z5 v4 U U (Z2 (X1 (Z0 (W4 ((m : Int) + 1) (by exact t27) U (i64_in _ (by omega)) U (Z3 (vI ((m : Int) + 1)) U U (Z2 (ih _ _ ⟨m + 1, v4, C4, by omega, by omega, hS, ho, U, t25, t26, by show vI ((m : Int) + 1) = vI ((m + 1 : Nat) : Int); rw [Int.natCast_add]; rfl⟩)))))))
 refine Z6 (bF hm U) (W2 U ?_)
 have e : m = a0.length := by omega
 subst e
 rw [take_length] at ho
 exact hx _ _ ⟨v, C, hS, ho, t6⟩
 exact ⟨0, v, C, by omega, by omega, hS, ho, U, U, U, U⟩
 rintro f w ⟨v, C, hS, ho, t6⟩
 repeat refine Z1 ?_
 refine Z0 (Z3 v (by exact t6) U (Z5 v U U (Z2 (Y9 (vs := [v]) func193 Ut ⟨_, _, _, U, Z4, hS, ho⟩))))
def Zk8 (n i : Nat) : List Int := (replicate n 0).set i 1
def R6 (n : Nat) : Nat → List (List Int) → List (List Int)
 | _, [] => []
 | i, r :: rs => (r ++ Zk8 n i) :: R6 n (i + 1) rs
def Yy9 (K width : Nat) : List (List Int) → List (List Int) → Option (List (List Int))
 | acc, [] => some acc
 | acc, r :: rs => if 0 < r.length ∧ width ≤ r.length then (Zl4 K (r.take width)).bind fun b => Yy9 K width (if b = true then acc ++ [r.drop width] else acc) rs else none
def okK (rows : List (List Int)) (width : Int) : Bool := decide (0 ≤ width ∧ width ≤ 1099511627776 ∧ rows.length ≤ 1099511627776 ∧ ∀ r, r ∈ rows → r.length + rows.length ≤ 1099511627776)
def Zv9 (K : Nat) (rows : List (List Int)) (width : Int) : Option (List (List Int)) :=
 if okK rows width = true then (B9 K (R6 rows.length 0 rows)).bind fun R => if R.length ≤ 1099511627776 then (Yy9 K width.toNat [] R).bind fun o => B9 K o else none else none
theorem Yv6 (n : Nat) : ∀ (rs : List (List Int)) (i m : Nat) (hm : m < rs.length), (R6 n i rs).take (m + 1) = (R6 n i rs).take m ++ [rs[m] ++ Zk8 n (i + m)]
 | [], i, m, hm => by simp at hm
 | r :: rs, i, 0, hm => by simp [R6]
 | r :: rs, i, m + 1, hm => by
  have := Yv6 n rs (i + 1) m (by simpa using hm)
  simp only [R6, take_succ_cons, cons_append, getElem_cons_succ]
  rw [this, show i + (m + 1) = i + 1 + m by omega]
theorem Zr2 (n : Nat) : ∀ (rs : List (List Int)) (i : Nat), (R6 n i rs).length = rs.length
 | [], _ => rfl
 | r :: rs, i => by simp [R6, Zr2 n rs]
theorem Y3.take {α : Type} {τ : Ty α} {H : FH} {v : Value} {xs : List α} (h : Y3 τ H v xs) {k : Nat} (hk : k ≤ xs.length) : ∃ a c, v = .slice a xs.length c ∧ Y3 τ H (.slice a k c) (xs.take k) := by
 obtain ⟨a, c, ⟨hv, hl⟩, h⟩ := h
 have hlen : (xs.take k).length = k := by rw [length_take]; omega
 refine ⟨a, c, hv, a, c, ⟨by rw [hlen], by rw [hlen]; omega⟩, ?_⟩
 rcases h with rfl | ⟨b, o, cs, E, h1, h2, h3⟩
 exact .inl (by simp)
 refine .inr ⟨b, o, cs, E, h1, h2, fun i x hx => h3 i x ?_⟩
 rw [getElem?_take] at hx
 split at hx
 exact hx
 cases hx
theorem Y3.drop {α : Type} {τ : Ty α} {H : FH} {b o c : Nat} {xs : List α} (h : Y3 τ H (.slice (some ⟨b, o, none⟩) xs.length c) xs) {k : Nat} (hk : k ≤ xs.length) (hc : xs.length ≤ c) :
 Y3 τ H (.slice (if c = k then some ⟨b, o, none⟩ else some ⟨b, o + k * τ.size, none⟩) (xs.length - k) (c - k)) (xs.drop k) := by
 obtain ⟨a, c', ⟨hv, hl⟩, h⟩ := h
 cases hv
 refine ⟨_, c - k, ⟨by rw [length_drop], by rw [length_drop]; omega⟩, ?_⟩
 by_cases e : k = xs.length
 exact .inl (by rw [e, drop_length])
 rcases h with rfl | ⟨b', o', cs, E, h1, h2, h3⟩
 exact .inl (by simp)
 cases h1
 rw [if_neg (by omega)]
 refine .inr ⟨b, o + k * τ.size, cs, E, U, h2, fun i x hx => ?_⟩
 rw [getElem?_drop] at hx
 obtain ⟨ecs, hr, hj⟩ := h3 _ x hx
 refine ⟨ecs, hr, fun j hjs => ?_⟩
 rw [← hj j hjs, Nat.add_mul]
 congr 1; omega
section
variable {P : Program} {n : Nat} {ops : Array Oper} {J : Fr → World → Prop} {r : List Oper} {f : Fr} {w : World} {d : Nat} {T : TypeId} {pos : String} {af : Array Edge}
theorem Y3.addr {α : Type} {τ : Ty α} {H : FH} {v : Value} {xs : List α} (h : Y3 τ H v xs) (h0 : 0 < xs.length) : ∃ b o c, v = .slice (some ⟨b, o, none⟩) xs.length c := by
 obtain ⟨a, c, ⟨hv, _⟩, h⟩ := h
 rcases h with rfl | ⟨b, o, cs, E, rfl, _⟩
 simp at h0
 exact ⟨b, o, c, hv⟩
end
theorem Wl2 {K : Nat} {a0 : List (List Int)} {a1 : Int} {r : List (List Int)} (q0 : Zv9 K a0 a1 = some r) {H : FH} {w : World} {L : OL} {s0 : Value} (hs0 : Y3 (X3 (Y4 .i64)) H s0 a0) (hS : St H w L) :
 Calls prog 152 #[s0, vI a1] w (T4 (fun v G => (∃ b l c, v = .slice (some ⟨b, 0, none⟩) l c) ∧ (R.sl (X3 (Y4 .i64))).p G v r) H L) := by
 unfold Zv9 at q0
 by_cases hok : okK a0 a1 = true
 case neg => rw [if_neg hok] at q0; cases q0
 rw [if_pos hok] at q0
 obtain ⟨R, hR, q0⟩ := bSm q0
 by_cases hRl : R.length ≤ 1099511627776
 case neg => rw [if_neg hRl] at q0; cases q0
 rw [if_pos hRl] at q0
 obtain ⟨o, hker, hr⟩ := bSm q0
 obtain ⟨ok1, ok1', ok2, ok3⟩ := of_decide_eq_true hok
 obtain ⟨wd, rfl⟩ := Int.eq_ofNat_of_zero_le ok1
 rw [Int.toNat_natCast] at hker
 clear hok ok1
 refine X0 func152 U ntmps152 U ?_
 repeat refine Z1 ?_
 refine Z0 (Z5 vN U U (Z2 ?_))
 repeat refine Z1 ?_
 refine Z0 (Z3 s0 U U (X9 T2 U hs0 U (Yr4 (τ := X3 (Y4 .i64)) T2 Zj1 U hS U (fun b1 w1 ho hS => Z5 (vI (a0.length : Int)) U U (Z5 (.slice (some ⟨b1, 0, none⟩) 0 0) U U (Z2 ?_))))))
 repeat refine Z1 ?_
 refine Z0 (Z3 s0 U U (X9 T2 U hs0 U (Z3 (vI 0) U U (Z2 (Y8 ?_)))))
 refine W3 (id := 0) (fun k f w => ∃ (m : Nat) (H1 : FH) (v : Value) (C : OL), m ≤ a0.length ∧ a0.length < m + k ∧ Sub H H1 ∧ St H1 w (C ++ L) ∧ W0 (X3 (Y4 .i64)) 22 H1 v ((R6 a0.length 0 a0).take m) C ∧ Y3 (X3 (Y4 .i64)) H1 s0 a0 ∧ tv f 1 = vI (wd : Int) ∧ tv f 5 = vI (a0.length : Int) ∧ tv f 6 = v ∧ tv f 16 = s0 ∧ tv f 17 = vI (a0.length : Int) ∧ tv f 18 = vI (m : Int))
  (fun f w => ∃ H1 v C, Sub H H1 ∧ St H1 w (C ++ L) ∧ W0 (X3 (Y4 .i64)) 22 H1 v (R6 a0.length 0 a0) C ∧ tv f 1 = vI (wd : Int) ∧ tv f 6 = v) U ?_ ?_ (a0.length + 1) ?_ ?_
 rintro f w ⟨m, H1, v, C, h1, h2, _⟩; omega
 rintro k f w ih hx ⟨m, H1, v, C, h1, h2, Z4, hS, ho, hs0, t1, t5, t6, t16, t17, t18⟩
 repeat refine Z1 ?_
 refine Z0 (V4 (k := .i64) (a := m) (b := a0.length) (by exact t18) (by exact t17) U (Z2 ?_))
 repeat refine Z1 ?_
 by_cases hm : (m : Int) < (a0.length : Int)
 have hm' : m < a0.length := by omega
 refine Z8 (bT hm U) (Y6 ?_)
 repeat refine Z1 ?_
 refine Y8 ?_
 repeat refine Z1 ?_
 refine Z0 (Z3 (vI (m : Int)) (by exact t18) U ?_)
 obtain ⟨b, of, cs, E, _, hp, hb, ⟨u, rfl, hu⟩, hc⟩ := hs0.elem (i := (m : Int)) (by omega) hm
 refine X6 T2 U (by exact t16) hp (by exact t18) (by omega) hm U (Y1 u Q9 U (hS.froz _ _ hb) (hc 0 (show 0 < 1 by decide)) U (Z5 (vI (m : Int)) U U (Z5 u U U (Z2 ?_))))
 rw [Zs9 hm', P2 hm'] at hu
 have hlen := ok3 _ (getElem_mem hm')
 repeat refine Z1 ?_
 refine Z0 (Z3 (vI (a0.length : Int)) (by exact t5) U (Zz4 (τ := Y4 .i64) (0 : Int) Zx1 U U U (fun _ => rfl) (by omega) (by omega) hS U (fun v2 w2 C2 ho2 hS => Z5 v2 U U (Z2 ?_))))
 rw [Int.toNat_natCast] at ho2
 repeat refine Z1 ?_
 refine Z0 (Z3 v2 U U (Z3 (vI (m : Int)) U U ?_))
 have hm2 : (m : Int) < ((replicate a0.length (0 : Int)).length : Int) := by rw [length_replicate]; exact hm
 obtain ⟨bv, cv, hv2⟩ := ho2.some (i := (m : Int)) (by omega) hm2
 refine Q3 T1 (Eq.trans U hv2) U (by omega) hm2 U (Za9 (τ := Y4 .i64) (v := v2) (u := vI 1) 1 (i := (m : Int)) U ty2 hv2 ho2 hS U U (by omega) hm2 U ?_)
 intro w3 C3 ho3 hS
 rw [Int.toNat_natCast] at ho3
 refine Z2 ?_
 repeat refine Z1 ?_
 obtain ⟨H4, s4, hS, hunit⟩ := ho3.freeze hS
 have ho := ho.mono s4
 have hu := hu.mono s4
 have hs0 := hs0.mono s4
 refine Z0 (Z3 v (by exact t6) U (Z3 u U U (Z3 v2 U U (Zc4 (τ := X3 (Y4 .i64)) T2 Zj1 U [u, v2] [a0[m], Zk8 a0.length m] U U (Yc0 U U) (Vi1 ⟨u, hu.cellsL, hu⟩ ⟨v2, hunit.cellsL, hunit⟩) (by decide) (by decide) hS U ?_))))
 intro u5 H5 w5 s5 hS hl5
 have ho := ho.mono s5
 have hs0 := hs0.mono s5
 have hul : (Zk8 a0.length m).length = a0.length := by unfold Zk8; simp
 have hfl : [a0[m], Zk8 a0.length m].flatten = a0[m] ++ Zk8 a0.length m := by simp
 refine U9 call193 (S4 U) U (Xh1 (K := K) (r := a0[m] ++ Zk8 a0.length m) (by unfold Zc2; rw [hfl, if_pos (by rw [length_append, hul]; exact hlen)]) hl5 hS) ?_
 rintro e6 w6 ⟨v6, H6, C6, rfl, s6, hS, ho6⟩
 refine ⟨_, U, ?_⟩
 obtain ⟨H7, s7, hS, hcat⟩ := ho6.freeze hS
 have ho := (ho.mono s6).mono s7
 have hs0 := (hs0.mono s6).mono s7
 refine Zc4 (τ := X3 (Y4 .i64)) T2 Zj1 U [v6] [a0[m] ++ Zk8 a0.length m] U U (D3 U) (Zl6 ⟨v6, hcat.cellsL, hcat⟩) (by decide) (by decide) hS U ?_
 intro u8 H8 w8 s8 hS hl8
 have ho := ho.mono s8
 have hs0 := hs0.mono s8
 have hwl : ((R6 a0.length 0 a0).take m).length = m := by rw [length_take, Zr2]; omega
 refine N2 (τ := X3 (Y4 .i64)) Ya0 U U U ho hS hl8 (by rw [hwl]; simp; omega) U ?_
 intro v9 w9 C9 ho9 hS
 have htk := Yv6 a0.length a0 0 m hm'
 rw [Nat.zero_add] at htk
 rw [← htk] at ho9
 refine Z5 v9 U U (Z2 (X1 (Z0 (W4 ((m : Int) + 1) (by exact t18) U (i64_in _ (by omega)) U (Z3 (vI ((m : Int) + 1)) U U (Z2 (ih _ _ ⟨m + 1, H8, v9, C9, by omega, by omega, ((((Z4.trans s4).trans s5).trans s6).trans s7).trans s8, hS, ho9, hs0, t1, t5, U, t16, t17, by show vI ((m : Int) + 1) = vI ((m + 1 : Nat) : Int); rw [Int.natCast_add]; rfl⟩)))))))
 refine Z6 (bF hm U) (W2 U ?_)
 have e : m = a0.length := by omega
 subst e
 rw [take_of_length_le (by rw [Zr2]; exact Nat.le_refl _)] at ho
 exact hx _ _ ⟨H1, v, C, Z4, hS, ho, t1, t6⟩
 exact ⟨0, H, _, _, by omega, by omega, .refl _, hS, ho, hs0, U, U, U, U, U, U⟩
 rintro f w ⟨H1, v, C, Z4, hS, ho, t1, t6⟩
 repeat refine Z1 ?_
 refine Z0 (Yr4 (τ := X3 (Y4 .i64)) T2 Zj1 U hS U (fun b2 w2 ho2 hS => Z5 (.slice (some ⟨b2, 0, none⟩) 0 0) U U (Z2 ?_)))
 repeat refine Z1 ?_
 obtain ⟨H3, s3, hS, hwide⟩ := ho.freeze hS.swap
 have ho2 := ho2.mono s3
 refine Z0 (Z3 v (by exact t6) U (U9 call154 (S4 U) U (Yk2 hR hwide hS) ?_))
 rintro e4 w4 ⟨z, H4, rfl, s4, hS, _, hz⟩
 refine ⟨_, U, ?_⟩
 have hz : Y3 (Xb3 (Y4 .i64)) H4 z R := hz
 have ho2 := ho2.mono s4
 have Z4 := (Z4.trans s3).trans s4
 refine X9 T2 U hz U (Z3 (vI 0) U U (Z2 (Y8 ?_)))
 refine W3 (id := 2) (fun k f w => ∃ (m : Nat) (acc : List (List Int)) (H1 : FH) (v : Value) (C : OL), m ≤ R.length ∧ R.length < m + k ∧ acc.length ≤ m ∧ Yy9 K wd acc (R.drop m) = some o ∧ Sub H H1 ∧ St H1 w (C ++ L) ∧ W0 (X3 (Y4 .i64)) 22 H1 v acc C ∧ Y3 (Xb3 (Y4 .i64)) H1 z R ∧ tv f 1 = vI (wd : Int) ∧ tv f 10 = v ∧ tv f 38 = z ∧ tv f 39 = vI (R.length : Int) ∧ tv f 40 = vI (m : Int))
  (fun f w => ∃ H1 v C, Sub H H1 ∧ St H1 w (C ++ L) ∧ W0 (X3 (Y4 .i64)) 22 H1 v o C ∧ tv f 10 = v) U ?_ ?_ (R.length + 1) ?_ ?_
 rintro f w ⟨m, acc, H1, v, C, h1, h2, _⟩; omega
 rintro k f w ih hx ⟨m, acc, H1, v, C, h1, h2, hal, heq, Z4, hS, ho, hz, t1, t10, t38, t39, t40⟩
 repeat refine Z1 ?_
 refine Z0 (V4 (k := .i64) (a := m) (b := R.length) (by exact t40) (by exact t39) U (Z2 ?_))
 repeat refine Z1 ?_
 by_cases hm : (m : Int) < (R.length : Int)
 have hm' : m < R.length := by omega
 rw [show R.drop m = R[m] :: R.drop (m + 1) from (getElem_cons_drop ..).symm, Yy9] at heq
 by_cases hg : 0 < R[m].length ∧ wd ≤ R[m].length
 case neg => rw [if_neg hg] at heq; cases heq
 rw [if_pos hg] at heq
 obtain ⟨g1, g2⟩ := hg
 obtain ⟨zb, hzb, heq⟩ := bSm heq
 refine Z8 (bT hm U) (Y6 ?_)
 repeat refine Z1 ?_
 refine Y8 ?_
 repeat refine Z1 ?_
 refine Z0 ?_
 obtain ⟨b, of, cs, E, _, hp, hb, ⟨u, rfl, hu, hcap⟩, hc⟩ := hz.elem (i := (m : Int)) (by omega) hm
 refine X6 T2 U (by exact t38) hp (by exact t40) (by omega) hm U (Y1 u Q9 U (hS.froz _ _ hb) (hc 0 (show 0 < 1 by decide)) U (Z5 u U U (Z2 ?_)))
 rw [Zs9 hm', P2 hm'] at hu hcap
 obtain ⟨ub, uo, uc, huv⟩ := hu.addr g1
 have huc : R[m].length ≤ uc := by
  obtain ⟨a', c', h3, h4⟩ := hcap
  rw [huv] at h3; cases h3; exact h4
 have htake : Y3 (Y4 .i64) H1 (.slice (some ⟨ub, uo, none⟩) wd uc) (R[m].take wd) := by
  obtain ⟨a', c', h3, h4⟩ := hu.take g2
  rw [huv] at h3; cases h3; exact h4
 repeat refine Z1 ?_
 refine Z0 (Z3 u U U (Z3 (vI (wd : Int)) (by exact t1) U (Xa1 T1 (show u = _ from huv) U (by omega) U (X2 call87 (S4 U) U (Yo3 hzb htake hS) ?_))))
 rintro _ G w6 sG hS rfl
 have ho := ho.mono sG
 have hz := hz.mono sG
 have hu := hu.mono sG
 refine Z2 ?_
 repeat refine Z1 ?_
 cases zb with
 | true =>
  rw [if_pos U] at heq
  refine Z8 U ?_
  repeat refine Z1 ?_
  refine Z0 (Z3 v (by exact t10) U (Z3 u U U (Z3 (vI (wd : Int)) (by exact t1) U (Xo9 T1 (show u = _ from huv) U g2 U ?_))))
  rw [huv] at hu
  have hdrop := hu.drop g2 huc
  refine Zc4 (τ := X3 (Y4 .i64)) T2 Zj1 U [_] [R[m].drop wd] U U (D3 U) (Zl6 ⟨_, hdrop.cellsL, hdrop⟩) (by decide) (by decide) hS U ?_
  intro u8 H8 w8 s8 hS hl8
  have ho := ho.mono s8
  have hz := hz.mono s8
  refine N2 (τ := X3 (Y4 .i64)) Ya0 U U U ho hS hl8 (by simp; omega) U fun v9 w9 C9 ho9 hS => Z5 v9 U U (Z2 (X1 (Z0 (W4 ((m : Int) + 1) (by exact t40) U (i64_in _ (by omega)) U (Z3 (vI ((m : Int) + 1)) U U (Z2 (ih _ _ ⟨m + 1, _, H8, v9, C9, by omega, by omega, by simp; omega, heq, (Z4.trans sG).trans s8, hS, ho9, hz, t1, U, t38, t39, by show vI ((m : Int) + 1) = vI ((m + 1 : Nat) : Int); rw [Int.natCast_add]; rfl⟩)))))))
 | false =>
  rw [if_neg (by decide)] at heq
  refine Z6 U (Y6 (X1 (Z0 (W4 ((m : Int) + 1) (by exact t40) U (i64_in _ (by omega)) U (Z3 (vI ((m : Int) + 1)) U U (Z2 (ih _ _ ⟨m + 1, acc, G, v, C, by omega, by omega, by omega, heq, Z4.trans sG, hS, ho, hz, t1, t10, t38, t39, by show vI ((m : Int) + 1) = vI ((m + 1 : Nat) : Int); rw [Int.natCast_add]; rfl⟩)))))))
 refine Z6 (bF hm U) (W2 U ?_)
 have e : m = R.length := by omega
 subst e
 rw [drop_length, Yy9] at heq
 obtain rfl := oi heq
 exact hx _ _ ⟨H1, v, C, Z4, hS, ho, t10⟩
 exact ⟨0, [], H4, _, _, by omega, by omega, by simp, hker, Z4, hS, ho2, hz, t1, U, U, U, U⟩
 rintro f w ⟨H1, v, C, Z4, hS, ho, t10⟩
 repeat refine Z1 ?_
 obtain ⟨H3, s3, hS, hrd⟩ := ho.freeze hS
 refine Z0 (Z3 v (by exact t10) U (U9 call154 (S4 U) U (Yk2 hr hrd hS) ?_))
 rintro e4 w4 ⟨y, H4, rfl, s4, hS, hyn, hy⟩
 refine ⟨_, U, ?_⟩
 refine Z5 y U U (Z2 (Y9 (vs := [y]) func152 Ut ⟨_, _, U, (Z4.trans s3).trans s4, hS, hyn, Y3.ofCap hy⟩))
def F8 (K : Nat) (a1 : Int) (b5 : (List (List Int))) : Nat → Int → (List (List Int)) → Option (Ex (List (List Int)) ((List (List Int))))
 | 0, _, _ => none
 | k + 1, a3, a5 => (if a3 < (b5.length : Int) then ((D4 K (rd b5 a3)).bind fun e9 => (if a1 ≤ e9 then (if 0 ≤ a1 then (if a1 ≤ ((rd b5 a3).length : Int) then (if ([] : List Int).length + ((rd b5 a3).drop (a1).toNat).length ≤ 1099511627776 then (if a5.length + ([(([] : List Int) ++ ((rd b5 a3).drop (a1).toNat))]).length ≤ 1099511627776 then F8 K a1 b5 k (a3 + 1) (a5 ++ [(([] : List Int) ++ ((rd b5 a3).drop (a1).toNat))]) else none) else none) else none) else none) else F8 K a1 b5 k (a3 + 1) a5)) else some (.go a5))
def Za7 (K : Nat) (a0 : (List (List Int))) (a1 : Int) : Nat → Int → (List (List Int)) → Option (Ex (List (List Int)) ((List (List Int))))
 | 0, _, _ => none
 | k + 1, a4, a9 => (if a4 < (a0.length : Int) then (if ([] : List Int).length + (rd a0 a4).length ≤ 1099511627776 then (if (0 ≤ (a0.length : Int) ∧ (([] : List Int) ++ (rd a0 a4)).length + (a0.length : Int).toNat ≤ 1099511627776) then (if 0 ≤ (i64.wrap (a1 + a4)) then (if (i64.wrap (a1 + a4)) < (((([] : List Int) ++ (rd a0 a4)) ++ (replicate (a0.length : Int).toNat (0 : Int))).length : Int) then (if a9.length + ([(((([] : List Int) ++ (rd a0 a4)) ++ (replicate (a0.length : Int).toNat (0 : Int))).set ((i64.wrap (a1 + a4))).toNat 1)]).length ≤ 1099511627776 then Za7 K a0 a1 k (a4 + 1) (a9 ++ [(((([] : List Int) ++ (rd a0 a4)) ++ (replicate (a0.length : Int).toNat (0 : Int))).set ((i64.wrap (a1 + a4))).toNat 1)]) else none) else none) else none) else none) else none) else some (.go a9))
def Zp2 (K : Nat) (a0 : (List (List Int))) (a1 : Int) : Option (List (List Int)) := ((Za7 K a0 a1 K 0 ([] : List (List Int))).bind (Ex.elim (fun r => some r) (fun s => (fun (c0 : (List (List Int))) => ((B5 K c0).bind fun b5 => ((F8 K a1 b5 K 0 ([] : List (List Int))).bind (Ex.elim (fun r => some r) (fun s => (fun (b6 : (List (List Int))) => ((B5 K b6).bind fun k2 => some k2)) s))))) s)))
theorem Yw7 {a0 : (List (List Int))} {a1 : Int} {r : (List (List Int))} (q0 : Zp2 K a0 a1 = some r) (c6 : Y3 (X3 (Y4 .i64)) H s0 a0) (hS : St H w L) :
 Calls prog 176 #[s0, vI a1] w (T4 (fun v G => (R.sl (X3 (Y4 .i64))).p G v r) H L) := by
 have Z4 := Sub.refl H
 refine X0 func176 U ntmps176 U ?_
 unfold Zp2 at q0
 refine Z1 (Z0 (Z5 vN U U (Z2 (Z1 (Z0 (Z3 s0 U U ?_))))))
 have m0 := c6.bound
 refine X9 T2 U c6 U (Z5 (vI (a0.length : Int)) U U (Z2 (Z1 (Z0 (Ye7 (τ := (X3 (Y4 .i64))) T2 Zj1 U hS U (fun u2 _ C4 k3 hS => Z5 u2 U U (Z2 (Z1 (Z1 (Z0 (Z5 (vI 0) U U (Z2 (Y8 ?_)))))))))))))
 obtain ⟨f0, a8, d4⟩ := bSm q0
 refine W3 (id := 0) (fun k f w => ∃ a4 a9 H1 b7 b4, Za7 K a0 a1 k a4 a9 = some f0 ∧ Sub H H1 ∧ St H1 w (b7 ++ L) ∧ 0 ≤ a4 ∧ W0 (X3 (Y4 .i64)) 22 H1 b4 a9 b7 ∧ Y3 (X3 (Y4 .i64)) H1 s0 a0 ∧ tv f 0 = s0 ∧ tv f 1 = vI a1 ∧ tv f 5 = vI (a0.length : Int) ∧ tv f 6 = b4 ∧ tv f 7 = vI a4) (fun f w => ∃ c0 H1 c7 c2, f0 = .go c0 ∧ Sub H H1 ∧ St H1 w (c7 ++ L) ∧ W0 (X3 (Y4 .i64)) 22 H1 c2 c0 c7 ∧ tv f 1 = vI a1 ∧ tv f 6 = c2) U ?_ ?_ K ?_ ?_
 rintro f w ⟨a4, a9, H1, b7, b4, a8, _⟩
 rw [Za7] at a8; cases a8
 rintro k _ _ k4 k5 ⟨a4, a9, g1, b7, b4, a8, Z4, hS, _, b1, c6, d1, c8, c9, d2, c4⟩
 rw [Za7] at a8
 refine Z1 (Z1 (Z0 (Z3 (vI a4) (by exact c4) U (Z3 (vI (a0.length : Int)) (by exact c9) U (V4 (k := .i64) (a := a4) (b := (a0.length : Int)) U U U (Z2 ?_))))))
 obtain ⟨f1, a8⟩ | ⟨f1, a8⟩ := ic a8
 refine Z8 (bT f1 U) (Y6 (Z1 (Y8 (Z1 (Z0 (Ye7 (τ := (Y4 .i64)) T1 ze2 U hS U (fun _ _ _ g2 hS => Z3 s0 (by exact d1) U (Z3 (vI a4) (by exact c4) U ?_))))))))
 obtain ⟨_, _, _, _, _, g3, g4, ⟨k6, rfl, g5⟩, g6⟩ := c6.elem (i := a4) (by omega) (by omega)
 refine X6 T2 U U g3 U (by omega) (by omega) U (Y1 k6 Q9 U (hS.froz _ _ g4) (g6 0 (show 0 < 1 by decide)) U ?_)
 obtain ⟨g7, a8⟩ := gd a8
 refine N2 (τ := (Y4 .i64)) Zx1 U U U g2 hS g5 g7 U fun _ _ _ g8 hS => Z3 (vI (a0.length : Int)) (by exact c9) U ?_
 obtain ⟨f2, a8⟩ := gd a8
 refine Yp6 U U f2.1 g8 hS f2.2 U fun d7 _ _ f3 hS => Z5 d7 U U (Z2 (Z1 (Z0 (Z3 d7 U U (Z3 (vI a1) (by exact c8) U (Z3 (vI a4) (by exact c4) U (W4 (i64.wrap (a1 + a4)) U U U U ?_)))))))
 obtain ⟨_, a8⟩ := gd a8
 obtain ⟨_, a8⟩ := gd a8
 obtain ⟨_, _, f4⟩ := f3.some (i := (i64.wrap (a1 + a4))) (by omega) (by omega)
 refine Q3 T1 (Eq.trans U f4) U (by omega) (by omega) U (Za9 (τ := (Y4 .i64)) (v := d7) (u := vI 1) 1 (i := (i64.wrap (a1 + a4))) U ty2 f4 f3 hS U U (by omega) (by omega) U (fun _ _ g9 hS => Z2 (Z0 (Z3 b4 (by exact d2) U (Z3 d7 U U ?_)))))
 obtain ⟨_, d9, hS, h0⟩ := g9.freeze hS
 have Z4 := Z4.trans d9
 have c6 := c6.mono d9
 have b1 := b1.mono d9
 refine Zc4 (τ := (X3 (Y4 .i64))) T2 Zj1 U [d7] [(((([] : List Int) ++ (rd a0 a4)) ++ (replicate (a0.length : Int).toNat (0 : Int))).set ((i64.wrap (a1 + a4))).toNat 1)] U U (D3 U) (Zl6 h0.relv) (by decide) (by decide) hS U ?_
 intro _ k7 _ e0 hS h1
 have Z4 := Z4.trans e0
 have c6 := c6.mono e0
 have b1 := b1.mono e0
 obtain ⟨h2, a8⟩ := gd a8
 refine N2 (τ := (X3 (Y4 .i64))) Ya0 U U U b1 hS h1 h2 U fun f6 _ k8 h3 hS => Z5 f6 U U (Z2 (X1 (Z0 (Z3 (vI a4) (by exact c4) U (W4 (a4 + 1) U U (i64_in _ (by omega)) U (Z5 (vI (a4 + 1)) U U (Z2 (k4 _ _ ⟨(a4 + 1), (a9 ++ [(((([] : List Int) ++ (rd a0 a4)) ++ (replicate (a0.length : Int).toNat (0 : Int))).set ((i64.wrap (a1 + a4))).toNat 1)]), k7, k8, f6, a8, Z4, hS, (by omega), h3, c6, d1, c8, c9, U, U⟩))))))))
 refine Z6 (bF f1 U) (W2 U ?_)
 cases a8
 exact k5 _ _ ⟨a9, g1, b7, b4, U, Z4, hS, b1, c8, d2⟩
 exact ⟨0, ([] : List (List Int)), H, C4, u2, a8, Z4, hS, (by omega), k3, c6, U, U, U, U, U⟩
 rintro _ _ ⟨c0, _, c7, c2, rfl, Z4, hS, d8, e6, e7⟩
 dsimp only [Ex.elim] at d4
 refine Z1 (Z0 (Z3 c2 (by exact e7) U ?_))
 obtain ⟨_, h4, hS, h5⟩ := d8.freeze hS
 have Z4 := Z4.trans h4
 obtain ⟨b5, h6, d4⟩ := bSm d4
 refine X2 call136 (S4 U) U (Zx0 h6 h5 hS) ?_
 rintro d3 k9 _ h7 hS b3
 have Z4 := Z4.trans h7
 refine Z5 d3 U U (Z2 (Z1 (Z0 (Ye7 (τ := (X3 (Y4 .i64))) T2 Zj1 U hS U (fun f7 _ l0 h8 hS => Z5 f7 U U (Z2 (Z1 (Z1 (Z0 (Z5 (vI 0) U U (Z2 (Y8 ?_))))))))))))
 obtain ⟨f5, a6, d5⟩ := bSm d4
 refine W3 (id := 2) (fun k f w => ∃ a3 a5 H1 b2 b0, F8 K a1 b5 k a3 a5 = some f5 ∧ Sub H H1 ∧ St H1 w (b2 ++ L) ∧ 0 ≤ a3 ∧ W0 (X3 (Y4 .i64)) 22 H1 b0 a5 b2 ∧ Y3 (X3 (Y4 .i64)) H1 d3 b5 ∧ tv f 1 = vI a1 ∧ tv f 6 = d3 ∧ tv f 9 = b0 ∧ tv f 10 = vI a3) (fun f w => ∃ b6 H1 c3 b9, f5 = .go b6 ∧ Sub H H1 ∧ St H1 w (c3 ++ L) ∧ W0 (X3 (Y4 .i64)) 22 H1 b9 b6 c3 ∧ tv f 9 = b9) U ?_ ?_ K ?_ ?_
 rintro f w ⟨a3, a5, H1, b2, b0, a6, _⟩
 rw [F8] at a6; cases a6
 rintro k _ _ f8 l1 ⟨a3, a5, h9, b2, b0, a6, Z4, hS, _, a7, b3, c5, c1, d0, b8⟩
 rw [F8] at a6
 refine Z1 (Z1 (Z0 (Z3 (vI a3) (by exact b8) U (Z3 d3 (by exact c1) U ?_))))
 have l9 := b3.bound
 refine X9 T2 U b3 U (V4 (k := .i64) (a := a3) (b := (b5.length : Int)) U U U (Z2 ?_))
 obtain ⟨e1, a6⟩ | ⟨e1, a6⟩ := ic a6
 refine Z8 (bT e1 U) (Y6 (Z1 (Y8 (Z1 (Z0 (Z3 d3 (by exact c1) U (Z3 (vI a3) (by exact b8) U ?_)))))))
 obtain ⟨_, _, _, _, _, i0, i1, ⟨l2, rfl, i2⟩, i3⟩ := b3.elem (i := a3) (by omega) (by omega)
 refine X6 T2 U U i0 U (by omega) (by omega) U (Y1 l2 Q9 U (hS.froz _ _ i1) (i3 0 (show 0 < 1 by decide)) U ?_)
 obtain ⟨e9, i4, a6⟩ := bSm a6
 refine X2 call148 (S4 U) U (Zk2 i4 i2 hS) ?_
 rintro _ l3 _ e2 hS rfl
 have Z4 := Z4.trans e2
 have b3 := b3.mono e2
 have a7 := a7.mono e2
 refine Z3 (vI a1) (by exact c5) U (Ya4 (k := .i64) (a := e9) (b := a1) U U U (Z2 ?_))
 obtain ⟨e3, a6⟩ | ⟨e3, a6⟩ := ic a6
 refine Z8 (bT e3 U) (Z0 (Z3 b0 (by exact d0) U (Ye7 (τ := (Y4 .i64)) T1 ze2 U hS U (fun _ _ _ i5 hS => Z3 d3 (by exact c1) U (Z3 (vI a3) (by exact b8) U ?_)))))
 obtain ⟨_, _, _, _, _, i6, i7, ⟨l4, rfl, i8⟩, i9⟩ := b3.elem (i := a3) (by omega) (by omega)
 refine X6 T2 U U i6 U (by omega) (by omega) U (Y1 l4 Q9 U (hS.froz _ _ i7) (i9 0 (show 0 < 1 by decide)) U (Z3 (vI a1) (by exact c5) U ?_))
 obtain ⟨_, a6⟩ := gd a6
 obtain ⟨_, a6⟩ := gd a6
 refine Yq9 T1 U i8 U U (by omega) (by omega) U ?_
 intro _ j0
 obtain ⟨j1, a6⟩ := gd a6
 refine N2 (τ := (Y4 .i64)) Zx1 U U U i5 hS j0 j1 U ?_
 intro l5 _ _ j2 hS
 obtain ⟨_, e4, hS, j3⟩ := j2.freeze hS
 have Z4 := Z4.trans e4
 have b3 := b3.mono e4
 have a7 := a7.mono e4
 refine Zc4 (τ := (X3 (Y4 .i64))) T2 Zj1 U [l5] [(([] : List Int) ++ ((rd b5 a3).drop (a1).toNat))] U U (D3 U) (Zl6 j3.relv) (by decide) (by decide) hS U ?_
 intro _ l6 _ e5 hS j4
 have Z4 := Z4.trans e5
 have b3 := b3.mono e5
 have a7 := a7.mono e5
 obtain ⟨j5, a6⟩ := gd a6
 refine N2 (τ := (X3 (Y4 .i64))) Ya0 U U U a7 hS j4 j5 U fun f9 _ l7 j6 hS => Z5 f9 U U (Z2 (X1 (Z0 (Z3 (vI a3) (by exact b8) U (W4 (a3 + 1) U U (i64_in _ (by omega)) U (Z5 (vI (a3 + 1)) U U (Z2 (f8 _ _ ⟨(a3 + 1), (a5 ++ [(([] : List Int) ++ ((rd b5 a3).drop (a1).toNat))]), l6, l7, f9, a6, Z4, hS, (by omega), j6, b3, c5, c1, U, U⟩))))))))
 refine Z6 (bF e3 U) (Y6 (X1 (Z0 (Z3 (vI a3) (by exact b8) U (W4 (a3 + 1) U U (i64_in _ (by omega)) U (Z5 (vI (a3 + 1)) U U (Z2 (f8 _ _ ⟨(a3 + 1), a5, l3, b2, b0, a6, Z4, hS, (by omega), a7, b3, c5, c1, d0, U⟩))))))))
 refine Z6 (bF e1 U) (W2 U ?_)
 cases a6
 exact l1 _ _ ⟨a5, h9, b2, b0, U, Z4, hS, a7, d0⟩
 exact ⟨0, ([] : List (List Int)), k9, l0, f7, a6, Z4, hS, (by omega), h8, b3, e6, U, U, U⟩
 rintro _ _ ⟨b6, _, c3, b9, rfl, Z4, hS, d6, e8⟩
 dsimp only [Ex.elim] at d5
 refine Z1 (Z0 (Z3 b9 (by exact e8) U ?_))
 obtain ⟨_, j7, hS, j8⟩ := d6.freeze hS
 have Z4 := Z4.trans j7
 obtain ⟨_, j9, d5⟩ := bSm d5
 refine X2 call136 (S4 U) U (Zx0 j9 j8 hS) ?_
 rintro g0 _ _ k0 hS k1
 have Z4 := Z4.trans k0
 refine Z5 g0 U U (Z2 (Y9 (vs := [g0]) func176 Ut ?_))
 cases d5
 exact ⟨_, _, U, Z4, hS, k1⟩
theorem Zs2 : Zn0 prog 102 0 0 := ⟨fun b o w => by simp [Instr.fieldAt, Instr.sureAddr, fieldPlace, runUnderlying102, sizeOf98, Q2]⟩
theorem Xx9 : Zn0 prog 102 1 1 := ⟨fun b o w => by simp [Instr.fieldAt, Instr.sureAddr, fieldPlace, runUnderlying102, sizeOf98, sizeOf99, Q2]⟩
theorem Yc9 : Zn0 prog 102 2 2 := ⟨fun b o w => by simp [Instr.fieldAt, Instr.sureAddr, fieldPlace, runUnderlying102, sizeOf98, sizeOf99, sizeOf100, Q2]⟩
theorem Yv7 : Zn0 prog 102 3 3 := ⟨fun b o w => by simp [Instr.fieldAt, Instr.sureAddr, fieldPlace, runUnderlying102, sizeOf98, sizeOf99, sizeOf100, Q2]⟩
theorem Xf4 : Zn0 prog 102 4 4 := ⟨fun b o w => by simp [Instr.fieldAt, Instr.sureAddr, fieldPlace, runUnderlying102, sizeOf98, sizeOf99, sizeOf100, Q2]⟩
theorem Ws5 : Zn0 prog 102 5 5 := ⟨fun b o w => by simp [Instr.fieldAt, Instr.sureAddr, fieldPlace, runUnderlying102, sizeOf98, sizeOf99, sizeOf100, Q2]⟩
theorem Xf0 : Zn0 prog 187 0 0 := ⟨fun b o w => by simp [Instr.fieldAt, Instr.sureAddr, fieldPlace, runUnderlying187, sizeOf94, Q2]⟩
theorem Xg4 : Zn0 prog 187 1 1 := ⟨fun b o w => by simp [Instr.fieldAt, Instr.sureAddr, fieldPlace, runUnderlying187, sizeOf94, sizeOf185, Q2]⟩
theorem Xn6 : Zn0 prog 31 0 0 := ⟨fun b o w => by simp [Instr.fieldAt, Instr.sureAddr, fieldPlace, runUnderlying31, sizeOf22, Q2]⟩
theorem Yh6 : TyI prog 98 false 1 := ⟨isAgg98, sizeOf98⟩
theorem Va2 : TyI prog 99 false 1 := ⟨isAgg99, sizeOf99⟩
theorem Zp5 : TyI prog 100 false 1 := ⟨isAgg100, sizeOf100⟩
theorem Xx0 : TyI prog 185 false 1 := ⟨isAgg185, sizeOf185⟩
theorem Wk8 : TyI prog 94 false 1 := ⟨isAgg94, sizeOf94⟩
theorem Wz9 : Yc3 prog 99 222 3 .i64 := Wy4 underlying99 underlying222 underlying3 Tryz.info3_ U zeroValue3
abbrev AlX := List Int × List MpT
abbrev Yw1 : Ty AlX := Yd6 (X3 (Y4 .i64)) (X3 (X3 yT))
structure Lvl where
 n : Int
 b : Nat
 v0 : Value
 v1 : Value
 c2 : Value
 c3 : Value
 c4 : Value
 c5 : Value
def Lvl.cs (s : Lvl) : Array Value := #[s.v0, s.v1, s.c2, s.c3, s.c4, s.c5]
def Lvl.chunk (s : Lvl) : Nat × Obj := (s.b, .cells s.cs 102)
def Cx (H : FH) (p : Value) (x : AlX) (S : List Lvl) (C : OL) : Prop :=
 ∃ bp bm ap es clk, p = vP bp ∧ H bp = some (.cells #[ap, .map (some bm)] 187) ∧ Zt4 Yw1 H ap x ∧ C = (bm, .map es clk) :: S.map Lvl.chunk ∧ es.toList.map (fun e => (e.key, e.val)) = S.map (fun (s : Lvl) => (vI s.n, vP s.b))
theorem Cx.mono {H H' : FH} {p : Value} {x : AlX} {S : List Lvl} {C : OL} (h : Cx H p x S C) (hs : Sub H H') : Cx H' p x S C := by
 obtain ⟨bp, bm, ap, es, clk, h1, h2, h3, h4, h5⟩ := h
 exact ⟨bp, bm, ap, es, clk, h1, hs.1 _ _ h2, h3.mono hs, h4, h5⟩
theorem Xn7 (n : Int) : ∀ (es : List MapEntry) (S : List Lvl) (i : Nat), es.map (fun e => (e.key, e.val)) = S.map (fun (s : Lvl) => (vI s.n, vP s.b)) →
 (∃ j s, S[j]? = some s ∧ s.n = n ∧ Instr.findNow (.int .i64) (vI n) es i = some (some (i + j, vP s.b))) ∨ ((∀ s, s ∈ S → s.n ≠ n) ∧ Instr.findNow (.int .i64) (vI n) es i = some none)
 | [], S, i, h => by
  cases S with
  | nil => exact .inr ⟨fun s hs => by simp at hs, U⟩
  | cons s S => simp at h
 | e :: es, S, i, h => by
  cases S with
  | nil => simp at h
  | cons s S =>
   simp only [map_cons, cons.injEq, Prod.mk.injEq] at h
   obtain ⟨⟨hk, hv⟩, ht⟩ := h
   by_cases he : n = s.n
   refine .inl ⟨0, s, U, he.symm, ?_⟩
   unfold Instr.findNow
   rw [hk, hv]
   simp [Instr.sameNow, he]
   have hstep : Instr.findNow (.int .i64) (vI n) (e :: es) i = Instr.findNow (.int .i64) (vI n) es (i + 1) := by
    conv => lhs; unfold Instr.findNow
    rw [hk]
    have hb : (n == s.n) = false := by simp [he]
    simp [Instr.sameNow, hb]
   rcases Xn7 n es S (i + 1) ht with ⟨j, s', h1, h2, h3⟩ | ⟨h1, h2⟩
   exact .inl ⟨j + 1, s', h1, h2, by rw [hstep, h3]; congr 2; congr 1; omega⟩
   exact .inr ⟨fun s' hs' => by
    rcases mem_cons.1 hs' with rfl | h
    exact fun e => he e.symm
    exact h1 s' h, by rw [hstep, h2]⟩
section
variable {n : Nat} {ops : Array Oper} {J : Fr → World → Prop} {r : List Oper} {f : Fr} {w : World} {d : Nat} {T : TypeId} {pos : String} {af : Array Edge} {H : FH} {L : OL} {S : List Lvl}
theorem Xz4 {m : Int} {bm : Nat} {es : Array MapEntry} {clk : Nat} (hw : w.heap[bm]? = some (.map es clk)) (hes : es.toList.map (fun e => (e.key, e.val)) = S.map (fun (s : Lvl) => (vI s.n, vP s.b))) :
 (∃ (j : Nat) (s : Lvl), S[j]? = some s ∧ s.n = m ∧ (Instr.lookup 185 (.map (some bm)) (vI m) true).run prog w = .ok (.tuple #[vP s.b, vB true]) w) ∨
 ((∀ s, s ∈ S → s.n ≠ m) ∧ (Instr.lookup 185 (.map (some bm)) (vI m) true).run prog w = .ok (.tuple #[.pointer none, vB false]) w) := by
 have hck : ∀ b, (Instr.checkKey b 10000 2 (vI m)).run prog w = .ok () w := fun b => Yd5 underlying2 b 9999 m
 rcases Xn7 m es.toList S 0 hes with ⟨j, s, h1, h2, h3⟩ | ⟨h1, h2⟩
 refine .inl ⟨j, s, h1, h2, ?_⟩
 unfold Instr.lookup
 simp only [Sem.run_bind, runUnderlying185, Result.andThen_ok, Sem.run_pure, Zg7 hw, hck, Instr.findKey, runUnderlying2, h3]
 simp
 refine .inr ⟨h1, ?_⟩
 unfold Instr.lookup
 simp only [Sem.run_bind, runUnderlying185, Result.andThen_ok, Sem.run_pure, Zg7 hw, hck, Instr.findKey, runUnderlying2, h2, zeroValue103]
 simp
theorem Xz8 {m : Int} {bm : Nat} {u : Value} {es : Array MapEntry} {clk : Nat} (hw : w.heap[bm]? = some (.map es clk)) (hes : es.toList.map (fun e => (e.key, e.val)) = S.map (fun (s : Lvl) => (vI s.n, vP s.b))) (hn : ∀ s, s ∈ S → s.n ≠ m) :
 (Instr.mapUpdate 185 (.map (some bm)) (vI m) u).run prog w = .ok () { w with heap := w.heap.setIfInBounds bm (.map (es.push { key := vI m, val := u, born := clk }) (clk + 1)) } := by
 have hck : ∀ b, (Instr.checkKey b 10000 2 (vI m)).run prog w = .ok () w := fun b => Yd5 underlying2 b 9999 m
 rcases Xn7 m es.toList S 0 hes with ⟨j, s, h1, h2, h3⟩ | ⟨h1, h2⟩
 exact absurd h2 (hn s (mem_of_getElem? h1))
 unfold Instr.mapUpdate
 simp only [Sem.run_bind, runUnderlying185, Result.andThen_ok, Sem.run_pure, Zg7 hw, hck, Instr.findKey, runUnderlying2, h2]
 simp [setObj, Sem.run, hw]
theorem Xk0 {x y : Operand} {m : Int} {bm : Nat} {es : Array MapEntry} {clk : Nat} (hx : ev f x = .map (some bm)) (hy : ev f y = vI m) (hw : w.heap[bm]? = some (.map es clk)) (hes : es.toList.map (fun e => (e.key, e.val)) = S.map (fun (s : Lvl) => (vI s.n, vP s.b))) (hn : Nat.blt d n = true)
 (K1 : ∀ (j : Nat) (s : Lvl), S[j]? = some s → s.n = m → X7 prog n ops J r (upd f d (.tuple #[vP s.b, vB true])) w)
 (K2 : (∀ s, s ∈ S → s.n ≠ m) → X7 prog n ops J r (upd f d (.tuple #[.pointer none, vB false])) w) : X7 prog n ops J (⟨some d, .lookup 185 x y true, T, pos, af, none⟩ :: r) f w := by
 rcases Xz4 (m := m) hw hes with ⟨j, s, h1, h2, h3⟩ | ⟨h1, h2⟩
 refine U2 U U hn ?_ (K1 j s h1 h2)
 simp only [execOp, hx, hy, Sem.run_bind]
 rw [h3]; rfl
 refine U2 U U hn ?_ (K2 h1)
 simp only [execOp, hx, hy, Sem.run_bind]
 rw [h2]; rfl
theorem Wm0 {x y z : Operand} {m : Int} {bm : Nat} {u : Value} {es : Array MapEntry} {clk : Nat} (hx : ev f x = .map (some bm)) (hy : ev f y = vI m) (hz : ev f z = u) (hS : St H w ((bm, .map es clk) :: L)) (hes : es.toList.map (fun e => (e.key, e.val)) = S.map (fun (s : Lvl) => (vI s.n, vP s.b))) (hn : ∀ s, s ∈ S → s.n ≠ m)
 (K : ∀ w', St H w' ((bm, .map (es.push { key := vI m, val := u, born := clk }) (clk + 1)) :: L) → X7 prog n ops J r f w') : X7 prog n ops J (⟨none, .mapUpdate 185 x y z, T, pos, af, none⟩ :: r) f w := by
 refine Ym2 U U (w' := _) ?_ (K _ (hS.put _))
 simp only [execOp, hx, hy, hz, Sem.run_bind]
 rw [Xz8 hS.hd hes hn]; rfl
end
def Zo9 (K : Nat) (a0 : ((List Int) × (List MpT))) (a1 : Int) : Option (List (List Int)) := ((Zj2 K (a0.1, a0.2) a1).bind fun a6 => ((P4 K a0.1 (i64.wrap (a1 + 1))).bind fun a5 => ((Zp2 K a6 (a5.length : Int)).bind fun a4 => some a4)))
theorem Yw5 {a0 : ((List Int) × (List MpT))} {a1 : Int} {r : (List (List Int))} (q0 : Zo9 K a0 a1 = some r) (a3 : Y3 (Y4 .i64) H s0 a0.1) (a7 : Y3 (X3 yT) H s1 a0.2) (hS : St H w L) :
 Calls prog 103 #[vA ([s0] ++ [s1]), vI a1] w (T4 (fun v G => (R.sl (X3 (Y4 .i64))).p G v r) H L) := by
 have Z4 := Sub.refl H
 refine X0 func103 U ntmps103 U ?_
 unfold Zo9 at q0
 refine Z1 (Z0 (T8 (v := vA ([s0] ++ [s1])) ([s0] ++ [s1]).toArray U U hS U (fun b1 _ hS => Z5 vN U U (Z2 (Z1 ?_)))))
 obtain ⟨a6, c2, q0⟩ := bSm q0
 obtain ⟨a5, c3, q0⟩ := bSm q0
 obtain ⟨a4, b3, q0⟩ := bSm q0
 refine W6 11 (S8 [mE 5 (vA ([s0] ++ [s1])), mE 6 (vI a1), (7, MP.rep (R.sl (X3 (Y4 .i64))) a6), mE 8 (vP b1), mE 9 s0, mE 10 (vI a1), mE 11 (vI (i64.wrap (a1 + 1))), (12, MP.rep (R.sl (Q5 .u8)) a5), mE 13 (vI (a5.length : Int)), (14, MP.rep (R.sl (X3 (Y4 .i64))) a4), (4, MP.sl (X3 (Y4 .i64)) a4)]) [] mixed U U U hS (U1 (X4 fun S B => X5 Zx2 (evT (B 2 U) U) (S.get (mR mL)) U U (qz S)) (X4 fun S B => Z3 (vI a1) (evT (B 1 U) U) U (qz S)) ?_ ?_ ?_ ?_ ?_ ?_ (L7 ?_ ?_ (I2 ?_ W9))) ?_
 intro _ _ _ _ a8 hS _ a9 hcq
 have a3 := a3.mono a8
 have a7 := a7.mono a8
 refine X2 call170 (W8 (eM (a9 0 5 U U)) (eM (a9 1 6 U U))) U (Yf0 c2 a3 a7 hS) ?_
 rintro _ _ _ c4 hS c5
 exact qn c4 U hS c5
 exact X4 fun S B => Y2 N8 (evT (B 2 U) U) U (qz S)
 exact Y7 fun S V => Y1 s0 Q9 (eM (V 3 8 U U)) (S.get (mR mL)) U U (qz S)
 exact X4 fun S B => Z3 (vI a1) (evT (B 1 U) U) U (qz S)
 exact Y7 fun S V => W4 (i64.wrap (a1 + 1)) (eM (V 5 10 U U)) U U U (qz S)
 intro _ _ _ _ c6 hS _ b0 hcq
 have a3 := a3.mono c6
 refine X2 call99 (W8 (eM (b0 4 9 U U)) (eM (b0 6 11 U U))) U (Za0 c3 a3 hS) ?_
 rintro _ _ _ c7 hS c8
 exact qn c7 U hS c8
 intro _ _ _ _ _ hS _ c9 hcq
 obtain ⟨_, d8, d0⟩ := gvR (c9 7 12 U U)
 refine X9 Zv3 d8 d0 U (qn (.refl _) U hS U)
 intro _ _ _ _ _ hS _ b2 hcq
 obtain ⟨_, d1, b4⟩ := gvR (b2 2 7 U U)
 refine X2 call176 (W8 d1 (eM (b2 8 13 U U))) U (Yw7 b3 b4 hS) ?_
 rintro _ _ _ b5 hS b6
 exact qn b5 U hS b6
 intro _ _ _ _ _ hS _ b7 hcq
 obtain ⟨d2, d3, b8⟩ := gvR (b7 9 14 U U)
 refine Z5 d2 d3 U (qn (.refl _) U hS b8)
 intro _ d4 d5 b9 hS _ c0 hcq
 have hS : St d5 d4 ([(b1, cA ([s0] ++ [s1]) 31)] ++ L) := hS
 have Z4 := Z4.trans b9
 obtain ⟨d6, d7, c1⟩ := gvS (c0 10 4 (by decide) U)
 refine Z2 (Y9 (vs := [d6]) func103 ⟨(by exact d7), trivial⟩ ?_)
 cases q0
 exact ⟨_, _, U, Z4, (St.dA hS), c1⟩
def K4 (K : Nat) (b8 : (List (List Int))) (b2 a8 : List A8) : Nat → Int → (List (List Int)) → Option (Ex (MpT × Bool) ((List (List Int))))
 | 0, _, _ => none
 | k + 1, a3, a7 => (if a3 < (b8.length : Int) then (if ([] : List Int).length + (rd b8 a3).length ≤ 1099511627776 then (if (0 ≤ (b2.length : Int) ∧ (([] : List Int) ++ (rd b8 a3)).length + (b2.length : Int).toNat ≤ 1099511627776) then (if 0 ≤ (i64.wrap ((a8.length : Int) + a3)) then (if (i64.wrap ((a8.length : Int) + a3)) < (((([] : List Int) ++ (rd b8 a3)) ++ (replicate (b2.length : Int).toNat (0 : Int))).length : Int) then (if a7.length + ([(((([] : List Int) ++ (rd b8 a3)) ++ (replicate (b2.length : Int).toNat (0 : Int))).set ((i64.wrap ((a8.length : Int) + a3))).toNat 1)]).length ≤ 1099511627776 then K4 K b8 b2 a8 k (a3 + 1) (a7 ++ [(((([] : List Int) ++ (rd b8 a3)) ++ (replicate (b2.length : Int).toNat (0 : Int))).set ((i64.wrap ((a8.length : Int) + a3))).toNat 1)]) else none) else none) else none) else none) else none) else some (.go a7))
def Zi7 (K : Nat) (a0 : ((List Int) × (List MpT))) (a1 : Int) (a2 : MpT) : Option (MpT × Bool) := ((P4 K a0.1 (i64.wrap (a1 - 1))).bind fun b2 => ((P4 K a0.1 a1).bind fun a8 => ((Zj2 K (a0.1, a0.2) (i64.wrap (a1 - 1))).bind fun b8 => ((K4 K b8 b2 a8 K 0 ([] : List (List Int))).bind (Ex.elim (fun r => some r) (fun s => (fun (c1 : (List (List Int))) => ((Zb5 K a2 a8).bind fun i5 => (if (0 ≤ (b2.length : Int) ∧ i5.length + (b2.length : Int).toNat ≤ 1099511627776) then ((B5 K c1).bind fun o9 => ((Zo3 K (i5 ++ (replicate (b2.length : Int).toNat (0 : Int))) o9).bind fun e7 => (if (a8.length : Int) ≤ (e7.length : Int) then ((D4 K (e7.take ((a8.length : Int)).toNat)).bind fun g5 => (if 0 ≤ g5 then some (([] : List (A8 × Int)), false) else (if (b2.length : Int) ≤ 1099511627776 then ((Zg2 K (replicate ((b2.length : Int)).toNat (0 : Int)) (e7.drop ((a8.length : Int)).toNat) 1).bind fun g6 => ((Zo9 K (a0.1, a0.2) (i64.wrap (a1 - 1))).bind fun g7 => ((Zo3 K g6 g7).bind fun f9 => ((Zn8 K f9 b2).bind fun p0 => some (p0, true))))) else none))) else none))) else none))) s))))))
theorem Yq4 {a0 : ((List Int) × (List MpT))} {a1 : Int} {a2 : MpT} {r : (MpT × Bool)} (q0 : Zi7 K a0 a1 a2 = some r) (a6 : Y3 (Y4 .i64) H s0 a0.1) (a9 : Y3 (X3 yT) H s1 a0.2) (c3 : Y3 yT H s2 a2) (hS : St H w L) :
 Calls prog 107 #[vA ([s0] ++ [s1]), vI a1, vA [s2]] w (T4 (fun v G => (R.t2 (R.agg (X3 yT)) R.bool).p G v r) H L) := by
 have Z4 := Sub.refl H
 refine X0 func107 U ntmps107 U ?_
 unfold Zi7 at q0
 refine Z1 (Z0 (T8 (v := vA ([s0] ++ [s1])) ([s0] ++ [s1]).toArray U U hS U (fun b1 _ hS => T8 (v := vA [s2]) [s2].toArray U U hS U (fun b4 _ hS => U5 (z := vA [vN]) [vN].toArray Zj8.zero U hS U (fun b7 _ hS => Z5 (vB false) U U (Z2 (Z1 ?_)))))))
 obtain ⟨b2, p1, q0⟩ := bSm q0
 obtain ⟨a8, p2, q0⟩ := bSm q0
 refine W6 11 (S8 [mE 17 (vP b1), mE 18 s0, mE 19 (vI a1), mE 20 (vI (i64.wrap (a1 - 1))), (21, MP.rep (R.sl (Q5 .u8)) b2), mE 22 (vP b1), mE 23 s0, mE 24 (vI a1), (25, MP.rep (R.sl (Q5 .u8)) a8), (8, MP.sl (Q5 .u8) b2), (9, MP.sl (Q5 .u8) a8)]) [] mixed U U U hS (U1 (X4 fun S B => Y2 N8 (evT (B 3 U) U) U (qz S)) (Y7 fun S V => Y1 s0 Q9 (eM (V 0 17 U U)) (S.get (mR (mR (mR mL)))) U U (qz S)) (X4 fun S B => Z3 (vI a1) (evT (B 1 U) U) U (qz S)) (Y7 fun S V => Zg8 (i64.wrap (a1 - 1)) (eM (V 2 19 U U)) U U U (qz S)) ?_ ?_ ?_ ?_ (L7 ?_ ?_ (I2 ?_ W9))) ?_
 intro _ _ _ _ p3 hS _ i6 hcq
 have a6 := a6.mono p3
 refine X2 call99 (W8 (eM (i6 1 18 U U)) (eM (i6 3 20 U U))) U (Za0 p1 a6 hS) ?_
 rintro _ _ _ p4 hS p5
 exact qn p4 U hS p5
 exact X4 fun S B => Y2 N8 (evT (B 3 U) U) U (qz S)
 exact Y7 fun S V => Y1 s0 Q9 (eM (V 5 22 U U)) (S.get (mR (mR (mR mL)))) U U (qz S)
 exact X4 fun S B => Z3 (vI a1) (evT (B 1 U) U) U (qz S)
 intro _ _ _ _ p6 hS _ i7 hcq
 have a6 := a6.mono p6
 refine X2 call99 (W8 (eM (i7 6 23 U U)) (eM (i7 7 24 U U))) U (Za0 p2 a6 hS) ?_
 rintro _ _ _ p7 hS p8
 exact qn p7 U hS p8
 intro _ _ _ _ _ hS _ j6 hcq
 obtain ⟨p9, q1, j7⟩ := gvR (j6 4 21 U U)
 refine Z5 p9 q1 U (qn (.refl _) U hS j7)
 intro _ _ _ _ _ hS _ j8 hcq
 obtain ⟨q2, q3, j9⟩ := gvR (j8 8 25 U U)
 refine Z5 q2 q3 U (qn (.refl _) U hS j9)
 intro g0 q4 q5 e4 hS e5 g9 hcq
 have hS : St q5 q4 ([(b7, cA [vN] 45)] ++ _) := hS
 have Z4 := Z4.trans e4
 have a6 := a6.mono e4
 have a9 := a9.mono e4
 have c3 := c3.mono e4
 have i8 : tv g0 1 = vI a1 := Eq.trans (e5 1 U) U
 have i9 : tv g0 3 = vP b1 := Eq.trans (e5 3 U) U
 have q6 : tv g0 5 = vP b4 := Eq.trans (e5 5 U) U
 have q7 : tv g0 6 = vP b7 := Eq.trans (e5 6 U) U
 obtain ⟨c7, q8, a4⟩ := gvS (g9 9 8 (by decide) U)
 obtain ⟨e0, j0, b5⟩ := gvS (g9 10 9 (by decide) U)
 refine Z2 (Z1 (Z0 (Z3 e0 (by exact j0) U ?_)))
 have t1 := b5.bound
 refine X9 Zv3 U b5 U (X5 Zx2 (by exact i9) (hS.get (mR (mR mL))) U U (Z3 (vI a1) (by exact i8) U (Zg8 (i64.wrap (a1 - 1)) U U U U ?_)))
 obtain ⟨b8, k0, q0⟩ := bSm q0
 refine X2 call170 (W8 U U) U (Yf0 k0 a6 a9 hS) ?_
 rintro e8 q9 _ d0 hS c0
 have Z4 := Z4.trans d0
 have a4 := a4.mono d0
 have b5 := b5.mono d0
 have a6 := a6.mono d0
 have a9 := a9.mono d0
 have c3 := c3.mono d0
 refine Ye7 (τ := (X3 (Y4 .i64))) T2 Zj1 U hS U fun j1 _ r0 k1 hS => Z5 (vI (a8.length : Int)) U U (Z5 e8 U U (Z5 j1 U U (Z2 (Z1 (Z1 (Z0 (Z5 (vI 0) U U (Z2 (Y8 ?_)))))))))
 obtain ⟨j2, b0, a5⟩ := bSm q0
 refine W3 (id := 0) (fun k f w => ∃ a3 a7 H1 b9 b6, K4 K b8 b2 a8 k a3 a7 = some j2 ∧ Sub H H1 ∧ St H1 w (b9 ++ ([(b7, cA [vN] 45)] ++ ([(b4, cA [s2] 45)] ++ ([(b1, cA ([s0] ++ [s1]) 31)] ++ L)))) ∧ 0 ≤ a3 ∧ W0 (X3 (Y4 .i64)) 22 H1 b6 a7 b9 ∧ Y3 (Y4 .i64) H1 s0 a0.1 ∧ Y3 (X3 yT) H1 s1 a0.2 ∧ Y3 yT H1 s2 a2 ∧ Y3 (Q5 .u8) H1 c7 b2 ∧ Y3 (Q5 .u8) H1 e0 a8 ∧ Y3 (X3 (Y4 .i64)) H1 e8 b8 ∧ tv f 1 = vI a1 ∧ tv f 3 = vP b1 ∧ tv f 5 = vP b4 ∧ tv f 6 = vP b7 ∧ tv f 8 = c7 ∧ tv f 9 = e0 ∧ tv f 10 = vI (a8.length : Int) ∧ tv f 11 = e8 ∧ tv f 12 = b6 ∧ tv f 13 = vI a3) (fun f w => ∃ c1 H1 c8 c2, j2 = .go c1 ∧ Sub H H1 ∧ St H1 w (c8 ++ ([(b7, cA [vN] 45)] ++ ([(b4, cA [s2] 45)] ++ ([(b1, cA ([s0] ++ [s1]) 31)] ++ L)))) ∧ W0 (X3 (Y4 .i64)) 22 H1 c2 c1 c8 ∧ Y3 (Y4 .i64) H1 s0 a0.1 ∧ Y3 (X3 yT) H1 s1 a0.2 ∧ Y3 yT H1 s2 a2 ∧ Y3 (Q5 .u8) H1 c7 b2 ∧ Y3 (Q5 .u8) H1 e0 a8 ∧ tv f 1 = vI a1 ∧ tv f 3 = vP b1 ∧ tv f 5 = vP b4 ∧ tv f 6 = vP b7 ∧ tv f 8 = c7 ∧ tv f 9 = e0 ∧ tv f 10 = vI (a8.length : Int) ∧ tv f 12 = c2) U ?_ ?_ K ?_ ?_
 rintro f w ⟨a3, a7, H1, b9, b6, b0, _⟩
 rw [K4] at b0; cases b0
 rintro k _ _ s9 t0 ⟨a3, a7, r1, b9, b6, b0, Z4, hS, _, b3, a6, a9, c3, a4, b5, c0, f3, f4, f5, f6, e1, f7, d2, d3, e9, c9⟩
 rw [K4] at b0
 refine Z1 (Z1 (Z0 (Z3 (vI a3) (by exact c9) U (Z3 e8 (by exact d3) U ?_))))
 have t4 := c0.bound
 refine X9 T2 U c0 U (V4 (k := .i64) (a := a3) (b := (b8.length : Int)) U U U (Z2 ?_))
 obtain ⟨g1, b0⟩ | ⟨g1, b0⟩ := ic b0
 refine Z8 (bT g1 U) (Y6 (Z1 (Y8 (Z1 (Z0 (Ye7 (τ := (Y4 .i64)) T1 ze2 U hS U (fun _ _ _ k2 hS => Z3 e8 (by exact d3) U (Z3 (vI a3) (by exact c9) U ?_))))))))
 obtain ⟨_, _, _, _, _, k3, k4, ⟨r2, rfl, k5⟩, k6⟩ := c0.elem (i := a3) (by omega) (by omega)
 refine X6 T2 U U k3 U (by omega) (by omega) U (Y1 r2 Q9 U (hS.froz _ _ k4) (k6 0 (show 0 < 1 by decide)) U ?_)
 obtain ⟨k7, b0⟩ := gd b0
 refine N2 (τ := (Y4 .i64)) Zx1 U U U k2 hS k5 k7 U fun _ _ _ k8 hS => Z3 c7 (by exact e1) U ?_
 have t5 := a4.bound
 refine X9 Zv3 U a4 U ?_
 obtain ⟨h0, b0⟩ := gd b0
 refine Yp6 U U h0.1 k8 hS h0.2 U fun f0 _ _ h1 hS => Z5 f0 U U (Z2 (Z1 (Z0 (Z3 f0 U U (Z3 (vI (a8.length : Int)) (by exact d2) U (Z3 (vI a3) (by exact c9) U (W4 (i64.wrap ((a8.length : Int) + a3)) U U U U ?_)))))))
 obtain ⟨_, b0⟩ := gd b0
 obtain ⟨_, b0⟩ := gd b0
 obtain ⟨_, _, h2⟩ := h1.some (i := (i64.wrap ((a8.length : Int) + a3))) (by omega) (by omega)
 refine Q3 T1 (Eq.trans U h2) U (by omega) (by omega) U (Za9 (τ := (Y4 .i64)) (v := f0) (u := vI 1) 1 (i := (i64.wrap ((a8.length : Int) + a3))) U ty2 h2 h1 hS U U (by omega) (by omega) U (fun _ _ k9 hS => Z2 (Z0 (Z3 b6 (by exact e9) U (Z3 f0 U U ?_)))))
 obtain ⟨_, c4, hS, l0⟩ := k9.freeze hS
 have Z4 := Z4.trans c4
 have a4 := a4.mono c4
 have b5 := b5.mono c4
 have c0 := c0.mono c4
 have a6 := a6.mono c4
 have a9 := a9.mono c4
 have c3 := c3.mono c4
 have b3 := b3.mono c4
 refine Zc4 (τ := (X3 (Y4 .i64))) T2 Zj1 U [f0] [(((([] : List Int) ++ (rd b8 a3)) ++ (replicate (b2.length : Int).toNat (0 : Int))).set ((i64.wrap ((a8.length : Int) + a3))).toNat 1)] U U (D3 U) (Zl6 l0.relv) (by decide) (by decide) hS U ?_
 intro _ r3 _ c5 hS l1
 have Z4 := Z4.trans c5
 have a4 := a4.mono c5
 have b5 := b5.mono c5
 have c0 := c0.mono c5
 have a6 := a6.mono c5
 have a9 := a9.mono c5
 have c3 := c3.mono c5
 have b3 := b3.mono c5
 obtain ⟨l2, b0⟩ := gd b0
 refine N2 (τ := (X3 (Y4 .i64))) Ya0 U U U b3 hS l1 l2 U fun j3 _ r4 l3 hS => Z5 j3 U U (Z2 (X1 (Z0 (Z3 (vI a3) (by exact c9) U (W4 (a3 + 1) U U (i64_in _ (by omega)) U (Z5 (vI (a3 + 1)) U U (Z2 (s9 _ _ ⟨(a3 + 1), (a7 ++ [(((([] : List Int) ++ (rd b8 a3)) ++ (replicate (b2.length : Int).toNat (0 : Int))).set ((i64.wrap ((a8.length : Int) + a3))).toNat 1)]), r3, r4, j3, b0, Z4, hS, (by omega), l3, a6, a9, c3, a4, b5, c0, f3, f4, f5, f6, e1, f7, d2, d3, U, U⟩))))))))
 refine Z6 (bF g1 U) (W2 U ?_)
 cases b0
 exact t0 _ _ ⟨a7, r1, b9, b6, U, Z4, hS, b3, a6, a9, c3, a4, b5, f3, f4, f5, f6, e1, f7, d2, e9⟩
 exact ⟨0, ([] : List (List Int)), q9, r0, j1, b0, Z4, hS, (by omega), k1, a6, a9, c3, a4, b5, c0, i8, i9, q6, q7, q8, j0, U, U, U, U⟩
 rintro _ _ ⟨c1, _, c8, c2, rfl, Z4, hS, c6, a6, a9, c3, a4, b5, i1, i2, i3, e2, e3, i4, f1, g8⟩
 dsimp only [Ex.elim] at a5
 refine Z1 (Z0 (X5 U7 (by exact i3) (hS.get (mR (mR mL))) U U (Z3 e0 (by exact i4) U ?_)))
 obtain ⟨_, l4, a5⟩ := bSm a5
 refine U9 call189 (W8 U U) U (Yf1 l4 c3 b5 hS) ?_
 rintro _ _ ⟨_, _, _, rfl, d4, hS, l5⟩
 refine ⟨_, U, ?_⟩
 have Z4 := Z4.trans d4
 have a4 := a4.mono d4
 have a6 := a6.mono d4
 have a9 := a9.mono d4
 have c6 := c6.mono d4
 refine Z3 c7 (by exact e3) U ?_
 have t6 := a4.bound
 refine X9 Zv3 U a4 U ?_
 obtain ⟨h3, a5⟩ := gd a5
 refine Yp6 U U h3.1 l5 hS h3.2 U fun _ _ _ d5 hS => Z3 c2 (by exact g8) U ?_
 have hS := hS.perm R5
 obtain ⟨_, d6, hS, l6⟩ := c6.freeze hS
 have Z4 := Z4.trans d6
 have a4 := a4.mono d6
 have a6 := a6.mono d6
 have a9 := a9.mono d6
 have d5 := d5.mono d6
 obtain ⟨_, l7, a5⟩ := bSm a5
 refine X2 call136 (S4 U) U (Zx0 l7 l6 hS) ?_
 rintro _ _ _ d7 hS g2
 have Z4 := Z4.trans d7
 have a4 := a4.mono d7
 have a6 := a6.mono d7
 have a9 := a9.mono d7
 have d5 := d5.mono d7
 obtain ⟨_, d8, hS, l9⟩ := d5.freeze hS
 have Z4 := Z4.trans d8
 have a4 := a4.mono d8
 have g2 := g2.mono d8
 have a6 := a6.mono d8
 have a9 := a9.mono d8
 obtain ⟨e7, m0, a5⟩ := bSm a5
 refine X2 call164 (W8 U U) U (Ye3 m0 l9 g2 hS) ?_
 rintro g3 _ _ e6 hS d1
 have Z4 := Z4.trans e6
 have a4 := a4.mono e6
 have a6 := a6.mono e6
 have a9 := a9.mono e6
 refine Z5 g3 U U (Z2 (Z1 (Z1 (Z0 (Z3 g3 U U (Z3 (vI (a8.length : Int)) (by exact f1) U ?_))))))
 obtain ⟨_, a5⟩ := gd a5
 refine Wd2 T1 U d1 U U (by omega) (by omega) U ?_
 intro _ m2
 obtain ⟨g5, m3, a5⟩ := bSm a5
 refine X2 call148 (S4 U) U (Zk2 m3 m2 hS) ?_
 rintro _ _ _ d9 hS rfl
 have Z4 := Z4.trans d9
 have a4 := a4.mono d9
 have d1 := d1.mono d9
 have a6 := a6.mono d9
 have a9 := a9.mono d9
 refine Ya4 (k := .i64) (a := g5) (b := 0) U U U (Z2 ?_)
 obtain ⟨g4, a5⟩ | ⟨g4, a5⟩ := ic a5
 refine Z8 (bT g4 U) (Z1 (Z0 (M4 (vA [vN]) Zz0 U (W1 (v := vA [vN]) (vs := ([vN]).toArray) (cs := ([vN]).toArray) U7 (by exact e2) U U hS U (K9 U) U (fun _ hS => Z5 (vB false) U U (Z2 (Y9 (vs := [vA [vN], vB false]) func107 ⟨⟨_, (by exact e2), T9 U7 (hS.get mL) U⟩, U, trivial⟩ ?_)))))))
 cases a5
 exact ⟨_, _, U, Z4, (St.dA (St.dA (St.dA hS))), ⟨_, _, U, ⟨_, U, ⟨_, U, Y3.nil⟩⟩, U⟩⟩
 refine Z6 (bF g4 U) (Y6 (Z1 ?_))
 obtain ⟨_, a5⟩ := gd a5
 obtain ⟨g6, m4, a5⟩ := bSm a5
 obtain ⟨g7, m5, a5⟩ := bSm a5
 obtain ⟨f9, m6, a5⟩ := bSm a5
 refine W6 13 (S8 [mE 72 c7, mE 73 (vI (b2.length : Int)), (74, MP.sl (Y4 .i64) ((replicate ((b2.length : Int)).toNat (0 : Int)))), mE 75 g3, mE 76 (vI (a8.length : Int)), (77, MP.sl (Y4 .i64) ((e7.drop ((a8.length : Int)).toNat))), (78, MP.rep (R.sl (Y4 .i64)) g6), mE 79 (vA ([s0] ++ [s1])), mE 80 (vI a1), mE 81 (vI (i64.wrap (a1 - 1))), (82, MP.rep (R.sl (X3 (Y4 .i64))) g7), (83, MP.rep (R.sl (Y4 .i64)) f9), (16, MP.sl (Y4 .i64) f9)]) [] mixed U U U hS (U1 (X4 fun S B => Z3 c7 (evT (B 8 U) e3) U (qz S)) (P0 fun s S V => X9 Zv3 (eM (V 0 72 U U)) (a4.mono s) U (qz S)) ?_ ?_ ?_ ?_ ?_ ?_ (K3 ?_ ?_ ?_ ?_ (I2 ?_ W9))) ?_
 intro r5 _ _ _ _ hS _ m7 hcq
 have j4 : tv r5 73 = vI (b2.length : Int) := m7 1 73 U U
 refine Zz4 (τ := (Y4 .i64)) (0 : Int) Zx1 U j4 j4 (fun _ => rfl) (by omega) (by omega) hS U ?_
 intro _ _ _ m8 hS
 obtain ⟨_, m9, hS, n0⟩ := m8.freeze hS
 exact qn m9 U hS n0
 exact X4 fun S B => Z3 g3 (evT (B 15 U) U) U (qz S)
 exact X4 fun S B => Z3 (vI (a8.length : Int)) (evT (B 10 U) f1) U (qz S)
 intro _ _ _ _ n1 hS _ h4 hcq
 have d1 := d1.mono n1
 refine Yq9 T1 U d1 (eM (h4 3 75 U U)) (eM (h4 4 76 U U)) (by omega) (by omega) U fun _ n2 => qn (.refl _) U hS n2
 intro _ _ _ _ _ hS _ h5 hcq
 obtain ⟨_, r6, n3⟩ := gvS (h5 2 74 U U)
 obtain ⟨_, r7, n4⟩ := gvS (h5 5 77 U U)
 refine X2 call190 (I3 r6 r7 U) U (Zs8 m4 n3 n4 hS) ?_
 rintro _ _ _ n5 hS n6
 exact qn n5 U hS n6
 exact X4 fun S B => X5 Zx2 (evT (B 3 U) i2) (S.get (mR (mR (mR mL)))) U U (qz S)
 exact X4 fun S B => Z3 (vI a1) (evT (B 1 U) i1) U (qz S)
 exact Y7 fun S V => Zg8 (i64.wrap (a1 - 1)) (eM (V 8 80 U U)) U U U (qz S)
 intro _ _ _ _ h6 hS _ h7 hcq
 have a6 := a6.mono h6
 have a9 := a9.mono h6
 refine X2 call103 (W8 (eM (h7 7 79 U U)) (eM (h7 9 81 U U))) U (Yw5 m5 a6 a9 hS) ?_
 rintro _ _ _ n7 hS n8
 exact qn n7 U hS n8
 intro _ _ _ _ _ hS _ h8 hcq
 obtain ⟨_, r8, n9⟩ := gvR (h8 6 78 U U)
 obtain ⟨_, r9, o0⟩ := gvR (h8 10 82 U U)
 refine X2 call164 (W8 r8 r9) U (Ye3 m6 n9 o0 hS) ?_
 rintro _ _ _ o1 hS o2
 exact qn o1 U hS o2
 intro _ _ _ _ _ hS _ o3 hcq
 obtain ⟨s3, s4, o4⟩ := gvR (o3 11 83 U U)
 refine Z5 s3 s4 U (qn (.refl _) U hS o4)
 intro _ s5 s6 h9 hS i0 o5 hcq
 have hS : St s6 s5 ([(b7, cA [vN] 45)] ++ _) := hS
 have Z4 := Z4.trans h9
 have a4 := a4.mono h9
 have j5 := evT (i0 6 U) e2
 obtain ⟨s7, s8, o6⟩ := gvS (o5 12 16 (by decide) U)
 refine Z2 (Z1 (Z0 (Z3 s7 (by exact s8) U (Z3 c7 (by exact (evT (i0 8 U) e3)) U ?_))))
 obtain ⟨_, o7, a5⟩ := bSm a5
 refine X2 call169 (W8 U U) U (Xb6 o7 o6 a4 hS) ?_
 rintro _ _ _ o8 hS ⟨_, rfl, ⟨f2, rfl, f8⟩⟩
 have Z4 := Z4.trans o8
 refine W1 (v := vA [f2]) (vs := ([f2]).toArray) (cs := ([vN]).toArray) U7 (by exact j5) U U hS U (K9 f8.isOne) U fun _ hS => Z5 (vB true) U U (Z2 (Y9 (vs := [vA [f2], vB true]) func107 ⟨⟨_, (by exact j5), T9 U7 (hS.get mL) U⟩, U, trivial⟩ ?_))
 cases a5
 exact ⟨_, _, U, Z4, (St.dA (St.dA (St.dA hS))), ⟨_, _, U, ⟨_, U, ⟨_, U, f8⟩⟩, U⟩⟩
theorem Ve3 : BuI prog 187 #[Value.pointer none, Value.map none] #[(0, 1), (1, 1)] := ⟨_, _, zeroValue187, U, runUnderlying187, fun w => by kernel_rfl⟩
theorem Vd3 : BuI prog 102 #[vN, Value.map none, vN, vN, vN, vN] #[(0, 1), (1, 1), (2, 1), (3, 1), (4, 1), (5, 1)] := ⟨_, _, zeroValue102, U, runUnderlying102, fun w => by kernel_rfl⟩
def Vh5 (x : AlX) (S : List Lvl) (H : FH) (L : OL) : Ending → World → Prop := fun e w' => ∃ p H' C, e = .returned p ∧ Sub H H' ∧ St H' w' (C ++ L) ∧ Cx H' p x S C
theorem Zt4.val {α : Type} {τ : Ty α} {H : FH} {v : Value} {x : α} (h : Zt4 τ H v x) : ∃ b o, v = .pointer (some ⟨b, o, none⟩) := let ⟨b, o, _, _, _, h, _⟩ := h; ⟨b, o, h⟩
theorem Xs7 {H : FH} {w : World} {L : OL} {s0 : Value} {x : AlX} (hs0 : Zt4 Yw1 H s0 x) (hS : St H w L) :
 Calls prog 82 #[s0] w (Vh5 x [] H L) := by
 obtain ⟨ab, ao, rfl⟩ := hs0.val
 refine X0 func82 U ntmps82 U ?_
 repeat refine Z1 ?_
 refine Z0 (Z5 (.pointer none) U U (Z2 ?_))
 repeat refine Z1 ?_
 refine Z0 (Z3 (.pointer (some ⟨ab, ao, none⟩)) U U (Yk1 hS U (fun bm w2 hS => Zw5 ([.pointer (some ⟨ab, ao, none⟩)] ++ [.map (some bm)]) Ve3 (Yc0 U U) (E1 U U U (nl U) (E1 U U U (nl U) (Zr9 U))) U (T8 (v := vA ([.pointer (some ⟨ab, ao, none⟩)] ++ [.map (some bm)])) #[.pointer (some ⟨ab, ao, none⟩), .map (some bm)] U U hS U (fun bp w3 hS => Z5 (vP bp) U U (Z2 ?_))))))
 have hS : St H w3 ((bp, .cells #[.pointer (some ⟨ab, ao, none⟩), .map (some bm)] 187) :: ([(bm, .map #[] 0)] ++ L)) := hS
 have Z4 := Sub.add (o := .cells #[.pointer (some ⟨ab, ao, none⟩), .map (some bm)] 187) hS.none
 exact Y9 (vs := [vP bp]) func82 Ut ⟨_, _, [(bm, .map #[] 0)], U, Z4, hS.freeze, bp, bm, _, #[], 0, U, FH.add_self .., hs0.mono Z4, U, U⟩
def lv0 (K : Nat) (x : AlX) (n : Int) : Option (List A8) := (Zj3 K x.1 n 120).map Prod.fst
def Yb7 (M : List A8) : Nat → MpT
 | 0 => []
 | k + 1 => Zc9 (Yb7 M k) (rd M (k : Int)) (k : Int)
def LvB (K : Nat) (x : AlX) (H : FH) (s : Lvl) : Prop := ∃ M, lv0 K x s.n = some M ∧ Y3 (Q5 .i64) H s.v0 M ∧ N0 .i64 H s.v1 (Yb7 M M.length)
theorem LvB.mono {K : Nat} {x : AlX} {H H' : FH} {s : Lvl} (h : LvB K x H s) (hs : Sub H H') : LvB K x H' s := let ⟨M, h1, h2, h3⟩ := h; ⟨M, h1, h2.mono hs, h3.mono hs⟩
def Vk1 (K : Nat) (x : AlX) (n : Int) (p : Value) (S : List Lvl) (H : FH) (L : OL) : Ending → World → Prop := fun e w' => ∃ (i : Nat) (s : Lvl) (S' : List Lvl) (H' : FH) (C : OL), e = .returned (vP s.b) ∧ Sub H H' ∧ St H' w' (C ++ L) ∧ Cx H' p x S' C ∧ S'[i]? = some s ∧ s.n = n ∧
 (S' = S ∨ (S' = S ++ [s] ∧ LvB K x H' s ∧ s.c2 = vN ∧ s.c3 = vN ∧ s.c4 = vN ∧ s.c5 = vN))
theorem Wf0 {K : Nat} {x : AlX} {n : Int} {M : List A8} (q0 : lv0 K x n = some M) {H : FH} {w : World} {L C : OL} {p : Value} {S : List Lvl} (hC : Cx H p x S C) (hS : St H w (C ++ L)) :
 Calls prog 153 #[p, vI n] w (Vk1 K x n p S H L) := by
 obtain ⟨bp, bm, ap, es, clk, rfl, hbox, hap, rfl, hes⟩ := hC
 obtain ⟨ab, ao, rfl⟩ := hap.val
 have hmono := q0
 unfold lv0 at hmono
 obtain ⟨⟨M', mb⟩, hM, hM'⟩ := Option.map_eq_some_iff.1 hmono
 obtain rfl : M' = M := hM'
 refine X0 func153 U ntmps153 U ?_
 repeat refine Z1 ?_
 refine Z0 (Z5 (.pointer none) U U (Z2 ?_))
 repeat refine Z1 ?_
 refine Z0 (Z3 (vP bp) U U (V0 U U (Y2 Xg4 U U (Y1 (.map (some bm)) Xx0 U (hS.froz _ _ hbox) U U (Z3 (vI n) U U (Xk0 (m := n) U U hS.hd hes U ?_ ?_))))))
 intro j s hj hn
 refine Z3 _ U U (V1 (vP s.b) U U U (V1 (vB true) U U U (Z5 _ U U (Z5 _ U U (Z2 ?_)))))
 repeat refine Z1 ?_
 refine Z0 (Z3 (vB true) U U (Z2 ?_))
 repeat refine Z1 ?_
 refine Z8 U ?_
 repeat refine Z1 ?_
 refine Z0 (Z3 (vP s.b) U U (Z5 (vP s.b) U U (Z2 (Y9 (vs := [vP s.b]) func153 Ut ⟨j, s, S, H, _, U, .refl _, hS, ⟨bp, bm, _, es, clk, U, hbox, hap, U, hes⟩, hj, hn, .inl U⟩))))
 intro hno
 refine Z3 _ U U (V1 (.pointer none) U U U (V1 (vB false) U U U (Z5 _ U U (Z5 _ U U (Z2 ?_)))))
 repeat refine Z1 ?_
 refine Z0 (Z3 (vB false) U U (Z2 ?_))
 repeat refine Z1 ?_
 refine Z6 U (Y6 ?_)
 repeat refine Z1 ?_
 refine Zc7 fun f0 hf0 => ?_
 have t0 : tv f0 0 = vP bp := by rw [hf0]; rfl
 have t1 : tv f0 1 = vI n := by rw [hf0]; rfl
 clear hf0
 refine Z0 (Yi9 (k := .i64) hS U ?_)
 intro pv w1 Cp hop hS
 obtain ⟨pb, hpv⟩ : ∃ b, pv = .map (some b) := by obtain ⟨_, b, _, _, _, h, _⟩ := hop; exact ⟨b, h⟩
 subst hpv
 refine Zw5 ([vN] ++ ([.map (some pb)] ++ ([vN] ++ ([vN] ++ ([vN] ++ [vN]))))) Vd3 (D3 U) (E1 U U U (nl U) (Zr9 U)) U (T8 (v := vA ([vN] ++ ([.map (some pb)] ++ ([vN] ++ ([vN] ++ ([vN] ++ [vN])))))) #[vN, .map (some pb), vN, vN, vN, vN] U U hS U (fun bl w2 hS => Z5 (vP bl) U U (Z2 ?_)))
 repeat refine Z1 ?_
 refine Z0 (Z3 (vP bl) U U (Z3 (vP bp) (by exact t0) U (V0 U U (Y2 Xf0 U U (Y1 (.pointer (some ⟨ab, ao, none⟩)) Wk8 U (hS.froz _ _ hbox) U U (V0 U U (Y2 Xn6 U U ?_)))))))
 obtain ⟨_, _, acs, aE, _, hap1, hab, ⟨_, _, rfl, ⟨dv, rfl, hdeg⟩, ⟨fv, rfl, hfms⟩⟩, hac⟩ := id hap
 cases hap1
 refine Y1 dv Q9 U (hS.froz _ _ hab) (hac 0 (by decide)) U (Z3 (vI n) (by exact t1) U (U9 call231 (I3 U U U) U (Ye8 hM hdeg hS) ?_))
 rintro e3 w3 ⟨_, H3, rfl, s3, hS, v0, v1, rfl, hv0, hv1⟩
 refine ⟨_, U, ?_⟩
 refine Z3 _ U U (V1 v0 U U U (V1 v1 U U U (V0 U U (Y2 Zs2 U U ?_))))
 obtain ⟨va, vc, ⟨hv0e, hMl⟩, _⟩ := id hv0
 have hMl : M'.length ≤ 9223372036854775807 := hMl.1
 refine J7 (v := v0) (cs := #[vN, .map (some pb), vN, vN, vN, vN]) (cs' := #[v0, .map (some pb), vN, vN, vN, vN]) Yh6 U U hS (by rw [hv0e]; rfl) (by rw [hv0e]; exact Zv6 U) (nl U) (by rw [hv0e]; rfl) fun w4 hS => Z2 ?_
 repeat refine Z1 ?_
 have hbox := s3.1 _ _ hbox
 have hap := hap.mono s3
 refine Zc7 fun f1 hf1 => ?_
 have t0 : tv f1 0 = vP bp := by rw [hf1]; exact t0
 have t1 : tv f1 1 = vI n := by rw [hf1]; exact t1
 have t7 : tv f1 7 = vP bl := by rw [hf1]; rfl
 clear hf1
 refine Z0 (Z3 (vP bl) (by exact t7) U (V0 U U (Y2 Zs2 U U (Y1 v0 Yh6 U hS.hd U U (X9 Zv1 U hv0 U (Z3 (vI 0) U U (Z2 (Y8 ?_))))))))
 refine W3 (id := 0) (fun k f w => ∃ (m : Nat) (H1 : FH) (Cp : OL), m ≤ M'.length ∧ M'.length < m + k ∧ Sub H3 H1 ∧ Q8 .i64 (.map (some pb)) (Yb7 M' m) Cp ∧ St H1 w ([(bl, .cells #[v0, .map (some pb), vN, vN, vN, vN] 102)] ++ (Cp ++ ((bm, .map es clk) :: (S.map Lvl.chunk ++ L)))) ∧ tv f 0 = vP bp ∧ tv f 1 = vI n ∧ tv f 7 = vP bl ∧ tv f 42 = v0 ∧ tv f 43 = vI (M'.length : Int) ∧ tv f 44 = vI (m : Int))
  (fun f w => ∃ H1 Cp, Sub H3 H1 ∧ Q8 .i64 (.map (some pb)) (Yb7 M' M'.length) Cp ∧ St H1 w ([(bl, .cells #[v0, .map (some pb), vN, vN, vN, vN] 102)] ++ (Cp ++ ((bm, .map es clk) :: (S.map Lvl.chunk ++ L)))) ∧ tv f 0 = vP bp ∧ tv f 1 = vI n ∧ tv f 7 = vP bl) U ?_ ?_ (M'.length + 1) ?_ ?_
 rintro f w ⟨m, H1, Cp, h1, h2, _⟩; omega
 rintro k f w ih hx ⟨m, H1, Cp, h1, h2, s1, hop, hS, t0, t1, t7, t42, t43, t44⟩
 have hv0 := hv0.mono s1
 repeat refine Z1 ?_
 refine Z0 (V4 (k := .i64) (a := m) (b := M'.length) (by exact t44) (by exact t43) U (Z2 ?_))
 repeat refine Z1 ?_
 by_cases hm : (m : Int) < (M'.length : Int)
 have hm' : m < M'.length := by omega
 refine Z8 (bT hm U) (Y6 ?_)
 repeat refine Z1 ?_
 refine Y8 ?_
 repeat refine Z1 ?_
 refine Z0 (Z3 (vI (m : Int)) (by exact t44) U ?_)
 obtain ⟨_, _, _, _, _, hp1, hp2, rfl, hp3⟩ := hv0.elem (i := (m : Int)) (by omega) hm
 refine X6 Zv1 U (by exact t42) hp1 (by exact t44) (by omega) hm U (U0 (Z7 .i64 (rd M' (m : Int))) P3 U (hS.froz _ _ hp2) U hp3 U (U5 (z := vA (Z7 .i64 (fun _ => 0))) (Z7 .i64 (fun _ => 0)).toArray Zm8.zero U hS U (fun bq w5 hS => Z5 (vI (m : Int)) U U (W1 (v := vA (Z7 .i64 (rd M' (m : Int)))) (vs := (Z7 .i64 (rd M' (m : Int))).toArray) (cs := (Z7 .i64 (fun _ => 0)).toArray) P3 U U U hS U (R7 .i64 (rd M' (m : Int))) U (fun w6 hS => Z2 ?_)))))
 repeat refine Z1 ?_
 refine Zc7 fun f2 hf2 => ?_
 have t0 : tv f2 0 = vP bp := by rw [hf2]; exact t0
 have t1 : tv f2 1 = vI n := by rw [hf2]; exact t1
 have t7 : tv f2 7 = vP bl := by rw [hf2]; exact t7
 have t8 : tv f2 8 = vI (m : Int) := by rw [hf2]; rfl
 have t9 : tv f2 9 = vP bq := by rw [hf2]; rfl
 have t42 : tv f2 42 = v0 := by rw [hf2]; exact t42
 have t43 : tv f2 43 = vI (M'.length : Int) := by rw [hf2]; exact t43
 have t44 : tv f2 44 = vI (m : Int) := by rw [hf2]; exact t44
 clear hf2
 refine W6 6 (S8 [mE 49 (vP bl), mE 50 (vP bl), mE 51 (vQ bl 1), mE 52 (.map (some pb)), mE 53 (vA (Z7 .i64 (rd M' (m : Int)))), mE 54 (vI (m : Int))]) [] mixed U U U hS (K3 (X4 fun S B => Z3 _ (evT (B 7 U) t7) U (qz S)) (Y7 fun S V => V0 (eM (V 0 49 U U)) U (qz S)) (Y7 fun S V => Y2 Xx9 (eM (V 1 50 U U)) U (qz S)) (Y7 fun S V => Y1 (.map (some pb)) Va2 (eM (V 2 51 U U)) (S.get (mR (mR mL))) U U (qz S)) (L7 (X4 fun S B => X5 P3 (evT (B 9 U) t9) (S.get (mR mL)) U U (qz S)) (X4 fun S B => Z3 _ (evT (B 8 U) t8) U (qz S)) W9)) ?_
 intro f3 w7 H5 s5 hS hB hV hcq
 have t52 : f3 52 = .map (some pb) := eM (hV 3 52 (by decide) U)
 have t53 : f3 53 = vA (Z7 .i64 (rd M' (m : Int))) := eM (hV 4 53 (by decide) U)
 have t54 : f3 54 = vI (m : Int) := eM (hV 5 54 (by decide) U)
 have hS : St H5 w7 (Cp ++ ([(bl, .cells #[v0, .map (some pb), vN, vN, vN, vN] 102)] ++ ((bm, .map es clk) :: (S.map Lvl.chunk ++ L)))) := hS.dA.dA.swap
 refine Yq3 (a := rd M' (m : Int)) (m := (m : Int)) Wz9 (by exact t52) (by exact t53) (by exact t54) (hop.mono s5) hS fun w8 Cp' hop hS => Z2 (X1 (Z0 (W4 ((m : Int) + 1) (by exact (evT (hB 44 U) t44)) U (i64_in _ (by omega)) U (Z3 (vI ((m : Int) + 1)) U U (Z2 (ih _ _ ⟨m + 1, H5, Cp', by omega, by omega, s1.trans s5, hop, hS.swap, (evT (hB 0 U) t0), (evT (hB 1 U) t1), (evT (hB 7 U) t7), (evT (hB 42 U) t42), (evT (hB 43 U) t43), by show vI ((m : Int) + 1) = vI ((m + 1 : Nat) : Int); rw [Int.natCast_add]; rfl⟩))))))
 refine Z6 (bF hm U) (W2 U ?_)
 have e : m = M'.length := by omega
 subst e
 exact hx _ _ ⟨H1, Cp, s1, hop, hS, t0, t1, t7⟩
 exact ⟨0, H3, Cp, by omega, by omega, .refl _, hop, hS, t0, t1, t7, U, U, U⟩
 rintro f w ⟨H1, Cp, s1, hop, hS, t0, t1, t7⟩
 have s3 := s3.trans s1
 have hv0 := hv0.mono s1
 have hbox := s1.1 _ _ hbox
 have hap := hap.mono s1
 repeat refine Z1 ?_
 refine Z0 (Z3 (vP bp) (by exact t0) U (V0 U U (Y2 Xg4 U U (Y1 (.map (some bm)) Xx0 U (hS.froz _ _ hbox) U U (Z3 (vI n) (by exact t1) U (Z3 (vP bl) (by exact t7) U ?_))))))
 obtain ⟨H4, s4, hS, hrp⟩ := hop.freeze hS.swap
 have hS : St H4 w ((bm, .map es clk) :: ((bl, .cells #[v0, .map (some pb), vN, vN, vN, vN] 102) :: (S.map Lvl.chunk ++ L))) := hS.swap (A := [_]) (B := [_])
 refine Wm0 (m := n) (u := vP bl) U U U hS hes hno fun w5 hS => Z2 ?_
 repeat refine Z1 ?_
 refine Z0 (Z3 (vP bl) (by exact t7) U (Z5 (vP bl) U U (Z2 (Y9 (vs := [vP bl]) func153 Ut ⟨S.length, ⟨n, bl, v0, .map (some pb), vN, vN, vN, vN⟩, S ++ [⟨n, bl, v0, .map (some pb), vN, vN, vN, vN⟩], H4, _, U, s3.trans s4, ?_, ⟨bp, bm, _, es.push { key := vI n, val := vP bl, born := clk }, clk + 1, U, s4.1 _ _ hbox, hap.mono s4, U, ?_⟩, by simp, U, .inr ⟨U, ⟨M', q0, hv0.mono s4, hrp⟩, U, U, U, U⟩⟩))))
 refine hS.perm (List.Perm.cons _ ?_)
 rw [map_append, map_singleton]
 show ((S.map Lvl.chunk ++ [_]) ++ L).Perm _
 rw [append_assoc]
 exact perm_middle
 simp [hes]
theorem Xj8 (M : List A8) : ∀ k, Srt (Yb7 M k)
 | 0 => List.Pairwise.nil
 | k + 1 => Yo1 (Xj8 M k) _ _
theorem Xi1 {M : List A8} {i : Nat} (h : i < M.length) : rd M (i : Int) = M[i] := by unfold rd; rw [Int.toNat_natCast, P2 h]
theorem Xj5 {M : List A8} (hM : M.Nodup) : ∀ k, k ≤ M.length → ∀ i, i < k → (rd M (i : Int), (i : Int)) ∈ Yb7 M k
 | 0, _, i, hi => by omega
 | k + 1, hk, i, hi => by
  rw [Yb7]
  by_cases e : i = k
  subst e; exact Yc8.2 (.inl rfl)
  refine Yc8.2 (.inr ⟨Xj5 hM k (by omega) i (by omega), fun h => ?_⟩)
  replace h : rd M (i : Int) = rd M (k : Int) := h
  rw [Xi1 (by omega), Xi1 (by omega)] at h
  exact e ((getElem_inj hM).1 h)
theorem Wr7 {M : List A8} (hM : M.Nodup) {i : Nat} (hi : i < M.length) : N5 (Yb7 M M.length) (rd M (i : Int)) = (i : Int) :=
 Yl1 (Zu6 (Xj8 M _)) (Xj5 hM _ (Nat.le_refl _) i hi)
def Zc8 (M : List A8) (ds : MpT) : List Int := M.map fun p => N5 ds p
theorem Yo7 (z : A8 × Int) (ds : MpT) (p : A8) : N5 (z :: ds) p = if p = z.1 then z.2 else N5 ds p := by
 unfold N5
 rw [find?_cons]
 cases he : eq8 p z.1 with
 | true => rw [if_pos (Zf3.1 he)]; rfl
 | false => rw [if_neg (fun e => by rw [Zf3.2 e] at he; cases he)]
theorem Wv5 {M : List A8} (hM : M.Nodup) (ds : MpT) (z : A8 × Int) {i : Nat} (hi : i < M.length) (hz : rd M (i : Int) = z.1) : (Zc8 M ds).set i z.2 = Zc8 M (z :: ds) := by
 apply ext_getElem
 unfold Zc8; simp
 intro j h1 h2
 have hj : j < M.length := by simpa [Zc8] using h2
 rw [getElem_set]
 have e1 : (Zc8 M ds)[j]'(by simpa [Zc8] using hj) = N5 ds M[j] := getElem_map ..
 have e2 : (Zc8 M (z :: ds))[j] = N5 (z :: ds) M[j] := getElem_map ..
 rw [e1, e2, Yo7]
 rw [Xi1 hi] at hz
 by_cases e : i = j
 subst e; rw [if_pos rfl, if_pos hz]
 rw [if_neg e, if_neg (fun h => e ((getElem_inj hM).1 (hz.trans h.symm)))]
def Xv1 (M : List A8) (s : MpT) : Bool := decide (M.Nodup ∧ M.length ≤ 1099511627776 ∧ ∀ z, z ∈ s → z.1 ∈ M)
def F3 (K : Nat) (M : List A8) (s : MpT) : Option (List Int) := if Xv1 M s = true then some (Zc8 M s) else none
theorem Xy1 {K : Nat} {M : List A8} {a1 : MpT} {r : List Int} (q0 : F3 K M a1 = some r) {H : FH} {w : World} {L : OL} {bl : Nat} {cs : Array Value} {v0 v1 s1 : Value} (hb : (bl, Obj.cells cs 102) ∈ L) (h0 : cs[0]? = some v0) (h1 : cs[1]? = some v1)
 (hv0 : Y3 (Q5 .i64) H v0 M) (hv1 : N0 .i64 H v1 (Yb7 M M.length)) (hs1 : N0 .i64 H s1 a1) (hS : St H w L) :
 Calls prog 191 #[vP bl, s1] w (Ye1 (Y4 .i64) 2 r H L) := by
 unfold F3 at q0
 by_cases hok : Xv1 M a1 = true
 case neg => rw [if_neg hok] at q0; cases q0
 rw [if_pos hok] at q0
 cases q0
 obtain ⟨ok1, ok2, ok3⟩ := of_decide_eq_true hok
 have hsrt := hs1.srt
 refine X0 func191 U ntmps191 U ?_
 repeat refine Z1 ?_
 refine Z0 (Z5 vN U U (Z2 ?_))
 repeat refine Z1 ?_
 refine Z0 (Z3 (vP bl) U U (V0 U U (Y2 Zs2 U U (Y1 v0 Yh6 U (hS.own _ hb) h0 U (X9 Zv1 U hv0 U (Zz4 (τ := Y4 .i64) (0 : Int) Zx1 U U U (fun _ => rfl) (by omega) (by omega) hS U (fun vr w2 C2 ho hS => Z5 vr U U (Z2 ?_))))))))
 rw [Int.toNat_natCast, show replicate M.length (0 : Int) = Zc8 M [] from by unfold Zc8; rw [show (fun p => N5 ([] : MpT) p) = fun _ => 0 from U, map_const']] at ho
 repeat refine Z1 ?_
 refine Z0 (Z3 s1 U U (Yk3 Zs5 U hs1 hS U (fun it w3 Ci hit hS => Z2 (Y8 ?_))))
 refine W3 (id := 0) (fun k f w => ∃ (zs ds : MpT) (H1 : FH) (Ci Cr : OL), (zs ++ ds).Perm a1 ∧ zs.length < k ∧ Sub H H1 ∧ St H1 w (Ci ++ (Cr ++ L)) ∧ Zi2 .i64 H1 it zs none Ci ∧ W0 (Y4 .i64) 2 H1 vr (Zc8 M ds) Cr ∧ tv f 0 = vP bl ∧ tv f 5 = vr ∧ tv f 15 = it)
  (fun f w => ∃ H1 Cr, Sub H H1 ∧ St H1 w (Cr ++ L) ∧ W0 (Y4 .i64) 2 H1 vr (Zc8 M a1) Cr ∧ tv f 5 = vr) U ?_ ?_ (a1.length + 1) ?_ ?_
 rintro f w ⟨zs, ds, H1, Ci, Cr, _, h2, _⟩; omega
 rintro k f w ih hx ⟨zs, ds, H1, Ci, Cr, hp, hk, Z4, hS, hit, ho, t0, t5, t15⟩
 repeat refine Z1 ?_
 refine Z0 (Ys4 (by exact t15) hit hS U ?_ ?_)
 intro hz; subst hz
 refine V1 (vB false) U U U (Z2 ?_)
 repeat refine Z1 ?_
 refine Z6 U (W2 U ?_)
 have e : Zc8 M ds = Zc8 M a1 := by
  unfold Zc8
  refine map_congr_left fun p _ => (Yx6 hp ((hp.map Prod.fst).nodup_iff.2 (Zu6 hsrt)) p)
 rw [e] at ho
 exact hx _ _ ⟨H1, Cr, Z4, hS.dA, ho, t5⟩
 intro z zs' w4 Ci' hzp hit hS
 refine V1 (vB true) U U U (Z2 ?_)
 repeat refine Z1 ?_
 refine Z8 U (Y6 ?_)
 repeat refine Z1 ?_
 refine Y8 ?_
 repeat refine Z1 ?_
 refine Z0 ?_
 have hzM : z.1 ∈ M := ok3 z (hp.mem_iff.1 (mem_append_left _ (hzp.mem_iff.2 (mem_cons_self ..))))
 obtain ⟨i, hi, hMi⟩ := getElem_of_mem hzM
 have hrd : rd M (i : Int) = z.1 := by rw [Xi1 hi]; exact hMi
 refine Yk7 (by exact t15) hit hS U (V1 (vA (Z7 .i64 z.1)) U U U (V1 (vI z.2) U U U (U5 (z := vA (Z7 .i64 (fun _ => 0))) (Z7 .i64 (fun _ => 0)).toArray Zm8.zero U hS U (fun bq w5 hS => W1 (v := vA (Z7 .i64 z.1)) (vs := (Z7 .i64 z.1).toArray) (cs := (Z7 .i64 (fun _ => 0)).toArray) P3 U U U hS U (R7 .i64 z.1) U (fun w6 hS => Z5 (vI z.2) U U (Z2 ?_))))))
 repeat refine Z1 ?_
 refine Zc7 fun f2 hf2 => ?_
 have t0 : tv f2 0 = vP bl := by rw [hf2]; exact t0
 have t5 : tv f2 5 = vr := by rw [hf2]; exact t5
 have t6 : tv f2 6 = vP bq := by rw [hf2]; rfl
 have t7 : tv f2 7 = vI z.2 := by rw [hf2]; rfl
 have t15 : tv f2 15 = it := by rw [hf2]; exact t15
 clear hf2
 have hv0 := hv0.mono Z4
 have hv1 := hv1.mono Z4
 refine W6 8 (S8 [mE 21 vr, mE 22 (vP bl), mE 23 (vP bl), mE 24 (vQ bl 1), mE 25 v1, mE 26 (vA (Z7 .i64 z.1)), mE 27 (vI (N5 (Yb7 M M.length) z.1)), mE 28 (vI z.2)]) [] mixed U U U hS (U1 (X4 fun S B => Z3 _ (evT (B 5 U) t5) U (qz S)) (X4 fun S B => Z3 _ (evT (B 0 U) t0) U (qz S)) (Y7 fun S V => V0 (eM (V 1 22 U U)) U (qz S)) (Y7 fun S V => Y2 Xx9 (eM (V 2 23 U U)) U (qz S)) (Y7 fun S V => Y1 v1 Va2 (eM (V 3 24 U U)) (S.own _ (mR (mR (mR (mR hb))))) h1 U (qz S)) (X4 fun S B => X5 P3 (evT (B 6 U) t6) (S.get (mR mL)) U U (qz S)) (P0 fun s S V => Xq3 (a := z.1) Wz9 (eM (V 4 25 U U)) (eM (V 5 26 U U)) (hv1.mono s) S U (qz S)) (X4 fun S B => Z3 _ (evT (B 7 U) t7) U (qz S)) W9) ?_
 intro f3 w7 H5 s5 hS hB hV hcq
 have t21 : f3 21 = vr := eM (hV 0 21 (by decide) U)
 have t27 : f3 27 = vI (i : Int) := (eM (hV 6 27 (by decide) U)).trans (by rw [← hrd, Wr7 ok1 hi])
 have t28 : f3 28 = vI z.2 := eM (hV 7 28 (by decide) U)
 have hS : St H5 w7 (Cr ++ (Ci' ++ L)) := hS.dA.dA.swap
 have ho := ho.mono s5
 have hlen : (Zc8 M ds).length = M.length := by unfold Zc8; simp
 have hil : (i : Int) < ((Zc8 M ds).length : Int) := by rw [hlen]; omega
 obtain ⟨rb, rc, hvr⟩ := ho.some (i := (i : Int)) (by omega) hil
 refine Q3 T1 (Eq.trans (by exact t21) hvr) (by exact t27) (by omega) hil U (Za9 (τ := Y4 .i64) (v := vr) (u := vI z.2) z.2 (i := (i : Int)) U ty2 hvr ho hS U (by exact t28) (by omega) hil U ?_)
 intro w8 C8 ho hS
 rw [Int.toNat_natCast, Wv5 ok1 ds z hi hrd] at ho
 refine Z2 (X1 (ih _ _ ⟨zs', z :: ds, H5, Ci', C8, ?_, ?_, Z4.trans s5, hS.swap, (hit.mono s5).drop, ho, (evT (hB 0 U) t0), (evT (hB 5 U) t5), (evT (hB 15 U) t15)⟩))
 refine List.Perm.trans ?_ hp
 exact perm_middle.trans (List.Perm.append_right ds hzp.symm)
 have := hzp.length_eq; simp at this; omega
 exact ⟨a1, [], H, Ci, C2, by simp, by omega, .refl _, hS, hit, ho, U, U, U⟩
 rintro f w ⟨H1, Cr, Z4, hS, ho, t5⟩
 repeat refine Z1 ?_
 refine Z0 (Z3 vr (by exact t5) U (Z5 vr U U (Z2 (Y9 (vs := [vr]) func191 Ut ⟨_, _, _, U, Z4, hS, ho⟩))))
def Zk6 (K : Nat) (a0 : ((List Int) × (List MpT))) (a1 : MpT) : Option (MpT × Int) := ((Zg1 K (a0.1, a0.2) a1 false).bind fun a3 => (if a3.2 = 0 then (if a3.1 < 0 then some (([] : List (A8 × Int)), 0) else (if a3.1 = 0 then some (([] : List (A8 × Int)), 4) else ((Zi7 K (a0.1, a0.2) a3.1 a1).bind fun a6 => (if a6.2 = true then some (a6.1, 0) else some (([] : List (A8 × Int)), 4))))) else some (([] : List (A8 × Int)), a3.2)))
theorem Yr8 {a0 : ((List Int) × (List MpT))} {a1 : MpT} {r : (MpT × Int)} (q0 : Zk6 K a0 a1 = some r) (b2 : Y3 (Y4 .i64) H s0 a0.1) (b3 : Y3 (X3 yT) H s1 a0.2) (b4 : Y3 yT H s2 a1) (hS : St H w L) :
 Calls prog 42 #[vA ([s0] ++ [s1]), vA [s2]] w (T4 (fun v G => (R.t2 (R.agg (X3 yT)) (R.int .i64)).p G v r) H L) := by
 have Z4 := Sub.refl H
 refine X0 func42 U ntmps42 U ?_
 unfold Zk6 at q0
 refine Z1 (Z0 (T8 (v := vA ([s0] ++ [s1])) ([s0] ++ [s1]).toArray U U hS U (fun _ _ hS => T8 (v := vA [s2]) [s2].toArray U U hS U (fun _ _ hS => U5 (z := vA [vN]) [vN].toArray Zj8.zero U hS U (fun _ _ hS => Z5 (vI 0) U U (Z2 (Z1 (Z0 (X5 Zx2 U (hS.get (mR (mR mL))) U U (X5 U7 U (hS.get (mR mL)) U U ?_))))))))))
 obtain ⟨a3, b5, q0⟩ := bSm q0
 refine X2 call106 (I3 U U U) U (Yl2 b5 b2 b3 b4 hS) ?_
 rintro _ _ _ a7 hS ⟨_, _, rfl, rfl, rfl⟩
 have Z4 := Z4.trans a7
 have b2 := b2.mono a7
 have b3 := b3.mono a7
 have b4 := b4.mono a7
 refine Z3 (Value.tuple #[vI a3.1, vI a3.2]) U U (V1 (vI a3.1) U U U (V1 (vI a3.2) U U U (Z5 (vI a3.1) U U (Z5 (vI a3.2) U U (Z2 (Z1 (Z1 (Z0 (Z3 (vI a3.2) U U (L1 (k := .i64) (a := a3.2) (b := 0) U U U (Z2 ?_)))))))))))
 obtain ⟨a8, q0⟩ | ⟨a8, q0⟩ := ic q0
 refine Z6 (bN a8 U) (Y6 (Z1 (Y8 (Z1 (Z0 (Z3 (vI a3.1) U U (V4 (k := .i64) (a := a3.1) (b := 0) U U U (Z5 (vB (decide (a3.1 < 0))) U U (Z2 ?_)))))))))
 obtain ⟨a9, q0⟩ | ⟨a9, q0⟩ := ic q0
 refine Z8 (bT a9 U) (Z1 (Z0 (M4 (vA [vN]) Zz0 U (W1 (v := vA [vN]) (vs := ([vN]).toArray) (cs := ([vN]).toArray) U7 U U U hS U (K9 U) U (fun _ hS => Z5 (vI 0) U U (Z2 (Y9 (vs := [vA [vN], vI 0]) func42 ⟨⟨_, U, T9 U7 (hS.get mL) U⟩, U, trivial⟩ ?_)))))))
 cases q0
 exact ⟨_, _, U, Z4, (St.dA (St.dA (St.dA hS))), ⟨_, _, U, ⟨_, U, ⟨_, U, Y3.nil⟩⟩, U⟩⟩
 refine Z6 (bF a9 U) (Z1 (Z0 (Z3 (vI a3.1) U U (Zb2 (k := .i64) (a := a3.1) (b := 0) U U U (Z5 (vB (decide (a3.1 = 0))) U U (Z2 ?_))))))
 obtain ⟨b0, q0⟩ | ⟨b0, q0⟩ := ic q0
 refine Z8 (bT b0 U) (Z1 (Z0 (M4 (vA [vN]) Zz0 U (W1 (v := vA [vN]) (vs := ([vN]).toArray) (cs := ([vN]).toArray) U7 U U U hS U (K9 U) U (fun _ hS => Z5 (vI 4) U U (Z2 (Y9 (vs := [vA [vN], vI 4]) func42 ⟨⟨_, U, T9 U7 (hS.get mL) U⟩, U, trivial⟩ ?_)))))))
 cases q0
 exact ⟨_, _, U, Z4, (St.dA (St.dA (St.dA hS))), ⟨_, _, U, ⟨_, U, ⟨_, U, Y3.nil⟩⟩, U⟩⟩
 refine Z6 (bF b0 U) (Y6 (X1 (Z1 (Z0 (X5 Zx2 U (hS.get (mR (mR mL))) U U (Z3 (vI a3.1) U U (X5 U7 U (hS.get (mR mL)) U U ?_)))))))
 obtain ⟨a6, b6, q0⟩ := bSm q0
 refine X2 call107 (I3 U U U) U (Yq4 b6 b2 b3 b4 hS) ?_
 rintro _ _ _ b7 hS ⟨_, _, rfl, ⟨_, rfl, ⟨a4, rfl, a5⟩⟩, rfl⟩
 have Z4 := Z4.trans b7
 refine Z3 (Value.tuple #[vA [a4], vB a6.2]) U U (V1 (vA [a4]) U U U (V1 (vB a6.2) U U U (U5 (z := vA [vN]) [vN].toArray Zj8.zero U hS U (fun _ _ hS => W1 (v := vA [a4]) (vs := ([a4]).toArray) (cs := ([vN]).toArray) U7 U U U hS U (K9 a5.isOne) U (fun _ hS => Z5 (vB a6.2) U U (Z2 (Z1 (Z1 (Z0 (Z3 (vB a6.2) U U (P5 (b := a6.2) U U (Z2 ?_))))))))))))
 obtain ⟨b1, q0⟩ | ⟨b1, q0⟩ := ic q0
 refine Z6 (nT b1) (Y6 (Z1 (Z0 (X5 U7 U (hS.get mL) U U ?_))))
 have hS := hS.perm R5
 refine W1 (v := vA [a4]) (vs := ([a4]).toArray) (cs := ([vN]).toArray) U7 U U U hS U (K9 a5.isOne) U ?_
 intro _ hS
 have hS := hS.perm R5.symm
 refine Z5 (vI 0) U U (Z2 (Y9 (vs := [vA [a4], vI 0]) func42 ⟨⟨_, U, T9 U7 (hS.get (mR mL)) U⟩, U, trivial⟩ ?_))
 cases q0
 exact ⟨_, _, U, Z4, (St.dA (St.dA (St.dA (St.dA hS)))), ⟨_, _, U, ⟨_, U, ⟨_, U, a5⟩⟩, U⟩⟩
 refine Z8 (nT (X8 b1)) (Z1 (Z0 (M4 (vA [vN]) Zz0 U ?_)))
 have hS := hS.perm R5
 refine W1 (v := vA [vN]) (vs := ([vN]).toArray) (cs := ([vN]).toArray) U7 U U U hS U (K9 U) U ?_
 intro _ hS
 have hS := hS.perm R5.symm
 refine Z5 (vI 4) U U (Z2 (Y9 (vs := [vA [vN], vI 4]) func42 ⟨⟨_, U, T9 U7 (hS.get (mR mL)) U⟩, U, trivial⟩ ?_))
 cases q0
 exact ⟨_, _, U, Z4, (St.dA (St.dA (St.dA (St.dA hS)))), ⟨_, _, U, ⟨_, U, ⟨_, U, Y3.nil⟩⟩, U⟩⟩
 refine Z8 (bO a8 U) (Z1 (Z0 (M4 (vA [vN]) Zz0 U (Z3 (vI a3.2) U U (W1 (v := vA [vN]) (vs := ([vN]).toArray) (cs := ([vN]).toArray) U7 U U U hS U (K9 U) U (fun _ hS => Z5 (vI a3.2) U U (Z2 (Y9 (vs := [vA [vN], vI a3.2]) func42 ⟨⟨_, U, T9 U7 (hS.get mL) U⟩, U, trivial⟩ ?_))))))))
 cases q0
 exact ⟨_, _, U, Z4, (St.dA (St.dA (St.dA hS))), ⟨_, _, U, ⟨_, U, ⟨_, U, Y3.nil⟩⟩, U⟩⟩
theorem Wg3 {α : Type} : ∀ {S : List α} {i : Nat} {s : α}, S[i]? = some s → S.Perm (s :: S.eraseIdx i)
 | [], i, s, h => by simp at h
 | a :: S, 0, s, h => by simp at h; subst h; exact .refl _
 | a :: S, i + 1, s, h => (List.Perm.cons a (Wg3 (S := S) (i := i) (by simpa using h))).trans (List.Perm.swap ..)
theorem Xw8 {α : Type} : ∀ {S : List α} {i : Nat} (s : α), i < S.length → (S.set i s).Perm (s :: S.eraseIdx i)
 | [], i, s, h => by simp at h
 | a :: S, 0, s, h => .refl _
 | a :: S, i + 1, s, h => (List.Perm.cons a (Xw8 (S := S) (i := i) s (by simpa using h))).trans (List.Perm.swap ..)
theorem Yy0 {H : FH} {w : World} {m : Nat × Obj} {S : List Lvl} {L : OL} {i : Nat} {s : Lvl} (hS : St H w ((m :: S.map Lvl.chunk) ++ L)) (h : S[i]? = some s) : St H w ([s.chunk] ++ (m :: ((S.eraseIdx i).map Lvl.chunk ++ L))) := by
 refine hS.perm ?_
 have := (((Wg3 h).map Lvl.chunk).append_right L).cons m
 exact (List.Perm.trans (List.Perm.swap ..) this.symm)
theorem Xl4 {H : FH} {w : World} {m : Nat × Obj} {S : List Lvl} {L : OL} {i : Nat} {s : Lvl} (hi : i < S.length) (hS : St H w ([s.chunk] ++ (m :: ((S.eraseIdx i).map Lvl.chunk ++ L)))) : St H w ((m :: (S.set i s).map Lvl.chunk) ++ L) := by
 refine hS.perm ?_
 have := (((Xw8 s hi).map Lvl.chunk).append_right L).cons m
 exact this.trans (List.Perm.swap ..)
theorem Yx9 {S : List Lvl} {i : Nat} {s s' : Lvl} (h : S[i]? = some s) (hn : s'.n = s.n) (hb : s'.b = s.b) : (S.set i s').map (fun (s : Lvl) => (vI s.n, vP s.b)) = S.map (fun (s : Lvl) => (vI s.n, vP s.b)) := by
 apply ext_getElem?
 intro k
 rw [getElem?_map, getElem?_map, getElem?_set]
 by_cases e : i = k
 subst e
 have hi := (List.getElem?_eq_some_iff.1 h).1
 rw [if_pos U, if_pos hi, h]; simp [hn, hb]
 rw [if_neg e]
def Yo9 (K : Nat) (x : AlX) (M' : List A8) : List A8 → Option (List (List Int))
 | [] => some []
 | p :: ps => (Zb7 K x (Zc9 ([] : MpT) p 1)).bind fun s => (F3 K M' s).bind fun r => (Yo9 K x M' ps).bind fun rs => some (r :: rs)
def Ye5 (K : Nat) (x : AlX) (n : Int) : Option (List (List Int)) :=
 (lv0 K x n).bind fun M => (lv0 K x (n + 1)).bind fun M' => if M.length ≤ 1099511627776 ∧ -1099511627776 ≤ n ∧ n ≤ 1099511627776 then Yo9 K x M' M else none
def Zy6 (H : FH) (v : Value) (m : List (List Int)) : Prop := (∃ b o l c, v = .slice (some ⟨b, o, none⟩) l c) ∧ Y3 (X3 (Y4 .i64)) H v m
theorem Zy6.mono {H H' : FH} {v : Value} {m : List (List Int)} (h : Zy6 H v m) (hs : Sub H H') : Zy6 H' v m := ⟨h.1, h.2.mono hs⟩
def Zg5 (S S' : List Lvl) : Prop := (∀ (k : Nat) (s : Lvl), S[k]? = some s → ∃ c2, S'[k]? = some { s with c2 := c2 }) ∧ ∀ (k : Nat) (s : Lvl), S.length ≤ k → S'[k]? = some s → s.c3 = vN ∧ s.c4 = vN ∧ s.c5 = vN
theorem Zg5.refl (S : List Lvl) : Zg5 S S := ⟨fun k s h => ⟨s.c2, h⟩, fun k s hk h => by rw [getElem?_eq_none hk] at h; cases h⟩
theorem Zg5.len {S S' : List Lvl} (h : Zg5 S S') : S.length ≤ S'.length := by
 rcases Nat.lt_or_ge S'.length S.length with hl | hl
 obtain ⟨c2, h1⟩ := h.1 S'.length S[S'.length] (getElem?_eq_getElem hl)
 rw [getElem?_eq_none (Nat.le_refl _)] at h1; cases h1
 exact hl
theorem Zg5.trans {S S' S'' : List Lvl} (h : Zg5 S S') (h' : Zg5 S' S'') : Zg5 S S'' := by
 refine ⟨fun k s hk => ?_, fun k s hk hs => ?_⟩
 obtain ⟨c2, h1⟩ := h.1 k s hk
 obtain ⟨c3, h2⟩ := h'.1 k _ h1
 exact ⟨c3, h2⟩
 rcases Nat.lt_or_ge k S'.length with hl | hl
 obtain ⟨c2, h1⟩ := h'.1 k _ (getElem?_eq_getElem hl)
 rw [hs] at h1
 have e := Option.some.inj h1
 have := h.2 k _ hk (getElem?_eq_getElem hl)
 rw [e]; exact this
 exact h'.2 k s hl hs
theorem Zg5.app {S : List Lvl} {t : Lvl} (h3 : t.c3 = vN) (h4 : t.c4 = vN) (h5 : t.c5 = vN) : Zg5 S (S ++ [t]) := by
 refine ⟨fun k s hk => ⟨s.c2, ?_⟩, fun k s hk hs => ?_⟩
 rw [getElem?_append_left (List.getElem?_eq_some_iff.1 hk).1]; exact hk
 rw [getElem?_append_right hk] at hs
 have : k - S.length = 0 := by
  have := (List.getElem?_eq_some_iff.1 hs).1
  simp at this; omega
 rw [this] at hs
 cases hs; exact ⟨h3, h4, h5⟩
theorem Zg5.set {S : List Lvl} {i : Nat} {s : Lvl} {c2 : Value} (h : S[i]? = some s) : Zg5 S (S.set i { s with c2 := c2 }) := by
 refine ⟨fun k t hk => ?_, fun k t hk ht => ?_⟩
 rw [getElem?_set]
 by_cases e : i = k
 subst e; rw [h] at hk; cases hk
 rw [if_pos U, if_pos (List.getElem?_eq_some_iff.1 h).1]; exact ⟨_, U⟩
 rw [if_neg e]; exact ⟨t.c2, hk⟩
 rw [getElem?_eq_none (by simpa using hk)] at ht; cases ht
def Yl9 (S : List Lvl) (m : Int) : Prop := ∃ (k : Nat) (t : Lvl), S[k]? = some t ∧ t.n = m
theorem Yl9.ext {S S' : List Lvl} {m : Int} (h : Yl9 S m) (h' : Zg5 S S') : Yl9 S' m := by
 obtain ⟨k, t, h1, h2⟩ := h
 obtain ⟨c2, h3⟩ := h'.1 k t h1
 exact ⟨k, _, h3, h2⟩
def Lv2 (K : Nat) (x : AlX) (H : FH) (S : List Lvl) (s : Lvl) : Prop := s.c2 = vN ∨ (∃ m, Ye5 K x s.n = some m ∧ Zy6 H s.c2 m) ∧ Yl9 S (s.n + 1)
theorem Lv2.mono {K : Nat} {x : AlX} {H H' : FH} {S : List Lvl} {s : Lvl} (h : Lv2 K x H S s) (hs : Sub H H') : Lv2 K x H' S s := h.imp id fun ⟨⟨m, h1, h2⟩, h3⟩ => ⟨⟨m, h1, h2.mono hs⟩, h3⟩
theorem Lv2.ext {K : Nat} {x : AlX} {H : FH} {S S' : List Lvl} {s : Lvl} (h : Lv2 K x H S s) (h' : Zg5 S S') : Lv2 K x H S' s := h.imp id fun ⟨h1, h3⟩ => ⟨h1, h3.ext h'⟩
def Zt0 (K : Nat) (x : AlX) (H : FH) (S : List Lvl) : Prop := ∀ (k : Nat) (s : Lvl), S[k]? = some s → LvB K x H s ∧ Lv2 K x H S s
theorem Zt0.mono {K : Nat} {x : AlX} {H H' : FH} {S : List Lvl} (h : Zt0 K x H S) (hs : Sub H H') : Zt0 K x H' S := fun k s e => ⟨(h k s e).1.mono hs, (h k s e).2.mono hs⟩
def KpS (S S' : List Lvl) : Prop := ∀ (k : Nat) (s : Lvl), S[k]? = some s → s.c2 ≠ vN → ∃ s', S'[k]? = some s' ∧ s'.c2 = s.c2
theorem KpS.refl (S : List Lvl) : KpS S S := fun k s h _ => ⟨s, h, U⟩
theorem KpS.trans {S S' S'' : List Lvl} (h : KpS S S') (h' : KpS S' S'') : KpS S S'' := fun k s hk hn => by
 obtain ⟨s1, h1, e1⟩ := h k s hk hn
 obtain ⟨s2, h2, e2⟩ := h' k s1 h1 (by rw [e1]; exact hn)
 exact ⟨s2, h2, e2.trans e1⟩
theorem KpS.app (S : List Lvl) (t : Lvl) : KpS S (S ++ [t]) := fun k s hk _ => ⟨s, by rw [getElem?_append_left (List.getElem?_eq_some_iff.1 hk).1]; exact hk, U⟩
theorem KpS.set {S : List Lvl} {i : Nat} {s s' : Lvl} (h : S[i]? = some s) (hc : s.c2 = vN ∨ s'.c2 = s.c2) : KpS S (S.set i s') := fun k t hk hn => by
 rw [getElem?_set]
 by_cases e : i = k
 subst e; rw [h] at hk; cases hk
 rw [if_pos U, if_pos (List.getElem?_eq_some_iff.1 h).1]
 rcases hc with hc | hc
 exact absurd hc hn
 exact ⟨s', U, hc⟩
 rw [if_neg e]; exact ⟨t, hk, U⟩
theorem KpS.but {S S3 : List Lvl} {i : Nat} {s s' : Lvl} (hi : S[i]? = some s) (hc : s.c2 = vN) (h : KpS S S3) : KpS S (S3.set i s') := fun k t hk hn => by
 by_cases e : i = k
 subst e; rw [hi] at hk; cases hk; exact absurd hc hn
 rw [getElem?_set, if_neg e]; exact h k t hk hn
def Vk9 (K : Nat) (x : AlX) (n : Int) (p : Value) (S : List Lvl) (mat : List (List Int)) (H : FH) (L : OL) : Ending → World → Prop := fun e w' => ∃ (i : Nat) (s : Lvl) (S' : List Lvl) (H' : FH) (C : OL), e = .returned (vP s.b) ∧ Sub H H' ∧ St H' w' (C ++ L) ∧ Cx H' p x S' C ∧ S'[i]? = some s ∧ s.n = n ∧
 Zy6 H' s.c2 mat ∧ Zt0 K x H' S' ∧ Zg5 S S' ∧ KpS S S'
theorem Zt0.bare {K : Nat} {x : AlX} {H H' : FH} {S S' : List Lvl} {s : Lvl} (h : Zt0 K x H S) (hs : Sub H H') (h' : S' = S ∨ (S' = S ++ [s] ∧ LvB K x H' s ∧ s.c2 = vN ∧ s.c3 = vN ∧ s.c4 = vN ∧ s.c5 = vN)) : Zt0 K x H' S' ∧ Zg5 S S' := by
 rcases h' with rfl | ⟨rfl, h1, h2, h3, h4, h5⟩
 exact ⟨h.mono hs, .refl _⟩
 have hX : Zg5 S (S ++ [s]) := .app h3 h4 h5
 refine ⟨fun k t hk => ?_, hX⟩
 rcases Nat.lt_or_ge k S.length with hl | hl
 rw [getElem?_append_left hl] at hk
 exact ⟨(h k t hk).1.mono hs, ((h k t hk).2.mono hs).ext hX⟩
 rw [getElem?_append_right hl] at hk
 have : k - S.length = 0 := by
  have := (List.getElem?_eq_some_iff.1 hk).1
  simp at this; omega
 rw [this] at hk; cases hk
 exact ⟨h1, .inl h2⟩
theorem KpS.bare {K : Nat} {x : AlX} {H' : FH} {S S' : List Lvl} {s : Lvl} (h' : S' = S ∨ (S' = S ++ [s] ∧ LvB K x H' s ∧ s.c2 = vN ∧ s.c3 = vN ∧ s.c4 = vN ∧ s.c5 = vN)) : KpS S S' := by
 rcases h' with rfl | ⟨rfl, _⟩
 exact .refl _
 exact .app _ _
theorem Yw3 {K : Nat} {x : AlX} {n : Int} {mat : List (List Int)} (q0 : Ye5 K x n = some mat) {H : FH} {w : World} {L C : OL} {p : Value} {S : List Lvl} (hC : Cx H p x S C) (hA : Zt0 K x H S) (hS : St H w (C ++ L)) :
 Calls prog 151 #[p, vI n] w (Vk9 K x n p S mat H L) := by
 have q1 := q0
 unfold Ye5 at q1
 obtain ⟨M, hM, q1⟩ := bSm q1
 obtain ⟨M', hM', q1⟩ := bSm q1
 by_cases hg : M.length ≤ 1099511627776 ∧ -1099511627776 ≤ n ∧ n ≤ 1099511627776
 case neg => rw [if_neg hg] at q1; cases q1
 rw [if_pos hg] at q1
 obtain ⟨g1, g2, g3⟩ := hg
 refine X0 func151 U ntmps151 U ?_
 repeat refine Z1 ?_
 refine Z0 (Z5 (.pointer none) U U (Z2 ?_))
 repeat refine Z1 ?_
 refine Z0 (Z3 p U U (Z3 (vI n) U U (U9 call153 (W8 U U) U (Wf0 hM hC hS) ?_)))
 rintro e1 w1 ⟨i, s, S1, H1, C1, rfl, s1, hS, hC, hi, hsn, hor⟩
 refine ⟨_, U, ?_⟩
 obtain ⟨hA1, hX1⟩ := hA.bare s1 hor
 have hP1 := KpS.bare hor
 clear hor hA
 refine Z5 (vP s.b) U U (Z2 ?_)
 repeat refine Z1 ?_
 have hbl : ∀ {L' : OL}, s.chunk ∈ S1.map Lvl.chunk ++ L' := mem_append_left _ (mem_map.2 ⟨s, mem_of_getElem? hi, U⟩)
 obtain ⟨bp, bm, ap, es, clk, rfl, hbox, hap, rfl, hes⟩ := hC
 refine Z0 (Z3 (vP s.b) U U (V0 U U (Y2 Yc9 U U (Y1 s.c2 Zp5 U (hS.own s.chunk (mem_cons_of_mem _ hbl)) U U ?_))))
 have hc2 : ∃ a l c, s.c2 = .slice a l c := by
  rcases (hA1 i s hi).2 with h | ⟨⟨m, _, ⟨b, o, l, c, h⟩, _⟩, _⟩
  exact ⟨none, 0, 0, h⟩
  exact ⟨_, l, c, h⟩
 obtain ⟨ca, cl, cc, hc2⟩ := hc2
 refine Xf2 T2 (a := ca) (l := cl) (c := cc) (show s.c2 = _ from hc2) U U (Z2 ?_)
 repeat refine Z1 ?_
 refine N1 (fun f w => ∃ (S' : List Lvl) (s' : Lvl) (H' : FH) (C' : OL), s'.b = s.b ∧ s'.n = n ∧ Sub H H' ∧ St H' w (C' ++ L) ∧ Cx H' (vP bp) x S' C' ∧ S'[i]? = some s' ∧ Zy6 H' s'.c2 mat ∧ Zt0 K x H' S' ∧ Zg5 S S' ∧ KpS S S' ∧ tv f 5 = vP s.b) ?_ ?_
 rintro f w ⟨S', s', H', C', hb, hn, Z4, hS, hC, hi, hc, hA, hX, hP, t5⟩
 repeat refine Z1 ?_
 refine Z0 (Z3 (vP s.b) (by exact t5) U (Z5 (vP s.b) U U (Z2 (Y9 (vs := [vP s.b]) func151 Ut ⟨i, s', S', H', C', by rw [hb]; rfl, Z4, hS, hC, hi, hn, hc, hA, hX, hP⟩))))
 intro hJ
 have hCx : Cx H1 (vP bp) x S1 ((bm, .map es clk) :: S1.map Lvl.chunk) := ⟨bp, bm, ap, es, clk, U, hbox, hap, U, hes⟩
 rcases (hA1 i s hi).2 with hnil | ⟨⟨m, hm, hnn⟩, hhas⟩
 case inr =>
  have hca : ca.isNone = false := by
   obtain ⟨⟨b, o, l, c, h⟩, _⟩ := hnn
   rw [hc2] at h; cases h; rfl
  refine Z6 (show _ = vB false from congrArg Value.bool hca) (Y6 ?_)
  rw [hsn, q0] at hm
  cases hm
  exact hJ _ _ ⟨S1, s, H1, _, U, hsn, s1, hS, hCx, hi, hnn, hA1, hX1, hP1, U⟩
 have hca : ca.isNone = true := by rw [hc2] at hnil; cases hnil; rfl
 refine Z8 (show _ = vB true from congrArg Value.bool hca) ?_
 clear hca hc2
 repeat refine Z1 ?_
 refine Zc7 fun f0 hf0 => ?_
 have t0 : tv f0 0 = vP bp := by rw [hf0]; rfl
 have t1 : tv f0 1 = vI n := by rw [hf0]; rfl
 have t5 : tv f0 5 = vP s.b := by rw [hf0]; rfl
 clear hf0
 refine Z0 (Z3 (vP s.b) (by exact t5) U (Yr4 (τ := X3 (Y4 .i64)) T2 Zj1 U hS U (fun bv w2 hov hS => V0 U U (Y2 Yc9 U U ?_))))
 have hS : St H1 w2 ([s.chunk] ++ ((bm, .map es clk) :: ((S1.eraseIdx i).map Lvl.chunk ++ ([(bv, .cells #[] 22)] ++ L)))) := Yy0 hS.swap hi
 refine J7 (v := .slice (some ⟨bv, 0, none⟩) 0 0) (cs := s.cs) (cs' := Lvl.cs { s with c2 := .slice (some ⟨bv, 0, none⟩) 0 0 }) Zp5 U U hS U (Zv6 U) (nl U) U ?_
 intro w3 hS
 have hil := (List.getElem?_eq_some_iff.1 hi).1
 have hS := Xl4 (s := { s with c2 := .slice (some ⟨bv, 0, none⟩) 0 0 }) hil hS
 refine Z2 ?_
 repeat refine Z1 ?_
 have hn1 : i64.wrap (n + 1) = n + 1 := i64_in _ (by omega)
 refine Z0 (Z3 (vP bp) (by exact t0) U (Z3 (vI n) (by exact t1) U (W4 (n + 1) U U hn1 U (U9 call153 (W8 U U) U (Wf0 hM' (S := S1.set i { s with c2 := .slice (some ⟨bv, 0, none⟩) 0 0 }) ⟨bp, bm, ap, es, clk, U, hbox, hap, U, hes.trans (Yx9 (s' := { s with c2 := .slice (some ⟨bv, 0, none⟩) 0 0 }) hi U U).symm⟩ hS) ?_))))
 rintro e4 w4 ⟨j, t, S3, H4, C4, rfl, s4, hS, hC4, hj, htn, hor4⟩
 refine ⟨_, U, ?_⟩
 refine Z5 (vP t.b) U U (Z2 ?_)
 have hi2 : (S1.set i { s with c2 := .slice (some ⟨bv, 0, none⟩) 0 0 })[i]? = some { s with c2 := .slice (some ⟨bv, 0, none⟩) 0 0 } := by
  rw [getElem?_set, if_pos U, if_pos hil]
 have hi3 : S3[i]? = some { s with c2 := .slice (some ⟨bv, 0, none⟩) 0 0 } := by
  rcases hor4 with h | ⟨h, _⟩
  rw [h]; exact hi2
  rw [h, getElem?_append_left (List.getElem?_eq_some_iff.1 hi2).1]; exact hi2
 have hX13 : Zg5 S1 S3 := by
  refine (Zg5.set (c2 := .slice (some ⟨bv, 0, none⟩) 0 0) hi).trans ?_
  rcases hor4 with h | ⟨h, _, _, h3, h4, h5⟩
  rw [h]; exact .refl _
  rw [h]; exact .app h3 h4 h5
 have hX3 : Zg5 S S3 := hX1.trans hX13
 have hP3 : KpS S1 S3 := (KpS.set hi (.inl hnil)).trans (KpS.bare hor4)
 have hA3 : ∀ (k : Nat) (u : Lvl), k ≠ i → S3[k]? = some u → LvB K x H4 u ∧ Lv2 K x H4 S3 u := by
  intro k u hk hu
  have old : ∀ u, (S1.set i { s with c2 := .slice (some ⟨bv, 0, none⟩) 0 0 })[k]? = some u → LvB K x H4 u ∧ Lv2 K x H4 S3 u := fun u hu => by
   rw [getElem?_set, if_neg (fun e => hk e.symm)] at hu
   exact ⟨(hA1 k u hu).1.mono s4, ((hA1 k u hu).2.mono s4).ext hX13⟩
  rcases hor4 with h | ⟨h, h1, h2, _⟩
  rw [h] at hu; exact old u hu
  rw [h] at hu
  rcases Nat.lt_or_ge k (S1.set i { s with c2 := .slice (some ⟨bv, 0, none⟩) 0 0 }).length with hl | hl
  rw [getElem?_append_left hl] at hu; exact old u hu
  rw [getElem?_append_right hl] at hu
  have := (List.getElem?_eq_some_iff.1 hu).1
  have e : k - (S1.set i { s with c2 := .slice (some ⟨bv, 0, none⟩) 0 0 }).length = 0 := by simp only [length_singleton] at this; omega
  rw [e] at hu; cases hu
  exact ⟨h1, .inl h2⟩
 have hji : j ≠ i := by
  rintro rfl
  rw [hi3] at hj; cases hj
  rw [hsn] at htn
  omega
 obtain ⟨Mt, hMt, htv0, htv1⟩ := (hA3 j t hji hj).1
 rw [htn, hM'] at hMt
 obtain rfl := oi hMt
 obtain ⟨Ms, hMs, hsv0, hsv1⟩ := (hA1 i s hi).1
 rw [hsn, hM] at hMs
 obtain rfl := oi hMs
 have hsv0 := hsv0.mono s4
 have hsv1 := hsv1.mono s4
 clear hor4 hA1 hX1 hMt hMs
 obtain ⟨bp', bm', ap', es', clk', he1, hbox', hap', rfl, hes'⟩ := hC4
 cases he1
 have hov := hov.mono s4
 refine Zc7 fun f1 hf1 => ?_
 have t0 : tv f1 0 = vP bp := by rw [hf1]; exact t0
 have t5 : tv f1 5 = vP s.b := by rw [hf1]; exact t5
 have t6 : tv f1 6 = vP t.b := by rw [hf1]; rfl
 clear hf1 t1
 repeat refine Z1 ?_
 have hS : St H4 w4 ([(s.b, .cells #[s.v0, s.v1, .slice (some ⟨bv, 0, none⟩) 0 0, s.c3, s.c4, s.c5] 102)] ++ ((bm', .map es' clk') :: ((S3.eraseIdx i).map Lvl.chunk ++ ([(bv, .cells #[] 22)] ++ L)))) := Yy0 hS hi3
 refine Z0 (Z3 (vP s.b) (by exact t5) U (V0 U U (Y2 Zs2 U U (Y1 s.v0 Yh6 U (hS.get mL) U U (X9 Zv1 U hsv0 U (Z3 (vI 0) U U (Z2 (Y8 ?_))))))))
 have htR : (t.b, Obj.cells t.cs 102) ∈ (bm', Obj.map es' clk') :: (S3.eraseIdx i).map Lvl.chunk := mem_cons_of_mem _ (mem_map.2 ⟨t, mem_eraseIdx_iff_getElem?.2 ⟨j, hji, hj⟩, U⟩)
 generalize hR : (bm', Obj.map es' clk') :: (S3.eraseIdx i).map Lvl.chunk = R at htR
 have hS : St H4 w4 ([(s.b, .cells #[s.v0, s.v1, .slice (some ⟨bv, 0, none⟩) 0 0, s.c3, s.c4, s.c5] 102)] ++ (R ++ ([(bv, .cells #[] 22)] ++ L))) := by rw [← hR]; exact hS
 refine W3 (id := 0) (fun k f w => ∃ (m : Nat) (acc tl : List (List Int)) (H5 : FH) (v : Value) (Cm : OL), m ≤ M.length ∧ M.length < m + k ∧ acc.length = m ∧ Yo9 K x M' (M.drop m) = some tl ∧ acc ++ tl = mat ∧ Sub H4 H5 ∧ St H5 w ([(s.b, .cells #[s.v0, s.v1, v, s.c3, s.c4, s.c5] 102)] ++ (R ++ (Cm ++ L))) ∧ W0 (X3 (Y4 .i64)) 22 H5 v acc Cm ∧ (∃ b l c, v = .slice (some ⟨b, 0, none⟩) l c) ∧ tv f 0 = vP bp ∧ tv f 5 = vP s.b ∧ tv f 6 = vP t.b ∧ tv f 28 = s.v0 ∧ tv f 29 = vI (M.length : Int) ∧ tv f 30 = vI (m : Int))
  (fun f w => ∃ H5 v Cm, Sub H4 H5 ∧ St H5 w ([(s.b, .cells #[s.v0, s.v1, v, s.c3, s.c4, s.c5] 102)] ++ (R ++ (Cm ++ L))) ∧ W0 (X3 (Y4 .i64)) 22 H5 v mat Cm ∧ (∃ b l c, v = .slice (some ⟨b, 0, none⟩) l c) ∧ tv f 5 = vP s.b) U ?_ ?_ (M.length + 1) ?_ ?_
 rintro f w ⟨m, acc, tl, H5, v, Cm, h1, h2, _⟩; omega
 rintro k f w ih hx ⟨m, acc, tl, H5, v, Cm, h1, h2, hal, htl, hmat, s5, hS, ho, hnn, t0, t5, t6, t28, t29, t30⟩
 repeat refine Z1 ?_
 refine Z0 (V4 (k := .i64) (a := m) (b := M.length) (by exact t30) (by exact t29) U (Z2 ?_))
 repeat refine Z1 ?_
 by_cases hm : (m : Int) < (M.length : Int)
 have hm' : m < M.length := by omega
 refine Z8 (bT hm U) (Y6 ?_)
 repeat refine Z1 ?_
 refine Y8 ?_
 repeat refine Z1 ?_
 have hsv0 := hsv0.mono s5
 have htv0 := htv0.mono s5
 have htv1 := htv1.mono s5
 have hap' := hap'.mono s5
 have hbox' := s5.1 _ _ hbox'
 obtain ⟨ab, ao, rfl⟩ := hap'.val
 refine Z0 ?_
 obtain ⟨_, _, _, _, _, hp1, hp2, rfl, hp3⟩ := hsv0.elem (i := (m : Int)) (by omega) hm
 refine X6 Zv1 U (by exact t28) hp1 (by exact t30) (by omega) hm U (U0 (Z7 .i64 (rd M (m : Int))) P3 U (hS.froz _ _ hp2) U hp3 U (U5 (z := vA (Z7 .i64 (fun _ => 0))) (Z7 .i64 (fun _ => 0)).toArray Zm8.zero U hS U (fun bq w5 hS => W1 (v := vA (Z7 .i64 (rd M (m : Int)))) (vs := (Z7 .i64 (rd M (m : Int))).toArray) (cs := (Z7 .i64 (fun _ => 0)).toArray) P3 U U U hS U (R7 .i64 (rd M (m : Int))) U (fun w6 hS => Z2 ?_))))
 repeat refine Z1 ?_
 refine Zc7 fun f2 hf2 => ?_
 have t0 : tv f2 0 = vP bp := by rw [hf2]; exact t0
 have t5 : tv f2 5 = vP s.b := by rw [hf2]; exact t5
 have t6 : tv f2 6 = vP t.b := by rw [hf2]; exact t6
 have t8 : tv f2 8 = vP bq := by rw [hf2]; rfl
 have t28 : tv f2 28 = s.v0 := by rw [hf2]; exact t28
 have t29 : tv f2 29 = vI (M.length : Int) := by rw [hf2]; exact t29
 have t30 : tv f2 30 = vI (m : Int) := by rw [hf2]; exact t30
 clear hf2
 rw [show M.drop m = M[m] :: M.drop (m + 1) from (getElem_cons_drop ..).symm, Yo9, ← Xi1 hm'] at htl
 obtain ⟨dr, hdr, htl⟩ := bSm htl
 obtain ⟨row, hrow, htl⟩ := bSm htl
 obtain ⟨tl', htl', htl⟩ := bSm htl
 obtain rfl := oi htl
 generalize hp : rd M (m : Int) = pm at hdr hS
 have hS := hS.perm (Xl1 (B := Cm) (A1 := [(bq, .cells (Z7 .i64 pm).toArray 222)]) (A2 := [(s.b, .cells #[s.v0, s.v1, v, s.c3, s.c4, s.c5] 102)]) (A3 := R) (L := L))
 refine Wu7 17 (S8 [mE 34 (vP s.b), mE 35 (vP s.b), mE 36 (vP s.b), mE 37 (vQ s.b 2), mE 38 v, mE 39 (vP t.b), mE 40 (vP bp), mE 41 (vP bp), mE 42 (vQ bp 0), mE 43 (vQ ab ao), (44, MP.mk0), mE 45 (vA (Z7 .i64 pm)), (46, MP.mp .i64 (Zc9 ([] : MpT) pm 1)), (47, MP.mp .i64 dr), (48, MP.sl (Y4 .i64) row), (49, MP.sl (X3 (Y4 .i64)) [row])])
  [Co.fz 10 44 12 (MP.mp .i64 (Zc9 ([] : MpT) pm 1))] (fun G w v1 => ∃ C', St G w (C' ++ ([(bq, .cells (Z7 .i64 pm).toArray 222)] ++ ([(s.b, .cells #[s.v0, s.v1, v, s.c3, s.c4, s.c5] 102)] ++ (R ++ L)))) ∧ W0 (X3 (Y4 .i64)) 22 G v1 (acc ++ [row]) C') mixed U (Zy5 (ns := [(10, 44, 12, 10, 44)]) U U) U (j0 := 0) U U U (fun _ => rfl) U U U U U (fun _ _ => t5) hS
  (W7 U ?_ (W7 U ?_ (W7 U ?_ (W7 U ?_ (W7 U ?_ (W7 U ?_ (W7 U ?_ (W7 U ?_ (W7 U ?_ (W7 U ?_ (W7 U ?_ (W7 U ?_ (Yj9 U ?_ (W7 U ?_ (W7 U ?_ (W7 U ?_ (W7 U ?_ W9))))))))))))))))) ?_ ?_
 exact X4 fun S B => Z3 _ (evT (B 5 U) t5) U (qz S)
 exact X4 fun S B => Z3 _ (evT (B 5 U) t5) U (qz S)
 exact Y7 fun S V => V0 (eM (V 1 35 U U)) U (qz S)
 exact Y7 fun S V => Y2 Yc9 (eM (V 2 36 U U)) U (qz S)
 exact Y7 fun S V => Y1 v Zp5 (eM (V 3 37 U U)) (S.get (mR (mR (mR mL)))) U U (qz S)
 exact X4 fun S B => Z3 _ (evT (B 6 U) t6) U (qz S)
 exact X4 fun S B => Z3 _ (evT (B 0 U) t0) U (qz S)
 exact Y7 fun S V => V0 (eM (V 6 40 U U)) U (qz S)
 exact Y7 fun S V => Y2 Xf0 (eM (V 7 41 U U)) U (qz S)
 exact P0 fun s S V => Y1 (vQ ab ao) Wk8 (eM (V 8 42 U U)) (S.froz _ _ (s.1 _ _ hbox')) U U (qz S)
 intro _ _ _ _ _ hS _ _ hcq
 refine Yk1 hS U fun _ _ hS => qn (.refl _) U hS ⟨_, U⟩
 exact X4 fun S B => X5 P3 (evT (B 8 U) t8) (S.get (mR (mR mL))) U U (qz S)
 intro n5 y3 u3 y4 _ hS _ p6 hcq
 obtain ⟨l6, l7⟩ := p6 10 44 U U
 have l7 : n5 44 = Value.map (some l6) := l7
 replace hS : St u3 y3 (Xj9 (n5 44) ++ (y4 ++ (Cm ++ ([(bq, .cells (Z7 .i64 pm).toArray 222)] ++ ([(s.b, .cells #[s.v0, s.v1, v, s.c3, s.c4, s.c5] 102)] ++ (R ++ L)))))) := hS
 rw [l7] at hS
 have v1 : Q8 .i64 (Value.map (some l6)) [] [(l6, .map #[] 0)] := Q8.new l6
 have y5 : tv n5 44 = Value.map (some l6) := l7
 refine Xd4 (a := pm) (m := 1) Zs5 y5 (eM (p6 11 45 U U)) U v1 hS ?_
 intro _ _ v2 hS
 obtain ⟨_, v3, hS, v4⟩ := v2.freeze hS
 exact Z2 ⟨_, U, U, v3, hS, by show N0 _ _ (n5 44) _; rw [l7]; exact v4⟩
 intro y6 _ y7 _ _ hS _ _ hcq
 obtain ⟨p7, p8⟩ : ∃ v, tv y6 44 = v := ⟨_, U⟩
 have q9 : N0 .i64 y7 p7 (Zc9 ([] : MpT) pm 1) := p8 ▸ (hcq 12 _ U U)
 refine Z3 p7 p8 U (qn (.refl _) U hS q9)
 intro f w G X s S B V hcq
 obtain ⟨_, hu, hru⟩ := gvM (V 13 46 U U)
 refine U9 call116 (W8 (eM (V 9 43 U U)) hu) U (Yf2 hdr (hap'.mono s) hru S) ?_
 rintro _ _ ⟨u, G2, C2, rfl, s2, S, ho⟩
 refine ⟨_, U, ?_⟩
 obtain ⟨G3, s3, S, hr⟩ := ho.freeze S
 exact qn (s2.trans s3) U S hr
 intro f w G X s S B V hcq
 obtain ⟨_, hu, hru⟩ := gvM (V 14 47 U U)
 refine U9 call191 (W8 (eM (V 5 39 U U)) hu) U (Xy1 hrow (mR (mR (mR (mR (mem_append_left _ htR))))) U U (htv0.mono s) (htv1.mono s) hru S) ?_
 rintro _ _ ⟨u, G2, C2, rfl, s2, S, ho⟩
 refine ⟨_, U, ?_⟩
 obtain ⟨G3, s3, S, hr⟩ := ho.freeze S
 exact qn (s2.trans s3) U S hr
 intro f w G X s S B V _
 have hg : (MP.sl (Y4 .i64) row).p G (f 48) := V 15 48 U U
 have hg : Y3 (Y4 .i64) G (f 48) row := hg
 refine Zc4 (τ := X3 (Y4 .i64)) T2 Zj1 U [f 48] [row] U U (D3 U) (Zl6 ⟨_, hg.cellsL, hg⟩) (by decide) (by decide) S U fun u G2 w2 s2 S hl => qn s2 U S hl
 intro f w G s S B V
 have hg : (MP.sl (X3 (Y4 .i64)) [row]).p G (f 49) := V 16 49 (by decide) (by decide) U
 refine N2 (τ := X3 (Y4 .i64)) Ya0 U (eM (V 4 38 (by decide) (by decide) U)) (show ev f (.tmp 49) = f 49 from U) (ho.mono s) S hg (by rw [hal]; simp; omega) U fun v' w' C' ho' S' => Z2 ⟨v', G, U, .refl _, C', S', ho'⟩
 rintro f4 w4 H6 s6 ⟨C', hS, ho'⟩ hB hV
 refine V0 (eM (hV 0 34 (by decide) U)) U (Y2 Yc9 U U ?_)
 have hS := (St.dropMid hS).perm (Zc0 (B := C') (A1 := [(s.b, .cells #[s.v0, s.v1, v, s.c3, s.c4, s.c5] 102)]) (A2 := R) (L := L)).symm
 refine Ze6 (v := f4 50) (cs := #[s.v0, s.v1, v, s.c3, s.c4, s.c5]) (cs' := #[s.v0, s.v1, f4 50, s.c3, s.c4, s.c5]) Zp5 U U hS ho'.isOne U (nl U) U fun w7 hS => Z2 (X1 (Z0 (W4 ((m : Int) + 1) (by exact (evT (hB 30 U) t30)) U (i64_in _ (by omega)) U (Z3 (vI ((m : Int) + 1)) U U (Z2 ?_)))))
 obtain ⟨nb, nc, hnv⟩ := ho'.some (i := (0 : Int)) (by omega) (by simp)
 exact ih _ _ ⟨m + 1, acc ++ [row], tl', H6, f4 50, C', by omega, by omega, by simp [hal], htl', by rw [append_assoc]; exact hmat, s5.trans s6, hS, ho', ⟨nb, _, nc, hnv⟩, (evT (hB 0 U) t0), (evT (hB 5 U) t5), (evT (hB 6 U) t6), (evT (hB 28 U) t28), (evT (hB 29 U) t29), by show vI ((m : Int) + 1) = vI ((m + 1 : Nat) : Int); rw [Int.natCast_add]; rfl⟩
 refine Z6 (bF hm U) (W2 U ?_)
 have e : m = M.length := by omega
 subst e
 rw [drop_length, Yo9] at htl
 obtain rfl := oi htl
 rw [append_nil] at hmat
 subst hmat
 exact hx _ _ ⟨H5, v, Cm, s5, hS, ho, hnn, t5⟩
 exact ⟨0, [], mat, H4, _, _, by omega, by omega, U, q1, U, .refl _, hS, hov, ⟨_, _, _, U⟩, t0, t5, t6, U, U, U⟩
 rintro f w ⟨H5, v, Cm, s5, hS, ho, ⟨vb, vl, vc, hvv⟩, t5⟩
 have hvv : ∃ b o l c, v = .slice (some ⟨b, o, none⟩) l c := ⟨vb, 0, vl, vc, hvv⟩
 have hS := hS.perm (Zc0 (B := Cm) (A1 := [(s.b, .cells #[s.v0, s.v1, v, s.c3, s.c4, s.c5] 102)]) (A2 := R) (L := L))
 obtain ⟨H6, s6, hS, hrd⟩ := ho.freeze hS
 have s6 := s5.trans s6
 subst hR
 have hil3 := (List.getElem?_eq_some_iff.1 hi3).1
 have hS := Xl4 (s := { s with c2 := v }) hil3 hS
 refine hJ _ _ ⟨S3.set i { s with c2 := v }, { s with c2 := v }, H6, _, U, hsn, (s1.trans s4).trans s6, hS, ⟨bp, bm', ap', es', clk', U, s6.1 _ _ hbox', hap'.mono s6, U, hes'.trans (Yx9 (s' := { s with c2 := v }) hi3 U U).symm⟩, by rw [getElem?_set, if_pos U, if_pos hil3], ⟨hvv, hrd⟩, ?_, hX3.trans (Zg5.set (s := { s with c2 := .slice (some ⟨bv, 0, none⟩) 0 0 }) (c2 := v) hi3), hP1.trans (hP3.but hi hnil), t5⟩
 have hXs := Zg5.set (s := { s with c2 := .slice (some ⟨bv, 0, none⟩) 0 0 }) (c2 := v) hi3
 intro k u hu
 by_cases e : k = i
 subst e
 rw [getElem?_set, if_pos U, if_pos hil3] at hu
 cases hu
 exact ⟨⟨M, by rw [hsn]; exact hM, hsv0.mono s6, hsv1.mono s6⟩, .inr ⟨⟨mat, by rw [hsn]; exact q0, hvv, hrd⟩, Yl9.ext ⟨j, t, hj, by rw [htn, hsn]⟩ hXs⟩⟩
 rw [getElem?_set, if_neg (fun h => e h.symm)] at hu
 exact ⟨(hA3 k u e hu).1.mono s6, ((hA3 k u e hu).2.mono s6).ext hXs⟩
theorem Yu2 {n : Int} {H : FH} {w : World} {L : OL} {bp bm : Nat} {ap : Value} {es : Array MapEntry} {clk : Nat} {S : List Lvl} (hbox : H bp = some (.cells #[ap, .map (some bm)] 187)) (hm : (bm, Obj.map es clk) ∈ L) (hes : es.toList.map (fun e => (e.key, e.val)) = S.map (fun (s : Lvl) => (vI s.n, vP s.b))) (hn : Yl9 S n) (hS : St H w L) :
 Calls prog 153 #[vP bp, vI n] w (T4 (fun v _ => ∃ (k : Nat) (t : Lvl), S[k]? = some t ∧ t.n = n ∧ v = vP t.b) H L) := by
 refine X0 func153 U ntmps153 U ?_
 repeat refine Z1 ?_
 refine Z0 (Z5 (.pointer none) U U (Z2 ?_))
 repeat refine Z1 ?_
 refine Z0 (Z3 (vP bp) U U (V0 U U (Y2 Xg4 U U (Y1 (.map (some bm)) Xx0 U (hS.froz _ _ hbox) U U (Z3 (vI n) U U (Xk0 (m := n) U U (hS.own _ hm) hes U ?_ ?_))))))
 intro j s hj hn
 refine Z3 _ U U (V1 (vP s.b) U U U (V1 (vB true) U U U (Z5 _ U U (Z5 _ U U (Z2 ?_)))))
 repeat refine Z1 ?_
 refine Z0 (Z3 (vB true) U U (Z2 ?_))
 repeat refine Z1 ?_
 refine Z8 U ?_
 repeat refine Z1 ?_
 refine Z0 (Z3 (vP s.b) U U (Z5 (vP s.b) U U (Z2 (Y9 (vs := [vP s.b]) func153 Ut ⟨_, H, U, .refl _, hS, j, s, hj, hn, U⟩))))
 intro hno
 obtain ⟨k, t, h1, h2⟩ := hn
 exact absurd h2 (hno t (mem_of_getElem? h1))
theorem Wv2 {P : Program} {n : Nat} {ops : Array Oper} {J : Fr → World → Prop} {r : List Oper} {f : Fr} {w : World} {d : Nat} {pos : String} {af : Array Edge} {T X Y E : TypeId} {x y : Operand} {a : Option Addr} {l c s : Nat}
 (t : SlI P X E s) (hx : ev f x = .slice a l c) (hy : ev f y = .slice none 0 0) (hn : Nat.blt d n = true)
 (K : X7 P n ops J r (upd f d (.bool (!a.isNone))) w) : X7 P n ops J (⟨some d, .binOp .neq X x y Y, T, pos, af, none⟩ :: r) f w := by
 refine U2 U U hn ?_ K
 simp [execOp, hx, hy, eqGuard, binOp, Yy1 P w X E a l c t.under]
def MP.lv (S : List Lvl) (m : Int) (o : Nat) : MP := ⟨fun _ v => ∃ (k : Nat) (t : Lvl), S[k]? = some t ∧ t.n = m ∧ v = vQ t.b o, fun _ h => h, fun _ => []⟩
def bdN (K : Nat) (x : AlX) (n : Int) : Option (List (List Int)) := if 0 < n then (Ye5 K x (n - 1)).bind fun m => B9 K m else some []
def Wa3 (K : Nat) (x : AlX) (n : Int) : Option (List (List Int)) := (Ye5 K x n).bind fun m => (lv0 K x (n + 1)).bind fun M' => Zv9 K m M'.length
def Yu5 (K : Nat) (bd : List (List Int)) : List (List Int) → Option (List (List Int))
 | [] => some []
 | r :: rs => (Zd5 K r bd).bind fun q => (Yu5 K bd rs).bind fun qs => some (q :: qs)
def Yq1 (K : Nat) (x : AlX) (n : Int) : Option (List (List Int) × List (List Int) × List (List Int)) :=
 if -1099511627776 ≤ n ∧ n ≤ 1099511627776 then (Wa3 K x n).bind fun ker => (bdN K x n).bind fun bd => if ker.length ≤ 1099511627776 then (Yu5 K bd ker).bind fun l => (B9 K l).bind fun cl => some (ker, bd, cl) else none else none
def Lv3 (K : Nat) (x : AlX) (H : FH) (s : Lvl) : Prop := (s.c3 = vN ∧ s.c4 = vN ∧ s.c5 = vN) ∨ ∃ r, Yq1 K x s.n = some r ∧ Zy6 H s.c3 r.1 ∧ Y3 (X3 (Y4 .i64)) H s.c4 r.2.1 ∧ Y3 (X3 (Y4 .i64)) H s.c5 r.2.2
theorem Lv3.mono {K : Nat} {x : AlX} {H H' : FH} {s : Lvl} (h : Lv3 K x H s) (hs : Sub H H') : Lv3 K x H' s := h.imp id fun ⟨r, h1, h2, h3, h4⟩ => ⟨r, h1, h2.mono hs, h3.mono hs, h4.mono hs⟩
def Yj2 (K : Nat) (x : AlX) (H : FH) (S : List Lvl) : Prop := ∀ (k : Nat) (s : Lvl), S[k]? = some s → Lv3 K x H s
theorem Yj2.mono {K : Nat} {x : AlX} {H H' : FH} {S : List Lvl} (h : Yj2 K x H S) (hs : Sub H H') : Yj2 K x H' S := fun k s e => (h k s e).mono hs
theorem Yj2.ext {K : Nat} {x : AlX} {H : FH} {S S' : List Lvl} (h : Yj2 K x H S) (h' : Zg5 S S') : Yj2 K x H S' := by
 intro k s hk
 rcases Nat.lt_or_ge k S.length with hl | hl
 obtain ⟨c2, h1⟩ := h'.1 k _ (getElem?_eq_getElem hl)
 rw [hk] at h1
 cases h1
 have h2 := h k _ (getElem?_eq_getElem hl)
 exact h2
 exact .inl (h'.2 k s hl hk)
def Yg9 (S S' : List Lvl) : Prop := ∀ (k : Nat) (s : Lvl), S[k]? = some s → ∃ s', S'[k]? = some s' ∧ s'.n = s.n ∧ s'.b = s.b ∧ s'.v0 = s.v0 ∧ s'.v1 = s.v1 ∧ (s.c3 ≠ vN → s'.c3 = s.c3 ∧ s'.c4 = s.c4 ∧ s'.c5 = s.c5)
theorem Zg5.toA {S S' : List Lvl} (h : Zg5 S S') : Yg9 S S' := fun k s hk => let ⟨c2, h1⟩ := h.1 k s hk; ⟨_, h1, U, U, U, U, fun _ => ⟨U, U, U⟩⟩
theorem Yg9.refl (S : List Lvl) : Yg9 S S := (Zg5.refl S).toA
theorem Yg9.trans {S S' S'' : List Lvl} (h : Yg9 S S') (h' : Yg9 S' S'') : Yg9 S S'' := fun k s hk => by
 obtain ⟨s1, h1, a1, a2, a3, a4, a5⟩ := h k s hk
 obtain ⟨s2, h2, b1, b2, b3, b4, b5⟩ := h' k s1 h1
 refine ⟨s2, h2, b1.trans a1, b2.trans a2, b3.trans a3, b4.trans a4, fun hne => ?_⟩
 obtain ⟨c3, c4, c5⟩ := a5 hne
 obtain ⟨d3, d4, d5⟩ := b5 (by rw [c3]; exact hne)
 exact ⟨d3.trans c3, d4.trans c4, d5.trans c5⟩
theorem Yg9.set {S : List Lvl} {i : Nat} {s s' : Lvl} (h : S[i]? = some s) (h1 : s'.n = s.n) (h2 : s'.b = s.b) (h3 : s'.v0 = s.v0) (h4 : s'.v1 = s.v1) (h5 : s.c3 = vN) : Yg9 S (S.set i s') := fun k t hk => by
 rw [getElem?_set]
 by_cases e : i = k
 subst e; rw [h] at hk; cases hk
 rw [if_pos U, if_pos (List.getElem?_eq_some_iff.1 h).1]
 exact ⟨s', U, h1, h2, h3, h4, fun hne => absurd h5 hne⟩
 rw [if_neg e]; exact ⟨t, hk, U, U, U, U, fun _ => ⟨U, U, U⟩⟩
def Vl8 (K : Nat) (x : AlX) (n : Int) (p : Value) (S : List Lvl) (r : List (List Int) × List (List Int) × List (List Int)) (H : FH) (L : OL) : Ending → World → Prop := fun e w' => ∃ (i : Nat) (s : Lvl) (S' : List Lvl) (H' : FH) (C : OL), e = .returned (vP s.b) ∧ Sub H H' ∧ St H' w' (C ++ L) ∧ Cx H' p x S' C ∧ S'[i]? = some s ∧ s.n = n ∧
 (Zy6 H' s.c3 r.1 ∧ Y3 (X3 (Y4 .i64)) H' s.c4 r.2.1 ∧ Y3 (X3 (Y4 .i64)) H' s.c5 r.2.2 ∧ ∀ m, Ye5 K x n = some m → Zy6 H' s.c2 m) ∧ Zt0 K x H' S' ∧ Yj2 K x H' S' ∧ Yg9 S S'
def Yb4 (i : Nat) (S S' : List Lvl) : Prop := ∀ (k : Nat) (s : Lvl), S[k]? = some s → ∃ s', S'[k]? = some s' ∧ s'.n = s.n ∧ s'.b = s.b ∧ s'.v0 = s.v0 ∧ s'.v1 = s.v1 ∧ (k ≠ i → s'.c3 = s.c3 ∧ s'.c4 = s.c4 ∧ s'.c5 = s.c5)
theorem Zg5.toB {S S' : List Lvl} (i : Nat) (h : Zg5 S S') : Yb4 i S S' := fun k s hk => let ⟨c2, h1⟩ := h.1 k s hk; ⟨_, h1, U, U, U, U, fun _ => ⟨U, U, U⟩⟩
theorem Yb4.trans {i : Nat} {S S' S'' : List Lvl} (h : Yb4 i S S') (h' : Yb4 i S' S'') : Yb4 i S S'' := fun k s hk => by
 obtain ⟨s1, h1, a1, a2, a3, a4, a5⟩ := h k s hk
 obtain ⟨s2, h2, b1, b2, b3, b4, b5⟩ := h' k s1 h1
 exact ⟨s2, h2, b1.trans a1, b2.trans a2, b3.trans a3, b4.trans a4, fun hne => ⟨(b5 hne).1.trans (a5 hne).1, (b5 hne).2.1.trans (a5 hne).2.1, (b5 hne).2.2.trans (a5 hne).2.2⟩⟩
theorem Yb4.set {S : List Lvl} {i : Nat} {s s' : Lvl} (h : S[i]? = some s) (h1 : s'.n = s.n) (h2 : s'.b = s.b) (h3 : s'.v0 = s.v0) (h4 : s'.v1 = s.v1) : Yb4 i S (S.set i s') := fun k t hk => by
 rw [getElem?_set]
 by_cases e : i = k
 subst e; rw [h] at hk; cases hk
 rw [if_pos U, if_pos (List.getElem?_eq_some_iff.1 h).1]
 exact ⟨s', U, h1, h2, h3, h4, fun hne => absurd U hne⟩
 rw [if_neg e]; exact ⟨t, hk, U, U, U, U, fun _ => ⟨U, U, U⟩⟩
theorem Yb4.toA {S S' : List Lvl} {i : Nat} {s : Lvl} (h : Yb4 i S S') (hi : S[i]? = some s) (hc : s.c3 = vN) : Yg9 S S' := fun k t hk => by
 obtain ⟨s1, h1, a1, a2, a3, a4, a5⟩ := h k t hk
 refine ⟨s1, h1, a1, a2, a3, a4, fun hne => a5 fun e => ?_⟩
 subst e; rw [hi] at hk; cases hk; exact hne hc
theorem Yl9.ofB {S S' : List Lvl} {i : Nat} {m : Int} (h : Yl9 S m) (h' : Yb4 i S S') : Yl9 S' m := by
 obtain ⟨k, t, h1, h2⟩ := h
 obtain ⟨s', h3, h4, _⟩ := h' k t h1
 exact ⟨k, s', h3, h4.trans h2⟩
theorem Zt0.set {K : Nat} {x : AlX} {H : FH} {S : List Lvl} {i : Nat} {s s' : Lvl} (h : Zt0 K x H S) (hi : S[i]? = some s) (h1 : s'.n = s.n) (h2 : s'.b = s.b) (h3 : s'.v0 = s.v0) (h4 : s'.v1 = s.v1) (h5 : s'.c2 = s.c2) : Zt0 K x H (S.set i s') := by
 have hX := Yb4.set hi h1 h2 h3 h4
 intro k t hk
 rw [getElem?_set] at hk
 by_cases e : i = k
 subst e
 rw [if_pos U, if_pos (List.getElem?_eq_some_iff.1 hi).1] at hk
 cases hk
 obtain ⟨⟨M, a1, a2, a3⟩, b⟩ := h i s hi
 refine ⟨⟨M, by rw [h1]; exact a1, by rw [h3]; exact a2, by rw [h4]; exact a3⟩, ?_⟩
 unfold Lv2
 rw [h1, h5]
 exact b.imp id fun ⟨c, d⟩ => ⟨c, d.ofB hX⟩
 rw [if_neg e] at hk
 exact ⟨(h k t hk).1, (h k t hk).2.imp id fun ⟨c, d⟩ => ⟨c, d.ofB hX⟩⟩
def Yd9 (i K : Nat) (x : AlX) (H : FH) (S : List Lvl) : Prop := ∀ (k : Nat) (s : Lvl), k ≠ i → S[k]? = some s → Lv3 K x H s
theorem Yd9.mono {i K : Nat} {x : AlX} {H H' : FH} {S : List Lvl} (h : Yd9 i K x H S) (hs : Sub H H') : Yd9 i K x H' S := fun k s hk e => (h k s hk e).mono hs
theorem Yd9.ext {i K : Nat} {x : AlX} {H : FH} {S S' : List Lvl} (h : Yd9 i K x H S) (h' : Zg5 S S') : Yd9 i K x H S' := by
 intro k s hki hk
 rcases Nat.lt_or_ge k S.length with hl | hl
 obtain ⟨c2, h1⟩ := h'.1 k _ (getElem?_eq_getElem hl)
 rw [hk] at h1
 cases h1
 have h2 := h k _ hki (getElem?_eq_getElem hl)
 exact h2
 exact .inl (h'.2 k s hl hk)
theorem Yd9.set {i K : Nat} {x : AlX} {H : FH} {S : List Lvl} {s : Lvl} (h : Yd9 i K x H S) : Yd9 i K x H (S.set i s) := fun k t hki hk => by
 rw [getElem?_set, if_neg (fun e => hki e.symm)] at hk
 exact h k t hki hk
def MP.nn (m : List (List Int)) : MP := ⟨fun H v => Zy6 H v m, fun hs h => h.mono hs, fun _ => []⟩
theorem Wz1 {K : Nat} {x : AlX} {n : Int} {r : List (List Int) × List (List Int) × List (List Int)} (q0 : Yq1 K x n = some r) {H : FH} {w : World} {L C : OL} {p : Value} {S : List Lvl} (hC : Cx H p x S C) (hA : Zt0 K x H S) (hA3 : Yj2 K x H S) (hS : St H w (C ++ L)) :
 Calls prog 84 #[p, vI n] w (Vl8 K x n p S r H L) := by
 have q1 := q0
 unfold Yq1 at q1
 by_cases hg : -1099511627776 ≤ n ∧ n ≤ 1099511627776
 case neg => rw [if_neg hg] at q1; cases q1
 rw [if_pos hg] at q1
 obtain ⟨ker, hker, q1⟩ := bSm q1
 obtain ⟨bd, hbd, q1⟩ := bSm q1
 by_cases hkl : ker.length ≤ 1099511627776
 case neg => rw [if_neg hkl] at q1; cases q1
 rw [if_pos hkl] at q1
 obtain ⟨left, hleft, q1⟩ := bSm q1
 obtain ⟨cl, hcl, q1⟩ := bSm q1
 cases q1
 obtain ⟨mat, hmat, hker⟩ := bSm hker
 obtain ⟨M', hM', hker⟩ := bSm hker
 obtain ⟨g2, g3⟩ := hg
 refine X0 func84 U ntmps84 U ?_
 repeat refine Z1 ?_
 refine Z0 (Z5 (.pointer none) U U (Z2 ?_))
 repeat refine Z1 ?_
 refine Z0 (Z3 p U U (Z3 (vI n) U U (U9 call151 (W8 U U) U (Yw3 hmat hC hA hS) ?_)))
 rintro e1 w1 ⟨i, s, S1, H1, C1, rfl, s1, hS, hC, hi, hsn, hnn, hA1, hX1, _⟩
 refine ⟨_, U, ?_⟩
 have hA3 := (hA3.mono s1).ext hX1
 clear hA
 refine Z5 (vP s.b) U U (Z2 ?_)
 repeat refine Z1 ?_
 have hbl : ∀ {L' : OL}, s.chunk ∈ S1.map Lvl.chunk ++ L' := mem_append_left _ (mem_map.2 ⟨s, mem_of_getElem? hi, U⟩)
 obtain ⟨bp, bm, ap, es, clk, rfl, hbox, hap, rfl, hes⟩ := hC
 have hCx : Cx H1 (vP bp) x S1 ((bm, .map es clk) :: S1.map Lvl.chunk) := ⟨bp, bm, ap, es, clk, U, hbox, hap, U, hes⟩
 refine Z0 (Z3 (vP s.b) U U (V0 U U (Y2 Yv7 U U (Y1 s.c3 Zp5 U (hS.own s.chunk (mem_cons_of_mem _ hbl)) U U ?_))))
 have hc3 : ∃ a l c, s.c3 = .slice a l c := by
  rcases hA3 i s hi with ⟨h, _⟩ | ⟨q, _, ⟨⟨b, o, l, c, h⟩, _⟩, _⟩
  exact ⟨none, 0, 0, h⟩
  exact ⟨_, l, c, h⟩
 obtain ⟨ca, cl', cc, hc3⟩ := hc3
 refine Wv2 T2 (a := ca) (l := cl') (c := cc) (show s.c3 = _ from hc3) U U (Z2 ?_)
 repeat refine Z1 ?_
 rcases hA3 i s hi with ⟨hn3, hn4, hn5⟩ | ⟨q, hq, hq3, hq4, hq5⟩
 case inr =>
  have hca : (!ca.isNone) = true := by
   obtain ⟨⟨b, o, l, c, h⟩, _⟩ := hq3
   rw [hc3] at h; cases h; rfl
  refine Z8 (show _ = vB true from congrArg Value.bool hca) ?_
  rw [hsn, q0] at hq
  cases hq
  repeat refine Z1 ?_
  refine Z0 (Z3 (vP s.b) rfl rfl (Z5 (vP s.b) rfl rfl (Z2 (Y9 (vs := [vP s.b]) func84 ⟨rfl, trivial⟩ ⟨i, s, S1, H1, _, rfl, s1, hS, hCx, hi, hsn, ⟨hq3, hq4, hq5, fun m hm => by rw [hmat] at hm; cases hm; exact hnn⟩, hA1, hA3, hX1.toA⟩))))
 have hca : (!ca.isNone) = false := by rw [hc3] at hn3; cases hn3; rfl
 refine Z6 (show _ = vB false from congrArg Value.bool hca) (Y6 ?_)
 clear hca hc3
 repeat refine Z1 ?_
 refine Zc7 fun f0 hf0 => ?_
 have t0 : tv f0 0 = vP bp := by rw [hf0]; rfl
 have t1 : tv f0 1 = vI n := by rw [hf0]; rfl
 have t5 : tv f0 5 = vP s.b := by rw [hf0]; rfl
 clear hf0
 have hhas : Yl9 S1 (n + 1) := by
  rcases (hA1 i s hi).2 with h | ⟨_, h⟩
  obtain ⟨⟨b, o, l, c, h2⟩, _⟩ := hnn
  rw [h] at h2; cases h2
  rw [hsn] at h; exact h
 have hn1 : i64.wrap (n + 1) = n + 1 := i64_in _ (by omega)
 refine W6 14 (S8 [mE 18 (vP s.b), mE 19 (vP s.b), mE 20 (vP s.b), mE 21 (vQ s.b 2), mE 22 s.c2, mE 23 (vP bp), mE 24 (vI n), mE 25 (vI (n + 1)), (26, MP.lv S1 (n + 1) 0), (27, MP.lv S1 (n + 1) 0), (28, MP.lv S1 (n + 1) 0), (29, MP.sl (Q5 .i64) M'), mE 30 (vI M'.length), (31, MP.nn ker)]) [] mixed U U U hS (U1 (X4 fun S B => Z3 _ (evT (B 5 U) t5) U (qz S)) (X4 fun S B => Z3 _ (evT (B 5 U) t5) U (qz S)) (Y7 fun S V => V0 (eM (V 1 19 U U)) U (qz S)) (Y7 fun S V => Y2 Yc9 (eM (V 2 20 U U)) U (qz S)) (Y7 fun S V => Y1 s.c2 Zp5 (eM (V 3 21 U U)) (S.own s.chunk (mR (mem_cons_of_mem _ hbl))) U U (qz S)) (X4 fun S B => Z3 _ (evT (B 0 U) t0) U (qz S)) (X4 fun S B => Z3 _ (evT (B 1 U) t1) U (qz S)) (Y7 fun S V => W4 (n + 1) (eM (V 6 24 U U)) U hn1 U (qz S)) (K3 ?_ ?_ ?_ ?_ (L7 ?_ ?_ W9))) ?_
 intro f w G X s' S B V hcq
 refine X2 call153 (W8 (eM (V 5 23 U U)) (eM (V 7 25 U U))) U (Yu2 (s'.1 _ _ hbox) (mR (mem_cons_self ..)) hes hhas S) ?_
 rintro v G2 w2 s2 S2 hv
 exact qn s2 U S2 hv
 exact Y7 fun S V => by
  obtain ⟨k, t, h1, h2, hv⟩ := V 8 26 U U
  exact V0 hv U (qn (.refl _) U S ⟨k, t, h1, h2, U⟩)
 exact Y7 fun S V => by
  obtain ⟨k, t, h1, h2, hv⟩ := V 9 27 U U
  exact Y2 Zs2 hv U (qn (.refl _) U S ⟨k, t, h1, h2, U⟩)
 intro f w G X s' S B V hcq
 obtain ⟨k, t, h1, h2, hv⟩ := V 10 28 U U
 obtain ⟨Mt, b1, b2, _⟩ := (hA1 k t h1).1
 rw [h2, hM'] at b1
 cases b1
 exact Y1 t.v0 Yh6 (show ev f (.tmp 28) = vQ t.b 0 from hv) (S.own t.chunk (mR (mem_cons_of_mem _ (mem_append_left _ (mem_map.2 ⟨t, mem_of_getElem? h1, U⟩))))) U U (qn (.refl _) U S (b2.mono s'))
 intro f w G X s' S B V hcq
 have hg : (MP.sl (Q5 .i64) M').p G (f 29) := V 11 29 U U
 exact X9 Zv1 (show ev f (.tmp 29) = f 29 from U) hg U (qz S)
 intro f w G X s' S B V hcq
 refine X2 call152 (W8 (eM (V 4 22 U U)) (eM (V 12 30 U U))) U (Wl2 hker (hnn.2.mono s') S) ?_
 rintro v G2 w2 s2 S2 ⟨⟨kb, kl, kc, hkv⟩, hkr⟩
 exact qn s2 U S2 ⟨⟨kb, 0, kl, kc, hkv⟩, hkr⟩
 intro f2 w2 H2 s2 hS hB hV hcq
 have hnk : Zy6 H2 (f2 31) ker := hV 13 31 (by decide) U
 have t0 : tv f2 0 = vP bp := evT (hB 0 U) t0
 have t1 : tv f2 1 = vI n := evT (hB 1 U) t1
 have t5 : tv f2 5 = vP s.b := evT (hB 5 U) t5
 obtain ⟨kv, hkv⟩ : ∃ kv, f2 31 = kv := ⟨_, U⟩
 rw [hkv] at hnk
 refine V0 (eM (hV 0 18 (by decide) U)) U (Y2 Yv7 U U ?_)
 have hS : St H2 w2 ([s.chunk] ++ ((bm, .map es clk) :: ((S1.eraseIdx i).map Lvl.chunk ++ L))) := Yy0 hS.dA hi
 have hil := (List.getElem?_eq_some_iff.1 hi).1
 refine Ze6 (v := kv) (cs := s.cs) (cs' := Lvl.cs { s with c3 := kv }) Zp5 U (by exact hkv) hS hnk.2.isOne U (nl U) U ?_
 intro w3 hS
 have hS := Xl4 (s := { s with c3 := kv }) hil hS
 have hi2 : (S1.set i { s with c3 := kv })[i]? = some { s with c3 := kv } := by rw [getElem?_set, if_pos U, if_pos hil]
 have hB2 : Yb4 i S1 (S1.set i { s with c3 := kv }) := Yb4.set hi U U U U
 have hA2 : Zt0 K x H2 (S1.set i { s with c3 := kv }) := (hA1.mono s2).set hi U U U U U
 have hO2 : Yd9 i K x H2 (S1.set i { s with c3 := kv }) := Yd9.set fun k t hk ht => (hA3 k t ht).mono s2
 have hC2 : Cx H2 (vP bp) x (S1.set i { s with c3 := kv }) ((bm, .map es clk) :: (S1.set i { s with c3 := kv }).map Lvl.chunk) := ⟨bp, bm, ap, es, clk, U, s2.1 _ _ hbox, hap.mono s2, U, hes.trans (Yx9 (s' := { s with c3 := kv }) hi U U).symm⟩
 have hnn2 := hnn.mono s2
 have s2 := s1.trans s2
 refine Z2 ?_
 repeat refine Z1 ?_
 refine Zc7 fun f1 hf1 => ?_
 have t0 : tv f1 0 = vP bp := by rw [hf1]; exact t0
 have t1 : tv f1 1 = vI n := by rw [hf1]; exact t1
 have t5 : tv f1 5 = vP s.b := by rw [hf1]; exact t5
 clear hf1 hbl hap hbox s1
 refine Z0 (Z3 (vI n) (by exact t1) U (A0 (k := .i64) (a := n) (b := 0) U U U (Z2 ?_)))
 repeat refine Z1 ?_
 generalize hL2 : (bm, Obj.map es clk) :: (S1.set i { s with c3 := kv }).map Lvl.chunk = CC at hC2
 replace hS : St H2 w3 (CC ++ L) := by rw [← hL2]; exact hS
 clear hL2 hes hCx
 refine N1 (fun f w => ∃ S3 u H3 C3, Sub H H3 ∧ St H3 w (C3 ++ L) ∧ Cx H3 (vP bp) x S3 C3 ∧ S3[i]? = some u ∧ u.n = n ∧ u.b = s.b ∧ u.c3 = kv ∧ (u.c2 = s.c2 ∧ Zy6 H3 s.c2 mat) ∧ Zy6 H3 kv ker ∧ Y3 (X3 (Y4 .i64)) H3 u.c4 bd ∧ Zt0 K x H3 S3 ∧ Yd9 i K x H3 S3 ∧ Yb4 i S1 S3 ∧ tv f 5 = vP s.b) ?_ ?_
 rintro f w ⟨S3, u, H3, C3, Z4, hS, hC3, hu, hun, hub, huc3, ⟨huc2, hnn3⟩, hnk, hbd', hA3', hO3, hB3, t5⟩
 have hkr := hnk.2
 repeat refine Z1 ?_
 refine Z0 (Yr4 (τ := X3 (Y4 .i64)) T2 Zj1 U hS U (fun bl w4 ho hS => Z5 (.slice (some ⟨bl, 0, none⟩) 0 0) U U (Z2 ?_)))
 repeat refine Z1 ?_
 obtain ⟨bp', bm', ap', es', clk', he1, hbox', hap', rfl, hes'⟩ := hC3
 cases he1
 have huR : ∀ {L' : OL}, u.chunk ∈ ((bm', Obj.map es' clk') :: S3.map Lvl.chunk) ++ L' := mem_append_left _ (mem_cons_of_mem _ (mem_map.2 ⟨u, mem_of_getElem? hu, U⟩))
 generalize hCR : (bm', Obj.map es' clk') :: S3.map Lvl.chunk = CR at huR hS
 have huk : u.cs[3]? = some kv := by rw [← huc3]; rfl
 have t5 : tv f 5 = vP u.b := by rw [hub]; exact t5
 refine Z0 (Z3 (vP u.b) (by exact t5) U (V0 U U (Y2 Yv7 U U (Y1 kv Zp5 U (hS.own u.chunk (mR huR)) huk U (X9 T2 U hkr U (Z3 (vI 0) U U (Z2 (Y8 ?_))))))))
 refine W3 (id := 0) (fun k f w => ∃ (m : Nat) (acc tl : List (List Int)) (H5 : FH) (v : Value) (Cm : OL), m ≤ ker.length ∧ ker.length < m + k ∧ acc.length = m ∧ Yu5 K bd (ker.drop m) = some tl ∧ acc ++ tl = left ∧ Sub H3 H5 ∧ St H5 w (Cm ++ (CR ++ L)) ∧ W0 (X3 (Y4 .i64)) 22 H5 v acc Cm ∧ tv f 5 = vP u.b ∧ tv f 6 = v ∧ tv f 51 = kv ∧ tv f 52 = vI (ker.length : Int) ∧ tv f 53 = vI (m : Int))
  (fun f w => ∃ H5 v Cm, Sub H3 H5 ∧ St H5 w (Cm ++ (CR ++ L)) ∧ W0 (X3 (Y4 .i64)) 22 H5 v left Cm ∧ tv f 5 = vP u.b ∧ tv f 6 = v) U ?_ ?_ (ker.length + 1) ?_ ?_
 rintro f w ⟨m, acc, tl, H5, v, Cm, h1, h2, _⟩; omega
 rintro k f w ih hx ⟨m, acc, tl, H5, v, Cm, h1, h2, hal, htl, hlf, s5, hS, ho, t5, t6, t51, t52, t53⟩
 repeat refine Z1 ?_
 refine Z0 (V4 (k := .i64) (a := m) (b := ker.length) (by exact t53) (by exact t52) U (Z2 ?_))
 repeat refine Z1 ?_
 by_cases hm : (m : Int) < (ker.length : Int)
 have hm' : m < ker.length := by omega
 rw [show ker.drop m = ker[m] :: ker.drop (m + 1) from (getElem_cons_drop ..).symm, Yu5] at htl
 obtain ⟨rq, hrq, htl⟩ := bSm htl
 obtain ⟨tl', htl', htl⟩ := bSm htl
 obtain rfl := oi htl
 refine Z8 (bT hm U) (Y6 ?_)
 repeat refine Z1 ?_
 refine Y8 ?_
 repeat refine Z1 ?_
 refine Z0 ?_
 obtain ⟨b, of, cs, E, _, hp, hb, ⟨ru, rfl, hru⟩, hc⟩ := (hkr.mono s5).elem (i := (m : Int)) (by omega) hm
 refine X6 T2 U (by exact t51) hp (by exact t53) (by omega) hm U (Y1 ru Q9 U (hS.froz _ _ hb) (hc 0 (show 0 < 1 by decide)) U (Z5 ru U U (Z2 ?_)))
 rw [Zs9 hm', P2 hm'] at hru
 repeat refine Z1 ?_
 refine Z0 (Z3 v (by exact t6) U (Z3 ru U U (Z3 (vP u.b) (by exact t5) U (V0 U U (Y2 Xf4 U U (Y1 u.c4 Zp5 U (hS.own u.chunk (mR huR)) U U (X2 call155 (W8 U U) U (Zy3 hrq hru (hbd'.mono s5) hS) ?_)))))))
 rintro y H6 w6 s6 hS hy
 have hy : Y3 (Y4 .i64) H6 y rq := hy
 have ho := ho.mono s6
 refine Zc4 (τ := X3 (Y4 .i64)) T2 Zj1 U [y] [rq] U U (D3 U) (Zl6 ⟨y, hy.cellsL, hy⟩) (by decide) (by decide) hS U ?_
 intro u8 H8 w8 s8 hS hl8
 have ho := ho.mono s8
 refine N2 (τ := X3 (Y4 .i64)) Ya0 U U U ho hS hl8 (by rw [hal]; simp; omega) U fun v9 w9 C9 ho9 hS => Z5 v9 U U (Z2 (X1 (Z0 (W4 ((m : Int) + 1) (by exact t53) U (i64_in _ (by omega)) U (Z3 (vI ((m : Int) + 1)) U U (Z2 (ih _ _ ⟨m + 1, acc ++ [rq], tl', H8, v9, C9, by omega, by omega, by simp [hal], htl', by rw [append_assoc]; exact hlf, (s5.trans s6).trans s8, hS, ho9, t5, U, t51, t52, by show vI ((m : Int) + 1) = vI ((m + 1 : Nat) : Int); rw [Int.natCast_add]; rfl⟩)))))))
 refine Z6 (bF hm U) (W2 U ?_)
 have e : m = ker.length := by omega
 subst e
 rw [drop_length, Yu5] at htl
 obtain rfl := oi htl
 rw [append_nil] at hlf
 subst hlf
 exact hx _ _ ⟨H5, v, Cm, s5, hS, ho, t5, t6⟩
 exact ⟨0, [], left, H3, _, _, by omega, by omega, U, hleft, U, .refl _, hS, ho, t5, U, U, U, U⟩
 rintro f w ⟨H5, v, Cm, s5, hS, ho, t5, t6⟩
 repeat refine Z1 ?_
 obtain ⟨H6, s6, hS, hlr⟩ := ho.freeze hS
 refine Z0 (Z3 (vP u.b) (by exact t5) U (Z3 v (by exact t6) U (X2 call154 (S4 U) U (Ym4 hcl hlr hS) ?_)))
 rintro y H7 w7 s7 hS hy
 have hy : Y3 (X3 (Y4 .i64)) H7 y cl := hy
 have s7 := (s5.trans s6).trans s7
 refine V0 U U (Y2 Ws5 U U ?_)
 subst hCR
 have hS := Yy0 hS hu
 have hil3 := (List.getElem?_eq_some_iff.1 hu).1
 refine Ze6 (v := y) (cs := u.cs) (cs' := Lvl.cs { u with c5 := y }) Zp5 U U hS hy.isOne U (nl U) U ?_
 intro w8 hS
 have hS := Xl4 (s := { u with c5 := y }) hil3 hS
 refine Z2 ?_
 repeat refine Z1 ?_
 refine Z0 (Z3 (vP u.b) (by exact t5) U (Z5 (vP u.b) U U (Z2 ?_)))
 have hres : Zy6 H7 kv ker ∧ Y3 (X3 (Y4 .i64)) H7 u.c4 bd ∧ Y3 (X3 (Y4 .i64)) H7 y cl := ⟨hnk.mono s7, hbd'.mono s7, hy⟩
 refine Y9 (vs := [vP u.b]) func84 ⟨rfl, trivial⟩ ⟨i, { u with c5 := y }, S3.set i { u with c5 := y }, H7, _, rfl, Z4.trans s7, hS, ⟨bp, bm', ap', es', clk', rfl, s7.1 _ _ hbox', hap'.mono s7, rfl, hes'.trans (Yx9 (s' := { u with c5 := y }) hu rfl rfl).symm⟩, by rw [getElem?_set, if_pos rfl, if_pos hil3], hun, ⟨by show Zy6 H7 u.c3 ker; rw [huc3]; exact hres.1, hres.2.1, hres.2.2, fun m hm => by rw [hmat] at hm; cases hm; show Zy6 H7 u.c2 mat; rw [huc2]; exact hnn3.mono s7⟩, (hA3'.mono s7).set hu rfl rfl rfl rfl rfl, ?_, hX1.toA.trans ((hB3.trans (Yb4.set (s' := { u with c5 := y }) hu rfl rfl rfl rfl)).toA hi hn3)⟩
 intro k t ht
 by_cases e : k = i
 subst e
 rw [getElem?_set, if_pos U, if_pos hil3] at ht
 cases ht
 exact .inr ⟨(ker, bd, cl), by show Yq1 K x u.n = _; rw [hun]; exact q0, by show Zy6 H7 u.c3 ker; rw [huc3]; exact hres.1, hres.2.1, hres.2.2⟩
 exact (Yd9.set (s := { u with c5 := y }) (hO3.mono s7)) k t e ht
 intro hJ
 unfold bdN at hbd
 by_cases hpos : (0 : Int) < n
 case neg =>
  rw [if_neg hpos] at hbd
  obtain rfl := oi hbd
  refine Z6 (bF hpos U) (Y6 (hJ _ _ ⟨_, { s with c3 := kv }, H2, CC, s2, hS, hC2, hi2, hsn, U, U, ⟨U, hnn2⟩, hnk, by show Y3 _ _ s.c4 _; rw [hn4]; exact Y3.nil, hA2, hO2, hB2, t5⟩))
 rw [if_pos hpos] at hbd
 obtain ⟨mb, hmb, hbd⟩ := bSm hbd
 refine Z8 (bT hpos U) ?_
 repeat refine Z1 ?_
 have hn2 : i64.wrap (n - 1) = n - 1 := i64_in _ (by omega)
 refine Z0 (Z3 (vP s.b) (by exact t5) U (Z3 (vP bp) (by exact t0) U (Z3 (vI n) (by exact t1) U (Zg8 (n - 1) U U hn2 U (U9 call151 (W8 U U) U (Yw3 hmb hC2 hA2 hS) ?_)))))
 rintro e4 w4 ⟨j, u', S3, H3, C3, rfl, s3, hS, hC3, hj, hun, hnn', hA3', hX3, hK3⟩
 refine ⟨_, U, ?_⟩
 obtain ⟨c2, hi3⟩ := hX3.1 i _ hi2
 have hc2e : c2 = s.c2 := by
  obtain ⟨s', h1, h2⟩ := hK3 i _ hi2 (fun h => by
   obtain ⟨⟨b, o, l, c, h2⟩, _⟩ := hnn
   have h : s.c2 = vN := h
   rw [h] at h2; cases h2)
  rw [hi3] at h1
  cases h1
  exact h2
 have hO3 := (hO2.mono s3).ext hX3
 have hB3 := hB2.trans (hX3.toB i)
 obtain ⟨bp', bm', ap', es', clk', he1, hbox', hap', rfl, hes'⟩ := hC3
 cases he1
 refine V0 U U (Y2 Yc9 U U (Y1 u'.c2 Zp5 U (hS.own u'.chunk (mem_cons_of_mem _ (mem_append_left _ (mem_map.2 ⟨u', mem_of_getElem? hj, U⟩)))) U U (X2 call154 (S4 U) U (Ym4 hbd hnn'.2 hS) ?_)))
 rintro y H5 w5 s5 hS hy
 have hy : Y3 (X3 (Y4 .i64)) H5 y bd := hy
 refine V0 U U (Y2 Xf4 U U ?_)
 have hS := Yy0 hS hi3
 have hil3 := (List.getElem?_eq_some_iff.1 hi3).1
 refine Ze6 (v := y) (cs := #[s.v0, s.v1, c2, kv, s.c4, s.c5]) (cs' := #[s.v0, s.v1, c2, kv, y, s.c5]) Zp5 U U hS hy.isOne U (nl U) U ?_
 intro w6 hS
 have hS := Xl4 (s := { s with c2 := c2, c3 := kv, c4 := y }) hil3 hS
 refine Z2 (hJ _ _ ⟨S3.set i { s with c2 := c2, c3 := kv, c4 := y }, { s with c2 := c2, c3 := kv, c4 := y }, H5, _, (s2.trans s3).trans s5, hS, ⟨bp, bm', ap', es', clk', U, s5.1 _ _ hbox', hap'.mono s5, U, hes'.trans (Yx9 (s' := { s with c2 := c2, c3 := kv, c4 := y }) hi3 U U).symm⟩, by rw [getElem?_set, if_pos U, if_pos hil3], hsn, U, U, ⟨hc2e, (hnn2.mono s3).mono s5⟩, (hnk.mono s3).mono s5, hy, (hA3'.mono s5).set hi3 U U U U U, Yd9.set (hO3.mono s5), hB3.trans (Yb4.set (s' := { s with c2 := c2, c3 := kv, c4 := y }) hi3 U U U U), t5⟩)
def Zb1 (K : Nat) (x : AlX) (n : Int) : Option Bool := (Zj3 K x.1 n 120).map Prod.snd
theorem Xn8 {K : Nat} {x : AlX} {n : Int} {b : Bool} (q0 : Zb1 K x n = some b) {H : FH} {w : World} {L : OL} {bp : Nat} {ap m : Value} (hbox : H bp = some (.cells #[ap, m] 187)) (hap : Zt4 Yw1 H ap x) (hS : St H w L) :
    Calls prog 150 #[vP bp, vI n] w (T4 (fun v _ => v = vB b) H L) := by
  obtain ⟨⟨M, mb⟩, hM, hb⟩ := Option.map_eq_some_iff.1 q0
  obtain rfl : mb = b := hb
  obtain ⟨ab, ao, rfl⟩ := hap.val
  refine X0 func150 U ntmps150 U ?_
  repeat refine Z1 ?_
  refine Z0 (Z5 (vB false) U U (Z2 ?_))
  repeat refine Z1 ?_
  refine Z0 (Z3 (vP bp) U U (V0 U U (Y2 Xf0 U U (Y1 (vQ ab ao) Wk8 U (hS.froz _ _ hbox) U U (V0 U U (Y2 Xn6 U U ?_))))))
  obtain ⟨_, _, acs, aE, _, hap1, hab, ⟨_, _, rfl, ⟨dv, rfl, hdeg⟩, ⟨fv, rfl, hfms⟩⟩, hac⟩ := id hap
  cases hap1
  refine Y1 dv Q9 U (hS.froz _ _ hab) (hac 0 (by decide)) U (Z3 (vI n) U U (U9 call231 (I3 U U U) U (Ye8 hM hdeg hS) ?_))
  rintro e3 w3 ⟨_, H3, rfl, s3, hS, v0, v1, rfl, hv0, hv1⟩
  have hv1 : v1 = vB mb := hv1
  subst hv1
  refine ⟨_, U, ?_⟩
  refine Z3 _ U U (V1 v0 U U U (V1 (vB mb) U U U (Z5 v0 U U (Z5 (vB mb) U U (Z2 ?_)))))
  repeat refine Z1 ?_
  refine Z0 (Z3 (vB mb) U U (Z5 (vB mb) U U (Z2 (Y9 (vs := [vB mb]) func150 Ut ⟨_, _, U, s3, hS, U⟩))))
def Wl4 (K : Nat) (x : AlX) (n : Int) : Option Bool :=
  if -1099511627776 ≤ n ∧ n ≤ 1099511627776 then (Zb1 K x (n - 1)).bind fun a => if a = true then (Zb1 K x n).bind fun b => if b = true then Zb1 K x (n + 1) else some false else some false else none
def arN (K : Nat) (x : AlX) : List Int → Option Int
  | [] => some 0
  | n :: ns => (Wl4 K x n).bind fun b => if b = true then arN K x ns else some 3
theorem Wo8 {K : Nat} {x : AlX} {ds : List Int} {r : Int} (q0 : arN K x ds = some r) {H : FH} {w : World} {L : OL} {bp : Nat} {ap m s1 : Value} (hbox : H bp = some (.cells #[ap, m] 187)) (hap : Zt4 Yw1 H ap x) (hs1 : Y3 (Y4 .i64) H s1 ds) (hS : St H w L) :
    Calls prog 175 #[vP bp, s1] w (T4 (fun v _ => v = vI r) H L) := by
  have hb1 := hs1.bound
  refine X0 func175 U ntmps175 U ?_
  repeat refine Z1 ?_
  refine Z0 (Z5 (vI 0) U U (Z2 ?_))
  repeat refine Z1 ?_
  refine Z0 (Z3 s1 U U (X9 T1 U hs1 U (Z3 (vI 0) U U (Z2 (Y8 ?_)))))
  refine W3 (id := 0) (fun k f w => ∃ (m : Nat) (H1 : FH), m ≤ ds.length ∧ ds.length < m + k ∧ arN K x (ds.drop m) = some r ∧ Sub H H1 ∧ St H1 w L ∧ tv f 0 = vP bp ∧ tv f 7 = s1 ∧ tv f 8 = vI (ds.length : Int) ∧ tv f 9 = vI (m : Int))
    (fun f w => ∃ H1, r = 0 ∧ Sub H H1 ∧ St H1 w L) U ?_ ?_ (ds.length + 1) ?_ ?_
  · rintro f w ⟨m, H1, h1, h2, _⟩; omega
  · rintro k f w ih hx ⟨m, H1, h1, h2, heq, Z4, hS, t0, t7, t8, t9⟩
    repeat refine Z1 ?_
    refine Z0 (V4 (k := .i64) (a := m) (b := ds.length) (by exact t9) (by exact t8) U (Z2 ?_))
    repeat refine Z1 ?_
    by_cases hm : (m : Int) < (ds.length : Int)
    · have hm' : m < ds.length := by omega
      rw [show ds.drop m = ds[m] :: ds.drop (m + 1) from (getElem_cons_drop ..).symm, arN] at heq
      obtain ⟨b, hb, heq⟩ := bSm heq
      unfold Wl4 at hb
      by_cases hg : -1099511627776 ≤ ds[m] ∧ ds[m] ≤ 1099511627776
      case neg => rw [if_neg hg] at hb; cases hb
      rw [if_pos hg] at hb
      obtain ⟨g1, g2⟩ := hg
      obtain ⟨b1, hb1', hb⟩ := bSm hb
      generalize hn : ds[m] = n at g1 g2 hb1' hb
      have hn2 : i64.wrap (n - 1) = n - 1 := i64_in _ (by omega)
      have hn3 : i64.wrap (n + 1) = n + 1 := i64_in _ (by omega)
      refine Z8 (bT hm U) (Y6 ?_)
      repeat refine Z1 ?_
      refine Y8 ?_
      repeat refine Z1 ?_
      refine Z0 ?_
      obtain ⟨bb, of, cs, E, _, hp, hbb, hu, hc⟩ := (hs1.mono Z4).elem (i := (m : Int)) (by omega) hm
      refine X6 T1 U (by exact t7) hp (by exact t9) (by omega) hm U ?_
      have hrd : rd ds (m : Int) = n := by unfold rd; rw [Int.toNat_natCast, P2 hm', hn]
      rw [hrd] at hu
      cases hu
      refine Y1 (vI n) ty2 U (hS.froz _ _ hbb) (hc 0 (show 0 < 1 by decide)) U (Z5 (vI n) U U (Z2 ?_))
      repeat refine Z1 ?_
      refine Z0 (Z3 (vP bp) (by exact t0) U (Z3 (vI n) U U (Zg8 (n - 1) U U hn2 U (X2 call150 (W8 U U) U (Xn8 hb1' (Z4.1 _ _ hbox) (hap.mono Z4) hS) ?_))))
      rintro _ G1 w1 s1' hS rfl
      have Z4 := Z4.trans s1'
      refine P5 (b := b1) U U (Z3 (vB (!b1)) U U ?_)
      cases b1 with
      | false =>
        rw [if_neg (by decide)] at hb
        obtain rfl := oi hb
        rw [if_neg (by decide)] at heq
        have heq := oi heq
        refine Z9 (b' := true) U U U U U U (Z9 (b' := true) U U U U U U (Z9 (b' := true) U U U U U U (Z9 (b' := true) U U U U U U (W5 (t := true) (vB true) U U U (Z3 (vB true) U U (Z9 (b' := true) U U U U U U (Z9 (b' := true) U U U U U U (Z9 (b' := true) U U U U U U (Z9 (b' := true) U U U U U U (Z9 (b' := true) U U U U U U (W5 (t := true) (vB true) U U U (Z2 ?_))))))))))))
        repeat refine Z1 ?_
        refine Z8 U ?_
        repeat refine Z1 ?_
        refine Z0 (Z5 (vI 3) U U (Z2 (Y9 (vs := [vI 3]) func175 Ut ⟨_, _, U, Z4, hS, by rw [← heq]; rfl⟩)))
      | true =>
      rw [if_pos U] at hb
      obtain ⟨b2, hb2, hb⟩ := bSm hb
      refine Y0 (b := false) U U U (Z3 (vP bp) (by exact t0) U (Y0 (b := false) U U U (Z3 (vI n) U U (Y0 (b := false) U U U (X2 call150 (W8 U U) U (Xn8 hb2 (Z4.1 _ _ hbox) (hap.mono Z4) hS) ?_)))))
      rintro _ G2 w2 s2' hS rfl
      have Z4 := Z4.trans s2'
      refine Y0 (b := false) U U U (P5 (b := b2) U U (W5 (t := false) (vB (!b2)) U U U (Z3 (vB (!b2)) U U ?_)))
      cases b2 with
      | false =>
        rw [if_neg (by decide)] at hb
        obtain rfl := oi hb
        rw [if_neg (by decide)] at heq
        have heq := oi heq
        refine Z9 (b' := true) U U U U U U (Z9 (b' := true) U U U U U U (Z9 (b' := true) U U U U U U (Z9 (b' := true) U U U U U U (Z9 (b' := true) U U U U U U (W5 (t := true) (vB true) U U U (Z2 ?_))))))
        repeat refine Z1 ?_
        refine Z8 U ?_
        repeat refine Z1 ?_
        refine Z0 (Z5 (vI 3) U U (Z2 (Y9 (vs := [vI 3]) func175 Ut ⟨_, _, U, Z4, hS, by rw [← heq]; rfl⟩)))
      | true =>
      rw [if_pos U] at hb
      refine Y0 (b := false) U U U (Z3 (vP bp) (by exact t0) U (Y0 (b := false) U U U (Z3 (vI n) U U (Y0 (b := false) U U U (W4 (n + 1) U U hn3 U (Y0 (b := false) U U U (X2 call150 (W8 U U) U (Xn8 hb (Z4.1 _ _ hbox) (hap.mono Z4) hS) ?_)))))))
      rintro _ G3 w3 s3' hS rfl
      have Z4 := Z4.trans s3'
      refine Y0 (b := false) U U U (P5 (b := b) U U (W5 (t := false) (vB (!b)) U U U (Z2 ?_)))
      cases b with
      | false =>
        rw [if_neg (by decide)] at heq
        have heq := oi heq
        repeat refine Z1 ?_
        refine Z8 U ?_
        repeat refine Z1 ?_
        refine Z0 (Z5 (vI 3) U U (Z2 (Y9 (vs := [vI 3]) func175 Ut ⟨_, _, U, Z4, hS, by rw [← heq]; rfl⟩)))
      | true =>
      rw [if_pos U] at heq
      repeat refine Z1 ?_
      refine Z6 U (Y6 (X1 (Z0 (W4 ((m : Int) + 1) (by exact t9) U (i64_in _ (by omega)) U (Z3 (vI ((m : Int) + 1)) U U (Z2 (ih _ _ ⟨m + 1, G3, by omega, by omega, heq, Z4, hS, t0, t7, t8, by show vI ((m : Int) + 1) = vI ((m + 1 : Nat) : Int); rw [Int.natCast_add]; rfl⟩)))))))
    · refine Z6 (bF hm U) (W2 U ?_)
      have e : m = ds.length := by omega
      subst e
      rw [drop_length, arN] at heq
      exact hx _ _ ⟨H1, (oi heq).symm, Z4, hS⟩
  · exact ⟨0, H, by omega, by omega, q0, .refl _, hS, U, U, U, U⟩
  · rintro f w ⟨H1, rfl, Z4, hS⟩
    repeat refine Z1 ?_
    refine Z0 (Z5 (vI 0) U U (Z2 (Y9 (vs := [vI 0]) func175 Ut ⟨_, _, U, Z4, hS, U⟩)))
end Go.Proofs.YtabofnehiclkiaaGreat
