/- Walks of functions: each computes its pure function, if that gives a value. -/
import Derived.Test.YtabofnehiclkiaaGreatXTy
import Derived.Test.YtabofnehiclkiaaGreatXF12
import Derived.Test.YtabofnehiclkiaaGreatXF1
import Derived.Test.YtabofnehiclkiaaGreatXF14
import Derived.Test.YtabofnehiclkiaaGreatXF9
import Derived.Test.YtabofnehiclkiaaGreatXF4
import Derived.Test.YtabofnehiclkiaaGreatXF13
import Derived.Test.YtabofnehiclkiaaGreatXF2
namespace Go.Proofs.YtabofnehiclkiaaGreat
open Go
set_option linter.unusedSimpArgs false
set_option linter.unusedVariables false
set_option maxRecDepth 100000
set_option maxHeartbeats 8000000
variable {K : Nat} {H : FH} {w : World} {L : OL} {s0 s1 s2 s3 s4 s5 s6 : Value}
-- impl_number impl_sum_times
theorem Wg6 : Xb1 Tryz.prog 254 315 := Vh6 Tryz.underlying254 Tryz.underlying315 Tryz.underlying3 Tryz.info3_ rfl Tryz.zeroValue107
theorem Xn8 : Yb7 Tryz.prog 257 3 3 := ⟨fun b o w => by simp [Instr.fieldAt, Instr.sureAddr, fieldPlace, Tryz.runUnderlying257, Tryz.sizeOf254, G9]⟩
theorem Wh2 : TyI Tryz.prog 254 false 1 := ⟨Tryz.isAgg254, Tryz.sizeOf254⟩
theorem Xt6 : TyI Tryz.prog 315 true 2 := ⟨Tryz.isAgg315, Tryz.sizeOf315⟩
theorem Vd5 (a b : Int) (w : World) : (Instr.build 315 #[(0, .int .i64 a), (1, .int .i64 b)]).run Tryz.prog w = .ok (C1 a b) w := by
 simp [Instr.build, Instr.fill, Tryz.zeroValue315, Tryz.runUnderlying315, Tryz.sizeOf3, Value.cells, C1, Sem.run_bind]
theorem Va9 : ∀ w, (zeroValue 315).run Tryz.prog w = .ok (.agg #[.int .i64 0, .int .i64 0]) w := Tryz.zeroValue315
theorem Ws5 {n : Nat} {f : Fr} {w : World} {ops : Array Oper} {J : Fr → World → Prop} {r : List Oper} {T' : TypeId} {d : Nat} {pos : String} {af : Array Edge} {x y : Operand} {a b : Int}
 (hx : ev f x = .int .i64 a) (hy : ev f y = .int .i64 b) (hn : Nat.blt d n = true) (K : W2 Tryz.prog n ops J r (upd f d (C1 a b)) w) : W2 Tryz.prog n ops J (⟨some d, .build 315 #[(0, x), (1, y)], T', pos, af, none⟩ :: r) f w :=
 T3 rfl rfl hn (by simp [execOp, hx, hy, Vd5]) K
theorem Vg2 {n : Nat} {f : Fr} {w : World} {ops : Array Oper} {J : Fr → World → Prop} {r : List Oper} {T' : TypeId} {d : Nat} {pos : String} {af : Array Edge} {x y : Operand} {b : Nat} {i e : Int} {u : Value}
 (hr : (Instr.lookup 254 (.map (some b)) (C1 i e) true).run Tryz.prog w = .ok u w) (hx : ev f x = .map (some b)) (hy : ev f y = C1 i e) (hn : Nat.blt d n = true)
 (K : W2 Tryz.prog n ops J r (upd f d u) w) : W2 Tryz.prog n ops J (⟨some d, .lookup 254 x y true, T', pos, af, none⟩ :: r) f w :=
 T3 rfl rfl hn (by simp only [execOp, hx, hy, Sem.run_bind, hr]; rfl) K
theorem Vg9 {n : Nat} {f : Fr} {w w' : World} {ops : Array Oper} {J : Fr → World → Prop} {r : List Oper} {T' : TypeId} {pos : String} {af : Array Edge} {x y z : Operand} {b : Nat} {i e : Int} {u : Value}
 (hr : (Instr.mapUpdate 254 (.map (some b)) (C1 i e) u).run Tryz.prog w = .ok () w') (hx : ev f x = .map (some b)) (hy : ev f y = C1 i e) (hz : ev f z = u)
 (K : W2 Tryz.prog n ops J r f w') : W2 Tryz.prog n ops J (⟨none, .mapUpdate 254 x y z, T', pos, af, none⟩ :: r) f w :=
 Yk8 rfl rfl (by simp only [execOp, hx, hy, hz, Sem.run_bind, hr]; rfl) K
theorem Xf3 (K : Nat) : ∀ (n : Nat) {a0 : LdT} {a1 a2 : Int} {r : MpT}, a2.toNat = n → L0 K a0 a1 a2 = some r → ∀ {H : FH} {w : World} {L : OL} {s0 : Value}, Zn2 (Xs5 K) H s0 a0 → St H w L →
 Calls Tryz.prog 271 #[s0, Value.int .i64 a1, Value.int .i64 a2] w (T2 (fun v G => (R.mp .i64).p G v r) H L) := by
 intro n
 induction n with
 | zero =>
  intro a0 a1 a2 r hn q0 H w L s0 hs0 hS
  unfold L0 at q0
  by_cases hg : 0 ≤ a2 ∧ a2 ≤ 4611686018427387904
  case neg => rw [if_neg hg] at q0; cases q0
  rw [if_pos hg, hn] at q0
  have h0 : a2 = 0 := by omega
  refine X3 Tryz.func271 rfl Tryz.ntmps271 rfl ?_
  refine Z2 ?_
  refine Z0 ?_
  refine Z5 (Value.map none) rfl rfl ?_
  refine Z1 ?_
  refine Z2 ?_
  refine Z2 ?_
  refine Z0 ?_
  refine Z4 (Value.int .i64 a2) rfl rfl ?_
  refine Zc2 (k := .i64) (a := a2) (b := 0) rfl rfl rfl ?_
  refine Z1 ?_
  refine Y0 (congrArg vB (decide_eq_true h0)) ?_
  refine Z2 ?_
  refine Z0 ?_
  refine T5 Tryz.call270 Wu4 rfl (Yn0 (show Zn3 K = some r from q0) hS) ?_
  rintro _ w1 ⟨m1, H1, _, rfl, sb1, hS, ho1⟩
  refine ⟨_, rfl, ?_⟩
  refine Z5 (m1) rfl rfl ?_
  refine Z1 ?_
  refine X0 (vs := [m1]) Tryz.func271 ⟨rfl, trivial⟩ ?_
  obtain ⟨_, sb2, hS, hf⟩ := ho1.freeze hS
  exact ⟨_, _, rfl, sb1.trans sb2, hS, hf⟩
 | succ n ih =>
  intro a0 a1 a2 r hn q0 H w L s0 hs0 hS
  have qq := q0
  unfold L0 at q0
  by_cases hg : 0 ≤ a2 ∧ a2 ≤ 4611686018427387904
  case neg => rw [if_neg hg] at q0; cases q0
  rw [if_pos hg, hn] at q0
  have h0 : ¬ a2 = 0 := by omega
  unfold pwN at q0
  by_cases hi : 0 ≤ a1 ∧ a1 < (a0.2.2.length : Int)
  case neg => rw [if_neg hi] at q0; cases q0
  rw [if_pos hi] at q0
  obtain ⟨_, _⟩ := hi
  obtain ⟨r48, hp48, hr⟩ := bind_some q0
  have hn48 : (a2 - 1).toNat = n := by omega
  have hr48 : L0 K (a0.1, a0.2.1, a0.2.2) a1 (a2 - 1) = some r48 := by
   unfold L0
   rw [if_pos (by omega), hn48]; exact hp48
  obtain ⟨bs0, os0, _, _, _, rfl, hbs0, ⟨_, us0p_1, us0p_2, bms0p, rfl, hus0p_0, hus0p_1, hus0p_2, hms0p⟩, hcs0⟩ := hs0
  refine X3 Tryz.func271 rfl Tryz.ntmps271 rfl ?_
  refine Z2 ?_
  refine Z0 ?_
  refine Z5 (Value.map none) rfl rfl ?_
  refine Z1 ?_
  refine Z2 ?_
  refine Z2 ?_
  refine Z0 ?_
  refine Z4 (Value.int .i64 a2) rfl rfl ?_
  refine Zc2 (k := .i64) (a := a2) (b := 0) rfl rfl rfl ?_
  refine Z1 ?_
  refine Z8 (congrArg vB (decide_eq_false h0)) ?_
  refine Y8 ?_
  refine Z2 ?_
  refine Z0 ?_
  refine Z4 (Value.int .i64 a1) rfl rfl ?_
  refine Z4 (Value.int .i64 a2) rfl rfl ?_
  refine Ws5 (a := a1) (b := a2) rfl rfl rfl ?_
  refine W6 (z := .agg #[.int .i64 0, .int .i64 0]) #[.int .i64 0, .int .i64 0] Va9 rfl hS rfl ?_
  intro b7 _ hS
  refine X5 (v := C1 a1 a2) (vs := #[.int .i64 a1, .int .i64 a2]) (cs := #[.int .i64 0, .int .i64 0]) Xt6 rfl rfl rfl hS rfl (by intro u hu; simp at hu; rcases hu with rfl | rfl <;> rfl) rfl ?_
  intro _ hS
  refine Z1 ?_
  obtain ⟨o, ⟨es, clock, rfl, hI⟩, hS⟩ := hS.takeM hms0p
  obtain ⟨u0, b0, hlk, hlkq⟩ := Wa1 Wg6 a1 a2 (b := bms0p) (clock := clock) (fun m hm => let ⟨i, e, t, h, _⟩ := hI m hm; ⟨i, e, h⟩)
  have hq : b0 = true → Q9 .i64 H u0 r := by
   intro hb
   obtain ⟨m, hm, hk, rfl⟩ := hlkq hb
   obtain ⟨i, e, t, hk', hp, hv⟩ := hI m hm
   obtain ⟨rfl, rfl⟩ := Wr4 (hk.symm.trans hk')
   rw [qq] at hp; cases hp
   exact hv.fr rfl
  refine Z2 ?_
  refine Z2 ?_
  refine U1 11 (P0 [mE 18 (vQ bs0 os0), mE 19 (vQ bs0 os0), mE 20 (vQ bs0 (os0 + 3)), mE 21 (Value.map (some bms0p)), mE 22 (C1 a1 a2),
   mE 23 (.tuple #[u0, .bool b0]), mE 17 (.tuple #[u0, .bool b0]), (24, MP.eq u0), mE 25 (.bool b0), (8, MP.eq u0), mE 9 (.bool b0)]) [] mixed rfl rfl rfl hS
   (Z6 rfl ?_ (Z6 rfl ?_ (Z6 rfl ?_ (Z6 rfl ?_ (Z6 rfl ?_ (Z6 rfl ?_ (Z6 rfl ?_ (Z6 rfl ?_ (Z6 rfl ?_ (Z6 rfl ?_ (Z6 rfl ?_ U7))))))))))) ?_
  intro f1 w1 H1 X1 sb hS hB hV hcq
  refine Z4 (vQ bs0 os0) (Eq.trans (hB 0 rfl) rfl) rfl ?_
  exact Z1 ⟨18, _, _, rfl, rfl, Sub.refl _, hS, rfl⟩
  intro f1 w1 H1 X1 sb hS hB hV hcq
  have q : tv f1 18 = vQ bs0 os0 := hV 0 18 rfl rfl
  refine R9 q rfl ?_
  exact Z1 ⟨19, _, _, rfl, rfl, Sub.refl _, hS, rfl⟩
  intro f1 w1 H1 X1 sb hS hB hV hcq
  have q : tv f1 19 = vQ bs0 os0 := hV 1 19 rfl rfl
  refine Y2 Xn8 q rfl ?_
  exact Z1 ⟨20, _, _, rfl, rfl, Sub.refl _, hS, rfl⟩
  intro f1 w1 H1 X1 sb hS hB hV hcq
  have q : tv f1 20 = vQ bs0 (os0 + 3) := hV 2 20 rfl rfl
  refine Y3 (Value.map (some bms0p)) Wh2 q (hS.froz _ _ (sb.1 _ _ hbs0)) (hcs0 3 (show 3 < 4 by decide)) rfl ?_
  exact Z1 ⟨21, _, _, rfl, rfl, Sub.refl _, hS, rfl⟩
  intro f1 w1 H1 X1 sb hS hB hV hcq
  have q : tv f1 7 = vQ b7 0 := Eq.trans (hB 7 rfl) rfl
  refine X7 Xt6 q (hS.own (b7, .cells #[.int .i64 a1, .int .i64 a2] 315) (List.mem_append_right _ (List.mem_append_right _ (List.mem_cons_self ..)))) rfl rfl ?_
  exact Z1 ⟨22, _, _, rfl, rfl, Sub.refl _, hS, rfl⟩
  intro f1 w1 H1 X1 sb hS hB hV hcq
  have q1 : tv f1 21 = Value.map (some bms0p) := hV 3 21 rfl rfl
  have q2 : tv f1 22 = C1 a1 a2 := hV 4 22 rfl rfl
  refine Vg2 (hlk w1 (hS.own (bms0p, .map es clock) (List.mem_append_right _ (List.mem_append_left _ (List.mem_singleton.2 rfl))))) q1 q2 rfl ?_
  exact Z1 ⟨23, _, _, rfl, rfl, Sub.refl _, hS, rfl⟩
  intro f1 w1 H1 X1 sb hS hB hV hcq
  have q : tv f1 23 = .tuple #[u0, .bool b0] := hV 5 23 rfl rfl
  refine Z4 _ q rfl ?_
  exact Z1 ⟨17, _, _, rfl, rfl, Sub.refl _, hS, rfl⟩
  intro f1 w1 H1 X1 sb hS hB hV hcq
  have q : tv f1 17 = .tuple #[u0, .bool b0] := hV 6 17 rfl rfl
  refine W4 u0 q rfl rfl ?_
  exact Z1 ⟨24, _, _, rfl, rfl, Sub.refl _, hS, rfl⟩
  intro f1 w1 H1 X1 sb hS hB hV hcq
  have q : tv f1 17 = .tuple #[u0, .bool b0] := hV 6 17 rfl rfl
  refine W4 (.bool b0) q rfl rfl ?_
  exact Z1 ⟨25, _, _, rfl, rfl, Sub.refl _, hS, rfl⟩
  intro f1 w1 H1 X1 sb hS hB hV hcq
  have q : tv f1 24 = u0 := hV 7 24 rfl rfl
  refine Z5 u0 q rfl ?_
  exact Z1 ⟨8, _, _, rfl, rfl, Sub.refl _, hS, rfl⟩
  intro f1 w1 H1 X1 sb hS hB hV hcq
  have q : tv f1 25 = .bool b0 := hV 8 25 rfl rfl
  refine Z5 (.bool b0) q rfl ?_
  exact Z1 ⟨9, _, _, rfl, rfl, Sub.refl _, hS, rfl⟩
  intro f4 w4 H4 hs4 hS hB hV hcq
  have hS : St H4 w4 ([(bms0p, .map es clock)] ++ ([(b7, .cells #[.int .i64 a1, .int .i64 a2] 315)] ++ L)) := hS
  obtain ⟨_, Z3, _, hS⟩ := hS.backM hs4 hms0p (Yy4 K a0) (Yy4 K a0 _ _ _ hs4.1 ⟨es, clock, rfl, hI⟩)
  have g0 : tv f4 0 = vQ bs0 os0 := Eq.trans (hB 0 rfl) rfl
  have g1 : tv f4 1 = Value.int .i64 a1 := Eq.trans (hB 1 rfl) rfl
  have g2 : tv f4 2 = Value.int .i64 a2 := Eq.trans (hB 2 rfl) rfl
  have g7 : tv f4 7 = vQ b7 0 := Eq.trans (hB 7 rfl) rfl
  have g8 : tv f4 8 = u0 := hV 9 8 (by decide) rfl
  have g9 : tv f4 9 = .bool b0 := hV 10 9 (by decide) rfl
  have hus0p_0 := hus0p_0.mono Z3
  have hus0p_1 := hus0p_1.mono Z3
  have hus0p_2 := hus0p_2.mono Z3
  have hms0p := hms0p.mono Z3
  have hbs0 := Z3.1 _ _ hbs0
  refine Z1 ?_
  refine Z2 ?_
  refine Z0 ?_
  refine Z4 (.bool b0) g9 rfl ?_
  refine Z1 ?_
  by_cases hb0 : b0 = true
  refine Y0 (congrArg vB hb0) ?_
  refine Z2 ?_
  refine Z0 ?_
  refine Z4 u0 (by exact g8) rfl ?_
  refine Z5 u0 rfl rfl ?_
  refine Z1 ?_
  refine X0 (vs := [u0]) Tryz.func271 ⟨rfl, trivial⟩ ?_
  exact ⟨_, _, rfl, Z3, hS.dropA, (hq hb0).mono Z3⟩
  refine Z8 (congrArg vB (by simpa using hb0)) ?_
  refine Y8 ?_
  refine Z2 ?_
  obtain ⟨b163, o163, _, _, _, hp163, hb163, ⟨u163, rfl, hu163⟩, hc163⟩ := hus0p_2.elem (i := a1) (by omega) (by omega)
  refine U1 18 (P0 [mE 28 (vQ bs0 os0), mE 29 (Value.int .i64 a1), mE 30 (Value.int .i64 a2), mE 31 (Value.int .i64 (a2 - 1)), (32, MP.rep (R.mp .i64) (r48)), mE 33 (vQ bs0 os0), mE 34 (vQ bs0 os0), mE 35 (vQ bs0 (os0 + 1)), mE 36 (us0p_1), mE 37 (vQ bs0 os0), mE 38 (vQ bs0 os0), mE 39 (vQ bs0 (os0 + 2)), mE 40 (us0p_2), mE 41 (Value.int .i64 a1), mE 42 (vQ b163 o163), mE 43 (u163), (44, MP.mp .i64 (r)), (10, MP.mp .i64 (r))]) [] mixed rfl rfl rfl hS (Z6 rfl ?_ (Z6 rfl ?_ (Z6 rfl ?_ (Z6 rfl ?_ (Z6 rfl ?_ (Z6 rfl ?_ (Z6 rfl ?_ (Z6 rfl ?_ (Z6 rfl ?_ (Z6 rfl ?_ (Z6 rfl ?_ (Z6 rfl ?_ (Z6 rfl ?_ (Z6 rfl ?_ (Z6 rfl ?_ (Z6 rfl ?_ (Z6 rfl ?_ (Z6 rfl ?_ U7)))))))))))))))))) ?_
  exact W5 fun S B => Z4 (vQ bs0 os0) (evT (B 0 rfl) (by exact g0)) rfl (qz S)
  exact W5 fun S B => Z4 (Value.int .i64 a1) (evT (B 1 rfl) (by exact g1)) rfl (qz S)
  exact W5 fun S B => Z4 (Value.int .i64 a2) (evT (B 2 rfl) (by exact g2)) rfl (qz S)
  exact X2 fun S V => Yg5 (a2 - 1) (eM (V 2 30 rfl rfl)) rfl (IntWalk.i64_in _ (by omega)) rfl (qz S)
  intro f37 _ H39 _ sb41 hS _ hV43 hcq
  have Z3 := Sub.refl H39
  have hus0p_0 := hus0p_0.mono sb41
  have hus0p_1 := hus0p_1.mono sb41
  have hus0p_2 := hus0p_2.mono sb41
  have hms0p := hms0p.mono sb41
  have hbs0 := sb41.1 _ _ hbs0
  have q45 : tv f37 28 = vQ bs0 os0 := hV43 0 28 rfl rfl
  have q46 : tv f37 29 = Value.int .i64 a1 := hV43 1 29 rfl rfl
  have q47 : tv f37 31 = Value.int .i64 (a2 - 1) := hV43 3 31 rfl rfl
  refine X6 Tryz.call271 (G7 q45 q46 q47) rfl (ih hn48 hr48 ⟨_, _, _, _, _, rfl, hbs0, ⟨_, _, _, _, rfl, hus0p_0, hus0p_1, hus0p_2, hms0p⟩, hcs0⟩ hS) ?_
  rintro _ _ _ sb48 hS hk48
  have Z3 := Z3.trans sb48
  exact Z1 ⟨32, _, _, rfl, rfl, Z3, hS, hk48⟩
  exact W5 fun S B => Z4 (vQ bs0 os0) (evT (B 0 rfl) (by exact g0)) rfl (qz S)
  exact X2 fun S V => R9 (eM (V 5 33 rfl rfl)) rfl (qz S)
  exact X2 fun S V => Y2 Xx5 (eM (V 6 34 rfl rfl)) rfl (qz S)
  exact E6 fun s S V => Y3 (us0p_1) M9 (eM (V 7 35 rfl rfl)) (S.froz _ _ (s.1 _ _ hbs0)) (hcs0 1 (show 1 < 4 by decide)) rfl (qz S)
  exact W5 fun S B => Z4 (vQ bs0 os0) (evT (B 0 rfl) (by exact g0)) rfl (qz S)
  exact X2 fun S V => R9 (eM (V 9 37 rfl rfl)) rfl (qz S)
  exact X2 fun S V => Y2 Xg3 (eM (V 10 38 rfl rfl)) rfl (qz S)
  exact E6 fun s S V => Y3 (us0p_2) Yn4 (eM (V 11 39 rfl rfl)) (S.froz _ _ (s.1 _ _ hbs0)) (hcs0 2 (show 2 < 4 by decide)) rfl (qz S)
  exact W5 fun S B => Z4 (Value.int .i64 a1) (evT (B 1 rfl) (by exact g1)) rfl (qz S)
  exact X2 fun S V => X9 Yj5 rfl (eM (V 12 40 rfl rfl)) hp163 (eM (V 13 41 rfl rfl)) (by omega) (by omega) rfl (qz S)
  exact E6 fun s S V => Y3 (u163) Xi8 (eM (V 14 42 rfl rfl)) (S.froz _ _ (s.1 _ _ hb163)) (hc163 0 (show 0 < 1 by decide)) rfl (qz S)
  intro f173 _ H175 _ sb177 hS _ hV179 hcq
  have Z3 := Sub.refl H175
  have hus0p_0 := hus0p_0.mono sb177
  have hus0p_1 := hus0p_1.mono sb177
  have hus0p_2 := hus0p_2.mono sb177
  have hms0p := hms0p.mono sb177
  have hbs0 := sb177.1 _ _ hbs0
  have hu163 := hu163.mono sb177
  have hb163 := sb177.1 _ _ hb163
  obtain ⟨v182, q181⟩ : ∃ v, tv f173 32 = v := ⟨_, rfl⟩
  have hq182 : (R.mp .i64).p H175 v182 (r48) := q181 ▸ (hV179 4 32 rfl rfl)
  have hu182 := hq182
  have q183 : tv f173 36 = us0p_1 := hV179 8 36 rfl rfl
  have q184 : tv f173 43 = u163 := hV179 15 43 rfl rfl
  refine T5 Tryz.call128 (G7 q181 q183 q184) rfl (Zq9 hr hu182 hus0p_1 hu163 hS) ?_
  rintro _ _ ⟨_, _, _, rfl, sb186, hS, ho186⟩
  refine ⟨_, rfl, ?_⟩
  have Z3 := Z3.trans sb186
  obtain ⟨_, sb190, hS, hu186⟩ := ho186.freeze hS
  have Z3 := Z3.trans sb190
  exact Z1 ⟨44, _, _, rfl, rfl, Z3, hS, hu186⟩
  intro f191 _ H193 _ sb195 hS _ hV197 hcq
  have Z3 := Sub.refl H193
  have hus0p_0 := hus0p_0.mono sb195
  have hus0p_1 := hus0p_1.mono sb195
  have hus0p_2 := hus0p_2.mono sb195
  have hms0p := hms0p.mono sb195
  have hbs0 := sb195.1 _ _ hbs0
  have hu163 := hu163.mono sb195
  have hb163 := sb195.1 _ _ hb163
  obtain ⟨v200, q199⟩ : ∃ v, tv f191 44 = v := ⟨_, rfl⟩
  have hu200 : Q9 .i64 H193 v200 (r) := q199 ▸ (hV197 16 44 rfl rfl)
  refine Z5 (v200) q199 rfl ?_
  exact Z1 ⟨10, _, _, rfl, rfl, Z3, hS, hu200⟩
  intro f5 w5 H6 sb6 hS hB hV hcq
  have hS : St H6 w5 ([(b7, .cells #[.int .i64 a1, .int .i64 a2] 315)] ++ L) := hS
  have Z3 := Z3.trans sb6
  have hms0p := hms0p.mono sb6
  have hbs0 := sb6.1 _ _ hbs0
  have h10 : Q9 .i64 H6 (tv f5 10) r := hV 17 10 (by decide) rfl
  obtain ⟨v10, e10⟩ : ∃ v, tv f5 10 = v := ⟨_, rfl⟩
  rw [e10] at h10
  have k0 : tv f5 0 = vQ bs0 os0 := Eq.trans (hB 0 rfl) g0
  have k7 : tv f5 7 = vQ b7 0 := Eq.trans (hB 7 rfl) g7
  refine Z1 ?_
  refine Z2 ?_
  refine U1 6 (P0 [mE 45 (vQ bs0 os0), mE 46 (vQ bs0 os0), mE 47 (vQ bs0 (os0 + 3)), mE 48 (Value.map (some bms0p)), mE 49 (C1 a1 a2), (50, MP.eq v10)]) [] mixed rfl rfl rfl hS
   (Z6 rfl ?_ (Z6 rfl ?_ (Z6 rfl ?_ (Z6 rfl ?_ (Z6 rfl ?_ (Z6 rfl ?_ U7)))))) ?_
  intro f1 w1 H1 X1 sb hS hB hV hcq
  have q : tv f1 0 = vQ bs0 os0 := Eq.trans (hB 0 rfl) k0
  refine Z4 _ q rfl ?_
  exact Z1 ⟨45, _, _, rfl, rfl, Sub.refl _, hS, rfl⟩
  intro f1 w1 H1 X1 sb hS hB hV hcq
  have q : tv f1 45 = vQ bs0 os0 := hV 0 45 rfl rfl
  refine R9 q rfl ?_
  exact Z1 ⟨46, _, _, rfl, rfl, Sub.refl _, hS, rfl⟩
  intro f1 w1 H1 X1 sb hS hB hV hcq
  have q : tv f1 46 = vQ bs0 os0 := hV 1 46 rfl rfl
  refine Y2 Xn8 q rfl ?_
  exact Z1 ⟨47, _, _, rfl, rfl, Sub.refl _, hS, rfl⟩
  intro f1 w1 H1 X1 sb hS hB hV hcq
  have q : tv f1 47 = vQ bs0 (os0 + 3) := hV 2 47 rfl rfl
  refine Y3 (Value.map (some bms0p)) Wh2 q (hS.froz _ _ (sb.1 _ _ hbs0)) (hcs0 3 (show 3 < 4 by decide)) rfl ?_
  exact Z1 ⟨48, _, _, rfl, rfl, Sub.refl _, hS, rfl⟩
  intro f1 w1 H1 X1 sb hS hB hV hcq
  have q : tv f1 7 = vQ b7 0 := Eq.trans (hB 7 rfl) k7
  refine X7 Xt6 q (hS.own (b7, .cells #[.int .i64 a1, .int .i64 a2] 315) (List.mem_append_right _ (List.mem_cons_self ..))) rfl rfl ?_
  exact Z1 ⟨49, _, _, rfl, rfl, Sub.refl _, hS, rfl⟩
  intro f1 w1 H1 X1 sb hS hB hV hcq
  have q : tv f1 10 = v10 := Eq.trans (hB 10 rfl) e10
  refine Z4 _ q rfl ?_
  exact Z1 ⟨50, _, _, rfl, rfl, Sub.refl _, hS, rfl⟩
  intro f6 w6 H7 sb7 hS hB hV hcq
  have hS : St H7 w6 ([(b7, .cells #[.int .i64 a1, .int .i64 a2] 315)] ++ L) := hS
  have Z3 := Z3.trans sb7
  have hms0p := hms0p.mono sb7
  have h10 := h10.mono sb7
  have j48 : tv f6 48 = Value.map (some bms0p) := hV 3 48 (by decide) rfl
  have j49 : tv f6 49 = C1 a1 a2 := hV 4 49 (by decide) rfl
  have j50 : tv f6 50 = v10 := hV 5 50 (by decide) rfl
  have j10 : tv f6 10 = v10 := Eq.trans (hB 10 rfl) e10
  obtain ⟨_, hup, hS⟩ := Wa2 (P := Tryz.prog) Wg6 a1 a2 hS hms0p qq h10
  refine Vg9 hup j48 j49 j50 ?_
  refine Z1 ?_
  refine Z2 ?_
  refine Z0 ?_
  refine Z4 v10 j10 rfl ?_
  refine Z5 v10 rfl rfl ?_
  refine Z1 ?_
  refine X0 (vs := [v10]) Tryz.func271 ⟨rfl, trivial⟩ ?_
  exact ⟨_, _, rfl, Z3, hS.dropA, h10⟩
theorem Yo6 {a0 : LdT} {a1 a2 : Int} {r : MpT} (q0 : L0 K a0 a1 a2 = some r) (hs0 : Zn2 (Xs5 K) H s0 a0) (hS : St H w L) :
 Calls Tryz.prog 271 #[s0, Value.int .i64 a1, Value.int .i64 a2] w (T2 (fun v G => (R.mp .i64).p G v r) H L) := Xf3 K _ rfl q0 hs0 hS
def F4 (K : Nat) (a3 : (List Int)) (a4 : Int) : Nat → Bool → Int → Option (Ex (((List Int) × (List MpT)) × Int) (Bool))
 | 0, _, _ => none
 | k + 1, b8, a8 => (if a8 < (a3.length : Int) then (if b8 = true then F4 K a3 a4 k true (a8 + 1) else F4 K a3 a4 k (decide ((rd a3 a8) = a4)) (a8 + 1)) else some (.go b8))
def F2 (K : Nat) (a0 : ((List Int) × (List MpT))) (a1 : (List Int)) (a2 : (List MpT)) (a3 : (List Int)) : Nat → Int → (List MpT) → Option (Ex (((List Int) × (List MpT)) × Int) ((List MpT)))
 | 0, _, _ => none
 | k + 1, a4, a6 => (if a4 < (a0.1.length : Int) then ((F4 K a3 a4 K false 0).bind (Ex.elim (fun r => some (.ret r)) (fun s => (fun (c8 : Bool) => (if c8 = true then F2 K a0 a1 a2 a3 k (a4 + 1) a6 else (if a4 < (a0.2.length : Int) then ((Zj8 K a1 a2 (rd a0.2 a4)).bind fun d5 => (if a6.length + ([d5]).length ≤ 1099511627776 then F2 K a0 a1 a2 a3 k (a4 + 1) (a6 ++ [d5]) else none)) else none))) s))) else some (.go a6))
def Zm1 (K : Nat) (a0 : ((List Int) × (List MpT))) (a1 : (List Int)) (a2 : (List MpT)) (a3 : (List Int)) : Option (((List Int) × (List MpT)) × Int) := ((F2 K a0 a1 a2 a3 K 0 ([] : List MpT)).bind (Ex.elim (fun r => some r) (fun s => (fun (b3 : (List MpT)) => ((Zf5 K a1 b3).bind fun c1 => (if c1.2 = 0 then some ((a1, b3), 0) else some ((([] : List Int), ([] : List MpT)), c1.2)))) s)))
theorem Yv9 {a0 : ((List Int) × (List MpT))} {a1 : (List Int)} {a2 : (List MpT)} {a3 : (List Int)} {r : (((List Int) × (List MpT)) × Int)} (q0 : Zm1 K a0 a1 a2 a3 = some r) (c0 : Z9 (Y6 .i64) H s0 a0.1) (c2 : Z9 (Y9 yT) H s1 a0.2) (b2 : Z9 (Y6 .i64) H s2 a1) (c3 : Z9 (Y9 yT) H s3 a2) (c4 : Z9 (Y6 .i64) H s4 a3) (hS : St H w L) :
 Calls Tryz.prog 246 #[vA ([s0] ++ [s1]), s2, s3, s4] w (T2 (fun v G => (R.t2 (R.agg (Zp1 (Y9 (Y6 .i64)) (Y9 (Y9 yT)))) (R.int .i64)).p G v r) H L) := by
 have Z3 := Sub.refl H
 refine X3 Tryz.func246 rfl Tryz.ntmps246 rfl ?_
 unfold Zm1 at q0
 refine Z2 (Z0 ?_)
 refine S3 (v := vA ([s0] ++ [s1])) ([s0] ++ [s1]).toArray rfl rfl hS rfl ?_
 intro b1 _ hS
 refine W6 (z := vA ([vN] ++ [vN])) ([vN] ++ [vN]).toArray Zr4.zero rfl hS rfl ?_
 intro b4 _ hS
 refine Z5 (vI 0) rfl rfl (Z1 (Z2 (Z0 (Z4 (s2) rfl rfl ?_))))
 refine Zl9 ([s2] ++ [vN]) We6 (K6 rfl) (Q5 rfl b2.cellsL rfl (nl rfl) (Zh6 rfl)) rfl ?_
 refine W6 (z := vA ([vN] ++ [vN])) ([vN] ++ [vN]).toArray Zr4.zero rfl hS rfl ?_
 intro b7 _ hS
 refine X5 (v := vA ([s2] ++ [vN])) (vs := ([s2] ++ [vN]).toArray) (cs := ([vN] ++ [vN]).toArray) S5 rfl rfl rfl hS rfl (R8 (U0 b2.isOne) (U0 rfl)) rfl ?_
 intro _ hS
 refine Z1 (Z2 (Z2 (Z0 (Z5 (vI 0) rfl rfl (Z1 (Y7 ?_))))))
 have h7 : W3 (Y9 yT) 45 H (.slice none 0 0) [] [] := W3.nil _ _ _
 obtain ⟨h8, c5, d3⟩ := bind_some q0
 refine W1 (id := 0) (fun k f w => ∃ (a4 : Int) (a6 : (List MpT)) (H1 : FH) (a9 : OL) (a5 : Value), F2 K a0 a1 a2 a3 k a4 a6 = some h8 ∧ Sub H H1 ∧ St H1 w (a9 ++ ([(b7, cA ([s2] ++ [a5]) 31)] ++ ([(b4, cA ([vN] ++ [vN]) 31)] ++ ([(b1, cA ([s0] ++ [s1]) 31)] ++ L)))) ∧ 0 ≤ a4 ∧ W3 (Y9 yT) 45 H1 a5 a6 a9 ∧ Z9 (Y6 .i64) H1 s0 a0.1 ∧ Z9 (Y9 yT) H1 s1 a0.2 ∧ Z9 (Y6 .i64) H1 s2 a1 ∧ Z9 (Y9 yT) H1 s3 a2 ∧ Z9 (Y6 .i64) H1 s4 a3 ∧ tv f 1 = s2 ∧ tv f 2 = s3 ∧ tv f 3 = s4 ∧ tv f 4 = vP b1 ∧ tv f 8 = vP b4 ∧ tv f 10 = vP b7 ∧ tv f 11 = vI a4) (fun f w => ∃ (b3 : (List MpT)) (H1 : FH) (c6 : OL) (b0 : Value), h8 = .go b3 ∧ Sub H H1 ∧ St H1 w (c6 ++ ([(b7, cA ([s2] ++ [b0]) 31)] ++ ([(b4, cA ([vN] ++ [vN]) 31)] ++ ([(b1, cA ([s0] ++ [s1]) 31)] ++ L)))) ∧ W3 (Y9 yT) 45 H1 b0 b3 c6 ∧ Z9 (Y6 .i64) H1 s0 a0.1 ∧ Z9 (Y9 yT) H1 s1 a0.2 ∧ Z9 (Y6 .i64) H1 s2 a1 ∧ tv f 1 = s2 ∧ tv f 8 = vP b4 ∧ tv f 10 = vP b7) rfl ?_ ?_ K ?_ ?_
 rintro f w ⟨a4, a6, H1, a9, a5, c5, _⟩
 rw [F2] at c5; cases c5
 rintro k _ _ j6 k8 ⟨a4, a6, h9, a9, a5, c5, Z3, hS, _, a7, c0, c2, b2, c3, c4, f4, h3, h4, f5, f6, e8, e9⟩
 rw [F2] at c5
 refine Z2 (Z2 (Z0 (Z4 (vI a4) (by exact e9) rfl (Y2 R4 (by exact f5) rfl ?_))))
 refine Y3 (s0) M9 rfl (hS.get (mR (mR (mR mL)))) rfl rfl ?_
 have l0 := c0.bound
 refine W7 Q0 rfl c0 rfl ?_
 refine V5 (k := .i64) (a := a4) (b := (a0.1.length : Int)) rfl rfl rfl (Z1 ?_)
 obtain ⟨g4, c5⟩ | ⟨g4, c5⟩ := ic c5
 refine Y0 (bT g4 rfl) (Y8 (Z2 (Y7 (Z2 (Z0 (Z5 (vB false) rfl rfl (Z1 (Z2 (Z2 (Z0 (Z5 (vI 0) rfl rfl (Z1 (Y7 ?_)))))))))))))
 obtain ⟨i0, b5, b9⟩ := bind_some c5
 refine W1 (id := 2) (fun k f w => ∃ (b8 : Bool) (a8 : Int) (H1 : FH), F4 K a3 a4 k b8 a8 = some i0 ∧ Sub H H1 ∧ St H1 w (a9 ++ ([(b7, cA ([s2] ++ [a5]) 31)] ++ ([(b4, cA ([vN] ++ [vN]) 31)] ++ ([(b1, cA ([s0] ++ [s1]) 31)] ++ L)))) ∧ 0 ≤ a8 ∧ Z9 (Y6 .i64) H1 s0 a0.1 ∧ Z9 (Y9 yT) H1 s1 a0.2 ∧ Z9 (Y6 .i64) H1 s2 a1 ∧ Z9 (Y9 yT) H1 s3 a2 ∧ Z9 (Y6 .i64) H1 s4 a3 ∧ W3 (Y9 yT) 45 H1 a5 a6 a9 ∧ tv f 1 = s2 ∧ tv f 2 = s3 ∧ tv f 3 = s4 ∧ tv f 4 = vP b1 ∧ tv f 8 = vP b4 ∧ tv f 10 = vP b7 ∧ tv f 11 = vI a4 ∧ tv f 12 = vB b8 ∧ tv f 13 = vI a8) (fun f w => ∃ (c8 : Bool) (H1 : FH), i0 = .go c8 ∧ Sub H H1 ∧ St H1 w (a9 ++ ([(b7, cA ([s2] ++ [a5]) 31)] ++ ([(b4, cA ([vN] ++ [vN]) 31)] ++ ([(b1, cA ([s0] ++ [s1]) 31)] ++ L)))) ∧ Z9 (Y6 .i64) H1 s0 a0.1 ∧ Z9 (Y9 yT) H1 s1 a0.2 ∧ Z9 (Y6 .i64) H1 s2 a1 ∧ Z9 (Y9 yT) H1 s3 a2 ∧ Z9 (Y6 .i64) H1 s4 a3 ∧ W3 (Y9 yT) 45 H1 a5 a6 a9 ∧ tv f 1 = s2 ∧ tv f 2 = s3 ∧ tv f 3 = s4 ∧ tv f 4 = vP b1 ∧ tv f 8 = vP b4 ∧ tv f 10 = vP b7 ∧ tv f 11 = vI a4 ∧ tv f 12 = vB c8) rfl ?_ ?_ K ?_ ?_
 rintro f w ⟨b8, a8, H1, b5, _⟩
 rw [F4] at b5; cases b5
 rintro k _ _ j7 k9 ⟨b8, a8, g5, b5, Z3, hS, _, c0, c2, b2, c3, c4, a7, e0, e1, c7, e2, e3, d6, c9, f0, d0⟩
 rw [F4] at b5
 refine Z2 (Z2 (Z0 (Z4 (vI a8) (by exact d0) rfl (Z4 (s4) (by exact c7) rfl ?_))))
 have l1 := c4.bound
 refine W7 Zs6 rfl c4 rfl ?_
 refine V5 (k := .i64) (a := a8) (b := (a3.length : Int)) rfl rfl rfl (Z1 ?_)
 obtain ⟨g6, b5⟩ | ⟨g6, b5⟩ := ic b5
 refine Y0 (bT g6 rfl) (Y8 (Z2 (Y7 (Z0 (Z4 (vB b8) (by exact f0) rfl (Z4 (vB b8) rfl rfl ?_))))))
 obtain ⟨b6, b5⟩ | ⟨b6, b5⟩ := ic b5
 refine Y1 rfl rfl (Eq.trans rfl (congrArg vB b6)) rfl rfl rfl (Y1 rfl rfl (Eq.trans rfl (congrArg vB b6)) rfl rfl rfl (Y1 rfl rfl (Eq.trans rfl (congrArg vB b6)) rfl rfl rfl (Y1 rfl rfl (Eq.trans rfl (congrArg vB b6)) rfl rfl rfl (Y1 rfl rfl (Eq.trans rfl (congrArg vB b6)) rfl rfl rfl (Y1 rfl rfl (Eq.trans rfl (congrArg vB b6)) rfl rfl rfl ?_)))))
 refine V0 (t := true) (vB true) (Eq.trans rfl (congrArg vB b6)) ((if_pos rfl).trans rfl) rfl (Z5 (vB true) rfl rfl (Z1 (X4 (Z0 (Z4 (vI a8) (by exact d0) rfl ?_)))))
 refine W8 (a8 + 1) rfl rfl (IntWalk.i64_in _ (by omega)) rfl (Z5 (vI (a8 + 1)) rfl rfl (Z1 ?_))
 exact j7 _ _ ⟨true, (a8 + 1), g5, b5, Z3, hS, (by omega), c0, c2, b2, c3, c4, a7, e0, e1, c7, e2, e3, d6, c9, rfl, rfl⟩
 refine Y4 rfl rfl (Eq.trans rfl (congrArg vB (X8 b6))) (Z4 (s4) (by exact c7) rfl ?_)
 refine Y4 rfl rfl (Eq.trans rfl (congrArg vB (X8 b6))) (Z4 (vI a8) (by exact d0) rfl ?_)
 obtain ⟨_, _, _, _, _, j8, j9, rfl, k0⟩ := c4.elem (i := a8) (by omega) (by omega)
 refine Y4 rfl rfl (Eq.trans rfl (congrArg vB (X8 b6))) ?_
 refine X9 Zs6 rfl rfl j8 rfl (by omega) (by omega) rfl ?_
 refine Y4 rfl rfl (Eq.trans rfl (congrArg vB (X8 b6))) ?_
 refine Y3 (vI (rd a3 a8)) ty3 rfl (hS.froz _ _ j9) (k0 0 (show 0 < 1 by decide)) rfl ?_
 refine Y4 rfl rfl (Eq.trans rfl (congrArg vB (X8 b6))) (Z4 (vI a4) (by exact c9) rfl ?_)
 refine Y4 rfl rfl (Eq.trans rfl (congrArg vB (X8 b6))) ?_
 refine Zc2 (k := .i64) (a := (rd a3 a8)) (b := a4) rfl rfl rfl ?_
 refine V0 (t := false) (vB (decide ((rd a3 a8) = a4))) (Eq.trans rfl (congrArg vB (X8 b6))) ((if_neg Bool.false_ne_true).trans rfl) rfl (Z5 (vB (decide ((rd a3 a8) = a4))) rfl rfl (Z1 (X4 (Z0 (Z4 (vI a8) (by exact d0) rfl ?_)))))
 refine W8 (a8 + 1) rfl rfl (IntWalk.i64_in _ (by omega)) rfl (Z5 (vI (a8 + 1)) rfl rfl (Z1 ?_))
 exact j7 _ _ ⟨(decide ((rd a3 a8) = a4)), (a8 + 1), g5, b5, Z3, hS, (by omega), c0, c2, b2, c3, c4, a7, e0, e1, c7, e2, e3, d6, c9, rfl, rfl⟩
 refine Z8 (bF g6 rfl) ?_
 refine W0 rfl ?_
 obtain rfl := oi b5
 exact k9 _ _ ⟨b8, g5, rfl, Z3, hS, c0, c2, b2, c3, c4, a7, e0, e1, c7, e2, e3, d6, c9, f0⟩
 exact ⟨false, 0, h9, b5, Z3, hS, (by omega), c0, c2, b2, c3, c4, a7, f4, h3, h4, f5, f6, e8, e9, rfl, rfl⟩
 rintro _ _ ⟨c8, k1, rfl, Z3, hS, c0, c2, b2, c3, c4, a7, e4, e5, f7, e6, f8, d7, d8, g7⟩
 dsimp only [Ex.elim] at b9
 refine Z2 (Z0 (Z4 (vB c8) (by exact g7) rfl (K9 (b := c8) rfl rfl (Z1 ?_))))
 obtain ⟨g8, b9⟩ | ⟨g8, b9⟩ := ic b9
 refine Z8 (Eq.trans rfl (congrArg (fun b => vB (!b)) g8)) (Y8 (X4 (Z0 (Z4 (vI a4) (by exact d8) rfl ?_))))
 refine W8 (a4 + 1) rfl rfl (IntWalk.i64_in _ (by omega)) rfl (Z5 (vI (a4 + 1)) rfl rfl (Z1 ?_))
 exact j6 _ _ ⟨(a4 + 1), a6, k1, a9, a5, b9, Z3, hS, (by omega), a7, c0, c2, b2, c3, c4, e4, e5, f7, e6, f8, d7, rfl⟩
 refine Y0 (Eq.trans rfl (congrArg (fun b => vB (!b)) (X8 g8))) ?_
 obtain ⟨_, b9⟩ := gd b9
 obtain ⟨k2, k3, _, _, _, i4, i5, ⟨g3, rfl, e7⟩, i6⟩ := c2.elem (i := a4) (by omega) (by omega)
 obtain ⟨d5, i7, b9⟩ := bind_some b9
 refine U1 11 (P0 [mE 42 (vQ b7 1), mE 43 (a5), mE 44 (s2), mE 45 (s3), mE 46 (vQ b1 1), mE 47 (s1), mE 48 (vI a4), mE 49 (vQ k2 k3), mE 50 (vA ([g3])), (51, MP.rep (R.agg (Y9 yT)) (d5)), (52, MP.sl (Y9 yT) ([d5]))]) [] mixed rfl rfl rfl hS (Z6 rfl ?_ (Z6 rfl ?_ (Z6 rfl ?_ (Z6 rfl ?_ (Z6 rfl ?_ (Z6 rfl ?_ (Z6 rfl ?_ (Z6 rfl ?_ (Z6 rfl ?_ (Z6 rfl ?_ (Z6 rfl ?_ U7))))))))))) ?_
 exact W5 fun S B => Y2 P2 (evT (B 10 rfl) d7) rfl (qz S)
 exact X2 fun S V => Y3 (a5) Zd6 (eM (V 0 42 rfl rfl)) (S.get (mR (mR mL))) rfl rfl (qz S)
 exact W5 fun S B => Z4 (s2) (evT (B 1 rfl) e4) rfl (qz S)
 exact W5 fun S B => Z4 (s3) (evT (B 2 rfl) e5) rfl (qz S)
 exact W5 fun S B => Y2 P2 (evT (B 4 rfl) e6) rfl (qz S)
 exact X2 fun S V => Y3 (s1) Zd6 (eM (V 4 46 rfl rfl)) (S.get (mR (mR (mR (mR mL))))) rfl rfl (qz S)
 exact W5 fun S B => Z4 (vI a4) (evT (B 11 rfl) d8) rfl (qz S)
 exact X2 fun S V => X9 P6 rfl (eM (V 5 47 rfl rfl)) i4 (eM (V 6 48 rfl rfl)) (by omega) (by omega) rfl (qz S)
 exact E6 fun s S V => W9 ([g3]) U2 (eM (V 7 49 rfl rfl)) (S.froz _ _ (s.1 _ _ i5)) rfl i6 rfl (qz S)
 intro _ _ _ _ f9 hS _ g0 hcq
 have b2 := b2.mono f9
 have c3 := c3.mono f9
 have e7 := e7.mono f9
 refine X6 Tryz.call181 (G7 (eM (g0 2 44 rfl rfl)) (eM (g0 3 45 rfl rfl)) (eM (g0 8 50 rfl rfl))) rfl (Zz2 i7 b2 c3 e7 hS) ?_
 rintro _ _ _ i8 hS i9
 exact qn i8 rfl hS i9
 intro _ _ _ _ _ hS _ j0 hcq
 obtain ⟨_, k4, ⟨_, rfl, ⟨i1, rfl, h5⟩⟩⟩ := gvR (j0 9 51 rfl rfl)
 refine D9 (τ := (Y9 yT)) P6 I0 rfl [vA ([i1])] [d5] rfl rfl (K6 k4) (Zi6 ⟨_, rfl, h5⟩) (by decide) (by decide) hS rfl ?_
 intro _ _ _ j1 hS j2
 exact qn j1 rfl hS j2
 intro _ k5 i2 d1 hS d2 h0 hcq
 have hS : St i2 k5 (a9 ++ ([(b7, cA ([s2] ++ [a5]) 31)] ++ ([(b4, cA ([vN] ++ [vN]) 31)] ++ ([(b1, cA ([s0] ++ [s1]) 31)] ++ L)))) := hS
 have Z3 := Z3.trans d1
 have b2 := b2.mono d1
 have c3 := c3.mono d1
 have c4 := c4.mono d1
 have c0 := c0.mono d1
 have c2 := c2.mono d1
 have a7 := a7.mono d1
 have i3 := evT (d2 10 rfl) d7
 obtain ⟨_, k6, j3⟩ := gvS (h0 10 52 (by decide) rfl)
 obtain ⟨j4, b9⟩ := gd b9
 refine N5 (τ := (Y9 yT)) Yl7 rfl (by exact (eM (h0 1 43 (by decide) rfl))) (by exact k6) a7 hS j3 j4 rfl ?_
 intro g9 _ k7 h1 hS
 refine Y2 P2 (by exact i3) rfl ?_
 have hS := hS.perm V1
 refine Zb3 (v := g9) (cs := ([s2] ++ [a5]).toArray) (cs' := ([s2] ++ [g9]).toArray) Zd6 rfl rfl hS h1.isOne rfl (nl rfl) rfl ?_
 intro _ hS
 have hS := hS.perm V1.symm
 refine Z1 (X4 (Z0 (Z4 (vI a4) (by exact (evT (d2 11 rfl) d8)) rfl ?_)))
 refine W8 (a4 + 1) rfl rfl (IntWalk.i64_in _ (by omega)) rfl (Z5 (vI (a4 + 1)) rfl rfl (Z1 ?_))
 exact j6 _ _ ⟨(a4 + 1), (a6 ++ [d5]), i2, k7, g9, b9, Z3, hS, (by omega), h1, c0, c2, b2, c3, c4, (evT (d2 1 rfl) e4), (evT (d2 2 rfl) e5), (evT (d2 3 rfl) f7), (evT (d2 4 rfl) e6), (evT (d2 8 rfl) f8), i3, rfl⟩
 refine Z8 (bF g4 rfl) ?_
 refine W0 rfl ?_
 obtain rfl := oi c5
 exact k8 _ _ ⟨a6, h9, a9, a5, rfl, Z3, hS, a7, c0, c2, b2, f4, f6, e8⟩
 exact ⟨0, ([] : List MpT), H, ([]), (vN), c5, Z3, hS, (by omega), h7, c0, c2, b2, c3, c4, rfl, rfl, rfl, rfl, rfl, rfl, rfl⟩
 rintro _ _ ⟨b3, _, c6, b0, rfl, Z3, hS, f1, c0, c2, b2, h6, d4, f2⟩
 dsimp only [Ex.elim] at d3
 refine Z2 (Z2 (Z0 (Z4 (s2) (by exact h6) rfl (Y2 P2 (by exact f2) rfl ?_))))
 refine Y3 (b0) Zd6 rfl (hS.get (mR mL)) rfl rfl ?_
 obtain ⟨_, h2, hS, d9⟩ := f1.freeze hS
 have Z3 := Z3.trans h2
 have b2 := b2.mono h2
 obtain ⟨c1, j5, d3⟩ := bind_some d3
 refine X6 Tryz.call182 (U9 rfl rfl) rfl (Yc0 j5 b2 d9 hS) ?_
 rintro _ _ _ g1 hS ⟨f3, _, rfl, _, rfl⟩
 have Z3 := Z3.trans g1
 have b2 := b2.mono g1
 have d9 := d9.mono g1
 refine Z4 (Value.tuple #[f3, vI c1.2]) rfl rfl (W4 (f3) rfl rfl rfl (W4 (vI c1.2) rfl rfl rfl (Z5 (f3) rfl rfl (Z5 (vI c1.2) rfl rfl (Z1 (Z2 (Z0 (Z4 (vI c1.2) rfl rfl ?_))))))))
 refine L7 (k := .i64) (a := c1.2) (b := 0) rfl rfl rfl (Z1 ?_)
 obtain ⟨g2, d3⟩ | ⟨g2, d3⟩ := ic d3
 refine Z8 (bN g2 rfl) (Y8 (Z2 (Z0 ?_)))
 refine X7 S5 (by exact f2) (hS.get mL) rfl rfl ?_
 have hS := hS.perm V1
 refine X5 (v := vA ([s2] ++ [b0])) (vs := ([s2] ++ [b0]).toArray) (cs := ([vN] ++ [vN]).toArray) S5 (by exact d4) rfl rfl hS rfl (R8 (U0 b2.isOne) (U0 d9.isOne)) rfl ?_
 intro _ hS
 have hS := hS.perm V1.symm
 refine Z5 (vI 0) rfl rfl (Z1 ?_)
 refine X0 (vs := [vA ([s2] ++ [b0]), vI 0]) Tryz.func246 ⟨⟨_, (by exact d4), V6 S5 (hS.get (mR mL)) rfl⟩, rfl, trivial⟩ ?_
 obtain rfl := oi d3
 exact ⟨_, _, rfl, Z3, (St.dropA (St.dropA (St.dropA hS))), ⟨_, _, rfl, ⟨_, rfl, ⟨_, _, rfl, ⟨_, rfl, b2⟩, ⟨_, rfl, d9⟩⟩⟩, rfl⟩⟩
 refine Y0 (bO g2 rfl) (Z2 (Z0 ?_))
 refine R6 (vA ([vN] ++ [vN])) Yl4 rfl (Z4 (vI c1.2) rfl rfl ?_)
 have hS := hS.perm V1
 refine X5 (v := vA ([vN] ++ [vN])) (vs := ([vN] ++ [vN]).toArray) (cs := ([vN] ++ [vN]).toArray) S5 (by exact d4) rfl rfl hS rfl (R8 (U0 rfl) (U0 rfl)) rfl ?_
 intro _ hS
 have hS := hS.perm V1.symm
 refine Z5 (vI c1.2) rfl rfl (Z1 ?_)
 refine X0 (vs := [vA ([vN] ++ [vN]), vI c1.2]) Tryz.func246 ⟨⟨_, (by exact d4), V6 S5 (hS.get (mR mL)) rfl⟩, rfl, trivial⟩ ?_
 obtain rfl := oi d3
 exact ⟨_, _, rfl, Z3, (St.dropA (St.dropA (St.dropA hS))), ⟨_, _, rfl, ⟨_, rfl, ⟨_, _, rfl, ⟨_, rfl, Z9.nil⟩, ⟨_, rfl, Z9.nil⟩⟩⟩, rfl⟩⟩
def Ze4 (K : Nat) (a0 : ((List Int) × (List MpT))) (a1 : ((List Int) × (List MpT))) : Option Bool := ((Zs4 K a0.1 a1.1).bind fun r7 => (if r7 = true then ((Zh8 K a0.2 a1.2).bind fun a4 => (if a4 = true then some true else some false)) else some false))
theorem Zr1 {a0 : ((List Int) × (List MpT))} {a1 : ((List Int) × (List MpT))} {r : Bool} (q0 : Ze4 K a0 a1 = some r) (b1 : Z9 (Y6 .i64) H s0 a0.1) (a5 : Z9 (Y9 yT) H s1 a0.2) (b2 : Z9 (Y6 .i64) H s2 a1.1) (a6 : Z9 (Y9 yT) H s3 a1.2) (hS : St H w L) :
 Calls Tryz.prog 20 #[vA ([s0] ++ [s1]), vA ([s2] ++ [s3])] w (T2 (fun v G => R.bool.p G v r) H L) := by
 have Z3 := Sub.refl H
 refine X3 Tryz.func20 rfl Tryz.ntmps20 rfl ?_
 unfold Ze4 at q0
 refine Z2 (Z0 ?_)
 refine S3 (v := vA ([s0] ++ [s1])) ([s0] ++ [s1]).toArray rfl rfl hS rfl ?_
 intro _ _ hS
 refine S3 (v := vA ([s2] ++ [s3])) ([s2] ++ [s3]).toArray rfl rfl hS rfl ?_
 intro _ _ hS
 refine Z5 (vB false) rfl rfl (Z1 (Z2 (Z2 (Z0 (Y2 R4 rfl rfl ?_)))))
 refine Y3 (s0) M9 rfl (hS.get (mR mL)) rfl rfl (Y2 R4 rfl rfl ?_)
 refine Y3 (s2) M9 rfl (hS.get mL) rfl rfl ?_
 obtain ⟨r7, b3, q0⟩ := bind_some q0
 refine X6 Tryz.call19 (U9 rfl rfl) rfl (Yz3 b3 b1 b2 hS) ?_
 rintro _ _ _ a7 hS rfl
 have Z3 := Z3.trans a7
 have a5 := a5.mono a7
 have a6 := a6.mono a7
 refine K9 (b := r7) rfl rfl (Z1 ?_)
 obtain ⟨a8, q0⟩ | ⟨a8, q0⟩ := ic q0
 refine Z8 (Eq.trans rfl (congrArg (fun b => vB (!b)) a8)) (Y8 (Z2 (Z2 (Z0 (Y2 P2 rfl rfl ?_)))))
 refine Y3 (s1) Zd6 rfl (hS.get (mR mL)) rfl rfl (Y2 P2 rfl rfl ?_)
 refine Y3 (s3) Zd6 rfl (hS.get mL) rfl rfl ?_
 obtain ⟨a4, a9, q0⟩ := bind_some q0
 refine X6 Tryz.call32 (U9 rfl rfl) rfl (Zt8 a9 a5 a6 hS) ?_
 rintro _ _ _ b0 hS rfl
 have Z3 := Z3.trans b0
 refine K9 (b := a4) rfl rfl (Z1 ?_)
 obtain ⟨a3, q0⟩ | ⟨a3, q0⟩ := ic q0
 refine Z8 (Eq.trans rfl (congrArg (fun b => vB (!b)) a3)) (Y8 (Z2 (Z0 (Z5 (vB true) rfl rfl (Z1 ?_)))))
 refine X0 (vs := [vB true]) Tryz.func20 ⟨rfl, trivial⟩ ?_
 obtain rfl := oi q0
 exact ⟨_, _, rfl, Z3, (St.dropA (St.dropA hS)), rfl⟩
 refine Y0 (Eq.trans rfl (congrArg (fun b => vB (!b)) (X8 a3))) (Z2 (Z0 (Z5 (vB false) rfl rfl (Z1 ?_))))
 refine X0 (vs := [vB false]) Tryz.func20 ⟨rfl, trivial⟩ ?_
 obtain rfl := oi q0
 exact ⟨_, _, rfl, Z3, (St.dropA (St.dropA hS)), rfl⟩
 refine Y0 (Eq.trans rfl (congrArg (fun b => vB (!b)) (X8 a8))) (Z2 (Z0 (Z5 (vB false) rfl rfl (Z1 ?_))))
 refine X0 (vs := [vB false]) Tryz.func20 ⟨rfl, trivial⟩ ?_
 obtain rfl := oi q0
 exact ⟨_, _, rfl, Z3, (St.dropA (St.dropA hS)), rfl⟩
def Ze7 (K : Nat) (a0 : ((List Int) × (List MpT))) : Option ((List Int) × (List MpT)) := ((Zs0 K a0.1).bind fun a9 => ((Zv0 K a0.2).bind fun a8 => some (a9, a8)))
theorem Zr0 {a0 : ((List Int) × (List MpT))} {r : ((List Int) × (List MpT))} (q0 : Ze7 K a0 = some r) (b7 : Z9 (Y6 .i64) H s0 a0.1) (b0 : Z9 (Y9 yT) H s1 a0.2) (hS : St H w L) :
 Calls Tryz.prog 17 #[vA ([s0] ++ [s1])] w (T2 (fun v G => Zi7 H G v r) H L) := by
 have Z3 := Sub.refl H
 refine X3 Tryz.func17 rfl Tryz.ntmps17 rfl ?_
 unfold Ze7 at q0
 refine Z2 (Z0 ?_)
 refine S3 (v := vA ([s0] ++ [s1])) ([s0] ++ [s1]).toArray rfl rfl hS rfl ?_
 intro _ _ hS
 refine W6 (z := vA ([vN] ++ [vN])) ([vN] ++ [vN]).toArray Zr4.zero rfl hS rfl ?_
 intro _ _ hS
 refine Z1 (Z2 (Z0 ?_))
 refine W6 (z := vA ([vN] ++ [vN])) ([vN] ++ [vN]).toArray Zr4.zero rfl hS rfl ?_
 intro _ _ hS
 refine Z1 (Z2 (Z0 (Y2 Wc1 rfl rfl ?_)))
 refine Y3 (s0) M9 rfl (hS.get (mR (mR mL))) rfl rfl ?_
 obtain ⟨a9, b4, q0⟩ := bind_some q0
 refine X6 Tryz.call77 (S2 rfl) rfl (Yx3 b4 b7 hS) ?_
 rintro a3 b8 _ b1 hS a1
 have b9 := a1
 have a6 : RdF (Y6 .i64) H b8 a3 a9 := Z9.mono (Q6 Z3) a1
 have a1 := Z9.old a1
 have Z3 := Z3.trans b1
 have b0 := b0.mono b1
 refine Y2 R4 rfl rfl ?_
 refine Zb3 (v := a3) (cs := ([vN] ++ [vN]).toArray) (cs' := ([a3] ++ [vN]).toArray) M9 rfl rfl hS a1.isOne rfl (nl rfl) rfl ?_
 intro _ hS
 refine Z1 (Z2 (Z0 (Y2 Wc5 rfl rfl ?_)))
 refine Y3 (s1) Vc5 rfl (hS.get (mR (mR mL))) rfl rfl ?_
 obtain ⟨a8, b5, q0⟩ := bind_some q0
 refine X6 Tryz.call69 (S2 rfl) rfl (Xc4 b5 b0 hS) ?_
 rintro a4 b3 _ a7 hS a5
 have b2 : RdN (Y9 yT) H b3 a4 a8 (P5 [a3] ++ ([] : List Nat)) := RdN.keepX (G3 _) a5 Z3 (by rw [List.append_nil]; exact Zf4 _) (by rw [List.append_nil]; exact Z9.rootsIn a1)
 have b6 : RdF (Y9 yT) H b3 a4 a8 := RdN.old b2
 have a5 := Z9.old b6
 have Z3 := Z3.trans a7
 have a1 := a1.mono a7
 have a6 := a6.mono a7
 refine Y2 P2 rfl rfl ?_
 refine Zb3 (v := a4) (cs := ([a3] ++ [vN]).toArray) (cs' := ([a3] ++ [a4]).toArray) Zd6 rfl rfl hS a5.isOne rfl (nl rfl) rfl ?_
 intro _ hS
 refine Z1 (Z2 (Z0 ?_))
 refine X7 S5 rfl (hS.get mL) rfl rfl ?_
 have hS := hS.perm V1
 refine X5 (v := vA ([a3] ++ [a4])) (vs := ([a3] ++ [a4]).toArray) (cs := ([vN] ++ [vN]).toArray) S5 rfl rfl rfl hS rfl (R8 (U0 a1.isOne) (U0 a5.isOne)) rfl ?_
 intro _ hS
 have hS := hS.perm V1.symm
 refine Z1 ?_
 refine X0 (vs := [vA ([a3] ++ [a4])]) Tryz.func17 ⟨⟨_, rfl, V6 S5 (hS.get (mR mL)) rfl⟩, trivial⟩ ?_
 obtain rfl := oi q0
 exact ⟨_, _, rfl, Z3, (St.dropA (St.dropA (St.dropA hS))), ⟨_, _, rfl, a6, b2⟩⟩
def D3 (K : Nat) (a0 : Int) (a1 : Int) : Nat → Int → (List MpT) → Option (Ex (List MpT) ((List MpT)))
 | 0, _, _ => none
 | k + 1, a4, a3 => (if a4 < a1 then ((Zj5 K (IntKind.i64.wrap (a0 + a4)) 1).bind fun r7 => (if a3.length + ([r7]).length ≤ 1099511627776 then D3 K a0 a1 k (IntKind.i64.wrap (a4 + 1)) (a3 ++ [r7]) else none)) else some (.go a3))
def Zo7 (K : Nat) (a0 : Int) (a1 : Int) : Option (List MpT) := ((D3 K a0 a1 K 0 ([] : List MpT)).bind (Ex.elim (fun r => some r) (fun s => (fun (a9 : (List MpT)) => some a9) s)))
end Go.Proofs.YtabofnehiclkiaaGreat
