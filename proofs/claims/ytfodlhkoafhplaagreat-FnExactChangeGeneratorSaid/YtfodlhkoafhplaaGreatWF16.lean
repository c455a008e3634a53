/- Walks of functions: each computes its pure function, if that gives a value. -/
import Derived.Test.YtfodlhkoafhplaaGreatWTy
import Derived.Test.YtfodlhkoafhplaaGreatWF12
import Derived.Test.YtfodlhkoafhplaaGreatWF3
import Derived.Test.YtfodlhkoafhplaaGreatWF14
import Derived.Test.YtfodlhkoafhplaaGreatWF9
namespace Go.Proofs.YtfodlhkoafhplaaGreat
open Go
set_option linter.unusedSimpArgs false
set_option linter.unusedVariables false
set_option maxRecDepth 100000
set_option maxHeartbeats 8000000
-- impl_number impl_sum_times
theorem Xs0 : Yq2 Tryz.prog 212 298 := Wl4 Tryz.underlying212 Tryz.underlying298 Tryz.underlying3 Tryz.info3_ rfl Tryz.zeroValue109
theorem Xb7 : Zu8 Tryz.prog 214 3 3 := ⟨fun b o w => by simp [Instr.fieldAt, Instr.sureAddr, fieldPlace, Tryz.runUnderlying214, Tryz.sizeOf212, G8]⟩
theorem Xr2 : TyI Tryz.prog 212 false 1 := ⟨Tryz.isAgg212, Tryz.sizeOf212⟩
theorem Xi7 : TyI Tryz.prog 298 true 2 := ⟨Tryz.isAgg298, Tryz.sizeOf298⟩
theorem Wi1 (a b : Int) (w : World) : (Instr.build 298 #[(0, .int .i64 a), (1, .int .i64 b)]).run Tryz.prog w = .ok (I9 a b) w := by
  simp [Instr.build, Instr.fill, Tryz.zeroValue298, Tryz.runUnderlying298, Tryz.sizeOf3, Value.cells, I9, Sem.run_bind]
theorem Wh6 : ∀ w, (zeroValue 298).run Tryz.prog w = .ok (.agg #[.int .i64 0, .int .i64 0]) w := Tryz.zeroValue298
theorem Wa2 {n : Nat} {f : Fr} {w : World} {ops : Array Oper} {J : Fr → World → Prop} {r : List Oper} {T' : TypeId} {d : Nat} {pos : String} {af : Array Edge} {x y : Operand} {a b : Int}
    (hx : ev f x = .int .i64 a) (hy : ev f y = .int .i64 b) (hn : Nat.blt d n = true) (K : W5 Tryz.prog n ops J r (upd f d (I9 a b)) w) : W5 Tryz.prog n ops J (⟨some d, .build 298 #[(0, x), (1, y)], T', pos, af, none⟩ :: r) f w :=
  T3 rfl rfl hn (by simp [execOp, hx, hy, Wi1]) K
theorem Wl2 {n : Nat} {f : Fr} {w : World} {ops : Array Oper} {J : Fr → World → Prop} {r : List Oper} {T' : TypeId} {d : Nat} {pos : String} {af : Array Edge} {x y : Operand} {b : Nat} {i e : Int} {u : Value}
    (hr : (Instr.lookup 212 (.map (some b)) (I9 i e) true).run Tryz.prog w = .ok u w) (hx : ev f x = .map (some b)) (hy : ev f y = I9 i e) (hn : Nat.blt d n = true)
    (K : W5 Tryz.prog n ops J r (upd f d u) w) : W5 Tryz.prog n ops J (⟨some d, .lookup 212 x y true, T', pos, af, none⟩ :: r) f w :=
  T3 rfl rfl hn (by simp only [execOp, hx, hy, Sem.run_bind, hr]; rfl) K
theorem Wk6 {n : Nat} {f : Fr} {w w' : World} {ops : Array Oper} {J : Fr → World → Prop} {r : List Oper} {T' : TypeId} {pos : String} {af : Array Edge} {x y z : Operand} {b : Nat} {i e : Int} {u : Value}
    (hr : (Instr.mapUpdate 212 (.map (some b)) (I9 i e) u).run Tryz.prog w = .ok () w') (hx : ev f x = .map (some b)) (hy : ev f y = I9 i e) (hz : ev f z = u)
    (K : W5 Tryz.prog n ops J r f w') : W5 Tryz.prog n ops J (⟨none, .mapUpdate 212 x y z, T', pos, af, none⟩ :: r) f w :=
  Yc6 rfl rfl (by simp only [execOp, hx, hy, hz, Sem.run_bind, hr]; rfl) K
theorem Yu6 (K : Nat) : ∀ (n : Nat) {a0 : LdT} {a1 a2 : Int} {r : MpT}, a2.toNat = n → P2 K a0 a1 a2 = some r → ∀ {H : FH} {w : World} {L : OL} {s0 : Value}, Zq0 (Xy8 K) H s0 a0 → St H w L →
    Calls Tryz.prog 208 #[s0, Value.int .i64 a1, Value.int .i64 a2] w (T6 (fun v G => (R.mp .i64).p G v r) H L) := by
  intro n
  induction n with
  | zero =>
    intro a0 a1 a2 r hn q0 H w L s0 hs0 hS
    unfold P2 at q0
    by_cases hg : 0 ≤ a2 ∧ a2 ≤ 4611686018427387904
    case neg => rw [if_neg hg] at q0; cases q0
    rw [if_pos hg, hn] at q0
    have h0 : a2 = 0 := by omega
    refine X0 Tryz.func208 rfl Tryz.ntmps208 rfl ?_
    refine Z3 ?_
    refine Z1 ?_
    refine Z6 (Value.map none) rfl rfl ?_
    refine Z0 ?_
    refine Z3 ?_
    refine Z3 ?_
    refine Z1 ?_
    refine Z4 (Value.int .i64 a2) rfl rfl ?_
    refine Zf2 (k := .i64) (a := a2) (b := 0) rfl rfl rfl ?_
    refine Z0 ?_
    refine Y0 (congrArg Value.bool (decide_eq_true h0)) ?_
    refine Z3 ?_
    refine Z1 ?_
    refine Y8 Tryz.call207 Wa8 rfl (Yd0 (show Zh5 K = some r from q0) hS) ?_
    rintro e1 w1 ⟨m1, H1, C1, rfl, sb1, hS, ho1⟩
    refine ⟨_, rfl, ?_⟩
    refine Z6 (m1) rfl rfl ?_
    refine Z0 ?_
    refine Y9 (vs := [m1]) Tryz.func208 ⟨rfl, trivial⟩ ?_
    obtain ⟨H2, sb2, hS, hf⟩ := ho1.freeze hS
    exact ⟨_, _, rfl, sb1.trans sb2, hS, hf⟩
  | succ n ih =>
    intro a0 a1 a2 r hn q0 H w L s0 hs0 hS
    have qq := q0
    unfold P2 at q0
    by_cases hg : 0 ≤ a2 ∧ a2 ≤ 4611686018427387904
    case neg => rw [if_neg hg] at q0; cases q0
    rw [if_pos hg, hn] at q0
    have h0 : ¬ a2 = 0 := by omega
    unfold pwN at q0
    by_cases hi : 0 ≤ a1 ∧ a1 < (a0.2.2.length : Int)
    case neg => rw [if_neg hi] at q0; cases q0
    rw [if_pos hi] at q0
    obtain ⟨hc141, hc152⟩ := hi
    obtain ⟨r48, hp48, hr⟩ := bind_some q0
    have hn48 : (a2 - 1).toNat = n := by omega
    have hr48 : P2 K (a0.1, a0.2.1, a0.2.2) a1 (a2 - 1) = some r48 := by
      unfold P2
      rw [if_pos (by omega), hn48]; exact hp48
    obtain ⟨bs0, os0, css0, Es0, _, rfl, hbs0, ⟨us0p_0, us0p_1, us0p_2, bms0p, rfl, hus0p_0, hus0p_1, hus0p_2, hms0p⟩, hcs0⟩ := hs0
    refine X0 Tryz.func208 rfl Tryz.ntmps208 rfl ?_
    refine Z3 ?_
    refine Z1 ?_
    refine Z6 (Value.map none) rfl rfl ?_
    refine Z0 ?_
    refine Z3 ?_
    refine Z3 ?_
    refine Z1 ?_
    refine Z4 (Value.int .i64 a2) rfl rfl ?_
    refine Zf2 (k := .i64) (a := a2) (b := 0) rfl rfl rfl ?_
    refine Z0 ?_
    refine Z9 (congrArg Value.bool (decide_eq_false h0)) ?_
    refine Y6 ?_
    refine Z3 ?_
    refine Z1 ?_
    refine Z4 (Value.int .i64 a1) rfl rfl ?_
    refine Z4 (Value.int .i64 a2) rfl rfl ?_
    refine Wa2 (a := a1) (b := a2) rfl rfl rfl ?_
    refine W9 (z := .agg #[.int .i64 0, .int .i64 0]) #[.int .i64 0, .int .i64 0] Wh6 rfl hS rfl ?_
    intro b7 w7 hS
    refine W1 (v := I9 a1 a2) (vs := #[.int .i64 a1, .int .i64 a2]) (cs := #[.int .i64 0, .int .i64 0]) Xi7 rfl rfl rfl hS rfl (by intro u hu; simp at hu; rcases hu with rfl | rfl <;> rfl) rfl ?_
    intro w8 hS
    refine Z0 ?_
    obtain ⟨o, ⟨es, clock, rfl, hI⟩, hS⟩ := hS.takeM hms0p
    obtain ⟨u0, b0, hlk, hlkq⟩ := Xl6 Xs0 a1 a2 (b := bms0p) (clock := clock) (fun m hm => let ⟨i, e, t, h, _⟩ := hI m hm; ⟨i, e, h⟩)
    have hq : b0 = true → Q1 .i64 H u0 r := by
      intro hb
      obtain ⟨m, hm, hk, rfl⟩ := hlkq hb
      obtain ⟨i, e, t, hk', hp, hv⟩ := hI m hm
      obtain ⟨rfl, rfl⟩ := Xz9 (hk.symm.trans hk')
      rw [qq] at hp; cases hp
      exact hv.fr rfl
    refine Z3 ?_
    refine Z3 ?_
    refine V4 11 (R9 [(18, MP.eq (Value.pointer (some ⟨bs0, os0, none⟩))), (19, MP.eq (Value.pointer (some ⟨bs0, os0, none⟩))), (20, MP.eq (Value.pointer (some ⟨bs0, os0 + 3, none⟩))), (21, MP.eq (Value.map (some bms0p))), (22, MP.eq (I9 a1 a2)),
      (23, MP.eq (.tuple #[u0, .bool b0])), (17, MP.eq (.tuple #[u0, .bool b0])), (24, MP.eq u0), (25, MP.eq (.bool b0)), (8, MP.eq u0), (9, MP.eq (.bool b0))]) [] mixed rfl rfl rfl hS
      (Z5 rfl ?_ (Z5 rfl ?_ (Z5 rfl ?_ (Z5 rfl ?_ (Z5 rfl ?_ (Z5 rfl ?_ (Z5 rfl ?_ (Z5 rfl ?_ (Z5 rfl ?_ (Z5 rfl ?_ (Z5 rfl ?_ V9))))))))))) ?_
    · intro f1 w1 H1 X1 sb hS hB hV hcq
      refine Z4 (Value.pointer (some ⟨bs0, os0, none⟩)) (Eq.trans (hB 0 rfl) rfl) rfl ?_
      exact Z0 ⟨18, _, _, rfl, rfl, Sub.refl _, hS, rfl⟩
    · intro f1 w1 H1 X1 sb hS hB hV hcq
      have q : ev f1 (.tmp 18) = Value.pointer (some ⟨bs0, os0, none⟩) := hV 0 18 rfl rfl
      refine K3 q rfl ?_
      exact Z0 ⟨19, _, _, rfl, rfl, Sub.refl _, hS, rfl⟩
    · intro f1 w1 H1 X1 sb hS hB hV hcq
      have q : ev f1 (.tmp 19) = Value.pointer (some ⟨bs0, os0, none⟩) := hV 1 19 rfl rfl
      refine Y2 Xb7 q rfl ?_
      exact Z0 ⟨20, _, _, rfl, rfl, Sub.refl _, hS, rfl⟩
    · intro f1 w1 H1 X1 sb hS hB hV hcq
      have q : ev f1 (.tmp 20) = Value.pointer (some ⟨bs0, os0 + 3, none⟩) := hV 2 20 rfl rfl
      refine Y4 (Value.map (some bms0p)) Xr2 q (hS.froz _ _ (sb.1 _ _ hbs0)) (hcs0 3 (show 3 < 4 by decide)) rfl ?_
      exact Z0 ⟨21, _, _, rfl, rfl, Sub.refl _, hS, rfl⟩
    · intro f1 w1 H1 X1 sb hS hB hV hcq
      have q : ev f1 (.tmp 7) = Value.pointer (some ⟨b7, 0, none⟩) := Eq.trans (hB 7 rfl) rfl
      refine X8 Xi7 q (hS.own (b7, .cells #[.int .i64 a1, .int .i64 a2] 298) (List.mem_append_right _ (List.mem_append_right _ (List.mem_cons_self ..)))) rfl rfl ?_
      exact Z0 ⟨22, _, _, rfl, rfl, Sub.refl _, hS, rfl⟩
    · intro f1 w1 H1 X1 sb hS hB hV hcq
      have q1 : ev f1 (.tmp 21) = Value.map (some bms0p) := hV 3 21 rfl rfl
      have q2 : ev f1 (.tmp 22) = I9 a1 a2 := hV 4 22 rfl rfl
      refine Wl2 (hlk w1 (hS.own (bms0p, .map es clock) (List.mem_append_right _ (List.mem_append_left _ (List.mem_singleton.2 rfl))))) q1 q2 rfl ?_
      exact Z0 ⟨23, _, _, rfl, rfl, Sub.refl _, hS, rfl⟩
    · intro f1 w1 H1 X1 sb hS hB hV hcq
      have q : ev f1 (.tmp 23) = .tuple #[u0, .bool b0] := hV 5 23 rfl rfl
      refine Z4 _ q rfl ?_
      exact Z0 ⟨17, _, _, rfl, rfl, Sub.refl _, hS, rfl⟩
    · intro f1 w1 H1 X1 sb hS hB hV hcq
      have q : ev f1 (.tmp 17) = .tuple #[u0, .bool b0] := hV 6 17 rfl rfl
      refine U3 u0 q rfl rfl ?_
      exact Z0 ⟨24, _, _, rfl, rfl, Sub.refl _, hS, rfl⟩
    · intro f1 w1 H1 X1 sb hS hB hV hcq
      have q : ev f1 (.tmp 17) = .tuple #[u0, .bool b0] := hV 6 17 rfl rfl
      refine U3 (.bool b0) q rfl rfl ?_
      exact Z0 ⟨25, _, _, rfl, rfl, Sub.refl _, hS, rfl⟩
    · intro f1 w1 H1 X1 sb hS hB hV hcq
      have q : ev f1 (.tmp 24) = u0 := hV 7 24 rfl rfl
      refine Z6 u0 q rfl ?_
      exact Z0 ⟨8, _, _, rfl, rfl, Sub.refl _, hS, rfl⟩
    · intro f1 w1 H1 X1 sb hS hB hV hcq
      have q : ev f1 (.tmp 25) = .bool b0 := hV 8 25 rfl rfl
      refine Z6 (.bool b0) q rfl ?_
      exact Z0 ⟨9, _, _, rfl, rfl, Sub.refl _, hS, rfl⟩
    intro f4 w4 H4 hs4 hS hB hV hcq
    have hS : St H4 w4 ([(bms0p, .map es clock)] ++ ([(b7, .cells #[.int .i64 a1, .int .i64 a2] 298)] ++ L)) := hS
    obtain ⟨H5, Z2, _, hS⟩ := hS.backM hs4 hms0p (Ym2 K a0) (Ym2 K a0 _ _ _ hs4.1 ⟨es, clock, rfl, hI⟩)
    have g0 : ev f4 (.tmp 0) = Value.pointer (some ⟨bs0, os0, none⟩) := Eq.trans (hB 0 rfl) rfl
    have g1 : ev f4 (.tmp 1) = Value.int .i64 a1 := Eq.trans (hB 1 rfl) rfl
    have g2 : ev f4 (.tmp 2) = Value.int .i64 a2 := Eq.trans (hB 2 rfl) rfl
    have g7 : ev f4 (.tmp 7) = Value.pointer (some ⟨b7, 0, none⟩) := Eq.trans (hB 7 rfl) rfl
    have g8 : ev f4 (.tmp 8) = u0 := hV 9 8 (by decide) rfl
    have g9 : ev f4 (.tmp 9) = .bool b0 := hV 10 9 (by decide) rfl
    have hus0p_0 := hus0p_0.mono Z2
    have hus0p_1 := hus0p_1.mono Z2
    have hus0p_2 := hus0p_2.mono Z2
    have hms0p := hms0p.mono Z2
    have hbs0 := Z2.1 _ _ hbs0
    refine Z0 ?_
    refine Z3 ?_
    refine Z1 ?_
    refine Z4 (.bool b0) g9 rfl ?_
    refine Z0 ?_
    by_cases hb0 : b0 = true
    · refine Y0 (congrArg Value.bool hb0) ?_
      refine Z3 ?_
      refine Z1 ?_
      refine Z4 u0 (by exact g8) rfl ?_
      refine Z6 u0 rfl rfl ?_
      refine Z0 ?_
      refine Y9 (vs := [u0]) Tryz.func208 ⟨rfl, trivial⟩ ?_
      exact ⟨_, _, rfl, Z2, hS.dropA, (hq hb0).mono Z2⟩
    refine Z9 (congrArg Value.bool (by simpa using hb0)) ?_
    refine Y6 ?_
    refine Z3 ?_
    obtain ⟨b163, o163, cs163, E163, _, hp163, hb163, ⟨u163, rfl, hu163⟩, hc163⟩ := hus0p_2.elem (i := a1) (by omega) (by omega)
    refine V4 18 (R9 [(28, MP.eq (Value.pointer (some ⟨bs0, os0, none⟩))), (29, MP.eq (Value.int .i64 a1)), (30, MP.eq (Value.int .i64 a2)), (31, MP.eq (Value.int .i64 (a2 - 1))), (32, MP.rep (R.mp .i64) (r48)), (33, MP.eq (Value.pointer (some ⟨bs0, os0, none⟩))), (34, MP.eq (Value.pointer (some ⟨bs0, os0, none⟩))), (35, MP.eq (Value.pointer (some ⟨bs0, os0 + 1, none⟩))), (36, MP.eq (us0p_1)), (37, MP.eq (Value.pointer (some ⟨bs0, os0, none⟩))), (38, MP.eq (Value.pointer (some ⟨bs0, os0, none⟩))), (39, MP.eq (Value.pointer (some ⟨bs0, os0 + 2, none⟩))), (40, MP.eq (us0p_2)), (41, MP.eq (Value.int .i64 a1)), (42, MP.eq (Value.pointer (some ⟨b163, o163, none⟩))), (43, MP.eq (u163)), (44, MP.mp .i64 (r)), (10, MP.mp .i64 (r))]) [] mixed rfl rfl rfl hS (Z5 rfl ?_ (Z5 rfl ?_ (Z5 rfl ?_ (Z5 rfl ?_ (Z5 rfl ?_ (Z5 rfl ?_ (Z5 rfl ?_ (Z5 rfl ?_ (Z5 rfl ?_ (Z5 rfl ?_ (Z5 rfl ?_ (Z5 rfl ?_ (Z5 rfl ?_ (Z5 rfl ?_ (Z5 rfl ?_ (Z5 rfl ?_ (Z5 rfl ?_ (Z5 rfl ?_ V9)))))))))))))))))) ?_
    · intro f1 w2 H3 X4 sb5 hS hB6 hV7 hcq
      have Z2 := Sub.refl H3
      have hus0p_0 := hus0p_0.mono sb5
      have hus0p_1 := hus0p_1.mono sb5
      have hus0p_2 := hus0p_2.mono sb5
      have hms0p := hms0p.mono sb5
      have hbs0 := sb5.1 _ _ hbs0
      have q9 : ev f1 (.tmp 0) = Value.pointer (some ⟨bs0, os0, none⟩) := Eq.trans (hB6 0 rfl) (by exact g0)
      refine Z4 (Value.pointer (some ⟨bs0, os0, none⟩)) q9 rfl ?_
      exact Z0 ⟨28, _, _, rfl, rfl, Z2, hS, rfl⟩
    · intro f10 w11 H12 X13 sb14 hS hB15 hV16 hcq
      have Z2 := Sub.refl H12
      have hus0p_0 := hus0p_0.mono sb14
      have hus0p_1 := hus0p_1.mono sb14
      have hus0p_2 := hus0p_2.mono sb14
      have hms0p := hms0p.mono sb14
      have hbs0 := sb14.1 _ _ hbs0
      have q18 : ev f10 (.tmp 1) = Value.int .i64 a1 := Eq.trans (hB15 1 rfl) (by exact g1)
      refine Z4 (Value.int .i64 a1) q18 rfl ?_
      exact Z0 ⟨29, _, _, rfl, rfl, Z2, hS, rfl⟩
    · intro f19 w20 H21 X22 sb23 hS hB24 hV25 hcq
      have Z2 := Sub.refl H21
      have hus0p_0 := hus0p_0.mono sb23
      have hus0p_1 := hus0p_1.mono sb23
      have hus0p_2 := hus0p_2.mono sb23
      have hms0p := hms0p.mono sb23
      have hbs0 := sb23.1 _ _ hbs0
      have q27 : ev f19 (.tmp 2) = Value.int .i64 a2 := Eq.trans (hB24 2 rfl) (by exact g2)
      refine Z4 (Value.int .i64 a2) q27 rfl ?_
      exact Z0 ⟨30, _, _, rfl, rfl, Z2, hS, rfl⟩
    · intro f28 w29 H30 X31 sb32 hS hB33 hV34 hcq
      have Z2 := Sub.refl H30
      have hus0p_0 := hus0p_0.mono sb32
      have hus0p_1 := hus0p_1.mono sb32
      have hus0p_2 := hus0p_2.mono sb32
      have hms0p := hms0p.mono sb32
      have hbs0 := sb32.1 _ _ hbs0
      have q36 : ev f28 (.tmp 30) = Value.int .i64 a2 := hV34 2 30 rfl rfl
      refine Zu4 (a2 - 1) q36 rfl (IntWalk.i64_in _ (by omega)) rfl ?_
      exact Z0 ⟨31, _, _, rfl, rfl, Z2, hS, rfl⟩
    · intro f37 w38 H39 X40 sb41 hS hB42 hV43 hcq
      have Z2 := Sub.refl H39
      have hus0p_0 := hus0p_0.mono sb41
      have hus0p_1 := hus0p_1.mono sb41
      have hus0p_2 := hus0p_2.mono sb41
      have hms0p := hms0p.mono sb41
      have hbs0 := sb41.1 _ _ hbs0
      have q45 : ev f37 (.tmp 28) = Value.pointer (some ⟨bs0, os0, none⟩) := hV43 0 28 rfl rfl
      have q46 : ev f37 (.tmp 29) = Value.int .i64 a1 := hV43 1 29 rfl rfl
      have q47 : ev f37 (.tmp 31) = Value.int .i64 (a2 - 1) := hV43 3 31 rfl rfl
      refine Y8 Tryz.call208 (N8 q45 q46 q47) rfl (ih hn48 hr48 ⟨_, _, _, _, _, rfl, hbs0, ⟨_, _, _, _, rfl, hus0p_0, hus0p_1, hus0p_2, hms0p⟩, hcs0⟩ hS) ?_
      rintro e48 w49 ⟨v48, H48, rfl, sb48, hS, hk48⟩
      refine ⟨v48, rfl, ?_⟩
      have Z2 := Z2.trans sb48
      exact Z0 ⟨32, _, _, rfl, rfl, Z2, hS, hk48⟩
    · intro f50 w51 H52 X53 sb54 hS hB55 hV56 hcq
      have Z2 := Sub.refl H52
      have hus0p_0 := hus0p_0.mono sb54
      have hus0p_1 := hus0p_1.mono sb54
      have hus0p_2 := hus0p_2.mono sb54
      have hms0p := hms0p.mono sb54
      have hbs0 := sb54.1 _ _ hbs0
      have q58 : ev f50 (.tmp 0) = Value.pointer (some ⟨bs0, os0, none⟩) := Eq.trans (hB55 0 rfl) (by exact g0)
      refine Z4 (Value.pointer (some ⟨bs0, os0, none⟩)) q58 rfl ?_
      exact Z0 ⟨33, _, _, rfl, rfl, Z2, hS, rfl⟩
    · intro f59 w60 H61 X62 sb63 hS hB64 hV65 hcq
      have Z2 := Sub.refl H61
      have hus0p_0 := hus0p_0.mono sb63
      have hus0p_1 := hus0p_1.mono sb63
      have hus0p_2 := hus0p_2.mono sb63
      have hms0p := hms0p.mono sb63
      have hbs0 := sb63.1 _ _ hbs0
      have q67 : ev f59 (.tmp 33) = Value.pointer (some ⟨bs0, os0, none⟩) := hV65 5 33 rfl rfl
      refine K3 q67 rfl ?_
      exact Z0 ⟨34, _, _, rfl, rfl, Z2, hS, rfl⟩
    · intro f68 w69 H70 X71 sb72 hS hB73 hV74 hcq
      have Z2 := Sub.refl H70
      have hus0p_0 := hus0p_0.mono sb72
      have hus0p_1 := hus0p_1.mono sb72
      have hus0p_2 := hus0p_2.mono sb72
      have hms0p := hms0p.mono sb72
      have hbs0 := sb72.1 _ _ hbs0
      have q76 : ev f68 (.tmp 34) = Value.pointer (some ⟨bs0, os0, none⟩) := hV74 6 34 rfl rfl
      refine Y2 Xh4 q76 rfl ?_
      exact Z0 ⟨35, _, _, rfl, rfl, Z2, hS, rfl⟩
    · intro f77 w78 H79 X80 sb81 hS hB82 hV83 hcq
      have Z2 := Sub.refl H79
      have hus0p_0 := hus0p_0.mono sb81
      have hus0p_1 := hus0p_1.mono sb81
      have hus0p_2 := hus0p_2.mono sb81
      have hms0p := hms0p.mono sb81
      have hbs0 := sb81.1 _ _ hbs0
      have q85 : ev f77 (.tmp 35) = Value.pointer (some ⟨bs0, os0 + 1, none⟩) := hV83 7 35 rfl rfl
      refine Y4 (us0p_1) J3 q85 (hS.froz _ _ hbs0) (hcs0 1 (show 1 < 4 by decide)) rfl ?_
      exact Z0 ⟨36, _, _, rfl, rfl, Z2, hS, rfl⟩
    · intro f86 w87 H88 X89 sb90 hS hB91 hV92 hcq
      have Z2 := Sub.refl H88
      have hus0p_0 := hus0p_0.mono sb90
      have hus0p_1 := hus0p_1.mono sb90
      have hus0p_2 := hus0p_2.mono sb90
      have hms0p := hms0p.mono sb90
      have hbs0 := sb90.1 _ _ hbs0
      have q94 : ev f86 (.tmp 0) = Value.pointer (some ⟨bs0, os0, none⟩) := Eq.trans (hB91 0 rfl) (by exact g0)
      refine Z4 (Value.pointer (some ⟨bs0, os0, none⟩)) q94 rfl ?_
      exact Z0 ⟨37, _, _, rfl, rfl, Z2, hS, rfl⟩
    · intro f95 w96 H97 X98 sb99 hS hB100 hV101 hcq
      have Z2 := Sub.refl H97
      have hus0p_0 := hus0p_0.mono sb99
      have hus0p_1 := hus0p_1.mono sb99
      have hus0p_2 := hus0p_2.mono sb99
      have hms0p := hms0p.mono sb99
      have hbs0 := sb99.1 _ _ hbs0
      have q103 : ev f95 (.tmp 37) = Value.pointer (some ⟨bs0, os0, none⟩) := hV101 9 37 rfl rfl
      refine K3 q103 rfl ?_
      exact Z0 ⟨38, _, _, rfl, rfl, Z2, hS, rfl⟩
    · intro f104 w105 H106 X107 sb108 hS hB109 hV110 hcq
      have Z2 := Sub.refl H106
      have hus0p_0 := hus0p_0.mono sb108
      have hus0p_1 := hus0p_1.mono sb108
      have hus0p_2 := hus0p_2.mono sb108
      have hms0p := hms0p.mono sb108
      have hbs0 := sb108.1 _ _ hbs0
      have q112 : ev f104 (.tmp 38) = Value.pointer (some ⟨bs0, os0, none⟩) := hV110 10 38 rfl rfl
      refine Y2 Xx8 q112 rfl ?_
      exact Z0 ⟨39, _, _, rfl, rfl, Z2, hS, rfl⟩
    · intro f113 w114 H115 X116 sb117 hS hB118 hV119 hcq
      have Z2 := Sub.refl H115
      have hus0p_0 := hus0p_0.mono sb117
      have hus0p_1 := hus0p_1.mono sb117
      have hus0p_2 := hus0p_2.mono sb117
      have hms0p := hms0p.mono sb117
      have hbs0 := sb117.1 _ _ hbs0
      have q121 : ev f113 (.tmp 39) = Value.pointer (some ⟨bs0, os0 + 2, none⟩) := hV119 11 39 rfl rfl
      refine Y4 (us0p_2) Wk5 q121 (hS.froz _ _ hbs0) (hcs0 2 (show 2 < 4 by decide)) rfl ?_
      exact Z0 ⟨40, _, _, rfl, rfl, Z2, hS, rfl⟩
    · intro f122 w123 H124 X125 sb126 hS hB127 hV128 hcq
      have Z2 := Sub.refl H124
      have hus0p_0 := hus0p_0.mono sb126
      have hus0p_1 := hus0p_1.mono sb126
      have hus0p_2 := hus0p_2.mono sb126
      have hms0p := hms0p.mono sb126
      have hbs0 := sb126.1 _ _ hbs0
      have q130 : ev f122 (.tmp 1) = Value.int .i64 a1 := Eq.trans (hB127 1 rfl) (by exact g1)
      refine Z4 (Value.int .i64 a1) q130 rfl ?_
      exact Z0 ⟨41, _, _, rfl, rfl, Z2, hS, rfl⟩
    · intro f153 w154 H155 X156 sb157 hS hB158 hV159 hcq
      have Z2 := Sub.refl H155
      have hus0p_0 := hus0p_0.mono sb157
      have hus0p_1 := hus0p_1.mono sb157
      have hus0p_2 := hus0p_2.mono sb157
      have hms0p := hms0p.mono sb157
      have hbs0 := sb157.1 _ _ hbs0
      have q161 : ev f153 (.tmp 40) = us0p_2 := hV159 12 40 rfl rfl
      have q162 : ev f153 (.tmp 41) = Value.int .i64 a1 := hV159 13 41 rfl rfl
      refine W3 Xe0 rfl q161 hp163 q162 (by omega) (by omega) rfl ?_
      exact Z0 ⟨42, _, _, rfl, rfl, Z2, hS, rfl⟩
    · intro f164 w165 H166 X167 sb168 hS hB169 hV170 hcq
      have Z2 := Sub.refl H166
      have hus0p_0 := hus0p_0.mono sb168
      have hus0p_1 := hus0p_1.mono sb168
      have hus0p_2 := hus0p_2.mono sb168
      have hms0p := hms0p.mono sb168
      have hbs0 := sb168.1 _ _ hbs0
      have hu163 := hu163.mono sb168
      have hb163 := sb168.1 _ _ hb163
      have q172 : ev f164 (.tmp 42) = Value.pointer (some ⟨b163, o163, none⟩) := hV170 14 42 rfl rfl
      refine Y4 (u163) Yk4 q172 (hS.froz _ _ hb163) (hc163 0 (show 0 < 1 by decide)) rfl ?_
      exact Z0 ⟨43, _, _, rfl, rfl, Z2, hS, rfl⟩
    · intro f173 w174 H175 X176 sb177 hS hB178 hV179 hcq
      have Z2 := Sub.refl H175
      have hus0p_0 := hus0p_0.mono sb177
      have hus0p_1 := hus0p_1.mono sb177
      have hus0p_2 := hus0p_2.mono sb177
      have hms0p := hms0p.mono sb177
      have hbs0 := sb177.1 _ _ hbs0
      have hu163 := hu163.mono sb177
      have hb163 := sb177.1 _ _ hb163
      obtain ⟨v182, q181⟩ : ∃ v, ev f173 (.tmp 32) = v := ⟨_, rfl⟩
      have hq182 : (R.mp .i64).p H175 v182 (r48) := q181 ▸ (hV179 4 32 rfl rfl)
      have hu182 := hq182
      have q183 : ev f173 (.tmp 36) = us0p_1 := hV179 8 36 rfl rfl
      have q184 : ev f173 (.tmp 43) = u163 := hV179 15 43 rfl rfl
      refine Y8 Tryz.call131 (N8 q181 q183 q184) rfl (Zl1 hr hu182 hus0p_1 hu163 hS) ?_
      rintro e186 w187 ⟨m186, H186, C186, rfl, sb186, hS, ho186⟩
      refine ⟨_, rfl, ?_⟩
      have Z2 := Z2.trans sb186
      obtain ⟨H189, sb190, hS, hu186⟩ := ho186.freeze hS
      have Z2 := Z2.trans sb190
      exact Z0 ⟨44, _, _, rfl, rfl, Z2, hS, hu186⟩
    · intro f191 w192 H193 X194 sb195 hS hB196 hV197 hcq
      have Z2 := Sub.refl H193
      have hus0p_0 := hus0p_0.mono sb195
      have hus0p_1 := hus0p_1.mono sb195
      have hus0p_2 := hus0p_2.mono sb195
      have hms0p := hms0p.mono sb195
      have hbs0 := sb195.1 _ _ hbs0
      have hu163 := hu163.mono sb195
      have hb163 := sb195.1 _ _ hb163
      obtain ⟨v200, q199⟩ : ∃ v, ev f191 (.tmp 44) = v := ⟨_, rfl⟩
      have hu200 : Q1 .i64 H193 v200 (r) := q199 ▸ (hV197 16 44 rfl rfl)
      refine Z6 (v200) q199 rfl ?_
      exact Z0 ⟨10, _, _, rfl, rfl, Z2, hS, hu200⟩
    intro f5 w5 H6 sb6 hS hB hV hcq
    have hS : St H6 w5 ([(b7, .cells #[.int .i64 a1, .int .i64 a2] 298)] ++ L) := hS
    have Z2 := Z2.trans sb6
    have hms0p := hms0p.mono sb6
    have hbs0 := sb6.1 _ _ hbs0
    have h10 : Q1 .i64 H6 (ev f5 (.tmp 10)) r := hV 17 10 (by decide) rfl
    obtain ⟨v10, e10⟩ : ∃ v, ev f5 (.tmp 10) = v := ⟨_, rfl⟩
    rw [e10] at h10
    have k0 : ev f5 (.tmp 0) = Value.pointer (some ⟨bs0, os0, none⟩) := Eq.trans (hB 0 rfl) g0
    have k7 : ev f5 (.tmp 7) = Value.pointer (some ⟨b7, 0, none⟩) := Eq.trans (hB 7 rfl) g7
    refine Z0 ?_
    refine Z3 ?_
    refine V4 6 (R9 [(45, MP.eq (Value.pointer (some ⟨bs0, os0, none⟩))), (46, MP.eq (Value.pointer (some ⟨bs0, os0, none⟩))), (47, MP.eq (Value.pointer (some ⟨bs0, os0 + 3, none⟩))), (48, MP.eq (Value.map (some bms0p))), (49, MP.eq (I9 a1 a2)), (50, MP.eq v10)]) [] mixed rfl rfl rfl hS
      (Z5 rfl ?_ (Z5 rfl ?_ (Z5 rfl ?_ (Z5 rfl ?_ (Z5 rfl ?_ (Z5 rfl ?_ V9)))))) ?_
    · intro f1 w1 H1 X1 sb hS hB hV hcq
      have q : ev f1 (.tmp 0) = Value.pointer (some ⟨bs0, os0, none⟩) := Eq.trans (hB 0 rfl) k0
      refine Z4 _ q rfl ?_
      exact Z0 ⟨45, _, _, rfl, rfl, Sub.refl _, hS, rfl⟩
    · intro f1 w1 H1 X1 sb hS hB hV hcq
      have q : ev f1 (.tmp 45) = Value.pointer (some ⟨bs0, os0, none⟩) := hV 0 45 rfl rfl
      refine K3 q rfl ?_
      exact Z0 ⟨46, _, _, rfl, rfl, Sub.refl _, hS, rfl⟩
    · intro f1 w1 H1 X1 sb hS hB hV hcq
      have q : ev f1 (.tmp 46) = Value.pointer (some ⟨bs0, os0, none⟩) := hV 1 46 rfl rfl
      refine Y2 Xb7 q rfl ?_
      exact Z0 ⟨47, _, _, rfl, rfl, Sub.refl _, hS, rfl⟩
    · intro f1 w1 H1 X1 sb hS hB hV hcq
      have q : ev f1 (.tmp 47) = Value.pointer (some ⟨bs0, os0 + 3, none⟩) := hV 2 47 rfl rfl
      refine Y4 (Value.map (some bms0p)) Xr2 q (hS.froz _ _ (sb.1 _ _ hbs0)) (hcs0 3 (show 3 < 4 by decide)) rfl ?_
      exact Z0 ⟨48, _, _, rfl, rfl, Sub.refl _, hS, rfl⟩
    · intro f1 w1 H1 X1 sb hS hB hV hcq
      have q : ev f1 (.tmp 7) = Value.pointer (some ⟨b7, 0, none⟩) := Eq.trans (hB 7 rfl) k7
      refine X8 Xi7 q (hS.own (b7, .cells #[.int .i64 a1, .int .i64 a2] 298) (List.mem_append_right _ (List.mem_cons_self ..))) rfl rfl ?_
      exact Z0 ⟨49, _, _, rfl, rfl, Sub.refl _, hS, rfl⟩
    · intro f1 w1 H1 X1 sb hS hB hV hcq
      have q : ev f1 (.tmp 10) = v10 := Eq.trans (hB 10 rfl) e10
      refine Z4 _ q rfl ?_
      exact Z0 ⟨50, _, _, rfl, rfl, Sub.refl _, hS, rfl⟩
    intro f6 w6 H7 sb7 hS hB hV hcq
    have hS : St H7 w6 ([(b7, .cells #[.int .i64 a1, .int .i64 a2] 298)] ++ L) := hS
    have Z2 := Z2.trans sb7
    have hms0p := hms0p.mono sb7
    have h10 := h10.mono sb7
    have j48 : ev f6 (.tmp 48) = Value.map (some bms0p) := hV 3 48 (by decide) rfl
    have j49 : ev f6 (.tmp 49) = I9 a1 a2 := hV 4 49 (by decide) rfl
    have j50 : ev f6 (.tmp 50) = v10 := hV 5 50 (by decide) rfl
    have j10 : ev f6 (.tmp 10) = v10 := Eq.trans (hB 10 rfl) e10
    obtain ⟨w9, hup, hS⟩ := Xl3 (P := Tryz.prog) Xs0 a1 a2 hS hms0p qq h10
    refine Wk6 hup j48 j49 j50 ?_
    refine Z0 ?_
    refine Z3 ?_
    refine Z1 ?_
    refine Z4 v10 j10 rfl ?_
    refine Z6 v10 rfl rfl ?_
    refine Z0 ?_
    refine Y9 (vs := [v10]) Tryz.func208 ⟨rfl, trivial⟩ ?_
    exact ⟨_, _, rfl, Z2, hS.dropA, h10⟩
theorem Yg5 {K : Nat} {a0 : LdT} {a1 a2 : Int} {r : MpT} (q0 : P2 K a0 a1 a2 = some r) {H : FH} {w : World} {L : OL} {s0 : Value} (hs0 : Zq0 (Xy8 K) H s0 a0) (hS : St H w L) :
    Calls Tryz.prog 208 #[s0, Value.int .i64 a1, Value.int .i64 a2] w (T6 (fun v G => (R.mp .i64).p G v r) H L) := Yu6 K _ rfl q0 hs0 hS
def L7 (K : Nat) (a3 : (List Int)) (a4 : Int) : Nat → Bool → Int → Option (Ex (((List Int) × (List MpT)) × Int) (Bool))
 | 0, _, _ => none
 | k + 1, b6, a7 => (if a7 < (a3.length : Int) then (if b6 = true then L7 K a3 a4 k true (a7 + 1) else L7 K a3 a4 k (decide ((rd a3 a7) = a4)) (a7 + 1)) else some (.go b6))
def K2 (K : Nat) (a0 : ((List Int) × (List MpT))) (a1 : (List Int)) (a2 : (List MpT)) (a3 : (List Int)) : Nat → Int → (List MpT) → Option (Ex (((List Int) × (List MpT)) × Int) ((List MpT)))
 | 0, _, _ => none
 | k + 1, a4, a6 => (if a4 < (a0.1.length : Int) then ((L7 K a3 a4 K false 0).bind (Ex.elim (fun r => some (.ret r)) (fun s => (fun (c5 : Bool) => (if c5 = true then K2 K a0 a1 a2 a3 k (a4 + 1) a6 else (if a4 < (a0.2.length : Int) then ((Zm4 K a1 a2 (rd a0.2 a4)).bind fun d4 => (if a6.length + ([d4]).length ≤ 1099511627776 then K2 K a0 a1 a2 a3 k (a4 + 1) (a6 ++ [d4]) else none)) else none))) s))) else some (.go a6))
def Zg3 (K : Nat) (a0 : ((List Int) × (List MpT))) (a1 : (List Int)) (a2 : (List MpT)) (a3 : (List Int)) : Option (((List Int) × (List MpT)) × Int) := ((K2 K a0 a1 a2 a3 K 0 ([] : List MpT)).bind (Ex.elim (fun r => some r) (fun s => (fun (b3 : (List MpT)) => ((Zl7 K a1 b3).bind fun b9 => (if b9.2 = 0 then some ((a1, b3), 0) else some ((([] : List Int), ([] : List MpT)), b9.2)))) s)))
theorem Yl8 {K : Nat} {a0 : ((List Int) × (List MpT))} {a1 : (List Int)} {a2 : (List MpT)} {a3 : (List Int)} {r : (((List Int) × (List MpT)) × Int)} (q0 : Zg3 K a0 a1 a2 a3 = some r) {H : FH} {w : World} {L : OL} {s0 : Value} {s1 : Value} {s2 : Value} {s3 : Value} {s4 : Value} (c0 : Y3 (X3 .i64) H s0 a0.1) (c1 : Y3 (X6 yT) H s1 a0.2) (b2 : Y3 (X3 .i64) H s2 a1) (c2 : Y3 (X6 yT) H s3 a2) (c3 : Y3 (X3 .i64) H s4 a3) (hS : St H w L) :
 Calls Tryz.prog 82 #[vA ([s0] ++ [s1]), s2, s3, s4] w (T6 (fun v G => (R.t2 (R.agg (Zh7 (X6 (X3 .i64)) (X6 (X6 yT)))) (R.int .i64)).p G v r) H L) := by
 have Z2 := Sub.refl H
 refine X0 Tryz.func82 rfl Tryz.ntmps82 rfl ?_
 unfold Zg3 at q0
 refine Z3 (Z1 ?_)
 refine T7 (v := vA ([s0] ++ [s1])) ([s0] ++ [s1]).toArray rfl rfl hS rfl ?_
 intro b1 w2 hS
 refine W9 (z := vA ([vN] ++ [vN])) ([vN] ++ [vN]).toArray Zu9.zero rfl hS rfl ?_
 intro b4 w5 hS
 refine Z6 (vI 0) rfl rfl (Z0 (Z3 (Z1 (Z4 (s2) rfl rfl ?_))))
 refine Zo9 ([s2] ++ [vN]) Xv9 (Ze0 rfl) (K5 rfl b2.cellsL rfl (Nat.le_of_ble_eq_true rfl) (Zk3 rfl)) rfl ?_
 refine W9 (z := vA ([vN] ++ [vN])) ([vN] ++ [vN]).toArray Zu9.zero rfl hS rfl ?_
 intro b7 w8 hS
 refine W1 (v := vA ([s2] ++ [vN])) (vs := ([s2] ++ [vN]).toArray) (cs := ([vN] ++ [vN]).toArray) P9 rfl rfl rfl hS rfl (J6 (S2 b2.isOne) (S2 rfl)) rfl ?_
 intro t8 hS
 refine Z0 (Z3 (Z3 (Z1 (Z6 (vI 0) rfl rfl (Z0 (Y7 ?_))))))
 have h8 : U1 (X6 yT) 47 H (.slice none 0 0) [] [] := U1.nil _ _ _
 obtain ⟨h9, c6, d5⟩ := bind_some q0
 refine W7 (id := 0) (fun k f w => ∃ (a4 : Int) (a6 : (List MpT)) (H1 : FH) (a9 : OL) (a5 : Value), K2 K a0 a1 a2 a3 k a4 a6 = some h9 ∧ Sub H H1 ∧ St H1 w (a9 ++ ([(b7, cA ([s2] ++ [a5]) 29)] ++ ([(b4, cA ([vN] ++ [vN]) 29)] ++ ([(b1, cA ([s0] ++ [s1]) 29)] ++ L)))) ∧ 0 ≤ a4 ∧ U1 (X6 yT) 47 H1 a5 a6 a9 ∧ Y3 (X3 .i64) H1 s0 a0.1 ∧ Y3 (X6 yT) H1 s1 a0.2 ∧ Y3 (X3 .i64) H1 s2 a1 ∧ Y3 (X6 yT) H1 s3 a2 ∧ Y3 (X3 .i64) H1 s4 a3 ∧ ev f (.tmp 1) = s2 ∧ ev f (.tmp 2) = s3 ∧ ev f (.tmp 3) = s4 ∧ ev f (.tmp 4) = vP b1 ∧ ev f (.tmp 8) = vP b4 ∧ ev f (.tmp 10) = vP b7 ∧ ev f (.tmp 11) = vI a4) (fun f w => ∃ (b3 : (List MpT)) (H1 : FH) (c7 : OL) (b0 : Value), h9 = .go b3 ∧ Sub H H1 ∧ St H1 w (c7 ++ ([(b7, cA ([s2] ++ [b0]) 29)] ++ ([(b4, cA ([vN] ++ [vN]) 29)] ++ ([(b1, cA ([s0] ++ [s1]) 29)] ++ L)))) ∧ U1 (X6 yT) 47 H1 b0 b3 c7 ∧ Y3 (X3 .i64) H1 s0 a0.1 ∧ Y3 (X6 yT) H1 s1 a0.2 ∧ Y3 (X3 .i64) H1 s2 a1 ∧ ev f (.tmp 1) = s2 ∧ ev f (.tmp 8) = vP b4 ∧ ev f (.tmp 10) = vP b7) rfl ?_ ?_ K ?_ ?_
 rintro f w ⟨a4, a6, H1, a9, a5, c6, _⟩
 rw [K2] at c6; cases c6
 rintro k n1 n2 j9 m3 ⟨a4, a6, i0, a9, a5, c6, Z2, hS, m0, a8, c0, c1, b2, c2, c3, f5, h4, h5, f6, f7, e9, f0⟩
 rw [K2] at c6
 refine Z3 (Z3 (Z1 (Z4 (vI a4) (by exact f0) rfl (Y2 R4 (by exact f6) rfl ?_))))
 refine Y4 (s0) J3 rfl (hS.get (mR (mR (mR mL)))) rfl rfl ?_
 have n3 := c0.bound
 refine W6 Q9 rfl c0 rfl ?_
 refine U5 (k := .i64) (a := a4) (b := (a0.1.length : Int)) rfl rfl rfl (Z0 ?_)
 by_cases g0 : a4 < (a0.1.length : Int)
 rw [if_pos g0] at c6
 refine Y0 (bT g0 rfl) (Y6 (Z3 (Y7 (Z3 (Z1 (Z6 (Value.bool false) rfl rfl (Z0 (Z3 (Z3 (Z1 (Z6 (vI 0) rfl rfl (Z0 (Y7 ?_)))))))))))))
 obtain ⟨i1, b8, c4⟩ := bind_some c6
 refine W7 (id := 2) (fun k f w => ∃ (b6 : Bool) (a7 : Int) (H1 : FH), L7 K a3 a4 k b6 a7 = some i1 ∧ Sub H H1 ∧ St H1 w (a9 ++ ([(b7, cA ([s2] ++ [a5]) 29)] ++ ([(b4, cA ([vN] ++ [vN]) 29)] ++ ([(b1, cA ([s0] ++ [s1]) 29)] ++ L)))) ∧ 0 ≤ a7 ∧ Y3 (X3 .i64) H1 s0 a0.1 ∧ Y3 (X6 yT) H1 s1 a0.2 ∧ Y3 (X3 .i64) H1 s2 a1 ∧ Y3 (X6 yT) H1 s3 a2 ∧ Y3 (X3 .i64) H1 s4 a3 ∧ U1 (X6 yT) 47 H1 a5 a6 a9 ∧ ev f (.tmp 1) = s2 ∧ ev f (.tmp 2) = s3 ∧ ev f (.tmp 3) = s4 ∧ ev f (.tmp 4) = vP b1 ∧ ev f (.tmp 8) = vP b4 ∧ ev f (.tmp 10) = vP b7 ∧ ev f (.tmp 11) = vI a4 ∧ ev f (.tmp 12) = Value.bool b6 ∧ ev f (.tmp 13) = vI a7) (fun f w => ∃ (c5 : Bool) (H1 : FH), i1 = .go c5 ∧ Sub H H1 ∧ St H1 w (a9 ++ ([(b7, cA ([s2] ++ [a5]) 29)] ++ ([(b4, cA ([vN] ++ [vN]) 29)] ++ ([(b1, cA ([s0] ++ [s1]) 29)] ++ L)))) ∧ Y3 (X3 .i64) H1 s0 a0.1 ∧ Y3 (X6 yT) H1 s1 a0.2 ∧ Y3 (X3 .i64) H1 s2 a1 ∧ Y3 (X6 yT) H1 s3 a2 ∧ Y3 (X3 .i64) H1 s4 a3 ∧ U1 (X6 yT) 47 H1 a5 a6 a9 ∧ ev f (.tmp 1) = s2 ∧ ev f (.tmp 2) = s3 ∧ ev f (.tmp 3) = s4 ∧ ev f (.tmp 4) = vP b1 ∧ ev f (.tmp 8) = vP b4 ∧ ev f (.tmp 10) = vP b7 ∧ ev f (.tmp 11) = vI a4 ∧ ev f (.tmp 12) = Value.bool c5) rfl ?_ ?_ K ?_ ?_
 rintro f w ⟨b6, a7, H1, b8, _⟩
 rw [L7] at b8; cases b8
 rintro k n4 n5 k0 m4 ⟨b6, a7, g8, b8, Z2, hS, m1, c0, c1, b2, c2, c3, a8, e0, e1, c8, e2, e3, d6, c9, f1, d0⟩
 rw [L7] at b8
 refine Z3 (Z3 (Z1 (Z4 (vI a7) (by exact d0) rfl (Z4 (s4) (by exact c8) rfl ?_))))
 have n6 := c3.bound
 refine W6 Xd8 rfl c3 rfl ?_
 refine U5 (k := .i64) (a := a7) (b := (a3.length : Int)) rfl rfl rfl (Z0 ?_)
 by_cases g1 : a7 < (a3.length : Int)
 rw [if_pos g1] at b8
 refine Y0 (bT g1 rfl) (Y6 (Z3 (Y7 (Z1 (Z4 (Value.bool b6) (by exact f1) rfl (Z4 (Value.bool b6) rfl rfl ?_))))))
 by_cases b5 : b6 = true
 rw [if_pos b5] at b8
 refine Z8 rfl rfl (Eq.trans rfl (congrArg Value.bool b5)) rfl rfl rfl (Z8 rfl rfl (Eq.trans rfl (congrArg Value.bool b5)) rfl rfl rfl (Z8 rfl rfl (Eq.trans rfl (congrArg Value.bool b5)) rfl rfl rfl (Z8 rfl rfl (Eq.trans rfl (congrArg Value.bool b5)) rfl rfl rfl (Z8 rfl rfl (Eq.trans rfl (congrArg Value.bool b5)) rfl rfl rfl (Z8 rfl rfl (Eq.trans rfl (congrArg Value.bool b5)) rfl rfl rfl ?_)))))
 refine V1 (t := true) (Value.bool true) (Eq.trans rfl (congrArg Value.bool b5)) ((if_pos rfl).trans rfl) rfl (Z6 (Value.bool true) rfl rfl (Z0 (X2 (Z1 (Z4 (vI a7) (by exact d0) rfl ?_)))))
 refine V0 (a7 + 1) rfl rfl (IntWalk.i64_in _ (by omega)) rfl (Z6 (vI (a7 + 1)) rfl rfl (Z0 ?_))
 exact k0 _ _ ⟨true, (a7 + 1), g8, b8, Z2, hS, (by omega), c0, c1, b2, c2, c3, a8, e0, e1, c8, e2, e3, d6, c9, rfl, rfl⟩
 rw [if_neg b5] at b8
 refine Y1 rfl rfl (Eq.trans rfl (congrArg Value.bool (W2 b5))) (Z4 (s4) (by exact c8) rfl ?_)
 refine Y1 rfl rfl (Eq.trans rfl (congrArg Value.bool (W2 b5))) (Z4 (vI a7) (by exact d0) rfl ?_)
 obtain ⟨t9, u0, n7, u1, _, k1, k2, rfl, k3⟩ := c3.elem (i := a7) (by omega) (by omega)
 refine Y1 rfl rfl (Eq.trans rfl (congrArg Value.bool (W2 b5))) ?_
 refine W3 Xd8 rfl rfl k1 rfl (by omega) (by omega) rfl ?_
 refine Y1 rfl rfl (Eq.trans rfl (congrArg Value.bool (W2 b5))) ?_
 refine Y4 (vI (rd a3 a7)) ty3 rfl (hS.froz _ _ k2) (k3 0 (show 0 < 1 by decide)) rfl ?_
 refine Y1 rfl rfl (Eq.trans rfl (congrArg Value.bool (W2 b5))) (Z4 (vI a4) (by exact c9) rfl ?_)
 refine Y1 rfl rfl (Eq.trans rfl (congrArg Value.bool (W2 b5))) ?_
 refine Zf2 (k := .i64) (a := (rd a3 a7)) (b := a4) rfl rfl rfl ?_
 refine V1 (t := false) (Value.bool (decide ((rd a3 a7) = a4))) (Eq.trans rfl (congrArg Value.bool (W2 b5))) ((if_neg Bool.false_ne_true).trans rfl) rfl (Z6 (Value.bool (decide ((rd a3 a7) = a4))) rfl rfl (Z0 (X2 (Z1 (Z4 (vI a7) (by exact d0) rfl ?_)))))
 refine V0 (a7 + 1) rfl rfl (IntWalk.i64_in _ (by omega)) rfl (Z6 (vI (a7 + 1)) rfl rfl (Z0 ?_))
 exact k0 _ _ ⟨(decide ((rd a3 a7) = a4)), (a7 + 1), g8, b8, Z2, hS, (by omega), c0, c1, b2, c2, c3, a8, e0, e1, c8, e2, e3, d6, c9, rfl, rfl⟩
 rw [if_neg g1] at b8
 refine Z9 (bF g1 rfl) ?_
 refine W4 rfl ?_
 have hz := Option.some.inj b8
 subst hz
 exact m4 _ _ ⟨b6, g8, rfl, Z2, hS, c0, c1, b2, c2, c3, a8, e0, e1, c8, e2, e3, d6, c9, f1⟩
 exact ⟨false, 0, i0, b8, Z2, hS, (by omega), c0, c1, b2, c2, c3, a8, f5, h4, h5, f6, f7, e9, f0, rfl, rfl⟩
 rintro n8 n9 ⟨c5, k4, rfl, Z2, hS, c0, c1, b2, c2, c3, a8, e4, e5, f8, e6, f9, d7, d8, g9⟩
 dsimp only [Ex.elim] at c4
 refine Z3 (Z1 (Z4 (Value.bool c5) (by exact g9) rfl (N7 (b := c5) rfl rfl (Z0 ?_))))
 by_cases g2 : c5 = true
 rw [if_pos g2] at c4
 refine Z9 (Eq.trans rfl (congrArg (fun b => Value.bool (!b)) g2)) (Y6 (X2 (Z1 (Z4 (vI a4) (by exact d8) rfl ?_))))
 refine V0 (a4 + 1) rfl rfl (IntWalk.i64_in _ (by omega)) rfl (Z6 (vI (a4 + 1)) rfl rfl (Z0 ?_))
 exact j9 _ _ ⟨(a4 + 1), a6, k4, a9, a5, c4, Z2, hS, (by omega), a8, c0, c1, b2, c2, c3, e4, e5, f8, e6, f9, d7, rfl⟩
 rw [if_neg g2] at c4
 refine Y0 (Eq.trans rfl (congrArg (fun b => Value.bool (!b)) (W2 g2))) ?_
 obtain ⟨o0, c4⟩ := gd c4
 obtain ⟨k5, k6, m6, o1, _, i6, g3, ⟨g7, rfl, e7⟩, i7⟩ := c1.elem (i := a4) (by omega) (by omega)
 obtain ⟨d4, i8, c4⟩ := bind_some c4
 refine V4 11 (R9 [(42, MP.eq (vQ b7 1)), (43, MP.eq (a5)), (44, MP.eq (s2)), (45, MP.eq (s3)), (46, MP.eq (vQ b1 1)), (47, MP.eq (s1)), (48, MP.eq (vI a4)), (49, MP.eq (Value.pointer (some ⟨k5, k6, none⟩))), (50, MP.eq (vA ([g7]))), (51, MP.rep (R.agg (X6 yT)) (d4)), (52, MP.sl (X6 yT) ([d4]))]) [] mixed rfl rfl rfl hS (Z5 rfl ?_ (Z5 rfl ?_ (Z5 rfl ?_ (Z5 rfl ?_ (Z5 rfl ?_ (Z5 rfl ?_ (Z5 rfl ?_ (Z5 rfl ?_ (Z5 rfl ?_ (Z5 rfl ?_ (Z5 rfl ?_ V9))))))))))) ?_
 intro u2 u3 u4 u5 o2 hS k7 o3 hcq
 refine Y2 N5 (evT (k7 10 rfl) d7) rfl ?_
 exact qn (.refl _) rfl hS rfl
 intro u6 u7 u8 u9 o4 hS o5 k8 hcq
 refine Y4 (a5) Zd8 (eM (k8 0 42 rfl rfl)) (hS.get (mR (mR mL))) rfl rfl ?_
 exact qn (.refl _) rfl hS rfl
 intro v0 v1 v2 v3 o6 hS k9 o7 hcq
 refine Z4 (s2) (evT (k9 1 rfl) e4) rfl ?_
 exact qn (.refl _) rfl hS rfl
 intro v4 v5 v6 v7 o8 hS l0 o9 hcq
 refine Z4 (s3) (evT (l0 2 rfl) e5) rfl ?_
 exact qn (.refl _) rfl hS rfl
 intro v8 v9 w0 w1 p0 hS l1 p1 hcq
 refine Y2 N5 (evT (l1 4 rfl) e6) rfl ?_
 exact qn (.refl _) rfl hS rfl
 intro w3 w4 w6 w7 p2 hS p3 l2 hcq
 refine Y4 (s1) Zd8 (eM (l2 4 46 rfl rfl)) (hS.get (mR (mR (mR (mR mL))))) rfl rfl ?_
 exact qn (.refl _) rfl hS rfl
 intro w9 x0 x1 x2 p4 hS l3 p5 hcq
 refine Z4 (vI a4) (evT (l3 11 rfl) d8) rfl ?_
 exact qn (.refl _) rfl hS rfl
 intro x3 x4 x5 x6 p6 hS p7 i2 hcq
 refine W3 J2 rfl (eM (i2 5 47 rfl rfl)) i6 (eM (i2 6 48 rfl rfl)) (by omega) (by omega) rfl ?_
 exact qn (.refl _) rfl hS rfl
 intro p8 p9 q1 q2 i9 hS m7 j0 hcq
 have g3 := i9.1 _ _ g3
 refine V5 ([g7]) U7 (eM (j0 7 49 rfl rfl)) (hS.froz _ _ g3) rfl i7 rfl ?_
 exact qn (.refl _) rfl hS rfl
 intro q3 q4 q5 q6 g4 hS m8 g5 hcq
 have b2 := b2.mono g4
 have c2 := c2.mono g4
 have e7 := e7.mono g4
 refine Y8 Tryz.call81 (N8 (eM (g5 2 44 rfl rfl)) (eM (g5 3 45 rfl rfl)) (eM (g5 8 50 rfl rfl))) rfl (Yo2 i8 b2 c2 e7 hS) ?_
 rintro q7 q8 ⟨l4, q9, rfl, j1, hS, j2⟩
 refine ⟨l4, rfl, ?_⟩
 exact qn j1 rfl hS j2
 intro r0 r1 r2 r3 m9 hS n0 j3 hcq
 obtain ⟨r4, l5, ⟨_, rfl, ⟨i3, rfl, h6⟩⟩⟩ := gvR (j3 9 51 rfl rfl)
 refine Zn7 (τ := (X6 yT)) J2 Zb2 rfl [vA ([i3])] [d4] rfl rfl (Ze0 l5) (Zu5 ⟨_, rfl, h6⟩) (by decide) (by decide) hS rfl ?_
 intro r5 r6 r7 j4 hS j5
 exact qn j4 rfl hS j5
 intro r8 l6 i4 d1 hS d2 h1 hcq
 have hS : St i4 l6 (a9 ++ ([(b7, cA ([s2] ++ [a5]) 29)] ++ ([(b4, cA ([vN] ++ [vN]) 29)] ++ ([(b1, cA ([s0] ++ [s1]) 29)] ++ L)))) := hS
 have Z2 := Z2.trans d1
 have b2 := b2.mono d1
 have c2 := c2.mono d1
 have c3 := c3.mono d1
 have c0 := c0.mono d1
 have c1 := c1.mono d1
 have a8 := a8.mono d1
 have i5 := evT (d2 10 rfl) d7
 obtain ⟨r9, l7, j6⟩ := gvS (h1 10 52 (by decide) rfl)
 obtain ⟨j7, c4⟩ := gd c4
 refine Zd1 (τ := (X6 yT)) Yy4 rfl (by exact (eM (h1 1 43 (by decide) rfl))) (by exact l7) a8 hS j6 j7 rfl ?_
 intro h0 s5 l9 h2 hS
 refine Y2 N5 (by exact i5) rfl ?_
 have hS := hS.perm U4
 refine Ze1 (v := h0) (cs := ([s2] ++ [a5]).toArray) (cs' := ([s2] ++ [h0]).toArray) Zd8 rfl rfl hS h2.isOne rfl (Nat.le_of_ble_eq_true rfl) rfl ?_
 intro s6 hS
 have hS := hS.perm U4.symm
 refine Z0 (X2 (Z1 (Z4 (vI a4) (by exact (evT (d2 11 rfl) d8)) rfl ?_)))
 refine V0 (a4 + 1) rfl rfl (IntWalk.i64_in _ (by omega)) rfl (Z6 (vI (a4 + 1)) rfl rfl (Z0 ?_))
 exact j9 _ _ ⟨(a4 + 1), (a6 ++ [d4]), i4, l9, h0, c4, Z2, hS, (by omega), h2, c0, c1, b2, c2, c3, (evT (d2 1 rfl) e4), (evT (d2 2 rfl) e5), (evT (d2 3 rfl) f8), (evT (d2 4 rfl) e6), (evT (d2 8 rfl) f9), i5, rfl⟩
 rw [if_neg g0] at c6
 refine Z9 (bF g0 rfl) ?_
 refine W4 rfl ?_
 have hz := Option.some.inj c6
 subst hz
 exact m3 _ _ ⟨a6, i0, a9, a5, rfl, Z2, hS, a8, c0, c1, b2, f5, f7, e9⟩
 exact ⟨0, ([] : List MpT), H, ([]), (vN), c6, Z2, hS, (by omega), h8, c0, c1, b2, c2, c3, rfl, rfl, rfl, rfl, rfl, rfl, rfl⟩
 rintro s7 s8 ⟨b3, s9, c7, b0, rfl, Z2, hS, f2, c0, c1, b2, h7, d3, f3⟩
 dsimp only [Ex.elim] at d5
 refine Z3 (Z3 (Z1 (Z4 (s2) (by exact h7) rfl (Y2 N5 (by exact f3) rfl ?_))))
 refine Y4 (b0) Zd8 rfl (hS.get (mR mL)) rfl rfl ?_
 obtain ⟨t0, h3, hS, d9⟩ := f2.freeze hS
 have Z2 := Z2.trans h3
 have b2 := b2.mono h3
 obtain ⟨b9, j8, d5⟩ := bind_some d5
 refine Y8 Tryz.call173 (T0 rfl rfl) rfl (Yu3 j8 b2 d9 hS) ?_
 rintro t1 t4 ⟨_, t5, rfl, g6, hS, ⟨f4, m5, rfl, m2, rfl⟩⟩
 refine ⟨_, rfl, ?_⟩
 have Z2 := Z2.trans g6
 have b2 := b2.mono g6
 have d9 := d9.mono g6
 refine Z4 (Value.tuple #[f4, vI b9.2]) rfl rfl (U3 (f4) rfl rfl rfl (U3 (vI b9.2) rfl rfl rfl (Z6 (f4) rfl rfl (Z6 (vI b9.2) rfl rfl (Z0 (Z3 (Z1 (Z4 (vI b9.2) rfl rfl ?_))))))))
 refine L9 (k := .i64) (a := b9.2) (b := 0) rfl rfl rfl (Z0 ?_)
 by_cases e8 : b9.2 = 0
 rw [if_pos e8] at d5
 refine Z9 (bN e8 rfl) (Y6 (Z3 (Z1 ?_)))
 refine X8 P9 (by exact f3) (hS.get mL) rfl rfl ?_
 have hS := hS.perm U4
 refine W1 (v := vA ([s2] ++ [b0])) (vs := ([s2] ++ [b0]).toArray) (cs := ([vN] ++ [vN]).toArray) P9 (by exact d3) rfl rfl hS rfl (J6 (S2 b2.isOne) (S2 d9.isOne)) rfl ?_
 intro t6 hS
 have hS := hS.perm U4.symm
 refine Z6 (vI 0) rfl rfl (Z0 ?_)
 refine Y9 (vs := [vA ([s2] ++ [b0]), vI 0]) Tryz.func82 ⟨⟨_, (by exact d3), U8 P9 (hS.get (mR mL)) rfl⟩, rfl, trivial⟩ ?_
 have hz := Option.some.inj d5
 subst hz
 exact ⟨_, _, rfl, Z2, (St.dropA (St.dropA (St.dropA hS))), ⟨_, _, rfl, ⟨_, rfl, ⟨_, _, rfl, ⟨_, rfl, b2⟩, ⟨_, rfl, d9⟩⟩⟩, rfl⟩⟩
 rw [if_neg e8] at d5
 refine Y0 (bO e8 rfl) (Z3 (Z1 ?_))
 refine Q2 (vA ([vN] ++ [vN])) Yy7 rfl (Z4 (vI b9.2) rfl rfl ?_)
 have hS := hS.perm U4
 refine W1 (v := vA ([vN] ++ [vN])) (vs := ([vN] ++ [vN]).toArray) (cs := ([vN] ++ [vN]).toArray) P9 (by exact d3) rfl rfl hS rfl (J6 (S2 rfl) (S2 rfl)) rfl ?_
 intro t7 hS
 have hS := hS.perm U4.symm
 refine Z6 (vI b9.2) rfl rfl (Z0 ?_)
 refine Y9 (vs := [vA ([vN] ++ [vN]), vI b9.2]) Tryz.func82 ⟨⟨_, (by exact d3), U8 P9 (hS.get (mR mL)) rfl⟩, rfl, trivial⟩ ?_
 have hz := Option.some.inj d5
 subst hz
 exact ⟨_, _, rfl, Z2, (St.dropA (St.dropA (St.dropA hS))), ⟨_, _, rfl, ⟨_, rfl, ⟨_, _, rfl, ⟨_, rfl, Y3.nil⟩, ⟨_, rfl, Y3.nil⟩⟩⟩, rfl⟩⟩
end Go.Proofs.YtfodlhkoafhplaaGreat
