/- Walks of functions: each computes its pure function, if that gives a value. -/
import Derived.Test.YtfodlhkoafhplaaGreatSTy
import Derived.Test.YtfodlhkoafhplaaGreatSF12
import Derived.Test.YtfodlhkoafhplaaGreatSF1
import Derived.Test.YtfodlhkoafhplaaGreatSF14
import Derived.Test.YtfodlhkoafhplaaGreatSF10
namespace Go.Proofs.YtfodlhkoafhplaaGreat
open Go
set_option linter.unusedSimpArgs false
set_option linter.unusedVariables false
set_option maxRecDepth 100000
set_option maxHeartbeats 1000000
-- impl_number impl_sum_times
theorem m2_212 : Map2I Tryz.prog 212 298 := map2i Tryz.underlying212 Tryz.underlying298 Tryz.underlying3 Tryz.info3_ rfl Tryz.zeroValue109
theorem fldL214_3 : FldI Tryz.prog 214 3 3 := ⟨fun b o w => by simp [Instr.fieldAt, Instr.sureAddr, fieldPlace, Tryz.runUnderlying214, Tryz.sizeOf212, add_addr]⟩
theorem tyL212 : TyI Tryz.prog 212 false 1 := ⟨Tryz.isAgg212, Tryz.sizeOf212⟩
theorem tyL298 : TyI Tryz.prog 298 true 2 := ⟨Tryz.isAgg298, Tryz.sizeOf298⟩
theorem bld298 (a b : Int) (w : World) : (Instr.build 298 #[(0, .int .i64 a), (1, .int .i64 b)]).run Tryz.prog w = .ok (key2 a b) w := by
  simp [Instr.build, Instr.fill, Tryz.zeroValue298, Tryz.runUnderlying298, Tryz.sizeOf3, Value.cells, key2, Sem.run_bind]
theorem zeL298 : ∀ w, (zeroValue 298).run Tryz.prog w = .ok (.agg #[.int .i64 0, .int .i64 0]) w := Tryz.zeroValue298
theorem r_build2 {n : Nat} {f : Fr} {w : World} {ops : Array Oper} {J : Fr → World → Prop} {r : List Oper} {T' : TypeId} {d : Nat} {pos : String} {af : Array Edge} {x y : Operand} {a b : Int}
    (hx : ev f x = .int .i64 a) (hy : ev f y = .int .i64 b) (hn : Nat.blt d n = true) (K : RegL Tryz.prog n ops J r (upd f d (key2 a b)) w) : RegL Tryz.prog n ops J (⟨some d, .build 298 #[(0, x), (1, y)], T', pos, af, none⟩ :: r) f w :=
  reg_val rfl rfl hn (by simp [execOp, hx, hy, bld298]) K
theorem r_lk2 {n : Nat} {f : Fr} {w : World} {ops : Array Oper} {J : Fr → World → Prop} {r : List Oper} {T' : TypeId} {d : Nat} {pos : String} {af : Array Edge} {x y : Operand} {b : Nat} {i e : Int} {u : Value}
    (hr : (Instr.lookup 212 (.map (some b)) (key2 i e) true).run Tryz.prog w = .ok u w) (hx : ev f x = .map (some b)) (hy : ev f y = key2 i e) (hn : Nat.blt d n = true)
    (K : RegL Tryz.prog n ops J r (upd f d u) w) : RegL Tryz.prog n ops J (⟨some d, .lookup 212 x y true, T', pos, af, none⟩ :: r) f w :=
  reg_val rfl rfl hn (by simp only [execOp, hx, hy, Sem.run_bind, hr]; rfl) K
theorem r_up2 {n : Nat} {f : Fr} {w w' : World} {ops : Array Oper} {J : Fr → World → Prop} {r : List Oper} {T' : TypeId} {pos : String} {af : Array Edge} {x y z : Operand} {b : Nat} {i e : Int} {u : Value}
    (hr : (Instr.mapUpdate 212 (.map (some b)) (key2 i e) u).run Tryz.prog w = .ok () w') (hx : ev f x = .map (some b)) (hy : ev f y = key2 i e) (hz : ev f z = u)
    (K : RegL Tryz.prog n ops J r f w') : RegL Tryz.prog n ops J (⟨none, .mapUpdate 212 x y z, T', pos, af, none⟩ :: r) f w :=
  reg_skip rfl rfl (by simp only [execOp, hx, hy, hz, Sem.run_bind, hr]; rfl) K
theorem leader_power_aux (K : Nat) : ∀ (n : Nat) {a0 : LdT} {a1 a2 : Int} {r : MpT}, a2.toNat = n → g_impl_leader_power K a0 a1 a2 = some r → ∀ {H : FH} {w : World} {L : OL} {s0 : Value}, PtrF (tyLd K) H s0 a0 → St H w L →
    Calls Tryz.prog 208 #[s0, Value.int .i64 a1, Value.int .i64 a2] w (Done (fun v G => (R.mp .i64).p G v r) H L) := by
  intro n
  induction n with
  | zero =>
    intro a0 a1 a2 r hn q0 H w L s0 hs0 hS
    unfold g_impl_leader_power at q0
    by_cases hg : 0 ≤ a2 ∧ a2 ≤ 4611686018427387904
    case neg => rw [if_neg hg] at q0; cases q0
    rw [if_pos hg, hn] at q0
    have h0 : a2 = 0 := by omega
    refine calls_of_run Tryz.func208 rfl Tryz.ntmps208 rfl ?_
    refine run_seq ?_
    refine run_region ?_
    refine r_assign (Value.map none) rfl rfl ?_
    refine reg_nil ?_
    refine run_seq ?_
    refine run_seq ?_
    refine run_region ?_
    refine r_move (Value.int .i64 a2) rfl rfl ?_
    refine r_eql (k := .i64) (a := a2) (b := 0) rfl rfl rfl ?_
    refine reg_nil ?_
    refine run_cond_true (congrArg Value.bool (decide_eq_true h0)) ?_
    refine run_seq ?_
    refine run_region ?_
    refine r_callFn Tryz.call207 args0 rfl (g_impl_number_ok (show g_impl_number K = some r from q0) hS) ?_
    rintro e1 w1 ⟨m1, H1, C1, rfl, sb1, hS, ho1⟩
    refine ⟨_, rfl, ?_⟩
    refine r_assign (m1) rfl rfl ?_
    refine reg_nil ?_
    refine run_ret (vs := [m1]) Tryz.func208 ⟨rfl, trivial⟩ ?_
    obtain ⟨H2, sb2, hS, hf⟩ := ho1.freeze hS
    exact ⟨_, _, rfl, sb1.trans sb2, hS, hf⟩
  | succ n ih =>
    intro a0 a1 a2 r hn q0 H w L s0 hs0 hS
    have qq := q0
    unfold g_impl_leader_power at q0
    by_cases hg : 0 ≤ a2 ∧ a2 ≤ 4611686018427387904
    case neg => rw [if_neg hg] at q0; cases q0
    rw [if_pos hg, hn] at q0
    have h0 : ¬ a2 = 0 := by omega
    unfold pwN at q0
    by_cases hi : 0 ≤ a1 ∧ a1 < (a0.2.2.length : Int)
    case neg => rw [if_neg hi] at q0; cases q0
    rw [if_pos hi] at q0
    obtain ⟨hc141, hc152⟩ := hi
    obtain ⟨r48, hp48, hr⟩ := bind_some q0
    have hn48 : (a2 - 1).toNat = n := by omega
    have hr48 : g_impl_leader_power K (a0.1, a0.2.1, a0.2.2) a1 (a2 - 1) = some r48 := by
      unfold g_impl_leader_power
      rw [if_pos (by omega), hn48]; exact hp48
    obtain ⟨bs0, os0, css0, Es0, _, rfl, hbs0, ⟨us0p_0, us0p_1, us0p_2, bms0p, rfl, hus0p_0, hus0p_1, hus0p_2, hms0p⟩, hcs0⟩ := hs0
    refine calls_of_run Tryz.func208 rfl Tryz.ntmps208 rfl ?_
    refine run_seq ?_
    refine run_region ?_
    refine r_assign (Value.map none) rfl rfl ?_
    refine reg_nil ?_
    refine run_seq ?_
    refine run_seq ?_
    refine run_region ?_
    refine r_move (Value.int .i64 a2) rfl rfl ?_
    refine r_eql (k := .i64) (a := a2) (b := 0) rfl rfl rfl ?_
    refine reg_nil ?_
    refine run_cond_false (congrArg Value.bool (decide_eq_false h0)) ?_
    refine run_skip ?_
    refine run_seq ?_
    refine run_region ?_
    refine r_move (Value.int .i64 a1) rfl rfl ?_
    refine r_move (Value.int .i64 a2) rfl rfl ?_
    refine r_build2 (a := a1) (b := a2) rfl rfl rfl ?_
    refine r_alloc (z := .agg #[.int .i64 0, .int .i64 0]) #[.int .i64 0, .int .i64 0] zeL298 rfl hS rfl ?_
    intro b7 w7 hS
    refine r_storeAll (v := key2 a1 a2) (vs := #[.int .i64 a1, .int .i64 a2]) (cs := #[.int .i64 0, .int .i64 0]) tyL298 rfl rfl rfl hS rfl (by intro u hu; simp at hu; rcases hu with rfl | rfl <;> rfl) rfl ?_
    intro w8 hS
    refine reg_nil ?_
    obtain ⟨o, ⟨es, clock, rfl, hI⟩, hS⟩ := hS.takeM hms0p
    obtain ⟨u0, b0, hlk, hlkq⟩ := run_lookup2 m2_212 a1 a2 (b := bms0p) (clock := clock) (fun m hm => let ⟨i, e, t, h, _⟩ := hI m hm; ⟨i, e, h⟩)
    have hq : b0 = true → RdMp .i64 H u0 r := by
      intro hb
      obtain ⟨m, hm, hk, rfl⟩ := hlkq hb
      obtain ⟨i, e, t, hk', hp, hv⟩ := hI m hm
      obtain ⟨rfl, rfl⟩ := key2_inj (hk.symm.trans hk')
      rw [qq] at hp; cases hp
      exact hv.fr rfl
    refine run_seq ?_
    refine run_seq ?_
    refine run_draw 11 (tabL [(18, MP.eq (Value.pointer (some ⟨bs0, os0, none⟩))), (19, MP.eq (Value.pointer (some ⟨bs0, os0, none⟩))), (20, MP.eq (Value.pointer (some ⟨bs0, os0 + 3, none⟩))), (21, MP.eq (Value.map (some bms0p))), (22, MP.eq (key2 a1 a2)),
      (23, MP.eq (.tuple #[u0, .bool b0])), (17, MP.eq (.tuple #[u0, .bool b0])), (24, MP.eq u0), (25, MP.eq (.bool b0)), (8, MP.eq u0), (9, MP.eq (.bool b0))]) [] mixed rfl rfl rfl hS
      (hop_q rfl ?_ (hop_q rfl ?_ (hop_q rfl ?_ (hop_q rfl ?_ (hop_q rfl ?_ (hop_q rfl ?_ (hop_q rfl ?_ (hop_q rfl ?_ (hop_q rfl ?_ (hop_q rfl ?_ (hop_q rfl ?_ hop_nil))))))))))) ?_
    · intro f1 w1 H1 X1 sb hS hB hV hcq
      refine r_move (Value.pointer (some ⟨bs0, os0, none⟩)) (Eq.trans (hB 0 rfl) rfl) rfl ?_
      exact reg_nil ⟨18, _, _, rfl, rfl, Sub.refl _, hS, rfl⟩
    · intro f1 w1 H1 X1 sb hS hB hV hcq
      have q : ev f1 (.tmp 18) = Value.pointer (some ⟨bs0, os0, none⟩) := hV 0 18 rfl rfl
      refine r_nilCheck q rfl ?_
      exact reg_nil ⟨19, _, _, rfl, rfl, Sub.refl _, hS, rfl⟩
    · intro f1 w1 H1 X1 sb hS hB hV hcq
      have q : ev f1 (.tmp 19) = Value.pointer (some ⟨bs0, os0, none⟩) := hV 1 19 rfl rfl
      refine r_fieldAddr fldL214_3 q rfl ?_
      exact reg_nil ⟨20, _, _, rfl, rfl, Sub.refl _, hS, rfl⟩
    · intro f1 w1 H1 X1 sb hS hB hV hcq
      have q : ev f1 (.tmp 20) = Value.pointer (some ⟨bs0, os0 + 3, none⟩) := hV 2 20 rfl rfl
      refine r_loadOne (Value.map (some bms0p)) tyL212 q (hS.froz _ _ (sb.1 _ _ hbs0)) (hcs0 3 (show 3 < 4 by decide)) rfl ?_
      exact reg_nil ⟨21, _, _, rfl, rfl, Sub.refl _, hS, rfl⟩
    · intro f1 w1 H1 X1 sb hS hB hV hcq
      have q : ev f1 (.tmp 7) = Value.pointer (some ⟨b7, 0, none⟩) := Eq.trans (hB 7 rfl) rfl
      refine r_loadAll tyL298 q (hS.own (b7, .cells #[.int .i64 a1, .int .i64 a2] 298) (List.mem_append_right _ (List.mem_append_right _ (List.mem_cons_self ..)))) rfl rfl ?_
      exact reg_nil ⟨22, _, _, rfl, rfl, Sub.refl _, hS, rfl⟩
    · intro f1 w1 H1 X1 sb hS hB hV hcq
      have q1 : ev f1 (.tmp 21) = Value.map (some bms0p) := hV 3 21 rfl rfl
      have q2 : ev f1 (.tmp 22) = key2 a1 a2 := hV 4 22 rfl rfl
      refine r_lk2 (hlk w1 (hS.own (bms0p, .map es clock) (List.mem_append_right _ (List.mem_append_left _ (List.mem_singleton.2 rfl))))) q1 q2 rfl ?_
      exact reg_nil ⟨23, _, _, rfl, rfl, Sub.refl _, hS, rfl⟩
    · intro f1 w1 H1 X1 sb hS hB hV hcq
      have q : ev f1 (.tmp 23) = .tuple #[u0, .bool b0] := hV 5 23 rfl rfl
      refine r_move _ q rfl ?_
      exact reg_nil ⟨17, _, _, rfl, rfl, Sub.refl _, hS, rfl⟩
    · intro f1 w1 H1 X1 sb hS hB hV hcq
      have q : ev f1 (.tmp 17) = .tuple #[u0, .bool b0] := hV 6 17 rfl rfl
      refine r_extract u0 q rfl rfl ?_
      exact reg_nil ⟨24, _, _, rfl, rfl, Sub.refl _, hS, rfl⟩
    · intro f1 w1 H1 X1 sb hS hB hV hcq
      have q : ev f1 (.tmp 17) = .tuple #[u0, .bool b0] := hV 6 17 rfl rfl
      refine r_extract (.bool b0) q rfl rfl ?_
      exact reg_nil ⟨25, _, _, rfl, rfl, Sub.refl _, hS, rfl⟩
    · intro f1 w1 H1 X1 sb hS hB hV hcq
      have q : ev f1 (.tmp 24) = u0 := hV 7 24 rfl rfl
      refine r_assign u0 q rfl ?_
      exact reg_nil ⟨8, _, _, rfl, rfl, Sub.refl _, hS, rfl⟩
    · intro f1 w1 H1 X1 sb hS hB hV hcq
      have q : ev f1 (.tmp 25) = .bool b0 := hV 8 25 rfl rfl
      refine r_assign (.bool b0) q rfl ?_
      exact reg_nil ⟨9, _, _, rfl, rfl, Sub.refl _, hS, rfl⟩
    intro f4 w4 H4 hs4 hS hB hV hcq
    have hS : St H4 w4 ([(bms0p, .map es clock)] ++ ([(b7, .cells #[.int .i64 a1, .int .i64 a2] 298)] ++ L)) := hS
    obtain ⟨H5, hsub, _, hS⟩ := hS.backM hs4 hms0p (memo_mono K a0) (memo_mono K a0 _ _ _ hs4.1 ⟨es, clock, rfl, hI⟩)
    have g0 : ev f4 (.tmp 0) = Value.pointer (some ⟨bs0, os0, none⟩) := Eq.trans (hB 0 rfl) rfl
    have g1 : ev f4 (.tmp 1) = Value.int .i64 a1 := Eq.trans (hB 1 rfl) rfl
    have g2 : ev f4 (.tmp 2) = Value.int .i64 a2 := Eq.trans (hB 2 rfl) rfl
    have g7 : ev f4 (.tmp 7) = Value.pointer (some ⟨b7, 0, none⟩) := Eq.trans (hB 7 rfl) rfl
    have g8 : ev f4 (.tmp 8) = u0 := hV 9 8 (by decide) rfl
    have g9 : ev f4 (.tmp 9) = .bool b0 := hV 10 9 (by decide) rfl
    have hus0p_0 := hus0p_0.mono hsub
    have hus0p_1 := hus0p_1.mono hsub
    have hus0p_2 := hus0p_2.mono hsub
    have hms0p := hms0p.mono hsub
    have hbs0 := hsub.1 _ _ hbs0
    refine reg_nil ?_
    refine run_seq ?_
    refine run_region ?_
    refine r_move (.bool b0) g9 rfl ?_
    refine reg_nil ?_
    by_cases hb0 : b0 = true
    · refine run_cond_true (congrArg Value.bool hb0) ?_
      refine run_seq ?_
      refine run_region ?_
      refine r_move u0 (by exact g8) rfl ?_
      refine r_assign u0 rfl rfl ?_
      refine reg_nil ?_
      refine run_ret (vs := [u0]) Tryz.func208 ⟨rfl, trivial⟩ ?_
      exact ⟨_, _, rfl, hsub, hS.dropA, (hq hb0).mono hsub⟩
    refine run_cond_false (congrArg Value.bool (by simpa using hb0)) ?_
    refine run_skip ?_
    refine run_seq ?_
    obtain ⟨b163, o163, cs163, E163, _, hp163, hb163, ⟨u163, rfl, hu163⟩, hc163⟩ := hus0p_2.elem (i := a1) (by omega) (by omega)
    refine run_draw 18 (tabL [(28, MP.eq (Value.pointer (some ⟨bs0, os0, none⟩))), (29, MP.eq (Value.int .i64 a1)), (30, MP.eq (Value.int .i64 a2)), (31, MP.eq (Value.int .i64 (a2 - 1))), (32, MP.rep (R.mp .i64) (r48)), (33, MP.eq (Value.pointer (some ⟨bs0, os0, none⟩))), (34, MP.eq (Value.pointer (some ⟨bs0, os0, none⟩))), (35, MP.eq (Value.pointer (some ⟨bs0, os0 + 1, none⟩))), (36, MP.eq (us0p_1)), (37, MP.eq (Value.pointer (some ⟨bs0, os0, none⟩))), (38, MP.eq (Value.pointer (some ⟨bs0, os0, none⟩))), (39, MP.eq (Value.pointer (some ⟨bs0, os0 + 2, none⟩))), (40, MP.eq (us0p_2)), (41, MP.eq (Value.int .i64 a1)), (42, MP.eq (Value.pointer (some ⟨b163, o163, none⟩))), (43, MP.eq (u163)), (44, MP.mp .i64 (r)), (10, MP.mp .i64 (r))]) [] mixed rfl rfl rfl hS (hop_q rfl ?_ (hop_q rfl ?_ (hop_q rfl ?_ (hop_q rfl ?_ (hop_q rfl ?_ (hop_q rfl ?_ (hop_q rfl ?_ (hop_q rfl ?_ (hop_q rfl ?_ (hop_q rfl ?_ (hop_q rfl ?_ (hop_q rfl ?_ (hop_q rfl ?_ (hop_q rfl ?_ (hop_q rfl ?_ (hop_q rfl ?_ (hop_q rfl ?_ (hop_q rfl ?_ hop_nil)))))))))))))))))) ?_
    · intro f1 w2 H3 X4 sb5 hS hB6 hV7 hcq
      have hsub := Sub.refl H3
      have hus0p_0 := hus0p_0.mono sb5
      have hus0p_1 := hus0p_1.mono sb5
      have hus0p_2 := hus0p_2.mono sb5
      have hms0p := hms0p.mono sb5
      have hbs0 := sb5.1 _ _ hbs0
      have q9 : ev f1 (.tmp 0) = Value.pointer (some ⟨bs0, os0, none⟩) := Eq.trans (hB6 0 rfl) (by exact g0)
      refine r_move (Value.pointer (some ⟨bs0, os0, none⟩)) q9 rfl ?_
      exact reg_nil ⟨28, _, _, rfl, rfl, hsub, hS, rfl⟩
    · intro f10 w11 H12 X13 sb14 hS hB15 hV16 hcq
      have hsub := Sub.refl H12
      have hus0p_0 := hus0p_0.mono sb14
      have hus0p_1 := hus0p_1.mono sb14
      have hus0p_2 := hus0p_2.mono sb14
      have hms0p := hms0p.mono sb14
      have hbs0 := sb14.1 _ _ hbs0
      have q18 : ev f10 (.tmp 1) = Value.int .i64 a1 := Eq.trans (hB15 1 rfl) (by exact g1)
      refine r_move (Value.int .i64 a1) q18 rfl ?_
      exact reg_nil ⟨29, _, _, rfl, rfl, hsub, hS, rfl⟩
    · intro f19 w20 H21 X22 sb23 hS hB24 hV25 hcq
      have hsub := Sub.refl H21
      have hus0p_0 := hus0p_0.mono sb23
      have hus0p_1 := hus0p_1.mono sb23
      have hus0p_2 := hus0p_2.mono sb23
      have hms0p := hms0p.mono sb23
      have hbs0 := sb23.1 _ _ hbs0
      have q27 : ev f19 (.tmp 2) = Value.int .i64 a2 := Eq.trans (hB24 2 rfl) (by exact g2)
      refine r_move (Value.int .i64 a2) q27 rfl ?_
      exact reg_nil ⟨30, _, _, rfl, rfl, hsub, hS, rfl⟩
    · intro f28 w29 H30 X31 sb32 hS hB33 hV34 hcq
      have hsub := Sub.refl H30
      have hus0p_0 := hus0p_0.mono sb32
      have hus0p_1 := hus0p_1.mono sb32
      have hus0p_2 := hus0p_2.mono sb32
      have hms0p := hms0p.mono sb32
      have hbs0 := sb32.1 _ _ hbs0
      have q36 : ev f28 (.tmp 30) = Value.int .i64 a2 := hV34 2 30 rfl rfl
      refine r_sub (a2 - 1) q36 rfl (IntWalk.i64_in _ (by omega)) rfl ?_
      exact reg_nil ⟨31, _, _, rfl, rfl, hsub, hS, rfl⟩
    · intro f37 w38 H39 X40 sb41 hS hB42 hV43 hcq
      have hsub := Sub.refl H39
      have hus0p_0 := hus0p_0.mono sb41
      have hus0p_1 := hus0p_1.mono sb41
      have hus0p_2 := hus0p_2.mono sb41
      have hms0p := hms0p.mono sb41
      have hbs0 := sb41.1 _ _ hbs0
      have q45 : ev f37 (.tmp 28) = Value.pointer (some ⟨bs0, os0, none⟩) := hV43 0 28 rfl rfl
      have q46 : ev f37 (.tmp 29) = Value.int .i64 a1 := hV43 1 29 rfl rfl
      have q47 : ev f37 (.tmp 31) = Value.int .i64 (a2 - 1) := hV43 3 31 rfl rfl
      refine r_callFn Tryz.call208 (args3 q45 q46 q47) rfl (ih hn48 hr48 ⟨_, _, _, _, _, rfl, hbs0, ⟨_, _, _, _, rfl, hus0p_0, hus0p_1, hus0p_2, hms0p⟩, hcs0⟩ hS) ?_
      rintro e48 w49 ⟨v48, H48, rfl, sb48, hS, hk48⟩
      refine ⟨v48, rfl, ?_⟩
      have hsub := hsub.trans sb48
      exact reg_nil ⟨32, _, _, rfl, rfl, hsub, hS, hk48⟩
    · intro f50 w51 H52 X53 sb54 hS hB55 hV56 hcq
      have hsub := Sub.refl H52
      have hus0p_0 := hus0p_0.mono sb54
      have hus0p_1 := hus0p_1.mono sb54
      have hus0p_2 := hus0p_2.mono sb54
      have hms0p := hms0p.mono sb54
      have hbs0 := sb54.1 _ _ hbs0
      have q58 : ev f50 (.tmp 0) = Value.pointer (some ⟨bs0, os0, none⟩) := Eq.trans (hB55 0 rfl) (by exact g0)
      refine r_move (Value.pointer (some ⟨bs0, os0, none⟩)) q58 rfl ?_
      exact reg_nil ⟨33, _, _, rfl, rfl, hsub, hS, rfl⟩
    · intro f59 w60 H61 X62 sb63 hS hB64 hV65 hcq
      have hsub := Sub.refl H61
      have hus0p_0 := hus0p_0.mono sb63
      have hus0p_1 := hus0p_1.mono sb63
      have hus0p_2 := hus0p_2.mono sb63
      have hms0p := hms0p.mono sb63
      have hbs0 := sb63.1 _ _ hbs0
      have q67 : ev f59 (.tmp 33) = Value.pointer (some ⟨bs0, os0, none⟩) := hV65 5 33 rfl rfl
      refine r_nilCheck q67 rfl ?_
      exact reg_nil ⟨34, _, _, rfl, rfl, hsub, hS, rfl⟩
    · intro f68 w69 H70 X71 sb72 hS hB73 hV74 hcq
      have hsub := Sub.refl H70
      have hus0p_0 := hus0p_0.mono sb72
      have hus0p_1 := hus0p_1.mono sb72
      have hus0p_2 := hus0p_2.mono sb72
      have hms0p := hms0p.mono sb72
      have hbs0 := sb72.1 _ _ hbs0
      have q76 : ev f68 (.tmp 34) = Value.pointer (some ⟨bs0, os0, none⟩) := hV74 6 34 rfl rfl
      refine r_fieldAddr fld214_1 q76 rfl ?_
      exact reg_nil ⟨35, _, _, rfl, rfl, hsub, hS, rfl⟩
    · intro f77 w78 H79 X80 sb81 hS hB82 hV83 hcq
      have hsub := Sub.refl H79
      have hus0p_0 := hus0p_0.mono sb81
      have hus0p_1 := hus0p_1.mono sb81
      have hus0p_2 := hus0p_2.mono sb81
      have hms0p := hms0p.mono sb81
      have hbs0 := sb81.1 _ _ hbs0
      have q85 : ev f77 (.tmp 35) = Value.pointer (some ⟨bs0, os0 + 1, none⟩) := hV83 7 35 rfl rfl
      refine r_loadOne (us0p_1) ty22 q85 (hS.froz _ _ hbs0) (hcs0 1 (show 1 < 4 by decide)) rfl ?_
      exact reg_nil ⟨36, _, _, rfl, rfl, hsub, hS, rfl⟩
    · intro f86 w87 H88 X89 sb90 hS hB91 hV92 hcq
      have hsub := Sub.refl H88
      have hus0p_0 := hus0p_0.mono sb90
      have hus0p_1 := hus0p_1.mono sb90
      have hus0p_2 := hus0p_2.mono sb90
      have hms0p := hms0p.mono sb90
      have hbs0 := sb90.1 _ _ hbs0
      have q94 : ev f86 (.tmp 0) = Value.pointer (some ⟨bs0, os0, none⟩) := Eq.trans (hB91 0 rfl) (by exact g0)
      refine r_move (Value.pointer (some ⟨bs0, os0, none⟩)) q94 rfl ?_
      exact reg_nil ⟨37, _, _, rfl, rfl, hsub, hS, rfl⟩
    · intro f95 w96 H97 X98 sb99 hS hB100 hV101 hcq
      have hsub := Sub.refl H97
      have hus0p_0 := hus0p_0.mono sb99
      have hus0p_1 := hus0p_1.mono sb99
      have hus0p_2 := hus0p_2.mono sb99
      have hms0p := hms0p.mono sb99
      have hbs0 := sb99.1 _ _ hbs0
      have q103 : ev f95 (.tmp 37) = Value.pointer (some ⟨bs0, os0, none⟩) := hV101 9 37 rfl rfl
      refine r_nilCheck q103 rfl ?_
      exact reg_nil ⟨38, _, _, rfl, rfl, hsub, hS, rfl⟩
    · intro f104 w105 H106 X107 sb108 hS hB109 hV110 hcq
      have hsub := Sub.refl H106
      have hus0p_0 := hus0p_0.mono sb108
      have hus0p_1 := hus0p_1.mono sb108
      have hus0p_2 := hus0p_2.mono sb108
      have hms0p := hms0p.mono sb108
      have hbs0 := sb108.1 _ _ hbs0
      have q112 : ev f104 (.tmp 38) = Value.pointer (some ⟨bs0, os0, none⟩) := hV110 10 38 rfl rfl
      refine r_fieldAddr fld214_2 q112 rfl ?_
      exact reg_nil ⟨39, _, _, rfl, rfl, hsub, hS, rfl⟩
    · intro f113 w114 H115 X116 sb117 hS hB118 hV119 hcq
      have hsub := Sub.refl H115
      have hus0p_0 := hus0p_0.mono sb117
      have hus0p_1 := hus0p_1.mono sb117
      have hus0p_2 := hus0p_2.mono sb117
      have hms0p := hms0p.mono sb117
      have hbs0 := sb117.1 _ _ hbs0
      have q121 : ev f113 (.tmp 39) = Value.pointer (some ⟨bs0, os0 + 2, none⟩) := hV119 11 39 rfl rfl
      refine r_loadOne (us0p_2) ty184 q121 (hS.froz _ _ hbs0) (hcs0 2 (show 2 < 4 by decide)) rfl ?_
      exact reg_nil ⟨40, _, _, rfl, rfl, hsub, hS, rfl⟩
    · intro f122 w123 H124 X125 sb126 hS hB127 hV128 hcq
      have hsub := Sub.refl H124
      have hus0p_0 := hus0p_0.mono sb126
      have hus0p_1 := hus0p_1.mono sb126
      have hus0p_2 := hus0p_2.mono sb126
      have hms0p := hms0p.mono sb126
      have hbs0 := sb126.1 _ _ hbs0
      have q130 : ev f122 (.tmp 1) = Value.int .i64 a1 := Eq.trans (hB127 1 rfl) (by exact g1)
      refine r_move (Value.int .i64 a1) q130 rfl ?_
      exact reg_nil ⟨41, _, _, rfl, rfl, hsub, hS, rfl⟩
    · intro f153 w154 H155 X156 sb157 hS hB158 hV159 hcq
      have hsub := Sub.refl H155
      have hus0p_0 := hus0p_0.mono sb157
      have hus0p_1 := hus0p_1.mono sb157
      have hus0p_2 := hus0p_2.mono sb157
      have hms0p := hms0p.mono sb157
      have hbs0 := sb157.1 _ _ hbs0
      have q161 : ev f153 (.tmp 40) = us0p_2 := hV159 12 40 rfl rfl
      have q162 : ev f153 (.tmp 41) = Value.int .i64 a1 := hV159 13 41 rfl rfl
      refine r_indexAt sl184 rfl q161 hp163 q162 (by omega) (by omega) rfl ?_
      exact reg_nil ⟨42, _, _, rfl, rfl, hsub, hS, rfl⟩
    · intro f164 w165 H166 X167 sb168 hS hB169 hV170 hcq
      have hsub := Sub.refl H166
      have hus0p_0 := hus0p_0.mono sb168
      have hus0p_1 := hus0p_1.mono sb168
      have hus0p_2 := hus0p_2.mono sb168
      have hms0p := hms0p.mono sb168
      have hbs0 := sb168.1 _ _ hbs0
      have hu163 := hu163.mono sb168
      have hb163 := sb168.1 _ _ hb163
      have q172 : ev f164 (.tmp 42) = Value.pointer (some ⟨b163, o163, none⟩) := hV170 14 42 rfl rfl
      refine r_loadOne (u163) ty109 q172 (hS.froz _ _ hb163) (hc163 0 (show 0 < 1 by decide)) rfl ?_
      exact reg_nil ⟨43, _, _, rfl, rfl, hsub, hS, rfl⟩
    · intro f173 w174 H175 X176 sb177 hS hB178 hV179 hcq
      have hsub := Sub.refl H175
      have hus0p_0 := hus0p_0.mono sb177
      have hus0p_1 := hus0p_1.mono sb177
      have hus0p_2 := hus0p_2.mono sb177
      have hms0p := hms0p.mono sb177
      have hbs0 := sb177.1 _ _ hbs0
      have hu163 := hu163.mono sb177
      have hb163 := sb177.1 _ _ hb163
      obtain ⟨v182, q181⟩ : ∃ v, ev f173 (.tmp 32) = v := ⟨_, rfl⟩
      have hq182 : (R.mp .i64).p H175 v182 (r48) := q181 ▸ (hV179 4 32 rfl rfl)
      have hu182 := hq182
      have q183 : ev f173 (.tmp 36) = us0p_1 := hV179 8 36 rfl rfl
      have q184 : ev f173 (.tmp 43) = u163 := hV179 15 43 rfl rfl
      refine r_callFn Tryz.call131 (args3 q181 q183 q184) rfl (g_impl_sum_times_ok hr hu182 hus0p_1 hu163 hS) ?_
      rintro e186 w187 ⟨m186, H186, C186, rfl, sb186, hS, ho186⟩
      refine ⟨_, rfl, ?_⟩
      have hsub := hsub.trans sb186
      obtain ⟨H189, sb190, hS, hu186⟩ := ho186.freeze hS
      have hsub := hsub.trans sb190
      exact reg_nil ⟨44, _, _, rfl, rfl, hsub, hS, hu186⟩
    · intro f191 w192 H193 X194 sb195 hS hB196 hV197 hcq
      have hsub := Sub.refl H193
      have hus0p_0 := hus0p_0.mono sb195
      have hus0p_1 := hus0p_1.mono sb195
      have hus0p_2 := hus0p_2.mono sb195
      have hms0p := hms0p.mono sb195
      have hbs0 := sb195.1 _ _ hbs0
      have hu163 := hu163.mono sb195
      have hb163 := sb195.1 _ _ hb163
      obtain ⟨v200, q199⟩ : ∃ v, ev f191 (.tmp 44) = v := ⟨_, rfl⟩
      have hu200 : RdMp .i64 H193 v200 (r) := q199 ▸ (hV197 16 44 rfl rfl)
      refine r_assign (v200) q199 rfl ?_
      exact reg_nil ⟨10, _, _, rfl, rfl, hsub, hS, hu200⟩
    intro f5 w5 H6 sb6 hS hB hV hcq
    have hS : St H6 w5 ([(b7, .cells #[.int .i64 a1, .int .i64 a2] 298)] ++ L) := hS
    have hsub := hsub.trans sb6
    have hms0p := hms0p.mono sb6
    have hbs0 := sb6.1 _ _ hbs0
    have h10 : RdMp .i64 H6 (ev f5 (.tmp 10)) r := hV 17 10 (by decide) rfl
    obtain ⟨v10, e10⟩ : ∃ v, ev f5 (.tmp 10) = v := ⟨_, rfl⟩
    rw [e10] at h10
    have k0 : ev f5 (.tmp 0) = Value.pointer (some ⟨bs0, os0, none⟩) := Eq.trans (hB 0 rfl) g0
    have k7 : ev f5 (.tmp 7) = Value.pointer (some ⟨b7, 0, none⟩) := Eq.trans (hB 7 rfl) g7
    refine reg_nil ?_
    refine run_seq ?_
    refine run_draw 6 (tabL [(45, MP.eq (Value.pointer (some ⟨bs0, os0, none⟩))), (46, MP.eq (Value.pointer (some ⟨bs0, os0, none⟩))), (47, MP.eq (Value.pointer (some ⟨bs0, os0 + 3, none⟩))), (48, MP.eq (Value.map (some bms0p))), (49, MP.eq (key2 a1 a2)), (50, MP.eq v10)]) [] mixed rfl rfl rfl hS
      (hop_q rfl ?_ (hop_q rfl ?_ (hop_q rfl ?_ (hop_q rfl ?_ (hop_q rfl ?_ (hop_q rfl ?_ hop_nil)))))) ?_
    · intro f1 w1 H1 X1 sb hS hB hV hcq
      have q : ev f1 (.tmp 0) = Value.pointer (some ⟨bs0, os0, none⟩) := Eq.trans (hB 0 rfl) k0
      refine r_move _ q rfl ?_
      exact reg_nil ⟨45, _, _, rfl, rfl, Sub.refl _, hS, rfl⟩
    · intro f1 w1 H1 X1 sb hS hB hV hcq
      have q : ev f1 (.tmp 45) = Value.pointer (some ⟨bs0, os0, none⟩) := hV 0 45 rfl rfl
      refine r_nilCheck q rfl ?_
      exact reg_nil ⟨46, _, _, rfl, rfl, Sub.refl _, hS, rfl⟩
    · intro f1 w1 H1 X1 sb hS hB hV hcq
      have q : ev f1 (.tmp 46) = Value.pointer (some ⟨bs0, os0, none⟩) := hV 1 46 rfl rfl
      refine r_fieldAddr fldL214_3 q rfl ?_
      exact reg_nil ⟨47, _, _, rfl, rfl, Sub.refl _, hS, rfl⟩
    · intro f1 w1 H1 X1 sb hS hB hV hcq
      have q : ev f1 (.tmp 47) = Value.pointer (some ⟨bs0, os0 + 3, none⟩) := hV 2 47 rfl rfl
      refine r_loadOne (Value.map (some bms0p)) tyL212 q (hS.froz _ _ (sb.1 _ _ hbs0)) (hcs0 3 (show 3 < 4 by decide)) rfl ?_
      exact reg_nil ⟨48, _, _, rfl, rfl, Sub.refl _, hS, rfl⟩
    · intro f1 w1 H1 X1 sb hS hB hV hcq
      have q : ev f1 (.tmp 7) = Value.pointer (some ⟨b7, 0, none⟩) := Eq.trans (hB 7 rfl) k7
      refine r_loadAll tyL298 q (hS.own (b7, .cells #[.int .i64 a1, .int .i64 a2] 298) (List.mem_append_right _ (List.mem_cons_self ..))) rfl rfl ?_
      exact reg_nil ⟨49, _, _, rfl, rfl, Sub.refl _, hS, rfl⟩
    · intro f1 w1 H1 X1 sb hS hB hV hcq
      have q : ev f1 (.tmp 10) = v10 := Eq.trans (hB 10 rfl) e10
      refine r_move _ q rfl ?_
      exact reg_nil ⟨50, _, _, rfl, rfl, Sub.refl _, hS, rfl⟩
    intro f6 w6 H7 sb7 hS hB hV hcq
    have hS : St H7 w6 ([(b7, .cells #[.int .i64 a1, .int .i64 a2] 298)] ++ L) := hS
    have hsub := hsub.trans sb7
    have hms0p := hms0p.mono sb7
    have h10 := h10.mono sb7
    have j48 : ev f6 (.tmp 48) = Value.map (some bms0p) := hV 3 48 (by decide) rfl
    have j49 : ev f6 (.tmp 49) = key2 a1 a2 := hV 4 49 (by decide) rfl
    have j50 : ev f6 (.tmp 50) = v10 := hV 5 50 (by decide) rfl
    have j10 : ev f6 (.tmp 10) = v10 := Eq.trans (hB 10 rfl) e10
    obtain ⟨w9, hup, hS⟩ := run_update2 (P := Tryz.prog) m2_212 a1 a2 hS hms0p qq h10
    refine r_up2 hup j48 j49 j50 ?_
    refine reg_nil ?_
    refine run_seq ?_
    refine run_region ?_
    refine r_move v10 j10 rfl ?_
    refine r_assign v10 rfl rfl ?_
    refine reg_nil ?_
    refine run_ret (vs := [v10]) Tryz.func208 ⟨rfl, trivial⟩ ?_
    exact ⟨_, _, rfl, hsub, hS.dropA, h10⟩
theorem g_impl_leader_power_ok {K : Nat} {a0 : LdT} {a1 a2 : Int} {r : MpT} (q0 : g_impl_leader_power K a0 a1 a2 = some r) {H : FH} {w : World} {L : OL} {s0 : Value} (hs0 : PtrF (tyLd K) H s0 a0) (hS : St H w L) :
    Calls Tryz.prog 208 #[s0, Value.int .i64 a1, Value.int .i64 a2] w (Done (fun v G => (R.mp .i64).p G v r) H L) := leader_power_aux K _ rfl q0 hs0 hS
def g_spec_l06Images_l1 (K : Nat) (a3 : (List Int)) (a5 : Int) : Nat → Bool → Int → Option (Ex (((List Int) × (List MpT)) × Int) (Bool))
 | 0, _, _ => none
 | k + 1, b6, a8 => (if a8 < (a3.length : Int) then (if b6 = true then g_spec_l06Images_l1 K a3 a5 k true (a8 + 1) else g_spec_l06Images_l1 K a3 a5 k (decide ((rd a3 a8) = a5)) (a8 + 1)) else some (.go b6))
def g_spec_l06Images_l0 (K : Nat) (a0 : ((List Int) × (List MpT))) (a1 : (List Int)) (a2 : (List MpT)) (a3 : (List Int)) : Nat → Int → (List MpT) → Option (Ex (((List Int) × (List MpT)) × Int) ((List MpT)))
 | 0, _, _ => none
 | k + 1, a5, a7 => (if a5 < (a0.1.length : Int) then ((g_spec_l06Images_l1 K a3 a5 K false 0).bind (Ex.elim (fun r => some (.ret r)) (fun s => (fun (c5 : Bool) => (if c5 = true then g_spec_l06Images_l0 K a0 a1 a2 a3 k (a5 + 1) a7 else (if a5 < (a0.2.length : Int) then ((g_spec_l04Apply K a1 a2 (rd a0.2 a5)).bind fun c9 => (if a7.length + ([c9]).length ≤ 1099511627776 then g_spec_l06Images_l0 K a0 a1 a2 a3 k (a5 + 1) (a7 ++ [c9]) else none)) else none))) s))) else some (.go a7))
def g_spec_l06Images (K : Nat) (a0 : ((List Int) × (List MpT))) (a1 : (List Int)) (a2 : (List MpT)) (a3 : (List Int)) : Option (((List Int) × (List MpT)) × Int) := ((g_spec_l06Images_l0 K a0 a1 a2 a3 K 0 ([] : List MpT)).bind (Ex.elim (fun r => some r) (fun s => (fun (b3 : (List MpT)) => ((g_spec_l04All K a1 b3).bind fun b9 => (if b9.2 = 0 then some ((a1, b3), 0) else some ((([] : List Int), ([] : List MpT)), b9.2)))) s)))
theorem g_spec_l06Images_ok {K : Nat} {a0 : ((List Int) × (List MpT))} {a1 : (List Int)} {a2 : (List MpT)} {a3 : (List Int)} {r : (((List Int) × (List MpT)) × Int)} (q0 : g_spec_l06Images K a0 a1 a2 a3 = some r) {H : FH} {w : World} {L : OL} {s0 : Value} {s1 : Value} {s2 : Value} {s3 : Value} {s4 : Value} (c0 : RdSl (tyInt .i64) H s0 a0.1) (c1 : RdSl (tySl yT) H s1 a0.2) (b2 : RdSl (tyInt .i64) H s2 a1) (c2 : RdSl (tySl yT) H s3 a2) (c3 : RdSl (tyInt .i64) H s4 a3) (hS : St H w L) :
 Calls Tryz.prog 82 #[vA ([s0] ++ [s1]), s2, s3, s4] w (Done (fun v G => (R.t2 (R.agg (tyPr (tySl (tyInt .i64)) (tySl (tySl yT)))) (R.int .i64)).p G v r) H L) := by
 have hsub := Sub.refl H
 refine calls_of_run Tryz.func82 rfl Tryz.ntmps82 rfl ?_
 unfold g_spec_l06Images at q0
 refine run_seq (run_region ?_)
 refine r_box (v := vA ([s0] ++ [s1])) ([s0] ++ [s1]).toArray rfl rfl hS rfl ?_
 intro b1 w2 hS
 refine r_alloc (z := vA ([vN] ++ [vN])) ([vN] ++ [vN]).toArray ze29.zero rfl hS rfl ?_
 intro b4 w5 hS
 refine r_assign (vI 0) rfl rfl (reg_nil (run_seq (run_region (r_move (s2) rfl rfl ?_))))
 refine r_build ([s2] ++ [vN]) bu29 (parts1 rfl) (fill_cons rfl b2.cellsL rfl (Nat.le_of_ble_eq_true rfl) (fill_nil rfl)) rfl ?_
 refine r_alloc (z := vA ([vN] ++ [vN])) ([vN] ++ [vN]).toArray ze29.zero rfl hS rfl ?_
 intro b7 w8 hS
 refine r_storeAll (v := vA ([s2] ++ [vN])) (vs := ([s2] ++ [vN]).toArray) (cs := ([vN] ++ [vN]).toArray) ty29 rfl rfl rfl hS rfl (one_app (one1 b2.isOne) (one1 rfl)) rfl ?_
 intro v1 hS
 refine reg_nil (run_seq (run_seq (run_region (r_assign (vI 0) rfl rfl (reg_nil (run_block ?_))))))
 have i2 : OwnSl (tySl yT) 47 H (.slice none 0 0) [] [] := OwnSl.nil _ _ _
 obtain ⟨i3, c6, d5⟩ := bind_some q0
 refine loop_ind (id := 0) (fun k f w => ∃ (a5 : Int) (a7 : (List MpT)) (H1 : FH) (b0 : OL) (a6 : Value), g_spec_l06Images_l0 K a0 a1 a2 a3 k a5 a7 = some i3 ∧ Sub H H1 ∧ St H1 w (b0 ++ ([(b7, cA ([s2] ++ [a6]) 29)] ++ ([(b4, cA ([vN] ++ [vN]) 29)] ++ ([(b1, cA ([s0] ++ [s1]) 29)] ++ L)))) ∧ 0 ≤ a5 ∧ OwnSl (tySl yT) 47 H1 a6 a7 b0 ∧ RdSl (tyInt .i64) H1 s0 a0.1 ∧ RdSl (tySl yT) H1 s1 a0.2 ∧ RdSl (tyInt .i64) H1 s2 a1 ∧ RdSl (tySl yT) H1 s3 a2 ∧ RdSl (tyInt .i64) H1 s4 a3 ∧ ev f (.tmp 1) = s2 ∧ ev f (.tmp 2) = s3 ∧ ev f (.tmp 3) = s4 ∧ ev f (.tmp 4) = vP b1 ∧ ev f (.tmp 8) = vP b4 ∧ ev f (.tmp 10) = vP b7 ∧ ev f (.tmp 11) = vI a5) (fun f w => ∃ (b3 : (List MpT)) (H1 : FH) (c7 : OL) (a4 : Value), i3 = .go b3 ∧ Sub H H1 ∧ St H1 w (c7 ++ ([(b7, cA ([s2] ++ [a4]) 29)] ++ ([(b4, cA ([vN] ++ [vN]) 29)] ++ ([(b1, cA ([s0] ++ [s1]) 29)] ++ L)))) ∧ OwnSl (tySl yT) 47 H1 a4 b3 c7 ∧ RdSl (tyInt .i64) H1 s0 a0.1 ∧ RdSl (tySl yT) H1 s1 a0.2 ∧ RdSl (tyInt .i64) H1 s2 a1 ∧ ev f (.tmp 1) = s2 ∧ ev f (.tmp 8) = vP b4 ∧ ev f (.tmp 10) = vP b7) rfl ?_ ?_ K ?_ ?_
 rintro f w ⟨a5, a7, H1, b0, a6, c6, _⟩
 rw [g_spec_l06Images_l0] at c6; cases c6
 rintro k p7 p8 k9 o5 ⟨a5, a7, i4, b0, a6, c6, hsub, hS, o2, a9, c0, c1, b2, c2, c3, f8, h8, h9, f9, g0, e9, f0⟩
 rw [g_spec_l06Images_l0] at c6
 refine run_seq (run_seq (run_region (r_move (vI a5) (by exact f0) rfl (r_fieldAddr fld29_0 (by exact f9) rfl ?_))))
 refine r_loadOne (s0) ty22 rfl (hS.get (mR (mR (mR mL)))) rfl rfl ?_
 have p9 := c0.bound
 refine r_lenRd sl22 rfl c0 rfl ?_
 refine r_lss (k := .i64) (a := a5) (b := (a0.1.length : Int)) rfl rfl rfl (reg_nil ?_)
 by_cases g3 : a5 < (a0.1.length : Int)
 rw [if_pos g3] at c6
 refine run_cond_true (Eq.trans rfl (congrArg Value.bool (decide_eq_true g3))) (run_skip (run_seq (run_block (run_seq (run_region (r_assign (Value.bool false) rfl rfl (reg_nil (run_seq (run_seq (run_region (r_assign (vI 0) rfl rfl (reg_nil (run_block ?_)))))))))))))
 obtain ⟨i5, b8, c4⟩ := bind_some c6
 refine loop_ind (id := 2) (fun k f w => ∃ (b6 : Bool) (a8 : Int) (H1 : FH), g_spec_l06Images_l1 K a3 a5 k b6 a8 = some i5 ∧ Sub H H1 ∧ St H1 w (b0 ++ ([(b7, cA ([s2] ++ [a6]) 29)] ++ ([(b4, cA ([vN] ++ [vN]) 29)] ++ ([(b1, cA ([s0] ++ [s1]) 29)] ++ L)))) ∧ 0 ≤ a8 ∧ RdSl (tyInt .i64) H1 s0 a0.1 ∧ RdSl (tySl yT) H1 s1 a0.2 ∧ RdSl (tyInt .i64) H1 s2 a1 ∧ RdSl (tySl yT) H1 s3 a2 ∧ RdSl (tyInt .i64) H1 s4 a3 ∧ OwnSl (tySl yT) 47 H1 a6 a7 b0 ∧ ev f (.tmp 1) = s2 ∧ ev f (.tmp 2) = s3 ∧ ev f (.tmp 3) = s4 ∧ ev f (.tmp 4) = vP b1 ∧ ev f (.tmp 8) = vP b4 ∧ ev f (.tmp 10) = vP b7 ∧ ev f (.tmp 11) = vI a5 ∧ ev f (.tmp 12) = Value.bool b6 ∧ ev f (.tmp 13) = vI a8) (fun f w => ∃ (c5 : Bool) (H1 : FH), i5 = .go c5 ∧ Sub H H1 ∧ St H1 w (b0 ++ ([(b7, cA ([s2] ++ [a6]) 29)] ++ ([(b4, cA ([vN] ++ [vN]) 29)] ++ ([(b1, cA ([s0] ++ [s1]) 29)] ++ L)))) ∧ RdSl (tyInt .i64) H1 s0 a0.1 ∧ RdSl (tySl yT) H1 s1 a0.2 ∧ RdSl (tyInt .i64) H1 s2 a1 ∧ RdSl (tySl yT) H1 s3 a2 ∧ RdSl (tyInt .i64) H1 s4 a3 ∧ OwnSl (tySl yT) 47 H1 a6 a7 b0 ∧ ev f (.tmp 1) = s2 ∧ ev f (.tmp 2) = s3 ∧ ev f (.tmp 3) = s4 ∧ ev f (.tmp 4) = vP b1 ∧ ev f (.tmp 8) = vP b4 ∧ ev f (.tmp 10) = vP b7 ∧ ev f (.tmp 11) = vI a5 ∧ ev f (.tmp 12) = Value.bool c5) rfl ?_ ?_ K ?_ ?_
 rintro f w ⟨b6, a8, H1, b8, _⟩
 rw [g_spec_l06Images_l1] at b8; cases b8
 rintro k q1 q2 l0 o6 ⟨b6, a8, h2, b8, hsub, hS, o3, c0, c1, b2, c2, c3, a9, e0, e1, c8, e2, e3, d6, d0, f1, d1⟩
 rw [g_spec_l06Images_l1] at b8
 refine run_seq (run_seq (run_region (r_move (vI a8) (by exact d1) rfl (r_move (s4) (by exact c8) rfl ?_))))
 have q3 := c3.bound
 refine r_lenRd sl105 rfl c3 rfl ?_
 refine r_lss (k := .i64) (a := a8) (b := (a3.length : Int)) rfl rfl rfl (reg_nil ?_)
 by_cases g4 : a8 < (a3.length : Int)
 rw [if_pos g4] at b8
 refine run_cond_true (Eq.trans rfl (congrArg Value.bool (decide_eq_true g4))) (run_skip (run_seq (run_block (run_region (r_move (Value.bool b6) (by exact f1) rfl (r_move (Value.bool b6) rfl rfl ?_))))))
 by_cases b5 : b6 = true
 rw [if_pos b5] at b8
 refine reg_unguard rfl rfl (Eq.trans rfl (congrArg Value.bool b5)) rfl rfl rfl (reg_unguard rfl rfl (Eq.trans rfl (congrArg Value.bool b5)) rfl rfl rfl (reg_unguard rfl rfl (Eq.trans rfl (congrArg Value.bool b5)) rfl rfl rfl (reg_unguard rfl rfl (Eq.trans rfl (congrArg Value.bool b5)) rfl rfl rfl (reg_unguard rfl rfl (Eq.trans rfl (congrArg Value.bool b5)) rfl rfl rfl (reg_unguard rfl rfl (Eq.trans rfl (congrArg Value.bool b5)) rfl rfl rfl ?_)))))
 refine r_pick (t := true) (Value.bool true) (Eq.trans rfl (congrArg Value.bool b5)) ((if_pos rfl).trans rfl) rfl (r_assign (Value.bool true) rfl rfl (reg_nil (run_inBlock (run_region (r_move (vI a8) (by exact d1) rfl ?_)))))
 refine r_add (a8 + 1) rfl rfl (IntWalk.i64_in _ (by omega)) rfl (r_assign (vI (a8 + 1)) rfl rfl (reg_nil ?_))
 exact l0 _ _ ⟨true, (a8 + 1), h2, b8, hsub, hS, (by omega), c0, c1, b2, c2, c3, a9, e0, e1, c8, e2, e3, d6, d0, rfl, rfl⟩
 rw [if_neg b5] at b8
 refine reg_guard rfl rfl (Eq.trans rfl (congrArg Value.bool (bfalse b5))) (r_move (s4) (by exact c8) rfl ?_)
 refine reg_guard rfl rfl (Eq.trans rfl (congrArg Value.bool (bfalse b5))) (r_move (vI a8) (by exact d1) rfl ?_)
 obtain ⟨v2, v3, q4, v4, _, l2, l3, rfl, l4⟩ := c3.elem (i := a8) (by omega) (by omega)
 refine reg_guard rfl rfl (Eq.trans rfl (congrArg Value.bool (bfalse b5))) ?_
 refine r_indexAt sl105 rfl rfl l2 rfl (by omega) (by omega) rfl ?_
 refine reg_guard rfl rfl (Eq.trans rfl (congrArg Value.bool (bfalse b5))) ?_
 refine r_loadOne (vI (rd a3 a8)) ty3 rfl (hS.froz _ _ l3) (l4 0 (show 0 < 1 by decide)) rfl ?_
 refine reg_guard rfl rfl (Eq.trans rfl (congrArg Value.bool (bfalse b5))) (r_move (vI a5) (by exact d0) rfl ?_)
 refine reg_guard rfl rfl (Eq.trans rfl (congrArg Value.bool (bfalse b5))) ?_
 refine r_eql (k := .i64) (a := (rd a3 a8)) (b := a5) rfl rfl rfl ?_
 refine r_pick (t := false) (Value.bool (decide ((rd a3 a8) = a5))) (Eq.trans rfl (congrArg Value.bool (bfalse b5))) ((if_neg Bool.false_ne_true).trans rfl) rfl (r_assign (Value.bool (decide ((rd a3 a8) = a5))) rfl rfl (reg_nil (run_inBlock (run_region (r_move (vI a8) (by exact d1) rfl ?_)))))
 refine r_add (a8 + 1) rfl rfl (IntWalk.i64_in _ (by omega)) rfl (r_assign (vI (a8 + 1)) rfl rfl (reg_nil ?_))
 exact l0 _ _ ⟨(decide ((rd a3 a8) = a5)), (a8 + 1), h2, b8, hsub, hS, (by omega), c0, c1, b2, c2, c3, a9, e0, e1, c8, e2, e3, d6, d0, rfl, rfl⟩
 rw [if_neg g4] at b8
 refine run_cond_false (Eq.trans rfl (congrArg Value.bool (decide_eq_false g4))) ?_
 refine run_exit rfl ?_
 have hz := Option.some.inj b8
 subst hz
 exact o6 _ _ ⟨b6, h2, rfl, hsub, hS, c0, c1, b2, c2, c3, a9, e0, e1, c8, e2, e3, d6, d0, f1⟩
 exact ⟨false, 0, i4, b8, hsub, hS, (by omega), c0, c1, b2, c2, c3, a9, f8, h8, h9, f9, g0, e9, f0, rfl, rfl⟩
 rintro q5 q6 ⟨c5, l5, rfl, hsub, hS, c0, c1, b2, c2, c3, a9, e4, e5, g1, e6, g2, d7, d8, h3⟩
 dsimp only [Ex.elim] at c4
 refine run_seq (run_region (r_move (Value.bool c5) (by exact h3) rfl (r_not (b := c5) rfl rfl (reg_nil ?_))))
 by_cases g5 : c5 = true
 rw [if_pos g5] at c4
 refine run_cond_false (Eq.trans rfl (congrArg (fun b => Value.bool (!b)) g5)) (run_skip (run_inBlock (run_region (r_move (vI a5) (by exact d8) rfl ?_))))
 refine r_add (a5 + 1) rfl rfl (IntWalk.i64_in _ (by omega)) rfl (r_assign (vI (a5 + 1)) rfl rfl (reg_nil ?_))
 exact k9 _ _ ⟨(a5 + 1), a7, l5, b0, a6, c4, hsub, hS, (by omega), a9, c0, c1, b2, c2, c3, e4, e5, g1, e6, g2, d7, rfl⟩
 rw [if_neg g5] at c4
 refine run_cond_true (Eq.trans rfl (congrArg (fun b => Value.bool (!b)) (bfalse g5))) ?_
 obtain ⟨q7, c4⟩ := gd c4
 obtain ⟨i6, i7, p2, q8, _, j5, g6, ⟨f2, rfl, e7⟩, j6⟩ := c1.elem (i := a5) (by omega) (by omega)
 obtain ⟨c9, j7, c4⟩ := bind_some c4
 refine run_draw 11 (tabL [(42, MP.eq (Value.pointer (some ⟨b7, 1, none⟩))), (43, MP.eq (a6)), (44, MP.eq (s2)), (45, MP.eq (s3)), (46, MP.eq (Value.pointer (some ⟨b1, 1, none⟩))), (47, MP.eq (s1)), (48, MP.eq (vI a5)), (49, MP.eq (Value.pointer (some ⟨i6, i7, none⟩))), (50, MP.eq (vA ([f2]))), (51, MP.rep (R.agg (tySl yT)) (c9)), (52, MP.sl (tySl yT) ([c9]))]) [] mixed rfl rfl rfl hS (hop_q rfl ?_ (hop_q rfl ?_ (hop_q rfl ?_ (hop_q rfl ?_ (hop_q rfl ?_ (hop_q rfl ?_ (hop_q rfl ?_ (hop_q rfl ?_ (hop_q rfl ?_ (hop_q rfl ?_ (hop_q rfl ?_ hop_nil))))))))))) ?_
 intro v5 v6 v7 v8 q9 hS l6 r0 hcq
 refine r_fieldAddr fld29_1 (evT (l6 10 rfl) d7) rfl ?_
 exact qn (.refl _) rfl hS rfl
 intro o7 v9 w0 w1 r1 hS r2 l7 hcq
 have o8 : ev o7 (.tmp 42) = Value.pointer (some ⟨b7, 1, none⟩) := l7 0 42 rfl rfl
 refine r_loadOne (a6) ty27 o8 (hS.get (mR (mR mL))) rfl rfl ?_
 exact qn (.refl _) rfl hS rfl
 intro w3 w4 w6 w7 r3 hS l9 r4 hcq
 refine r_move (s2) (evT (l9 1 rfl) e4) rfl ?_
 exact qn (.refl _) rfl hS rfl
 intro w9 x0 x1 x2 r5 hS m0 r6 hcq
 refine r_move (s3) (evT (m0 2 rfl) e5) rfl ?_
 exact qn (.refl _) rfl hS rfl
 intro x3 x4 x5 x6 r7 hS m1 r8 hcq
 refine r_fieldAddr fld29_1 (evT (m1 4 rfl) e6) rfl ?_
 exact qn (.refl _) rfl hS rfl
 intro o9 x7 x8 x9 r9 hS s5 m2 hcq
 have p0 : ev o9 (.tmp 46) = Value.pointer (some ⟨b1, 1, none⟩) := m2 4 46 rfl rfl
 refine r_loadOne (s1) ty27 p0 (hS.get (mR (mR (mR (mR mL))))) rfl rfl ?_
 exact qn (.refl _) rfl hS rfl
 intro y0 y1 y2 y3 s6 hS m3 s7 hcq
 refine r_move (vI a5) (evT (m3 11 rfl) d8) rfl ?_
 exact qn (.refl _) rfl hS rfl
 intro l1 y4 y5 y6 s8 hS s9 i8 hcq
 have m4 : ev l1 (.tmp 47) = s1 := i8 5 47 rfl rfl
 have m5 : ev l1 (.tmp 48) = vI a5 := i8 6 48 rfl rfl
 refine r_indexAt sl27 rfl m4 j5 m5 (by omega) (by omega) rfl ?_
 exact qn (.refl _) rfl hS rfl
 intro m6 t0 t1 t4 j8 hS p3 j9 hcq
 have g6 := j8.1 _ _ g6
 have m7 : ev m6 (.tmp 49) = Value.pointer (some ⟨i6, i7, none⟩) := j9 7 49 rfl rfl
 refine r_loadAgg ([f2]) ty47 m7 (hS.froz _ _ g6) rfl j6 rfl ?_
 exact qn (.refl _) rfl hS rfl
 intro h4 t5 t6 t7 g7 hS p4 g8 hcq
 have b2 := b2.mono g7
 have c2 := c2.mono g7
 have e7 := e7.mono g7
 have m8 : ev h4 (.tmp 44) = s2 := g8 2 44 rfl rfl
 have m9 : ev h4 (.tmp 45) = s3 := g8 3 45 rfl rfl
 have n0 : ev h4 (.tmp 50) = vA ([f2]) := g8 8 50 rfl rfl
 refine r_callFn Tryz.call81 (args3 m8 m9 n0) rfl (g_spec_l04Apply_ok j7 b2 c2 e7 hS) ?_
 rintro t8 t9 ⟨n1, u0, rfl, k0, hS, k1⟩
 refine ⟨n1, rfl, ?_⟩
 exact qn k0 rfl hS k1
 intro n2 u1 n3 u2 p5 hS p6 k2 hcq
 obtain ⟨n4, i9⟩ : ∃ v, ev n2 (.tmp 51) = v := ⟨_, rfl⟩
 have k3 : (R.agg (tySl yT)).p n3 n4 (c9) := i9 ▸ (k2 9 51 rfl rfl)
 obtain ⟨_, rfl, ⟨j0, rfl, i0⟩⟩ := k3
 refine r_lit (τ := (tySl yT)) sl27 ze47 rfl [vA ([j0])] [c9] rfl rfl (parts1 i9) (rel1 ⟨_, rfl, i0⟩) (by decide) (by decide) hS rfl ?_
 intro u3 u4 u5 k4 hS k5
 exact qn k4 rfl hS k5
 intro j1 n5 f3 d2 hS d3 h5 hcq
 have hS : St f3 n5 (b0 ++ ([(b7, cA ([s2] ++ [a6]) 29)] ++ ([(b4, cA ([vN] ++ [vN]) 29)] ++ ([(b1, cA ([s0] ++ [s1]) 29)] ++ L)))) := hS
 have hsub := hsub.trans d2
 have b2 := b2.mono d2
 have c2 := c2.mono d2
 have c3 := c3.mono d2
 have c0 := c0.mono d2
 have c1 := c1.mono d2
 have a9 := a9.mono d2
 have j2 := evT (d3 10 rfl) d7
 have n6 : ev j1 (.tmp 43) = a6 := h5 1 43 (by decide) rfl
 obtain ⟨n7, j3⟩ : ∃ v, ev j1 (.tmp 52) = v := ⟨_, rfl⟩
 have k6 : RdSl (tySl yT) f3 n7 ([c9]) := j3 ▸ (h5 10 52 (by decide) rfl)
 obtain ⟨k7, c4⟩ := gd c4
 refine r_append (τ := (tySl yT)) ap27 rfl (by exact n6) (by exact j3) a9 hS k6 k7 rfl ?_
 intro g9 n8 f4 h6 hS
 refine r_fieldAddr fld29_1 (by exact j2) rfl ?_
 have hS : St f3 n8 ([(b7, cA ([s2] ++ [a6]) 29)] ++ (f4 ++ ([(b4, cA ([vN] ++ [vN]) 29)] ++ ([(b1, cA ([s0] ++ [s1]) 29)] ++ L)))) := hS.perm (perm1 (A1 := f4))
 refine r_store1 (v := g9) (cs := ([s2] ++ [a6]).toArray) (cs' := ([s2] ++ [g9]).toArray) ty27 rfl rfl hS h6.isOne rfl (Nat.le_of_ble_eq_true rfl) rfl ?_
 intro n9 hS
 have hS : St f3 n9 (f4 ++ ([(b7, cA ([s2] ++ [g9]) 29)] ++ ([(b4, cA ([vN] ++ [vN]) 29)] ++ ([(b1, cA ([s0] ++ [s1]) 29)] ++ L)))) := hS.perm (perm1 (A1 := f4)).symm
 refine reg_nil (run_inBlock (run_region (r_move (vI a5) (by exact (evT (d3 11 rfl) d8)) rfl ?_)))
 refine r_add (a5 + 1) rfl rfl (IntWalk.i64_in _ (by omega)) rfl (r_assign (vI (a5 + 1)) rfl rfl (reg_nil ?_))
 exact k9 _ _ ⟨(a5 + 1), (a7 ++ [c9]), f3, f4, g9, c4, hsub, hS, (by omega), h6, c0, c1, b2, c2, c3, (evT (d3 1 rfl) e4), (evT (d3 2 rfl) e5), (evT (d3 3 rfl) g1), (evT (d3 4 rfl) e6), (evT (d3 8 rfl) g2), j2, rfl⟩
 rw [if_neg g3] at c6
 refine run_cond_false (Eq.trans rfl (congrArg Value.bool (decide_eq_false g3))) ?_
 refine run_exit rfl ?_
 have hz := Option.some.inj c6
 subst hz
 exact o5 _ _ ⟨a7, i4, b0, a6, rfl, hsub, hS, a9, c0, c1, b2, f8, g0, e9⟩
 exact ⟨0, ([] : List MpT), H, ([]), (vN), c6, hsub, hS, (by omega), i2, c0, c1, b2, c2, c3, rfl, rfl, rfl, rfl, rfl, rfl, rfl⟩
 rintro u6 u7 ⟨b3, u8, c7, a4, rfl, hsub, hS, f5, c0, c1, b2, i1, d4, f6⟩
 dsimp only [Ex.elim] at d5
 refine run_seq (run_seq (run_region (r_move (s2) (by exact i1) rfl (r_fieldAddr fld29_1 (by exact f6) rfl ?_))))
 refine r_loadOne (a4) ty27 rfl (hS.get (mR mL)) rfl rfl ?_
 obtain ⟨u9, h7, hS, d9⟩ := f5.freeze hS
 have hsub := hsub.trans h7
 have b2 := b2.mono h7
 obtain ⟨b9, k8, d5⟩ := bind_some d5
 refine r_callFn Tryz.call173 (args2 rfl rfl) rfl (g_spec_l04All_ok k8 b2 d9 hS) ?_
 rintro v0 j4 ⟨_, h0, rfl, h1, hS, ⟨f7, p1, rfl, o4, rfl⟩⟩
 refine ⟨_, rfl, ?_⟩
 have hsub := hsub.trans h1
 have b2 := b2.mono h1
 have d9 := d9.mono h1
 refine r_move (Value.tuple #[f7, vI b9.2]) rfl rfl (r_extract (f7) rfl rfl rfl (r_extract (vI b9.2) rfl rfl rfl (r_assign (f7) rfl rfl (r_assign (vI b9.2) rfl rfl (reg_nil (run_seq (run_region (r_move (vI b9.2) rfl rfl ?_))))))))
 refine r_neq (k := .i64) (a := b9.2) (b := 0) rfl rfl rfl (reg_nil ?_)
 by_cases e8 : b9.2 = 0
 rw [if_pos e8] at d5
 refine run_cond_false (Eq.trans rfl (congrArg (fun b => Value.bool (!b)) (decide_eq_true e8))) (run_skip (run_seq (run_region ?_)))
 refine r_loadAll ty29 (by exact f6) (hS.get mL) rfl rfl ?_
 have hS : St h0 j4 ([(b4, cA ([vN] ++ [vN]) 29)] ++ ([(b7, cA ([s2] ++ [a4]) 29)] ++ ([(b1, cA ([s0] ++ [s1]) 29)] ++ L))) := hS.perm (perm1 (A1 := [(b7, cA ([s2] ++ [a4]) 29)]))
 refine r_storeAll (v := vA ([s2] ++ [a4])) (vs := ([s2] ++ [a4]).toArray) (cs := ([vN] ++ [vN]).toArray) ty29 (by exact d4) rfl rfl hS rfl (one_app (one1 b2.isOne) (one1 d9.isOne)) rfl ?_
 intro o0 hS
 have hS : St h0 o0 ([(b7, cA ([s2] ++ [a4]) 29)] ++ ([(b4, cA ([s2] ++ [a4]) 29)] ++ ([(b1, cA ([s0] ++ [s1]) 29)] ++ L))) := hS.perm (perm1 (A1 := [(b7, cA ([s2] ++ [a4]) 29)])).symm
 refine r_assign (vI 0) rfl rfl (reg_nil ?_)
 refine run_ret (vs := [vA ([s2] ++ [a4]), vI 0]) Tryz.func82 ⟨⟨_, (by exact d4), run_loadAll ty29 (hS.get (mR mL)) rfl⟩, rfl, trivial⟩ ?_
 have hz := Option.some.inj d5
 subst hz
 exact ⟨_, _, rfl, hsub, (St.dropA (A := [(b1, cA ([s0] ++ [s1]) 29)]) (St.dropA (A := [(b4, cA ([s2] ++ [a4]) 29)]) (St.dropA (A := [(b7, cA ([s2] ++ [a4]) 29)]) hS))), ⟨_, _, rfl, ⟨_, rfl, ⟨_, _, rfl, ⟨_, rfl, b2⟩, ⟨_, rfl, d9⟩⟩⟩, rfl⟩⟩
 rw [if_neg e8] at d5
 refine run_cond_true (Eq.trans rfl (congrArg (fun b => Value.bool (!b)) (decide_eq_false e8))) (run_seq (run_region ?_))
 refine r_build0 (vA ([vN] ++ [vN])) bz29 rfl (r_move (vI b9.2) rfl rfl ?_)
 have hS : St h0 j4 ([(b4, cA ([vN] ++ [vN]) 29)] ++ ([(b7, cA ([s2] ++ [a4]) 29)] ++ ([(b1, cA ([s0] ++ [s1]) 29)] ++ L))) := hS.perm (perm1 (A1 := [(b7, cA ([s2] ++ [a4]) 29)]))
 refine r_storeAll (v := vA ([vN] ++ [vN])) (vs := ([vN] ++ [vN]).toArray) (cs := ([vN] ++ [vN]).toArray) ty29 (by exact d4) rfl rfl hS rfl (one_app (one1 rfl) (one1 rfl)) rfl ?_
 intro o1 hS
 have hS : St h0 o1 ([(b7, cA ([s2] ++ [a4]) 29)] ++ ([(b4, cA ([vN] ++ [vN]) 29)] ++ ([(b1, cA ([s0] ++ [s1]) 29)] ++ L))) := hS.perm (perm1 (A1 := [(b7, cA ([s2] ++ [a4]) 29)])).symm
 refine r_assign (vI b9.2) rfl rfl (reg_nil ?_)
 refine run_ret (vs := [vA ([vN] ++ [vN]), vI b9.2]) Tryz.func82 ⟨⟨_, (by exact d4), run_loadAll ty29 (hS.get (mR mL)) rfl⟩, rfl, trivial⟩ ?_
 have hz := Option.some.inj d5
 subst hz
 exact ⟨_, _, rfl, hsub, (St.dropA (A := [(b1, cA ([s0] ++ [s1]) 29)]) (St.dropA (A := [(b4, cA ([vN] ++ [vN]) 29)]) (St.dropA (A := [(b7, cA ([s2] ++ [a4]) 29)]) hS))), ⟨_, _, rfl, ⟨_, rfl, ⟨_, _, rfl, ⟨_, rfl, RdSl.nil⟩, ⟨_, rfl, RdSl.nil⟩⟩⟩, rfl⟩⟩
end Go.Proofs.YtfodlhkoafhplaaGreat
