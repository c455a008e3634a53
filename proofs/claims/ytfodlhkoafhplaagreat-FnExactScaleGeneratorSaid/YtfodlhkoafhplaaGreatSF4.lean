/- Walks of functions: each computes its pure function, if that gives a value. -/
import Derived.Test.YtfodlhkoafhplaaGreatSTy
namespace Go.Proofs.YtfodlhkoafhplaaGreat
open Go
set_option linter.unusedSimpArgs false
set_option linter.unusedVariables false
set_option maxRecDepth 100000
set_option maxHeartbeats 1000000
def g_spec_l01Mono_l0 (K : Nat) (a0 : (List Int)) (a1 : A8) : Nat → Int → Option (Ex Bool (Unit))
 | 0, _ => none
 | k + 1, a3 => (if a3 < 8 then (if (a0.length : Int) ≤ a3 then (if (idx8 a1 a3) = 0 then g_spec_l01Mono_l0 K a0 a1 k (a3 + 1) else some (.ret false)) else (if 20 < (idx8 a1 a3) then some (.ret false) else (if a3 < (a0.length : Int) then (if (((rd a0 a3)).tmod 2) = 0 then g_spec_l01Mono_l0 K a0 a1 k (a3 + 1) else (if 1 < (idx8 a1 a3) then some (.ret false) else g_spec_l01Mono_l0 K a0 a1 k (a3 + 1))) else none))) else some (.go ()))
def g_spec_l01Mono (K : Nat) (a0 : (List Int)) (a1 : A8) : Option Bool := ((g_spec_l01Mono_l0 K a0 a1 K 0).bind (Ex.elim (fun r => some r) (fun s => some true)))
theorem g_spec_l01Mono_ok {K : Nat} {a0 : (List Int)} {a1 : A8} {r : Bool} (q0 : g_spec_l01Mono K a0 a1 = some r) {H : FH} {w : World} {L : OL} {s0 : Value} (b2 : RdSl (tyInt .i64) H s0 a0) (hS : St H w L) :
 Calls Tryz.prog 202 #[s0, vA (enc8 .u8 a1)] w (Done (fun v G => R.bool.p G v r) H L) := by
 have hsub := Sub.refl H
 refine calls_of_run Tryz.func202 rfl Tryz.ntmps202 rfl ?_
 unfold g_spec_l01Mono at q0
 refine run_seq (run_region ?_)
 refine r_box (v := vA (enc8 .u8 a1)) (enc8 .u8 a1).toArray rfl rfl hS rfl ?_
 intro b1 w2 hS
 refine r_assign (Value.bool false) rfl rfl (reg_nil (run_seq (run_seq (run_region (r_assign (vI 0) rfl rfl (reg_nil (run_block ?_)))))))
 obtain ⟨b8, a4, b0⟩ := bind_some q0
 refine loop_ind (id := 0) (fun k f w => ∃ (a3 : Int) (H1 : FH), g_spec_l01Mono_l0 K a0 a1 k a3 = some b8 ∧ Sub H H1 ∧ St H1 w ([(b1, cA (enc8 .u8 a1) 70)] ++ L) ∧ 0 ≤ a3 ∧ RdSl (tyInt .i64) H1 s0 a0 ∧ ev f (.tmp 0) = s0 ∧ ev f (.tmp 3) = vP b1 ∧ ev f (.tmp 5) = vI a3) (fun f w => ∃ (H1 : FH), b8 = .go () ∧ Sub H H1 ∧ St H1 w ([(b1, cA (enc8 .u8 a1) 70)] ++ L)) rfl ?_ ?_ K ?_ ?_
 rintro f w ⟨a3, H1, a4, _⟩
 rw [g_spec_l01Mono_l0] at a4; cases a4
 rintro k c5 c6 b9 c3 ⟨a3, b3, a4, hsub, hS, c4, b2, a9, a8, a5⟩
 rw [g_spec_l01Mono_l0] at a4
 refine run_seq (run_seq (run_region (r_move (vI a3) (by exact a5) rfl ?_)))
 refine r_lss (k := .i64) (a := a3) (b := 8) rfl rfl rfl (reg_nil ?_)
 by_cases b5 : a3 < 8
 rw [if_pos b5] at a4
 refine run_cond_true (Eq.trans rfl (congrArg Value.bool (decide_eq_true b5))) (run_skip (run_seq (run_block (run_block (run_seq (run_region (r_move (vI a3) (by exact a5) rfl (r_move (s0) (by exact a9) rfl ?_))))))))
 have d1 := b2.bound
 refine r_lenRd sl22 rfl b2 rfl ?_
 refine r_geq (k := .i64) (a := a3) (b := (a0.length : Int)) rfl rfl rfl (r_assign (Value.bool (decide ((a0.length : Int) ≤ a3))) rfl rfl (reg_nil ?_))
 by_cases b6 : (a0.length : Int) ≤ a3
 rw [if_pos b6] at a4
 refine run_cond_true (Eq.trans rfl (congrArg Value.bool (decide_eq_true b6))) (run_seq (run_region (r_move (vI a3) (by exact a5) rfl ?_)))
 refine r_indexArP ar70 (by exact a8) rfl (by omega) (by omega) rfl ?_
 refine r_loadOne (Value.int .u8 (idx8 a1 a3)) ty5 rfl (hS.get (o := cA (enc8 .u8 a1) 70) mL) (box_ix ([]) ([]) (by omega) (by omega)) rfl ?_
 refine r_neq (k := .u8) (a := (idx8 a1 a3)) (b := 0) rfl rfl rfl (reg_nil ?_)
 by_cases b7 : (idx8 a1 a3) = 0
 rw [if_pos b7] at a4
 refine run_cond_false (Eq.trans rfl (congrArg (fun b => Value.bool (!b)) (decide_eq_true b7))) (run_skip (run_inBlock (run_inBlock (run_region (r_move (vI a3) (by exact a5) rfl ?_)))))
 refine r_add (a3 + 1) rfl rfl (IntWalk.i64_in _ (by omega)) rfl (r_assign (vI (a3 + 1)) rfl rfl (reg_nil ?_))
 exact b9 _ _ ⟨(a3 + 1), b3, a4, hsub, hS, (by omega), b2, a9, a8, rfl⟩
 rw [if_neg b7] at a4
 refine run_cond_true (Eq.trans rfl (congrArg (fun b => Value.bool (!b)) (decide_eq_false b7))) (run_seq (run_region (r_assign (Value.bool false) rfl rfl (reg_nil ?_))))
 refine run_ret (vs := [Value.bool false]) Tryz.func202 ⟨rfl, trivial⟩ ?_
 have hz := Option.some.inj a4
 subst hz
 dsimp only [Ex.elim] at b0
 have hz := Option.some.inj b0
 subst hz
 exact ⟨_, _, rfl, hsub, (St.dropA (A := [(b1, cA (enc8 .u8 a1) 70)]) hS), rfl⟩
 rw [if_neg b6] at a4
 refine run_cond_false (Eq.trans rfl (congrArg Value.bool (decide_eq_false b6))) (run_seq (run_region (r_move (vI a3) (by exact a5) rfl ?_)))
 refine r_indexArP ar70 (by exact a8) rfl (by omega) (by omega) rfl ?_
 refine r_loadOne (Value.int .u8 (idx8 a1 a3)) ty5 rfl (hS.get (o := cA (enc8 .u8 a1) 70) mL) (box_ix ([]) ([]) (by omega) (by omega)) rfl ?_
 refine r_gtr (k := .u8) (a := (idx8 a1 a3)) (b := 20) rfl rfl rfl (r_move (Value.bool (decide (20 < (idx8 a1 a3)))) rfl rfl ?_)
 by_cases a6 : 20 < (idx8 a1 a3)
 rw [if_pos a6] at a4
 refine reg_unguard rfl rfl (Eq.trans rfl (congrArg Value.bool (decide_eq_true a6))) rfl rfl rfl (reg_unguard rfl rfl (Eq.trans rfl (congrArg Value.bool (decide_eq_true a6))) rfl rfl rfl (reg_unguard rfl rfl (Eq.trans rfl (congrArg Value.bool (decide_eq_true a6))) rfl rfl rfl (reg_unguard rfl rfl (Eq.trans rfl (congrArg Value.bool (decide_eq_true a6))) rfl rfl rfl (reg_unguard rfl rfl (Eq.trans rfl (congrArg Value.bool (decide_eq_true a6))) rfl rfl rfl (reg_unguard rfl rfl (Eq.trans rfl (congrArg Value.bool (decide_eq_true a6))) rfl rfl rfl (reg_unguard rfl rfl (Eq.trans rfl (congrArg Value.bool (decide_eq_true a6))) rfl rfl rfl ?_))))))
 refine reg_undef rfl rfl rfl rfl rfl ?_
 refine reg_undef rfl rfl rfl rfl rfl ?_
 refine reg_undef rfl rfl rfl rfl rfl ?_
 refine reg_undef rfl rfl rfl rfl rfl (reg_unguard rfl rfl (Eq.trans rfl (congrArg Value.bool (decide_eq_true a6))) rfl rfl rfl ?_)
 refine r_pick (t := true) (Value.bool true) (Eq.trans rfl (congrArg Value.bool (decide_eq_true a6))) ((if_pos rfl).trans rfl) rfl (r_assign (Value.bool true) rfl rfl (reg_nil (run_cond_true rfl (run_seq (run_region (r_assign (Value.bool false) rfl rfl (reg_nil ?_)))))))
 refine run_ret (vs := [Value.bool false]) Tryz.func202 ⟨rfl, trivial⟩ ?_
 have hz := Option.some.inj a4
 subst hz
 dsimp only [Ex.elim] at b0
 have hz := Option.some.inj b0
 subst hz
 exact ⟨_, _, rfl, hsub, (St.dropA (A := [(b1, cA (enc8 .u8 a1) 70)]) hS), rfl⟩
 rw [if_neg a6] at a4
 refine reg_guard rfl rfl (Eq.trans rfl (congrArg Value.bool (decide_eq_false a6))) (r_move (s0) (by exact a9) rfl ?_)
 refine reg_guard rfl rfl (Eq.trans rfl (congrArg Value.bool (decide_eq_false a6))) (r_move (vI a3) (by exact a5) rfl ?_)
 refine reg_guard rfl rfl (Eq.trans rfl (congrArg Value.bool (decide_eq_false a6))) ?_
 obtain ⟨d2, a4⟩ := gd a4
 obtain ⟨d3, d4, c7, d5, _, c0, c1, rfl, c2⟩ := b2.elem (i := a3) (by omega) (by omega)
 refine r_indexAt sl22 rfl rfl c0 rfl (by omega) (by omega) rfl ?_
 refine reg_guard rfl rfl (Eq.trans rfl (congrArg Value.bool (decide_eq_false a6))) ?_
 refine r_loadOne (vI (rd a0 a3)) ty2 rfl (hS.froz _ _ c1) (c2 0 (show 0 < 1 by decide)) rfl ?_
 refine reg_guard rfl rfl (Eq.trans rfl (congrArg Value.bool (decide_eq_false a6))) ?_
 refine r_rem (((rd a0 a3)).tmod 2) rfl rfl (by decide) rfl rfl ?_
 refine reg_guard rfl rfl (Eq.trans rfl (congrArg Value.bool (decide_eq_false a6))) ?_
 refine r_neq (k := .i64) (a := (((rd a0 a3)).tmod 2)) (b := 0) rfl rfl rfl ?_
 refine reg_guard rfl rfl (Eq.trans rfl (congrArg Value.bool (decide_eq_false a6))) (r_move (Value.bool (!decide ((((rd a0 a3)).tmod 2) = 0))) rfl rfl ?_)
 by_cases a7 : (((rd a0 a3)).tmod 2) = 0
 rw [if_pos a7] at a4
 refine reg_unguard rfl rfl (Eq.trans rfl (congrArg (fun b => Value.bool (!b)) (decide_eq_true a7))) rfl rfl rfl (reg_unguard rfl rfl (Eq.trans rfl (congrArg (fun b => Value.bool (!b)) (decide_eq_true a7))) rfl rfl rfl (reg_unguard rfl rfl (Eq.trans rfl (congrArg (fun b => Value.bool (!b)) (decide_eq_true a7))) rfl rfl rfl (reg_unguard rfl rfl (Eq.trans rfl (congrArg (fun b => Value.bool (!b)) (decide_eq_true a7))) rfl rfl rfl ?_)))
 refine reg_guard rfl rfl (Eq.trans rfl (congrArg Value.bool (decide_eq_false a6))) ?_
 refine r_pick (t := false) (Value.bool false) (Eq.trans rfl (congrArg (fun b => Value.bool (!b)) (decide_eq_true a7))) ((if_neg Bool.false_ne_true).trans rfl) rfl ?_
 refine r_pick (t := false) (Value.bool false) (Eq.trans rfl (congrArg Value.bool (decide_eq_false a6))) ((if_neg Bool.false_ne_true).trans rfl) rfl (r_assign (Value.bool false) rfl rfl (reg_nil (run_cond_false rfl (run_skip (run_inBlock (run_inBlock (run_region (r_move (vI a3) (by exact a5) rfl ?_))))))))
 refine r_add (a3 + 1) rfl rfl (IntWalk.i64_in _ (by omega)) rfl (r_assign (vI (a3 + 1)) rfl rfl (reg_nil ?_))
 exact b9 _ _ ⟨(a3 + 1), b3, a4, hsub, hS, (by omega), b2, a9, a8, rfl⟩
 rw [if_neg a7] at a4
 refine reg_guard rfl rfl (Eq.trans rfl (congrArg (fun b => Value.bool (!b)) (decide_eq_false a7))) (r_move (vI a3) (by exact a5) rfl ?_)
 refine reg_guard rfl rfl (Eq.trans rfl (congrArg (fun b => Value.bool (!b)) (decide_eq_false a7))) ?_
 refine r_indexArP ar70 (by exact a8) rfl (by omega) (by omega) rfl ?_
 refine reg_guard rfl rfl (Eq.trans rfl (congrArg (fun b => Value.bool (!b)) (decide_eq_false a7))) ?_
 refine r_loadOne (Value.int .u8 (idx8 a1 a3)) ty5 rfl (hS.get (o := cA (enc8 .u8 a1) 70) mL) (box_ix ([]) ([]) (by omega) (by omega)) rfl ?_
 refine reg_guard rfl rfl (Eq.trans rfl (congrArg (fun b => Value.bool (!b)) (decide_eq_false a7))) ?_
 refine r_gtr (k := .u8) (a := (idx8 a1 a3)) (b := 1) rfl rfl rfl ?_
 refine reg_guard rfl rfl (Eq.trans rfl (congrArg Value.bool (decide_eq_false a6))) ?_
 refine r_pick (t := true) (Value.bool (decide (1 < (idx8 a1 a3)))) (Eq.trans rfl (congrArg (fun b => Value.bool (!b)) (decide_eq_false a7))) ((if_pos rfl).trans rfl) rfl ?_
 refine r_pick (t := false) (Value.bool (decide (1 < (idx8 a1 a3)))) (Eq.trans rfl (congrArg Value.bool (decide_eq_false a6))) ((if_neg Bool.false_ne_true).trans rfl) rfl (r_assign (Value.bool (decide (1 < (idx8 a1 a3)))) rfl rfl (reg_nil ?_))
 by_cases b4 : 1 < (idx8 a1 a3)
 rw [if_pos b4] at a4
 refine run_cond_true (Eq.trans rfl (congrArg Value.bool (decide_eq_true b4))) (run_seq (run_region (r_assign (Value.bool false) rfl rfl (reg_nil ?_))))
 refine run_ret (vs := [Value.bool false]) Tryz.func202 ⟨rfl, trivial⟩ ?_
 have hz := Option.some.inj a4
 subst hz
 dsimp only [Ex.elim] at b0
 have hz := Option.some.inj b0
 subst hz
 exact ⟨_, _, rfl, hsub, (St.dropA (A := [(b1, cA (enc8 .u8 a1) 70)]) hS), rfl⟩
 rw [if_neg b4] at a4
 refine run_cond_false (Eq.trans rfl (congrArg Value.bool (decide_eq_false b4))) (run_skip (run_inBlock (run_inBlock (run_region (r_move (vI a3) (by exact a5) rfl ?_)))))
 refine r_add (a3 + 1) rfl rfl (IntWalk.i64_in _ (by omega)) rfl (r_assign (vI (a3 + 1)) rfl rfl (reg_nil ?_))
 exact b9 _ _ ⟨(a3 + 1), b3, a4, hsub, hS, (by omega), b2, a9, a8, rfl⟩
 rw [if_neg b5] at a4
 refine run_cond_false (Eq.trans rfl (congrArg Value.bool (decide_eq_false b5))) ?_
 refine run_exit rfl ?_
 have hz := Option.some.inj a4
 subst hz
 exact c3 _ _ ⟨b3, rfl, hsub, hS⟩
 exact ⟨0, H, a4, hsub, hS, (by omega), b2, rfl, rfl, rfl⟩
 rintro c8 c9 ⟨d0, rfl, hsub, hS⟩
 dsimp only [Ex.elim] at b0
 refine run_seq (run_region (r_assign (Value.bool true) rfl rfl (reg_nil ?_)))
 refine run_ret (vs := [Value.bool true]) Tryz.func202 ⟨rfl, trivial⟩ ?_
 have hz := Option.some.inj b0
 subst hz
 exact ⟨_, _, rfl, hsub, (St.dropA (A := [(b1, cA (enc8 .u8 a1) 70)]) hS), rfl⟩
def g_impl_power_compare_l0 (K : Nat) (a0 : A8) (a1 : A8) : Nat → Int → Option (Ex Int (Unit))
 | 0, _ => none
 | k + 1, a3 => (if a3 < 8 then (if (idx8 a0 a3) = (idx8 a1 a3) then g_impl_power_compare_l0 K a0 a1 k (a3 + 1) else some (.ret (IntKind.i64.wrap ((idx8 a1 a3) - (idx8 a0 a3))))) else some (.go ()))
def g_impl_power_compare (K : Nat) (a0 : A8) (a1 : A8) : Option Int := ((g_impl_power_compare_l0 K a0 a1 K 0).bind (Ex.elim (fun r => some r) (fun s => some 0)))
theorem g_impl_power_compare_ok {K : Nat} {a0 : A8} {a1 : A8} {r : Int} (q0 : g_impl_power_compare K a0 a1 = some r) {H : FH} {w : World} {L : OL} (hS : St H w L) :
 Calls Tryz.prog 221 #[vA (enc8 .i64 a0), vA (enc8 .i64 a1)] w (Done (fun v G => (R.int .i64).p G v r) H L) := by
 have hsub := Sub.refl H
 refine calls_of_run Tryz.func221 rfl Tryz.ntmps221 rfl ?_
 unfold g_impl_power_compare at q0
 refine run_seq (run_region ?_)
 refine r_box (v := vA (enc8 .i64 a0)) (enc8 .i64 a0).toArray rfl rfl hS rfl ?_
 intro b1 w2 hS
 refine r_box (v := vA (enc8 .i64 a1)) (enc8 .i64 a1).toArray rfl rfl hS rfl ?_
 intro b4 w5 hS
 refine r_assign (vI 0) rfl rfl (reg_nil (run_seq (run_seq (run_region (r_move (vI 0) rfl rfl (reg_nil (run_block ?_)))))))
 obtain ⟨b5, a4, a8⟩ := bind_some q0
 refine loop_ind (id := 0) (fun k f w => ∃ (a3 : Int) (H1 : FH), g_impl_power_compare_l0 K a0 a1 k a3 = some b5 ∧ Sub H H1 ∧ St H1 w ([(b4, cA (enc8 .i64 a1) 188)] ++ ([(b1, cA (enc8 .i64 a0) 188)] ++ L)) ∧ 0 ≤ a3 ∧ ev f (.tmp 2) = vP b1 ∧ ev f (.tmp 3) = vP b4 ∧ ev f (.tmp 6) = vI a3) (fun f w => ∃ (H1 : FH), b5 = .go () ∧ Sub H H1 ∧ St H1 w ([(b4, cA (enc8 .i64 a1) 188)] ++ ([(b1, cA (enc8 .i64 a0) 188)] ++ L))) rfl ?_ ?_ K ?_ ?_
 rintro f w ⟨a3, H1, a4, _⟩
 rw [g_impl_power_compare_l0] at a4; cases a4
 rintro k j3 j4 g3 g4 ⟨a3, d5, a4, hsub, hS, g5, a6, a7, a5⟩
 rw [g_impl_power_compare_l0] at a4
 refine run_seq (run_region ?_)
 refine r_lss (k := .i64) (a := a3) (b := 8) (by exact a5) rfl rfl (reg_nil (run_seq ?_))
 by_cases b2 : a3 < 8
 rw [if_pos b2] at a4
 refine run_cond_true (Eq.trans rfl (congrArg Value.bool (decide_eq_true b2))) (run_skip (run_seq (run_block (run_seq (run_region (r_move (vI a3) (by exact a5) rfl (r_assign (vI a3) rfl rfl (reg_nil (run_seq ?_)))))))))
 refine run_draw 7 (tabL [(9, MP.eq (vI a3)), (10, MP.eq (Value.pointer (some ⟨b1, 0 + (a3).toNat * 1, none⟩))), (11, MP.eq (vI (idx8 a0 a3))), (12, MP.eq (vI a3)), (13, MP.eq (Value.pointer (some ⟨b4, 0 + (a3).toNat * 1, none⟩))), (14, MP.eq (vI (idx8 a1 a3))), (15, MP.eq (Value.bool (!decide ((idx8 a0 a3) = (idx8 a1 a3)))))]) [] mixed rfl rfl rfl hS (hop_q rfl ?_ (hop_q rfl ?_ (hop_q rfl ?_ (hop_q rfl ?_ (hop_q rfl ?_ (hop_q rfl ?_ (hop_q rfl ?_ hop_nil))))))) ?_
 intro f8 w9 n3 n4 j5 hS d6 j6 hcq
 have g6 : ev f8 (.tmp 5) = vI a3 := Eq.trans (d6 5 rfl) rfl
 refine r_move (vI a3) g6 rfl ?_
 exact qn (.refl _) rfl hS rfl
 intro g7 n5 n6 n7 j7 hS d7 d8 hcq
 have g8 : ev g7 (.tmp 9) = vI a3 := d8 0 9 rfl rfl
 refine r_indexArP ar188 (evT (d7 2 rfl) a6) g8 (by omega) (by omega) rfl ?_
 exact qn (.refl _) rfl hS rfl
 intro g9 n8 n9 o0 j8 hS j9 d9 hcq
 have h0 : ev g9 (.tmp 10) = Value.pointer (some ⟨b1, 0 + (a3).toNat * 1, none⟩) := d9 1 10 rfl rfl
 refine r_loadOne (vI (idx8 a0 a3)) ty3 h0 (hS.get (o := cA (enc8 .i64 a0) 188) (mR (mR mL))) (box_ix ([]) ([]) (by omega) (by omega)) rfl ?_
 exact qn (.refl _) rfl hS rfl
 intro h1 o1 o2 o3 k0 hS e0 k1 hcq
 have h2 : ev h1 (.tmp 5) = vI a3 := Eq.trans (e0 5 rfl) rfl
 refine r_move (vI a3) h2 rfl ?_
 exact qn (.refl _) rfl hS rfl
 intro h3 o4 o5 o6 k2 hS e1 e2 hcq
 have h4 : ev h3 (.tmp 12) = vI a3 := e2 3 12 rfl rfl
 refine r_indexArP ar188 (evT (e1 3 rfl) a7) h4 (by omega) (by omega) rfl ?_
 exact qn (.refl _) rfl hS rfl
 intro h5 o7 o8 o9 k3 hS k4 e3 hcq
 have h6 : ev h5 (.tmp 13) = Value.pointer (some ⟨b4, 0 + (a3).toNat * 1, none⟩) := e3 4 13 rfl rfl
 refine r_loadOne (vI (idx8 a1 a3)) ty3 h6 (hS.get (o := cA (enc8 .i64 a1) 188) (mR mL)) (box_ix ([]) ([]) (by omega) (by omega)) rfl ?_
 exact qn (.refl _) rfl hS rfl
 intro c8 p0 p1 p2 k5 hS k6 b6 hcq
 have h7 : ev c8 (.tmp 11) = vI (idx8 a0 a3) := b6 2 11 rfl rfl
 have h8 : ev c8 (.tmp 14) = vI (idx8 a1 a3) := b6 5 14 rfl rfl
 refine r_neq (k := .i64) (a := (idx8 a0 a3)) (b := (idx8 a1 a3)) h7 h8 rfl ?_
 exact qn (.refl _) rfl hS rfl
 intro c9 h9 d0 e4 hS a9 e5 hcq
 have hS : St d0 h9 ([(b4, cA (enc8 .i64 a1) 188)] ++ ([(b1, cA (enc8 .i64 a0) 188)] ++ L)) := hS
 have hsub := hsub.trans e4
 have d1 := evT (a9 2 rfl) a6
 have d2 := evT (a9 3 rfl) a7
 have d3 : ev c9 (.tmp 5) = vI a3 := Eq.trans (a9 5 rfl) rfl
 have d4 : ev c9 (.tmp 15) = Value.bool (!decide ((idx8 a0 a3) = (idx8 a1 a3))) := e5 6 15 (by decide) rfl
 refine reg_nil ?_
 by_cases b0 : (idx8 a0 a3) = (idx8 a1 a3)
 rw [if_pos b0] at a4
 refine run_cond_false (Eq.trans (by exact d4) (congrArg (fun b => Value.bool (!b)) (decide_eq_true b0))) (run_skip (run_inBlock (run_region ?_)))
 refine r_add (a3 + 1) (by exact (evT (a9 6 rfl) a5)) rfl (IntWalk.i64_in _ (by omega)) rfl (r_move (vI (a3 + 1)) rfl rfl (reg_nil ?_))
 exact g3 _ _ ⟨(a3 + 1), d0, a4, hsub, hS, (by omega), d1, d2, rfl⟩
 rw [if_neg b0] at a4
 refine run_cond_true (Eq.trans (by exact d4) (congrArg (fun b => Value.bool (!b)) (decide_eq_false b0))) (run_seq ?_)
 refine run_draw 8 (tabL [(16, MP.eq (vI a3)), (17, MP.eq (Value.pointer (some ⟨b4, 0 + (a3).toNat * 1, none⟩))), (18, MP.eq (vI (idx8 a1 a3))), (19, MP.eq (vI a3)), (20, MP.eq (Value.pointer (some ⟨b1, 0 + (a3).toNat * 1, none⟩))), (21, MP.eq (vI (idx8 a0 a3))), (22, MP.eq (vI (IntKind.i64.wrap ((idx8 a1 a3) - (idx8 a0 a3))))), (4, MP.eq (vI (IntKind.i64.wrap ((idx8 a1 a3) - (idx8 a0 a3)))))]) [] mixed rfl rfl rfl hS (hop_q rfl ?_ (hop_q rfl ?_ (hop_q rfl ?_ (hop_q rfl ?_ (hop_q rfl ?_ (hop_q rfl ?_ (hop_q rfl ?_ (hop_q rfl ?_ hop_nil)))))))) ?_
 intro p3 p4 p5 p6 k7 hS e6 k8 hcq
 refine r_move (vI a3) (evT (e6 5 rfl) d3) rfl ?_
 exact qn (.refl _) rfl hS rfl
 intro i0 p7 p8 p9 k9 hS b8 b9 hcq
 have e7 : ev i0 (.tmp 16) = vI a3 := b9 0 16 rfl rfl
 refine r_indexArP ar188 (evT (b8 3 rfl) d2) e7 (by omega) (by omega) rfl ?_
 exact qn (.refl _) rfl hS rfl
 intro e8 l0 l1 l2 i1 hS i2 c0 hcq
 have e9 : ev e8 (.tmp 17) = Value.pointer (some ⟨b4, 0 + (a3).toNat * 1, none⟩) := c0 1 17 rfl rfl
 refine r_loadOne (vI (idx8 a1 a3)) ty3 e9 (hS.get (o := cA (enc8 .i64 a1) 188) (mR mL)) (box_ix ([]) ([]) (by omega) (by omega)) rfl ?_
 exact qn (.refl _) rfl hS rfl
 intro l3 l4 l5 l6 i3 hS c1 i4 hcq
 refine r_move (vI a3) (evT (c1 5 rfl) d3) rfl ?_
 exact qn (.refl _) rfl hS rfl
 intro f0 l7 l9 m0 i5 hS c2 c3 hcq
 have f1 : ev f0 (.tmp 19) = vI a3 := c3 3 19 rfl rfl
 refine r_indexArP ar188 (evT (c2 2 rfl) d1) f1 (by omega) (by omega) rfl ?_
 exact qn (.refl _) rfl hS rfl
 intro f2 m1 m2 m3 i6 hS i7 c4 hcq
 have f3 : ev f2 (.tmp 20) = Value.pointer (some ⟨b1, 0 + (a3).toNat * 1, none⟩) := c4 4 20 rfl rfl
 refine r_loadOne (vI (idx8 a0 a3)) ty3 f3 (hS.get (o := cA (enc8 .i64 a0) 188) (mR (mR mL))) (box_ix ([]) ([]) (by omega) (by omega)) rfl ?_
 exact qn (.refl _) rfl hS rfl
 intro b7 m4 m5 m6 i8 hS i9 b3 hcq
 have f4 : ev b7 (.tmp 18) = vI (idx8 a1 a3) := b3 2 18 rfl rfl
 have f5 : ev b7 (.tmp 21) = vI (idx8 a0 a3) := b3 5 21 rfl rfl
 refine r_sub (IntKind.i64.wrap ((idx8 a1 a3) - (idx8 a0 a3))) f4 f5 rfl rfl ?_
 exact qn (.refl _) rfl hS rfl
 intro f6 m7 m8 m9 j0 hS j1 c5 hcq
 have f7 : ev f6 (.tmp 22) = vI (IntKind.i64.wrap ((idx8 a1 a3) - (idx8 a0 a3))) := c5 6 22 rfl rfl
 refine r_assign (vI (IntKind.i64.wrap ((idx8 a1 a3) - (idx8 a0 a3)))) f7 rfl ?_
 exact qn (.refl _) rfl hS rfl
 intro f9 g0 g1 c6 hS j2 c7 hcq
 have hS : St g1 g0 ([(b4, cA (enc8 .i64 a1) 188)] ++ ([(b1, cA (enc8 .i64 a0) 188)] ++ L)) := hS
 have hsub := hsub.trans c6
 have g2 : ev f9 (.tmp 4) = vI (IntKind.i64.wrap ((idx8 a1 a3) - (idx8 a0 a3))) := c7 7 4 (by decide) rfl
 refine reg_nil ?_
 refine run_ret (vs := [vI (IntKind.i64.wrap ((idx8 a1 a3) - (idx8 a0 a3)))]) Tryz.func221 ⟨(by exact g2), trivial⟩ ?_
 have hz := Option.some.inj a4
 subst hz
 dsimp only [Ex.elim] at a8
 have hz := Option.some.inj a8
 subst hz
 exact ⟨_, _, rfl, hsub, (St.dropA (A := [(b1, cA (enc8 .i64 a0) 188)]) (St.dropA (A := [(b4, cA (enc8 .i64 a1) 188)]) hS)), rfl⟩
 rw [if_neg b2] at a4
 refine run_cond_false (Eq.trans rfl (congrArg Value.bool (decide_eq_false b2))) ?_
 refine run_exit rfl ?_
 have hz := Option.some.inj a4
 subst hz
 exact g4 _ _ ⟨d5, rfl, hsub, hS⟩
 exact ⟨0, H, a4, hsub, hS, (by omega), rfl, rfl, rfl⟩
 rintro n0 n1 ⟨n2, rfl, hsub, hS⟩
 dsimp only [Ex.elim] at a8
 refine run_seq (run_region (r_assign (vI 0) rfl rfl (reg_nil ?_)))
 refine run_ret (vs := [vI 0]) Tryz.func221 ⟨rfl, trivial⟩ ?_
 have hz := Option.some.inj a8
 subst hz
 exact ⟨_, _, rfl, hsub, (St.dropA (A := [(b1, cA (enc8 .i64 a0) 188)]) (St.dropA (A := [(b4, cA (enc8 .i64 a1) 188)]) hS)), rfl⟩
def g_laws_heldTermS_l1 (K : Nat) (a0 : MpT) (a3 : Int) : Nat → Int → Int → Option (Ex Int (Int))
 | 0, _, _ => none
 | k + 1, a5, a4 => (if a4 < 8 then (if (idx8 ((rd a0 a3).1) a4) = (IntKind.u8.wrap a5) then g_laws_heldTermS_l1 K a0 a3 k (IntKind.i64.wrap (a5 + 1)) (a4 + 1) else some (.ret (-1))) else some (.go a5))
def g_laws_heldTermS_l0 (K : Nat) (a0 : MpT) : Nat → Int → Int → Option (Ex Int (Int))
 | 0, _, _ => none
 | k + 1, a9, a3 => (if a3 < (a0.length : Int) then ((g_laws_heldTermS_l1 K a0 a3 K a9 0).bind (Ex.elim (fun r => some (.ret r)) (fun s => (fun (a6 : Int) => (if (rd a0 a3).2 = a6 then g_laws_heldTermS_l0 K a0 k (IntKind.i64.wrap (a6 + 1)) (a3 + 1) else some (.ret (-1)))) s))) else some (.go a9))
def g_laws_heldTermS (K : Nat) (a0 : MpT) (a1 : Int) : Option Int := ((g_laws_heldTermS_l0 K a0 K a1 0).bind (Ex.elim (fun r => some r) (fun s => (fun (b1 : Int) => some b1) s)))
theorem g_laws_heldTermS_ok {K : Nat} {a0 : MpT} {a1 : Int} {r : Int} (q0 : g_laws_heldTermS K a0 a1 = some r) {H : FH} {w : World} {L : OL} {s0 : Value} (b0 : RdSl yT H s0 a0) (hS : St H w L) :
 Calls Tryz.prog 118 #[s0, vI a1] w (Done (fun v G => (R.int .i64).p G v r) H L) := by
 have hsub := Sub.refl H
 refine calls_of_run Tryz.func118 rfl Tryz.ntmps118 rfl ?_
 unfold g_laws_heldTermS at q0
 refine run_seq (run_region (r_assign (vI 0) rfl rfl (reg_nil (run_seq (run_seq (run_region (r_assign (vI 0) rfl rfl (reg_nil (run_block ?_)))))))))
 obtain ⟨d1, a8, b3⟩ := bind_some q0
 refine loop_ind (id := 0) (fun k f w => ∃ (a9 : Int) (a3 : Int) (H1 : FH), g_laws_heldTermS_l0 K a0 k a9 a3 = some d1 ∧ Sub H H1 ∧ St H1 w (L) ∧ 0 ≤ a3 ∧ RdSl yT H1 s0 a0 ∧ ev f (.tmp 0) = s0 ∧ ev f (.tmp 1) = vI a9 ∧ ev f (.tmp 5) = vI a3) (fun f w => ∃ (b1 : Int) (H1 : FH), d1 = .go b1 ∧ Sub H H1 ∧ St H1 w (L) ∧ ev f (.tmp 1) = vI b1) rfl ?_ ?_ K ?_ ?_
 rintro f w ⟨a9, a3, H1, a8, _⟩
 rw [g_laws_heldTermS_l0] at a8; cases a8
 rintro k e8 e9 d6 d7 ⟨a9, a3, d2, a8, hsub, hS, d8, b0, c0, c1, c2⟩
 rw [g_laws_heldTermS_l0] at a8
 refine run_seq (run_seq (run_region (r_move (vI a3) (by exact c2) rfl (r_move (s0) (by exact c0) rfl ?_))))
 have f7 := b0.bound
 refine r_lenRd sl45 rfl b0 rfl ?_
 refine r_lss (k := .i64) (a := a3) (b := (a0.length : Int)) rfl rfl rfl (reg_nil ?_)
 by_cases c6 : a3 < (a0.length : Int)
 rw [if_pos c6] at a8
 refine run_cond_true (Eq.trans rfl (congrArg Value.bool (decide_eq_true c6))) (run_skip (run_seq (run_block (run_seq (run_seq (run_region (r_assign (vI 0) rfl rfl (reg_nil (run_block ?_)))))))))
 obtain ⟨d3, a7, b2⟩ := bind_some a8
 refine loop_ind (id := 2) (fun k f w => ∃ (a5 : Int) (a4 : Int) (H1 : FH), g_laws_heldTermS_l1 K a0 a3 k a5 a4 = some d3 ∧ Sub H H1 ∧ St H1 w (L) ∧ 0 ≤ a4 ∧ RdSl yT H1 s0 a0 ∧ ev f (.tmp 0) = s0 ∧ ev f (.tmp 1) = vI a5 ∧ ev f (.tmp 5) = vI a3 ∧ ev f (.tmp 6) = vI a4) (fun f w => ∃ (a6 : Int) (H1 : FH), d3 = .go a6 ∧ Sub H H1 ∧ St H1 w (L) ∧ RdSl yT H1 s0 a0 ∧ ev f (.tmp 0) = s0 ∧ ev f (.tmp 1) = vI a6 ∧ ev f (.tmp 5) = vI a3) rfl ?_ ?_ K ?_ ?_
 rintro f w ⟨a5, a4, H1, a7, _⟩
 rw [g_laws_heldTermS_l1] at a7; cases a7
 rintro k f0 f1 d9 e0 ⟨a5, a4, d4, a7, hsub, hS, e1, b0, b5, b7, b8, b9⟩
 rw [g_laws_heldTermS_l1] at a7
 refine run_seq (run_seq (run_region (r_move (vI a4) (by exact b9) rfl ?_)))
 refine r_lss (k := .i64) (a := a4) (b := 8) rfl rfl rfl (reg_nil ?_)
 by_cases c7 : a4 < 8
 rw [if_pos c7] at a7
 refine run_cond_true (Eq.trans rfl (congrArg Value.bool (decide_eq_true c7))) (run_skip (run_seq (run_block (run_seq (run_seq (run_region (r_move (s0) (by exact b5) rfl (r_move (vI a3) (by exact b8) rfl (r_move (vI a4) (by exact b9) rfl ?_)))))))))
 obtain ⟨b4, o4, f8, E4, _, e2, e3, ⟨_, _, rfl, rfl, rfl⟩, e4⟩ := b0.elem (i := a3) (by omega) (by omega)
 refine r_indexAt sl45 rfl rfl e2 rfl (by omega) (by omega) rfl (r_fieldAddr fld76_0 rfl rfl ?_)
 refine r_indexArP ar70 rfl rfl (by omega) (by omega) rfl ?_
 refine r_loadOne (Value.int .u8 (idx8 ((rd a0 a3).1) a4)) ty5 rfl (hS.froz _ _ e3) (fro_ix ([]) (([vI ((rd a0 a3).2)])) e4 (Nat.le_of_ble_eq_true rfl) (by omega) (by omega)) rfl (r_move (vI a5) (by exact b7) rfl ?_)
 refine r_conv (s := .i64) ((IntKind.u8.wrap a5)) co3_5 rfl rfl rfl ?_
 refine r_neq (k := .u8) (a := (idx8 ((rd a0 a3).1) a4)) (b := (IntKind.u8.wrap a5)) rfl rfl rfl (reg_nil ?_)
 by_cases c8 : (idx8 ((rd a0 a3).1) a4) = (IntKind.u8.wrap a5)
 rw [if_pos c8] at a7
 refine run_cond_false (Eq.trans rfl (congrArg (fun b => Value.bool (!b)) (decide_eq_true c8))) (run_skip (run_region (r_move (vI a5) (by exact b7) rfl ?_)))
 refine r_add (IntKind.i64.wrap (a5 + 1)) rfl rfl rfl rfl (r_assign (vI (IntKind.i64.wrap (a5 + 1))) rfl rfl (reg_nil (run_inBlock (run_region (r_move (vI a4) (by exact b9) rfl ?_)))))
 refine r_add (a4 + 1) rfl rfl (IntWalk.i64_in _ (by omega)) rfl (r_assign (vI (a4 + 1)) rfl rfl (reg_nil ?_))
 exact d9 _ _ ⟨(IntKind.i64.wrap (a5 + 1)), (a4 + 1), d4, a7, hsub, hS, (by omega), b0, b5, rfl, b8, rfl⟩
 rw [if_neg c8] at a7
 refine run_cond_true (Eq.trans rfl (congrArg (fun b => Value.bool (!b)) (decide_eq_false c8))) (run_seq (run_region (r_assign (vI (-1)) rfl rfl (reg_nil ?_))))
 refine run_ret (vs := [vI (-1)]) Tryz.func118 ⟨rfl, trivial⟩ ?_
 have hz := Option.some.inj a7
 subst hz
 dsimp only [Ex.elim] at b2
 have hz := Option.some.inj b2
 subst hz
 dsimp only [Ex.elim] at b3
 have hz := Option.some.inj b3
 subst hz
 exact ⟨_, _, rfl, hsub, hS, rfl⟩
 rw [if_neg c7] at a7
 refine run_cond_false (Eq.trans rfl (congrArg Value.bool (decide_eq_false c7))) ?_
 refine run_exit rfl ?_
 have hz := Option.some.inj a7
 subst hz
 exact e0 _ _ ⟨a5, d4, rfl, hsub, hS, b0, b5, b7, b8⟩
 exact ⟨a9, 0, d2, a7, hsub, hS, (by omega), b0, c0, c1, c2, rfl⟩
 rintro f2 f3 ⟨a6, d5, rfl, hsub, hS, b0, c3, c4, c5⟩
 dsimp only [Ex.elim] at b2
 refine run_seq (run_seq (run_region (r_move (s0) (by exact c3) rfl (r_move (vI a3) (by exact c5) rfl ?_))))
 obtain ⟨b6, o6, f9, E6, _, e5, e6, ⟨_, _, rfl, rfl, rfl⟩, e7⟩ := b0.elem (i := a3) (by omega) (by omega)
 refine r_indexAt sl45 rfl rfl e5 rfl (by omega) (by omega) rfl (r_fieldAddr fld76_1 rfl rfl ?_)
 refine r_loadOne (vI ((rd a0 a3).2)) ty2 rfl (hS.froz _ _ e6) (e7 8 (show 8 < 9 by decide)) rfl (r_move (vI a6) (by exact c4) rfl ?_)
 refine r_neq (k := .i64) (a := (rd a0 a3).2) (b := a6) rfl rfl rfl (reg_nil ?_)
 by_cases c9 : (rd a0 a3).2 = a6
 rw [if_pos c9] at b2
 refine run_cond_false (Eq.trans rfl (congrArg (fun b => Value.bool (!b)) (decide_eq_true c9))) (run_skip (run_region (r_move (vI a6) (by exact c4) rfl ?_)))
 refine r_add (IntKind.i64.wrap (a6 + 1)) rfl rfl rfl rfl (r_assign (vI (IntKind.i64.wrap (a6 + 1))) rfl rfl (reg_nil (run_inBlock (run_region (r_move (vI a3) (by exact c5) rfl ?_)))))
 refine r_add (a3 + 1) rfl rfl (IntWalk.i64_in _ (by omega)) rfl (r_assign (vI (a3 + 1)) rfl rfl (reg_nil ?_))
 exact d6 _ _ ⟨(IntKind.i64.wrap (a6 + 1)), (a3 + 1), d5, b2, hsub, hS, (by omega), b0, c3, rfl, rfl⟩
 rw [if_neg c9] at b2
 refine run_cond_true (Eq.trans rfl (congrArg (fun b => Value.bool (!b)) (decide_eq_false c9))) (run_seq (run_region (r_assign (vI (-1)) rfl rfl (reg_nil ?_))))
 refine run_ret (vs := [vI (-1)]) Tryz.func118 ⟨rfl, trivial⟩ ?_
 have hz := Option.some.inj b2
 subst hz
 dsimp only [Ex.elim] at b3
 have hz := Option.some.inj b3
 subst hz
 exact ⟨_, _, rfl, hsub, hS, rfl⟩
 rw [if_neg c6] at a8
 refine run_cond_false (Eq.trans rfl (congrArg Value.bool (decide_eq_false c6))) ?_
 refine run_exit rfl ?_
 have hz := Option.some.inj a8
 subst hz
 exact d7 _ _ ⟨a9, d2, rfl, hsub, hS, c1⟩
 exact ⟨a1, 0, H, a8, hsub, hS, (by omega), b0, rfl, rfl, rfl⟩
 rintro f4 f5 ⟨b1, f6, rfl, hsub, hS, d0⟩
 dsimp only [Ex.elim] at b3
 refine run_seq (run_region (r_move (vI b1) (by exact d0) rfl (r_assign (vI b1) rfl rfl (reg_nil ?_))))
 refine run_ret (vs := [vI b1]) Tryz.func118 ⟨rfl, trivial⟩ ?_
 have hz := Option.some.inj b3
 subst hz
 exact ⟨_, _, rfl, hsub, hS, rfl⟩
def g_laws_eqMonomial_l0 (K : Nat) (a0 : A8) (a1 : A8) : Nat → Int → Option (Ex Bool (Unit))
 | 0, _ => none
 | k + 1, a3 => (if a3 < 8 then (if (idx8 a0 a3) = (idx8 a1 a3) then g_laws_eqMonomial_l0 K a0 a1 k (a3 + 1) else some (.ret false)) else some (.go ()))
def g_laws_eqMonomial (K : Nat) (a0 : A8) (a1 : A8) : Option Bool := ((g_laws_eqMonomial_l0 K a0 a1 K 0).bind (Ex.elim (fun r => some r) (fun s => some true)))
theorem g_laws_eqMonomial_ok {K : Nat} {a0 : A8} {a1 : A8} {r : Bool} (q0 : g_laws_eqMonomial K a0 a1 = some r) {H : FH} {w : World} {L : OL} (hS : St H w L) :
 Calls Tryz.prog 268 #[vA (enc8 .u8 a0), vA (enc8 .u8 a1)] w (Done (fun v G => R.bool.p G v r) H L) := by
 have hsub := Sub.refl H
 refine calls_of_run Tryz.func268 rfl Tryz.ntmps268 rfl ?_
 unfold g_laws_eqMonomial at q0
 refine run_seq (run_region ?_)
 refine r_box (v := vA (enc8 .u8 a0)) (enc8 .u8 a0).toArray rfl rfl hS rfl ?_
 intro b1 w2 hS
 refine r_box (v := vA (enc8 .u8 a1)) (enc8 .u8 a1).toArray rfl rfl hS rfl ?_
 intro b4 w5 hS
 refine r_assign (Value.bool false) rfl rfl (reg_nil (run_seq (run_seq (run_region (r_assign (vI 0) rfl rfl (reg_nil (run_block ?_)))))))
 obtain ⟨b3, a4, a8⟩ := bind_some q0
 refine loop_ind (id := 0) (fun k f w => ∃ (a3 : Int) (H1 : FH), g_laws_eqMonomial_l0 K a0 a1 k a3 = some b3 ∧ Sub H H1 ∧ St H1 w ([(b4, cA (enc8 .u8 a1) 70)] ++ ([(b1, cA (enc8 .u8 a0) 70)] ++ L)) ∧ 0 ≤ a3 ∧ ev f (.tmp 2) = vP b1 ∧ ev f (.tmp 3) = vP b4 ∧ ev f (.tmp 5) = vI a3) (fun f w => ∃ (H1 : FH), b3 = .go () ∧ Sub H H1 ∧ St H1 w ([(b4, cA (enc8 .u8 a1) 70)] ++ ([(b1, cA (enc8 .u8 a0) 70)] ++ L))) rfl ?_ ?_ K ?_ ?_
 rintro f w ⟨a3, H1, a4, _⟩
 rw [g_laws_eqMonomial_l0] at a4; cases a4
 rintro k e5 e6 d0 d1 ⟨a3, b9, a4, hsub, hS, d2, a6, a7, a5⟩
 rw [g_laws_eqMonomial_l0] at a4
 refine run_seq (run_seq (run_region (r_move (vI a3) (by exact a5) rfl ?_)))
 refine r_lss (k := .i64) (a := a3) (b := 8) rfl rfl rfl (reg_nil ?_)
 by_cases b2 : a3 < 8
 rw [if_pos b2] at a4
 refine run_cond_true (Eq.trans rfl (congrArg Value.bool (decide_eq_true b2))) (run_skip (run_seq (run_block (run_seq ?_))))
 refine run_draw 7 (tabL [(10, MP.eq (vI a3)), (11, MP.eq (Value.pointer (some ⟨b1, 0 + (a3).toNat * 1, none⟩))), (12, MP.eq (Value.int .u8 (idx8 a0 a3))), (13, MP.eq (vI a3)), (14, MP.eq (Value.pointer (some ⟨b4, 0 + (a3).toNat * 1, none⟩))), (15, MP.eq (Value.int .u8 (idx8 a1 a3))), (16, MP.eq (Value.bool (!decide ((idx8 a0 a3) = (idx8 a1 a3)))))]) [] mixed rfl rfl rfl hS (hop_q rfl ?_ (hop_q rfl ?_ (hop_q rfl ?_ (hop_q rfl ?_ (hop_q rfl ?_ (hop_q rfl ?_ (hop_q rfl ?_ hop_nil))))))) ?_
 intro f8 w9 g3 g4 e7 hS c0 e8 hcq
 refine r_move (vI a3) (evT (c0 5 rfl) a5) rfl ?_
 exact qn (.refl _) rfl hS rfl
 intro d3 g5 g6 g7 e9 hS c1 c2 hcq
 have d4 : ev d3 (.tmp 10) = vI a3 := c2 0 10 rfl rfl
 refine r_indexArP ar70 (evT (c1 2 rfl) a6) d4 (by omega) (by omega) rfl ?_
 exact qn (.refl _) rfl hS rfl
 intro d5 g8 g9 h0 f0 hS f1 c3 hcq
 have d6 : ev d5 (.tmp 11) = Value.pointer (some ⟨b1, 0 + (a3).toNat * 1, none⟩) := c3 1 11 rfl rfl
 refine r_loadOne (Value.int .u8 (idx8 a0 a3)) ty5 d6 (hS.get (o := cA (enc8 .u8 a0) 70) (mR (mR mL))) (box_ix ([]) ([]) (by omega) (by omega)) rfl ?_
 exact qn (.refl _) rfl hS rfl
 intro h1 h2 h3 h4 f2 hS c4 f3 hcq
 refine r_move (vI a3) (evT (c4 5 rfl) a5) rfl ?_
 exact qn (.refl _) rfl hS rfl
 intro d7 h5 h6 h7 f4 hS c5 c6 hcq
 have d8 : ev d7 (.tmp 13) = vI a3 := c6 3 13 rfl rfl
 refine r_indexArP ar70 (evT (c5 3 rfl) a7) d8 (by omega) (by omega) rfl ?_
 exact qn (.refl _) rfl hS rfl
 intro d9 h8 h9 i0 f5 hS f6 c7 hcq
 have e0 : ev d9 (.tmp 14) = Value.pointer (some ⟨b4, 0 + (a3).toNat * 1, none⟩) := c7 4 14 rfl rfl
 refine r_loadOne (Value.int .u8 (idx8 a1 a3)) ty5 e0 (hS.get (o := cA (enc8 .u8 a1) 70) (mR mL)) (box_ix ([]) ([]) (by omega) (by omega)) rfl ?_
 exact qn (.refl _) rfl hS rfl
 intro b6 i1 i2 i3 f7 hS f9 b5 hcq
 have e1 : ev b6 (.tmp 12) = Value.int .u8 (idx8 a0 a3) := b5 2 12 rfl rfl
 have e2 : ev b6 (.tmp 15) = Value.int .u8 (idx8 a1 a3) := b5 5 15 rfl rfl
 refine r_neq (k := .u8) (a := (idx8 a0 a3)) (b := (idx8 a1 a3)) e1 e2 rfl ?_
 exact qn (.refl _) rfl hS rfl
 intro e3 e4 b7 c8 hS b0 c9 hcq
 have hS : St b7 e4 ([(b4, cA (enc8 .u8 a1) 70)] ++ ([(b1, cA (enc8 .u8 a0) 70)] ++ L)) := hS
 have hsub := hsub.trans c8
 have b8 : ev e3 (.tmp 16) = Value.bool (!decide ((idx8 a0 a3) = (idx8 a1 a3))) := c9 6 16 (by decide) rfl
 refine reg_nil ?_
 by_cases a9 : (idx8 a0 a3) = (idx8 a1 a3)
 rw [if_pos a9] at a4
 refine run_cond_false (Eq.trans (by exact b8) (congrArg (fun b => Value.bool (!b)) (decide_eq_true a9))) (run_skip (run_inBlock (run_region (r_move (vI a3) (by exact (evT (b0 5 rfl) a5)) rfl ?_))))
 refine r_add (a3 + 1) rfl rfl (IntWalk.i64_in _ (by omega)) rfl (r_assign (vI (a3 + 1)) rfl rfl (reg_nil ?_))
 exact d0 _ _ ⟨(a3 + 1), b7, a4, hsub, hS, (by omega), (evT (b0 2 rfl) a6), (evT (b0 3 rfl) a7), rfl⟩
 rw [if_neg a9] at a4
 refine run_cond_true (Eq.trans (by exact b8) (congrArg (fun b => Value.bool (!b)) (decide_eq_false a9))) (run_seq (run_region (r_assign (Value.bool false) rfl rfl (reg_nil ?_))))
 refine run_ret (vs := [Value.bool false]) Tryz.func268 ⟨rfl, trivial⟩ ?_
 have hz := Option.some.inj a4
 subst hz
 dsimp only [Ex.elim] at a8
 have hz := Option.some.inj a8
 subst hz
 exact ⟨_, _, rfl, hsub, (St.dropA (A := [(b1, cA (enc8 .u8 a0) 70)]) (St.dropA (A := [(b4, cA (enc8 .u8 a1) 70)]) hS)), rfl⟩
 rw [if_neg b2] at a4
 refine run_cond_false (Eq.trans rfl (congrArg Value.bool (decide_eq_false b2))) ?_
 refine run_exit rfl ?_
 have hz := Option.some.inj a4
 subst hz
 exact d1 _ _ ⟨b9, rfl, hsub, hS⟩
 exact ⟨0, H, a4, hsub, hS, (by omega), rfl, rfl, rfl⟩
 rintro g0 g1 ⟨g2, rfl, hsub, hS⟩
 dsimp only [Ex.elim] at a8
 refine run_seq (run_region (r_assign (Value.bool true) rfl rfl (reg_nil ?_)))
 refine run_ret (vs := [Value.bool true]) Tryz.func268 ⟨rfl, trivial⟩ ?_
 have hz := Option.some.inj a8
 subst hz
 exact ⟨_, _, rfl, hsub, (St.dropA (A := [(b1, cA (enc8 .u8 a0) 70)]) (St.dropA (A := [(b4, cA (enc8 .u8 a1) 70)]) hS)), rfl⟩
def g_impl_inverse_j5 (K : Nat) (c3 : Int → Int → Int → Option (Ex Int (Int))) (a1 : Int) (a3 : Int) (a6 : Int) : Option (Ex Int (Int)) := c3 (((IntKind.i64.wrap (a1 * a1))).tmod 10007) a6 (IntKind.i64.wrap ((a3).tdiv 2))
def g_impl_inverse_l0 (K : Nat) : Nat → Int → Int → Int → Option (Ex Int (Int))
 | 0, _, _, _ => none
 | k + 1, a1, a4, a3 => (if 0 < a3 then (if ((a3).tmod 2) = 1 then g_impl_inverse_j5 K (g_impl_inverse_l0 K k) a1 a3 (((IntKind.i64.wrap (a4 * a1))).tmod 10007) else g_impl_inverse_j5 K (g_impl_inverse_l0 K k) a1 a3 a4) else some (.go a4))
def g_impl_inverse (K : Nat) (a0 : Int) : Option Int := ((g_impl_inverse_l0 K K a0 1 10005).bind (Ex.elim (fun r => some r) (fun s => (fun (a7 : Int) => some a7) s)))
theorem g_impl_inverse_ok {K : Nat} {a0 : Int} {r : Int} (q0 : g_impl_inverse K a0 = some r) {H : FH} {w : World} {L : OL} (hS : St H w L) :
 Calls Tryz.prog 152 #[vI a0] w (Done (fun v G => (R.int .i64).p G v r) H L) := by
 have hsub := Sub.refl H
 refine calls_of_run Tryz.func152 rfl Tryz.ntmps152 rfl ?_
 unfold g_impl_inverse at q0
 refine run_seq (run_region (r_assign (vI 0) rfl rfl (reg_nil (run_seq (run_region (r_assign (vI 1) rfl rfl (reg_nil (run_seq (run_seq (run_region (r_assign (vI 10005) rfl rfl (reg_nil (run_block ?_)))))))))))))
 obtain ⟨b2, a5, b8⟩ := bind_some q0
 refine loop_ind (id := 0) (fun k f w => ∃ (a1 : Int) (a4 : Int) (a3 : Int) (H1 : FH), g_impl_inverse_l0 K k a1 a4 a3 = some b2 ∧ Sub H H1 ∧ St H1 w (L) ∧ ev f (.tmp 0) = vI a1 ∧ ev f (.tmp 3) = vI a4 ∧ ev f (.tmp 4) = vI a3) (fun f w => ∃ (a7 : Int) (H1 : FH), b2 = .go a7 ∧ Sub H H1 ∧ St H1 w (L) ∧ ev f (.tmp 3) = vI a7) rfl ?_ ?_ K ?_ ?_
 rintro f w ⟨a1, a4, a3, H1, a5, _⟩
 rw [g_impl_inverse_l0] at a5; cases a5
 rintro k c7 c8 c4 c5 ⟨a1, a4, a3, b3, a5, hsub, hS, a9, b0, a8⟩
 rw [g_impl_inverse_l0] at a5
 refine run_seq (run_seq (run_region (r_move (vI a3) (by exact a8) rfl ?_)))
 refine r_gtr (k := .i64) (a := a3) (b := 0) rfl rfl rfl (reg_nil ?_)
 by_cases b4 : 0 < a3
 rw [if_pos b4] at a5
 refine run_cond_true (Eq.trans rfl (congrArg Value.bool (decide_eq_true b4))) (run_skip (run_seq (run_block (run_seq (run_seq (run_region (r_move (vI a3) (by exact a8) rfl ?_)))))))
 refine r_rem ((a3).tmod 2) rfl rfl (by decide) rfl rfl ?_
 refine r_eql (k := .i64) (a := ((a3).tmod 2)) (b := 1) rfl rfl rfl (reg_nil ?_)
 refine run_cut (fun f w => ∃ (a6 : Int) (H1 : FH), g_impl_inverse_j5 K (g_impl_inverse_l0 K k) a1 a3 a6 = some b2 ∧ Sub H H1 ∧ St H1 w (L) ∧ ev f (.tmp 0) = vI a1 ∧ ev f (.tmp 3) = vI a6 ∧ ev f (.tmp 4) = vI a3) ?_ ?_
 rintro d2 c6 ⟨a6, c1, b5, hsub, hS, b1, b9, c0⟩
 unfold g_impl_inverse_j5 at b5
 refine run_region (r_move (vI a1) (by exact b1) rfl (r_move (vI a1) (by exact b1) rfl ?_))
 refine r_mul (IntKind.i64.wrap (a1 * a1)) rfl rfl rfl rfl ?_
 refine r_rem (((IntKind.i64.wrap (a1 * a1))).tmod 10007) rfl rfl (by decide) rfl rfl (r_assign (vI (((IntKind.i64.wrap (a1 * a1))).tmod 10007)) rfl rfl (reg_nil (run_inBlock (run_region (r_move (vI a3) (by exact c0) rfl ?_)))))
 refine r_quo (IntKind.i64.wrap ((a3).tdiv 2)) rfl rfl (by decide) rfl rfl (r_assign (vI (IntKind.i64.wrap ((a3).tdiv 2))) rfl rfl (reg_nil ?_))
 exact c4 _ _ ⟨(((IntKind.i64.wrap (a1 * a1))).tmod 10007), a6, (IntKind.i64.wrap ((a3).tdiv 2)), c1, b5, hsub, hS, rfl, b9, rfl⟩
 intro c2
 by_cases b6 : ((a3).tmod 2) = 1
 rw [if_pos b6] at a5
 refine run_cond_true (Eq.trans rfl (congrArg Value.bool (decide_eq_true b6))) (run_region (r_move (vI a4) (by exact b0) rfl (r_move (vI a1) (by exact a9) rfl ?_)))
 refine r_mul (IntKind.i64.wrap (a4 * a1)) rfl rfl rfl rfl ?_
 refine r_rem (((IntKind.i64.wrap (a4 * a1))).tmod 10007) rfl rfl (by decide) rfl rfl (r_assign (vI (((IntKind.i64.wrap (a4 * a1))).tmod 10007)) rfl rfl (reg_nil ?_))
 exact c2 _ _ ⟨(((IntKind.i64.wrap (a4 * a1))).tmod 10007), b3, a5, hsub, hS, a9, rfl, a8⟩
 rw [if_neg b6] at a5
 refine run_cond_false (Eq.trans rfl (congrArg Value.bool (decide_eq_false b6))) (run_skip ?_)
 exact c2 _ _ ⟨a4, b3, a5, hsub, hS, a9, b0, a8⟩
 rw [if_neg b4] at a5
 refine run_cond_false (Eq.trans rfl (congrArg Value.bool (decide_eq_false b4))) ?_
 refine run_exit rfl ?_
 have hz := Option.some.inj a5
 subst hz
 exact c5 _ _ ⟨a4, b3, rfl, hsub, hS, b0⟩
 exact ⟨a0, 1, 10005, H, a5, hsub, hS, rfl, rfl, rfl⟩
 rintro c9 d0 ⟨a7, d1, rfl, hsub, hS, b7⟩
 dsimp only [Ex.elim] at b8
 refine run_seq (run_region (r_move (vI a7) (by exact b7) rfl (r_assign (vI a7) rfl rfl (reg_nil ?_))))
 refine run_ret (vs := [vI a7]) Tryz.func152 ⟨rfl, trivial⟩ ?_
 have hz := Option.some.inj b8
 subst hz
 exact ⟨_, _, rfl, hsub, hS, rfl⟩
def g_slices_IndexFunc_Sint64_int64_l0 (K : Nat) (a0 : (List Int)) (a1 : (Int → Option Bool)) : Nat → Int → Option (Ex Int (Unit))
 | 0, _ => none
 | k + 1, a3 => (if a3 < (a0.length : Int) then ((a1 (rd a0 a3)).bind fun r4 => (if r4 = true then some (.ret a3) else g_slices_IndexFunc_Sint64_int64_l0 K a0 a1 k (a3 + 1))) else some (.go ()))
def g_slices_IndexFunc_Sint64_int64 (K : Nat) (a0 : (List Int)) (a1 : (Int → Option Bool)) : Option Int := ((g_slices_IndexFunc_Sint64_int64_l0 K a0 a1 K 0).bind (Ex.elim (fun r => some r) (fun s => some (-1))))
theorem g_slices_IndexFunc_Sint64_int64_ok {K : Nat} {a0 : (List Int)} {a1 : (Int → Option Bool)} {r : Int} (q0 : g_slices_IndexFunc_Sint64_int64 K a0 a1 = some r) {H : FH} {w : World} {L : OL} {s0 : Value} {s1 : Value} (a6 : RdSl (tyInt .i64) H s0 a0) (a7 : FnQ Tryz.prog s1 (R.int .i64) a1 H) (hS : St H w L) :
 Calls Tryz.prog 263 #[s0, s1] w (Done (fun v G => (R.int .i64).p G v r) H L) := by
 have hsub := Sub.refl H
 refine calls_of_run Tryz.func263 rfl Tryz.ntmps263 rfl ?_
 unfold g_slices_IndexFunc_Sint64_int64 at q0
 refine run_seq (run_region (r_assign (vI 0) rfl rfl (reg_nil (run_seq (run_seq (run_region (r_move (s0) rfl rfl ?_)))))))
 have d0 := a6.bound
 refine r_lenRd sl22 rfl a6 rfl (r_move (vI 0) rfl rfl (reg_nil (run_block ?_)))
 obtain ⟨b5, a4, b1⟩ := bind_some q0
 refine loop_ind (id := 0) (fun k f w => ∃ (a3 : Int) (H1 : FH), g_slices_IndexFunc_Sint64_int64_l0 K a0 a1 k a3 = some b5 ∧ Sub H H1 ∧ St H1 w (L) ∧ 0 ≤ a3 ∧ RdSl (tyInt .i64) H1 s0 a0 ∧ FnQ Tryz.prog s1 (R.int .i64) a1 H1 ∧ ev f (.tmp 0) = s0 ∧ ev f (.tmp 1) = s1 ∧ ev f (.tmp 7) = vI (a0.length : Int) ∧ ev f (.tmp 8) = vI a3) (fun f w => ∃ (H1 : FH), b5 = .go () ∧ Sub H H1 ∧ St H1 w (L)) rfl ?_ ?_ K ?_ ?_
 rintro f w ⟨a3, H1, a4, _⟩
 rw [g_slices_IndexFunc_Sint64_int64_l0] at a4; cases a4
 rintro k c5 c6 b8 b9 ⟨a3, b7, a4, hsub, hS, c0, a6, a7, a8, a9, b0, a5⟩
 rw [g_slices_IndexFunc_Sint64_int64_l0] at a4
 refine run_seq (run_region ?_)
 refine r_lss (k := .i64) (a := a3) (b := (a0.length : Int)) (by exact a5) (by exact b0) rfl (reg_nil (run_seq ?_))
 by_cases b2 : a3 < (a0.length : Int)
 rw [if_pos b2] at a4
 refine run_cond_true (Eq.trans rfl (congrArg Value.bool (decide_eq_true b2))) (run_skip (run_seq (run_block (run_seq (run_region (r_move (vI a3) (by exact a5) rfl (r_assign (vI a3) rfl rfl (reg_nil (run_seq (run_region (r_move (s1) (by exact a9) rfl (r_move (s0) (by exact a8) rfl (r_move (vI a3) rfl rfl ?_)))))))))))))
 obtain ⟨b3, o3, d1, E3, _, c1, c2, rfl, c3⟩ := a6.elem (i := a3) (by omega) (by omega)
 refine r_indexAt sl22 rfl rfl c1 rfl (by omega) (by omega) rfl ?_
 refine r_loadOne (vI (rd a0 a3)) ty2 rfl (hS.froz _ _ c2) (c3 0 (show 0 < 1 by decide)) rfl ?_
 obtain ⟨r4, c4, a4⟩ := bind_some a4
 refine r_callQ a7 rfl rfl hS rfl c4 rfl ?_
 intro H4 w5 b6 hS
 have hsub := hsub.trans b6
 have a6 := a6.mono b6
 have a7 := a7.mono b6
 refine reg_nil ?_
 by_cases b4 : r4 = true
 rw [if_pos b4] at a4
 refine run_cond_true (Eq.trans rfl (congrArg Value.bool b4)) (run_seq (run_region (r_move (vI a3) rfl rfl (r_assign (vI a3) rfl rfl (reg_nil ?_)))))
 refine run_ret (vs := [vI a3]) Tryz.func263 ⟨rfl, trivial⟩ ?_
 have hz := Option.some.inj a4
 subst hz
 dsimp only [Ex.elim] at b1
 have hz := Option.some.inj b1
 subst hz
 exact ⟨_, _, rfl, hsub, hS, rfl⟩
 rw [if_neg b4] at a4
 refine run_cond_false (Eq.trans rfl (congrArg Value.bool (bfalse b4))) (run_skip (run_inBlock (run_region ?_)))
 refine r_add (a3 + 1) (by exact a5) rfl (IntWalk.i64_in _ (by omega)) rfl (r_move (vI (a3 + 1)) rfl rfl (reg_nil ?_))
 exact b8 _ _ ⟨(a3 + 1), H4, a4, hsub, hS, (by omega), a6, a7, a8, a9, b0, rfl⟩
 rw [if_neg b2] at a4
 refine run_cond_false (Eq.trans rfl (congrArg Value.bool (decide_eq_false b2))) ?_
 refine run_exit rfl ?_
 have hz := Option.some.inj a4
 subst hz
 exact b9 _ _ ⟨b7, rfl, hsub, hS⟩
 exact ⟨0, H, a4, hsub, hS, (by omega), a6, a7, rfl, rfl, rfl, rfl⟩
 rintro c7 c8 ⟨c9, rfl, hsub, hS⟩
 dsimp only [Ex.elim] at b1
 refine run_seq (run_region (r_assign (vI (-1)) rfl rfl (reg_nil ?_)))
 refine run_ret (vs := [vI (-1)]) Tryz.func263 ⟨rfl, trivial⟩ ?_
 have hz := Option.some.inj b1
 subst hz
 exact ⟨_, _, rfl, hsub, hS, rfl⟩
-- 
def g_slices_Clone_Sint64_int64 (K : Nat) (a0 : (List Int)) : Option (List Int) := (if ([] : List Int).length + a0.length ≤ 1099511627776 then some (([] : List Int) ++ a0) else none)
theorem g_slices_Clone_Sint64_int64_ok {K : Nat} {a0 : (List Int)} {r : (List Int)} (q0 : g_slices_Clone_Sint64_int64 K a0 = some r) {H : FH} {w : World} {L : OL} {s0 : Value} (hs0 : RdSl (tyInt .i64) H s0 a0) (hS : St H w L) :
    Calls Tryz.prog 237 #[s0] w (Done (fun v G => (R.sl (tyInt .i64)).p (G.new H) v r) H L) := by
  have hsub := Sub.refl H
  refine calls_of_run Tryz.func237 rfl Tryz.ntmps237 rfl ?_
  unfold g_slices_Clone_Sint64_int64 at q0
  refine run_seq ?_
  refine run_region ?_
  refine r_assign (Value.slice none 0 0) rfl rfl ?_
  refine reg_nil ?_
  refine run_seq ?_
  refine run_seq ?_
  refine run_region ?_
  refine r_move (s0) rfl rfl ?_
  obtain ⟨ad, cu, ⟨hv0, hl0⟩, hx0⟩ := id hs0
  cases ad with
  | none =>
    have ha : a0 = [] := by
      rcases hx0 with h | ⟨b2, o2, cs2, E2, h, _⟩
      · exact h
      · cases h
    refine r_eqNilS sl22 hv0 rfl rfl ?_
    refine reg_nil ?_
    refine run_cond_true rfl ?_
    refine run_seq ?_
    refine run_region ?_
    refine r_assign (Value.slice none 0 0) rfl rfl ?_
    refine reg_nil ?_
    refine run_ret (vs := [Value.slice none 0 0]) Tryz.func237 ⟨rfl, trivial⟩ ?_
    subst ha
    rw [if_pos (by decide)] at q0
    have hz := Option.some.inj q0
    subst hz
    exact ⟨_, _, rfl, hsub, hS, RdSl.nil⟩
  | some p =>
  refine r_eqNilS sl22 hv0 rfl rfl ?_
  refine reg_nil ?_
  refine run_cond_false rfl ?_
  refine run_skip ?_
  refine run_seq ?_
  refine run_region ?_
  refine r_lit0 (τ := (tyInt .i64)) sl22 ze2 rfl hS rfl ?_
  intro u1 w2 C3 ho4 hS
  have hS : St H w2 (C3 ++ L) := hS
  refine r_move (s0) rfl rfl ?_
  by_cases hg6 : ([] : List Int).length + a0.length ≤ 1099511627776
  case neg => rw [if_neg hg6] at q0; cases q0
  rw [if_pos hg6] at q0
  refine r_append (τ := (tyInt .i64)) ap22 rfl rfl rfl ho4 hS hs0 hg6 rfl ?_
  intro u7 w8 C9 ho10 hS
  have hS : St H w8 (C9 ++ L) := hS
  refine r_assign (u7) rfl rfl ?_
  refine reg_nil ?_
  refine run_ret (vs := [u7]) Tryz.func237 ⟨rfl, trivial⟩ ?_
  obtain ⟨H11, sb12, hS, hF14⟩ := OwnSl.freezeF (τ := (tyInt .i64)) (H0 := H) ho10 hS hsub
  have hf13 := RdSl.old hF14
  have hF14 : RdF (tyInt .i64) H H11 u7 (([] : List Int) ++ a0) := hF14
  have hsub := hsub.trans sb12
  have hz := Option.some.inj q0
  subst hz
  exact ⟨_, _, rfl, hsub, hS, hF14⟩
def g_laws_szTermS (K : Nat) (a0 : MpT) (a1 : Int) : Option Int := (if (IntKind.i64.wrap (a1 - (a0.length : Int))) < 0 then some (-1) else some (IntKind.i64.wrap (a1 - (a0.length : Int))))
theorem g_laws_szTermS_ok {K : Nat} {a0 : MpT} {a1 : Int} {r : Int} (q0 : g_laws_szTermS K a0 a1 = some r) {H : FH} {w : World} {L : OL} {s0 : Value} (a4 : RdSl yT H s0 a0) (hS : St H w L) :
 Calls Tryz.prog 105 #[s0, vI a1] w (Done (fun v G => (R.int .i64).p G v r) H L) := by
 have hsub := Sub.refl H
 refine calls_of_run Tryz.func105 rfl Tryz.ntmps105 rfl ?_
 unfold g_laws_szTermS at q0
 refine run_seq (run_region (r_assign (vI 0) rfl rfl (reg_nil (run_seq (run_region (r_move (vI a1) rfl rfl (r_move (s0) rfl rfl ?_)))))))
 have a5 := a4.bound
 refine r_lenRd sl40 rfl a4 rfl ?_
 refine r_sub (IntKind.i64.wrap (a1 - (a0.length : Int))) rfl rfl rfl rfl (r_assign (vI (IntKind.i64.wrap (a1 - (a0.length : Int)))) rfl rfl (reg_nil (run_seq (run_seq (run_region (r_move (vI (IntKind.i64.wrap (a1 - (a0.length : Int)))) rfl rfl ?_))))))
 refine r_lss (k := .i64) (a := (IntKind.i64.wrap (a1 - (a0.length : Int)))) (b := 0) rfl rfl rfl (reg_nil ?_)
 by_cases a3 : (IntKind.i64.wrap (a1 - (a0.length : Int))) < 0
 rw [if_pos a3] at q0
 refine run_cond_true (Eq.trans rfl (congrArg Value.bool (decide_eq_true a3))) (run_seq (run_region (r_assign (vI (-1)) rfl rfl (reg_nil ?_))))
 refine run_ret (vs := [vI (-1)]) Tryz.func105 ⟨rfl, trivial⟩ ?_
 have hz := Option.some.inj q0
 subst hz
 exact ⟨_, _, rfl, hsub, hS, rfl⟩
 rw [if_neg a3] at q0
 refine run_cond_false (Eq.trans rfl (congrArg Value.bool (decide_eq_false a3))) (run_skip (run_seq (run_region (r_move (vI (IntKind.i64.wrap (a1 - (a0.length : Int)))) rfl rfl (r_assign (vI (IntKind.i64.wrap (a1 - (a0.length : Int)))) rfl rfl (reg_nil ?_))))))
 refine run_ret (vs := [vI (IntKind.i64.wrap (a1 - (a0.length : Int)))]) Tryz.func105 ⟨rfl, trivial⟩ ?_
 have hz := Option.some.inj q0
 subst hz
 exact ⟨_, _, rfl, hsub, hS, rfl⟩
end Go.Proofs.YtfodlhkoafhplaaGreat
