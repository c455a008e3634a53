/- Walks of functions: each computes its pure function, if that gives a value. -/
import Derived.Test.YtfodlhkoafhplaaGreatCTy
namespace Go.Proofs.YtfodlhkoafhplaaGreat
open Go
set_option linter.unusedSimpArgs false
set_option linter.unusedVariables false
def g_spec_l01Mono_l0 (K : Nat) (a0 : (List Int)) (a1 : A8) : Nat → Int → Option (Ex Bool (Unit))
 | 0, _ => none
 | k + 1, a3 => (if a3 < 8 then (if (a0.length : Int) ≤ a3 then (if (idx8 a1 a3) = 0 then g_spec_l01Mono_l0 K a0 a1 k (a3 + 1) else some (.ret false)) else (if 20 < (idx8 a1 a3) then some (.ret false) else (if a3 < (a0.length : Int) then (if (((rd a0 a3)).tmod 2) = 0 then g_spec_l01Mono_l0 K a0 a1 k (a3 + 1) else (if 1 < (idx8 a1 a3) then some (.ret false) else g_spec_l01Mono_l0 K a0 a1 k (a3 + 1))) else none))) else some (.go ()))
def g_spec_l01Mono (K : Nat) (a0 : (List Int)) (a1 : A8) : Option Bool := ((g_spec_l01Mono_l0 K a0 a1 K 0).bind (Ex.elim (fun r => some r) (fun s => some true)))
set_option maxRecDepth 100000 in
set_option maxHeartbeats 1000000 in
theorem g_spec_l01Mono_ok {K : Nat} {a0 : (List Int)} {a1 : A8} {r : Bool} (q0 : g_spec_l01Mono K a0 a1 = some r) {H : FH} {w : World} {L : OL} {s0 : Value} (b2 : RdSl (tyInt .i64) H s0 a0) (hS : St H w L) :
 Calls Tryz.prog 202 #[s0, Value.agg (enc8 .u8 a1).toArray] w (Done (fun v G => R.bool.p G v r) H L) := by
 have hsub := Sub.refl H
 refine calls_of_run Tryz.func202 rfl Tryz.ntmps202 rfl ?_
 unfold g_spec_l01Mono at q0
 refine run_seq (run_region ?_)
 refine r_box (v := Value.agg (enc8 .u8 a1).toArray) (enc8 .u8 a1).toArray rfl rfl hS rfl ?_
 intro b1 w2 hS
 refine r_assign (Value.bool false) rfl rfl ?_
 refine reg_nil (run_seq ?_)
 refine run_seq (run_region ?_)
 refine r_assign (vI 0) rfl rfl ?_
 refine reg_nil (run_block ?_)
 obtain ⟨b8, a4, b0⟩ := bind_some q0
 refine loop_ind (id := 0) (fun k f w => ∃ (a3 : Int) (H1 : FH), g_spec_l01Mono_l0 K a0 a1 k a3 = some b8 ∧ Sub H H1 ∧ St H1 w ([(b1, .cells (enc8 .u8 a1).toArray 70)] ++ L) ∧ 0 ≤ a3 ∧ RdSl (tyInt .i64) H1 s0 a0 ∧ ev f (.tmp 0) = s0 ∧ ev f (.tmp 3) = vP b1 ∧ ev f (.tmp 5) = vI a3) (fun f w => ∃ (H1 : FH), b8 = .go () ∧ Sub H H1 ∧ St H1 w ([(b1, .cells (enc8 .u8 a1).toArray 70)] ++ L)) rfl ?_ ?_ K ?_ ?_
 rintro f w ⟨a3, H1, a4, _⟩
 rw [g_spec_l01Mono_l0] at a4; cases a4
 rintro k c5 c6 b9 c3 ⟨a3, b3, a4, hsub, hS, c4, b2, a9, a8, a5⟩
 rw [g_spec_l01Mono_l0] at a4
 refine run_seq (run_seq (run_region ?_))
 refine r_move (vI a3) (by exact a5) rfl ?_
 refine r_lss (k := .i64) (a := a3) (b := 8) rfl rfl rfl ?_
 refine reg_nil ?_
 by_cases b5 : a3 < 8
 rw [if_pos b5] at a4
 refine run_cond_true (Eq.trans rfl (congrArg Value.bool (decide_eq_true b5))) ?_
 refine run_skip (run_seq ?_)
 refine run_block (run_block ?_)
 refine run_seq (run_region ?_)
 refine r_move (vI a3) (by exact a5) rfl ?_
 refine r_move (s0) (by exact a9) rfl ?_
 have d1 := b2.bound
 refine r_lenRd sl22 rfl b2 rfl ?_
 refine r_geq (k := .i64) (a := a3) (b := (a0.length : Int)) rfl rfl rfl ?_
 refine r_assign (Value.bool (decide ((a0.length : Int) ≤ a3))) rfl rfl ?_
 refine reg_nil ?_
 by_cases b6 : (a0.length : Int) ≤ a3
 rw [if_pos b6] at a4
 refine run_cond_true (Eq.trans rfl (congrArg Value.bool (decide_eq_true b6))) ?_
 refine run_seq (run_region ?_)
 refine r_move (vI a3) (by exact a5) rfl ?_
 refine r_indexArP ar70 (by exact a8) rfl (by omega) (by omega) rfl ?_
 refine r_loadOne (Value.int .u8 (idx8 a1 a3)) ty5 rfl (hS.get (o := .cells (enc8 .u8 a1).toArray 70) mL) (box_ix ([]) ([]) (by omega) (by omega)) rfl ?_
 refine r_neq (k := .u8) (a := (idx8 a1 a3)) (b := 0) rfl rfl rfl ?_
 refine reg_nil ?_
 by_cases b7 : (idx8 a1 a3) = 0
 rw [if_pos b7] at a4
 refine run_cond_false (Eq.trans rfl (congrArg (fun b => Value.bool (!b)) (decide_eq_true b7))) ?_
 refine run_skip (run_inBlock ?_)
 refine run_inBlock (run_region ?_)
 refine r_move (vI a3) (by exact a5) rfl ?_
 refine r_add (a3 + 1) rfl rfl (IntWalk.i64_in _ (by omega)) rfl ?_
 refine r_assign (vI (a3 + 1)) rfl rfl ?_
 refine reg_nil ?_
 exact b9 _ _ ⟨(a3 + 1), b3, a4, hsub, hS, (by omega), b2, a9, a8, rfl⟩
 rw [if_neg b7] at a4
 refine run_cond_true (Eq.trans rfl (congrArg (fun b => Value.bool (!b)) (decide_eq_false b7))) ?_
 refine run_seq (run_region ?_)
 refine r_assign (Value.bool false) rfl rfl ?_
 refine reg_nil ?_
 refine run_ret (vs := [Value.bool false]) Tryz.func202 ⟨rfl, trivial⟩ ?_
 have hz := Option.some.inj a4
 subst hz
 dsimp only [Ex.elim] at b0
 have hz := Option.some.inj b0
 subst hz
 exact ⟨_, _, rfl, hsub, (St.dropA (A := [(b1, .cells (enc8 .u8 a1).toArray 70)]) hS), rfl⟩
 rw [if_neg b6] at a4
 refine run_cond_false (Eq.trans rfl (congrArg Value.bool (decide_eq_false b6))) ?_
 refine run_seq (run_region ?_)
 refine r_move (vI a3) (by exact a5) rfl ?_
 refine r_indexArP ar70 (by exact a8) rfl (by omega) (by omega) rfl ?_
 refine r_loadOne (Value.int .u8 (idx8 a1 a3)) ty5 rfl (hS.get (o := .cells (enc8 .u8 a1).toArray 70) mL) (box_ix ([]) ([]) (by omega) (by omega)) rfl ?_
 refine r_gtr (k := .u8) (a := (idx8 a1 a3)) (b := 20) rfl rfl rfl ?_
 refine r_move (Value.bool (decide (20 < (idx8 a1 a3)))) rfl rfl ?_
 by_cases a6 : 20 < (idx8 a1 a3)
 rw [if_pos a6] at a4
 refine reg_unguard rfl rfl (Eq.trans rfl (congrArg Value.bool (decide_eq_true a6))) rfl rfl rfl ?_
 refine reg_unguard rfl rfl (Eq.trans rfl (congrArg Value.bool (decide_eq_true a6))) rfl rfl rfl ?_
 refine reg_unguard rfl rfl (Eq.trans rfl (congrArg Value.bool (decide_eq_true a6))) rfl rfl rfl ?_
 refine reg_unguard rfl rfl (Eq.trans rfl (congrArg Value.bool (decide_eq_true a6))) rfl rfl rfl ?_
 refine reg_unguard rfl rfl (Eq.trans rfl (congrArg Value.bool (decide_eq_true a6))) rfl rfl rfl ?_
 refine reg_unguard rfl rfl (Eq.trans rfl (congrArg Value.bool (decide_eq_true a6))) rfl rfl rfl ?_
 refine reg_unguard rfl rfl (Eq.trans rfl (congrArg Value.bool (decide_eq_true a6))) rfl rfl rfl ?_
 refine reg_undef rfl rfl rfl rfl rfl ?_
 refine reg_undef rfl rfl rfl rfl rfl ?_
 refine reg_undef rfl rfl rfl rfl rfl ?_
 refine reg_undef rfl rfl rfl rfl rfl ?_
 refine reg_unguard rfl rfl (Eq.trans rfl (congrArg Value.bool (decide_eq_true a6))) rfl rfl rfl ?_
 refine r_pick (t := true) (Value.bool true) (Eq.trans rfl (congrArg Value.bool (decide_eq_true a6))) ((if_pos rfl).trans rfl) rfl ?_
 refine r_assign (Value.bool true) rfl rfl ?_
 refine reg_nil ?_
 refine run_cond_true rfl ?_
 refine run_seq (run_region ?_)
 refine r_assign (Value.bool false) rfl rfl ?_
 refine reg_nil ?_
 refine run_ret (vs := [Value.bool false]) Tryz.func202 ⟨rfl, trivial⟩ ?_
 have hz := Option.some.inj a4
 subst hz
 dsimp only [Ex.elim] at b0
 have hz := Option.some.inj b0
 subst hz
 exact ⟨_, _, rfl, hsub, (St.dropA (A := [(b1, .cells (enc8 .u8 a1).toArray 70)]) hS), rfl⟩
 rw [if_neg a6] at a4
 refine reg_guard rfl rfl (Eq.trans rfl (congrArg Value.bool (decide_eq_false a6))) ?_
 refine r_move (s0) (by exact a9) rfl ?_
 refine reg_guard rfl rfl (Eq.trans rfl (congrArg Value.bool (decide_eq_false a6))) ?_
 refine r_move (vI a3) (by exact a5) rfl ?_
 refine reg_guard rfl rfl (Eq.trans rfl (congrArg Value.bool (decide_eq_false a6))) ?_
 obtain ⟨d2, a4⟩ := gd a4
 obtain ⟨d3, d4, c7, d5, _, c0, c1, rfl, c2⟩ := b2.elem (i := a3) (by omega) (by omega)
 refine r_indexAt sl22 rfl rfl c0 rfl (by omega) (by omega) rfl ?_
 refine reg_guard rfl rfl (Eq.trans rfl (congrArg Value.bool (decide_eq_false a6))) ?_
 refine r_loadOne (vI (rd a0 a3)) ty2 rfl (hS.froz _ _ c1) (c2 0 (show 0 < 1 by decide)) rfl ?_
 refine reg_guard rfl rfl (Eq.trans rfl (congrArg Value.bool (decide_eq_false a6))) ?_
 refine r_rem (((rd a0 a3)).tmod 2) rfl rfl (by decide) rfl rfl ?_
 refine reg_guard rfl rfl (Eq.trans rfl (congrArg Value.bool (decide_eq_false a6))) ?_
 refine r_neq (k := .i64) (a := (((rd a0 a3)).tmod 2)) (b := 0) rfl rfl rfl ?_
 refine reg_guard rfl rfl (Eq.trans rfl (congrArg Value.bool (decide_eq_false a6))) ?_
 refine r_move (Value.bool (!decide ((((rd a0 a3)).tmod 2) = 0))) rfl rfl ?_
 by_cases a7 : (((rd a0 a3)).tmod 2) = 0
 rw [if_pos a7] at a4
 refine reg_unguard rfl rfl (Eq.trans rfl (congrArg (fun b => Value.bool (!b)) (decide_eq_true a7))) rfl rfl rfl ?_
 refine reg_unguard rfl rfl (Eq.trans rfl (congrArg (fun b => Value.bool (!b)) (decide_eq_true a7))) rfl rfl rfl ?_
 refine reg_unguard rfl rfl (Eq.trans rfl (congrArg (fun b => Value.bool (!b)) (decide_eq_true a7))) rfl rfl rfl ?_
 refine reg_unguard rfl rfl (Eq.trans rfl (congrArg (fun b => Value.bool (!b)) (decide_eq_true a7))) rfl rfl rfl ?_
 refine reg_guard rfl rfl (Eq.trans rfl (congrArg Value.bool (decide_eq_false a6))) ?_
 refine r_pick (t := false) (Value.bool false) (Eq.trans rfl (congrArg (fun b => Value.bool (!b)) (decide_eq_true a7))) ((if_neg Bool.false_ne_true).trans rfl) rfl ?_
 refine r_pick (t := false) (Value.bool false) (Eq.trans rfl (congrArg Value.bool (decide_eq_false a6))) ((if_neg Bool.false_ne_true).trans rfl) rfl ?_
 refine r_assign (Value.bool false) rfl rfl ?_
 refine reg_nil ?_
 refine run_cond_false rfl ?_
 refine run_skip (run_inBlock ?_)
 refine run_inBlock (run_region ?_)
 refine r_move (vI a3) (by exact a5) rfl ?_
 refine r_add (a3 + 1) rfl rfl (IntWalk.i64_in _ (by omega)) rfl ?_
 refine r_assign (vI (a3 + 1)) rfl rfl ?_
 refine reg_nil ?_
 exact b9 _ _ ⟨(a3 + 1), b3, a4, hsub, hS, (by omega), b2, a9, a8, rfl⟩
 rw [if_neg a7] at a4
 refine reg_guard rfl rfl (Eq.trans rfl (congrArg (fun b => Value.bool (!b)) (decide_eq_false a7))) ?_
 refine r_move (vI a3) (by exact a5) rfl ?_
 refine reg_guard rfl rfl (Eq.trans rfl (congrArg (fun b => Value.bool (!b)) (decide_eq_false a7))) ?_
 refine r_indexArP ar70 (by exact a8) rfl (by omega) (by omega) rfl ?_
 refine reg_guard rfl rfl (Eq.trans rfl (congrArg (fun b => Value.bool (!b)) (decide_eq_false a7))) ?_
 refine r_loadOne (Value.int .u8 (idx8 a1 a3)) ty5 rfl (hS.get (o := .cells (enc8 .u8 a1).toArray 70) mL) (box_ix ([]) ([]) (by omega) (by omega)) rfl ?_
 refine reg_guard rfl rfl (Eq.trans rfl (congrArg (fun b => Value.bool (!b)) (decide_eq_false a7))) ?_
 refine r_gtr (k := .u8) (a := (idx8 a1 a3)) (b := 1) rfl rfl rfl ?_
 refine reg_guard rfl rfl (Eq.trans rfl (congrArg Value.bool (decide_eq_false a6))) ?_
 refine r_pick (t := true) (Value.bool (decide (1 < (idx8 a1 a3)))) (Eq.trans rfl (congrArg (fun b => Value.bool (!b)) (decide_eq_false a7))) ((if_pos rfl).trans rfl) rfl ?_
 refine r_pick (t := false) (Value.bool (decide (1 < (idx8 a1 a3)))) (Eq.trans rfl (congrArg Value.bool (decide_eq_false a6))) ((if_neg Bool.false_ne_true).trans rfl) rfl ?_
 refine r_assign (Value.bool (decide (1 < (idx8 a1 a3)))) rfl rfl ?_
 refine reg_nil ?_
 by_cases b4 : 1 < (idx8 a1 a3)
 rw [if_pos b4] at a4
 refine run_cond_true (Eq.trans rfl (congrArg Value.bool (decide_eq_true b4))) ?_
 refine run_seq (run_region ?_)
 refine r_assign (Value.bool false) rfl rfl ?_
 refine reg_nil ?_
 refine run_ret (vs := [Value.bool false]) Tryz.func202 ⟨rfl, trivial⟩ ?_
 have hz := Option.some.inj a4
 subst hz
 dsimp only [Ex.elim] at b0
 have hz := Option.some.inj b0
 subst hz
 exact ⟨_, _, rfl, hsub, (St.dropA (A := [(b1, .cells (enc8 .u8 a1).toArray 70)]) hS), rfl⟩
 rw [if_neg b4] at a4
 refine run_cond_false (Eq.trans rfl (congrArg Value.bool (decide_eq_false b4))) ?_
 refine run_skip (run_inBlock ?_)
 refine run_inBlock (run_region ?_)
 refine r_move (vI a3) (by exact a5) rfl ?_
 refine r_add (a3 + 1) rfl rfl (IntWalk.i64_in _ (by omega)) rfl ?_
 refine r_assign (vI (a3 + 1)) rfl rfl ?_
 refine reg_nil ?_
 exact b9 _ _ ⟨(a3 + 1), b3, a4, hsub, hS, (by omega), b2, a9, a8, rfl⟩
 rw [if_neg b5] at a4
 refine run_cond_false (Eq.trans rfl (congrArg Value.bool (decide_eq_false b5))) ?_
 refine run_exit rfl ?_
 have hz := Option.some.inj a4
 subst hz
 exact c3 _ _ ⟨b3, rfl, hsub, hS⟩
 exact ⟨0, H, a4, hsub, hS, (by omega), b2, rfl, rfl, rfl⟩
 rintro c8 c9 ⟨d0, rfl, hsub, hS⟩
 dsimp only [Ex.elim] at b0
 refine run_seq (run_region ?_)
 refine r_assign (Value.bool true) rfl rfl ?_
 refine reg_nil ?_
 refine run_ret (vs := [Value.bool true]) Tryz.func202 ⟨rfl, trivial⟩ ?_
 have hz := Option.some.inj b0
 subst hz
 exact ⟨_, _, rfl, hsub, (St.dropA (A := [(b1, .cells (enc8 .u8 a1).toArray 70)]) hS), rfl⟩
def g_spec_l01Before_l0 (K : Nat) (a0 : A8) (a1 : A8) : Nat → Int → Option (Ex Bool (Unit))
 | 0, _ => none
 | k + 1, a3 => (if a3 < 8 then (if (idx8 a0 a3) = (idx8 a1 a3) then g_spec_l01Before_l0 K a0 a1 k (a3 + 1) else some (.ret (decide ((idx8 a1 a3) < (idx8 a0 a3))))) else some (.go ()))
def g_spec_l01Before (K : Nat) (a0 : A8) (a1 : A8) : Option Bool := ((g_spec_l01Before_l0 K a0 a1 K 0).bind (Ex.elim (fun r => some r) (fun s => some false)))
set_option maxRecDepth 100000 in
set_option maxHeartbeats 1000000 in
theorem g_spec_l01Before_ok {K : Nat} {a0 : A8} {a1 : A8} {r : Bool} (q0 : g_spec_l01Before K a0 a1 = some r) {H : FH} {w : World} {L : OL} (hS : St H w L) :
 Calls Tryz.prog 203 #[Value.agg (enc8 .u8 a0).toArray, Value.agg (enc8 .u8 a1).toArray] w (Done (fun v G => R.bool.p G v r) H L) := by
 have hsub := Sub.refl H
 refine calls_of_run Tryz.func203 rfl Tryz.ntmps203 rfl ?_
 unfold g_spec_l01Before at q0
 refine run_seq (run_region ?_)
 refine r_box (v := Value.agg (enc8 .u8 a0).toArray) (enc8 .u8 a0).toArray rfl rfl hS rfl ?_
 intro b1 w2 hS
 refine r_box (v := Value.agg (enc8 .u8 a1).toArray) (enc8 .u8 a1).toArray rfl rfl hS rfl ?_
 intro b4 w5 hS
 refine r_assign (Value.bool false) rfl rfl ?_
 refine reg_nil (run_seq ?_)
 refine run_seq (run_region ?_)
 refine r_assign (vI 0) rfl rfl ?_
 refine reg_nil (run_block ?_)
 obtain ⟨b5, a4, a8⟩ := bind_some q0
 refine loop_ind (id := 0) (fun k f w => ∃ (a3 : Int) (H1 : FH), g_spec_l01Before_l0 K a0 a1 k a3 = some b5 ∧ Sub H H1 ∧ St H1 w ([(b4, .cells (enc8 .u8 a1).toArray 70)] ++ ([(b1, .cells (enc8 .u8 a0).toArray 70)] ++ L)) ∧ 0 ≤ a3 ∧ ev f (.tmp 2) = vP b1 ∧ ev f (.tmp 3) = vP b4 ∧ ev f (.tmp 5) = vI a3) (fun f w => ∃ (H1 : FH), b5 = .go () ∧ Sub H H1 ∧ St H1 w ([(b4, .cells (enc8 .u8 a1).toArray 70)] ++ ([(b1, .cells (enc8 .u8 a0).toArray 70)] ++ L))) rfl ?_ ?_ K ?_ ?_
 rintro f w ⟨a3, H1, a4, _⟩
 rw [g_spec_l01Before_l0] at a4; cases a4
 rintro k j0 j1 g2 g3 ⟨a3, d3, a4, hsub, hS, g4, a6, a7, a5⟩
 rw [g_spec_l01Before_l0] at a4
 refine run_seq (run_seq (run_region ?_))
 refine r_move (vI a3) (by exact a5) rfl ?_
 refine r_lss (k := .i64) (a := a3) (b := 8) rfl rfl rfl ?_
 refine reg_nil ?_
 by_cases b2 : a3 < 8
 rw [if_pos b2] at a4
 refine run_cond_true (Eq.trans rfl (congrArg Value.bool (decide_eq_true b2))) ?_
 refine run_skip (run_seq ?_)
 refine run_block (run_seq ?_)
 refine run_draw 7 (tabL [(10, MP.eq (vI a3)), (11, MP.eq (Value.pointer (some ⟨b1, 0 + (a3).toNat * 1, none⟩))), (12, MP.eq (Value.int .u8 (idx8 a0 a3))), (13, MP.eq (vI a3)), (14, MP.eq (Value.pointer (some ⟨b4, 0 + (a3).toNat * 1, none⟩))), (15, MP.eq (Value.int .u8 (idx8 a1 a3))), (16, MP.eq (Value.bool (!decide ((idx8 a0 a3) = (idx8 a1 a3)))))]) [] mixed rfl rfl rfl hS (hop_q rfl ?_ (hop_q rfl ?_ (hop_q rfl ?_ (hop_q rfl ?_ (hop_q rfl ?_ (hop_q rfl ?_ (hop_q rfl ?_ hop_nil))))))) ?_
 intro f8 w9 n0 n1 j2 hS d4 j3 hcq
 refine r_move (vI a3) (evT (d4 5 rfl) a5) rfl ?_
 exact qn (.refl _) rfl hS rfl
 intro g5 n2 n3 n4 j4 hS d5 d6 hcq
 have g6 : ev g5 (.tmp 10) = vI a3 := d6 0 10 rfl rfl
 refine r_indexArP ar70 (evT (d5 2 rfl) a6) g6 (by omega) (by omega) rfl ?_
 exact qn (.refl _) rfl hS rfl
 intro g7 n5 n6 n7 j5 hS j6 d7 hcq
 have g8 : ev g7 (.tmp 11) = Value.pointer (some ⟨b1, 0 + (a3).toNat * 1, none⟩) := d7 1 11 rfl rfl
 refine r_loadOne (Value.int .u8 (idx8 a0 a3)) ty5 g8 (hS.get (o := .cells (enc8 .u8 a0).toArray 70) (mR (mR mL))) (box_ix ([]) ([]) (by omega) (by omega)) rfl ?_
 exact qn (.refl _) rfl hS rfl
 intro n8 n9 o0 o1 j7 hS d8 j8 hcq
 refine r_move (vI a3) (evT (d8 5 rfl) a5) rfl ?_
 exact qn (.refl _) rfl hS rfl
 intro g9 o2 o3 o4 j9 hS d9 e0 hcq
 have h0 : ev g9 (.tmp 13) = vI a3 := e0 3 13 rfl rfl
 refine r_indexArP ar70 (evT (d9 3 rfl) a7) h0 (by omega) (by omega) rfl ?_
 exact qn (.refl _) rfl hS rfl
 intro h1 o5 o6 o7 k0 hS k1 e1 hcq
 have h2 : ev h1 (.tmp 14) = Value.pointer (some ⟨b4, 0 + (a3).toNat * 1, none⟩) := e1 4 14 rfl rfl
 refine r_loadOne (Value.int .u8 (idx8 a1 a3)) ty5 h2 (hS.get (o := .cells (enc8 .u8 a1).toArray 70) (mR mL)) (box_ix ([]) ([]) (by omega) (by omega)) rfl ?_
 exact qn (.refl _) rfl hS rfl
 intro c8 o8 o9 p0 k2 hS k3 b6 hcq
 have h3 : ev c8 (.tmp 12) = Value.int .u8 (idx8 a0 a3) := b6 2 12 rfl rfl
 have h4 : ev c8 (.tmp 15) = Value.int .u8 (idx8 a1 a3) := b6 5 15 rfl rfl
 refine r_neq (k := .u8) (a := (idx8 a0 a3)) (b := (idx8 a1 a3)) h3 h4 rfl ?_
 exact qn (.refl _) rfl hS rfl
 intro h5 h6 c9 e2 hS b0 e3 hcq
 have hS : St c9 h6 ([(b4, .cells (enc8 .u8 a1).toArray 70)] ++ ([(b1, .cells (enc8 .u8 a0).toArray 70)] ++ L)) := hS
 have hsub := hsub.trans e2
 have d0 := evT (b0 2 rfl) a6
 have d1 := evT (b0 3 rfl) a7
 have b7 := evT (b0 5 rfl) a5
 have d2 : ev h5 (.tmp 16) = Value.bool (!decide ((idx8 a0 a3) = (idx8 a1 a3))) := e3 6 16 (by decide) rfl
 refine reg_nil ?_
 by_cases a9 : (idx8 a0 a3) = (idx8 a1 a3)
 rw [if_pos a9] at a4
 refine run_cond_false (Eq.trans (by exact d2) (congrArg (fun b => Value.bool (!b)) (decide_eq_true a9))) ?_
 refine run_skip (run_inBlock ?_)
 refine run_region ?_
 refine r_move (vI a3) (by exact b7) rfl ?_
 refine r_add (a3 + 1) rfl rfl (IntWalk.i64_in _ (by omega)) rfl ?_
 refine r_assign (vI (a3 + 1)) rfl rfl ?_
 refine reg_nil ?_
 exact g2 _ _ ⟨(a3 + 1), c9, a4, hsub, hS, (by omega), d0, d1, rfl⟩
 rw [if_neg a9] at a4
 refine run_cond_true (Eq.trans (by exact d2) (congrArg (fun b => Value.bool (!b)) (decide_eq_false a9))) ?_
 refine run_seq ?_
 refine run_draw 8 (tabL [(17, MP.eq (vI a3)), (18, MP.eq (Value.pointer (some ⟨b1, 0 + (a3).toNat * 1, none⟩))), (19, MP.eq (Value.int .u8 (idx8 a0 a3))), (20, MP.eq (vI a3)), (21, MP.eq (Value.pointer (some ⟨b4, 0 + (a3).toNat * 1, none⟩))), (22, MP.eq (Value.int .u8 (idx8 a1 a3))), (23, MP.eq (Value.bool (decide ((idx8 a1 a3) < (idx8 a0 a3))))), (4, MP.eq (Value.bool (decide ((idx8 a1 a3) < (idx8 a0 a3)))))]) [] mixed rfl rfl rfl hS (hop_q rfl ?_ (hop_q rfl ?_ (hop_q rfl ?_ (hop_q rfl ?_ (hop_q rfl ?_ (hop_q rfl ?_ (hop_q rfl ?_ (hop_q rfl ?_ hop_nil)))))))) ?_
 intro p1 p2 p3 p4 k4 hS e4 k5 hcq
 refine r_move (vI a3) (evT (e4 5 rfl) b7) rfl ?_
 exact qn (.refl _) rfl hS rfl
 intro h7 p5 p6 p7 k6 hS e5 b9 hcq
 have e6 : ev h7 (.tmp 17) = vI a3 := b9 0 17 rfl rfl
 refine r_indexArP ar70 (evT (e5 2 rfl) d0) e6 (by omega) (by omega) rfl ?_
 exact qn (.refl _) rfl hS rfl
 intro e7 k7 k8 k9 h8 hS h9 c0 hcq
 have e8 : ev e7 (.tmp 18) = Value.pointer (some ⟨b1, 0 + (a3).toNat * 1, none⟩) := c0 1 18 rfl rfl
 refine r_loadOne (Value.int .u8 (idx8 a0 a3)) ty5 e8 (hS.get (o := .cells (enc8 .u8 a0).toArray 70) (mR (mR mL))) (box_ix ([]) ([]) (by omega) (by omega)) rfl ?_
 exact qn (.refl _) rfl hS rfl
 intro l0 l1 l2 l3 i0 hS c1 i1 hcq
 refine r_move (vI a3) (evT (c1 5 rfl) b7) rfl ?_
 exact qn (.refl _) rfl hS rfl
 intro e9 l4 l5 l6 i2 hS c2 c3 hcq
 have f0 : ev e9 (.tmp 20) = vI a3 := c3 3 20 rfl rfl
 refine r_indexArP ar70 (evT (c2 3 rfl) d1) f0 (by omega) (by omega) rfl ?_
 exact qn (.refl _) rfl hS rfl
 intro f1 l7 l9 m0 i3 hS i4 c4 hcq
 have f2 : ev f1 (.tmp 21) = Value.pointer (some ⟨b4, 0 + (a3).toNat * 1, none⟩) := c4 4 21 rfl rfl
 refine r_loadOne (Value.int .u8 (idx8 a1 a3)) ty5 f2 (hS.get (o := .cells (enc8 .u8 a1).toArray 70) (mR mL)) (box_ix ([]) ([]) (by omega) (by omega)) rfl ?_
 exact qn (.refl _) rfl hS rfl
 intro b8 m1 m2 m3 i5 hS i6 b3 hcq
 have f3 : ev b8 (.tmp 19) = Value.int .u8 (idx8 a0 a3) := b3 2 19 rfl rfl
 have f4 : ev b8 (.tmp 22) = Value.int .u8 (idx8 a1 a3) := b3 5 22 rfl rfl
 refine r_gtr (k := .u8) (a := (idx8 a0 a3)) (b := (idx8 a1 a3)) f3 f4 rfl ?_
 exact qn (.refl _) rfl hS rfl
 intro f5 m4 m5 m6 i7 hS i8 c5 hcq
 have f6 : ev f5 (.tmp 23) = Value.bool (decide ((idx8 a1 a3) < (idx8 a0 a3))) := c5 6 23 rfl rfl
 refine r_assign (Value.bool (decide ((idx8 a1 a3) < (idx8 a0 a3)))) f6 rfl ?_
 exact qn (.refl _) rfl hS rfl
 intro f7 f9 g0 c6 hS i9 c7 hcq
 have hS : St g0 f9 ([(b4, .cells (enc8 .u8 a1).toArray 70)] ++ ([(b1, .cells (enc8 .u8 a0).toArray 70)] ++ L)) := hS
 have hsub := hsub.trans c6
 have g1 : ev f7 (.tmp 4) = Value.bool (decide ((idx8 a1 a3) < (idx8 a0 a3))) := c7 7 4 (by decide) rfl
 refine reg_nil ?_
 refine run_ret (vs := [Value.bool (decide ((idx8 a1 a3) < (idx8 a0 a3)))]) Tryz.func203 ⟨(by exact g1), trivial⟩ ?_
 have hz := Option.some.inj a4
 subst hz
 dsimp only [Ex.elim] at a8
 have hz := Option.some.inj a8
 subst hz
 exact ⟨_, _, rfl, hsub, (St.dropA (A := [(b1, .cells (enc8 .u8 a0).toArray 70)]) (St.dropA (A := [(b4, .cells (enc8 .u8 a1).toArray 70)]) hS)), rfl⟩
 rw [if_neg b2] at a4
 refine run_cond_false (Eq.trans rfl (congrArg Value.bool (decide_eq_false b2))) ?_
 refine run_exit rfl ?_
 have hz := Option.some.inj a4
 subst hz
 exact g3 _ _ ⟨d3, rfl, hsub, hS⟩
 exact ⟨0, H, a4, hsub, hS, (by omega), rfl, rfl, rfl⟩
 rintro m7 m8 ⟨m9, rfl, hsub, hS⟩
 dsimp only [Ex.elim] at a8
 refine run_seq (run_region ?_)
 refine r_assign (Value.bool false) rfl rfl ?_
 refine reg_nil ?_
 refine run_ret (vs := [Value.bool false]) Tryz.func203 ⟨rfl, trivial⟩ ?_
 have hz := Option.some.inj a8
 subst hz
 exact ⟨_, _, rfl, hsub, (St.dropA (A := [(b1, .cells (enc8 .u8 a0).toArray 70)]) (St.dropA (A := [(b4, .cells (enc8 .u8 a1).toArray 70)]) hS)), rfl⟩
def g_laws_eqInt64S_l0 (K : Nat) (a0 : (List Int)) (a1 : (List Int)) : Nat → Int → Option (Ex Bool (Unit))
 | 0, _ => none
 | k + 1, a3 => (if a3 < (a0.length : Int) then (if a3 < (a1.length : Int) then (if (rd a0 a3) = (rd a1 a3) then g_laws_eqInt64S_l0 K a0 a1 k (a3 + 1) else some (.ret false)) else none) else some (.go ()))
def g_laws_eqInt64S (K : Nat) (a0 : (List Int)) (a1 : (List Int)) : Option Bool := (if (a0.length : Int) = (a1.length : Int) then ((g_laws_eqInt64S_l0 K a0 a1 K 0).bind (Ex.elim (fun r => some r) (fun s => some true))) else some false)
set_option maxRecDepth 100000 in
set_option maxHeartbeats 1000000 in
theorem g_laws_eqInt64S_ok {K : Nat} {a0 : (List Int)} {a1 : (List Int)} {r : Bool} (q0 : g_laws_eqInt64S K a0 a1 = some r) {H : FH} {w : World} {L : OL} {s0 : Value} {s1 : Value} (a6 : RdSl (tyInt .i64) H s0 a0) (a8 : RdSl (tyInt .i64) H s1 a1) (hS : St H w L) :
 Calls Tryz.prog 24 #[s0, s1] w (Done (fun v G => R.bool.p G v r) H L) := by
 have hsub := Sub.refl H
 refine calls_of_run Tryz.func24 rfl Tryz.ntmps24 rfl ?_
 unfold g_laws_eqInt64S at q0
 refine run_seq (run_region ?_)
 refine r_assign (Value.bool false) rfl rfl ?_
 refine reg_nil (run_seq ?_)
 refine run_seq (run_region ?_)
 refine r_move (s0) rfl rfl ?_
 have i5 := a6.bound
 refine r_lenRd sl22 rfl a6 rfl ?_
 refine r_move (s1) rfl rfl ?_
 have i6 := a8.bound
 refine r_lenRd sl22 rfl a8 rfl ?_
 refine r_neq (k := .i64) (a := (a0.length : Int)) (b := (a1.length : Int)) rfl rfl rfl ?_
 refine reg_nil ?_
 by_cases b6 : (a0.length : Int) = (a1.length : Int)
 rw [if_pos b6] at q0
 refine run_cond_false (Eq.trans rfl (congrArg (fun b => Value.bool (!b)) (decide_eq_true b6))) ?_
 refine run_skip (run_seq ?_)
 refine run_seq (run_region ?_)
 refine r_assign (vI 0) rfl rfl ?_
 refine reg_nil (run_block ?_)
 obtain ⟨b8, a4, b1⟩ := bind_some q0
 refine loop_ind (id := 0) (fun k f w => ∃ (a3 : Int) (H1 : FH), g_laws_eqInt64S_l0 K a0 a1 k a3 = some b8 ∧ Sub H H1 ∧ St H1 w (L) ∧ 0 ≤ a3 ∧ RdSl (tyInt .i64) H1 s0 a0 ∧ RdSl (tyInt .i64) H1 s1 a1 ∧ ev f (.tmp 0) = s0 ∧ ev f (.tmp 1) = s1 ∧ ev f (.tmp 5) = vI a3) (fun f w => ∃ (H1 : FH), b8 = .go () ∧ Sub H H1 ∧ St H1 w (L)) rfl ?_ ?_ K ?_ ?_
 rintro f w ⟨a3, H1, a4, _⟩
 rw [g_laws_eqInt64S_l0] at a4; cases a4
 rintro k g1 g2 e9 f0 ⟨a3, d2, a4, hsub, hS, f1, a6, a8, a7, b0, a5⟩
 rw [g_laws_eqInt64S_l0] at a4
 refine run_seq (run_seq (run_region ?_))
 refine r_move (vI a3) (by exact a5) rfl ?_
 refine r_move (s0) (by exact a7) rfl ?_
 have i7 := a6.bound
 refine r_lenRd sl22 rfl a6 rfl ?_
 refine r_lss (k := .i64) (a := a3) (b := (a0.length : Int)) rfl rfl rfl ?_
 refine reg_nil ?_
 by_cases b7 : a3 < (a0.length : Int)
 rw [if_pos b7] at a4
 refine run_cond_true (Eq.trans rfl (congrArg Value.bool (decide_eq_true b7))) ?_
 refine run_skip (run_seq ?_)
 refine run_block (run_seq ?_)
 obtain ⟨c5, c6, g3, i8, _, d3, b4, rfl, d4⟩ := a6.elem (i := a3) (by omega) (by omega)
 obtain ⟨g4, a4⟩ := gd a4
 obtain ⟨c7, c8, g5, i9, _, d5, b5, rfl, d6⟩ := a8.elem (i := a3) (by omega) (by omega)
 refine run_draw 9 (tabL [(17, MP.eq (s0)), (18, MP.eq (vI a3)), (19, MP.eq (Value.pointer (some ⟨c5, c6, none⟩))), (20, MP.eq (vI (rd a0 a3))), (21, MP.eq (s1)), (22, MP.eq (vI a3)), (23, MP.eq (Value.pointer (some ⟨c7, c8, none⟩))), (24, MP.eq (vI (rd a1 a3))), (25, MP.eq (Value.bool (!decide ((rd a0 a3) = (rd a1 a3)))))]) [] mixed rfl rfl rfl hS (hop_q rfl ?_ (hop_q rfl ?_ (hop_q rfl ?_ (hop_q rfl ?_ (hop_q rfl ?_ (hop_q rfl ?_ (hop_q rfl ?_ (hop_q rfl ?_ (hop_q rfl ?_ hop_nil))))))))) ?_
 intro f6 w7 H8 X9 g6 hS d7 g7 hcq
 refine r_move (s0) (evT (d7 0 rfl) a7) rfl ?_
 exact qn (.refl _) rfl hS rfl
 intro j0 j1 j2 j3 g8 hS d8 g9 hcq
 refine r_move (vI a3) (evT (d8 5 rfl) a5) rfl ?_
 exact qn (.refl _) rfl hS rfl
 intro c9 j4 j5 j6 h0 hS h1 b9 hcq
 have f2 : ev c9 (.tmp 17) = s0 := b9 0 17 rfl rfl
 have f3 : ev c9 (.tmp 18) = vI a3 := b9 1 18 rfl rfl
 refine r_indexAt sl22 rfl f2 d3 f3 (by omega) (by omega) rfl ?_
 exact qn (.refl _) rfl hS rfl
 intro f4 j7 j8 j9 d9 hS h2 e0 hcq
 have b4 := d9.1 _ _ b4
 have f5 : ev f4 (.tmp 19) = Value.pointer (some ⟨c5, c6, none⟩) := e0 2 19 rfl rfl
 refine r_loadOne (vI (rd a0 a3)) ty2 f5 (hS.froz _ _ b4) (d4 0 (show 0 < 1 by decide)) rfl ?_
 exact qn (.refl _) rfl hS rfl
 intro k0 k1 k2 k3 h3 hS e1 h4 hcq
 refine r_move (s1) (evT (e1 1 rfl) b0) rfl ?_
 exact qn (.refl _) rfl hS rfl
 intro k4 k5 k6 k7 h5 hS e2 h6 hcq
 refine r_move (vI a3) (evT (e2 5 rfl) a5) rfl ?_
 exact qn (.refl _) rfl hS rfl
 intro d0 k8 k9 l0 h7 hS h8 c0 hcq
 have f7 : ev d0 (.tmp 21) = s1 := c0 4 21 rfl rfl
 have f8 : ev d0 (.tmp 22) = vI a3 := c0 5 22 rfl rfl
 refine r_indexAt sl22 rfl f7 d5 f8 (by omega) (by omega) rfl ?_
 exact qn (.refl _) rfl hS rfl
 intro f9 l1 l2 l3 e3 hS h9 e4 hcq
 have b5 := e3.1 _ _ b5
 have g0 : ev f9 (.tmp 23) = Value.pointer (some ⟨c7, c8, none⟩) := e4 6 23 rfl rfl
 refine r_loadOne (vI (rd a1 a3)) ty2 g0 (hS.froz _ _ b5) (d6 0 (show 0 < 1 by decide)) rfl ?_
 exact qn (.refl _) rfl hS rfl
 intro d1 l4 l5 l6 i0 hS i1 c1 hcq
 have e5 : ev d1 (.tmp 20) = vI (rd a0 a3) := c1 3 20 rfl rfl
 have e6 : ev d1 (.tmp 24) = vI (rd a1 a3) := c1 7 24 rfl rfl
 refine r_neq (k := .i64) (a := (rd a0 a3)) (b := (rd a1 a3)) e5 e6 rfl ?_
 exact qn (.refl _) rfl hS rfl
 intro e7 e8 c2 b2 hS b3 c4 hcq
 have hS : St c2 e8 (L) := hS
 have hsub := hsub.trans b2
 have a6 := a6.mono b2
 have a8 := a8.mono b2
 have c3 : ev e7 (.tmp 25) = Value.bool (!decide ((rd a0 a3) = (rd a1 a3))) := c4 8 25 (by decide) rfl
 refine reg_nil ?_
 by_cases a9 : (rd a0 a3) = (rd a1 a3)
 rw [if_pos a9] at a4
 refine run_cond_false (Eq.trans (by exact c3) (congrArg (fun b => Value.bool (!b)) (decide_eq_true a9))) ?_
 refine run_skip (run_inBlock ?_)
 refine run_region ?_
 refine r_move (vI a3) (by exact (evT (b3 5 rfl) a5)) rfl ?_
 refine r_add (a3 + 1) rfl rfl (IntWalk.i64_in _ (by omega)) rfl ?_
 refine r_assign (vI (a3 + 1)) rfl rfl ?_
 refine reg_nil ?_
 exact e9 _ _ ⟨(a3 + 1), c2, a4, hsub, hS, (by omega), a6, a8, (evT (b3 0 rfl) a7), (evT (b3 1 rfl) b0), rfl⟩
 rw [if_neg a9] at a4
 refine run_cond_true (Eq.trans (by exact c3) (congrArg (fun b => Value.bool (!b)) (decide_eq_false a9))) ?_
 refine run_seq (run_region ?_)
 refine r_assign (Value.bool false) rfl rfl ?_
 refine reg_nil ?_
 refine run_ret (vs := [Value.bool false]) Tryz.func24 ⟨rfl, trivial⟩ ?_
 have hz := Option.some.inj a4
 subst hz
 dsimp only [Ex.elim] at b1
 have hz := Option.some.inj b1
 subst hz
 exact ⟨_, _, rfl, hsub, hS, rfl⟩
 rw [if_neg b7] at a4
 refine run_cond_false (Eq.trans rfl (congrArg Value.bool (decide_eq_false b7))) ?_
 refine run_exit rfl ?_
 have hz := Option.some.inj a4
 subst hz
 exact f0 _ _ ⟨d2, rfl, hsub, hS⟩
 exact ⟨0, H, a4, hsub, hS, (by omega), a6, a8, rfl, rfl, rfl⟩
 rintro i2 i3 ⟨i4, rfl, hsub, hS⟩
 dsimp only [Ex.elim] at b1
 refine run_seq (run_region ?_)
 refine r_assign (Value.bool true) rfl rfl ?_
 refine reg_nil ?_
 refine run_ret (vs := [Value.bool true]) Tryz.func24 ⟨rfl, trivial⟩ ?_
 have hz := Option.some.inj b1
 subst hz
 exact ⟨_, _, rfl, hsub, hS, rfl⟩
 rw [if_neg b6] at q0
 refine run_cond_true (Eq.trans rfl (congrArg (fun b => Value.bool (!b)) (decide_eq_false b6))) ?_
 refine run_seq (run_region ?_)
 refine r_assign (Value.bool false) rfl rfl ?_
 refine reg_nil ?_
 refine run_ret (vs := [Value.bool false]) Tryz.func24 ⟨rfl, trivial⟩ ?_
 have hz := Option.some.inj q0
 subst hz
 exact ⟨_, _, rfl, hsub, hS, rfl⟩
def g_impl_powerOf_l0 (K : Nat) (a0 : A8) : Nat → Int → A8 → Option (Ex A8 (A8))
 | 0, _, _ => none
 | k + 1, a3, a4 => (if a3 < 8 then g_impl_powerOf_l0 K a0 k (a3 + 1) (upd8 a4 a3 (IntKind.i64.wrap (idx8 a0 a3))) else some (.go a4))
def g_impl_powerOf (K : Nat) (a0 : A8) : Option A8 := ((g_impl_powerOf_l0 K a0 K 0 (fun _ => 0)).bind (Ex.elim (fun r => some r) (fun s => (fun (a1 : A8) => some a1) s)))
set_option maxRecDepth 100000 in
set_option maxHeartbeats 1000000 in
theorem g_impl_powerOf_ok {K : Nat} {a0 : A8} {r : A8} (q0 : g_impl_powerOf K a0 = some r) {H : FH} {w : World} {L : OL} (hS : St H w L) :
 Calls Tryz.prog 176 #[Value.agg (enc8 .u8 a0).toArray] w (Done (fun v G => (R.agg (tyA8 .i64)).p G v r) H L) := by
 have hsub := Sub.refl H
 refine calls_of_run Tryz.func176 rfl Tryz.ntmps176 rfl ?_
 unfold g_impl_powerOf at q0
 refine run_seq (run_region ?_)
 refine r_box (v := Value.agg (enc8 .u8 a0).toArray) (enc8 .u8 a0).toArray rfl rfl hS rfl ?_
 intro b1 w2 hS
 refine r_alloc (z := Value.agg (enc8 .i64 (fun _ => 0)).toArray) (enc8 .i64 (fun _ => 0)).toArray ze188.zero rfl hS rfl ?_
 intro b4 w5 hS
 refine reg_nil (run_seq ?_)
 refine run_region ?_
 refine r_build0 (Value.agg (enc8 .i64 (fun _ => 0)).toArray) bz188 rfl ?_
 refine r_alloc (z := Value.agg (enc8 .i64 (fun _ => 0)).toArray) (enc8 .i64 (fun _ => 0)).toArray ze188.zero rfl hS rfl ?_
 intro b7 w8 hS
 refine r_storeAll (v := Value.agg (enc8 .i64 (fun _ => 0)).toArray) (vs := (enc8 .i64 (fun _ => 0)).toArray) (cs := (enc8 .i64 (fun _ => 0)).toArray) ty188 rfl rfl rfl hS rfl (enc8_one .i64 (fun _ => 0)) rfl ?_
 intro c8 hS
 refine reg_nil (run_seq ?_)
 refine run_seq (run_region ?_)
 refine r_loadAll ty70 rfl (hS.get (mR (mR mL))) rfl rfl ?_
 refine r_move (vI 0) rfl rfl ?_
 refine reg_nil (run_block ?_)
 obtain ⟨b5, a5, b6⟩ := bind_some q0
 refine loop_ind (id := 0) (fun k f w => ∃ (a3 : Int) (a4 : A8) (H1 : FH), g_impl_powerOf_l0 K a0 k a3 a4 = some b5 ∧ Sub H H1 ∧ St H1 w ([(b7, .cells (enc8 .i64 a4).toArray 188)] ++ ([(b4, .cells (enc8 .i64 (fun _ => 0)).toArray 188)] ++ ([(b1, .cells (enc8 .u8 a0).toArray 70)] ++ L))) ∧ 0 ≤ a3 ∧ ev f (.tmp 2) = vP b4 ∧ ev f (.tmp 3) = vP b7 ∧ ev f (.tmp 7) = Value.agg (enc8 .u8 a0).toArray ∧ ev f (.tmp 8) = vI a3) (fun f w => ∃ (a1 : A8) (H1 : FH), b5 = .go a1 ∧ Sub H H1 ∧ St H1 w ([(b7, .cells (enc8 .i64 a1).toArray 188)] ++ ([(b4, .cells (enc8 .i64 (fun _ => 0)).toArray 188)] ++ ([(b1, .cells (enc8 .u8 a0).toArray 70)] ++ L))) ∧ ev f (.tmp 2) = vP b4 ∧ ev f (.tmp 3) = vP b7) rfl ?_ ?_ K ?_ ?_
 rintro f w ⟨a3, a4, H1, a5, _⟩
 rw [g_impl_powerOf_l0] at a5; cases a5
 rintro k c5 c6 c1 c2 ⟨a3, a4, b8, a5, hsub, hS, c3, a8, a7, a9, a6⟩
 rw [g_impl_powerOf_l0] at a5
 refine run_seq (run_region ?_)
 refine r_lss (k := .i64) (a := a3) (b := 8) (by exact a6) rfl rfl ?_
 refine reg_nil (run_seq ?_)
 by_cases b2 : a3 < 8
 rw [if_pos b2] at a5
 refine run_cond_true (Eq.trans rfl (congrArg Value.bool (decide_eq_true b2))) ?_
 refine run_skip (run_seq ?_)
 refine run_block (run_seq ?_)
 refine run_region ?_
 refine r_move (vI a3) (by exact a6) rfl ?_
 refine r_indexAr (Value.int .u8 (idx8 a0 a3)) ar70 (by exact a9) (by exact a6) (by omega) (by omega) (enc8_get (by omega) (by omega)) rfl ?_
 refine r_assign (vI a3) rfl rfl ?_
 refine r_assign (Value.int .u8 (idx8 a0 a3)) rfl rfl ?_
 refine reg_nil (run_region ?_)
 refine r_move (vI a3) rfl rfl ?_
 refine r_move (Value.int .u8 (idx8 a0 a3)) rfl rfl ?_
 refine r_conv (s := .u8) ((IntKind.i64.wrap (idx8 a0 a3))) co5_3 rfl rfl rfl ?_
 refine r_indexArP ar188 (by exact a7) rfl (by omega) (by omega) rfl ?_
 refine r_store (v := vI (IntKind.i64.wrap (idx8 a0 a3))) (cs := (enc8 .i64 a4).toArray) (cs' := (enc8 .i64 (upd8 a4 a3 (IntKind.i64.wrap (idx8 a0 a3)))).toArray) ty3 rfl rfl hS rfl (oneL rfl) (by simp [enc8, encV]; omega) (enc8_set (by omega) (by omega)) ?_
 intro c9 hS
 refine reg_nil (run_inBlock ?_)
 refine run_region ?_
 refine r_add (a3 + 1) (by exact a6) rfl (IntWalk.i64_in _ (by omega)) rfl ?_
 refine r_move (vI (a3 + 1)) rfl rfl ?_
 refine reg_nil ?_
 exact c1 _ _ ⟨(a3 + 1), (upd8 a4 a3 (IntKind.i64.wrap (idx8 a0 a3))), b8, a5, hsub, hS, (by omega), a8, a7, a9, rfl⟩
 rw [if_neg b2] at a5
 refine run_cond_false (Eq.trans rfl (congrArg Value.bool (decide_eq_false b2))) ?_
 refine run_exit rfl ?_
 have hz := Option.some.inj a5
 subst hz
 exact c2 _ _ ⟨a4, b8, rfl, hsub, hS, a8, a7⟩
 exact ⟨0, (fun _ => 0), H, a5, hsub, hS, (by omega), rfl, rfl, rfl, rfl⟩
 rintro c7 c0 ⟨a1, b9, rfl, hsub, hS, b0, b3⟩
 dsimp only [Ex.elim] at b6
 refine run_seq (run_region ?_)
 refine r_loadAll ty188 (by exact b3) (hS.get mL) rfl rfl ?_
 have hS : St b9 c0 ([(b4, .cells (enc8 .i64 (fun _ => 0)).toArray 188)] ++ ([(b7, .cells (enc8 .i64 a1).toArray 188)] ++ ([(b1, .cells (enc8 .u8 a0).toArray 70)] ++ L))) := hS.perm (perm1 (A1 := [(b7, .cells (enc8 .i64 a1).toArray 188)]))
 refine r_storeAll (v := Value.agg (enc8 .i64 a1).toArray) (vs := (enc8 .i64 a1).toArray) (cs := (enc8 .i64 (fun _ => 0)).toArray) ty188 (by exact b0) rfl rfl hS rfl (enc8_one .i64 a1) rfl ?_
 intro c4 hS
 have hS : St b9 c4 ([(b7, .cells (enc8 .i64 a1).toArray 188)] ++ ([(b4, .cells (enc8 .i64 a1).toArray 188)] ++ ([(b1, .cells (enc8 .u8 a0).toArray 70)] ++ L))) := hS.perm (perm1 (A1 := [(b7, .cells (enc8 .i64 a1).toArray 188)])).symm
 refine reg_nil ?_
 refine run_ret (vs := [Value.agg (enc8 .i64 a1).toArray]) Tryz.func176 ⟨⟨_, (by exact b0), run_loadAll ty188 (hS.get (mR mL)) rfl⟩, trivial⟩ ?_
 have hz := Option.some.inj b6
 subst hz
 exact ⟨_, _, rfl, hsub, (St.dropA (A := [(b1, .cells (enc8 .u8 a0).toArray 70)]) (St.dropA (A := [(b4, .cells (enc8 .i64 a1).toArray 188)]) (St.dropA (A := [(b7, .cells (enc8 .i64 a1).toArray 188)]) hS))), ⟨_, rfl, rfl⟩⟩
def g_impl_power_degree_l0 (K : Nat) (a0 : A8) (a1 : (List Int)) : Nat → Int → Int → Option (Ex Int (Int))
 | 0, _, _ => none
 | k + 1, a4, a3 => (if a3 < (a1.length : Int) then (if a3 < 8 then g_impl_power_degree_l0 K a0 a1 k (IntKind.i64.wrap (a4 + (IntKind.i64.wrap ((rd a1 a3) * (idx8 a0 a3))))) (a3 + 1) else none) else some (.go a4))
def g_impl_power_degree (K : Nat) (a0 : A8) (a1 : (List Int)) : Option Int := ((g_impl_power_degree_l0 K a0 a1 K 0 0).bind (Ex.elim (fun r => some r) (fun s => (fun (a7 : Int) => some a7) s)))
set_option maxRecDepth 100000 in
set_option maxHeartbeats 1000000 in
theorem g_impl_power_degree_ok {K : Nat} {a0 : A8} {a1 : (List Int)} {r : Int} (q0 : g_impl_power_degree K a0 a1 = some r) {H : FH} {w : World} {L : OL} {s0 : Value} (a8 : RdSl (tyInt .i64) H s0 a1) (hS : St H w L) :
 Calls Tryz.prog 223 #[Value.agg (enc8 .i64 a0).toArray, s0] w (Done (fun v G => (R.int .i64).p G v r) H L) := by
 have hsub := Sub.refl H
 refine calls_of_run Tryz.func223 rfl Tryz.ntmps223 rfl ?_
 unfold g_impl_power_degree at q0
 refine run_seq (run_region ?_)
 refine r_box (v := Value.agg (enc8 .i64 a0).toArray) (enc8 .i64 a0).toArray rfl rfl hS rfl ?_
 intro b1 w2 hS
 refine r_assign (vI 0) rfl rfl ?_
 refine reg_nil (run_seq ?_)
 refine run_region ?_
 refine r_assign (vI 0) rfl rfl ?_
 refine reg_nil (run_seq ?_)
 refine run_seq (run_region ?_)
 refine r_move (s0) rfl rfl ?_
 have d1 := a8.bound
 refine r_lenRd sl22 rfl a8 rfl ?_
 refine r_move (vI 0) rfl rfl ?_
 refine reg_nil (run_block ?_)
 obtain ⟨b7, a5, b8⟩ := bind_some q0
 refine loop_ind (id := 0) (fun k f w => ∃ (a4 : Int) (a3 : Int) (H1 : FH), g_impl_power_degree_l0 K a0 a1 k a4 a3 = some b7 ∧ Sub H H1 ∧ St H1 w ([(b1, .cells (enc8 .i64 a0).toArray 188)] ++ L) ∧ 0 ≤ a3 ∧ RdSl (tyInt .i64) H1 s0 a1 ∧ ev f (.tmp 2) = vP b1 ∧ ev f (.tmp 5) = vI a4 ∧ ev f (.tmp 8) = s0 ∧ ev f (.tmp 9) = vI (a1.length : Int) ∧ ev f (.tmp 10) = vI a3) (fun f w => ∃ (a7 : Int) (H1 : FH), b7 = .go a7 ∧ Sub H H1 ∧ St H1 w ([(b1, .cells (enc8 .i64 a0).toArray 188)] ++ L) ∧ ev f (.tmp 5) = vI a7) rfl ?_ ?_ K ?_ ?_
 rintro f w ⟨a4, a3, H1, a5, _⟩
 rw [g_impl_power_degree_l0] at a5; cases a5
 rintro k c6 c7 c1 c2 ⟨a4, a3, b9, a5, hsub, hS, c0, a8, a9, b0, b2, b3, a6⟩
 rw [g_impl_power_degree_l0] at a5
 refine run_seq (run_region ?_)
 refine r_lss (k := .i64) (a := a3) (b := (a1.length : Int)) (by exact a6) (by exact b3) rfl ?_
 refine reg_nil (run_seq ?_)
 by_cases b4 : a3 < (a1.length : Int)
 rw [if_pos b4] at a5
 refine run_cond_true (Eq.trans rfl (congrArg Value.bool (decide_eq_true b4))) ?_
 refine run_skip (run_seq ?_)
 refine run_block (run_seq ?_)
 refine run_region ?_
 refine r_move (vI a3) (by exact a6) rfl ?_
 obtain ⟨b6, o6, d2, E6, _, c3, c4, rfl, c5⟩ := a8.elem (i := a3) (by omega) (by omega)
 refine r_indexAt sl22 rfl (by exact b2) c3 (by exact a6) (by omega) (by omega) rfl ?_
 refine r_loadOne (vI (rd a1 a3)) ty2 rfl (hS.froz _ _ c4) (c5 0 (show 0 < 1 by decide)) rfl ?_
 refine r_assign (vI a3) rfl rfl ?_
 refine r_assign (vI (rd a1 a3)) rfl rfl ?_
 refine reg_nil (run_region ?_)
 refine r_move (vI a4) (by exact b0) rfl ?_
 refine r_move (vI (rd a1 a3)) rfl rfl ?_
 refine r_move (vI a3) rfl rfl ?_
 obtain ⟨d3, a5⟩ := gd a5
 refine r_indexArP ar188 (by exact a9) rfl (by omega) (by omega) rfl ?_
 refine r_loadOne (vI (idx8 a0 a3)) ty3 rfl (hS.get (o := .cells (enc8 .i64 a0).toArray 188) mL) (box_ix ([]) ([]) (by omega) (by omega)) rfl ?_
 refine r_mul (IntKind.i64.wrap ((rd a1 a3) * (idx8 a0 a3))) rfl rfl rfl rfl ?_
 refine r_add (IntKind.i64.wrap (a4 + (IntKind.i64.wrap ((rd a1 a3) * (idx8 a0 a3))))) rfl rfl rfl rfl ?_
 refine r_assign (vI (IntKind.i64.wrap (a4 + (IntKind.i64.wrap ((rd a1 a3) * (idx8 a0 a3)))))) rfl rfl ?_
 refine reg_nil (run_inBlock ?_)
 refine run_region ?_
 refine r_add (a3 + 1) (by exact a6) rfl (IntWalk.i64_in _ (by omega)) rfl ?_
 refine r_move (vI (a3 + 1)) rfl rfl ?_
 refine reg_nil ?_
 exact c1 _ _ ⟨(IntKind.i64.wrap (a4 + (IntKind.i64.wrap ((rd a1 a3) * (idx8 a0 a3))))), (a3 + 1), b9, a5, hsub, hS, (by omega), a8, a9, rfl, b2, b3, rfl⟩
 rw [if_neg b4] at a5
 refine run_cond_false (Eq.trans rfl (congrArg Value.bool (decide_eq_false b4))) ?_
 refine run_exit rfl ?_
 have hz := Option.some.inj a5
 subst hz
 exact c2 _ _ ⟨a4, b9, rfl, hsub, hS, b0⟩
 exact ⟨0, 0, H, a5, hsub, hS, (by omega), a8, rfl, rfl, rfl, rfl, rfl⟩
 rintro c8 c9 ⟨a7, d0, rfl, hsub, hS, b5⟩
 dsimp only [Ex.elim] at b8
 refine run_seq (run_region ?_)
 refine r_move (vI a7) (by exact b5) rfl ?_
 refine r_assign (vI a7) rfl rfl ?_
 refine reg_nil ?_
 refine run_ret (vs := [vI a7]) Tryz.func223 ⟨rfl, trivial⟩ ?_
 have hz := Option.some.inj b8
 subst hz
 exact ⟨_, _, rfl, hsub, (St.dropA (A := [(b1, .cells (enc8 .i64 a0).toArray 188)]) hS), rfl⟩
def g_slices_Index_Sint_int_l0 (K : Nat) (a0 : (List Int)) (a1 : Int) : Nat → Int → Option (Ex Int (Unit))
 | 0, _ => none
 | k + 1, a3 => (if a3 < (a0.length : Int) then (if a1 = (rd a0 a3) then some (.ret a3) else g_slices_Index_Sint_int_l0 K a0 a1 k (a3 + 1)) else some (.go ()))
def g_slices_Index_Sint_int (K : Nat) (a0 : (List Int)) (a1 : Int) : Option Int := ((g_slices_Index_Sint_int_l0 K a0 a1 K 0).bind (Ex.elim (fun r => some r) (fun s => some (-1))))
set_option maxRecDepth 100000 in
set_option maxHeartbeats 1000000 in
theorem g_slices_Index_Sint_int_ok {K : Nat} {a0 : (List Int)} {a1 : Int} {r : Int} (q0 : g_slices_Index_Sint_int K a0 a1 = some r) {H : FH} {w : World} {L : OL} {s0 : Value} (a6 : RdSl (tyInt .i64) H s0 a0) (hS : St H w L) :
 Calls Tryz.prog 252 #[s0, vI a1] w (Done (fun v G => (R.int .i64).p G v r) H L) := by
 have hsub := Sub.refl H
 refine calls_of_run Tryz.func252 rfl Tryz.ntmps252 rfl ?_
 unfold g_slices_Index_Sint_int at q0
 refine run_seq (run_region ?_)
 refine r_assign (vI 0) rfl rfl ?_
 refine reg_nil (run_seq ?_)
 refine run_seq (run_region ?_)
 refine r_move (s0) rfl rfl ?_
 have c7 := a6.bound
 refine r_lenRd sl105 rfl a6 rfl ?_
 refine r_move (vI 0) rfl rfl ?_
 refine reg_nil (run_block ?_)
 obtain ⟨b4, a4, b0⟩ := bind_some q0
 refine loop_ind (id := 0) (fun k f w => ∃ (a3 : Int) (H1 : FH), g_slices_Index_Sint_int_l0 K a0 a1 k a3 = some b4 ∧ Sub H H1 ∧ St H1 w (L) ∧ 0 ≤ a3 ∧ RdSl (tyInt .i64) H1 s0 a0 ∧ ev f (.tmp 0) = s0 ∧ ev f (.tmp 1) = vI a1 ∧ ev f (.tmp 7) = vI (a0.length : Int) ∧ ev f (.tmp 8) = vI a3) (fun f w => ∃ (H1 : FH), b4 = .go () ∧ Sub H H1 ∧ St H1 w (L)) rfl ?_ ?_ K ?_ ?_
 rintro f w ⟨a3, H1, a4, _⟩
 rw [g_slices_Index_Sint_int_l0] at a4; cases a4
 rintro k c2 c3 b6 b7 ⟨a3, b5, a4, hsub, hS, b8, a6, a7, a8, a9, a5⟩
 rw [g_slices_Index_Sint_int_l0] at a4
 refine run_seq (run_region ?_)
 refine r_lss (k := .i64) (a := a3) (b := (a0.length : Int)) (by exact a5) (by exact a9) rfl ?_
 refine reg_nil (run_seq ?_)
 by_cases b1 : a3 < (a0.length : Int)
 rw [if_pos b1] at a4
 refine run_cond_true (Eq.trans rfl (congrArg Value.bool (decide_eq_true b1))) ?_
 refine run_skip (run_seq ?_)
 refine run_block (run_seq ?_)
 refine run_region ?_
 refine r_move (vI a3) (by exact a5) rfl ?_
 refine r_assign (vI a3) rfl rfl ?_
 refine reg_nil (run_seq ?_)
 refine run_region ?_
 refine r_move (vI a1) (by exact a8) rfl ?_
 refine r_move (s0) (by exact a7) rfl ?_
 refine r_move (vI a3) rfl rfl ?_
 obtain ⟨b3, o3, c8, E3, _, b9, c0, rfl, c1⟩ := a6.elem (i := a3) (by omega) (by omega)
 refine r_indexAt sl105 rfl rfl b9 rfl (by omega) (by omega) rfl ?_
 refine r_loadOne (vI (rd a0 a3)) ty3 rfl (hS.froz _ _ c0) (c1 0 (show 0 < 1 by decide)) rfl ?_
 refine r_eql (k := .i64) (a := a1) (b := (rd a0 a3)) rfl rfl rfl ?_
 refine reg_nil ?_
 by_cases b2 : a1 = (rd a0 a3)
 rw [if_pos b2] at a4
 refine run_cond_true (Eq.trans rfl (congrArg Value.bool (decide_eq_true b2))) ?_
 refine run_seq (run_region ?_)
 refine r_move (vI a3) rfl rfl ?_
 refine r_assign (vI a3) rfl rfl ?_
 refine reg_nil ?_
 refine run_ret (vs := [vI a3]) Tryz.func252 ⟨rfl, trivial⟩ ?_
 have hz := Option.some.inj a4
 subst hz
 dsimp only [Ex.elim] at b0
 have hz := Option.some.inj b0
 subst hz
 exact ⟨_, _, rfl, hsub, hS, rfl⟩
 rw [if_neg b2] at a4
 refine run_cond_false (Eq.trans rfl (congrArg Value.bool (decide_eq_false b2))) ?_
 refine run_skip (run_inBlock ?_)
 refine run_region ?_
 refine r_add (a3 + 1) (by exact a5) rfl (IntWalk.i64_in _ (by omega)) rfl ?_
 refine r_move (vI (a3 + 1)) rfl rfl ?_
 refine reg_nil ?_
 exact b6 _ _ ⟨(a3 + 1), b5, a4, hsub, hS, (by omega), a6, a7, a8, a9, rfl⟩
 rw [if_neg b1] at a4
 refine run_cond_false (Eq.trans rfl (congrArg Value.bool (decide_eq_false b1))) ?_
 refine run_exit rfl ?_
 have hz := Option.some.inj a4
 subst hz
 exact b7 _ _ ⟨b5, rfl, hsub, hS⟩
 exact ⟨0, H, a4, hsub, hS, (by omega), a6, rfl, rfl, rfl, rfl⟩
 rintro c4 c5 ⟨c6, rfl, hsub, hS⟩
 dsimp only [Ex.elim] at b0
 refine run_seq (run_region ?_)
 refine r_assign (vI (-1)) rfl rfl ?_
 refine reg_nil ?_
 refine run_ret (vs := [vI (-1)]) Tryz.func252 ⟨rfl, trivial⟩ ?_
 have hz := Option.some.inj b0
 subst hz
 exact ⟨_, _, rfl, hsub, hS, rfl⟩
def g_spec_l01In (K : Nat) (a0 : Int) (a1 : Int) (a2 : Int) : Option Bool := (if a1 ≤ a0 then some (decide (a0 ≤ a2)) else some false)
set_option maxRecDepth 100000 in
set_option maxHeartbeats 1000000 in
theorem g_spec_l01In_ok {K : Nat} {a0 : Int} {a1 : Int} {a2 : Int} {r : Bool} (q0 : g_spec_l01In K a0 a1 a2 = some r) {H : FH} {w : World} {L : OL} (hS : St H w L) :
 Calls Tryz.prog 93 #[vI a0, vI a1, vI a2] w (Done (fun v G => R.bool.p G v r) H L) := by
 have hsub := Sub.refl H
 refine calls_of_run Tryz.func93 rfl Tryz.ntmps93 rfl ?_
 unfold g_spec_l01In at q0
 refine run_seq (run_region ?_)
 refine r_assign (Value.bool false) rfl rfl ?_
 refine reg_nil (run_seq ?_)
 refine run_region ?_
 refine r_move (vI a0) rfl rfl ?_
 refine r_move (vI a1) rfl rfl ?_
 refine r_geq (k := .i64) (a := a0) (b := a1) rfl rfl rfl ?_
 refine r_move (Value.bool (decide (a1 ≤ a0))) rfl rfl ?_
 by_cases a3 : a1 ≤ a0
 rw [if_pos a3] at q0
 refine reg_guard rfl rfl (Eq.trans rfl (congrArg Value.bool (decide_eq_true a3))) ?_
 refine r_move (vI a0) rfl rfl ?_
 refine reg_guard rfl rfl (Eq.trans rfl (congrArg Value.bool (decide_eq_true a3))) ?_
 refine r_move (vI a2) rfl rfl ?_
 refine reg_guard rfl rfl (Eq.trans rfl (congrArg Value.bool (decide_eq_true a3))) ?_
 refine r_leq (k := .i64) (a := a0) (b := a2) rfl rfl rfl ?_
 refine r_pick (t := true) (Value.bool (decide (a0 ≤ a2))) (Eq.trans rfl (congrArg Value.bool (decide_eq_true a3))) ((if_pos rfl).trans rfl) rfl ?_
 refine r_assign (Value.bool (decide (a0 ≤ a2))) rfl rfl ?_
 refine reg_nil ?_
 refine run_ret (vs := [Value.bool (decide (a0 ≤ a2))]) Tryz.func93 ⟨rfl, trivial⟩ ?_
 have hz := Option.some.inj q0
 subst hz
 exact ⟨_, _, rfl, hsub, hS, rfl⟩
 rw [if_neg a3] at q0
 refine reg_unguard rfl rfl (Eq.trans rfl (congrArg Value.bool (decide_eq_false a3))) rfl rfl rfl ?_
 refine reg_unguard rfl rfl (Eq.trans rfl (congrArg Value.bool (decide_eq_false a3))) rfl rfl rfl ?_
 refine reg_unguard rfl rfl (Eq.trans rfl (congrArg Value.bool (decide_eq_false a3))) rfl rfl rfl ?_
 refine r_pick (t := false) (Value.bool false) (Eq.trans rfl (congrArg Value.bool (decide_eq_false a3))) ((if_neg Bool.false_ne_true).trans rfl) rfl ?_
 refine r_assign (Value.bool false) rfl rfl ?_
 refine reg_nil ?_
 refine run_ret (vs := [Value.bool false]) Tryz.func93 ⟨rfl, trivial⟩ ?_
 have hz := Option.some.inj q0
 subst hz
 exact ⟨_, _, rfl, hsub, hS, rfl⟩
def g_spec_l01Mod (K : Nat) (a0 : Int) : Option Int := some (((IntKind.i64.wrap (((a0).tmod 10007) + 10007))).tmod 10007)
set_option maxRecDepth 100000 in
set_option maxHeartbeats 1000000 in
theorem g_spec_l01Mod_ok {K : Nat} {a0 : Int} {r : Int} (q0 : g_spec_l01Mod K a0 = some r) {H : FH} {w : World} {L : OL} (hS : St H w L) :
 Calls Tryz.prog 217 #[vI a0] w (Done (fun v G => (R.int .i64).p G v r) H L) := by
 have hsub := Sub.refl H
 refine calls_of_run Tryz.func217 rfl Tryz.ntmps217 rfl ?_
 unfold g_spec_l01Mod at q0
 refine run_seq (run_region ?_)
 refine r_assign (vI 0) rfl rfl ?_
 refine reg_nil (run_seq ?_)
 refine run_region ?_
 refine r_move (vI a0) rfl rfl ?_
 refine r_rem ((a0).tmod 10007) rfl rfl (by decide) rfl rfl ?_
 refine r_add (IntKind.i64.wrap (((a0).tmod 10007) + 10007)) rfl rfl rfl rfl ?_
 refine r_rem (((IntKind.i64.wrap (((a0).tmod 10007) + 10007))).tmod 10007) rfl rfl (by decide) rfl rfl ?_
 refine r_assign (vI (((IntKind.i64.wrap (((a0).tmod 10007) + 10007))).tmod 10007)) rfl rfl ?_
 refine reg_nil ?_
 refine run_ret (vs := [vI (((IntKind.i64.wrap (((a0).tmod 10007) + 10007))).tmod 10007)]) Tryz.func217 ⟨rfl, trivial⟩ ?_
 have hz := Option.some.inj q0
 subst hz
 exact ⟨_, _, rfl, hsub, hS, rfl⟩
end Go.Proofs.YtfodlhkoafhplaaGreat
