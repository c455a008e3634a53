/- Walks of functions: each computes its pure function, if that gives a value. -/
import Derived.Test.YtfodlhkoafhplaaGreatSTy
namespace Go.Proofs.YtfodlhkoafhplaaGreat
open Go
set_option linter.unusedSimpArgs false
set_option linter.unusedVariables false
set_option maxRecDepth 100000
set_option maxHeartbeats 1000000
def g_impl_power_times_l1 (K : Nat) (a0 : A8) (a1 : (List Int)) : Nat → Int → Int → Option (Ex (A8 × Int) (Int))
 | 0, _, _ => none
 | k + 1, b0, a5 => (if a5 < (a1.length : Int) then (if a5 < 8 then g_impl_power_times_l1 K a0 a1 k (IntKind.i64.wrap (b0 + (IntKind.i64.wrap ((((rd a1 a5)).tmod 2) * (idx8 a0 a5))))) (a5 + 1) else none) else some (.go b0))
def g_impl_power_times_j5 (K : Nat) (l6 : Int → Int → Option (Ex (A8 × Int) (Int))) (a0 : A8) (a1 : (List Int)) (a2 : A8) (a3 : Int) (a8 : Int) (b9 : Bool) : Option (Ex (A8 × Int) (Int)) := (if b9 = true then some (.ret ((fun _ => 0), 0)) else (if a3 < 8 then (if 0 < (idx8 a2 a3) then ((g_impl_power_times_l1 K a0 a1 K a8 (a3 + 1)).bind (Ex.elim (fun r => some (.ret r)) (fun s => (fun (d6 : Int) => l6 (a3 + 1) d6) s))) else l6 (a3 + 1) a8) else none))
def g_impl_power_times_l2 (K : Nat) (a2 : A8) : Nat → Int → A8 → Option (Ex (A8 × Int) (A8))
 | 0, _, _ => none
 | k + 1, a4, a6 => (if a4 < 8 then g_impl_power_times_l2 K a2 k (a4 + 1) (upd8 a6 a4 (IntKind.i64.wrap ((idx8 a6 a4) + (idx8 a2 a4)))) else some (.go a6))
def g_impl_power_times_l0 (K : Nat) (a0 : A8) (a1 : (List Int)) (a2 : A8) : Nat → Int → Int → Option (Ex (A8 × Int) (Int))
 | 0, _, _ => none
 | k + 1, a3, a8 => (if a3 < (a1.length : Int) then (if (((rd a1 a3)).tmod 2) = 0 then g_impl_power_times_l0 K a0 a1 a2 k (a3 + 1) a8 else (if a3 < 8 then (if 0 < (idx8 a0 a3) then g_impl_power_times_j5 K (g_impl_power_times_l0 K a0 a1 a2 k) a0 a1 a2 a3 a8 (decide (0 < (idx8 a2 a3))) else g_impl_power_times_j5 K (g_impl_power_times_l0 K a0 a1 a2 k) a0 a1 a2 a3 a8 false) else none)) else some (.go a8))
def g_impl_power_times (K : Nat) (a0 : A8) (a1 : (List Int)) (a2 : A8) : Option (A8 × Int) := ((g_impl_power_times_l0 K a0 a1 a2 K 0 0).bind (Ex.elim (fun r => some r) (fun s => (fun (c0 : Int) => ((g_impl_power_times_l2 K a2 K 0 a0).bind (Ex.elim (fun r => some r) (fun s => (fun (a7 : A8) => (if ((c0).tmod 2) = 1 then some (a7, (-1)) else some (a7, 1))) s)))) s)))
theorem g_impl_power_times_ok {K : Nat} {a0 : A8} {a1 : (List Int)} {a2 : A8} {r : (A8 × Int)} (q0 : g_impl_power_times K a0 a1 a2 = some r) {H : FH} {w : World} {L : OL} {s0 : Value} (b2 : RdSl (tyInt .i64) H s0 a1) (hS : St H w L) :
 Calls Tryz.prog 224 #[vA (enc8 .i64 a0), s0, vA (enc8 .i64 a2)] w (Done (fun v G => (R.t2 (R.agg (tyA8 .i64)) (R.int .i64)).p G v r) H L) := by
 have hsub := Sub.refl H
 refine calls_of_run Tryz.func224 rfl Tryz.ntmps224 rfl ?_
 unfold g_impl_power_times at q0
 refine run_seq (run_region ?_)
 refine r_box (v := vA (enc8 .i64 a0)) (enc8 .i64 a0).toArray rfl rfl hS rfl ?_
 intro b1 w2 hS
 refine r_box (v := vA (enc8 .i64 a2)) (enc8 .i64 a2).toArray rfl rfl hS rfl ?_
 intro b4 w5 hS
 refine r_alloc (z := vA (enc8 .i64 (fun _ => 0))) (enc8 .i64 (fun _ => 0)).toArray ze188.zero rfl hS rfl ?_
 intro b7 w8 hS
 refine r_assign (vI 0) rfl rfl (reg_nil (run_seq (run_region (r_assign (vI 0) rfl rfl (reg_nil (run_seq (run_seq (run_region (r_move (s0) rfl rfl ?_)))))))))
 have u8 := b2.bound
 refine r_lenRd sl22 rfl b2 rfl (r_move (vI 0) rfl rfl (reg_nil (run_block ?_)))
 obtain ⟨g9, a9, f7⟩ := bind_some q0
 refine loop_ind (id := 0) (fun k f w => ∃ (a3 : Int) (a8 : Int) (H1 : FH), g_impl_power_times_l0 K a0 a1 a2 k a3 a8 = some g9 ∧ Sub H H1 ∧ St H1 w ([(b7, cA (enc8 .i64 (fun _ => 0)) 188)] ++ ([(b4, cA (enc8 .i64 a2) 188)] ++ ([(b1, cA (enc8 .i64 a0) 188)] ++ L))) ∧ 0 ≤ a3 ∧ RdSl (tyInt .i64) H1 s0 a1 ∧ ev f (.tmp 1) = s0 ∧ ev f (.tmp 3) = vP b1 ∧ ev f (.tmp 5) = vP b4 ∧ ev f (.tmp 6) = vP b7 ∧ ev f (.tmp 8) = vI a8 ∧ ev f (.tmp 13) = s0 ∧ ev f (.tmp 14) = vI (a1.length : Int) ∧ ev f (.tmp 15) = vI a3) (fun f w => ∃ (c0 : Int) (H1 : FH), g9 = .go c0 ∧ Sub H H1 ∧ St H1 w ([(b7, cA (enc8 .i64 (fun _ => 0)) 188)] ++ ([(b4, cA (enc8 .i64 a2) 188)] ++ ([(b1, cA (enc8 .i64 a0) 188)] ++ L))) ∧ ev f (.tmp 3) = vP b1 ∧ ev f (.tmp 5) = vP b4 ∧ ev f (.tmp 6) = vP b7 ∧ ev f (.tmp 8) = vI c0) rfl ?_ ?_ K ?_ ?_
 rintro f w ⟨a3, a8, H1, a9, _⟩
 rw [g_impl_power_times_l0] at a9; cases a9
 rintro k u9 v0 j0 r1 ⟨a3, a8, f8, a9, hsub, hS, q8, b2, d7, c3, c4, c8, c9, c5, c6, b5⟩
 rw [g_impl_power_times_l0] at a9
 refine run_seq (run_region ?_)
 refine r_lss (k := .i64) (a := a3) (b := (a1.length : Int)) (by exact b5) (by exact c6) rfl (reg_nil (run_seq ?_))
 by_cases f9 : a3 < (a1.length : Int)
 rw [if_pos f9] at a9
 refine run_cond_true (Eq.trans rfl (congrArg Value.bool (decide_eq_true f9))) (run_skip (run_seq (run_block (run_seq (run_region (r_move (vI a3) (by exact b5) rfl ?_))))))
 obtain ⟨b12, o12, v1, E12, _, m2, m3, rfl, m4⟩ := b2.elem (i := a3) (by omega) (by omega)
 refine r_indexAt sl22 rfl (by exact c5) m2 (by exact b5) (by omega) (by omega) rfl ?_
 refine r_loadOne (vI (rd a1 a3)) ty2 rfl (hS.froz _ _ m3) (m4 0 (show 0 < 1 by decide)) rfl (r_assign (vI a3) rfl rfl (r_assign (vI (rd a1 a3)) rfl rfl (reg_nil (run_seq (run_seq (run_region (r_move (vI (rd a1 a3)) rfl rfl ?_)))))))
 refine r_rem (((rd a1 a3)).tmod 2) rfl rfl (by decide) rfl rfl ?_
 refine r_eql (k := .i64) (a := (((rd a1 a3)).tmod 2)) (b := 0) rfl rfl rfl (reg_nil ?_)
 by_cases g0 : (((rd a1 a3)).tmod 2) = 0
 rw [if_pos g0] at a9
 refine run_cond_true (Eq.trans rfl (congrArg Value.bool (decide_eq_true g0))) ?_
 refine run_exit rfl (run_region ?_)
 refine r_add (a3 + 1) (by exact b5) rfl (IntWalk.i64_in _ (by omega)) rfl (r_move (vI (a3 + 1)) rfl rfl (reg_nil ?_))
 exact j0 _ _ ⟨(a3 + 1), a8, f8, a9, hsub, hS, (by omega), b2, d7, c3, c4, c8, c9, c5, c6, rfl⟩
 rw [if_neg g0] at a9
 refine run_cond_false (Eq.trans rfl (congrArg Value.bool (decide_eq_false g0))) (run_skip (run_seq (run_seq ?_)))
 refine run_cut (fun f w => ∃ (b9 : Bool) (H1 : FH), g_impl_power_times_j5 K (g_impl_power_times_l0 K a0 a1 a2 k) a0 a1 a2 a3 a8 b9 = some g9 ∧ Sub H H1 ∧ St H1 w ([(b7, cA (enc8 .i64 (fun _ => 0)) 188)] ++ ([(b4, cA (enc8 .i64 a2) 188)] ++ ([(b1, cA (enc8 .i64 a0) 188)] ++ L))) ∧ RdSl (tyInt .i64) H1 s0 a1 ∧ ev f (.tmp 1) = s0 ∧ ev f (.tmp 3) = vP b1 ∧ ev f (.tmp 5) = vP b4 ∧ ev f (.tmp 6) = vP b7 ∧ ev f (.tmp 8) = vI a8 ∧ ev f (.tmp 9) = vI a3 ∧ ev f (.tmp 13) = s0 ∧ ev f (.tmp 14) = vI (a1.length : Int) ∧ ev f (.tmp 15) = vI a3 ∧ ev f (.tmp 32) = Value.bool b9) ?_ ?_
 rintro fj5 s4 ⟨b9, h4, b6, hsub, hS, b2, g5, g6, e1, d4, g7, g8, e6, e7, e8, e9⟩
 unfold g_impl_power_times_j5 at b6
 by_cases g1 : b9 = true
 rw [if_pos g1] at b6
 refine run_cond_true (Eq.trans (by exact e9) (congrArg Value.bool g1)) (run_seq (run_region ?_))
 refine r_build0 (vA (enc8 .i64 (fun _ => 0))) bz188 rfl ?_
 refine r_storeAll (v := vA (enc8 .i64 (fun _ => 0))) (vs := (enc8 .i64 (fun _ => 0)).toArray) (cs := (enc8 .i64 (fun _ => 0)).toArray) ty188 (by exact d4) rfl rfl hS rfl (enc8_one .i64 (fun _ => 0)) rfl ?_
 intro w15 hS
 refine r_assign (vI 0) rfl rfl (reg_nil ?_)
 refine run_ret (vs := [vA (enc8 .i64 (fun _ => 0)), vI 0]) Tryz.func224 ⟨⟨_, (by exact d4), run_loadAll ty188 (hS.get mL) rfl⟩, rfl, trivial⟩ ?_
 have hz := Option.some.inj b6
 subst hz
 dsimp only [Ex.elim] at f7
 have hz := Option.some.inj f7
 subst hz
 exact ⟨_, _, rfl, hsub, (St.dropA (A := [(b1, cA (enc8 .i64 a0) 188)]) (St.dropA (A := [(b4, cA (enc8 .i64 a2) 188)]) (St.dropA (A := [(b7, cA (enc8 .i64 (fun _ => 0)) 188)]) hS))), ⟨_, _, rfl, ⟨_, rfl, rfl⟩, rfl⟩⟩
 rw [if_neg g1] at b6
 refine run_cond_false (Eq.trans (by exact e9) (congrArg Value.bool (bfalse g1))) (run_skip (run_seq (run_region (r_move (vI a3) (by exact g8) rfl ?_))))
 obtain ⟨v2, b6⟩ := gd b6
 refine r_indexArP ar188 (by exact e1) rfl (by omega) (by omega) rfl ?_
 refine r_loadOne (vI (idx8 a2 a3)) ty3 rfl (hS.get (o := cA (enc8 .i64 a2) 188) (mR mL)) (box_ix ([]) ([]) (by omega) (by omega)) rfl ?_
 refine r_gtr (k := .i64) (a := (idx8 a2 a3)) (b := 0) rfl rfl rfl (reg_nil ?_)
 by_cases g2 : 0 < (idx8 a2 a3)
 rw [if_pos g2] at b6
 refine run_cond_true (Eq.trans rfl (congrArg Value.bool (decide_eq_true g2))) (run_seq (run_region (r_move (vI a3) (by exact g8) rfl ?_)))
 refine r_add (a3 + 1) rfl rfl (IntWalk.i64_in _ (by omega)) rfl (r_assign (vI (a3 + 1)) rfl rfl (reg_nil (run_block ?_)))
 obtain ⟨j1, b8, j2⟩ := bind_some b6
 refine loop_ind (id := 2) (fun k f w => ∃ (b0 : Int) (a5 : Int) (H1 : FH), g_impl_power_times_l1 K a0 a1 k b0 a5 = some j1 ∧ Sub H H1 ∧ St H1 w ([(b7, cA (enc8 .i64 (fun _ => 0)) 188)] ++ ([(b4, cA (enc8 .i64 a2) 188)] ++ ([(b1, cA (enc8 .i64 a0) 188)] ++ L))) ∧ 0 ≤ a5 ∧ RdSl (tyInt .i64) H1 s0 a1 ∧ ev f (.tmp 1) = s0 ∧ ev f (.tmp 3) = vP b1 ∧ ev f (.tmp 5) = vP b4 ∧ ev f (.tmp 6) = vP b7 ∧ ev f (.tmp 8) = vI b0 ∧ ev f (.tmp 11) = vI a5 ∧ ev f (.tmp 13) = s0 ∧ ev f (.tmp 14) = vI (a1.length : Int) ∧ ev f (.tmp 15) = vI a3) (fun f w => ∃ (d6 : Int) (H1 : FH), j1 = .go d6 ∧ Sub H H1 ∧ St H1 w ([(b7, cA (enc8 .i64 (fun _ => 0)) 188)] ++ ([(b4, cA (enc8 .i64 a2) 188)] ++ ([(b1, cA (enc8 .i64 a0) 188)] ++ L))) ∧ RdSl (tyInt .i64) H1 s0 a1 ∧ ev f (.tmp 1) = s0 ∧ ev f (.tmp 3) = vP b1 ∧ ev f (.tmp 5) = vP b4 ∧ ev f (.tmp 6) = vP b7 ∧ ev f (.tmp 8) = vI d6 ∧ ev f (.tmp 13) = s0 ∧ ev f (.tmp 14) = vI (a1.length : Int) ∧ ev f (.tmp 15) = vI a3) rfl ?_ ?_ K ?_ ?_
 rintro f w ⟨b0, a5, H1, b8, _⟩
 rw [g_impl_power_times_l1] at b8; cases b8
 rintro k v3 v4 r2 r3 ⟨b0, a5, m5, b8, hsub, hS, q9, b2, d0, d8, f0, f1, f2, c7, e2, e3, e4⟩
 rw [g_impl_power_times_l1] at b8
 refine run_seq (run_seq (run_region (r_move (vI a5) (by exact c7) rfl (r_move (s0) (by exact d0) rfl ?_))))
 have v5 := b2.bound
 refine r_lenRd sl22 rfl b2 rfl ?_
 refine r_lss (k := .i64) (a := a5) (b := (a1.length : Int)) rfl rfl rfl (reg_nil ?_)
 by_cases g3 : a5 < (a1.length : Int)
 rw [if_pos g3] at b8
 refine run_cond_true (Eq.trans rfl (congrArg Value.bool (decide_eq_true g3))) (run_skip (run_seq (run_block ?_)))
 obtain ⟨l7, l9, v6, E57, _, m6, h0, rfl, m7⟩ := b2.elem (i := a5) (by omega) (by omega)
 obtain ⟨v7, b8⟩ := gd b8
 refine run_draw 11 (tabL [(46, MP.eq (vI b0)), (47, MP.eq (s0)), (48, MP.eq (vI a5)), (49, MP.eq (Value.pointer (some ⟨l7, l9, none⟩))), (50, MP.eq (vI (rd a1 a5))), (51, MP.eq (vI (((rd a1 a5)).tmod 2))), (52, MP.eq (vI a5)), (53, MP.eq (Value.pointer (some ⟨b1, 0 + (a5).toNat * 1, none⟩))), (54, MP.eq (vI (idx8 a0 a5))), (55, MP.eq (vI (IntKind.i64.wrap ((((rd a1 a5)).tmod 2) * (idx8 a0 a5))))), (56, MP.eq (vI (IntKind.i64.wrap (b0 + (IntKind.i64.wrap ((((rd a1 a5)).tmod 2) * (idx8 a0 a5)))))))]) [] mixed rfl rfl rfl hS (hop_q rfl ?_ (hop_q rfl ?_ (hop_q rfl ?_ (hop_q rfl ?_ (hop_q rfl ?_ (hop_q rfl ?_ (hop_q rfl ?_ (hop_q rfl ?_ (hop_q rfl ?_ (hop_q rfl ?_ (hop_q rfl ?_ hop_nil))))))))))) ?_
 intro f20 w21 H22 X23 v8 hS m8 v9 hcq
 refine r_move (vI b0) (evT (m8 8 rfl) f2) rfl ?_
 exact qn (.refl _) rfl hS rfl
 intro f29 w30 H31 X32 w0 hS m9 w1 hcq
 refine r_move (s0) (evT (m9 1 rfl) d0) rfl ?_
 exact qn (.refl _) rfl hS rfl
 intro f38 w39 H40 X41 w3 hS n0 w4 hcq
 refine r_move (vI a5) (evT (n0 11 rfl) c7) rfl ?_
 exact qn (.refl _) rfl hS rfl
 intro m0 w48 H49 X50 w6 hS w7 j3 hcq
 have r4 : ev m0 (.tmp 47) = s0 := j3 1 47 rfl rfl
 have r5 : ev m0 (.tmp 48) = vI a5 := j3 2 48 rfl rfl
 refine r_indexAt sl22 rfl r4 m6 r5 (by omega) (by omega) rfl ?_
 exact qn (.refl _) rfl hS rfl
 intro r6 w59 H60 X61 n1 hS w9 n2 hcq
 have h0 := n1.1 _ _ h0
 have r7 : ev r6 (.tmp 49) = Value.pointer (some ⟨l7, l9, none⟩) := n2 3 49 rfl rfl
 refine r_loadOne (vI (rd a1 a5)) ty2 r7 (hS.froz _ _ h0) (m7 0 (show 0 < 1 by decide)) rfl ?_
 exact qn (.refl _) rfl hS rfl
 intro r8 w68 H69 X70 x0 hS x1 n3 hcq
 have r9 : ev r8 (.tmp 50) = vI (rd a1 a5) := n3 4 50 rfl rfl
 refine r_rem (((rd a1 a5)).tmod 2) r9 rfl (by decide) rfl rfl ?_
 exact qn (.refl _) rfl hS rfl
 intro f76 w77 H78 X79 x2 hS n4 x3 hcq
 refine r_move (vI a5) (evT (n4 11 rfl) c7) rfl ?_
 exact qn (.refl _) rfl hS rfl
 intro s1 w97 H98 X99 s5 hS k1 k2 hcq
 have n5 : ev s1 (.tmp 52) = vI a5 := k2 6 52 rfl rfl
 refine r_indexArP ar188 (evT (k1 3 rfl) d8) n5 (by omega) (by omega) rfl ?_
 exact qn (.refl _) rfl hS rfl
 intro n6 x4 x5 x6 s6 hS s7 k3 hcq
 have n7 : ev n6 (.tmp 53) = Value.pointer (some ⟨b1, 0 + (a5).toNat * 1, none⟩) := k3 7 53 rfl rfl
 refine r_loadOne (vI (idx8 a0 a5)) ty3 n7 (hS.get (o := cA (enc8 .i64 a0) 188) (mR (mR (mR mL)))) (box_ix ([]) ([]) (by omega) (by omega)) rfl ?_
 exact qn (.refl _) rfl hS rfl
 intro j4 x7 x8 x9 s8 hS s9 h5 hcq
 have n8 : ev j4 (.tmp 51) = vI (((rd a1 a5)).tmod 2) := h5 5 51 rfl rfl
 have n9 : ev j4 (.tmp 54) = vI (idx8 a0 a5) := h5 8 54 rfl rfl
 refine r_mul (IntKind.i64.wrap ((((rd a1 a5)).tmod 2) * (idx8 a0 a5))) n8 n9 rfl rfl ?_
 exact qn (.refl _) rfl hS rfl
 intro j5 y0 y1 y2 t0 hS t1 h6 hcq
 have o0 : ev j5 (.tmp 46) = vI b0 := h6 0 46 rfl rfl
 have o1 : ev j5 (.tmp 55) = vI (IntKind.i64.wrap ((((rd a1 a5)).tmod 2) * (idx8 a0 a5))) := h6 9 55 rfl rfl
 refine r_add (IntKind.i64.wrap (b0 + (IntKind.i64.wrap ((((rd a1 a5)).tmod 2) * (idx8 a0 a5))))) o0 o1 rfl rfl ?_
 exact qn (.refl _) rfl hS rfl
 intro o2 o3 j6 h7 hS c1 k4 hcq
 have hS : St j6 o3 ([(b7, cA (enc8 .i64 (fun _ => 0)) 188)] ++ ([(b4, cA (enc8 .i64 a2) 188)] ++ ([(b1, cA (enc8 .i64 a0) 188)] ++ L))) := hS
 have hsub := hsub.trans h7
 have b2 := b2.mono h7
 have o4 : ev o2 (.tmp 56) = vI (IntKind.i64.wrap (b0 + (IntKind.i64.wrap ((((rd a1 a5)).tmod 2) * (idx8 a0 a5))))) := k4 10 56 (by decide) rfl
 refine r_assign (vI (IntKind.i64.wrap (b0 + (IntKind.i64.wrap ((((rd a1 a5)).tmod 2) * (idx8 a0 a5)))))) (by exact o4) rfl (reg_nil (run_inBlock (run_region (r_move (vI a5) (by exact (evT (c1 11 rfl) c7)) rfl ?_))))
 refine r_add (a5 + 1) rfl rfl (IntWalk.i64_in _ (by omega)) rfl (r_assign (vI (a5 + 1)) rfl rfl (reg_nil ?_))
 exact r2 _ _ ⟨(IntKind.i64.wrap (b0 + (IntKind.i64.wrap ((((rd a1 a5)).tmod 2) * (idx8 a0 a5))))), (a5 + 1), j6, b8, hsub, hS, (by omega), b2, (evT (c1 1 rfl) d0), (evT (c1 3 rfl) d8), (evT (c1 5 rfl) f0), (evT (c1 6 rfl) f1), rfl, rfl, (evT (c1 13 rfl) e2), (evT (c1 14 rfl) e3), (evT (c1 15 rfl) e4)⟩
 rw [if_neg g3] at b8
 refine run_cond_false (Eq.trans rfl (congrArg Value.bool (decide_eq_false g3))) ?_
 refine run_exit rfl ?_
 have hz := Option.some.inj b8
 subst hz
 exact r3 _ _ ⟨b0, m5, rfl, hsub, hS, b2, d0, d8, f0, f1, f2, e2, e3, e4⟩
 exact ⟨a8, (a3 + 1), h4, b8, hsub, hS, (by omega), b2, g5, g6, e1, d4, g7, rfl, e6, e7, e8⟩
 rintro y3 y4 ⟨d6, o5, rfl, hsub, hS, b2, i0, i1, i2, i3, i4, h1, h2, h3⟩
 dsimp only [Ex.elim] at j2
 refine run_inBlock (run_region ?_)
 refine r_add (a3 + 1) (by exact h3) rfl (IntWalk.i64_in _ (by omega)) rfl (r_move (vI (a3 + 1)) rfl rfl (reg_nil ?_))
 exact j0 _ _ ⟨(a3 + 1), d6, o5, j2, hsub, hS, (by omega), b2, i0, i1, i2, i3, i4, h1, h2, rfl⟩
 rw [if_neg g2] at b6
 refine run_cond_false (Eq.trans rfl (congrArg Value.bool (decide_eq_false g2))) (run_skip (run_inBlock (run_region ?_)))
 refine r_add (a3 + 1) (by exact e8) rfl (IntWalk.i64_in _ (by omega)) rfl (r_move (vI (a3 + 1)) rfl rfl (reg_nil ?_))
 exact j0 _ _ ⟨(a3 + 1), a8, h4, b6, hsub, hS, (by omega), b2, g5, g6, e1, d4, g7, e6, e7, rfl⟩
 intro m1
 refine run_region (r_move (vI a3) rfl rfl ?_)
 obtain ⟨t4, a9⟩ := gd a9
 refine r_indexArP ar188 (by exact c3) rfl (by omega) (by omega) rfl ?_
 refine r_loadOne (vI (idx8 a0 a3)) ty3 rfl (hS.get (o := cA (enc8 .i64 a0) 188) (mR (mR mL))) (box_ix ([]) ([]) (by omega) (by omega)) rfl ?_
 refine r_gtr (k := .i64) (a := (idx8 a0 a3)) (b := 0) rfl rfl rfl (r_move (Value.bool (decide (0 < (idx8 a0 a3)))) rfl rfl ?_)
 by_cases b3 : 0 < (idx8 a0 a3)
 rw [if_pos b3] at a9
 refine reg_guard rfl rfl (Eq.trans rfl (congrArg Value.bool (decide_eq_true b3))) (r_move (vI a3) rfl rfl ?_)
 refine reg_guard rfl rfl (Eq.trans rfl (congrArg Value.bool (decide_eq_true b3))) ?_
 refine r_indexArP ar188 (by exact c4) rfl (by omega) (by omega) rfl ?_
 refine reg_guard rfl rfl (Eq.trans rfl (congrArg Value.bool (decide_eq_true b3))) ?_
 refine r_loadOne (vI (idx8 a2 a3)) ty3 rfl (hS.get (o := cA (enc8 .i64 a2) 188) (mR mL)) (box_ix ([]) ([]) (by omega) (by omega)) rfl ?_
 refine reg_guard rfl rfl (Eq.trans rfl (congrArg Value.bool (decide_eq_true b3))) ?_
 refine r_gtr (k := .i64) (a := (idx8 a2 a3)) (b := 0) rfl rfl rfl ?_
 refine r_pick (t := true) (Value.bool (decide (0 < (idx8 a2 a3)))) (Eq.trans rfl (congrArg Value.bool (decide_eq_true b3))) ((if_pos rfl).trans rfl) rfl (reg_nil ?_)
 exact m1 _ _ ⟨(decide (0 < (idx8 a2 a3))), f8, a9, hsub, hS, b2, d7, c3, c4, c8, c9, rfl, c5, c6, b5, rfl⟩
 rw [if_neg b3] at a9
 refine reg_unguard rfl rfl (Eq.trans rfl (congrArg Value.bool (decide_eq_false b3))) rfl rfl rfl (reg_unguard rfl rfl (Eq.trans rfl (congrArg Value.bool (decide_eq_false b3))) rfl rfl rfl (reg_unguard rfl rfl (Eq.trans rfl (congrArg Value.bool (decide_eq_false b3))) rfl rfl rfl (reg_unguard rfl rfl (Eq.trans rfl (congrArg Value.bool (decide_eq_false b3))) rfl rfl rfl ?_)))
 refine r_pick (t := false) (Value.bool false) (Eq.trans rfl (congrArg Value.bool (decide_eq_false b3))) ((if_neg Bool.false_ne_true).trans rfl) rfl (reg_nil ?_)
 exact m1 _ _ ⟨false, f8, a9, hsub, hS, b2, d7, c3, c4, c8, c9, rfl, c5, c6, b5, rfl⟩
 rw [if_neg f9] at a9
 refine run_cond_false (Eq.trans rfl (congrArg Value.bool (decide_eq_false f9))) ?_
 refine run_exit rfl ?_
 have hz := Option.some.inj a9
 subst hz
 exact r1 _ _ ⟨a8, f8, rfl, hsub, hS, c3, c4, c8, c9⟩
 exact ⟨0, 0, H, a9, hsub, hS, (by omega), b2, rfl, rfl, rfl, rfl, rfl, rfl, rfl, rfl⟩
 rintro y5 y6 ⟨c0, o6, rfl, hsub, hS, i5, i6, i7, i8⟩
 dsimp only [Ex.elim] at f7
 refine run_seq (run_seq (run_region (r_move (vI 0) rfl rfl (reg_nil (run_block ?_)))))
 obtain ⟨j7, c2, e5⟩ := bind_some f7
 refine loop_ind (id := 4) (fun k f w => ∃ (a4 : Int) (a6 : A8) (H1 : FH), g_impl_power_times_l2 K a2 k a4 a6 = some j7 ∧ Sub H H1 ∧ St H1 w ([(b7, cA (enc8 .i64 (fun _ => 0)) 188)] ++ ([(b4, cA (enc8 .i64 a2) 188)] ++ ([(b1, cA (enc8 .i64 a6) 188)] ++ L))) ∧ 0 ≤ a4 ∧ ev f (.tmp 3) = vP b1 ∧ ev f (.tmp 5) = vP b4 ∧ ev f (.tmp 6) = vP b7 ∧ ev f (.tmp 8) = vI c0 ∧ ev f (.tmp 58) = vI a4) (fun f w => ∃ (a7 : A8) (H1 : FH), j7 = .go a7 ∧ Sub H H1 ∧ St H1 w ([(b7, cA (enc8 .i64 (fun _ => 0)) 188)] ++ ([(b4, cA (enc8 .i64 a2) 188)] ++ ([(b1, cA (enc8 .i64 a7) 188)] ++ L))) ∧ ev f (.tmp 3) = vP b1 ∧ ev f (.tmp 6) = vP b7 ∧ ev f (.tmp 8) = vI c0) rfl ?_ ?_ K ?_ ?_
 rintro f w ⟨a4, a6, H1, c2, _⟩
 rw [g_impl_power_times_l2] at c2; cases c2
 rintro k y7 y8 s2 s3 ⟨a4, a6, o7, c2, hsub, hS, r0, d1, f3, f4, f5, d3⟩
 rw [g_impl_power_times_l2] at c2
 refine run_seq (run_region ?_)
 refine r_lss (k := .i64) (a := a4) (b := 8) (by exact d3) rfl rfl (reg_nil (run_seq ?_))
 by_cases d9 : a4 < 8
 rw [if_pos d9] at c2
 refine run_cond_true (Eq.trans rfl (congrArg Value.bool (decide_eq_true d9))) (run_skip (run_seq (run_block (run_seq (run_region (r_move (vI a4) (by exact d3) rfl (r_assign (vI a4) rfl rfl (reg_nil ?_))))))))
 refine run_draw 8 (tabL [(61, MP.eq (vI a4)), (62, MP.eq (Value.pointer (some ⟨b1, 0 + (a4).toNat * 1, none⟩))), (63, MP.eq (vI (idx8 a6 a4))), (64, MP.eq (vI a4)), (65, MP.eq (Value.pointer (some ⟨b4, 0 + (a4).toNat * 1, none⟩))), (66, MP.eq (vI (idx8 a2 a4))), (67, MP.eq (vI (IntKind.i64.wrap ((idx8 a6 a4) + (idx8 a2 a4))))), (68, MP.eq (Value.pointer (some ⟨b1, 0 + (a4).toNat * 1, none⟩)))]) [] mixed rfl rfl rfl hS (hop_q rfl ?_ (hop_q rfl ?_ (hop_q rfl ?_ (hop_q rfl ?_ (hop_q rfl ?_ (hop_q rfl ?_ (hop_q rfl ?_ (hop_q rfl ?_ hop_nil)))))))) ?_
 intro o8 y9 z0 z1 t5 hS k5 t6 hcq
 have o9 : ev o8 (.tmp 12) = vI a4 := Eq.trans (k5 12 rfl) rfl
 refine r_move (vI a4) o9 rfl ?_
 exact qn (.refl _) rfl hS rfl
 intro p0 z2 z3 z4 t7 hS k6 k7 hcq
 have p1 : ev p0 (.tmp 61) = vI a4 := k7 0 61 rfl rfl
 refine r_indexArP ar188 (evT (k6 3 rfl) d1) p1 (by omega) (by omega) rfl ?_
 exact qn (.refl _) rfl hS rfl
 intro p2 z5 z6 z7 t8 hS t9 k8 hcq
 have p3 : ev p2 (.tmp 62) = Value.pointer (some ⟨b1, 0 + (a4).toNat * 1, none⟩) := k8 1 62 rfl rfl
 refine r_loadOne (vI (idx8 a6 a4)) ty3 p3 (hS.get (o := cA (enc8 .i64 a6) 188) (mR (mR (mR mL)))) (box_ix ([]) ([]) (by omega) (by omega)) rfl ?_
 exact qn (.refl _) rfl hS rfl
 intro p4 z8 z9 a00 u0 hS k9 u1 hcq
 have p5 : ev p4 (.tmp 12) = vI a4 := Eq.trans (k9 12 rfl) rfl
 refine r_move (vI a4) p5 rfl ?_
 exact qn (.refl _) rfl hS rfl
 intro p6 a01 a02 a03 u2 hS l0 l1 hcq
 have p7 : ev p6 (.tmp 64) = vI a4 := l1 3 64 rfl rfl
 refine r_indexArP ar188 (evT (l0 5 rfl) f3) p7 (by omega) (by omega) rfl ?_
 exact qn (.refl _) rfl hS rfl
 intro p8 a04 a05 a06 u3 hS u4 l2 hcq
 have p9 : ev p8 (.tmp 65) = Value.pointer (some ⟨b4, 0 + (a4).toNat * 1, none⟩) := l2 4 65 rfl rfl
 refine r_loadOne (vI (idx8 a2 a4)) ty3 p9 (hS.get (o := cA (enc8 .i64 a2) 188) (mR (mR mL))) (box_ix ([]) ([]) (by omega) (by omega)) rfl ?_
 exact qn (.refl _) rfl hS rfl
 intro j8 a07 a08 a09 u5 hS u6 h8 hcq
 have q1 : ev j8 (.tmp 63) = vI (idx8 a6 a4) := h8 2 63 rfl rfl
 have q2 : ev j8 (.tmp 66) = vI (idx8 a2 a4) := h8 5 66 rfl rfl
 refine r_add (IntKind.i64.wrap ((idx8 a6 a4) + (idx8 a2 a4))) q1 q2 rfl rfl ?_
 exact qn (.refl _) rfl hS rfl
 intro q3 a10 a11 a12 u7 hS l3 l4 hcq
 have q4 : ev q3 (.tmp 61) = vI a4 := l4 0 61 rfl rfl
 refine r_indexArP ar188 (evT (l3 3 rfl) d1) q4 (by omega) (by omega) rfl ?_
 exact qn (.refl _) rfl hS rfl
 intro j9 k0 g4 l5 hS d5 h9 hcq
 have hS : St g4 k0 ([(b7, cA (enc8 .i64 (fun _ => 0)) 188)] ++ ([(b4, cA (enc8 .i64 a2) 188)] ++ ([(b1, cA (enc8 .i64 a6) 188)] ++ L))) := hS
 have hsub := hsub.trans l5
 have q5 : ev j9 (.tmp 67) = vI (IntKind.i64.wrap ((idx8 a6 a4) + (idx8 a2 a4))) := h9 6 67 (by decide) rfl
 have q6 : ev j9 (.tmp 68) = Value.pointer (some ⟨b1, 0 + (a4).toNat * 1, none⟩) := h9 7 68 (by decide) rfl
 have hS : St g4 k0 ([(b1, cA (enc8 .i64 a6) 188)] ++ ([(b7, cA (enc8 .i64 (fun _ => 0)) 188)] ++ ([(b4, cA (enc8 .i64 a2) 188)] ++ L))) := hS.perm (perm2 (A1 := [(b7, cA (enc8 .i64 (fun _ => 0)) 188)]) (A2 := [(b4, cA (enc8 .i64 a2) 188)]))
 refine r_store (v := vI (IntKind.i64.wrap ((idx8 a6 a4) + (idx8 a2 a4)))) (cs := (enc8 .i64 a6).toArray) (cs' := (enc8 .i64 (upd8 a6 a4 (IntKind.i64.wrap ((idx8 a6 a4) + (idx8 a2 a4))))).toArray) ty3 (by exact q6) (by exact q5) hS rfl (oneL rfl) (by simp [enc8, encV]; omega) (enc8_set (by omega) (by omega)) ?_
 intro q7 hS
 have hS : St g4 q7 ([(b7, cA (enc8 .i64 (fun _ => 0)) 188)] ++ ([(b4, cA (enc8 .i64 a2) 188)] ++ ([(b1, cA (enc8 .i64 (upd8 a6 a4 (IntKind.i64.wrap ((idx8 a6 a4) + (idx8 a2 a4))))) 188)] ++ L))) := hS.perm (perm2 (A1 := [(b7, cA (enc8 .i64 (fun _ => 0)) 188)]) (A2 := [(b4, cA (enc8 .i64 a2) 188)])).symm
 refine reg_nil (run_inBlock (run_region ?_))
 refine r_add (a4 + 1) (by exact (evT (d5 58 rfl) d3)) rfl (IntWalk.i64_in _ (by omega)) rfl (r_move (vI (a4 + 1)) rfl rfl (reg_nil ?_))
 exact s2 _ _ ⟨(a4 + 1), (upd8 a6 a4 (IntKind.i64.wrap ((idx8 a6 a4) + (idx8 a2 a4)))), g4, c2, hsub, hS, (by omega), (evT (d5 3 rfl) d1), (evT (d5 5 rfl) f3), (evT (d5 6 rfl) f4), (evT (d5 8 rfl) f5), rfl⟩
 rw [if_neg d9] at c2
 refine run_cond_false (Eq.trans rfl (congrArg Value.bool (decide_eq_false d9))) ?_
 refine run_exit rfl ?_
 have hz := Option.some.inj c2
 subst hz
 exact s3 _ _ ⟨a6, o7, rfl, hsub, hS, d1, f4, f5⟩
 exact ⟨0, a0, o6, c2, hsub, hS, (by omega), i5, i6, i7, i8, rfl⟩
 rintro a13 a14 ⟨a7, a15, rfl, hsub, hS, f6, d2, i9⟩
 dsimp only [Ex.elim] at e5
 refine run_seq (run_seq (run_region (r_move (vI c0) (by exact i9) rfl ?_)))
 refine r_rem ((c0).tmod 2) rfl rfl (by decide) rfl rfl ?_
 refine r_eql (k := .i64) (a := ((c0).tmod 2)) (b := 1) rfl rfl rfl (reg_nil ?_)
 by_cases e0 : ((c0).tmod 2) = 1
 rw [if_pos e0] at e5
 refine run_cond_true (Eq.trans rfl (congrArg Value.bool (decide_eq_true e0))) (run_seq (run_region ?_))
 refine r_loadAll ty188 (by exact f6) (hS.get (mR (mR mL))) rfl rfl ?_
 refine r_storeAll (v := vA (enc8 .i64 a7)) (vs := (enc8 .i64 a7).toArray) (cs := (enc8 .i64 (fun _ => 0)).toArray) ty188 (by exact d2) rfl rfl hS rfl (enc8_one .i64 a7) rfl ?_
 intro a16 hS
 refine r_assign (vI (-1)) rfl rfl (reg_nil ?_)
 refine run_ret (vs := [vA (enc8 .i64 a7), vI (-1)]) Tryz.func224 ⟨⟨_, (by exact d2), run_loadAll ty188 (hS.get mL) rfl⟩, rfl, trivial⟩ ?_
 have hz := Option.some.inj e5
 subst hz
 exact ⟨_, _, rfl, hsub, (St.dropA (A := [(b1, cA (enc8 .i64 a7) 188)]) (St.dropA (A := [(b4, cA (enc8 .i64 a2) 188)]) (St.dropA (A := [(b7, cA (enc8 .i64 a7) 188)]) hS))), ⟨_, _, rfl, ⟨_, rfl, rfl⟩, rfl⟩⟩
 rw [if_neg e0] at e5
 refine run_cond_false (Eq.trans rfl (congrArg Value.bool (decide_eq_false e0))) (run_skip (run_seq (run_region ?_)))
 refine r_loadAll ty188 (by exact f6) (hS.get (mR (mR mL))) rfl rfl ?_
 refine r_storeAll (v := vA (enc8 .i64 a7)) (vs := (enc8 .i64 a7).toArray) (cs := (enc8 .i64 (fun _ => 0)).toArray) ty188 (by exact d2) rfl rfl hS rfl (enc8_one .i64 a7) rfl ?_
 intro a17 hS
 refine r_assign (vI 1) rfl rfl (reg_nil ?_)
 refine run_ret (vs := [vA (enc8 .i64 a7), vI 1]) Tryz.func224 ⟨⟨_, (by exact d2), run_loadAll ty188 (hS.get mL) rfl⟩, rfl, trivial⟩ ?_
 have hz := Option.some.inj e5
 subst hz
 exact ⟨_, _, rfl, hsub, (St.dropA (A := [(b1, cA (enc8 .i64 a7) 188)]) (St.dropA (A := [(b4, cA (enc8 .i64 a2) 188)]) (St.dropA (A := [(b7, cA (enc8 .i64 a7) 188)]) hS))), ⟨_, _, rfl, ⟨_, rfl, rfl⟩, rfl⟩⟩
def g_impl_isMonomial_j4 (K : Nat) (c7 : Int → Option (Ex Bool (Unit))) (a1 : A8) (a3 : Int) (a5 : Int) : Option (Ex Bool (Unit)) := (if a5 < (idx8 a1 a3) then some (.ret false) else c7 (a3 + 1))
def g_impl_isMonomial_l0 (K : Nat) (a0 : (List Int)) (a1 : A8) : Nat → Int → Option (Ex Bool (Unit))
 | 0, _ => none
 | k + 1, a3 => (if a3 < 8 then (if a3 < (a0.length : Int) then (if (((rd a0 a3)).tmod 2) = 1 then g_impl_isMonomial_j4 K (g_impl_isMonomial_l0 K a0 a1 k) a1 a3 1 else g_impl_isMonomial_j4 K (g_impl_isMonomial_l0 K a0 a1 k) a1 a3 20) else g_impl_isMonomial_j4 K (g_impl_isMonomial_l0 K a0 a1 k) a1 a3 0) else some (.go ()))
def g_impl_isMonomial (K : Nat) (a0 : (List Int)) (a1 : A8) : Option Bool := ((g_impl_isMonomial_l0 K a0 a1 K 0).bind (Ex.elim (fun r => some r) (fun s => some true)))
theorem g_impl_isMonomial_ok {K : Nat} {a0 : (List Int)} {a1 : A8} {r : Bool} (q0 : g_impl_isMonomial K a0 a1 = some r) {H : FH} {w : World} {L : OL} {s0 : Value} (a9 : RdSl (tyInt .i64) H s0 a0) (hS : St H w L) :
 Calls Tryz.prog 220 #[s0, vA (enc8 .u8 a1)] w (Done (fun v G => R.bool.p G v r) H L) := by
 have hsub := Sub.refl H
 refine calls_of_run Tryz.func220 rfl Tryz.ntmps220 rfl ?_
 unfold g_impl_isMonomial at q0
 refine run_seq (run_region ?_)
 refine r_box (v := vA (enc8 .u8 a1)) (enc8 .u8 a1).toArray rfl rfl hS rfl ?_
 intro b1 w2 hS
 refine r_assign (Value.bool false) rfl rfl (reg_nil (run_seq (run_seq (run_region ?_))))
 refine r_loadAll ty70 rfl (hS.get mL) rfl rfl (r_move (vI 0) rfl rfl (reg_nil (run_block ?_)))
 obtain ⟨b4, a4, b2⟩ := bind_some q0
 refine loop_ind (id := 0) (fun k f w => ∃ (a3 : Int) (H1 : FH), g_impl_isMonomial_l0 K a0 a1 k a3 = some b4 ∧ Sub H H1 ∧ St H1 w ([(b1, cA (enc8 .u8 a1) 70)] ++ L) ∧ 0 ≤ a3 ∧ RdSl (tyInt .i64) H1 s0 a0 ∧ ev f (.tmp 0) = s0 ∧ ev f (.tmp 8) = vA (enc8 .u8 a1) ∧ ev f (.tmp 9) = vI a3) (fun f w => ∃ (H1 : FH), b4 = .go () ∧ Sub H H1 ∧ St H1 w ([(b1, cA (enc8 .u8 a1) 70)] ++ L)) rfl ?_ ?_ K ?_ ?_
 rintro f w ⟨a3, H1, a4, _⟩
 rw [g_impl_isMonomial_l0] at a4; cases a4
 rintro k d5 d6 c8 c9 ⟨a3, b3, a4, hsub, hS, d0, a9, a7, a8, a6⟩
 rw [g_impl_isMonomial_l0] at a4
 refine run_seq (run_region ?_)
 refine r_lss (k := .i64) (a := a3) (b := 8) (by exact a6) rfl rfl (reg_nil (run_seq ?_))
 by_cases b5 : a3 < 8
 rw [if_pos b5] at a4
 refine run_cond_true (Eq.trans rfl (congrArg Value.bool (decide_eq_true b5))) (run_skip (run_seq (run_block (run_seq (run_region (r_move (vI a3) (by exact a6) rfl ?_))))))
 refine r_indexAr (Value.int .u8 (idx8 a1 a3)) ar70 (by exact a8) (by exact a6) (by omega) (by omega) (enc8_get (by omega) (by omega)) rfl (r_assign (vI a3) rfl rfl (r_assign (Value.int .u8 (idx8 a1 a3)) rfl rfl (reg_nil (run_seq (run_region (r_assign (Value.int .u8 0) rfl rfl (reg_nil (run_seq (run_seq (run_region (r_move (vI a3) rfl rfl (r_move (s0) (by exact a7) rfl ?_))))))))))))
 have e0 := a9.bound
 refine r_lenRd sl22 rfl a9 rfl ?_
 refine r_lss (k := .i64) (a := a3) (b := (a0.length : Int)) rfl rfl rfl (reg_nil ?_)
 refine run_cut (fun f w => ∃ (a5 : Int) (H1 : FH), g_impl_isMonomial_j4 K (g_impl_isMonomial_l0 K a0 a1 k) a1 a3 a5 = some b4 ∧ Sub H H1 ∧ St H1 w ([(b1, cA (enc8 .u8 a1) 70)] ++ L) ∧ RdSl (tyInt .i64) H1 s0 a0 ∧ ev f (.tmp 0) = s0 ∧ ev f (.tmp 6) = Value.int .u8 (idx8 a1 a3) ∧ ev f (.tmp 7) = Value.int .u8 a5 ∧ ev f (.tmp 8) = vA (enc8 .u8 a1) ∧ ev f (.tmp 9) = vI a3) ?_ ?_
 rintro e1 d4 ⟨a5, c6, b0, hsub, hS, a9, c0, c1, c2, c3, c4⟩
 unfold g_impl_isMonomial_j4 at b0
 refine run_seq (run_region (r_move (Value.int .u8 (idx8 a1 a3)) (by exact c1) rfl (r_move (Value.int .u8 a5) (by exact c2) rfl ?_)))
 refine r_gtr (k := .u8) (a := (idx8 a1 a3)) (b := a5) rfl rfl rfl (reg_nil ?_)
 by_cases b6 : a5 < (idx8 a1 a3)
 rw [if_pos b6] at b0
 refine run_cond_true (Eq.trans rfl (congrArg Value.bool (decide_eq_true b6))) (run_seq (run_region (r_assign (Value.bool false) rfl rfl (reg_nil ?_))))
 refine run_ret (vs := [Value.bool false]) Tryz.func220 ⟨rfl, trivial⟩ ?_
 have hz := Option.some.inj b0
 subst hz
 dsimp only [Ex.elim] at b2
 have hz := Option.some.inj b2
 subst hz
 exact ⟨_, _, rfl, hsub, (St.dropA (A := [(b1, cA (enc8 .u8 a1) 70)]) hS), rfl⟩
 rw [if_neg b6] at b0
 refine run_cond_false (Eq.trans rfl (congrArg Value.bool (decide_eq_false b6))) (run_skip (run_inBlock (run_region ?_)))
 refine r_add (a3 + 1) (by exact c4) rfl (IntWalk.i64_in _ (by omega)) rfl (r_move (vI (a3 + 1)) rfl rfl (reg_nil ?_))
 exact c8 _ _ ⟨(a3 + 1), c6, b0, hsub, hS, (by omega), a9, c0, c3, rfl⟩
 intro c5
 by_cases b7 : a3 < (a0.length : Int)
 rw [if_pos b7] at a4
 refine run_cond_true (Eq.trans rfl (congrArg Value.bool (decide_eq_true b7))) (run_seq (run_region (r_assign (Value.int .u8 20) rfl rfl (reg_nil (run_seq (run_region (r_move (s0) (by exact a7) rfl (r_move (vI a3) rfl rfl ?_))))))))
 obtain ⟨b8, o8, e2, E8, _, d1, d2, rfl, d3⟩ := a9.elem (i := a3) (by omega) (by omega)
 refine r_indexAt sl22 rfl rfl d1 rfl (by omega) (by omega) rfl ?_
 refine r_loadOne (vI (rd a0 a3)) ty2 rfl (hS.froz _ _ d2) (d3 0 (show 0 < 1 by decide)) rfl ?_
 refine r_rem (((rd a0 a3)).tmod 2) rfl rfl (by decide) rfl rfl ?_
 refine r_eql (k := .i64) (a := (((rd a0 a3)).tmod 2)) (b := 1) rfl rfl rfl (reg_nil ?_)
 by_cases b9 : (((rd a0 a3)).tmod 2) = 1
 rw [if_pos b9] at a4
 refine run_cond_true (Eq.trans rfl (congrArg Value.bool (decide_eq_true b9))) (run_region (r_assign (Value.int .u8 1) rfl rfl (reg_nil ?_)))
 exact c5 _ _ ⟨1, b3, a4, hsub, hS, a9, a7, rfl, rfl, a8, a6⟩
 rw [if_neg b9] at a4
 refine run_cond_false (Eq.trans rfl (congrArg Value.bool (decide_eq_false b9))) (run_skip ?_)
 exact c5 _ _ ⟨20, b3, a4, hsub, hS, a9, a7, rfl, rfl, a8, a6⟩
 rw [if_neg b7] at a4
 refine run_cond_false (Eq.trans rfl (congrArg Value.bool (decide_eq_false b7))) (run_skip ?_)
 exact c5 _ _ ⟨0, b3, a4, hsub, hS, a9, a7, rfl, rfl, a8, a6⟩
 rw [if_neg b5] at a4
 refine run_cond_false (Eq.trans rfl (congrArg Value.bool (decide_eq_false b5))) ?_
 refine run_exit rfl ?_
 have hz := Option.some.inj a4
 subst hz
 exact c9 _ _ ⟨b3, rfl, hsub, hS⟩
 exact ⟨0, H, a4, hsub, hS, (by omega), a9, rfl, rfl, rfl⟩
 rintro d7 d8 ⟨d9, rfl, hsub, hS⟩
 dsimp only [Ex.elim] at b2
 refine run_seq (run_region (r_assign (Value.bool true) rfl rfl (reg_nil ?_)))
 refine run_ret (vs := [Value.bool true]) Tryz.func220 ⟨rfl, trivial⟩ ?_
 have hz := Option.some.inj b2
 subst hz
 exact ⟨_, _, rfl, hsub, (St.dropA (A := [(b1, cA (enc8 .u8 a1) 70)]) hS), rfl⟩
def g_laws_toMonomial_l0 (K : Nat) (a0 : A8) : Nat → Int → A8 → Option (Ex A8 (A8))
 | 0, _, _ => none
 | k + 1, a3, a4 => (if a3 < 8 then g_laws_toMonomial_l0 K a0 k (a3 + 1) (upd8 a4 a3 (idx8 a0 a3)) else some (.go a4))
def g_laws_toMonomial (K : Nat) (a0 : A8) : Option A8 := ((g_laws_toMonomial_l0 K a0 K 0 (fun _ => 0)).bind (Ex.elim (fun r => some r) (fun s => (fun (a1 : A8) => some a1) s)))
theorem g_laws_toMonomial_ok {K : Nat} {a0 : A8} {r : A8} (q0 : g_laws_toMonomial K a0 = some r) {H : FH} {w : World} {L : OL} (hS : St H w L) :
 Calls Tryz.prog 267 #[vA (enc8 .u8 a0)] w (Done (fun v G => (R.agg (tyA8 .u8)).p G v r) H L) := by
 have hsub := Sub.refl H
 refine calls_of_run Tryz.func267 rfl Tryz.ntmps267 rfl ?_
 unfold g_laws_toMonomial at q0
 refine run_seq (run_region ?_)
 refine r_box (v := vA (enc8 .u8 a0)) (enc8 .u8 a0).toArray rfl rfl hS rfl ?_
 intro b1 w2 hS
 refine r_alloc (z := vA (enc8 .u8 (fun _ => 0))) (enc8 .u8 (fun _ => 0)).toArray ze70.zero rfl hS rfl ?_
 intro b4 w5 hS
 refine reg_nil (run_seq (run_region ?_))
 refine r_alloc (z := vA (enc8 .u8 (fun _ => 0))) (enc8 .u8 (fun _ => 0)).toArray ze70.zero rfl hS rfl ?_
 intro b7 w8 hS
 refine reg_nil (run_seq (run_seq (run_region (r_assign (vI 0) rfl rfl (reg_nil (run_block ?_))))))
 obtain ⟨b5, a5, b6⟩ := bind_some q0
 refine loop_ind (id := 0) (fun k f w => ∃ (a3 : Int) (a4 : A8) (H1 : FH), g_laws_toMonomial_l0 K a0 k a3 a4 = some b5 ∧ Sub H H1 ∧ St H1 w ([(b7, cA (enc8 .u8 a4) 70)] ++ ([(b4, cA (enc8 .u8 (fun _ => 0)) 70)] ++ ([(b1, cA (enc8 .u8 a0) 69)] ++ L))) ∧ 0 ≤ a3 ∧ ev f (.tmp 1) = vP b1 ∧ ev f (.tmp 2) = vP b4 ∧ ev f (.tmp 3) = vP b7 ∧ ev f (.tmp 4) = vI a3) (fun f w => ∃ (a1 : A8) (H1 : FH), b5 = .go a1 ∧ Sub H H1 ∧ St H1 w ([(b7, cA (enc8 .u8 a1) 70)] ++ ([(b4, cA (enc8 .u8 (fun _ => 0)) 70)] ++ ([(b1, cA (enc8 .u8 a0) 69)] ++ L))) ∧ ev f (.tmp 2) = vP b4 ∧ ev f (.tmp 3) = vP b7) rfl ?_ ?_ K ?_ ?_
 rintro f w ⟨a3, a4, H1, a5, _⟩
 rw [g_laws_toMonomial_l0] at a5; cases a5
 rintro k c5 c6 c1 c2 ⟨a3, a4, b8, a5, hsub, hS, c3, a8, a9, a7, a6⟩
 rw [g_laws_toMonomial_l0] at a5
 refine run_seq (run_seq (run_region (r_move (vI a3) (by exact a6) rfl ?_)))
 refine r_lss (k := .i64) (a := a3) (b := 8) rfl rfl rfl (reg_nil ?_)
 by_cases b2 : a3 < 8
 rw [if_pos b2] at a5
 refine run_cond_true (Eq.trans rfl (congrArg Value.bool (decide_eq_true b2))) (run_skip (run_seq (run_block (run_region (r_move (vI a3) (by exact a6) rfl (r_move (vI a3) (by exact a6) rfl ?_))))))
 refine r_indexArP ar69 (by exact a8) rfl (by omega) (by omega) rfl ?_
 refine r_loadOne (Value.int .u8 (idx8 a0 a3)) ty5 rfl (hS.get (o := cA (enc8 .u8 a0) 69) (mR (mR mL))) (box_ix ([]) ([]) (by omega) (by omega)) rfl ?_
 refine r_indexArP ar70 (by exact a7) rfl (by omega) (by omega) rfl ?_
 refine r_store (v := Value.int .u8 (idx8 a0 a3)) (cs := (enc8 .u8 a4).toArray) (cs' := (enc8 .u8 (upd8 a4 a3 (idx8 a0 a3))).toArray) ty5 rfl rfl hS rfl (oneL rfl) (by simp [enc8, encV]; omega) (enc8_set (by omega) (by omega)) ?_
 intro c8 hS
 refine reg_nil (run_inBlock (run_region (r_move (vI a3) (by exact a6) rfl ?_)))
 refine r_add (a3 + 1) rfl rfl (IntWalk.i64_in _ (by omega)) rfl (r_assign (vI (a3 + 1)) rfl rfl (reg_nil ?_))
 exact c1 _ _ ⟨(a3 + 1), (upd8 a4 a3 (idx8 a0 a3)), b8, a5, hsub, hS, (by omega), a8, a9, a7, rfl⟩
 rw [if_neg b2] at a5
 refine run_cond_false (Eq.trans rfl (congrArg Value.bool (decide_eq_false b2))) ?_
 refine run_exit rfl ?_
 have hz := Option.some.inj a5
 subst hz
 exact c2 _ _ ⟨a4, b8, rfl, hsub, hS, a9, a7⟩
 exact ⟨0, (fun _ => 0), H, a5, hsub, hS, (by omega), rfl, rfl, rfl, rfl⟩
 rintro c7 c0 ⟨a1, b9, rfl, hsub, hS, b0, b3⟩
 dsimp only [Ex.elim] at b6
 refine run_seq (run_region ?_)
 refine r_loadAll ty70 (by exact b3) (hS.get mL) rfl rfl ?_
 have hS : St b9 c0 ([(b4, cA (enc8 .u8 (fun _ => 0)) 70)] ++ ([(b7, cA (enc8 .u8 a1) 70)] ++ ([(b1, cA (enc8 .u8 a0) 69)] ++ L))) := hS.perm (perm1 (A1 := [(b7, cA (enc8 .u8 a1) 70)]))
 refine r_storeAll (v := vA (enc8 .u8 a1)) (vs := (enc8 .u8 a1).toArray) (cs := (enc8 .u8 (fun _ => 0)).toArray) ty70 (by exact b0) rfl rfl hS rfl (enc8_one .u8 a1) rfl ?_
 intro c4 hS
 have hS : St b9 c4 ([(b7, cA (enc8 .u8 a1) 70)] ++ ([(b4, cA (enc8 .u8 a1) 70)] ++ ([(b1, cA (enc8 .u8 a0) 69)] ++ L))) := hS.perm (perm1 (A1 := [(b7, cA (enc8 .u8 a1) 70)])).symm
 refine reg_nil ?_
 refine run_ret (vs := [vA (enc8 .u8 a1)]) Tryz.func267 ⟨⟨_, (by exact b0), run_loadAll ty70 (hS.get (mR mL)) rfl⟩, trivial⟩ ?_
 have hz := Option.some.inj b6
 subst hz
 exact ⟨_, _, rfl, hsub, (St.dropA (A := [(b1, cA (enc8 .u8 a0) 69)]) (St.dropA (A := [(b4, cA (enc8 .u8 a1) 70)]) (St.dropA (A := [(b7, cA (enc8 .u8 a1) 70)]) hS))), ⟨_, rfl, rfl⟩⟩
def g_slices_IndexFunc_Simpl_Form_impl_Form_l0 (K : Nat) (a0 : (List MpT)) (a1 : (MpT → Option Bool)) : Nat → Int → Option (Ex Int (Unit))
 | 0, _ => none
 | k + 1, a3 => (if a3 < (a0.length : Int) then ((a1 (rd a0 a3)).bind fun r4 => (if r4 = true then some (.ret a3) else g_slices_IndexFunc_Simpl_Form_impl_Form_l0 K a0 a1 k (a3 + 1))) else some (.go ()))
def g_slices_IndexFunc_Simpl_Form_impl_Form (K : Nat) (a0 : (List MpT)) (a1 : (MpT → Option Bool)) : Option Int := ((g_slices_IndexFunc_Simpl_Form_impl_Form_l0 K a0 a1 K 0).bind (Ex.elim (fun r => some r) (fun s => some (-1))))
theorem g_slices_IndexFunc_Simpl_Form_impl_Form_ok {K : Nat} {a0 : (List MpT)} {a1 : (MpT → Option Bool)} {r : Int} (q0 : g_slices_IndexFunc_Simpl_Form_impl_Form K a0 a1 = some r) {H : FH} {w : World} {L : OL} {s0 : Value} {s1 : Value} (a6 : RdSl (tySl yT) H s0 a0) (a7 : FnQ Tryz.prog s1 (R.agg (tySl yT)) a1 H) (hS : St H w L) :
 Calls Tryz.prog 222 #[s0, s1] w (Done (fun v G => (R.int .i64).p G v r) H L) := by
 have hsub := Sub.refl H
 refine calls_of_run Tryz.func222 rfl Tryz.ntmps222 rfl ?_
 unfold g_slices_IndexFunc_Simpl_Form_impl_Form at q0
 refine run_seq (run_region (r_assign (vI 0) rfl rfl (reg_nil (run_seq (run_seq (run_region (r_move (s0) rfl rfl ?_)))))))
 have d2 := a6.bound
 refine r_lenRd sl27 rfl a6 rfl (r_move (vI 0) rfl rfl (reg_nil (run_block ?_)))
 obtain ⟨b5, a4, b1⟩ := bind_some q0
 refine loop_ind (id := 0) (fun k f w => ∃ (a3 : Int) (H1 : FH), g_slices_IndexFunc_Simpl_Form_impl_Form_l0 K a0 a1 k a3 = some b5 ∧ Sub H H1 ∧ St H1 w (L) ∧ 0 ≤ a3 ∧ RdSl (tySl yT) H1 s0 a0 ∧ FnQ Tryz.prog s1 (R.agg (tySl yT)) a1 H1 ∧ ev f (.tmp 0) = s0 ∧ ev f (.tmp 1) = s1 ∧ ev f (.tmp 7) = vI (a0.length : Int) ∧ ev f (.tmp 8) = vI a3) (fun f w => ∃ (H1 : FH), b5 = .go () ∧ Sub H H1 ∧ St H1 w (L)) rfl ?_ ?_ K ?_ ?_
 rintro f w ⟨a3, H1, a4, _⟩
 rw [g_slices_IndexFunc_Simpl_Form_impl_Form_l0] at a4; cases a4
 rintro k c7 c8 c0 c1 ⟨a3, b8, a4, hsub, hS, c2, a6, a7, a8, a9, b0, a5⟩
 rw [g_slices_IndexFunc_Simpl_Form_impl_Form_l0] at a4
 refine run_seq (run_region ?_)
 refine r_lss (k := .i64) (a := a3) (b := (a0.length : Int)) (by exact a5) (by exact b0) rfl (reg_nil (run_seq ?_))
 by_cases b2 : a3 < (a0.length : Int)
 rw [if_pos b2] at a4
 refine run_cond_true (Eq.trans rfl (congrArg Value.bool (decide_eq_true b2))) (run_skip (run_seq (run_block (run_seq (run_region (r_move (vI a3) (by exact a5) rfl (r_assign (vI a3) rfl rfl (reg_nil (run_seq (run_region (r_move (s1) (by exact a9) rfl (r_move (s0) (by exact a8) rfl (r_move (vI a3) rfl rfl ?_)))))))))))))
 obtain ⟨b3, o3, d3, E3, _, c3, c4, ⟨b9, rfl, b7⟩, c5⟩ := a6.elem (i := a3) (by omega) (by omega)
 refine r_indexAt sl27 rfl rfl c3 rfl (by omega) (by omega) rfl ?_
 refine r_loadAgg ([b9]) ty47 rfl (hS.froz _ _ c4) rfl c5 rfl ?_
 obtain ⟨r4, c6, a4⟩ := bind_some a4
 refine r_callQ a7 rfl rfl hS ⟨_, rfl, ⟨_, rfl, b7⟩⟩ c6 rfl ?_
 intro H4 w5 b6 hS
 have hsub := hsub.trans b6
 have a6 := a6.mono b6
 have a7 := a7.mono b6
 refine reg_nil ?_
 by_cases b4 : r4 = true
 rw [if_pos b4] at a4
 refine run_cond_true (Eq.trans rfl (congrArg Value.bool b4)) (run_seq (run_region (r_move (vI a3) rfl rfl (r_assign (vI a3) rfl rfl (reg_nil ?_)))))
 refine run_ret (vs := [vI a3]) Tryz.func222 ⟨rfl, trivial⟩ ?_
 have hz := Option.some.inj a4
 subst hz
 dsimp only [Ex.elim] at b1
 have hz := Option.some.inj b1
 subst hz
 exact ⟨_, _, rfl, hsub, hS, rfl⟩
 rw [if_neg b4] at a4
 refine run_cond_false (Eq.trans rfl (congrArg Value.bool (bfalse b4))) (run_skip (run_inBlock (run_region ?_)))
 refine r_add (a3 + 1) (by exact a5) rfl (IntWalk.i64_in _ (by omega)) rfl (r_move (vI (a3 + 1)) rfl rfl (reg_nil ?_))
 exact c0 _ _ ⟨(a3 + 1), H4, a4, hsub, hS, (by omega), a6, a7, a8, a9, b0, rfl⟩
 rw [if_neg b2] at a4
 refine run_cond_false (Eq.trans rfl (congrArg Value.bool (decide_eq_false b2))) ?_
 refine run_exit rfl ?_
 have hz := Option.some.inj a4
 subst hz
 exact c1 _ _ ⟨b8, rfl, hsub, hS⟩
 exact ⟨0, H, a4, hsub, hS, (by omega), a6, a7, rfl, rfl, rfl, rfl⟩
 rintro c9 d0 ⟨d1, rfl, hsub, hS⟩
 dsimp only [Ex.elim] at b1
 refine run_seq (run_region (r_assign (vI (-1)) rfl rfl (reg_nil ?_)))
 refine run_ret (vs := [vI (-1)]) Tryz.func222 ⟨rfl, trivial⟩ ?_
 have hz := Option.some.inj b1
 subst hz
 exact ⟨_, _, rfl, hsub, hS, rfl⟩
def g_impl_generator (K : Nat) (a0 : Int) : Option A8 := (if 0 ≤ a0 then (if a0 < 8 then some (upd8 (fun _ => 0) a0 1) else none) else none)
theorem g_impl_generator_ok {K : Nat} {a0 : Int} {r : A8} (q0 : g_impl_generator K a0 = some r) {H : FH} {w : World} {L : OL} (hS : St H w L) :
 Calls Tryz.prog 151 #[vI a0] w (Done (fun v G => (R.agg (tyA8 .i64)).p G v r) H L) := by
 have hsub := Sub.refl H
 refine calls_of_run Tryz.func151 rfl Tryz.ntmps151 rfl ?_
 unfold g_impl_generator at q0
 refine run_seq (run_region ?_)
 refine r_alloc (z := vA (enc8 .i64 (fun _ => 0))) (enc8 .i64 (fun _ => 0)).toArray ze188.zero rfl hS rfl ?_
 intro b1 w2 hS
 refine reg_nil (run_seq (run_region ?_))
 refine r_build0 (vA (enc8 .i64 (fun _ => 0))) bz188 rfl ?_
 refine r_alloc (z := vA (enc8 .i64 (fun _ => 0))) (enc8 .i64 (fun _ => 0)).toArray ze188.zero rfl hS rfl ?_
 intro b4 w5 hS
 refine r_storeAll (v := vA (enc8 .i64 (fun _ => 0))) (vs := (enc8 .i64 (fun _ => 0)).toArray) (cs := (enc8 .i64 (fun _ => 0)).toArray) ty188 rfl rfl rfl hS rfl (enc8_one .i64 (fun _ => 0)) rfl ?_
 intro w7 hS
 refine reg_nil (run_seq (run_region (r_move (vI a0) rfl rfl ?_)))
 obtain ⟨a4, q0⟩ := gd q0
 obtain ⟨a5, q0⟩ := gd q0
 refine r_indexArP ar188 rfl rfl (by omega) (by omega) rfl ?_
 refine r_store (v := vI 1) (cs := (enc8 .i64 (fun _ => 0)).toArray) (cs' := (enc8 .i64 (upd8 (fun _ => 0) a0 1)).toArray) ty3 rfl rfl hS rfl (oneL rfl) (by simp [enc8, encV]; omega) (enc8_set (by omega) (by omega)) ?_
 intro a1 hS
 refine reg_nil (run_seq (run_region ?_))
 refine r_loadAll ty188 rfl (hS.get mL) rfl rfl ?_
 have hS : St H a1 ([(b1, cA (enc8 .i64 (fun _ => 0)) 188)] ++ ([(b4, cA (enc8 .i64 (upd8 (fun _ => 0) a0 1)) 188)] ++ L)) := hS.perm (perm1 (A1 := [(b4, cA (enc8 .i64 (upd8 (fun _ => 0) a0 1)) 188)]))
 refine r_storeAll (v := vA (enc8 .i64 (upd8 (fun _ => 0) a0 1))) (vs := (enc8 .i64 (upd8 (fun _ => 0) a0 1)).toArray) (cs := (enc8 .i64 (fun _ => 0)).toArray) ty188 rfl rfl rfl hS rfl (enc8_one .i64 (upd8 (fun _ => 0) a0 1)) rfl ?_
 intro a3 hS
 have hS : St H a3 ([(b4, cA (enc8 .i64 (upd8 (fun _ => 0) a0 1)) 188)] ++ ([(b1, cA (enc8 .i64 (upd8 (fun _ => 0) a0 1)) 188)] ++ L)) := hS.perm (perm1 (A1 := [(b4, cA (enc8 .i64 (upd8 (fun _ => 0) a0 1)) 188)])).symm
 refine reg_nil ?_
 refine run_ret (vs := [vA (enc8 .i64 (upd8 (fun _ => 0) a0 1))]) Tryz.func151 ⟨⟨_, rfl, run_loadAll ty188 (hS.get (mR mL)) rfl⟩, trivial⟩ ?_
 have hz := Option.some.inj q0
 subst hz
 exact ⟨_, _, rfl, hsub, (St.dropA (A := [(b1, cA (enc8 .i64 (upd8 (fun _ => 0) a0 1)) 188)]) (St.dropA (A := [(b4, cA (enc8 .i64 (upd8 (fun _ => 0) a0 1)) 188)]) hS)), ⟨_, rfl, rfl⟩⟩
def g_impl_within (K : Nat) (a0 : Int) (a1 : Int) (a2 : Int) : Option Bool := (if a1 ≤ a0 then some (decide (a0 ≤ a2)) else some false)
theorem g_impl_within_ok {K : Nat} {a0 : Int} {a1 : Int} {a2 : Int} {r : Bool} (q0 : g_impl_within K a0 a1 a2 = some r) {H : FH} {w : World} {L : OL} (hS : St H w L) :
 Calls Tryz.prog 97 #[vI a0, vI a1, vI a2] w (Done (fun v G => R.bool.p G v r) H L) := by
 have hsub := Sub.refl H
 refine calls_of_run Tryz.func97 rfl Tryz.ntmps97 rfl ?_
 unfold g_impl_within at q0
 refine run_seq (run_region (r_assign (Value.bool false) rfl rfl (reg_nil (run_seq (run_region (r_move (vI a0) rfl rfl (r_move (vI a1) rfl rfl ?_)))))))
 refine r_geq (k := .i64) (a := a0) (b := a1) rfl rfl rfl (r_move (Value.bool (decide (a1 ≤ a0))) rfl rfl ?_)
 by_cases a3 : a1 ≤ a0
 rw [if_pos a3] at q0
 refine reg_guard rfl rfl (Eq.trans rfl (congrArg Value.bool (decide_eq_true a3))) (r_move (vI a0) rfl rfl ?_)
 refine reg_guard rfl rfl (Eq.trans rfl (congrArg Value.bool (decide_eq_true a3))) (r_move (vI a2) rfl rfl ?_)
 refine reg_guard rfl rfl (Eq.trans rfl (congrArg Value.bool (decide_eq_true a3))) ?_
 refine r_leq (k := .i64) (a := a0) (b := a2) rfl rfl rfl ?_
 refine r_pick (t := true) (Value.bool (decide (a0 ≤ a2))) (Eq.trans rfl (congrArg Value.bool (decide_eq_true a3))) ((if_pos rfl).trans rfl) rfl (r_assign (Value.bool (decide (a0 ≤ a2))) rfl rfl (reg_nil ?_))
 refine run_ret (vs := [Value.bool (decide (a0 ≤ a2))]) Tryz.func97 ⟨rfl, trivial⟩ ?_
 have hz := Option.some.inj q0
 subst hz
 exact ⟨_, _, rfl, hsub, hS, rfl⟩
 rw [if_neg a3] at q0
 refine reg_unguard rfl rfl (Eq.trans rfl (congrArg Value.bool (decide_eq_false a3))) rfl rfl rfl (reg_unguard rfl rfl (Eq.trans rfl (congrArg Value.bool (decide_eq_false a3))) rfl rfl rfl (reg_unguard rfl rfl (Eq.trans rfl (congrArg Value.bool (decide_eq_false a3))) rfl rfl rfl ?_))
 refine r_pick (t := false) (Value.bool false) (Eq.trans rfl (congrArg Value.bool (decide_eq_false a3))) ((if_neg Bool.false_ne_true).trans rfl) rfl (r_assign (Value.bool false) rfl rfl (reg_nil ?_))
 refine run_ret (vs := [Value.bool false]) Tryz.func97 ⟨rfl, trivial⟩ ?_
 have hz := Option.some.inj q0
 subst hz
 exact ⟨_, _, rfl, hsub, hS, rfl⟩
def g_impl_when (K : Nat) (a0 : Bool) (a1 : Int) : Option Int := (if a0 = true then some a1 else some 0)
theorem g_impl_when_ok {K : Nat} {a0 : Bool} {a1 : Int} {r : Int} (q0 : g_impl_when K a0 a1 = some r) {H : FH} {w : World} {L : OL} (hS : St H w L) :
 Calls Tryz.prog 86 #[Value.bool a0, vI a1] w (Done (fun v G => (R.int .i64).p G v r) H L) := by
 have hsub := Sub.refl H
 refine calls_of_run Tryz.func86 rfl Tryz.ntmps86 rfl ?_
 unfold g_impl_when at q0
 refine run_seq (run_region (r_assign (vI 0) rfl rfl (reg_nil (run_seq (run_seq (run_region (r_move (Value.bool a0) rfl rfl (reg_nil ?_))))))))
 by_cases a3 : a0 = true
 rw [if_pos a3] at q0
 refine run_cond_true (Eq.trans rfl (congrArg Value.bool a3)) (run_seq (run_region (r_move (vI a1) rfl rfl (r_assign (vI a1) rfl rfl (reg_nil ?_)))))
 refine run_ret (vs := [vI a1]) Tryz.func86 ⟨rfl, trivial⟩ ?_
 have hz := Option.some.inj q0
 subst hz
 exact ⟨_, _, rfl, hsub, hS, rfl⟩
 rw [if_neg a3] at q0
 refine run_cond_false (Eq.trans rfl (congrArg Value.bool (bfalse a3))) (run_skip (run_seq (run_region (r_assign (vI 0) rfl rfl (reg_nil ?_)))))
 refine run_ret (vs := [vI 0]) Tryz.func86 ⟨rfl, trivial⟩ ?_
 have hz := Option.some.inj q0
 subst hz
 exact ⟨_, _, rfl, hsub, hS, rfl⟩
def g_impl_number (K : Nat) : Option MpT := some (mput ([] : MpT) (fun _ => 0) 1)
theorem g_impl_number_ok {K : Nat} {r : MpT} (q0 : g_impl_number K = some r) {H : FH} {w : World} {L : OL} (hS : St H w L) :
 Calls Tryz.prog 207 #[] w (DoneM .i64 r H L) := by
 have hsub := Sub.refl H
 refine calls_of_run Tryz.func207 rfl Tryz.ntmps207 rfl ?_
 unfold g_impl_number at q0
 refine run_seq (run_region (r_assign (Value.map none) rfl rfl (reg_nil (run_seq (run_region ?_)))))
 refine r_makeMap (k := .i64) hS rfl ?_
 intro m1 w2 C3 a0 hS
 refine r_build0 (vA (enc8 .i64 (fun _ => 0))) bz188 rfl ?_
 refine r_insert (a := (fun _ => 0)) (m := 1) mp109 rfl rfl rfl a0 hS ?_
 intro w6 C7 a1 hS
 refine r_move (m1) rfl rfl (r_assign (m1) rfl rfl (reg_nil ?_))
 refine run_ret (vs := [m1]) Tryz.func207 ⟨rfl, trivial⟩ ?_
 have hz := Option.some.inj q0
 subst hz
 exact ⟨_, _, _, rfl, hsub, hS, a1⟩
end Go.Proofs.YtfodlhkoafhplaaGreat
